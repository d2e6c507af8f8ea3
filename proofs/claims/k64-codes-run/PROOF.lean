import PyProof.Rows.All
import Wide.All
import OpenK.AllK
import Wide.FinOn
import HandS.ForSpec
import HandS.ForMost
import HandS.IsInst
import HandS.Wide
import HandS.EndBits
import HandS.TupAny
import HandS.Flow
import HandS.Style
import HandS.Deep
import HandS.Rev
import HandS.TupMul
import HandS.Iter
import HandS.ForExc
import HandS.RaiseMore
import HandS.ExcIs
import HandS.Dict
import HandS.More
import HandS.Conv
import PySem.Challenge.RW_takeleave_k64_codes_run
set_option Elab.async false
set_option linter.all false
set_option maxRecDepth 100000
set_option maxHeartbeats 4000000
set_option autoImplicit false
/-! DL1: data as trees over a small store of the lists and dicts that change; results; the relation with the heap. -/
namespace DL
open PySem L2

inductive D where
  | non | bl (b : Bool) | int (i : Int) | str (x : Str) | tup (xs : List D) | lst (xs : List D) | fl (xs : List D) | ref (n : Nat) | fn (x : Str)
inductive MO where
  | lst (xs : List D) | dct (kvs : List (Key × D))
abbrev Sto := List MO
/-- where the stored things stand; x: lists in the making, that no value may name -/
structure Mu where
  v : List Addr
  x : List Addr
structure Exc where
  cls : Str
  fs : List (Str × D)
inductive R (α : Type) where
  | ok (a : α) (S : Sto) | ex (e : Exc) (S : Sto) | bad
abbrev M (α : Type) := Sto → R α
def ret {α : Type} (a : α) : M α := fun S => .ok a S
def stuck {α : Type} : M α := fun _ => .bad
def raiz {α : Type} (e : Exc) : M α := fun S => .ex e S
def bnd {α β : Type} (m : M α) (k : α → M β) : M β := fun S => match m S with
  | .ok a S' => k a S'
  | .ex e S' => .ex e S'
  | .bad => .bad
abbrev Rho := List (Option D)

mutual
inductive RD (K : PySem.W.Frag) (μ : Mu) (H : Hp) : D → V → Prop
  | non : RD K μ H .non .non
  | bl (b : Bool) : RD K μ H (.bl b) (.bl b)
  | int (i : Int) : RD K μ H (.int i) (.int i)
  | str (x : Str) : RD K μ H (.str x) (.str x)
  | tup {a : Addr} {vs : List V} {ds : List D} : SqT K H a vs → RDs K μ H ds vs → RD K μ H (.tup ds) (.ref a)
  | fl {a : Addr} {vs : List V} {ds : List D} : ((∃ o, H a = some (.frz o (.lst vs))) ∨ (∃ (o : Obj) (its : Array Value) (n : Nat), K.lookup a = some o ∧ o.cls = .type "list" ∧ o.dict = none ∧ o.data = .seq its n ∧ its.size ≤ sizeLine ∧ Vals vs its.toList)) →
      RDs K μ H ds vs → RD K μ H (.fl ds) (.ref a)
  | lst {a : Addr} {vs : List V} {ds : List D} : H a = some (.lst vs) → (a ∉ μ.v ∧ a ∉ μ.x) → RDs K μ H ds vs → RD K μ H (.lst ds) (.ref a)
  | ref {n : Nat} {a : Addr} : μ.v[n]? = some a → RD K μ H (.ref n) (.ref a)
  | fn {x : Str} {a : Addr} : PySem.W.nsIn K mainGlobals x = some (some (.ref a)) → RD K μ H (.fn x) (.ref a)
inductive RDs (K : PySem.W.Frag) (μ : Mu) (H : Hp) : List D → List V → Prop
  | nil : RDs K μ H [] []
  | cons {d : D} {ds : List D} {v : V} {vs : List V} : RD K μ H d v → RDs K μ H ds vs → RDs K μ H (d :: ds) (v :: vs)
end

def RKs (K : PySem.W.Frag) (μ : Mu) (H : Hp) : List (Key × D) → List (Key × V) → Prop := Paired fun p q => p.1 = q.1 ∧ RD K μ H p.2 q.2
def RFs (K : PySem.W.Frag) (μ : Mu) (H : Hp) : List (Str × D) → List (Str × V) → Prop := Paired fun p q => p.1 = q.1 ∧ RD K μ H p.2 q.2
def RM (K : PySem.W.Frag) (μ : Mu) (H : Hp) (a : Addr) : MO → Prop
  | .lst ds => ∃ vs, H a = some (.lst vs) ∧ RDs K μ H ds vs
  | .dct kvs => ∃ ws, H a = some (.dK ws) ∧ RKs K μ H kvs ws
def RX (K : PySem.W.Frag) (mg : Str → Option Value) (μ : Mu) (H : Hp) (e : Exc) (c : Value) (od : Option Addr) : Prop :=
  (∃ C, mg e.cls = some (.ref C) ∧ c = .ref C) ∧ match od with
    | none => e.fs = []
    | some d => e.fs ≠ [] ∧ ∃ fs, H d = some (.xd fs) ∧ RFs K μ H e.fs fs

structure Rel (K : PySem.W.Frag) (μ : Mu) (S : Sto) (H : Hp) : Prop where
  len : μ.v.length = S.length
  nd : μ.v.Nodup
  obj : ∀ (i : Nat) (a : Addr) (m : MO), μ.v[i]? = some a → S[i]? = some m → RM K μ H a m
  hid : ∀ a ∈ μ.x, H a ≠ none
  apt : ∀ a ∈ μ.v, a ∉ μ.x
structure Stp (μ : Mu) (H : Hp) (μ' : Mu) (H' : Hp) : Prop where
  pre : ∃ ν, μ' = ⟨μ.v ++ ν, μ.x⟩ ∧ ∀ p ∈ ν, H p = none
  keep : ∀ a u, H a = some u → a ∉ μ.v → H' a = some u
  thr : ∀ a, H a ≠ none → H' a ≠ none

theorem Stp.refl {μ : Mu} {H : Hp} : Stp μ H μ H := ⟨⟨[], by simp, by simp⟩, fun _ _ h _ => h, fun _ h => h⟩
theorem Stp.trans {μ μ1 μ2 : Mu} {H H1 H2 : Hp} (a : Stp μ H μ1 H1) (b : Stp μ1 H1 μ2 H2) : Stp μ H μ2 H2 := by
  obtain ⟨⟨ν1, rfl, f1⟩, k1, t1⟩ := a
  obtain ⟨⟨ν2, rfl, f2⟩, k2, t2⟩ := b
  refine ⟨⟨ν1 ++ ν2, by simp, fun p hp => ?_⟩, fun x u h hx => ?_, fun x h => t2 x (t1 x h)⟩
  · rcases List.mem_append.mp hp with q | q
    · exact f1 p q
    · by_cases h : H p = none
      · exact h
      · exact absurd (f2 p q) (t1 p h)
  · refine k2 x u (k1 x u h hx) fun q => ?_
    rcases List.mem_append.mp q with q | q
    · exact hx q
    · rw [f1 x q] at h; cases h
/-- a new object -/
theorem Stp.new {μ : Mu} {H : Hp} {p : Addr} {o : HO} (h : H p = none) : Stp μ H μ (upd H p o) :=
  ⟨⟨[], by simp, by simp⟩, fun a u e _ => by rw [upd_ne (ne_of_none e h)]; exact e, fun a e => by
    by_cases z : a = p
    · subst z; rw [upd_same]; simp
    · rw [upd_ne z]; exact e⟩
/-- a stored object changes -/
theorem Stp.put {μ : Mu} {H : Hp} {p : Addr} {o : HO} (h : p ∈ μ.v) : Stp μ H μ (upd H p o) :=
  ⟨⟨[], by simp, by simp⟩, fun a u e z => by rw [upd_ne (fun q => z (by rw [q]; exact h))]; exact e, fun a e => by
    by_cases z : a = p
    · subst z; rw [upd_same]; simp
    · rw [upd_ne z]; exact e⟩
def Mu.push (μ : Mu) (p : Addr) : Mu := ⟨μ.v ++ [p], μ.x⟩
def Mu.cut (μ : Mu) (n : Nat) : Mu := ⟨μ.v.take n, μ.x⟩
theorem Stp.push {μ μ' : Mu} {H H' : Hp} {p : Addr} (s : Stp μ H μ' H') (h : H p = none) : Stp μ H (μ'.push p) H' := by
  obtain ⟨⟨ν, rfl, f⟩, k, t⟩ := s
  refine ⟨⟨ν ++ [p], by simp [Mu.push], fun q hq => ?_⟩, k, t⟩
  rcases List.mem_append.mp hq with z | z
  · exact f q z
  · simp at z; rw [z]; exact h
theorem Stp.get {μ μ' : Mu} {H H' : Hp} (s : Stp μ H μ' H') {i : Nat} {a : Addr} (h : μ.v[i]? = some a) : μ'.v[i]? = some a := by
  obtain ⟨⟨ν, rfl, f⟩, k, t⟩ := s
  rw [List.getElem?_append_left (List.getElem?_eq_some_iff.mp h).1]; exact h
theorem Stp.out {μ μ' : Mu} {H H' : Hp} (s : Stp μ H μ' H') {a : Addr} {u : HO} (h : H a = some u) (h0 : a ∉ μ.v ∧ a ∉ μ.x) : a ∉ μ'.v ∧ a ∉ μ'.x := by
  obtain ⟨⟨ν, rfl, f⟩, k, t⟩ := s
  refine ⟨fun z => ?_, h0.2⟩
  rcases List.mem_append.mp z with z | z
  · exact h0.1 z
  · rw [f a z] at h; cases h
theorem Stp.x {μ μ' : Mu} {H H' : Hp} (s : Stp μ H μ' H') : μ'.x = μ.x := by
  obtain ⟨⟨ν, rfl, f⟩, k, t⟩ := s; rfl
/-- a new object, taken into the store -/
theorem Stp.alloc {μ : Mu} {H : Hp} {p : Addr} {o : HO} (h : H p = none) : Stp μ H (μ.push p) (upd H p o) := Stp.push (Stp.new h) h

section
variable {K : PySem.W.Frag} {μ μ' : Mu} {S : Sto} {H H' : Hp}
theorem Rel.mem (r : Rel K μ S H) {a : Addr} (h : a ∈ μ.v) : ∃ (i : Nat) (m : MO), μ.v[i]? = some a ∧ S[i]? = some m ∧ RM K μ H a m := by
  obtain ⟨i, hi⟩ := List.mem_iff_getElem?.mp h
  have hl := (List.getElem?_eq_some_iff.mp hi).1
  rw [r.len] at hl
  exact ⟨i, S[i], hi, List.getElem?_eq_getElem hl, r.obj i a _ hi (List.getElem?_eq_getElem hl)⟩
theorem Rel.kind (r : Rel K μ S H) {a : Addr} (h : a ∈ μ.v) : (∃ vs, H a = some (.lst vs)) ∨ ∃ ws, H a = some (.dK ws) := by
  obtain ⟨i, m, _, _, q⟩ := r.mem h
  cases m with
  | lst ds => obtain ⟨vs, e, _⟩ := q; exact .inl ⟨vs, e⟩
  | dct kvs => obtain ⟨ws, e, _⟩ := q; exact .inr ⟨ws, e⟩
theorem Rel.ntup (r : Rel K μ S H) {a : Addr} {vs : List V} (h : H a = some (.tup vs))   : a ∉ μ.v := fun z => by
  rcases r.kind z with ⟨_, e⟩ | ⟨_, e⟩ <;> rw [h] at e <;> cases e
theorem Rel.nfrz (r : Rel K μ S H) {a : Addr} {o : Obj} {u : HO} (h : H a = some (.frz o u))   : a ∉ μ.v := fun z => by
  rcases r.kind z with ⟨_, e⟩ | ⟨_, e⟩ <;> rw [h] at e <;> cases e
theorem Rel.there (r : Rel K μ S H) {a : Addr} (h : a ∈ μ.v) : H a ≠ none := fun z => by
  rcases r.kind h with ⟨_, e⟩ | ⟨_, e⟩ <;> rw [z] at e <;> cases e
theorem SqT.stp {a : Addr} {vs : List V} (h : SqT K H a vs) (r : Rel K μ S H) (s : Stp μ H μ' H') : SqT K H' a vs := by
  rcases h with (h | ⟨o, h⟩) | h
  · exact .inl (.inl (s.keep a _ h (r.ntup h)))
  · exact .inl (.inr ⟨o, s.keep a _ h (r.nfrz h)⟩)
  · exact .inr h
mutual
theorem RD.stp (r : Rel K μ S H) (s : Stp μ H μ' H') : ∀ (d : D) (v : V), RD K μ H d v → RD K μ' H' d v
  | .non, _, h => by cases h; exact .non
  | .bl _, _, h => by cases h; exact .bl _
  | .int _, _, h => by cases h; exact .int _
  | .str _, _, h => by cases h; exact .str _
  | .fn _, _, h => by cases h with | fn q => exact .fn q
  | .tup ds, _, h => by
    cases h with
    | tup h1 h2 => exact .tup (SqT.stp h1 r s) (RDs.stp r s ds _ h2)
  | .fl ds, _, h => by
    cases h with
    | fl h1 h2 =>
      refine .fl ?_ (RDs.stp r s ds _ h2)
      rcases h1 with ⟨o, h1⟩ | h1
      · exact .inl ⟨o, s.keep _ _ h1 (r.nfrz h1)⟩
      · exact .inr h1
  | .lst ds, _, h => by
    cases h with
    | lst h1 h0 h2 => exact .lst (s.keep _ _ h1 h0.1) (s.out h1 h0) (RDs.stp r s ds _ h2)
  | .ref n, _, h => by
    cases h with
    | ref h1 => exact .ref (s.get h1)
theorem RDs.stp (r : Rel K μ S H) (s : Stp μ H μ' H') : ∀ (ds : List D) (vs : List V), RDs K μ H ds vs → RDs K μ' H' ds vs
  | [], _, h => by cases h; exact .nil
  | d :: ds, _, h => by
    cases h with
    | cons h1 h2 => exact .cons (RD.stp r s d _ h1) (RDs.stp r s ds _ h2)
end
theorem RD.step {d : D} {v : V} (h : RD K μ H d v) (r : Rel K μ S H) (s : Stp μ H μ' H') : RD K μ' H' d v := RD.stp r s d v h
theorem RDs.step {ds : List D} {vs : List V} (h : RDs K μ H ds vs) (r : Rel K μ S H) (s : Stp μ H μ' H') : RDs K μ' H' ds vs := RDs.stp r s ds vs h
theorem RKs.step {ks : List (Key × D)} {ws : List (Key × V)} (h : RKs K μ H ks ws) (r : Rel K μ S H) (s : Stp μ H μ' H') : RKs K μ' H' ks ws := by
  unfold RKs at *
  exact Paired.mapP h fun p q z => ⟨z.1, z.2.step r s⟩
theorem RDs.length : ∀ {ds : List D} {vs : List V}, RDs K μ H ds vs → ds.length = vs.length
  | [], _, h => by cases h; rfl
  | d :: ds, _, h => by
    cases h with
    | cons h1 h2 => simp [RDs.length h2]
theorem RDs.get : ∀ {ds : List D} {vs : List V} {i : Nat} {d : D}, RDs K μ H ds vs → ds[i]? = some d → ∃ v, vs[i]? = some v ∧ RD K μ H d v
  | [], _, _, _, _, e => by simp at e
  | d :: ds, _, i, x, h, e => by
    cases h with
    | cons h1 h2 =>
      cases i with
      | zero => simp at e; subst e; exact ⟨_, by simp, h1⟩
      | succ i => simp at e; obtain ⟨v, q1, q2⟩ := RDs.get h2 e; exact ⟨v, by simpa using q1, q2⟩
theorem RDs.getv : ∀ {ds : List D} {vs : List V} {i : Nat} {v : V}, RDs K μ H ds vs → vs[i]? = some v → ∃ d, ds[i]? = some d ∧ RD K μ H d v
  | [], _, i, _, h, e => by cases h; simp at e
  | d :: ds, _, i, x, h, e => by
    cases h with
    | cons h1 h2 =>
      cases i with
      | zero => simp at e; subst e; exact ⟨_, by simp, h1⟩
      | succ i => simp at e; obtain ⟨v, q1, q2⟩ := RDs.getv h2 e; exact ⟨v, by simpa using q1, q2⟩
theorem RDs.append : ∀ {ds es : List D} {vs ws : List V}, RDs K μ H ds vs → RDs K μ H es ws → RDs K μ H (ds ++ es) (vs ++ ws)
  | [], _, _, _, h, g => by cases h; exact g
  | d :: ds, _, _, _, h, g => by
    cases h with
    | cons h1 h2 => exact .cons h1 (RDs.append h2 g)
theorem RDs.take : ∀ {ds : List D} {vs : List V} (n : Nat), RDs K μ H ds vs → RDs K μ H (ds.take n) (vs.take n)
  | [], _, n, h => by cases h; simp; exact .nil
  | d :: ds, _, n, h => by
    cases h with
    | cons h1 h2 =>
      cases n with
      | zero => simp; exact .nil
      | succ n => simp only [List.take_succ_cons]; exact .cons h1 (RDs.take n h2)
theorem RDs.drop : ∀ {ds : List D} {vs : List V} (n : Nat), RDs K μ H ds vs → RDs K μ H (ds.drop n) (vs.drop n)
  | [], _, n, h => by cases h; simp; exact .nil
  | d :: ds, _, n, h => by
    cases h with
    | cons h1 h2 =>
      cases n with
      | zero => simp; exact .cons h1 h2
      | succ n => simp only [List.drop_succ_cons]; exact RDs.drop n h2
theorem RDs.reverse : ∀ {ds : List D} {vs : List V}, RDs K μ H ds vs → RDs K μ H ds.reverse vs.reverse
  | [], _, h => by cases h; exact .nil
  | d :: ds, _, h => by
    cases h with
    | cons h1 h2 => simp only [List.reverse_cons]; exact (RDs.reverse h2).append (.cons h1 .nil)
theorem RDs.set : ∀ {ds : List D} {vs : List V} (i : Nat) {d : D} {v : V}, RDs K μ H ds vs → RD K μ H d v → RDs K μ H (ds.set i d) (vs.set i v)
  | [], _, i, _, _, h, _ => by cases h; exact .nil
  | d :: ds, _, i, x, y, h, g => by
    cases h with
    | cons h1 h2 =>
      cases i with
      | zero => simp; exact .cons g h2
      | succ i => simp only [List.set_cons_succ]; exact .cons h1 (RDs.set i h2 g)
theorem RDs.eraseIdx : ∀ {ds : List D} {vs : List V} (i : Nat), RDs K μ H ds vs → RDs K μ H (ds.eraseIdx i) (vs.eraseIdx i)
  | [], _, i, h => by cases h; simp; exact .nil
  | d :: ds, _, i, h => by
    cases h with
    | cons h1 h2 =>
      cases i with
      | zero => simp; exact h2
      | succ i => simp only [List.eraseIdx_cons_succ]; exact .cons h1 (RDs.eraseIdx i h2)
theorem RDs.dropLast {ds : List D} {vs : List V} (h : RDs K μ H ds vs) : RDs K μ H ds.dropLast vs.dropLast := by
  rw [List.dropLast_eq_take, List.dropLast_eq_take, h.length]; exact h.take _
theorem RDs.ints : ∀ {ns : List Int} {vs : List V}, RDs K μ H (ns.map D.int) vs → vs = ns.map V.int
  | [], _, h => by cases h; rfl
  | n :: ns, _, h => by
    cases h with
    | cons h1 h2 => cases h1; simp [RDs.ints h2]
theorem RDs.of_ints : ∀ (ns : List Int), RDs K μ H (ns.map D.int) (ns.map V.int)
  | [] => .nil
  | n :: ns => .cons (.int n) (RDs.of_ints ns)
theorem RDs.strs : ∀ {ns : List Str} {vs : List V}, RDs K μ H (ns.map D.str) vs → vs = ns.map V.str
  | [], _, h => by cases h; rfl
  | n :: ns, _, h => by
    cases h with
    | cons h1 h2 => cases h1; simp [RDs.strs h2]
theorem RDs.of_strs : ∀ (ns : List Str), RDs K μ H (ns.map D.str) (ns.map V.str)
  | [] => .nil
  | n :: ns => .cons (.str n) (RDs.of_strs ns)
theorem RDs.bls : ∀ {ns : List Bool} {vs : List V}, RDs K μ H (ns.map D.bl) vs → vs = ns.map V.bl
  | [], _, h => by cases h; rfl
  | n :: ns, _, h => by
    cases h with
    | cons h1 h2 => cases h1; simp [RDs.bls h2]
/-- objects untouched keep what they are -/
theorem RM.step {a : Addr} {m : MO} (h : RM K μ H a m) (e : H' a = H a) (r : Rel K μ S H) (s : Stp μ H μ' H') : RM K μ' H' a m := by
  cases m with
  | lst ds => obtain ⟨vs, q, z⟩ := h; exact ⟨vs, e.trans q, z.step r s⟩
  | dct kvs => obtain ⟨ws, q, z⟩ := h; exact ⟨ws, e.trans q, z.step r s⟩
/-- a heap that grows by a new object -/
theorem Rel.new {p : Addr} {o : HO} (r : Rel K μ S H) (h : H p = none) : Rel K μ S (upd H p o) := by
  refine ⟨r.len, r.nd, fun i a m h1 h2 => (r.obj i a m h1 h2).step (upd_ne fun z => ?_) r (Stp.new h), fun a ha => (Stp.new (μ := μ) h).thr a (r.hid a ha), r.apt⟩
  subst z
  exact r.there (List.mem_of_getElem? h1) h
/-- the i-th object changes -/
theorem Rel.put {i : Nat} {p : Addr} {o : HO} {m : MO} (r : Rel K μ S H) (h : μ.v[i]? = some p) (hm : RM K μ (upd H p o) p m) : Rel K μ (S.set i m) (upd H p o) := by
  have hp : p ∈ μ.v := List.mem_of_getElem? h
  refine ⟨by rw [List.length_set]; exact r.len, r.nd, fun j a n h1 h2 => ?_, fun a ha => (Stp.put (μ := μ) hp).thr a (r.hid a ha), r.apt⟩
  by_cases hij : i = j
  · subst hij
    rw [h] at h1; cases h1
    have hl := (List.getElem?_eq_some_iff.mp h).1
    rw [r.len] at hl
    rw [List.getElem?_set_self hl] at h2
    cases h2
    exact hm
  · rw [List.getElem?_set_ne hij] at h2
    refine (r.obj j a n h1 h2).step (upd_ne fun z => hij ?_) r (Stp.put hp)
    subst z
    obtain ⟨l1, e1⟩ := List.getElem?_eq_some_iff.mp h
    obtain ⟨l2, e2⟩ := List.getElem?_eq_some_iff.mp h1
    exact (List.getElem_inj r.nd).mp (e1.trans e2.symm)
/-- a new object is taken into the store -/
theorem Rel.alloc {p : Addr} {o : HO} {m : MO} (r : Rel K μ S H) (h : H p = none) (hm : RM K (μ.push p) (upd H p o) p m) : Rel K (μ.push p) (S ++ [m]) (upd H p o) := by
  have hp : p ∉ μ.v := fun z => r.there z h
  refine ⟨by simp [r.len, Mu.push], ?_, fun i a n h1 h2 => ?_, fun a ha => (Stp.alloc (μ := μ) h).thr a (r.hid a ha), fun a ha hx => ?_⟩
  · unfold Mu.push
    rw [List.nodup_append]
    refine ⟨r.nd, by simp, fun a ha b hb => ?_⟩
    simp at hb; subst hb
    exact fun z => hp (by rw [← z]; exact ha)
  · unfold Mu.push at h1
    by_cases hi : i < μ.v.length
    · rw [List.getElem?_append_left hi] at h1
      rw [List.getElem?_append_left (by rw [← r.len]; exact hi)] at h2
      exact (r.obj i a n h1 h2).step (upd_ne fun z => hp (by rw [← z]; exact List.mem_of_getElem? h1)) r (Stp.alloc h)
    · have hi' : i = μ.v.length := by
        have := (List.getElem?_eq_some_iff.mp h1).1
        simp at this; omega
      subst hi'
      rw [List.getElem?_append_right (Nat.le_refl _)] at h1
      rw [r.len, List.getElem?_append_right (Nat.le_refl _)] at h2
      simp at h1 h2
      subst h1 h2
      exact hm
  · rcases List.mem_append.mp (show a ∈ μ.v ++ [p] from ha) with q | q
    · exact r.apt a q hx
    · simp at q; subst q; exact r.hid a hx h

/-! the store cut back at a def's end -/
mutual
def D.lo (n : Nat) : D → Bool
  | .ref k => decide (k < n)
  | .tup xs => D.los n xs
  | .lst xs => D.los n xs
  | .fl xs => D.los n xs
  | _ => true
def D.los (n : Nat) : List D → Bool
  | [] => true
  | x :: xs => D.lo n x && D.los n xs
end
def loK (n : Nat) : List (Key × D) → Bool
  | [] => true
  | x :: xs => D.lo n x.2 && loK n xs
def MO.lo (n : Nat) : MO → Bool
  | .lst xs => D.los n xs
  | .dct ks => loK n ks
mutual
theorem RD.cut {n : Nat} : ∀ (d : D) (v : V), RD K μ H d v → d.lo n = true → RD K (μ.cut n) H d v
  | .non, _, h, _ => by cases h; exact .non
  | .bl _, _, h, _ => by cases h; exact .bl _
  | .int _, _, h, _ => by cases h; exact .int _
  | .str _, _, h, _ => by cases h; exact .str _
  | .fn _, _, h, _ => by cases h with | fn q => exact .fn q
  | .tup ds, _, h, b => by
    cases h with
    | tup h1 h2 => exact .tup h1 (RDs.cut ds _ h2 (by simpa [D.lo] using b))
  | .fl ds, _, h, b => by
    cases h with
    | fl h1 h2 => exact .fl h1 (RDs.cut ds _ h2 (by simpa [D.lo] using b))
  | .lst ds, _, h, b => by
    cases h with
    | lst h1 h0 h2 => exact .lst h1 ⟨fun z => h0.1 (List.mem_of_mem_take z), h0.2⟩ (RDs.cut ds _ h2 (by simpa [D.lo] using b))
  | .ref k, _, h, b => by
    cases h with
    | ref h1 => exact .ref (by unfold Mu.cut; rw [List.getElem?_take_of_lt (by simpa [D.lo] using b)]; exact h1)
theorem RDs.cut {n : Nat} : ∀ (ds : List D) (vs : List V), RDs K μ H ds vs → D.los n ds = true → RDs K (μ.cut n) H ds vs
  | [], _, h, _ => by cases h; exact .nil
  | d :: ds, _, h, b => by
    have b' : d.lo n = true ∧ D.los n ds = true := by simpa [D.los] using b
    cases h with
    | cons h1 h2 => exact .cons (RD.cut d _ h1 b'.1) (RDs.cut ds _ h2 b'.2)
end
theorem RKs.cut {n : Nat} : ∀ {ks : List (Key × D)} {ws : List (Key × V)}, RKs K μ H ks ws → loK n ks = true → RKs K (μ.cut n) H ks ws
  | [], _, h, _ => by unfold RKs at *; cases h; exact .nil
  | k :: ks, _, h, b => by
    have b' : k.2.lo n = true ∧ loK n ks = true := by simpa [loK] using b
    unfold RKs at *
    cases h with
    | cons h1 h2 => exact .cons ⟨h1.1, RD.cut _ _ h1.2 b'.1⟩ (RKs.cut h2 b'.2)
theorem RM.cut {n : Nat} {a : Addr} {m : MO} (h : RM K μ H a m) (b : m.lo n = true) : RM K (μ.cut n) H a m := by
  cases m with
  | lst ds => obtain ⟨vs, q, z⟩ := h; exact ⟨vs, q, z.cut _ _ b⟩
  | dct kvs => obtain ⟨ws, q, z⟩ := h; exact ⟨ws, q, RKs.cut z b⟩
theorem Rel.cut {n : Nat} (r : Rel K μ S H) (b : (S.take n).all (MO.lo n) = true) : Rel K (μ.cut n) (S.take n) H := by
  refine ⟨by simp [r.len, Mu.cut], r.nd.sublist (List.take_sublist _ _), fun i a m h1 h2 => ?_, r.hid, fun a ha => r.apt a (List.mem_of_mem_take ha)⟩
  unfold Mu.cut at h1
  have hb : m.lo n = true := List.all_eq_true.mp b m (List.mem_of_getElem? h2)
  have hi : i < n := by
    have := (List.getElem?_eq_some_iff.mp h1).1
    simp at this; omega
  rw [List.getElem?_take_of_lt hi] at h1 h2
  exact (r.obj i a m h1 h2).cut hb
/-- a list that leaves the store -/
theorem RD.freed {n k : Nat} {ds : List D} {v : V} (r : Rel K μ S H) (h : RD K μ H (.ref k) v) (hk : n ≤ k) (e : S[k]? = some (.lst ds)) (b : D.los n ds = true) : RD K (μ.cut n) H (.lst ds) v := by
  cases h with
  | @ref _ a h1 =>
    obtain ⟨vs, q, z⟩ := r.obj k a _ h1 e
    refine .lst q ⟨fun hm => ?_, r.apt a (List.mem_of_getElem? h1)⟩ (z.cut _ _ b)
    unfold Mu.cut at hm
    obtain ⟨j, hj⟩ := List.mem_iff_getElem?.mp hm
    have hjn : j < n := by
      have := (List.getElem?_eq_some_iff.mp hj).1
      simp at this; omega
    rw [List.getElem?_take_of_lt hjn] at hj
    obtain ⟨l1, e1⟩ := List.getElem?_eq_some_iff.mp hj
    obtain ⟨l2, e2⟩ := List.getElem?_eq_some_iff.mp h1
    have := (List.getElem_inj r.nd).mp (e1.trans e2.symm)
    omega
theorem Stp.cut (s : Stp μ H μ' H') : Stp μ H (μ'.cut μ.v.length) H' := by
  obtain ⟨⟨ν, rfl, f⟩, k, t⟩ := s
  refine ⟨⟨[], by simp [Mu.cut], by simp⟩, k, t⟩
end

/-! ### a list in the making -/
section
variable {K : PySem.W.Frag} {μ : Mu} {S : Sto} {H : Hp}
def Mu.hide (μ : Mu) (p : Addr) : Mu := ⟨μ.v, p :: μ.x⟩
mutual
theorem RD.hide {p : Addr} {o : HO} (hp : H p = none) : ∀ (d : D) (v : V), RD K μ H d v → RD K (μ.hide p) (upd H p o) d v
  | .non, _, h => by cases h; exact .non
  | .bl _, _, h => by cases h; exact .bl _
  | .int _, _, h => by cases h; exact .int _
  | .str _, _, h => by cases h; exact .str _
  | .fn _, _, h => by cases h with | fn q => exact .fn q
  | .tup ds, _, h => by
    cases h with
    | tup h1 h2 =>
      refine .tup ?_ (RDs.hide hp ds _ h2)
      rcases h1 with (h1 | ⟨o, h1⟩) | h1
      · exact .inl (.inl (by rw [upd_ne (ne_of_none h1 hp)]; exact h1))
      · exact .inl (.inr ⟨o, by rw [upd_ne (ne_of_none h1 hp)]; exact h1⟩)
      · exact .inr h1
  | .fl ds, _, h => by
    cases h with
    | fl h1 h2 =>
      refine .fl ?_ (RDs.hide hp ds _ h2)
      rcases h1 with ⟨o, h1⟩ | h1
      · exact .inl ⟨o, by rw [upd_ne (ne_of_none h1 hp)]; exact h1⟩
      · exact .inr h1
  | .lst ds, _, h => by
    cases h with
    | lst h1 h0 h2 =>
      have ne := ne_of_none h1 hp
      refine .lst (by rw [upd_ne ne]; exact h1) ⟨h0.1, fun z => ?_⟩ (RDs.hide hp ds _ h2)
      rcases List.mem_cons.mp z with z | z
      · exact ne z
      · exact h0.2 z
  | .ref n, _, h => by
    cases h with
    | ref h1 => exact .ref h1
theorem RDs.hide {p : Addr} {o : HO} (hp : H p = none) : ∀ (ds : List D) (vs : List V), RDs K μ H ds vs → RDs K (μ.hide p) (upd H p o) ds vs
  | [], _, h => by cases h; exact .nil
  | d :: ds, _, h => by
    cases h with
    | cons h1 h2 => exact .cons (RD.hide hp d _ h1) (RDs.hide hp ds _ h2)
end
mutual
/-- the hidden list changes: nobody sees it -/
theorem RD.seen {p : Addr} {xs ys : List V} (hp : H p = some (.lst xs)) : ∀ (d : D) (v : V), RD K (μ.hide p) H d v → RD K (μ.hide p) (upd H p (.lst ys)) d v
  | .non, _, h => by cases h; exact .non
  | .bl _, _, h => by cases h; exact .bl _
  | .int _, _, h => by cases h; exact .int _
  | .str _, _, h => by cases h; exact .str _
  | .fn _, _, h => by cases h with | fn q => exact .fn q
  | .tup ds, _, h => by
    cases h with
    | tup h1 h2 =>
      refine .tup ?_ (RDs.seen hp ds _ h2)
      rcases h1 with (h1 | ⟨o, h1⟩) | h1
      · exact .inl (.inl (by rw [upd_ne (ne_of h1 hp (fun z => nomatch z))]; exact h1))
      · exact .inl (.inr ⟨o, by rw [upd_ne (ne_of h1 hp (fun z => nomatch z))]; exact h1⟩)
      · exact .inr h1
  | .fl ds, _, h => by
    cases h with
    | fl h1 h2 =>
      refine .fl ?_ (RDs.seen hp ds _ h2)
      rcases h1 with ⟨o, h1⟩ | h1
      · exact .inl ⟨o, by rw [upd_ne (ne_of h1 hp (fun z => nomatch z))]; exact h1⟩
      · exact .inr h1
  | .lst ds, _, h => by
    cases h with
    | lst h1 h0 h2 =>
      refine .lst (by rw [upd_ne (fun z => h0.2 (by rw [z]; exact List.mem_cons_self))]; exact h1) h0 (RDs.seen hp ds _ h2)
  | .ref n, _, h => by
    cases h with
    | ref h1 => exact .ref h1
theorem RDs.seen {p : Addr} {xs ys : List V} (hp : H p = some (.lst xs)) : ∀ (ds : List D) (vs : List V), RDs K (μ.hide p) H ds vs → RDs K (μ.hide p) (upd H p (.lst ys)) ds vs
  | [], _, h => by cases h; exact .nil
  | d :: ds, _, h => by
    cases h with
    | cons h1 h2 => exact .cons (RD.seen hp d _ h1) (RDs.seen hp ds _ h2)
end
mutual
theorem RD.show {p : Addr} : ∀ (d : D) (v : V), RD K (μ.hide p) H d v → RD K μ H d v
  | .non, _, h => by cases h; exact .non
  | .bl _, _, h => by cases h; exact .bl _
  | .int _, _, h => by cases h; exact .int _
  | .str _, _, h => by cases h; exact .str _
  | .fn _, _, h => by cases h with | fn q => exact .fn q
  | .tup ds, _, h => by cases h with | tup h1 h2 => exact .tup h1 (RDs.show ds _ h2)
  | .fl ds, _, h => by cases h with | fl h1 h2 => exact .fl h1 (RDs.show ds _ h2)
  | .lst ds, _, h => by cases h with | lst h1 h0 h2 => exact .lst h1 ⟨h0.1, fun z => h0.2 (List.mem_cons_of_mem _ z)⟩ (RDs.show ds _ h2)
  | .ref n, _, h => by cases h with | ref h1 => exact .ref h1
theorem RDs.show {p : Addr} : ∀ (ds : List D) (vs : List V), RDs K (μ.hide p) H ds vs → RDs K μ H ds vs
  | [], _, h => by cases h; exact .nil
  | d :: ds, _, h => by
    cases h with
    | cons h1 h2 => exact .cons (RD.show d _ h1) (RDs.show ds _ h2)
end
theorem RM.map {μ' : Mu} {H' : Hp} {a : Addr} {m : MO} (h : RM K μ H a m) (e : H' a = H a) (f : ∀ d v, RD K μ H d v → RD K μ' H' d v) (fs : ∀ d v, RDs K μ H d v → RDs K μ' H' d v) : RM K μ' H' a m := by
  cases m with
  | lst ds => obtain ⟨vs, q, z⟩ := h; exact ⟨vs, e.trans q, fs _ _ z⟩
  | dct kvs => obtain ⟨ws, q, z⟩ := h; exact ⟨ws, e.trans q, Paired.mapP z fun p q z => ⟨z.1, f _ _ z.2⟩⟩
theorem Rel.hide {p : Addr} {o : HO} (r : Rel K μ S H) (hp : H p = none) : Rel K (μ.hide p) S (upd H p o) := by
  refine ⟨r.len, r.nd, fun i a m h1 h2 => (r.obj i a m h1 h2).map (upd_ne fun z => ?_) (RD.hide hp) (RDs.hide hp), fun a ha => ?_, fun a ha hx => ?_⟩
  · subst z; exact r.there (List.mem_of_getElem? h1) hp
  · rcases List.mem_cons.mp ha with z | z
    · rw [z, upd_same]; simp
    · exact (Stp.new (μ := μ) hp).thr a (r.hid a z)
  · rcases List.mem_cons.mp hx with z | z
    · subst z; exact r.there ha hp
    · exact r.apt a ha z
theorem Rel.seen {p : Addr} {xs ys : List V} (r : Rel K (μ.hide p) S H) (hp : H p = some (.lst xs)) : Rel K (μ.hide p) S (upd H p (.lst ys)) := by
  refine ⟨r.len, r.nd, fun i a m h1 h2 => (r.obj i a m h1 h2).map (upd_ne fun z => ?_) (RD.seen hp) (RDs.seen hp), fun a ha => ?_, r.apt⟩
  · exact r.apt a (List.mem_of_getElem? h1) (by rw [z]; exact List.mem_cons_self)
  · by_cases z : a = p
    · rw [z, upd_same]; simp
    · rw [upd_ne z]; exact r.hid a ha
theorem Rel.show {p : Addr} (r : Rel K (μ.hide p) S H) : Rel K μ S H :=
  ⟨r.len, r.nd, fun i a m h1 h2 => (r.obj i a m h1 h2).map rfl RD.show RDs.show, fun a ha => r.hid a (List.mem_cons_of_mem _ ha), fun a ha hx => r.apt a ha (List.mem_cons_of_mem _ hx)⟩
/-- a step beside the hidden list is a step -/
theorem Stp.show {μ' : Mu} {p : Addr} {H' : Hp} (s : Stp (μ.hide p) H μ' H') : ∃ μ1, μ' = μ1.hide p ∧ Stp μ H μ1 H' := by
  obtain ⟨⟨ν, rfl, f⟩, k, t⟩ := s
  exact ⟨⟨μ.v ++ ν, μ.x⟩, rfl, ⟨ν, rfl, f⟩, k, t⟩
end

/-! ### slots -/
structure RE (K : PySem.W.Frag) (μ : Mu) (H : Hp) (σ : L2.St) (ρ : Rho) : Prop where
  len : σ.length = ρ.length
  val : ∀ (i : Nat) (d : D), ρ[i]? = some (some d) → ∃ v, σ[i]? = some (some v) ∧ RD K μ H d v
section
variable {K : PySem.W.Frag} {μ μ' : Mu} {S : Sto} {H H' : Hp} {σ : L2.St} {ρ : Rho}
theorem RE.step (h : RE K μ H σ ρ) (r : Rel K μ S H) (s : Stp μ H μ' H') : RE K μ' H' σ ρ := ⟨h.len, fun i d e => by
  obtain ⟨v, e1, z⟩ := h.val i d e
  exact ⟨v, e1, z.step r s⟩⟩
theorem RE.set {d : D} {v : V} (h : RE K μ H σ ρ) (z : RD K μ H d v) (i : Nat) : RE K μ H (σ.set i (some v)) (ρ.set i (some d)) := by
  refine ⟨by simp [h.len], fun j e q => ?_⟩
  by_cases hij : i = j
  · subst hij
    by_cases hl : i < ρ.length
    · rw [List.getElem?_set_self hl] at q
      cases q
      exact ⟨v, List.getElem?_set_self (by rw [h.len]; exact hl), z⟩
    · rw [List.getElem?_eq_none (by simpa using hl)] at q; cases q
  · rw [List.getElem?_set_ne hij] at q ⊢
    exact h.val j e q
def wipeR (ρ : Rho) : List Nat → Rho
  | [] => ρ
  | v :: vs => (wipeR ρ vs).set v none
theorem RE.drop {i : Nat} (h : RE K μ H σ ρ) : RE K μ H (σ.set i none) (ρ.set i none) := by
  refine ⟨by simp [h.len], fun j e q => ?_⟩
  by_cases hij : i = j
  · subst hij
    by_cases hl : i < ρ.length
    · rw [List.getElem?_set_self hl] at q; cases q
    · rw [List.getElem?_eq_none (by simpa using hl)] at q; cases q
  · rw [List.getElem?_set_ne hij] at q ⊢
    exact h.val j e q
theorem RE.wipe (h : RE K μ H σ ρ) : ∀ vs, RE K μ H (L2.wipe σ vs) (wipeR ρ vs)
  | [] => h
  | v :: vs => by unfold L2.wipe wipeR; exact (RE.wipe h vs).drop
end

theorem RE.mapR {K : PySem.W.Frag} {μ μ' : Mu} {H H' : Hp} {σ : L2.St} {ρ : Rho} (h : RE K μ H σ ρ) (f : ∀ d v, RD K μ H d v → RD K μ' H' d v) : RE K μ' H' σ ρ := ⟨h.len, fun i d e => by
  obtain ⟨v, e1, z⟩ := h.val i d e
  exact ⟨v, e1, f _ _ z⟩⟩

/-! ### what is wanted of a result -/
section
variable (K : PySem.W.Frag) (mg : Str → Option Value) (W : WX)
def Post {α : Type} (μ : Mu) (σ : L2.St) (H : Hp) (r : R α) (Q : α → Mu → Hp → Prop) : Prop := match r with
  | .ok a S' => ∀ μ' H', Stp μ H μ' H' → Rel K μ' S' H' → Q a μ' H'
  | .ex e S' => ∀ μ' H' c od, Stp μ H μ' H' → Rel K μ' S' H' → RX K mg μ' H' e c od → W c od σ H'
  | .bad => False
abbrev EvD := Rho → M D
abbrev EvB := Rho → M Bool
abbrev EvL := Rho → M (List D)
def QD (Q : VK) : D → Mu → Hp → Prop := fun d μ' H' => ∀ v, RD K μ' H' d v → Q v H'
def tD (F : EvD) : TE := fun σ H Q => ∃ ρ S μ, RE K μ H σ ρ ∧ Rel K μ S H ∧ Post K mg W μ σ H (F ρ S) (QD K Q)
def tT (F : EvB) : TT := fun σ H Q => ∃ ρ S μ, RE K μ H σ ρ ∧ Rel K μ S H ∧ Post K mg W μ σ H (F ρ S) (fun b _ H' => Q b H')
def tA (F : EvL) : TA := fun σ H Q => ∃ ρ S μ, RE K μ H σ ρ ∧ Rel K μ S H ∧ Post K mg W μ σ H (F ρ S) (fun ds μ' H' => ∀ vs, RDs K μ' H' ds vs → Q vs H')
end
section
variable {K : PySem.W.Frag} {mg : Str → Option Value} {W : WX} {μ μ1 : Mu} {σ : L2.St} {H H1 : Hp} {α β : Type}
theorem Post.mono {r : R α} {Q : α → Mu → Hp → Prop} (h : Post K mg W μ σ H r Q) (s : Stp μ H μ1 H1) : Post K mg W μ1 σ H1 r Q := by
  cases r with
  | ok a S => exact fun μ' H' q => h μ' H' (s.trans q)
  | ex e S => exact fun μ' H' c od q => h μ' H' c od (s.trans q)
  | bad => exact h
theorem Post.imp {r : R α} {Q Q' : α → Mu → Hp → Prop} (h : Post K mg W μ σ H r Q) (f : ∀ a S' μ' H', r = .ok a S' → Stp μ H μ' H' → Rel K μ' S' H' → Q a μ' H' → Q' a μ' H') : Post K mg W μ σ H r Q' := by
  cases r with
  | ok a S => exact fun μ' H' s q => f a S μ' H' rfl s q (h μ' H' s q)
  | ex e S => exact h
  | bad => exact h
theorem Post.bnd {m : M α} {k : α → M β} {S : Sto} {Q : β → Mu → Hp → Prop} {Q1 : α → Mu → Hp → Prop} (h : Post K mg W μ σ H (bnd m k S) Q)
    (f : ∀ a S1 μ1 H1, Stp μ H μ1 H1 → Rel K μ1 S1 H1 → Post K mg W μ1 σ H1 (k a S1) Q → Q1 a μ1 H1) : Post K mg W μ σ H (m S) Q1 := by
  unfold DL.bnd at h
  cases e : m S with
  | ok a S1 =>
    rw [e] at h
    intro μ' H' s r
    exact f a S1 μ' H' s r (Post.mono h s)
  | ex x S1 => rw [e] at h; exact h
  | bad => rw [e] at h; exact h
/-- a result that is there -/
theorem Post.now {a : α} {S : Sto} {Q : α → Mu → Hp → Prop} (h : Post K mg W μ σ H (.ok a S) Q) (r : Rel K μ S H) : Q a μ H := h μ H .refl r
end
theorem PE.imp {X : Cx} {e : Expr} {t t' : TE} (h : PE X e t) (f : ∀ σ H Q, t' σ H Q → t σ H Q) : PE X e t' := ⟨fun pins s σ H Q I q => h.run pins s σ H Q I (f σ H Q q)⟩
theorem PT.imp {X : Cx} {e : Expr} {t t' : TT} (h : PT X e t) (f : ∀ σ H Q, t' σ H Q → t σ H Q) : PT X e t' := ⟨fun pins s σ H Q I q => h.run pins s σ H Q I (f σ H Q q)⟩
theorem PW.imp {X : Cx} {e : Expr} {t t' : TT} (h : PW X e t) (f : ∀ σ H Q, t' σ H Q → t σ H Q) : PW X e t' := ⟨fun w pins s σ H Q I q => h.run w pins s σ H Q I (f σ H Q q)⟩
theorem PA.imp {X : Cx} {e : List Expr} {t t' : TA} (h : PA X e t) (f : ∀ σ H Q, t' σ H Q → t σ H Q) : PA X e t' := ⟨fun p pins s σ H Q I q => h.run p pins s σ H Q I (f σ H Q q)⟩
theorem PS.imp {X : Cx} {e : Stmt} {t t' : TS} (h : PS X e t) (f : ∀ D σ H, t' D σ H → t D σ H) : PS X e t' := ⟨fun pins s σ H D I q => h.run pins s σ H D I (f D σ H q)⟩
theorem PSs.imp {X : Cx} {e : List Stmt} {t t' : TS} (h : PSs X e t) (f : ∀ D σ H, t' D σ H → t D σ H) : PSs X e t' := ⟨fun pins s σ H D I q => h.run pins s σ H D I (f D σ H q)⟩
end DL

/-! DL2: expressions. -/
namespace DL
open PySem L2

/-! ### readers -/
def atL (S : Sto) (n : Nat) : Option (List D) := match S[n]? with
  | some (.lst ds) => some ds
  | _ => none
theorem atL_ok {S : Sto} {n : Nat} {ds : List D} (h : atL S n = some ds) : S[n]? = some (.lst ds) := by
  unfold atL at h
  split at h
  · rename_i hs; cases h; exact hs
  · cases h
def iLst (S : Sto) : D → Option (List D)
  | .tup ds => some ds
  | .lst ds => some ds
  | .fl ds => some ds
  | .ref n => atL S n
  | _ => none
/-- a list that the heap tracks as one -/
def iTrk (S : Sto) : D → Option (List D)
  | .lst ds => some ds
  | .ref n => atL S n
  | _ => none
/-- a list, not a tuple -/
def iSeq (S : Sto) : D → Option (List D)
  | .lst ds => some ds
  | .fl ds => some ds
  | .ref n => atL S n
  | _ => none
section
variable {K : PySem.W.Frag} {μ μ' : Mu} {S : Sto} {H H' : Hp}
theorem iTrk_ok {d : D} {ds : List D} {v : V} (e : iTrk S d = some ds) (r : Rel K μ S H) (h : RD K μ H d v) : ∃ a vs, v = .ref a ∧ H a = some (.lst vs) ∧ RDs K μ H ds vs := by
  cases h with
  | lst h1 h0 h2 => cases e; exact ⟨_, _, rfl, h1, h2⟩
  | @ref n a h1 =>
    obtain ⟨vs, q, z⟩ := r.obj n a _ h1 (atL_ok (show atL S n = some ds from e))
    exact ⟨a, vs, rfl, q, z⟩
  | _ => cases e
theorem iSeq_ok {d : D} {ds : List D} {v : V} (e : iSeq S d = some ds) (r : Rel K μ S H) (h : RD K μ H d v) : ∃ a vs, v = .ref a ∧ SqL K H a vs ∧ RDs K μ H ds vs := by
  cases h with
  | lst h1 h0 h2 => cases e; exact ⟨_, _, rfl, (.inl (.inl h1)), h2⟩
  | fl h1 h2 =>
    cases e
    rcases h1 with ⟨o, h1⟩ | h1
    · exact ⟨_, _, rfl, (.inl (.inr ⟨o, h1⟩)), h2⟩
    · exact ⟨_, _, rfl, (.inr h1), h2⟩
  | @ref n a h1 =>
    obtain ⟨vs, q, z⟩ := r.obj n a _ h1 (atL_ok (show atL S n = some ds from e))
    exact ⟨a, vs, rfl, .inl (.inl q), z⟩
  | _ => cases e
theorem iLst_ok {d : D} {ds : List D} {v : V} (e : iLst S d = some ds) (r : Rel K μ S H) (h : RD K μ H d v) : ∃ a vs, v = .ref a ∧ (SqL K H a vs ∨ SqT K H a vs) ∧ RDs K μ H ds vs := by
  cases d with
  | tup ds' => cases h with | tup h1 h2 => cases e; exact ⟨_, _, rfl, .inr h1, h2⟩
  | lst ds' => obtain ⟨a, vs, q1, q2, q3⟩ := iSeq_ok (d := .lst ds') e r h; exact ⟨a, vs, q1, .inl q2, q3⟩
  | fl ds' => obtain ⟨a, vs, q1, q2, q3⟩ := iSeq_ok (d := .fl ds') e r h; exact ⟨a, vs, q1, .inl q2, q3⟩
  | ref n => obtain ⟨a, vs, q1, q2, q3⟩ := iSeq_ok (d := .ref n) e r h; exact ⟨a, vs, q1, .inl q2, q3⟩
  | _ => cases e
end

/-! ### names, constants -/
def eVar (i : Nat) : EvD := fun ρ S => match ρ[i]? with
  | some (some d) => .ok d S
  | _ => .bad
def eC (d : D) : EvD := fun _ S => .ok d S
def eBin (g : D → D → M D) (a b : EvD) : EvD := fun ρ => bnd (a ρ) fun x => bnd (b ρ) fun y => g x y
def eUn (g : D → M D) (a : EvD) : EvD := fun ρ => bnd (a ρ) g
section
variable {X : Cx} {W : WX} {pos : Pos}
theorem d_var (i : Nat) {x : Str} (hN : X.N[i]? = some x := by rfl) (hv : Vis X.env.scope x := by first | exact Or.inl rfl | exact Or.inr (Or.inl rfl) | exact Or.inr (Or.inr rfl)) (hd : (x == ("__debug__" : Str)) = false := by decide)
    (hcd : (x == ("__classdict__" : Str)) = false := by decide) : PE X (.Name x pos) (tD X.K X.mg W (eVar i)) := by
  refine PE.imp (pe_var hN hv hd hcd) fun σ H Q ⟨ρ, S, μ, e, s, h⟩ => ?_
  unfold eVar at h
  split at h
  · rename_i d hd
    obtain ⟨v, e1, z⟩ := e.val i d hd
    exact ⟨v, e1, h.now s v z⟩
  · exact h.elim
theorem d_const {e : Expr} {d : D} {v : V} (h : PE X e (tC v)) (hd : ∀ μ H, RD X.K μ H d v) : PE X e (tD X.K X.mg W (eC d)) :=
  PE.imp h fun σ H Q ⟨ρ, S, μ, e, s, h⟩ => h.now s v (hd μ H)
theorem d_int {i j} : PE X (.Constant (.int i) j pos) (tD X.K X.mg W (eC (.int i))) := d_const pe_int fun _ _ => .int i
theorem d_bl {i j} : PE X (.Constant (.bool i) j pos) (tD X.K X.mg W (eC (.bl i))) := d_const pe_bl fun _ _ => .bl i
theorem d_str {i j} : PE X (.Constant (.str i) j pos) (tD X.K X.mg W (eC (.str i))) := d_const pe_str fun _ _ => .str i
theorem d_non {j} : PE X (.Constant .none j pos) (tD X.K X.mg W (eC .non)) := d_const pe_non fun _ _ => .non
theorem d_glob {x : Str} {d : D} {v : V} {u : Value} (hg : Gl X x) (hm : X.mg x = some u) (r : RelV v u) (hd : ∀ μ H, RD X.K μ H d v) (hdb : (x == ("__debug__" : Str)) = false := by decide) : PE X (.Name x pos) (tD X.K X.mg W (eC d)) :=
  d_const (pe_glob hg hm r hdb) hd

/-! ### operations -/
def ORD (X : Cx) (W : WX) (f : Value → Value → Sem Value) (g : D → D → M D) : Prop := ∃ r : R2, OpR X f r ∧
  ∀ x y v w μ S σ H Q, Rel X.K μ S H → RD X.K μ H x v → RD X.K μ H y w → Post X.K X.mg W μ σ H (g x y S) (QD X.K Q) → r v w H Q
theorem bin_ok {r : R2} {g : D → D → M D} {ta tb : EvD} {σ : L2.St} {H : Hp} {Q : VK} (hr : ∀ x y v w μ S σ H Q, Rel X.K μ S H → RD X.K μ H x v → RD X.K μ H y w → Post X.K X.mg W μ σ H (g x y S) (QD X.K Q) → r v w H Q)
    (h : tD X.K X.mg W (eBin g ta tb) σ H Q) : tOp r (tD X.K X.mg W ta) (tD X.K X.mg W tb) σ H Q := by
  obtain ⟨ρ, S, μ, e, s, h⟩ := h
  refine ⟨ρ, S, μ, e, s, h.bnd fun x S1 μ1 H1 s1 r1 h1 v rv => ?_⟩
  refine ⟨ρ, S1, μ1, e.step s s1, r1, h1.bnd fun y S2 μ2 H2 s2 r2 h2 w rw => ?_⟩
  exact hr _ _ _ _ μ2 S2 σ H2 Q r2 (rv.step r1 s2) rw h2
theorem d_bin {a b : Expr} {op : Operator} {g : D → D → M D} {ta tb : EvD} (o : ORD X W (binaryOp op) g) (ha : PE X a (tD X.K X.mg W ta)) (hb : PE X b (tD X.K X.mg W tb)) : PE X (.BinOp a op b pos) (tD X.K X.mg W (eBin g ta tb)) := by
  obtain ⟨r, ho, hr⟩ := o
  exact PE.imp (pe_op ho ha hb) fun σ H Q h => bin_ok hr h
theorem d_cmp {a b : Expr} {op : CmpOp} {g : D → D → M D} {ta tb : EvD} (o : ORD X W (compareOp op) g) (ha : PE X a (tD X.K X.mg W ta)) (hb : PE X b (tD X.K X.mg W tb)) (hm : behindInMarks op b = false) : PE X (.Compare a [op] [b] pos) (tD X.K X.mg W (eBin g ta tb)) := by
  obtain ⟨r, ho, hr⟩ := o
  exact PE.imp (pe_cmpR ho ha hb hm) fun σ H Q h => bin_ok hr h
def URD (X : Cx) (W : WX) (f : Value → Sem Value) (g : D → M D) : Prop := ∃ r, UnR X f r ∧
  ∀ x v μ S σ H Q, Rel X.K μ S H → RD X.K μ H x v → Post X.K X.mg W μ σ H (g x S) (QD X.K Q) → r v H Q
theorem d_un {a : Expr} {op : UnaryOp} {g : D → M D} {ta : EvD} (o : URD X W (unaryOp op) g) (ha : PE X a (tD X.K X.mg W ta)) : PE X (.UnaryOp op a pos) (tD X.K X.mg W (eUn g ta)) := by
  obtain ⟨r, ho, hr⟩ := o
  refine PE.imp (pe_un ho ha) fun σ H Q ⟨ρ, S, μ, e, s, h⟩ => ?_
  exact ⟨ρ, S, μ, e, s, h.bnd fun x S1 μ1 H1 s1 r1 h1 v rv => hr _ _ μ1 S1 σ H1 Q r1 rv h1⟩

/-! arithmetic -/
def gAdd (x y : D) : M D := fun S => match x, y with
  | .int i, .int j => .ok (.int (i + j)) S
  | .str a, .str b => if a.length + b.length ≤ sizeLine then .ok (.str (a ++ b)) S else .bad
  | .tup a, .tup b => if a.length + b.length ≤ sizeLine then .ok (.tup (a ++ b)) S else .bad
  | x, y => match iTrk S x, iTrk S y with
    | some a, some b => if a.length + b.length ≤ sizeLine then .ok (.lst (a ++ b)) S else .bad
    | _, _ => .bad
theorem o_add : ORD X W (binaryOp .Add) gAdd := by
  refine ⟨_, op_add.or (op_add_str.or (op_catA.or op_cat)), fun x y v w μ S σ H Q r rx ry h => ?_⟩
  unfold gAdd at h
  split at h
  · cases rx; cases ry
    exact .inl ⟨_, _, rfl, rfl, h.now r _ (.int _)⟩
  · cases rx; cases ry
    split at h
    · rename_i hl
      exact .inr (.inl ⟨_, _, rfl, rfl, hl, h.now r _ (.str _)⟩)
    · exact h.elim
  · cases rx with
    | @tup a1 vs1 ds1 h1 h2 =>
      cases ry with
      | @tup a2 vs2 ds2 g1 g2 =>
        split at h
        · rename_i hl
          rw [h2.length, g2.length] at hl
          refine .inr (.inr (.inl ⟨_, _, _, _, rfl, rfl, h1, g1, hl, fun e => ?_, fun e1 e2 => ?_, fun e1 e2 p hp => ?_⟩))
          · subst e
            cases h2
            exact h.now r _ (.tup g1 g2)
          · subst e2
            cases g2
            exact h.now r _ (.tup h1 (by simpa using h2))
          · exact h μ _ (Stp.new hp) (r.new hp) _ (.tup (.inl (.inl upd_same)) ((h2.step r (Stp.new hp)).append (g2.step r (Stp.new hp))))
        · exact h.elim
  · split at h
    · rename_i a b ea eb
      split at h
      · rename_i hl
        obtain ⟨p1, v1, rfl, q1, z1⟩ := iTrk_ok ea r rx
        obtain ⟨p2, v2, rfl, q2, z2⟩ := iTrk_ok eb r ry
        rw [z1.length, z2.length] at hl
        refine .inr (.inr (.inr ⟨_, _, _, _, rfl, rfl, q1, q2, hl, fun p hp => ?_⟩))
        exact h μ _ (Stp.new hp) (r.new hp) _ (.lst upd_same ⟨fun z => r.there z hp, fun z => r.hid _ z hp⟩ ((z1.step r (Stp.new hp)).append (z2.step r (Stp.new hp))))
      · exact h.elim
    · exact h.elim
def gI (C : Int → Int → Bool) (f : Int → Int → Int) (x y : D) : M D := fun S => match x, y with
  | .int i, .int j => if C i j then .ok (.int (f i j)) S else .bad
  | _, _ => .bad
theorem o_int {f : Value → Value → Sem Value} {C : Int → Int → Bool} {CP : Int → Int → Prop} {k : Int → Int → Int} (ho : OpR X f (rI CP fun i j => .int (k i j))) (hC : ∀ i j, C i j = true → CP i j) : ORD X W f (gI C k) := by
  refine ⟨_, ho, fun x y v w μ S σ H Q r rx ry h => ?_⟩
  unfold gI at h
  split at h
  · cases rx; cases ry
    split at h
    · rename_i hc
      exact ⟨_, _, rfl, rfl, hC _ _ hc, h.now r _ (.int _)⟩
    · exact h.elim
  · exact h.elim
abbrev gSub := gI (fun _ _ => true) fun i j => i - j
theorem op_subC : OpR X (binaryOp .Sub) (rI (fun _ _ => True) fun i j => .int (i - j)) := fun pins s σ H x y v u Q I rx ry h => by
  obtain ⟨i, j, e1, e2, _, q⟩ := h
  exact op_sub pins s σ H x y v u Q I rx ry ⟨i, j, e1, e2, q⟩
theorem o_sub : ORD X W (binaryOp .Sub) gSub := o_int op_subC fun _ _ _ => trivial
/-- one factor below 2^64 -/
def cMul (i j : Int) : Bool := decide (i.natAbs < 18446744073709551616) || decide (j.natAbs < 18446744073709551616)
theorem cMul_ok {i j : Int} (h : cMul i j = true) : CMul i j := by
  unfold cMul at h
  simp only [Bool.or_eq_true, decide_eq_true_eq] at h
  unfold CMul
  omega
abbrev gMul := gI cMul fun i j => i * j
theorem o_mul : ORD X W (binaryOp .Mult) gMul := o_int op_mul fun _ _ h => cMul_ok h
def cDiv (_ j : Int) : Bool := decide (0 < j) && decide (j.natAbs.log2 < 9000)
abbrev gDiv := gI cDiv fun i j => i / j
theorem o_div : ORD X W (binaryOp .FloorDiv) gDiv := o_int op_fdivW fun _ _ h => by
  unfold cDiv at h
  simpa [CDivW] using h
abbrev gMod := gI (fun _ j => decide (0 < j)) fun i j => i % j
theorem o_mod : ORD X W (binaryOp .Mod) gMod := o_int op_mod fun _ _ h => by simpa using h
def cPow (i j : Int) : Bool := decide (0 ≤ j ∧ j ≤ 1000000) && decide (i.natAbs < 18446744073709551616)
abbrev gPow := gI cPow fun i j => i ^ j.toNat
theorem o_pow : ORD X W (binaryOp .Pow) gPow := o_int op_pow fun _ _ h => by
  unfold cPow at h
  simp only [Bool.and_eq_true, decide_eq_true_eq] at h
  exact ⟨h.1.1, h.1.2, h.2⟩
def gNeg (x : D) : M D := fun S => match x with
  | .int i => .ok (.int (-i)) S
  | _ => .bad
theorem o_neg : URD X W (unaryOp .USub) gNeg := by
  refine ⟨_, un_neg, fun x v μ S σ H Q r rx h => ?_⟩
  unfold gNeg at h
  split at h
  · cases rx
    exact ⟨_, rfl, h.now r _ (.int _)⟩
  · exact h.elim

/-! comparisons -/
def gC (f : Int → Int → Bool) (x y : D) : M D := fun S => match x, y with
  | .int i, .int j => .ok (.bl (f i j)) S
  | _, _ => .bad
theorem o_cmp {f : Value → Value → Sem Value} {k : Int → Int → Bool} (ho : OpR X f (rI0 fun i j => .bl (k i j))) : ORD X W f (gC k) := by
  refine ⟨_, ho, fun x y v w μ S σ H Q r rx ry h => ?_⟩
  unfold gC at h
  split at h
  · cases rx; cases ry
    exact ⟨_, _, rfl, rfl, h.now r _ (.bl _)⟩
  · exact h.elim
abbrev gLt := gC fun i j => decide (i < j)
abbrev gLe := gC fun i j => decide (i ≤ j)
abbrev gGt := gC fun i j => decide (j < i)
abbrev gGe := gC fun i j => decide (j ≤ i)
theorem o_lt : ORD X W (compareOp .Lt) gLt := o_cmp op_lt
theorem o_le : ORD X W (compareOp .LtE) gLe := o_cmp op_le
theorem o_gt : ORD X W (compareOp .Gt) gGt := o_cmp op_gt
theorem o_ge : ORD X W (compareOp .GtE) gGe := o_cmp op_ge

/-! == of data -/
end
mutual
def toPy : D → Option PyData
  | .non => some .none
  | .bl b => some (.bool b)
  | .int i => some (.int i)
  | .str x => some (.str x)
  | .tup ds => (toPys ds).map .tuple
  | .lst ds => (toPys ds).map .list
  | .fl ds => (toPys ds).map .list
  | .ref _ => none
  | .fn _ => none
def toPys : List D → Option (List PyData)
  | [] => some []
  | d :: ds => match toPy d, toPys ds with
    | some p, some ps => some (p :: ps)
    | _, _ => none
end
/-- .. a stored list at the top -/
def toPyS (S : Sto) : D → Option PyData
  | .ref n => match atL S n with
    | some ds => (toPys ds).map .list
    | none => none
  | d => toPy d
section
variable {K : PySem.W.Frag} {μ : Mu} {S : Sto} {H : Hp}
mutual
theorem toPy_ok : ∀ (d : D) (p : PyData) (v : V), toPy d = some p → RD K μ H d v → Dp K H v p
  | .non, _, _, e, h => by cases e; cases h; exact .non
  | .bl _, _, _, e, h => by cases e; cases h; exact .bl _
  | .int _, _, _, e, h => by cases e; cases h; exact .int _
  | .str _, _, _, e, h => by cases e; cases h; exact .str _
  | .tup ds, _, _, e, h => by
    simp only [toPy, Option.map_eq_some_iff] at e
    obtain ⟨ps, e, rfl⟩ := e
    cases h with
    | tup h1 h2 => exact .tup h1 (toPys_ok ds ps _ e h2)
  | .lst ds, _, _, e, h => by
    simp only [toPy, Option.map_eq_some_iff] at e
    obtain ⟨ps, e, rfl⟩ := e
    cases h with
    | lst h1 h0 h2 => exact .lst (.inl (.inl h1)) (toPys_ok ds ps _ e h2)
  | .fl ds, _, _, e, h => by
    simp only [toPy, Option.map_eq_some_iff] at e
    obtain ⟨ps, e, rfl⟩ := e
    cases h with
    | fl h1 h2 =>
      rcases h1 with ⟨o, h1⟩ | h1
      · exact .lst (.inl (.inr ⟨o, h1⟩)) (toPys_ok ds ps _ e h2)
      · exact .lst (.inr h1) (toPys_ok ds ps _ e h2)
  | .ref _, _, _, e, _ => by simp [toPy] at e
  | .fn _, _, _, e, _ => by simp [toPy] at e
theorem toPys_ok : ∀ (ds : List D) (ps : List PyData) (vs : List V), toPys ds = some ps → RDs K μ H ds vs → DpAll K H vs ps
  | [], _, _, e, h => by cases h; simp [toPys] at e; subst e; exact .nil
  | d :: ds, ps, _, e, h => by
    cases h with
    | cons h1 h2 =>
      unfold toPys at e
      split at e
      · rename_i p ps' e1 e2
        cases e
        exact .cons (toPy_ok d p _ e1 h1) (toPys_ok ds ps' _ e2 h2)
      · cases e
end
theorem toPyS_ok {d : D} {p : PyData} {v : V} (e : toPyS S d = some p) (r : Rel K μ S H) (h : RD K μ H d v) : Dp K H v p := by
  cases d with
  | ref n =>
    unfold toPyS at e
    simp only at e
    split at e
    · rename_i ds hs
      simp only [Option.map_eq_some_iff] at e
      obtain ⟨ps, e, rfl⟩ := e
      cases h with
      | @ref _ a h1 =>
        obtain ⟨vs, q, z⟩ := r.obj n a _ h1 (atL_ok hs)
        exact .lst (.inl (.inl q)) (toPys_ok ds ps _ e z)
    · cases e
  | _ => exact toPy_ok _ _ _ e h
end
/-- pairs that == serves: data, one of them not too deep -/
def okEq (p q : PyData) : Bool := p.canLay0 && q.canLay0 && decide (min p.depth q.depth ≤ 480)
theorem okEq_ok {p q : PyData} (h : okEq p q = true) : p.canLay0 = true ∧ q.canLay0 = true ∧ min p.depth q.depth ≤ 480 := by
  unfold okEq at h
  simp only [Bool.and_eq_true, decide_eq_true_eq] at h
  exact ⟨h.1.1, h.1.2, h.2⟩
/-- the answer of ==, where the model tells one -/
def eqD (S : Sto) (x y : D) : Option Bool := match x, y with
  | .str a, .str b => some (decide (a = b))
  | .int a, .int b => some (decide (a = b))
  | .bl a, .bl b => some (decide (a = b))
  | .non, .non => some true
  | .non, .int _ => some false
  | .int _, .non => some false
  | .non, .str _ => some false
  | .str _, .non => some false
  | .int _, .str _ => some false
  | .str _, .int _ => some false
  | x, y => match toPyS S x, toPyS S y with
    | some p, some q => if okEq p q = true then some (PyData.eqv p q) else none
    | _, _ => none
def gEq (x y : D) : M D := fun S => match eqD S x y with
  | some b => .ok (.bl b) S
  | none => .bad
def gNe (x y : D) : M D := fun S => match eqD S x y with
  | some b => .ok (.bl (!b)) S
  | none => .bad
theorem eqD_ok {K : PySem.W.Frag} {μ : Mu} {S : Sto} {H : Hp} {x y : D} {v w : V} {b : Bool} (e : eqD S x y = some b) (r : Rel K μ S H) (rx : RD K μ H x v) (ry : RD K μ H y w) :
    (scal v w = true ∧ b = decide (v = w)) ∨ ∃ p q, Dp K H v p ∧ Dp K H w q ∧ okEq p q = true ∧ b = PyData.eqv p q := by
  unfold eqD at e
  split at e
  iterate 10 (· cases rx; cases ry; cases e; refine .inl ⟨rfl, ?_⟩; first | rfl | (simp; done))
  split at e
  · rename_i p q hp hq
    split at e
    · rename_i hs
      cases e
      exact .inr ⟨p, q, toPyS_ok hp r rx, toPyS_ok hq r ry, hs, rfl⟩
    · cases e
  · cases e
section
variable {X : Cx} {W : WX} {pos : Pos}
def rEqW (K : PySem.W.Frag) : R2 := fun x y H Q => ∃ d e, Dp K H x d ∧ Dp K H y e ∧ okEq d e = true ∧ Q (.bl (PyData.eqv d e)) H
def rNeW (K : PySem.W.Frag) : R2 := fun x y H Q => ∃ d e, Dp K H x d ∧ Dp K H y e ∧ okEq d e = true ∧ Q (.bl (!PyData.eqv d e)) H
theorem op_eqW (hu : X.A.units + 500 < cLine) : OpR X (compareOp .Eq) (rEqW X.K) := by
  rintro pins s σ H x y v u Q I rx ry ⟨d, e, hd, he, ok, q⟩
  obtain ⟨_, r1⟩ := Dp.reads I d x v hd rx
  obtain ⟨_, r2⟩ := Dp.reads I e y u he ry
  obtain ⟨c1, c2, c3⟩ := okEq_ok ok
  exact SeqAt.compareEq_reads r1 r2 c1 c2 (by omega) ⟨.bl _, H, I, rfl, q⟩
theorem op_neW (hu : X.A.units + 500 < cLine) : OpR X (compareOp .NotEq) (rNeW X.K) := by
  rintro pins s σ H x y v u Q I rx ry ⟨d, e, hd, he, ok, q⟩
  obtain ⟨_, r1⟩ := Dp.reads I d x v hd rx
  obtain ⟨_, r2⟩ := Dp.reads I e y u he ry
  obtain ⟨c1, c2, c3⟩ := okEq_ok ok
  exact SeqAt.compareNe_reads r1 r2 c1 c2 (by omega) ⟨.bl _, H, I, rfl, q⟩
theorem room_w {k : Nat} {A : Around} (r : Room (k + 20) A) : A.units + 500 < cLine := by have := r.un; omega
theorem o_eq (hu : X.A.units + 500 < cLine) : ORD X W (compareOp .Eq) gEq := by
  refine ⟨_, op_eq.or (op_eqW hu), fun x y v w μ S σ H Q r rx ry h => ?_⟩
  unfold gEq at h
  split at h
  · rename_i b e
    rcases eqD_ok e r rx ry with ⟨z, rfl⟩ | ⟨p, q, h1, h2, h3, rfl⟩
    · exact .inl ⟨z, h.now r _ (.bl _)⟩
    · exact .inr ⟨p, q, h1, h2, h3, h.now r _ (.bl _)⟩
  · exact h.elim
theorem o_ne (hu : X.A.units + 500 < cLine) : ORD X W (compareOp .NotEq) gNe := by
  refine ⟨_, op_ne.or (op_neW hu), fun x y v w μ S σ H Q r rx ry h => ?_⟩
  unfold gNe at h
  split at h
  · rename_i b e
    rcases eqD_ok e r rx ry with ⟨z, rfl⟩ | ⟨p, q, h1, h2, h3, rfl⟩
    · exact .inl ⟨z, h.now r _ (.bl _)⟩
    · exact .inr ⟨p, q, h1, h2, h3, h.now r _ (.bl _)⟩
  · exact h.elim

/-! is None, is True -/
def gIs (x y : D) : M D := fun S => match x, y with
  | .bl a, .bl b => .ok (.bl (decide (a = b))) S
  | .non, .non => .ok (.bl true) S
  | _, .non => .ok (.bl false) S
  | _, _ => .bad
def gIsNot (x y : D) : M D := fun S => match x, y with
  | .bl a, .bl b => .ok (.bl (!decide (a = b))) S
  | .non, .non => .ok (.bl false) S
  | _, .non => .ok (.bl true) S
  | _, _ => .bad
theorem o_is : ORD X W (compareOp .Is) gIs := by
  refine ⟨_, op_isBl.or op_isN, fun x y v w μ S σ H Q r rx ry h => ?_⟩
  unfold gIs at h
  split at h
  · cases rx; cases ry
    exact .inl ⟨_, _, rfl, rfl, h.now r _ (.bl _)⟩
  · cases rx; cases ry
    exact .inr ⟨rfl, by simpa using h.now r _ (.bl _)⟩
  · rename_i hx
    cases ry
    have : decide (v = V.non) = false := by
      cases rx <;> first | rfl | exact absurd rfl (by assumption)
    exact .inr ⟨rfl, by rw [this]; exact h.now r _ (.bl _)⟩
  · exact h.elim
theorem o_isnot : ORD X W (compareOp .IsNot) gIsNot := by
  refine ⟨_, op_notBl.or op_notN, fun x y v w μ S σ H Q r rx ry h => ?_⟩
  unfold gIsNot at h
  split at h
  · cases rx; cases ry
    exact .inl ⟨_, _, rfl, rfl, h.now r _ (.bl _)⟩
  · cases rx; cases ry
    exact .inr ⟨rfl, by simpa using h.now r _ (.bl _)⟩
  · rename_i hx
    cases ry
    have : decide (v = V.non) = false := by
      cases rx <;> first | rfl | exact absurd rfl (by assumption)
    exact .inr ⟨rfl, by rw [this]; exact h.now r _ (.bl _)⟩
  · exact h.elim

/-! in -/
def flatD : D → Option V
  | .non => some .non
  | .bl b => some (.bl b)
  | .int i => some (.int i)
  | .str x => some (.str x)
  | _ => none
def flatDs : List D → Option (List V)
  | [] => some []
  | d :: ds => match flatD d, flatDs ds with
    | some v, some vs => some (v :: vs)
    | _, _ => none
theorem flatD_ok {K : PySem.W.Frag} {μ : Mu} {H : Hp} {d : D} {v w : V} (e : flatD d = some w) (h : RD K μ H d v) : v = w ∧ flatV w = true := by
  cases h <;> first | (cases e; exact ⟨rfl, rfl⟩) | cases e
theorem flatDs_ok {K : PySem.W.Frag} {μ : Mu} {H : Hp} : ∀ {ds : List D} {vs ws : List V}, flatDs ds = some ws → RDs K μ H ds vs → vs = ws ∧ ws.all flatV = true
  | [], _, _, e, h => by cases h; cases e; exact ⟨rfl, rfl⟩
  | d :: ds, _, _, e, h => by
    cases h with
    | cons h1 h2 =>
      unfold flatDs at e
      split at e
      · rename_i v' vs' e1 e2
        cases e
        obtain ⟨rfl, f1⟩ := flatD_ok e1 h1
        obtain ⟨rfl, f2⟩ := flatDs_ok e2 h2
        exact ⟨rfl, by simp only [List.all_cons, f1, f2, Bool.and_self]⟩
      · cases e
/-- the items of a list or a tuple, as data -/
def itemsPy (S : Sto) (d : D) : Option (Bool × List PyData) := match d with
  | .tup ds => (toPys ds).map (false, ·)
  | .lst ds => (toPys ds).map (true, ·)
  | .fl ds => (toPys ds).map (true, ·)
  | .ref n => match atL S n with
    | some ds => (toPys ds).map (true, ·)
    | none => none
  | _ => none
theorem itemsPy_ok {K : PySem.W.Frag} {μ : Mu} {S : Sto} {H : Hp} {d : D} {v : V} {b : Bool} {ps : List PyData} (e : itemsPy S d = some (b, ps)) (r : Rel K μ S H) (h : RD K μ H d v) : Dp K H v (if b = true then .list ps else .tuple ps) := by
  unfold itemsPy at e
  cases d with
  | tup ds =>
    simp only [Option.map_eq_some_iff] at e
    obtain ⟨p, e, q⟩ := e
    cases q
    rw [if_neg Bool.false_ne_true]
    exact toPy_ok (.tup ds) _ v (by simp only [toPy, e, Option.map_some]) h
  | lst ds =>
    simp only [Option.map_eq_some_iff] at e
    obtain ⟨p, e, q⟩ := e
    cases q
    rw [if_pos rfl]
    exact toPy_ok (.lst ds) _ v (by simp only [toPy, e, Option.map_some]) h
  | fl ds =>
    simp only [Option.map_eq_some_iff] at e
    obtain ⟨p, e, q⟩ := e
    cases q
    rw [if_pos rfl]
    exact toPy_ok (.fl ds) _ v (by simp only [toPy, e, Option.map_some]) h
  | ref n =>
    simp only at e
    split at e
    · rename_i ds hs
      simp only [Option.map_eq_some_iff] at e
      obtain ⟨p, e, q⟩ := e
      cases q
      rw [if_pos rfl]
      exact toPyS_ok (d := .ref n) (by simp only [toPyS, hs, e, Option.map_some]) r h
    · cases e
  | _ => cases e
def okIn (ps : List PyData) (p : PyData) : Bool := PyData.canLayAll0 ps && p.canLay0 && decide (min (PyData.depthAll ps) p.depth ≤ 480)
/-- the answer of in -/
def inD (S : Sto) (x y : D) : Option Bool := match x, y with
  | .str a, .str b => some (!(Builtin.Str.occurrences b a 0 b.length 1).isEmpty)
  | x, y => match flatD x, (iLst S y).bind flatDs with
    | some v, some vs => some (inV v vs)
    | _, _ => match toPyS S x, itemsPy S y with
      | some p, some (_, ps) => if okIn ps p = true then some (ps.any fun z => PyData.eqv z p) else none
      | _, _ => none
def gIn (x y : D) : M D := fun S => match inD S x y with
  | some b => .ok (.bl b) S
  | none => .bad
def gNotIn (x y : D) : M D := fun S => match inD S x y with
  | some b => .ok (.bl (!b)) S
  | none => .bad
theorem inD_ok {K : PySem.W.Frag} {μ : Mu} {S : Sto} {H : Hp} {x y : D} {v w : V} {b : Bool} (e : inD S x y = some b) (r : Rel K μ S H) (rx : RD K μ H x v) (ry : RD K μ H y w) :
    (∃ i j, v = .str i ∧ w = .str j ∧ b = !(Builtin.Str.occurrences j i 0 j.length 1).isEmpty) ∨
    (∃ p xs, w = .ref p ∧ (SqL K H p xs ∨ SqT K H p xs) ∧ flatV v = true ∧ xs.all flatV = true ∧ b = inV v xs) ∨
    ∃ p ps, Dp K H v p ∧ (Dp K H w (.list ps) ∨ Dp K H w (.tuple ps)) ∧ okIn ps p = true ∧ b = ps.any fun z => PyData.eqv z p := by
  unfold inD at e
  split at e
  · cases rx; cases ry; cases e
    exact .inl ⟨_, _, rfl, rfl, rfl⟩
  · split at e
    · rename_i v' vs' e1 e2
      cases e
      rw [Option.bind_eq_some_iff] at e2
      obtain ⟨ds, e2, e3⟩ := e2
      obtain ⟨rfl, f1⟩ := flatD_ok e1 rx
      obtain ⟨a, us, rfl, q, z⟩ := iLst_ok e2 r ry
      obtain ⟨rfl, f2⟩ := flatDs_ok e3 z
      exact .inr (.inl ⟨a, _, rfl, q, f1, f2, rfl⟩)
    · split at e
      · rename_i p b' ps e1 e2
        split at e
        · rename_i ok
          cases e
          have h1 := itemsPy_ok e2 r ry
          refine .inr (.inr ⟨p, ps, toPyS_ok e1 r rx, ?_, ok, rfl⟩)
          cases b' with
          | true => exact .inl h1
          | false => exact .inr h1
        · cases e
      · cases e
def rInW (neg : Bool) (K : PySem.W.Frag) : R2 := fun x y H Q => ∃ d ds, Dp K H x d ∧ (Dp K H y (.list ds) ∨ Dp K H y (.tuple ds)) ∧ okIn ds d = true ∧ Q (.bl (if neg = true then !ds.any (fun z => PyData.eqv z d) else ds.any fun z => PyData.eqv z d)) H
theorem okIn_ok {ps : List PyData} {p : PyData} (h : okIn ps p = true) : PyData.canLayAll0 ps = true ∧ p.canLay0 = true ∧ min (PyData.depthAll ps) p.depth ≤ 480 := by
  unfold okIn at h
  simp only [Bool.and_eq_true, decide_eq_true_eq] at h
  exact ⟨h.1.1, h.1.2, h.2⟩
theorem op_inW (hu : X.A.units + 500 < cLine) : OpR X (compareOp .In) (rInW false X.K) := by
  rintro pins s σ H x y v u Q I rx ry ⟨d, ds, hd, he, ok, q⟩
  obtain ⟨_, r1⟩ := Dp.reads I d x v hd rx
  obtain ⟨c1, c2, c3⟩ := okIn_ok ok
  rcases he with he | he
  · obtain ⟨_, r2⟩ := Dp.reads I (.list ds) y u he ry
    exact SeqAt.in_list_reads r2 r1 c1 c2 (by omega) ⟨.bl _, H, I, rfl, q⟩
  · obtain ⟨_, r2⟩ := Dp.reads I (.tuple ds) y u he ry
    exact SeqAt.in_tuple_reads r2 r1 c1 c2 (by omega) ⟨.bl _, H, I, rfl, q⟩
theorem op_notinW (hu : X.A.units + 500 < cLine) : OpR X (compareOp .NotIn) (rInW true X.K) := by
  rintro pins s σ H x y v u Q I rx ry ⟨d, ds, hd, he, ok, q⟩
  obtain ⟨_, r1⟩ := Dp.reads I d x v hd rx
  obtain ⟨c1, c2, c3⟩ := okIn_ok ok
  rcases he with he | he
  · obtain ⟨_, r2⟩ := Dp.reads I (.list ds) y u he ry
    exact SeqAt.notIn_list_reads r2 r1 c1 c2 (by omega) ⟨.bl _, H, I, rfl, q⟩
  · obtain ⟨_, r2⟩ := Dp.reads I (.tuple ds) y u he ry
    exact SeqAt.notIn_tuple_reads r2 r1 c1 c2 (by omega) ⟨.bl _, H, I, rfl, q⟩
theorem o_in (hu : X.A.units + 500 < cLine) : ORD X W (compareOp .In) gIn := by
  refine ⟨_, op_in_str.or (op_in_seq.or (op_inW hu)), fun x y v w μ S σ H Q r rx ry h => ?_⟩
  unfold gIn at h
  split at h
  · rename_i b e
    rcases inD_ok e r rx ry with ⟨i, j, rfl, rfl, rfl⟩ | ⟨p, xs, rfl, q, f1, f2, rfl⟩ | ⟨p, ps, h1, h2, ok, rfl⟩
    · exact .inl ⟨_, _, rfl, rfl, h.now r _ (.bl _)⟩
    · exact .inr (.inl ⟨_, _, rfl, q, f1, f2, h.now r _ (.bl _)⟩)
    · exact .inr (.inr ⟨p, ps, h1, h2, ok, h.now r _ (.bl _)⟩)
  · exact h.elim
theorem o_notin (hu : X.A.units + 500 < cLine) : ORD X W (compareOp .NotIn) gNotIn := by
  refine ⟨_, op_notin_str.or (op_notIn_seq.or (op_notinW hu)), fun x y v w μ S σ H Q r rx ry h => ?_⟩
  unfold gNotIn at h
  split at h
  · rename_i b e
    rcases inD_ok e r rx ry with ⟨i, j, rfl, rfl, rfl⟩ | ⟨p, xs, rfl, q, f1, f2, rfl⟩ | ⟨p, ps, h1, h2, ok, rfl⟩
    · exact .inl ⟨_, _, rfl, rfl, h.now r _ (.bl _)⟩
    · exact .inr (.inl ⟨_, _, rfl, q, f1, f2, h.now r _ (.bl _)⟩)
    · exact .inr (.inr ⟨p, ps, h1, h2, ok, h.now r _ (.bl _)⟩)
  · exact h.elim
end
end DL

/-! DL3: tests, displays, calls of built-ins, methods, subscripts, slices. -/
namespace DL
open PySem L2

def gTruth (d : D) : M Bool := fun S => match d with
  | .bl b => .ok b S
  | .non => .ok false S
  | .int i => .ok (i != 0) S
  | .str x => if x.length ≤ sizeLine then .ok ((x.length : Int) != 0) S else .bad
  | d => match iLst S d with
    | some ds => .ok (!ds.isEmpty) S
    | none => .bad
def asBl : D → M Bool
  | .bl b => ret b
  | _ => stuck
def eT (a : EvD) : EvB := fun ρ => bnd (a ρ) gTruth
def eTb (a : EvD) : EvB := fun ρ => bnd (a ρ) asBl
def bAnd (a b : EvB) : EvB := fun ρ => bnd (a ρ) fun c => if c = true then b ρ else ret false
def bOr (a b : EvB) : EvB := fun ρ => bnd (a ρ) fun c => if c = true then ret true else b ρ
def bNot (a : EvB) : EvB := fun ρ => bnd (a ρ) fun c => ret (!c)
def eIf (c : EvB) (a b : EvD) : EvD := fun ρ => bnd (c ρ) fun k => if k = true then a ρ else b ρ
def eAnd (a b : EvD) : EvD := fun ρ => bnd (a ρ) fun x => match x with
  | .bl true => b ρ
  | .bl false => ret (.bl false)
  | _ => stuck
def eOr (a b : EvD) : EvD := fun ρ => bnd (a ρ) fun x => match x with
  | .bl true => ret (.bl true)
  | .bl false => b ρ
  | _ => stuck
def eNot (a : EvD) : EvD := fun ρ => bnd (a ρ) fun x => match x with
  | .bl c => ret (.bl (!c))
  | _ => stuck
def aNil : EvL := fun _ => ret []
def aCons (a : EvD) (as : EvL) : EvL := fun ρ => bnd (a ρ) fun x => bnd (as ρ) fun xs => ret (x :: xs)
def eTup (as : EvL) : EvD := fun ρ => bnd (as ρ) fun ds S => if ds.length ≤ sizeLine then .ok (.tup ds) S else .bad
def eLst (as : EvL) : EvD := fun ρ => bnd (as ρ) fun ds S => if ds.length ≤ sizeLine then .ok (.lst ds) S else .bad
/-- a list that will change -/
def eLstM (as : EvL) : EvD := fun ρ => bnd (as ρ) fun ds S => if ds.length ≤ sizeLine then .ok (.ref S.length) (S ++ [.lst ds]) else .bad
def eCall (g : List D → M D) (as : EvL) : EvD := fun ρ => bnd (as ρ) g
/-- e1 < e2 < e3 -/
def eChain (g g' : D → D → M D) (a b c : EvD) : EvD := fun ρ => bnd (a ρ) fun x => bnd (b ρ) fun y => bnd (g x y) fun z => match z with
  | .bl true => bnd (c ρ) fun w => g' y w
  | .bl false => ret (.bl false)
  | _ => stuck

theorem new_ref {K : PySem.W.Frag} {μ : Mu} {S : Sto} {H H' : Hp} {p : Addr} (r : Rel K μ S H) : RD K (μ.push p) H' (.ref S.length) (.ref p) := .ref (by rw [← r.len]; simp [Mu.push])
section
variable {X : Cx} {W : WX} {pos : Pos}
theorem truth_ok {K : PySem.W.Frag} {mg : Str → Option Value} {μ : Mu} {S : Sto} {σ : L2.St} {H : Hp} {d : D} {v : V} {Q : Bool → Hp → Prop} (r : Rel K μ S H) (h : RD K μ H d v) (q : Post K mg W μ σ H (gTruth d S) (fun b _ H' => Q b H')) : ∃ k, TruV K v H k ∧ Q k H := by
  unfold gTruth at q
  split at q
  · cases h; exact ⟨_, rfl, q.now r⟩
  · cases h; exact ⟨_, rfl, q.now r⟩
  · cases h; exact ⟨_, rfl, q.now r⟩
  · cases h
    split at q
    · rename_i hl; exact ⟨_, ⟨hl, rfl⟩, q.now r⟩
    · exact q.elim
  · split at q
    · rename_i ds e
      obtain ⟨a, vs, rfl, qq, z⟩ := iLst_ok e r h
      have eq : (!ds.isEmpty) = !vs.isEmpty := by
        have := z.length
        cases ds <;> cases vs <;> simp_all
      refine ⟨_, ?_, q.now r⟩
      rcases qq with qq | qq
      · exact .inl ⟨vs, qq, eq⟩
      · exact .inr (.inl ⟨vs, qq, eq⟩)
    · exact q.elim
theorem t_truth {a : Expr} {ta : EvD} (ha : PE X a (tD X.K X.mg W ta)) (he : ∀ whole, isTrue a X.env whole = (do let v ← whole; standAt a.pos; holding [v] (truthy v)) := by intro _; rfl) : PT X a (tT X.K X.mg W (eT ta)) := by
  refine PT.imp (pt_truth ha he) fun σ H Q ⟨ρ, S, μ, e, s, h⟩ => ?_
  exact ⟨ρ, S, μ, e, s, h.bnd fun x S1 μ1 H1 s1 r1 h1 v rv => truth_ok r1 rv h1⟩
theorem asBl_ok {K : PySem.W.Frag} {mg : Str → Option Value} {μ : Mu} {S : Sto} {σ : L2.St} {H : Hp} {d : D} {v : V} {Q : Bool → Hp → Prop} (r : Rel K μ S H) (h : RD K μ H d v) (q : Post K mg W μ σ H (asBl d S) (fun b _ H' => Q b H')) : ∃ k, v = .bl k ∧ Q k H := by
  unfold asBl at q
  split at q
  · cases h; exact ⟨_, rfl, q.now r⟩
  · exact q.elim
theorem t_cmp {a b : Expr} {op : CmpOp} {g : D → D → M D} {ta tb : EvD} (o : ORD X W (compareOp op) g) (ha : PE X a (tD X.K X.mg W ta)) (hb : PE X b (tD X.K X.mg W tb)) (hm : behindInMarks op b = false) : PT X (.Compare a [op] [b] pos) (tT X.K X.mg W (eTb (eBin g ta tb))) := by
  obtain ⟨r, ho, hr⟩ := o
  refine PT.imp (pt_cmpR ho ha hb hm) fun σ H Q ⟨ρ, S, μ, e, s, h⟩ => ?_
  refine bin_ok hr ⟨ρ, S, μ, e, s, ?_⟩
  exact h.bnd fun x S1 μ1 H1 s1 r1 h1 v rv => asBl_ok r1 rv h1
theorem t_not {a : Expr} {ta : EvB} (ha : PT X a (tT X.K X.mg W ta)) : PT X (.UnaryOp .Not a pos) (tT X.K X.mg W (bNot ta)) := by
  refine PT.imp (pt_not ha) fun σ H Q ⟨ρ, S, μ, e, s, h⟩ => ?_
  exact ⟨ρ, S, μ, e, s, h.bnd fun x S1 μ1 H1 s1 r1 h1 => h1.now r1⟩
theorem w_one_and {a : Expr} {ta : EvB} (ha : PT X a (tT X.K X.mg W ta)) : PW X (.BoolOp .And [a] pos) (tT X.K X.mg W ta) := pw_and1 ha
theorem w_one_or {a : Expr} {ta : EvB} (ha : PT X a (tT X.K X.mg W ta)) : PW X (.BoolOp .Or [a] pos) (tT X.K X.mg W ta) := pw_or1 ha
theorem w_and {a b : Expr} {rest : List Expr} {ta tb : EvB} (ha : PT X a (tT X.K X.mg W ta)) (hb : PW X (.BoolOp .And (b :: rest) pos) (tT X.K X.mg W tb)) : PW X (.BoolOp .And (a :: b :: rest) pos) (tT X.K X.mg W (bAnd ta tb)) := by
  refine PW.imp (pw_and ha hb) fun σ H Q ⟨ρ, S, μ, e, s, h⟩ => ?_
  refine ⟨ρ, S, μ, e, s, h.bnd fun x S1 μ1 H1 s1 r1 h1 => ?_⟩
  cases x with
  | true => rw [if_pos rfl] at h1 ⊢; exact ⟨ρ, S1, μ1, e.step s s1, r1, h1⟩
  | false => rw [if_neg Bool.false_ne_true] at h1 ⊢; exact h1.now r1
theorem w_or {a b : Expr} {rest : List Expr} {ta tb : EvB} (ha : PT X a (tT X.K X.mg W ta)) (hb : PW X (.BoolOp .Or (b :: rest) pos) (tT X.K X.mg W tb)) : PW X (.BoolOp .Or (a :: b :: rest) pos) (tT X.K X.mg W (bOr ta tb)) := by
  refine PW.imp (pw_or ha hb) fun σ H Q ⟨ρ, S, μ, e, s, h⟩ => ?_
  refine ⟨ρ, S, μ, e, s, h.bnd fun x S1 μ1 H1 s1 r1 h1 => ?_⟩
  cases x with
  | true => rw [if_pos rfl] at h1 ⊢; exact h1.now r1
  | false => rw [if_neg Bool.false_ne_true] at h1 ⊢; exact ⟨ρ, S1, μ1, e.step s s1, r1, h1⟩
theorem d_ifExp {c a b : Expr} {tc : EvB} {ta tb : EvD} (hc : PT X c (tT X.K X.mg W tc)) (ha : PE X a (tD X.K X.mg W ta)) (hb : PE X b (tD X.K X.mg W tb)) : PE X (.IfExp c a b pos) (tD X.K X.mg W (eIf tc ta tb)) := by
  refine PE.imp (pe_ifExp hc ha hb) fun σ H Q ⟨ρ, S, μ, e, s, h⟩ => ?_
  refine ⟨ρ, S, μ, e, s, h.bnd fun x S1 μ1 H1 s1 r1 h1 => ?_⟩
  cases x with
  | true => rw [if_pos rfl] at h1 ⊢; exact ⟨ρ, S1, μ1, e.step s s1, r1, h1⟩
  | false => rw [if_neg Bool.false_ne_true] at h1 ⊢; exact ⟨ρ, S1, μ1, e.step s s1, r1, h1⟩
theorem d_one {op : BoolOp} {a : Expr} {ta : EvD} (ha : PE X a (tD X.K X.mg W ta)) : PE X (.BoolOp op [a] pos) (tD X.K X.mg W ta) := pe_one ha
theorem d_and {a b : Expr} {rest : List Expr} {ta tb : EvD} (ha : PE X a (tD X.K X.mg W ta)) (hb : PE X (.BoolOp .And (b :: rest) pos) (tD X.K X.mg W tb)) : PE X (.BoolOp .And (a :: b :: rest) pos) (tD X.K X.mg W (eAnd ta tb)) := by
  refine PE.imp (pe_and ha hb) fun σ H Q ⟨ρ, S, μ, e, s, h⟩ => ?_
  refine ⟨ρ, S, μ, e, s, h.bnd fun x S1 μ1 H1 s1 r1 h1 v rv => ?_⟩
  split at h1
  · cases rv; exact ⟨true, rfl, by rw [if_pos rfl]; exact ⟨ρ, S1, μ1, e.step s s1, r1, h1⟩⟩
  · cases rv; exact ⟨false, rfl, by rw [if_neg Bool.false_ne_true]; exact h1.now r1 _ (.bl _)⟩
  · exact h1.elim
theorem d_or {a b : Expr} {rest : List Expr} {ta tb : EvD} (ha : PE X a (tD X.K X.mg W ta)) (hb : PE X (.BoolOp .Or (b :: rest) pos) (tD X.K X.mg W tb)) : PE X (.BoolOp .Or (a :: b :: rest) pos) (tD X.K X.mg W (eOr ta tb)) := by
  refine PE.imp (pe_or ha hb) fun σ H Q ⟨ρ, S, μ, e, s, h⟩ => ?_
  refine ⟨ρ, S, μ, e, s, h.bnd fun x S1 μ1 H1 s1 r1 h1 v rv => ?_⟩
  split at h1
  · cases rv; exact ⟨true, rfl, by rw [if_pos rfl]; exact h1.now r1 _ (.bl _)⟩
  · cases rv; exact ⟨false, rfl, by rw [if_neg Bool.false_ne_true]; exact ⟨ρ, S1, μ1, e.step s s1, r1, h1⟩⟩
  · exact h1.elim
theorem d_not {a : Expr} {ta : EvD} (ha : PE X a (tD X.K X.mg W ta)) : PE X (.UnaryOp .Not a pos) (tD X.K X.mg W (eNot ta)) := by
  refine PE.imp (pe_not ha) fun σ H Q ⟨ρ, S, μ, e, s, h⟩ => ?_
  refine ⟨ρ, S, μ, e, s, h.bnd fun x S1 μ1 H1 s1 r1 h1 v rv => ?_⟩
  split at h1
  · cases rv; exact ⟨_, rfl, h1.now r1 _ (.bl _)⟩
  · exact h1.elim
theorem a_nil : PA X [] (tA X.K X.mg W aNil) := PA.imp pa_nil fun σ H Q ⟨ρ, S, μ, e, s, h⟩ => h.now s _ .nil
theorem a_cons {e : Expr} {es : List Expr} {te : EvD} {t : EvL} (ha : PE X e (tD X.K X.mg W te)) (hr : PA X es (tA X.K X.mg W t)) (hs : starEach (e :: es) X.env = (false, eval e X.env) :: starEach es X.env := by rfl) : PA X (e :: es) (tA X.K X.mg W (aCons te t)) := by
  refine PA.imp (pa_cons ha hr hs) fun σ H Q ⟨ρ, S, μ, e, s, h⟩ => ?_
  refine ⟨ρ, S, μ, e, s, h.bnd fun x S1 μ1 H1 s1 r1 h1 v rv => ?_⟩
  exact ⟨ρ, S1, μ1, e.step s s1, r1, h1.bnd fun xs S2 μ2 H2 s2 r2 h2 vs rvs => h2.now r2 _ (.cons (rv.step r1 s2) rvs)⟩
theorem d_tup {es : List Expr} {t : EvL} {k : Nat} (h : PA X es (tA X.K X.mg W t)) : PE X (.Tuple es k pos) (tD X.K X.mg W (eTup t)) := by
  refine PE.imp (pe_tup h) fun σ H Q ⟨ρ, S, μ, e, s, h⟩ => ?_
  refine ⟨ρ, S, μ, e, s, h.bnd fun xs S1 μ1 H1 s1 r1 h1 vs rvs => ?_⟩
  split at h1
  · rename_i hl
    exact ⟨by rw [← rvs.length]; exact hl, fun p hp => h1 μ1 _ (Stp.new hp) (r1.new hp) _ (.tup (.inl (.inl upd_same)) (rvs.step r1 (Stp.new hp)))⟩
  · exact h1.elim
theorem d_lst {es : List Expr} {t : EvL} (h : PA X es (tA X.K X.mg W t)) : PE X (.List es pos) (tD X.K X.mg W (eLst t)) := by
  refine PE.imp (pe_lst h) fun σ H Q ⟨ρ, S, μ, e, s, h⟩ => ?_
  refine ⟨ρ, S, μ, e, s, h.bnd fun xs S1 μ1 H1 s1 r1 h1 vs rvs => ?_⟩
  split at h1
  · rename_i hl
    exact ⟨by rw [← rvs.length]; exact hl, fun p hp => h1 μ1 _ (Stp.new hp) (r1.new hp) _ (.lst upd_same ⟨fun z => r1.there z hp, fun z => r1.hid _ z hp⟩ (rvs.step r1 (Stp.new hp)))⟩
  · exact h1.elim
theorem d_lstM {es : List Expr} {t : EvL} (h : PA X es (tA X.K X.mg W t)) : PE X (.List es pos) (tD X.K X.mg W (eLstM t)) := by
  refine PE.imp (pe_lst h) fun σ H Q ⟨ρ, S, μ, e, s, h⟩ => ?_
  refine ⟨ρ, S, μ, e, s, h.bnd fun xs S1 μ1 H1 s1 r1 h1 vs rvs => ?_⟩
  split at h1
  · rename_i hl
    refine ⟨by rw [← rvs.length]; exact hl, fun p hp => ?_⟩
    exact h1 (μ1.push p) _ (Stp.alloc hp) (r1.alloc hp ⟨vs, upd_same, rvs.step r1 (Stp.alloc hp)⟩) _ (new_ref r1)
  · exact h1.elim
theorem d_chain {a b c : Expr} {op op' : CmpOp} {g g' : D → D → M D} {ta tb tc : EvD} (o : ORD X W (compareOp op) g) (o' : ORD X W (compareOp op') g') (ha : PE X a (tD X.K X.mg W ta)) (hb : PE X b (tD X.K X.mg W tb)) (hc : PE X c (tD X.K X.mg W tc))
    (hm : lastMarks [op, op'] [b, c] = false) : PE X (.Compare a [op, op'] [b, c] pos) (tD X.K X.mg W (eChain g g' ta tb tc)) := by
  obtain ⟨r, ho, hr⟩ := o
  obtain ⟨r', ho', hr'⟩ := o'
  refine PE.imp (pe_chain ho ho' ha hb hc hm) fun σ H Q ⟨ρ, S, μ, e, s, h⟩ => ?_
  refine ⟨ρ, S, μ, e, s, h.bnd fun x S1 μ1 H1 s1 r1 h1 v rv => ?_⟩
  refine ⟨ρ, S1, μ1, e.step s s1, r1, h1.bnd fun y S2 μ2 H2 s2 r2 h2 w rw => ?_⟩
  refine hr _ _ _ _ μ2 S2 σ H2 _ r2 (rv.step r1 s2) rw (h2.bnd fun z S3 μ3 H3 s3 r3 h3 u ru => ?_)
  split at h3
  · cases ru
    refine ⟨true, rfl, ?_⟩
    rw [if_pos rfl]
    refine ⟨ρ, S3, μ3, ((e.step s s1).step r1 s2).step r2 s3, r3, h3.bnd fun q S4 μ4 H4 s4 r4 h4 uu ruu => ?_⟩
    exact hr' _ _ _ _ μ4 S4 σ H4 Q r4 ((rw.step r2 s3).step r3 s4) ruu h4
  · cases ru
    refine ⟨false, rfl, ?_⟩
    rw [if_neg Bool.false_ne_true]
    exact h3.now r3 _ (.bl _)
  · exact h3.elim

theorem chain_ok {r r' : R2} {g g' : D → D → M D} {ta tb tc : EvD} {σ : L2.St} {H : Hp} {Q : VK} (hr : ∀ x y v w μ S σ H Q, Rel X.K μ S H → RD X.K μ H x v → RD X.K μ H y w → Post X.K X.mg W μ σ H (g x y S) (QD X.K Q) → r v w H Q)
    (hr' : ∀ x y v w μ S σ H Q, Rel X.K μ S H → RD X.K μ H x v → RD X.K μ H y w → Post X.K X.mg W μ σ H (g' x y S) (QD X.K Q) → r' v w H Q) (hh : tD X.K X.mg W (eChain g g' ta tb tc) σ H Q) : tChain r r' (tD X.K X.mg W ta) (tD X.K X.mg W tb) (tD X.K X.mg W tc) σ H Q := by
  obtain ⟨ρ, S, μ, e, s, h⟩ := hh
  refine ⟨ρ, S, μ, e, s, h.bnd fun x S1 μ1 H1 s1 r1 h1 v rv => ?_⟩
  refine ⟨ρ, S1, μ1, e.step s s1, r1, h1.bnd fun y S2 μ2 H2 s2 r2 h2 w rw => ?_⟩
  refine hr _ _ _ _ μ2 S2 σ H2 _ r2 (rv.step r1 s2) rw (h2.bnd fun z S3 μ3 H3 s3 r3 h3 u ru => ?_)
  split at h3
  · cases ru
    refine ⟨true, rfl, ?_⟩
    rw [if_pos rfl]
    refine ⟨ρ, S3, μ3, ((e.step s s1).step r1 s2).step r2 s3, r3, h3.bnd fun q S4 μ4 H4 s4 r4 h4 uu ruu => ?_⟩
    exact hr' _ _ _ _ μ4 S4 σ H4 Q r4 ((rw.step r2 s3).step r3 s4) ruu h4
  · cases ru
    refine ⟨false, rfl, ?_⟩
    rw [if_neg Bool.false_ne_true]
    exact h3.now r3 _ (.bl _)
  · exact h3.elim
theorem t_chain {a b c : Expr} {op op' : CmpOp} {g g' : D → D → M D} {ta tb tc : EvD} (o : ORD X W (compareOp op) g) (o' : ORD X W (compareOp op') g') (ha : PE X a (tD X.K X.mg W ta)) (hb : PE X b (tD X.K X.mg W tb)) (hc : PE X c (tD X.K X.mg W tc))
    (hm : lastMarks [op, op'] [b, c] = false) : PT X (.Compare a [op, op'] [b, c] pos) (tT X.K X.mg W (eTb (eChain g g' ta tb tc))) := by
  obtain ⟨r, ho, hr⟩ := o
  obtain ⟨r', ho', hr'⟩ := o'
  refine PT.imp (pt_chain ho ho' ha hb hc hm) fun σ H Q ⟨ρ, S, μ, e, s, h⟩ => ?_
  refine chain_ok hr hr' ⟨ρ, S, μ, e, s, ?_⟩
  exact h.bnd fun x S1 μ1 H1 s1 r1 h1 v rv => asBl_ok r1 rv h1

/-! ### calls of built-ins -/
def CRD (X : Cx) (W : WX) (f : Value) (g : List D → M D) : Prop := ∃ r, CallR X f r ∧
  ∀ ds vs μ S σ H Q, Rel X.K μ S H → RDs X.K μ H ds vs → Post X.K X.mg W μ σ H (g ds S) (QD X.K Q) → r vs H Q
theorem d_callB {id : String} {x : Str} {p : Pos} {e : Expr} {es : List Expr} {g : List D → M D} {t : EvL} (o : CRD X W (.builtin id) g) (hg : Gl X x) (hm : X.mg x = none) (hv : bootBuiltins x = some (.builtin id)) (ha : PA X (e :: es) (tA X.K X.mg W t))
    (hn : x ≠ "__name__" := by decide) (hdb : (x == ("__debug__" : Str)) = false := by decide)
    (he : starEach (e :: es) X.env = (false, eval e X.env) :: starEach es X.env := by rfl) (hpl : (backTo pos (starEach es X.env)).any (·.1) = false := by rfl) : PE X (.Call (.Name x p) (e :: es) [] pos) (tD X.K X.mg W (eCall g t)) := by
  obtain ⟨r, ho, hr⟩ := o
  refine PE.imp (pe_callB ho hg hm hv ha hn hdb he hpl) fun σ H Q ⟨ρ, S, μ, e, s, h⟩ => ?_
  exact ⟨ρ, S, μ, e, s, h.bnd fun xs S1 μ1 H1 s1 r1 h1 vs rvs => hr _ _ _ _ _ _ _ r1 rvs h1⟩
theorem d_callTy {T : String} {x : Str} {p : Pos} {e : Expr} {es : List Expr} {g : List D → M D} {t : EvL} (o : CRD X W (.type T) g) (hg : Gl X x) (hm : X.mg x = none) (hv : bootBuiltins x = some (.type T)) (ha : PA X (e :: es) (tA X.K X.mg W t))
    (hn : x ≠ "__name__" := by decide) (hdb : (x == ("__debug__" : Str)) = false := by decide)
    (he : starEach (e :: es) X.env = (false, eval e X.env) :: starEach es X.env := by rfl) (hpl : (backTo pos (starEach es X.env)).any (·.1) = false := by rfl) : PE X (.Call (.Name x p) (e :: es) [] pos) (tD X.K X.mg W (eCall g t)) := by
  obtain ⟨r, ho, hr⟩ := o
  refine PE.imp (pe_callTy ho hg hm hv ha hn hdb he hpl) fun σ H Q ⟨ρ, S, μ, e, s, h⟩ => ?_
  exact ⟨ρ, S, μ, e, s, h.bnd fun xs S1 μ1 H1 s1 r1 h1 vs rvs => hr _ _ _ _ _ _ _ r1 rvs h1⟩

def gLen (xs : List D) : M D := fun S => match xs with
  | [.str x] => if x.length ≤ sizeLine then .ok (.int x.length) S else .bad
  | [d] => match iLst S d with
    | some ds => .ok (.int ds.length) S
    | none => .bad
  | _ => .bad
theorem c_len : CRD X W (.builtin "len") gLen := by
  refine ⟨_, call_len, fun ds vs μ S σ H Q r rds h => ?_⟩
  unfold gLen at h
  split at h
  · split at h
    · rename_i hl
      cases rds with
      | cons h1 h2 => cases h1; cases h2; exact ⟨_, _, rfl, ⟨hl, rfl⟩, h.now r _ (.int _)⟩
    · exact h.elim
  · cases rds with
    | cons h1 h2 =>
      cases h2
      split at h
      · rename_i ds e
        obtain ⟨a, vs, rfl, q, z⟩ := iLst_ok e r h1
        have hl := z.length
        refine ⟨_, vs.length, rfl, ?_, by rw [← hl]; exact h.now r _ (.int _)⟩
        rcases q with q | q
        · exact .inl ⟨vs, q, rfl⟩
        · exact .inr ⟨vs, q, rfl⟩
      · exact h.elim
  · exact h.elim
def gInt (xs : List D) : M D := fun S => match xs with
  | [.int i] => .ok (.int i) S
  | [.bl k] => .ok (.int (if k then 1 else 0)) S
  | _ => .bad
theorem c_int : CRD X W (.type "int") gInt := by
  refine ⟨_, call_int1, fun ds vs μ S σ H Q r rds h => ?_⟩
  unfold gInt at h
  split at h
  · cases rds with
    | cons h1 h2 => cases h1; cases h2; exact .inl ⟨_, rfl, h.now r _ (.int _)⟩
  · cases rds with
    | cons h1 h2 => cases h1; cases h2; exact .inr ⟨_, rfl, h.now r _ (.int _)⟩
  · exact h.elim
def gStr (xs : List D) : M D := fun S => match xs with
  | [.int i] => if i.natAbs.log2 < 1920 then .ok (.str (toString i)) S else .bad
  | _ => .bad
theorem c_str : CRD X W (.type "str") gStr := by
  refine ⟨_, call_str_int, fun ds vs μ S σ H Q r rds h => ?_⟩
  unfold gStr at h
  split at h
  · cases rds with
    | cons h1 h2 =>
      cases h1; cases h2
      split at h
      · rename_i hl; exact ⟨_, rfl, hl, h.now r _ (.str _)⟩
      · exact h.elim
  · exact h.elim
def gList (xs : List D) : M D := fun S => match xs with
  | [d] => match iLst S d with
    | some ds => .ok (.lst ds) S
    | none => .bad
  | _ => .bad
def gListM (xs : List D) : M D := fun S => match xs with
  | [d] => match iLst S d with
    | some ds => .ok (.ref S.length) (S ++ [.lst ds])
    | none => .bad
  | _ => .bad
theorem c_list : CRD X W (.type "list") gList := by
  refine ⟨_, call_list_of, fun ds vs μ S σ H Q r rds h => ?_⟩
  unfold gList at h
  split at h
  · cases rds with
    | cons h1 h2 =>
      cases h2
      split at h
      · rename_i ds e
        obtain ⟨a, vs, rfl, q, z⟩ := iLst_ok e r h1
        exact ⟨_, _, rfl, q, fun p hp => h μ _ (Stp.new hp) (r.new hp) _ (.lst upd_same ⟨fun z => r.there z hp, fun z => r.hid _ z hp⟩ (z.step r (Stp.new hp)))⟩
      · exact h.elim
  · exact h.elim
theorem c_listM : CRD X W (.type "list") gListM := by
  refine ⟨_, call_list_of, fun ds vs μ S σ H Q r rds h => ?_⟩
  unfold gListM at h
  split at h
  · cases rds with
    | cons h1 h2 =>
      cases h2
      split at h
      · rename_i ds e
        obtain ⟨a, vs, rfl, q, z⟩ := iLst_ok e r h1
        exact ⟨_, _, rfl, q, fun p hp => h (μ.push p) _ (Stp.alloc hp) (r.alloc hp ⟨vs, upd_same, z.step r (Stp.alloc hp)⟩) _ (new_ref r)⟩
      · exact h.elim
  · exact h.elim
def gTuple (xs : List D) : M D := fun S => match xs with
  | [d] => match iLst S d with
    | some ds => .ok (.tup ds) S
    | none => .bad
  | _ => .bad
theorem c_tuple : CRD X W (.type "tuple") gTuple := by
  refine ⟨_, call_tuple_of, fun ds vs μ S σ H Q r rds h => ?_⟩
  unfold gTuple at h
  split at h
  · cases rds with
    | cons h1 h2 =>
      cases h2
      split at h
      · rename_i ds e
        obtain ⟨a, vs, rfl, q, z⟩ := iLst_ok e r h1
        refine ⟨_, vs, rfl, ?_⟩
        rcases q with q | q
        · exact .inl ⟨q, fun p hp => h μ _ (Stp.new hp) (r.new hp) _ (.tup (.inl (.inl upd_same)) (z.step r (Stp.new hp)))⟩
        · exact .inr ⟨q, h.now r _ (.tup q z)⟩
      · exact h.elim
  · exact h.elim
def blsOf : List D → Option (List Bool)
  | [] => some []
  | .bl b :: ds => (blsOf ds).map (b :: ·)
  | _ :: _ => none
def intsOf : List D → Option (List Int)
  | [] => some []
  | .int b :: ds => (intsOf ds).map (b :: ·)
  | _ :: _ => none
def strsOf : List D → Option (List Str)
  | [] => some []
  | .str b :: ds => (strsOf ds).map (b :: ·)
  | _ :: _ => none
theorem blsOf_ok : ∀ {ds : List D} {bs : List Bool}, blsOf ds = some bs → ds = bs.map D.bl
  | [], _, h => by cases h; rfl
  | d :: ds, bs, h => by
    unfold blsOf at h
    split at h
    · rename_i e; cases e
    · rename_i b ds' e; cases e
      rw [Option.map_eq_some_iff] at h
      obtain ⟨bs', e, rfl⟩ := h
      simp [blsOf_ok e]
    · cases h
theorem intsOf_ok : ∀ {ds : List D} {bs : List Int}, intsOf ds = some bs → ds = bs.map D.int
  | [], _, h => by cases h; rfl
  | d :: ds, bs, h => by
    unfold intsOf at h
    split at h
    · rename_i e; cases e
    · rename_i b ds' e; cases e
      rw [Option.map_eq_some_iff] at h
      obtain ⟨bs', e, rfl⟩ := h
      simp [intsOf_ok e]
    · cases h
theorem strsOf_ok : ∀ {ds : List D} {bs : List Str}, strsOf ds = some bs → ds = bs.map D.str
  | [], _, h => by cases h; rfl
  | d :: ds, bs, h => by
    unfold strsOf at h
    split at h
    · rename_i e; cases e
    · rename_i b ds' e; cases e
      rw [Option.map_eq_some_iff] at h
      obtain ⟨bs', e, rfl⟩ := h
      simp [strsOf_ok e]
    · cases h
theorem intsOf_map : ∀ ns : List Int, intsOf (ns.map D.int) = some ns
  | [] => rfl
  | n :: ns => by simp [intsOf, intsOf_map ns]
theorem blsOf_map : ∀ ns : List Bool, blsOf (ns.map D.bl) = some ns
  | [] => rfl
  | n :: ns => by simp [blsOf, blsOf_map ns]
theorem strsOf_map : ∀ ns : List Str, strsOf (ns.map D.str) = some ns
  | [] => rfl
  | n :: ns => by simp [strsOf, strsOf_map ns]
def gAll (xs : List D) : M D := fun S => match xs with
  | [d] => match (iSeq S d).bind blsOf with
    | some bs => .ok (.bl (bs.all id)) S
    | none => .bad
  | _ => .bad
def gAny (xs : List D) : M D := fun S => match xs with
  | [d] => match (iSeq S d).bind blsOf with
    | some bs => .ok (.bl (bs.any id)) S
    | none => .bad
  | _ => .bad
def gSum (xs : List D) : M D := fun S => match xs with
  | [d] => match (iSeq S d).bind intsOf with
    | some ns => .ok (.int ns.sum) S
    | none => .bad
  | _ => .bad
theorem c_all (hc : X.calm = true) : CRD X W (.builtin "all") gAll := by
  refine ⟨_, cr_all hc, fun ds vs μ S σ H Q r rds h => ?_⟩
  unfold gAll at h
  split at h
  · cases rds with
    | cons h1 h2 =>
      cases h2
      split at h
      · rename_i bs e
        rw [Option.bind_eq_some_iff] at e
        obtain ⟨ds, e1, e2⟩ := e
        obtain ⟨a, vs, rfl, q, z⟩ := iSeq_ok e1 r h1
        rw [blsOf_ok e2] at z
        rw [z.bls] at q
        exact ⟨_, _, rfl, q, h.now r _ (.bl _)⟩
      · exact h.elim
  · exact h.elim
theorem c_any (hc : X.calm = true) : CRD X W (.builtin "any") gAny := by
  refine ⟨_, cr_any hc, fun ds vs μ S σ H Q r rds h => ?_⟩
  unfold gAny at h
  split at h
  · cases rds with
    | cons h1 h2 =>
      cases h2
      split at h
      · rename_i bs e
        rw [Option.bind_eq_some_iff] at e
        obtain ⟨ds, e1, e2⟩ := e
        obtain ⟨a, vs, rfl, q, z⟩ := iSeq_ok e1 r h1
        rw [blsOf_ok e2] at z
        rw [z.bls] at q
        exact ⟨_, _, rfl, q, h.now r _ (.bl _)⟩
      · exact h.elim
  · exact h.elim
theorem c_sum (hc : X.calm = true) : CRD X W (.builtin "sum") gSum := by
  refine ⟨_, cr_sum hc, fun ds vs μ S σ H Q r rds h => ?_⟩
  unfold gSum at h
  split at h
  · cases rds with
    | cons h1 h2 =>
      cases h2
      split at h
      · rename_i bs e
        rw [Option.bind_eq_some_iff] at e
        obtain ⟨ds, e1, e2⟩ := e
        obtain ⟨a, vs, rfl, q, z⟩ := iSeq_ok e1 r h1
        rw [intsOf_ok e2] at z
        rw [z.ints] at q
        exact ⟨_, _, rfl, q, h.now r _ (.int _)⟩
      · exact h.elim
  · exact h.elim
def gMax2 (xs : List D) : M D := fun S => match xs with
  | [.int i, .int j] => .ok (.int (if j > i then j else i)) S
  | _ => .bad
def gMin2 (xs : List D) : M D := fun S => match xs with
  | [.int i, .int j] => .ok (.int (if j < i then j else i)) S
  | _ => .bad
theorem c_max2 (hc : X.calm = true) : CRD X W (.builtin "max") gMax2 := by
  refine ⟨_, call_max2 hc, fun ds vs μ S σ H Q r rds h => ?_⟩
  unfold gMax2 at h
  split at h
  · cases rds with
    | cons h1 h2 => cases h1; cases h2 with
      | cons h3 h4 => cases h3; cases h4; exact ⟨_, _, rfl, h.now r _ (.int _)⟩
  · exact h.elim
theorem c_min2 (hc : X.calm = true) : CRD X W (.builtin "min") gMin2 := by
  refine ⟨_, call_min2 hc, fun ds vs μ S σ H Q r rds h => ?_⟩
  unfold gMin2 at h
  split at h
  · cases rds with
    | cons h1 h2 => cases h1; cases h2 with
      | cons h3 h4 => cases h3; cases h4; exact ⟨_, _, rfl, h.now r _ (.int _)⟩
  · exact h.elim

/-! isinstance with a built-in type -/
def typN (S : Sto) : D → Option String
  | .non => some "NoneType"
  | .bl _ => some "bool"
  | .int _ => some "int"
  | .str _ => some "str"
  | .tup _ => some "tuple"
  | .lst _ => some "list"
  | .fl _ => some "list"
  | .ref n => match S[n]? with
    | some (.lst _) => some "list"
    | some (.dct _) => some "dict"
    | none => none
  | .fn _ => none
def isiN (a b : String) : Bool := a == b || (a == "bool" && b == "int")
def gIsi (T : String) (d : D) : M D := fun S => match typN S d with
  | some a => .ok (.bl (isiN a T)) S
  | none => .bad
def eIsi (T : String) (a : EvD) : EvD := fun ρ => bnd (a ρ) (gIsi T)
theorem typN_ok {K : PySem.W.Frag} {μ : Mu} {S : Sto} {H : Hp} {d : D} {v : V} {a : String} (e : typN S d = some a) (r : Rel K μ S H) (h : RD K μ H d v) : TyX K H v (.type a) ∧ a ∈ ["NoneType", "bool", "int", "str", "tuple", "list", "dict"] := by
  cases h with
  | non => cases e; exact ⟨.base .non, by decide⟩
  | bl b => cases e; exact ⟨.base (.bl _), by decide⟩
  | int b => cases e; exact ⟨.base (.int _), by decide⟩
  | str b => cases e; exact ⟨.base (.str _), by decide⟩
  | fn h1 => cases e
  | tup h1 h2 =>
    cases e
    refine ⟨?_, by decide⟩
    rcases h1 with (h1 | ⟨o, h1⟩) | ⟨o, its, n, h1, h3, _⟩
    · exact .base (.tup h1)
    · exact .fTuple h1
    · exact .kTuple h1 h3
  | lst h1 _ _ => cases e; exact ⟨.base (.lst h1), by decide⟩
  | fl h1 _ =>
    cases e
    refine ⟨?_, by decide⟩
    rcases h1 with ⟨o, h1⟩ | ⟨o, its, n, h1, h3, _⟩
    · exact .base (.frz h1)
    · exact .kList h1 h3
  | @ref n a h1 =>
    unfold typN at e
    simp only at e
    split at e
    · rename_i hs; cases e
      obtain ⟨vs, q, z⟩ := r.obj _ _ _ h1 hs
      exact ⟨.base (.lst q), by decide⟩
    · rename_i hs; cases e
      obtain ⟨vs, q, z⟩ := r.obj _ _ _ h1 hs
      exact ⟨.base (.dK q), by decide⟩
    · cases e
theorem isiN_ok {K : PySem.W.Frag} {a b : String} (ha : a ∈ ["NoneType", "bool", "int", "str", "tuple", "list", "dict"]) (hb : b ∈ ["bool", "int", "str", "tuple", "list", "dict"]) : PySem.W.kitOne K (.type a) (.type b) = some (isiN a b) := by
  have key : (["NoneType", "bool", "int", "str", "tuple", "list", "dict"].all fun a => ["bool", "int", "str", "tuple", "list", "dict"].all fun b => decide (kitB a b = some (isiN a b))) = true := by decide +kernel
  exact kit_ty (of_decide_eq_true (List.all_eq_true.mp (List.all_eq_true.mp key a ha) b hb))
theorem d_isi {e : Expr} {te : EvD} {p1 p2 : Pos} (T : String) {tn : Str} (hg : Gl X "isinstance") (hm : X.mg "isinstance" = none) (he : PE X e (tD X.K X.mg W te)) (gt : Gl X tn) (mt : X.mg tn = none) (bt : bootBuiltins tn = some (.type T)) (hT : T ∈ ["bool", "int", "str", "tuple", "list", "dict"])
    (nt : tn ≠ "__name__" := by decide) (dt : (tn == ("__debug__" : Str)) = false := by decide)
    (hs : starEach [e, .Name tn p2] X.env = (false, eval e X.env) :: starEach [.Name tn p2] X.env := by rfl) :
    PE X (.Call (.Name "isinstance" p1) [e, .Name tn p2] [] pos) (tD X.K X.mg W (eIsi T te)) := by
  refine PE.imp (pe_callB call_isi hg hm (by decide +kernel) (pa_cons he (pa_cons (pe_bltn gt mt bt (v := .ty T) rfl nt dt) pa_nil) hs) (by decide) (by decide) hs) fun σ H Q ⟨ρ, S, μ, e, s, h⟩ => ?_
  refine ⟨ρ, S, μ, e, s, h.bnd fun d S1 μ1 H1 s1 r1 h1 v rv => ?_⟩
  unfold gIsi at h1
  split at h1
  · rename_i a ea
    obtain ⟨ty, ma⟩ := typN_ok ea r1 rv
    exact ⟨_, _, _, _, _, rfl, .ty T, ty, isiN_ok ma hT, h1.now r1 _ (.bl _)⟩
  · exact h1.elim

/-! ### subscripts, slices -/
def gIx (x i : D) : M D := fun S => match x, i with
  | .str z, .int k => if z.length ≤ sizeLine then match atI z.cps.toList k with
      | some c => .ok (.str ⟨#[c]⟩) S
      | none => .bad
    else .bad
  | x, .int k => match iLst S x with
    | some ds => match atI ds k with
      | some d => .ok d S
      | none => .bad
    | none => .bad
  | _, _ => .bad
theorem atI_rel {K : PySem.W.Frag} {μ : Mu} {H : Hp} {ds : List D} {vs : List V} {i : Int} {d : D} (z : RDs K μ H ds vs) (e : atI ds i = some d) : ∃ v, atI vs i = some v ∧ RD K μ H d v := by
  unfold atI at e ⊢
  rw [Option.bind_eq_some_iff] at e
  obtain ⟨j, e1, e2⟩ := e
  obtain ⟨v, e3, rv⟩ := z.get e2
  exact ⟨v, by rw [← z.length, e1]; exact e3, rv⟩
theorem d_ix {a b : Expr} {ta tb : EvD} (ha : PE X a (tD X.K X.mg W ta)) (hb : PE X b (tD X.K X.mg W tb)) (hs : PlainIx b := by exact fun _ _ => rfl) : PE X (.Subscript a b pos) (tD X.K X.mg W (eBin gIx ta tb)) := by
  refine PE.imp (pe_ix ix_seq ha hb hs) fun σ H Q h => bin_ok (fun x y v w μ S σ H Q r rx ry h => ?_) h
  unfold gIx at h
  split at h
  · cases rx; cases ry
    split at h
    · rename_i hl
      split at h
      · rename_i c hc
        exact .inr (.inr ⟨_, _, _, rfl, rfl, hl, hc, h.now r _ (.str _)⟩)
      · exact h.elim
    · exact h.elim
  · cases ry
    split at h
    · rename_i ds e
      split at h
      · rename_i d ed
        obtain ⟨a, vs, rfl, q, z⟩ := iLst_ok e r rx
        obtain ⟨v, ev, rv⟩ := atI_rel z ed
        rcases q with q | q
        · exact .inl ⟨_, _, _, _, rfl, rfl, q, ev, h.now r _ rv⟩
        · exact .inr (.inl ⟨_, _, _, _, rfl, rfl, q, ev, h.now r _ rv⟩)
      · exact h.elim
    · exact h.elim
  · exact h.elim
abbrev EvO := Rho → M (Option Int)
def oNone : EvO := fun _ => ret none
def oSome (a : EvD) : EvO := fun ρ => bnd (a ρ) fun x => match x with
  | .int i => ret (some i)
  | _ => stuck
def tO (K : PySem.W.Frag) (mg : Str → Option Value) (W : WX) (F : EvO) : TO := fun σ H Q => ∃ ρ S μ, RE K μ H σ ρ ∧ Rel K μ S H ∧ Post K mg W μ σ H (F ρ S) (fun o _ H' => Q o H')
theorem PO.imp {e : Option Expr} {t t' : TO} (h : PO X e t) (f : ∀ σ H Q, t' σ H Q → t σ H Q) : PO X e t' := ⟨fun pins s σ H Q I q => h.run pins s σ H Q I (f σ H Q q)⟩
theorem o_none : PO X none (tO X.K X.mg W oNone) := PO.imp po_none fun σ H Q ⟨ρ, S, μ, e, s, h⟩ => h.now s
theorem o_some {e : Expr} {te : EvD} (h : PE X e (tD X.K X.mg W te)) : PO X (some e) (tO X.K X.mg W (oSome te)) := by
  refine PO.imp (po_some h) fun σ H Q ⟨ρ, S, μ, e, s, h⟩ => ?_
  refine ⟨ρ, S, μ, e, s, h.bnd fun x S1 μ1 H1 s1 r1 h1 v rv => ?_⟩
  split at h1
  · cases rv; exact ⟨_, rfl, h1.now r1⟩
  · exact h1.elim
def cutD (xs : List D) (lo hi : Option Int) : List D := (xs.drop (HT.sIx xs.length 0 lo)).take (HT.sIx xs.length xs.length hi - HT.sIx xs.length 0 lo)
theorem cut_rel {K : PySem.W.Frag} {μ : Mu} {H : Hp} {ds : List D} {vs : List V} (z : RDs K μ H ds vs) (lo hi : Option Int) : RDs K μ H (cutD ds lo hi) (cutV vs lo hi) := by
  unfold cutD cutV
  rw [z.length]
  exact (z.drop _).take _
def gSl (mu : Bool) (x : D) (lo hi : Option Int) : M D := fun S => match x with
  | .str z => if z.length ≤ sizeLine then .ok (.str (cutS z lo hi)) S else .bad
  | .tup ds => .ok (.tup (cutD ds lo hi)) S
  | x => match iSeq S x with
    | some ds => if mu then .ok (.ref S.length) (S ++ [.lst (cutD ds lo hi)]) else .ok (.lst (cutD ds lo hi)) S
    | none => .bad
def eSl (mu : Bool) (a : EvD) (lo hi : EvO) : EvD := fun ρ => bnd (a ρ) fun x => bnd (lo ρ) fun l => bnd (hi ρ) fun h => gSl mu x l h
theorem d_slice (mu : Bool) {e : Expr} {lo hi : Option Expr} {te : EvD} {tl th : EvO} {p2 : Pos} (he : PE X e (tD X.K X.mg W te)) (hl : PO X lo (tO X.K X.mg W tl)) (hu : PO X hi (tO X.K X.mg W th)) : PE X (.Subscript e (.Slice lo hi none p2) pos) (tD X.K X.mg W (eSl mu te tl th)) := by
  refine PE.imp (pe_slice (sl_str.or (sl_tupA.or sl_list)) he hl hu) fun σ H Q ⟨ρ, S, μ, e, s, h⟩ => ?_
  refine ⟨ρ, S, μ, e, s, h.bnd fun x S1 μ1 H1 s1 r1 h1 v rv => ?_⟩
  refine ⟨ρ, S1, μ1, e.step s s1, r1, h1.bnd fun l S2 μ2 H2 s2 r2 h2 => ?_⟩
  refine ⟨ρ, S2, μ2, (e.step s s1).step r1 s2, r2, h2.bnd fun u S3 μ3 H3 s3 r3 h3 => ?_⟩
  have rv3 := (rv.step r1 s2).step r2 s3
  unfold gSl at h3
  split at h3
  · cases rv3
    split at h3
    · rename_i hz; exact .inl ⟨_, rfl, hz, h3.now r3 _ (.str _)⟩
    · exact h3.elim
  · cases rv3 with
    | @tup a vs ds q z =>
      have hcut : HT.sIx vs.length 0 l = 0 ∧ HT.sIx vs.length vs.length u = vs.length → cutV vs l u = vs := fun ⟨e1, e2⟩ => by
        unfold cutV; rw [e1, e2]; simp
      refine .inr (.inl ⟨_, _, rfl, q, fun w => h3.now r3 _ (.tup q ?_), fun _ p hp => h3 μ3 _ (Stp.new hp) (r3.new hp) _ (.tup (.inl (.inl upd_same)) ((cut_rel z l u).step r3 (Stp.new hp)))⟩)
      have := cut_rel z l u
      rw [hcut w] at this
      exact this
  · split at h3
    · rename_i ds e
      obtain ⟨a, vs, rfl, q, z⟩ := iSeq_ok e r3 rv3
      refine .inr (.inr ⟨_, _, rfl, q, fun p hp => ?_⟩)
      cases mu with
      | true => exact h3 (μ3.push p) _ (Stp.alloc hp) (r3.alloc hp ⟨_, upd_same, (cut_rel z l u).step r3 (Stp.alloc hp)⟩) _ (new_ref r3)
      | false => exact h3 μ3 _ (Stp.new hp) (r3.new hp) _ (.lst upd_same ⟨fun z => r3.there z hp, fun z => r3.hid _ z hp⟩ ((cut_rel z l u).step r3 (Stp.new hp)))
    · exact h3.elim
def gRev (mu : Bool) (x : D) : M D := fun S => match iSeq S x with
  | some ds => if mu then .ok (.ref S.length) (S ++ [.lst ds.reverse]) else .ok (.lst ds.reverse) S
  | none => .bad
/-- xs[::-1] -/
theorem d_rev (mu : Bool) {e : Expr} {te : EvD} {k : Nat} {p1 p2 p3 : Pos} (he : PE X e (tD X.K X.mg W te)) : PE X (.Subscript e (.Slice none none (some (.UnaryOp .USub (.Constant (.int 1) k p1) p2)) p3) pos) (tD X.K X.mg W (eUn (gRev mu) te)) := by
  refine PE.imp (pe_revL he) fun σ H Q ⟨ρ, S, μ, e, s, h⟩ => ?_
  refine ⟨ρ, S, μ, e, s, h.bnd fun x S1 μ1 H1 s1 r1 h1 v rv => ?_⟩
  unfold gRev at h1
  split at h1
  · rename_i ds e
    obtain ⟨a, vs, rfl, q, z⟩ := iSeq_ok e r1 rv
    refine ⟨_, _, rfl, q, fun p hp => ?_⟩
    cases mu with
    | true => exact h1 (μ1.push p) _ (Stp.alloc hp) (r1.alloc hp ⟨_, upd_same, z.reverse.step r1 (Stp.alloc hp)⟩) _ (new_ref r1)
    | false => exact h1 μ1 _ (Stp.new hp) (r1.new hp) _ (.lst upd_same ⟨fun z => r1.there z hp, fun z => r1.hid _ z hp⟩ (z.reverse.step r1 (Stp.new hp)))
  · exact h1.elim
end
end DL

/-! DL4: methods, what is walked, comprehensions. -/
namespace DL
open PySem L2

/-! ### methods -/
def isTy (S : Sto) (T : String) (d : D) : Bool := match d with
  | .str _ => T == "str"
  | .lst _ => T == "list"
  | .fl _ => T == "list"
  | .ref n => match S[n]? with
    | some (.lst _) => T == "list"
    | some (.dct _) => T == "dict"
    | none => false
  | _ => false
def chkT (T : String) (d : D) : M D := fun S => if isTy S T d = true then .ok d S else .bad
def eMeth (T : String) (g : D → List D → M D) (o : EvD) (as : EvL) : EvD := fun ρ => bnd (o ρ) fun x => bnd (chkT T x) fun x => bnd (as ρ) fun xs => g x xs
section
variable {X : Cx} {W : WX} {pos : Pos}
theorem isTy_ok {K : PySem.W.Frag} {μ : Mu} {S : Sto} {H : Hp} {T : String} {d : D} {v : V} (e : isTy S T d = true) (r : Rel K μ S H) (h : RD K μ H d v) : tyV K T v H := by
  unfold isTy at e
  split at e
  · cases h; exact eq_of_beq e
  · cases h with | lst h1 _ _ => exact .inl ⟨eq_of_beq e, _, .inl (.inl h1)⟩
  · cases h with
    | fl h1 _ =>
      rcases h1 with ⟨o, h1⟩ | h1
      · exact .inl ⟨eq_of_beq e, _, .inl (.inr ⟨o, h1⟩)⟩
      · exact .inl ⟨eq_of_beq e, _, .inr h1⟩
  · cases h with
    | @ref n a h1 =>
      split at e
      · rename_i hs
        obtain ⟨vs, q, z⟩ := r.obj _ _ _ h1 hs
        exact .inl ⟨eq_of_beq e, _, .inl (.inl q)⟩
      · rename_i hs
        obtain ⟨vs, q, z⟩ := r.obj _ _ _ h1 hs
        exact .inr (.inr (.inl ⟨eq_of_beq e, .inl ⟨_, q⟩⟩))
      · cases e
  · cases e
def MRD (X : Cx) (W : WX) (id : String) (g : D → List D → M D) : Prop := ∃ r, MtR X id r ∧
  ∀ d ds v vs μ S σ H Q, Rel X.K μ S H → RD X.K μ H d v → RDs X.K μ H ds vs → Post X.K X.mg W μ σ H (g d ds S) (QD X.K Q) → r v vs H Q
theorem d_meth {o e : Expr} {es : List Expr} {to : EvD} {t : EvL} {name : Str} {apos cpos : Pos} {T id : String} {g : D → List D → M D} (pa : PlainAttrs T) (slot : Slot T name id) (hty : typeOf (.builtin id) = pure (.type "method_descriptor")) (m : MRD X W id g) (ho : PE X o (tD X.K X.mg W to)) (ha : PA X (e :: es) (tA X.K X.mg W t))
    (hbase : attributeBase o name X.env (eval o X.env) = eval o X.env := by rfl)
    (hfew : ((backTo cpos (starEach (e :: es) X.env)).all (fun x => !x.1) && (backToKw cpos (keywordEach [] X.env)).all (fun x => x.1.isSome)
      && decide ((e :: es).length + ([] : List Keyword).length + (if ([] : List Keyword).isEmpty then 0 else 1) < 30)) = true := by rfl)
    (hline : (apos.endLine == cpos.line) = true := by rfl) (hs : starEach (e :: es) X.env = (false, eval e X.env) :: starEach es X.env := by rfl) (hplain : (backTo cpos (starEach es X.env)).any (·.1) = false := by rfl) :
    PE X (.Call (.Attribute o name apos) (e :: es) [] cpos) (tD X.K X.mg W (eMeth T g to t)) := by
  obtain ⟨r, hm, hr⟩ := m
  refine PE.imp (pe_bm pa slot hty hm ho ha hbase hfew hline hs hplain) fun σ H Q ⟨ρ, S, μ, e, s, h⟩ => ?_
  refine ⟨ρ, S, μ, e, s, h.bnd fun x S1 μ1 H1 s1 r1 h1 v rv => ?_⟩
  by_cases ty : isTy S1 T x = true
  · have h1' : Post X.K X.mg W μ1 σ H1 (bnd (t ρ) (fun xs => g x xs) S1) (QD X.K Q) := by
      unfold bnd chkT at h1
      rw [if_pos ty] at h1
      exact h1
    exact ⟨isTy_ok ty r1 rv, ρ, S1, μ1, e.step s s1, r1, h1'.bnd fun xs S2 μ2 H2 s2 r2 h2 vs rvs => hr _ _ _ _ _ _ _ _ _ r2 (rv.step r1 s2) rvs h2⟩
  · unfold bnd chkT at h1
    rw [if_neg ty] at h1
    exact h1.elim
theorem d_meth0 {o : Expr} {to : EvD} {name : Str} {apos cpos : Pos} {T id : String} {g : D → List D → M D} (pa : PlainAttrs T) (slot : Slot T name id) (hty : typeOf (.builtin id) = pure (.type "method_descriptor")) (m : MRD X W id g) (ho : PE X o (tD X.K X.mg W to))
    (hbase : attributeBase o name X.env (eval o X.env) = eval o X.env := by rfl) (hline : (apos.endLine == cpos.line) = true := by rfl) :
    PE X (.Call (.Attribute o name apos) [] [] cpos) (tD X.K X.mg W (eMeth T g to aNil)) := by
  obtain ⟨r, hm, hr⟩ := m
  refine PE.imp (pe_bm0 pa slot hty hm ho hbase hline) fun σ H Q ⟨ρ, S, μ, e, s, h⟩ => ?_
  refine ⟨ρ, S, μ, e, s, h.bnd fun x S1 μ1 H1 s1 r1 h1 v rv => ?_⟩
  by_cases ty : isTy S1 T x = true
  · have h1' : Post X.K X.mg W μ1 σ H1 (g x [] S1) (QD X.K Q) := by
      unfold bnd chkT at h1
      rw [if_pos ty] at h1
      exact h1
    exact ⟨isTy_ok ty r1 rv, hr _ _ _ _ _ _ _ _ _ r1 rv .nil h1'⟩
  · unfold bnd chkT at h1
    rw [if_neg ty] at h1
    exact h1.elim

def gAppend (x : D) (xs : List D) : M D := fun S => match x, xs with
  | .ref n, [d] => match atL S n with
    | some ds => if ds.length < sizeLine then .ok .non (S.set n (.lst (ds ++ [d]))) else .bad
    | none => .bad
  | _, _ => .bad
theorem m_append : MRD X W "list.append" gAppend := by
  refine ⟨_, mt_append, fun d ds v vs μ S σ H Q r rd rds h => ?_⟩
  unfold gAppend at h
  split at h
  · cases rds with
    | cons h1 h2 =>
      cases h2
      split at h
      · rename_i ds e
        split at h
        · rename_i hl
          cases rd with
          | @ref n a hn =>
            obtain ⟨vs, q, z⟩ := r.obj _ a _ hn (atL_ok e)
            have hm : a ∈ μ.v := List.mem_of_getElem? hn
            refine ⟨a, vs, _, rfl, rfl, q, by rw [← z.length]; exact hl, ?_⟩
            exact h μ _ (Stp.put hm) (r.put hn ⟨_, upd_same, (z.step r (Stp.put hm)).append (.cons (h1.step r (Stp.put hm)) .nil)⟩) _ .non
        · exact h.elim
      · exact h.elim
  · exact h.elim
def gPop (x : D) (xs : List D) : M D := fun S => match x, xs with
  | .ref n, [] => match atL S n with
    | some ds => match ds[ds.length - 1]? with
      | some d => .ok d (S.set n (.lst ds.dropLast))
      | none => .bad
    | none => .bad
  | .ref n, [.int i] => match atL S n with
    | some ds => match seqIndex? i ds.length with
      | some k => match ds[k]? with
        | some d => if -(2 ^ 63) ≤ i ∧ i < 2 ^ 63 then .ok d (S.set n (.lst (ds.eraseIdx k))) else .bad
        | none => .bad
      | none => .bad
    | none => .bad
  | _, _ => .bad
theorem m_pop : MRD X W "list.pop" gPop := by
  refine ⟨_, MtR.or mt_pop mt_popAt, fun d ds v vs μ S σ H Q r rd rds h => ?_⟩
  unfold gPop at h
  split at h
  · cases rds
    split at h
    · rename_i ds e
      split at h
      · rename_i d ed
        cases rd with
        | @ref n a hn =>
          obtain ⟨vs, q, z⟩ := r.obj _ a _ hn (atL_ok e)
          have hm : a ∈ μ.v := List.mem_of_getElem? hn
          obtain ⟨v, ev, rv⟩ := z.get ed
          refine .inl ⟨a, vs, v, rfl, rfl, q, by rw [← z.length]; exact ev, ?_⟩
          exact h μ _ (Stp.put hm) (r.put hn ⟨_, upd_same, (z.step r (Stp.put hm)).dropLast⟩) _ (rv.step r (Stp.put hm))
      · exact h.elim
    · exact h.elim
  · cases rds with
    | cons h1 h2 =>
      cases h2; cases h1
      split at h
      · rename_i ds e
        split at h
        · rename_i k ek
          split at h
          · rename_i d ed
            split at h
            · rename_i hb
              cases rd with
              | @ref n a hn =>
                obtain ⟨vs, q, z⟩ := r.obj _ a _ hn (atL_ok e)
                have hm : a ∈ μ.v := List.mem_of_getElem? hn
                obtain ⟨v, ev, rv⟩ := z.get ed
                refine .inr ⟨a, vs, _, k, v, rfl, rfl, q, hb.1, hb.2, by rw [← z.length]; exact ek, ev, ?_⟩
                exact h μ _ (Stp.put hm) (r.put hn ⟨_, upd_same, (z.step r (Stp.put hm)).eraseIdx k⟩) _ (rv.step r (Stp.put hm))
            · exact h.elim
          · exact h.elim
        · exact h.elim
      · exact h.elim
  · exact h.elim
def gExtend (x : D) (xs : List D) : M D := fun S => match x, xs with
  | .ref n, [d] => match atL S n, iTrk S d with
    | some ds, some es => if ds.length + es.length ≤ sizeLine then .ok .non (S.set n (.lst (ds ++ es))) else .bad
    | _, _ => .bad
  | _, _ => .bad
theorem m_extend : MRD X W "list.extend" gExtend := by
  refine ⟨_, mt_extend, fun d ds v vs μ S σ H Q r rd rds h => ?_⟩
  unfold gExtend at h
  split at h
  · cases rds with
    | cons h1 h2 =>
      cases h2
      split at h
      · rename_i ds es e e2
        split at h
        · rename_i hl
          cases rd with
          | @ref n a hn =>
            obtain ⟨vs, q, z⟩ := r.obj _ a _ hn (atL_ok e)
            have hm : a ∈ μ.v := List.mem_of_getElem? hn
            obtain ⟨b, ws, rfl, q2, z2⟩ := iTrk_ok e2 r h1
            refine ⟨a, b, vs, ws, rfl, rfl, q, q2, by rw [← z.length, ← z2.length]; exact hl, ?_⟩
            exact h μ _ (Stp.put hm) (r.put hn ⟨_, upd_same, (z.step r (Stp.put hm)).append (z2.step r (Stp.put hm))⟩) _ .non
        · exact h.elim
      · exact h.elim
  · exact h.elim
def gSplit (mu : Bool) (x : D) (xs : List D) : M D := fun S => match x, xs with
  | .str a, [.str b] => if (b.length == 0) = false ∧ a.length + 2 ≤ sizeLine then
      (if mu then .ok (.ref S.length) (S ++ [.lst ((Txt.split a b).map .str)]) else .ok (.lst ((Txt.split a b).map .str)) S) else .bad
  | _, _ => .bad
theorem m_split (mu : Bool) : MRD X W "str.split" (gSplit mu) := by
  refine ⟨_, mt_split, fun d ds v vs μ S σ H Q r rd rds h => ?_⟩
  unfold gSplit at h
  split at h
  · cases rds with
    | cons h1 h2 =>
      cases h2; cases h1; cases rd
      split at h
      · rename_i hl
        refine ⟨_, _, rfl, rfl, hl.1, hl.2, fun p hp => ?_⟩
        cases mu with
        | true => exact h (μ.push p) _ (Stp.alloc hp) (r.alloc hp ⟨_, upd_same, RDs.of_strs _⟩) _ (new_ref r)
        | false => exact h μ _ (Stp.new hp) (r.new hp) _ (.lst upd_same ⟨fun z => r.there z hp, fun z => r.hid _ z hp⟩ (RDs.of_strs _))
      · exact h.elim
  · exact h.elim
def gJoin (x : D) (xs : List D) : M D := fun S => match x, xs with
  | .str a, [d] => match (iLst S d).bind strsOf with
    | some ys => if (ys.map (·.length)).sum + ys.length * a.length ≤ 16777216 then .ok (.str (Txt.join a ys)) S else .bad
    | none => .bad
  | _, _ => .bad
theorem m_join : MRD X W "str.join" gJoin := by
  refine ⟨_, mt_join, fun d ds v vs μ S σ H Q r rd rds h => ?_⟩
  unfold gJoin at h
  split at h
  · cases rds with
    | cons h1 h2 =>
      cases h2; cases rd
      split at h
      · rename_i ys e
        split at h
        · rename_i hl
          rw [Option.bind_eq_some_iff] at e
          obtain ⟨ds, e1, e2⟩ := e
          obtain ⟨a, vs, rfl, q, z⟩ := iLst_ok e1 r h1
          rw [strsOf_ok e2] at z
          rw [z.strs] at q
          exact ⟨_, _, _, rfl, rfl, q, hl, h.now r _ (.str _)⟩
        · exact h.elim
      · exact h.elim
  · exact h.elim
end

/-! ### what is walked -/
/-- the iterator J hands out what ds says; src: the stored list that must stand as ds meanwhile -/
def liveOk (src : Option Nat) (ds : List D) (S : Sto) : Prop := match src with
  | none => True
  | some n => S[n]? = some (.lst ds)
structure ItOk (K : PySem.W.Frag) (J : It) (src : Option Nat) (ds : List D) (G : Mu → Hp → Prop) : Prop where
  go : ∀ (i : Nat) (μ : Mu) (S : Sto) (H : Hp), i < ds.length → Rel K μ S H → liveOk src ds S → G μ H → J.go i H
  yld : ∀ (i : Nat) (x : V) (μ : Mu) (S : Sto) (H H' : Hp), i < ds.length → Rel K μ S H → liveOk src ds S → G μ H → J.yld i H x H' → Stp μ H μ H' ∧ Rel K μ S H' ∧ ∃ d, ds[i]? = some d ∧ RD K μ H' d x
  stop : ∀ (μ : Mu) (S : Sto) (H : Hp), Rel K μ S H → liveOk src ds S → G μ H → J.stop ds.length H
  step : ∀ (μ : Mu) (S : Sto) (H : Hp) (μ' : Mu) (H' : Hp), G μ H → Rel K μ S H → Stp μ H μ' H' → G μ' H'
  hide : ∀ (μ : Mu) (H : Hp) (p : Addr) (o : HO), G μ H → H p = none → G (μ.hide p) (upd H p o)
  seen : ∀ (μ : Mu) (H : Hp) (p : Addr) (xs ys : List V), G (μ.hide p) H → H p = some (.lst xs) → G (μ.hide p) (upd H p (.lst ys))
abbrev EvI := Rho → M (Option Nat × List D)
def tI (K : PySem.W.Frag) (mg : Str → Option Value) (W : WX) (F : EvI) : TI := fun σ H R => ∃ ρ S μ, RE K μ H σ ρ ∧ Rel K μ S H ∧
  Post K mg W μ σ H (F ρ S) (fun p μ' H' => ∀ J G, ItOk K J p.1 p.2 G → G μ' H' → R J H')
def srcL (d : D) : M (Option Nat × List D) := fun S => match d with
  | .tup ds => .ok (none, ds) S
  | .lst ds => .ok (none, ds) S
  | .fl ds => .ok (none, ds) S
  | .ref n => match atL S n with
    | some ds => .ok (some n, ds) S
    | none => .bad
  | .str x => .ok (none, x.cps.toList.map fun c => .str ⟨#[c]⟩) S
  | _ => .bad
def iIt (a : EvD) : EvI := fun ρ => bnd (a ρ) srcL
section
variable {K : PySem.W.Frag}
theorem it_tup {a : Addr} {ds : List D} : ItOk K (Itt K a) none ds (fun μ H => RD K μ H (.tup ds) (.ref a)) where
  go := fun i μ S H hi r _ g => by
    cases g with
    | tup q z =>
      obtain ⟨v, ev, _⟩ := z.get (List.getElem?_eq_getElem hi)
      exact ⟨_, v, q, ev⟩
  yld := fun i x μ S H H' hi r _ g y => by
    obtain ⟨rfl, y⟩ := y
    cases g with
    | tup q z =>
      obtain ⟨v, ev, rv⟩ := z.get (List.getElem?_eq_getElem hi)
      have := y _ q
      rw [this] at ev
      cases ev
      exact ⟨.refl, r, _, List.getElem?_eq_getElem hi, rv⟩
  stop := fun μ S H r _ g => by
    cases g with
    | tup q z => exact ⟨_, q, by rw [z.length]; exact Nat.le_refl _⟩
  step := fun μ S H μ' H' g r s => RD.step g r s
  hide := fun μ H p o g h => RD.hide h _ _ g
  seen := fun μ H p xs ys g h => RD.seen h _ _ g
theorem it_seq {a : Addr} {d : D} {src : Option Nat} {ds : List D} (hd : d = .lst ds ∨ d = .fl ds ∨ ∃ n, d = .ref n ∧ src = some n) : ItOk K (Itl K a) src ds (fun μ H => RD K μ H d (.ref a)) := by
  have key : ∀ (μ : Mu) (S : Sto) (H : Hp), Rel K μ S H → liveOk src ds S → RD K μ H d (.ref a) → ∃ vs, SqL K H a vs ∧ RDs K μ H ds vs := fun μ S H r l g => by
    have e : iSeq S d = some ds := by
      rcases hd with rfl | rfl | ⟨n, rfl, rfl⟩
      · rfl
      · rfl
      · show atL S n = some ds
        unfold atL
        have l' : S[n]? = some (.lst ds) := l
        rw [l']
    obtain ⟨a', vs, e1, q, z⟩ := iSeq_ok e r g
    cases e1
    exact ⟨vs, q, z⟩
  refine ⟨fun i μ S H hi r l g => ?_, fun i x μ S H H' hi r l g y => ?_, fun μ S H r l g => ?_, fun μ S H μ' H' g r s => RD.step g r s, fun μ H p o g h => RD.hide h _ _ g, fun μ H p xs ys g h => RD.seen h _ _ g⟩
  · obtain ⟨vs, q, z⟩ := key μ S H r l g
    obtain ⟨v, ev, _⟩ := z.get (List.getElem?_eq_getElem hi)
    exact ⟨_, v, q, ev⟩
  · obtain ⟨rfl, y⟩ := y
    obtain ⟨vs, q, z⟩ := key μ S _ r l g
    obtain ⟨v, ev, rv⟩ := z.get (List.getElem?_eq_getElem hi)
    have := y _ q
    rw [this] at ev
    cases ev
    exact ⟨.refl, r, _, List.getElem?_eq_getElem hi, rv⟩
  · obtain ⟨vs, q, z⟩ := key μ S H r l g
    exact ⟨_, q, by rw [z.length]; exact Nat.le_refl _⟩
theorem it_str {x : Str} : ItOk K (Its x) none (x.cps.toList.map fun c => D.str ⟨#[c]⟩) (fun _ _ => True) where
  go := fun i μ S H hi r _ g => by show i < x.cps.size; simpa using hi
  yld := fun i v μ S H H' hi r _ g y => by
    obtain ⟨rfl, c, ec, rfl⟩ := y
    refine ⟨.refl, r, _, ?_, .str _⟩
    rw [List.getElem?_map, Array.getElem?_toList, ec]
    rfl
  stop := fun μ S H r _ g => by show x.cps.size ≤ _; simp
  step := fun _ _ _ _ _ _ _ _ => trivial
  hide := fun _ _ _ _ _ _ => trivial
  seen := fun _ _ _ _ _ _ _ => trivial
def rangeD (lo : Int) (n : Nat) : List D := (List.range n).map fun i => .int (lo + (i : Nat))
theorem it_range {lo : Int} {n : Nat} : ItOk K (Itr lo n) none (rangeD lo n) (fun _ _ => True) where
  go := fun i μ S H hi r _ g => by show i < n; simpa [rangeD] using hi
  yld := fun i v μ S H H' hi r _ g y => by
    obtain ⟨rfl, rfl⟩ := y
    have hi' : i < n := by simpa [rangeD] using hi
    refine ⟨.refl, r, .int (lo + (i : Nat)), ?_, .int _⟩
    unfold rangeD
    rw [List.getElem?_map, List.getElem?_range hi']
    rfl
  stop := fun μ S H r _ g => by show n ≤ _; simp [rangeD]
  step := fun _ _ _ _ _ _ _ _ => trivial
  hide := fun _ _ _ _ _ _ => trivial
  seen := fun _ _ _ _ _ _ _ => trivial
theorem it_rev {a : Addr} {ds : List D} {d : D} {src : Option Nat} (hd : d = .lst ds ∨ d = .fl ds ∨ ∃ n, d = .ref n ∧ src = some n) : True := trivial
end
section
variable {X : Cx} {W : WX} {tg : Expr}
theorem PI.or {l : Expr} {w w' : TI} (h : PI X tg l w) (h' : PI X tg l w') : PI X tg l (fun σ H R => w σ H R ∨ w' σ H R) := ⟨fun pins s σ H R I q => by
  rcases q with q | q
  · exact h.run pins s σ H R I q
  · exact h'.run pins s σ H R I q⟩
theorem PI.imp {l : Expr} {w w' : TI} (h : PI X tg l w) (f : ∀ σ H R, w' σ H R → w σ H R) : PI X tg l w' := ⟨fun pins s σ H R I q => h.run pins s σ H R I (f σ H R q)⟩
theorem i_it {e : Expr} {te : EvD} (he : PE X e (tD X.K X.mg W te)) : PI X tg e (tI X.K X.mg W (iIt te)) := by
  refine PI.imp (PI.or (pi_list he) (PI.or (pi_tup he) (pi_str he))) fun σ H R ⟨ρ, S, μ, e, s, h⟩ => ?_
  cases hr : te ρ S with
  | bad => simp only [iIt, bnd, hr] at h; exact h.elim
  | ex x S1 =>
    refine .inl ⟨ρ, S, μ, e, s, ?_⟩
    simp only [iIt, bnd, hr] at h
    rw [hr]
    exact h
  | ok d S1 =>
    have h' : Post X.K X.mg W μ σ H (srcL d S1) (fun p μ' H' => ∀ J G, ItOk X.K J p.1 p.2 G → G μ' H' → R J H') := by
      simp only [iIt, bnd, hr] at h; exact h
    unfold srcL at h'
    split at h'
    · refine .inr (.inl ⟨ρ, S, μ, e, s, ?_⟩)
      rw [hr]
      intro μ1 H1 s1 r1 v rv
      have rv0 := rv
      cases rv with
      | tup q z => exact ⟨_, rfl, ⟨_, q⟩, (h'.mono s1).now r1 _ _ it_tup rv0⟩
    · refine .inl ⟨ρ, S, μ, e, s, ?_⟩
      rw [hr]
      intro μ1 H1 s1 r1 v rv
      have rv0 := rv
      cases rv with
      | lst q _ z => exact ⟨_, rfl, ⟨_, .inl (.inl q)⟩, (h'.mono s1).now r1 _ _ (it_seq (.inl rfl)) rv0⟩
    · refine .inl ⟨ρ, S, μ, e, s, ?_⟩
      rw [hr]
      intro μ1 H1 s1 r1 v rv
      obtain ⟨a, vs, rfl, q, z⟩ := iSeq_ok (d := .fl _) (S := S1) rfl r1 rv
      exact ⟨_, rfl, ⟨_, q⟩, (h'.mono s1).now r1 _ _ (it_seq (.inr (.inl rfl))) rv⟩
    · split at h'
      · rename_i ds e1
        refine .inl ⟨ρ, S, μ, e, s, ?_⟩
        rw [hr]
        intro μ1 H1 s1 r1 v rv
        obtain ⟨a, vs, rfl, q, z⟩ := iSeq_ok (d := .ref _) (S := S1) e1 r1 rv
        exact ⟨_, rfl, ⟨_, q⟩, (h'.mono s1).now r1 _ _ (it_seq (.inr (.inr ⟨_, rfl, rfl⟩))) rv⟩
      · exact h'.elim
    · refine .inr (.inr ⟨ρ, S, μ, e, s, ?_⟩)
      rw [hr]
      intro μ1 H1 s1 r1 v rv
      cases rv
      exact ⟨_, rfl, (h'.mono s1).now r1 _ _ it_str trivial⟩
    · exact h'.elim
def bnd62 (j : Int) : Bool := decide (-(2 ^ 62) ≤ j ∧ j < 2 ^ 62)
def srcR1 (xs : List D) : M (Option Nat × List D) := fun S => match xs with
  | [.int j] => if bnd62 j = true then .ok (none, rangeD 0 j.toNat) S else .bad
  | _ => .bad
def srcR2 (xs : List D) : M (Option Nat × List D) := fun S => match xs with
  | [.int i, .int j] => if bnd62 i = true ∧ bnd62 j = true then .ok (none, rangeD i (j - i).toNat) S else .bad
  | _ => .bad
def iRange1 (as : EvL) : EvI := fun ρ => bnd (as ρ) srcR1
def iRange2 (as : EvL) : EvI := fun ρ => bnd (as ρ) srcR2
theorem i_range1 {a : Expr} {ta : EvL} {p pos : Pos} (hg : Gl X "range") (hm : X.mg "range" = none) (ha : PA X [a] (tA X.K X.mg W ta)) (hs : starEach [a] X.env = [(false, eval a X.env)] := by rfl) : PI X tg (.Call (.Name "range" p) [a] [] pos) (tI X.K X.mg W (iRange1 ta)) := by
  refine PI.imp (pi_range1 hg hm ha hs) fun σ H R ⟨ρ, S, μ, e, s, h⟩ => ?_
  refine ⟨ρ, S, μ, e, s, h.bnd fun xs S1 μ1 H1 s1 r1 h1 vs rvs => ?_⟩
  unfold srcR1 at h1
  split at h1
  · split at h1
    · rename_i hb
      unfold bnd62 at hb
      rw [decide_eq_true_eq] at hb
      cases rvs with
      | cons q1 q2 => cases q1; cases q2; exact ⟨_, rfl, hb.1, hb.2, h1.now r1 _ _ it_range trivial⟩
    · exact h1.elim
  · exact h1.elim
theorem i_range2 {a b : Expr} {ta : EvL} {p pos : Pos} (hg : Gl X "range") (hm : X.mg "range" = none) (ha : PA X [a, b] (tA X.K X.mg W ta)) (hs : starEach [a, b] X.env = [(false, eval a X.env), (false, eval b X.env)] := by rfl) (hs2 : starEach [b] X.env = [(false, eval b X.env)] := by rfl) :
    PI X tg (.Call (.Name "range" p) [a, b] [] pos) (tI X.K X.mg W (iRange2 ta)) := by
  refine PI.imp (pi_range2 hg hm ha hs hs2) fun σ H R ⟨ρ, S, μ, e, s, h⟩ => ?_
  refine ⟨ρ, S, μ, e, s, h.bnd fun xs S1 μ1 H1 s1 r1 h1 vs rvs => ?_⟩
  unfold srcR2 at h1
  split at h1
  · split at h1
    · rename_i hb
      unfold bnd62 at hb
      simp only [decide_eq_true_eq] at hb
      cases rvs with
      | cons q1 q2 => cases q2 with
        | cons q2 q3 => cases q1; cases q2; cases q3; exact ⟨_, _, rfl, ⟨hb.1.1, hb.1.2, hb.2.1, hb.2.2⟩, h1.now r1 _ _ it_range trivial⟩
    · exact h1.elim
  · exact h1.elim

/-! ### targets -/
theorem wipe_get (σ : L2.St) : ∀ (vs : List Nat) (j : Nat), (L2.wipe σ vs)[j]? = if j ∈ vs ∧ j < σ.length then some none else σ[j]?
  | [], j => by simp [L2.wipe]
  | v :: vs, j => by
    unfold L2.wipe
    rw [List.getElem?_set, wipe_get σ vs j, L2.wipe_length]
    by_cases h : v = j
    · subst h
      by_cases h2 : v < σ.length
      · simp [h2]
      · simp [h2]
    · have h' : ¬ j = v := fun e => h e.symm
      simp [h, h']
theorem wipe_twice (σ : L2.St) (vs : List Nat) : L2.wipe (L2.wipe σ vs) vs = L2.wipe σ vs := by
  apply List.ext_getElem?
  intro j
  rw [wipe_get, wipe_get, L2.wipe_length]
  split <;> rfl
theorem wipe_set {σ : L2.St} {i : Nat} {x : Option V} {vs : List Nat} (h : i ∈ vs) : L2.wipe (σ.set i x) vs = L2.wipe σ vs := by
  apply List.ext_getElem?
  intro j
  rw [wipe_get, wipe_get, List.length_set]
  by_cases hj : j ∈ vs ∧ j < σ.length
  · rw [if_pos hj, if_pos hj]
  · rw [if_neg hj, if_neg hj, List.getElem?_set]
    by_cases e : i = j
    · subst e
      have hl : ¬ i < σ.length := fun z => hj ⟨h, z⟩
      rw [if_pos rfl, if_neg hl, List.getElem?_eq_none (by omega)]
    · rw [if_neg e]
def GRD (X : Cx) (is : List Nat) (tgt : D → Rho → Option Rho) (g : TG) : Prop := ∀ (d : D) (v : V) (ρ ρ' : Rho) (σ : L2.St) (μ : Mu) (S : Sto) (H : Hp) (Q : L2.St → Hp → Prop), RE X.K μ H σ ρ → Rel X.K μ S H → RD X.K μ H d v → tgt d ρ = some ρ' →
  (∀ σ', RE X.K μ H σ' ρ' → (∀ vs, (∀ i ∈ is, i ∈ vs) → L2.wipe σ' vs = L2.wipe σ vs) → Q σ' H) → g v σ H Q
def gN (i : Nat) : D → Rho → Option Rho := fun d ρ => some (ρ.set i (some d))
theorem g_name (i : Nat) : GRD X [i] (gN i) (gName i) := fun d v ρ ρ' σ μ S H Q e r rd h q => by
  cases h
  exact q _ (e.set rd i) fun vs hv => wipe_set (hv i (by simp))
abbrev TgL := List D → Rho → Option Rho
def gN0 : TgL := fun ds ρ => match ds with
  | [] => some ρ
  | _ => none
def gNs (i : Nat) (t : TgL) : TgL := fun ds ρ => match ds with
  | d :: ds => t ds (ρ.set i (some d))
  | [] => none
def GRDs (X : Cx) (is : List Nat) (tgt : TgL) (g : TGs) : Prop := ∀ (ds : List D) (vs : List V) (ρ ρ' : Rho) (σ : L2.St) (μ : Mu) (S : Sto) (H : Hp) (Q : L2.St → Hp → Prop), RE X.K μ H σ ρ → Rel X.K μ S H → RDs X.K μ H ds vs → tgt ds ρ = some ρ' →
  (∀ σ', RE X.K μ H σ' ρ' → (∀ vs, (∀ i ∈ is, i ∈ vs) → L2.wipe σ' vs = L2.wipe σ vs) → Q σ' H) → g vs σ H Q
theorem gs_nil : GRDs X [] gN0 gNil := fun ds vs ρ ρ' σ μ S H Q e r rd h q => by
  unfold gN0 at h
  split at h
  · cases h; cases rd; exact ⟨rfl, q _ e fun _ _ => rfl⟩
  · cases h
theorem gs_cons (i : Nat) {is : List Nat} {t : TgL} {g : TGs} (ht : GRDs X is t g) : GRDs X (i :: is) (gNs i t) (gCons (gName i) g) := fun ds vs ρ ρ' σ μ S H Q e r rd h q => by
  unfold gNs at h
  split at h
  · cases rd with
    | cons h1 h2 => exact ⟨_, _, rfl, ht _ _ _ _ _ _ _ _ _ (e.set h1 i) r h2 h fun σ' e' w => q σ' e' fun vs hv => (w vs fun j hj => hv j (by simp [hj])).trans (wipe_set (hv i (by simp)))⟩
  · cases h
def gTp (n : Nat) (t : TgL) : D → Rho → Option Rho := fun d ρ => match d with
  | .tup ds => if ds.length = n then t ds ρ else none
  | _ => none
theorem g_tup {n : Nat} {is : List Nat} {t : TgL} {g : TGs} (ht : GRDs X is t g) : GRD X is (gTp n t) (gTup X.K n g) := fun d v ρ ρ' σ μ S H Q e r rd h q => by
  unfold gTp at h
  split at h
  · split at h
    · rename_i hl
      cases rd with
      | tup h1 h2 => exact ⟨_, _, rfl, h1, by rw [← h2.length]; exact hl, ht _ _ _ _ _ _ _ _ _ e r h2 h q⟩
    · cases h
  · cases h

/-! ### comprehensions -/
open Classical in
noncomputable def compM (src : Option Nat) (all : List D) (tgt : D → Rho → Option Rho) (test : EvB) (el : EvD) (ρ : Rho) : List D → M (List D)
  | [] => fun S => if liveOk src all S then .ok [] S else .bad
  | d :: ds => fun S => if liveOk src all S then (match tgt d ρ with
    | some ρ1 => bnd (test ρ1) (fun b => if b = true then bnd (el ρ1) (fun y => bnd (compM src all tgt test el ρ ds) fun ys => ret (y :: ys)) else compM src all tgt test el ρ ds) S
    | none => .bad) else .bad
def noEx {α : Type} (m : M α) : M α := fun S => match m S with
  | .ex _ _ => .bad
  | r => r
noncomputable def eComp (it : EvI) (tgt : D → Rho → Option Rho) (test : EvB) (el : EvD) (vs : List Nat) : EvD := fun ρ => bnd (it ρ) fun p => noEx (fun S => if p.2.length ≤ sizeLine then
  (match compM p.1 p.2 tgt test el (wipeR ρ vs) p.2 S with
    | .ok ys S' => .ok (.lst ys) S'
    | .ex e S' => .ex e S'
    | .bad => .bad) else .bad)
def bYes : EvB := fun _ => ret true
abbrev W0 : WX := fun _ _ _ _ => False
theorem ts_nil : PTs X [] (tT X.K X.mg W bYes) := ⟨fun pins s σ H Q I ⟨ρ, S, μ, e, r, h⟩ => (pts_nil (X := X)).run pins s σ H Q I (show Q true H from h.now r)⟩
theorem ts_one {c : Expr} {t : EvB} (h : PT X c (tT X.K X.mg W t)) : PTs X [c] (tT X.K X.mg W t) := pts_one h
def okR {α : Type} (c : R α) (F : α → Sto → Prop) : Prop := match c with
  | .ok a S => F a S
  | _ => False
theorem Stp.side {μ μ' : Mu} {H H' : Hp} {p : Addr} {o : HO} (s : Stp μ H μ' H') (hp : H p = none) : Stp μ H μ' (upd H' p o) := by
  obtain ⟨q, k, t⟩ := s
  refine ⟨q, fun a u e z => by rw [upd_ne (ne_of_none e hp)]; exact k a u e z, fun a e => ?_⟩
  by_cases z : a = p
  · rw [z, upd_same]; simp
  · rw [upd_ne z]; exact t a e
theorem okR_bnd {α β : Type} {m : M α} {k : α → M β} {S : Sto} {F : β → Sto → Prop} (h : okR (bnd m k S) F) : okR (m S) fun a S' => okR (k a S') F := by
  unfold bnd at h
  cases e : m S with
  | ok a S' => rw [e] at h; exact h
  | ex x S' => rw [e] at h; exact h
  | bad => rw [e] at h; exact h
theorem okR_post {K : PySem.W.Frag} {mg : Str → Option Value} {W : WX} {μ : Mu} {σ : L2.St} {H : Hp} {α : Type} {r : R α} {F : α → Sto → Prop} {Q : α → Mu → Hp → Prop} (h : okR r F) (f : ∀ a S' μ' H', F a S' → Stp μ H μ' H' → Rel K μ' S' H' → Q a μ' H') : Post K mg W μ σ H r Q := by
  cases r with
  | ok a S => exact fun μ' H' s r => f a S μ' H' h s r
  | ex e S => exact False.elim h
  | bad => exact False.elim h
theorem comp_ok {it : EvI} {tgt : D → Rho → Option Rho} {g : TG} {test : EvB} {el : EvD} {is vs : List Nat} (hG : GRD X is tgt g) (his : ∀ i ∈ is, i ∈ vs) {σ : L2.St} {H : Hp} {Q : VK}
    (hh : tD X.K X.mg W (eComp it tgt test el vs) σ H Q) : tLc (tI X.K X.mg W it) g (tT X.K X.mg W0 test) (tD X.K X.mg W0 el) vs σ H Q := by
  obtain ⟨ρ, S, μ, e, s, h⟩ := hh
  refine ⟨ρ, S, μ, e, s, h.bnd fun p S1 μ1 H1 s1 r1 h1 J G io gg D hD => ?_⟩
  obtain ⟨src, all⟩ := p
  simp only [] at io h1
  -- what the denotation says
  obtain ⟨hlen, fin⟩ : all.length ≤ sizeLine ∧ okR (compM src all tgt test el (wipeR ρ vs) all S1) (fun ys S' => ∀ μ' H', Stp μ1 H1 μ' H' → Rel X.K μ' S' H' → QD X.K Q (.lst ys) μ' H') := by
    unfold noEx at h1
    simp only [] at h1
    by_cases hl : all.length ≤ sizeLine
    · refine ⟨hl, ?_⟩
      rw [if_pos hl] at h1
      cases ec : compM src all tgt test el (wipeR ρ vs) all S1 with
      | ok ys S' => rw [ec] at h1; exact h1
      | ex e S' => rw [ec] at h1; exact h1
      | bad => rw [ec] at h1; exact h1
    · rw [if_neg hl] at h1; exact h1.elim
  have hDx : D ∉ μ1.x := fun z => r1.hid D z hD
  let Inv (i : Nat) (Hc : Hp) : Prop := ∃ Sc μc acc as, i ≤ all.length ∧ Stp μ1 H1 μc Hc ∧ Rel X.K (μc.hide D) Sc Hc ∧ RE X.K (μc.hide D) Hc (L2.wipe σ vs) (wipeR ρ vs) ∧ G (μc.hide D) Hc ∧ Hc D = some (.lst acc) ∧ RDs X.K (μc.hide D) Hc as acc ∧ as.length ≤ i ∧
    okR (compM src all tgt test el (wipeR ρ vs) (all.drop i) Sc) (fun ys S' => ∀ μ' H', Stp μ1 H1 μ' H' → Rel X.K μ' S' H' → QD X.K Q (.lst (as ++ ys)) μ' H')
  refine ⟨fun i m Hc => m = all.length - i ∧ Inv i Hc, ⟨all.length, by simp, ?_⟩, ?_⟩
  · refine ⟨S1, μ1, [], [], Nat.zero_le _, Stp.new hD, r1.hide hD, ((e.step s s1).wipe vs).mapR (RD.hide hD), io.hide _ _ _ _ gg hD, upd_same, .nil, Nat.le_refl _, ?_⟩
    simpa using fin
  · rintro i m Hc ⟨rfl, Sc, μc, acc, as, hi2, st, rel, re, hG2, hacc, rds, hal, done⟩
    by_cases hlt : i < all.length
    · right
      have hdrop : all.drop i = all[i] :: all.drop (i + 1) := List.drop_eq_getElem_cons hlt
      rw [hdrop] at done
      unfold compM at done
      by_cases hlive : liveOk src all Sc
      · rw [if_pos hlive] at done
        split at done
        · rename_i ρ1 hρ1
          refine ⟨io.go i _ Sc Hc hlt rel hlive hG2, fun H' => Inv (i + 1) H', fun H' q => ⟨all.length - (i + 1), by omega, rfl, q⟩, fun x H' y => ?_⟩
          obtain ⟨sy, ry, d, hd, rd⟩ := io.yld i x _ Sc Hc H' hlt rel hlive hG2 y
          rw [List.getElem?_eq_getElem hlt] at hd
          cases hd
          obtain ⟨μy, ey, sty⟩ := sy.show
          have eμ : μy = μc := by
            obtain ⟨v1, x1⟩ := μy
            obtain ⟨v2, x2⟩ := μc
            simp only [Mu.hide, Mu.mk.injEq, List.cons.injEq, true_and] at ey
            obtain ⟨rfl, rfl⟩ := ey
            rfl
          subst eμ
          have notv : ∀ (μ : Mu) (Sx : Sto) (Hx : Hp), Rel X.K (μ.hide D) Sx Hx → D ∉ (μ.hide D).v := fun μ Sx Hx r z => r.apt D z List.mem_cons_self
          have haccy : H' D = some (.lst acc) := sy.keep D _ hacc (notv _ _ _ rel)
          refine hG _ _ _ ρ1 _ _ Sc H' _ (re.step rel sy) ry rd hρ1 fun σ2 re2 hw => ⟨(hw vs his).trans (wipe_twice σ vs), ρ1, Sc, _, re2, ry, ?_⟩
          have done2 := okR_bnd done
          refine okR_post done2 fun b S2 μ2 H3 db s3 r3 => ?_
          obtain ⟨μ2', rfl, st3⟩ := s3.show
          have haccb : H3 D = some (.lst acc) := s3.keep D _ haccy (notv _ _ _ ry)
          have rds3 := (rds.step rel sy).step ry s3
          have re3 := (re.step rel sy).step ry s3
          have g3 := io.step _ _ _ _ _ (io.step _ _ _ _ _ hG2 rel sy) ry s3
          have stt := (st.trans sty).trans st3
          cases b with
          | false =>
            rw [if_neg Bool.false_ne_true] at db ⊢
            exact ⟨S2, μ2', acc, as, hlt, stt, r3, re3, g3, haccb, rds3, Nat.le_succ_of_le hal, db⟩
          | true =>
            rw [if_pos rfl] at db ⊢
            refine ⟨ρ1, S2, _, re2.step ry s3, r3, ?_⟩
            refine okR_post (okR_bnd db) fun yv S4 μ4 H4 d4 s4 r4 v rv => ?_
            obtain ⟨μ4', rfl, st4⟩ := s4.show
            have hacc4 : H4 D = some (.lst acc) := s4.keep D _ haccb (notv _ _ _ r3)
            have rds4 := rds3.step r3 s4
            refine ⟨acc, hacc4, by rw [← rds4.length]; omega, S4, μ4', acc ++ [v], as ++ [yv], hlt, (stt.trans st4).side hD, r4.seen hacc4, (re3.step r3 s4).mapR (RD.seen hacc4), io.seen _ _ _ _ _ (io.step _ _ _ _ _ g3 r3 s4) hacc4, upd_same,
              RDs.seen hacc4 _ _ (rds4.append (.cons rv .nil)), by simp; omega, ?_⟩
            have d5 := okR_bnd d4
            unfold okR at d5 ⊢
            split
            · rename_i ys S' hys
              rw [hys] at d5
              intro μ' H5 sx rx
              have := d5 μ' H5 sx rx
              simpa using this
            · rename_i hno
              split at d5
              · rename_i a S' hh; exact absurd hh (hno a S')
              · exact d5
        · exact done.elim
      · rw [if_neg hlive] at done; exact done.elim
    · left
      have hi3 : i = all.length := by omega
      subst hi3
      rw [List.drop_length] at done
      unfold compM at done
      by_cases hlive : liveOk src all Sc
      · rw [if_pos hlive] at done
        refine ⟨io.stop _ Sc Hc rel hlive hG2, ?_⟩
        have z := done μc Hc st rel.show
        refine z _ (.lst hacc ⟨fun w => rel.apt D w List.mem_cons_self, by rw [st.x]; exact hDx⟩ ?_)
        simpa using rds.show
      · rw [if_neg hlive] at done; exact done.elim
theorem d_comp {elt iter : Expr} {ifs : List Expr} {scope : Scope} {own : List (Str × Nat)} {vs : List Nat} {pos : Pos} {it : EvI} {tgt : D → Rho → Option Rho} {g : TG} {test : EvB} {el : EvD} {is : List Nat} (hc : X.calm = true) (hN : X.N.Nodup)
    (hi : PI X tg iter (tI X.K X.mg W it)) (ok : BlkOk X.N X.env.scope scope own) (hv : own.map (·.2) = vs) (hG : GRD X is tgt g) (his : ∀ i ∈ is, i ∈ vs)
    (hg : ∀ (s : Shared) (H : Hp) (C : Addr) (cl : List (Str × Addr)) (fp : List Addr), PG (X.blk s H scope (compEnvC scope cl C X.env) fp) tg g)
    (ht : ∀ (s : Shared) (H : Hp) (C : Addr) (cl : List (Str × Addr)) (fp : List Addr), PTs (X.blk s H scope (compEnvC scope cl C X.env) fp) ifs (tT X.K X.mg W0 test))
    (he : ∀ (s : Shared) (H : Hp) (C : Addr) (cl : List (Str × Addr)) (fp : List Addr), PE (X.blk s H scope (compEnvC scope cl C X.env) fp) elt (tD X.K X.mg W0 el)) (hs : ∀ x, foldedSetIterable iter X.env x = pure x := by intro _; rfl) :
    PE X (.ListComp elt [⟨tg, iter, ifs, 0⟩] scope pos) (tD X.K X.mg W (eComp it tgt test el vs)) := by
  subst hv
  exact PE.imp (pe_lc hc hN hi ok hg ht he hs) fun σ H Q h => comp_ok hG his h
end
end DL

/-! DL5: statements, defs. -/
namespace DL
open PySem L2 PyProof.Rows

inductive Out where
  | nx (ρ : Rho) | rt (d : D) | bk (ρ : Rho) | ct (ρ : Rho) | xc (e : Exc) (ρ : Rho)
abbrev EvS := Rho → M Out
/-- an expression within a statement -/
def lft {α : Type} (ρ : Rho) (m : M α) (k : α → M Out) : M Out := fun S => match m S with
  | .ok a S' => k a S'
  | .ex e S' => .ok (.xc e ρ) S'
  | .bad => .bad
section
variable (K : PySem.W.Frag) (mg : Str → Option Value) (W : WX)
def OutOk (E : Ends) (o : Out) (μ : Mu) (H : Hp) : Prop := match o with
  | .nx ρ => ∀ σ, RE K μ H σ ρ → E.nx σ H
  | .rt d => ∀ v, RD K μ H d v → E.rt v H
  | .bk ρ => ∀ σ, RE K μ H σ ρ → E.bk σ H
  | .ct ρ => ∀ σ, RE K μ H σ ρ → E.ct σ H
  | .xc e ρ => ∀ σ c od, RE K μ H σ ρ → RX K mg μ H e c od → W c od σ H
def PostO (E : Ends) (μ : Mu) (H : Hp) (r : R Out) : Prop := okR r fun o S' => ∀ μ' H', Stp μ H μ' H' → Rel K μ' S' H' → OutOk K mg W E o μ' H'
def tS (G : EvS) : TS := fun E σ H => ∃ ρ S μ, RE K μ H σ ρ ∧ Rel K μ S H ∧ PostO K mg W E μ H (G ρ S)
end
section
variable {K : PySem.W.Frag} {mg : Str → Option Value} {W : WX} {μ μ1 : Mu} {σ : L2.St} {H H1 : Hp} {E : Ends}
theorem PostO.mono {r : R Out} (h : PostO K mg W E μ H r) (s : Stp μ H μ1 H1) : PostO K mg W E μ1 H1 r := by
  cases r with
  | ok o S => exact fun μ' H' q r => h μ' H' (s.trans q) r
  | ex e S => exact h
  | bad => exact h
theorem PostO.now {o : Out} {S : Sto} (h : PostO K mg W E μ H (.ok o S)) (r : Rel K μ S H) : OutOk K mg W E o μ H := h μ H .refl r
theorem PostO.lft {α : Type} {m : M α} {k : α → M Out} {S : Sto} {ρ : Rho} {Q : α → Mu → Hp → Prop} (h : PostO K mg W E μ H (lft ρ m k S)) (e : RE K μ H σ ρ) (r : Rel K μ S H)
    (f : ∀ a S1 μ1 H1, Stp μ H μ1 H1 → Rel K μ1 S1 H1 → RE K μ1 H1 σ ρ → PostO K mg W E μ1 H1 (k a S1) → Q a μ1 H1) : Post K mg W μ σ H (m S) Q := by
  unfold DL.lft at h
  cases hm : m S with
  | ok a S1 =>
    rw [hm] at h
    exact fun μ' H' s r' => f a S1 μ' H' s r' (e.step r s) (h.mono s)
  | ex x S1 =>
    rw [hm] at h
    exact fun μ' H' c od s r' rx => h μ' H' s r' σ c od (e.step r s) rx
  | bad => rw [hm] at h; exact h
end
def sAsg (tgt : D → Rho → Option Rho) (F : EvD) : EvS := fun ρ => lft ρ (F ρ) fun d S => match tgt d ρ with
  | some ρ' => .ok (.nx ρ') S
  | none => .bad
def sExpr (F : EvD) : EvS := fun ρ => lft ρ (F ρ) fun _ => ret (.nx ρ)
def sRet (F : EvD) : EvS := fun ρ => lft ρ (F ρ) fun d => ret (.rt d)
def sRetN : EvS := fun _ => ret (.rt .non)
def sIf (c : EvB) (a b : EvS) : EvS := fun ρ => lft ρ (c ρ) fun k => if k = true then a ρ else b ρ
def sNil : EvS := fun ρ => ret (.nx ρ)
def sBrk : EvS := fun ρ => ret (.bk ρ)
def sCnt : EvS := fun ρ => ret (.ct ρ)
def sBad : EvS := fun _ => stuck
def sSeq (a b : EvS) : EvS := fun ρ S => match a ρ S with
  | .ok (.nx ρ') S' => b ρ' S'
  | r => r
def gSet (o i d : D) : M Unit := fun S => match o, i with
  | .ref n, .int k => match atL S n with
    | some ds => match ixN ds.length k with
      | some j => .ok () (S.set n (.lst (ds.set j d)))
      | none => .bad
    | none => .bad
  | _, _ => .bad
def sSub (F Fo Fi : EvD) : EvS := fun ρ => lft ρ (F ρ) fun d => lft ρ (Fo ρ) fun o => lft ρ (Fi ρ) fun i => lft ρ (gSet o i d) fun _ => ret (.nx ρ)
open Classical in
noncomputable def forM (src : Option Nat) (all : List D) (tgt : D → Rho → Option Rho) (body : EvS) : List D → Rho → M Out
  | [], ρ => fun S => if liveOk src all S then .ok (.nx ρ) S else .bad
  | d :: ds, ρ => fun S => if liveOk src all S then (match tgt d ρ with
    | some ρ1 => match body ρ1 S with
      | .ok (.nx ρ2) S2 => forM src all tgt body ds ρ2 S2
      | .ok (.ct ρ2) S2 => forM src all tgt body ds ρ2 S2
      | .ok (.bk ρ2) S2 => .ok (.nx ρ2) S2
      | r => r
    | none => .bad) else .bad
noncomputable def sFor (it : EvI) (tgt : D → Rho → Option Rho) (body : EvS) : EvS := fun ρ => lft ρ (it ρ) fun p => forM p.1 p.2 tgt body p.2 ρ
def whileM (c : EvB) (body : EvS) : Nat → Rho → M Out
  | 0, _ => stuck
  | f + 1, ρ => lft ρ (c ρ) fun k => if k = true then (fun S => match body ρ S with
    | .ok (.nx ρ2) S2 => whileM c body f ρ2 S2
    | .ok (.ct ρ2) S2 => whileM c body f ρ2 S2
    | .ok (.bk ρ2) S2 => .ok (.nx ρ2) S2
    | r => r) else ret (.nx ρ)
def sWhile (fu : Nat) (c : EvB) (body : EvS) : EvS := whileM c body fu

section
variable {X : Cx} {W : WX} {pos : Pos}
theorem s_asg {tg e : Expr} {F : EvD} {is : List Nat} {tgt : D → Rho → Option Rho} {g : TG} (he : PE X e (tD X.K X.mg W F)) (hG : GRD X is tgt g) (hg : PG X tg g) (hs : swapsWithSole [tg] e pos.line X.env = pure false := by rfl) (hw : swappedStores [tg] e X.env = pure none := by rfl)
    (h1 : (assignEach [tg] X.env).map (·.2) = [assign tg X.env] := by rfl) : PS X (.Assign [tg] e pos) (tS X.K X.mg W (sAsg tgt F)) := by
  refine PS.imp (ps_asg he hg hs hw h1) fun E σ H ⟨ρ, S, μ, e, s, h⟩ => ?_
  refine ⟨ρ, S, μ, e, s, h.lft e s fun d S1 μ1 H1 s1 r1 e1 h1 v rv => ?_⟩
  split at h1
  · rename_i ρ' et
    exact hG _ _ _ _ _ _ _ _ _ e1 r1 rv et fun σ' e' _ => h1.now r1 σ' e'
  · exact h1.elim
theorem s_expr {e : Expr} {F : EvD} (he : PE X e (tD X.K X.mg W F)) (hs : swapsWith e none pos.line X.env = pure false := by rfl) : PS X (.Expr e pos) (tS X.K X.mg W (sExpr F)) := by
  refine PS.imp (ps_expr he hs) fun E σ H ⟨ρ, S, μ, e, s, h⟩ => ?_
  exact ⟨ρ, S, μ, e, s, h.lft e s fun d S1 μ1 H1 s1 r1 e1 h1 v rv => h1.now r1 σ e1⟩
theorem s_ret {e : Expr} {F : EvD} (he : PE X e (tD X.K X.mg W F)) : PS X (.Return (some e) pos) (tS X.K X.mg W (sRet F)) := by
  refine PS.imp (ps_ret he) fun E σ H ⟨ρ, S, μ, e, s, h⟩ => ?_
  exact ⟨ρ, S, μ, e, s, h.lft e s fun d S1 μ1 H1 s1 r1 e1 h1 v rv => h1.now r1 v rv⟩
theorem s_retN : PS X (.Return none pos) (tS X.K X.mg W sRetN) := by
  refine PS.imp ps_retN fun E σ H ⟨ρ, S, μ, e, s, h⟩ => ?_
  exact h.now s _ .non
theorem s_if {c : Expr} {a b : List Stmt} {tc : EvB} {ta tb : EvS} (hc : PT X c (tT X.K X.mg W tc)) (ha : PSs X a (tS X.K X.mg W ta)) (hb : PSs X b (tS X.K X.mg W tb)) : PS X (.If c a b pos) (tS X.K X.mg W (sIf tc ta tb)) := by
  refine PS.imp (ps_if hc ha hb) fun E σ H ⟨ρ, S, μ, e, s, h⟩ => ?_
  refine ⟨ρ, S, μ, e, s, h.lft e s fun k S1 μ1 H1 s1 r1 e1 h1 => ?_⟩
  cases k with
  | true => rw [if_pos rfl] at h1 ⊢; exact ⟨ρ, S1, μ1, e1, r1, h1⟩
  | false => rw [if_neg Bool.false_ne_true] at h1 ⊢; exact ⟨ρ, S1, μ1, e1, r1, h1⟩
theorem s_pass : PS X (.Pass pos) (tS X.K X.mg W sNil) := PS.imp ps_pass fun E σ H ⟨ρ, S, μ, e, s, h⟩ => h.now s σ e
theorem s_brk : PS X (.Break pos) (tS X.K X.mg W sBrk) := PS.imp ps_break fun E σ H ⟨ρ, S, μ, e, s, h⟩ => h.now s σ e
theorem s_cnt : PS X (.Continue pos) (tS X.K X.mg W sCnt) := PS.imp ps_continue fun E σ H ⟨ρ, S, μ, e, s, h⟩ => h.now s σ e
theorem s_bad {st : Stmt} : PS X st (tS X.K X.mg W sBad) := PS.imp ps_never fun E σ H ⟨ρ, S, μ, e, s, h⟩ => h
theorem ss_nil : PSs X [] (tS X.K X.mg W sNil) := PSs.imp pss_nil fun E σ H ⟨ρ, S, μ, e, s, h⟩ => h.now s σ e
theorem ss_one {st : Stmt} {t : EvS} (h : PS X st (tS X.K X.mg W t)) : PSs X [st] (tS X.K X.mg W t) := pss_one h
theorem ss_cons {st : Stmt} {rest : List Stmt} {t u : EvS} (h1 : PS X st (tS X.K X.mg W t)) (h2 : PSs X rest (tS X.K X.mg W u)) : PSs X (st :: rest) (tS X.K X.mg W (sSeq t u)) := by
  refine PSs.imp (pss_cons h1 h2) fun E σ H ⟨ρ, S, μ, e, s, h⟩ => ?_
  refine ⟨ρ, S, μ, e, s, ?_⟩
  unfold sSeq at h
  cases ht : t ρ S with
  | ok o S1 =>
    rw [ht] at h
    intro μ1 H1 s1 r1
    cases o with
    | nx ρ' => exact fun σ' e' => ⟨ρ', S1, μ1, e', r1, h.mono s1⟩
    | rt d => exact (h.mono s1).now r1
    | bk ρ' => exact (h.mono s1).now r1
    | ct ρ' => exact (h.mono s1).now r1
    | xc x ρ' => exact (h.mono s1).now r1
  | ex x S1 => rw [ht] at h; exact h
  | bad => rw [ht] at h; exact h
theorem s_sub {o i e : Expr} {F Fo Fi : EvD} {p2 : Pos} (he : PE X e (tD X.K X.mg W F)) (ho : PE X o (tD X.K X.mg W Fo)) (hi : PE X i (tD X.K X.mg W Fi))
    (ha : ∀ v, assign (.Subscript o i p2) X.env v = (do
      let ov ← holding [v] (eval o X.env)
      let iv ← holding [v, ov] (eval i X.env)
      standAt p2
      holding [v, ov, iv] (setItem ov iv v)
      release [v, ov, iv] []) := by intro _; rfl)
    (hs : swapsWithSole [.Subscript o i p2] e pos.line X.env = pure false := by rfl) (hw : swappedStores [.Subscript o i p2] e X.env = pure none := by rfl)
    (h1 : (assignEach [.Subscript o i p2] X.env).map (·.2) = [assign (.Subscript o i p2) X.env] := by rfl) : PS X (.Assign [.Subscript o i p2] e pos) (tS X.K X.mg W (sSub F Fo Fi)) := by
  refine PS.imp (ps_asg he (pg_sub ho hi set_list ha) hs hw h1) fun E σ H ⟨ρ, S, μ, e, s, h⟩ => ?_
  refine ⟨ρ, S, μ, e, s, h.lft e s fun d S1 μ1 H1 s1 r1 e1 h1 v rv => ?_⟩
  refine ⟨ρ, S1, μ1, e1, r1, h1.lft e1 r1 fun ov S2 μ2 H2 s2 r2 e2 h2 w rw => ?_⟩
  refine ⟨ρ, S2, μ2, e2, r2, h2.lft e2 r2 fun iv S3 μ3 H3 s3 r3 e3 h3 u ru => ?_⟩
  have rv3 := (rv.step r1 s2).step r2 s3
  have rw3 := rw.step r2 s3
  unfold lft gSet at h3
  simp only [] at h3
  split at h3
  · rename_i a S4 heq
    split at heq
    · split at heq
      · rename_i ds eL
        split at heq
        · rename_i j ej
          cases heq
          cases ru
          cases rw3 with
          | @ref n a hn =>
            obtain ⟨vs, q, z⟩ := r3.obj _ a _ hn (atL_ok eL)
            have hm : a ∈ μ3.v := List.mem_of_getElem? hn
            refine ⟨a, vs, _, j, rfl, rfl, q, by rw [← z.length]; exact ej, ?_⟩
            exact h3 μ3 _ (Stp.put hm) (r3.put hn ⟨_, upd_same, (z.step r3 (Stp.put hm)).set j (rv3.step r3 (Stp.put hm))⟩) σ (e3.step r3 (Stp.put hm))
        · cases heq
      · cases heq
    · cases heq
  · rename_i x S4 heq
    split at heq
    · split at heq
      · split at heq <;> cases heq
      · cases heq
    · cases heq
  · exact h3.elim
theorem s_for {tg iter : Expr} {body : List Stmt} {it : EvI} {is : List Nat} {tgt : D → Rho → Option Rho} {g : TG} {tb : EvS} (hp : PassesOwn (model X.prog X.w) X.A X.env X.xe) (hc : X.calm = true) (hi : PI X tg iter (tI X.K X.mg W it)) (hG : GRD X is tgt g) (hg : PG X tg g) (hb : PSs X body (tS X.K X.mg W tb))
    (hs : ∀ x, foldedSetIterable iter X.env x = pure x := by intro _; rfl) : PS X (.For tg iter body [] pos) (tS X.K X.mg W (sFor it tgt tb)) := by
  refine PS.imp (ps_for hp hc hi hg hb hs) fun E σ H ⟨ρ, S, μ, e, s, h⟩ => ?_
  refine ⟨ρ, S, μ, e, s, h.lft e s fun p S1 μ1 H1 s1 r1 e1 h1 J G io gg => ?_⟩
  obtain ⟨src, all⟩ := p
  simp only [] at io h1
  let Iv (i : Nat) (σc : L2.St) (Hc : Hp) : Prop := ∃ ρc Sc μc, i ≤ all.length ∧ RE X.K μc Hc σc ρc ∧ Rel X.K μc Sc Hc ∧ G μc Hc ∧ PostO X.K X.mg W E μc Hc (forM src all tgt tb (all.drop i) ρc Sc)
  refine ⟨fun i m σc Hc => m = all.length - i ∧ Iv i σc Hc, ⟨all.length, by simp, ρ, S1, μ1, Nat.zero_le _, e1, r1, gg, by simpa using h1⟩, ?_⟩
  rintro i m σc Hc ⟨rfl, ρc, Sc, μc, hi2, ec, rc, gc, done⟩
  by_cases hlt : i < all.length
  · right
    have hdrop : all.drop i = all[i] :: all.drop (i + 1) := List.drop_eq_getElem_cons hlt
    rw [hdrop] at done
    unfold forM at done
    by_cases hlive : liveOk src all Sc
    · rw [if_pos hlive] at done
      split at done
      · rename_i ρ1 hρ1
        refine ⟨io.go i _ Sc Hc hlt rc hlive gc, fun σ' H' => Iv (i + 1) σ' H', fun σ' H' q => ⟨all.length - (i + 1), by omega, rfl, q⟩, fun x H' y => ?_⟩
        obtain ⟨sy, ry, d, hd, rd⟩ := io.yld i x _ Sc Hc H' hlt rc hlive gc y
        rw [List.getElem?_eq_getElem hlt] at hd
        cases hd
        have gy := io.step _ _ _ _ _ gc rc sy
        refine hG _ _ _ ρ1 _ _ Sc H' _ (ec.step rc sy) ry rd hρ1 fun σ2 re2 _ => ⟨ρ1, Sc, _, re2, ry, ?_⟩
        unfold PostO at done ⊢
        cases hbd : tb ρ1 Sc with
        | ok o S2 =>
          rw [hbd] at done
          intro μ2 H2 s2 r2
          have sa := sy.trans s2
          cases o with
          | nx ρ2 => exact fun σ3 e3 => ⟨ρ2, S2, μ2, hlt, e3, r2, io.step _ _ _ _ _ gy ry s2, PostO.mono done sa⟩
          | ct ρ2 => exact fun σ3 e3 => ⟨ρ2, S2, μ2, hlt, e3, r2, io.step _ _ _ _ _ gy ry s2, PostO.mono done sa⟩
          | bk ρ2 => exact fun σ3 e3 => (PostO.mono done sa).now r2 σ3 e3
          | rt d2 => exact (PostO.mono done sa).now r2
          | xc x2 ρ2 => exact (PostO.mono done sa).now r2
        | ex x2 S2 => rw [hbd] at done; exact done
        | bad => rw [hbd] at done; exact done
      · exact done.elim
    · rw [if_neg hlive] at done; exact done.elim
  · left
    have hi3 : i = all.length := by omega
    subst hi3
    rw [List.drop_length] at done
    unfold forM at done
    by_cases hlive : liveOk src all Sc
    · rw [if_pos hlive] at done
      exact ⟨io.stop _ Sc Hc rc hlive gc, done.now rc σc ec⟩
    · rw [if_neg hlive] at done; exact done.elim
theorem s_while (fu : Nat) {c : Expr} {body : List Stmt} {tc : EvB} {tb : EvS} (hp : PassesOwn (model X.prog X.w) X.A X.env X.xe) (hc : PT X c (tT X.K X.mg W tc)) (hb : PSs X body (tS X.K X.mg W tb)) : PS X (.While c body [] pos) (tS X.K X.mg W (sWhile fu tc tb)) := by
  refine PS.imp (ps_while hp hc hb) fun E σ H ⟨ρ, S, μ, e, s, h⟩ => ?_
  refine ⟨fun m σc Hc => ∃ ρc Sc μc, RE X.K μc Hc σc ρc ∧ Rel X.K μc Sc Hc ∧ PostO X.K X.mg W E μc Hc (whileM tc tb m ρc Sc), ⟨fu, ρ, S, μ, e, s, h⟩, ?_⟩
  rintro m σc Hc ⟨ρc, Sc, μc, ec, rc, done⟩
  cases m with
  | zero => exact done.elim
  | succ m =>
    unfold whileM at done
    refine ⟨ρc, Sc, μc, ec, rc, done.lft ec rc fun k S1 μ1 H1 s1 r1 e1 h1 => ?_⟩
    cases k with
    | false => rw [if_neg Bool.false_ne_true] at h1 ⊢; exact h1.now r1 σc e1
    | true =>
      rw [if_pos rfl] at h1 ⊢
      refine ⟨fun σ' H' => ∃ ρc Sc μc, RE X.K μc H' σ' ρc ∧ Rel X.K μc Sc H' ∧ PostO X.K X.mg W E μc H' (whileM tc tb m ρc Sc), fun σ' H' q => ⟨m, Nat.lt_succ_self m, q⟩, ρc, S1, μ1, e1, r1, ?_⟩
      cases hbd : tb ρc S1 with
      | ok o S2 =>
        rw [hbd] at h1
        intro μ2 H2 s2 r2
        cases o with
        | nx ρ2 => exact fun σ3 e3 => ⟨ρ2, S2, μ2, e3, r2, PostO.mono h1 s2⟩
        | ct ρ2 => exact fun σ3 e3 => ⟨ρ2, S2, μ2, e3, r2, PostO.mono h1 s2⟩
        | bk ρ2 => exact fun σ3 e3 => (PostO.mono h1 s2).now r2 σ3 e3
        | rt d2 => exact (PostO.mono h1 s2).now r2
        | xc x2 ρ2 => exact (PostO.mono h1 s2).now r2
      | ex x2 S2 => rw [hbd] at h1; exact h1
      | bad => rw [hbd] at h1; exact h1
end

/-! ### defs -/
def startR (n : Nat) (ds : List D) : Rho := ds.map some ++ List.replicate (n - ds.length) none
/-- a def's end: what it made and nobody sees any more is forgotten; keep: nothing is -/
def finD (keep : Bool) (n : Nat) (d : D) : M D := fun S => if keep = true then .ok d S else
  if (S.take n).all (MO.lo n) = true then
    (if d.lo n = true then .ok d (S.take n) else match d with
      | .ref k => match atL S k with
        | some ds => if n ≤ k ∧ D.los n ds = true then .ok (.lst ds) (S.take n) else .bad
        | none => .bad
      | _ => .bad)
  else .bad
def runDef (keep : Bool) (n : Nat) (body : EvS) (ds : List D) : M D := fun S => match body (startR n ds) S with
  | .ok (.rt d) S' => finD keep S.length d S'
  | .ok (.nx _) S' => finD keep S.length .non S'
  | .ok (.xc e _) S' => .ex e S'
  | _ => .bad
def spD (K : PySem.W.Frag) (mg : Str → Option Value) (ar : Nat) (G : List D → M D) : Sp := fun vs H Q E => ∃ μ S ds, ds.length = ar ∧ RDs K μ H ds vs ∧ Rel K μ S H ∧ Post K mg (fun c od _ H => E c od H) μ [] H (G ds S) (QD K Q)
theorem start_rel {K : PySem.W.Frag} {μ : Mu} {H : Hp} {N : List Str} {ds : List D} {vs : List V} (h : RDs K μ H ds vs) : RE K μ H (L2.start N vs) (startR N.length ds) := by
  have hl := h.length
  refine ⟨by simp [L2.start, startR, hl], fun i d e => ?_⟩
  unfold startR at e
  unfold L2.start
  by_cases hi : i < ds.length
  · rw [List.getElem?_append_left (by simpa using hi), List.getElem?_map, Option.map_eq_some_iff] at e
    obtain ⟨d', e1, e2⟩ := e
    cases e2
    obtain ⟨v, ev, rv⟩ := h.get e1
    exact ⟨v, by rw [List.getElem?_append_left (by rw [List.length_map]; omega), List.getElem?_map, ev]; rfl, rv⟩
  · rw [List.getElem?_append_right (by simpa using hi), List.getElem?_replicate] at e
    split at e <;> simp at e
theorem fin_ok {K : PySem.W.Frag} {mg : Str → Option Value} {W : WX} {μ : Mu} {S : Sto} {σ : L2.St} {H : Hp} {keep : Bool} {d : D} {S' : Sto} {Q : VK} (h : Post K mg W μ σ H (finD keep S.length d S') (QD K Q)) (r : Rel K μ S H) :
    ∀ μ' H', Stp μ H μ' H' → Rel K μ' S' H' → ∀ v, RD K μ' H' d v → Q v H' := by
  intro μ' H' s r' v rv
  unfold finD at h
  split at h
  · exact h μ' H' s r' v rv
  · split at h
    · rename_i hb
      have sc := s.cut
      rw [r.len] at sc
      split at h
      · rename_i hd
        exact h _ H' sc (r'.cut hb) v (rv.cut _ _ hd)
      · split at h
        · rename_i k
          split at h
          · rename_i ds e
            split at h
            · rename_i hc
              exact h _ H' sc (r'.cut hb) v (RD.freed r' rv hc.1 (atL_ok e) hc.2)
            · exact h.elim
          · exact h.elim
        · exact h.elim
    · exact h.elim
section
variable {P : Program} {w : World} {K : PySem.W.Frag} {mg : Str → Option Value} {base : Heap}
abbrev WD (E : XK) : WX := fun c od _ H => E c od H
/-- a def by its body -/
theorem fn_ok {x qual : Str} {st : Stmt} {f : Addr} {fd : FuncData} {N ps : List Str} {k : Nat} {keep : Bool} {body : EvS} (F : Fun K x qual st f fd) (S : FnScope N ps (defScope st))
    (hbody : ∀ (cdv : Value) (A : Around) (outer : List Env) (s : Shared) (H : Hp) (E : XK), Room k (A.deeper (envOfC qual (defScope st) s.heap.objs.size f cdv)) →
      PSs (cxOf (L2.CX P w) P w K mg base N qual (defScope st) f cdv A outer s H E) (defBody st) (tS K mg (WD E) body)) :
    FnOk P w K mg base (L2.CX P w) (k + 1) f fd ps (spD K mg ps.length (runDef keep N.length body)) := by
  refine F.okX S (fun vs H Q E ⟨μ, S, ds, hl, h, _⟩ => by rw [← h.length]; exact hl) fun cdv A outer s H vs Q E hr ⟨μ, Sx, ds, hl, hd, r, hp⟩ => ?_
  refine ⟨_, hbody cdv A outer s H E hr, startR N.length ds, Sx, μ, start_rel hd, r, ?_⟩
  unfold runDef at hp
  cases hb : body (startR N.length ds) Sx with
  | ok o S' =>
    rw [hb] at hp
    cases o with
    | nx ρ' => exact fun μ' H' s' r' σ' _ => fin_ok hp r μ' H' s' r' _ .non
    | rt d => exact fun μ' H' s' r' v rv => fin_ok hp r μ' H' s' r' v rv
    | bk ρ' => exact hp.elim
    | ct ρ' => exact hp.elim
    | xc e ρ' => exact fun μ' H' s' r' σ' c od _ rx => hp μ' H' c od s' r' rx
  | ex e S' => rw [hb] at hp; exact hp.elim
  | bad => rw [hb] at hp; exact hp.elim
end
section
variable {X : Cx} {W : WX} {pos : Pos}
/-- so many arguments -/
def cl (n : Nat) (G : List D → M D) : List D → M D := fun ds => if ds.length = n then G ds else stuck
/-- a call of a def -/
theorem d_call {k n : Nat} {f : Addr} {fd : FuncData} {ps : List Str} {x : Str} {p : Pos} {e : Expr} {es : List Expr} {G : List D → M D} {t : EvL} (F : FnOk X.prog X.w X.K X.mg X.base (L2.CX X.prog X.w) k f fd ps (spD X.K X.mg ps.length G)) (hr : Room k X.A)
    (hg : Gl X x) (hm : X.mg x = some (.ref f)) (hk : PySem.W.keepIn X.K (.ref f) = true) (hb : Binds X.K fd ps []) (tk : Takes X W) (ha : PA X (e :: es) (tA X.K X.mg W t)) (hlen : ps.length = n := by rfl) (hdb : (x == ("__debug__" : Str)) = false := by decide)
    (he : starEach (e :: es) X.env = (false, eval e X.env) :: starEach es X.env := by rfl) (hpl : (backTo pos (starEach es X.env)).any (·.1) = false := by rfl) :
    PE X (.Call (.Name x p) (e :: es) [] pos) (tD X.K X.mg W (eCall (cl n G) t)) := by
  subst hlen
  refine PE.imp (pe_callS F hr hg hm hk hb (fun σ => passAt tk σ) ha hdb he hpl) fun σ H Q ⟨ρ, S, μ, e, s, h⟩ => ?_
  refine ⟨ρ, S, μ, e, s, h.bnd fun ds S1 μ1 H1 s1 r1 h1 vs rvs => ?_⟩
  unfold cl at h1
  split at h1
  · rename_i hl
    refine ⟨μ1, S1, ds, hl, rvs, r1, ?_⟩
    cases hg : G ds S1 with
    | ok d S2 => rw [hg] at h1; exact h1
    | ex x S2 => rw [hg] at h1; exact h1
    | bad => rw [hg] at h1; exact h1
  · exact h1.elim
end
end DL

/-! DL6: short words. -/
namespace DL
open PySem L2 PyProof.Rows
/-- a module's constant -/
def GV (K : PySem.W.Frag) (mg : Str → Option Value) (x : Str) (d : D) : Prop := ∃ u v, mg x = some u ∧ RelV v u ∧ ∀ μ H, RD K μ H d v
structure DefAt (K : PySem.W.Frag) (mg : Str → Option Value) (x : Str) (st : Stmt) (ps : List Str) (f : Addr) (fd : FuncData) : Prop where
  fn : Fun K x x st f fd
  mg : mg x = some (.ref f)
  bi : Binds K fd ps []
section
variable {X : Cx} {W : WX} {pos : Pos}
theorem d_globv {x : Str} {d : D} (g : GV X.K X.mg x d) (hg : Gl X x := by rfl) (hdb : (x == ("__debug__" : Str)) = false := by decide) : PE X (.Name x pos) (tD X.K X.mg W (eC d)) := by
  obtain ⟨u, v, h1, h2, h3⟩ := g
  exact d_glob hg h1 h2 h3 hdb
theorem s_set (i : Nat) {x : Str} {p : Pos} {e : Expr} {F : EvD} (hN : X.N.Nodup) (he : PE X e (tD X.K X.mg W F)) (hi : X.N[i]? = some x := by rfl) (hx : Loc X.env.scope x := by first | exact Or.inl rfl | exact Or.inr rfl)
    (hf : X.fn x = true ∨ X.env.scope.names.lookup x = some .local := by first | exact .inl rfl | exact .inr rfl | assumption)
    (hs : swapsWithSole [.Name x p] e pos.line X.env = pure false := by rfl) (hw : swappedStores [.Name x p] e X.env = pure none := by rfl)
    (h1 : (assignEach [.Name x p] X.env).map (·.2) = [assign (.Name x p) X.env] := by rfl) : PS X (.Assign [.Name x p] e pos) (tS X.K X.mg W (sAsg (gN i) F)) :=
  s_asg he (g_name i) (pg_name hN hi hx hf) hs hw h1
/-- y = [..], y a local -/
theorem s_setLc (i : Nat) {y : Str} {py : Pos} {tg elt iter : Expr} {ifs : List Expr} {scope : Scope} {own : List (Str × Nat)} {vs : List Nat} {pos spos : Pos} {it : EvI} {tgt : D → Rho → Option Rho} {g : TG} {test : EvB} {el : EvD} {is : List Nat} (hc : X.calm = true) (hN : X.N.Nodup)
    (hi : PI X tg iter (tI X.K X.mg W it)) (ok : BlkOk X.N X.env.scope scope own) (hv : own.map (·.2) = vs) (hG : GRD X is tgt g) (his : ∀ i ∈ is, i ∈ vs)
    (hg : ∀ (s : Shared) (H : Hp) (C : Addr) (cl : List (Str × Addr)) (fp : List Addr), PG (X.blk s H scope (compEnvC scope cl C X.env) fp) tg g)
    (ht : ∀ (s : Shared) (H : Hp) (C : Addr) (cl : List (Str × Addr)) (fp : List Addr), PTs (X.blk s H scope (compEnvC scope cl C X.env) fp) ifs (tT X.K X.mg W0 test))
    (he : ∀ (s : Shared) (H : Hp) (C : Addr) (cl : List (Str × Addr)) (fp : List Addr), PE (X.blk s H scope (compEnvC scope cl C X.env) fp) elt (tD X.K X.mg W0 el))
    (hy : X.N[i]? = some y := by rfl) (hyl : X.env.scope.names.lookup y = some .local := by rfl) (hsw : swapsWith (.ListComp elt [⟨tg, iter, ifs, 0⟩] scope pos) (some (.Name y py)) spos.line X.env = pure true := by exact sw_true rfl rfl rfl (by decide +kernel))
    (hs : ∀ x, foldedSetIterable iter X.env x = pure x := by intro _; rfl) :
    PS X (.Assign [.Name y py] (.ListComp elt [⟨tg, iter, ifs, 0⟩] scope pos) spos) (tS X.K X.mg W (sAsg (gN i) (eComp it tgt test el vs))) := by
  subst hv
  refine PS.imp (ps_setLc hc hN hy hyl hsw hi ok hg ht he hs) fun E σ H ⟨ρ, S, μ, e, s, h⟩ => ?_
  refine comp_ok hG his ⟨ρ, S, μ, e, s, h.lft e s fun d S1 μ1 H1 s1 r1 e1 h1 v rv => ?_⟩
  exact h1.now r1 _ (e1.set rv i)
end
/-- a def by its body, the text read once -/
theorem fn_okL {P : Program} {w : World} {K : PySem.W.Frag} {mg : Str → Option Value} {base : Heap} {x qual : Str} {st : Stmt} {f : Addr} {fd : FuncData} {N ps : List Str} {k : Nat} {keep : Bool} {body : EvS} {B : List Stmt} {sc : Scope} (F : Fun K x qual st f fd) (S : FnScope N ps (defScope st)) (hB : defBody st = B) (hS : defScope st = sc)
    (hbody : ∀ (cdv : Value) (A : Around) (outer : List Env) (s : Shared) (H : Hp) (E : XK), Room k (A.deeper (envOfC qual sc s.heap.objs.size f cdv)) → N.Nodup →
      Takes (cxOf (L2.CX P w) P w K mg base N qual sc f cdv A outer s H E) (WD E) →
      PassesOwn (model P w) (cxOf (L2.CX P w) P w K mg base N qual sc f cdv A outer s H E).A (cxOf (L2.CX P w) P w K mg base N qual sc f cdv A outer s H E).env (cxOf (L2.CX P w) P w K mg base N qual sc f cdv A outer s H E).xe →
      PSs (cxOf (L2.CX P w) P w K mg base N qual sc f cdv A outer s H E) B (tS (cxOf (L2.CX P w) P w K mg base N qual sc f cdv A outer s H E).K (cxOf (L2.CX P w) P w K mg base N qual sc f cdv A outer s H E).mg (WD E) body)) :
    FnOk P w K mg base (L2.CX P w) (k + 1) f fd ps (spD K mg ps.length (runDef keep N.length body)) := by
  subst hB hS
  exact fn_ok F S fun cdv A outer s H E hr => hbody cdv A outer s H E hr S.nd (takes_of rfl rfl rfl rfl) (passes_of rfl)
/-- no promise at all -/
theorem fn_zero {P : Program} {w : World} {K : PySem.W.Frag} {mg : Str → Option Value} {base : Heap} {k : Nat} {f : Addr} {fd : FuncData} {ps : List Str} {CX : CXT} : FnOk P w K mg base CX k f fd ps (spD K mg ps.length fun _ => stuck) :=
  ⟨fun vs H Q E ⟨_, _, _, _, _, _, h⟩ => h.elim, fun A outer s H args us vs Q E _ _ _ _ ⟨_, _, _, _, _, _, h⟩ => h.elim⟩
end DL

/-! DL7: what a denotation does, by what is wanted behind it. -/
namespace DL
open PySem L2

def wp {α : Type} (r : R α) (F : α → Sto → Prop) (E : Exc → Sto → Prop) : Prop := match r with
  | .ok a S => F a S
  | .ex e S => E e S
  | .bad => False
/-- nothing is raised -/
abbrev nx : Exc → Sto → Prop := fun _ _ => False
def wps (r : R Out) (N : Rho → Sto → Prop) (T : D → Sto → Prop) (B C : Rho → Sto → Prop) (X : Exc → Rho → Sto → Prop) : Prop := match r with
  | .ok (.nx ρ) S => N ρ S
  | .ok (.rt d) S => T d S
  | .ok (.bk ρ) S => B ρ S
  | .ok (.ct ρ) S => C ρ S
  | .ok (.xc e ρ) S => X e ρ S
  | _ => False
section
variable {α β : Type} {F : α → Sto → Prop} {E : Exc → Sto → Prop} {N : Rho → Sto → Prop} {T : D → Sto → Prop} {B C : Rho → Sto → Prop} {X : Exc → Rho → Sto → Prop} {S : Sto} {ρ : Rho}
theorem wp_mono {r : R α} {F' : α → Sto → Prop} {E' : Exc → Sto → Prop} (h : wp r F E) (f : ∀ a S, F a S → F' a S) (g : ∀ e S, E e S → E' e S) : wp r F' E' := by
  cases r with
  | ok a S => exact f a S h
  | ex e S => exact g e S h
  | bad => exact h
theorem wps_mono {r : R Out} {N' : Rho → Sto → Prop} {T' : D → Sto → Prop} {B' C' : Rho → Sto → Prop} {X' : Exc → Rho → Sto → Prop} (h : wps r N T B C X) (f1 : ∀ ρ S, N ρ S → N' ρ S) (f2 : ∀ d S, T d S → T' d S) (f3 : ∀ ρ S, B ρ S → B' ρ S) (f4 : ∀ ρ S, C ρ S → C' ρ S) (f5 : ∀ e ρ S, X e ρ S → X' e ρ S) : wps r N' T' B' C' X' := by
  cases r with
  | ok o S =>
    cases o with
    | nx ρ => exact f1 _ _ h
    | rt d => exact f2 _ _ h
    | bk ρ => exact f3 _ _ h
    | ct ρ => exact f4 _ _ h
    | xc e ρ => exact f5 _ _ _ h
  | ex e S => exact h
  | bad => exact h
theorem wp_ok {a : α} : wp (.ok a S) F E ↔ F a S := Iff.rfl
theorem wp_ret {a : α} : wp (ret a S) F E ↔ F a S := Iff.rfl
theorem wp_stuck : wp ((stuck : M α) S) F E ↔ False := Iff.rfl
theorem wp_bad : wp (.bad : R α) F E ↔ False := Iff.rfl
theorem wp_bnd {m : M β} {k : β → M α} : wp (bnd m k S) F E ↔ wp (m S) (fun a S' => wp (k a S') F E) E := by
  unfold bnd
  cases m S <;> rfl
theorem wp_if {c : Prop} [Decidable c] {a b : R α} : wp (if c then a else b) F E ↔ if c then wp a F E else wp b F E := by
  split <;> rfl
theorem wp_fif {c : Prop} [Decidable c] {a b : M α} : wp ((if c then a else b) S) F E ↔ if c then wp (a S) F E else wp (b S) F E := by
  split <;> rfl
theorem wps_ok_nx {ρ' : Rho} : wps (.ok (.nx ρ') S) N T B C X ↔ N ρ' S := Iff.rfl
theorem wps_ok_rt {d : D} : wps (.ok (.rt d) S) N T B C X ↔ T d S := Iff.rfl
theorem wps_ok_bk {ρ' : Rho} : wps (.ok (.bk ρ') S) N T B C X ↔ B ρ' S := Iff.rfl
theorem wps_ok_ct {ρ' : Rho} : wps (.ok (.ct ρ') S) N T B C X ↔ C ρ' S := Iff.rfl
theorem wps_ok_xc {e : Exc} {ρ' : Rho} : wps (.ok (.xc e ρ') S) N T B C X ↔ X e ρ' S := Iff.rfl
theorem wps_bad : wps .bad N T B C X ↔ False := Iff.rfl
theorem wps_lft {m : M α} {k : α → M Out} : wps (lft ρ m k S) N T B C X ↔ wp (m S) (fun a S' => wps (k a S') N T B C X) (fun e S' => X e ρ S') := by
  unfold lft
  cases m S <;> rfl
theorem wps_seq {a b : EvS} : wps (sSeq a b ρ S) N T B C X ↔ wps (a ρ S) (fun ρ' S' => wps (b ρ' S') N T B C X) T B C X := by
  unfold sSeq
  cases a ρ S with
  | ok o S' => cases o <;> rfl
  | ex e S' => rfl
  | bad => rfl
theorem wps_nil : wps (sNil ρ S) N T B C X ↔ N ρ S := Iff.rfl
theorem wps_ret {e : EvD} : wps (sRet e ρ S) N T B C X ↔ wp (e ρ S) T (fun e S' => X e ρ S') := by
  unfold sRet; rw [wps_lft]; rfl
theorem wps_expr {e : EvD} : wps (sExpr e ρ S) N T B C X ↔ wp (e ρ S) (fun _ S' => N ρ S') (fun e S' => X e ρ S') := by
  unfold sExpr; rw [wps_lft]; rfl
theorem wps_asg {i : Nat} {e : EvD} : wps (sAsg (gN i) e ρ S) N T B C X ↔ wp (e ρ S) (fun d S' => N (ρ.set i (some d)) S') (fun e S' => X e ρ S') := by
  unfold sAsg; rw [wps_lft]; rfl
theorem wps_if {c : EvB} {a b : EvS} : wps (sIf c a b ρ S) N T B C X ↔ wp (c ρ S) (fun k S' => if k = true then wps (a ρ S') N T B C X else wps (b ρ S') N T B C X) (fun e S' => X e ρ S') := by
  unfold sIf; rw [wps_lft]
  constructor <;> intro h <;> refine wp_mono h (fun k S' h => ?_) (fun _ _ h => h) <;> cases k <;> exact h
theorem wp_run {keep : Bool} {n : Nat} {body : EvS} {ds : List D} {F : D → Sto → Prop} : wp (runDef keep n body ds S) F E ↔
    wps (body (startR n ds) S) (fun _ S' => wp (finD keep S.length .non S') F E) (fun d S' => wp (finD keep S.length d S') F E) (fun _ _ => False) (fun _ _ => False) (fun e _ S' => E e S') := by
  unfold runDef
  cases body (startR n ds) S with
  | ok o S' => cases o <;> rfl
  | ex e S' => rfl
  | bad => rfl
/-- a def's value that names no stored thing, of a store that names none -/
theorem wp_fin {n : Nat} {d : D} {F : D → Sto → Prop} (h1 : (S.take n).all (MO.lo n) = true) (h2 : d.lo n = true) (h : F d (S.take n)) : wp (finD false n d S) F E := by
  unfold finD
  rw [if_neg (by decide), if_pos h1, if_pos h2]
  exact h
/-- for over what is walked -/
theorem wps_for {it : EvI} {tgt : D → Rho → Option Rho} {body : EvS} : wps (sFor it tgt body ρ S) N T B C X ↔ wp (it ρ S) (fun p S' => wps (forM p.1 p.2 tgt body p.2 ρ S') N T B C X) (fun e S' => X e ρ S') := by
  unfold sFor; rw [wps_lft]
/-- the loop by an invariant over the items gone through -/
theorem wps_forM {src : Option Nat} {all : List D} {tgt : D → Rho → Option Rho} {body : EvS} (I : Nat → Rho → Sto → Prop) (hl : ∀ i ρ S, I i ρ S → liveOk src all S)
    (turn : ∀ i d ρ S, all[i]? = some d → I i ρ S → ∃ ρ1, tgt d ρ = some ρ1 ∧ wps (body ρ1 S) (I (i + 1)) T N (I (i + 1)) X) (done : ∀ ρ S, I all.length ρ S → N ρ S) (h0 : I 0 ρ S) : wps (forM src all tgt body all ρ S) N T B C X := by
  have key : ∀ (k i : Nat) (ρ : Rho) (S : Sto), i + k = all.length → I i ρ S → wps (forM src all tgt body (all.drop i) ρ S) N T B C X := by
    intro k
    induction k with
    | zero =>
      intro i ρ S hi h
      have : i = all.length := by omega
      subst this
      rw [List.drop_length]
      unfold forM
      rw [if_pos (hl _ _ _ h)]
      exact done ρ S h
    | succ k ih =>
      intro i ρ S hi h
      have hlt : i < all.length := by omega
      rw [List.drop_eq_getElem_cons hlt]
      unfold forM
      rw [if_pos (hl _ _ _ h)]
      obtain ⟨ρ1, e1, hb⟩ := turn i _ ρ S (List.getElem?_eq_getElem hlt) h
      simp only [e1]
      cases hr : body ρ1 S with
      | ok o S2 =>
        rw [hr] at hb
        cases o with
        | nx ρ2 => exact ih (i + 1) ρ2 S2 (by omega) hb
        | ct ρ2 => exact ih (i + 1) ρ2 S2 (by omega) hb
        | bk ρ2 => exact hb
        | rt d => exact hb
        | xc e ρ2 => exact hb
      | ex e S2 => rw [hr] at hb; exact hb
      | bad => rw [hr] at hb; exact hb
  have := key all.length 0 ρ S (by omega) h0
  rwa [List.drop_zero] at this
theorem wps_while {fu : Nat} {c : EvB} {body : EvS} : wps (sWhile fu c body ρ S) N T B C X ↔ wps (whileM c body fu ρ S) N T B C X := Iff.rfl
theorem wps_whileM {c : EvB} {body : EvS} {fu : Nat} (I : Nat → Rho → Sto → Prop)
    (turn : ∀ m ρ S, I m ρ S → m < fu + 1 ∧ wp (c ρ S) (fun k S' => if k = true then wps (body ρ S') (fun ρ' S'' => ∃ m', m' < m ∧ I m' ρ' S'') T N (fun ρ' S'' => ∃ m', m' < m ∧ I m' ρ' S'') X else N ρ S') (fun e S' => X e ρ S')) (m : Nat) (hm : m < fu) (h0 : I m ρ S) : wps (whileM c body fu ρ S) N T B C X := by
  have key : ∀ (f m : Nat) (ρ : Rho) (S : Sto), m < f → I m ρ S → wps (whileM c body f ρ S) N T B C X := by
    intro f
    induction f with
    | zero => intro m ρ S h; exact absurd h (Nat.not_lt_zero _)
    | succ f ih =>
      intro m ρ S hm h
      unfold whileM
      rw [wps_lft]
      refine wp_mono (turn m ρ S h).2 (fun k S' hk => ?_) (fun _ _ h => h)
      cases k with
      | false => rw [if_neg Bool.false_ne_true] at hk ⊢; exact hk
      | true =>
        rw [if_pos rfl] at hk ⊢
        show wps (match body ρ S' with
          | .ok (.nx ρ2) S2 => whileM c body f ρ2 S2
          | .ok (.ct ρ2) S2 => whileM c body f ρ2 S2
          | .ok (.bk ρ2) S2 => .ok (.nx ρ2) S2
          | r => r) N T B C X
        cases hr : body ρ S' with
        | ok o S2 =>
          rw [hr] at hk
          cases o with
          | nx ρ2 => obtain ⟨m', hl, hi⟩ := hk; exact ih m' ρ2 S2 (by omega) hi
          | ct ρ2 => obtain ⟨m', hl, hi⟩ := hk; exact ih m' ρ2 S2 (by omega) hi
          | bk ρ2 => exact hk
          | rt d => exact hk
          | xc e ρ2 => exact hk
        | ex e S2 => rw [hr] at hk; exact hk.elim
        | bad => rw [hr] at hk; exact hk.elim
  exact key fu m ρ S hm h0
/-- a comprehension -/
theorem wp_comp {it : EvI} {tgt : D → Rho → Option Rho} {test : EvB} {el : EvD} {vs : List Nat} {F : D → Sto → Prop} : wp (eComp it tgt test el vs ρ S) F E ↔
    wp (it ρ S) (fun p S' => p.2.length ≤ sizeLine ∧ wp (compM p.1 p.2 tgt test el (wipeR ρ vs) p.2 S') (fun ys S'' => F (.lst ys) S'') nx) E := by
  unfold eComp
  rw [wp_bnd]
  constructor <;> intro h <;> refine wp_mono h (fun p S' h => ?_) (fun _ _ h => h)
  · unfold noEx at h
    by_cases hl : p.2.length ≤ sizeLine
    · refine ⟨hl, ?_⟩
      simp only [if_pos hl] at h
      cases hc : compM p.1 p.2 tgt test el (wipeR ρ vs) p.2 S' with
      | ok ys S'' => rw [hc] at h; exact h
      | ex e S'' => rw [hc] at h; exact h.elim
      | bad => rw [hc] at h; exact h.elim
    · simp only [if_neg hl] at h; exact h.elim
  · obtain ⟨hl, h⟩ := h
    unfold noEx
    simp only [if_pos hl]
    cases hc : compM p.1 p.2 tgt test el (wipeR ρ vs) p.2 S' with
    | ok ys S'' => rw [hc] at h; exact h
    | ex e S'' => rw [hc] at h; exact h.elim
    | bad => rw [hc] at h; exact h.elim
/-- .. by an invariant: the items gone through, what is made so far -/
theorem wp_compM {src : Option Nat} {all : List D} {tgt : D → Rho → Option Rho} {test : EvB} {el : EvD} {F : List D → Sto → Prop} (I : Nat → List D → Sto → Prop) (hl : ∀ i ys S, I i ys S → liveOk src all S)
    (turn : ∀ i d ys S, all[i]? = some d → I i ys S → ∃ ρ1, tgt d ρ = some ρ1 ∧ wp (test ρ1 S) (fun b S' => if b = true then wp (el ρ1 S') (fun y S'' => I (i + 1) (ys ++ [y]) S'') nx else I (i + 1) ys S') nx)
    (done : ∀ ys S, I all.length ys S → F ys S) (h0 : I 0 [] S) : wp (compM src all tgt test el ρ all S) F nx := by
  have key : ∀ (k i : Nat) (ys : List D) (S : Sto), i + k = all.length → I i ys S → wp (compM src all tgt test el ρ (all.drop i) S) (fun zs S' => F (ys ++ zs) S') nx := by
    intro k
    induction k with
    | zero =>
      intro i ys S hi h
      have : i = all.length := by omega
      subst this
      rw [List.drop_length]
      unfold compM
      rw [if_pos (hl _ _ _ h)]
      rw [wp_ok, List.append_nil]
      exact done ys S h
    | succ k ih =>
      intro i ys S hi h
      have hlt : i < all.length := by omega
      rw [List.drop_eq_getElem_cons hlt]
      unfold compM
      rw [if_pos (hl _ _ _ h)]
      obtain ⟨ρ1, e1, hb⟩ := turn i _ ys S (List.getElem?_eq_getElem hlt) h
      simp only [e1]
      rw [wp_bnd]
      refine wp_mono hb (fun b S' hb => ?_) (fun _ _ h => h)
      cases b with
      | false => rw [if_neg Bool.false_ne_true] at hb ⊢; exact ih (i + 1) ys S' (by omega) hb
      | true =>
        rw [if_pos rfl] at hb ⊢
        rw [wp_bnd]
        refine wp_mono hb (fun y S'' hy => ?_) (fun _ _ h => h)
        rw [wp_bnd]
        refine wp_mono (ih (i + 1) _ S'' (by omega) hy) (fun zs S3 hz => ?_) (fun _ _ h => h)
        rw [wp_ret]
        simpa using hz
  have := key all.length 0 [] S (by omega) h0
  rw [List.drop_zero] at this
  simpa using this
end
end DL

/-! DL8: the words of an expression, one by one. -/
namespace DL
open PySem L2

theorem ofString_inj {a b : String} : Str.ofString a = Str.ofString b ↔ a = b := by
  constructor
  · intro h
    rw [Str.ofString_eq_toList, Str.ofString_eq_toList] at h
    injection h with h
    have h2 : a.toList.map Char.toNat = b.toList.map Char.toNat := by simpa using congrArg Array.toList h
    have inj : ∀ x y : Char, x.toNat = y.toNat → x = y := fun x y e => by
      have : x.val = y.val := UInt32.toNat_inj.mp e
      exact Char.ext this
    have key : ∀ l m : List Char, l.map Char.toNat = m.map Char.toNat → l = m := by
      intro l
      induction l with
      | nil => intro m h; cases m with | nil => rfl | cons c m => simp at h
      | cons c l ih =>
        intro m h
        cases m with
        | nil => simp at h
        | cons d m =>
          simp only [List.map_cons, List.cons.injEq] at h
          rw [inj _ _ h.1, ih _ h.2]
    exact String.ext (key _ _ h2)
  · intro h; rw [h]
theorem ofString_length (s : String) : (Str.ofString s).length = s.length := by
  rw [Str.ofString_eq_toList]
  simp [Str.length]
  rfl

section
variable {α β : Type} {F : D → Sto → Prop} {FB : Bool → Sto → Prop} {FL : List D → Sto → Prop} {FO : Option Int → Sto → Prop} {FI : Option Nat × List D → Sto → Prop} {E : Exc → Sto → Prop} {S : Sto} {ρ : Rho} {a b c : EvD} {s t : EvB} {as : EvL}
theorem wp_var {i : Nat} : wp (eVar i ρ S) F E ↔ ∃ d, ρ[i]? = some (some d) ∧ F d S := by
  unfold eVar
  split
  · rename_i d h
    constructor
    · intro q; exact ⟨d, h, q⟩
    · rintro ⟨d', h', q⟩; rw [h] at h'; cases h'; exact q
  · rename_i h
    constructor
    · intro q; exact q.elim
    · rintro ⟨d', h', q⟩; exact absurd h' (h d')
theorem wp_C {d : D} : wp (eC d ρ S) F E ↔ F d S := Iff.rfl
theorem wp_bin {g : D → D → M D} : wp (eBin g a b ρ S) F E ↔ wp (a ρ S) (fun x S1 => wp (b ρ S1) (fun y S2 => wp (g x y S2) F E) E) E := by
  unfold eBin; simp only [wp_bnd]
theorem wp_un {g : D → M D} : wp (eUn g a ρ S) F E ↔ wp (a ρ S) (fun x S1 => wp (g x S1) F E) E := by
  unfold eUn; simp only [wp_bnd]
theorem wp_T : wp (eT a ρ S) FB E ↔ wp (a ρ S) (fun x S1 => wp (gTruth x S1) FB E) E := by
  unfold eT; simp only [wp_bnd]
theorem wp_Tb : wp (eTb a ρ S) FB E ↔ wp (a ρ S) (fun x S1 => wp (asBl x S1) FB E) E := by
  unfold eTb; simp only [wp_bnd]
theorem wp_asBl {k : Bool} : wp (asBl (.bl k) S) FB E ↔ FB k S := Iff.rfl
theorem wp_truthBl {k : Bool} : wp (gTruth (.bl k) S) FB E ↔ FB k S := Iff.rfl
theorem wp_bAnd : wp (bAnd s t ρ S) FB E ↔ wp (s ρ S) (fun x S1 => if x = true then wp (t ρ S1) FB E else FB false S1) E := by
  unfold bAnd; simp only [wp_bnd, wp_fif, wp_ret]
theorem wp_bOr : wp (bOr s t ρ S) FB E ↔ wp (s ρ S) (fun x S1 => if x = true then FB true S1 else wp (t ρ S1) FB E) E := by
  unfold bOr; simp only [wp_bnd, wp_fif, wp_ret]
theorem wp_bNot : wp (bNot s ρ S) FB E ↔ wp (s ρ S) (fun x S1 => FB (!x) S1) E := by
  unfold bNot; simp only [wp_bnd, wp_ret]
theorem wp_eIf : wp (eIf s a b ρ S) F E ↔ wp (s ρ S) (fun x S1 => if x = true then wp (a ρ S1) F E else wp (b ρ S1) F E) E := by
  unfold eIf; simp only [wp_bnd, wp_fif]
def blCase (x : D) (p q : Prop) : Prop := match x with
  | .bl true => p
  | .bl false => q
  | _ => False
theorem blCase_bl {k : Bool} {p q : Prop} : blCase (.bl k) p q ↔ if k = true then p else q := by
  cases k <;> simp [blCase]
theorem wp_eAnd : wp (eAnd a b ρ S) F E ↔ wp (a ρ S) (fun x S1 => blCase x (wp (b ρ S1) F E) (F (.bl false) S1)) E := by
  unfold eAnd; simp only [wp_bnd]
  constructor <;> intro h <;> refine wp_mono h (fun x S' h => ?_) (fun _ _ h => h)
  · unfold blCase; split at h <;> first | exact h | exact h.elim
  · unfold blCase at h; split at h <;> first | exact h | exact h.elim
theorem wp_eOr : wp (eOr a b ρ S) F E ↔ wp (a ρ S) (fun x S1 => blCase x (F (.bl true) S1) (wp (b ρ S1) F E)) E := by
  unfold eOr; simp only [wp_bnd]
  constructor <;> intro h <;> refine wp_mono h (fun x S' h => ?_) (fun _ _ h => h)
  · unfold blCase; split at h <;> first | exact h | exact h.elim
  · unfold blCase at h; split at h <;> first | exact h | exact h.elim
theorem wp_eNot : wp (eNot a ρ S) F E ↔ wp (a ρ S) (fun x S1 => blCase x (F (.bl false) S1) (F (.bl true) S1)) E := by
  unfold eNot; simp only [wp_bnd]
  constructor <;> intro h <;> refine wp_mono h (fun x S' h => ?_) (fun _ _ h => h)
  · unfold blCase
    split at h
    · rename_i k; cases k <;> exact h
    · exact h.elim
  · unfold blCase at h; split at h <;> first | exact h | exact h.elim
theorem wp_chain {g g' : D → D → M D} : wp (eChain g g' a b c ρ S) F E ↔ wp (a ρ S) (fun x S1 => wp (b ρ S1) (fun y S2 => wp (g x y S2) (fun z S3 => blCase z (wp (c ρ S3) (fun w S4 => wp (g' y w S4) F E) E) (F (.bl false) S3)) E) E) E := by
  unfold eChain; simp only [wp_bnd]
  constructor <;> intro h <;> refine wp_mono h (fun x S1 h => wp_mono h (fun y S2 h => wp_mono h (fun z S3 h => ?_) fun _ _ h => h) fun _ _ h => h) (fun _ _ h => h)
  · cases z with
    | bl k => cases k with
      | true => exact wp_bnd.mp h
      | false => exact h
    | _ => exact False.elim h
  · cases z with
    | bl k => cases k with
      | true => exact wp_bnd.mpr h
      | false => exact h
    | _ => exact False.elim h
theorem wp_aNil : wp (aNil ρ S) FL E ↔ FL [] S := Iff.rfl
theorem wp_aCons : wp (aCons a as ρ S) FL E ↔ wp (a ρ S) (fun x S1 => wp (as ρ S1) (fun xs S2 => FL (x :: xs) S2) E) E := by
  unfold aCons; simp only [wp_bnd, wp_ret]
theorem wp_tup : wp (eTup as ρ S) F E ↔ wp (as ρ S) (fun ds S1 => ds.length ≤ sizeLine ∧ F (.tup ds) S1) E := by
  unfold eTup; simp only [wp_bnd]
  constructor <;> intro h <;> refine wp_mono h (fun x S' h => ?_) (fun _ _ h => h)
  · by_cases hl : x.length ≤ sizeLine
    · rw [if_pos hl] at h; exact ⟨hl, h⟩
    · rw [if_neg hl] at h; exact h.elim
  · rw [if_pos h.1]; exact h.2
theorem wp_lst : wp (eLst as ρ S) F E ↔ wp (as ρ S) (fun ds S1 => ds.length ≤ sizeLine ∧ F (.lst ds) S1) E := by
  unfold eLst; simp only [wp_bnd]
  constructor <;> intro h <;> refine wp_mono h (fun x S' h => ?_) (fun _ _ h => h)
  · by_cases hl : x.length ≤ sizeLine
    · rw [if_pos hl] at h; exact ⟨hl, h⟩
    · rw [if_neg hl] at h; exact h.elim
  · rw [if_pos h.1]; exact h.2
theorem wp_lstM : wp (eLstM as ρ S) F E ↔ wp (as ρ S) (fun ds S1 => ds.length ≤ sizeLine ∧ F (.ref S1.length) (S1 ++ [.lst ds])) E := by
  unfold eLstM; simp only [wp_bnd]
  constructor <;> intro h <;> refine wp_mono h (fun x S' h => ?_) (fun _ _ h => h)
  · by_cases hl : x.length ≤ sizeLine
    · rw [if_pos hl] at h; exact ⟨hl, h⟩
    · rw [if_neg hl] at h; exact h.elim
  · rw [if_pos h.1]; exact h.2
theorem wp_call {g : List D → M D} : wp (eCall g as ρ S) F E ↔ wp (as ρ S) (fun ds S1 => wp (g ds S1) F E) E := by
  unfold eCall; simp only [wp_bnd]
theorem wp_cl {n : Nat} {G : List D → M D} {ds : List D} (h : ds.length = n) : wp (cl n G ds S) F E ↔ wp (G ds S) F E := by
  unfold cl; rw [if_pos h]
theorem wp_cl1 {G : List D → M D} {x : D} : wp (cl 1 G [x] S) F E ↔ wp (G [x] S) F E := wp_cl rfl
theorem wp_cl2 {G : List D → M D} {x y : D} : wp (cl 2 G [x, y] S) F E ↔ wp (G [x, y] S) F E := wp_cl rfl
theorem wp_cl3 {G : List D → M D} {x y z : D} : wp (cl 3 G [x, y, z] S) F E ↔ wp (G [x, y, z] S) F E := wp_cl rfl
theorem wp_cl4 {G : List D → M D} {x y z u : D} : wp (cl 4 G [x, y, z, u] S) F E ↔ wp (G [x, y, z, u] S) F E := wp_cl rfl
theorem wp_cl5 {G : List D → M D} {x y z u v : D} : wp (cl 5 G [x, y, z, u, v] S) F E ↔ wp (G [x, y, z, u, v] S) F E := wp_cl rfl
theorem wp_meth {T : String} {g : D → List D → M D} : wp (eMeth T g a as ρ S) F E ↔ wp (a ρ S) (fun x S1 => isTy S1 T x = true ∧ wp (as ρ S1) (fun xs S2 => wp (g x xs S2) F E) E) E := by
  unfold eMeth; simp only [wp_bnd]
  constructor <;> intro h <;> refine wp_mono h (fun x S' h => ?_) (fun _ _ h => h)
  · unfold chkT at h
    by_cases ht : isTy S' T x = true
    · rw [if_pos ht] at h; exact ⟨ht, h⟩
    · rw [if_neg ht] at h; exact h.elim
  · unfold chkT
    rw [if_pos h.1]; exact h.2
theorem wp_isi {T : String} : wp (eIsi T a ρ S) F E ↔ wp (a ρ S) (fun x S1 => ∃ n, typN S1 x = some n ∧ F (.bl (isiN n T)) S1) E := by
  unfold eIsi; simp only [wp_bnd]
  constructor <;> intro h <;> refine wp_mono h (fun x S' h => ?_) (fun _ _ h => h)
  · unfold gIsi at h
    split at h
    · rename_i n hn; exact ⟨n, hn, h⟩
    · exact h.elim
  · obtain ⟨n, hn, h⟩ := h
    unfold gIsi
    rw [hn]; exact h
theorem wp_oNone : wp (oNone ρ S) FO E ↔ FO none S := Iff.rfl
theorem wp_oSome : wp (oSome a ρ S) FO E ↔ wp (a ρ S) (fun x S1 => ∃ i, x = .int i ∧ FO (some i) S1) E := by
  unfold oSome; simp only [wp_bnd]
  constructor <;> intro h <;> refine wp_mono h (fun x S' h => ?_) (fun _ _ h => h)
  · split at h
    · exact ⟨_, rfl, h⟩
    · exact h.elim
  · obtain ⟨i, rfl, h⟩ := h; exact h
theorem wp_sl {m : Bool} {lo hi : EvO} : wp (eSl m a lo hi ρ S) F E ↔ wp (a ρ S) (fun x S1 => wp (lo ρ S1) (fun l S2 => wp (hi ρ S2) (fun h S3 => wp (gSl m x l h S3) F E) E) E) E := by
  unfold eSl; simp only [wp_bnd]
theorem wp_it : wp (iIt a ρ S) FI E ↔ wp (a ρ S) (fun x S1 => wp (srcL x S1) FI E) E := by
  unfold iIt; simp only [wp_bnd]
theorem wp_range1 : wp (iRange1 as ρ S) FI E ↔ wp (as ρ S) (fun x S1 => wp (srcR1 x S1) FI E) E := by
  unfold iRange1; simp only [wp_bnd]
theorem wp_range2 : wp (iRange2 as ρ S) FI E ↔ wp (as ρ S) (fun x S1 => wp (srcR2 x S1) FI E) E := by
  unfold iRange2; simp only [wp_bnd]
theorem wp_bYes : wp (bYes ρ S) FB E ↔ FB true S := Iff.rfl

/-! the operations on values -/
theorem gEq_str {x y : Str} : wp (gEq (.str x) (.str y) S) F E ↔ F (.bl (decide (x = y))) S := Iff.rfl
theorem gNe_str {x y : Str} : wp (gNe (.str x) (.str y) S) F E ↔ F (.bl (!decide (x = y))) S := Iff.rfl
theorem gEq_int {x y : Int} : wp (gEq (.int x) (.int y) S) F E ↔ F (.bl (decide (x = y))) S := Iff.rfl
theorem gNe_int {x y : Int} : wp (gNe (.int x) (.int y) S) F E ↔ F (.bl (!decide (x = y))) S := Iff.rfl
theorem gEq_bl {x y : Bool} : wp (gEq (.bl x) (.bl y) S) F E ↔ F (.bl (decide (x = y))) S := Iff.rfl
theorem gNe_bl {x y : Bool} : wp (gNe (.bl x) (.bl y) S) F E ↔ F (.bl (!decide (x = y))) S := Iff.rfl
theorem gIs_bl {x y : Bool} : wp (gIs (.bl x) (.bl y) S) F E ↔ F (.bl (decide (x = y))) S := Iff.rfl
theorem gIsNot_bl {x y : Bool} : wp (gIsNot (.bl x) (.bl y) S) F E ↔ F (.bl (!decide (x = y))) S := Iff.rfl
theorem gAdd_int {x y : Int} : wp (gAdd (.int x) (.int y) S) F E ↔ F (.int (x + y)) S := Iff.rfl
theorem gSub_int {x y : Int} : wp (gSub (.int x) (.int y) S) F E ↔ F (.int (x - y)) S := by
  unfold gSub gI; simp only [if_true]; rfl
theorem gC_int {f : Int → Int → Bool} {x y : Int} : wp (gC f (.int x) (.int y) S) F E ↔ F (.bl (f x y)) S := Iff.rfl
theorem gI_int {C : Int → Int → Bool} {f : Int → Int → Int} {x y : Int} : wp (gI C f (.int x) (.int y) S) F E ↔ C x y = true ∧ F (.int (f x y)) S := by
  unfold gI
  simp only []
  by_cases h : C x y = true
  · rw [if_pos h]; exact ⟨fun q => ⟨h, q⟩, fun q => q.2⟩
  · rw [if_neg h]; exact ⟨fun q => q.elim, fun q => absurd q.1 h⟩
theorem gAdd_str {x y : Str} : wp (gAdd (.str x) (.str y) S) F E ↔ x.length + y.length ≤ sizeLine ∧ F (.str (x ++ y)) S := by
  unfold gAdd
  simp only []
  by_cases h : x.length + y.length ≤ sizeLine
  · rw [if_pos h]; exact ⟨fun q => ⟨h, q⟩, fun q => q.2⟩
  · rw [if_neg h]; exact ⟨fun q => q.elim, fun q => absurd q.1 h⟩
theorem gAdd_tup {x y : List D} : wp (gAdd (.tup x) (.tup y) S) F E ↔ x.length + y.length ≤ sizeLine ∧ F (.tup (x ++ y)) S := by
  unfold gAdd
  simp only []
  by_cases h : x.length + y.length ≤ sizeLine
  · rw [if_pos h]; exact ⟨fun q => ⟨h, q⟩, fun q => q.2⟩
  · rw [if_neg h]; exact ⟨fun q => q.elim, fun q => absurd q.1 h⟩
theorem gAdd_lst {x y : List D} : wp (gAdd (.lst x) (.lst y) S) F E ↔ x.length + y.length ≤ sizeLine ∧ F (.lst (x ++ y)) S := by
  unfold gAdd
  simp only [iTrk]
  by_cases h : x.length + y.length ≤ sizeLine
  · rw [if_pos h]; exact ⟨fun q => ⟨h, q⟩, fun q => q.2⟩
  · rw [if_neg h]; exact ⟨fun q => q.elim, fun q => absurd q.1 h⟩
theorem gNeg_int {x : Int} : wp (gNeg (.int x) S) F E ↔ F (.int (-x)) S := Iff.rfl
theorem gIx_seq {x : D} {ds : List D} {k : Int} (h : iLst S x = some ds) : wp (gIx x (.int k) S) F E ↔ ∃ d, atI ds k = some d ∧ F d S := by
  have e : gIx x (.int k) S = match atI ds k with
      | some d => .ok d S
      | none => .bad := by
    unfold gIx
    cases x with
    | str z => simp [iLst] at h
    | _ => simp only [h] <;> rfl
  rw [e]
  cases h2 : atI ds k with
  | some d => exact ⟨fun q => ⟨d, rfl, q⟩, fun ⟨d', e, q⟩ => by cases e; exact q⟩
  | none => exact ⟨fun q => q.elim, fun ⟨d', e, q⟩ => by cases e⟩
theorem gIx_tup {ds : List D} {k : Int} : wp (gIx (.tup ds) (.int k) S) F E ↔ ∃ d, atI ds k = some d ∧ F d S := gIx_seq rfl
theorem gIx_lst {ds : List D} {k : Int} : wp (gIx (.lst ds) (.int k) S) F E ↔ ∃ d, atI ds k = some d ∧ F d S := gIx_seq rfl
theorem gLen_seq {x : D} {ds : List D} (h : iLst S x = some ds) : wp (gLen [x] S) F E ↔ F (.int ds.length) S := by
  unfold gLen
  cases x <;> simp_all [iLst, wp]
theorem gLen_tup {ds : List D} : wp (gLen [.tup ds] S) F E ↔ F (.int ds.length) S := gLen_seq rfl
theorem gLen_lst {ds : List D} : wp (gLen [.lst ds] S) F E ↔ F (.int ds.length) S := gLen_seq rfl
theorem gLen_str {x : Str} : wp (gLen [.str x] S) F E ↔ x.length ≤ sizeLine ∧ F (.int x.length) S := by
  unfold gLen
  simp only []
  by_cases h : x.length ≤ sizeLine
  · rw [if_pos h]; exact ⟨fun q => ⟨h, q⟩, fun q => q.2⟩
  · rw [if_neg h]; exact ⟨fun q => q.elim, fun q => absurd q.1 h⟩
theorem gInt_int {x : Int} : wp (gInt [.int x] S) F E ↔ F (.int x) S := Iff.rfl
theorem gInt_bl {x : Bool} : wp (gInt [.bl x] S) F E ↔ F (.int (if x then 1 else 0)) S := Iff.rfl
theorem gTuple_lst {ds : List D} : wp (gTuple [.lst ds] S) F E ↔ F (.tup ds) S := Iff.rfl
theorem gTuple_tup {ds : List D} : wp (gTuple [.tup ds] S) F E ↔ F (.tup ds) S := Iff.rfl
theorem gList_lst {ds : List D} : wp (gList [.lst ds] S) F E ↔ F (.lst ds) S := Iff.rfl
theorem gList_tup {ds : List D} : wp (gList [.tup ds] S) F E ↔ F (.lst ds) S := Iff.rfl
theorem gAll_bls {bs : List Bool} : wp (gAll [.lst (bs.map .bl)] S) F E ↔ F (.bl (bs.all id)) S := by
  have e : gAll [.lst (bs.map .bl)] S = .ok (.bl (bs.all id)) S := by
    unfold gAll
    simp only [iSeq, Option.bind_some, blsOf_map]
  rw [e]; rfl
theorem gSl_tup {m : Bool} {ds : List D} {lo hi : Option Int} : wp (gSl m (.tup ds) lo hi S) F E ↔ F (.tup (cutD ds lo hi)) S := Iff.rfl
theorem gSl_lst {ds : List D} {lo hi : Option Int} : wp (gSl false (.lst ds) lo hi S) F E ↔ F (.lst (cutD ds lo hi)) S := Iff.rfl
theorem gSl_fl {ds : List D} {lo hi : Option Int} : wp (gSl false (.fl ds) lo hi S) F E ↔ F (.lst (cutD ds lo hi)) S := Iff.rfl
theorem gSl_str {m : Bool} {z : Str} {lo hi : Option Int} : wp (gSl m (.str z) lo hi S) F E ↔ z.length ≤ sizeLine ∧ F (.str (cutS z lo hi)) S := by
  unfold gSl
  simp only []
  by_cases h : z.length ≤ sizeLine
  · rw [if_pos h]; exact ⟨fun q => ⟨h, q⟩, fun q => q.2⟩
  · rw [if_neg h]; exact ⟨fun q => q.elim, fun q => absurd q.1 h⟩
theorem srcL_tup {ds : List D} : wp (srcL (.tup ds) S) FI E ↔ FI (none, ds) S := Iff.rfl
theorem srcL_lst {ds : List D} : wp (srcL (.lst ds) S) FI E ↔ FI (none, ds) S := Iff.rfl
theorem srcL_fl {ds : List D} : wp (srcL (.fl ds) S) FI E ↔ FI (none, ds) S := Iff.rfl
theorem srcL_str {x : Str} : wp (srcL (.str x) S) FI E ↔ FI (none, x.cps.toList.map fun c => .str ⟨#[c]⟩) S := Iff.rfl
theorem srcR1_int {j : Int} : wp (srcR1 [.int j] S) FI E ↔ bnd62 j = true ∧ FI (none, rangeD 0 j.toNat) S := by
  unfold srcR1
  simp only []
  by_cases h : bnd62 j = true
  · rw [if_pos h]; exact ⟨fun q => ⟨h, q⟩, fun q => q.2⟩
  · rw [if_neg h]; exact ⟨fun q => q.elim, fun q => absurd q.1 h⟩
theorem inV_strs (a : Str) : ∀ l : List Str, inV (.str a) (l.map V.str) = decide (a ∈ l)
  | [] => by simp [inV]
  | x :: l => by
    have ih := inV_strs a l
    have e : inV (.str a) ((x :: l).map V.str) = ((x == a) || inV (.str a) (l.map V.str)) := rfl
    rw [e, ih]
    by_cases h : x = a
    · simp [h]
    · have h2 : ¬ a = x := fun e => h e.symm
      have h3 : (x == a) = false := by simpa using h
      simp [h2, h3]
theorem flatDs_strs : ∀ l : List Str, flatDs (l.map D.str) = some (l.map V.str)
  | [] => rfl
  | x :: l => by simp [flatDs, flatD, flatDs_strs l]
theorem gIn_strs {a : Str} {y : D} {l : List Str} (h : iLst S y = some (l.map .str)) : wp (gIn (.str a) y S) F E ↔ F (.bl (decide (a ∈ l))) S := by
  have e : inD S (.str a) y = some (decide (a ∈ l)) := by
    unfold inD
    cases y <;> simp_all [iLst, flatD, flatDs_strs, inV_strs]
  unfold gIn
  rw [e]; rfl
theorem gNotIn_strs {a : Str} {y : D} {l : List Str} (h : iLst S y = some (l.map .str)) : wp (gNotIn (.str a) y S) F E ↔ F (.bl (!decide (a ∈ l))) S := by
  have e : inD S (.str a) y = some (decide (a ∈ l)) := by
    unfold inD
    cases y <;> simp_all [iLst, flatD, flatDs_strs, inV_strs]
  unfold gNotIn
  rw [e]; rfl
theorem occ_sign {c : Nat} {z : Str} : (!(Builtin.Str.occurrences z ⟨#[c]⟩ 0 z.length 1).isEmpty) = decide (c ∈ z.cps.toList) := PySem.StrLaws.found_one z c
theorem gIn_sign {c : Nat} {z : Str} : wp (gIn (.str ⟨#[c]⟩) (.str z) S) F E ↔ F (.bl (decide (c ∈ z.cps.toList))) S := by
  have e : inD S (.str ⟨#[c]⟩) (.str z) = some (decide (c ∈ z.cps.toList)) := by
    unfold inD
    simp only [occ_sign]
  unfold gIn
  rw [e]; rfl
end
end DL

/-! DL9: stores of trees, a deck of whole numbers. -/
namespace DL
open PySem L2
section
variable {α : Type} {a b c d e : α} {l : List α}
theorem atI_0 : atI (a :: l) 0 = some a := atI_nat (j := 0) rfl
theorem atI_1 : atI (a :: b :: l) 1 = some b := atI_nat (j := 1) rfl
theorem atI_2 : atI (a :: b :: c :: l) 2 = some c := atI_nat (j := 2) rfl
theorem atI_3 : atI (a :: b :: c :: d :: l) 3 = some d := atI_nat (j := 3) rfl
theorem atI_4 : atI (a :: b :: c :: d :: e :: l) 4 = some e := atI_nat (j := 4) rfl
end
def WF (S : Sto) : Prop := S.all (MO.lo 0) = true
abbrev tr (d : D) : Prop := d.lo 0 = true
mutual
theorem D.lo_mono {m n : Nat} (h : m ≤ n) : ∀ d : D, d.lo m = true → d.lo n = true
  | .non, _ => rfl
  | .bl _, _ => rfl
  | .int _, _ => rfl
  | .str _, _ => rfl
  | .fn _, _ => rfl
  | .tup ds, e => by simp only [D.lo] at e ⊢; exact D.los_mono h ds e
  | .lst ds, e => by simp only [D.lo] at e ⊢; exact D.los_mono h ds e
  | .fl ds, e => by simp only [D.lo] at e ⊢; exact D.los_mono h ds e
  | .ref k, e => by simp only [D.lo, decide_eq_true_eq] at e ⊢; omega
theorem D.los_mono {m n : Nat} (h : m ≤ n) : ∀ ds : List D, D.los m ds = true → D.los n ds = true
  | [], _ => rfl
  | d :: ds, e => by
    simp only [D.los, Bool.and_eq_true] at e ⊢
    exact ⟨D.lo_mono h d e.1, D.los_mono h ds e.2⟩
end
theorem loK_mono {m n : Nat} (h : m ≤ n) : ∀ ks : List (Key × D), loK m ks = true → loK n ks = true
  | [], _ => rfl
  | d :: ds, e => by
    simp only [loK, Bool.and_eq_true] at e ⊢
    exact ⟨D.lo_mono h _ e.1, loK_mono h ds e.2⟩
theorem MO.lo_mono {m n : Nat} (h : m ≤ n) (o : MO) (e : o.lo m = true) : o.lo n = true := by
  cases o with
  | lst ds => exact D.los_mono h ds e
  | dct ks => exact loK_mono h ks e
theorem los_iff {n : Nat} : ∀ ds : List D, D.los n ds = true ↔ ∀ d ∈ ds, d.lo n = true
  | [] => by simp [D.los]
  | d :: ds => by simp [D.los, los_iff ds]
theorem los_map {α : Type} {n : Nat} {f : α → D} (h : ∀ x, (f x).lo n = true) (l : List α) : D.los n (l.map f) = true := by
  rw [los_iff]; intro d hd
  obtain ⟨x, _, rfl⟩ := List.mem_map.mp hd
  exact h x
theorem WF.nil : WF [] := rfl
theorem WF.mem {S : Sto} (h : WF S) {m : MO} (hm : m ∈ S) : m.lo 0 = true := List.all_eq_true.mp h m hm
theorem WF.append {S : Sto} {m : MO} (h : WF S) (hm : m.lo 0 = true) : WF (S ++ [m]) := by
  unfold WF at *; simp [h, hm]
theorem WF.set {S : Sto} {k : Nat} {m : MO} (h : WF S) (hm : m.lo 0 = true) : WF (S.set k m) := by
  unfold WF
  rw [List.all_eq_true]
  intro x hx
  rcases List.mem_or_eq_of_mem_set hx with q | q
  · exact h.mem q
  · rw [q]; exact hm
theorem WF.take {S : Sto} (h : WF S) (n m : Nat) : (S.take n).all (MO.lo m) = true := by
  rw [List.all_eq_true]
  intro x hx
  exact MO.lo_mono (Nat.zero_le _) x (h.mem (List.mem_of_mem_take hx))
section
variable {F : D → Sto → Prop} {E : Exc → Sto → Prop} {S S1 : Sto} {d : D}
theorem fin_cut (hw : WF S) (hd : tr d) (h : F d (S.take S1.length)) : wp (finD false S1.length d S) F E :=
  wp_fin (hw.take _ _) (D.lo_mono (Nat.zero_le _) _ hd) h
theorem fin_same (hw : WF S) (hd : tr d) (hl : S.length = S1.length) (h : F d S) : wp (finD false S1.length d S) F E := by
  refine fin_cut hw hd ?_
  rw [← hl, List.take_length]; exact h
/-- .. as a rewriting, of the store as it came -/
theorem fin_bl {b : Bool} (hw : WF S) : wp (finD false S.length (.bl b) S) F E ↔ F (.bl b) S := by
  unfold finD
  rw [if_neg (by decide), if_pos (hw.take _ _), if_pos (by rfl), List.take_length]
  rfl
theorem fin_int {b : Int} (hw : WF S) : wp (finD false S.length (.int b) S) F E ↔ F (.int b) S := by
  unfold finD
  rw [if_neg (by decide), if_pos (hw.take _ _), if_pos (by rfl), List.take_length]
  rfl
theorem fin_str {b : Str} (hw : WF S) : wp (finD false S.length (.str b) S) F E ↔ F (.str b) S := by
  unfold finD
  rw [if_neg (by decide), if_pos (hw.take _ _), if_pos (by rfl), List.take_length]
  rfl
end
/-- S is S0 but for the deck of whole numbers at k -/
structure DK (k : Nat) (S0 S : Sto) : Prop where
  wf : WF S0
  lt : k < S0.length
  at_ : ∃ cells : List Int, cells.length ≤ 100000 ∧ S = S0.set k (.lst (cells.map .int))
section
variable {k : Nat} {S0 S : Sto}
theorem DK.wf' (h : DK k S0 S) : WF S := by
  obtain ⟨w, l, cells, hc, rfl⟩ := h
  exact w.set (los_map (fun _ => rfl) cells)
theorem DK.len (h : DK k S0 S) : S.length = S0.length := by
  obtain ⟨w, l, cells, hc, rfl⟩ := h
  simp
theorem DK.get (h : DK k S0 S) : ∃ cells : List Int, cells.length ≤ 100000 ∧ atL S k = some (cells.map .int) ∧ ∀ cs : List Int, cs.length ≤ 100000 → DK k S0 (S.set k (.lst (cs.map .int))) := by
  obtain ⟨w, l, cells, hc, rfl⟩ := h
  refine ⟨cells, hc, ?_, fun cs hcs => ⟨w, l, cs, hcs, by rw [List.set_set]⟩⟩
  unfold atL
  rw [List.getElem?_set_self l]
theorem DK.push {m : MO} (h : DK k S0 S) (hm : m.lo 0 = true) : DK k (S0 ++ [m]) (S ++ [m]) := by
  obtain ⟨w, l, cells, hc, rfl⟩ := h
  refine ⟨w.append hm, by simp; omega, cells, hc, ?_⟩
  rw [List.set_append_left _ _ l]
theorem DK.refl {cells : List Int} (w : WF S0) (hc : cells.length ≤ 100000) (h : S0[k]? = some (.lst (cells.map .int))) : DK k S0 S0 := by
  have l := (List.getElem?_eq_some_iff.mp h)
  obtain ⟨l, e⟩ := l
  refine ⟨w, l, cells, hc, ?_⟩
  rw [← e, List.set_getElem_self]
/-- the last stored list, beside the deck -/
theorem DK.last {m : MO} (h : DK k (S0 ++ [m]) S) (hk : k < S0.length) : S[S0.length]? = some m ∧ ∃ S', S = S' ++ [m] ∧ S'.length = S0.length := by
  obtain ⟨w, l, cells, hc, rfl⟩ := h
  rw [List.set_append_left _ _ hk]
  refine ⟨?_, _, rfl, by simp⟩
  rw [List.getElem?_append_right (by simp)]
  simp
/-- the last stored list is changed -/
theorem DK.put {m m' : MO} (h : DK k (S0 ++ [m]) S) (hk : k < S0.length) (hm : m'.lo 0 = true) : DK k (S0 ++ [m']) (S.set S0.length m') := by
  obtain ⟨w, l, cells, hc, rfl⟩ := h
  have w0 : WF S0 := by
    unfold WF at *
    simp at w ⊢
    exact w.1
  refine ⟨w0.append hm, by simp; omega, cells, hc, ?_⟩
  rw [List.set_append_left _ _ hk, List.set_append_left _ _ hk, List.set_append_right _ _ (by simp)]
  simp
/-- the last stored list is forgotten -/
theorem DK.pop {m : MO} (h : DK k (S0 ++ [m]) S) (hk : k < S0.length) : DK k S0 (S.take S0.length) := by
  obtain ⟨w, l, cells, hc, rfl⟩ := h
  have w0 : WF S0 := by
    unfold WF at *
    simp at w ⊢
    exact w.1
  refine ⟨w0, hk, cells, hc, ?_⟩
  rw [List.set_append_left _ _ hk, List.take_append_of_le_length (by simp), List.take_of_length_le (by simp)]
end
section
variable {F : D → Sto → Prop} {E : Exc → Sto → Prop} {S : Sto}
theorem gPop_ref {n : Nat} {ds : List D} (h : atL S n = some ds) : wp (gPop (.ref n) [] S) F E ↔ ∃ d, ds[ds.length - 1]? = some d ∧ F d (S.set n (.lst ds.dropLast)) := by
  unfold gPop
  simp only [h]
  cases e : ds[ds.length - 1]? with
  | some d => exact ⟨fun q => ⟨d, rfl, q⟩, fun ⟨d', e, q⟩ => by cases e; exact q⟩
  | none => exact ⟨fun q => q.elim, fun ⟨d', e, q⟩ => by cases e⟩
theorem gAppend_ref {n : Nat} {ds : List D} {d : D} (h : atL S n = some ds) : wp (gAppend (.ref n) [d] S) F E ↔ ds.length < sizeLine ∧ F .non (S.set n (.lst (ds ++ [d]))) := by
  unfold gAppend
  simp only [h]
  by_cases hl : ds.length < sizeLine
  · rw [if_pos hl]; exact ⟨fun q => ⟨hl, q⟩, fun q => q.2⟩
  · rw [if_neg hl]; exact ⟨fun q => q.elim, fun q => absurd q.1 hl⟩
theorem isTy_ref {n : Nat} {ds : List D} (h : atL S n = some ds) : isTy S "list" (.ref n) = true := by
  simp only [isTy, atL_ok h]
  rfl
theorem gEq_refNil {n : Nat} {ds : List Int} (h : atL S n = some (ds.map .int)) : wp (gEq (.ref n) (.lst []) S) F E ↔ F (.bl (decide (ds = []))) S := by
  have tp : ∀ l : List Int, toPys (l.map .int) = some (l.map PyData.int) := by
    intro l; induction l with
    | nil => rfl
    | cons x l ih => simp [toPys, toPy, ih]
  have cl : ∀ l : List Int, PyData.canLayAll0 (l.map PyData.int) = true := by
    intro l; induction l with
    | nil => rfl
    | cons x l ih => simp [PyData.canLayAll0, PyData.canLay0, ih]
  have e : eqD S (.ref n) (.lst []) = some (decide (ds = [])) := by
    have e1 : toPyS S (.ref n) = some (.list (ds.map PyData.int)) := by
      simp only [toPyS, h, tp, Option.map_some]
    have e2 : toPyS S (.lst []) = some (.list []) := rfl
    have s1 : okEq (.list (ds.map PyData.int)) (.list []) = true := by
      unfold okEq
      simp only [PyData.canLay0, cl, PyData.canLayAll0, Bool.true_and]
      exact decide_eq_true (Nat.le_trans (Nat.min_le_right _ _) (by decide))
    unfold eqD
    simp only [e1, e2, s1, if_true]
    cases ds with
    | nil => rfl
    | cons x l => simp [PyData.eqv, PyData.eqvAll]
  unfold gEq
  rw [e]; rfl
end
/-- a comprehension that leaves the store as it is -/
theorem comp_pure {all : List D} {i : Nat} {el : EvD} {ρ : Rho} {S : Sto} {FF : List D → Sto → Prop} (f : D → D) (hel : ∀ d ∈ all, wp (el (ρ.set i (some d)) S) (fun y S' => y = f d ∧ S' = S) nx) (h : FF (all.map f) S) :
    wp (compM none all (gN i) bYes el ρ all S) FF nx := by
  refine wp_compM (fun k ys S' => S' = S ∧ ys = (all.take k).map f) (fun _ _ _ _ => trivial) (fun k d ys S' hd hk => ?_) (fun ys S' hk => ?_) ⟨rfl, rfl⟩
  · obtain ⟨rfl, rfl⟩ := hk
    refine ⟨_, rfl, ?_⟩
    rw [wp_bYes, if_pos rfl]
    refine wp_mono (hel d (List.mem_of_getElem? hd)) (fun y S'' hy => ?_) (fun _ _ h => h)
    obtain ⟨rfl, rfl⟩ := hy
    refine ⟨rfl, ?_⟩
    rw [List.take_succ, hd]
    simp
  · obtain ⟨rfl, rfl⟩ := hk
    rw [List.take_length]
    exact h
theorem cMul_l {i j : Int} (h0 : 0 ≤ i) (h1 : i < 18446744073709551616) : cMul i j = true := by
  unfold cMul; simp only [Bool.or_eq_true, decide_eq_true_eq]; omega
theorem cMul_r {i j : Int} (h0 : 0 ≤ j) (h1 : j < 18446744073709551616) : cMul i j = true := by
  unfold cMul; simp only [Bool.or_eq_true, decide_eq_true_eq]; omega
theorem cDiv_of {i j : Int} (h0 : 0 < j) (h1 : j < 18446744073709551616) : cDiv i j = true := by
  unfold cDiv; simp only [Bool.and_eq_true, decide_eq_true_eq]
  refine ⟨h0, Nat.lt_of_le_of_lt (m := 64) ?_ (by decide)⟩
  by_cases hz : j.natAbs = 0
  · omega
  · exact Nat.le_of_lt ((Nat.log2_lt hz).mpr (by omega))
theorem atI_mem {α : Type} {ds : List α} {v : Int} (h0 : 0 ≤ v) (h1 : v < ds.length) : ∃ d, d ∈ ds ∧ atI ds v = some d := by
  obtain ⟨j, rfl⟩ := Int.eq_ofNat_of_zero_le h0
  have hj : j < ds.length := by omega
  exact ⟨ds[j], List.getElem_mem hj, atI_nat (List.getElem?_eq_getElem hj)⟩
theorem atL_set {S : Sto} {k : Nat} {ds : List D} (h : k < S.length) : atL (S.set k (.lst ds)) k = some ds := by
  unfold atL; rw [List.getElem?_set_self h]
theorem small_line {n : Nat} (h : n ≤ 16777216) : n ≤ sizeLine := by rw [sizeLine_eq]; exact h
end DL

namespace DL
open PySem PySem.Spec PyProof.Rows L2
theorem tuple_mul1 (l : Addr) (items : Array Value) (n : Nat) (dd : Option Addr) (sl : Array (Option Value)) (u : Tok) :
    Meets (Builtin.«tuple.__mul__» ⟨[.ref l, .int 1 u], []⟩) (fun _ R s => s.heap.get? l = some { cls := .type "tuple", dict := dd, data := .seq items n, slots := sl } ∧
      R (.ok (.ret (Value.ref l))) s) :=
  .of_wp fun prog w A R s h => by
    obtain ⟨hp, g, d, tk, os⟩ := s
    obtain ⟨hl, h⟩ := h
    have f1 := AutoSeq1.idx_int
    have c0 : (decide ((1 : Int) < -(2 ^ 63)) || decide ((1 : Int) ≥ 2 ^ 63)) = false := by decide
    have c1 : (items.isEmpty || (1 : Int) == 1) = true := by simp
    wp_walk using wpAny_loadPart' hl
    repeat (first
      | (refine wpAny_ite_false (decide_eq_false (by rw [c0]; exact Bool.false_ne_true)) ?_; wp_walk using wpAny_loadPart' hl)
      | (refine wpAny_ite_true (decide_eq_true c1) ?_; wp_walk using wpAny_loadPart' hl))
    exact ⟨_, rfl, h⟩
section
variable {X : Cx} {W : WX}
theorem op_rep1 : OpR X (binaryOp .Mult) (fun x y H Q => ∃ l xs, x = V.ref l ∧ y = V.int 1 ∧ SqT X.K H l xs ∧ Q (.ref l) H) := by
  intro pins s σ H x y v u Q I rx ry h
  obtain ⟨l, xs, rfl, rfl, hT, q⟩ := h
  cases rx
  obtain ⟨t, rfl⟩ := ry
  obtain ⟨its, r, ⟨⟨cls, dd, data, sl⟩, ho, hc, n, hd⟩, hs⟩ := I.tuple hT
  simp only at hc hd
  subst hc hd
  refine wpAny_binaryOp_repeat_ref (T := "tuple") (U := "int") (by decide) ⟨_, ho, rfl⟩ (fun s' => typeIs_int s' 1 t) noFill_tuple_mul F.fills_int_mul F.slot_int_rmul repeat_tuple F.slot_int_index.lookup
    (call_meets F.slot_int_rmul (typeIs_int s 1 t) F.entry_int_rmul (F.args_int_rmul_2 _ _) (int_rmul_tuple 1 t l its.toArray n dd sl)
      ⟨ho, rfl, ⟨_, ho, rfl⟩, call_meets F.slot_tuple_mul ⟨_, ho, rfl⟩ F.entry_tuple_mul (F.args_tuple_mul_2 _ _) (tuple_mul1 l its.toArray n dd sl t) ⟨ho, ?_⟩⟩)
  exact ⟨.ref l, _, I, rfl, q⟩
theorem RDs.repl {K : PySem.W.Frag} {μ : Mu} {H : Hp} {ds : List D} {vs : List V} (h : RDs K μ H ds vs) : ∀ m : Nat, RDs K μ H (List.replicate m ds).flatten (List.replicate m vs).flatten
  | 0 => .nil
  | m + 1 => by rw [List.replicate_succ, List.replicate_succ, List.flatten_cons, List.flatten_cons]; exact h.append (RDs.repl h m)
/-- a tuple once; a list some times -/
def gMulS (x y : D) : M D := fun S => match x, y with
  | .tup ds, .int k => if k = 1 then .ok (.tup ds) S else .bad
  | .lst ds, .int k => if 0 ≤ k ∧ k < 1000000 ∧ ds.length * k.toNat ≤ sizeLine then .ok (.lst (List.replicate k.toNat ds).flatten) S else .bad
  | _, _ => .bad
theorem o_mulS : ORD X W (binaryOp .Mult) gMulS := by
  refine ⟨_, op_rep1.or op_rep, fun x y v w μ S σ H Q r rx ry h => ?_⟩
  unfold gMulS at h
  split at h
  · cases ry
    cases rx with
    | tup h1 h2 =>
      split at h
      · rename_i hk
        subst hk
        exact .inl ⟨_, _, rfl, rfl, h1, h.now r _ (.tup h1 h2)⟩
      · exact h.elim
  · cases ry
    split at h
    · rename_i hl
      obtain ⟨p1, v1, rfl, q1, z1⟩ := iTrk_ok (d := .lst _) rfl r rx
      refine .inr ⟨_, _, _, rfl, rfl, q1, by omega, by omega, by rw [← z1.length]; exact hl.2.2, fun p hp => ?_⟩
      exact h μ _ (Stp.new hp) (r.new hp) _ (.lst upd_same ⟨fun z => r.there z hp, fun z => r.hid _ z hp⟩ ((z1.step r (Stp.new hp)).repl _))
    · exact h.elim
  · exact h.elim
end
section
variable {F : D → Sto → Prop} {E : Exc → Sto → Prop} {S : Sto}
theorem gMulS_tup {ds : List D} : wp (gMulS (.tup ds) (.int 1) S) F E ↔ F (.tup ds) S := by
  unfold gMulS; exact Iff.rfl
theorem gMulS_lst4 {d : D} : wp (gMulS (.lst [d]) (.int 4) S) F E ↔ F (.lst [d, d, d, d]) S := by
  unfold gMulS
  simp only []
  rw [if_pos ⟨by decide, by decide, by rw [sizeLine_eq]; show 1 * 4 ≤ 16777216; decide⟩]
  exact Iff.rfl
end
end DL

/-! DLT: texts by one sign parted. -/
namespace DL
open PySem L2
def jn (c : Nat) : List (List Nat) → List Nat
  | [] => []
  | [x] => x
  | x :: y :: r => x ++ c :: jn c (y :: r)
theorem jn_cons {c : Nat} {x : List Nat} {r : List (List Nat)} (h : r ≠ []) : jn c (x :: r) = x ++ c :: jn c r := by
  cases r with
  | nil => exact absurd rfl h
  | cons y r => rfl
theorem pre_uniq {c : Nat} : ∀ {a b u v : List Nat}, c ∉ a → c ∉ b → a ++ c :: u = b ++ c :: v → a = b ∧ u = v
  | [], [], _, _, _, _, e => by simpa using e
  | [], y :: b, _, _, _, hb, e => by simp at e; exact absurd (by simp [e.1]) hb
  | x :: a, [], _, _, ha, _, e => by simp at e; exact absurd (by simp [e.1]) ha
  | x :: a, y :: b, u, v, ha, hb, e => by
    simp only [List.cons_append, List.cons.injEq] at e
    obtain ⟨h1, h2⟩ := pre_uniq (fun z => ha (List.mem_cons_of_mem _ z)) (fun z => hb (List.mem_cons_of_mem _ z)) e.2
    exact ⟨by rw [e.1, h1], h2⟩
theorem jn_uniq {c : Nat} : ∀ {p q : List (List Nat)}, p ≠ [] → q ≠ [] → (∀ x ∈ p, c ∉ x) → (∀ x ∈ q, c ∉ x) → jn c p = jn c q → p = q
  | [], _, h, _, _, _, _ => absurd rfl h
  | _, [], _, h, _, _, _ => absurd rfl h
  | [x], [y], _, _, _, _, e => by simpa [jn] using e
  | [x], y :: z :: r, _, _, hp, _, e => by
    simp only [jn] at e
    exact absurd (show c ∈ x by rw [e]; simp) (hp x (by simp))
  | x :: z :: r, [y], _, _, _, hq, e => by
    simp only [jn] at e
    exact absurd (show c ∈ y by rw [← e]; simp) (hq y (by simp))
  | x :: z :: r, y :: w :: s, _, _, hp, hq, e => by
    simp only [jn] at e
    obtain ⟨h1, h2⟩ := pre_uniq (hp x (by simp)) (hq y (by simp)) e
    rw [h1, jn_uniq (by simp) (by simp) (fun t ht => hp t (List.mem_cons_of_mem _ ht)) (fun t ht => hq t (List.mem_cons_of_mem _ ht)) h2]
theorem app_toList (a b : Str) : (a ++ b).cps.toList = a.cps.toList ++ b.cps.toList := by
  show (a.cps ++ b.cps).toList = _
  simp
theorem str_ext {a b : Str} (h : a.cps.toList = b.cps.toList) : a = b := by
  cases a; cases b
  simp only at h
  congr
  exact Array.toList_inj.mp h
theorem join_toList (c : Nat) : ∀ ps : List Str, (Str.join ⟨#[c]⟩ ps).cps.toList = jn c (ps.map fun p => p.cps.toList)
  | [] => rfl
  | [x] => rfl
  | x :: y :: r => by
    show ((x ++ (⟨#[c]⟩ : Str)) ++ Str.join ⟨#[c]⟩ (y :: r)).cps.toList = _
    rw [app_toList, app_toList, join_toList c (y :: r)]
    simp [jn]
theorem split_join {c : Nat} {ps : List Str} (h0 : ps ≠ []) (hf : ∀ p ∈ ps, c ∉ p.cps.toList) : Txt.split (Str.join ⟨#[c]⟩ ps) ⟨#[c]⟩ = ps := by
  have h1 := StrLaws.join_split (Str.join ⟨#[c]⟩ ps) ⟨#[c]⟩
  have h2 := StrLaws.split_free (Str.join ⟨#[c]⟩ ps) c
  have h3 : Txt.split (Str.join ⟨#[c]⟩ ps) ⟨#[c]⟩ ≠ [] := fun e => by
    have := PyProof.Rows.split_pos (Str.join ⟨#[c]⟩ ps) ⟨#[c]⟩
    rw [e] at this
    simp at this
  generalize Txt.split (Str.join ⟨#[c]⟩ ps) ⟨#[c]⟩ = qs at *
  have h4 : jn c (qs.map fun p => p.cps.toList) = jn c (ps.map fun p => p.cps.toList) := by rw [← join_toList, ← join_toList, h1]
  have h5 := jn_uniq (by simpa using h3) (by simpa using h0) (by simpa using h2) (by simpa using hf) h4
  exact (List.map_inj_right (fun a b e => str_ext e)).mp h5
theorem split_two {c : Nat} {a b : Str} (ha : c ∉ a.cps.toList) (hb : c ∉ b.cps.toList) : Txt.split (a ++ ⟨#[c]⟩ ++ b) ⟨#[c]⟩ = [a, b] := by
  have := split_join (c := c) (ps := [a, b]) (by simp) (fun p hp => by simp only [List.mem_cons, List.not_mem_nil, or_false] at hp; rcases hp with rfl | rfl <;> assumption)
  exact this
end DL

/-! DLR: list(reversed(x)) -/
namespace DL
open PySem PySem.Spec PyProof.Rows L2 RT
section
variable {prog : Program} {w : World} {A : Around} {E : Value → Shared → Prop} {s : Shared}
theorem init_list_rev {R : Result → Shared → Prop} {it l : Addr} {items : Array Value} (hh : A.handled = none) (hit : s.heap.IsRevIter it l ((items.size : Int) - 1)) (hl : s.heap.IsList l items) (hne : l ≠ it) (hn : items.size ≤ sizeLine) (Z : Addr) (hZl : Z ≠ l)
    (hZ : s.heap.get? Z = some { cls := .type "list", data := .seq #[] })
    (hR : ∀ (h' : Heap) (tk : Nat) (acc : Array Value) (c' : Nat), (∀ b o, b ≠ it → b ≠ Z → s.heap.get? b = some o → h'.get? b = some o) → h'.get? Z = some { cls := .type "list", dict := none, data := .seq acc c', slots := #[] } →
      ItemsOf (fun i v => items[items.size - 1 - i]? = some v) acc items.size → R (.ok (.ret .none)) { s with heap := h', toks := tk }) :
    wpAny (model prog w) A.in1 (Builtin.«list.__init__» ⟨[.ref Z, .ref it], []⟩)
      (fun fin s' => match fin with | .done f => R (.ok f) s' | .again c' => c'.quiet = true ∧ codeAny (model prog w) A c' R s') (fun e s' => R (.error e) s') s := by
  have hh1 : A.in1.handled = none := hh
  have W := (Walks.listRev (prog := prog) (w := w) (A := A.in1) hh1 it l hne items).toS
  obtain ⟨oi, hoi, hoc, hod⟩ := id hit
  obtain ⟨ol, hol, _⟩ := id hl
  have hSi : Z ≠ it := fun e => by
    rw [e, hoi] at hZ
    have q := congrArg Obj.cls (Option.some.inj hZ)
    rw [hoc] at q
    injection q with q
    exact absurd q (by decide)
  have hSf : Z ∉ [it, l] := by simp only [List.mem_cons, List.not_mem_nil, or_false, not_or]; exact ⟨hSi, hZl⟩
  show wpAny _ _ (do let old ← Builtin.List.listItems (.ref Z); Builtin.List.listUpdate (.ref Z) (fun _ => #[]); letGo old.toList.reverse; Builtin.List.listExtendWith (.ref Z) (.ref it) .none) _ _ s
  refine wpAny_bind ?_
  unfold Builtin.List.listItems
  refine wpAny_bind (wpAny_seqItems hZ rfl (wpAny_pure ?_))
  show wpAny _ _ (updateSeq Z (fun _ => #[]) >>= fun _ => letGo (#[] : Array Value).toList.reverse >>= fun _ => Builtin.List.listExtendWith (.ref Z) (.ref it) .none) _ _ s
  refine wpAny_bind (wpAny_updateSeq hZ rfl ?_)
  have hZ2 := Heap.get?_update_self (Obj.mapSeq (fun _ => (#[] : Array Value))) hZ rfl
  have oth : ∀ b o, b ≠ Z → s.heap.get? b = some o → (s.heap.update Z (Obj.mapSeq (fun _ => (#[] : Array Value)))).get? b = some o :=
    fun b o hb e => (Heap.get?_update_other _ _ (Ne.symm hb)).trans e
  refine wpAny_bind (wpAny_letGo ?_)
  have hit1 : (s.heap.update Z (Obj.mapSeq (fun _ => (#[] : Array Value)))).IsRevIter it l ((items.size : Int) - 1) := hit.at fun o e => oth it o (Ne.symm hSi) e
  obtain ⟨ol', hol', hlc, nl, hld⟩ := id hl
  have hl1 : (s.heap.update Z (Obj.mapSeq (fun _ => (#[] : Array Value)))).IsList l items := ⟨ol', oth l ol' (Ne.symm hZl) hol', hlc, nl, hld⟩
  have hT : ({ s with heap := s.heap.update Z (Obj.mapSeq (fun _ => (#[] : Array Value))) } : Shared).TypeIs (.ref it) "list_reverseiterator" := Heap.IsRevIter.typeIs (s := { s with heap := s.heap.update Z (Obj.mapSeq (fun _ => (#[] : Array Value))) }) hit1
  have h1 : Builtin.List.listSameRef (.ref Z) (.ref it) = false := by simp [Builtin.List.listSameRef, hSi]
  unfold Builtin.List.listExtendWith
  refine wpAny_bind (wpAny_typeOf hT ?_)
  rw [if_neg (by rw [h1]; decide)]
  refine wpAny_bind (wpAny_pyIter_revIter (s := { s with heap := s.heap.update Z (Obj.mapSeq (fun _ => (#[] : Array Value))) }) hit1 ?_)
  refine wpAny_bind (wpAny_holding ?_)
  unfold Builtin.List.listLengthHint
  refine wpAny_bind (wpAny_specialOf hT nolen_lri ?_)
  show wpAny _ A.in1 (specialOf (Value.ref it) (Str.ofString "__length_hint__") >>= _) _ _ _
  refine wpAny_bind (wpAny_specialOf hT hint_lri ?_)
  generalize hid : ("list_reverseiterator.__length_hint__" : String) = id0
  wp_delta
  rw [show splitId id0 = some ("list_reverseiterator", "__length_hint__") from by subst hid; decide +kernel]
  subst hid
  refine wpAny_bind (wpAny_isInstance (b := true) hT (by rw [isSubtype_type]; kernel_rfl) ?_)
  refine wpAny_pure ?_
  rw [if_neg (by decide)]
  have e0 : ((items.size : Nat) : Int) - 1 - ((0 : Nat) : Int) = (items.size : Int) - 1 := by omega
  refine wpAny_pure ⟨plainId_quiet F.plain_extend_loop _, codeAny_extend_loopS W hn _ hSf _ items.size 0 _ _ _ rfl (Nat.zero_le _) ⟨Nat.zero_le _, by rw [e0]; exact hit1, hl1⟩ hZ2 (ItemsOf.nil _) fun s' acc' c' hm hS' hacc => ?_⟩
  rw [Moved.eq_with hm]
  refine hR s'.heap s'.toks acc' c' (fun b o hb hb2 e => hm.heap b o (fun hmem => ?_) (oth b o hb2 e)) hS' hacc
  rcases List.mem_cons.mp hmem with e' | hmem
  · exact hb2 e'
  · exact hb (List.mem_singleton.mp hmem)
theorem call_list_rev {it l : Addr} {items : Array Value} {Q : Value → Shared → Prop} (hh : A.handled = none) (hit : s.heap.IsRevIter it l ((items.size : Int) - 1)) (hl : s.heap.IsList l items) (hne : l ≠ it) (hn : items.size ≤ sizeLine)
    (hQ : ∀ (h' : Heap) (tk : Nat) (acc : Array Value) (c' : Nat), (∀ b o, b ≠ it → s.heap.get? b = some o → h'.get? b = some o) → h'.get? s.heap.objs.size = some { cls := .type "list", dict := none, data := .seq acc c', slots := #[] } →
      ItemsOf (fun i v => items[items.size - 1 - i]? = some v) acc items.size → Q (.ref s.heap.objs.size) { s with heap := h', toks := tk }) :
    wpAny (model prog w) A (call (.type "list") [.ref it]) Q E s := by
  obtain ⟨ol, hol, _⟩ := id hl
  refine callType_codes (Q₁ := fun obj s₁ => obj = .ref s.heap.objs.size ∧ s₁ = { s with heap := s.heap.push { cls := .type "list", data := .seq #[] } }) F.called_list (F.typeCall_list_1 _) F.entry_list_init
    (code_list_new _ ⟨rfl, rfl⟩) fun obj s₁ h₁ => ?_
  obtain ⟨rfl, rfl⟩ := h₁
  have hS : (s.heap.push { cls := .type "list", data := .seq #[] }).get? s.heap.objs.size = some { cls := .type "list", data := .seq #[] } := Heap.get?_push_size _ rfl
  refine ⟨⟨_, hS, rfl⟩, F.args_list_init_2 _ _, init_list_rev (A := A.in1) hh (hit.at fun o e => Heap.get?_push_of_some _ e) (hl.push _) hne hn _ (Nat.ne_of_gt (Heap.lt_size hol)) hS fun h' tk acc c' hk hS' hacc => ?_⟩
  exact ⟨rfl, hQ h' tk acc c' (fun b o hb e => hk b o hb (Nat.ne_of_lt (Heap.lt_size e)) (Heap.get?_push_of_some _ e)) hS' hacc⟩
end
end DL

namespace DL
open PySem PySem.Spec PyProof.Rows L2 RT
section
variable {X : Cx} {W : WX} {pos : Pos}
def tLstRev (K : PySem.W.Frag) (te : TE) : TE := fun σ H Q => te σ H fun v H1 => ∃ (a : Addr) (xs : List V), v = .ref a ∧ SqL K H1 a xs ∧ ∀ q, H1 q = none → Q (.ref q) (upd H1 q (.lst xs.reverse))
theorem pe_listRev {e : Expr} {te : TE} {p p2 pos2 : Pos} (hc : X.calm = true) (hg : Gl X "list") (hm : X.mg "list" = none) (hg2 : Gl X "reversed") (hm2 : X.mg "reversed" = none) (he : PE X e te)
    (hs : starEach [e] X.env = (false, eval e X.env) :: starEach [] X.env := by rfl)
    (hs2 : starEach [.Call (.Name "reversed" p2) [e] [] pos2] X.env = (false, eval (.Call (.Name "reversed" p2) [e] [] pos2) X.env) :: starEach [] X.env := by rfl) :
    PE X (.Call (.Name "list" p) [.Call (.Name "reversed" p2) [e] [] pos2] [] pos) (tLstRev X.K te) := by
  refine ⟨fun pins s σ H Q I h => ?_⟩
  refine Call_ (ld_blt I hg hm boot_list (PyProof.Rows.callWith_type1 (args_cons (Call_ (ld_blt I hg2 hm2 PyProof.Rows.boot_reversed (PyProof.Rows.callWith_type1 (args_cons (thn (he.run pins s σ H _ I h) fun u s1 ⟨v, H1, I1, r1, q1⟩ => args_nil ?_) hs) hs rfl))) hs2) hs2 rfl))
  obtain ⟨a, xs, ev, hq, q⟩ := q1
  subst ev
  obtain rfl : u = Value.ref a := r1
  obtain ⟨its, rv, p', hz⟩ := I1.list hq
  refine call_reversed_list p'.isList (args_nil ?_)
  have k0 : ∀ b o, s1.heap.get? b = some o → (s1.heap.push (revObj a ((its.toArray.size : Int) - 1))).get? b = some o := fun b o e => Heap.get?_push_of_some _ e
  have I2 : Inv X pins σ H1 { s1 with heap := s1.heap.push (revObj a ((its.toArray.size : Int) - 1)) } := I1.kept (t' := s1.toks) k0
  have hfp := I1.fpOk (H' := H1) (b := s1.heap.objs.size) (Nat.le_refl _) (I1.hok.fresh (Nat.le_refl _))
  have hl := p'.isList
  obtain ⟨ol, hol, _⟩ := id hl
  have hne : a ≠ s1.heap.objs.size := Nat.ne_of_lt (Heap.lt_size hol)
  have hn : its.toArray.size ≤ sizeLine := by rw [List.size_toArray, ← rv.length]; exact hz
  refine call_list_rev (s := { s1 with heap := s1.heap.push (revObj a ((its.toArray.size : Int) - 1)) }) (I1.ok.hd hc) ⟨_, Heap.get?_push_size _ rfl, rfl, rfl⟩ (hl.push _) hne hn fun h' tk acc c' hk hS hi => ?_
  have I3 := I2.turnedNew (t' := tk) (ch := [s1.heap.objs.size]) (ob := .lst xs.reverse) (fun b o hb e => hk b o (fun z => hb (by simp [z])) e) (fun b hb => by
    have z : b = s1.heap.objs.size := by simpa using hb
    rw [z]; exact hfp) (Nat.le_refl _) (show ObjOk X.prog X.w _ _ _ (.lst xs.reverse) from ⟨by rw [List.length_reverse]; exact hz, acc.toList, c', vals_rev rv hi, by rw [Array.toArray_toList]; exact hS⟩)
  exact ⟨.ref (s1.heap.push (revObj a ((its.toArray.size : Int) - 1))).objs.size, _, I3, rfl, q _ (I2.hok.fresh (Nat.le_refl _))⟩
/-- list(reversed(x)), to be changed or not -/
def gRevL (mu : Bool) (x : D) : M D := gRev mu x
theorem d_listRev (mu : Bool) {e : Expr} {te : EvD} {p p2 pos2 : Pos} (hc : X.calm = true) (hg : Gl X "list") (hm : X.mg "list" = none) (hg2 : Gl X "reversed") (hm2 : X.mg "reversed" = none) (he : PE X e (tD X.K X.mg W te))
    (hs : starEach [e] X.env = (false, eval e X.env) :: starEach [] X.env := by rfl)
    (hs2 : starEach [.Call (.Name "reversed" p2) [e] [] pos2] X.env = (false, eval (.Call (.Name "reversed" p2) [e] [] pos2) X.env) :: starEach [] X.env := by rfl) :
    PE X (.Call (.Name "list" p) [.Call (.Name "reversed" p2) [e] [] pos2] [] pos) (tD X.K X.mg W (eUn (gRev mu) te)) := by
  refine PE.imp (pe_listRev hc hg hm hg2 hm2 he hs hs2) fun σ H Q ⟨ρ, S, μ, e, s, h⟩ => ?_
  refine ⟨ρ, S, μ, e, s, h.bnd fun x S1 μ1 H1 s1 r1 h1 v rv => ?_⟩
  unfold gRev at h1
  split at h1
  · rename_i ds e
    obtain ⟨a, vs, rfl, q, z⟩ := iSeq_ok e r1 rv
    refine ⟨a, vs, rfl, q, fun p hp => ?_⟩
    split at h1
    · exact h1 (μ1.push p) _ (Stp.alloc hp) (r1.alloc hp ⟨_, upd_same, (z.step r1 (Stp.alloc hp)).reverse⟩) _ (new_ref r1)
    · exact h1 μ1 _ (Stp.new hp) (r1.new hp) _ (.lst upd_same ⟨fun z => r1.there z hp, fun z => r1.hid _ z hp⟩ (z.step r1 (Stp.new hp)).reverse)
  · exact h1.elim
/-- reversed(x), x a tuple -/
theorem it_revT {K : PySem.W.Frag} {a : Addr} {ds : List D} : ItOk K (ItvT K a ds.length) none ds.reverse (fun μ H => RD K μ H (.tup ds) (.ref a)) where
  go := fun i μ S H hi r _ g => by
    have hi' : i < ds.length := by simpa using hi
    cases g with
    | tup q z =>
      obtain ⟨v, ev, _⟩ := z.get (List.getElem?_eq_getElem (show ds.length - 1 - i < ds.length by omega))
      exact ⟨hi', _, v, q, ev⟩
  yld := fun i x μ S H H' hi r _ g y => by
    have hi' : i < ds.length := by simpa using hi
    obtain ⟨rfl, y⟩ := y
    cases g with
    | tup q z =>
      obtain ⟨v, ev, rv⟩ := z.get (List.getElem?_eq_getElem (show ds.length - 1 - i < ds.length by omega))
      have := y _ q
      rw [this] at ev
      cases ev
      refine ⟨.refl, r, _, ?_, rv⟩
      rw [List.getElem?_reverse hi', List.getElem?_eq_getElem]
  stop := fun μ S H r _ g => by show ds.length ≤ _; simp
  step := fun μ S H μ' H' g r s => RD.step g r s
  hide := fun μ H p o g h => RD.hide h _ _ g
  seen := fun μ H p xs ys g h => RD.seen h _ _ g
def srcV (d : D) : M (Option Nat × List D) := fun S => match d with
  | .tup ds => .ok (none, ds.reverse) S
  | _ => .bad
def iRev (a : EvD) : EvI := fun ρ => bnd (a ρ) srcV
theorem i_rev {tg e : Expr} {te : EvD} {p pos : Pos} (hg : Gl X "reversed") (hm : X.mg "reversed" = none) (he : PE X e (tD X.K X.mg W te)) (hs : starEach [e] X.env = (false, eval e X.env) :: starEach [] X.env := by rfl) : PI X tg (.Call (.Name "reversed" p) [e] [] pos) (tI X.K X.mg W (iRev te)) := by
  refine PI.imp (pi_revA hg hm he hs) fun σ H R ⟨ρ, S, μ, e, s, h⟩ => ?_
  refine ⟨ρ, S, μ, e, s, h.bnd fun x S1 μ1 H1 s1 r1 h1 v rv => ?_⟩
  unfold srcV at h1
  split at h1
  · have rv0 := rv
    cases rv with
    | @tup a vs _ q z =>
      refine ⟨a, vs, rfl, .inr ⟨q, ?_⟩⟩
      rw [← z.length]
      exact h1.now r1 _ _ it_revT rv0
  · exact h1.elim
/-- + of lists: a list that will be changed -/
def gAddM (x y : D) : M D := fun S => match iTrk S x, iTrk S y with
  | some a, some b => if a.length + b.length ≤ sizeLine then .ok (.ref S.length) (S ++ [.lst (a ++ b)]) else .bad
  | _, _ => .bad
theorem o_addM : ORD X W (binaryOp .Add) gAddM := by
  refine ⟨_, op_cat, fun x y v w μ S σ H Q r rx ry h => ?_⟩
  unfold gAddM at h
  split at h
  · rename_i a b ea eb
    split at h
    · rename_i hl
      obtain ⟨p1, v1, rfl, q1, z1⟩ := iTrk_ok ea r rx
      obtain ⟨p2, v2, rfl, q2, z2⟩ := iTrk_ok eb r ry
      rw [z1.length, z2.length] at hl
      refine ⟨_, _, _, _, rfl, rfl, q1, q2, hl, fun p hp => ?_⟩
      exact h (μ.push p) _ (Stp.alloc hp) (r.alloc hp ⟨_, upd_same, (z1.step r (Stp.alloc hp)).append (z2.step r (Stp.alloc hp))⟩) _ (new_ref r)
    · exact h.elim
  · exact h.elim
end
end DL

/-! DLR3: comprehensions whose list will be changed -/
namespace DL
open PySem L2
section
variable {K : PySem.W.Frag} {μ : Mu} {S : Sto} {H : Hp}
mutual
theorem RD.reveal {p : Addr} : ∀ (d : D) (v : V), RD K (μ.hide p) H d v → RD K (μ.push p) H d v
  | .non, _, h => by cases h; exact .non
  | .bl _, _, h => by cases h; exact .bl _
  | .int _, _, h => by cases h; exact .int _
  | .str _, _, h => by cases h; exact .str _
  | .fn _, _, h => by cases h with | fn q => exact .fn q
  | .tup ds, _, h => by cases h with | tup h1 h2 => exact .tup h1 (RDs.reveal ds _ h2)
  | .fl ds, _, h => by cases h with | fl h1 h2 => exact .fl h1 (RDs.reveal ds _ h2)
  | .lst ds, _, h => by
    cases h with
    | lst h1 h0 h2 =>
      refine .lst h1 ⟨fun z => ?_, fun z => h0.2 (List.mem_cons_of_mem _ z)⟩ (RDs.reveal ds _ h2)
      rcases List.mem_append.mp z with z | z
      · exact h0.1 z
      · exact h0.2 (by rw [List.mem_singleton.mp z]; exact List.mem_cons_self)
  | .ref n, _, h => by
    cases h with
    | ref h1 =>
      refine .ref ?_
      have h1' : μ.v[n]? = some _ := h1
      show (μ.v ++ [p])[n]? = _
      rw [List.getElem?_append_left (List.getElem?_eq_some_iff.mp h1').1]; exact h1'
theorem RDs.reveal {p : Addr} : ∀ (ds : List D) (vs : List V), RDs K (μ.hide p) H ds vs → RDs K (μ.push p) H ds vs
  | [], _, h => by cases h; exact .nil
  | d :: ds, _, h => by
    cases h with
    | cons h1 h2 => exact .cons (RD.reveal d _ h1) (RDs.reveal ds _ h2)
end
theorem Rel.reveal {p : Addr} {xs : List V} {ds : List D} (r : Rel K (μ.hide p) S H) (hp : H p = some (.lst xs)) (hd : RDs K (μ.hide p) H ds xs) (hpx : p ∉ μ.x) : Rel K (μ.push p) (S ++ [.lst ds]) H := by
  have hn : p ∉ μ.v := fun z => r.apt p z List.mem_cons_self
  refine ⟨by simp [Mu.push, r.show.len], ?_, fun i a m h1 h2 => ?_, fun a ha => r.hid a (List.mem_cons_of_mem _ ha), fun a ha hx => ?_⟩
  · show (μ.v ++ [p]).Nodup
    rw [List.nodup_append]
    exact ⟨r.show.nd, by simp, fun x hx y hy => by rw [List.mem_singleton.mp hy]; exact fun e => hn (e ▸ hx)⟩
  · have hl : S.length = μ.v.length := r.show.len.symm
    by_cases hi : i < S.length
    · rw [List.getElem?_append_left hi] at h2
      have h1' : (μ.v ++ [p])[i]? = some a := h1
      rw [List.getElem?_append_left (by omega)] at h1'
      exact (r.obj i a m h1' h2).map rfl RD.reveal RDs.reveal
    · have h2' := h2
      rw [List.getElem?_append_right (by omega)] at h2'
      have hi0 : i = S.length := by
        have := (List.getElem?_eq_some_iff.mp h2).1
        simp at this; omega
      subst hi0
      simp at h2'
      subst h2'
      have h1' : (μ.v ++ [p])[S.length]? = some a := h1
      rw [hl, List.getElem?_append_right (Nat.le_refl _)] at h1'
      simp at h1'
      subst h1'
      exact ⟨xs, hp, RDs.reveal _ _ hd⟩
  · rcases List.mem_append.mp ha with z | z
    · exact r.show.apt a z hx
    · exact hpx (by rw [← List.mem_singleton.mp z]; exact hx)
noncomputable def eCompM (it : EvI) (tgt : D → Rho → Option Rho) (test : EvB) (el : EvD) (vs : List Nat) : EvD := fun ρ => bnd (it ρ) fun p => noEx (fun S => if p.2.length ≤ sizeLine then
  (match compM p.1 p.2 tgt test el (wipeR ρ vs) p.2 S with
    | .ok ys S' => .ok (.ref S'.length) (S' ++ [.lst ys])
    | .ex e S' => .ex e S'
    | .bad => .bad) else .bad)
end
section
variable {X : Cx} {W : WX} {tg : Expr}
theorem comp_okM {it : EvI} {tgt : D → Rho → Option Rho} {g : TG} {test : EvB} {el : EvD} {is vs : List Nat} (hG : GRD X is tgt g) (his : ∀ i ∈ is, i ∈ vs) {σ : L2.St} {H : Hp} {Q : VK}
    (hh : tD X.K X.mg W (eCompM it tgt test el vs) σ H Q) : tLc (tI X.K X.mg W it) g (tT X.K X.mg W0 test) (tD X.K X.mg W0 el) vs σ H Q := by
  obtain ⟨ρ, S, μ, e, s, h⟩ := hh
  refine ⟨ρ, S, μ, e, s, h.bnd fun p S1 μ1 H1 s1 r1 h1 J G io gg D hD => ?_⟩
  obtain ⟨src, all⟩ := p
  simp only [] at io h1
  -- what the denotation says
  obtain ⟨hlen, fin⟩ : all.length ≤ sizeLine ∧ okR (compM src all tgt test el (wipeR ρ vs) all S1) (fun ys S' => ∀ μ' H', Stp μ1 H1 μ' H' → Rel X.K μ' (S' ++ [.lst ys]) H' → QD X.K Q (.ref S'.length) μ' H') := by
    unfold noEx at h1
    simp only [] at h1
    by_cases hl : all.length ≤ sizeLine
    · refine ⟨hl, ?_⟩
      rw [if_pos hl] at h1
      cases ec : compM src all tgt test el (wipeR ρ vs) all S1 with
      | ok ys S' => rw [ec] at h1; exact h1
      | ex e S' => rw [ec] at h1; exact h1
      | bad => rw [ec] at h1; exact h1
    · rw [if_neg hl] at h1; exact h1.elim
  have hDx : D ∉ μ1.x := fun z => r1.hid D z hD
  let Inv (i : Nat) (Hc : Hp) : Prop := ∃ Sc μc acc as, i ≤ all.length ∧ Stp μ1 H1 μc Hc ∧ Rel X.K (μc.hide D) Sc Hc ∧ RE X.K (μc.hide D) Hc (L2.wipe σ vs) (wipeR ρ vs) ∧ G (μc.hide D) Hc ∧ Hc D = some (.lst acc) ∧ RDs X.K (μc.hide D) Hc as acc ∧ as.length ≤ i ∧
    okR (compM src all tgt test el (wipeR ρ vs) (all.drop i) Sc) (fun ys S' => ∀ μ' H', Stp μ1 H1 μ' H' → Rel X.K μ' (S' ++ [.lst (as ++ ys)]) H' → QD X.K Q (.ref S'.length) μ' H')
  refine ⟨fun i m Hc => m = all.length - i ∧ Inv i Hc, ⟨all.length, by simp, ?_⟩, ?_⟩
  · refine ⟨S1, μ1, [], [], Nat.zero_le _, Stp.new hD, r1.hide hD, ((e.step s s1).wipe vs).mapR (RD.hide hD), io.hide _ _ _ _ gg hD, upd_same, .nil, Nat.le_refl _, ?_⟩
    simpa using fin
  · rintro i m Hc ⟨rfl, Sc, μc, acc, as, hi2, st, rel, re, hG2, hacc, rds, hal, done⟩
    by_cases hlt : i < all.length
    · right
      have hdrop : all.drop i = all[i] :: all.drop (i + 1) := List.drop_eq_getElem_cons hlt
      rw [hdrop] at done
      unfold compM at done
      by_cases hlive : liveOk src all Sc
      · rw [if_pos hlive] at done
        split at done
        · rename_i ρ1 hρ1
          refine ⟨io.go i _ Sc Hc hlt rel hlive hG2, fun H' => Inv (i + 1) H', fun H' q => ⟨all.length - (i + 1), by omega, rfl, q⟩, fun x H' y => ?_⟩
          obtain ⟨sy, ry, d, hd, rd⟩ := io.yld i x _ Sc Hc H' hlt rel hlive hG2 y
          rw [List.getElem?_eq_getElem hlt] at hd
          cases hd
          obtain ⟨μy, ey, sty⟩ := sy.show
          have eμ : μy = μc := by
            obtain ⟨v1, x1⟩ := μy
            obtain ⟨v2, x2⟩ := μc
            simp only [Mu.hide, Mu.mk.injEq, List.cons.injEq, true_and] at ey
            obtain ⟨rfl, rfl⟩ := ey
            rfl
          subst eμ
          have notv : ∀ (μ : Mu) (Sx : Sto) (Hx : Hp), Rel X.K (μ.hide D) Sx Hx → D ∉ (μ.hide D).v := fun μ Sx Hx r z => r.apt D z List.mem_cons_self
          have haccy : H' D = some (.lst acc) := sy.keep D _ hacc (notv _ _ _ rel)
          refine hG _ _ _ ρ1 _ _ Sc H' _ (re.step rel sy) ry rd hρ1 fun σ2 re2 hw => ⟨(hw vs his).trans (wipe_twice σ vs), ρ1, Sc, _, re2, ry, ?_⟩
          have done2 := okR_bnd done
          refine okR_post done2 fun b S2 μ2 H3 db s3 r3 => ?_
          obtain ⟨μ2', rfl, st3⟩ := s3.show
          have haccb : H3 D = some (.lst acc) := s3.keep D _ haccy (notv _ _ _ ry)
          have rds3 := (rds.step rel sy).step ry s3
          have re3 := (re.step rel sy).step ry s3
          have g3 := io.step _ _ _ _ _ (io.step _ _ _ _ _ hG2 rel sy) ry s3
          have stt := (st.trans sty).trans st3
          cases b with
          | false =>
            rw [if_neg Bool.false_ne_true] at db ⊢
            exact ⟨S2, μ2', acc, as, hlt, stt, r3, re3, g3, haccb, rds3, Nat.le_succ_of_le hal, db⟩
          | true =>
            rw [if_pos rfl] at db ⊢
            refine ⟨ρ1, S2, _, re2.step ry s3, r3, ?_⟩
            refine okR_post (okR_bnd db) fun yv S4 μ4 H4 d4 s4 r4 v rv => ?_
            obtain ⟨μ4', rfl, st4⟩ := s4.show
            have hacc4 : H4 D = some (.lst acc) := s4.keep D _ haccb (notv _ _ _ r3)
            have rds4 := rds3.step r3 s4
            refine ⟨acc, hacc4, by rw [← rds4.length]; omega, S4, μ4', acc ++ [v], as ++ [yv], hlt, (stt.trans st4).side hD, r4.seen hacc4, (re3.step r3 s4).mapR (RD.seen hacc4), io.seen _ _ _ _ _ (io.step _ _ _ _ _ g3 r3 s4) hacc4, upd_same,
              RDs.seen hacc4 _ _ (rds4.append (.cons rv .nil)), by simp; omega, ?_⟩
            have d5 := okR_bnd d4
            unfold okR at d5 ⊢
            split
            · rename_i ys S' hys
              rw [hys] at d5
              intro μ' H5 sx rx
              have := d5 μ' H5 sx (by simpa using rx)
              simpa using this
            · rename_i hno
              split at d5
              · rename_i a S' hh; exact absurd hh (hno a S')
              · exact d5
        · exact done.elim
      · rw [if_neg hlive] at done; exact done.elim
    · left
      have hi3 : i = all.length := by omega
      subst hi3
      rw [List.drop_length] at done
      unfold compM at done
      by_cases hlive : liveOk src all Sc
      · rw [if_pos hlive] at done
        refine ⟨io.stop _ Sc Hc rel hlive hG2, ?_⟩
        have z := done (μc.push D) Hc (st.push hD) (by simpa using rel.reveal hacc rds (by rw [st.x]; exact hDx))
        exact z _ (new_ref rel.show)
      · rw [if_neg hlive] at done; exact done.elim
theorem d_compM {elt iter : Expr} {ifs : List Expr} {scope : Scope} {own : List (Str × Nat)} {vs : List Nat} {pos : Pos} {it : EvI} {tgt : D → Rho → Option Rho} {g : TG} {test : EvB} {el : EvD} {is : List Nat} (hc : X.calm = true) (hN : X.N.Nodup)
    (hi : PI X tg iter (tI X.K X.mg W it)) (ok : BlkOk X.N X.env.scope scope own) (hv : own.map (·.2) = vs) (hG : GRD X is tgt g) (his : ∀ i ∈ is, i ∈ vs)
    (hg : ∀ (s : Shared) (H : Hp) (C : Addr) (cl : List (Str × Addr)) (fp : List Addr), PG (X.blk s H scope (compEnvC scope cl C X.env) fp) tg g)
    (ht : ∀ (s : Shared) (H : Hp) (C : Addr) (cl : List (Str × Addr)) (fp : List Addr), PTs (X.blk s H scope (compEnvC scope cl C X.env) fp) ifs (tT X.K X.mg W0 test))
    (he : ∀ (s : Shared) (H : Hp) (C : Addr) (cl : List (Str × Addr)) (fp : List Addr), PE (X.blk s H scope (compEnvC scope cl C X.env) fp) elt (tD X.K X.mg W0 el)) (hs : ∀ x, foldedSetIterable iter X.env x = pure x := by intro _; rfl) :
    PE X (.ListComp elt [⟨tg, iter, ifs, 0⟩] scope pos) (tD X.K X.mg W (eCompM it tgt test el vs)) := by
  subst hv
  exact PE.imp (pe_lc hc hN hi ok hg ht he hs) fun σ H Q h => comp_okM hG his h
theorem s_setLcM (i : Nat) {y : Str} {py : Pos} {tg elt iter : Expr} {ifs : List Expr} {scope : Scope} {own : List (Str × Nat)} {vs : List Nat} {pos spos : Pos} {it : EvI} {tgt : D → Rho → Option Rho} {g : TG} {test : EvB} {el : EvD} {is : List Nat} (hc : X.calm = true) (hN : X.N.Nodup)
    (hi : PI X tg iter (tI X.K X.mg W it)) (ok : BlkOk X.N X.env.scope scope own) (hv : own.map (·.2) = vs) (hG : GRD X is tgt g) (his : ∀ i ∈ is, i ∈ vs)
    (hg : ∀ (s : Shared) (H : Hp) (C : Addr) (cl : List (Str × Addr)) (fp : List Addr), PG (X.blk s H scope (compEnvC scope cl C X.env) fp) tg g)
    (ht : ∀ (s : Shared) (H : Hp) (C : Addr) (cl : List (Str × Addr)) (fp : List Addr), PTs (X.blk s H scope (compEnvC scope cl C X.env) fp) ifs (tT X.K X.mg W0 test))
    (he : ∀ (s : Shared) (H : Hp) (C : Addr) (cl : List (Str × Addr)) (fp : List Addr), PE (X.blk s H scope (compEnvC scope cl C X.env) fp) elt (tD X.K X.mg W0 el))
    (hy : X.N[i]? = some y := by rfl) (hyl : X.env.scope.names.lookup y = some .local := by rfl) (hsw : swapsWith (.ListComp elt [⟨tg, iter, ifs, 0⟩] scope pos) (some (.Name y py)) spos.line X.env = pure true := by exact sw_true rfl rfl rfl (by decide +kernel))
    (hs : ∀ x, foldedSetIterable iter X.env x = pure x := by intro _; rfl) :
    PS X (.Assign [.Name y py] (.ListComp elt [⟨tg, iter, ifs, 0⟩] scope pos) spos) (tS X.K X.mg W (sAsg (gN i) (eCompM it tgt test el vs))) := by
  subst hv
  refine PS.imp (ps_setLc hc hN hy hyl hsw hi ok hg ht he hs) fun E σ H ⟨ρ, S, μ, e, s, h⟩ => ?_
  refine comp_okM hG his ⟨ρ, S, μ, e, s, h.lft e s fun d S1 μ1 H1 s1 r1 e1 h1 v rv => ?_⟩
  exact h1.now r1 _ (e1.set rv i)
end
end DL

/-! DLW: more words for the weakest precondition -/
namespace DL
open PySem L2
section
variable {S : Sto} {F : D → Sto → Prop} {E : Exc → Sto → Prop}
theorem gIx_sign {z : Str} {j : Int} : wp (gIx (.str z) (.int j) S) F E ↔ z.length ≤ sizeLine ∧ ∃ c, atI z.cps.toList j = some c ∧ F (.str ⟨#[c]⟩) S := by
  unfold gIx
  by_cases h : z.length ≤ sizeLine
  · simp only [if_pos h]
    cases e : atI z.cps.toList j with
    | some c => exact ⟨fun q => ⟨h, c, rfl, q⟩, fun ⟨_, c', e, q⟩ => by cases e; exact q⟩
    | none => exact ⟨fun q => q.elim, fun ⟨_, c', e, q⟩ => by cases e⟩
  · simp only [if_neg h]
    exact ⟨fun q => q.elim, fun q => h q.1⟩
theorem rangeD_len {lo : Int} {m : Nat} : (rangeD lo m).length = m := by simp [rangeD]
theorem gTuple_seq {x : D} {ds : List D} (h : iLst S x = some ds) : wp (gTuple [x] S) F E ↔ F (.tup ds) S := by
  unfold gTuple
  simp only [h]
  exact Iff.rfl
theorem atI_last {ds : List D} {x : D} : atI (ds ++ [x]) (-1) = some x := by
  have e : ixN (ds ++ [x]).length (-1) = some ds.length := by
    unfold ixN
    rw [if_neg (by decide), if_pos (by simp; omega)]
    congr 1; simp; omega
  unfold atI; rw [e]; simp
theorem trs {ds : List D} (h : ∀ d ∈ ds, tr d) : D.los 0 ds = true := los_iff ds |>.mpr h
theorem tr_tup {ds : List D} (h : ∀ d ∈ ds, tr d) : tr (.tup ds) := trs h
theorem comp1 {all ds : List D} {d : D} {i : Nat} {el : EvD} {ρ : Rho} {FF : List D → Sto → Prop} : wp (compM none all (gN i) bYes el ρ (d :: ds) S) FF nx ↔ wp (el (ρ.set i (some d)) S) (fun y S1 => wp (compM none all (gN i) bYes el ρ ds S1) (fun ys S2 => FF (y :: ys) S2) nx) nx := by
  have e : compM none all (gN i) bYes el ρ (d :: ds) S = bnd (bYes (ρ.set i (some d))) (fun b => if b = true then bnd (el (ρ.set i (some d))) (fun y => bnd (compM none all (gN i) bYes el ρ ds) fun ys => ret (y :: ys)) else compM none all (gN i) bYes el ρ ds) S := by
    conv => lhs; unfold compM
    rw [if_pos (show liveOk none all S from trivial)]; rfl
  rw [e]
  simp only [wp_ok, wp_ret, wp_stuck, wp_bad, wp_bnd, wp_if, wp_fif, wps_ok_nx, wps_ok_rt, wps_ok_bk, wps_ok_ct, wps_ok_xc, wps_bad, wps_lft, wps_seq, wps_nil, wps_ret, wps_expr, wps_asg, wps_if, wp_run, wps_for, wps_while, wp_comp, wp_var, wp_C, wp_bin, wp_un, wp_T, wp_Tb, wp_asBl, wp_truthBl, wp_bAnd, wp_bOr, wp_bNot, wp_eIf, wp_eAnd, wp_eOr, wp_eNot, blCase_bl, wp_chain, wp_aNil, wp_aCons, wp_tup, wp_lst, wp_lstM, wp_call, wp_cl1, wp_cl2, wp_cl3, wp_cl4, wp_cl5, wp_meth, wp_isi, wp_oNone, wp_oSome, wp_sl, wp_it, wp_range1, wp_range2, wp_bYes, gEq_str, gNe_str, gEq_int, gNe_int, gEq_bl, gNe_bl, gIs_bl, gIsNot_bl, gAdd_int, gSub_int, gC_int, gI_int, gAdd_str, gAdd_tup, gAdd_lst, gNeg_int, gIx_tup, gIx_lst, gLen_tup, gLen_lst, gLen_str, gInt_int, gInt_bl, gTuple_lst, gTuple_tup, gList_lst, gList_tup, gSl_tup, gSl_lst, gSl_fl, gSl_str, srcL_tup, srcL_lst, srcL_fl, srcL_str, srcR1_int, typN, startR, List.map_cons, List.map_nil, List.length_cons, List.length_nil, Nat.reduceAdd, Nat.reduceSub, Nat.zero_add, Nat.sub_self, Nat.sub_zero, List.replicate_zero, List.replicate_succ, List.cons_append, List.nil_append, List.append_nil, List.getElem?_cons_zero, List.getElem?_cons_succ, List.set_cons_zero, List.set_cons_succ, List.set_nil, List.getElem?_nil, Option.some.injEq, exists_eq_left', exists_eq_left, exists_eq_right, reduceCtorEq, false_and, and_false, true_and, and_true, exists_false, exists_const, wipeR, Nat.zero_le, String.reduceEq, D.int.injEq, D.str.injEq, D.bl.injEq, atI_0, atI_1, atI_2, atI_3, atI_4, beq_self_eq_true, not_true_eq_false, not_false_eq_true, Int.cast_ofNat_Int, Int.reduceEq, Int.reduceLE, Int.reduceLT, Int.reduceAdd, Int.reduceSub, Int.reduceMul, Int.reduceNeg, if_true, if_false, ite_true, ite_false, Bool.false_eq_true, if_neg, if_pos, decide_eq_true_eq, Bool.not_eq_true', decide_eq_false_iff_not, eq_self_iff_true, decide_true, decide_false, Bool.not_true, Bool.not_false]
theorem comp0 {all : List D} {i : Nat} {el : EvD} {ρ : Rho} {FF : List D → Sto → Prop} : wp (compM none all (gN i) bYes el ρ [] S) FF nx ↔ FF [] S := by
  have e : compM none all (gN i) bYes el ρ [] S = .ok [] S := by
    unfold compM
    rw [if_pos (show liveOk none all S from trivial)]
  rw [e]; exact Iff.rfl
theorem comp2 {a b : D} {i : Nat} {el : EvD} {ρ : Rho} {FF : List D → Sto → Prop} : wp (compM none [a, b] (gN i) bYes el ρ [a, b] S) FF nx ↔ wp (el (ρ.set i (some a)) S) (fun y S1 => wp (el (ρ.set i (some b)) S1) (fun z S2 => FF [y, z] S2) nx) nx := by
  rw [comp1]
  simp only [comp1, comp0]
theorem los_app {m : Nat} (a b : List D) : D.los m (a ++ b) = (D.los m a && D.los m b) := by
  induction a with
  | nil => simp [D.los]
  | cons x a ih => simp [D.los, ih, Bool.and_assoc]
theorem sl {n : Nat} (h : n ≤ 100) : n ≤ sizeLine := small_line (by omega)
theorem gNs_cons {i : Nat} {t : TgL} {d : D} {ds : List D} {ρ : Rho} : gNs i t (d :: ds) ρ = t ds (ρ.set i (some d)) := rfl
theorem gN0_nil {ρ : Rho} : gN0 [] ρ = some ρ := rfl
theorem gTp_tup {m : Nat} {t : TgL} {ds : List D} {ρ : Rho} (h : ds.length = m) : gTp m t (.tup ds) ρ = t ds ρ := by unfold gTp; simp only [h, if_true]
theorem wps_asgT {tgt : D → Rho → Option Rho} {e : EvD} {ρ : Rho} {N B C : Rho → Sto → Prop} {T : D → Sto → Prop} {X : Exc → Rho → Sto → Prop} : wps (sAsg tgt e ρ S) N T B C X ↔ wp (e ρ S) (fun d S' => ∃ ρ', tgt d ρ = some ρ' ∧ N ρ' S') (fun e S' => X e ρ S') := by
  unfold sAsg; rw [wps_lft]
  constructor <;> intro h <;> refine wp_mono h (fun d S' h => ?_) (fun _ _ h => h)
  · cases e : tgt d ρ with
    | some ρ' => simp only [e] at h; exact ⟨ρ', rfl, h⟩
    | none => simp only [e] at h; exact h.elim
  · obtain ⟨ρ', e, h⟩ := h
    simp only [e]; exact h
theorem wps_asgTp {m : Nat} {t : TgL} {e : EvD} {ρ : Rho} {N B C : Rho → Sto → Prop} {T : D → Sto → Prop} {X : Exc → Rho → Sto → Prop} : wps (sAsg (gTp m t) e ρ S) N T B C X ↔ wp (e ρ S) (fun d S' => ∃ ρ', gTp m t d ρ = some ρ' ∧ N ρ' S') (fun e S' => X e ρ S') := wps_asgT
theorem gTp5 {t : TgL} {a b c d e : D} {ρ : Rho} : gTp 5 t (.tup [a, b, c, d, e]) ρ = t [a, b, c, d, e] ρ := rfl
theorem gTp3 {t : TgL} {a b c : D} {ρ : Rho} : gTp 3 t (.tup [a, b, c]) ρ = t [a, b, c] ρ := rfl
/-- one of a list, whichever -/
theorem pick {L : List D} {v : Int} (h0 : 0 ≤ v) (h1 : v < (L.length : Int)) (P : D → Prop) (hP : ∀ r ∈ L, P r) (hF : ∀ r, P r → F r S) : wp (gIx (.lst L) (.int v) S) F E := by
  rw [gIx_lst]
  obtain ⟨d, hd, e⟩ := atI_mem h0 h1
  exact ⟨d, e, hF d (hP d hd)⟩
def Sh (m : Nat) (d : D) : Prop := ∃ p, toPy d = some p ∧ p.canLay0 = true ∧ p.depth ≤ m
theorem Sh.mono {m m' : Nat} {d : D} (h : Sh m d) (l : m ≤ m') : Sh m' d := by obtain ⟨p, a, b, c⟩ := h; exact ⟨p, a, b, by omega⟩
theorem sh_int {i : Int} {m : Nat} : Sh m (.int i) := ⟨_, rfl, rfl, Nat.zero_le _⟩
theorem sh_str {z : Str} {m : Nat} (h : PyData.strOk z = true) : Sh m (.str z) := ⟨_, rfl, h, Nat.zero_le _⟩
theorem sh_list {m : Nat} : ∀ {ds : List D}, (∀ d ∈ ds, Sh m d) → ∃ ps, toPys ds = some ps ∧ PyData.canLayAll0 ps = true ∧ PyData.depthAll ps ≤ m
  | [], _ => ⟨[], rfl, rfl, Nat.zero_le _⟩
  | d :: ds, h => by
    obtain ⟨p, a, b, c⟩ := h d List.mem_cons_self
    obtain ⟨ps, a', b', c'⟩ := sh_list (m := m) (ds := ds) fun d hd => h d (List.mem_cons_of_mem _ hd)
    refine ⟨p :: ps, by simp only [toPys, a, a'], by simp only [PyData.canLayAll0, b, b', Bool.and_self], ?_⟩
    simp only [PyData.depthAll]
    omega
theorem sh_tup {m : Nat} {ds : List D} (h : ∀ d ∈ ds, Sh m d) : Sh (m + 1) (.tup ds) := by
  obtain ⟨ps, a, b, c⟩ := sh_list h
  exact ⟨.tuple ps, by simp only [toPy, a, Option.map_some], by simp only [PyData.canLay0, b], by simp only [PyData.depth]; omega⟩
theorem Sh.okEq {m m' : Nat} {d e : D} {p q : PyData} (h1 : toPy d = some p) (h2 : toPy e = some q) (hd : Sh m d) (he : Sh m' e) (hm : min m m' ≤ 480) : DL.okEq p q = true := by
  obtain ⟨p', a, b, c⟩ := hd
  obtain ⟨q', a', b', c'⟩ := he
  rw [h1] at a; rw [h2] at a'
  cases a; cases a'
  unfold DL.okEq
  simp only [b, b', Bool.true_and, decide_eq_true_eq]
  omega
theorem gNe_nil {m : Nat} {ds : List D} (h : Sh m (.tup ds)) (hm : m ≤ 100000000 := by omega) : wp (gNe (.tup ds) (.tup []) S) F E ↔ F (.bl (!decide (ds = []))) S := by
  have e : eqD S (.tup ds) (.tup []) = some (decide (ds = [])) := by
    have h' := h
    obtain ⟨p, a, b, c⟩ := h
    have e1 : toPyS S (.tup ds) = some p := a
    have e2 : toPyS S (.tup []) = some (.tuple []) := rfl
    have s0 : Sh 1 (.tup []) := sh_tup fun d hd => (List.not_mem_nil hd).elim
    have s1 : DL.okEq p (.tuple []) = true := Sh.okEq a rfl h' s0 (by omega)
    unfold eqD
    simp only [e1, e2, s1, if_true]
    simp only [toPy, Option.map_eq_some_iff] at a
    obtain ⟨ps, a, rfl⟩ := a
    cases ds with
    | nil => cases a; rfl
    | cons x l =>
      cases ps with
      | nil =>
        exfalso
        unfold toPys at a
        split at a <;> simp_all
      | cons q qs => simp [PyData.eqv, PyData.eqvAll]
  unfold gNe
  rw [e]; exact Iff.rfl
theorem cut_take {ds : List D} {a : Nat} (h : a ≤ ds.length) : cutD ds none (some ((a : Nat) : Int)) = ds.take a := by
  unfold cutD
  rw [HT.sIx_nat, HT.sIx_none, Nat.min_eq_left h]; simp
theorem cut_drop {ds : List D} {a : Nat} (h : a ≤ ds.length) : cutD ds (some ((a : Nat) : Int)) none = ds.drop a := by
  unfold cutD
  rw [HT.sIx_nat, HT.sIx_none, Nat.min_eq_left h, List.take_of_length_le]; simp
theorem cut_zero {ds : List D} : cutD ds none (some 0) = [] := by
  rw [show (0 : Int) = ((0 : Nat) : Int) from rfl, cut_take (Nat.zero_le _)]; rfl
end
end DL

/-! DLS: stores with a deck: a list of cells at 0, the deck [cells, whole, count] at 1 -/
namespace DL
open PySem L2
section
variable {S R S1 : Sto} {F : D → Sto → Prop} {E : Exc → Sto → Prop}
/-- every stored thing names stored things alone -/
def OKS (S : Sto) : Prop := S.all (MO.lo S.length) = true
theorem OKS.take (h : OKS S) : (S.take S.length).all (MO.lo S.length) = true := by rw [List.take_length]; exact h
theorem WF.oks (h : WF S) : OKS S := by
  have := h.take S.length S.length
  rwa [List.take_length] at this
theorem fin_blO {b : Bool} (hw : OKS S) : wp (finD false S.length (.bl b) S) F E ↔ F (.bl b) S := by
  have e : finD false S.length (.bl b) S = .ok (.bl b) S := by
    unfold finD
    rw [if_neg (by decide), if_pos hw.take, if_pos (show (D.bl b).lo S.length = true from rfl), List.take_length]
  rw [e]; exact Iff.rfl
theorem fin_intO {b : Int} (hw : OKS S) : wp (finD false S.length (.int b) S) F E ↔ F (.int b) S := by
  have e : finD false S.length (.int b) S = .ok (.int b) S := by
    unfold finD
    rw [if_neg (by decide), if_pos hw.take, if_pos (show (D.int b).lo S.length = true from rfl), List.take_length]
  rw [e]; exact Iff.rfl
theorem tr.lo {d : D} (h : tr d) (n : Nat) : d.lo n = true := D.lo_mono (Nat.zero_le n) d h
theorem fin_trO {d : D} (hw : OKS S) (hd : tr d) : wp (finD false S.length d S) F E ↔ F d S := by
  have e : finD false S.length d S = .ok d S := by
    unfold finD
    rw [if_neg (by decide), if_pos hw.take, if_pos (hd.lo _), List.take_length]
  rw [e]; exact Iff.rfl
def Gd (R : Sto) : Prop := 2 ≤ R.length ∧ ∀ (i : Nat) (m : MO), 2 ≤ i → R[i]? = some m → m.lo 0 = true
structure DS (R S : Sto) : Prop where
  gd : Gd R
  at_ : ∃ (cells : List Int) (a b : Int), cells.length ≤ 100000 ∧ S = (R.set 0 (.lst (cells.map .int))).set 1 (.lst [.ref 0, .int a, .int b])
theorem DS.len (h : DS R S) : S.length = R.length := by
  obtain ⟨g, cells, a, b, hc, rfl⟩ := h
  simp
theorem DS.two (h : DS R S) : 2 ≤ S.length := by rw [h.len]; exact h.gd.1
theorem DS.get (h : DS R S) {i : Nat} (hi : 2 ≤ i) : S[i]? = R[i]? := by
  obtain ⟨g, cells, a, b, hc, rfl⟩ := h
  rw [List.getElem?_set_ne (by omega), List.getElem?_set_ne (by omega)]
theorem DS.lo (h : DS R S) {n : Nat} (hn : 2 ≤ n) : (S.take n).all (MO.lo n) = true := by
  rw [List.all_eq_true]
  intro m hm
  have hm := List.mem_of_mem_take hm
  obtain ⟨i, hi⟩ := List.mem_iff_getElem?.mp hm
  by_cases h2 : 2 ≤ i
  · rw [h.get h2] at hi
    exact MO.lo_mono (Nat.zero_le n) m (h.gd.2 i m h2 hi)
  · obtain ⟨g, cells, a, b, hc, rfl⟩ := h
    have g1 := g.1
    by_cases h0 : i = 0
    · subst h0
      rw [List.getElem?_set_ne (by omega), List.getElem?_set_self (by omega)] at hi
      cases hi
      have : D.los 0 (cells.map D.int) = true := los_map (fun _ => rfl) cells
      exact MO.lo_mono (Nat.zero_le n) (.lst (cells.map .int)) this
    · obtain rfl : i = 1 := by omega
      rw [List.getElem?_set_self (by simp; omega)] at hi
      cases hi
      simp [MO.lo, D.los, D.lo]; omega
theorem DS.oks (h : DS R S) : OKS S := by
  have := h.lo (n := S.length) h.two
  rwa [List.take_length] at this
theorem DS.fin {d : D} (h : DS R S) (h2 : 2 ≤ S1.length) (hd : tr d) (hF : F d (S.take S1.length)) : wp (finD false S1.length d S) F E :=
  wp_fin (h.lo h2) (hd.lo _) hF
theorem DS.fin_same {d : D} (h : DS R S) (hl : S.length = S1.length) (hd : tr d) (hF : F d S) : wp (finD false S1.length d S) F E := by
  refine h.fin (by rw [← hl]; exact h.two) hd ?_
  rw [← hl, List.take_length]; exact hF
theorem DS.cells (h : DS R S) : ∃ (cells : List Int) (a b : Int), cells.length ≤ 100000 ∧ atL S 0 = some (cells.map .int) ∧ atL S 1 = some [.ref 0, .int a, .int b] ∧
    (∀ cs : List Int, cs.length ≤ 100000 → DS R (S.set 0 (.lst (cs.map .int)))) ∧ (∀ a' b' : Int, DS R (S.set 1 (.lst [.ref 0, .int a', .int b']))) := by
  obtain ⟨g, cells, a, b, hc, rfl⟩ := h
  have g1 := g.1
  refine ⟨cells, a, b, hc, ?_, ?_, fun cs hcs => ⟨g, cs, a, b, hcs, ?_⟩, fun a' b' => ⟨g, cells, a', b', hc, ?_⟩⟩
  · unfold atL
    rw [List.getElem?_set_ne (by omega), List.getElem?_set_self (by omega)]
  · unfold atL
    rw [List.getElem?_set_self (by simp; omega)]
  · rw [List.set_comm _ _ (by omega), List.set_set]
  · rw [List.set_set]
theorem Gd.push {m : MO} (g : Gd R) (hm : m.lo 0 = true) : Gd (R ++ [m]) := by
  refine ⟨by simp; have := g.1; omega, fun i x hi hx => ?_⟩
  by_cases hl : i < R.length
  · rw [List.getElem?_append_left hl] at hx; exact g.2 i x hi hx
  · rw [List.getElem?_append_right (by omega)] at hx
    have hz : i - R.length = 0 := by
      have := (List.getElem?_eq_some_iff.mp hx).1
      simp at this; omega
    rw [hz] at hx; simp at hx; rw [← hx]; exact hm
theorem Gd.pop {m : MO} (g : Gd (R ++ [m])) (h2 : 2 ≤ R.length) : Gd R := by
  refine ⟨h2, fun i x hi hx => g.2 i x hi ?_⟩
  rw [List.getElem?_append_left (List.getElem?_eq_some_iff.mp hx).1]; exact hx
theorem Gd.set {m : MO} {k : Nat} (g : Gd R) (hm : m.lo 0 = true) : Gd (R.set k m) := by
  refine ⟨by simp; exact g.1, fun i x hi hx => ?_⟩
  by_cases hk : k = i
  · subst hk
    have hl := (List.getElem?_eq_some_iff.mp hx).1
    rw [List.getElem?_set_self (by simpa using hl)] at hx
    cases hx; exact hm
  · rw [List.getElem?_set_ne hk] at hx; exact g.2 i x hi hx
theorem DS.push {m : MO} (h : DS R S) (hm : m.lo 0 = true) : DS (R ++ [m]) (S ++ [m]) := by
  obtain ⟨g, cells, a, b, hc, rfl⟩ := h
  have g1 := g.1
  refine ⟨g.push hm, cells, a, b, hc, ?_⟩
  rw [List.set_append_left _ _ (by omega), List.set_append_left _ _ (by simp; omega)]
theorem DS.put {m : MO} {k : Nat} (h : DS R S) (hk : 2 ≤ k) (hm : m.lo 0 = true) : DS (R.set k m) (S.set k m) := by
  obtain ⟨g, cells, a, b, hc, rfl⟩ := h
  refine ⟨g.set hm, cells, a, b, hc, ?_⟩
  rw [List.set_comm _ _ (show k ≠ 0 by omega), List.set_comm _ _ (show (1 : Nat) ≠ k by omega)]
theorem DS.cut {G : Sto} (h : DS (R ++ G) S) (h2 : 2 ≤ R.length) : DS R (S.take R.length) := by
  obtain ⟨g, cells, a, b, hc, rfl⟩ := h
  refine ⟨⟨h2, fun i x hi hx => g.2 i x hi ?_⟩, cells, a, b, hc, ?_⟩
  · rw [List.getElem?_append_left (List.getElem?_eq_some_iff.mp hx).1]; exact hx
  · rw [List.set_append_left _ _ (by omega), List.set_append_left _ _ (by simp; omega), List.take_append_of_le_length (by simp), List.take_of_length_le (by simp)]
theorem DS.last {m : MO} {G : Sto} (h : DS (R ++ m :: G) S) (h2 : 2 ≤ R.length) : S[R.length]? = some m := by
  rw [h.get h2, List.getElem?_append_right (Nat.le_refl _)]; simp
theorem atL_of {n : Nat} {ds : List D} (h : S[n]? = some (.lst ds)) : atL S n = some ds := by unfold atL; rw [h]
theorem gSet_ref {n j : Nat} {ds : List D} {k : Int} {d : D} {FU : Unit → Sto → Prop} (h : atL S n = some ds) (hj : ixN ds.length k = some j) : wp (gSet (.ref n) (.int k) d S) FU E ↔ FU () (S.set n (.lst (ds.set j d))) := by
  unfold gSet
  simp only [h, hj]
  exact Iff.rfl
theorem wps_sub {ev eo ei : EvD} {ρ : Rho} {N B C : Rho → Sto → Prop} {T : D → Sto → Prop} {X : Exc → Rho → Sto → Prop} : wps (sSub ev eo ei ρ S) N T B C X ↔ wp (ev ρ S) (fun d S1 => wp (eo ρ S1) (fun o S2 => wp (ei ρ S2) (fun i S3 => wp (gSet o i d S3) (fun _ S4 => N ρ S4) (fun e S' => X e ρ S')) (fun e S' => X e ρ S')) (fun e S' => X e ρ S')) (fun e S' => X e ρ S') := by
  unfold sSub
  simp only [wps_lft]
  exact Iff.rfl
theorem gIx_ref {n : Nat} {ds : List D} {k : Int} (h : atL S n = some ds) : wp (gIx (.ref n) (.int k) S) F E ↔ ∃ d, atI ds k = some d ∧ F d S := gIx_seq h
/-- a comprehension that draws, by any standing property of the store -/
theorem comp_inv {all : List D} {i : Nat} {el : EvD} {ρ : Rho} {FF : List D → Sto → Prop} (J : Sto → Prop) (P : D → Prop) (h0 : J S)
    (hel : ∀ d ∈ all, ∀ S', J S' → wp (el (ρ.set i (some d)) S') (fun y S'' => P y ∧ J S'') nx) (h : ∀ ys S', ys.length = all.length → (∀ y ∈ ys, P y) → J S' → FF ys S') :
    wp (compM none all (gN i) bYes el ρ all S) FF nx := by
  refine wp_compM (fun k' ys S' => k' ≤ all.length → (ys.length = k' ∧ (∀ y ∈ ys, P y) ∧ J S')) (fun _ _ _ _ => trivial) (fun k' d ys S' hd hk => ?_) (fun ys S' hk => ?_) (fun _ => ⟨rfl, fun _ h => (List.not_mem_nil h).elim, h0⟩)
  · have hlt := (List.getElem?_eq_some_iff.mp hd).1
    obtain ⟨q1, q2, q3⟩ := hk (by omega)
    refine ⟨_, rfl, ?_⟩
    rw [wp_bYes, if_pos rfl]
    refine wp_mono (hel d (List.mem_of_getElem? hd) S' q3) (fun y S'' hy => ?_) (fun _ _ h => h)
    refine fun _ => ⟨by simp [q1], fun z hz => ?_, hy.2⟩
    rw [List.mem_append, List.mem_singleton] at hz
    rcases hz with hz | rfl
    · exact q2 z hz
    · exact hy.1
  · obtain ⟨q1, q2, q3⟩ := hk (Nat.le_refl _)
    exact h ys S' q1 q2 q3
end
end DL

/-! DLX: words for lists to be changed -/
namespace DL
open PySem L2
section
variable {S : Sto} {F : D → Sto → Prop} {E : Exc → Sto → Prop} {ρ : Rho}
theorem wp_compMut {it : EvI} {tgt : D → Rho → Option Rho} {test : EvB} {el : EvD} {vs : List Nat} : wp (eCompM it tgt test el vs ρ S) F E ↔
    wp (it ρ S) (fun p S' => p.2.length ≤ sizeLine ∧ wp (compM p.1 p.2 tgt test el (wipeR ρ vs) p.2 S') (fun ys S'' => F (.ref S''.length) (S'' ++ [.lst ys])) nx) E := by
  unfold eCompM
  rw [wp_bnd]
  constructor <;> intro h <;> refine wp_mono h (fun p S' h => ?_) (fun _ _ h => h)
  · unfold noEx at h
    by_cases hl : p.2.length ≤ sizeLine
    · refine ⟨hl, ?_⟩
      simp only [if_pos hl] at h
      cases hc : compM p.1 p.2 tgt test el (wipeR ρ vs) p.2 S' with
      | ok ys S'' => rw [hc] at h; exact h
      | ex e S'' => rw [hc] at h; exact h.elim
      | bad => rw [hc] at h; exact h.elim
    · simp only [if_neg hl] at h; exact h.elim
  · obtain ⟨hl, h⟩ := h
    unfold noEx
    simp only [if_pos hl]
    cases hc : compM p.1 p.2 tgt test el (wipeR ρ vs) p.2 S' with
    | ok ys S'' => rw [hc] at h; exact h
    | ex e S'' => rw [hc] at h; exact h.elim
    | bad => rw [hc] at h; exact h.elim
theorem wp_rev {a : EvD} {FI : Option Nat × List D → Sto → Prop} : wp (iRev a ρ S) FI E ↔ wp (a ρ S) (fun x S1 => wp (srcV x S1) FI E) E := wp_bnd
theorem srcV_tup {ds : List D} {FI : Option Nat × List D → Sto → Prop} : wp (srcV (.tup ds) S) FI E ↔ FI (none, ds.reverse) S := Iff.rfl
theorem eqv_nil {m : Nat} {n : Nat} {ds : List D} (h : atL S n = some ds) (hs : ∀ d ∈ ds, Sh m d) (_ : m ≤ 100000000 := by omega) : eqD S (.ref n) (.lst []) = some (decide (ds = [])) := by
  obtain ⟨ps, a, b, c⟩ := sh_list hs
  have e1 : toPyS S (.ref n) = some (.list ps) := by simp only [toPyS, h, a, Option.map_some]
  have e2 : toPyS S (.lst []) = some (.list []) := rfl
  have s1 : okEq (.list ps) (.list []) = true := by
    unfold okEq
    simp only [PyData.canLay0, b, PyData.canLayAll0, Bool.true_and]
    exact decide_eq_true (Nat.le_trans (Nat.min_le_right _ _) (by decide))
  unfold eqD
  simp only [e1, e2, s1, if_true]
  cases ds with
  | nil => cases a; rfl
  | cons x l =>
    cases ps with
    | nil =>
      exfalso
      unfold toPys at a
      split at a <;> simp_all
    | cons q qs => simp [PyData.eqv, PyData.eqvAll]
theorem gNe_refNil {m : Nat} {n : Nat} {ds : List D} (h : atL S n = some ds) (hs : ∀ d ∈ ds, Sh m d) (hm : m ≤ 100000000 := by omega) : wp (gNe (.ref n) (.lst []) S) F E ↔ F (.bl (!decide (ds = []))) S := by
  unfold gNe
  rw [eqv_nil h hs hm]; exact Iff.rfl
theorem gAddM_seq {x y : D} {a b : List D} (ha : iTrk S x = some a) (hb : iTrk S y = some b) : wp (gAddM x y S) F E ↔ a.length + b.length ≤ sizeLine ∧ F (.ref S.length) (S ++ [.lst (a ++ b)]) := by
  unfold gAddM
  simp only [ha, hb]
  by_cases h : a.length + b.length ≤ sizeLine
  · rw [if_pos h]; exact ⟨fun q => ⟨h, q⟩, fun q => q.2⟩
  · rw [if_neg h]; exact ⟨fun q => q.elim, fun q => absurd q.1 h⟩
theorem gStr_int {i : Int} : wp (gStr [.int i] S) F E ↔ i.natAbs.log2 < 1920 ∧ F (.str (toString i)) S := by
  unfold gStr
  by_cases h : i.natAbs.log2 < 1920
  · simp only [if_pos h]; exact ⟨fun q => ⟨h, q⟩, fun q => q.2⟩
  · simp only [if_neg h]; exact ⟨fun q => q.elim, fun q => absurd q.1 h⟩
end
end DL

/-! DLE: raise, try .. except. -/
namespace DL
open PySem L2 PyProof.Rows
abbrev veB : List Value := [.type "ValueError", .type "Exception", .type "BaseException", .type "object"]
/-- an own exception class without __init__ -/
structure ExAt (K : PySem.W.Frag) (mg : Str → Option Value) (x : Str) (C : Addr) : Prop where
  g : mg x = some (.ref C)
  x : PySem.W.excIn K C veB "ValueError.__new__" = true
  k : PySem.W.keepIn K (.ref C) = true
  b : PySem.W.subIn K (.ref C) (.type "BaseException") = some true
  t : PySem.W.typeIn K (.ref C) = some (.type "type")
/-- raise X(e) -/
def sRaise (cls : Str) (a : EvD) : EvS := fun ρ => lft ρ (a ρ) fun _ S => .ok (.xc ⟨cls, []⟩ ρ) S
/-- try: body, except ..: suite -/
def sTry (sub : Str → Option Bool) (body : EvS) (suite : Exc → EvS) : EvS := fun ρ S => match body ρ S with
  | .ok (.xc e ρ') S' => (match sub e.cls with
    | some true => (match suite e ρ' S' with
      | .ok (.xc _ _) _ => .bad
      | r => r)
    | some false => .ok (.xc e ρ') S'
    | none => .bad)
  | r => r
/-- .. except .. as n: slot i is n's, and forgotten behind the suite -/
def outSet (i : Nat) : Out → Out
  | .nx ρ => .nx (ρ.set i none)
  | .bk ρ => .bk (ρ.set i none)
  | .ct ρ => .ct (ρ.set i none)
  | o => o
def sTryAs (i : Nat) (sub : Str → Option Bool) (body : EvS) (suite : Exc → EvS) : EvS := sTry sub body fun e ρ S => if e.fs.isEmpty = true then (match suite e (ρ.set i none) S with
  | .ok o S' => .ok (outSet i o) S'
  | r => r) else .bad
section
variable {X : Cx} {W : WX} {pos pos' pos2 : Pos}
theorem s_raise {x : Str} {C : Addr} {e : Expr} {te : EvD} {p : Pos} (T : ExAt X.K X.mg x C) (hc : X.calm = true) (tk : Takes X W) (he : PE X e (tD X.K X.mg W te)) (hg : Gl X x := by rfl) (hs : starEach [e] X.env = (false, eval e X.env) :: starEach [] X.env := by rfl)
    (hdb : (x == ("__debug__" : Str)) = false := by decide) : PS X (.Raise (some (.Call (.Name x p) [e] [] pos)) none pos') (tS X.K X.mg W (sRaise x te)) := by
  refine PS.imp (ps_raise hc tk (SkE.pmk_own1 PySem.F.excBase_ValueError T.x T.g T.k (raises_own T.b T.t) hg he hs hdb)) fun E σ H ⟨ρ, S, μ, e, s, h⟩ => ?_
  refine ⟨ρ, S, μ, e, s, h.lft e s fun d S1 μ1 H1 s1 r1 e1 h1 v rv => ?_⟩
  exact h1.now r1 σ (.ref C) none e1 ⟨⟨C, T.g, rfl⟩, rfl⟩
theorem PostO.try_body {K : PySem.W.Frag} {mg : Str → Option Value} {E : Ends} {μ : Mu} {H : Hp} {body : EvS} {suite : Exc → EvS} {sub : Str → Option Bool} {ρ : Rho} {S : Sto} (h : PostO K mg W E μ H (sTry sub body suite ρ S)) {W' : WX}
    (f : ∀ e ρ' S' μ' H' σ c od, Rel K μ' S' H' → RE K μ' H' σ ρ' → RX K mg μ' H' e c od → PostO K mg W E μ' H' (match sub e.cls with
      | some true => (match suite e ρ' S' with
        | .ok (.xc _ _) _ => .bad
        | r => r)
      | some false => .ok (.xc e ρ') S'
      | none => .bad) → W' c od σ H') : PostO K mg W' E μ H (body ρ S) := by
  unfold sTry at h
  cases hb : body ρ S with
  | ok o S1 =>
    rw [hb] at h
    cases o with
    | xc e ρ' => exact fun μ' H' s r σ c od re rx => f e ρ' S1 μ' H' σ c od r re rx (h.mono s)
    | nx ρ' => exact h
    | rt d => exact h
    | bk ρ' => exact h
    | ct ρ' => exact h
  | ex e S1 => rw [hb] at h; exact h
  | bad => rw [hb] at h; exact h
/-- try: body / except x: suite, the exception without a name -/
theorem s_try {x : Str} {c : Value} {body suite : List Stmt} {b₀ : Stmt} {np : Pos} {tb : EvS} {ts : EvS} {sub : Str → Option Bool} (hs : X.stack = X.env :: X.outer) (hf : X.env.frame = some X.env.locals) (hc : Names X x c) (tk : Takes X W)
    (hsub : ∀ a b, sub a = some b → ∀ A, X.mg a = some (.ref A) → PySem.W.exmOne X.K (.ref A) c = some b)
    (hb : ∀ (W : WX) (pn : List (Addr × Obj)) (xe : Value → Shared → Prop), Takes (X.tr pn xe) W → PassesOwn (model X.prog X.w) X.A X.env xe → PSs (X.tr pn xe) body (tS X.K X.mg W tb))
    (hsu : ∀ (a : Addr) (oe : Obj) (pn : List (Addr × Obj)), PSs (X.suite a ((a, oe) :: pn)) (b₀ :: suite) (tS X.K X.mg W0 ts)) :
    PS X (.Try body [.ExceptHandler (some (.Name x np)) none (b₀ :: suite) pos'] [] [] pos) (tS X.K X.mg W (sTry sub tb fun _ => ts)) := by
  refine PS.imp (ps_try_only (tb := fun W => tS X.K X.mg W tb) (ts := fun _ _ _ => tS X.K X.mg W0 ts) hs hf hc tk hb fun a oe _ _ pn _ _ => hsu a oe pn) fun E σ H ⟨ρ, S, μ, e, s, h⟩ => ?_
  refine ⟨ρ, S, μ, e, s, h.try_body fun x ρ' S' μ' H' σ' c' od r re rx h' => ?_⟩
  obtain ⟨⟨A, gA, rfl⟩, _⟩ := id rx
  unfold wOnly
  split at h'
  · rename_i hx
    refine ⟨true, hsub _ _ hx A gA, fun _ a _ => ⟨ρ', S', μ', re, r, ?_⟩, fun z => Bool.noConfusion z⟩
    cases hq : ts ρ' S' with
    | ok o S2 =>
      rw [hq] at h'
      cases o with
      | xc e2 ρ2 => exact h'.elim
      | nx ρ2 => exact h'
      | rt d => exact h'
      | bk ρ2 => exact h'
      | ct ρ2 => exact h'
    | ex e2 S2 => rw [hq] at h'; exact h'.elim
    | bad => rw [hq] at h'; exact h'.elim
  · rename_i hx
    exact ⟨false, hsub _ _ hx A gA, fun z => Bool.noConfusion z, fun _ => h'.now r σ' _ od re rx⟩
  · exact h'.elim
theorem RE.unset {K : PySem.W.Frag} {μ : Mu} {H : Hp} {σ : L2.St} {ρ : Rho} (h : RE K μ H σ ρ) (i : Nat) (x : Option V) : RE K μ H (σ.set i x) (ρ.set i none) := by
  refine ⟨by simp [h.len], fun j e q => ?_⟩
  by_cases hij : i = j
  · subst hij
    by_cases hl : i < ρ.length
    · rw [List.getElem?_set_self hl] at q; cases q
    · rw [List.getElem?_eq_none (by simpa using hl)] at q; cases q
  · rw [List.getElem?_set_ne hij] at q ⊢
    exact h.val j e q
/-- what a suite's first statement may know: slot i holds the exception -/
def tSx (K : PySem.W.Frag) (mg : Str → Option Value) (i : Nat) (a : Addr) (G : EvS) : TS := fun E σ H => (i < σ.length → σ[i]? = some (some (.ref a))) ∧ tS K mg W0 G E σ H
theorem s_tryAs {x n : Str} {c : Value} {i : Nat} {body suite : List Stmt} {b₀ : Stmt} {np : Pos} {tb : EvS} {ts : Exc → EvS} {sub : Str → Option Bool} (hs : X.stack = X.env :: X.outer) (hf : X.env.frame = some X.env.locals) (hN : X.N.Nodup) (hi : X.N[i]? = some n) (hln : X.env.kindOf n = some .local) (hc : Names X x c) (tk : Takes X W)
    (hsub : ∀ a b, sub a = some b → ∀ A, X.mg a = some (.ref A) → PySem.W.exmOne X.K (.ref A) c = some b)
    (hb : ∀ (W : WX) (pn : List (Addr × Obj)) (xe : Value → Shared → Prop), Takes (X.tr pn xe) W → PassesOwn (model X.prog X.w) X.A X.env xe → PSs (X.tr pn xe) body (tS X.K X.mg W tb))
    (hsu : ∀ (a A : Addr) (oe : Obj) (e : Exc) (pn : List (Addr × Obj)), X.mg e.cls = some (.ref A) → Zc (.ref A) none oe → (∃ vs, oe.data = .fields vs) → PSs (X.suite a ((a, oe) :: pn)) (b₀ :: suite) (tSx X.K X.mg i a (ts e))) :
    PS X (.Try body [.ExceptHandler (some (.Name x np)) (some n) (b₀ :: suite) pos'] [] [] pos) (tS X.K X.mg W (sTryAs i sub tb ts)) := by
  refine PS.imp (ps_try_as (i := i) (tb := fun W => tS X.K X.mg W tb) (ts := fun a cls d E σ H => ∃ (e : Exc) (A : Addr), cls = .ref A ∧ d = none ∧ X.mg e.cls = some (.ref A) ∧ tSx X.K X.mg i a (ts e) E σ H) hs hf hN hi hln hc tk hb fun a oe cls d pn hz hv => ⟨fun pins s σ H E I q => ?_⟩) fun E σ H ⟨ρ, S, μ, e, s, h⟩ => ?_
  · obtain ⟨e, A, rfl, rfl, gA, q⟩ := q
    exact (hsu a A oe e pn gA hz hv).run pins s σ H E I q
  refine ⟨ρ, S, μ, e, s, h.try_body fun x ρ' S' μ' H' σ' c' od r re rx h' => ?_⟩
  obtain ⟨⟨A, gA, rfl⟩, hod⟩ := id rx
  unfold wAs
  split at h'
  · rename_i hx
    refine ⟨true, hsub _ _ hx A gA, fun _ a _ => ?_, fun z => Bool.noConfusion z⟩
    by_cases hfs : x.fs.isEmpty = true
    · simp only [hfs, if_true] at h'
      have hnil : x.fs = [] := by cases hq : x.fs with
        | nil => rfl
        | cons _ _ => rw [hq] at hfs; cases hfs
      have hod' : od = none := by
        cases od with
        | none => rfl
        | some d => exact absurd hnil hod.1
      refine ⟨x, A, rfl, hod', gA, fun hl => List.getElem?_set_self (by simpa using hl), ρ'.set i none, S', μ', re.unset i _, r, ?_⟩
      cases hq : ts x (ρ'.set i none) S' with
      | ok o S2 =>
        rw [hq] at h'
        cases o with
        | xc e2 ρ2 => exact h'.elim
        | nx ρ2 => exact fun μ2 H2 s2 r2 σ2 e2 => (h'.mono s2).now r2 _ (e2.unset i none)
        | rt d => exact h'
        | bk ρ2 => exact fun μ2 H2 s2 r2 σ2 e2 => (h'.mono s2).now r2 _ (e2.unset i none)
        | ct ρ2 => exact fun μ2 H2 s2 r2 σ2 e2 => (h'.mono s2).now r2 _ (e2.unset i none)
      | ex e2 S2 => rw [hq] at h'; exact h'.elim
      | bad => rw [hq] at h'; exact h'.elim
    · simp only [hfs, if_false] at h'; exact h'.elim
  · rename_i hx
    exact ⟨false, hsub _ _ hx A gA, fun z => Bool.noConfusion z, fun _ => h'.now r σ' _ od re rx⟩
  · exact h'.elim
/-- a class that an except clause or isinstance names -/
structure ClAt (K : PySem.W.Frag) (mg : Str → Option Value) (x : Str) (C : Addr) : Prop where
  g : mg x = some (.ref C)
  b : PySem.W.subIn K (.ref C) (.type "BaseException") = some true
  h : PySem.W.hasDictIn K C = true
  t : PySem.W.typeIn K (.ref C) = some (.type "type")
  s : PySem.W.subIn K (.ref C) (.ref C) = some true
theorem ClAt.kit {K : PySem.W.Frag} {mg : Str → Option Value} {x : Str} {C : Addr} (T : ClAt K mg x C) {t : Value} {b : Bool} (e : PySem.W.subIn K t (.ref C) = some b) : PySem.W.kitOne K t (.ref C) = some b := by
  unfold PySem.W.kitOne
  by_cases hq : (t == Value.ref C) = true
  · rw [if_pos hq]
    have : t = .ref C := beq_iff_eq.mp hq
    subst this
    exact T.s.symm.trans e
  · rw [if_neg hq]
    obtain ⟨cd, hc, _⟩ := PySem.W.any_some T.h
    have e2 : ((PySem.W.clsIn K C).isSome && PySem.W.typeIn K (.ref C) == some (.type "type")) = true := by rw [hc, T.t]; rfl
    show (if ((PySem.W.clsIn K C).isSome && PySem.W.typeIn K (.ref C) == some (.type "type")) = true then PySem.W.subIn K t (.ref C) else none) = some b
    rw [if_pos e2]; exact e
theorem ClAt.exm {K : PySem.W.Frag} {mg : Str → Option Value} {x : Str} {C : Addr} (T : ClAt K mg x C) {t : Value} {b : Bool} (e : PySem.W.subIn K t (.ref C) = some b) : PySem.W.exmOne K t (.ref C) = some b := PySem.W.exm_ref T.b T.h T.t e
/-- a table over the classes that may come -/
def tblSub {β : Type} (t : List (Str × β)) (a : Str) : Option β := (t.find? fun p => decide (p.1 = a)).map (·.2)
theorem tbl_hit {β : Type} {x : Str} {b : β} {r : List (Str × β)} : tblSub ((x, b) :: r) x = some b := by unfold tblSub; simp
theorem tbl_miss {β : Type} {x a : Str} {b : β} {r : List (Str × β)} (h : ¬ x = a) : tblSub ((x, b) :: r) a = tblSub r a := by unfold tblSub; simp [h]
def TblOk (K : PySem.W.Frag) (mg : Str → Option Value) (c : Value) : List (Str × Bool) → Prop
  | [] => True
  | p :: r => (∃ A, mg p.1 = some (.ref A) ∧ PySem.W.exmOne K (.ref A) c = some p.2) ∧ TblOk K mg c r
theorem tbl_ok {K : PySem.W.Frag} {mg : Str → Option Value} {c : Value} : ∀ {t : List (Str × Bool)}, TblOk K mg c t → ∀ a b, tblSub t a = some b → ∀ A, mg a = some (.ref A) → PySem.W.exmOne K (.ref A) c = some b
  | [], _, a, b, h, _, _ => by simp [tblSub] at h
  | (x, k) :: r, ⟨⟨A', h1, h2⟩, hr⟩, a, b, h, A, g => by
    by_cases e : x = a
    · subst e
      rw [tbl_hit] at h
      cases h
      have : A' = A := by
        have := h1.symm.trans g
        simpa using this
      rw [← this]; exact h2
    · rw [tbl_miss e] at h
      exact tbl_ok hr a b h A g
/-- isinstance(n, T), n the exception in slot i -/
def tIs (i : Nat) (a : Addr) (b : Bool) : TE := fun σ H Q => σ[i]? = some (some (.ref a)) ∧ Q (.bl b) H
section
variable {a A : Addr} {oe : Obj} {pn : List (Addr × Obj)} {i : Nat} {n tn : Str} {p1 p2 p3 : Pos}
theorem pe_isE {v : V} {cv : Value} {b : Bool} (C : ExcC X.K A) (hz : Zc (.ref A) none oe) (hf : ∃ vs, oe.data = .fields vs) (hg : Gl X "isinstance") (hm : X.mg "isinstance" = none) (hT : PE (X.suite a ((a, oe) :: pn)) (.Name tn p3) (tC v)) (hv : ∀ u, RelV v u → u = cv) (hk : PySem.W.kitOne X.K (.ref A) cv = some b)
    (hN : X.N[i]? = some n := by rfl) (hvis : Vis X.env.scope n := by first | exact Or.inl rfl | exact Or.inr (Or.inl rfl) | exact Or.inr (Or.inr rfl)) (hd : (n == ("__debug__" : Str)) = false := by decide) (hcd : (n == ("__classdict__" : Str)) = false := by decide)
    (hs : starEach [.Name n p2, .Name tn p3] X.env = (false, eval (.Name n p2) X.env) :: starEach [.Name tn p3] X.env := by rfl) (hs2 : starEach [.Name tn p3] X.env = (false, eval (.Name tn p3) X.env) :: starEach [] X.env := by rfl) :
    PE (X.suite a ((a, oe) :: pn)) (.Call (.Name "isinstance" p1) [.Name n p2, .Name tn p3] [] pos) (tIs i a b) := by
  refine PE.imp (pe_callB (call_isE C hz hf) hg hm (by decide +kernel) (pa_cons (pe_var (X := X.suite a ((a, oe) :: pn)) hN hvis hd hcd) (pa_cons hT pa_nil hs2) hs) (by decide) (by decide) hs) fun σ H Q ⟨h1, h2⟩ => ?_
  exact ⟨_, h1, v, cv, b, rfl, hv, hk, h2⟩
/-- a display of such -/
def IsL (X : Cx) (i : Nat) (a : Addr) (es : List Expr) (bs : List Bool) : Prop := ∃ t, PA X es t ∧ ∀ σ H (Q : List V → Hp → Prop), σ[i]? = some (some (.ref a)) → Q (bs.map V.bl) H → t σ H Q
theorem isl_nil {Y : Cx} : IsL Y i a [] [] := ⟨_, pa_nil, fun _ _ _ _ q => q⟩
theorem isl_cons {Y : Cx} {e : Expr} {es : List Expr} {b : Bool} {bs : List Bool} (h : PE Y e (tIs i a b)) (hr : IsL Y i a es bs) (hs : starEach (e :: es) Y.env = (false, eval e Y.env) :: starEach es Y.env := by rfl) : IsL Y i a (e :: es) (b :: bs) := by
  obtain ⟨t, h1, h2⟩ := hr
  exact ⟨_, pa_cons h h1 hs, fun σ H Q hi q => ⟨hi, h2 σ H _ hi q⟩⟩
/-- y = [isinstance(n, A), ..] in a suite -/
theorem s_isList {j : Nat} {y : Str} {py lp ap : Pos} {es : List Expr} {bs : List Bool} (hN : X.N.Nodup) (hl : IsL (X.suite a ((a, oe) :: pn)) i a es bs) (hb : bs.length ≤ 100) (hi : X.N[i]? = some n) (hj : X.N[j]? = some y) (hx : Loc X.env.scope y) (hf : X.fn y = true ∨ X.env.scope.names.lookup y = some .local)
    (hs : swapsWithSole [.Name y py] (.List es lp) ap.line X.env = pure false := by rfl) (hw : swappedStores [.Name y py] (.List es lp) X.env = pure none := by rfl)
    (h1 : (assignEach [.Name y py] X.env).map (·.2) = [assign (.Name y py) X.env] := by rfl) :
    PSs (X.suite a ((a, oe) :: pn)) [.Assign [.Name y py] (.List es lp) ap] (tSx X.K X.mg i a (sAsg (gN j) (eC (.lst (bs.map D.bl))))) := by
  obtain ⟨t, h2, h3⟩ := hl
  suffices hh : PSs (X.suite a ((a, oe) :: pn)) [.Assign [.Name y py] (.List es lp) ap] (fun E σ H => σ[i]? = some (some (.ref a)) ∧ tS X.K X.mg W0 (sAsg (gN j) (eC (.lst (bs.map D.bl)))) E σ H) from
    ⟨fun pins s σ H E I q => hh.run pins s σ H E I ⟨q.1 (by have e1 : σ.length = X.N.length := I.len; have := (List.getElem?_eq_some_iff.mp hi).1; omega), q.2⟩⟩
  refine pss_one (PS.imp (ps_asg (X := X.suite a ((a, oe) :: pn)) (pe_lst h2) (pg_name (X := X.suite a ((a, oe) :: pn)) hN hj hx hf) hs hw h1) fun E σ H ⟨q, ρ, S, μ, e, s, h⟩ => ?_)
  refine h3 σ H _ q ⟨by rw [List.length_map]; exact small_line (by omega), fun p hp => ?_⟩
  have rds : ∀ l : List Bool, RDs X.K μ H (l.map D.bl) (l.map V.bl) := fun l => by
    induction l with
    | nil => exact .nil
    | cons b l ih => exact .cons (.bl b) ih
  have := h μ (upd H p (.lst (bs.map V.bl))) (Stp.new hp) (s.new hp)
  exact this _ ((e.step s (Stp.new hp)).set (.lst upd_same ⟨fun z => s.there z hp, fun z => s.hid _ z hp⟩ ((rds bs).step s (Stp.new hp))) j)
end
end
end DL

/-! DLD: dicts with keys that are ints or texts. -/
namespace DL
open PySem L2 PyProof.Rows
def getK {β : Type} (kvs : List (Key × β)) (k : Key) : Option β := (kvs.find? fun kv => decide (kv.1 = k)).map (·.2)
def setK {β : Type} (kvs : List (Key × β)) (k : Key) (v : β) : List (Key × β) :=
  if (kvs.any fun kv => decide (kv.1 = k)) = true then kvs.map (fun kv => if kv.1 = k then (kv.1, v) else kv) else kvs ++ [(k, v)]
def keyD : D → Option Key
  | .int i => some (.inl i)
  | .str x => some (.inr x)
  | _ => none
def ofKey : Key → D
  | .inl i => .int i
  | .inr x => .str x
def atD (S : Sto) (d : D) : Option (List (Key × D)) := match d with
  | .ref n => match S[n]? with
    | some (.dct kvs) => some kvs
    | _ => none
  | _ => none
section
variable {K : PySem.W.Frag} {μ μ' : Mu} {S : Sto} {H H' : Hp}
theorem keyD_ok {d : D} {k : Key} {v : V} (e : keyD d = some k) (h : RD K μ H d v) : v = kV k := by
  cases h <;> first | (cases e; rfl) | cases e
theorem ofKey_rd (k : Key) : RD K μ H (ofKey k) (kV k) := by
  cases k with
  | inl i => exact .int i
  | inr x => exact .str x
theorem atD_ok {d : D} {kvs : List (Key × D)} {v : V} (e : atD S d = some kvs) (r : Rel K μ S H) (h : RD K μ H d v) : ∃ n a ws, d = .ref n ∧ v = .ref a ∧ μ.v[n]? = some a ∧ S[n]? = some (.dct kvs) ∧ H a = some (.dK ws) ∧ RKs K μ H kvs ws := by
  cases h with
  | @ref n a h1 =>
    unfold atD at e
    simp only at e
    split at e
    · rename_i ks hs
      cases e
      obtain ⟨ws, q, z⟩ := r.obj n a _ h1 hs
      exact ⟨n, a, ws, rfl, rfl, h1, hs, q, z⟩
    · cases e
  | _ => cases e
theorem RKs.get : ∀ {kvs : List (Key × D)} {ws : List (Key × V)} (k : Key), RKs K μ H kvs ws → (getK kvs k = none ∧ valV ws k = none) ∨ ∃ d v, getK kvs k = some d ∧ valV ws k = some v ∧ RD K μ H d v
  | [], _, k, h => by cases h; exact .inl ⟨rfl, rfl⟩
  | (k0, d) :: kvs, _, k, h => by
    cases h with
    | @cons _ q _ ws h1 h2 =>
      obtain ⟨k1, w⟩ := q
      obtain ⟨e, rd⟩ := h1
      have e' : k0 = k1 := e
      subst e'
      by_cases hk : k0 = k
      · right
        exact ⟨d, w, by simp [getK, hk], by simp [valV, hk], rd⟩
      · have r1 : getK ((k0, d) :: kvs) k = getK kvs k := by simp [getK, hk]
        have r2 : valV ((k0, w) :: ws) k = valV ws k := by simp [valV, hk]
        rw [r1, r2]
        exact RKs.get k h2
theorem RKs.len : ∀ {kvs : List (Key × D)} {ws : List (Key × V)}, RKs K μ H kvs ws → kvs.length = ws.length
  | [], _, h => by cases h; rfl
  | _ :: _, _, h => by cases h with | cons h1 h2 => simp [RKs.len h2]
theorem RKs.any : ∀ {kvs : List (Key × D)} {ws : List (Key × V)} (k : Key), RKs K μ H kvs ws → (kvs.any fun kv => decide (kv.1 = k)) = ws.any fun kv => decide (kv.1 = k)
  | [], _, k, h => by cases h; rfl
  | (k0, d) :: kvs, _, k, h => by
    cases h with
    | cons h1 h2 =>
      have e : k0 = _ := h1.1
      simp only [List.any_cons, RKs.any k h2, e]
theorem RKs.app : ∀ {kvs k2 : List (Key × D)} {ws w2 : List (Key × V)}, RKs K μ H kvs ws → RKs K μ H k2 w2 → RKs K μ H (kvs ++ k2) (ws ++ w2)
  | [], _, _, _, h, g => by cases h; exact g
  | _ :: _, _, _, _, h, g => by cases h with | cons h1 h2 => exact .cons h1 (RKs.app h2 g)
theorem RKs.over : ∀ {kvs : List (Key × D)} {ws : List (Key × V)} (k : Key) {d : D} {v : V}, RKs K μ H kvs ws → RD K μ H d v → RKs K μ H (kvs.map fun kv => if kv.1 = k then (kv.1, d) else kv) (ws.map fun kv => if kv.1 = k then (kv.1, v) else kv)
  | [], _, k, _, _, h, _ => by cases h; exact .nil
  | (k0, d0) :: kvs, _, k, d, v, h, rd => by
    cases h with
    | @cons _ q _ ws h1 h2 =>
      obtain ⟨k1, w⟩ := q
      have e : k0 = k1 := h1.1
      subst e
      simp only [List.map_cons]
      refine .cons ?_ (RKs.over k h2 rd)
      by_cases hk : k0 = k
      · simp only [hk, if_true]; exact ⟨trivial, rd⟩
      · simp only [hk, if_false]; exact ⟨trivial, h1.2⟩
theorem RKs.set {kvs : List (Key × D)} {ws : List (Key × V)} (k : Key) {d : D} {v : V} (h : RKs K μ H kvs ws) (rd : RD K μ H d v) : RKs K μ H (setK kvs k d) (putK ws k v) := by
  unfold setK putK
  rw [RKs.any k h]
  split
  · exact RKs.over k h rd
  · exact RKs.app h (.cons ⟨rfl, rd⟩ .nil)
theorem RKs.keys : ∀ {kvs : List (Key × D)} {ws : List (Key × V)}, RKs K μ H kvs ws → RDs K μ H (kvs.map fun kv => ofKey kv.1) (ws.map fun kv => kV kv.1)
  | [], _, h => by cases h; exact .nil
  | (k0, d) :: kvs, _, h => by
    cases h with
    | @cons _ q _ ws h1 h2 =>
      have e : k0 = q.1 := h1.1
      simp only [List.map_cons, ← e]
      exact .cons (ofKey_rd k0) (RKs.keys h2)
end
def gDGet (x y : D) : M D := fun S => match atD S x, keyD y with
  | some kvs, some k => (match getK kvs k with
    | some v => .ok v S
    | none => .bad)
  | _, _ => .bad
def gDIn (neg : Bool) (y x : D) : M D := fun S => match atD S x, keyD y with
  | some kvs, some k => .ok (.bl (if neg = true then !(getK kvs k).isSome else (getK kvs k).isSome)) S
  | _, _ => .bad
def gDDef (x y z : D) : M D := fun S => match atD S x, keyD y with
  | some kvs, some k => .ok ((getK kvs k).getD z) S
  | _, _ => .bad
def eDGet (a b : EvD) : EvD := eBin gDGet a b
def eDNew : EvD := fun _ S => .ok (.ref S.length) (S ++ [.dct []])
/-- d.get(k, z) -/
def eDDef (a b c : EvD) : EvD := fun ρ => bnd (a ρ) fun x S1 => match atD S1 x with
  | some _ => bnd (b ρ) (fun y => bnd (c ρ) fun z => gDDef x y z) S1
  | none => .bad
def gDPut (v x y : D) : M Unit := fun S => match x, keyD y with
  | .ref n, some k => (match S[n]? with
    | some (.dct kvs) => if kvs.length < 16777216 then .ok () (S.set n (.dct (setK kvs k v))) else .bad
    | _ => .bad)
  | _, _ => .bad
def sDPutD (F Fo Fi : EvD) : EvS := fun ρ => lft ρ (F ρ) fun d => lft ρ (Fo ρ) fun o => lft ρ (Fi ρ) fun i => lft ρ (gDPut d o i) fun _ => ret (.nx ρ)
/-- list(d) -/
def gListK (xs : List D) : M D := fun S => match xs with
  | [d] => (match atD S d with
    | some kvs => .ok (.lst (kvs.map fun kv => ofKey kv.1)) S
    | none => .bad)
  | _ => .bad
section
variable {X : Cx} {W : WX} {pos pos' : Pos}
theorem DGet.of {K : PySem.W.Frag} {μ : Mu} {S : Sto} {H : Hp} {x y : D} {kvs : List (Key × D)} {k : Key} {v w : V} (e : atD S x = some kvs) (ek : keyD y = some k) (r : Rel K μ S H) (hx : RD K μ H x v) (hy : RD K μ H y w) :
    ∃ a ws, v = .ref a ∧ DGet H a w (valV ws k) ∧ RKs K μ H kvs ws := by
  obtain ⟨n, a, ws, rfl, rfl, _, _, q, z⟩ := atD_ok e r hx
  have := keyD_ok ek hy
  subst this
  exact ⟨a, ws, rfl, L2.DGet.k q, z⟩
theorem d_dget {o i : Expr} {to ti : EvD} (hu : X.A.units + 500 < cLine) (ho : PE X o (tD X.K X.mg W to)) (hi : PE X i (tD X.K X.mg W ti)) (hs : NoSl i := by exact fun _ _ => rfl) : PE X (.Subscript o i pos) (tD X.K X.mg W (eDGet to ti)) := by
  refine PE.imp (pe_dget (by omega) ho hi hs) fun σ H Q ⟨ρ, S, μ, e, s, h⟩ => ?_
  refine ⟨ρ, S, μ, e, s, h.bnd fun x S1 μ1 H1 s1 r1 h1 v rv => ?_⟩
  refine ⟨ρ, S1, μ1, e.step s s1, r1, h1.bnd fun y S2 μ2 H2 s2 r2 h2 w rw => ?_⟩
  unfold gDGet at h2
  split at h2
  · rename_i kvs k ea ek
    obtain ⟨a, ws, rfl, g, z⟩ := DGet.of ea ek r2 (rv.step r1 s2) rw
    rcases z.get k with ⟨g1, g2⟩ | ⟨d, u, g1, g2, rd⟩
    · rw [g1] at h2; exact h2.elim
    · rw [g1] at h2
      rw [g2] at g
      exact ⟨a, u, rfl, g, h2.now r2 _ rd⟩
  · exact h2.elim
theorem d_din {o i : Expr} {to ti : EvD} (hu : X.A.units + 500 < cLine) (hi : PE X i (tD X.K X.mg W ti)) (ho : PE X o (tD X.K X.mg W to)) (hm : behindInMarks .In o = false) : PE X (.Compare i [.In] [o] pos) (tD X.K X.mg W (eBin (gDIn false) ti to)) := by
  refine PE.imp (pe_cmp (pc_din (by omega) hi ho) hm) fun σ H Q ⟨ρ, S, μ, e, s, h⟩ => ?_
  refine ⟨ρ, S, μ, e, s, h.bnd fun y S1 μ1 H1 s1 r1 h1 w rw => ?_⟩
  refine ⟨ρ, S1, μ1, e.step s s1, r1, h1.bnd fun x S2 μ2 H2 s2 r2 h2 v rv => ?_⟩
  unfold gDIn at h2
  split at h2
  · rename_i kvs k ea ek
    obtain ⟨a, ws, rfl, g, z⟩ := DGet.of ea ek r2 rv (rw.step r1 s2)
    refine ⟨a, _, rfl, g, ?_⟩
    have : (getK kvs k).isSome = (valV ws k).isSome := by
      rcases z.get k with ⟨g1, g2⟩ | ⟨d, u, g1, g2, rd⟩ <;> rw [g1, g2] <;> rfl
    rw [if_neg Bool.false_ne_true, this] at h2
    exact h2.now r2 _ (.bl _)
  · exact h2.elim
theorem d_dnotin {o i : Expr} {to ti : EvD} (hu : X.A.units + 500 < cLine) (hi : PE X i (tD X.K X.mg W ti)) (ho : PE X o (tD X.K X.mg W to)) (hm : behindInMarks .NotIn o = false) : PE X (.Compare i [.NotIn] [o] pos) (tD X.K X.mg W (eBin (gDIn true) ti to)) := by
  refine PE.imp (pe_cmp (pc_dnotin (by omega) hi ho) hm) fun σ H Q ⟨ρ, S, μ, e, s, h⟩ => ?_
  refine ⟨ρ, S, μ, e, s, h.bnd fun y S1 μ1 H1 s1 r1 h1 w rw => ?_⟩
  refine ⟨ρ, S1, μ1, e.step s s1, r1, h1.bnd fun x S2 μ2 H2 s2 r2 h2 v rv => ?_⟩
  unfold gDIn at h2
  split at h2
  · rename_i kvs k ea ek
    obtain ⟨a, ws, rfl, g, z⟩ := DGet.of ea ek r2 rv (rw.step r1 s2)
    refine ⟨a, _, rfl, g, ?_⟩
    have : (getK kvs k).isSome = (valV ws k).isSome := by
      rcases z.get k with ⟨g1, g2⟩ | ⟨d, u, g1, g2, rd⟩ <;> rw [g1, g2] <;> rfl
    rw [if_pos rfl, this] at h2
    exact h2.now r2 _ (.bl _)
  · exact h2.elim
theorem d_dnew : PE X (.Dict [] [] pos) (tD X.K X.mg W eDNew) := by
  refine PE.imp pe_dnewK fun σ H Q ⟨ρ, S, μ, e, s, h⟩ => ?_
  exact fun p hp => h (μ.push p) _ (Stp.alloc hp) (s.alloc hp ⟨[], upd_same, .nil⟩) _ (new_ref s)
theorem d_ddef {o e f : Expr} {to te tf : EvD} {apos cpos : Pos} (hu : X.A.units + 500 < cLine) (ho : PE X o (tD X.K X.mg W to)) (he : PE X e (tD X.K X.mg W te)) (hf : PE X f (tD X.K X.mg W tf)) (m : M2 X o "get" apos e f cpos) : PE X (.Call (.Attribute o "get" apos) [e, f] [] cpos) (tD X.K X.mg W (eDDef to te tf)) := by
  refine PE.imp (pe_dget2 (by omega) ho he hf m) fun σ H Q ⟨ρ, S, μ, e, s, h⟩ => ?_
  refine ⟨ρ, S, μ, e, s, h.bnd fun x S1 μ1 H1 s1 r1 h1 v rv => ?_⟩
  split at h1
  · rename_i kv0 ea0
    obtain ⟨n, a, ws0, rfl, rfl, hn, hS0, q0, z0⟩ := atD_ok ea0 r1 rv
    refine ⟨a, rfl, .inl ⟨ws0, .inl q0⟩, ρ, S1, μ1, e.step s s1, r1, h1.bnd fun y S2 μ2 H2 s2 r2 h2 w rw => ?_⟩
    refine ⟨ρ, S2, μ2, (e.step s s1).step r1 s2, r2, h2.bnd fun z S3 μ3 H3 s3 r3 h3 u ru => ?_⟩
    unfold gDDef at h3
    split at h3
    · rename_i kvs k ea ek
      obtain ⟨a', ws, ea', g, zz⟩ := DGet.of ea ek r3 ((rv.step r1 s2).step r2 s3) (rw.step r2 s3)
      cases ea'
      refine ⟨_, g, ?_⟩
      rcases zz.get k with ⟨g1, g2⟩ | ⟨d, u', g1, g2, rd⟩
      · rw [g1] at h3; rw [g2]; exact h3.now r3 _ ru
      · rw [g1] at h3; rw [g2]; exact h3.now r3 _ rd
    · exact h3.elim
  · exact h1.elim
theorem s_dput {o i e : Expr} {F Fo Fi : EvD} {p2 : Pos} (hu : X.A.units + 500 < cLine) (he : PE X e (tD X.K X.mg W F)) (ho : PE X o (tD X.K X.mg W Fo)) (hi : PE X i (tD X.K X.mg W Fi)) (hs : swapsWith e (some (.Subscript o i p2)) pos.line X.env = pure false := by rfl) :
    PS X (.Assign [.Subscript o i p2] e pos) (tS X.K X.mg W (sDPutD F Fo Fi)) := by
  refine PS.imp (ps_dput (by omega) ho hi he hs) fun E σ H ⟨ρ, S, μ, e, s, h⟩ => ?_
  refine ⟨ρ, S, μ, e, s, h.lft e s fun d S1 μ1 H1 s1 r1 e1 h1 v rv => ?_⟩
  refine ⟨ρ, S1, μ1, e1, r1, h1.lft e1 r1 fun ov S2 μ2 H2 s2 r2 e2 h2 w rw => ?_⟩
  refine ⟨ρ, S2, μ2, e2, r2, h2.lft e2 r2 fun iv S3 μ3 H3 s3 r3 e3 h3 u ru => ?_⟩
  have rv3 := (rv.step r1 s2).step r2 s3
  have rw3 := rw.step r2 s3
  unfold lft gDPut at h3
  split at h3
  · rename_i a S4 heq
    split at heq
    · rename_i n k ek
      split at heq
      · rename_i kvs eS
        split at heq
        · rename_i hl
          cases heq
          obtain ⟨n', a, ws, en, rfl, hn, hS, q, z⟩ := atD_ok (d := .ref n) (kvs := kvs) (by unfold atD; simp only [eS]) r3 rw3
          cases en
          have := keyD_ok ek ru
          subst this
          have hm : a ∈ μ3.v := List.mem_of_getElem? hn
          have zk := (RKs.step z r3 (Stp.put (o := .dK (putK ws k v)) hm)).set k (rv3.step r3 (Stp.put hm))
          refine ⟨a, _, rfl, DPut.k q (by rw [← z.len, sizeLine_eq]; exact hl), ?_⟩
          exact h3 μ3 _ (Stp.put hm) (r3.put hn ⟨_, upd_same, zk⟩) σ (e3.step r3 (Stp.put hm))
        · cases heq
      · cases heq
    · cases heq
  · rename_i x S4 heq
    split at heq
    · split at heq
      · split at heq <;> cases heq
      · cases heq
    · cases heq
  · exact h3.elim
theorem c_listK (hc : X.calm = true) : CRD X W (.type "list") gListK := by
  refine ⟨_, call_listD hc, fun ds vs μ S σ H Q r rds h => ?_⟩
  unfold gListK at h
  split at h
  · cases rds with
    | cons h1 h2 =>
      cases h2
      split at h
      · rename_i kvs e
        obtain ⟨n, a, ws, rfl, rfl, _, _, q, z⟩ := atD_ok e r h1
        exact ⟨a, ws, rfl, .inl q, fun p hp => h μ _ (Stp.new hp) (r.new hp) _ (.lst upd_same ⟨fun z => r.there z hp, fun z => r.hid _ z hp⟩ (z.keys.step r (Stp.new hp)))⟩
      · exact h.elim
  · exact h.elim
end
/-! ### displays -/
section
variable {K : PySem.W.Frag} {μ : Mu} {S : Sto} {H : Hp}
mutual
/-- a dict in the making comes into the store -/
theorem RD.revealD {p : Addr} {o : HO} {kv : List (Key × V)} (hp : H p = some (.dK kv)) : ∀ (d : D) (v : V), RD K (μ.hide p) H d v → RD K (μ.push p) (upd H p o) d v
  | .non, _, h => by cases h; exact .non
  | .bl _, _, h => by cases h; exact .bl _
  | .int _, _, h => by cases h; exact .int _
  | .str _, _, h => by cases h; exact .str _
  | .fn _, _, h => by cases h with | fn q => exact .fn q
  | .tup ds, _, h => by
    cases h with
    | tup h1 h2 =>
      refine .tup ?_ (RDs.revealD hp ds _ h2)
      rcases h1 with (h1 | ⟨o, h1⟩) | h1
      · exact .inl (.inl (by rw [upd_ne (ne_of h1 hp (fun z => nomatch z))]; exact h1))
      · exact .inl (.inr ⟨o, by rw [upd_ne (ne_of h1 hp (fun z => nomatch z))]; exact h1⟩)
      · exact .inr h1
  | .fl ds, _, h => by
    cases h with
    | fl h1 h2 =>
      refine .fl ?_ (RDs.revealD hp ds _ h2)
      rcases h1 with ⟨o, h1⟩ | h1
      · exact .inl ⟨o, by rw [upd_ne (ne_of h1 hp (fun z => nomatch z))]; exact h1⟩
      · exact .inr h1
  | .lst ds, _, h => by
    cases h with
    | @lst a vs _ h1 h0 h2 =>
      have ne : a ≠ p := fun z => h0.2 (by rw [z]; exact List.mem_cons_self)
      refine .lst (by rw [upd_ne ne]; exact h1) ⟨fun z => ?_, fun z => h0.2 (List.mem_cons_of_mem _ z)⟩ (RDs.revealD hp ds _ h2)
      rcases List.mem_append.mp (show a ∈ μ.v ++ [p] from z) with q | q
      · exact h0.1 q
      · exact ne (by simpa using q)
  | .ref n, _, h => by
    cases h with
    | ref h1 => exact .ref (by
        have h1' : μ.v[n]? = some _ := h1
        show (μ.v ++ [p])[n]? = _
        rw [List.getElem?_append_left (List.getElem?_eq_some_iff.mp h1').1]; exact h1')
theorem RDs.revealD {p : Addr} {o : HO} {kv : List (Key × V)} (hp : H p = some (.dK kv)) : ∀ (ds : List D) (vs : List V), RDs K (μ.hide p) H ds vs → RDs K (μ.push p) (upd H p o) ds vs
  | [], _, h => by cases h; exact .nil
  | d :: ds, _, h => by
    cases h with
    | cons h1 h2 => exact .cons (RD.revealD hp d _ h1) (RDs.revealD hp ds _ h2)
end
theorem Rel.revealD {p : Addr} {o : HO} {kv : List (Key × V)} {m : MO} (r : Rel K (μ.hide p) S H) (hx : p ∉ μ.x) (hp : H p = some (.dK kv)) (hm : RM K (μ.push p) (upd H p o) p m) : Rel K (μ.push p) (S ++ [m]) (upd H p o) := by
  have hpv : p ∉ μ.v := fun z => r.apt p z List.mem_cons_self
  refine ⟨by have := r.len; simp only [Mu.push, List.length_append, List.length_singleton]; exact congrArg (· + 1) this, ?_, fun i a n h1 h2 => ?_, fun a ha => ?_, fun a ha hz => ?_⟩
  · show (μ.v ++ [p]).Nodup
    rw [List.nodup_append]
    refine ⟨r.nd, by simp, fun a ha b hb => ?_⟩
    simp at hb; subst hb
    exact fun z => hpv (by rw [← z]; exact ha)
  · have h1' : (μ.v ++ [p])[i]? = some a := h1
    have hlen : μ.v.length = S.length := r.len
    by_cases hi : i < μ.v.length
    · rw [List.getElem?_append_left hi] at h1'
      rw [List.getElem?_append_left (by omega)] at h2
      exact (r.obj i a n h1' h2).map (upd_ne fun z => hpv (by rw [← z]; exact List.mem_of_getElem? h1')) (RD.revealD hp) (RDs.revealD hp)
    · have hi' : i = μ.v.length := by
        have := (List.getElem?_eq_some_iff.mp h1').1
        simp at this; omega
      subst hi'
      rw [List.getElem?_append_right (Nat.le_refl _)] at h1'
      rw [hlen, List.getElem?_append_right (Nat.le_refl _)] at h2
      simp at h1' h2
      subst h1' h2
      exact hm
  · by_cases z : a = p
    · rw [z, upd_same]; simp
    · rw [upd_ne z]; exact r.hid a (List.mem_cons_of_mem _ ha)
  · rcases List.mem_append.mp (show a ∈ μ.v ++ [p] from ha) with q | q
    · exact r.apt a q (List.mem_cons_of_mem _ hz)
    · have : a = p := by simpa using q
      subst this
      exact hx hz
end
/-- {k: e, ..}, the keys written texts -/
def eDct (ks : List Str) (as : EvL) : EvD := fun ρ => bnd (as ρ) fun ds S => if ds.length = ks.length then .ok (.ref S.length) (S ++ [.dct ((ks.map Sum.inr).zip ds)]) else .bad
structure DPs (X : Cx) (W : WX) (pos : Pos) (ks : List (Option Expr)) (vs : List Expr) (trs : List (TE × TE)) (xs : List Str) (F : EvL) : Prop where
  pp : PPs X pos ks vs trs
  len : vs.length = xs.length
  go : ∀ σ H (Q : List (V × V) → Hp → Prop), (∃ ρ S μ, RE X.K μ H σ ρ ∧ Rel X.K μ S H ∧ Post X.K X.mg W μ σ H (F ρ S) (fun ds μ' H' => ∀ ws, RDs X.K μ' H' ds ws → ds.length = xs.length → Q ((xs.map V.str).zip ws) H')) → tPairs trs σ H Q
section
variable {X : Cx} {W : WX} {pos : Pos}
theorem dps_nil : DPs X W pos [] [] [] [] aNil := ⟨pps_nil, rfl, fun σ H Q ⟨ρ, S, μ, e, s, h⟩ => by
  have := h.now s [] .nil rfl
  exact this⟩
theorem dps_cons {x : Str} {v : Expr} {ks : List (Option Expr)} {vs : List Expr} {trs : List (TE × TE)} {xs : List Str} {te : EvD} {F : EvL} {j : Nat} {p : Pos} (hv : PE X v (tD X.K X.mg W te)) (hr : DPs X W pos ks vs trs xs F) :
    DPs X W pos (some (.Constant (.str x) j p) :: ks) (v :: vs) ((tC (.str x), tD X.K X.mg W te) :: trs) (x :: xs) (aCons te F) := by
  refine ⟨pps_cons pe_str hv hr.pp, by simp [hr.len], fun σ H Q ⟨ρ, S, μ, e, s, h⟩ => ?_⟩
  show tD X.K X.mg W te σ H _
  refine ⟨ρ, S, μ, e, s, h.bnd fun y S1 μ1 H1 s1 r1 h1 w rw => ?_⟩
  refine hr.go σ H1 _ ⟨ρ, S1, μ1, e.step s s1, r1, h1.bnd fun ys S2 μ2 H2 s2 r2 h2 ws rws hl => ?_⟩
  exact h2.now r2 (w :: ws) (.cons (rw.step r1 s2) rws) (by simp [hl])
theorem zip_keys : ∀ (xs : List Str) (ws : List V), ((xs.map V.str).zip ws) = ((xs.map Sum.inr).zip ws).map fun kv : Key × V => (kV kv.1, kv.2)
  | [], _ => rfl
  | x :: xs, [] => rfl
  | x :: xs, w :: ws => by simp only [List.map_cons, List.zip_cons_cons, zip_keys xs ws]; rfl
theorem merge_fresh : ∀ (more kvs : List (Key × V)), (more.map (·.1)).Nodup → (∀ k ∈ more.map (·.1), k ∉ kvs.map (·.1)) → mergeK kvs more = kvs ++ more
  | [], kvs, _, _ => by simp [mergeK]
  | (k, v) :: more, kvs, nd, dj => by
    have h0 : (kvs.any fun kv => decide (kv.1 = k)) = false := by
      rw [List.any_eq_false]
      intro kv hkv
      have := dj k (by simp)
      simp only [decide_eq_true_eq]
      intro e
      exact this (List.mem_map.mpr ⟨kv, hkv, e⟩)
    have e1 : putK kvs k v = kvs ++ [(k, v)] := by unfold putK; rw [h0]; rfl
    have nd' : k ∉ more.map (·.1) ∧ (more.map (·.1)).Nodup := by simpa using nd
    have : mergeK kvs ((k, v) :: more) = mergeK (kvs ++ [(k, v)]) more := by
      show (more.foldl (fun acc kv => putK acc kv.1 kv.2) (putK kvs k v)) = _
      rw [e1]; rfl
    rw [this, merge_fresh more _ nd'.2 fun k' hk' => ?_]
    · simp
    · simp only [List.map_append, List.map_cons, List.map_nil, List.mem_append, List.mem_singleton, not_or]
      exact ⟨dj k' (by simp only [List.map_cons, List.mem_cons]; exact .inr hk'), fun e => nd'.1 (by rw [← e]; exact hk')⟩
theorem keys_zip : ∀ (xs : List Str) (ws : List V), xs.length = ws.length → (((xs.map Sum.inr : List Key).zip ws).map (·.1)) = xs.map Sum.inr
  | [], _, _ => rfl
  | x :: xs, [], h => by simp at h
  | x :: xs, w :: ws, h => by simp only [List.map_cons, List.zip_cons_cons, keys_zip xs ws (by simpa using h)]
theorem RKs.zip {K : PySem.W.Frag} {μ : Mu} {H : Hp} : ∀ (xs : List Str) {ds : List D} {ws : List V}, RDs K μ H ds ws → RKs K μ H ((xs.map Sum.inr).zip ds) ((xs.map Sum.inr).zip ws)
  | [], _, _, _ => .nil
  | x :: xs, [], _, h => by cases h; exact .nil
  | x :: xs, d :: ds, _, h => by cases h with | cons h1 h2 => exact .cons ⟨rfl, h1⟩ (RKs.zip xs h2)
theorem d_dct {ks : List (Option Expr)} {vs : List Expr} {trs : List (TE × TE)} {xs : List Str} {F : EvL} (h : DPs X W pos ks vs trs xs F) (nd : xs.Nodup) (hall : ks.all (·.isSome) = true := by rfl) (hl : ks.length = vs.length := by rfl) (h0 : ks ≠ [] := by exact fun z => nomatch z) (h15 : ks.length ≤ 15 := by decide) :
    PE X (.Dict ks vs pos) (tD X.K X.mg W (eDct xs F)) := by
  refine PE.imp (pe_disp h.pp hall hl h0 h15) fun σ H Q ⟨ρ, S, μ, e, s, q⟩ => ?_
  intro p hp
  have hpx : p ∉ μ.x := fun z => s.hid p z hp
  have q' : Post X.K X.mg W (μ.hide p) σ (upd H p (.dK [])) (F ρ S) (fun ds μ' H' => ∃ μ1, μ' = Mu.hide μ1 p ∧ Stp μ H μ1 H' ∧ H' p = some (.dK []) ∧ Rel X.K (μ1.hide p) ((match F ρ S with | .ok _ S' => S' | _ => S)) H' ∧ (match (if ds.length = xs.length then R.ok (D.ref (match F ρ S with | .ok _ S' => S' | _ => S).length) ((match F ρ S with | .ok _ S' => S' | _ => S) ++ [MO.dct ((xs.map Sum.inr).zip ds)]) else R.bad : R D) with
      | .ok d S2 => ∀ μ2 H2, Stp μ H μ2 H2 → Rel X.K μ2 S2 H2 → QD X.K Q d μ2 H2
      | _ => False)) := by
    unfold eDct bnd at q
    cases hF : F ρ S with
    | ok ds S1 =>
      rw [hF] at q
      intro μ' H' st r'
      have hks : H' p = some (.dK []) := st.keep p _ upd_same (fun z => (s.there (show p ∈ μ.v from z)) hp)
      have st0 : Stp (μ.hide p) H (μ.hide p) (upd H p (.dK [])) := Stp.new hp
      obtain ⟨μ1, rfl, st1⟩ := Stp.show (st0.trans st)
      refine ⟨μ1, rfl, st1, hks, r', ?_⟩
      by_cases hd : ds.length = xs.length
      · simp only [hd, if_true] at q ⊢
        exact fun μ2 H2 s2 r2 => q μ2 H2 s2 r2
      · simp only [hd, if_false] at q
        exact q.elim
    | ex x S1 =>
      rw [hF] at q
      intro μ' H' c od st r' rx
      have st0 : Stp (μ.hide p) H (μ.hide p) (upd H p (.dK [])) := Stp.new hp
      obtain ⟨μ1, rfl, st1⟩ := Stp.show (st0.trans st)
      refine q μ1 H' c od st1 r'.show ?_
      obtain ⟨h1, h2⟩ := rx
      refine ⟨h1, ?_⟩
      cases od with
      | none => exact h2
      | some d =>
        obtain ⟨h3, fs, h4, h5⟩ := h2
        exact ⟨h3, fs, h4, Paired.mapP h5 fun _ _ z => ⟨z.1, RD.show _ _ z.2⟩⟩
    | bad => rw [hF] at q; exact q.elim
  refine h.go σ _ _ ⟨ρ, S, μ.hide p, e.mapR (RD.hide hp), s.hide hp, q'.imp fun ds S' μ' H' hr st r' ⟨μ1, eμ, st1, hks, r1, fin⟩ => ?_⟩
  subst eμ
  intro ws rws hlen
  rw [hr] at fin r1
  simp only [hlen, if_true] at fin r1
  have hle : xs.length = ws.length := by rw [← hlen, rws.length]
  refine ⟨hks, (xs.map Sum.inr).zip ws, zip_keys xs ws, by rw [List.length_zip, List.length_map, ← hle, Nat.min_self, ← h.len, ← hl]; exact h15, ?_⟩
  have ndk : (xs.map Sum.inr : List Key).Nodup := List.pairwise_map.mpr (List.Pairwise.imp (fun h e => h (Sum.inr.inj e)) nd)
  rw [merge_fresh _ [] (by rw [keys_zip xs ws hle]; exact ndk) (fun k _ => by simp), List.nil_append]
  have hpx1 : p ∉ μ1.x := by rw [st1.x]; exact hpx
  have rr := r1.revealD (o := .dK ((xs.map Sum.inr).zip ws)) (m := .dct ((xs.map Sum.inr).zip ds)) hpx1 hks ⟨_, upd_same, RKs.zip xs (RDs.revealD hks _ _ rws)⟩
  have stp2 : Stp μ H (μ1.push p) (upd H' p (.dK ((xs.map Sum.inr).zip ws))) := by
    have := (st1.side (o := .dK ((xs.map Sum.inr).zip ws)) hp).push hp
    exact this
  refine fin _ _ stp2 rr _ (.ref ?_)
  have hln : μ1.v.length = S'.length := r1.len
  show (μ1.v ++ [p])[S'.length]? = some p
  rw [List.getElem?_append_right (by omega), hln]; simp
end
end DL

/-! DLN: more built-ins. -/
namespace DL
open PySem L2 PyProof.Rows
def gMaxL (xs : List D) : M D := fun S => match xs with
  | [d] => (match (iSeq S d).bind intsOf with
    | some (n :: ns) => .ok (.int (ns.foldl max n)) S
    | _ => .bad)
  | _ => .bad
theorem foldl_max : ∀ (ns : List Int) (n : Int), (ns.foldl max n) ∈ n :: ns ∧ ∀ y ∈ n :: ns, y ≤ ns.foldl max n
  | [], n => ⟨by simp, fun y hy => by simp at hy; simp [hy]⟩
  | m :: ns, n => by
    obtain ⟨h1, h2⟩ := foldl_max ns (max n m)
    refine ⟨?_, fun y hy => ?_⟩
    · simp only [List.foldl_cons]
      rcases List.mem_cons.mp h1 with e | h
      · rw [e]
        rcases Int.le_total n m with h | h
        · rw [Int.max_eq_right h]; simp
        · rw [Int.max_eq_left h]; simp
      · exact List.mem_cons_of_mem _ (List.mem_cons_of_mem _ h)
    · simp only [List.foldl_cons]
      have hb := h2 (max n m) List.mem_cons_self
      rcases List.mem_cons.mp hy with rfl | hy
      · exact Int.le_trans (Int.le_max_left _ _) hb
      · rcases List.mem_cons.mp hy with rfl | hy
        · exact Int.le_trans (Int.le_max_right _ _) hb
        · exact h2 y (List.mem_cons_of_mem _ hy)
theorem c_maxL {X : Cx} {W : WX} (hc : X.calm = true) : CRD X W (.builtin "max") gMaxL := by
  refine ⟨_, cr_max hc, fun ds vs μ S σ H Q r rds h => ?_⟩
  unfold gMaxL at h
  split at h
  · cases rds with
    | cons h1 h2 =>
      cases h2
      split at h
      · rename_i n ns e
        rw [Option.bind_eq_some_iff] at e
        obtain ⟨ds, e1, e2⟩ := e
        obtain ⟨a, vs, rfl, q, z⟩ := iSeq_ok e1 r h1
        rw [intsOf_ok e2] at z
        rw [z.ints] at q
        obtain ⟨f1, f2⟩ := foldl_max ns n
        refine ⟨_, _, rfl, q, by simp, fun m hm hy => ?_⟩
        have : m = ns.foldl max n := Int.le_antisymm (f2 m hm) (hy _ f1)
        rw [this]
        exact h.now r _ (.int _)
      · exact h.elim
  · exact h.elim
end DL
namespace DL
open PySem L2 PyProof.Rows
theorem kit_bt {K : PySem.W.Frag} {A : Addr} {T : String} {b : Bool} (hm : PySem.W.kitMeta T = true) (e : PySem.W.subIn K (.ref A) (.type T) = some b) : PySem.W.kitOne K (.ref A) (.type T) = some b := by
  unfold PySem.W.kitOne
  rw [if_neg (by intro h; exact absurd (beq_iff_eq.mp h) (fun z => nomatch z))]
  show (if PySem.W.kitMeta T = true then PySem.W.subIn K (.ref A) (.type T) else none) = some b
  rw [if_pos hm]; exact e
theorem ref_eq {mg : Str → Option Value} {x : Str} {A B : Addr} (h : mg x = some (.ref A)) (g : mg x = some (.ref B)) : A = B := by
  have := h.symm.trans g
  simpa using this
/-- a suite that asks for the class, class by class -/
def SuiteTbl (X : Cx) (suite : List Stmt) (i : Nat) (G : List Bool → EvS) : List (Str × List Bool) → Prop
  | [] => True
  | p :: r => (∀ (a A : Addr) (oe : Obj) (pn : List (Addr × Obj)), X.mg p.1 = some (.ref A) → Zc (.ref A) none oe → (∃ vs, oe.data = .fields vs) → PSs (X.suite a ((a, oe) :: pn)) suite (tSx X.K X.mg i a (G p.2))) ∧ SuiteTbl X suite i G r
def suiteOf (G : List Bool → EvS) (t : List (Str × List Bool)) (e : Exc) : EvS := match tblSub t e.cls with
  | some bs => G bs
  | none => sBad
theorem suite_tbl {X : Cx} {suite : List Stmt} {i : Nat} {G : List Bool → EvS} : ∀ {t : List (Str × List Bool)}, SuiteTbl X suite i G t → ∀ (a A : Addr) (oe : Obj) (e : Exc) (pn : List (Addr × Obj)), X.mg e.cls = some (.ref A) → Zc (.ref A) none oe → (∃ vs, oe.data = .fields vs) →
    PSs (X.suite a ((a, oe) :: pn)) suite (tSx X.K X.mg i a (suiteOf G t e))
  | [], _, a, A, oe, e, pn, g, hz, hv => ⟨fun pins s σ H E I ⟨_, ρ, S, μ, _, _, h⟩ => h.elim⟩
  | (x, bs) :: r, h, a, A, oe, e, pn, g, hz, hv => by
    obtain ⟨c, fs⟩ := e
    by_cases hx : x = c
    · subst hx
      unfold suiteOf
      simp only [tbl_hit]
      exact h.1 a A oe pn g hz hv
    · have e1 : suiteOf G ((x, bs) :: r) ⟨c, fs⟩ = suiteOf G r ⟨c, fs⟩ := by
        unfold suiteOf
        simp only [tbl_miss hx]
      rw [e1]
      exact suite_tbl h.2 a A oe ⟨c, fs⟩ pn g hz hv
end DL

/-! DLZ: words for exceptions and dicts. -/
namespace DL
open PySem L2
def tryCase (o : Option Bool) (p q : Prop) : Prop := match o with
  | some true => p
  | some false => q
  | none => False
theorem tryCase_t {p q : Prop} : tryCase (some true) p q ↔ p := Iff.rfl
theorem tryCase_f {p q : Prop} : tryCase (some false) p q ↔ q := Iff.rfl
section
variable {ρ : Rho} {S : Sto} {F : D → Sto → Prop} {E : Exc → Sto → Prop} {N : Rho → Sto → Prop} {T : D → Sto → Prop} {B C : Rho → Sto → Prop} {X : Exc → Rho → Sto → Prop}
theorem wps_raise {c : Str} {e : EvD} : wps (sRaise c e ρ S) N T B C X ↔ wp (e ρ S) (fun _ S' => X ⟨c, []⟩ ρ S') (fun e S' => X e ρ S') := by
  unfold sRaise; rw [wps_lft]; rfl
theorem wps_try {sub : Str → Option Bool} {body : EvS} {suite : Exc → EvS} : wps (sTry sub body suite ρ S) N T B C X ↔
    wps (body ρ S) N T B C (fun e ρ' S' => tryCase (sub e.cls) (wps (suite e ρ' S') N T B C (fun _ _ _ => False)) (X e ρ' S')) := by
  unfold sTry
  cases body ρ S with
  | ok o S' =>
    cases o with
    | xc e ρ' =>
      show wps (match sub e.cls with
        | some true => _
        | some false => _
        | none => _) N T B C X ↔ tryCase (sub e.cls) _ _
      cases sub e.cls with
      | none => exact Iff.rfl
      | some b =>
        cases b with
        | false => exact Iff.rfl
        | true =>
          show wps (match suite e ρ' S' with
            | .ok (.xc _ _) _ => .bad
            | r => r) N T B C X ↔ wps (suite e ρ' S') N T B C (fun _ _ _ => False)
          cases suite e ρ' S' with
          | ok o2 S2 => cases o2 <;> exact Iff.rfl
          | ex e2 S2 => exact Iff.rfl
          | bad => exact Iff.rfl
    | _ => exact Iff.rfl
  | ex e S' => exact Iff.rfl
  | bad => exact Iff.rfl
theorem wps_tryAs {i : Nat} {sub : Str → Option Bool} {body : EvS} {suite : Exc → EvS} : wps (sTryAs i sub body suite ρ S) N T B C X ↔
    wps (body ρ S) N T B C (fun e ρ' S' => tryCase (sub e.cls) (e.fs = [] ∧ wps (suite e (ρ'.set i none) S') (fun ρ2 S2 => N (ρ2.set i none) S2) T (fun ρ2 S2 => B (ρ2.set i none) S2) (fun ρ2 S2 => C (ρ2.set i none) S2) (fun _ _ _ => False)) (X e ρ' S')) := by
  unfold sTryAs
  rw [wps_try]
  constructor <;> intro h <;> refine wps_mono h (fun _ _ h => h) (fun _ _ h => h) (fun _ _ h => h) (fun _ _ h => h) fun e ρ' S' h => ?_
  · cases hs : sub e.cls with
    | none => rw [hs] at h; exact h
    | some b =>
      rw [hs] at h
      cases b with
      | false => exact h
      | true =>
        have h' : wps (if e.fs.isEmpty = true then (match suite e (ρ'.set i none) S' with
          | .ok o S2 => .ok (outSet i o) S2
          | r => r) else .bad) N T B C (fun _ _ _ => False) := h
        show e.fs = [] ∧ _
        by_cases hf : e.fs.isEmpty = true
        · rw [if_pos hf] at h'
          have hnil : e.fs = [] := by
            cases hq : e.fs with
            | nil => rfl
            | cons _ _ => rw [hq] at hf; cases hf
          refine ⟨hnil, ?_⟩
          cases hu : suite e (ρ'.set i none) S' with
          | ok o S2 => rw [hu] at h'; cases o <;> exact h'
          | ex e2 S2 => rw [hu] at h'; exact h'
          | bad => rw [hu] at h'; exact h'
        · rw [if_neg hf] at h'; exact h'.elim
  · cases hs : sub e.cls with
    | none => rw [hs] at h; exact h
    | some b =>
      rw [hs] at h
      cases b with
      | false => exact h
      | true =>
        obtain ⟨hf, h'⟩ : e.fs = [] ∧ _ := h
        show wps (if e.fs.isEmpty = true then (match suite e (ρ'.set i none) S' with
          | .ok o S2 => .ok (outSet i o) S2
          | r => r) else .bad) N T B C (fun _ _ _ => False)
        rw [if_pos (by rw [hf]; rfl)]
        cases hu : suite e (ρ'.set i none) S' with
        | ok o S2 => rw [hu] at h'; cases o <;> exact h'
        | ex e2 S2 => rw [hu] at h'; exact h'
        | bad => rw [hu] at h'; exact h'
theorem suiteOf_hit {G : List Bool → EvS} {x : Str} {bs : List Bool} {r : List (Str × List Bool)} {fs : List (Str × D)} : suiteOf G ((x, bs) :: r) ⟨x, fs⟩ = G bs := by
  unfold suiteOf; simp only [tbl_hit]
theorem wp_eDct {ks : List Str} {as : EvL} : wp (eDct ks as ρ S) F E ↔ wp (as ρ S) (fun ds S1 => ds.length = ks.length ∧ F (.ref S1.length) (S1 ++ [.dct ((ks.map Sum.inr).zip ds)])) E := by
  unfold eDct
  rw [wp_bnd]
  constructor <;> intro h <;> refine wp_mono h (fun ds S' h => ?_) (fun _ _ h => h)
  · by_cases hl : ds.length = ks.length
    · rw [if_pos hl] at h; exact ⟨hl, h⟩
    · rw [if_neg hl] at h; exact h.elim
  · rw [if_pos h.1]; exact h.2
theorem wp_eDGet {a b : EvD} : wp (eDGet a b ρ S) F E ↔ wp (a ρ S) (fun x S1 => wp (b ρ S1) (fun y S2 => wp (gDGet x y S2) F E) E) E := wp_bin
theorem wp_eDNew : wp (eDNew ρ S) F E ↔ F (.ref S.length) (S ++ [.dct []]) := Iff.rfl
theorem gDGet_of {x y : D} {kvs : List (Key × D)} {k : Key} {v : D} (h : atD S x = some kvs) (hk : keyD y = some k) (hv : getK kvs k = some v) : wp (gDGet x y S) F E ↔ F v S := by
  unfold gDGet
  simp only [h, hk, hv]
  exact Iff.rfl
theorem atD_ref {n : Nat} {kvs : List (Key × D)} (h : S[n]? = some (.dct kvs)) : atD S (.ref n) = some kvs := by
  unfold atD; simp only [h]
theorem gDIn_of {x y : D} {kvs : List (Key × D)} {k : Key} {neg : Bool} (h : atD S x = some kvs) (hk : keyD y = some k) : wp (gDIn neg y x S) F E ↔ F (.bl (if neg = true then !(getK kvs k).isSome else (getK kvs k).isSome)) S := by
  unfold gDIn
  simp only [h, hk]
  exact Iff.rfl
theorem wp_eDDef {a b c : EvD} : wp (eDDef a b c ρ S) F E ↔ wp (a ρ S) (fun x S1 => (∃ kvs, atD S1 x = some kvs) ∧ wp (b ρ S1) (fun y S2 => wp (c ρ S2) (fun z S3 => wp (gDDef x y z S3) F E) E) E) E := by
  unfold eDDef
  rw [wp_bnd]
  constructor <;> intro h <;> refine wp_mono h (fun x S' h => ?_) (fun _ _ h => h)
  · split at h
    · rename_i kvs hk
      simp only [wp_bnd] at h
      exact ⟨⟨kvs, hk⟩, h⟩
    · exact h.elim
  · obtain ⟨⟨kvs, hk⟩, h⟩ := h
    simp only [hk, wp_bnd]
    exact h
theorem gDDef_of {x y z : D} {kvs : List (Key × D)} {k : Key} (h : atD S x = some kvs) (hk : keyD y = some k) : wp (gDDef x y z S) F E ↔ F ((getK kvs k).getD z) S := by
  unfold gDDef
  simp only [h, hk]
  exact Iff.rfl
theorem wps_dput {a b c : EvD} : wps (sDPutD a b c ρ S) N T B C X ↔ wp (a ρ S) (fun d S1 => wp (b ρ S1) (fun o S2 => wp (c ρ S2) (fun i S3 => wp (gDPut d o i S3) (fun _ S4 => N ρ S4) (fun e S' => X e ρ S')) (fun e S' => X e ρ S')) (fun e S' => X e ρ S')) (fun e S' => X e ρ S') := by
  unfold sDPutD
  simp only [wps_lft]
  exact Iff.rfl
theorem gDPut_of {n : Nat} {v y : D} {kvs : List (Key × D)} {k : Key} {FU : Unit → Sto → Prop} (h : S[n]? = some (.dct kvs)) (hk : keyD y = some k) : wp (gDPut v (.ref n) y S) FU E ↔ kvs.length < 16777216 ∧ FU () (S.set n (.dct (setK kvs k v))) := by
  unfold gDPut
  simp only [h, hk]
  by_cases hl : kvs.length < 16777216
  · rw [if_pos hl]; exact ⟨fun q => ⟨hl, q⟩, fun q => q.2⟩
  · rw [if_neg hl]; exact ⟨fun q => q.elim, fun q => absurd q.1 hl⟩
theorem gListK_of {x : D} {kvs : List (Key × D)} (h : atD S x = some kvs) : wp (gListK [x] S) F E ↔ F (.lst (kvs.map fun kv => ofKey kv.1)) S := by
  unfold gListK
  simp only [h]
  exact Iff.rfl
end
end DL

namespace K64
open PySem L2 PyProof.Rows DL
abbrev i_inside : Nat := 0
abbrev i_push : Nat := 1
abbrev i_reckoned : Nat := 2
abbrev i_done_rows : Nat := 3
abbrev i_done_things : Nat := 4
abbrev i_done : Nat := 5
abbrev i_is_set : Nat := 6
abbrev i_run_code : Nat := 7
abbrev i_l_mixed : Nat := 8
abbrev i_l_deck : Nat := 9
abbrev i_l_draw : Nat := 10
abbrev i_l_size : Nat := 11
abbrev i_l_cut : Nat := 12
abbrev i_l_number : Nat := 13
abbrev i_l_thing : Nat := 14
abbrev i_l_shuffle : Nat := 15
abbrev i_l_any_word : Nat := 16
abbrev i_l_op : Nat := 17
abbrev i_l_made : Nat := 18
abbrev i_l_code : Nat := 19
abbrev i_l_deep : Nat := 20
abbrev i_l_pair_op : Nat := 21
abbrev i_l_told : Nat := 22
abbrev i_l_run_told : Nat := 23
abbrev i_law : Nat := 24
def k_WHOLE : D := (.int 1000000000000)
noncomputable def b_inside (fu : Nat) (C : Nat → List D → M D) : EvS :=
 (sSeq (sIf (eTb (eBin gNe (eBin gIx (eVar 0) (eC (.int 0))) (eVar 1))) (sRaise "NoStep" (eBin gAdd (eC (.str "no ")) (eVar 1))) sNil)
 (sRet (eBin gIx (eVar 0) (eC (.int 1)))))
noncomputable def b_push (fu : Nat) (C : Nat → List D → M D) : EvS :=
 (sRet (eTup (aCons (eC (.str "push")) (aCons (eVar 0) aNil))))
noncomputable def b_reckoned (fu : Nat) (C : Nat → List D → M D) : EvS :=
 (sSeq (sIf (eTb (eBin gEq (eVar 0) (eC (.str "plus")))) (sRet (eBin gMod (eBin gAdd (eVar 1) (eVar 2)) (eC k_WHOLE))) sNil)
 (sSeq (sIf (eTb (eBin gEq (eVar 0) (eC (.str "minus")))) (sRet (eBin gMod (eBin gSub (eVar 1) (eVar 2)) (eC k_WHOLE))) sNil)
 (sSeq (sIf (eTb (eBin gEq (eVar 0) (eC (.str "times")))) (sRet (eBin gMod (eBin gMul (eVar 1) (eVar 2)) (eC k_WHOLE))) sNil)
 (sSeq (sIf (eTb (eBin gEq (eVar 0) (eC (.str "less")))) (sRet (eCall gInt (aCons (eBin gLt (eVar 1) (eVar 2)) aNil))) sNil)
 (sRet (eCall gInt (aCons (eBin gEq (eVar 1) (eVar 2)) aNil)))))))
noncomputable def b_done_rows (fu : Nat) (C : Nat → List D → M D) : EvS :=
 (sSeq (sIf (eTb (eBin gEq (eVar 0) (eC (.str "do")))) (sRet (eTup (aCons (eTup aNil) (aCons (eCall (cl 2 (C i_inside)) (aCons (eBin gIx (eVar 1) (eC (.int 0))) (aCons (eC (.str "row")) aNil))) aNil)))) sNil)
 (sSeq (sIf (eTb (eBin gEq (eVar 0) (eC (.str "dip")))) (sRet (eTup (aCons (eTup aNil) (aCons (eBin gAdd (eCall (cl 2 (C i_inside)) (aCons (eBin gIx (eVar 1) (eC (.int 1))) (aCons (eC (.str "row")) aNil))) (eTup (aCons (eCall (cl 1 (C i_push)) (aCons (eBin gIx (eVar 1) (eC (.int 0))) aNil)) aNil))) aNil)))) sNil)
 (sSeq (sIf (eTb (eBin gEq (eVar 0) (eC (.str "if")))) (sSeq (sAsg (gN 2) (eCall (cl 2 (C i_inside)) (aCons (eBin gIx (eVar 1) (eC (.int 0))) (aCons (eC (.str "number")) aNil))))
 (sSeq (sAsg (gN 4) (eTup (aCons (eCall (cl 2 (C i_inside)) (aCons (eBin gIx (eVar 1) (eC (.int 2))) (aCons (eC (.str "row")) aNil))) (aCons (eCall (cl 2 (C i_inside)) (aCons (eBin gIx (eVar 1) (eC (.int 1))) (aCons (eC (.str "row")) aNil))) aNil))))
 (sRet (eTup (aCons (eTup aNil) (aCons (eBin gIx (eVar 4) (eCall gInt (aCons (eBin gNe (eVar 2) (eC (.int 0))) aNil))) aNil)))))) sNil)
 (sSeq (sIf (eTb (eBin gEq (eVar 0) (eC (.str "while")))) (sSeq (sAsg (gN 5) (eCall (cl 2 (C i_inside)) (aCons (eBin gIx (eVar 1) (eC (.int 0))) (aCons (eC (.str "row")) aNil))))
 (sSeq (sAsg (gN 6) (eBin gAdd (eCall (cl 2 (C i_inside)) (aCons (eBin gIx (eVar 1) (eC (.int 1))) (aCons (eC (.str "row")) aNil))) (eTup (aCons (eCall (cl 1 (C i_push)) (aCons (eBin gIx (eVar 1) (eC (.int 0))) aNil)) (aCons (eCall (cl 1 (C i_push)) (aCons (eBin gIx (eVar 1) (eC (.int 1))) aNil)) (aCons (eC (.str "while")) aNil))))))
 (sRet (eTup (aCons (eTup aNil) (aCons (eBin gAdd (eVar 5) (eTup (aCons (eCall (cl 1 (C i_push)) (aCons (eTup (aCons (eC (.str "row")) (aCons (eVar 6) aNil))) aNil)) (aCons (eCall (cl 1 (C i_push)) (aCons (eTup (aCons (eC (.str "row")) (aCons (eTup aNil) aNil))) aNil)) (aCons (eC (.str "if")) aNil))))) aNil)))))) sNil)
 (sSeq (sAsg (gN 2) (eCall (cl 2 (C i_inside)) (aCons (eBin gIx (eVar 1) (eC (.int 0))) (aCons (eC (.str "number")) aNil))))
 (sSeq (sAsg (gN 3) (eCall (cl 2 (C i_inside)) (aCons (eBin gIx (eVar 1) (eC (.int 1))) (aCons (eC (.str "row")) aNil))))
 (sSeq (sIf (eTb (eBin gEq (eVar 2) (eC (.int 0)))) (sRet (eTup (aCons (eTup aNil) (aCons (eTup aNil) aNil)))) sNil)
 (sRet (eTup (aCons (eTup aNil) (aCons (eBin gAdd (eVar 3) (eTup (aCons (eCall (cl 1 (C i_push)) (aCons (eTup (aCons (eC (.str "number")) (aCons (eBin gSub (eVar 2) (eC (.int 1))) aNil))) aNil)) (aCons (eCall (cl 1 (C i_push)) (aCons (eBin gIx (eVar 1) (eC (.int 1))) aNil)) (aCons (eC (.str "repeat")) aNil))))) aNil)))))))))))
noncomputable def b_done_things (fu : Nat) (C : Nat → List D → M D) : EvS :=
 (sSeq (sIf (eTb (eBin gEq (eVar 0) (eC (.str "join")))) (sRet (eTup (aCons (eTup (aCons (eTup (aCons (eC (.str "row")) (aCons (eBin gAdd (eCall (cl 2 (C i_inside)) (aCons (eBin gIx (eVar 1) (eC (.int 0))) (aCons (eC (.str "row")) aNil))) (eCall (cl 2 (C i_inside)) (aCons (eBin gIx (eVar 1) (eC (.int 1))) (aCons (eC (.str "row")) aNil)))) aNil))) aNil)) (aCons (eTup aNil) aNil)))) sNil)
 (sSeq (sIf (eTb (eBin gEq (eVar 0) (eC (.str "wrap")))) (sRet (eTup (aCons (eTup (aCons (eTup (aCons (eC (.str "row")) (aCons (eTup (aCons (eCall (cl 1 (C i_push)) (aCons (eBin gIx (eVar 1) (eC (.int 0))) aNil)) aNil)) aNil))) aNil)) (aCons (eTup aNil) aNil)))) sNil)
 (sSeq (sIf (eTb (eBin gEq (eVar 0) (eC (.str "put")))) (sRet (eTup (aCons (eTup (aCons (eTup (aCons (eC (.str "list")) (aCons (eBin gAdd (eCall (cl 2 (C i_inside)) (aCons (eBin gIx (eVar 1) (eC (.int 0))) (aCons (eC (.str "list")) aNil))) (eTup (aCons (eBin gIx (eVar 1) (eC (.int 1))) aNil))) aNil))) aNil)) (aCons (eTup aNil) aNil)))) sNil)
 (sSeq (sAsg (gN 2) (eCall (cl 2 (C i_inside)) (aCons (eBin gIx (eVar 1) (eC (.int 0))) (aCons (eC (.str "list")) aNil))))
 (sSeq (sAsg (gN 3) (eCall (cl 2 (C i_inside)) (aCons (eBin gIx (eVar 1) (eC (.int 1))) (aCons (eC (.str "row")) aNil))))
 (sSeq (sIf (eTb (eBin gEq (eVar 0) (eC (.str "part")))) (sSeq (sAsg (gN 4) (eCall (cl 2 (C i_inside)) (aCons (eBin gIx (eVar 1) (eC (.int 2))) (aCons (eC (.str "row")) aNil))))
 (sSeq (sIf (eTb (eBin gEq (eVar 2) (eTup aNil))) (sRet (eTup (aCons (eTup aNil) (aCons (eVar 4) aNil)))) sNil)
 (sRet (eTup (aCons (eTup (aCons (eBin gIx (eVar 2) (eC (.int 0))) (aCons (eTup (aCons (eC (.str "list")) (aCons (eSl false (eVar 2) (oSome (eC (.int 1))) oNone) aNil))) aNil))) (aCons (eVar 3) aNil)))))) sNil)
 (sSeq (sIf (eTb (eBin gEq (eVar 2) (eTup aNil))) (sRet (eTup (aCons (eTup aNil) (aCons (eTup aNil) aNil)))) sNil)
 (sRet (eTup (aCons (eTup (aCons (eBin gIx (eVar 2) (eC (.int 0))) aNil)) (aCons (eBin gAdd (eVar 3) (eTup (aCons (eCall (cl 1 (C i_push)) (aCons (eTup (aCons (eC (.str "list")) (aCons (eSl false (eVar 2) (oSome (eC (.int 1))) oNone) aNil))) aNil)) (aCons (eCall (cl 1 (C i_push)) (aCons (eBin gIx (eVar 1) (eC (.int 1))) aNil)) (aCons (eC (.str "each")) aNil))))) aNil)))))))))))
noncomputable def b_done (fu : Nat) (C : Nat → List D → M D) : EvS :=
 (sSeq (sIf (eTb (eBin gIn (eVar 0) (eTup (aCons (eC (.str "plus")) (aCons (eC (.str "minus")) (aCons (eC (.str "times")) (aCons (eC (.str "less")) (aCons (eC (.str "same")) aNil)))))))) (sSeq (sAsg (gN 2) (eCall (cl 3 (C i_reckoned)) (aCons (eVar 0) (aCons (eCall (cl 2 (C i_inside)) (aCons (eBin gIx (eVar 1) (eC (.int 0))) (aCons (eC (.str "number")) aNil))) (aCons (eCall (cl 2 (C i_inside)) (aCons (eBin gIx (eVar 1) (eC (.int 1))) (aCons (eC (.str "number")) aNil))) aNil)))))
 (sRet (eTup (aCons (eTup (aCons (eTup (aCons (eC (.str "number")) (aCons (eVar 2) aNil))) aNil)) (aCons (eTup aNil) aNil))))) sNil)
 (sSeq (sIf (eTb (eBin gIn (eVar 0) (eTup (aCons (eC (.str "do")) (aCons (eC (.str "dip")) (aCons (eC (.str "if")) (aCons (eC (.str "while")) (aCons (eC (.str "repeat")) aNil)))))))) (sRet (eCall (cl 2 (C i_done_rows)) (aCons (eVar 0) (aCons (eVar 1) aNil)))) sNil)
 (sRet (eCall (cl 2 (C i_done_things)) (aCons (eVar 0) (aCons (eVar 1) aNil))))))
noncomputable def b_is_set (fu : Nat) (C : Nat → List D → M D) : EvS :=
 (sSeq (sIf (eTb (eBin gNe (eBin gIx (eVar 0) (eC (.int 0))) (eC (.str "number")))) (sRaise "NoStep" (eC (.str "no number"))) sNil)
 (sRet (eBin gNe (eBin gIx (eVar 0) (eC (.int 1))) (eC (.int 0)))))
noncomputable def b_run_code (fu : Nat) (C : Nat → List D → M D) : EvS :=
 (sSeq (sAsg (gTp 3 (gNs 4 (gNs 5 (gNs 6 gN0)))) (eVar 0))
 (sSeq (sIf (eTb (eBin gNe (eCall gLen (aCons (eVar 1) aNil)) (eVar 4))) (sRaise "NoStep" (eC (.str "too few or too many things"))) sNil)
 (sSeq (sAsg (gN 2) (eCall gListM (aCons (eVar 1) aNil)))
 (sSeq (sFor (iIt (eVar 5)) (gN 3) (sIf (eTb (eBin gEq (eBin gIx (eVar 3) (eC (.int 0))) (eC (.str "push")))) (sExpr (eMeth "list" gAppend (eVar 2) (aCons (eBin gIx (eVar 3) (eC (.int 1))) aNil))) (sIf (eTb (eBin gEq (eBin gIx (eVar 3) (eC (.int 0))) (eC (.str "if")))) (sSeq (sAsg (gN 7) (eCall gTuple (aCons (eComp (iIt (eBin gIx (eVar 3) (eC (.int 2)))) (gN 9) bYes (eBin gIx (eVar 2) (eVar 9)) [9]) aNil)))
 (sSeq (sAsg (gN 8) (eBin gIx (eVar 3) (eC (.int 4))))
 (sSeq (sIf (eT (eCall (cl 1 (C i_is_set)) (aCons (eBin gIx (eVar 2) (eBin gIx (eVar 3) (eC (.int 1)))) aNil))) (sAsg (gN 8) (eBin gIx (eVar 3) (eC (.int 3)))) sNil)
 (sExpr (eMeth "list" gExtend (eVar 2) (aCons (eCall gList (aCons (eCall (cl 2 (C i_run_code)) (aCons (eVar 8) (aCons (eVar 7) aNil))) aNil)) aNil)))))) (sExpr (eMeth "list" gExtend (eVar 2) (aCons (eCall gList (aCons (eBin gIx (eCall (cl 2 (C i_done)) (aCons (eBin gIx (eVar 3) (eC (.int 0))) (aCons (eCall gTuple (aCons (eComp (iIt (eSl false (eVar 3) (oSome (eC (.int 1))) oNone)) (gN 9) bYes (eBin gIx (eVar 2) (eVar 9)) [9]) aNil)) aNil))) (eC (.int 0))) aNil)) aNil))))))
 (sRet (eCall gTuple (aCons (eComp (iIt (eVar 6)) (gN 9) bYes (eBin gIx (eVar 2) (eVar 9)) [9]) aNil)))))))
noncomputable def b_l_mixed (fu : Nat) (C : Nat → List D → M D) : EvS :=
 (sSeq (sAsg (gN 0) (eBin gMod (eBin gAdd (eBin gMul (eBin gMod (eVar 0) (eC (.int 2147483629))) (eC (.int 48271))) (eC (.int 7))) (eC (.int 2147483647))))
 (sSeq (sAsg (gN 0) (eBin gMod (eBin gAdd (eBin gAdd (eBin gMul (eVar 0) (eVar 0)) (eBin gMul (eC (.int 69621)) (eVar 0))) (eC (.int 11))) (eC (.int 2147483629))))
 (sRet (eBin gMod (eBin gAdd (eBin gMul (eVar 0) (eC (.int 39373))) (eC (.int 5))) (eC (.int 2147483587))))))
noncomputable def b_l_deck (fu : Nat) (C : Nat → List D → M D) : EvS :=
 (sSeq (sAsg (gN 2) (eCall gListM (aCons (eSl false (eVar 0) oNone (oSome (eC (.int 63)))) aNil)))
 (sSeq (sAsg (gN 3) (eBin gAdd (eC (.int 48271)) (eBin gMod (eCall gSum (aCons (eVar 2) aNil)) (eC (.int 2147483647)))))
 (sSeq (sWhile fu (eTb (eBin gLt (eCall gLen (aCons (eVar 2) aNil)) (eVar 1))) (sSeq (sAsg (gN 3) (eCall (cl 1 (C i_l_mixed)) (aCons (eBin gAdd (eVar 3) (eCall gLen (aCons (eVar 2) aNil))) aNil)))
 (sExpr (eMeth "list" gAppend (eVar 2) (aCons (eVar 3) aNil)))))
 (sRet (eUn (gRev true) (eVar 2))))))
noncomputable def b_l_draw (fu : Nat) (C : Nat → List D → M D) : EvS :=
 (sSeq (sIf (eTb (eBin gEq (eVar 0) (eLst aNil))) (sRet (eC (.int 0))) sNil)
 (sSeq (sAsg (gN 2) (eMeth "list" gPop (eVar 0) aNil))
 (sSeq (sIf (eTb (eBin gGe (eVar 2) (eBin gPow (eC (.int 10)) (eC (.int 18))))) (sSeq (sExpr (eMeth "list" gAppend (eVar 0) (aCons (eBin gDiv (eVar 2) (eVar 1)) aNil)))
 (sRet (eBin gMod (eVar 2) (eVar 1)))) sNil)
 (sRet (eBin gMod (eCall (cl 1 (C i_l_mixed)) (aCons (eVar 2) aNil)) (eVar 1))))))
noncomputable def b_l_size (fu : Nat) (C : Nat → List D → M D) : EvS :=
 (sSeq (sAsg (gN 1) (eC (.int 0)))
 (sSeq (sFor (iIt (eVar 0)) (gN 2) (sSeq (sAsg (gN 1) (eBin gAdd (eVar 1) (eC (.int 1))))
 (sSeq (sIf (eTb (eBin gEq (eBin gIx (eVar 2) (eC (.int 0))) (eC (.str "list")))) (sAsg (gN 1) (eBin gAdd (eVar 1) (eCall (cl 1 (C i_l_size)) (aCons (eBin gIx (eVar 2) (eC (.int 1))) aNil)))) sNil)
 (sIf (eTb (eBin gEq (eBin gIx (eVar 2) (eC (.int 0))) (eC (.str "row")))) (sAsg (gN 1) (eBin gAdd (eBin gAdd (eVar 1) (eCall gLen (aCons (eBin gIx (eVar 2) (eC (.int 1))) aNil))) (eCall (cl 1 (C i_l_size)) (aCons (eComp (iIt (eBin gIx (eVar 2) (eC (.int 1)))) (gN 3) (eT (eIsi "tuple" (eVar 3))) (eBin gIx (eVar 3) (eC (.int 1))) [3]) aNil)))) sNil))))
 (sRet (eVar 1))))
noncomputable def b_l_cut (fu : Nat) (C : Nat → List D → M D) : EvS :=
 (sSeq (sWhile fu (eTb (eBin gGt (eCall (cl 1 (C i_l_size)) (aCons (eLst (aCons (eTup (aCons (eC (.str "row")) (aCons (eVar 0) aNil))) aNil)) aNil)) (eVar 1))) (sAsg (gN 0) (eSl false (eVar 0) oNone (oSome (eUn gNeg (eC (.int 1)))))))
 (sRet (eCall gTuple (aCons (eVar 0) aNil))))
noncomputable def b_l_number (fu : Nat) (C : Nat → List D → M D) : EvS :=
 (sRet (eBin gIx (eLst (aCons (eC (.int 0)) (aCons (eC (.int 1)) (aCons (eC (.int 2)) (aCons (eCall (cl 2 (C i_l_draw)) (aCons (eVar 0) (aCons (eC (.int 7)) aNil))) (aCons (eBin gSub (eBin gPow (eC (.int 10)) (eC (.int 12))) (eC (.int 1))) (aCons (eCall (cl 2 (C i_l_draw)) (aCons (eVar 0) (aCons (eBin gPow (eC (.int 10)) (eC (.int 12))) aNil))) aNil))))))) (eCall (cl 2 (C i_l_draw)) (aCons (eVar 0) (aCons (eC (.int 6)) aNil)))))
noncomputable def b_l_thing (fu : Nat) (C : Nat → List D → M D) : EvS :=
 (sSeq (sAsg (gN 2) (eCall (cl 2 (C i_l_draw)) (aCons (eVar 0) (aCons (eC (.int 6)) aNil))))
 (sSeq (sIf (bOr (eTb (eBin gEq (eVar 1) (eC (.int 0)))) (eTb (eBin gLt (eVar 2) (eC (.int 3))))) (sRet (eTup (aCons (eC (.str "number")) (aCons (eCall (cl 1 (C i_l_number)) (aCons (eVar 0) aNil)) aNil)))) sNil)
 (sSeq (sAsg (gN 3) (eBin gIx (eLst (aCons (eCall (cl 2 (C i_l_draw)) (aCons (eVar 0) (aCons (eC (.int 4)) aNil))) (aCons (eCall (cl 2 (C i_l_draw)) (aCons (eVar 0) (aCons (eC (.int 4)) aNil))) (aCons (eCall (cl 2 (C i_l_draw)) (aCons (eVar 0) (aCons (eC (.int 7)) aNil))) aNil)))) (eCall (cl 2 (C i_l_draw)) (aCons (eVar 0) (aCons (eC (.int 3)) aNil)))))
 (sSeq (sIf (eTb (eBin gLt (eVar 2) (eC (.int 5)))) (sRet (eTup (aCons (eC (.str "row")) (aCons (eCall (cl 2 (C i_l_cut)) (aCons (eComp (iRange1 (aCons (eVar 3) aNil)) (gN 4) bYes (eCall (cl 2 (C i_l_any_word)) (aCons (eVar 0) (aCons (eBin gSub (eVar 1) (eC (.int 1))) aNil))) [4]) (aCons (eC (.int 24)) aNil))) aNil)))) sNil)
 (sRet (eTup (aCons (eC (.str "list")) (aCons (eCall gTuple (aCons (eComp (iRange1 (aCons (eVar 3) aNil)) (gN 4) bYes (eCall (cl 2 (C i_l_thing)) (aCons (eVar 0) (aCons (eBin gSub (eVar 1) (eC (.int 1))) aNil))) [4]) aNil)) aNil))))))))
noncomputable def b_l_shuffle (fu : Nat) (C : Nat → List D → M D) : EvS :=
 (sSeq (sAsg (gN 2) (eCall (cl 2 (C i_l_draw)) (aCons (eVar 0) (aCons (eBin gAdd (eVar 1) (eC (.int 1))) aNil))))
 (sSeq (sAsg (gN 3) (eSl false (eC (.str "abcdefgh")) oNone (oSome (eVar 2))))
 (sSeq (sAsg (gN 4) (eC (.str "")))
 (sSeq (sIf (eTb (eBin gGt (eVar 2) (eC (.int 0)))) (sSeq (sAsg (gN 5) (eBin gIx (eLst (aCons (eC (.int 4)) (aCons (eC (.int 13)) aNil))) (eBin gDiv (eCall (cl 2 (C i_l_draw)) (aCons (eVar 0) (aCons (eC (.int 8)) aNil))) (eC (.int 7)))))
 (sFor (iRange1 (aCons (eCall (cl 2 (C i_l_draw)) (aCons (eVar 0) (aCons (eVar 5) aNil))) aNil)) (gN 6) (sAsg (gN 4) (eBin gAdd (eVar 4) (eBin gIx (eVar 3) (eCall (cl 2 (C i_l_draw)) (aCons (eVar 0) (aCons (eVar 2) aNil)))))))) sNil)
 (sRet (eBin gAdd (eBin gAdd (eVar 3) (eC (.str "-"))) (eVar 4)))))))
noncomputable def b_l_any_word (fu : Nat) (C : Nat → List D → M D) : EvS :=
 (sSeq (sAsg (gN 2) (eLst (aCons (eC (.str "plus")) (aCons (eC (.str "minus")) (aCons (eC (.str "times")) (aCons (eC (.str "less")) (aCons (eC (.str "same")) (aCons (eC (.str "do")) (aCons (eC (.str "dip")) (aCons (eC (.str "if")) (aCons (eC (.str "while")) (aCons (eC (.str "repeat")) (aCons (eC (.str "join")) (aCons (eC (.str "wrap")) (aCons (eC (.str "put")) aNil)))))))))))))))
 (sSeq (sAsg (gN 3) (eCall (cl 2 (C i_l_draw)) (aCons (eVar 0) (aCons (eC (.int 8)) aNil))))
 (sSeq (sIf (eTb (eBin gLt (eVar 3) (eC (.int 3)))) (sRet (eTup (aCons (eC (.str "push")) (aCons (eCall (cl 2 (C i_l_thing)) (aCons (eVar 0) (aCons (eVar 1) aNil))) aNil)))) sNil)
 (sSeq (sIf (eTb (eBin gLt (eVar 3) (eC (.int 5)))) (sRet (eCall (cl 2 (C i_l_shuffle)) (aCons (eVar 0) (aCons (eBin gIx (eLst (aCons (eC (.int 3)) (aCons (eC (.int 8)) aNil))) (eBin gDiv (eCall (cl 2 (C i_l_draw)) (aCons (eVar 0) (aCons (eC (.int 8)) aNil))) (eC (.int 7)))) aNil)))) sNil)
 (sRet (eBin gIx (eBin gAdd (eVar 2) (eLst (aCons (eC (.str "part")) (aCons (eC (.str "each")) aNil)))) (eCall (cl 2 (C i_l_draw)) (aCons (eVar 0) (aCons (eC (.int 15)) aNil)))))))))
noncomputable def b_l_op (fu : Nat) (C : Nat → List D → M D) : EvS :=
 (sSeq (sAsg (gN 3) (eBin gIx (eLst (aCons (eC (.str "push")) (aCons (eC (.str "plus")) (aCons (eC (.str "minus")) (aCons (eC (.str "times")) (aCons (eC (.str "less")) (aCons (eC (.str "same")) (aCons (eC (.str "put")) (aCons (eC (.str "join")) (aCons (eC (.str "wrap")) (aCons (eC (.str "if")) (aCons (eC (.str "if")) aNil)))))))))))) (eCall (cl 2 (C i_l_draw)) (aCons (eVar 0) (aCons (eC (.int 11)) aNil)))))
 (sSeq (sIf (bOr (eTb (eBin gEq (eVar 1) (eC (.int 0)))) (bOr (eTb (eBin gEq (eVar 3) (eC (.str "push")))) (bAnd (eTb (eBin gEq (eVar 3) (eC (.str "if")))) (eTb (eBin gEq (eVar 2) (eC (.int 0))))))) (sRet (eTup (aCons (eC (.str "push")) (aCons (eCall (cl 2 (C i_l_thing)) (aCons (eVar 0) (aCons (eC (.int 2)) aNil))) aNil)))) sNil)
 (sSeq (sIf (eTb (eBin gEq (eVar 3) (eC (.str "wrap")))) (sRet (eTup (aCons (eVar 3) (aCons (eCall (cl 2 (C i_l_draw)) (aCons (eVar 0) (aCons (eVar 1) aNil))) aNil)))) sNil)
 (sSeq (sIf (eTb (eBin gNe (eVar 3) (eC (.str "if")))) (sRet (eTup (aCons (eVar 3) (aCons (eCall (cl 2 (C i_l_draw)) (aCons (eVar 0) (aCons (eVar 1) aNil))) (aCons (eCall (cl 2 (C i_l_draw)) (aCons (eVar 0) (aCons (eVar 1) aNil))) aNil))))) sNil)
 (sSeq (sAsg (gN 4) (eCall gTuple (aCons (eComp (iRange1 (aCons (eCall (cl 2 (C i_l_draw)) (aCons (eVar 0) (aCons (eC (.int 4)) aNil))) aNil)) (gN 7) bYes (eCall (cl 2 (C i_l_draw)) (aCons (eVar 0) (aCons (eVar 1) aNil))) [7]) aNil)))
 (sSeq (sAsg (gN 5) (eCall (cl 2 (C i_l_draw)) (aCons (eVar 0) (aCons (eC (.int 4)) aNil))))
 (sSeq (sAsg (gN 6) (eComp (iRange1 (aCons (eC (.int 2)) aNil)) (gN 7) bYes (eCall (cl 4 (C i_l_code)) (aCons (eVar 0) (aCons (eCall gLen (aCons (eVar 4) aNil)) (aCons (eVar 5) (aCons (eBin gSub (eVar 2) (eC (.int 1))) aNil))))) [7]))
 (sRet (eTup (aCons (eVar 3) (aCons (eCall (cl 2 (C i_l_draw)) (aCons (eVar 0) (aCons (eVar 1) aNil))) (aCons (eVar 4) (aCons (eBin gIx (eVar 6) (eC (.int 0))) (aCons (eBin gIx (eVar 6) (eC (.int 1))) aNil))))))))))))))
noncomputable def b_l_made (fu : Nat) (C : Nat → List D → M D) : EvS :=
 (sSeq (sIf (eTb (eBin gEq (eBin gIx (eVar 0) (eC (.int 0))) (eC (.str "if")))) (sRet (eCall gLen (aCons (eBin gIx (eBin gIx (eVar 0) (eC (.int 3))) (eC (.int 2))) aNil))) sNil)
 (sRet (eC (.int 1))))
noncomputable def b_l_code (fu : Nat) (C : Nat → List D → M D) : EvS :=
 (sSeq (sAsg (gN 4) (eLstM aNil))
 (sSeq (sAsg (gN 5) (eVar 1))
 (sSeq (sFor (iRange1 (aCons (eBin gAdd (eCall (cl 2 (C i_l_draw)) (aCons (eVar 0) (aCons (eC (.int 6)) aNil))) (eCall gInt (aCons (eBin gEq (eVar 1) (eC (.int 0))) aNil))) aNil)) (gN 6) (sSeq (sExpr (eMeth "list" gAppend (eVar 4) (aCons (eCall (cl 3 (C i_l_op)) (aCons (eVar 0) (aCons (eVar 5) (aCons (eVar 3) aNil)))) aNil)))
 (sAsg (gN 5) (eBin gAdd (eVar 5) (eCall (cl 1 (C i_l_made)) (aCons (eBin gIx (eVar 4) (eUn gNeg (eC (.int 1)))) aNil))))))
 (sSeq (sIf (eTb (eBin gEq (eVar 5) (eC (.int 0)))) (sSeq (sExpr (eMeth "list" gAppend (eVar 4) (aCons (eTup (aCons (eC (.str "push")) (aCons (eCall (cl 2 (C i_l_thing)) (aCons (eVar 0) (aCons (eC (.int 1)) aNil))) aNil))) aNil)))
 (sAsg (gN 5) (eC (.int 1)))) sNil)
 (sRet (eTup (aCons (eVar 1) (aCons (eCall gTuple (aCons (eVar 4) aNil)) (aCons (eCall gTuple (aCons (eComp (iRange1 (aCons (eVar 2) aNil)) (gN 6) bYes (eCall (cl 2 (C i_l_draw)) (aCons (eVar 0) (aCons (eVar 5) aNil))) [6]) aNil)) aNil)))))))))
noncomputable def b_l_deep (fu : Nat) (C : Nat → List D → M D) : EvS :=
 (sSeq (sIf (eTb (eBin gEq (eBin gIx (eVar 0) (eC (.int 0))) (eC (.str "number")))) (sRet (eC (.int 0))) sNil)
 (sSeq (sAsg (gN 1) (eCall gList (aCons (eBin gIx (eVar 0) (eC (.int 1))) aNil)))
 (sSeq (sIf (eTb (eBin gEq (eBin gIx (eVar 0) (eC (.int 0))) (eC (.str "row")))) (sAsg (gN 1) (eComp (iIt (eBin gIx (eVar 0) (eC (.int 1)))) (gN 2) (eT (eIsi "tuple" (eVar 2))) (eBin gIx (eVar 2) (eC (.int 1))) [2])) sNil)
 (sRet (eBin gAdd (eC (.int 1)) (eCall gMaxL (aCons (eBin gAdd (eLst (aCons (eC (.int 0)) aNil)) (eComp (iIt (eVar 1)) (gN 3) bYes (eCall (cl 1 (C i_l_deep)) (aCons (eVar 3) aNil)) [3])) aNil)))))))
noncomputable def b_l_pair_op (fu : Nat) (C : Nat → List D → M D) : EvS :=
 (sSeq (sIf (eTb (eBin gEq (eVar 0) (eC (.str "put")))) (sSeq (sIf (eTb (eBin gNe (eBin gIx (eVar 1) (eC (.int 0))) (eC (.str "list")))) (sRet (eC .non)) sNil)
 (sRet (eTup (aCons (eC (.str "list")) (aCons (eBin gAdd (eBin gIx (eVar 1) (eC (.int 1))) (eTup (aCons (eVar 2) aNil))) aNil))))) sNil)
 (sSeq (sIf (eTb (eBin gEq (eVar 0) (eC (.str "join")))) (sSeq (sIf (bOr (eTb (eBin gNe (eBin gIx (eVar 1) (eC (.int 0))) (eC (.str "row")))) (eTb (eBin gNe (eBin gIx (eVar 2) (eC (.int 0))) (eC (.str "row"))))) (sRet (eC .non)) sNil)
 (sRet (eTup (aCons (eC (.str "row")) (aCons (eBin gAdd (eBin gIx (eVar 1) (eC (.int 1))) (eBin gIx (eVar 2) (eC (.int 1)))) aNil))))) sNil)
 (sSeq (sIf (bOr (eTb (eBin gNe (eBin gIx (eVar 1) (eC (.int 0))) (eC (.str "number")))) (eTb (eBin gNe (eBin gIx (eVar 2) (eC (.int 0))) (eC (.str "number"))))) (sRet (eC .non)) sNil)
 (sSeq (sAsg (gN 3) (eBin gIx (eVar 1) (eC (.int 1))))
 (sSeq (sAsg (gN 4) (eBin gIx (eVar 2) (eC (.int 1))))
 (sSeq (sAsg (gN 5) (eDct ["plus", "minus", "times", "less", "same"] (aCons (eBin gAdd (eVar 3) (eVar 4)) (aCons (eBin gSub (eVar 3) (eVar 4)) (aCons (eBin gMul (eVar 3) (eVar 4)) (aCons (eCall gInt (aCons (eBin gLt (eVar 3) (eVar 4)) aNil)) (aCons (eCall gInt (aCons (eBin gEq (eVar 3) (eVar 4)) aNil)) aNil)))))))
 (sRet (eTup (aCons (eC (.str "number")) (aCons (eBin gMod (eDGet (eVar 5) (eVar 0)) (eBin gPow (eC (.int 10)) (eC (.int 12)))) aNil))))))))))
noncomputable def b_l_told (fu : Nat) (C : Nat → List D → M D) : EvS :=
 (sSeq (sIf (eTb (eBin gNe (eCall gLen (aCons (eVar 1) aNil)) (eBin gIx (eVar 0) (eC (.int 0))))) (sRet (eC .non)) sNil)
 (sSeq (sAsg (gN 2) (eCall gList (aCons (eVar 1) aNil)))
 (sSeq (sFor (iIt (eBin gIx (eVar 0) (eC (.int 1)))) (gN 3) (sSeq (sIf (eTb (eBin gEq (eBin gIx (eVar 3) (eC (.int 0))) (eC (.str "push")))) (sAsg (gN 4) (eLst (aCons (eBin gIx (eVar 3) (eC (.int 1))) aNil))) (sIf (eTb (eBin gEq (eBin gIx (eVar 3) (eC (.int 0))) (eC (.str "wrap")))) (sAsg (gN 4) (eLst (aCons (eTup (aCons (eC (.str "row")) (aCons (eTup (aCons (eTup (aCons (eC (.str "push")) (aCons (eBin gIx (eVar 2) (eBin gIx (eVar 3) (eC (.int 1)))) aNil))) aNil)) aNil))) aNil))) (sIf (eTb (eBin gEq (eBin gIx (eVar 3) (eC (.int 0))) (eC (.str "if")))) (sSeq (sIf (eTb (eBin gNe (eBin gIx (eBin gIx (eVar 2) (eBin gIx (eVar 3) (eC (.int 1)))) (eC (.int 0))) (eC (.str "number")))) (sRet (eC .non)) sNil)
 (sAsg (gN 4) (eCall (cl 2 (C i_l_told)) (aCons (eBin gIx (eVar 3) (eBin gAdd (eC (.int 3)) (eCall gInt (aCons (eBin gEq (eBin gIx (eBin gIx (eVar 2) (eBin gIx (eVar 3) (eC (.int 1)))) (eC (.int 1))) (eC (.int 0))) aNil)))) (aCons (eComp (iIt (eBin gIx (eVar 3) (eC (.int 2)))) (gN 5) bYes (eBin gIx (eVar 2) (eVar 5)) [5]) aNil))))) (sAsg (gN 4) (eLst (aCons (eCall (cl 3 (C i_l_pair_op)) (aCons (eBin gIx (eVar 3) (eC (.int 0))) (aCons (eBin gIx (eVar 2) (eBin gIx (eVar 3) (eC (.int 1)))) (aCons (eBin gIx (eVar 2) (eBin gIx (eVar 3) (eC (.int 2)))) aNil)))) aNil))))))
 (sSeq (sIf (bOr (eTb (eBin gIs (eVar 4) (eC .non))) (eTb (eBin gEq (eVar 4) (eC (.str "great"))))) (sRet (eVar 4)) sNil)
 (sSeq (sIf (eTb (eBin gIn (eC .non) (eVar 4))) (sRet (eC .non)) sNil)
 (sSeq (sIf (eTb (eBin gNe (eComp (iIt (eVar 4)) (gN 6) (bOr (eTb (eBin gGt (eCall (cl 1 (C i_l_size)) (aCons (eLst (aCons (eVar 6) aNil)) aNil)) (eC (.int 300)))) (eTb (eBin gGt (eCall (cl 1 (C i_l_deep)) (aCons (eVar 6) aNil)) (eC (.int 90))))) (eVar 6) [6]) (eLst aNil))) (sRet (eC (.str "great"))) sNil)
 (sAsg (gN 2) (eBin gAdd (eVar 2) (eVar 4))))))))
 (sRet (eComp (iIt (eBin gIx (eVar 0) (eC (.int 2)))) (gN 5) bYes (eBin gIx (eVar 2) (eVar 5)) [5])))))
noncomputable def b_l_run_told (fu : Nat) (C : Nat → List D → M D) : EvS :=
 (sSeq (sAsg (gN 2) (eC .non))
 (sSeq (sTryAs 3 (tblSub [("NoStep", true)]) (sAsg (gN 2) (eCall (cl 2 (C i_run_code)) (aCons (eVar 0) (aCons (eVar 1) aNil)))) (suiteOf (fun bs => sAsg (gN 2) (eC (.lst (bs.map D.bl)))) [("NoStep", [true, true, false, false])]))
 (sRet (eVar 2))))
noncomputable def b_law (fu : Nat) (C : Nat → List D → M D) : EvS :=
 (sSeq (sAsg (gN 1) (eCall (cl 2 (C i_l_deck)) (aCons (eVar 0) (aCons (eC (.int 600)) aNil))))
 (sSeq (sAsg (gN 2) (eCall (cl 4 (C i_l_code)) (aCons (eVar 1) (aCons (eCall (cl 2 (C i_l_draw)) (aCons (eVar 1) (aCons (eC (.int 5)) aNil))) (aCons (eCall (cl 2 (C i_l_draw)) (aCons (eVar 1) (aCons (eC (.int 6)) aNil))) (aCons (eC (.int 2)) aNil))))))
 (sSeq (sFor (iRange1 (aCons (eC (.int 4)) aNil)) (gN 3) (sSeq (sAsg (gN 4) (eBin gAdd (eBin gIx (eVar 2) (eC (.int 0))) (eBin gIx (eLst (aCons (eC (.int 0)) (aCons (eC (.int 0)) (aCons (eC (.int 0)) (aCons (eC (.int 1)) (aCons (eC (.int 0)) (aCons (eC (.int 0)) (aCons (eC (.int 0)) (aCons (eUn gNeg (eC (.int 1))) aNil))))))))) (eCall (cl 2 (C i_l_draw)) (aCons (eVar 1) (aCons (eC (.int 8)) aNil))))))
 (sSeq (sAsg (gN 5) (eComp (iRange1 (aCons (eVar 4) aNil)) (gN 9) bYes (eTup (aCons (eC (.str "number")) (aCons (eCall (cl 1 (C i_l_number)) (aCons (eVar 1) aNil)) aNil))) [9]))
 (sSeq (sIf (eTb (eBin gEq (eCall (cl 2 (C i_l_draw)) (aCons (eVar 1) (aCons (eC (.int 2)) aNil))) (eC (.int 1)))) (sAsg (gN 5) (eComp (iRange1 (aCons (eVar 4) aNil)) (gN 9) bYes (eCall (cl 2 (C i_l_thing)) (aCons (eVar 1) (aCons (eC (.int 2)) aNil))) [9])) sNil)
 (sSeq (sAsg (gN 6) (eCall (cl 2 (C i_l_told)) (aCons (eVar 2) (aCons (eVar 5) aNil))))
 (sFor (iRange1 (aCons (eBin gMul (eC (.int 2)) (eCall gInt (aCons (eBin gNe (eVar 6) (eC (.str "great"))) aNil))) aNil)) (gN 7) (sSeq (sAsg (gN 8) (eCall (cl 2 (C i_l_run_told)) (aCons (eVar 2) (aCons (eCall gTuple (aCons (eVar 5) aNil)) aNil))))
 (sIf (eTb (eBin gIs (eVar 6) (eC .non))) (sIf (eTb (eBin gNe (eVar 8) (eLst (aCons (eC (.bl true)) (aCons (eC (.bl true)) (aCons (eC (.bl false)) (aCons (eC (.bl false)) aNil))))))) (sRet (eC (.bl false))) sNil) (sIf (bOr (bNot (eT (eIsi "tuple" (eVar 8)))) (eTb (eBin gNe (eVar 8) (eCall gTuple (aCons (eVar 6) aNil))))) (sRet (eC (.bl false))) sNil)))))))))
 (sRet (eC (.bl true))))))
noncomputable def den (fu : Nat) : Nat → Nat → List D → M D
  | 0, _ => fun _ => stuck
  | n + 1, i => match i with
    | 0 => runDef false 2 (b_inside fu (den fu n))
    | 1 => runDef false 1 (b_push fu (den fu n))
    | 2 => runDef false 3 (b_reckoned fu (den fu n))
    | 3 => runDef false 7 (b_done_rows fu (den fu n))
    | 4 => runDef false 5 (b_done_things fu (den fu n))
    | 5 => runDef false 3 (b_done fu (den fu n))
    | 6 => runDef false 1 (b_is_set fu (den fu n))
    | 7 => runDef false 10 (b_run_code fu (den fu n))
    | 8 => runDef false 1 (b_l_mixed fu (den fu n))
    | 9 => runDef true 4 (b_l_deck fu (den fu n))
    | 10 => runDef false 3 (b_l_draw fu (den fu n))
    | 11 => runDef false 4 (b_l_size fu (den fu n))
    | 12 => runDef false 2 (b_l_cut fu (den fu n))
    | 13 => runDef false 1 (b_l_number fu (den fu n))
    | 14 => runDef false 5 (b_l_thing fu (den fu n))
    | 15 => runDef false 7 (b_l_shuffle fu (den fu n))
    | 16 => runDef false 4 (b_l_any_word fu (den fu n))
    | 17 => runDef false 8 (b_l_op fu (den fu n))
    | 18 => runDef false 1 (b_l_made fu (den fu n))
    | 19 => runDef false 7 (b_l_code fu (den fu n))
    | 20 => runDef false 4 (b_l_deep fu (den fu n))
    | 21 => runDef false 6 (b_l_pair_op fu (den fu n))
    | 22 => runDef false 7 (b_l_told fu (den fu n))
    | 23 => runDef false 4 (b_l_run_told fu (den fu n))
    | 24 => runDef false 10 (b_law fu (den fu n))
    | _ => fun _ => stuck
end K64

namespace K64
open PySem L2 PyProof.Rows DL
def topS (i : Nat) : Stmt := PySem.Challenge.pw_takeleave_k64_codes_run.main.body.getD i (.Pass ⟨0, 0, 0, 0⟩)
abbrev s_inside : Stmt := topS 7
abbrev n_inside : List Str := ["thing", "kind"]
abbrev p_inside : List Str := ["thing", "kind"]
abbrev s_push : Stmt := topS 8
abbrev n_push : List Str := ["thing"]
abbrev p_push : List Str := ["thing"]
abbrev s_reckoned : Stmt := topS 9
abbrev n_reckoned : List Str := ["word", "m", "n"]
abbrev p_reckoned : List Str := ["word", "m", "n"]
abbrev s_done_rows : Stmt := topS 10
abbrev n_done_rows : List Str := ["word", "things", "number", "row", "rows", "ask", "again"]
abbrev p_done_rows : List Str := ["word", "things"]
abbrev s_done_things : Stmt := topS 11
abbrev n_done_things : List Str := ["word", "things", "some", "row", "other"]
abbrev p_done_things : List Str := ["word", "things"]
abbrev s_done : Stmt := topS 12
abbrev n_done : List Str := ["word", "things", "number"]
abbrev p_done : List Str := ["word", "things"]
abbrev s_is_set : Stmt := topS 14
abbrev n_is_set : List Str := ["thing"]
abbrev p_is_set : List Str := ["thing"]
abbrev s_run_code : Stmt := topS 15
abbrev n_run_code : List Str := ["code", "things", "registers", "op", "takes", "ops", "outs", "inner", "side", "one"]
abbrev p_run_code : List Str := ["code", "things"]
abbrev s_l_mixed : Stmt := topS 17
abbrev n_l_mixed : List Str := ["_law_number_here"]
abbrev p_l_mixed : List Str := ["_law_number_here"]
abbrev s_l_deck : Stmt := topS 18
abbrev n_l_deck : List Str := ["_law_script", "_law_most", "_law_deck_here", "_law_last"]
abbrev p_l_deck : List Str := ["_law_script", "_law_most"]
abbrev s_l_draw : Stmt := topS 19
abbrev n_l_draw : List Str := ["_law_deck_here", "_law_most", "_law_cell"]
abbrev p_l_draw : List Str := ["_law_deck_here", "_law_most"]
abbrev s_l_size : Stmt := topS 20
abbrev n_l_size : List Str := ["_law_things", "_law_total", "_law_thing_here", "_law_word"]
abbrev p_l_size : List Str := ["_law_things"]
abbrev s_l_cut : Stmt := topS 21
abbrev n_l_cut : List Str := ["_law_words", "_law_most"]
abbrev p_l_cut : List Str := ["_law_words", "_law_most"]
abbrev s_l_number : Stmt := topS 22
abbrev n_l_number : List Str := ["_law_deck_here"]
abbrev p_l_number : List Str := ["_law_deck_here"]
abbrev s_l_thing : Stmt := topS 23
abbrev n_l_thing : List Str := ["_law_deck_here", "_law_deep_here", "_law_way", "_law_some", "_law_k"]
abbrev p_l_thing : List Str := ["_law_deck_here", "_law_deep_here"]
abbrev s_l_shuffle : Stmt := topS 24
abbrev n_l_shuffle : List Str := ["_law_deck_here", "_law_most", "_law_many", "_law_letters", "_law_left", "_law_wide", "_law_k"]
abbrev p_l_shuffle : List Str := ["_law_deck_here", "_law_most"]
abbrev s_l_any_word : Stmt := topS 25
abbrev n_l_any_word : List Str := ["_law_deck_here", "_law_deep_here", "_law_basic", "_law_way"]
abbrev p_l_any_word : List Str := ["_law_deck_here", "_law_deep_here"]
abbrev s_l_op : Stmt := topS 26
abbrev n_l_op : List Str := ["_law_deck_here", "_law_many", "_law_deep_here", "_law_word", "_law_args", "_law_wide", "_law_sides", "_law_k"]
abbrev p_l_op : List Str := ["_law_deck_here", "_law_many", "_law_deep_here"]
abbrev s_l_made : Stmt := topS 27
abbrev n_l_made : List Str := ["_law_op_here"]
abbrev p_l_made : List Str := ["_law_op_here"]
abbrev s_l_code : Stmt := topS 28
abbrev n_l_code : List Str := ["_law_deck_here", "_law_takes", "_law_wide", "_law_deep_here", "_law_ops", "_law_many", "_law_k"]
abbrev p_l_code : List Str := ["_law_deck_here", "_law_takes", "_law_wide", "_law_deep_here"]
abbrev s_l_deep : Stmt := topS 29
abbrev n_l_deep : List Str := ["_law_thing_here", "_law_inner", "_law_word", "_law_one"]
abbrev p_l_deep : List Str := ["_law_thing_here"]
abbrev s_l_pair_op : Stmt := topS 30
abbrev n_l_pair_op : List Str := ["_law_word", "_law_one", "_law_other", "_law_m", "_law_n", "_law_told_here"]
abbrev p_l_pair_op : List Str := ["_law_word", "_law_one", "_law_other"]
abbrev s_l_told : Stmt := topS 31
abbrev n_l_told : List Str := ["_law_code_here", "_law_things", "_law_found", "_law_op_here", "_law_made_here", "_law_k", "_law_thing_here"]
abbrev p_l_told : List Str := ["_law_code_here", "_law_things"]
abbrev s_l_run_told : Stmt := topS 32
abbrev n_l_run_told : List Str := ["_law_code_here", "_law_things", "_law_found", "e"]
abbrev p_l_run_told : List Str := ["_law_code_here", "_law_things"]
abbrev s_law : Stmt := topS 33
abbrev n_law : List Str := ["_law_script", "_law_deck_here", "_law_code_here", "_law_turn", "_law_many", "_law_things", "_law_due", "_law_again", "_law_got", "_law_k"]
abbrev p_law : List Str := ["_law_script"]
structure Tx (K : PySem.W.Frag) (mg : Str → Option Value) where
  a_inside : Addr
  f_inside : FuncData
  d_inside : DefAt K mg "inside" s_inside p_inside a_inside f_inside
  a_push : Addr
  f_push : FuncData
  d_push : DefAt K mg "push" s_push p_push a_push f_push
  a_reckoned : Addr
  f_reckoned : FuncData
  d_reckoned : DefAt K mg "reckoned" s_reckoned p_reckoned a_reckoned f_reckoned
  a_done_rows : Addr
  f_done_rows : FuncData
  d_done_rows : DefAt K mg "done_rows" s_done_rows p_done_rows a_done_rows f_done_rows
  a_done_things : Addr
  f_done_things : FuncData
  d_done_things : DefAt K mg "done_things" s_done_things p_done_things a_done_things f_done_things
  a_done : Addr
  f_done : FuncData
  d_done : DefAt K mg "done" s_done p_done a_done f_done
  a_is_set : Addr
  f_is_set : FuncData
  d_is_set : DefAt K mg "is_set" s_is_set p_is_set a_is_set f_is_set
  a_run_code : Addr
  f_run_code : FuncData
  d_run_code : DefAt K mg "run_code" s_run_code p_run_code a_run_code f_run_code
  a_l_mixed : Addr
  f_l_mixed : FuncData
  d_l_mixed : DefAt K mg "_law_mixed" s_l_mixed p_l_mixed a_l_mixed f_l_mixed
  a_l_deck : Addr
  f_l_deck : FuncData
  d_l_deck : DefAt K mg "_law_deck" s_l_deck p_l_deck a_l_deck f_l_deck
  a_l_draw : Addr
  f_l_draw : FuncData
  d_l_draw : DefAt K mg "_law_draw" s_l_draw p_l_draw a_l_draw f_l_draw
  a_l_size : Addr
  f_l_size : FuncData
  d_l_size : DefAt K mg "_law_size" s_l_size p_l_size a_l_size f_l_size
  a_l_cut : Addr
  f_l_cut : FuncData
  d_l_cut : DefAt K mg "_law_cut" s_l_cut p_l_cut a_l_cut f_l_cut
  a_l_number : Addr
  f_l_number : FuncData
  d_l_number : DefAt K mg "_law_number" s_l_number p_l_number a_l_number f_l_number
  a_l_thing : Addr
  f_l_thing : FuncData
  d_l_thing : DefAt K mg "_law_thing" s_l_thing p_l_thing a_l_thing f_l_thing
  a_l_shuffle : Addr
  f_l_shuffle : FuncData
  d_l_shuffle : DefAt K mg "_law_shuffle" s_l_shuffle p_l_shuffle a_l_shuffle f_l_shuffle
  a_l_any_word : Addr
  f_l_any_word : FuncData
  d_l_any_word : DefAt K mg "_law_any_word" s_l_any_word p_l_any_word a_l_any_word f_l_any_word
  a_l_op : Addr
  f_l_op : FuncData
  d_l_op : DefAt K mg "_law_op" s_l_op p_l_op a_l_op f_l_op
  a_l_made : Addr
  f_l_made : FuncData
  d_l_made : DefAt K mg "_law_made" s_l_made p_l_made a_l_made f_l_made
  a_l_code : Addr
  f_l_code : FuncData
  d_l_code : DefAt K mg "_law_code" s_l_code p_l_code a_l_code f_l_code
  a_l_deep : Addr
  f_l_deep : FuncData
  d_l_deep : DefAt K mg "_law_deep" s_l_deep p_l_deep a_l_deep f_l_deep
  a_l_pair_op : Addr
  f_l_pair_op : FuncData
  d_l_pair_op : DefAt K mg "_law_pair_op" s_l_pair_op p_l_pair_op a_l_pair_op f_l_pair_op
  a_l_told : Addr
  f_l_told : FuncData
  d_l_told : DefAt K mg "_law_told" s_l_told p_l_told a_l_told f_l_told
  a_l_run_told : Addr
  f_l_run_told : FuncData
  d_l_run_told : DefAt K mg "_law_run_told" s_l_run_told p_l_run_told a_l_run_told f_l_run_told
  a_law : Addr
  f_law : FuncData
  d_law : DefAt K mg "law" s_law p_law a_law f_law
  z_ValueError : mg "ValueError" = none
  z_int : mg "int" = none
  z_isinstance : mg "isinstance" = none
  z_len : mg "len" = none
  z_list : mg "list" = none
  z_max : mg "max" = none
  z_range : mg "range" = none
  z_sum : mg "sum" = none
  z_tuple : mg "tuple" = none
  e_NoStep : Addr
  E_NoStep : ExAt K mg "NoStep" e_NoStep
  X_NoStep : ExcC K e_NoStep
  C_NoStep : ClAt K mg "NoStep" e_NoStep
  e_TakeError : Addr
  C_TakeError : ClAt K mg "TakeError" e_TakeError
  e_NoCode : Addr
  C_NoCode : ClAt K mg "NoCode" e_NoCode
  e_NoText : Addr
  C_NoText : ClAt K mg "NoText" e_NoText
  u_NoStep_NoStep : PySem.W.subIn K (.ref e_NoStep) (.ref e_NoStep) = some true
  u_NoStep_TakeError : PySem.W.subIn K (.ref e_NoStep) (.ref e_TakeError) = some true
  u_NoStep_NoCode : PySem.W.subIn K (.ref e_NoStep) (.ref e_NoCode) = some false
  u_NoStep_NoText : PySem.W.subIn K (.ref e_NoStep) (.ref e_NoText) = some false
  v_NoStep_ValueError : PySem.W.subIn K (.ref e_NoStep) (.type "ValueError") = some true
  c_WHOLE : GV K mg "WHOLE" k_WHOLE
structure Cal (P : Program) (w : World) (K : PySem.W.Frag) (mg : Str → Option Value) (base : Heap) (T : Tx K mg) (k : Nat) (C : Nat → List D → M D) : Prop where
  inside : FnOk P w K mg base (L2.CX P w) (k + 20) T.a_inside T.f_inside p_inside (spD K mg (p_inside).length (C i_inside))
  push : FnOk P w K mg base (L2.CX P w) (k + 20) T.a_push T.f_push p_push (spD K mg (p_push).length (C i_push))
  reckoned : FnOk P w K mg base (L2.CX P w) (k + 20) T.a_reckoned T.f_reckoned p_reckoned (spD K mg (p_reckoned).length (C i_reckoned))
  done_rows : FnOk P w K mg base (L2.CX P w) (k + 20) T.a_done_rows T.f_done_rows p_done_rows (spD K mg (p_done_rows).length (C i_done_rows))
  done_things : FnOk P w K mg base (L2.CX P w) (k + 20) T.a_done_things T.f_done_things p_done_things (spD K mg (p_done_things).length (C i_done_things))
  done : FnOk P w K mg base (L2.CX P w) (k + 20) T.a_done T.f_done p_done (spD K mg (p_done).length (C i_done))
  is_set : FnOk P w K mg base (L2.CX P w) (k + 20) T.a_is_set T.f_is_set p_is_set (spD K mg (p_is_set).length (C i_is_set))
  run_code : FnOk P w K mg base (L2.CX P w) (k + 20) T.a_run_code T.f_run_code p_run_code (spD K mg (p_run_code).length (C i_run_code))
  l_mixed : FnOk P w K mg base (L2.CX P w) (k + 20) T.a_l_mixed T.f_l_mixed p_l_mixed (spD K mg (p_l_mixed).length (C i_l_mixed))
  l_deck : FnOk P w K mg base (L2.CX P w) (k + 20) T.a_l_deck T.f_l_deck p_l_deck (spD K mg (p_l_deck).length (C i_l_deck))
  l_draw : FnOk P w K mg base (L2.CX P w) (k + 20) T.a_l_draw T.f_l_draw p_l_draw (spD K mg (p_l_draw).length (C i_l_draw))
  l_size : FnOk P w K mg base (L2.CX P w) (k + 20) T.a_l_size T.f_l_size p_l_size (spD K mg (p_l_size).length (C i_l_size))
  l_cut : FnOk P w K mg base (L2.CX P w) (k + 20) T.a_l_cut T.f_l_cut p_l_cut (spD K mg (p_l_cut).length (C i_l_cut))
  l_number : FnOk P w K mg base (L2.CX P w) (k + 20) T.a_l_number T.f_l_number p_l_number (spD K mg (p_l_number).length (C i_l_number))
  l_thing : FnOk P w K mg base (L2.CX P w) (k + 20) T.a_l_thing T.f_l_thing p_l_thing (spD K mg (p_l_thing).length (C i_l_thing))
  l_shuffle : FnOk P w K mg base (L2.CX P w) (k + 20) T.a_l_shuffle T.f_l_shuffle p_l_shuffle (spD K mg (p_l_shuffle).length (C i_l_shuffle))
  l_any_word : FnOk P w K mg base (L2.CX P w) (k + 20) T.a_l_any_word T.f_l_any_word p_l_any_word (spD K mg (p_l_any_word).length (C i_l_any_word))
  l_op : FnOk P w K mg base (L2.CX P w) (k + 20) T.a_l_op T.f_l_op p_l_op (spD K mg (p_l_op).length (C i_l_op))
  l_made : FnOk P w K mg base (L2.CX P w) (k + 20) T.a_l_made T.f_l_made p_l_made (spD K mg (p_l_made).length (C i_l_made))
  l_code : FnOk P w K mg base (L2.CX P w) (k + 20) T.a_l_code T.f_l_code p_l_code (spD K mg (p_l_code).length (C i_l_code))
  l_deep : FnOk P w K mg base (L2.CX P w) (k + 20) T.a_l_deep T.f_l_deep p_l_deep (spD K mg (p_l_deep).length (C i_l_deep))
  l_pair_op : FnOk P w K mg base (L2.CX P w) (k + 20) T.a_l_pair_op T.f_l_pair_op p_l_pair_op (spD K mg (p_l_pair_op).length (C i_l_pair_op))
  l_told : FnOk P w K mg base (L2.CX P w) (k + 20) T.a_l_told T.f_l_told p_l_told (spD K mg (p_l_told).length (C i_l_told))
  l_run_told : FnOk P w K mg base (L2.CX P w) (k + 20) T.a_l_run_told T.f_l_run_told p_l_run_told (spD K mg (p_l_run_told).length (C i_l_run_told))
  law : FnOk P w K mg base (L2.CX P w) (k + 20) T.a_law T.f_law p_law (spD K mg (p_law).length (C i_law))
section
variable {P : Program} {w : World} {K : PySem.W.Frag} {mg : Str → Option Value} {base : Heap} {T : Tx K mg} {k : Nat} {C : Nat → List D → M D}
theorem sc_inside : FnScope n_inside p_inside (defScope s_inside) := ⟨rfl, rfl, rfl, by decide +kernel, rfl, by decide +kernel, by decide +kernel⟩
theorem ok_inside (fu : Nat) (c : Cal P w K mg base T k C) : FnOk P w K mg base (L2.CX P w) (k + 20 + 1) T.a_inside T.f_inside p_inside (spD K mg (p_inside).length (runDef false 2 (b_inside fu C))) := by
  refine' fn_okL (N := n_inside) T.d_inside.fn sc_inside ?hB ?hS ?body
  case hB => conv => lhs; whnf
  case hS => conv => lhs; whnf
  case body =>
  intro cdv A outer s H E hr nd tk pw
  exact (ss_cons (s_if (t_cmp (o_ne (room_w hr)) (d_ix (d_var 0) d_int) (d_var 1) (nomark _)) (ss_one (s_raise T.E_NoStep rfl tk (d_bin o_add d_str (d_var 1)))) ss_nil)
 (ss_one (s_ret (d_ix (d_var 0) d_int))))
theorem sc_push : FnScope n_push p_push (defScope s_push) := ⟨rfl, rfl, rfl, by decide +kernel, rfl, by decide +kernel, by decide +kernel⟩
theorem ok_push (fu : Nat) (c : Cal P w K mg base T k C) : FnOk P w K mg base (L2.CX P w) (k + 20 + 1) T.a_push T.f_push p_push (spD K mg (p_push).length (runDef false 1 (b_push fu C))) := by
  refine' fn_okL (N := n_push) T.d_push.fn sc_push ?hB ?hS ?body
  case hB => conv => lhs; whnf
  case hS => conv => lhs; whnf
  case body =>
  intro cdv A outer s H E hr nd tk pw
  exact (ss_one (s_ret (d_tup (a_cons d_str (a_cons (d_var 0) a_nil)))))
theorem sc_reckoned : FnScope n_reckoned p_reckoned (defScope s_reckoned) := ⟨rfl, rfl, rfl, by decide +kernel, rfl, by decide +kernel, by decide +kernel⟩
theorem ok_reckoned (fu : Nat) (c : Cal P w K mg base T k C) : FnOk P w K mg base (L2.CX P w) (k + 20 + 1) T.a_reckoned T.f_reckoned p_reckoned (spD K mg (p_reckoned).length (runDef false 3 (b_reckoned fu C))) := by
  refine' fn_okL (N := n_reckoned) T.d_reckoned.fn sc_reckoned ?hB ?hS ?body
  case hB => conv => lhs; whnf
  case hS => conv => lhs; whnf
  case body =>
  intro cdv A outer s H E hr nd tk pw
  exact (ss_cons (s_if (t_cmp (o_eq (room_w hr)) (d_var 0) d_str (nomark _)) (ss_one (s_ret (d_bin o_mod (d_bin o_add (d_var 1) (d_var 2)) (d_globv T.c_WHOLE)))) ss_nil)
 (ss_cons (s_if (t_cmp (o_eq (room_w hr)) (d_var 0) d_str (nomark _)) (ss_one (s_ret (d_bin o_mod (d_bin o_sub (d_var 1) (d_var 2)) (d_globv T.c_WHOLE)))) ss_nil)
 (ss_cons (s_if (t_cmp (o_eq (room_w hr)) (d_var 0) d_str (nomark _)) (ss_one (s_ret (d_bin o_mod (d_bin o_mul (d_var 1) (d_var 2)) (d_globv T.c_WHOLE)))) ss_nil)
 (ss_cons (s_if (t_cmp (o_eq (room_w hr)) (d_var 0) d_str (nomark _)) (ss_one (s_ret (d_callTy c_int (by rfl) T.z_int (by decide +kernel) (a_cons (d_cmp o_lt (d_var 1) (d_var 2) (nomark _)) a_nil)))) ss_nil)
 (ss_one (s_ret (d_callTy c_int (by rfl) T.z_int (by decide +kernel) (a_cons (d_cmp (o_eq (room_w hr)) (d_var 1) (d_var 2) (nomark _)) a_nil))))))))
theorem sc_done_rows : FnScope n_done_rows p_done_rows (defScope s_done_rows) := ⟨rfl, rfl, rfl, by decide +kernel, rfl, by decide +kernel, by decide +kernel⟩
theorem ok_done_rows (fu : Nat) (c : Cal P w K mg base T k C) : FnOk P w K mg base (L2.CX P w) (k + 20 + 1) T.a_done_rows T.f_done_rows p_done_rows (spD K mg (p_done_rows).length (runDef false 7 (b_done_rows fu C))) := by
  refine' fn_okL (N := n_done_rows) T.d_done_rows.fn sc_done_rows ?hB ?hS ?body
  case hB => conv => lhs; whnf
  case hS => conv => lhs; whnf
  case body =>
  intro cdv A outer s H E hr nd tk pw
  exact (ss_cons (s_if (t_cmp (o_eq (room_w hr)) (d_var 0) d_str (nomark _)) (ss_one (s_ret (d_tup (a_cons (d_tup a_nil) (a_cons (d_call c.inside hr rfl T.d_inside.mg T.d_inside.fn.kp T.d_inside.bi tk (a_cons (d_ix (d_var 1) d_int) (a_cons d_str a_nil))) a_nil))))) ss_nil)
 (ss_cons (s_if (t_cmp (o_eq (room_w hr)) (d_var 0) d_str (nomark _)) (ss_one (s_ret (d_tup (a_cons (d_tup a_nil) (a_cons (d_bin o_add (d_call c.inside hr rfl T.d_inside.mg T.d_inside.fn.kp T.d_inside.bi tk (a_cons (d_ix (d_var 1) d_int) (a_cons d_str a_nil))) (d_tup (a_cons (d_call c.push hr rfl T.d_push.mg T.d_push.fn.kp T.d_push.bi tk (a_cons (d_ix (d_var 1) d_int) a_nil)) a_nil))) a_nil))))) ss_nil)
 (ss_cons (s_if (t_cmp (o_eq (room_w hr)) (d_var 0) d_str (nomark _)) (ss_cons (s_set 2 nd (d_call c.inside hr rfl T.d_inside.mg T.d_inside.fn.kp T.d_inside.bi tk (a_cons (d_ix (d_var 1) d_int) (a_cons d_str a_nil))))
 (ss_cons (s_set 4 nd (d_tup (a_cons (d_call c.inside hr rfl T.d_inside.mg T.d_inside.fn.kp T.d_inside.bi tk (a_cons (d_ix (d_var 1) d_int) (a_cons d_str a_nil))) (a_cons (d_call c.inside hr rfl T.d_inside.mg T.d_inside.fn.kp T.d_inside.bi tk (a_cons (d_ix (d_var 1) d_int) (a_cons d_str a_nil))) a_nil))))
 (ss_one (s_ret (d_tup (a_cons (d_tup a_nil) (a_cons (d_ix (d_var 4) (d_callTy c_int (by rfl) T.z_int (by decide +kernel) (a_cons (d_cmp (o_ne (room_w hr)) (d_var 2) d_int (nomark _)) a_nil))) a_nil))))))) ss_nil)
 (ss_cons (s_if (t_cmp (o_eq (room_w hr)) (d_var 0) d_str (nomark _)) (ss_cons (s_set 5 nd (d_call c.inside hr rfl T.d_inside.mg T.d_inside.fn.kp T.d_inside.bi tk (a_cons (d_ix (d_var 1) d_int) (a_cons d_str a_nil))))
 (ss_cons (s_set 6 nd (d_bin o_add (d_call c.inside hr rfl T.d_inside.mg T.d_inside.fn.kp T.d_inside.bi tk (a_cons (d_ix (d_var 1) d_int) (a_cons d_str a_nil))) (d_tup (a_cons (d_call c.push hr rfl T.d_push.mg T.d_push.fn.kp T.d_push.bi tk (a_cons (d_ix (d_var 1) d_int) a_nil)) (a_cons (d_call c.push hr rfl T.d_push.mg T.d_push.fn.kp T.d_push.bi tk (a_cons (d_ix (d_var 1) d_int) a_nil)) (a_cons d_str a_nil))))))
 (ss_one (s_ret (d_tup (a_cons (d_tup a_nil) (a_cons (d_bin o_add (d_var 5) (d_tup (a_cons (d_call c.push hr rfl T.d_push.mg T.d_push.fn.kp T.d_push.bi tk (a_cons (d_tup (a_cons d_str (a_cons (d_var 6) a_nil))) a_nil)) (a_cons (d_call c.push hr rfl T.d_push.mg T.d_push.fn.kp T.d_push.bi tk (a_cons (d_tup (a_cons d_str (a_cons (d_tup a_nil) a_nil))) a_nil)) (a_cons d_str a_nil))))) a_nil))))))) ss_nil)
 (ss_cons (s_set 2 nd (d_call c.inside hr rfl T.d_inside.mg T.d_inside.fn.kp T.d_inside.bi tk (a_cons (d_ix (d_var 1) d_int) (a_cons d_str a_nil))))
 (ss_cons (s_set 3 nd (d_call c.inside hr rfl T.d_inside.mg T.d_inside.fn.kp T.d_inside.bi tk (a_cons (d_ix (d_var 1) d_int) (a_cons d_str a_nil))))
 (ss_cons (s_if (t_cmp (o_eq (room_w hr)) (d_var 2) d_int (nomark _)) (ss_one (s_ret (d_tup (a_cons (d_tup a_nil) (a_cons (d_tup a_nil) a_nil))))) ss_nil)
 (ss_one (s_ret (d_tup (a_cons (d_tup a_nil) (a_cons (d_bin o_add (d_var 3) (d_tup (a_cons (d_call c.push hr rfl T.d_push.mg T.d_push.fn.kp T.d_push.bi tk (a_cons (d_tup (a_cons d_str (a_cons (d_bin o_sub (d_var 2) d_int) a_nil))) a_nil)) (a_cons (d_call c.push hr rfl T.d_push.mg T.d_push.fn.kp T.d_push.bi tk (a_cons (d_ix (d_var 1) d_int) a_nil)) (a_cons d_str a_nil))))) a_nil))))))))))))
theorem sc_done_things : FnScope n_done_things p_done_things (defScope s_done_things) := ⟨rfl, rfl, rfl, by decide +kernel, rfl, by decide +kernel, by decide +kernel⟩
theorem ok_done_things (fu : Nat) (c : Cal P w K mg base T k C) : FnOk P w K mg base (L2.CX P w) (k + 20 + 1) T.a_done_things T.f_done_things p_done_things (spD K mg (p_done_things).length (runDef false 5 (b_done_things fu C))) := by
  refine' fn_okL (N := n_done_things) T.d_done_things.fn sc_done_things ?hB ?hS ?body
  case hB => conv => lhs; whnf
  case hS => conv => lhs; whnf
  case body =>
  intro cdv A outer s H E hr nd tk pw
  exact (ss_cons (s_if (t_cmp (o_eq (room_w hr)) (d_var 0) d_str (nomark _)) (ss_one (s_ret (d_tup (a_cons (d_tup (a_cons (d_tup (a_cons d_str (a_cons (d_bin o_add (d_call c.inside hr rfl T.d_inside.mg T.d_inside.fn.kp T.d_inside.bi tk (a_cons (d_ix (d_var 1) d_int) (a_cons d_str a_nil))) (d_call c.inside hr rfl T.d_inside.mg T.d_inside.fn.kp T.d_inside.bi tk (a_cons (d_ix (d_var 1) d_int) (a_cons d_str a_nil)))) a_nil))) a_nil)) (a_cons (d_tup a_nil) a_nil))))) ss_nil)
 (ss_cons (s_if (t_cmp (o_eq (room_w hr)) (d_var 0) d_str (nomark _)) (ss_one (s_ret (d_tup (a_cons (d_tup (a_cons (d_tup (a_cons d_str (a_cons (d_tup (a_cons (d_call c.push hr rfl T.d_push.mg T.d_push.fn.kp T.d_push.bi tk (a_cons (d_ix (d_var 1) d_int) a_nil)) a_nil)) a_nil))) a_nil)) (a_cons (d_tup a_nil) a_nil))))) ss_nil)
 (ss_cons (s_if (t_cmp (o_eq (room_w hr)) (d_var 0) d_str (nomark _)) (ss_one (s_ret (d_tup (a_cons (d_tup (a_cons (d_tup (a_cons d_str (a_cons (d_bin o_add (d_call c.inside hr rfl T.d_inside.mg T.d_inside.fn.kp T.d_inside.bi tk (a_cons (d_ix (d_var 1) d_int) (a_cons d_str a_nil))) (d_tup (a_cons (d_ix (d_var 1) d_int) a_nil))) a_nil))) a_nil)) (a_cons (d_tup a_nil) a_nil))))) ss_nil)
 (ss_cons (s_set 2 nd (d_call c.inside hr rfl T.d_inside.mg T.d_inside.fn.kp T.d_inside.bi tk (a_cons (d_ix (d_var 1) d_int) (a_cons d_str a_nil))))
 (ss_cons (s_set 3 nd (d_call c.inside hr rfl T.d_inside.mg T.d_inside.fn.kp T.d_inside.bi tk (a_cons (d_ix (d_var 1) d_int) (a_cons d_str a_nil))))
 (ss_cons (s_if (t_cmp (o_eq (room_w hr)) (d_var 0) d_str (nomark _)) (ss_cons (s_set 4 nd (d_call c.inside hr rfl T.d_inside.mg T.d_inside.fn.kp T.d_inside.bi tk (a_cons (d_ix (d_var 1) d_int) (a_cons d_str a_nil))))
 (ss_cons (s_if (t_cmp (o_eq (room_w hr)) (d_var 2) (d_tup a_nil) (nomark _)) (ss_one (s_ret (d_tup (a_cons (d_tup a_nil) (a_cons (d_var 4) a_nil))))) ss_nil)
 (ss_one (s_ret (d_tup (a_cons (d_tup (a_cons (d_ix (d_var 2) d_int) (a_cons (d_tup (a_cons d_str (a_cons (d_slice false (d_var 2) (o_some d_int) o_none) a_nil))) a_nil))) (a_cons (d_var 3) a_nil))))))) ss_nil)
 (ss_cons (s_if (t_cmp (o_eq (room_w hr)) (d_var 2) (d_tup a_nil) (nomark _)) (ss_one (s_ret (d_tup (a_cons (d_tup a_nil) (a_cons (d_tup a_nil) a_nil))))) ss_nil)
 (ss_one (s_ret (d_tup (a_cons (d_tup (a_cons (d_ix (d_var 2) d_int) a_nil)) (a_cons (d_bin o_add (d_var 3) (d_tup (a_cons (d_call c.push hr rfl T.d_push.mg T.d_push.fn.kp T.d_push.bi tk (a_cons (d_tup (a_cons d_str (a_cons (d_slice false (d_var 2) (o_some d_int) o_none) a_nil))) a_nil)) (a_cons (d_call c.push hr rfl T.d_push.mg T.d_push.fn.kp T.d_push.bi tk (a_cons (d_ix (d_var 1) d_int) a_nil)) (a_cons d_str a_nil))))) a_nil))))))))))))
theorem sc_done : FnScope n_done p_done (defScope s_done) := ⟨rfl, rfl, rfl, by decide +kernel, rfl, by decide +kernel, by decide +kernel⟩
theorem ok_done (fu : Nat) (c : Cal P w K mg base T k C) : FnOk P w K mg base (L2.CX P w) (k + 20 + 1) T.a_done T.f_done p_done (spD K mg (p_done).length (runDef false 3 (b_done fu C))) := by
  refine' fn_okL (N := n_done) T.d_done.fn sc_done ?hB ?hS ?body
  case hB => conv => lhs; whnf
  case hS => conv => lhs; whnf
  case body =>
  intro cdv A outer s H E hr nd tk pw
  exact (ss_cons (s_if (t_cmp (o_in (room_w hr)) (d_var 0) (d_tup (a_cons d_str (a_cons d_str (a_cons d_str (a_cons d_str (a_cons d_str a_nil)))))) (by rfl)) (ss_cons (s_set 2 nd (d_call c.reckoned hr rfl T.d_reckoned.mg T.d_reckoned.fn.kp T.d_reckoned.bi tk (a_cons (d_var 0) (a_cons (d_call c.inside hr rfl T.d_inside.mg T.d_inside.fn.kp T.d_inside.bi tk (a_cons (d_ix (d_var 1) d_int) (a_cons d_str a_nil))) (a_cons (d_call c.inside hr rfl T.d_inside.mg T.d_inside.fn.kp T.d_inside.bi tk (a_cons (d_ix (d_var 1) d_int) (a_cons d_str a_nil))) a_nil)))))
 (ss_one (s_ret (d_tup (a_cons (d_tup (a_cons (d_tup (a_cons d_str (a_cons (d_var 2) a_nil))) a_nil)) (a_cons (d_tup a_nil) a_nil)))))) ss_nil)
 (ss_cons (s_if (t_cmp (o_in (room_w hr)) (d_var 0) (d_tup (a_cons d_str (a_cons d_str (a_cons d_str (a_cons d_str (a_cons d_str a_nil)))))) (by rfl)) (ss_one (s_ret (d_call c.done_rows hr rfl T.d_done_rows.mg T.d_done_rows.fn.kp T.d_done_rows.bi tk (a_cons (d_var 0) (a_cons (d_var 1) a_nil))))) ss_nil)
 (ss_one (s_ret (d_call c.done_things hr rfl T.d_done_things.mg T.d_done_things.fn.kp T.d_done_things.bi tk (a_cons (d_var 0) (a_cons (d_var 1) a_nil)))))))
theorem sc_is_set : FnScope n_is_set p_is_set (defScope s_is_set) := ⟨rfl, rfl, rfl, by decide +kernel, rfl, by decide +kernel, by decide +kernel⟩
theorem ok_is_set (fu : Nat) (c : Cal P w K mg base T k C) : FnOk P w K mg base (L2.CX P w) (k + 20 + 1) T.a_is_set T.f_is_set p_is_set (spD K mg (p_is_set).length (runDef false 1 (b_is_set fu C))) := by
  refine' fn_okL (N := n_is_set) T.d_is_set.fn sc_is_set ?hB ?hS ?body
  case hB => conv => lhs; whnf
  case hS => conv => lhs; whnf
  case body =>
  intro cdv A outer s H E hr nd tk pw
  exact (ss_cons (s_if (t_cmp (o_ne (room_w hr)) (d_ix (d_var 0) d_int) d_str (nomark _)) (ss_one (s_raise T.E_NoStep rfl tk d_str)) ss_nil)
 (ss_one (s_ret (d_cmp (o_ne (room_w hr)) (d_ix (d_var 0) d_int) d_int (nomark _)))))
theorem sc_run_code : FnScope n_run_code p_run_code (defScope s_run_code) := ⟨rfl, rfl, rfl, by decide +kernel, rfl, by decide +kernel, by decide +kernel⟩
theorem ok_run_code (fu : Nat) (c : Cal P w K mg base T k C) : FnOk P w K mg base (L2.CX P w) (k + 20 + 1) T.a_run_code T.f_run_code p_run_code (spD K mg (p_run_code).length (runDef false 10 (b_run_code fu C))) := by
  refine' fn_okL (N := n_run_code) T.d_run_code.fn sc_run_code ?hB ?hS ?body
  case hB => conv => lhs; whnf
  case hS => conv => lhs; whnf
  case body =>
  intro cdv A outer s H E hr nd tk pw
  exact (ss_cons (s_asg (d_var 0) (g_tup (gs_cons 4 (gs_cons 5 (gs_cons 6 gs_nil)))) (pg_tup rfl (pgs_cons (pg_name (i := 4) nd rfl (by first | exact Or.inl rfl | exact Or.inr rfl)) (pgs_cons (pg_name (i := 5) nd rfl (by first | exact Or.inl rfl | exact Or.inr rfl)) (pgs_cons (pg_name (i := 6) nd rfl (by first | exact Or.inl rfl | exact Or.inr rfl)) pgs_nil)))))
 (ss_cons (s_if (t_cmp (o_ne (room_w hr)) (d_callB c_len (by rfl) T.z_len (by decide +kernel) (a_cons (d_var 1) a_nil)) (d_var 4) (nomark _)) (ss_one (s_raise T.E_NoStep rfl tk d_str)) ss_nil)
 (ss_cons (s_set 2 nd (d_callTy c_listM (by rfl) T.z_list (by decide +kernel) (a_cons (d_var 1) a_nil)))
 (ss_cons (s_for pw rfl (i_it (d_var 5)) (g_name 3) (pg_name (i := 3) nd rfl (by first | exact Or.inl rfl | exact Or.inr rfl)) (ss_one (s_if (t_cmp (o_eq (room_w hr)) (d_ix (d_var 3) d_int) d_str (nomark _)) (ss_one (s_expr (d_meth PySem.F.plainAttrs_list PySem.F.slot_list_append PySem.F.type_list_append m_append (d_var 2) (a_cons (d_ix (d_var 3) d_int) a_nil)))) (ss_one (s_if (t_cmp (o_eq (room_w hr)) (d_ix (d_var 3) d_int) d_str (nomark _)) (ss_cons (s_set 7 nd (d_callTy c_tuple (by rfl) T.z_tuple (by decide +kernel) (a_cons (d_comp rfl nd (i_it (d_ix (d_var 3) d_int)) (blkOk_by (own := [("one", 9)]) (N := n_run_code) (sc := defScope s_run_code) (by decide +kernel)) rfl (g_name 9) (by decide) (fun _ _ _ _ _ => (pg_name (i := 9) nd rfl (by first | exact Or.inl rfl | exact Or.inr rfl))) (fun _ _ _ _ _ => ts_nil) (fun _ _ _ _ _ => (d_ix (d_var 2) (d_var 9)))) a_nil)))
 (ss_cons (s_set 8 nd (d_ix (d_var 3) d_int))
 (ss_cons (s_if (t_truth (d_call c.is_set hr rfl T.d_is_set.mg T.d_is_set.fn.kp T.d_is_set.bi tk (a_cons (d_ix (d_var 2) (d_ix (d_var 3) d_int)) a_nil))) (ss_one (s_set 8 nd (d_ix (d_var 3) d_int))) ss_nil)
 (ss_one (s_expr (d_meth PySem.F.plainAttrs_list PySem.F.slot_list_extend PySem.F.type_list_extend m_extend (d_var 2) (a_cons (d_callTy c_list (by rfl) T.z_list (by decide +kernel) (a_cons (d_call c.run_code hr rfl T.d_run_code.mg T.d_run_code.fn.kp T.d_run_code.bi tk (a_cons (d_var 8) (a_cons (d_var 7) a_nil))) a_nil)) a_nil))))))) (ss_one (s_expr (d_meth PySem.F.plainAttrs_list PySem.F.slot_list_extend PySem.F.type_list_extend m_extend (d_var 2) (a_cons (d_callTy c_list (by rfl) T.z_list (by decide +kernel) (a_cons (d_ix (d_call c.done hr rfl T.d_done.mg T.d_done.fn.kp T.d_done.bi tk (a_cons (d_ix (d_var 3) d_int) (a_cons (d_callTy c_tuple (by rfl) T.z_tuple (by decide +kernel) (a_cons (d_comp rfl nd (i_it (d_slice false (d_var 3) (o_some d_int) o_none)) (blkOk_by (own := [("one", 9)]) (N := n_run_code) (sc := defScope s_run_code) (by decide +kernel)) rfl (g_name 9) (by decide) (fun _ _ _ _ _ => (pg_name (i := 9) nd rfl (by first | exact Or.inl rfl | exact Or.inr rfl))) (fun _ _ _ _ _ => ts_nil) (fun _ _ _ _ _ => (d_ix (d_var 2) (d_var 9)))) a_nil)) a_nil))) d_int) a_nil)) a_nil)))))))))
 (ss_one (s_ret (d_callTy c_tuple (by rfl) T.z_tuple (by decide +kernel) (a_cons (d_comp rfl nd (i_it (d_var 6)) (blkOk_by (own := [("one", 9)]) (N := n_run_code) (sc := defScope s_run_code) (by decide +kernel)) rfl (g_name 9) (by decide) (fun _ _ _ _ _ => (pg_name (i := 9) nd rfl (by first | exact Or.inl rfl | exact Or.inr rfl))) (fun _ _ _ _ _ => ts_nil) (fun _ _ _ _ _ => (d_ix (d_var 2) (d_var 9)))) a_nil))))))))
theorem sc_l_mixed : FnScope n_l_mixed p_l_mixed (defScope s_l_mixed) := ⟨rfl, rfl, rfl, by decide +kernel, rfl, by decide +kernel, by decide +kernel⟩
theorem ok_l_mixed (fu : Nat) (c : Cal P w K mg base T k C) : FnOk P w K mg base (L2.CX P w) (k + 20 + 1) T.a_l_mixed T.f_l_mixed p_l_mixed (spD K mg (p_l_mixed).length (runDef false 1 (b_l_mixed fu C))) := by
  refine' fn_okL (N := n_l_mixed) T.d_l_mixed.fn sc_l_mixed ?hB ?hS ?body
  case hB => conv => lhs; whnf
  case hS => conv => lhs; whnf
  case body =>
  intro cdv A outer s H E hr nd tk pw
  exact (ss_cons (s_set 0 nd (d_bin o_mod (d_bin o_add (d_bin o_mul (d_bin o_mod (d_var 0) d_int) d_int) d_int) d_int))
 (ss_cons (s_set 0 nd (d_bin o_mod (d_bin o_add (d_bin o_add (d_bin o_mul (d_var 0) (d_var 0)) (d_bin o_mul d_int (d_var 0))) d_int) d_int))
 (ss_one (s_ret (d_bin o_mod (d_bin o_add (d_bin o_mul (d_var 0) d_int) d_int) d_int)))))
theorem sc_l_deck : FnScope n_l_deck p_l_deck (defScope s_l_deck) := ⟨rfl, rfl, rfl, by decide +kernel, rfl, by decide +kernel, by decide +kernel⟩
theorem ok_l_deck (fu : Nat) (c : Cal P w K mg base T k C) : FnOk P w K mg base (L2.CX P w) (k + 20 + 1) T.a_l_deck T.f_l_deck p_l_deck (spD K mg (p_l_deck).length (runDef true 4 (b_l_deck fu C))) := by
  refine' fn_okL (N := n_l_deck) T.d_l_deck.fn sc_l_deck ?hB ?hS ?body
  case hB => conv => lhs; whnf
  case hS => conv => lhs; whnf
  case body =>
  intro cdv A outer s H E hr nd tk pw
  exact (ss_cons (s_set 2 nd (d_callTy c_listM (by rfl) T.z_list (by decide +kernel) (a_cons (d_slice false (d_var 0) o_none (o_some d_int)) a_nil)))
 (ss_cons (s_set 3 nd (d_bin o_add d_int (d_bin o_mod (d_callB (c_sum rfl) (by rfl) T.z_sum (by decide +kernel) (a_cons (d_var 2) a_nil)) d_int)))
 (ss_cons (s_while fu pw (t_cmp o_lt (d_callB c_len (by rfl) T.z_len (by decide +kernel) (a_cons (d_var 2) a_nil)) (d_var 1) (nomark _)) (ss_cons (s_set 3 nd (d_call c.l_mixed hr rfl T.d_l_mixed.mg T.d_l_mixed.fn.kp T.d_l_mixed.bi tk (a_cons (d_bin o_add (d_var 3) (d_callB c_len (by rfl) T.z_len (by decide +kernel) (a_cons (d_var 2) a_nil))) a_nil)))
 (ss_one (s_expr (d_meth PySem.F.plainAttrs_list PySem.F.slot_list_append PySem.F.type_list_append m_append (d_var 2) (a_cons (d_var 3) a_nil))))))
 (ss_one (s_ret (d_rev true (d_var 2)))))))
theorem sc_l_draw : FnScope n_l_draw p_l_draw (defScope s_l_draw) := ⟨rfl, rfl, rfl, by decide +kernel, rfl, by decide +kernel, by decide +kernel⟩
theorem ok_l_draw (fu : Nat) (c : Cal P w K mg base T k C) : FnOk P w K mg base (L2.CX P w) (k + 20 + 1) T.a_l_draw T.f_l_draw p_l_draw (spD K mg (p_l_draw).length (runDef false 3 (b_l_draw fu C))) := by
  refine' fn_okL (N := n_l_draw) T.d_l_draw.fn sc_l_draw ?hB ?hS ?body
  case hB => conv => lhs; whnf
  case hS => conv => lhs; whnf
  case body =>
  intro cdv A outer s H E hr nd tk pw
  exact (ss_cons (s_if (t_cmp (o_eq (room_w hr)) (d_var 0) (d_lst a_nil) (nomark _)) (ss_one (s_ret d_int)) ss_nil)
 (ss_cons (s_set 2 nd (d_meth0 PySem.F.plainAttrs_list PySem.F.slot_list_pop PySem.F.type_list_pop m_pop (d_var 0)))
 (ss_cons (s_if (t_cmp o_ge (d_var 2) (d_bin o_pow d_int d_int) (nomark _)) (ss_cons (s_expr (d_meth PySem.F.plainAttrs_list PySem.F.slot_list_append PySem.F.type_list_append m_append (d_var 0) (a_cons (d_bin o_div (d_var 2) (d_var 1)) a_nil)))
 (ss_one (s_ret (d_bin o_mod (d_var 2) (d_var 1))))) ss_nil)
 (ss_one (s_ret (d_bin o_mod (d_call c.l_mixed hr rfl T.d_l_mixed.mg T.d_l_mixed.fn.kp T.d_l_mixed.bi tk (a_cons (d_var 2) a_nil)) (d_var 1)))))))
theorem sc_l_size : FnScope n_l_size p_l_size (defScope s_l_size) := ⟨rfl, rfl, rfl, by decide +kernel, rfl, by decide +kernel, by decide +kernel⟩
theorem ok_l_size (fu : Nat) (c : Cal P w K mg base T k C) : FnOk P w K mg base (L2.CX P w) (k + 20 + 1) T.a_l_size T.f_l_size p_l_size (spD K mg (p_l_size).length (runDef false 4 (b_l_size fu C))) := by
  refine' fn_okL (N := n_l_size) T.d_l_size.fn sc_l_size ?hB ?hS ?body
  case hB => conv => lhs; whnf
  case hS => conv => lhs; whnf
  case body =>
  intro cdv A outer s H E hr nd tk pw
  exact (ss_cons (s_set 1 nd d_int)
 (ss_cons (s_for pw rfl (i_it (d_var 0)) (g_name 2) (pg_name (i := 2) nd rfl (by first | exact Or.inl rfl | exact Or.inr rfl)) (ss_cons (s_set 1 nd (d_bin o_add (d_var 1) d_int))
 (ss_cons (s_if (t_cmp (o_eq (room_w hr)) (d_ix (d_var 2) d_int) d_str (nomark _)) (ss_one (s_set 1 nd (d_bin o_add (d_var 1) (d_call c.l_size hr rfl T.d_l_size.mg T.d_l_size.fn.kp T.d_l_size.bi tk (a_cons (d_ix (d_var 2) d_int) a_nil))))) ss_nil)
 (ss_one (s_if (t_cmp (o_eq (room_w hr)) (d_ix (d_var 2) d_int) d_str (nomark _)) (ss_one (s_set 1 nd (d_bin o_add (d_bin o_add (d_var 1) (d_callB c_len (by rfl) T.z_len (by decide +kernel) (a_cons (d_ix (d_var 2) d_int) a_nil))) (d_call c.l_size hr rfl T.d_l_size.mg T.d_l_size.fn.kp T.d_l_size.bi tk (a_cons (d_comp rfl nd (i_it (d_ix (d_var 2) d_int)) (blkOk_by (own := [("_law_word", 3)]) (N := n_l_size) (sc := defScope s_l_size) (by decide +kernel)) rfl (g_name 3) (by decide) (fun _ _ _ _ _ => (pg_name (i := 3) nd rfl (by first | exact Or.inl rfl | exact Or.inr rfl))) (fun _ _ _ _ _ => ts_one (t_truth (d_isi "tuple" rfl T.z_isinstance (d_var 3) rfl T.z_tuple (by decide +kernel) (by decide)))) (fun _ _ _ _ _ => (d_ix (d_var 3) d_int))) a_nil))))) ss_nil)))))
 (ss_one (s_ret (d_var 1)))))
theorem sc_l_cut : FnScope n_l_cut p_l_cut (defScope s_l_cut) := ⟨rfl, rfl, rfl, by decide +kernel, rfl, by decide +kernel, by decide +kernel⟩
theorem ok_l_cut (fu : Nat) (c : Cal P w K mg base T k C) : FnOk P w K mg base (L2.CX P w) (k + 20 + 1) T.a_l_cut T.f_l_cut p_l_cut (spD K mg (p_l_cut).length (runDef false 2 (b_l_cut fu C))) := by
  refine' fn_okL (N := n_l_cut) T.d_l_cut.fn sc_l_cut ?hB ?hS ?body
  case hB => conv => lhs; whnf
  case hS => conv => lhs; whnf
  case body =>
  intro cdv A outer s H E hr nd tk pw
  exact (ss_cons (s_while fu pw (t_cmp o_gt (d_call c.l_size hr rfl T.d_l_size.mg T.d_l_size.fn.kp T.d_l_size.bi tk (a_cons (d_lst (a_cons (d_tup (a_cons d_str (a_cons (d_var 0) a_nil))) a_nil)) a_nil)) (d_var 1) (nomark _)) (ss_one (s_set 0 nd (d_slice false (d_var 0) o_none (o_some (d_un o_neg d_int))))))
 (ss_one (s_ret (d_callTy c_tuple (by rfl) T.z_tuple (by decide +kernel) (a_cons (d_var 0) a_nil)))))
theorem sc_l_number : FnScope n_l_number p_l_number (defScope s_l_number) := ⟨rfl, rfl, rfl, by decide +kernel, rfl, by decide +kernel, by decide +kernel⟩
theorem ok_l_number (fu : Nat) (c : Cal P w K mg base T k C) : FnOk P w K mg base (L2.CX P w) (k + 20 + 1) T.a_l_number T.f_l_number p_l_number (spD K mg (p_l_number).length (runDef false 1 (b_l_number fu C))) := by
  refine' fn_okL (N := n_l_number) T.d_l_number.fn sc_l_number ?hB ?hS ?body
  case hB => conv => lhs; whnf
  case hS => conv => lhs; whnf
  case body =>
  intro cdv A outer s H E hr nd tk pw
  exact (ss_one (s_ret (d_ix (d_lst (a_cons d_int (a_cons d_int (a_cons d_int (a_cons (d_call c.l_draw hr rfl T.d_l_draw.mg T.d_l_draw.fn.kp T.d_l_draw.bi tk (a_cons (d_var 0) (a_cons d_int a_nil))) (a_cons (d_bin o_sub (d_bin o_pow d_int d_int) d_int) (a_cons (d_call c.l_draw hr rfl T.d_l_draw.mg T.d_l_draw.fn.kp T.d_l_draw.bi tk (a_cons (d_var 0) (a_cons (d_bin o_pow d_int d_int) a_nil))) a_nil))))))) (d_call c.l_draw hr rfl T.d_l_draw.mg T.d_l_draw.fn.kp T.d_l_draw.bi tk (a_cons (d_var 0) (a_cons d_int a_nil))))))
theorem sc_l_thing : FnScope n_l_thing p_l_thing (defScope s_l_thing) := ⟨rfl, rfl, rfl, by decide +kernel, rfl, by decide +kernel, by decide +kernel⟩
theorem ok_l_thing (fu : Nat) (c : Cal P w K mg base T k C) : FnOk P w K mg base (L2.CX P w) (k + 20 + 1) T.a_l_thing T.f_l_thing p_l_thing (spD K mg (p_l_thing).length (runDef false 5 (b_l_thing fu C))) := by
  refine' fn_okL (N := n_l_thing) T.d_l_thing.fn sc_l_thing ?hB ?hS ?body
  case hB => conv => lhs; whnf
  case hS => conv => lhs; whnf
  case body =>
  intro cdv A outer s H E hr nd tk pw
  exact (ss_cons (s_set 2 nd (d_call c.l_draw hr rfl T.d_l_draw.mg T.d_l_draw.fn.kp T.d_l_draw.bi tk (a_cons (d_var 0) (a_cons d_int a_nil))))
 (ss_cons (s_if (PW.pt (w_or (t_cmp (o_eq (room_w hr)) (d_var 1) d_int (nomark _)) (w_one_or (t_cmp o_lt (d_var 2) d_int (nomark _))))) (ss_one (s_ret (d_tup (a_cons d_str (a_cons (d_call c.l_number hr rfl T.d_l_number.mg T.d_l_number.fn.kp T.d_l_number.bi tk (a_cons (d_var 0) a_nil)) a_nil))))) ss_nil)
 (ss_cons (s_set 3 nd (d_ix (d_lst (a_cons (d_call c.l_draw hr rfl T.d_l_draw.mg T.d_l_draw.fn.kp T.d_l_draw.bi tk (a_cons (d_var 0) (a_cons d_int a_nil))) (a_cons (d_call c.l_draw hr rfl T.d_l_draw.mg T.d_l_draw.fn.kp T.d_l_draw.bi tk (a_cons (d_var 0) (a_cons d_int a_nil))) (a_cons (d_call c.l_draw hr rfl T.d_l_draw.mg T.d_l_draw.fn.kp T.d_l_draw.bi tk (a_cons (d_var 0) (a_cons d_int a_nil))) a_nil)))) (d_call c.l_draw hr rfl T.d_l_draw.mg T.d_l_draw.fn.kp T.d_l_draw.bi tk (a_cons (d_var 0) (a_cons d_int a_nil)))))
 (ss_cons (s_if (t_cmp o_lt (d_var 2) d_int (nomark _)) (ss_one (s_ret (d_tup (a_cons d_str (a_cons (d_call c.l_cut hr rfl T.d_l_cut.mg T.d_l_cut.fn.kp T.d_l_cut.bi tk (a_cons (d_comp rfl nd (i_range1 rfl T.z_range (a_cons (d_var 3) a_nil)) (blkOk_by (own := [("_law_k", 4)]) (N := n_l_thing) (sc := defScope s_l_thing) (by decide +kernel)) rfl (g_name 4) (by decide) (fun _ _ _ _ _ => (pg_name (i := 4) nd rfl (by first | exact Or.inl rfl | exact Or.inr rfl))) (fun _ _ _ _ _ => ts_nil) (fun _ _ _ _ _ => (d_call c.l_any_word hr rfl T.d_l_any_word.mg T.d_l_any_word.fn.kp T.d_l_any_word.bi takes0 (a_cons (d_var 0) (a_cons (d_bin o_sub (d_var 1) d_int) a_nil))))) (a_cons d_int a_nil))) a_nil))))) ss_nil)
 (ss_one (s_ret (d_tup (a_cons d_str (a_cons (d_callTy c_tuple (by rfl) T.z_tuple (by decide +kernel) (a_cons (d_comp rfl nd (i_range1 rfl T.z_range (a_cons (d_var 3) a_nil)) (blkOk_by (own := [("_law_k", 4)]) (N := n_l_thing) (sc := defScope s_l_thing) (by decide +kernel)) rfl (g_name 4) (by decide) (fun _ _ _ _ _ => (pg_name (i := 4) nd rfl (by first | exact Or.inl rfl | exact Or.inr rfl))) (fun _ _ _ _ _ => ts_nil) (fun _ _ _ _ _ => (d_call c.l_thing hr rfl T.d_l_thing.mg T.d_l_thing.fn.kp T.d_l_thing.bi takes0 (a_cons (d_var 0) (a_cons (d_bin o_sub (d_var 1) d_int) a_nil))))) a_nil)) a_nil)))))))))
theorem sc_l_shuffle : FnScope n_l_shuffle p_l_shuffle (defScope s_l_shuffle) := ⟨rfl, rfl, rfl, by decide +kernel, rfl, by decide +kernel, by decide +kernel⟩
theorem ok_l_shuffle (fu : Nat) (c : Cal P w K mg base T k C) : FnOk P w K mg base (L2.CX P w) (k + 20 + 1) T.a_l_shuffle T.f_l_shuffle p_l_shuffle (spD K mg (p_l_shuffle).length (runDef false 7 (b_l_shuffle fu C))) := by
  refine' fn_okL (N := n_l_shuffle) T.d_l_shuffle.fn sc_l_shuffle ?hB ?hS ?body
  case hB => conv => lhs; whnf
  case hS => conv => lhs; whnf
  case body =>
  intro cdv A outer s H E hr nd tk pw
  exact (ss_cons (s_set 2 nd (d_call c.l_draw hr rfl T.d_l_draw.mg T.d_l_draw.fn.kp T.d_l_draw.bi tk (a_cons (d_var 0) (a_cons (d_bin o_add (d_var 1) d_int) a_nil))))
 (ss_cons (s_set 3 nd (d_slice false d_str o_none (o_some (d_var 2))))
 (ss_cons (s_set 4 nd d_str)
 (ss_cons (s_if (t_cmp o_gt (d_var 2) d_int (nomark _)) (ss_cons (s_set 5 nd (d_ix (d_lst (a_cons d_int (a_cons d_int a_nil))) (d_bin o_div (d_call c.l_draw hr rfl T.d_l_draw.mg T.d_l_draw.fn.kp T.d_l_draw.bi tk (a_cons (d_var 0) (a_cons d_int a_nil))) d_int)))
 (ss_one (s_for pw rfl (i_range1 rfl T.z_range (a_cons (d_call c.l_draw hr rfl T.d_l_draw.mg T.d_l_draw.fn.kp T.d_l_draw.bi tk (a_cons (d_var 0) (a_cons (d_var 5) a_nil))) a_nil)) (g_name 6) (pg_name (i := 6) nd rfl (by first | exact Or.inl rfl | exact Or.inr rfl)) (ss_one (s_set 4 nd (d_bin o_add (d_var 4) (d_ix (d_var 3) (d_call c.l_draw hr rfl T.d_l_draw.mg T.d_l_draw.fn.kp T.d_l_draw.bi tk (a_cons (d_var 0) (a_cons (d_var 2) a_nil)))))))))) ss_nil)
 (ss_one (s_ret (d_bin o_add (d_bin o_add (d_var 3) d_str) (d_var 4))))))))
theorem sc_l_any_word : FnScope n_l_any_word p_l_any_word (defScope s_l_any_word) := ⟨rfl, rfl, rfl, by decide +kernel, rfl, by decide +kernel, by decide +kernel⟩
theorem ok_l_any_word (fu : Nat) (c : Cal P w K mg base T k C) : FnOk P w K mg base (L2.CX P w) (k + 20 + 1) T.a_l_any_word T.f_l_any_word p_l_any_word (spD K mg (p_l_any_word).length (runDef false 4 (b_l_any_word fu C))) := by
  refine' fn_okL (N := n_l_any_word) T.d_l_any_word.fn sc_l_any_word ?hB ?hS ?body
  case hB => conv => lhs; whnf
  case hS => conv => lhs; whnf
  case body =>
  intro cdv A outer s H E hr nd tk pw
  exact (ss_cons (s_set 2 nd (d_lst (a_cons d_str (a_cons d_str (a_cons d_str (a_cons d_str (a_cons d_str (a_cons d_str (a_cons d_str (a_cons d_str (a_cons d_str (a_cons d_str (a_cons d_str (a_cons d_str (a_cons d_str a_nil)))))))))))))))
 (ss_cons (s_set 3 nd (d_call c.l_draw hr rfl T.d_l_draw.mg T.d_l_draw.fn.kp T.d_l_draw.bi tk (a_cons (d_var 0) (a_cons d_int a_nil))))
 (ss_cons (s_if (t_cmp o_lt (d_var 3) d_int (nomark _)) (ss_one (s_ret (d_tup (a_cons d_str (a_cons (d_call c.l_thing hr rfl T.d_l_thing.mg T.d_l_thing.fn.kp T.d_l_thing.bi tk (a_cons (d_var 0) (a_cons (d_var 1) a_nil))) a_nil))))) ss_nil)
 (ss_cons (s_if (t_cmp o_lt (d_var 3) d_int (nomark _)) (ss_one (s_ret (d_call c.l_shuffle hr rfl T.d_l_shuffle.mg T.d_l_shuffle.fn.kp T.d_l_shuffle.bi tk (a_cons (d_var 0) (a_cons (d_ix (d_lst (a_cons d_int (a_cons d_int a_nil))) (d_bin o_div (d_call c.l_draw hr rfl T.d_l_draw.mg T.d_l_draw.fn.kp T.d_l_draw.bi tk (a_cons (d_var 0) (a_cons d_int a_nil))) d_int)) a_nil))))) ss_nil)
 (ss_one (s_ret (d_ix (d_bin o_add (d_var 2) (d_lst (a_cons d_str (a_cons d_str a_nil)))) (d_call c.l_draw hr rfl T.d_l_draw.mg T.d_l_draw.fn.kp T.d_l_draw.bi tk (a_cons (d_var 0) (a_cons d_int a_nil))))))))))
theorem sc_l_op : FnScope n_l_op p_l_op (defScope s_l_op) := ⟨rfl, rfl, rfl, by decide +kernel, rfl, by decide +kernel, by decide +kernel⟩
theorem ok_l_op (fu : Nat) (c : Cal P w K mg base T k C) : FnOk P w K mg base (L2.CX P w) (k + 20 + 1) T.a_l_op T.f_l_op p_l_op (spD K mg (p_l_op).length (runDef false 8 (b_l_op fu C))) := by
  refine' fn_okL (N := n_l_op) T.d_l_op.fn sc_l_op ?hB ?hS ?body
  case hB => conv => lhs; whnf
  case hS => conv => lhs; whnf
  case body =>
  intro cdv A outer s H E hr nd tk pw
  exact (ss_cons (s_set 3 nd (d_ix (d_lst (a_cons d_str (a_cons d_str (a_cons d_str (a_cons d_str (a_cons d_str (a_cons d_str (a_cons d_str (a_cons d_str (a_cons d_str (a_cons d_str (a_cons d_str a_nil)))))))))))) (d_call c.l_draw hr rfl T.d_l_draw.mg T.d_l_draw.fn.kp T.d_l_draw.bi tk (a_cons (d_var 0) (a_cons d_int a_nil)))))
 (ss_cons (s_if (PW.pt (w_or (t_cmp (o_eq (room_w hr)) (d_var 1) d_int (nomark _)) (w_or (t_cmp (o_eq (room_w hr)) (d_var 3) d_str (nomark _)) (w_one_or (PW.pt (w_and (t_cmp (o_eq (room_w hr)) (d_var 3) d_str (nomark _)) (w_one_and (t_cmp (o_eq (room_w hr)) (d_var 2) d_int (nomark _))))))))) (ss_one (s_ret (d_tup (a_cons d_str (a_cons (d_call c.l_thing hr rfl T.d_l_thing.mg T.d_l_thing.fn.kp T.d_l_thing.bi tk (a_cons (d_var 0) (a_cons d_int a_nil))) a_nil))))) ss_nil)
 (ss_cons (s_if (t_cmp (o_eq (room_w hr)) (d_var 3) d_str (nomark _)) (ss_one (s_ret (d_tup (a_cons (d_var 3) (a_cons (d_call c.l_draw hr rfl T.d_l_draw.mg T.d_l_draw.fn.kp T.d_l_draw.bi tk (a_cons (d_var 0) (a_cons (d_var 1) a_nil))) a_nil))))) ss_nil)
 (ss_cons (s_if (t_cmp (o_ne (room_w hr)) (d_var 3) d_str (nomark _)) (ss_one (s_ret (d_tup (a_cons (d_var 3) (a_cons (d_call c.l_draw hr rfl T.d_l_draw.mg T.d_l_draw.fn.kp T.d_l_draw.bi tk (a_cons (d_var 0) (a_cons (d_var 1) a_nil))) (a_cons (d_call c.l_draw hr rfl T.d_l_draw.mg T.d_l_draw.fn.kp T.d_l_draw.bi tk (a_cons (d_var 0) (a_cons (d_var 1) a_nil))) a_nil)))))) ss_nil)
 (ss_cons (s_set 4 nd (d_callTy c_tuple (by rfl) T.z_tuple (by decide +kernel) (a_cons (d_comp rfl nd (i_range1 rfl T.z_range (a_cons (d_call c.l_draw hr rfl T.d_l_draw.mg T.d_l_draw.fn.kp T.d_l_draw.bi tk (a_cons (d_var 0) (a_cons d_int a_nil))) a_nil)) (blkOk_by (own := [("_law_k", 7)]) (N := n_l_op) (sc := defScope s_l_op) (by decide +kernel)) rfl (g_name 7) (by decide) (fun _ _ _ _ _ => (pg_name (i := 7) nd rfl (by first | exact Or.inl rfl | exact Or.inr rfl))) (fun _ _ _ _ _ => ts_nil) (fun _ _ _ _ _ => (d_call c.l_draw hr rfl T.d_l_draw.mg T.d_l_draw.fn.kp T.d_l_draw.bi takes0 (a_cons (d_var 0) (a_cons (d_var 1) a_nil))))) a_nil)))
 (ss_cons (s_set 5 nd (d_call c.l_draw hr rfl T.d_l_draw.mg T.d_l_draw.fn.kp T.d_l_draw.bi tk (a_cons (d_var 0) (a_cons d_int a_nil))))
 (ss_cons (s_setLc 6 rfl nd (i_range1 rfl T.z_range (a_cons d_int a_nil)) (blkOk_by (own := [("_law_k", 7)]) (N := n_l_op) (sc := defScope s_l_op) (by decide +kernel)) rfl (g_name 7) (by decide) (fun _ _ _ _ _ => (pg_name (i := 7) nd rfl (by first | exact Or.inl rfl | exact Or.inr rfl))) (fun _ _ _ _ _ => ts_nil) (fun _ _ _ _ _ => (d_call c.l_code hr rfl T.d_l_code.mg T.d_l_code.fn.kp T.d_l_code.bi takes0 (a_cons (d_var 0) (a_cons (d_callB c_len (by rfl) T.z_len (by decide +kernel) (a_cons (d_var 4) a_nil)) (a_cons (d_var 5) (a_cons (d_bin o_sub (d_var 2) d_int) a_nil)))))))
 (ss_one (s_ret (d_tup (a_cons (d_var 3) (a_cons (d_call c.l_draw hr rfl T.d_l_draw.mg T.d_l_draw.fn.kp T.d_l_draw.bi tk (a_cons (d_var 0) (a_cons (d_var 1) a_nil))) (a_cons (d_var 4) (a_cons (d_ix (d_var 6) d_int) (a_cons (d_ix (d_var 6) d_int) a_nil)))))))))))))))
theorem sc_l_made : FnScope n_l_made p_l_made (defScope s_l_made) := ⟨rfl, rfl, rfl, by decide +kernel, rfl, by decide +kernel, by decide +kernel⟩
theorem ok_l_made (fu : Nat) (c : Cal P w K mg base T k C) : FnOk P w K mg base (L2.CX P w) (k + 20 + 1) T.a_l_made T.f_l_made p_l_made (spD K mg (p_l_made).length (runDef false 1 (b_l_made fu C))) := by
  refine' fn_okL (N := n_l_made) T.d_l_made.fn sc_l_made ?hB ?hS ?body
  case hB => conv => lhs; whnf
  case hS => conv => lhs; whnf
  case body =>
  intro cdv A outer s H E hr nd tk pw
  exact (ss_cons (s_if (t_cmp (o_eq (room_w hr)) (d_ix (d_var 0) d_int) d_str (nomark _)) (ss_one (s_ret (d_callB c_len (by rfl) T.z_len (by decide +kernel) (a_cons (d_ix (d_ix (d_var 0) d_int) d_int) a_nil)))) ss_nil)
 (ss_one (s_ret d_int)))
theorem sc_l_code : FnScope n_l_code p_l_code (defScope s_l_code) := ⟨rfl, rfl, rfl, by decide +kernel, rfl, by decide +kernel, by decide +kernel⟩
theorem ok_l_code (fu : Nat) (c : Cal P w K mg base T k C) : FnOk P w K mg base (L2.CX P w) (k + 20 + 1) T.a_l_code T.f_l_code p_l_code (spD K mg (p_l_code).length (runDef false 7 (b_l_code fu C))) := by
  refine' fn_okL (N := n_l_code) T.d_l_code.fn sc_l_code ?hB ?hS ?body
  case hB => conv => lhs; whnf
  case hS => conv => lhs; whnf
  case body =>
  intro cdv A outer s H E hr nd tk pw
  exact (ss_cons (s_set 4 nd (d_lstM a_nil))
 (ss_cons (s_set 5 nd (d_var 1))
 (ss_cons (s_for pw rfl (i_range1 rfl T.z_range (a_cons (d_bin o_add (d_call c.l_draw hr rfl T.d_l_draw.mg T.d_l_draw.fn.kp T.d_l_draw.bi tk (a_cons (d_var 0) (a_cons d_int a_nil))) (d_callTy c_int (by rfl) T.z_int (by decide +kernel) (a_cons (d_cmp (o_eq (room_w hr)) (d_var 1) d_int (nomark _)) a_nil))) a_nil)) (g_name 6) (pg_name (i := 6) nd rfl (by first | exact Or.inl rfl | exact Or.inr rfl)) (ss_cons (s_expr (d_meth PySem.F.plainAttrs_list PySem.F.slot_list_append PySem.F.type_list_append m_append (d_var 4) (a_cons (d_call c.l_op hr rfl T.d_l_op.mg T.d_l_op.fn.kp T.d_l_op.bi tk (a_cons (d_var 0) (a_cons (d_var 5) (a_cons (d_var 3) a_nil)))) a_nil)))
 (ss_one (s_set 5 nd (d_bin o_add (d_var 5) (d_call c.l_made hr rfl T.d_l_made.mg T.d_l_made.fn.kp T.d_l_made.bi tk (a_cons (d_ix (d_var 4) (d_un o_neg d_int)) a_nil)))))))
 (ss_cons (s_if (t_cmp (o_eq (room_w hr)) (d_var 5) d_int (nomark _)) (ss_cons (s_expr (d_meth PySem.F.plainAttrs_list PySem.F.slot_list_append PySem.F.type_list_append m_append (d_var 4) (a_cons (d_tup (a_cons d_str (a_cons (d_call c.l_thing hr rfl T.d_l_thing.mg T.d_l_thing.fn.kp T.d_l_thing.bi tk (a_cons (d_var 0) (a_cons d_int a_nil))) a_nil))) a_nil)))
 (ss_one (s_set 5 nd d_int))) ss_nil)
 (ss_one (s_ret (d_tup (a_cons (d_var 1) (a_cons (d_callTy c_tuple (by rfl) T.z_tuple (by decide +kernel) (a_cons (d_var 4) a_nil)) (a_cons (d_callTy c_tuple (by rfl) T.z_tuple (by decide +kernel) (a_cons (d_comp rfl nd (i_range1 rfl T.z_range (a_cons (d_var 2) a_nil)) (blkOk_by (own := [("_law_k", 6)]) (N := n_l_code) (sc := defScope s_l_code) (by decide +kernel)) rfl (g_name 6) (by decide) (fun _ _ _ _ _ => (pg_name (i := 6) nd rfl (by first | exact Or.inl rfl | exact Or.inr rfl))) (fun _ _ _ _ _ => ts_nil) (fun _ _ _ _ _ => (d_call c.l_draw hr rfl T.d_l_draw.mg T.d_l_draw.fn.kp T.d_l_draw.bi takes0 (a_cons (d_var 0) (a_cons (d_var 5) a_nil))))) a_nil)) a_nil))))))))))
theorem sc_l_deep : FnScope n_l_deep p_l_deep (defScope s_l_deep) := ⟨rfl, rfl, rfl, by decide +kernel, rfl, by decide +kernel, by decide +kernel⟩
theorem ok_l_deep (fu : Nat) (c : Cal P w K mg base T k C) : FnOk P w K mg base (L2.CX P w) (k + 20 + 1) T.a_l_deep T.f_l_deep p_l_deep (spD K mg (p_l_deep).length (runDef false 4 (b_l_deep fu C))) := by
  refine' fn_okL (N := n_l_deep) T.d_l_deep.fn sc_l_deep ?hB ?hS ?body
  case hB => conv => lhs; whnf
  case hS => conv => lhs; whnf
  case body =>
  intro cdv A outer s H E hr nd tk pw
  exact (ss_cons (s_if (t_cmp (o_eq (room_w hr)) (d_ix (d_var 0) d_int) d_str (nomark _)) (ss_one (s_ret d_int)) ss_nil)
 (ss_cons (s_set 1 nd (d_callTy c_list (by rfl) T.z_list (by decide +kernel) (a_cons (d_ix (d_var 0) d_int) a_nil)))
 (ss_cons (s_if (t_cmp (o_eq (room_w hr)) (d_ix (d_var 0) d_int) d_str (nomark _)) (ss_one (s_setLc 1 rfl nd (i_it (d_ix (d_var 0) d_int)) (blkOk_by (own := [("_law_word", 2)]) (N := n_l_deep) (sc := defScope s_l_deep) (by decide +kernel)) rfl (g_name 2) (by decide) (fun _ _ _ _ _ => (pg_name (i := 2) nd rfl (by first | exact Or.inl rfl | exact Or.inr rfl))) (fun _ _ _ _ _ => ts_one (t_truth (d_isi "tuple" rfl T.z_isinstance (d_var 2) rfl T.z_tuple (by decide +kernel) (by decide)))) (fun _ _ _ _ _ => (d_ix (d_var 2) d_int)))) ss_nil)
 (ss_one (s_ret (d_bin o_add d_int (d_callB (c_maxL rfl) (by rfl) T.z_max (by decide +kernel) (a_cons (d_bin o_add (d_lst (a_cons d_int a_nil)) (d_comp rfl nd (i_it (d_var 1)) (blkOk_by (own := [("_law_one", 3)]) (N := n_l_deep) (sc := defScope s_l_deep) (by decide +kernel)) rfl (g_name 3) (by decide) (fun _ _ _ _ _ => (pg_name (i := 3) nd rfl (by first | exact Or.inl rfl | exact Or.inr rfl))) (fun _ _ _ _ _ => ts_nil) (fun _ _ _ _ _ => (d_call c.l_deep hr rfl T.d_l_deep.mg T.d_l_deep.fn.kp T.d_l_deep.bi takes0 (a_cons (d_var 3) a_nil))))) a_nil))))))))
theorem sc_l_pair_op : FnScope n_l_pair_op p_l_pair_op (defScope s_l_pair_op) := ⟨rfl, rfl, rfl, by decide +kernel, rfl, by decide +kernel, by decide +kernel⟩
theorem ok_l_pair_op (fu : Nat) (c : Cal P w K mg base T k C) : FnOk P w K mg base (L2.CX P w) (k + 20 + 1) T.a_l_pair_op T.f_l_pair_op p_l_pair_op (spD K mg (p_l_pair_op).length (runDef false 6 (b_l_pair_op fu C))) := by
  refine' fn_okL (N := n_l_pair_op) T.d_l_pair_op.fn sc_l_pair_op ?hB ?hS ?body
  case hB => conv => lhs; whnf
  case hS => conv => lhs; whnf
  case body =>
  intro cdv A outer s H E hr nd tk pw
  exact (ss_cons (s_if (t_cmp (o_eq (room_w hr)) (d_var 0) d_str (nomark _)) (ss_cons (s_if (t_cmp (o_ne (room_w hr)) (d_ix (d_var 1) d_int) d_str (nomark _)) (ss_one (s_ret d_non)) ss_nil)
 (ss_one (s_ret (d_tup (a_cons d_str (a_cons (d_bin o_add (d_ix (d_var 1) d_int) (d_tup (a_cons (d_var 2) a_nil))) a_nil)))))) ss_nil)
 (ss_cons (s_if (t_cmp (o_eq (room_w hr)) (d_var 0) d_str (nomark _)) (ss_cons (s_if (PW.pt (w_or (t_cmp (o_ne (room_w hr)) (d_ix (d_var 1) d_int) d_str (nomark _)) (w_one_or (t_cmp (o_ne (room_w hr)) (d_ix (d_var 2) d_int) d_str (nomark _))))) (ss_one (s_ret d_non)) ss_nil)
 (ss_one (s_ret (d_tup (a_cons d_str (a_cons (d_bin o_add (d_ix (d_var 1) d_int) (d_ix (d_var 2) d_int)) a_nil)))))) ss_nil)
 (ss_cons (s_if (PW.pt (w_or (t_cmp (o_ne (room_w hr)) (d_ix (d_var 1) d_int) d_str (nomark _)) (w_one_or (t_cmp (o_ne (room_w hr)) (d_ix (d_var 2) d_int) d_str (nomark _))))) (ss_one (s_ret d_non)) ss_nil)
 (ss_cons (s_set 3 nd (d_ix (d_var 1) d_int))
 (ss_cons (s_set 4 nd (d_ix (d_var 2) d_int))
 (ss_cons (s_set 5 nd (d_dct (dps_cons (d_bin o_add (d_var 3) (d_var 4)) (dps_cons (d_bin o_sub (d_var 3) (d_var 4)) (dps_cons (d_bin o_mul (d_var 3) (d_var 4)) (dps_cons (d_callTy c_int (by rfl) T.z_int (by decide +kernel) (a_cons (d_cmp o_lt (d_var 3) (d_var 4) (nomark _)) a_nil)) (dps_cons (d_callTy c_int (by rfl) T.z_int (by decide +kernel) (a_cons (d_cmp (o_eq (room_w hr)) (d_var 3) (d_var 4) (nomark _)) a_nil)) dps_nil))))) (by decide +kernel)))
 (ss_one (s_ret (d_tup (a_cons d_str (a_cons (d_bin o_mod (d_dget (room_w hr) (d_var 5) (d_var 0)) (d_bin o_pow d_int d_int)) a_nil)))))))))))
theorem sc_l_told : FnScope n_l_told p_l_told (defScope s_l_told) := ⟨rfl, rfl, rfl, by decide +kernel, rfl, by decide +kernel, by decide +kernel⟩
theorem ok_l_told (fu : Nat) (c : Cal P w K mg base T k C) : FnOk P w K mg base (L2.CX P w) (k + 20 + 1) T.a_l_told T.f_l_told p_l_told (spD K mg (p_l_told).length (runDef false 7 (b_l_told fu C))) := by
  refine' fn_okL (N := n_l_told) T.d_l_told.fn sc_l_told ?hB ?hS ?body
  case hB => conv => lhs; whnf
  case hS => conv => lhs; whnf
  case body =>
  intro cdv A outer s H E hr nd tk pw
  exact (ss_cons (s_if (t_cmp (o_ne (room_w hr)) (d_callB c_len (by rfl) T.z_len (by decide +kernel) (a_cons (d_var 1) a_nil)) (d_ix (d_var 0) d_int) (nomark _)) (ss_one (s_ret d_non)) ss_nil)
 (ss_cons (s_set 2 nd (d_callTy c_list (by rfl) T.z_list (by decide +kernel) (a_cons (d_var 1) a_nil)))
 (ss_cons (s_for pw rfl (i_it (d_ix (d_var 0) d_int)) (g_name 3) (pg_name (i := 3) nd rfl (by first | exact Or.inl rfl | exact Or.inr rfl)) (ss_cons (s_if (t_cmp (o_eq (room_w hr)) (d_ix (d_var 3) d_int) d_str (nomark _)) (ss_one (s_set 4 nd (d_lst (a_cons (d_ix (d_var 3) d_int) a_nil)))) (ss_one (s_if (t_cmp (o_eq (room_w hr)) (d_ix (d_var 3) d_int) d_str (nomark _)) (ss_one (s_set 4 nd (d_lst (a_cons (d_tup (a_cons d_str (a_cons (d_tup (a_cons (d_tup (a_cons d_str (a_cons (d_ix (d_var 2) (d_ix (d_var 3) d_int)) a_nil))) a_nil)) a_nil))) a_nil)))) (ss_one (s_if (t_cmp (o_eq (room_w hr)) (d_ix (d_var 3) d_int) d_str (nomark _)) (ss_cons (s_if (t_cmp (o_ne (room_w hr)) (d_ix (d_ix (d_var 2) (d_ix (d_var 3) d_int)) d_int) d_str (nomark _)) (ss_one (s_ret d_non)) ss_nil)
 (ss_one (s_set 4 nd (d_call c.l_told hr rfl T.d_l_told.mg T.d_l_told.fn.kp T.d_l_told.bi tk (a_cons (d_ix (d_var 3) (d_bin o_add d_int (d_callTy c_int (by rfl) T.z_int (by decide +kernel) (a_cons (d_cmp (o_eq (room_w hr)) (d_ix (d_ix (d_var 2) (d_ix (d_var 3) d_int)) d_int) d_int (nomark _)) a_nil)))) (a_cons (d_comp rfl nd (i_it (d_ix (d_var 3) d_int)) (blkOk_by (own := [("_law_k", 5)]) (N := n_l_told) (sc := defScope s_l_told) (by decide +kernel)) rfl (g_name 5) (by decide) (fun _ _ _ _ _ => (pg_name (i := 5) nd rfl (by first | exact Or.inl rfl | exact Or.inr rfl))) (fun _ _ _ _ _ => ts_nil) (fun _ _ _ _ _ => (d_ix (d_var 2) (d_var 5)))) a_nil)))))) (ss_one (s_set 4 nd (d_lst (a_cons (d_call c.l_pair_op hr rfl T.d_l_pair_op.mg T.d_l_pair_op.fn.kp T.d_l_pair_op.bi tk (a_cons (d_ix (d_var 3) d_int) (a_cons (d_ix (d_var 2) (d_ix (d_var 3) d_int)) (a_cons (d_ix (d_var 2) (d_ix (d_var 3) d_int)) a_nil)))) a_nil)))))))))
 (ss_cons (s_if (PW.pt (w_or (t_cmp o_is (d_var 4) d_non (nomark _)) (w_one_or (t_cmp (o_eq (room_w hr)) (d_var 4) d_str (nomark _))))) (ss_one (s_ret (d_var 4))) ss_nil)
 (ss_cons (s_if (t_cmp (o_in (room_w hr)) d_non (d_var 4) (by rfl)) (ss_one (s_ret d_non)) ss_nil)
 (ss_cons (s_if (t_cmp (o_ne (room_w hr)) (d_comp rfl nd (i_it (d_var 4)) (blkOk_by (own := [("_law_thing_here", 6)]) (N := n_l_told) (sc := defScope s_l_told) (by decide +kernel)) rfl (g_name 6) (by decide) (fun _ _ _ _ _ => (pg_name (i := 6) nd rfl (by first | exact Or.inl rfl | exact Or.inr rfl))) (fun _ _ _ _ _ => ts_one (PW.pt (w_or (t_cmp o_gt (d_call c.l_size hr rfl T.d_l_size.mg T.d_l_size.fn.kp T.d_l_size.bi takes0 (a_cons (d_lst (a_cons (d_var 6) a_nil)) a_nil)) d_int (nomark _)) (w_one_or (t_cmp o_gt (d_call c.l_deep hr rfl T.d_l_deep.mg T.d_l_deep.fn.kp T.d_l_deep.bi takes0 (a_cons (d_var 6) a_nil)) d_int (nomark _)))))) (fun _ _ _ _ _ => (d_var 6))) (d_lst a_nil) (nomark _)) (ss_one (s_ret d_str)) ss_nil)
 (ss_one (s_set 2 nd (d_bin o_add (d_var 2) (d_var 4)))))))))
 (ss_one (s_ret (d_comp rfl nd (i_it (d_ix (d_var 0) d_int)) (blkOk_by (own := [("_law_k", 5)]) (N := n_l_told) (sc := defScope s_l_told) (by decide +kernel)) rfl (g_name 5) (by decide) (fun _ _ _ _ _ => (pg_name (i := 5) nd rfl (by first | exact Or.inl rfl | exact Or.inr rfl))) (fun _ _ _ _ _ => ts_nil) (fun _ _ _ _ _ => (d_ix (d_var 2) (d_var 5)))))))))
theorem sc_l_run_told : FnScope n_l_run_told p_l_run_told (defScope s_l_run_told) := ⟨rfl, rfl, rfl, by decide +kernel, rfl, by decide +kernel, by decide +kernel⟩
theorem ok_l_run_told (fu : Nat) (c : Cal P w K mg base T k C) : FnOk P w K mg base (L2.CX P w) (k + 20 + 1) T.a_l_run_told T.f_l_run_told p_l_run_told (spD K mg (p_l_run_told).length (runDef false 4 (b_l_run_told fu C))) := by
  refine' fn_okL (N := n_l_run_told) T.d_l_run_told.fn sc_l_run_told ?hB ?hS ?body
  case hB => conv => lhs; whnf
  case hS => conv => lhs; whnf
  case body =>
  intro cdv A outer s H E hr nd tk pw
  exact (ss_cons (s_set 2 nd d_non)
 (ss_cons (s_tryAs (i := 3) (n := "e") rfl rfl nd rfl rfl ⟨rfl, by decide, .inl T.C_NoStep.g⟩ tk (tbl_ok (t := [("NoStep", true)]) (by exact ⟨⟨_, T.E_NoStep.g, T.C_NoStep.exm T.u_NoStep_NoStep⟩, trivial⟩)) (fun W pn xe tk pw => (ss_one (s_set 2 nd (d_call c.run_code hr rfl T.d_run_code.mg T.d_run_code.fn.kp T.d_run_code.bi tk (a_cons (d_var 0) (a_cons (d_var 1) a_nil)))))) (suite_tbl (G := fun bs => sAsg (gN 2) (eC (.lst (bs.map D.bl)))) (t := [("NoStep", [true, true, false, false])]) (by exact ⟨fun a A oe pn gA hz hv => by
  obtain rfl := ref_eq gA T.E_NoStep.g
  exact s_isList (n := "e") nd (isl_cons (pe_isE T.X_NoStep hz hv rfl T.z_isinstance (pe_glob rfl T.C_TakeError.g (v := .ref T.e_TakeError) rfl) (fun _ q => q) (T.C_TakeError.kit T.u_NoStep_TakeError)) (isl_cons (pe_isE T.X_NoStep hz hv rfl T.z_isinstance (pe_bltn rfl T.z_ValueError (by decide +kernel) (v := .ty "ValueError") rfl) (fun _ q => q) (kit_bt (by decide +kernel) T.v_NoStep_ValueError)) (isl_cons (pe_isE T.X_NoStep hz hv rfl T.z_isinstance (pe_glob rfl T.C_NoCode.g (v := .ref T.e_NoCode) rfl) (fun _ q => q) (T.C_NoCode.kit T.u_NoStep_NoCode)) (isl_cons (pe_isE T.X_NoStep hz hv rfl T.z_isinstance (pe_glob rfl T.C_NoText.g (v := .ref T.e_NoText) rfl) (fun _ q => q) (T.C_NoText.kit T.u_NoStep_NoText)) isl_nil)))) (by decide) rfl rfl (by first | exact Or.inl rfl | exact Or.inr rfl) (by first | exact .inl rfl | exact .inr rfl), trivial⟩)))
 (ss_one (s_ret (d_var 2)))))
theorem sc_law : FnScope n_law p_law (defScope s_law) := ⟨rfl, rfl, rfl, by decide +kernel, rfl, by decide +kernel, by decide +kernel⟩
theorem ok_law (fu : Nat) (c : Cal P w K mg base T k C) : FnOk P w K mg base (L2.CX P w) (k + 20 + 1) T.a_law T.f_law p_law (spD K mg (p_law).length (runDef false 10 (b_law fu C))) := by
  refine' fn_okL (N := n_law) T.d_law.fn sc_law ?hB ?hS ?body
  case hB => conv => lhs; whnf
  case hS => conv => lhs; whnf
  case body =>
  intro cdv A outer s H E hr nd tk pw
  exact (ss_cons (s_set 1 nd (d_call c.l_deck hr rfl T.d_l_deck.mg T.d_l_deck.fn.kp T.d_l_deck.bi tk (a_cons (d_var 0) (a_cons d_int a_nil))))
 (ss_cons (s_set 2 nd (d_call c.l_code hr rfl T.d_l_code.mg T.d_l_code.fn.kp T.d_l_code.bi tk (a_cons (d_var 1) (a_cons (d_call c.l_draw hr rfl T.d_l_draw.mg T.d_l_draw.fn.kp T.d_l_draw.bi tk (a_cons (d_var 1) (a_cons d_int a_nil))) (a_cons (d_call c.l_draw hr rfl T.d_l_draw.mg T.d_l_draw.fn.kp T.d_l_draw.bi tk (a_cons (d_var 1) (a_cons d_int a_nil))) (a_cons d_int a_nil))))))
 (ss_cons (s_for pw rfl (i_range1 rfl T.z_range (a_cons d_int a_nil)) (g_name 3) (pg_name (i := 3) nd rfl (by first | exact Or.inl rfl | exact Or.inr rfl)) (ss_cons (s_set 4 nd (d_bin o_add (d_ix (d_var 2) d_int) (d_ix (d_lst (a_cons d_int (a_cons d_int (a_cons d_int (a_cons d_int (a_cons d_int (a_cons d_int (a_cons d_int (a_cons (d_un o_neg d_int) a_nil))))))))) (d_call c.l_draw hr rfl T.d_l_draw.mg T.d_l_draw.fn.kp T.d_l_draw.bi tk (a_cons (d_var 1) (a_cons d_int a_nil))))))
 (ss_cons (s_setLc 5 rfl nd (i_range1 rfl T.z_range (a_cons (d_var 4) a_nil)) (blkOk_by (own := [("_law_k", 9)]) (N := n_law) (sc := defScope s_law) (by decide +kernel)) rfl (g_name 9) (by decide) (fun _ _ _ _ _ => (pg_name (i := 9) nd rfl (by first | exact Or.inl rfl | exact Or.inr rfl))) (fun _ _ _ _ _ => ts_nil) (fun _ _ _ _ _ => (d_tup (a_cons d_str (a_cons (d_call c.l_number hr rfl T.d_l_number.mg T.d_l_number.fn.kp T.d_l_number.bi takes0 (a_cons (d_var 1) a_nil)) a_nil)))))
 (ss_cons (s_if (t_cmp (o_eq (room_w hr)) (d_call c.l_draw hr rfl T.d_l_draw.mg T.d_l_draw.fn.kp T.d_l_draw.bi tk (a_cons (d_var 1) (a_cons d_int a_nil))) d_int (nomark _)) (ss_one (s_setLc 5 rfl nd (i_range1 rfl T.z_range (a_cons (d_var 4) a_nil)) (blkOk_by (own := [("_law_k", 9)]) (N := n_law) (sc := defScope s_law) (by decide +kernel)) rfl (g_name 9) (by decide) (fun _ _ _ _ _ => (pg_name (i := 9) nd rfl (by first | exact Or.inl rfl | exact Or.inr rfl))) (fun _ _ _ _ _ => ts_nil) (fun _ _ _ _ _ => (d_call c.l_thing hr rfl T.d_l_thing.mg T.d_l_thing.fn.kp T.d_l_thing.bi takes0 (a_cons (d_var 1) (a_cons d_int a_nil)))))) ss_nil)
 (ss_cons (s_set 6 nd (d_call c.l_told hr rfl T.d_l_told.mg T.d_l_told.fn.kp T.d_l_told.bi tk (a_cons (d_var 2) (a_cons (d_var 5) a_nil))))
 (ss_one (s_for pw rfl (i_range1 rfl T.z_range (a_cons (d_bin o_mul d_int (d_callTy c_int (by rfl) T.z_int (by decide +kernel) (a_cons (d_cmp (o_ne (room_w hr)) (d_var 6) d_str (nomark _)) a_nil))) a_nil)) (g_name 7) (pg_name (i := 7) nd rfl (by first | exact Or.inl rfl | exact Or.inr rfl)) (ss_cons (s_set 8 nd (d_call c.l_run_told hr rfl T.d_l_run_told.mg T.d_l_run_told.fn.kp T.d_l_run_told.bi tk (a_cons (d_var 2) (a_cons (d_callTy c_tuple (by rfl) T.z_tuple (by decide +kernel) (a_cons (d_var 5) a_nil)) a_nil))))
 (ss_one (s_if (t_cmp o_is (d_var 6) d_non (nomark _)) (ss_one (s_if (t_cmp (o_ne (room_w hr)) (d_var 8) (d_lst (a_cons d_bl (a_cons d_bl (a_cons d_bl (a_cons d_bl a_nil))))) (nomark _)) (ss_one (s_ret d_bl)) ss_nil)) (ss_one (s_if (PW.pt (w_or (t_not (t_truth (d_isi "tuple" rfl T.z_isinstance (d_var 8) rfl T.z_tuple (by decide +kernel) (by decide)))) (w_one_or (t_cmp (o_ne (room_w hr)) (d_var 8) (d_callTy c_tuple (by rfl) T.z_tuple (by decide +kernel) (a_cons (d_var 6) a_nil)) (nomark _))))) (ss_one (s_ret d_bl)) ss_nil))))))))))))
 (ss_one (s_ret d_bl)))))
theorem cal (fu : Nat) : ∀ n : Nat, Cal P w K mg base T n (den fu n)
  | 0 => ⟨fn_zero, fn_zero, fn_zero, fn_zero, fn_zero, fn_zero, fn_zero, fn_zero, fn_zero, fn_zero, fn_zero, fn_zero, fn_zero, fn_zero, fn_zero, fn_zero, fn_zero, fn_zero, fn_zero, fn_zero, fn_zero, fn_zero, fn_zero, fn_zero, fn_zero⟩
  | n + 1 => ⟨ok_inside fu (cal fu n), ok_push fu (cal fu n), ok_reckoned fu (cal fu n), ok_done_rows fu (cal fu n), ok_done_things fu (cal fu n), ok_done fu (cal fu n), ok_is_set fu (cal fu n), ok_run_code fu (cal fu n), ok_l_mixed fu (cal fu n), ok_l_deck fu (cal fu n), ok_l_draw fu (cal fu n), ok_l_size fu (cal fu n), ok_l_cut fu (cal fu n), ok_l_number fu (cal fu n), ok_l_thing fu (cal fu n), ok_l_shuffle fu (cal fu n), ok_l_any_word fu (cal fu n), ok_l_op fu (cal fu n), ok_l_made fu (cal fu n), ok_l_code fu (cal fu n), ok_l_deep fu (cal fu n), ok_l_pair_op fu (cal fu n), ok_l_told fu (cal fu n), ok_l_run_told fu (cal fu n), ok_law fu (cal fu n)⟩
end
end K64

namespace K64
open PySem L2 PyProof.Rows DL
def txMk {K : PySem.W.Frag} {h : Heap} {mg : Str → Option Value} (X : K.In h) (G : h.Ns mainGlobals mg)
    {f1 : Addr} {od1 an1 : Option Addr} {sl1 : Array (Option Value)} {oc1 kV1 dc1 pm1 cd1 ct1 : Value}
    {f2 : Addr} {od2 an2 : Option Addr} {sl2 : Array (Option Value)} {oc2 kV2 dc2 pm2 cd2 ct2 : Value}
    {f3 : Addr} {od3 an3 : Option Addr} {sl3 : Array (Option Value)} {oc3 kV3 dc3 pm3 cd3 ct3 : Value}
    {f4 : Addr} {od4 an4 : Option Addr} {sl4 : Array (Option Value)} {oc4 kV4 dc4 pm4 cd4 ct4 : Value}
    {f5 : Addr} {od5 an5 : Option Addr} {sl5 : Array (Option Value)} {oc5 kV5 dc5 pm5 cd5 ct5 : Value}
    {f6 : Addr} {od6 an6 : Option Addr} {sl6 : Array (Option Value)} {oc6 kV6 dc6 pm6 cd6 ct6 : Value}
    {f7 : Addr} {od7 an7 : Option Addr} {sl7 : Array (Option Value)} {oc7 kV7 dc7 pm7 cd7 ct7 : Value}
    {f8 : Addr} {od8 an8 : Option Addr} {sl8 : Array (Option Value)} {oc8 kV8 dc8 pm8 cd8 ct8 : Value}
    {f9 : Addr} {od9 an9 : Option Addr} {sl9 : Array (Option Value)} {oc9 kV9 dc9 pm9 cd9 ct9 : Value}
    {f10 : Addr} {od10 an10 : Option Addr} {sl10 : Array (Option Value)} {oc10 kV10 dc10 pm10 cd10 ct10 : Value}
    {f11 : Addr} {od11 an11 : Option Addr} {sl11 : Array (Option Value)} {oc11 kV11 dc11 pm11 cd11 ct11 : Value}
    {f12 : Addr} {od12 an12 : Option Addr} {sl12 : Array (Option Value)} {oc12 kV12 dc12 pm12 cd12 ct12 : Value}
    {f13 : Addr} {od13 an13 : Option Addr} {sl13 : Array (Option Value)} {oc13 kV13 dc13 pm13 cd13 ct13 : Value}
    {f14 : Addr} {od14 an14 : Option Addr} {sl14 : Array (Option Value)} {oc14 kV14 dc14 pm14 cd14 ct14 : Value}
    {f15 : Addr} {od15 an15 : Option Addr} {sl15 : Array (Option Value)} {oc15 kV15 dc15 pm15 cd15 ct15 : Value}
    {f16 : Addr} {od16 an16 : Option Addr} {sl16 : Array (Option Value)} {oc16 kV16 dc16 pm16 cd16 ct16 : Value}
    {f17 : Addr} {od17 an17 : Option Addr} {sl17 : Array (Option Value)} {oc17 kV17 dc17 pm17 cd17 ct17 : Value}
    {f18 : Addr} {od18 an18 : Option Addr} {sl18 : Array (Option Value)} {oc18 kV18 dc18 pm18 cd18 ct18 : Value}
    {f19 : Addr} {od19 an19 : Option Addr} {sl19 : Array (Option Value)} {oc19 kV19 dc19 pm19 cd19 ct19 : Value}
    {f20 : Addr} {od20 an20 : Option Addr} {sl20 : Array (Option Value)} {oc20 kV20 dc20 pm20 cd20 ct20 : Value}
    {f21 : Addr} {od21 an21 : Option Addr} {sl21 : Array (Option Value)} {oc21 kV21 dc21 pm21 cd21 ct21 : Value}
    {f22 : Addr} {od22 an22 : Option Addr} {sl22 : Array (Option Value)} {oc22 kV22 dc22 pm22 cd22 ct22 : Value}
    {f23 : Addr} {od23 an23 : Option Addr} {sl23 : Array (Option Value)} {oc23 kV23 dc23 pm23 cd23 ct23 : Value}
    {f24 : Addr} {od24 an24 : Option Addr} {sl24 : Array (Option Value)} {oc24 kV24 dc24 pm24 cd24 ct24 : Value}
    {f25 : Addr} {od25 an25 : Option Addr} {sl25 : Array (Option Value)} {oc25 kV25 dc25 pm25 cd25 ct25 : Value}
    {eNoStep : Addr}
    {eTakeError : Addr}
    {eNoCode : Addr}
    {eNoText : Addr}
    {t_WHOLE : Tok}
    (a1 : PySem.W.nsIn K mainGlobals "inside" = some (some (.ref f1))) (l1 : K.lookup f1 = some ⟨oc1, od1, .func (PySem.W.fnOf "inside" "inside" (defArgs s_inside) (defBody s_inside) (defScope s_inside) .none kV1 dc1 pm1 an1 cd1 ct1), sl1⟩) (c1 : PySem.W.codeIn K cd1 "inside" = true) (k1 : PySem.W.keepIn K (.ref f1) = true)
    (a2 : PySem.W.nsIn K mainGlobals "push" = some (some (.ref f2))) (l2 : K.lookup f2 = some ⟨oc2, od2, .func (PySem.W.fnOf "push" "push" (defArgs s_push) (defBody s_push) (defScope s_push) .none kV2 dc2 pm2 an2 cd2 ct2), sl2⟩) (c2 : PySem.W.codeIn K cd2 "push" = true) (k2 : PySem.W.keepIn K (.ref f2) = true)
    (a3 : PySem.W.nsIn K mainGlobals "reckoned" = some (some (.ref f3))) (l3 : K.lookup f3 = some ⟨oc3, od3, .func (PySem.W.fnOf "reckoned" "reckoned" (defArgs s_reckoned) (defBody s_reckoned) (defScope s_reckoned) .none kV3 dc3 pm3 an3 cd3 ct3), sl3⟩) (c3 : PySem.W.codeIn K cd3 "reckoned" = true) (k3 : PySem.W.keepIn K (.ref f3) = true)
    (a4 : PySem.W.nsIn K mainGlobals "done_rows" = some (some (.ref f4))) (l4 : K.lookup f4 = some ⟨oc4, od4, .func (PySem.W.fnOf "done_rows" "done_rows" (defArgs s_done_rows) (defBody s_done_rows) (defScope s_done_rows) .none kV4 dc4 pm4 an4 cd4 ct4), sl4⟩) (c4 : PySem.W.codeIn K cd4 "done_rows" = true) (k4 : PySem.W.keepIn K (.ref f4) = true)
    (a5 : PySem.W.nsIn K mainGlobals "done_things" = some (some (.ref f5))) (l5 : K.lookup f5 = some ⟨oc5, od5, .func (PySem.W.fnOf "done_things" "done_things" (defArgs s_done_things) (defBody s_done_things) (defScope s_done_things) .none kV5 dc5 pm5 an5 cd5 ct5), sl5⟩) (c5 : PySem.W.codeIn K cd5 "done_things" = true) (k5 : PySem.W.keepIn K (.ref f5) = true)
    (a6 : PySem.W.nsIn K mainGlobals "done" = some (some (.ref f6))) (l6 : K.lookup f6 = some ⟨oc6, od6, .func (PySem.W.fnOf "done" "done" (defArgs s_done) (defBody s_done) (defScope s_done) .none kV6 dc6 pm6 an6 cd6 ct6), sl6⟩) (c6 : PySem.W.codeIn K cd6 "done" = true) (k6 : PySem.W.keepIn K (.ref f6) = true)
    (a7 : PySem.W.nsIn K mainGlobals "is_set" = some (some (.ref f7))) (l7 : K.lookup f7 = some ⟨oc7, od7, .func (PySem.W.fnOf "is_set" "is_set" (defArgs s_is_set) (defBody s_is_set) (defScope s_is_set) .none kV7 dc7 pm7 an7 cd7 ct7), sl7⟩) (c7 : PySem.W.codeIn K cd7 "is_set" = true) (k7 : PySem.W.keepIn K (.ref f7) = true)
    (a8 : PySem.W.nsIn K mainGlobals "run_code" = some (some (.ref f8))) (l8 : K.lookup f8 = some ⟨oc8, od8, .func (PySem.W.fnOf "run_code" "run_code" (defArgs s_run_code) (defBody s_run_code) (defScope s_run_code) .none kV8 dc8 pm8 an8 cd8 ct8), sl8⟩) (c8 : PySem.W.codeIn K cd8 "run_code" = true) (k8 : PySem.W.keepIn K (.ref f8) = true)
    (a9 : PySem.W.nsIn K mainGlobals "_law_mixed" = some (some (.ref f9))) (l9 : K.lookup f9 = some ⟨oc9, od9, .func (PySem.W.fnOf "_law_mixed" "_law_mixed" (defArgs s_l_mixed) (defBody s_l_mixed) (defScope s_l_mixed) .none kV9 dc9 pm9 an9 cd9 ct9), sl9⟩) (c9 : PySem.W.codeIn K cd9 "_law_mixed" = true) (k9 : PySem.W.keepIn K (.ref f9) = true)
    (a10 : PySem.W.nsIn K mainGlobals "_law_deck" = some (some (.ref f10))) (l10 : K.lookup f10 = some ⟨oc10, od10, .func (PySem.W.fnOf "_law_deck" "_law_deck" (defArgs s_l_deck) (defBody s_l_deck) (defScope s_l_deck) .none kV10 dc10 pm10 an10 cd10 ct10), sl10⟩) (c10 : PySem.W.codeIn K cd10 "_law_deck" = true) (k10 : PySem.W.keepIn K (.ref f10) = true)
    (a11 : PySem.W.nsIn K mainGlobals "_law_draw" = some (some (.ref f11))) (l11 : K.lookup f11 = some ⟨oc11, od11, .func (PySem.W.fnOf "_law_draw" "_law_draw" (defArgs s_l_draw) (defBody s_l_draw) (defScope s_l_draw) .none kV11 dc11 pm11 an11 cd11 ct11), sl11⟩) (c11 : PySem.W.codeIn K cd11 "_law_draw" = true) (k11 : PySem.W.keepIn K (.ref f11) = true)
    (a12 : PySem.W.nsIn K mainGlobals "_law_size" = some (some (.ref f12))) (l12 : K.lookup f12 = some ⟨oc12, od12, .func (PySem.W.fnOf "_law_size" "_law_size" (defArgs s_l_size) (defBody s_l_size) (defScope s_l_size) .none kV12 dc12 pm12 an12 cd12 ct12), sl12⟩) (c12 : PySem.W.codeIn K cd12 "_law_size" = true) (k12 : PySem.W.keepIn K (.ref f12) = true)
    (a13 : PySem.W.nsIn K mainGlobals "_law_cut" = some (some (.ref f13))) (l13 : K.lookup f13 = some ⟨oc13, od13, .func (PySem.W.fnOf "_law_cut" "_law_cut" (defArgs s_l_cut) (defBody s_l_cut) (defScope s_l_cut) .none kV13 dc13 pm13 an13 cd13 ct13), sl13⟩) (c13 : PySem.W.codeIn K cd13 "_law_cut" = true) (k13 : PySem.W.keepIn K (.ref f13) = true)
    (a14 : PySem.W.nsIn K mainGlobals "_law_number" = some (some (.ref f14))) (l14 : K.lookup f14 = some ⟨oc14, od14, .func (PySem.W.fnOf "_law_number" "_law_number" (defArgs s_l_number) (defBody s_l_number) (defScope s_l_number) .none kV14 dc14 pm14 an14 cd14 ct14), sl14⟩) (c14 : PySem.W.codeIn K cd14 "_law_number" = true) (k14 : PySem.W.keepIn K (.ref f14) = true)
    (a15 : PySem.W.nsIn K mainGlobals "_law_thing" = some (some (.ref f15))) (l15 : K.lookup f15 = some ⟨oc15, od15, .func (PySem.W.fnOf "_law_thing" "_law_thing" (defArgs s_l_thing) (defBody s_l_thing) (defScope s_l_thing) .none kV15 dc15 pm15 an15 cd15 ct15), sl15⟩) (c15 : PySem.W.codeIn K cd15 "_law_thing" = true) (k15 : PySem.W.keepIn K (.ref f15) = true)
    (a16 : PySem.W.nsIn K mainGlobals "_law_shuffle" = some (some (.ref f16))) (l16 : K.lookup f16 = some ⟨oc16, od16, .func (PySem.W.fnOf "_law_shuffle" "_law_shuffle" (defArgs s_l_shuffle) (defBody s_l_shuffle) (defScope s_l_shuffle) .none kV16 dc16 pm16 an16 cd16 ct16), sl16⟩) (c16 : PySem.W.codeIn K cd16 "_law_shuffle" = true) (k16 : PySem.W.keepIn K (.ref f16) = true)
    (a17 : PySem.W.nsIn K mainGlobals "_law_any_word" = some (some (.ref f17))) (l17 : K.lookup f17 = some ⟨oc17, od17, .func (PySem.W.fnOf "_law_any_word" "_law_any_word" (defArgs s_l_any_word) (defBody s_l_any_word) (defScope s_l_any_word) .none kV17 dc17 pm17 an17 cd17 ct17), sl17⟩) (c17 : PySem.W.codeIn K cd17 "_law_any_word" = true) (k17 : PySem.W.keepIn K (.ref f17) = true)
    (a18 : PySem.W.nsIn K mainGlobals "_law_op" = some (some (.ref f18))) (l18 : K.lookup f18 = some ⟨oc18, od18, .func (PySem.W.fnOf "_law_op" "_law_op" (defArgs s_l_op) (defBody s_l_op) (defScope s_l_op) .none kV18 dc18 pm18 an18 cd18 ct18), sl18⟩) (c18 : PySem.W.codeIn K cd18 "_law_op" = true) (k18 : PySem.W.keepIn K (.ref f18) = true)
    (a19 : PySem.W.nsIn K mainGlobals "_law_made" = some (some (.ref f19))) (l19 : K.lookup f19 = some ⟨oc19, od19, .func (PySem.W.fnOf "_law_made" "_law_made" (defArgs s_l_made) (defBody s_l_made) (defScope s_l_made) .none kV19 dc19 pm19 an19 cd19 ct19), sl19⟩) (c19 : PySem.W.codeIn K cd19 "_law_made" = true) (k19 : PySem.W.keepIn K (.ref f19) = true)
    (a20 : PySem.W.nsIn K mainGlobals "_law_code" = some (some (.ref f20))) (l20 : K.lookup f20 = some ⟨oc20, od20, .func (PySem.W.fnOf "_law_code" "_law_code" (defArgs s_l_code) (defBody s_l_code) (defScope s_l_code) .none kV20 dc20 pm20 an20 cd20 ct20), sl20⟩) (c20 : PySem.W.codeIn K cd20 "_law_code" = true) (k20 : PySem.W.keepIn K (.ref f20) = true)
    (a21 : PySem.W.nsIn K mainGlobals "_law_deep" = some (some (.ref f21))) (l21 : K.lookup f21 = some ⟨oc21, od21, .func (PySem.W.fnOf "_law_deep" "_law_deep" (defArgs s_l_deep) (defBody s_l_deep) (defScope s_l_deep) .none kV21 dc21 pm21 an21 cd21 ct21), sl21⟩) (c21 : PySem.W.codeIn K cd21 "_law_deep" = true) (k21 : PySem.W.keepIn K (.ref f21) = true)
    (a22 : PySem.W.nsIn K mainGlobals "_law_pair_op" = some (some (.ref f22))) (l22 : K.lookup f22 = some ⟨oc22, od22, .func (PySem.W.fnOf "_law_pair_op" "_law_pair_op" (defArgs s_l_pair_op) (defBody s_l_pair_op) (defScope s_l_pair_op) .none kV22 dc22 pm22 an22 cd22 ct22), sl22⟩) (c22 : PySem.W.codeIn K cd22 "_law_pair_op" = true) (k22 : PySem.W.keepIn K (.ref f22) = true)
    (a23 : PySem.W.nsIn K mainGlobals "_law_told" = some (some (.ref f23))) (l23 : K.lookup f23 = some ⟨oc23, od23, .func (PySem.W.fnOf "_law_told" "_law_told" (defArgs s_l_told) (defBody s_l_told) (defScope s_l_told) .none kV23 dc23 pm23 an23 cd23 ct23), sl23⟩) (c23 : PySem.W.codeIn K cd23 "_law_told" = true) (k23 : PySem.W.keepIn K (.ref f23) = true)
    (a24 : PySem.W.nsIn K mainGlobals "_law_run_told" = some (some (.ref f24))) (l24 : K.lookup f24 = some ⟨oc24, od24, .func (PySem.W.fnOf "_law_run_told" "_law_run_told" (defArgs s_l_run_told) (defBody s_l_run_told) (defScope s_l_run_told) .none kV24 dc24 pm24 an24 cd24 ct24), sl24⟩) (c24 : PySem.W.codeIn K cd24 "_law_run_told" = true) (k24 : PySem.W.keepIn K (.ref f24) = true)
    (a25 : PySem.W.nsIn K mainGlobals "law" = some (some (.ref f25))) (l25 : K.lookup f25 = some ⟨oc25, od25, .func (PySem.W.fnOf "law" "law" (defArgs s_law) (defBody s_law) (defScope s_law) .none kV25 dc25 pm25 an25 cd25 ct25), sl25⟩) (c25 : PySem.W.codeIn K cd25 "law" = true) (k25 : PySem.W.keepIn K (.ref f25) = true)
    (z_ValueError : PySem.W.nsIn K mainGlobals "ValueError" = some none)
    (z_int : PySem.W.nsIn K mainGlobals "int" = some none)
    (z_isinstance : PySem.W.nsIn K mainGlobals "isinstance" = some none)
    (z_len : PySem.W.nsIn K mainGlobals "len" = some none)
    (z_list : PySem.W.nsIn K mainGlobals "list" = some none)
    (z_max : PySem.W.nsIn K mainGlobals "max" = some none)
    (z_range : PySem.W.nsIn K mainGlobals "range" = some none)
    (z_sum : PySem.W.nsIn K mainGlobals "sum" = some none)
    (z_tuple : PySem.W.nsIn K mainGlobals "tuple" = some none)
    (xg_NoStep : PySem.W.nsIn K mainGlobals "NoStep" = some (some (.ref eNoStep)))
    (xb_NoStep : PySem.W.subIn K (.ref eNoStep) (.type "BaseException") = some true)
    (xt_NoStep : PySem.W.typeIn K (.ref eNoStep) = some (.type "type"))
    (xx_NoStep : PySem.W.excIn K eNoStep veB "ValueError.__new__" = true)
    (xk_NoStep : PySem.W.keepIn K (.ref eNoStep) = true)
    (xh_NoStep : PySem.W.hasDictIn K eNoStep = true)
    (xq_NoStep : PySem.W.findIn K (.ref eNoStep) "__getattribute__" = some (some (.builtin "BaseException.__getattribute__")))
    (xp_NoStep : PySem.W.findIn K (.ref eNoStep) "__getattr__" = some none)
    (xa_NoStep : PySem.W.findIn K (.ref eNoStep) "__class__" = some (some (.builtin "object.__class__")))
    (xn_NoStep : PySem.W.specialIn K (.builtin "object.__class__") "__get__" = some (some (.builtin "getset_descriptor.__get__")))
    (xw_NoStep : PySem.W.takesIn K (.builtin "object.__class__") = some true)
    (xm_NoStep : PySem.W.mroIn K eNoStep (.type "object") = some true)
    (xs_NoStep : PySem.W.subIn K (.ref eNoStep) (.ref eNoStep) = some true)
    (xg_TakeError : PySem.W.nsIn K mainGlobals "TakeError" = some (some (.ref eTakeError)))
    (xb_TakeError : PySem.W.subIn K (.ref eTakeError) (.type "BaseException") = some true)
    (xt_TakeError : PySem.W.typeIn K (.ref eTakeError) = some (.type "type"))
    (xh_TakeError : PySem.W.hasDictIn K eTakeError = true)
    (xs_TakeError : PySem.W.subIn K (.ref eTakeError) (.ref eTakeError) = some true)
    (xg_NoCode : PySem.W.nsIn K mainGlobals "NoCode" = some (some (.ref eNoCode)))
    (xb_NoCode : PySem.W.subIn K (.ref eNoCode) (.type "BaseException") = some true)
    (xt_NoCode : PySem.W.typeIn K (.ref eNoCode) = some (.type "type"))
    (xh_NoCode : PySem.W.hasDictIn K eNoCode = true)
    (xs_NoCode : PySem.W.subIn K (.ref eNoCode) (.ref eNoCode) = some true)
    (xg_NoText : PySem.W.nsIn K mainGlobals "NoText" = some (some (.ref eNoText)))
    (xb_NoText : PySem.W.subIn K (.ref eNoText) (.type "BaseException") = some true)
    (xt_NoText : PySem.W.typeIn K (.ref eNoText) = some (.type "type"))
    (xh_NoText : PySem.W.hasDictIn K eNoText = true)
    (xs_NoText : PySem.W.subIn K (.ref eNoText) (.ref eNoText) = some true)
    (u_NoStep_NoStep : PySem.W.subIn K (.ref eNoStep) (.ref eNoStep) = some true)
    (u_NoStep_TakeError : PySem.W.subIn K (.ref eNoStep) (.ref eTakeError) = some true)
    (u_NoStep_NoCode : PySem.W.subIn K (.ref eNoStep) (.ref eNoCode) = some false)
    (u_NoStep_NoText : PySem.W.subIn K (.ref eNoStep) (.ref eNoText) = some false)
    (v_NoStep_ValueError : PySem.W.subIn K (.ref eNoStep) (.type "ValueError") = some true)
    (n_WHOLE : PySem.W.nsIn K mainGlobals "WHOLE" = some (some (.int 1000000000000 t_WHOLE))) : Tx K mg where
  a_inside := f1
  f_inside := PySem.W.fnOf "inside" "inside" (defArgs s_inside) (defBody s_inside) (defScope s_inside) .none kV1 dc1 pm1 an1 cd1 ct1
  d_inside := ⟨fun_mk (st := s_inside) l1 c1 k1, PySem.W.mg_of X G a1, (fun_mk (st := s_inside) l1 c1 k1).binds (ps := p_inside) fun _ _ _ _ _ _ us hl => match us, hl with | [_, _], _ => rfl⟩
  a_push := f2
  f_push := PySem.W.fnOf "push" "push" (defArgs s_push) (defBody s_push) (defScope s_push) .none kV2 dc2 pm2 an2 cd2 ct2
  d_push := ⟨fun_mk (st := s_push) l2 c2 k2, PySem.W.mg_of X G a2, (fun_mk (st := s_push) l2 c2 k2).binds (ps := p_push) fun _ _ _ _ _ _ us hl => match us, hl with | [_], _ => rfl⟩
  a_reckoned := f3
  f_reckoned := PySem.W.fnOf "reckoned" "reckoned" (defArgs s_reckoned) (defBody s_reckoned) (defScope s_reckoned) .none kV3 dc3 pm3 an3 cd3 ct3
  d_reckoned := ⟨fun_mk (st := s_reckoned) l3 c3 k3, PySem.W.mg_of X G a3, (fun_mk (st := s_reckoned) l3 c3 k3).binds (ps := p_reckoned) fun _ _ _ _ _ _ us hl => match us, hl with | [_, _, _], _ => rfl⟩
  a_done_rows := f4
  f_done_rows := PySem.W.fnOf "done_rows" "done_rows" (defArgs s_done_rows) (defBody s_done_rows) (defScope s_done_rows) .none kV4 dc4 pm4 an4 cd4 ct4
  d_done_rows := ⟨fun_mk (st := s_done_rows) l4 c4 k4, PySem.W.mg_of X G a4, (fun_mk (st := s_done_rows) l4 c4 k4).binds (ps := p_done_rows) fun _ _ _ _ _ _ us hl => match us, hl with | [_, _], _ => rfl⟩
  a_done_things := f5
  f_done_things := PySem.W.fnOf "done_things" "done_things" (defArgs s_done_things) (defBody s_done_things) (defScope s_done_things) .none kV5 dc5 pm5 an5 cd5 ct5
  d_done_things := ⟨fun_mk (st := s_done_things) l5 c5 k5, PySem.W.mg_of X G a5, (fun_mk (st := s_done_things) l5 c5 k5).binds (ps := p_done_things) fun _ _ _ _ _ _ us hl => match us, hl with | [_, _], _ => rfl⟩
  a_done := f6
  f_done := PySem.W.fnOf "done" "done" (defArgs s_done) (defBody s_done) (defScope s_done) .none kV6 dc6 pm6 an6 cd6 ct6
  d_done := ⟨fun_mk (st := s_done) l6 c6 k6, PySem.W.mg_of X G a6, (fun_mk (st := s_done) l6 c6 k6).binds (ps := p_done) fun _ _ _ _ _ _ us hl => match us, hl with | [_, _], _ => rfl⟩
  a_is_set := f7
  f_is_set := PySem.W.fnOf "is_set" "is_set" (defArgs s_is_set) (defBody s_is_set) (defScope s_is_set) .none kV7 dc7 pm7 an7 cd7 ct7
  d_is_set := ⟨fun_mk (st := s_is_set) l7 c7 k7, PySem.W.mg_of X G a7, (fun_mk (st := s_is_set) l7 c7 k7).binds (ps := p_is_set) fun _ _ _ _ _ _ us hl => match us, hl with | [_], _ => rfl⟩
  a_run_code := f8
  f_run_code := PySem.W.fnOf "run_code" "run_code" (defArgs s_run_code) (defBody s_run_code) (defScope s_run_code) .none kV8 dc8 pm8 an8 cd8 ct8
  d_run_code := ⟨fun_mk (st := s_run_code) l8 c8 k8, PySem.W.mg_of X G a8, (fun_mk (st := s_run_code) l8 c8 k8).binds (ps := p_run_code) fun _ _ _ _ _ _ us hl => match us, hl with | [_, _], _ => rfl⟩
  a_l_mixed := f9
  f_l_mixed := PySem.W.fnOf "_law_mixed" "_law_mixed" (defArgs s_l_mixed) (defBody s_l_mixed) (defScope s_l_mixed) .none kV9 dc9 pm9 an9 cd9 ct9
  d_l_mixed := ⟨fun_mk (st := s_l_mixed) l9 c9 k9, PySem.W.mg_of X G a9, (fun_mk (st := s_l_mixed) l9 c9 k9).binds (ps := p_l_mixed) fun _ _ _ _ _ _ us hl => match us, hl with | [_], _ => rfl⟩
  a_l_deck := f10
  f_l_deck := PySem.W.fnOf "_law_deck" "_law_deck" (defArgs s_l_deck) (defBody s_l_deck) (defScope s_l_deck) .none kV10 dc10 pm10 an10 cd10 ct10
  d_l_deck := ⟨fun_mk (st := s_l_deck) l10 c10 k10, PySem.W.mg_of X G a10, (fun_mk (st := s_l_deck) l10 c10 k10).binds (ps := p_l_deck) fun _ _ _ _ _ _ us hl => match us, hl with | [_, _], _ => rfl⟩
  a_l_draw := f11
  f_l_draw := PySem.W.fnOf "_law_draw" "_law_draw" (defArgs s_l_draw) (defBody s_l_draw) (defScope s_l_draw) .none kV11 dc11 pm11 an11 cd11 ct11
  d_l_draw := ⟨fun_mk (st := s_l_draw) l11 c11 k11, PySem.W.mg_of X G a11, (fun_mk (st := s_l_draw) l11 c11 k11).binds (ps := p_l_draw) fun _ _ _ _ _ _ us hl => match us, hl with | [_, _], _ => rfl⟩
  a_l_size := f12
  f_l_size := PySem.W.fnOf "_law_size" "_law_size" (defArgs s_l_size) (defBody s_l_size) (defScope s_l_size) .none kV12 dc12 pm12 an12 cd12 ct12
  d_l_size := ⟨fun_mk (st := s_l_size) l12 c12 k12, PySem.W.mg_of X G a12, (fun_mk (st := s_l_size) l12 c12 k12).binds (ps := p_l_size) fun _ _ _ _ _ _ us hl => match us, hl with | [_], _ => rfl⟩
  a_l_cut := f13
  f_l_cut := PySem.W.fnOf "_law_cut" "_law_cut" (defArgs s_l_cut) (defBody s_l_cut) (defScope s_l_cut) .none kV13 dc13 pm13 an13 cd13 ct13
  d_l_cut := ⟨fun_mk (st := s_l_cut) l13 c13 k13, PySem.W.mg_of X G a13, (fun_mk (st := s_l_cut) l13 c13 k13).binds (ps := p_l_cut) fun _ _ _ _ _ _ us hl => match us, hl with | [_, _], _ => rfl⟩
  a_l_number := f14
  f_l_number := PySem.W.fnOf "_law_number" "_law_number" (defArgs s_l_number) (defBody s_l_number) (defScope s_l_number) .none kV14 dc14 pm14 an14 cd14 ct14
  d_l_number := ⟨fun_mk (st := s_l_number) l14 c14 k14, PySem.W.mg_of X G a14, (fun_mk (st := s_l_number) l14 c14 k14).binds (ps := p_l_number) fun _ _ _ _ _ _ us hl => match us, hl with | [_], _ => rfl⟩
  a_l_thing := f15
  f_l_thing := PySem.W.fnOf "_law_thing" "_law_thing" (defArgs s_l_thing) (defBody s_l_thing) (defScope s_l_thing) .none kV15 dc15 pm15 an15 cd15 ct15
  d_l_thing := ⟨fun_mk (st := s_l_thing) l15 c15 k15, PySem.W.mg_of X G a15, (fun_mk (st := s_l_thing) l15 c15 k15).binds (ps := p_l_thing) fun _ _ _ _ _ _ us hl => match us, hl with | [_, _], _ => rfl⟩
  a_l_shuffle := f16
  f_l_shuffle := PySem.W.fnOf "_law_shuffle" "_law_shuffle" (defArgs s_l_shuffle) (defBody s_l_shuffle) (defScope s_l_shuffle) .none kV16 dc16 pm16 an16 cd16 ct16
  d_l_shuffle := ⟨fun_mk (st := s_l_shuffle) l16 c16 k16, PySem.W.mg_of X G a16, (fun_mk (st := s_l_shuffle) l16 c16 k16).binds (ps := p_l_shuffle) fun _ _ _ _ _ _ us hl => match us, hl with | [_, _], _ => rfl⟩
  a_l_any_word := f17
  f_l_any_word := PySem.W.fnOf "_law_any_word" "_law_any_word" (defArgs s_l_any_word) (defBody s_l_any_word) (defScope s_l_any_word) .none kV17 dc17 pm17 an17 cd17 ct17
  d_l_any_word := ⟨fun_mk (st := s_l_any_word) l17 c17 k17, PySem.W.mg_of X G a17, (fun_mk (st := s_l_any_word) l17 c17 k17).binds (ps := p_l_any_word) fun _ _ _ _ _ _ us hl => match us, hl with | [_, _], _ => rfl⟩
  a_l_op := f18
  f_l_op := PySem.W.fnOf "_law_op" "_law_op" (defArgs s_l_op) (defBody s_l_op) (defScope s_l_op) .none kV18 dc18 pm18 an18 cd18 ct18
  d_l_op := ⟨fun_mk (st := s_l_op) l18 c18 k18, PySem.W.mg_of X G a18, (fun_mk (st := s_l_op) l18 c18 k18).binds (ps := p_l_op) fun _ _ _ _ _ _ us hl => match us, hl with | [_, _, _], _ => rfl⟩
  a_l_made := f19
  f_l_made := PySem.W.fnOf "_law_made" "_law_made" (defArgs s_l_made) (defBody s_l_made) (defScope s_l_made) .none kV19 dc19 pm19 an19 cd19 ct19
  d_l_made := ⟨fun_mk (st := s_l_made) l19 c19 k19, PySem.W.mg_of X G a19, (fun_mk (st := s_l_made) l19 c19 k19).binds (ps := p_l_made) fun _ _ _ _ _ _ us hl => match us, hl with | [_], _ => rfl⟩
  a_l_code := f20
  f_l_code := PySem.W.fnOf "_law_code" "_law_code" (defArgs s_l_code) (defBody s_l_code) (defScope s_l_code) .none kV20 dc20 pm20 an20 cd20 ct20
  d_l_code := ⟨fun_mk (st := s_l_code) l20 c20 k20, PySem.W.mg_of X G a20, (fun_mk (st := s_l_code) l20 c20 k20).binds (ps := p_l_code) fun _ _ _ _ _ _ us hl => match us, hl with | [_, _, _, _], _ => rfl⟩
  a_l_deep := f21
  f_l_deep := PySem.W.fnOf "_law_deep" "_law_deep" (defArgs s_l_deep) (defBody s_l_deep) (defScope s_l_deep) .none kV21 dc21 pm21 an21 cd21 ct21
  d_l_deep := ⟨fun_mk (st := s_l_deep) l21 c21 k21, PySem.W.mg_of X G a21, (fun_mk (st := s_l_deep) l21 c21 k21).binds (ps := p_l_deep) fun _ _ _ _ _ _ us hl => match us, hl with | [_], _ => rfl⟩
  a_l_pair_op := f22
  f_l_pair_op := PySem.W.fnOf "_law_pair_op" "_law_pair_op" (defArgs s_l_pair_op) (defBody s_l_pair_op) (defScope s_l_pair_op) .none kV22 dc22 pm22 an22 cd22 ct22
  d_l_pair_op := ⟨fun_mk (st := s_l_pair_op) l22 c22 k22, PySem.W.mg_of X G a22, (fun_mk (st := s_l_pair_op) l22 c22 k22).binds (ps := p_l_pair_op) fun _ _ _ _ _ _ us hl => match us, hl with | [_, _, _], _ => rfl⟩
  a_l_told := f23
  f_l_told := PySem.W.fnOf "_law_told" "_law_told" (defArgs s_l_told) (defBody s_l_told) (defScope s_l_told) .none kV23 dc23 pm23 an23 cd23 ct23
  d_l_told := ⟨fun_mk (st := s_l_told) l23 c23 k23, PySem.W.mg_of X G a23, (fun_mk (st := s_l_told) l23 c23 k23).binds (ps := p_l_told) fun _ _ _ _ _ _ us hl => match us, hl with | [_, _], _ => rfl⟩
  a_l_run_told := f24
  f_l_run_told := PySem.W.fnOf "_law_run_told" "_law_run_told" (defArgs s_l_run_told) (defBody s_l_run_told) (defScope s_l_run_told) .none kV24 dc24 pm24 an24 cd24 ct24
  d_l_run_told := ⟨fun_mk (st := s_l_run_told) l24 c24 k24, PySem.W.mg_of X G a24, (fun_mk (st := s_l_run_told) l24 c24 k24).binds (ps := p_l_run_told) fun _ _ _ _ _ _ us hl => match us, hl with | [_, _], _ => rfl⟩
  a_law := f25
  f_law := PySem.W.fnOf "law" "law" (defArgs s_law) (defBody s_law) (defScope s_law) .none kV25 dc25 pm25 an25 cd25 ct25
  d_law := ⟨fun_mk (st := s_law) l25 c25 k25, PySem.W.mg_of X G a25, (fun_mk (st := s_law) l25 c25 k25).binds (ps := p_law) fun _ _ _ _ _ _ us hl => match us, hl with | [_], _ => rfl⟩
  z_ValueError := PySem.W.mg_none_of X G z_ValueError
  z_int := PySem.W.mg_none_of X G z_int
  z_isinstance := PySem.W.mg_none_of X G z_isinstance
  z_len := PySem.W.mg_none_of X G z_len
  z_list := PySem.W.mg_none_of X G z_list
  z_max := PySem.W.mg_none_of X G z_max
  z_range := PySem.W.mg_none_of X G z_range
  z_sum := PySem.W.mg_none_of X G z_sum
  z_tuple := PySem.W.mg_none_of X G z_tuple
  e_NoStep := eNoStep
  E_NoStep := ⟨PySem.W.mg_of X G xg_NoStep, xx_NoStep, xk_NoStep, xb_NoStep, xt_NoStep⟩
  X_NoStep := ⟨xq_NoStep, xp_NoStep, xb_NoStep, xh_NoStep, xa_NoStep, xn_NoStep, xw_NoStep, xm_NoStep⟩
  C_NoStep := ⟨PySem.W.mg_of X G xg_NoStep, xb_NoStep, xh_NoStep, xt_NoStep, xs_NoStep⟩
  e_TakeError := eTakeError
  C_TakeError := ⟨PySem.W.mg_of X G xg_TakeError, xb_TakeError, xh_TakeError, xt_TakeError, xs_TakeError⟩
  e_NoCode := eNoCode
  C_NoCode := ⟨PySem.W.mg_of X G xg_NoCode, xb_NoCode, xh_NoCode, xt_NoCode, xs_NoCode⟩
  e_NoText := eNoText
  C_NoText := ⟨PySem.W.mg_of X G xg_NoText, xb_NoText, xh_NoText, xt_NoText, xs_NoText⟩
  u_NoStep_NoStep := u_NoStep_NoStep
  u_NoStep_TakeError := u_NoStep_TakeError
  u_NoStep_NoCode := u_NoStep_NoCode
  u_NoStep_NoText := u_NoStep_NoText
  v_NoStep_ValueError := v_NoStep_ValueError
  c_WHOLE := ⟨_, .int 1000000000000, PySem.W.mg_of X G n_WHOLE, ⟨_, rfl⟩, fun _ _ => .int _⟩
def spLaw (K : PySem.W.Frag) : Sp := fun vs H Q _ => ∃ (a : Addr) (ns : List Int), vs = [.ref a] ∧ Only H ∧ SqL K H a (ns.map V.int) ∧ ns.length ≤ 63 ∧ ∀ H', Q (.bl true) H'
theorem law_sp {K : PySem.W.Frag} {mg : Str → Option Value} {G : List D → M D} (hG : ∀ ns : List Int, ns.length ≤ 63 → ∃ S', G [.fl (ns.map .int)] [] = .ok (.bl true) S') (vs : List V) (H : Hp) (Q : VK) (E : XK) (h : spLaw K vs H Q E) : spD K mg 1 G vs H Q E := by
  obtain ⟨a, ns, rfl, hO, hS, hl, k⟩ := h
  obtain ⟨S', hS'⟩ := hG ns hl
  refine ⟨⟨[], []⟩, [], [.fl (ns.map .int)], rfl, .cons (.fl (vs := ns.map V.int) ?_ (RDs.of_ints ns)) .nil, ⟨rfl, List.nodup_nil, fun i a m h => by simp at h, fun a h => by simp at h, fun a h => by simp at h⟩, ?_⟩
  · rcases hS with (hS | ⟨o, hS⟩) | hS
    · rcases hO a with z | ⟨o, xs, z⟩ <;> rw [hS] at z <;> cases z
    · exact .inl ⟨o, hS⟩
    · exact .inr hS
  · rw [hS']
    intro μ' H' _ _ v rv
    cases rv
    exact k H'
theorem all_mk {l : PySem.W.OpenLaw} {w : World} {K : PySem.W.Frag} {h : Heap} {mg : Str → Option Value} {fa : Addr} (fu n : Nat) (hG : ∀ ns : List Int, ns.length ≤ 63 → ∃ S', den fu n i_law [.fl (ns.map .int)] [] = .ok (.bl true) S') (X : K.In h) (G : h.Ns mainGlobals mg) (hfa : mg "law" = some (.ref fa))
    {f1 : Addr} {od1 an1 : Option Addr} {sl1 : Array (Option Value)} {oc1 kV1 dc1 pm1 cd1 ct1 : Value}
    {f2 : Addr} {od2 an2 : Option Addr} {sl2 : Array (Option Value)} {oc2 kV2 dc2 pm2 cd2 ct2 : Value}
    {f3 : Addr} {od3 an3 : Option Addr} {sl3 : Array (Option Value)} {oc3 kV3 dc3 pm3 cd3 ct3 : Value}
    {f4 : Addr} {od4 an4 : Option Addr} {sl4 : Array (Option Value)} {oc4 kV4 dc4 pm4 cd4 ct4 : Value}
    {f5 : Addr} {od5 an5 : Option Addr} {sl5 : Array (Option Value)} {oc5 kV5 dc5 pm5 cd5 ct5 : Value}
    {f6 : Addr} {od6 an6 : Option Addr} {sl6 : Array (Option Value)} {oc6 kV6 dc6 pm6 cd6 ct6 : Value}
    {f7 : Addr} {od7 an7 : Option Addr} {sl7 : Array (Option Value)} {oc7 kV7 dc7 pm7 cd7 ct7 : Value}
    {f8 : Addr} {od8 an8 : Option Addr} {sl8 : Array (Option Value)} {oc8 kV8 dc8 pm8 cd8 ct8 : Value}
    {f9 : Addr} {od9 an9 : Option Addr} {sl9 : Array (Option Value)} {oc9 kV9 dc9 pm9 cd9 ct9 : Value}
    {f10 : Addr} {od10 an10 : Option Addr} {sl10 : Array (Option Value)} {oc10 kV10 dc10 pm10 cd10 ct10 : Value}
    {f11 : Addr} {od11 an11 : Option Addr} {sl11 : Array (Option Value)} {oc11 kV11 dc11 pm11 cd11 ct11 : Value}
    {f12 : Addr} {od12 an12 : Option Addr} {sl12 : Array (Option Value)} {oc12 kV12 dc12 pm12 cd12 ct12 : Value}
    {f13 : Addr} {od13 an13 : Option Addr} {sl13 : Array (Option Value)} {oc13 kV13 dc13 pm13 cd13 ct13 : Value}
    {f14 : Addr} {od14 an14 : Option Addr} {sl14 : Array (Option Value)} {oc14 kV14 dc14 pm14 cd14 ct14 : Value}
    {f15 : Addr} {od15 an15 : Option Addr} {sl15 : Array (Option Value)} {oc15 kV15 dc15 pm15 cd15 ct15 : Value}
    {f16 : Addr} {od16 an16 : Option Addr} {sl16 : Array (Option Value)} {oc16 kV16 dc16 pm16 cd16 ct16 : Value}
    {f17 : Addr} {od17 an17 : Option Addr} {sl17 : Array (Option Value)} {oc17 kV17 dc17 pm17 cd17 ct17 : Value}
    {f18 : Addr} {od18 an18 : Option Addr} {sl18 : Array (Option Value)} {oc18 kV18 dc18 pm18 cd18 ct18 : Value}
    {f19 : Addr} {od19 an19 : Option Addr} {sl19 : Array (Option Value)} {oc19 kV19 dc19 pm19 cd19 ct19 : Value}
    {f20 : Addr} {od20 an20 : Option Addr} {sl20 : Array (Option Value)} {oc20 kV20 dc20 pm20 cd20 ct20 : Value}
    {f21 : Addr} {od21 an21 : Option Addr} {sl21 : Array (Option Value)} {oc21 kV21 dc21 pm21 cd21 ct21 : Value}
    {f22 : Addr} {od22 an22 : Option Addr} {sl22 : Array (Option Value)} {oc22 kV22 dc22 pm22 cd22 ct22 : Value}
    {f23 : Addr} {od23 an23 : Option Addr} {sl23 : Array (Option Value)} {oc23 kV23 dc23 pm23 cd23 ct23 : Value}
    {f24 : Addr} {od24 an24 : Option Addr} {sl24 : Array (Option Value)} {oc24 kV24 dc24 pm24 cd24 ct24 : Value}
    {f25 : Addr} {od25 an25 : Option Addr} {sl25 : Array (Option Value)} {oc25 kV25 dc25 pm25 cd25 ct25 : Value}
    {eNoStep : Addr}
    {eTakeError : Addr}
    {eNoCode : Addr}
    {eNoText : Addr}
    {t_WHOLE : Tok}
    (a1 : PySem.W.nsIn K mainGlobals "inside" = some (some (.ref f1))) (l1 : K.lookup f1 = some ⟨oc1, od1, .func (PySem.W.fnOf "inside" "inside" (defArgs s_inside) (defBody s_inside) (defScope s_inside) .none kV1 dc1 pm1 an1 cd1 ct1), sl1⟩) (c1 : PySem.W.codeIn K cd1 "inside" = true) (k1 : PySem.W.keepIn K (.ref f1) = true)
    (a2 : PySem.W.nsIn K mainGlobals "push" = some (some (.ref f2))) (l2 : K.lookup f2 = some ⟨oc2, od2, .func (PySem.W.fnOf "push" "push" (defArgs s_push) (defBody s_push) (defScope s_push) .none kV2 dc2 pm2 an2 cd2 ct2), sl2⟩) (c2 : PySem.W.codeIn K cd2 "push" = true) (k2 : PySem.W.keepIn K (.ref f2) = true)
    (a3 : PySem.W.nsIn K mainGlobals "reckoned" = some (some (.ref f3))) (l3 : K.lookup f3 = some ⟨oc3, od3, .func (PySem.W.fnOf "reckoned" "reckoned" (defArgs s_reckoned) (defBody s_reckoned) (defScope s_reckoned) .none kV3 dc3 pm3 an3 cd3 ct3), sl3⟩) (c3 : PySem.W.codeIn K cd3 "reckoned" = true) (k3 : PySem.W.keepIn K (.ref f3) = true)
    (a4 : PySem.W.nsIn K mainGlobals "done_rows" = some (some (.ref f4))) (l4 : K.lookup f4 = some ⟨oc4, od4, .func (PySem.W.fnOf "done_rows" "done_rows" (defArgs s_done_rows) (defBody s_done_rows) (defScope s_done_rows) .none kV4 dc4 pm4 an4 cd4 ct4), sl4⟩) (c4 : PySem.W.codeIn K cd4 "done_rows" = true) (k4 : PySem.W.keepIn K (.ref f4) = true)
    (a5 : PySem.W.nsIn K mainGlobals "done_things" = some (some (.ref f5))) (l5 : K.lookup f5 = some ⟨oc5, od5, .func (PySem.W.fnOf "done_things" "done_things" (defArgs s_done_things) (defBody s_done_things) (defScope s_done_things) .none kV5 dc5 pm5 an5 cd5 ct5), sl5⟩) (c5 : PySem.W.codeIn K cd5 "done_things" = true) (k5 : PySem.W.keepIn K (.ref f5) = true)
    (a6 : PySem.W.nsIn K mainGlobals "done" = some (some (.ref f6))) (l6 : K.lookup f6 = some ⟨oc6, od6, .func (PySem.W.fnOf "done" "done" (defArgs s_done) (defBody s_done) (defScope s_done) .none kV6 dc6 pm6 an6 cd6 ct6), sl6⟩) (c6 : PySem.W.codeIn K cd6 "done" = true) (k6 : PySem.W.keepIn K (.ref f6) = true)
    (a7 : PySem.W.nsIn K mainGlobals "is_set" = some (some (.ref f7))) (l7 : K.lookup f7 = some ⟨oc7, od7, .func (PySem.W.fnOf "is_set" "is_set" (defArgs s_is_set) (defBody s_is_set) (defScope s_is_set) .none kV7 dc7 pm7 an7 cd7 ct7), sl7⟩) (c7 : PySem.W.codeIn K cd7 "is_set" = true) (k7 : PySem.W.keepIn K (.ref f7) = true)
    (a8 : PySem.W.nsIn K mainGlobals "run_code" = some (some (.ref f8))) (l8 : K.lookup f8 = some ⟨oc8, od8, .func (PySem.W.fnOf "run_code" "run_code" (defArgs s_run_code) (defBody s_run_code) (defScope s_run_code) .none kV8 dc8 pm8 an8 cd8 ct8), sl8⟩) (c8 : PySem.W.codeIn K cd8 "run_code" = true) (k8 : PySem.W.keepIn K (.ref f8) = true)
    (a9 : PySem.W.nsIn K mainGlobals "_law_mixed" = some (some (.ref f9))) (l9 : K.lookup f9 = some ⟨oc9, od9, .func (PySem.W.fnOf "_law_mixed" "_law_mixed" (defArgs s_l_mixed) (defBody s_l_mixed) (defScope s_l_mixed) .none kV9 dc9 pm9 an9 cd9 ct9), sl9⟩) (c9 : PySem.W.codeIn K cd9 "_law_mixed" = true) (k9 : PySem.W.keepIn K (.ref f9) = true)
    (a10 : PySem.W.nsIn K mainGlobals "_law_deck" = some (some (.ref f10))) (l10 : K.lookup f10 = some ⟨oc10, od10, .func (PySem.W.fnOf "_law_deck" "_law_deck" (defArgs s_l_deck) (defBody s_l_deck) (defScope s_l_deck) .none kV10 dc10 pm10 an10 cd10 ct10), sl10⟩) (c10 : PySem.W.codeIn K cd10 "_law_deck" = true) (k10 : PySem.W.keepIn K (.ref f10) = true)
    (a11 : PySem.W.nsIn K mainGlobals "_law_draw" = some (some (.ref f11))) (l11 : K.lookup f11 = some ⟨oc11, od11, .func (PySem.W.fnOf "_law_draw" "_law_draw" (defArgs s_l_draw) (defBody s_l_draw) (defScope s_l_draw) .none kV11 dc11 pm11 an11 cd11 ct11), sl11⟩) (c11 : PySem.W.codeIn K cd11 "_law_draw" = true) (k11 : PySem.W.keepIn K (.ref f11) = true)
    (a12 : PySem.W.nsIn K mainGlobals "_law_size" = some (some (.ref f12))) (l12 : K.lookup f12 = some ⟨oc12, od12, .func (PySem.W.fnOf "_law_size" "_law_size" (defArgs s_l_size) (defBody s_l_size) (defScope s_l_size) .none kV12 dc12 pm12 an12 cd12 ct12), sl12⟩) (c12 : PySem.W.codeIn K cd12 "_law_size" = true) (k12 : PySem.W.keepIn K (.ref f12) = true)
    (a13 : PySem.W.nsIn K mainGlobals "_law_cut" = some (some (.ref f13))) (l13 : K.lookup f13 = some ⟨oc13, od13, .func (PySem.W.fnOf "_law_cut" "_law_cut" (defArgs s_l_cut) (defBody s_l_cut) (defScope s_l_cut) .none kV13 dc13 pm13 an13 cd13 ct13), sl13⟩) (c13 : PySem.W.codeIn K cd13 "_law_cut" = true) (k13 : PySem.W.keepIn K (.ref f13) = true)
    (a14 : PySem.W.nsIn K mainGlobals "_law_number" = some (some (.ref f14))) (l14 : K.lookup f14 = some ⟨oc14, od14, .func (PySem.W.fnOf "_law_number" "_law_number" (defArgs s_l_number) (defBody s_l_number) (defScope s_l_number) .none kV14 dc14 pm14 an14 cd14 ct14), sl14⟩) (c14 : PySem.W.codeIn K cd14 "_law_number" = true) (k14 : PySem.W.keepIn K (.ref f14) = true)
    (a15 : PySem.W.nsIn K mainGlobals "_law_thing" = some (some (.ref f15))) (l15 : K.lookup f15 = some ⟨oc15, od15, .func (PySem.W.fnOf "_law_thing" "_law_thing" (defArgs s_l_thing) (defBody s_l_thing) (defScope s_l_thing) .none kV15 dc15 pm15 an15 cd15 ct15), sl15⟩) (c15 : PySem.W.codeIn K cd15 "_law_thing" = true) (k15 : PySem.W.keepIn K (.ref f15) = true)
    (a16 : PySem.W.nsIn K mainGlobals "_law_shuffle" = some (some (.ref f16))) (l16 : K.lookup f16 = some ⟨oc16, od16, .func (PySem.W.fnOf "_law_shuffle" "_law_shuffle" (defArgs s_l_shuffle) (defBody s_l_shuffle) (defScope s_l_shuffle) .none kV16 dc16 pm16 an16 cd16 ct16), sl16⟩) (c16 : PySem.W.codeIn K cd16 "_law_shuffle" = true) (k16 : PySem.W.keepIn K (.ref f16) = true)
    (a17 : PySem.W.nsIn K mainGlobals "_law_any_word" = some (some (.ref f17))) (l17 : K.lookup f17 = some ⟨oc17, od17, .func (PySem.W.fnOf "_law_any_word" "_law_any_word" (defArgs s_l_any_word) (defBody s_l_any_word) (defScope s_l_any_word) .none kV17 dc17 pm17 an17 cd17 ct17), sl17⟩) (c17 : PySem.W.codeIn K cd17 "_law_any_word" = true) (k17 : PySem.W.keepIn K (.ref f17) = true)
    (a18 : PySem.W.nsIn K mainGlobals "_law_op" = some (some (.ref f18))) (l18 : K.lookup f18 = some ⟨oc18, od18, .func (PySem.W.fnOf "_law_op" "_law_op" (defArgs s_l_op) (defBody s_l_op) (defScope s_l_op) .none kV18 dc18 pm18 an18 cd18 ct18), sl18⟩) (c18 : PySem.W.codeIn K cd18 "_law_op" = true) (k18 : PySem.W.keepIn K (.ref f18) = true)
    (a19 : PySem.W.nsIn K mainGlobals "_law_made" = some (some (.ref f19))) (l19 : K.lookup f19 = some ⟨oc19, od19, .func (PySem.W.fnOf "_law_made" "_law_made" (defArgs s_l_made) (defBody s_l_made) (defScope s_l_made) .none kV19 dc19 pm19 an19 cd19 ct19), sl19⟩) (c19 : PySem.W.codeIn K cd19 "_law_made" = true) (k19 : PySem.W.keepIn K (.ref f19) = true)
    (a20 : PySem.W.nsIn K mainGlobals "_law_code" = some (some (.ref f20))) (l20 : K.lookup f20 = some ⟨oc20, od20, .func (PySem.W.fnOf "_law_code" "_law_code" (defArgs s_l_code) (defBody s_l_code) (defScope s_l_code) .none kV20 dc20 pm20 an20 cd20 ct20), sl20⟩) (c20 : PySem.W.codeIn K cd20 "_law_code" = true) (k20 : PySem.W.keepIn K (.ref f20) = true)
    (a21 : PySem.W.nsIn K mainGlobals "_law_deep" = some (some (.ref f21))) (l21 : K.lookup f21 = some ⟨oc21, od21, .func (PySem.W.fnOf "_law_deep" "_law_deep" (defArgs s_l_deep) (defBody s_l_deep) (defScope s_l_deep) .none kV21 dc21 pm21 an21 cd21 ct21), sl21⟩) (c21 : PySem.W.codeIn K cd21 "_law_deep" = true) (k21 : PySem.W.keepIn K (.ref f21) = true)
    (a22 : PySem.W.nsIn K mainGlobals "_law_pair_op" = some (some (.ref f22))) (l22 : K.lookup f22 = some ⟨oc22, od22, .func (PySem.W.fnOf "_law_pair_op" "_law_pair_op" (defArgs s_l_pair_op) (defBody s_l_pair_op) (defScope s_l_pair_op) .none kV22 dc22 pm22 an22 cd22 ct22), sl22⟩) (c22 : PySem.W.codeIn K cd22 "_law_pair_op" = true) (k22 : PySem.W.keepIn K (.ref f22) = true)
    (a23 : PySem.W.nsIn K mainGlobals "_law_told" = some (some (.ref f23))) (l23 : K.lookup f23 = some ⟨oc23, od23, .func (PySem.W.fnOf "_law_told" "_law_told" (defArgs s_l_told) (defBody s_l_told) (defScope s_l_told) .none kV23 dc23 pm23 an23 cd23 ct23), sl23⟩) (c23 : PySem.W.codeIn K cd23 "_law_told" = true) (k23 : PySem.W.keepIn K (.ref f23) = true)
    (a24 : PySem.W.nsIn K mainGlobals "_law_run_told" = some (some (.ref f24))) (l24 : K.lookup f24 = some ⟨oc24, od24, .func (PySem.W.fnOf "_law_run_told" "_law_run_told" (defArgs s_l_run_told) (defBody s_l_run_told) (defScope s_l_run_told) .none kV24 dc24 pm24 an24 cd24 ct24), sl24⟩) (c24 : PySem.W.codeIn K cd24 "_law_run_told" = true) (k24 : PySem.W.keepIn K (.ref f24) = true)
    (a25 : PySem.W.nsIn K mainGlobals "law" = some (some (.ref f25))) (l25 : K.lookup f25 = some ⟨oc25, od25, .func (PySem.W.fnOf "law" "law" (defArgs s_law) (defBody s_law) (defScope s_law) .none kV25 dc25 pm25 an25 cd25 ct25), sl25⟩) (c25 : PySem.W.codeIn K cd25 "law" = true) (k25 : PySem.W.keepIn K (.ref f25) = true)
    (z_ValueError : PySem.W.nsIn K mainGlobals "ValueError" = some none)
    (z_int : PySem.W.nsIn K mainGlobals "int" = some none)
    (z_isinstance : PySem.W.nsIn K mainGlobals "isinstance" = some none)
    (z_len : PySem.W.nsIn K mainGlobals "len" = some none)
    (z_list : PySem.W.nsIn K mainGlobals "list" = some none)
    (z_max : PySem.W.nsIn K mainGlobals "max" = some none)
    (z_range : PySem.W.nsIn K mainGlobals "range" = some none)
    (z_sum : PySem.W.nsIn K mainGlobals "sum" = some none)
    (z_tuple : PySem.W.nsIn K mainGlobals "tuple" = some none)
    (xg_NoStep : PySem.W.nsIn K mainGlobals "NoStep" = some (some (.ref eNoStep)))
    (xb_NoStep : PySem.W.subIn K (.ref eNoStep) (.type "BaseException") = some true)
    (xt_NoStep : PySem.W.typeIn K (.ref eNoStep) = some (.type "type"))
    (xx_NoStep : PySem.W.excIn K eNoStep veB "ValueError.__new__" = true)
    (xk_NoStep : PySem.W.keepIn K (.ref eNoStep) = true)
    (xh_NoStep : PySem.W.hasDictIn K eNoStep = true)
    (xq_NoStep : PySem.W.findIn K (.ref eNoStep) "__getattribute__" = some (some (.builtin "BaseException.__getattribute__")))
    (xp_NoStep : PySem.W.findIn K (.ref eNoStep) "__getattr__" = some none)
    (xa_NoStep : PySem.W.findIn K (.ref eNoStep) "__class__" = some (some (.builtin "object.__class__")))
    (xn_NoStep : PySem.W.specialIn K (.builtin "object.__class__") "__get__" = some (some (.builtin "getset_descriptor.__get__")))
    (xw_NoStep : PySem.W.takesIn K (.builtin "object.__class__") = some true)
    (xm_NoStep : PySem.W.mroIn K eNoStep (.type "object") = some true)
    (xs_NoStep : PySem.W.subIn K (.ref eNoStep) (.ref eNoStep) = some true)
    (xg_TakeError : PySem.W.nsIn K mainGlobals "TakeError" = some (some (.ref eTakeError)))
    (xb_TakeError : PySem.W.subIn K (.ref eTakeError) (.type "BaseException") = some true)
    (xt_TakeError : PySem.W.typeIn K (.ref eTakeError) = some (.type "type"))
    (xh_TakeError : PySem.W.hasDictIn K eTakeError = true)
    (xs_TakeError : PySem.W.subIn K (.ref eTakeError) (.ref eTakeError) = some true)
    (xg_NoCode : PySem.W.nsIn K mainGlobals "NoCode" = some (some (.ref eNoCode)))
    (xb_NoCode : PySem.W.subIn K (.ref eNoCode) (.type "BaseException") = some true)
    (xt_NoCode : PySem.W.typeIn K (.ref eNoCode) = some (.type "type"))
    (xh_NoCode : PySem.W.hasDictIn K eNoCode = true)
    (xs_NoCode : PySem.W.subIn K (.ref eNoCode) (.ref eNoCode) = some true)
    (xg_NoText : PySem.W.nsIn K mainGlobals "NoText" = some (some (.ref eNoText)))
    (xb_NoText : PySem.W.subIn K (.ref eNoText) (.type "BaseException") = some true)
    (xt_NoText : PySem.W.typeIn K (.ref eNoText) = some (.type "type"))
    (xh_NoText : PySem.W.hasDictIn K eNoText = true)
    (xs_NoText : PySem.W.subIn K (.ref eNoText) (.ref eNoText) = some true)
    (u_NoStep_NoStep : PySem.W.subIn K (.ref eNoStep) (.ref eNoStep) = some true)
    (u_NoStep_TakeError : PySem.W.subIn K (.ref eNoStep) (.ref eTakeError) = some true)
    (u_NoStep_NoCode : PySem.W.subIn K (.ref eNoStep) (.ref eNoCode) = some false)
    (u_NoStep_NoText : PySem.W.subIn K (.ref eNoStep) (.ref eNoText) = some false)
    (v_NoStep_ValueError : PySem.W.subIn K (.ref eNoStep) (.type "ValueError") = some true)
    (n_WHOLE : PySem.W.nsIn K mainGlobals "WHOLE" = some (some (.int 1000000000000 t_WHOLE))) :
    ∃ fd : FuncData, (∀ (s : Shared) (v : Value), BindsTo s fd ⟨[v], []⟩ [("_law_script", v)]) ∧ ∀ base : Heap, K.In base → base.Ns mainGlobals mg → FnOk l.prog w K mg base (L2.CX l.prog w) (n + 20) fa fd ["_law_script"] (spLaw K) := by
  have e := hfa.symm.trans (PySem.W.mg_of X G a25)
  cases e
  exact ⟨PySem.W.fnOf "law" "law" (defArgs s_law) (defBody s_law) (defScope s_law) .none kV25 dc25 pm25 an25 cd25 ct25, fun s v => .of_eq rfl, fun base _ _ => (cal (T := txMk X G a1 l1 c1 k1 a2 l2 c2 k2 a3 l3 c3 k3 a4 l4 c4 k4 a5 l5 c5 k5 a6 l6 c6 k6 a7 l7 c7 k7 a8 l8 c8 k8 a9 l9 c9 k9 a10 l10 c10 k10 a11 l11 c11 k11 a12 l12 c12 k12 a13 l13 c13 k13 a14 l14 c14 k14 a15 l15 c15 k15 a16 l16 c16 k16 a17 l17 c17 k17 a18 l18 c18 k18 a19 l19 c19 k19 a20 l20 c20 k20 a21 l21 c21 k21 a22 l22 c22 k22 a23 l23 c23 k23 a24 l24 c24 k24 a25 l25 c25 k25 z_ValueError z_int z_isinstance z_len z_list z_max z_range z_sum z_tuple xg_NoStep xb_NoStep xt_NoStep xx_NoStep xk_NoStep xh_NoStep xq_NoStep xp_NoStep xa_NoStep xn_NoStep xw_NoStep xm_NoStep xs_NoStep xg_TakeError xb_TakeError xt_TakeError xh_TakeError xs_TakeError xg_NoCode xb_NoCode xt_NoCode xh_NoCode xs_NoCode xg_NoText xb_NoText xt_NoText xh_NoText xs_NoText u_NoStep_NoStep u_NoStep_TakeError u_NoStep_NoCode u_NoStep_NoText v_NoStep_ValueError n_WHOLE) fu n).law.imp (law_sp hG)⟩
end K64

namespace K64
open PySem L2 DL
variable {fu n k : Nat} {S S0 : Sto} {F : D → Sto → Prop} {E : Exc → Sto → Prop}
theorem isiN_ss : isiN "str" "str" = true := by decide
theorem isiN_tt : isiN "tuple" "tuple" = true := by decide
theorem isiN_ii : isiN "int" "int" = true := by decide
theorem isiN_ib : isiN "int" "bool" = false := by decide
theorem isiN_bi : isiN "bool" "int" = true := by decide
theorem isiN_bb : isiN "bool" "bool" = true := by decide
theorem isiN_ts : isiN "tuple" "str" = false := by decide
theorem isiN_st : isiN "str" "tuple" = false := by decide
theorem isiN_lt : isiN "list" "tuple" = false := by decide
theorem isiN_nt : isiN "NoneType" "tuple" = false := by decide
theorem isiN_ns : isiN "NoneType" "str" = false := by decide
theorem isiN_it : isiN "int" "tuple" = false := by decide
theorem isiN_si : isiN "str" "int" = false := by decide
theorem isiN_ti : isiN "tuple" "int" = false := by decide
def basics : List Str := ["plus", "minus", "times", "less", "same", "do", "dip", "if", "while", "repeat", "join", "wrap", "put", "part", "each"]
def IsSh (z : Str) : Prop := ∃ a b : List Nat, z = (⟨a.toArray⟩ : Str) ++ (⟨#[45]⟩ : Str) ++ (⟨b.toArray⟩ : Str) ∧ (∃ m, m ≤ 8 ∧ a = [97, 98, 99, 100, 101, 102, 103, 104].take m) ∧ b.length ≤ 12 ∧ ∀ x ∈ b, x ∈ a
theorem dash_eq : Str.ofString "-" = ⟨#[45]⟩ := by decide +kernel
theorem letters_eq : Str.ofString "abcdefgh" = ⟨#[97, 98, 99, 100, 101, 102, 103, 104]⟩ := by decide +kernel
theorem iLst_strs {l : List Str} : iLst S (.lst (l.map .str)) = some (l.map .str) := rfl
def WdS (w : D) : Prop := ∃ z : Str, w = .str z ∧ z.length ≤ 100 ∧ (z ∈ basics ∨ IsSh z)
def Num (d : D) : Prop := ∃ i : Int, d = .tup [.str "number", .int i] ∧ 0 ≤ i ∧ i < 1000000000000
def ThG : Nat → D → Prop
  | 0, d => Num d
  | k + 1, d => Num d ∨ (∃ ws, d = .tup [.str "row", .tup ws] ∧ ws.length ≤ 1000 ∧ ∀ w ∈ ws, WdS w ∨ ∃ t, w = .tup [.str "push", t] ∧ ThG k t) ∨
      (∃ ts, d = .tup [.str "list", .tup ts] ∧ ts.length ≤ 1000 ∧ ∀ t ∈ ts, ThG k t)
def WdG (k : Nat) (w : D) : Prop := WdS w ∨ ∃ t, w = .tup [.str "push", t] ∧ ThG k t
theorem ThG.num {d : D} (h : Num d) : ∀ k, ThG k d
  | 0 => h
  | _ + 1 => .inl h
theorem WdS.tr {w : D} (h : WdS w) : tr w := by obtain ⟨z, rfl, _⟩ := h; rfl
theorem ThG.tr : ∀ {k : Nat} {d : D}, ThG k d → tr d
  | 0, d, ⟨i, e, _⟩ => by subst e; rfl
  | k + 1, d, h => by
    rcases h with ⟨i, rfl, _⟩ | ⟨ws, rfl, _, h⟩ | ⟨ts, rfl, _, h⟩
    · rfl
    · have : D.los 0 ws = true := los_iff ws |>.mpr fun w hw => by
        rcases h w hw with q | ⟨t, rfl, q⟩
        · exact q.tr
        · have := ThG.tr q
          simp only [DL.tr, D.lo, D.los, Bool.and_true, Bool.true_and] at this ⊢
          exact this
      simp only [DL.tr, D.lo, D.los, Bool.and_true, Bool.true_and]
      exact this
    · have : D.los 0 ts = true := los_iff ts |>.mpr fun t ht => ThG.tr (h t ht)
      simp only [DL.tr, D.lo, D.los, Bool.and_true, Bool.true_and]
      exact this
def Reg (many : Nat) (d : D) : Prop := ∃ i : Nat, d = .int i ∧ i < many
theorem Reg.mono {m m' : Nat} {d : D} (h : Reg m d) (l : m ≤ m') : Reg m' d := by obtain ⟨i, rfl, h⟩ := h; exact ⟨i, rfl, by omega⟩
def pairs : List Str := ["plus", "minus", "times", "less", "same", "put", "join"]
def OpG (CG : Nat → Nat → D → Prop) (many made : Nat) (op : D) : Prop :=
  (made = 1 ∧ ∃ t, op = .tup [.str "push", t] ∧ ThG 2 t) ∨ (made = 1 ∧ ∃ a, op = .tup [.str "wrap", a] ∧ Reg many a) ∨
  (made = 1 ∧ ∃ w a b, op = .tup [.str w, a, b] ∧ w ∈ pairs ∧ Reg many a ∧ Reg many b) ∨
  ∃ one args side other, op = .tup [.str "if", one, .tup args, side, other] ∧ Reg many one ∧ (∀ a ∈ args, Reg many a) ∧ args.length ≤ 3 ∧ made ≤ 3 ∧ CG args.length made side ∧ CG args.length made other
def OpsG (CG : Nat → Nat → D → Prop) : Nat → List D → Nat → Prop
  | many, [], e => e = many
  | many, op :: r, e => ∃ made, OpG CG many made op ∧ OpsG CG (many + made) r e
def CodeG : Nat → Nat → Nat → D → Prop
  | 0 => fun _ _ _ => False
  | k + 1 => fun takes wide d => ∃ ops outs e, d = .tup [.int takes, .tup ops, .tup outs] ∧ ops.length ≤ 7 ∧ takes ≤ 4 ∧ OpsG (CodeG k) takes ops e ∧ outs.length = wide ∧ wide ≤ 5 ∧ (∀ o ∈ outs, Reg e o) ∧ 0 < e
theorem OpG.made {CG : Nat → Nat → D → Prop} {many made : Nat} {op : D} (h : OpG CG many made op) : made ≤ 3 := by
  rcases h with ⟨rfl, _⟩ | ⟨rfl, _⟩ | ⟨rfl, _⟩ | ⟨_, _, _, _, _, _, _, _, h, _⟩ <;> omega
theorem OpsG.le {CG : Nat → Nat → D → Prop} : ∀ {ops : List D} {m e : Nat}, OpsG CG m ops e → m ≤ e ∧ e ≤ m + 3 * ops.length
  | [], m, e, h => by have : e = m := h; simp; omega
  | op :: r, m, e, ⟨made, h1, h2⟩ => by
    have := OpsG.le h2
    have := h1.made
    simp; omega
theorem OpsG.app {CG : Nat → Nat → D → Prop} : ∀ {a b : List D} {m e f : Nat}, OpsG CG m a e → OpsG CG e b f → OpsG CG m (a ++ b) f
  | [], _, m, e, f, h, g => by have : e = m := h; subst this; exact g
  | op :: r, _, m, e, f, ⟨made, h1, h2⟩, g => ⟨made, h1, OpsG.app h2 g⟩
theorem OpG.mono {CG : Nat → Nat → D → Prop} {m m' made : Nat} {op : D} (h : OpG CG m made op) (l : m ≤ m') : OpG CG m' made op := by
  rcases h with h | ⟨e, a, h1, h2⟩ | ⟨e, w, a, b, h1, h2, h3, h4⟩ | ⟨one, args, side, other, h1, h2, h3, h4⟩
  · exact .inl h
  · exact .inr (.inl ⟨e, a, h1, h2.mono l⟩)
  · exact .inr (.inr (.inl ⟨e, w, a, b, h1, h2, h3.mono l, h4.mono l⟩))
  · exact .inr (.inr (.inr ⟨one, args, side, other, h1, h2.mono l, fun a ha => (h3 a ha).mono l, h4⟩))
theorem CodeG.shape {k t w : Nat} {c : D} (h : CodeG k t w c) : ∃ ops outs e, c = .tup [.int t, .tup ops, .tup outs] ∧ outs.length = w ∧ ∃ k', k = k' + 1 ∧ OpsG (CodeG k') t ops e ∧ (∀ o ∈ outs, Reg e o) ∧ 0 < e ∧ ops.length ≤ 7 ∧ t ≤ 4 ∧ w ≤ 5 := by
  cases k with
  | zero => exact h.elim
  | succ k =>
    obtain ⟨ops, outs, e, rfl, h1, h2, h3, h4, h5, h6, h7⟩ := h
    exact ⟨ops, outs, e, rfl, h4, k, rfl, h3, h6, h7, h1, h2, h5⟩
end K64

namespace K64
open PySem L2 DL
variable {fu n k : Nat} {S S0 : Sto} {F : D → Sto → Prop} {E : Exc → Sto → Prop}
/-! the draws -/
theorem mixed_ok {x : Int} (hS : WF S) (hF : ∀ v : Int, 0 ≤ v → F (.int v) S) : wp (den fu (n + 1) i_l_mixed [.int x] S) F E := by
  show wp (runDef false 1 (b_l_mixed fu (den fu n)) _ _) _ _
  simp only [b_l_mixed, fin_int hS, wp_ok, wp_ret, wp_stuck, wp_bad, wp_bnd, wp_if, wp_fif, wps_ok_nx, wps_ok_rt, wps_ok_bk, wps_ok_ct, wps_ok_xc, wps_bad, wps_lft, wps_seq, wps_nil, wps_ret, wps_expr, wps_asg, wps_if, wp_run, wps_for, wps_while, wp_comp, wp_var, wp_C, wp_bin, wp_un, wp_T, wp_Tb, wp_asBl, wp_truthBl, wp_bAnd, wp_bOr, wp_bNot, wp_eIf, wp_eAnd, wp_eOr, wp_eNot, blCase_bl, wp_chain, wp_aNil, wp_aCons, wp_tup, wp_lst, wp_lstM, wp_call, wp_cl1, wp_cl2, wp_cl3, wp_cl4, wp_cl5, wp_meth, wp_isi, wp_oNone, wp_oSome, wp_sl, wp_it, wp_range1, wp_range2, wp_bYes, gEq_str, gNe_str, gEq_int, gNe_int, gEq_bl, gNe_bl, gIs_bl, gIsNot_bl, gAdd_int, gSub_int, gC_int, gI_int, gAdd_str, gAdd_tup, gAdd_lst, gNeg_int, gIx_tup, gIx_lst, gLen_tup, gLen_lst, gLen_str, gInt_int, gInt_bl, gTuple_lst, gTuple_tup, gList_lst, gList_tup, gSl_tup, gSl_lst, gSl_fl, gSl_str, srcL_tup, srcL_lst, srcL_fl, srcL_str, srcR1_int, typN, startR, List.map_cons, List.map_nil, List.length_cons, List.length_nil, Nat.reduceAdd, Nat.reduceSub, Nat.zero_add, Nat.sub_self, Nat.sub_zero, List.replicate_zero, List.replicate_succ, List.cons_append, List.nil_append, List.append_nil, List.getElem?_cons_zero, List.getElem?_cons_succ, List.set_cons_zero, List.set_cons_succ, List.set_nil, List.getElem?_nil, Option.some.injEq, exists_eq_left', exists_eq_left, exists_eq_right, reduceCtorEq, false_and, and_false, true_and, and_true, exists_false, exists_const, wipeR, Nat.zero_le, String.reduceEq, D.int.injEq, D.str.injEq, D.bl.injEq, atI_0, atI_1, atI_2, atI_3, atI_4, beq_self_eq_true, not_true_eq_false, not_false_eq_true, Int.cast_ofNat_Int, Int.reduceEq, Int.reduceLE, Int.reduceLT, Int.reduceAdd, Int.reduceSub, Int.reduceMul, Int.reduceNeg, if_true, if_false, ite_true, ite_false, Bool.false_eq_true, if_neg, if_pos, decide_eq_true_eq, Bool.not_eq_true', decide_eq_false_iff_not, eq_self_iff_true, decide_true, decide_false, Bool.not_true, Bool.not_false]
  have h1 := Int.emod_nonneg x (show (2147483629 : Int) ≠ 0 by decide)
  have h2 := Int.emod_lt_of_pos x (show (0 : Int) < 2147483629 by decide)
  generalize x % 2147483629 = a at h1 h2
  have h3 := Int.emod_nonneg (a * 48271 + 7) (show (2147483647 : Int) ≠ 0 by decide)
  have h4 := Int.emod_lt_of_pos (a * 48271 + 7) (show (0 : Int) < 2147483647 by decide)
  generalize (a * 48271 + 7) % 2147483647 = b at h3 h4
  have h5 := Int.emod_nonneg (b * b + 69621 * b + 11) (show (2147483629 : Int) ≠ 0 by decide)
  have h6 := Int.emod_lt_of_pos (b * b + 69621 * b + 11) (show (0 : Int) < 2147483629 by decide)
  have h7 : ∀ c : Int, (c * 39373 + 5) % 2147483587 ≥ 0 := fun c => Int.emod_nonneg _ (by decide)
  exact ⟨cMul_l h1 (by omega), cMul_l h3 (by omega), cMul_l (by omega) (by omega), cMul_l h5 (by omega), hF _ (h7 _)⟩
theorem draw_ok {m : Int} {N : Nat} (hN : 2 ≤ N) (h : DK k S0 S) (hm : 0 < m) (hm2 : m < 18446744073709551616) (hF : ∀ (v : Int) (S' : Sto), 0 ≤ v → v < m → DK k S0 S' → F (.int v) S') : wp (den fu N i_l_draw [.ref k, .int m] S) F E := by
  obtain ⟨N', rfl⟩ : ∃ N', N = N' + 2 := ⟨N - 2, by omega⟩
  show wp (runDef false 3 (b_l_draw fu (den fu (N' + 1))) _ _) _ _
  obtain ⟨cells, hc, hat, hput⟩ := h.get
  simp only [b_l_draw, gEq_refNil hat, isTy_ref hat, gPop_ref hat, wp_ok, wp_ret, wp_stuck, wp_bad, wp_bnd, wp_if, wp_fif, wps_ok_nx, wps_ok_rt, wps_ok_bk, wps_ok_ct, wps_ok_xc, wps_bad, wps_lft, wps_seq, wps_nil, wps_ret, wps_expr, wps_asg, wps_if, wp_run, wps_for, wps_while, wp_comp, wp_var, wp_C, wp_bin, wp_un, wp_T, wp_Tb, wp_asBl, wp_truthBl, wp_bAnd, wp_bOr, wp_bNot, wp_eIf, wp_eAnd, wp_eOr, wp_eNot, blCase_bl, wp_chain, wp_aNil, wp_aCons, wp_tup, wp_lst, wp_lstM, wp_call, wp_cl1, wp_cl2, wp_cl3, wp_cl4, wp_cl5, wp_meth, wp_isi, wp_oNone, wp_oSome, wp_sl, wp_it, wp_range1, wp_range2, wp_bYes, gEq_str, gNe_str, gEq_int, gNe_int, gEq_bl, gNe_bl, gIs_bl, gIsNot_bl, gAdd_int, gSub_int, gC_int, gI_int, gAdd_str, gAdd_tup, gAdd_lst, gNeg_int, gIx_tup, gIx_lst, gLen_tup, gLen_lst, gLen_str, gInt_int, gInt_bl, gTuple_lst, gTuple_tup, gList_lst, gList_tup, gSl_tup, gSl_lst, gSl_fl, gSl_str, srcL_tup, srcL_lst, srcL_fl, srcL_str, srcR1_int, typN, startR, List.map_cons, List.map_nil, List.length_cons, List.length_nil, Nat.reduceAdd, Nat.reduceSub, Nat.zero_add, Nat.sub_self, Nat.sub_zero, List.replicate_zero, List.replicate_succ, List.cons_append, List.nil_append, List.append_nil, List.getElem?_cons_zero, List.getElem?_cons_succ, List.set_cons_zero, List.set_cons_succ, List.set_nil, List.getElem?_nil, Option.some.injEq, exists_eq_left', exists_eq_left, exists_eq_right, reduceCtorEq, false_and, and_false, true_and, and_true, exists_false, exists_const, wipeR, Nat.zero_le, String.reduceEq, D.int.injEq, D.str.injEq, D.bl.injEq, atI_0, atI_1, atI_2, atI_3, atI_4, beq_self_eq_true, not_true_eq_false, not_false_eq_true, Int.cast_ofNat_Int, Int.reduceEq, Int.reduceLE, Int.reduceLT, Int.reduceAdd, Int.reduceSub, Int.reduceMul, Int.reduceNeg, if_true, if_false, ite_true, ite_false, Bool.false_eq_true, if_neg, if_pos, decide_eq_true_eq, Bool.not_eq_true', decide_eq_false_iff_not, eq_self_iff_true, decide_true, decide_false, Bool.not_true, Bool.not_false]
  by_cases hne : cells = []
  · rw [if_pos hne]
    exact (fin_int h.wf').mpr (hF 0 S (Int.le_refl 0) hm h)
  · rw [if_neg hne]
    obtain ⟨cs, c, rfl⟩ : ∃ cs c, cells = cs ++ [c] := ⟨cells.dropLast, cells.getLast hne, (List.dropLast_concat_getLast hne).symm⟩
    simp only [List.length_append, List.length_singleton] at hc
    have e1 : ((cs ++ [c]).map D.int)[((cs ++ [c]).map D.int).length - 1]? = some (.int c) := by simp
    have e2 : ((cs ++ [c]).map D.int).dropLast = cs.map .int := by simp
    refine ⟨.int c, e1, ?_⟩
    rw [e2]
    have h1 := hput cs (by omega)
    have hk : k < S.length := by rw [h.len]; exact h.lt
    have hat1 := atL_set (ds := cs.map .int) hk
    have hset : ∀ x : D, (S.set k (.lst (cs.map .int))).set k (.lst (cs.map .int ++ [x])) = S.set k (.lst (cs.map .int ++ [x])) := fun x => by rw [List.set_set]
    have hl1 : (S.set k (.lst (cs.map .int))).length = S.length := by simp
    simp only [cPow, cDiv_of hm hm2, isTy_ref hat1, gAppend_ref hat1, hset, wp_ok, wp_ret, wp_stuck, wp_bad, wp_bnd, wp_if, wp_fif, wps_ok_nx, wps_ok_rt, wps_ok_bk, wps_ok_ct, wps_ok_xc, wps_bad, wps_lft, wps_seq, wps_nil, wps_ret, wps_expr, wps_asg, wps_if, wp_run, wps_for, wps_while, wp_comp, wp_var, wp_C, wp_bin, wp_un, wp_T, wp_Tb, wp_asBl, wp_truthBl, wp_bAnd, wp_bOr, wp_bNot, wp_eIf, wp_eAnd, wp_eOr, wp_eNot, blCase_bl, wp_chain, wp_aNil, wp_aCons, wp_tup, wp_lst, wp_lstM, wp_call, wp_cl1, wp_cl2, wp_cl3, wp_cl4, wp_cl5, wp_meth, wp_isi, wp_oNone, wp_oSome, wp_sl, wp_it, wp_range1, wp_range2, wp_bYes, gEq_str, gNe_str, gEq_int, gNe_int, gEq_bl, gNe_bl, gIs_bl, gIsNot_bl, gAdd_int, gSub_int, gC_int, gI_int, gAdd_str, gAdd_tup, gAdd_lst, gNeg_int, gIx_tup, gIx_lst, gLen_tup, gLen_lst, gLen_str, gInt_int, gInt_bl, gTuple_lst, gTuple_tup, gList_lst, gList_tup, gSl_tup, gSl_lst, gSl_fl, gSl_str, srcL_tup, srcL_lst, srcL_fl, srcL_str, srcR1_int, typN, startR, List.map_cons, List.map_nil, List.length_cons, List.length_nil, Nat.reduceAdd, Nat.reduceSub, Nat.zero_add, Nat.sub_self, Nat.sub_zero, List.replicate_zero, List.replicate_succ, List.cons_append, List.nil_append, List.append_nil, List.getElem?_cons_zero, List.getElem?_cons_succ, List.set_cons_zero, List.set_cons_succ, List.set_nil, List.getElem?_nil, Option.some.injEq, exists_eq_left', exists_eq_left, exists_eq_right, reduceCtorEq, false_and, and_false, true_and, and_true, exists_false, exists_const, wipeR, Nat.zero_le, String.reduceEq, D.int.injEq, D.str.injEq, D.bl.injEq, atI_0, atI_1, atI_2, atI_3, atI_4, beq_self_eq_true, not_true_eq_false, not_false_eq_true, Int.cast_ofNat_Int, Int.reduceEq, Int.reduceLE, Int.reduceLT, Int.reduceAdd, Int.reduceSub, Int.reduceMul, Int.reduceNeg, if_true, if_false, ite_true, ite_false, Bool.false_eq_true, if_neg, if_pos, decide_eq_true_eq, Bool.not_eq_true', decide_eq_false_iff_not, eq_self_iff_true, decide_true, decide_false, Bool.not_true, Bool.not_false]
    refine ⟨by decide, ?_⟩
    by_cases hge : (10 : Int) ^ (Int.toNat 18) ≤ c
    · rw [if_pos hge]
      refine ⟨by rw [sizeLine_eq, List.length_map]; omega, ?_⟩
      simp only [hm, wp_ok, wp_ret, wp_stuck, wp_bad, wp_bnd, wp_if, wp_fif, wps_ok_nx, wps_ok_rt, wps_ok_bk, wps_ok_ct, wps_ok_xc, wps_bad, wps_lft, wps_seq, wps_nil, wps_ret, wps_expr, wps_asg, wps_if, wp_run, wps_for, wps_while, wp_comp, wp_var, wp_C, wp_bin, wp_un, wp_T, wp_Tb, wp_asBl, wp_truthBl, wp_bAnd, wp_bOr, wp_bNot, wp_eIf, wp_eAnd, wp_eOr, wp_eNot, blCase_bl, wp_chain, wp_aNil, wp_aCons, wp_tup, wp_lst, wp_lstM, wp_call, wp_cl1, wp_cl2, wp_cl3, wp_cl4, wp_cl5, wp_meth, wp_isi, wp_oNone, wp_oSome, wp_sl, wp_it, wp_range1, wp_range2, wp_bYes, gEq_str, gNe_str, gEq_int, gNe_int, gEq_bl, gNe_bl, gIs_bl, gIsNot_bl, gAdd_int, gSub_int, gC_int, gI_int, gAdd_str, gAdd_tup, gAdd_lst, gNeg_int, gIx_tup, gIx_lst, gLen_tup, gLen_lst, gLen_str, gInt_int, gInt_bl, gTuple_lst, gTuple_tup, gList_lst, gList_tup, gSl_tup, gSl_lst, gSl_fl, gSl_str, srcL_tup, srcL_lst, srcL_fl, srcL_str, srcR1_int, typN, startR, List.map_cons, List.map_nil, List.length_cons, List.length_nil, Nat.reduceAdd, Nat.reduceSub, Nat.zero_add, Nat.sub_self, Nat.sub_zero, List.replicate_zero, List.replicate_succ, List.cons_append, List.nil_append, List.append_nil, List.getElem?_cons_zero, List.getElem?_cons_succ, List.set_cons_zero, List.set_cons_succ, List.set_nil, List.getElem?_nil, Option.some.injEq, exists_eq_left', exists_eq_left, exists_eq_right, reduceCtorEq, false_and, and_false, true_and, and_true, exists_false, exists_const, wipeR, Nat.zero_le, String.reduceEq, D.int.injEq, D.str.injEq, D.bl.injEq, atI_0, atI_1, atI_2, atI_3, atI_4, beq_self_eq_true, not_true_eq_false, not_false_eq_true, Int.cast_ofNat_Int, Int.reduceEq, Int.reduceLE, Int.reduceLT, Int.reduceAdd, Int.reduceSub, Int.reduceMul, Int.reduceNeg, if_true, if_false, ite_true, ite_false, Bool.false_eq_true, if_neg, if_pos, decide_eq_true_eq, Bool.not_eq_true', decide_eq_false_iff_not, eq_self_iff_true, decide_true, decide_false, Bool.not_true, Bool.not_false]
      have h2 := hput (cs ++ [c / m]) (by simp; omega)
      rw [List.map_append] at h2
      refine fin_same h2.wf' rfl (by simp) (hF _ _ (Int.emod_nonneg _ (by omega)) (Int.emod_lt_of_pos _ hm) h2)
    · rw [if_neg hge]
      refine mixed_ok h1.wf' fun v hv => ?_
      simp only [hm, wp_ok, wp_ret, wp_stuck, wp_bad, wp_bnd, wp_if, wp_fif, wps_ok_nx, wps_ok_rt, wps_ok_bk, wps_ok_ct, wps_ok_xc, wps_bad, wps_lft, wps_seq, wps_nil, wps_ret, wps_expr, wps_asg, wps_if, wp_run, wps_for, wps_while, wp_comp, wp_var, wp_C, wp_bin, wp_un, wp_T, wp_Tb, wp_asBl, wp_truthBl, wp_bAnd, wp_bOr, wp_bNot, wp_eIf, wp_eAnd, wp_eOr, wp_eNot, blCase_bl, wp_chain, wp_aNil, wp_aCons, wp_tup, wp_lst, wp_lstM, wp_call, wp_cl1, wp_cl2, wp_cl3, wp_cl4, wp_cl5, wp_meth, wp_isi, wp_oNone, wp_oSome, wp_sl, wp_it, wp_range1, wp_range2, wp_bYes, gEq_str, gNe_str, gEq_int, gNe_int, gEq_bl, gNe_bl, gIs_bl, gIsNot_bl, gAdd_int, gSub_int, gC_int, gI_int, gAdd_str, gAdd_tup, gAdd_lst, gNeg_int, gIx_tup, gIx_lst, gLen_tup, gLen_lst, gLen_str, gInt_int, gInt_bl, gTuple_lst, gTuple_tup, gList_lst, gList_tup, gSl_tup, gSl_lst, gSl_fl, gSl_str, srcL_tup, srcL_lst, srcL_fl, srcL_str, srcR1_int, typN, startR, List.map_cons, List.map_nil, List.length_cons, List.length_nil, Nat.reduceAdd, Nat.reduceSub, Nat.zero_add, Nat.sub_self, Nat.sub_zero, List.replicate_zero, List.replicate_succ, List.cons_append, List.nil_append, List.append_nil, List.getElem?_cons_zero, List.getElem?_cons_succ, List.set_cons_zero, List.set_cons_succ, List.set_nil, List.getElem?_nil, Option.some.injEq, exists_eq_left', exists_eq_left, exists_eq_right, reduceCtorEq, false_and, and_false, true_and, and_true, exists_false, exists_const, wipeR, Nat.zero_le, String.reduceEq, D.int.injEq, D.str.injEq, D.bl.injEq, atI_0, atI_1, atI_2, atI_3, atI_4, beq_self_eq_true, not_true_eq_false, not_false_eq_true, Int.cast_ofNat_Int, Int.reduceEq, Int.reduceLE, Int.reduceLT, Int.reduceAdd, Int.reduceSub, Int.reduceMul, Int.reduceNeg, if_true, if_false, ite_true, ite_false, Bool.false_eq_true, if_neg, if_pos, decide_eq_true_eq, Bool.not_eq_true', decide_eq_false_iff_not, eq_self_iff_true, decide_true, decide_false, Bool.not_true, Bool.not_false]
      exact fin_same h1.wf' rfl hl1 (hF _ _ (Int.emod_nonneg _ (by omega)) (Int.emod_lt_of_pos _ hm) h1)
theorem number_gen {N : Nat} (hN : 3 ≤ N) (h : DK k S0 S) (hF : ∀ (i : Int) (S' : Sto), 0 ≤ i → i < 1000000000000 → DK k S0 S' → F (.int i) S') : wp (den fu N i_l_number [.ref k] S) F E := by
  obtain ⟨N', rfl⟩ : ∃ N', N = N' + 1 := ⟨N - 1, by omega⟩
  show wp (runDef false 1 (b_l_number fu (den fu N')) _ _) _ _
  simp only [b_l_number, wp_ok, wp_ret, wp_stuck, wp_bad, wp_bnd, wp_if, wp_fif, wps_ok_nx, wps_ok_rt, wps_ok_bk, wps_ok_ct, wps_ok_xc, wps_bad, wps_lft, wps_seq, wps_nil, wps_ret, wps_expr, wps_asg, wps_if, wp_run, wps_for, wps_while, wp_comp, wp_var, wp_C, wp_bin, wp_un, wp_T, wp_Tb, wp_asBl, wp_truthBl, wp_bAnd, wp_bOr, wp_bNot, wp_eIf, wp_eAnd, wp_eOr, wp_eNot, blCase_bl, wp_chain, wp_aNil, wp_aCons, wp_tup, wp_lst, wp_lstM, wp_call, wp_cl1, wp_cl2, wp_cl3, wp_cl4, wp_cl5, wp_meth, wp_isi, wp_oNone, wp_oSome, wp_sl, wp_it, wp_range1, wp_range2, wp_bYes, gEq_str, gNe_str, gEq_int, gNe_int, gEq_bl, gNe_bl, gIs_bl, gIsNot_bl, gAdd_int, gSub_int, gC_int, gI_int, gAdd_str, gAdd_tup, gAdd_lst, gNeg_int, gIx_tup, gIx_lst, gLen_tup, gLen_lst, gLen_str, gInt_int, gInt_bl, gTuple_lst, gTuple_tup, gList_lst, gList_tup, gSl_tup, gSl_lst, gSl_fl, gSl_str, srcL_tup, srcL_lst, srcL_fl, srcL_str, srcR1_int, typN, startR, List.map_cons, List.map_nil, List.length_cons, List.length_nil, Nat.reduceAdd, Nat.reduceSub, Nat.zero_add, Nat.sub_self, Nat.sub_zero, List.replicate_zero, List.replicate_succ, List.cons_append, List.nil_append, List.append_nil, List.getElem?_cons_zero, List.getElem?_cons_succ, List.set_cons_zero, List.set_cons_succ, List.set_nil, List.getElem?_nil, Option.some.injEq, exists_eq_left', exists_eq_left, exists_eq_right, reduceCtorEq, false_and, and_false, true_and, and_true, exists_false, exists_const, wipeR, Nat.zero_le, String.reduceEq, D.int.injEq, D.str.injEq, D.bl.injEq, atI_0, atI_1, atI_2, atI_3, atI_4, beq_self_eq_true, not_true_eq_false, not_false_eq_true, Int.cast_ofNat_Int, Int.reduceEq, Int.reduceLE, Int.reduceLT, Int.reduceAdd, Int.reduceSub, Int.reduceMul, Int.reduceNeg, if_true, if_false, ite_true, ite_false, Bool.false_eq_true, if_neg, if_pos, decide_eq_true_eq, Bool.not_eq_true', decide_eq_false_iff_not, eq_self_iff_true, decide_true, decide_false, Bool.not_true, Bool.not_false]
  refine draw_ok (by omega) h (by decide) (by decide) fun v1 S1 h1 h1' d1 => ?_
  simp only [cPow, wp_ok, wp_ret, wp_stuck, wp_bad, wp_bnd, wp_if, wp_fif, wps_ok_nx, wps_ok_rt, wps_ok_bk, wps_ok_ct, wps_ok_xc, wps_bad, wps_lft, wps_seq, wps_nil, wps_ret, wps_expr, wps_asg, wps_if, wp_run, wps_for, wps_while, wp_comp, wp_var, wp_C, wp_bin, wp_un, wp_T, wp_Tb, wp_asBl, wp_truthBl, wp_bAnd, wp_bOr, wp_bNot, wp_eIf, wp_eAnd, wp_eOr, wp_eNot, blCase_bl, wp_chain, wp_aNil, wp_aCons, wp_tup, wp_lst, wp_lstM, wp_call, wp_cl1, wp_cl2, wp_cl3, wp_cl4, wp_cl5, wp_meth, wp_isi, wp_oNone, wp_oSome, wp_sl, wp_it, wp_range1, wp_range2, wp_bYes, gEq_str, gNe_str, gEq_int, gNe_int, gEq_bl, gNe_bl, gIs_bl, gIsNot_bl, gAdd_int, gSub_int, gC_int, gI_int, gAdd_str, gAdd_tup, gAdd_lst, gNeg_int, gIx_tup, gIx_lst, gLen_tup, gLen_lst, gLen_str, gInt_int, gInt_bl, gTuple_lst, gTuple_tup, gList_lst, gList_tup, gSl_tup, gSl_lst, gSl_fl, gSl_str, srcL_tup, srcL_lst, srcL_fl, srcL_str, srcR1_int, typN, startR, List.map_cons, List.map_nil, List.length_cons, List.length_nil, Nat.reduceAdd, Nat.reduceSub, Nat.zero_add, Nat.sub_self, Nat.sub_zero, List.replicate_zero, List.replicate_succ, List.cons_append, List.nil_append, List.append_nil, List.getElem?_cons_zero, List.getElem?_cons_succ, List.set_cons_zero, List.set_cons_succ, List.set_nil, List.getElem?_nil, Option.some.injEq, exists_eq_left', exists_eq_left, exists_eq_right, reduceCtorEq, false_and, and_false, true_and, and_true, exists_false, exists_const, wipeR, Nat.zero_le, String.reduceEq, D.int.injEq, D.str.injEq, D.bl.injEq, atI_0, atI_1, atI_2, atI_3, atI_4, beq_self_eq_true, not_true_eq_false, not_false_eq_true, Int.cast_ofNat_Int, Int.reduceEq, Int.reduceLE, Int.reduceLT, Int.reduceAdd, Int.reduceSub, Int.reduceMul, Int.reduceNeg, if_true, if_false, ite_true, ite_false, Bool.false_eq_true, if_neg, if_pos, decide_eq_true_eq, Bool.not_eq_true', decide_eq_false_iff_not, eq_self_iff_true, decide_true, decide_false, Bool.not_true, Bool.not_false]
  refine ⟨by decide, by decide, draw_ok (by omega) d1 (by decide) (by decide) fun v2 S2 h2 h2' d2 => ?_⟩
  refine ⟨small_line (by decide), draw_ok (by omega) d2 (by decide) (by decide) fun v3 S3 h3 h3' d3 => ?_⟩
  obtain ⟨d, hd, e⟩ := atI_mem (ds := [D.int 0, .int 1, .int 2, .int v1, .int (10 ^ Int.toNat 12 - 1), .int v2]) h3 h3'
  rw [gIx_lst]
  refine ⟨d, e, ?_⟩
  have : ∃ i : Int, d = .int i ∧ 0 ≤ i ∧ i < 1000000000000 := by
    simp only [List.mem_cons, List.not_mem_nil, or_false] at hd
    have hp : (10 : Int) ^ Int.toNat 12 = 1000000000000 := by decide
    rcases hd with rfl | rfl | rfl | rfl | rfl | rfl
    · exact ⟨_, rfl, by decide, by decide⟩
    · exact ⟨_, rfl, by decide, by decide⟩
    · exact ⟨_, rfl, by decide, by decide⟩
    · exact ⟨_, rfl, h1, by omega⟩
    · exact ⟨_, rfl, by omega, by omega⟩
    · exact ⟨_, rfl, h2, by omega⟩
  obtain ⟨i, rfl, q1, q2⟩ := this
  exact fin_same d3.wf' rfl (by rw [d3.len, h.len]) (hF i S3 q1 q2 d3)
end K64

namespace K64
open PySem L2 DL
variable {fu n k : Nat} {S S0 : Sto} {F : D → Sto → Prop} {E : Exc → Sto → Prop}
/-! sizes -/
/-- what size takes: things, a row perhaps as a list -/
def SzG (j : Nat) (d : D) : Prop := ThG j d ∨ ∃ ws, d = .tup [.str "row", .lst ws] ∧ ws.length ≤ 1000 ∧ ∀ w ∈ ws, ∃ j', j = j' + 1 ∧ WdG j' w
theorem SzG.tr {j : Nat} {d : D} (h : SzG j d) : tr d := by
  rcases h with h | ⟨ws, rfl, _, h⟩
  · exact h.tr
  · have : D.los 0 ws = true := los_iff ws |>.mpr fun w hw => by
      obtain ⟨j', rfl, q⟩ := h w hw
      rcases q with q | ⟨t, rfl, q⟩
      · exact q.tr
      · have := ThG.tr q
        simp only [DL.tr, D.lo, D.los, Bool.and_true, Bool.true_and] at this ⊢
        exact this
    simp only [DL.tr, D.lo, D.los, Bool.and_true, Bool.true_and]
    exact this
/-- the pushed things of words -/
def pushed : List D → List D
  | [] => []
  | .tup [_, t] :: r => t :: pushed r
  | _ :: r => pushed r
theorem pushed_app : ∀ (a b : List D), pushed (a ++ b) = pushed a ++ pushed b
  | [], _ => rfl
  | .tup [_, t] :: r, b => by simp [pushed, pushed_app r b]
  | .non :: r, b => by simp [pushed, pushed_app r b]
  | .bl _ :: r, b => by simp [pushed, pushed_app r b]
  | .int _ :: r, b => by simp [pushed, pushed_app r b]
  | .str _ :: r, b => by simp [pushed, pushed_app r b]
  | .lst _ :: r, b => by simp [pushed, pushed_app r b]
  | .fl _ :: r, b => by simp [pushed, pushed_app r b]
  | .ref _ :: r, b => by simp [pushed, pushed_app r b]
  | .fn _ :: r, b => by simp [pushed, pushed_app r b]
  | .tup [] :: r, b => by simp [pushed, pushed_app r b]
  | .tup [_] :: r, b => by simp [pushed, pushed_app r b]
  | .tup (_ :: _ :: _ :: _) :: r, b => by simp [pushed, pushed_app r b]
theorem pushed_len : ∀ ws : List D, (pushed ws).length ≤ ws.length
  | [] => Nat.le_refl _
  | w :: r => by
    have := pushed_len r
    unfold pushed
    split <;> simp_all <;> omega
theorem pushed_good {j : Nat} : ∀ {ws : List D}, (∀ w ∈ ws, WdG j w) → ∀ t ∈ pushed ws, ThG j t
  | [], _, t, h => by simp [pushed] at h
  | w :: r, hw, t, h => by
    have ih := pushed_good (j := j) (fun w hw' => hw w (List.mem_cons_of_mem _ hw')) t
    rcases hw w List.mem_cons_self with ⟨z, rfl, _⟩ | ⟨u, rfl, hu⟩
    · exact ih (by simpa [pushed] using h)
    · simp only [pushed, List.mem_cons] at h
      rcases h with rfl | h
      · exact hu
      · exact ih h
/-- the comprehension of the pushed things -/
theorem comp_pushed {ws : List D} {ρ : Rho} {S : Sto} {FF : List D → Sto → Prop} {i j : Nat} (hi : ∀ d : D, (ρ.set i (some d))[i]? = some (some d)) (hw : ∀ w ∈ ws, WdG j w) (h : FF (pushed ws) S) :
    wp (compM none ws (gN i) (eT (eIsi "tuple" (eVar i))) (eBin gIx (eVar i) (eC (.int 1))) ρ ws S) FF nx := by
  refine wp_compM (fun k ys S' => S' = S ∧ ys = pushed (ws.take k)) (fun _ _ _ _ => trivial) (fun k d ys S' hd hk => ?_) (fun ys S' hk => ?_) ⟨rfl, rfl⟩
  · obtain ⟨rfl, rfl⟩ := hk
    refine ⟨_, rfl, ?_⟩
    have e : ws.take (k + 1) = ws.take k ++ [d] := by rw [List.take_succ, hd]; rfl
    rw [e, pushed_app]
    rcases hw d (List.mem_of_getElem? hd) with ⟨z, rfl, _⟩ | ⟨u, rfl, hu⟩
    · simp only [hi, isiN_st, pushed, wp_ok, wp_ret, wp_stuck, wp_bad, wp_bnd, wp_if, wp_fif, wps_ok_nx, wps_ok_rt, wps_ok_bk, wps_ok_ct, wps_ok_xc, wps_bad, wps_lft, wps_seq, wps_nil, wps_ret, wps_expr, wps_asg, wps_if, wp_run, wps_for, wps_while, wp_comp, wp_var, wp_C, wp_bin, wp_un, wp_T, wp_Tb, wp_asBl, wp_truthBl, wp_bAnd, wp_bOr, wp_bNot, wp_eIf, wp_eAnd, wp_eOr, wp_eNot, blCase_bl, wp_chain, wp_aNil, wp_aCons, wp_tup, wp_lst, wp_lstM, wp_call, wp_cl1, wp_cl2, wp_cl3, wp_cl4, wp_cl5, wp_meth, wp_isi, wp_oNone, wp_oSome, wp_sl, wp_it, wp_range1, wp_range2, wp_bYes, gEq_str, gNe_str, gEq_int, gNe_int, gEq_bl, gNe_bl, gIs_bl, gIsNot_bl, gAdd_int, gSub_int, gC_int, gI_int, gAdd_str, gAdd_tup, gAdd_lst, gNeg_int, gIx_tup, gIx_lst, gLen_tup, gLen_lst, gLen_str, gInt_int, gInt_bl, gTuple_lst, gTuple_tup, gList_lst, gList_tup, gSl_tup, gSl_lst, gSl_fl, gSl_str, srcL_tup, srcL_lst, srcL_fl, srcL_str, srcR1_int, typN, startR, List.map_cons, List.map_nil, List.length_cons, List.length_nil, Nat.reduceAdd, Nat.reduceSub, Nat.zero_add, Nat.sub_self, Nat.sub_zero, List.replicate_zero, List.replicate_succ, List.cons_append, List.nil_append, List.append_nil, List.getElem?_cons_zero, List.getElem?_cons_succ, List.set_cons_zero, List.set_cons_succ, List.set_nil, List.getElem?_nil, Option.some.injEq, exists_eq_left', exists_eq_left, exists_eq_right, reduceCtorEq, false_and, and_false, true_and, and_true, exists_false, exists_const, wipeR, Nat.zero_le, String.reduceEq, D.int.injEq, D.str.injEq, D.bl.injEq, atI_0, atI_1, atI_2, atI_3, atI_4, beq_self_eq_true, not_true_eq_false, not_false_eq_true, Int.cast_ofNat_Int, Int.reduceEq, Int.reduceLE, Int.reduceLT, Int.reduceAdd, Int.reduceSub, Int.reduceMul, Int.reduceNeg, if_true, if_false, ite_true, ite_false, Bool.false_eq_true, if_neg, if_pos, decide_eq_true_eq, Bool.not_eq_true', decide_eq_false_iff_not, eq_self_iff_true, decide_true, decide_false, Bool.not_true, Bool.not_false]
    · simp only [hi, isiN_tt, pushed, wp_ok, wp_ret, wp_stuck, wp_bad, wp_bnd, wp_if, wp_fif, wps_ok_nx, wps_ok_rt, wps_ok_bk, wps_ok_ct, wps_ok_xc, wps_bad, wps_lft, wps_seq, wps_nil, wps_ret, wps_expr, wps_asg, wps_if, wp_run, wps_for, wps_while, wp_comp, wp_var, wp_C, wp_bin, wp_un, wp_T, wp_Tb, wp_asBl, wp_truthBl, wp_bAnd, wp_bOr, wp_bNot, wp_eIf, wp_eAnd, wp_eOr, wp_eNot, blCase_bl, wp_chain, wp_aNil, wp_aCons, wp_tup, wp_lst, wp_lstM, wp_call, wp_cl1, wp_cl2, wp_cl3, wp_cl4, wp_cl5, wp_meth, wp_isi, wp_oNone, wp_oSome, wp_sl, wp_it, wp_range1, wp_range2, wp_bYes, gEq_str, gNe_str, gEq_int, gNe_int, gEq_bl, gNe_bl, gIs_bl, gIsNot_bl, gAdd_int, gSub_int, gC_int, gI_int, gAdd_str, gAdd_tup, gAdd_lst, gNeg_int, gIx_tup, gIx_lst, gLen_tup, gLen_lst, gLen_str, gInt_int, gInt_bl, gTuple_lst, gTuple_tup, gList_lst, gList_tup, gSl_tup, gSl_lst, gSl_fl, gSl_str, srcL_tup, srcL_lst, srcL_fl, srcL_str, srcR1_int, typN, startR, List.map_cons, List.map_nil, List.length_cons, List.length_nil, Nat.reduceAdd, Nat.reduceSub, Nat.zero_add, Nat.sub_self, Nat.sub_zero, List.replicate_zero, List.replicate_succ, List.cons_append, List.nil_append, List.append_nil, List.getElem?_cons_zero, List.getElem?_cons_succ, List.set_cons_zero, List.set_cons_succ, List.set_nil, List.getElem?_nil, Option.some.injEq, exists_eq_left', exists_eq_left, exists_eq_right, reduceCtorEq, false_and, and_false, true_and, and_true, exists_false, exists_const, wipeR, Nat.zero_le, String.reduceEq, D.int.injEq, D.str.injEq, D.bl.injEq, atI_0, atI_1, atI_2, atI_3, atI_4, beq_self_eq_true, not_true_eq_false, not_false_eq_true, Int.cast_ofNat_Int, Int.reduceEq, Int.reduceLE, Int.reduceLT, Int.reduceAdd, Int.reduceSub, Int.reduceMul, Int.reduceNeg, if_true, if_false, ite_true, ite_false, Bool.false_eq_true, if_neg, if_pos, decide_eq_true_eq, Bool.not_eq_true', decide_eq_false_iff_not, eq_self_iff_true, decide_true, decide_false, Bool.not_true, Bool.not_false]
  · obtain ⟨rfl, rfl⟩ := hk
    rw [List.take_length]
    exact h
def PZ : Nat → D → Prop
  | 0, d => Num d
  | j + 1, d => SzG (j + 1) d
theorem PZ.of {j : Nat} {d : D} (h : ThG j d) : PZ j d := by
  cases j with
  | zero => exact h
  | succ j => exact .inl h
theorem size_ok : ∀ (j : Nat) (ts : List D) (N : Nat) (S : Sto) (F : D → Sto → Prop) (E : Exc → Sto → Prop), (∀ t ∈ ts, PZ j t) → j + 2 ≤ N → WF S → (∀ v : Int, 0 ≤ v → (ts = [.tup [.str "row", .lst []]] → v = 1) → (ts = [] → v = 0) → F (.int v) S) → ∀ x, (x = .lst ts ∨ x = .tup ts) → wp (den fu N i_l_size [x] S) F E := by
  intro j
  induction j with
  | zero =>
    intro ts N S F E ht hN hS hF x hx
    obtain ⟨m, rfl⟩ : ∃ m, N = m + 1 := ⟨N - 1, by omega⟩
    show wp (runDef false 4 (b_l_size fu (den fu m)) _ _) _ _
    simp only [b_l_size, wp_ok, wp_ret, wp_stuck, wp_bad, wp_bnd, wp_if, wp_fif, wps_ok_nx, wps_ok_rt, wps_ok_bk, wps_ok_ct, wps_ok_xc, wps_bad, wps_lft, wps_seq, wps_nil, wps_ret, wps_expr, wps_asg, wps_if, wp_run, wps_for, wps_while, wp_comp, wp_var, wp_C, wp_bin, wp_un, wp_T, wp_Tb, wp_asBl, wp_truthBl, wp_bAnd, wp_bOr, wp_bNot, wp_eIf, wp_eAnd, wp_eOr, wp_eNot, blCase_bl, wp_chain, wp_aNil, wp_aCons, wp_tup, wp_lst, wp_lstM, wp_call, wp_cl1, wp_cl2, wp_cl3, wp_cl4, wp_cl5, wp_meth, wp_isi, wp_oNone, wp_oSome, wp_sl, wp_it, wp_range1, wp_range2, wp_bYes, gEq_str, gNe_str, gEq_int, gNe_int, gEq_bl, gNe_bl, gIs_bl, gIsNot_bl, gAdd_int, gSub_int, gC_int, gI_int, gAdd_str, gAdd_tup, gAdd_lst, gNeg_int, gIx_tup, gIx_lst, gLen_tup, gLen_lst, gLen_str, gInt_int, gInt_bl, gTuple_lst, gTuple_tup, gList_lst, gList_tup, gSl_tup, gSl_lst, gSl_fl, gSl_str, srcL_tup, srcL_lst, srcL_fl, srcL_str, srcR1_int, typN, startR, List.map_cons, List.map_nil, List.length_cons, List.length_nil, Nat.reduceAdd, Nat.reduceSub, Nat.zero_add, Nat.sub_self, Nat.sub_zero, List.replicate_zero, List.replicate_succ, List.cons_append, List.nil_append, List.append_nil, List.getElem?_cons_zero, List.getElem?_cons_succ, List.set_cons_zero, List.set_cons_succ, List.set_nil, List.getElem?_nil, Option.some.injEq, exists_eq_left', exists_eq_left, exists_eq_right, reduceCtorEq, false_and, and_false, true_and, and_true, exists_false, exists_const, wipeR, Nat.zero_le, String.reduceEq, D.int.injEq, D.str.injEq, D.bl.injEq, atI_0, atI_1, atI_2, atI_3, atI_4, beq_self_eq_true, not_true_eq_false, not_false_eq_true, Int.cast_ofNat_Int, Int.reduceEq, Int.reduceLE, Int.reduceLT, Int.reduceAdd, Int.reduceSub, Int.reduceMul, Int.reduceNeg, if_true, if_false, ite_true, ite_false, Bool.false_eq_true, if_neg, if_pos, decide_eq_true_eq, Bool.not_eq_true', decide_eq_false_iff_not, eq_self_iff_true, decide_true, decide_false, Bool.not_true, Bool.not_false]
    have hsrc : ∀ FI E, wp (srcL x S) FI E ↔ FI (none, ts) S := by
      intro FI E; rcases hx with rfl | rfl <;> rfl
    simp only [hsrc]
    refine wps_forM (fun i ρ S' => S' = S ∧ ∃ (v : Int) (o o' : Option D), ρ = [some x, some (.int v), o, o'] ∧ 0 ≤ v ∧ (i = 0 → v = 0)) (fun _ _ _ _ => trivial) ?_ ?_ ⟨rfl, 0, none, none, rfl, Int.le_refl 0, fun _ => rfl⟩
    · rintro i d ρ S' hd ⟨rfl, v, o, o', rfl, hv, hv0⟩
      refine ⟨_, rfl, ?_⟩
      obtain ⟨z, rfl, _⟩ := ht d (List.mem_of_getElem? hd)
      simp only [ofString_inj, wp_ok, wp_ret, wp_stuck, wp_bad, wp_bnd, wp_if, wp_fif, wps_ok_nx, wps_ok_rt, wps_ok_bk, wps_ok_ct, wps_ok_xc, wps_bad, wps_lft, wps_seq, wps_nil, wps_ret, wps_expr, wps_asg, wps_if, wp_run, wps_for, wps_while, wp_comp, wp_var, wp_C, wp_bin, wp_un, wp_T, wp_Tb, wp_asBl, wp_truthBl, wp_bAnd, wp_bOr, wp_bNot, wp_eIf, wp_eAnd, wp_eOr, wp_eNot, blCase_bl, wp_chain, wp_aNil, wp_aCons, wp_tup, wp_lst, wp_lstM, wp_call, wp_cl1, wp_cl2, wp_cl3, wp_cl4, wp_cl5, wp_meth, wp_isi, wp_oNone, wp_oSome, wp_sl, wp_it, wp_range1, wp_range2, wp_bYes, gEq_str, gNe_str, gEq_int, gNe_int, gEq_bl, gNe_bl, gIs_bl, gIsNot_bl, gAdd_int, gSub_int, gC_int, gI_int, gAdd_str, gAdd_tup, gAdd_lst, gNeg_int, gIx_tup, gIx_lst, gLen_tup, gLen_lst, gLen_str, gInt_int, gInt_bl, gTuple_lst, gTuple_tup, gList_lst, gList_tup, gSl_tup, gSl_lst, gSl_fl, gSl_str, srcL_tup, srcL_lst, srcL_fl, srcL_str, srcR1_int, typN, startR, List.map_cons, List.map_nil, List.length_cons, List.length_nil, Nat.reduceAdd, Nat.reduceSub, Nat.zero_add, Nat.sub_self, Nat.sub_zero, List.replicate_zero, List.replicate_succ, List.cons_append, List.nil_append, List.append_nil, List.getElem?_cons_zero, List.getElem?_cons_succ, List.set_cons_zero, List.set_cons_succ, List.set_nil, List.getElem?_nil, Option.some.injEq, exists_eq_left', exists_eq_left, exists_eq_right, reduceCtorEq, false_and, and_false, true_and, and_true, exists_false, exists_const, wipeR, Nat.zero_le, String.reduceEq, D.int.injEq, D.str.injEq, D.bl.injEq, atI_0, atI_1, atI_2, atI_3, atI_4, beq_self_eq_true, not_true_eq_false, not_false_eq_true, Int.cast_ofNat_Int, Int.reduceEq, Int.reduceLE, Int.reduceLT, Int.reduceAdd, Int.reduceSub, Int.reduceMul, Int.reduceNeg, if_true, if_false, ite_true, ite_false, Bool.false_eq_true, if_neg, if_pos, decide_eq_true_eq, Bool.not_eq_true', decide_eq_false_iff_not, eq_self_iff_true, decide_true, decide_false, Bool.not_true, Bool.not_false]
      exact ⟨v + 1, some _, o', rfl, Int.add_nonneg hv (by decide), fun h => h.elim⟩
    · rintro ρ S' ⟨rfl, v, o, o', rfl, hv, hv0⟩
      simp only [fin_int hS, wp_ok, wp_ret, wp_stuck, wp_bad, wp_bnd, wp_if, wp_fif, wps_ok_nx, wps_ok_rt, wps_ok_bk, wps_ok_ct, wps_ok_xc, wps_bad, wps_lft, wps_seq, wps_nil, wps_ret, wps_expr, wps_asg, wps_if, wp_run, wps_for, wps_while, wp_comp, wp_var, wp_C, wp_bin, wp_un, wp_T, wp_Tb, wp_asBl, wp_truthBl, wp_bAnd, wp_bOr, wp_bNot, wp_eIf, wp_eAnd, wp_eOr, wp_eNot, blCase_bl, wp_chain, wp_aNil, wp_aCons, wp_tup, wp_lst, wp_lstM, wp_call, wp_cl1, wp_cl2, wp_cl3, wp_cl4, wp_cl5, wp_meth, wp_isi, wp_oNone, wp_oSome, wp_sl, wp_it, wp_range1, wp_range2, wp_bYes, gEq_str, gNe_str, gEq_int, gNe_int, gEq_bl, gNe_bl, gIs_bl, gIsNot_bl, gAdd_int, gSub_int, gC_int, gI_int, gAdd_str, gAdd_tup, gAdd_lst, gNeg_int, gIx_tup, gIx_lst, gLen_tup, gLen_lst, gLen_str, gInt_int, gInt_bl, gTuple_lst, gTuple_tup, gList_lst, gList_tup, gSl_tup, gSl_lst, gSl_fl, gSl_str, srcL_tup, srcL_lst, srcL_fl, srcL_str, srcR1_int, typN, startR, List.map_cons, List.map_nil, List.length_cons, List.length_nil, Nat.reduceAdd, Nat.reduceSub, Nat.zero_add, Nat.sub_self, Nat.sub_zero, List.replicate_zero, List.replicate_succ, List.cons_append, List.nil_append, List.append_nil, List.getElem?_cons_zero, List.getElem?_cons_succ, List.set_cons_zero, List.set_cons_succ, List.set_nil, List.getElem?_nil, Option.some.injEq, exists_eq_left', exists_eq_left, exists_eq_right, reduceCtorEq, false_and, and_false, true_and, and_true, exists_false, exists_const, wipeR, Nat.zero_le, String.reduceEq, D.int.injEq, D.str.injEq, D.bl.injEq, atI_0, atI_1, atI_2, atI_3, atI_4, beq_self_eq_true, not_true_eq_false, not_false_eq_true, Int.cast_ofNat_Int, Int.reduceEq, Int.reduceLE, Int.reduceLT, Int.reduceAdd, Int.reduceSub, Int.reduceMul, Int.reduceNeg, if_true, if_false, ite_true, ite_false, Bool.false_eq_true, if_neg, if_pos, decide_eq_true_eq, Bool.not_eq_true', decide_eq_false_iff_not, eq_self_iff_true, decide_true, decide_false, Bool.not_true, Bool.not_false]
      refine hF v hv (fun h => ?_) (fun h => hv0 (by rw [h]; rfl))
      have := ht (.tup [.str "row", .lst []]) (by rw [h]; simp)
      obtain ⟨z, e, _⟩ := this
      injection e with e; injection e with e1 e2; injection e1 with e1
      rw [ofString_inj] at e1; exact absurd e1 (by decide)
  | succ j ih =>
    intro ts N S F E ht hN hS hF x hx
    obtain ⟨m, rfl⟩ : ∃ m, N = m + 1 := ⟨N - 1, by omega⟩
    show wp (runDef false 4 (b_l_size fu (den fu m)) _ _) _ _
    simp only [b_l_size, wp_ok, wp_ret, wp_stuck, wp_bad, wp_bnd, wp_if, wp_fif, wps_ok_nx, wps_ok_rt, wps_ok_bk, wps_ok_ct, wps_ok_xc, wps_bad, wps_lft, wps_seq, wps_nil, wps_ret, wps_expr, wps_asg, wps_if, wp_run, wps_for, wps_while, wp_comp, wp_var, wp_C, wp_bin, wp_un, wp_T, wp_Tb, wp_asBl, wp_truthBl, wp_bAnd, wp_bOr, wp_bNot, wp_eIf, wp_eAnd, wp_eOr, wp_eNot, blCase_bl, wp_chain, wp_aNil, wp_aCons, wp_tup, wp_lst, wp_lstM, wp_call, wp_cl1, wp_cl2, wp_cl3, wp_cl4, wp_cl5, wp_meth, wp_isi, wp_oNone, wp_oSome, wp_sl, wp_it, wp_range1, wp_range2, wp_bYes, gEq_str, gNe_str, gEq_int, gNe_int, gEq_bl, gNe_bl, gIs_bl, gIsNot_bl, gAdd_int, gSub_int, gC_int, gI_int, gAdd_str, gAdd_tup, gAdd_lst, gNeg_int, gIx_tup, gIx_lst, gLen_tup, gLen_lst, gLen_str, gInt_int, gInt_bl, gTuple_lst, gTuple_tup, gList_lst, gList_tup, gSl_tup, gSl_lst, gSl_fl, gSl_str, srcL_tup, srcL_lst, srcL_fl, srcL_str, srcR1_int, typN, startR, List.map_cons, List.map_nil, List.length_cons, List.length_nil, Nat.reduceAdd, Nat.reduceSub, Nat.zero_add, Nat.sub_self, Nat.sub_zero, List.replicate_zero, List.replicate_succ, List.cons_append, List.nil_append, List.append_nil, List.getElem?_cons_zero, List.getElem?_cons_succ, List.set_cons_zero, List.set_cons_succ, List.set_nil, List.getElem?_nil, Option.some.injEq, exists_eq_left', exists_eq_left, exists_eq_right, reduceCtorEq, false_and, and_false, true_and, and_true, exists_false, exists_const, wipeR, Nat.zero_le, String.reduceEq, D.int.injEq, D.str.injEq, D.bl.injEq, atI_0, atI_1, atI_2, atI_3, atI_4, beq_self_eq_true, not_true_eq_false, not_false_eq_true, Int.cast_ofNat_Int, Int.reduceEq, Int.reduceLE, Int.reduceLT, Int.reduceAdd, Int.reduceSub, Int.reduceMul, Int.reduceNeg, if_true, if_false, ite_true, ite_false, Bool.false_eq_true, if_neg, if_pos, decide_eq_true_eq, Bool.not_eq_true', decide_eq_false_iff_not, eq_self_iff_true, decide_true, decide_false, Bool.not_true, Bool.not_false]
    have hsrc : ∀ FI E, wp (srcL x S) FI E ↔ FI (none, ts) S := by
      intro FI E; rcases hx with rfl | rfl <;> rfl
    simp only [hsrc]
    refine wps_forM (fun i ρ S' => S' = S ∧ ∃ (v : Int) (o o' : Option D), ρ = [some x, some (.int v), o, o'] ∧ 0 ≤ v ∧ (i = 0 → v = 0) ∧ (i = 1 → ts = [.tup [.str "row", .lst []]] → v = 1)) (fun _ _ _ _ => trivial) ?_ ?_ ⟨rfl, 0, none, none, rfl, Int.le_refl 0, fun _ => rfl, fun h => by omega⟩
    · rintro i d ρ S' hd ⟨rfl, v, o, o', rfl, hv, hv0, hv1⟩
      refine ⟨_, rfl, ?_⟩
      have hsingle : ts = [.tup [.str "row", .lst []]] → d = .tup [.str "row", .lst []] := fun h => by
        have hm := List.mem_of_getElem? hd
        rw [h] at hm
        simpa using hm
      rcases ht d (List.mem_of_getElem? hd) with (⟨z, rfl, _⟩ | ⟨ws, rfl, hl, hw⟩ | ⟨us, rfl, hl, hu⟩) | ⟨ws, rfl, hl, hw⟩
      · simp only [ofString_inj, wp_ok, wp_ret, wp_stuck, wp_bad, wp_bnd, wp_if, wp_fif, wps_ok_nx, wps_ok_rt, wps_ok_bk, wps_ok_ct, wps_ok_xc, wps_bad, wps_lft, wps_seq, wps_nil, wps_ret, wps_expr, wps_asg, wps_if, wp_run, wps_for, wps_while, wp_comp, wp_var, wp_C, wp_bin, wp_un, wp_T, wp_Tb, wp_asBl, wp_truthBl, wp_bAnd, wp_bOr, wp_bNot, wp_eIf, wp_eAnd, wp_eOr, wp_eNot, blCase_bl, wp_chain, wp_aNil, wp_aCons, wp_tup, wp_lst, wp_lstM, wp_call, wp_cl1, wp_cl2, wp_cl3, wp_cl4, wp_cl5, wp_meth, wp_isi, wp_oNone, wp_oSome, wp_sl, wp_it, wp_range1, wp_range2, wp_bYes, gEq_str, gNe_str, gEq_int, gNe_int, gEq_bl, gNe_bl, gIs_bl, gIsNot_bl, gAdd_int, gSub_int, gC_int, gI_int, gAdd_str, gAdd_tup, gAdd_lst, gNeg_int, gIx_tup, gIx_lst, gLen_tup, gLen_lst, gLen_str, gInt_int, gInt_bl, gTuple_lst, gTuple_tup, gList_lst, gList_tup, gSl_tup, gSl_lst, gSl_fl, gSl_str, srcL_tup, srcL_lst, srcL_fl, srcL_str, srcR1_int, typN, startR, List.map_cons, List.map_nil, List.length_cons, List.length_nil, Nat.reduceAdd, Nat.reduceSub, Nat.zero_add, Nat.sub_self, Nat.sub_zero, List.replicate_zero, List.replicate_succ, List.cons_append, List.nil_append, List.append_nil, List.getElem?_cons_zero, List.getElem?_cons_succ, List.set_cons_zero, List.set_cons_succ, List.set_nil, List.getElem?_nil, Option.some.injEq, exists_eq_left', exists_eq_left, exists_eq_right, reduceCtorEq, false_and, and_false, true_and, and_true, exists_false, exists_const, wipeR, Nat.zero_le, String.reduceEq, D.int.injEq, D.str.injEq, D.bl.injEq, atI_0, atI_1, atI_2, atI_3, atI_4, beq_self_eq_true, not_true_eq_false, not_false_eq_true, Int.cast_ofNat_Int, Int.reduceEq, Int.reduceLE, Int.reduceLT, Int.reduceAdd, Int.reduceSub, Int.reduceMul, Int.reduceNeg, if_true, if_false, ite_true, ite_false, Bool.false_eq_true, if_neg, if_pos, decide_eq_true_eq, Bool.not_eq_true', decide_eq_false_iff_not, eq_self_iff_true, decide_true, decide_false, Bool.not_true, Bool.not_false]
        refine ⟨v + 1, some _, o', rfl, Int.add_nonneg hv (by decide), (fun h => h.elim), fun _ h => ?_⟩
        have := hsingle h
        injection this with e; injection e with e1 e2; injection e1 with e1
        rw [ofString_inj] at e1; exact absurd e1 (by decide)
      · simp only [ofString_inj, wp_ok, wp_ret, wp_stuck, wp_bad, wp_bnd, wp_if, wp_fif, wps_ok_nx, wps_ok_rt, wps_ok_bk, wps_ok_ct, wps_ok_xc, wps_bad, wps_lft, wps_seq, wps_nil, wps_ret, wps_expr, wps_asg, wps_if, wp_run, wps_for, wps_while, wp_comp, wp_var, wp_C, wp_bin, wp_un, wp_T, wp_Tb, wp_asBl, wp_truthBl, wp_bAnd, wp_bOr, wp_bNot, wp_eIf, wp_eAnd, wp_eOr, wp_eNot, blCase_bl, wp_chain, wp_aNil, wp_aCons, wp_tup, wp_lst, wp_lstM, wp_call, wp_cl1, wp_cl2, wp_cl3, wp_cl4, wp_cl5, wp_meth, wp_isi, wp_oNone, wp_oSome, wp_sl, wp_it, wp_range1, wp_range2, wp_bYes, gEq_str, gNe_str, gEq_int, gNe_int, gEq_bl, gNe_bl, gIs_bl, gIsNot_bl, gAdd_int, gSub_int, gC_int, gI_int, gAdd_str, gAdd_tup, gAdd_lst, gNeg_int, gIx_tup, gIx_lst, gLen_tup, gLen_lst, gLen_str, gInt_int, gInt_bl, gTuple_lst, gTuple_tup, gList_lst, gList_tup, gSl_tup, gSl_lst, gSl_fl, gSl_str, srcL_tup, srcL_lst, srcL_fl, srcL_str, srcR1_int, typN, startR, List.map_cons, List.map_nil, List.length_cons, List.length_nil, Nat.reduceAdd, Nat.reduceSub, Nat.zero_add, Nat.sub_self, Nat.sub_zero, List.replicate_zero, List.replicate_succ, List.cons_append, List.nil_append, List.append_nil, List.getElem?_cons_zero, List.getElem?_cons_succ, List.set_cons_zero, List.set_cons_succ, List.set_nil, List.getElem?_nil, Option.some.injEq, exists_eq_left', exists_eq_left, exists_eq_right, reduceCtorEq, false_and, and_false, true_and, and_true, exists_false, exists_const, wipeR, Nat.zero_le, String.reduceEq, D.int.injEq, D.str.injEq, D.bl.injEq, atI_0, atI_1, atI_2, atI_3, atI_4, beq_self_eq_true, not_true_eq_false, not_false_eq_true, Int.cast_ofNat_Int, Int.reduceEq, Int.reduceLE, Int.reduceLT, Int.reduceAdd, Int.reduceSub, Int.reduceMul, Int.reduceNeg, if_true, if_false, ite_true, ite_false, Bool.false_eq_true, if_neg, if_pos, decide_eq_true_eq, Bool.not_eq_true', decide_eq_false_iff_not, eq_self_iff_true, decide_true, decide_false, Bool.not_true, Bool.not_false]
        refine ⟨small_line (by omega), comp_pushed (fun d => rfl) hw ?_⟩
        refine ih _ _ _ _ _ (fun t h => PZ.of (pushed_good hw t h)) (by omega) hS (fun w hw0 _ _ => ?_) _ (.inl rfl)
        simp only [wp_ok, wp_ret, wp_stuck, wp_bad, wp_bnd, wp_if, wp_fif, wps_ok_nx, wps_ok_rt, wps_ok_bk, wps_ok_ct, wps_ok_xc, wps_bad, wps_lft, wps_seq, wps_nil, wps_ret, wps_expr, wps_asg, wps_if, wp_run, wps_for, wps_while, wp_comp, wp_var, wp_C, wp_bin, wp_un, wp_T, wp_Tb, wp_asBl, wp_truthBl, wp_bAnd, wp_bOr, wp_bNot, wp_eIf, wp_eAnd, wp_eOr, wp_eNot, blCase_bl, wp_chain, wp_aNil, wp_aCons, wp_tup, wp_lst, wp_lstM, wp_call, wp_cl1, wp_cl2, wp_cl3, wp_cl4, wp_cl5, wp_meth, wp_isi, wp_oNone, wp_oSome, wp_sl, wp_it, wp_range1, wp_range2, wp_bYes, gEq_str, gNe_str, gEq_int, gNe_int, gEq_bl, gNe_bl, gIs_bl, gIsNot_bl, gAdd_int, gSub_int, gC_int, gI_int, gAdd_str, gAdd_tup, gAdd_lst, gNeg_int, gIx_tup, gIx_lst, gLen_tup, gLen_lst, gLen_str, gInt_int, gInt_bl, gTuple_lst, gTuple_tup, gList_lst, gList_tup, gSl_tup, gSl_lst, gSl_fl, gSl_str, srcL_tup, srcL_lst, srcL_fl, srcL_str, srcR1_int, typN, startR, List.map_cons, List.map_nil, List.length_cons, List.length_nil, Nat.reduceAdd, Nat.reduceSub, Nat.zero_add, Nat.sub_self, Nat.sub_zero, List.replicate_zero, List.replicate_succ, List.cons_append, List.nil_append, List.append_nil, List.getElem?_cons_zero, List.getElem?_cons_succ, List.set_cons_zero, List.set_cons_succ, List.set_nil, List.getElem?_nil, Option.some.injEq, exists_eq_left', exists_eq_left, exists_eq_right, reduceCtorEq, false_and, and_false, true_and, and_true, exists_false, exists_const, wipeR, Nat.zero_le, String.reduceEq, D.int.injEq, D.str.injEq, D.bl.injEq, atI_0, atI_1, atI_2, atI_3, atI_4, beq_self_eq_true, not_true_eq_false, not_false_eq_true, Int.cast_ofNat_Int, Int.reduceEq, Int.reduceLE, Int.reduceLT, Int.reduceAdd, Int.reduceSub, Int.reduceMul, Int.reduceNeg, if_true, if_false, ite_true, ite_false, Bool.false_eq_true, if_neg, if_pos, decide_eq_true_eq, Bool.not_eq_true', decide_eq_false_iff_not, eq_self_iff_true, decide_true, decide_false, Bool.not_true, Bool.not_false]
        refine ⟨_, some _, o', rfl, by omega, (fun h => h.elim), fun _ h => ?_⟩
        have := hsingle h
        injection this with e; injection e with e1 e2; injection e2 with e2; cases e2
      · simp only [ofString_inj, wp_ok, wp_ret, wp_stuck, wp_bad, wp_bnd, wp_if, wp_fif, wps_ok_nx, wps_ok_rt, wps_ok_bk, wps_ok_ct, wps_ok_xc, wps_bad, wps_lft, wps_seq, wps_nil, wps_ret, wps_expr, wps_asg, wps_if, wp_run, wps_for, wps_while, wp_comp, wp_var, wp_C, wp_bin, wp_un, wp_T, wp_Tb, wp_asBl, wp_truthBl, wp_bAnd, wp_bOr, wp_bNot, wp_eIf, wp_eAnd, wp_eOr, wp_eNot, blCase_bl, wp_chain, wp_aNil, wp_aCons, wp_tup, wp_lst, wp_lstM, wp_call, wp_cl1, wp_cl2, wp_cl3, wp_cl4, wp_cl5, wp_meth, wp_isi, wp_oNone, wp_oSome, wp_sl, wp_it, wp_range1, wp_range2, wp_bYes, gEq_str, gNe_str, gEq_int, gNe_int, gEq_bl, gNe_bl, gIs_bl, gIsNot_bl, gAdd_int, gSub_int, gC_int, gI_int, gAdd_str, gAdd_tup, gAdd_lst, gNeg_int, gIx_tup, gIx_lst, gLen_tup, gLen_lst, gLen_str, gInt_int, gInt_bl, gTuple_lst, gTuple_tup, gList_lst, gList_tup, gSl_tup, gSl_lst, gSl_fl, gSl_str, srcL_tup, srcL_lst, srcL_fl, srcL_str, srcR1_int, typN, startR, List.map_cons, List.map_nil, List.length_cons, List.length_nil, Nat.reduceAdd, Nat.reduceSub, Nat.zero_add, Nat.sub_self, Nat.sub_zero, List.replicate_zero, List.replicate_succ, List.cons_append, List.nil_append, List.append_nil, List.getElem?_cons_zero, List.getElem?_cons_succ, List.set_cons_zero, List.set_cons_succ, List.set_nil, List.getElem?_nil, Option.some.injEq, exists_eq_left', exists_eq_left, exists_eq_right, reduceCtorEq, false_and, and_false, true_and, and_true, exists_false, exists_const, wipeR, Nat.zero_le, String.reduceEq, D.int.injEq, D.str.injEq, D.bl.injEq, atI_0, atI_1, atI_2, atI_3, atI_4, beq_self_eq_true, not_true_eq_false, not_false_eq_true, Int.cast_ofNat_Int, Int.reduceEq, Int.reduceLE, Int.reduceLT, Int.reduceAdd, Int.reduceSub, Int.reduceMul, Int.reduceNeg, if_true, if_false, ite_true, ite_false, Bool.false_eq_true, if_neg, if_pos, decide_eq_true_eq, Bool.not_eq_true', decide_eq_false_iff_not, eq_self_iff_true, decide_true, decide_false, Bool.not_true, Bool.not_false]
        refine ih us _ _ _ _ (fun t h => PZ.of (hu t h)) (by omega) hS (fun w hw0 _ _ => ?_) _ (.inr rfl)
        simp only [ofString_inj, wp_ok, wp_ret, wp_stuck, wp_bad, wp_bnd, wp_if, wp_fif, wps_ok_nx, wps_ok_rt, wps_ok_bk, wps_ok_ct, wps_ok_xc, wps_bad, wps_lft, wps_seq, wps_nil, wps_ret, wps_expr, wps_asg, wps_if, wp_run, wps_for, wps_while, wp_comp, wp_var, wp_C, wp_bin, wp_un, wp_T, wp_Tb, wp_asBl, wp_truthBl, wp_bAnd, wp_bOr, wp_bNot, wp_eIf, wp_eAnd, wp_eOr, wp_eNot, blCase_bl, wp_chain, wp_aNil, wp_aCons, wp_tup, wp_lst, wp_lstM, wp_call, wp_cl1, wp_cl2, wp_cl3, wp_cl4, wp_cl5, wp_meth, wp_isi, wp_oNone, wp_oSome, wp_sl, wp_it, wp_range1, wp_range2, wp_bYes, gEq_str, gNe_str, gEq_int, gNe_int, gEq_bl, gNe_bl, gIs_bl, gIsNot_bl, gAdd_int, gSub_int, gC_int, gI_int, gAdd_str, gAdd_tup, gAdd_lst, gNeg_int, gIx_tup, gIx_lst, gLen_tup, gLen_lst, gLen_str, gInt_int, gInt_bl, gTuple_lst, gTuple_tup, gList_lst, gList_tup, gSl_tup, gSl_lst, gSl_fl, gSl_str, srcL_tup, srcL_lst, srcL_fl, srcL_str, srcR1_int, typN, startR, List.map_cons, List.map_nil, List.length_cons, List.length_nil, Nat.reduceAdd, Nat.reduceSub, Nat.zero_add, Nat.sub_self, Nat.sub_zero, List.replicate_zero, List.replicate_succ, List.cons_append, List.nil_append, List.append_nil, List.getElem?_cons_zero, List.getElem?_cons_succ, List.set_cons_zero, List.set_cons_succ, List.set_nil, List.getElem?_nil, Option.some.injEq, exists_eq_left', exists_eq_left, exists_eq_right, reduceCtorEq, false_and, and_false, true_and, and_true, exists_false, exists_const, wipeR, Nat.zero_le, String.reduceEq, D.int.injEq, D.str.injEq, D.bl.injEq, atI_0, atI_1, atI_2, atI_3, atI_4, beq_self_eq_true, not_true_eq_false, not_false_eq_true, Int.cast_ofNat_Int, Int.reduceEq, Int.reduceLE, Int.reduceLT, Int.reduceAdd, Int.reduceSub, Int.reduceMul, Int.reduceNeg, if_true, if_false, ite_true, ite_false, Bool.false_eq_true, if_neg, if_pos, decide_eq_true_eq, Bool.not_eq_true', decide_eq_false_iff_not, eq_self_iff_true, decide_true, decide_false, Bool.not_true, Bool.not_false]
        refine ⟨_, some _, o', rfl, by omega, (fun h => h.elim), fun _ h => ?_⟩
        have := hsingle h
        injection this with e; injection e with e1 e2; injection e1 with e1
        rw [ofString_inj] at e1; exact absurd e1 (by decide)
      · have hw' : ∀ w ∈ ws, WdG j w := fun w h => by
          obtain ⟨j', e, q⟩ := hw w h
          have : j' = j := by omega
          rw [← this]; exact q
        simp only [ofString_inj, wp_ok, wp_ret, wp_stuck, wp_bad, wp_bnd, wp_if, wp_fif, wps_ok_nx, wps_ok_rt, wps_ok_bk, wps_ok_ct, wps_ok_xc, wps_bad, wps_lft, wps_seq, wps_nil, wps_ret, wps_expr, wps_asg, wps_if, wp_run, wps_for, wps_while, wp_comp, wp_var, wp_C, wp_bin, wp_un, wp_T, wp_Tb, wp_asBl, wp_truthBl, wp_bAnd, wp_bOr, wp_bNot, wp_eIf, wp_eAnd, wp_eOr, wp_eNot, blCase_bl, wp_chain, wp_aNil, wp_aCons, wp_tup, wp_lst, wp_lstM, wp_call, wp_cl1, wp_cl2, wp_cl3, wp_cl4, wp_cl5, wp_meth, wp_isi, wp_oNone, wp_oSome, wp_sl, wp_it, wp_range1, wp_range2, wp_bYes, gEq_str, gNe_str, gEq_int, gNe_int, gEq_bl, gNe_bl, gIs_bl, gIsNot_bl, gAdd_int, gSub_int, gC_int, gI_int, gAdd_str, gAdd_tup, gAdd_lst, gNeg_int, gIx_tup, gIx_lst, gLen_tup, gLen_lst, gLen_str, gInt_int, gInt_bl, gTuple_lst, gTuple_tup, gList_lst, gList_tup, gSl_tup, gSl_lst, gSl_fl, gSl_str, srcL_tup, srcL_lst, srcL_fl, srcL_str, srcR1_int, typN, startR, List.map_cons, List.map_nil, List.length_cons, List.length_nil, Nat.reduceAdd, Nat.reduceSub, Nat.zero_add, Nat.sub_self, Nat.sub_zero, List.replicate_zero, List.replicate_succ, List.cons_append, List.nil_append, List.append_nil, List.getElem?_cons_zero, List.getElem?_cons_succ, List.set_cons_zero, List.set_cons_succ, List.set_nil, List.getElem?_nil, Option.some.injEq, exists_eq_left', exists_eq_left, exists_eq_right, reduceCtorEq, false_and, and_false, true_and, and_true, exists_false, exists_const, wipeR, Nat.zero_le, String.reduceEq, D.int.injEq, D.str.injEq, D.bl.injEq, atI_0, atI_1, atI_2, atI_3, atI_4, beq_self_eq_true, not_true_eq_false, not_false_eq_true, Int.cast_ofNat_Int, Int.reduceEq, Int.reduceLE, Int.reduceLT, Int.reduceAdd, Int.reduceSub, Int.reduceMul, Int.reduceNeg, if_true, if_false, ite_true, ite_false, Bool.false_eq_true, if_neg, if_pos, decide_eq_true_eq, Bool.not_eq_true', decide_eq_false_iff_not, eq_self_iff_true, decide_true, decide_false, Bool.not_true, Bool.not_false]
        refine ⟨small_line (by omega), comp_pushed (fun d => rfl) hw' ?_⟩
        refine ih _ _ _ _ _ (fun t h => PZ.of (pushed_good hw' t h)) (by omega) hS (fun w hw0 _ hn => ?_) _ (.inl rfl)
        simp only [wp_ok, wp_ret, wp_stuck, wp_bad, wp_bnd, wp_if, wp_fif, wps_ok_nx, wps_ok_rt, wps_ok_bk, wps_ok_ct, wps_ok_xc, wps_bad, wps_lft, wps_seq, wps_nil, wps_ret, wps_expr, wps_asg, wps_if, wp_run, wps_for, wps_while, wp_comp, wp_var, wp_C, wp_bin, wp_un, wp_T, wp_Tb, wp_asBl, wp_truthBl, wp_bAnd, wp_bOr, wp_bNot, wp_eIf, wp_eAnd, wp_eOr, wp_eNot, blCase_bl, wp_chain, wp_aNil, wp_aCons, wp_tup, wp_lst, wp_lstM, wp_call, wp_cl1, wp_cl2, wp_cl3, wp_cl4, wp_cl5, wp_meth, wp_isi, wp_oNone, wp_oSome, wp_sl, wp_it, wp_range1, wp_range2, wp_bYes, gEq_str, gNe_str, gEq_int, gNe_int, gEq_bl, gNe_bl, gIs_bl, gIsNot_bl, gAdd_int, gSub_int, gC_int, gI_int, gAdd_str, gAdd_tup, gAdd_lst, gNeg_int, gIx_tup, gIx_lst, gLen_tup, gLen_lst, gLen_str, gInt_int, gInt_bl, gTuple_lst, gTuple_tup, gList_lst, gList_tup, gSl_tup, gSl_lst, gSl_fl, gSl_str, srcL_tup, srcL_lst, srcL_fl, srcL_str, srcR1_int, typN, startR, List.map_cons, List.map_nil, List.length_cons, List.length_nil, Nat.reduceAdd, Nat.reduceSub, Nat.zero_add, Nat.sub_self, Nat.sub_zero, List.replicate_zero, List.replicate_succ, List.cons_append, List.nil_append, List.append_nil, List.getElem?_cons_zero, List.getElem?_cons_succ, List.set_cons_zero, List.set_cons_succ, List.set_nil, List.getElem?_nil, Option.some.injEq, exists_eq_left', exists_eq_left, exists_eq_right, reduceCtorEq, false_and, and_false, true_and, and_true, exists_false, exists_const, wipeR, Nat.zero_le, String.reduceEq, D.int.injEq, D.str.injEq, D.bl.injEq, atI_0, atI_1, atI_2, atI_3, atI_4, beq_self_eq_true, not_true_eq_false, not_false_eq_true, Int.cast_ofNat_Int, Int.reduceEq, Int.reduceLE, Int.reduceLT, Int.reduceAdd, Int.reduceSub, Int.reduceMul, Int.reduceNeg, if_true, if_false, ite_true, ite_false, Bool.false_eq_true, if_neg, if_pos, decide_eq_true_eq, Bool.not_eq_true', decide_eq_false_iff_not, eq_self_iff_true, decide_true, decide_false, Bool.not_true, Bool.not_false]
        refine ⟨_, some _, o', rfl, by omega, (fun h => h.elim), fun hi h => ?_⟩
        have := hsingle h
        injection this with e; injection e with e1 e2; injection e2 with e2; injection e2 with e2
        subst e2
        have h0 := hv0 (by omega)
        have hz := hn rfl
        subst h0 hz
        rfl
    · rintro ρ S' ⟨rfl, v, o, o', rfl, hv, hv0, hv1⟩
      simp only [fin_int hS, wp_ok, wp_ret, wp_stuck, wp_bad, wp_bnd, wp_if, wp_fif, wps_ok_nx, wps_ok_rt, wps_ok_bk, wps_ok_ct, wps_ok_xc, wps_bad, wps_lft, wps_seq, wps_nil, wps_ret, wps_expr, wps_asg, wps_if, wp_run, wps_for, wps_while, wp_comp, wp_var, wp_C, wp_bin, wp_un, wp_T, wp_Tb, wp_asBl, wp_truthBl, wp_bAnd, wp_bOr, wp_bNot, wp_eIf, wp_eAnd, wp_eOr, wp_eNot, blCase_bl, wp_chain, wp_aNil, wp_aCons, wp_tup, wp_lst, wp_lstM, wp_call, wp_cl1, wp_cl2, wp_cl3, wp_cl4, wp_cl5, wp_meth, wp_isi, wp_oNone, wp_oSome, wp_sl, wp_it, wp_range1, wp_range2, wp_bYes, gEq_str, gNe_str, gEq_int, gNe_int, gEq_bl, gNe_bl, gIs_bl, gIsNot_bl, gAdd_int, gSub_int, gC_int, gI_int, gAdd_str, gAdd_tup, gAdd_lst, gNeg_int, gIx_tup, gIx_lst, gLen_tup, gLen_lst, gLen_str, gInt_int, gInt_bl, gTuple_lst, gTuple_tup, gList_lst, gList_tup, gSl_tup, gSl_lst, gSl_fl, gSl_str, srcL_tup, srcL_lst, srcL_fl, srcL_str, srcR1_int, typN, startR, List.map_cons, List.map_nil, List.length_cons, List.length_nil, Nat.reduceAdd, Nat.reduceSub, Nat.zero_add, Nat.sub_self, Nat.sub_zero, List.replicate_zero, List.replicate_succ, List.cons_append, List.nil_append, List.append_nil, List.getElem?_cons_zero, List.getElem?_cons_succ, List.set_cons_zero, List.set_cons_succ, List.set_nil, List.getElem?_nil, Option.some.injEq, exists_eq_left', exists_eq_left, exists_eq_right, reduceCtorEq, false_and, and_false, true_and, and_true, exists_false, exists_const, wipeR, Nat.zero_le, String.reduceEq, D.int.injEq, D.str.injEq, D.bl.injEq, atI_0, atI_1, atI_2, atI_3, atI_4, beq_self_eq_true, not_true_eq_false, not_false_eq_true, Int.cast_ofNat_Int, Int.reduceEq, Int.reduceLE, Int.reduceLT, Int.reduceAdd, Int.reduceSub, Int.reduceMul, Int.reduceNeg, if_true, if_false, ite_true, ite_false, Bool.false_eq_true, if_neg, if_pos, decide_eq_true_eq, Bool.not_eq_true', decide_eq_false_iff_not, eq_self_iff_true, decide_true, decide_false, Bool.not_true, Bool.not_false]
      refine hF v hv (fun h => hv1 (by rw [h]; rfl) h) (fun h => hv0 (by rw [h]; rfl))
/-! words cut -/
theorem cut_ok {j : Nat} {ws : List D} {N : Nat} (hN : j + 5 ≤ N) (hfu : ws.length + 2 ≤ fu) (hl : ws.length ≤ 1000) (hw : ∀ w ∈ ws, WdG j w) (hS : WF S) (hF : ∀ vs : List D, vs.length ≤ 1000 → (∀ w ∈ vs, WdG j w) → F (.tup vs) S) : wp (den fu N i_l_cut [.lst ws, .int 24] S) F E := by
  obtain ⟨m, rfl⟩ : ∃ m, N = m + 1 := ⟨N - 1, by omega⟩
  show wp (runDef false 2 (b_l_cut fu (den fu m)) _ _) _ _
  simp only [b_l_cut, wp_ok, wp_ret, wp_stuck, wp_bad, wp_bnd, wp_if, wp_fif, wps_ok_nx, wps_ok_rt, wps_ok_bk, wps_ok_ct, wps_ok_xc, wps_bad, wps_lft, wps_seq, wps_nil, wps_ret, wps_expr, wps_asg, wps_if, wp_run, wps_for, wps_while, wp_comp, wp_var, wp_C, wp_bin, wp_un, wp_T, wp_Tb, wp_asBl, wp_truthBl, wp_bAnd, wp_bOr, wp_bNot, wp_eIf, wp_eAnd, wp_eOr, wp_eNot, blCase_bl, wp_chain, wp_aNil, wp_aCons, wp_tup, wp_lst, wp_lstM, wp_call, wp_cl1, wp_cl2, wp_cl3, wp_cl4, wp_cl5, wp_meth, wp_isi, wp_oNone, wp_oSome, wp_sl, wp_it, wp_range1, wp_range2, wp_bYes, gEq_str, gNe_str, gEq_int, gNe_int, gEq_bl, gNe_bl, gIs_bl, gIsNot_bl, gAdd_int, gSub_int, gC_int, gI_int, gAdd_str, gAdd_tup, gAdd_lst, gNeg_int, gIx_tup, gIx_lst, gLen_tup, gLen_lst, gLen_str, gInt_int, gInt_bl, gTuple_lst, gTuple_tup, gList_lst, gList_tup, gSl_tup, gSl_lst, gSl_fl, gSl_str, srcL_tup, srcL_lst, srcL_fl, srcL_str, srcR1_int, typN, startR, List.map_cons, List.map_nil, List.length_cons, List.length_nil, Nat.reduceAdd, Nat.reduceSub, Nat.zero_add, Nat.sub_self, Nat.sub_zero, List.replicate_zero, List.replicate_succ, List.cons_append, List.nil_append, List.append_nil, List.getElem?_cons_zero, List.getElem?_cons_succ, List.set_cons_zero, List.set_cons_succ, List.set_nil, List.getElem?_nil, Option.some.injEq, exists_eq_left', exists_eq_left, exists_eq_right, reduceCtorEq, false_and, and_false, true_and, and_true, exists_false, exists_const, wipeR, Nat.zero_le, String.reduceEq, D.int.injEq, D.str.injEq, D.bl.injEq, atI_0, atI_1, atI_2, atI_3, atI_4, beq_self_eq_true, not_true_eq_false, not_false_eq_true, Int.cast_ofNat_Int, Int.reduceEq, Int.reduceLE, Int.reduceLT, Int.reduceAdd, Int.reduceSub, Int.reduceMul, Int.reduceNeg, if_true, if_false, ite_true, ite_false, Bool.false_eq_true, if_neg, if_pos, decide_eq_true_eq, Bool.not_eq_true', decide_eq_false_iff_not, eq_self_iff_true, decide_true, decide_false, Bool.not_true, Bool.not_false]
  refine wps_whileM (fun i ρ S' => S' = S ∧ ∃ vs : List D, ρ = [some (.lst vs), some (.int 24)] ∧ vs.length = i ∧ i ≤ ws.length ∧ ∀ w ∈ vs, WdG j w) ?_ ws.length (by omega) ⟨rfl, ws, rfl, rfl, Nat.le_refl _, hw⟩
  rintro i ρ S' ⟨rfl, vs, rfl, rfl, hi, hv⟩
  refine ⟨by omega, ?_⟩
  simp only [wp_ok, wp_ret, wp_stuck, wp_bad, wp_bnd, wp_if, wp_fif, wps_ok_nx, wps_ok_rt, wps_ok_bk, wps_ok_ct, wps_ok_xc, wps_bad, wps_lft, wps_seq, wps_nil, wps_ret, wps_expr, wps_asg, wps_if, wp_run, wps_for, wps_while, wp_comp, wp_var, wp_C, wp_bin, wp_un, wp_T, wp_Tb, wp_asBl, wp_truthBl, wp_bAnd, wp_bOr, wp_bNot, wp_eIf, wp_eAnd, wp_eOr, wp_eNot, blCase_bl, wp_chain, wp_aNil, wp_aCons, wp_tup, wp_lst, wp_lstM, wp_call, wp_cl1, wp_cl2, wp_cl3, wp_cl4, wp_cl5, wp_meth, wp_isi, wp_oNone, wp_oSome, wp_sl, wp_it, wp_range1, wp_range2, wp_bYes, gEq_str, gNe_str, gEq_int, gNe_int, gEq_bl, gNe_bl, gIs_bl, gIsNot_bl, gAdd_int, gSub_int, gC_int, gI_int, gAdd_str, gAdd_tup, gAdd_lst, gNeg_int, gIx_tup, gIx_lst, gLen_tup, gLen_lst, gLen_str, gInt_int, gInt_bl, gTuple_lst, gTuple_tup, gList_lst, gList_tup, gSl_tup, gSl_lst, gSl_fl, gSl_str, srcL_tup, srcL_lst, srcL_fl, srcL_str, srcR1_int, typN, startR, List.map_cons, List.map_nil, List.length_cons, List.length_nil, Nat.reduceAdd, Nat.reduceSub, Nat.zero_add, Nat.sub_self, Nat.sub_zero, List.replicate_zero, List.replicate_succ, List.cons_append, List.nil_append, List.append_nil, List.getElem?_cons_zero, List.getElem?_cons_succ, List.set_cons_zero, List.set_cons_succ, List.set_nil, List.getElem?_nil, Option.some.injEq, exists_eq_left', exists_eq_left, exists_eq_right, reduceCtorEq, false_and, and_false, true_and, and_true, exists_false, exists_const, wipeR, Nat.zero_le, String.reduceEq, D.int.injEq, D.str.injEq, D.bl.injEq, atI_0, atI_1, atI_2, atI_3, atI_4, beq_self_eq_true, not_true_eq_false, not_false_eq_true, Int.cast_ofNat_Int, Int.reduceEq, Int.reduceLE, Int.reduceLT, Int.reduceAdd, Int.reduceSub, Int.reduceMul, Int.reduceNeg, if_true, if_false, ite_true, ite_false, Bool.false_eq_true, if_neg, if_pos, decide_eq_true_eq, Bool.not_eq_true', decide_eq_false_iff_not, eq_self_iff_true, decide_true, decide_false, Bool.not_true, Bool.not_false]
  refine ⟨small_line (by decide), small_line (by decide), ?_⟩
  refine size_ok (j + 1) _ _ _ _ _ (fun t h => ?_) (by omega) hS (fun v hv0 hv1 _ => ?_) _ (.inl rfl)
  · simp only [List.mem_singleton] at h
    exact .inr ⟨vs, h, by omega, fun w h => ⟨j, rfl, hv w h⟩⟩
  · simp only [wp_ok, wp_ret, wp_stuck, wp_bad, wp_bnd, wp_if, wp_fif, wps_ok_nx, wps_ok_rt, wps_ok_bk, wps_ok_ct, wps_ok_xc, wps_bad, wps_lft, wps_seq, wps_nil, wps_ret, wps_expr, wps_asg, wps_if, wp_run, wps_for, wps_while, wp_comp, wp_var, wp_C, wp_bin, wp_un, wp_T, wp_Tb, wp_asBl, wp_truthBl, wp_bAnd, wp_bOr, wp_bNot, wp_eIf, wp_eAnd, wp_eOr, wp_eNot, blCase_bl, wp_chain, wp_aNil, wp_aCons, wp_tup, wp_lst, wp_lstM, wp_call, wp_cl1, wp_cl2, wp_cl3, wp_cl4, wp_cl5, wp_meth, wp_isi, wp_oNone, wp_oSome, wp_sl, wp_it, wp_range1, wp_range2, wp_bYes, gEq_str, gNe_str, gEq_int, gNe_int, gEq_bl, gNe_bl, gIs_bl, gIsNot_bl, gAdd_int, gSub_int, gC_int, gI_int, gAdd_str, gAdd_tup, gAdd_lst, gNeg_int, gIx_tup, gIx_lst, gLen_tup, gLen_lst, gLen_str, gInt_int, gInt_bl, gTuple_lst, gTuple_tup, gList_lst, gList_tup, gSl_tup, gSl_lst, gSl_fl, gSl_str, srcL_tup, srcL_lst, srcL_fl, srcL_str, srcR1_int, typN, startR, List.map_cons, List.map_nil, List.length_cons, List.length_nil, Nat.reduceAdd, Nat.reduceSub, Nat.zero_add, Nat.sub_self, Nat.sub_zero, List.replicate_zero, List.replicate_succ, List.cons_append, List.nil_append, List.append_nil, List.getElem?_cons_zero, List.getElem?_cons_succ, List.set_cons_zero, List.set_cons_succ, List.set_nil, List.getElem?_nil, Option.some.injEq, exists_eq_left', exists_eq_left, exists_eq_right, reduceCtorEq, false_and, and_false, true_and, and_true, exists_false, exists_const, wipeR, Nat.zero_le, String.reduceEq, D.int.injEq, D.str.injEq, D.bl.injEq, atI_0, atI_1, atI_2, atI_3, atI_4, beq_self_eq_true, not_true_eq_false, not_false_eq_true, Int.cast_ofNat_Int, Int.reduceEq, Int.reduceLE, Int.reduceLT, Int.reduceAdd, Int.reduceSub, Int.reduceMul, Int.reduceNeg, if_true, if_false, ite_true, ite_false, Bool.false_eq_true, if_neg, if_pos, decide_eq_true_eq, Bool.not_eq_true', decide_eq_false_iff_not, eq_self_iff_true, decide_true, decide_false, Bool.not_true, Bool.not_false]
    by_cases hgt : 24 < v
    · rw [if_pos hgt]
      have hne : vs ≠ [] := fun h => by subst h; have := hv1 rfl; omega
      have hpos : 0 < vs.length := List.length_pos_iff.mpr hne
      refine ⟨vs.length - 1, by omega, ?_⟩
      have e : cutD vs none (some (-1)) = vs.dropLast := by
        unfold cutD
        have e1 : HT.sIx vs.length 0 none = 0 := rfl
        have e2 : HT.sIx vs.length vs.length (some (-1)) = vs.length - 1 := by
          have e3 : HT.sIx vs.length vs.length (some (-1)) = ((-1 : Int) + (vs.length : Int)).toNat := rfl
          rw [e3]; omega
        rw [e1, e2, List.dropLast_eq_take]; simp
      refine ⟨vs.dropLast, by rw [e], by simp, by omega, fun w h => hv w (List.dropLast_subset _ h)⟩
    · rw [if_neg hgt]
      have htr : tr (.tup vs) := by
        have : D.los 0 vs = true := los_iff vs |>.mpr fun w hw => by
          rcases hv w hw with q | ⟨t, rfl, q⟩
          · exact q.tr
          · have := ThG.tr q
            simp only [DL.tr, D.lo, D.los, Bool.and_true, Bool.true_and] at this ⊢
            exact this
        simp only [DL.tr, D.lo]; exact this
      exact fin_same hS htr rfl (hF vs (by omega) hv)
end K64

namespace K64
open PySem L2 DL
variable {fu n k : Nat} {S S0 : Sto} {F : D → Sto → Prop} {E : Exc → Sto → Prop}
/-! what is drawn at random -/
theorem gIx_sign {z : Str} {j : Int} : wp (gIx (.str z) (.int j) S) F E ↔ z.length ≤ sizeLine ∧ ∃ c, atI z.cps.toList j = some c ∧ F (.str ⟨#[c]⟩) S := by
  unfold gIx
  by_cases h : z.length ≤ sizeLine
  · simp only [if_pos h]
    cases e : atI z.cps.toList j with
    | some c => exact ⟨fun q => ⟨h, c, rfl, q⟩, fun ⟨_, c', e, q⟩ => by cases e; exact q⟩
    | none => exact ⟨fun q => q.elim, fun ⟨_, c', e, q⟩ => by cases e⟩
  · simp only [if_neg h]
    exact ⟨fun q => q.elim, fun q => h q.1⟩
/-- a comprehension that draws -/
theorem comp_gen {all : List D} {i : Nat} {el : EvD} {ρ : Rho} {FF : List D → Sto → Prop} (P : D → Prop) (h0 : DK k S0 S)
    (hel : ∀ d ∈ all, ∀ S', DK k S0 S' → wp (el (ρ.set i (some d)) S') (fun y S'' => P y ∧ DK k S0 S'') nx) (h : ∀ ys S', ys.length = all.length → (∀ y ∈ ys, P y) → DK k S0 S' → FF ys S') :
    wp (compM none all (gN i) bYes el ρ all S) FF nx := by
  refine wp_compM (fun k' ys S' => k' ≤ all.length → (ys.length = k' ∧ (∀ y ∈ ys, P y) ∧ DK k S0 S')) (fun _ _ _ _ => trivial) (fun k' d ys S' hd hk => ?_) (fun ys S' hk => ?_) (fun _ => ⟨rfl, fun _ h => (List.not_mem_nil h).elim, h0⟩)
  · have hlt := (List.getElem?_eq_some_iff.mp hd).1
    obtain ⟨q1, q2, q3⟩ := hk (by omega)
    refine ⟨_, rfl, ?_⟩
    rw [wp_bYes, if_pos rfl]
    refine wp_mono (hel d (List.mem_of_getElem? hd) S' q3) (fun y S'' hy => ?_) (fun _ _ h => h)
    refine fun _ => ⟨by simp [q1], fun z hz => ?_, hy.2⟩
    rw [List.mem_append, List.mem_singleton] at hz
    rcases hz with hz | rfl
    · exact q2 z hz
    · exact hy.1
  · obtain ⟨q1, q2, q3⟩ := hk (Nat.le_refl _)
    exact h ys S' q1 q2 q3
theorem rangeD_len {lo : Int} {m : Nat} : (rangeD lo m).length = m := by simp [rangeD]
theorem shuffle_gen {m : Int} {N : Nat} (hN : 3 ≤ N) (hm : 0 ≤ m) (hm8 : m ≤ 8) (h : DK k S0 S) (hF : ∀ (z : Str) (S' : Sto), z.length ≤ 100 → IsSh z → DK k S0 S' → F (.str z) S') : wp (den fu N i_l_shuffle [.ref k, .int m] S) F E := by
  obtain ⟨N', rfl⟩ : ∃ N', N = N' + 1 := ⟨N - 1, by omega⟩
  show wp (runDef false 7 (b_l_shuffle fu (den fu N')) _ _) _ _
  simp only [b_l_shuffle, wp_ok, wp_ret, wp_stuck, wp_bad, wp_bnd, wp_if, wp_fif, wps_ok_nx, wps_ok_rt, wps_ok_bk, wps_ok_ct, wps_ok_xc, wps_bad, wps_lft, wps_seq, wps_nil, wps_ret, wps_expr, wps_asg, wps_if, wp_run, wps_for, wps_while, wp_comp, wp_var, wp_C, wp_bin, wp_un, wp_T, wp_Tb, wp_asBl, wp_truthBl, wp_bAnd, wp_bOr, wp_bNot, wp_eIf, wp_eAnd, wp_eOr, wp_eNot, blCase_bl, wp_chain, wp_aNil, wp_aCons, wp_tup, wp_lst, wp_lstM, wp_call, wp_cl1, wp_cl2, wp_cl3, wp_cl4, wp_cl5, wp_meth, wp_isi, wp_oNone, wp_oSome, wp_sl, wp_it, wp_range1, wp_range2, wp_bYes, gEq_str, gNe_str, gEq_int, gNe_int, gEq_bl, gNe_bl, gIs_bl, gIsNot_bl, gAdd_int, gSub_int, gC_int, gI_int, gAdd_str, gAdd_tup, gAdd_lst, gNeg_int, gIx_tup, gIx_lst, gLen_tup, gLen_lst, gLen_str, gInt_int, gInt_bl, gTuple_lst, gTuple_tup, gList_lst, gList_tup, gSl_tup, gSl_lst, gSl_fl, gSl_str, srcL_tup, srcL_lst, srcL_fl, srcL_str, srcR1_int, typN, startR, List.map_cons, List.map_nil, List.length_cons, List.length_nil, Nat.reduceAdd, Nat.reduceSub, Nat.zero_add, Nat.sub_self, Nat.sub_zero, List.replicate_zero, List.replicate_succ, List.cons_append, List.nil_append, List.append_nil, List.getElem?_cons_zero, List.getElem?_cons_succ, List.set_cons_zero, List.set_cons_succ, List.set_nil, List.getElem?_nil, Option.some.injEq, exists_eq_left', exists_eq_left, exists_eq_right, reduceCtorEq, false_and, and_false, true_and, and_true, exists_false, exists_const, wipeR, Nat.zero_le, String.reduceEq, D.int.injEq, D.str.injEq, D.bl.injEq, atI_0, atI_1, atI_2, atI_3, atI_4, beq_self_eq_true, not_true_eq_false, not_false_eq_true, Int.cast_ofNat_Int, Int.reduceEq, Int.reduceLE, Int.reduceLT, Int.reduceAdd, Int.reduceSub, Int.reduceMul, Int.reduceNeg, if_true, if_false, ite_true, ite_false, Bool.false_eq_true, if_neg, if_pos, decide_eq_true_eq, Bool.not_eq_true', decide_eq_false_iff_not, eq_self_iff_true, decide_true, decide_false, Bool.not_true, Bool.not_false]
  refine draw_ok (by omega) h (by omega) (by omega) fun v S1 hv0 hv1 d1 => ?_
  obtain ⟨w, rfl⟩ := Int.eq_ofNat_of_zero_le hv0
  have hw : w ≤ 8 := by omega
  have hA : (Str.ofString "abcdefgh").length ≤ sizeLine := by rw [letters_eq]; exact small_line (by decide)
  let a : List Nat := [97, 98, 99, 100, 101, 102, 103, 104].take w
  have la : a.length = w := by show ([97, 98, 99, 100, 101, 102, 103, 104].take w).length = w; simp; omega
  have cut : cutS (Str.ofString "abcdefgh") none (some ((w : Nat) : Int)) = ⟨a.toArray⟩ := by
    rw [letters_eq]
    unfold cutS
    apply str_ext
    simp only [List.toList_toArray]
    have e1 : HT.sIx (Str.length ⟨#[97, 98, 99, 100, 101, 102, 103, 104]⟩) 0 none = 0 := rfl
    have e2 : HT.sIx (Str.length ⟨#[97, 98, 99, 100, 101, 102, 103, 104]⟩) (Str.length ⟨#[97, 98, 99, 100, 101, 102, 103, 104]⟩) (some ((w : Nat) : Int)) = w := by
      rw [HT.sIx_nat]; show min w 8 = w; omega
    rw [e1, e2]; rfl
  have hL : ((⟨a.toArray⟩ : Str)).length = w := by show a.toArray.size = w; simp [la]
  have fin : ∀ (b : List Nat) (S' : Sto), b.length ≤ 12 → (∀ x ∈ b, x ∈ a) → DK k S0 S' → (⟨a.toArray⟩ : Str).length + (Str.ofString "-").length ≤ sizeLine ∧ ((⟨a.toArray⟩ : Str) ++ Str.ofString "-").length + (⟨b.toArray⟩ : Str).length ≤ sizeLine ∧ wp (finD false S.length (.str ((⟨a.toArray⟩ : Str) ++ Str.ofString "-" ++ ⟨b.toArray⟩)) S') F E := by
    intro b S' hb hba hd
    have hR : ((⟨b.toArray⟩ : Str)).length = b.length := by show b.toArray.size = _; simp
    have hD : (Str.ofString "-").length = 1 := by rw [dash_eq]; rfl
    have hAD : ((⟨a.toArray⟩ : Str) ++ Str.ofString "-").length = w + 1 := by
      rw [dash_eq]; show (a.toArray ++ #[45]).size = w + 1; simp [la]
    have hADB : ((⟨a.toArray⟩ : Str) ++ Str.ofString "-" ++ (⟨b.toArray⟩ : Str)).length = w + 1 + b.length := by
      rw [dash_eq]; show ((a.toArray ++ #[45]) ++ b.toArray).size = w + 1 + b.length; simp [la]; omega
    refine ⟨small_line (by omega), small_line (by omega), ?_⟩
    refine fin_same hd.wf' rfl (by rw [hd.len, h.len]) (hF _ _ (by omega) ⟨a, b, by rw [dash_eq], ⟨w, hw, rfl⟩, hb, hba⟩ hd)
  simp only [hA, cut, wp_ok, wp_ret, wp_stuck, wp_bad, wp_bnd, wp_if, wp_fif, wps_ok_nx, wps_ok_rt, wps_ok_bk, wps_ok_ct, wps_ok_xc, wps_bad, wps_lft, wps_seq, wps_nil, wps_ret, wps_expr, wps_asg, wps_if, wp_run, wps_for, wps_while, wp_comp, wp_var, wp_C, wp_bin, wp_un, wp_T, wp_Tb, wp_asBl, wp_truthBl, wp_bAnd, wp_bOr, wp_bNot, wp_eIf, wp_eAnd, wp_eOr, wp_eNot, blCase_bl, wp_chain, wp_aNil, wp_aCons, wp_tup, wp_lst, wp_lstM, wp_call, wp_cl1, wp_cl2, wp_cl3, wp_cl4, wp_cl5, wp_meth, wp_isi, wp_oNone, wp_oSome, wp_sl, wp_it, wp_range1, wp_range2, wp_bYes, gEq_str, gNe_str, gEq_int, gNe_int, gEq_bl, gNe_bl, gIs_bl, gIsNot_bl, gAdd_int, gSub_int, gC_int, gI_int, gAdd_str, gAdd_tup, gAdd_lst, gNeg_int, gIx_tup, gIx_lst, gLen_tup, gLen_lst, gLen_str, gInt_int, gInt_bl, gTuple_lst, gTuple_tup, gList_lst, gList_tup, gSl_tup, gSl_lst, gSl_fl, gSl_str, srcL_tup, srcL_lst, srcL_fl, srcL_str, srcR1_int, typN, startR, List.map_cons, List.map_nil, List.length_cons, List.length_nil, Nat.reduceAdd, Nat.reduceSub, Nat.zero_add, Nat.sub_self, Nat.sub_zero, List.replicate_zero, List.replicate_succ, List.cons_append, List.nil_append, List.append_nil, List.getElem?_cons_zero, List.getElem?_cons_succ, List.set_cons_zero, List.set_cons_succ, List.set_nil, List.getElem?_nil, Option.some.injEq, exists_eq_left', exists_eq_left, exists_eq_right, reduceCtorEq, false_and, and_false, true_and, and_true, exists_false, exists_const, wipeR, Nat.zero_le, String.reduceEq, D.int.injEq, D.str.injEq, D.bl.injEq, atI_0, atI_1, atI_2, atI_3, atI_4, beq_self_eq_true, not_true_eq_false, not_false_eq_true, Int.cast_ofNat_Int, Int.reduceEq, Int.reduceLE, Int.reduceLT, Int.reduceAdd, Int.reduceSub, Int.reduceMul, Int.reduceNeg, if_true, if_false, ite_true, ite_false, Bool.false_eq_true, if_neg, if_pos, decide_eq_true_eq, Bool.not_eq_true', decide_eq_false_iff_not, eq_self_iff_true, decide_true, decide_false, Bool.not_true, Bool.not_false]
  by_cases hz : (0 : Int) < (w : Int)
  · simp only [hz, wp_ok, wp_ret, wp_stuck, wp_bad, wp_bnd, wp_if, wp_fif, wps_ok_nx, wps_ok_rt, wps_ok_bk, wps_ok_ct, wps_ok_xc, wps_bad, wps_lft, wps_seq, wps_nil, wps_ret, wps_expr, wps_asg, wps_if, wp_run, wps_for, wps_while, wp_comp, wp_var, wp_C, wp_bin, wp_un, wp_T, wp_Tb, wp_asBl, wp_truthBl, wp_bAnd, wp_bOr, wp_bNot, wp_eIf, wp_eAnd, wp_eOr, wp_eNot, blCase_bl, wp_chain, wp_aNil, wp_aCons, wp_tup, wp_lst, wp_lstM, wp_call, wp_cl1, wp_cl2, wp_cl3, wp_cl4, wp_cl5, wp_meth, wp_isi, wp_oNone, wp_oSome, wp_sl, wp_it, wp_range1, wp_range2, wp_bYes, gEq_str, gNe_str, gEq_int, gNe_int, gEq_bl, gNe_bl, gIs_bl, gIsNot_bl, gAdd_int, gSub_int, gC_int, gI_int, gAdd_str, gAdd_tup, gAdd_lst, gNeg_int, gIx_tup, gIx_lst, gLen_tup, gLen_lst, gLen_str, gInt_int, gInt_bl, gTuple_lst, gTuple_tup, gList_lst, gList_tup, gSl_tup, gSl_lst, gSl_fl, gSl_str, srcL_tup, srcL_lst, srcL_fl, srcL_str, srcR1_int, typN, startR, List.map_cons, List.map_nil, List.length_cons, List.length_nil, Nat.reduceAdd, Nat.reduceSub, Nat.zero_add, Nat.sub_self, Nat.sub_zero, List.replicate_zero, List.replicate_succ, List.cons_append, List.nil_append, List.append_nil, List.getElem?_cons_zero, List.getElem?_cons_succ, List.set_cons_zero, List.set_cons_succ, List.set_nil, List.getElem?_nil, Option.some.injEq, exists_eq_left', exists_eq_left, exists_eq_right, reduceCtorEq, false_and, and_false, true_and, and_true, exists_false, exists_const, wipeR, Nat.zero_le, String.reduceEq, D.int.injEq, D.str.injEq, D.bl.injEq, atI_0, atI_1, atI_2, atI_3, atI_4, beq_self_eq_true, not_true_eq_false, not_false_eq_true, Int.cast_ofNat_Int, Int.reduceEq, Int.reduceLE, Int.reduceLT, Int.reduceAdd, Int.reduceSub, Int.reduceMul, Int.reduceNeg, if_true, if_false, ite_true, ite_false, Bool.false_eq_true, if_neg, if_pos, decide_eq_true_eq, Bool.not_eq_true', decide_eq_false_iff_not, eq_self_iff_true, decide_true, decide_false, Bool.not_true, Bool.not_false]
    refine ⟨small_line (by decide), draw_ok (by omega) d1 (by decide) (by decide) fun v2 S2 q0 q1 d2 => ?_⟩
    rw [gI_int]
    refine ⟨cDiv_of (by decide) (by decide), ?_⟩
    rw [gIx_lst]
    obtain ⟨x, hx, e⟩ := atI_mem (ds := [D.int 4, D.int 13]) (v := v2 / 7) (by omega) (by show v2 / 7 < 2; omega)
    refine ⟨x, e, ?_⟩
    have : ∃ i : Int, x = .int i ∧ 0 < i ∧ i ≤ 13 := by
      simp only [List.mem_cons, List.not_mem_nil, or_false] at hx
      rcases hx with rfl | rfl
      · exact ⟨_, rfl, by decide, by decide⟩
      · exact ⟨_, rfl, by decide, by decide⟩
    obtain ⟨i, rfl, i0, i1⟩ := this
    refine draw_ok (by omega) d2 i0 (by omega) fun v3 S3 p0 p1 d3 => ?_
    rw [srcR1_int]
    refine ⟨by simp [bnd62]; omega, ?_⟩
    refine wps_forM (fun j ρ S' => j ≤ v3.toNat → ∃ (b : List Nat) (o : Option D), ρ = [some (.ref k), some (.int m), some (.int w), some (.str ⟨a.toArray⟩), some (.str ⟨b.toArray⟩), some (.int i), o] ∧ b.length = j ∧ (∀ x ∈ b, x ∈ a) ∧ DK k S0 S') (fun _ _ _ _ => trivial) ?_ ?_ (fun _ => ⟨[], none, rfl, rfl, fun _ h => (List.not_mem_nil h).elim, d3⟩)
    · intro j d ρ S' hd hI
      have hlt := (List.getElem?_eq_some_iff.mp hd).1
      rw [rangeD_len] at hlt
      obtain ⟨b, o, rfl, hb, hba, hd4⟩ := hI (by omega)
      refine ⟨_, rfl, ?_⟩
      simp only [wp_ok, wp_ret, wp_stuck, wp_bad, wp_bnd, wp_if, wp_fif, wps_ok_nx, wps_ok_rt, wps_ok_bk, wps_ok_ct, wps_ok_xc, wps_bad, wps_lft, wps_seq, wps_nil, wps_ret, wps_expr, wps_asg, wps_if, wp_run, wps_for, wps_while, wp_comp, wp_var, wp_C, wp_bin, wp_un, wp_T, wp_Tb, wp_asBl, wp_truthBl, wp_bAnd, wp_bOr, wp_bNot, wp_eIf, wp_eAnd, wp_eOr, wp_eNot, blCase_bl, wp_chain, wp_aNil, wp_aCons, wp_tup, wp_lst, wp_lstM, wp_call, wp_cl1, wp_cl2, wp_cl3, wp_cl4, wp_cl5, wp_meth, wp_isi, wp_oNone, wp_oSome, wp_sl, wp_it, wp_range1, wp_range2, wp_bYes, gEq_str, gNe_str, gEq_int, gNe_int, gEq_bl, gNe_bl, gIs_bl, gIsNot_bl, gAdd_int, gSub_int, gC_int, gI_int, gAdd_str, gAdd_tup, gAdd_lst, gNeg_int, gIx_tup, gIx_lst, gLen_tup, gLen_lst, gLen_str, gInt_int, gInt_bl, gTuple_lst, gTuple_tup, gList_lst, gList_tup, gSl_tup, gSl_lst, gSl_fl, gSl_str, srcL_tup, srcL_lst, srcL_fl, srcL_str, srcR1_int, typN, startR, List.map_cons, List.map_nil, List.length_cons, List.length_nil, Nat.reduceAdd, Nat.reduceSub, Nat.zero_add, Nat.sub_self, Nat.sub_zero, List.replicate_zero, List.replicate_succ, List.cons_append, List.nil_append, List.append_nil, List.getElem?_cons_zero, List.getElem?_cons_succ, List.set_cons_zero, List.set_cons_succ, List.set_nil, List.getElem?_nil, Option.some.injEq, exists_eq_left', exists_eq_left, exists_eq_right, reduceCtorEq, false_and, and_false, true_and, and_true, exists_false, exists_const, wipeR, Nat.zero_le, String.reduceEq, D.int.injEq, D.str.injEq, D.bl.injEq, atI_0, atI_1, atI_2, atI_3, atI_4, beq_self_eq_true, not_true_eq_false, not_false_eq_true, Int.cast_ofNat_Int, Int.reduceEq, Int.reduceLE, Int.reduceLT, Int.reduceAdd, Int.reduceSub, Int.reduceMul, Int.reduceNeg, if_true, if_false, ite_true, ite_false, Bool.false_eq_true, if_neg, if_pos, decide_eq_true_eq, Bool.not_eq_true', decide_eq_false_iff_not, eq_self_iff_true, decide_true, decide_false, Bool.not_true, Bool.not_false]
      refine draw_ok (by omega) hd4 hz (by omega) fun v4 S4 r0 r1 d4 => ?_
      rw [gIx_sign]
      have hLa : (⟨a.toArray⟩ : Str).cps.toList = a := by simp
      rw [hLa]
      obtain ⟨c, hc, e⟩ := atI_mem (ds := a) r0 (by omega)
      refine ⟨small_line (by omega), c, e, ?_⟩
      have hR : ((⟨b.toArray⟩ : Str)).length = b.length := by show b.toArray.size = _; simp
      simp only [wp_ok, wp_ret, wp_stuck, wp_bad, wp_bnd, wp_if, wp_fif, wps_ok_nx, wps_ok_rt, wps_ok_bk, wps_ok_ct, wps_ok_xc, wps_bad, wps_lft, wps_seq, wps_nil, wps_ret, wps_expr, wps_asg, wps_if, wp_run, wps_for, wps_while, wp_comp, wp_var, wp_C, wp_bin, wp_un, wp_T, wp_Tb, wp_asBl, wp_truthBl, wp_bAnd, wp_bOr, wp_bNot, wp_eIf, wp_eAnd, wp_eOr, wp_eNot, blCase_bl, wp_chain, wp_aNil, wp_aCons, wp_tup, wp_lst, wp_lstM, wp_call, wp_cl1, wp_cl2, wp_cl3, wp_cl4, wp_cl5, wp_meth, wp_isi, wp_oNone, wp_oSome, wp_sl, wp_it, wp_range1, wp_range2, wp_bYes, gEq_str, gNe_str, gEq_int, gNe_int, gEq_bl, gNe_bl, gIs_bl, gIsNot_bl, gAdd_int, gSub_int, gC_int, gI_int, gAdd_str, gAdd_tup, gAdd_lst, gNeg_int, gIx_tup, gIx_lst, gLen_tup, gLen_lst, gLen_str, gInt_int, gInt_bl, gTuple_lst, gTuple_tup, gList_lst, gList_tup, gSl_tup, gSl_lst, gSl_fl, gSl_str, srcL_tup, srcL_lst, srcL_fl, srcL_str, srcR1_int, typN, startR, List.map_cons, List.map_nil, List.length_cons, List.length_nil, Nat.reduceAdd, Nat.reduceSub, Nat.zero_add, Nat.sub_self, Nat.sub_zero, List.replicate_zero, List.replicate_succ, List.cons_append, List.nil_append, List.append_nil, List.getElem?_cons_zero, List.getElem?_cons_succ, List.set_cons_zero, List.set_cons_succ, List.set_nil, List.getElem?_nil, Option.some.injEq, exists_eq_left', exists_eq_left, exists_eq_right, reduceCtorEq, false_and, and_false, true_and, and_true, exists_false, exists_const, wipeR, Nat.zero_le, String.reduceEq, D.int.injEq, D.str.injEq, D.bl.injEq, atI_0, atI_1, atI_2, atI_3, atI_4, beq_self_eq_true, not_true_eq_false, not_false_eq_true, Int.cast_ofNat_Int, Int.reduceEq, Int.reduceLE, Int.reduceLT, Int.reduceAdd, Int.reduceSub, Int.reduceMul, Int.reduceNeg, if_true, if_false, ite_true, ite_false, Bool.false_eq_true, if_neg, if_pos, decide_eq_true_eq, Bool.not_eq_true', decide_eq_false_iff_not, eq_self_iff_true, decide_true, decide_false, Bool.not_true, Bool.not_false]
      refine ⟨small_line (by rw [hR]; show b.length + 1 ≤ _; omega), fun _ => ⟨b ++ [c], some d, ?_, by simp [hb], fun x hx => ?_, d4⟩⟩
      · have : (⟨b.toArray⟩ : Str) ++ (⟨#[c]⟩ : Str) = ⟨(b ++ [c]).toArray⟩ := by
          apply str_ext; rw [app_toList]
        rw [this]
      · rw [List.mem_append, List.mem_singleton] at hx
        rcases hx with hx | rfl
        · exact hba x hx
        · exact hc
    · intro ρ S' hI
      rw [rangeD_len] at hI
      obtain ⟨b, o, rfl, hb, hba, hd4⟩ := hI (Nat.le_refl _)
      simp only [wp_ok, wp_ret, wp_stuck, wp_bad, wp_bnd, wp_if, wp_fif, wps_ok_nx, wps_ok_rt, wps_ok_bk, wps_ok_ct, wps_ok_xc, wps_bad, wps_lft, wps_seq, wps_nil, wps_ret, wps_expr, wps_asg, wps_if, wp_run, wps_for, wps_while, wp_comp, wp_var, wp_C, wp_bin, wp_un, wp_T, wp_Tb, wp_asBl, wp_truthBl, wp_bAnd, wp_bOr, wp_bNot, wp_eIf, wp_eAnd, wp_eOr, wp_eNot, blCase_bl, wp_chain, wp_aNil, wp_aCons, wp_tup, wp_lst, wp_lstM, wp_call, wp_cl1, wp_cl2, wp_cl3, wp_cl4, wp_cl5, wp_meth, wp_isi, wp_oNone, wp_oSome, wp_sl, wp_it, wp_range1, wp_range2, wp_bYes, gEq_str, gNe_str, gEq_int, gNe_int, gEq_bl, gNe_bl, gIs_bl, gIsNot_bl, gAdd_int, gSub_int, gC_int, gI_int, gAdd_str, gAdd_tup, gAdd_lst, gNeg_int, gIx_tup, gIx_lst, gLen_tup, gLen_lst, gLen_str, gInt_int, gInt_bl, gTuple_lst, gTuple_tup, gList_lst, gList_tup, gSl_tup, gSl_lst, gSl_fl, gSl_str, srcL_tup, srcL_lst, srcL_fl, srcL_str, srcR1_int, typN, startR, List.map_cons, List.map_nil, List.length_cons, List.length_nil, Nat.reduceAdd, Nat.reduceSub, Nat.zero_add, Nat.sub_self, Nat.sub_zero, List.replicate_zero, List.replicate_succ, List.cons_append, List.nil_append, List.append_nil, List.getElem?_cons_zero, List.getElem?_cons_succ, List.set_cons_zero, List.set_cons_succ, List.set_nil, List.getElem?_nil, Option.some.injEq, exists_eq_left', exists_eq_left, exists_eq_right, reduceCtorEq, false_and, and_false, true_and, and_true, exists_false, exists_const, wipeR, Nat.zero_le, String.reduceEq, D.int.injEq, D.str.injEq, D.bl.injEq, atI_0, atI_1, atI_2, atI_3, atI_4, beq_self_eq_true, not_true_eq_false, not_false_eq_true, Int.cast_ofNat_Int, Int.reduceEq, Int.reduceLE, Int.reduceLT, Int.reduceAdd, Int.reduceSub, Int.reduceMul, Int.reduceNeg, if_true, if_false, ite_true, ite_false, Bool.false_eq_true, if_neg, if_pos, decide_eq_true_eq, Bool.not_eq_true', decide_eq_false_iff_not, eq_self_iff_true, decide_true, decide_false, Bool.not_true, Bool.not_false]
      exact fin b S' (by omega) hba hd4
  · simp only [hz, wp_ok, wp_ret, wp_stuck, wp_bad, wp_bnd, wp_if, wp_fif, wps_ok_nx, wps_ok_rt, wps_ok_bk, wps_ok_ct, wps_ok_xc, wps_bad, wps_lft, wps_seq, wps_nil, wps_ret, wps_expr, wps_asg, wps_if, wp_run, wps_for, wps_while, wp_comp, wp_var, wp_C, wp_bin, wp_un, wp_T, wp_Tb, wp_asBl, wp_truthBl, wp_bAnd, wp_bOr, wp_bNot, wp_eIf, wp_eAnd, wp_eOr, wp_eNot, blCase_bl, wp_chain, wp_aNil, wp_aCons, wp_tup, wp_lst, wp_lstM, wp_call, wp_cl1, wp_cl2, wp_cl3, wp_cl4, wp_cl5, wp_meth, wp_isi, wp_oNone, wp_oSome, wp_sl, wp_it, wp_range1, wp_range2, wp_bYes, gEq_str, gNe_str, gEq_int, gNe_int, gEq_bl, gNe_bl, gIs_bl, gIsNot_bl, gAdd_int, gSub_int, gC_int, gI_int, gAdd_str, gAdd_tup, gAdd_lst, gNeg_int, gIx_tup, gIx_lst, gLen_tup, gLen_lst, gLen_str, gInt_int, gInt_bl, gTuple_lst, gTuple_tup, gList_lst, gList_tup, gSl_tup, gSl_lst, gSl_fl, gSl_str, srcL_tup, srcL_lst, srcL_fl, srcL_str, srcR1_int, typN, startR, List.map_cons, List.map_nil, List.length_cons, List.length_nil, Nat.reduceAdd, Nat.reduceSub, Nat.zero_add, Nat.sub_self, Nat.sub_zero, List.replicate_zero, List.replicate_succ, List.cons_append, List.nil_append, List.append_nil, List.getElem?_cons_zero, List.getElem?_cons_succ, List.set_cons_zero, List.set_cons_succ, List.set_nil, List.getElem?_nil, Option.some.injEq, exists_eq_left', exists_eq_left, exists_eq_right, reduceCtorEq, false_and, and_false, true_and, and_true, exists_false, exists_const, wipeR, Nat.zero_le, String.reduceEq, D.int.injEq, D.str.injEq, D.bl.injEq, atI_0, atI_1, atI_2, atI_3, atI_4, beq_self_eq_true, not_true_eq_false, not_false_eq_true, Int.cast_ofNat_Int, Int.reduceEq, Int.reduceLE, Int.reduceLT, Int.reduceAdd, Int.reduceSub, Int.reduceMul, Int.reduceNeg, if_true, if_false, ite_true, ite_false, Bool.false_eq_true, if_neg, if_pos, decide_eq_true_eq, Bool.not_eq_true', decide_eq_false_iff_not, eq_self_iff_true, decide_true, decide_false, Bool.not_true, Bool.not_false]
    exact fin [] S1 (by simp) (fun _ h => (List.not_mem_nil h).elim) d1
/-- the words and things at random -/
theorem word_of {deep : Nat} {N : Nat} (hT : ∀ (N : Nat) (S : Sto) (F : D → Sto → Prop) (E : Exc → Sto → Prop), 2 * deep + 8 ≤ N → DK k S0 S → (∀ t S', ThG deep t → DK k S0 S' → F t S') → wp (den fu N i_l_thing [.ref k, .int deep] S) F E)
    (hN : 2 * deep + 9 ≤ N) (h : DK k S0 S) (hF : ∀ t S', WdG deep t → DK k S0 S' → F t S') : wp (den fu N i_l_any_word [.ref k, .int deep] S) F E := by
  obtain ⟨N', rfl⟩ : ∃ N', N = N' + 1 := ⟨N - 1, by omega⟩
  show wp (runDef false 4 (b_l_any_word fu (den fu N')) _ _) _ _
  simp only [b_l_any_word, wp_ok, wp_ret, wp_stuck, wp_bad, wp_bnd, wp_if, wp_fif, wps_ok_nx, wps_ok_rt, wps_ok_bk, wps_ok_ct, wps_ok_xc, wps_bad, wps_lft, wps_seq, wps_nil, wps_ret, wps_expr, wps_asg, wps_if, wp_run, wps_for, wps_while, wp_comp, wp_var, wp_C, wp_bin, wp_un, wp_T, wp_Tb, wp_asBl, wp_truthBl, wp_bAnd, wp_bOr, wp_bNot, wp_eIf, wp_eAnd, wp_eOr, wp_eNot, blCase_bl, wp_chain, wp_aNil, wp_aCons, wp_tup, wp_lst, wp_lstM, wp_call, wp_cl1, wp_cl2, wp_cl3, wp_cl4, wp_cl5, wp_meth, wp_isi, wp_oNone, wp_oSome, wp_sl, wp_it, wp_range1, wp_range2, wp_bYes, gEq_str, gNe_str, gEq_int, gNe_int, gEq_bl, gNe_bl, gIs_bl, gIsNot_bl, gAdd_int, gSub_int, gC_int, gI_int, gAdd_str, gAdd_tup, gAdd_lst, gNeg_int, gIx_tup, gIx_lst, gLen_tup, gLen_lst, gLen_str, gInt_int, gInt_bl, gTuple_lst, gTuple_tup, gList_lst, gList_tup, gSl_tup, gSl_lst, gSl_fl, gSl_str, srcL_tup, srcL_lst, srcL_fl, srcL_str, srcR1_int, typN, startR, List.map_cons, List.map_nil, List.length_cons, List.length_nil, Nat.reduceAdd, Nat.reduceSub, Nat.zero_add, Nat.sub_self, Nat.sub_zero, List.replicate_zero, List.replicate_succ, List.cons_append, List.nil_append, List.append_nil, List.getElem?_cons_zero, List.getElem?_cons_succ, List.set_cons_zero, List.set_cons_succ, List.set_nil, List.getElem?_nil, Option.some.injEq, exists_eq_left', exists_eq_left, exists_eq_right, reduceCtorEq, false_and, and_false, true_and, and_true, exists_false, exists_const, wipeR, Nat.zero_le, String.reduceEq, D.int.injEq, D.str.injEq, D.bl.injEq, atI_0, atI_1, atI_2, atI_3, atI_4, beq_self_eq_true, not_true_eq_false, not_false_eq_true, Int.cast_ofNat_Int, Int.reduceEq, Int.reduceLE, Int.reduceLT, Int.reduceAdd, Int.reduceSub, Int.reduceMul, Int.reduceNeg, if_true, if_false, ite_true, ite_false, Bool.false_eq_true, if_neg, if_pos, decide_eq_true_eq, Bool.not_eq_true', decide_eq_false_iff_not, eq_self_iff_true, decide_true, decide_false, Bool.not_true, Bool.not_false]
  refine ⟨small_line (by decide), draw_ok (by omega) h (by decide) (by decide) fun v S1 hv0 hv1 d1 => ?_⟩
  by_cases h3 : v < 3
  · simp only [h3, wp_ok, wp_ret, wp_stuck, wp_bad, wp_bnd, wp_if, wp_fif, wps_ok_nx, wps_ok_rt, wps_ok_bk, wps_ok_ct, wps_ok_xc, wps_bad, wps_lft, wps_seq, wps_nil, wps_ret, wps_expr, wps_asg, wps_if, wp_run, wps_for, wps_while, wp_comp, wp_var, wp_C, wp_bin, wp_un, wp_T, wp_Tb, wp_asBl, wp_truthBl, wp_bAnd, wp_bOr, wp_bNot, wp_eIf, wp_eAnd, wp_eOr, wp_eNot, blCase_bl, wp_chain, wp_aNil, wp_aCons, wp_tup, wp_lst, wp_lstM, wp_call, wp_cl1, wp_cl2, wp_cl3, wp_cl4, wp_cl5, wp_meth, wp_isi, wp_oNone, wp_oSome, wp_sl, wp_it, wp_range1, wp_range2, wp_bYes, gEq_str, gNe_str, gEq_int, gNe_int, gEq_bl, gNe_bl, gIs_bl, gIsNot_bl, gAdd_int, gSub_int, gC_int, gI_int, gAdd_str, gAdd_tup, gAdd_lst, gNeg_int, gIx_tup, gIx_lst, gLen_tup, gLen_lst, gLen_str, gInt_int, gInt_bl, gTuple_lst, gTuple_tup, gList_lst, gList_tup, gSl_tup, gSl_lst, gSl_fl, gSl_str, srcL_tup, srcL_lst, srcL_fl, srcL_str, srcR1_int, typN, startR, List.map_cons, List.map_nil, List.length_cons, List.length_nil, Nat.reduceAdd, Nat.reduceSub, Nat.zero_add, Nat.sub_self, Nat.sub_zero, List.replicate_zero, List.replicate_succ, List.cons_append, List.nil_append, List.append_nil, List.getElem?_cons_zero, List.getElem?_cons_succ, List.set_cons_zero, List.set_cons_succ, List.set_nil, List.getElem?_nil, Option.some.injEq, exists_eq_left', exists_eq_left, exists_eq_right, reduceCtorEq, false_and, and_false, true_and, and_true, exists_false, exists_const, wipeR, Nat.zero_le, String.reduceEq, D.int.injEq, D.str.injEq, D.bl.injEq, atI_0, atI_1, atI_2, atI_3, atI_4, beq_self_eq_true, not_true_eq_false, not_false_eq_true, Int.cast_ofNat_Int, Int.reduceEq, Int.reduceLE, Int.reduceLT, Int.reduceAdd, Int.reduceSub, Int.reduceMul, Int.reduceNeg, if_true, if_false, ite_true, ite_false, Bool.false_eq_true, if_neg, if_pos, decide_eq_true_eq, Bool.not_eq_true', decide_eq_false_iff_not, eq_self_iff_true, decide_true, decide_false, Bool.not_true, Bool.not_false]
    refine hT _ _ _ _ (by omega) d1 fun t S2 ht d2 => ?_
    have htr : tr (.tup [.str "push", t]) := by
      have := ht.tr
      simp only [DL.tr, D.lo, D.los, Bool.and_true, Bool.true_and] at this ⊢
      exact this
    exact ⟨small_line (by decide), fin_same d2.wf' htr (by rw [d2.len, h.len]) (hF _ _ (.inr ⟨t, rfl, ht⟩) d2)⟩
  · simp only [h3, wp_ok, wp_ret, wp_stuck, wp_bad, wp_bnd, wp_if, wp_fif, wps_ok_nx, wps_ok_rt, wps_ok_bk, wps_ok_ct, wps_ok_xc, wps_bad, wps_lft, wps_seq, wps_nil, wps_ret, wps_expr, wps_asg, wps_if, wp_run, wps_for, wps_while, wp_comp, wp_var, wp_C, wp_bin, wp_un, wp_T, wp_Tb, wp_asBl, wp_truthBl, wp_bAnd, wp_bOr, wp_bNot, wp_eIf, wp_eAnd, wp_eOr, wp_eNot, blCase_bl, wp_chain, wp_aNil, wp_aCons, wp_tup, wp_lst, wp_lstM, wp_call, wp_cl1, wp_cl2, wp_cl3, wp_cl4, wp_cl5, wp_meth, wp_isi, wp_oNone, wp_oSome, wp_sl, wp_it, wp_range1, wp_range2, wp_bYes, gEq_str, gNe_str, gEq_int, gNe_int, gEq_bl, gNe_bl, gIs_bl, gIsNot_bl, gAdd_int, gSub_int, gC_int, gI_int, gAdd_str, gAdd_tup, gAdd_lst, gNeg_int, gIx_tup, gIx_lst, gLen_tup, gLen_lst, gLen_str, gInt_int, gInt_bl, gTuple_lst, gTuple_tup, gList_lst, gList_tup, gSl_tup, gSl_lst, gSl_fl, gSl_str, srcL_tup, srcL_lst, srcL_fl, srcL_str, srcR1_int, typN, startR, List.map_cons, List.map_nil, List.length_cons, List.length_nil, Nat.reduceAdd, Nat.reduceSub, Nat.zero_add, Nat.sub_self, Nat.sub_zero, List.replicate_zero, List.replicate_succ, List.cons_append, List.nil_append, List.append_nil, List.getElem?_cons_zero, List.getElem?_cons_succ, List.set_cons_zero, List.set_cons_succ, List.set_nil, List.getElem?_nil, Option.some.injEq, exists_eq_left', exists_eq_left, exists_eq_right, reduceCtorEq, false_and, and_false, true_and, and_true, exists_false, exists_const, wipeR, Nat.zero_le, String.reduceEq, D.int.injEq, D.str.injEq, D.bl.injEq, atI_0, atI_1, atI_2, atI_3, atI_4, beq_self_eq_true, not_true_eq_false, not_false_eq_true, Int.cast_ofNat_Int, Int.reduceEq, Int.reduceLE, Int.reduceLT, Int.reduceAdd, Int.reduceSub, Int.reduceMul, Int.reduceNeg, if_true, if_false, ite_true, ite_false, Bool.false_eq_true, if_neg, if_pos, decide_eq_true_eq, Bool.not_eq_true', decide_eq_false_iff_not, eq_self_iff_true, decide_true, decide_false, Bool.not_true, Bool.not_false]
    by_cases h5 : v < 5
    · simp only [h5, wp_ok, wp_ret, wp_stuck, wp_bad, wp_bnd, wp_if, wp_fif, wps_ok_nx, wps_ok_rt, wps_ok_bk, wps_ok_ct, wps_ok_xc, wps_bad, wps_lft, wps_seq, wps_nil, wps_ret, wps_expr, wps_asg, wps_if, wp_run, wps_for, wps_while, wp_comp, wp_var, wp_C, wp_bin, wp_un, wp_T, wp_Tb, wp_asBl, wp_truthBl, wp_bAnd, wp_bOr, wp_bNot, wp_eIf, wp_eAnd, wp_eOr, wp_eNot, blCase_bl, wp_chain, wp_aNil, wp_aCons, wp_tup, wp_lst, wp_lstM, wp_call, wp_cl1, wp_cl2, wp_cl3, wp_cl4, wp_cl5, wp_meth, wp_isi, wp_oNone, wp_oSome, wp_sl, wp_it, wp_range1, wp_range2, wp_bYes, gEq_str, gNe_str, gEq_int, gNe_int, gEq_bl, gNe_bl, gIs_bl, gIsNot_bl, gAdd_int, gSub_int, gC_int, gI_int, gAdd_str, gAdd_tup, gAdd_lst, gNeg_int, gIx_tup, gIx_lst, gLen_tup, gLen_lst, gLen_str, gInt_int, gInt_bl, gTuple_lst, gTuple_tup, gList_lst, gList_tup, gSl_tup, gSl_lst, gSl_fl, gSl_str, srcL_tup, srcL_lst, srcL_fl, srcL_str, srcR1_int, typN, startR, List.map_cons, List.map_nil, List.length_cons, List.length_nil, Nat.reduceAdd, Nat.reduceSub, Nat.zero_add, Nat.sub_self, Nat.sub_zero, List.replicate_zero, List.replicate_succ, List.cons_append, List.nil_append, List.append_nil, List.getElem?_cons_zero, List.getElem?_cons_succ, List.set_cons_zero, List.set_cons_succ, List.set_nil, List.getElem?_nil, Option.some.injEq, exists_eq_left', exists_eq_left, exists_eq_right, reduceCtorEq, false_and, and_false, true_and, and_true, exists_false, exists_const, wipeR, Nat.zero_le, String.reduceEq, D.int.injEq, D.str.injEq, D.bl.injEq, atI_0, atI_1, atI_2, atI_3, atI_4, beq_self_eq_true, not_true_eq_false, not_false_eq_true, Int.cast_ofNat_Int, Int.reduceEq, Int.reduceLE, Int.reduceLT, Int.reduceAdd, Int.reduceSub, Int.reduceMul, Int.reduceNeg, if_true, if_false, ite_true, ite_false, Bool.false_eq_true, if_neg, if_pos, decide_eq_true_eq, Bool.not_eq_true', decide_eq_false_iff_not, eq_self_iff_true, decide_true, decide_false, Bool.not_true, Bool.not_false]
      refine ⟨small_line (by decide), draw_ok (by omega) d1 (by decide) (by decide) fun v2 S2 q0 q1 d2 => ?_⟩
      rw [gI_int]
      refine ⟨cDiv_of (by decide) (by decide), ?_⟩
      rw [gIx_lst]
      obtain ⟨x, hx, e⟩ := atI_mem (ds := [D.int 3, D.int 8]) (v := v2 / 7) (by omega) (by show v2 / 7 < 2; omega)
      refine ⟨x, e, ?_⟩
      have : ∃ i : Int, x = .int i ∧ 0 ≤ i ∧ i ≤ 8 := by
        simp only [List.mem_cons, List.not_mem_nil, or_false] at hx
        rcases hx with rfl | rfl
        · exact ⟨_, rfl, by decide, by decide⟩
        · exact ⟨_, rfl, by decide, by decide⟩
      obtain ⟨i, rfl, i0, i1⟩ := this
      refine shuffle_gen (by omega) i0 i1 d2 fun z S3 hz hs d3 => ?_
      exact fin_same d3.wf' rfl (by rw [d3.len, h.len]) (hF _ _ (.inl ⟨z, rfl, hz, .inr hs⟩) d3)
    · simp only [h5, wp_ok, wp_ret, wp_stuck, wp_bad, wp_bnd, wp_if, wp_fif, wps_ok_nx, wps_ok_rt, wps_ok_bk, wps_ok_ct, wps_ok_xc, wps_bad, wps_lft, wps_seq, wps_nil, wps_ret, wps_expr, wps_asg, wps_if, wp_run, wps_for, wps_while, wp_comp, wp_var, wp_C, wp_bin, wp_un, wp_T, wp_Tb, wp_asBl, wp_truthBl, wp_bAnd, wp_bOr, wp_bNot, wp_eIf, wp_eAnd, wp_eOr, wp_eNot, blCase_bl, wp_chain, wp_aNil, wp_aCons, wp_tup, wp_lst, wp_lstM, wp_call, wp_cl1, wp_cl2, wp_cl3, wp_cl4, wp_cl5, wp_meth, wp_isi, wp_oNone, wp_oSome, wp_sl, wp_it, wp_range1, wp_range2, wp_bYes, gEq_str, gNe_str, gEq_int, gNe_int, gEq_bl, gNe_bl, gIs_bl, gIsNot_bl, gAdd_int, gSub_int, gC_int, gI_int, gAdd_str, gAdd_tup, gAdd_lst, gNeg_int, gIx_tup, gIx_lst, gLen_tup, gLen_lst, gLen_str, gInt_int, gInt_bl, gTuple_lst, gTuple_tup, gList_lst, gList_tup, gSl_tup, gSl_lst, gSl_fl, gSl_str, srcL_tup, srcL_lst, srcL_fl, srcL_str, srcR1_int, typN, startR, List.map_cons, List.map_nil, List.length_cons, List.length_nil, Nat.reduceAdd, Nat.reduceSub, Nat.zero_add, Nat.sub_self, Nat.sub_zero, List.replicate_zero, List.replicate_succ, List.cons_append, List.nil_append, List.append_nil, List.getElem?_cons_zero, List.getElem?_cons_succ, List.set_cons_zero, List.set_cons_succ, List.set_nil, List.getElem?_nil, Option.some.injEq, exists_eq_left', exists_eq_left, exists_eq_right, reduceCtorEq, false_and, and_false, true_and, and_true, exists_false, exists_const, wipeR, Nat.zero_le, String.reduceEq, D.int.injEq, D.str.injEq, D.bl.injEq, atI_0, atI_1, atI_2, atI_3, atI_4, beq_self_eq_true, not_true_eq_false, not_false_eq_true, Int.cast_ofNat_Int, Int.reduceEq, Int.reduceLE, Int.reduceLT, Int.reduceAdd, Int.reduceSub, Int.reduceMul, Int.reduceNeg, if_true, if_false, ite_true, ite_false, Bool.false_eq_true, if_neg, if_pos, decide_eq_true_eq, Bool.not_eq_true', decide_eq_false_iff_not, eq_self_iff_true, decide_true, decide_false, Bool.not_true, Bool.not_false]
      refine ⟨small_line (by decide), small_line (by decide), draw_ok (by omega) d1 (by decide) (by decide) fun v2 S2 q0 q1 d2 => ?_⟩
      rw [gIx_lst]
      obtain ⟨x, hx, e⟩ := atI_mem (ds := basics.map D.str) q0 q1
      refine ⟨x, e, ?_⟩
      obtain ⟨z, hz, rfl⟩ := List.mem_map.mp hx
      have hl : ∀ z ∈ basics, z.length ≤ 100 := by decide +kernel
      exact fin_same d2.wf' rfl (by rw [d2.len, h.len]) (hF _ _ (.inl ⟨z, rfl, hl z hz, .inl hz⟩) d2)
theorem WdG.tr {j : Nat} {w : D} (h : WdG j w) : tr w := by
  rcases h with q | ⟨t, rfl, q⟩
  · exact q.tr
  · have := ThG.tr q
    simp only [DL.tr, D.lo, D.los, Bool.and_true, Bool.true_and] at this ⊢
    exact this
theorem thing_gen (hfu : 1000 ≤ fu) : ∀ (deep N : Nat) (S : Sto) (F : D → Sto → Prop) (E : Exc → Sto → Prop), 2 * deep + 8 ≤ N → DK k S0 S → (∀ t S', ThG deep t → DK k S0 S' → F t S') → wp (den fu N i_l_thing [.ref k, .int deep] S) F E := by
  intro deep
  induction deep with
  | zero =>
    intro N S F E hN h hF
    obtain ⟨N', rfl⟩ : ∃ N', N = N' + 1 := ⟨N - 1, by omega⟩
    show wp (runDef false 5 (b_l_thing fu (den fu N')) _ _) _ _
    simp only [b_l_thing, wp_ok, wp_ret, wp_stuck, wp_bad, wp_bnd, wp_if, wp_fif, wps_ok_nx, wps_ok_rt, wps_ok_bk, wps_ok_ct, wps_ok_xc, wps_bad, wps_lft, wps_seq, wps_nil, wps_ret, wps_expr, wps_asg, wps_if, wp_run, wps_for, wps_while, wp_comp, wp_var, wp_C, wp_bin, wp_un, wp_T, wp_Tb, wp_asBl, wp_truthBl, wp_bAnd, wp_bOr, wp_bNot, wp_eIf, wp_eAnd, wp_eOr, wp_eNot, blCase_bl, wp_chain, wp_aNil, wp_aCons, wp_tup, wp_lst, wp_lstM, wp_call, wp_cl1, wp_cl2, wp_cl3, wp_cl4, wp_cl5, wp_meth, wp_isi, wp_oNone, wp_oSome, wp_sl, wp_it, wp_range1, wp_range2, wp_bYes, gEq_str, gNe_str, gEq_int, gNe_int, gEq_bl, gNe_bl, gIs_bl, gIsNot_bl, gAdd_int, gSub_int, gC_int, gI_int, gAdd_str, gAdd_tup, gAdd_lst, gNeg_int, gIx_tup, gIx_lst, gLen_tup, gLen_lst, gLen_str, gInt_int, gInt_bl, gTuple_lst, gTuple_tup, gList_lst, gList_tup, gSl_tup, gSl_lst, gSl_fl, gSl_str, srcL_tup, srcL_lst, srcL_fl, srcL_str, srcR1_int, typN, startR, List.map_cons, List.map_nil, List.length_cons, List.length_nil, Nat.reduceAdd, Nat.reduceSub, Nat.zero_add, Nat.sub_self, Nat.sub_zero, List.replicate_zero, List.replicate_succ, List.cons_append, List.nil_append, List.append_nil, List.getElem?_cons_zero, List.getElem?_cons_succ, List.set_cons_zero, List.set_cons_succ, List.set_nil, List.getElem?_nil, Option.some.injEq, exists_eq_left', exists_eq_left, exists_eq_right, reduceCtorEq, false_and, and_false, true_and, and_true, exists_false, exists_const, wipeR, Nat.zero_le, String.reduceEq, D.int.injEq, D.str.injEq, D.bl.injEq, atI_0, atI_1, atI_2, atI_3, atI_4, beq_self_eq_true, not_true_eq_false, not_false_eq_true, Int.cast_ofNat_Int, Int.reduceEq, Int.reduceLE, Int.reduceLT, Int.reduceAdd, Int.reduceSub, Int.reduceMul, Int.reduceNeg, if_true, if_false, ite_true, ite_false, Bool.false_eq_true, if_neg, if_pos, decide_eq_true_eq, Bool.not_eq_true', decide_eq_false_iff_not, eq_self_iff_true, decide_true, decide_false, Bool.not_true, Bool.not_false]
    refine draw_ok (by omega) h (by decide) (by decide) fun v S1 hv0 hv1 d1 => ?_
    refine number_gen (by omega) d1 fun i S2 i0 i1 d2 => ?_
    exact ⟨small_line (by decide), fin_same d2.wf' rfl (by rw [d2.len, h.len]) (hF _ _ ⟨i, rfl, i0, i1⟩ d2)⟩
  | succ deep ih =>
    intro N S F E hN h hF
    obtain ⟨N', rfl⟩ : ∃ N', N = N' + 1 := ⟨N - 1, by omega⟩
    show wp (runDef false 5 (b_l_thing fu (den fu N')) _ _) _ _
    simp only [b_l_thing, wp_ok, wp_ret, wp_stuck, wp_bad, wp_bnd, wp_if, wp_fif, wps_ok_nx, wps_ok_rt, wps_ok_bk, wps_ok_ct, wps_ok_xc, wps_bad, wps_lft, wps_seq, wps_nil, wps_ret, wps_expr, wps_asg, wps_if, wp_run, wps_for, wps_while, wp_comp, wp_var, wp_C, wp_bin, wp_un, wp_T, wp_Tb, wp_asBl, wp_truthBl, wp_bAnd, wp_bOr, wp_bNot, wp_eIf, wp_eAnd, wp_eOr, wp_eNot, blCase_bl, wp_chain, wp_aNil, wp_aCons, wp_tup, wp_lst, wp_lstM, wp_call, wp_cl1, wp_cl2, wp_cl3, wp_cl4, wp_cl5, wp_meth, wp_isi, wp_oNone, wp_oSome, wp_sl, wp_it, wp_range1, wp_range2, wp_bYes, gEq_str, gNe_str, gEq_int, gNe_int, gEq_bl, gNe_bl, gIs_bl, gIsNot_bl, gAdd_int, gSub_int, gC_int, gI_int, gAdd_str, gAdd_tup, gAdd_lst, gNeg_int, gIx_tup, gIx_lst, gLen_tup, gLen_lst, gLen_str, gInt_int, gInt_bl, gTuple_lst, gTuple_tup, gList_lst, gList_tup, gSl_tup, gSl_lst, gSl_fl, gSl_str, srcL_tup, srcL_lst, srcL_fl, srcL_str, srcR1_int, typN, startR, List.map_cons, List.map_nil, List.length_cons, List.length_nil, Nat.reduceAdd, Nat.reduceSub, Nat.zero_add, Nat.sub_self, Nat.sub_zero, List.replicate_zero, List.replicate_succ, List.cons_append, List.nil_append, List.append_nil, List.getElem?_cons_zero, List.getElem?_cons_succ, List.set_cons_zero, List.set_cons_succ, List.set_nil, List.getElem?_nil, Option.some.injEq, exists_eq_left', exists_eq_left, exists_eq_right, reduceCtorEq, false_and, and_false, true_and, and_true, exists_false, exists_const, wipeR, Nat.zero_le, String.reduceEq, D.int.injEq, D.str.injEq, D.bl.injEq, atI_0, atI_1, atI_2, atI_3, atI_4, beq_self_eq_true, not_true_eq_false, not_false_eq_true, Int.cast_ofNat_Int, Int.reduceEq, Int.reduceLE, Int.reduceLT, Int.reduceAdd, Int.reduceSub, Int.reduceMul, Int.reduceNeg, if_true, if_false, ite_true, ite_false, Bool.false_eq_true, if_neg, if_pos, decide_eq_true_eq, Bool.not_eq_true', decide_eq_false_iff_not, eq_self_iff_true, decide_true, decide_false, Bool.not_true, Bool.not_false]
    refine draw_ok (by omega) h (by decide) (by decide) fun v S1 hv0 hv1 d1 => ?_
    have hne : ¬ ((deep + 1 : Nat) : Int) = 0 := by omega
    have hsub : ((deep + 1 : Nat) : Int) - 1 = (deep : Int) := by omega
    simp only [hne, wp_ok, wp_ret, wp_stuck, wp_bad, wp_bnd, wp_if, wp_fif, wps_ok_nx, wps_ok_rt, wps_ok_bk, wps_ok_ct, wps_ok_xc, wps_bad, wps_lft, wps_seq, wps_nil, wps_ret, wps_expr, wps_asg, wps_if, wp_run, wps_for, wps_while, wp_comp, wp_var, wp_C, wp_bin, wp_un, wp_T, wp_Tb, wp_asBl, wp_truthBl, wp_bAnd, wp_bOr, wp_bNot, wp_eIf, wp_eAnd, wp_eOr, wp_eNot, blCase_bl, wp_chain, wp_aNil, wp_aCons, wp_tup, wp_lst, wp_lstM, wp_call, wp_cl1, wp_cl2, wp_cl3, wp_cl4, wp_cl5, wp_meth, wp_isi, wp_oNone, wp_oSome, wp_sl, wp_it, wp_range1, wp_range2, wp_bYes, gEq_str, gNe_str, gEq_int, gNe_int, gEq_bl, gNe_bl, gIs_bl, gIsNot_bl, gAdd_int, gSub_int, gC_int, gI_int, gAdd_str, gAdd_tup, gAdd_lst, gNeg_int, gIx_tup, gIx_lst, gLen_tup, gLen_lst, gLen_str, gInt_int, gInt_bl, gTuple_lst, gTuple_tup, gList_lst, gList_tup, gSl_tup, gSl_lst, gSl_fl, gSl_str, srcL_tup, srcL_lst, srcL_fl, srcL_str, srcR1_int, typN, startR, List.map_cons, List.map_nil, List.length_cons, List.length_nil, Nat.reduceAdd, Nat.reduceSub, Nat.zero_add, Nat.sub_self, Nat.sub_zero, List.replicate_zero, List.replicate_succ, List.cons_append, List.nil_append, List.append_nil, List.getElem?_cons_zero, List.getElem?_cons_succ, List.set_cons_zero, List.set_cons_succ, List.set_nil, List.getElem?_nil, Option.some.injEq, exists_eq_left', exists_eq_left, exists_eq_right, reduceCtorEq, false_and, and_false, true_and, and_true, exists_false, exists_const, wipeR, Nat.zero_le, String.reduceEq, D.int.injEq, D.str.injEq, D.bl.injEq, atI_0, atI_1, atI_2, atI_3, atI_4, beq_self_eq_true, not_true_eq_false, not_false_eq_true, Int.cast_ofNat_Int, Int.reduceEq, Int.reduceLE, Int.reduceLT, Int.reduceAdd, Int.reduceSub, Int.reduceMul, Int.reduceNeg, if_true, if_false, ite_true, ite_false, Bool.false_eq_true, if_neg, if_pos, decide_eq_true_eq, Bool.not_eq_true', decide_eq_false_iff_not, eq_self_iff_true, decide_true, decide_false, Bool.not_true, Bool.not_false]
    by_cases h3 : v < 3
    · simp only [h3, wp_ok, wp_ret, wp_stuck, wp_bad, wp_bnd, wp_if, wp_fif, wps_ok_nx, wps_ok_rt, wps_ok_bk, wps_ok_ct, wps_ok_xc, wps_bad, wps_lft, wps_seq, wps_nil, wps_ret, wps_expr, wps_asg, wps_if, wp_run, wps_for, wps_while, wp_comp, wp_var, wp_C, wp_bin, wp_un, wp_T, wp_Tb, wp_asBl, wp_truthBl, wp_bAnd, wp_bOr, wp_bNot, wp_eIf, wp_eAnd, wp_eOr, wp_eNot, blCase_bl, wp_chain, wp_aNil, wp_aCons, wp_tup, wp_lst, wp_lstM, wp_call, wp_cl1, wp_cl2, wp_cl3, wp_cl4, wp_cl5, wp_meth, wp_isi, wp_oNone, wp_oSome, wp_sl, wp_it, wp_range1, wp_range2, wp_bYes, gEq_str, gNe_str, gEq_int, gNe_int, gEq_bl, gNe_bl, gIs_bl, gIsNot_bl, gAdd_int, gSub_int, gC_int, gI_int, gAdd_str, gAdd_tup, gAdd_lst, gNeg_int, gIx_tup, gIx_lst, gLen_tup, gLen_lst, gLen_str, gInt_int, gInt_bl, gTuple_lst, gTuple_tup, gList_lst, gList_tup, gSl_tup, gSl_lst, gSl_fl, gSl_str, srcL_tup, srcL_lst, srcL_fl, srcL_str, srcR1_int, typN, startR, List.map_cons, List.map_nil, List.length_cons, List.length_nil, Nat.reduceAdd, Nat.reduceSub, Nat.zero_add, Nat.sub_self, Nat.sub_zero, List.replicate_zero, List.replicate_succ, List.cons_append, List.nil_append, List.append_nil, List.getElem?_cons_zero, List.getElem?_cons_succ, List.set_cons_zero, List.set_cons_succ, List.set_nil, List.getElem?_nil, Option.some.injEq, exists_eq_left', exists_eq_left, exists_eq_right, reduceCtorEq, false_and, and_false, true_and, and_true, exists_false, exists_const, wipeR, Nat.zero_le, String.reduceEq, D.int.injEq, D.str.injEq, D.bl.injEq, atI_0, atI_1, atI_2, atI_3, atI_4, beq_self_eq_true, not_true_eq_false, not_false_eq_true, Int.cast_ofNat_Int, Int.reduceEq, Int.reduceLE, Int.reduceLT, Int.reduceAdd, Int.reduceSub, Int.reduceMul, Int.reduceNeg, if_true, if_false, ite_true, ite_false, Bool.false_eq_true, if_neg, if_pos, decide_eq_true_eq, Bool.not_eq_true', decide_eq_false_iff_not, eq_self_iff_true, decide_true, decide_false, Bool.not_true, Bool.not_false]
      refine number_gen (by omega) d1 fun i S2 i0 i1 d2 => ?_
      exact ⟨small_line (by decide), fin_same d2.wf' rfl (by rw [d2.len, h.len]) (hF _ _ (.inl ⟨i, rfl, i0, i1⟩) d2)⟩
    · simp only [h3, wp_ok, wp_ret, wp_stuck, wp_bad, wp_bnd, wp_if, wp_fif, wps_ok_nx, wps_ok_rt, wps_ok_bk, wps_ok_ct, wps_ok_xc, wps_bad, wps_lft, wps_seq, wps_nil, wps_ret, wps_expr, wps_asg, wps_if, wp_run, wps_for, wps_while, wp_comp, wp_var, wp_C, wp_bin, wp_un, wp_T, wp_Tb, wp_asBl, wp_truthBl, wp_bAnd, wp_bOr, wp_bNot, wp_eIf, wp_eAnd, wp_eOr, wp_eNot, blCase_bl, wp_chain, wp_aNil, wp_aCons, wp_tup, wp_lst, wp_lstM, wp_call, wp_cl1, wp_cl2, wp_cl3, wp_cl4, wp_cl5, wp_meth, wp_isi, wp_oNone, wp_oSome, wp_sl, wp_it, wp_range1, wp_range2, wp_bYes, gEq_str, gNe_str, gEq_int, gNe_int, gEq_bl, gNe_bl, gIs_bl, gIsNot_bl, gAdd_int, gSub_int, gC_int, gI_int, gAdd_str, gAdd_tup, gAdd_lst, gNeg_int, gIx_tup, gIx_lst, gLen_tup, gLen_lst, gLen_str, gInt_int, gInt_bl, gTuple_lst, gTuple_tup, gList_lst, gList_tup, gSl_tup, gSl_lst, gSl_fl, gSl_str, srcL_tup, srcL_lst, srcL_fl, srcL_str, srcR1_int, typN, startR, List.map_cons, List.map_nil, List.length_cons, List.length_nil, Nat.reduceAdd, Nat.reduceSub, Nat.zero_add, Nat.sub_self, Nat.sub_zero, List.replicate_zero, List.replicate_succ, List.cons_append, List.nil_append, List.append_nil, List.getElem?_cons_zero, List.getElem?_cons_succ, List.set_cons_zero, List.set_cons_succ, List.set_nil, List.getElem?_nil, Option.some.injEq, exists_eq_left', exists_eq_left, exists_eq_right, reduceCtorEq, false_and, and_false, true_and, and_true, exists_false, exists_const, wipeR, Nat.zero_le, String.reduceEq, D.int.injEq, D.str.injEq, D.bl.injEq, atI_0, atI_1, atI_2, atI_3, atI_4, beq_self_eq_true, not_true_eq_false, not_false_eq_true, Int.cast_ofNat_Int, Int.reduceEq, Int.reduceLE, Int.reduceLT, Int.reduceAdd, Int.reduceSub, Int.reduceMul, Int.reduceNeg, if_true, if_false, ite_true, ite_false, Bool.false_eq_true, if_neg, if_pos, decide_eq_true_eq, Bool.not_eq_true', decide_eq_false_iff_not, eq_self_iff_true, decide_true, decide_false, Bool.not_true, Bool.not_false]
      refine draw_ok (by omega) d1 (by decide) (by decide) fun v2 S2 a0 a1 d2 => ?_
      refine draw_ok (by omega) d2 (by decide) (by decide) fun v3 S3 b0 b1 d3 => ?_
      refine draw_ok (by omega) d3 (by decide) (by decide) fun v4 S4 c0 c1 d4 => ?_
      refine ⟨small_line (by decide), draw_ok (by omega) d4 (by decide) (by decide) fun v5 S5 e0 e1 d5 => ?_⟩
      obtain ⟨x, hx, e⟩ := atI_mem (ds := [D.int v2, D.int v3, D.int v4]) (v := v5) e0 e1
      rw [gIx_lst]
      refine ⟨x, e, ?_⟩
      have : ∃ i : Int, x = .int i ∧ 0 ≤ i ∧ i ≤ 8 := by
        simp only [List.mem_cons, List.not_mem_nil, or_false] at hx
        rcases hx with rfl | rfl | rfl
        · exact ⟨_, rfl, by omega, by omega⟩
        · exact ⟨_, rfl, by omega, by omega⟩
        · exact ⟨_, rfl, by omega, by omega⟩
      obtain ⟨i, rfl, i0, i1⟩ := this
      simp only [hsub, wp_ok, wp_ret, wp_stuck, wp_bad, wp_bnd, wp_if, wp_fif, wps_ok_nx, wps_ok_rt, wps_ok_bk, wps_ok_ct, wps_ok_xc, wps_bad, wps_lft, wps_seq, wps_nil, wps_ret, wps_expr, wps_asg, wps_if, wp_run, wps_for, wps_while, wp_comp, wp_var, wp_C, wp_bin, wp_un, wp_T, wp_Tb, wp_asBl, wp_truthBl, wp_bAnd, wp_bOr, wp_bNot, wp_eIf, wp_eAnd, wp_eOr, wp_eNot, blCase_bl, wp_chain, wp_aNil, wp_aCons, wp_tup, wp_lst, wp_lstM, wp_call, wp_cl1, wp_cl2, wp_cl3, wp_cl4, wp_cl5, wp_meth, wp_isi, wp_oNone, wp_oSome, wp_sl, wp_it, wp_range1, wp_range2, wp_bYes, gEq_str, gNe_str, gEq_int, gNe_int, gEq_bl, gNe_bl, gIs_bl, gIsNot_bl, gAdd_int, gSub_int, gC_int, gI_int, gAdd_str, gAdd_tup, gAdd_lst, gNeg_int, gIx_tup, gIx_lst, gLen_tup, gLen_lst, gLen_str, gInt_int, gInt_bl, gTuple_lst, gTuple_tup, gList_lst, gList_tup, gSl_tup, gSl_lst, gSl_fl, gSl_str, srcL_tup, srcL_lst, srcL_fl, srcL_str, srcR1_int, typN, startR, List.map_cons, List.map_nil, List.length_cons, List.length_nil, Nat.reduceAdd, Nat.reduceSub, Nat.zero_add, Nat.sub_self, Nat.sub_zero, List.replicate_zero, List.replicate_succ, List.cons_append, List.nil_append, List.append_nil, List.getElem?_cons_zero, List.getElem?_cons_succ, List.set_cons_zero, List.set_cons_succ, List.set_nil, List.getElem?_nil, Option.some.injEq, exists_eq_left', exists_eq_left, exists_eq_right, reduceCtorEq, false_and, and_false, true_and, and_true, exists_false, exists_const, wipeR, Nat.zero_le, String.reduceEq, D.int.injEq, D.str.injEq, D.bl.injEq, atI_0, atI_1, atI_2, atI_3, atI_4, beq_self_eq_true, not_true_eq_false, not_false_eq_true, Int.cast_ofNat_Int, Int.reduceEq, Int.reduceLE, Int.reduceLT, Int.reduceAdd, Int.reduceSub, Int.reduceMul, Int.reduceNeg, if_true, if_false, ite_true, ite_false, Bool.false_eq_true, if_neg, if_pos, decide_eq_true_eq, Bool.not_eq_true', decide_eq_false_iff_not, eq_self_iff_true, decide_true, decide_false, Bool.not_true, Bool.not_false]
      by_cases h5 : v < 5
      · simp only [h5, wp_ok, wp_ret, wp_stuck, wp_bad, wp_bnd, wp_if, wp_fif, wps_ok_nx, wps_ok_rt, wps_ok_bk, wps_ok_ct, wps_ok_xc, wps_bad, wps_lft, wps_seq, wps_nil, wps_ret, wps_expr, wps_asg, wps_if, wp_run, wps_for, wps_while, wp_comp, wp_var, wp_C, wp_bin, wp_un, wp_T, wp_Tb, wp_asBl, wp_truthBl, wp_bAnd, wp_bOr, wp_bNot, wp_eIf, wp_eAnd, wp_eOr, wp_eNot, blCase_bl, wp_chain, wp_aNil, wp_aCons, wp_tup, wp_lst, wp_lstM, wp_call, wp_cl1, wp_cl2, wp_cl3, wp_cl4, wp_cl5, wp_meth, wp_isi, wp_oNone, wp_oSome, wp_sl, wp_it, wp_range1, wp_range2, wp_bYes, gEq_str, gNe_str, gEq_int, gNe_int, gEq_bl, gNe_bl, gIs_bl, gIsNot_bl, gAdd_int, gSub_int, gC_int, gI_int, gAdd_str, gAdd_tup, gAdd_lst, gNeg_int, gIx_tup, gIx_lst, gLen_tup, gLen_lst, gLen_str, gInt_int, gInt_bl, gTuple_lst, gTuple_tup, gList_lst, gList_tup, gSl_tup, gSl_lst, gSl_fl, gSl_str, srcL_tup, srcL_lst, srcL_fl, srcL_str, srcR1_int, typN, startR, List.map_cons, List.map_nil, List.length_cons, List.length_nil, Nat.reduceAdd, Nat.reduceSub, Nat.zero_add, Nat.sub_self, Nat.sub_zero, List.replicate_zero, List.replicate_succ, List.cons_append, List.nil_append, List.append_nil, List.getElem?_cons_zero, List.getElem?_cons_succ, List.set_cons_zero, List.set_cons_succ, List.set_nil, List.getElem?_nil, Option.some.injEq, exists_eq_left', exists_eq_left, exists_eq_right, reduceCtorEq, false_and, and_false, true_and, and_true, exists_false, exists_const, wipeR, Nat.zero_le, String.reduceEq, D.int.injEq, D.str.injEq, D.bl.injEq, atI_0, atI_1, atI_2, atI_3, atI_4, beq_self_eq_true, not_true_eq_false, not_false_eq_true, Int.cast_ofNat_Int, Int.reduceEq, Int.reduceLE, Int.reduceLT, Int.reduceAdd, Int.reduceSub, Int.reduceMul, Int.reduceNeg, if_true, if_false, ite_true, ite_false, Bool.false_eq_true, if_neg, if_pos, decide_eq_true_eq, Bool.not_eq_true', decide_eq_false_iff_not, eq_self_iff_true, decide_true, decide_false, Bool.not_true, Bool.not_false]
        refine ⟨by simp [bnd62]; omega, by rw [rangeD_len]; exact small_line (by omega), ?_⟩
        refine comp_gen (WdG deep) d5 (fun d hd S' dd => ?_) (fun ys S6 hl hy d6 => ?_)
        · simp only [hsub, wp_ok, wp_ret, wp_stuck, wp_bad, wp_bnd, wp_if, wp_fif, wps_ok_nx, wps_ok_rt, wps_ok_bk, wps_ok_ct, wps_ok_xc, wps_bad, wps_lft, wps_seq, wps_nil, wps_ret, wps_expr, wps_asg, wps_if, wp_run, wps_for, wps_while, wp_comp, wp_var, wp_C, wp_bin, wp_un, wp_T, wp_Tb, wp_asBl, wp_truthBl, wp_bAnd, wp_bOr, wp_bNot, wp_eIf, wp_eAnd, wp_eOr, wp_eNot, blCase_bl, wp_chain, wp_aNil, wp_aCons, wp_tup, wp_lst, wp_lstM, wp_call, wp_cl1, wp_cl2, wp_cl3, wp_cl4, wp_cl5, wp_meth, wp_isi, wp_oNone, wp_oSome, wp_sl, wp_it, wp_range1, wp_range2, wp_bYes, gEq_str, gNe_str, gEq_int, gNe_int, gEq_bl, gNe_bl, gIs_bl, gIsNot_bl, gAdd_int, gSub_int, gC_int, gI_int, gAdd_str, gAdd_tup, gAdd_lst, gNeg_int, gIx_tup, gIx_lst, gLen_tup, gLen_lst, gLen_str, gInt_int, gInt_bl, gTuple_lst, gTuple_tup, gList_lst, gList_tup, gSl_tup, gSl_lst, gSl_fl, gSl_str, srcL_tup, srcL_lst, srcL_fl, srcL_str, srcR1_int, typN, startR, List.map_cons, List.map_nil, List.length_cons, List.length_nil, Nat.reduceAdd, Nat.reduceSub, Nat.zero_add, Nat.sub_self, Nat.sub_zero, List.replicate_zero, List.replicate_succ, List.cons_append, List.nil_append, List.append_nil, List.getElem?_cons_zero, List.getElem?_cons_succ, List.set_cons_zero, List.set_cons_succ, List.set_nil, List.getElem?_nil, Option.some.injEq, exists_eq_left', exists_eq_left, exists_eq_right, reduceCtorEq, false_and, and_false, true_and, and_true, exists_false, exists_const, wipeR, Nat.zero_le, String.reduceEq, D.int.injEq, D.str.injEq, D.bl.injEq, atI_0, atI_1, atI_2, atI_3, atI_4, beq_self_eq_true, not_true_eq_false, not_false_eq_true, Int.cast_ofNat_Int, Int.reduceEq, Int.reduceLE, Int.reduceLT, Int.reduceAdd, Int.reduceSub, Int.reduceMul, Int.reduceNeg, if_true, if_false, ite_true, ite_false, Bool.false_eq_true, if_neg, if_pos, decide_eq_true_eq, Bool.not_eq_true', decide_eq_false_iff_not, eq_self_iff_true, decide_true, decide_false, Bool.not_true, Bool.not_false]
          exact word_of ih (by omega) dd fun t S'' ht d7 => ⟨ht, d7⟩
        · rw [rangeD_len] at hl
          refine cut_ok (j := deep) (by omega) (by omega) (by omega) hy d6.wf' fun vs hvl hv => ?_
          have htr : tr (.tup [.str "row", .tup vs]) := by
            have : D.los 0 vs = true := los_iff vs |>.mpr fun w hw => (hv w hw).tr
            simp only [DL.tr, D.lo, D.los, Bool.and_true, Bool.true_and]
            exact this
          exact ⟨small_line (by decide), fin_same d6.wf' htr (by rw [d6.len, h.len]) (hF _ _ (.inr (.inl ⟨vs, rfl, hvl, hv⟩)) d6)⟩
      · simp only [h5, wp_ok, wp_ret, wp_stuck, wp_bad, wp_bnd, wp_if, wp_fif, wps_ok_nx, wps_ok_rt, wps_ok_bk, wps_ok_ct, wps_ok_xc, wps_bad, wps_lft, wps_seq, wps_nil, wps_ret, wps_expr, wps_asg, wps_if, wp_run, wps_for, wps_while, wp_comp, wp_var, wp_C, wp_bin, wp_un, wp_T, wp_Tb, wp_asBl, wp_truthBl, wp_bAnd, wp_bOr, wp_bNot, wp_eIf, wp_eAnd, wp_eOr, wp_eNot, blCase_bl, wp_chain, wp_aNil, wp_aCons, wp_tup, wp_lst, wp_lstM, wp_call, wp_cl1, wp_cl2, wp_cl3, wp_cl4, wp_cl5, wp_meth, wp_isi, wp_oNone, wp_oSome, wp_sl, wp_it, wp_range1, wp_range2, wp_bYes, gEq_str, gNe_str, gEq_int, gNe_int, gEq_bl, gNe_bl, gIs_bl, gIsNot_bl, gAdd_int, gSub_int, gC_int, gI_int, gAdd_str, gAdd_tup, gAdd_lst, gNeg_int, gIx_tup, gIx_lst, gLen_tup, gLen_lst, gLen_str, gInt_int, gInt_bl, gTuple_lst, gTuple_tup, gList_lst, gList_tup, gSl_tup, gSl_lst, gSl_fl, gSl_str, srcL_tup, srcL_lst, srcL_fl, srcL_str, srcR1_int, typN, startR, List.map_cons, List.map_nil, List.length_cons, List.length_nil, Nat.reduceAdd, Nat.reduceSub, Nat.zero_add, Nat.sub_self, Nat.sub_zero, List.replicate_zero, List.replicate_succ, List.cons_append, List.nil_append, List.append_nil, List.getElem?_cons_zero, List.getElem?_cons_succ, List.set_cons_zero, List.set_cons_succ, List.set_nil, List.getElem?_nil, Option.some.injEq, exists_eq_left', exists_eq_left, exists_eq_right, reduceCtorEq, false_and, and_false, true_and, and_true, exists_false, exists_const, wipeR, Nat.zero_le, String.reduceEq, D.int.injEq, D.str.injEq, D.bl.injEq, atI_0, atI_1, atI_2, atI_3, atI_4, beq_self_eq_true, not_true_eq_false, not_false_eq_true, Int.cast_ofNat_Int, Int.reduceEq, Int.reduceLE, Int.reduceLT, Int.reduceAdd, Int.reduceSub, Int.reduceMul, Int.reduceNeg, if_true, if_false, ite_true, ite_false, Bool.false_eq_true, if_neg, if_pos, decide_eq_true_eq, Bool.not_eq_true', decide_eq_false_iff_not, eq_self_iff_true, decide_true, decide_false, Bool.not_true, Bool.not_false]
        refine ⟨by simp [bnd62]; omega, by rw [rangeD_len]; exact small_line (by omega), ?_⟩
        refine comp_gen (ThG deep) d5 (fun d hd S' dd => ?_) (fun ys S6 hl hy d6 => ?_)
        · simp only [hsub, wp_ok, wp_ret, wp_stuck, wp_bad, wp_bnd, wp_if, wp_fif, wps_ok_nx, wps_ok_rt, wps_ok_bk, wps_ok_ct, wps_ok_xc, wps_bad, wps_lft, wps_seq, wps_nil, wps_ret, wps_expr, wps_asg, wps_if, wp_run, wps_for, wps_while, wp_comp, wp_var, wp_C, wp_bin, wp_un, wp_T, wp_Tb, wp_asBl, wp_truthBl, wp_bAnd, wp_bOr, wp_bNot, wp_eIf, wp_eAnd, wp_eOr, wp_eNot, blCase_bl, wp_chain, wp_aNil, wp_aCons, wp_tup, wp_lst, wp_lstM, wp_call, wp_cl1, wp_cl2, wp_cl3, wp_cl4, wp_cl5, wp_meth, wp_isi, wp_oNone, wp_oSome, wp_sl, wp_it, wp_range1, wp_range2, wp_bYes, gEq_str, gNe_str, gEq_int, gNe_int, gEq_bl, gNe_bl, gIs_bl, gIsNot_bl, gAdd_int, gSub_int, gC_int, gI_int, gAdd_str, gAdd_tup, gAdd_lst, gNeg_int, gIx_tup, gIx_lst, gLen_tup, gLen_lst, gLen_str, gInt_int, gInt_bl, gTuple_lst, gTuple_tup, gList_lst, gList_tup, gSl_tup, gSl_lst, gSl_fl, gSl_str, srcL_tup, srcL_lst, srcL_fl, srcL_str, srcR1_int, typN, startR, List.map_cons, List.map_nil, List.length_cons, List.length_nil, Nat.reduceAdd, Nat.reduceSub, Nat.zero_add, Nat.sub_self, Nat.sub_zero, List.replicate_zero, List.replicate_succ, List.cons_append, List.nil_append, List.append_nil, List.getElem?_cons_zero, List.getElem?_cons_succ, List.set_cons_zero, List.set_cons_succ, List.set_nil, List.getElem?_nil, Option.some.injEq, exists_eq_left', exists_eq_left, exists_eq_right, reduceCtorEq, false_and, and_false, true_and, and_true, exists_false, exists_const, wipeR, Nat.zero_le, String.reduceEq, D.int.injEq, D.str.injEq, D.bl.injEq, atI_0, atI_1, atI_2, atI_3, atI_4, beq_self_eq_true, not_true_eq_false, not_false_eq_true, Int.cast_ofNat_Int, Int.reduceEq, Int.reduceLE, Int.reduceLT, Int.reduceAdd, Int.reduceSub, Int.reduceMul, Int.reduceNeg, if_true, if_false, ite_true, ite_false, Bool.false_eq_true, if_neg, if_pos, decide_eq_true_eq, Bool.not_eq_true', decide_eq_false_iff_not, eq_self_iff_true, decide_true, decide_false, Bool.not_true, Bool.not_false]
          exact ih _ _ _ _ (by omega) dd fun t S'' ht d7 => ⟨ht, d7⟩
        · rw [rangeD_len] at hl
          have htr : tr (.tup [.str "list", .tup ys]) := by
            have : D.los 0 ys = true := los_iff ys |>.mpr fun w hw => (hy w hw).tr
            simp only [DL.tr, D.lo, D.los, Bool.and_true, Bool.true_and]
            exact this
          exact ⟨small_line (by decide), fin_same d6.wf' htr (by rw [d6.len, h.len]) (hF _ _ (.inr (.inr ⟨ys, rfl, by omega, hy⟩)) d6)⟩
end K64

namespace K64
open PySem L2 DL
variable {fu n k : Nat} {S S0 : Sto} {F : D → Sto → Prop} {E : Exc → Sto → Prop}
/-! codes at random -/
theorem gTuple_seq {x : D} {ds : List D} (h : iLst S x = some ds) : wp (gTuple [x] S) F E ↔ F (.tup ds) S := by
  unfold gTuple
  simp only [h]
  exact Iff.rfl
theorem atI_last {ds : List D} {x : D} : atI (ds ++ [x]) (-1) = some x := by
  have e : ixN (ds ++ [x]).length (-1) = some ds.length := by
    unfold ixN
    rw [if_neg (by decide), if_pos (by simp; omega)]
    congr 1; simp; omega
  unfold atI; rw [e]; simp
theorem ThG.mono : ∀ {j : Nat} {d : D}, ThG j d → ThG (j + 1) d
  | 0, d, h => .inl h
  | j + 1, d, h => by
    rcases h with h | ⟨ws, e, hl, h⟩ | ⟨ts, e, hl, h⟩
    · exact .inl h
    · refine .inr (.inl ⟨ws, e, hl, fun w hw => ?_⟩)
      rcases h w hw with q | ⟨t, e, q⟩
      · exact .inl q
      · exact .inr ⟨t, e, ThG.mono q⟩
    · exact .inr (.inr ⟨ts, e, hl, fun t ht => ThG.mono (h t ht)⟩)
theorem Reg.tr {m : Nat} {d : D} (h : Reg m d) : tr d := by obtain ⟨i, rfl, _⟩ := h; rfl
theorem trs {ds : List D} (h : ∀ d ∈ ds, tr d) : D.los 0 ds = true := los_iff ds |>.mpr h
theorem tr_tup {ds : List D} (h : ∀ d ∈ ds, tr d) : tr (.tup ds) := trs h
theorem OpG.tr {CG : Nat → Nat → D → Prop} (hC : ∀ t w c, CG t w c → DL.tr c) {m made : Nat} {op : D} (h : OpG CG m made op) : DL.tr op := by
  rcases h with ⟨_, t, rfl, h⟩ | ⟨_, a, rfl, h⟩ | ⟨_, w, a, b, rfl, _, h1, h2⟩ | ⟨one, args, side, other, rfl, h1, h2, _, _, h3, h4⟩
  all_goals refine tr_tup fun d hd => ?_
  all_goals simp only [List.mem_cons, List.not_mem_nil, or_false] at hd
  · rcases hd with rfl | rfl
    · rfl
    · exact h.tr
  · rcases hd with rfl | rfl
    · rfl
    · exact h.tr
  · rcases hd with rfl | rfl | rfl
    · rfl
    · exact h1.tr
    · exact h2.tr
  · rcases hd with rfl | rfl | rfl | rfl | rfl
    · rfl
    · exact h1.tr
    · exact tr_tup fun d hd => (h2 d hd).tr
    · exact hC _ _ _ h3
    · exact hC _ _ _ h4
theorem OpsG.all {CG : Nat → Nat → D → Prop} (hC : ∀ t w c, CG t w c → DL.tr c) : ∀ {ops : List D} {m e : Nat}, OpsG CG m ops e → ∀ d ∈ ops, DL.tr d
  | [], _, _, _, d, hd => (List.not_mem_nil hd).elim
  | op :: r, _, _, ⟨made, h1, h2⟩, d, hd => by
    rcases List.mem_cons.mp hd with rfl | hd
    · exact h1.tr hC
    · exact OpsG.all hC h2 d hd
theorem CodeG.tr : ∀ (j t w : Nat) (c : D), CodeG j t w c → DL.tr c
  | 0, _, _, _, h => h.elim
  | j + 1, t, w, c, ⟨ops, outs, e, hc, h1, h2, h3, h4, h5, h6, h7⟩ => by
    subst hc
    refine tr_tup fun d hd => ?_
    simp only [List.mem_cons, List.not_mem_nil, or_false] at hd
    rcases hd with rfl | rfl | rfl
    · rfl
    · exact tr_tup (h3.all (CodeG.tr j))
    · exact tr_tup fun d hd => (h6 d hd).tr
theorem lmade_ok {k many made : Nat} {op : D} (hS : WF S) (h : OpG (CodeG k) many made op) (hF : F (.int made) S) : wp (den fu (n + 1) i_l_made [op] S) F E := by
  show wp (runDef false 1 (b_l_made fu (den fu n)) _ _) _ _
  rcases h with ⟨rfl, t, rfl, _⟩ | ⟨rfl, a, rfl, _⟩ | ⟨rfl, w, a, b, rfl, hw, _⟩ | ⟨one, args, side, other, rfl, _, _, _, _, h1, h2⟩
  · simp only [b_l_made, fin_int hS, ofString_inj, wp_ok, wp_ret, wp_stuck, wp_bad, wp_bnd, wp_if, wp_fif, wps_ok_nx, wps_ok_rt, wps_ok_bk, wps_ok_ct, wps_ok_xc, wps_bad, wps_lft, wps_seq, wps_nil, wps_ret, wps_expr, wps_asg, wps_if, wp_run, wps_for, wps_while, wp_comp, wp_var, wp_C, wp_bin, wp_un, wp_T, wp_Tb, wp_asBl, wp_truthBl, wp_bAnd, wp_bOr, wp_bNot, wp_eIf, wp_eAnd, wp_eOr, wp_eNot, blCase_bl, wp_chain, wp_aNil, wp_aCons, wp_tup, wp_lst, wp_lstM, wp_call, wp_cl1, wp_cl2, wp_cl3, wp_cl4, wp_cl5, wp_meth, wp_isi, wp_oNone, wp_oSome, wp_sl, wp_it, wp_range1, wp_range2, wp_bYes, gEq_str, gNe_str, gEq_int, gNe_int, gEq_bl, gNe_bl, gIs_bl, gIsNot_bl, gAdd_int, gSub_int, gC_int, gI_int, gAdd_str, gAdd_tup, gAdd_lst, gNeg_int, gIx_tup, gIx_lst, gLen_tup, gLen_lst, gLen_str, gInt_int, gInt_bl, gTuple_lst, gTuple_tup, gList_lst, gList_tup, gSl_tup, gSl_lst, gSl_fl, gSl_str, srcL_tup, srcL_lst, srcL_fl, srcL_str, srcR1_int, typN, startR, List.map_cons, List.map_nil, List.length_cons, List.length_nil, Nat.reduceAdd, Nat.reduceSub, Nat.zero_add, Nat.sub_self, Nat.sub_zero, List.replicate_zero, List.replicate_succ, List.cons_append, List.nil_append, List.append_nil, List.getElem?_cons_zero, List.getElem?_cons_succ, List.set_cons_zero, List.set_cons_succ, List.set_nil, List.getElem?_nil, Option.some.injEq, exists_eq_left', exists_eq_left, exists_eq_right, reduceCtorEq, false_and, and_false, true_and, and_true, exists_false, exists_const, wipeR, Nat.zero_le, String.reduceEq, D.int.injEq, D.str.injEq, D.bl.injEq, atI_0, atI_1, atI_2, atI_3, atI_4, beq_self_eq_true, not_true_eq_false, not_false_eq_true, Int.cast_ofNat_Int, Int.reduceEq, Int.reduceLE, Int.reduceLT, Int.reduceAdd, Int.reduceSub, Int.reduceMul, Int.reduceNeg, if_true, if_false, ite_true, ite_false, Bool.false_eq_true, if_neg, if_pos, decide_eq_true_eq, Bool.not_eq_true', decide_eq_false_iff_not, eq_self_iff_true, decide_true, decide_false, Bool.not_true, Bool.not_false]; exact hF
  · simp only [b_l_made, fin_int hS, ofString_inj, wp_ok, wp_ret, wp_stuck, wp_bad, wp_bnd, wp_if, wp_fif, wps_ok_nx, wps_ok_rt, wps_ok_bk, wps_ok_ct, wps_ok_xc, wps_bad, wps_lft, wps_seq, wps_nil, wps_ret, wps_expr, wps_asg, wps_if, wp_run, wps_for, wps_while, wp_comp, wp_var, wp_C, wp_bin, wp_un, wp_T, wp_Tb, wp_asBl, wp_truthBl, wp_bAnd, wp_bOr, wp_bNot, wp_eIf, wp_eAnd, wp_eOr, wp_eNot, blCase_bl, wp_chain, wp_aNil, wp_aCons, wp_tup, wp_lst, wp_lstM, wp_call, wp_cl1, wp_cl2, wp_cl3, wp_cl4, wp_cl5, wp_meth, wp_isi, wp_oNone, wp_oSome, wp_sl, wp_it, wp_range1, wp_range2, wp_bYes, gEq_str, gNe_str, gEq_int, gNe_int, gEq_bl, gNe_bl, gIs_bl, gIsNot_bl, gAdd_int, gSub_int, gC_int, gI_int, gAdd_str, gAdd_tup, gAdd_lst, gNeg_int, gIx_tup, gIx_lst, gLen_tup, gLen_lst, gLen_str, gInt_int, gInt_bl, gTuple_lst, gTuple_tup, gList_lst, gList_tup, gSl_tup, gSl_lst, gSl_fl, gSl_str, srcL_tup, srcL_lst, srcL_fl, srcL_str, srcR1_int, typN, startR, List.map_cons, List.map_nil, List.length_cons, List.length_nil, Nat.reduceAdd, Nat.reduceSub, Nat.zero_add, Nat.sub_self, Nat.sub_zero, List.replicate_zero, List.replicate_succ, List.cons_append, List.nil_append, List.append_nil, List.getElem?_cons_zero, List.getElem?_cons_succ, List.set_cons_zero, List.set_cons_succ, List.set_nil, List.getElem?_nil, Option.some.injEq, exists_eq_left', exists_eq_left, exists_eq_right, reduceCtorEq, false_and, and_false, true_and, and_true, exists_false, exists_const, wipeR, Nat.zero_le, String.reduceEq, D.int.injEq, D.str.injEq, D.bl.injEq, atI_0, atI_1, atI_2, atI_3, atI_4, beq_self_eq_true, not_true_eq_false, not_false_eq_true, Int.cast_ofNat_Int, Int.reduceEq, Int.reduceLE, Int.reduceLT, Int.reduceAdd, Int.reduceSub, Int.reduceMul, Int.reduceNeg, if_true, if_false, ite_true, ite_false, Bool.false_eq_true, if_neg, if_pos, decide_eq_true_eq, Bool.not_eq_true', decide_eq_false_iff_not, eq_self_iff_true, decide_true, decide_false, Bool.not_true, Bool.not_false]; exact hF
  · have : ¬ w = Str.ofString "if" := fun e => by subst e; revert hw; decide +kernel
    simp only [b_l_made, fin_int hS, this, wp_ok, wp_ret, wp_stuck, wp_bad, wp_bnd, wp_if, wp_fif, wps_ok_nx, wps_ok_rt, wps_ok_bk, wps_ok_ct, wps_ok_xc, wps_bad, wps_lft, wps_seq, wps_nil, wps_ret, wps_expr, wps_asg, wps_if, wp_run, wps_for, wps_while, wp_comp, wp_var, wp_C, wp_bin, wp_un, wp_T, wp_Tb, wp_asBl, wp_truthBl, wp_bAnd, wp_bOr, wp_bNot, wp_eIf, wp_eAnd, wp_eOr, wp_eNot, blCase_bl, wp_chain, wp_aNil, wp_aCons, wp_tup, wp_lst, wp_lstM, wp_call, wp_cl1, wp_cl2, wp_cl3, wp_cl4, wp_cl5, wp_meth, wp_isi, wp_oNone, wp_oSome, wp_sl, wp_it, wp_range1, wp_range2, wp_bYes, gEq_str, gNe_str, gEq_int, gNe_int, gEq_bl, gNe_bl, gIs_bl, gIsNot_bl, gAdd_int, gSub_int, gC_int, gI_int, gAdd_str, gAdd_tup, gAdd_lst, gNeg_int, gIx_tup, gIx_lst, gLen_tup, gLen_lst, gLen_str, gInt_int, gInt_bl, gTuple_lst, gTuple_tup, gList_lst, gList_tup, gSl_tup, gSl_lst, gSl_fl, gSl_str, srcL_tup, srcL_lst, srcL_fl, srcL_str, srcR1_int, typN, startR, List.map_cons, List.map_nil, List.length_cons, List.length_nil, Nat.reduceAdd, Nat.reduceSub, Nat.zero_add, Nat.sub_self, Nat.sub_zero, List.replicate_zero, List.replicate_succ, List.cons_append, List.nil_append, List.append_nil, List.getElem?_cons_zero, List.getElem?_cons_succ, List.set_cons_zero, List.set_cons_succ, List.set_nil, List.getElem?_nil, Option.some.injEq, exists_eq_left', exists_eq_left, exists_eq_right, reduceCtorEq, false_and, and_false, true_and, and_true, exists_false, exists_const, wipeR, Nat.zero_le, String.reduceEq, D.int.injEq, D.str.injEq, D.bl.injEq, atI_0, atI_1, atI_2, atI_3, atI_4, beq_self_eq_true, not_true_eq_false, not_false_eq_true, Int.cast_ofNat_Int, Int.reduceEq, Int.reduceLE, Int.reduceLT, Int.reduceAdd, Int.reduceSub, Int.reduceMul, Int.reduceNeg, if_true, if_false, ite_true, ite_false, Bool.false_eq_true, if_neg, if_pos, decide_eq_true_eq, Bool.not_eq_true', decide_eq_false_iff_not, eq_self_iff_true, decide_true, decide_false, Bool.not_true, Bool.not_false]; exact hF
  · obtain ⟨ops, outs, e, rfl, hl, _⟩ := h1.shape
    simp only [b_l_made, fin_int hS, hl, wp_ok, wp_ret, wp_stuck, wp_bad, wp_bnd, wp_if, wp_fif, wps_ok_nx, wps_ok_rt, wps_ok_bk, wps_ok_ct, wps_ok_xc, wps_bad, wps_lft, wps_seq, wps_nil, wps_ret, wps_expr, wps_asg, wps_if, wp_run, wps_for, wps_while, wp_comp, wp_var, wp_C, wp_bin, wp_un, wp_T, wp_Tb, wp_asBl, wp_truthBl, wp_bAnd, wp_bOr, wp_bNot, wp_eIf, wp_eAnd, wp_eOr, wp_eNot, blCase_bl, wp_chain, wp_aNil, wp_aCons, wp_tup, wp_lst, wp_lstM, wp_call, wp_cl1, wp_cl2, wp_cl3, wp_cl4, wp_cl5, wp_meth, wp_isi, wp_oNone, wp_oSome, wp_sl, wp_it, wp_range1, wp_range2, wp_bYes, gEq_str, gNe_str, gEq_int, gNe_int, gEq_bl, gNe_bl, gIs_bl, gIsNot_bl, gAdd_int, gSub_int, gC_int, gI_int, gAdd_str, gAdd_tup, gAdd_lst, gNeg_int, gIx_tup, gIx_lst, gLen_tup, gLen_lst, gLen_str, gInt_int, gInt_bl, gTuple_lst, gTuple_tup, gList_lst, gList_tup, gSl_tup, gSl_lst, gSl_fl, gSl_str, srcL_tup, srcL_lst, srcL_fl, srcL_str, srcR1_int, typN, startR, List.map_cons, List.map_nil, List.length_cons, List.length_nil, Nat.reduceAdd, Nat.reduceSub, Nat.zero_add, Nat.sub_self, Nat.sub_zero, List.replicate_zero, List.replicate_succ, List.cons_append, List.nil_append, List.append_nil, List.getElem?_cons_zero, List.getElem?_cons_succ, List.set_cons_zero, List.set_cons_succ, List.set_nil, List.getElem?_nil, Option.some.injEq, exists_eq_left', exists_eq_left, exists_eq_right, reduceCtorEq, false_and, and_false, true_and, and_true, exists_false, exists_const, wipeR, Nat.zero_le, String.reduceEq, D.int.injEq, D.str.injEq, D.bl.injEq, atI_0, atI_1, atI_2, atI_3, atI_4, beq_self_eq_true, not_true_eq_false, not_false_eq_true, Int.cast_ofNat_Int, Int.reduceEq, Int.reduceLE, Int.reduceLT, Int.reduceAdd, Int.reduceSub, Int.reduceMul, Int.reduceNeg, if_true, if_false, ite_true, ite_false, Bool.false_eq_true, if_neg, if_pos, decide_eq_true_eq, Bool.not_eq_true', decide_eq_false_iff_not, eq_self_iff_true, decide_true, decide_false, Bool.not_true, Bool.not_false]; exact hF
/-- a draw of a register -/
theorem draw_reg {m : Nat} {N : Nat} (hN : 2 ≤ N) (h : DK k S0 S) (hm : 0 < m) (hm2 : m ≤ 1000) (hF : ∀ (v : D) (S' : Sto), Reg m v → DK k S0 S' → F v S') : wp (den fu N i_l_draw [.ref k, .int (m : Nat)] S) F E :=
  draw_ok hN h (by omega) (by omega) fun v S' h0 h1 d => hF _ _ ⟨v.toNat, by rw [Int.toNat_of_nonneg h0], by omega⟩ d
def opNames : List Str := ["push", "plus", "minus", "times", "less", "same", "put", "join", "wrap", "if", "if"]
theorem opNames_ok : ∀ z ∈ opNames, z = Str.ofString "push" ∨ z = Str.ofString "if" ∨ z = Str.ofString "wrap" ∨ (z ∈ pairs ∧ z ≠ Str.ofString "push" ∧ z ≠ Str.ofString "if" ∧ z ≠ Str.ofString "wrap") := by decide +kernel
/-- the end of an op that is not a choice; the choice is given -/
theorem op_gen (hfu : 1000 ≤ fu) (deep : Nat) (hC : ∀ (t w N : Nat) (S : Sto) (F : D → Sto → Prop) (E : Exc → Sto → Prop), 0 < deep → t ≤ 4 → w ≤ 5 → 12 + 2 * deep ≤ N → DK k S0 S → (∀ c S', CodeG deep t w c → DK k S0 S' → F c S') → wp (den fu N i_l_code [.ref k, .int t, .int w, .int ((deep : Int) - 1)] S) F E)
    {many N : Nat} (hm : many ≤ 100) (hN : 13 + 2 * deep ≤ N) (h : DK k S0 S) (hF : ∀ made op S', OpG (CodeG deep) many made op → DK k S0 S' → F op S') : wp (den fu N i_l_op [.ref k, .int many, .int deep] S) F E := by
  obtain ⟨N', rfl⟩ : ∃ N', N = N' + 1 := ⟨N - 1, by omega⟩
  show wp (runDef false 8 (b_l_op fu (den fu N')) _ _) _ _
  simp only [b_l_op, wp_ok, wp_ret, wp_stuck, wp_bad, wp_bnd, wp_if, wp_fif, wps_ok_nx, wps_ok_rt, wps_ok_bk, wps_ok_ct, wps_ok_xc, wps_bad, wps_lft, wps_seq, wps_nil, wps_ret, wps_expr, wps_asg, wps_if, wp_run, wps_for, wps_while, wp_comp, wp_var, wp_C, wp_bin, wp_un, wp_T, wp_Tb, wp_asBl, wp_truthBl, wp_bAnd, wp_bOr, wp_bNot, wp_eIf, wp_eAnd, wp_eOr, wp_eNot, blCase_bl, wp_chain, wp_aNil, wp_aCons, wp_tup, wp_lst, wp_lstM, wp_call, wp_cl1, wp_cl2, wp_cl3, wp_cl4, wp_cl5, wp_meth, wp_isi, wp_oNone, wp_oSome, wp_sl, wp_it, wp_range1, wp_range2, wp_bYes, gEq_str, gNe_str, gEq_int, gNe_int, gEq_bl, gNe_bl, gIs_bl, gIsNot_bl, gAdd_int, gSub_int, gC_int, gI_int, gAdd_str, gAdd_tup, gAdd_lst, gNeg_int, gIx_tup, gIx_lst, gLen_tup, gLen_lst, gLen_str, gInt_int, gInt_bl, gTuple_lst, gTuple_tup, gList_lst, gList_tup, gSl_tup, gSl_lst, gSl_fl, gSl_str, srcL_tup, srcL_lst, srcL_fl, srcL_str, srcR1_int, typN, startR, List.map_cons, List.map_nil, List.length_cons, List.length_nil, Nat.reduceAdd, Nat.reduceSub, Nat.zero_add, Nat.sub_self, Nat.sub_zero, List.replicate_zero, List.replicate_succ, List.cons_append, List.nil_append, List.append_nil, List.getElem?_cons_zero, List.getElem?_cons_succ, List.set_cons_zero, List.set_cons_succ, List.set_nil, List.getElem?_nil, Option.some.injEq, exists_eq_left', exists_eq_left, exists_eq_right, reduceCtorEq, false_and, and_false, true_and, and_true, exists_false, exists_const, wipeR, Nat.zero_le, String.reduceEq, D.int.injEq, D.str.injEq, D.bl.injEq, atI_0, atI_1, atI_2, atI_3, atI_4, beq_self_eq_true, not_true_eq_false, not_false_eq_true, Int.cast_ofNat_Int, Int.reduceEq, Int.reduceLE, Int.reduceLT, Int.reduceAdd, Int.reduceSub, Int.reduceMul, Int.reduceNeg, if_true, if_false, ite_true, ite_false, Bool.false_eq_true, if_neg, if_pos, decide_eq_true_eq, Bool.not_eq_true', decide_eq_false_iff_not, eq_self_iff_true, decide_true, decide_false, Bool.not_true, Bool.not_false]
  refine ⟨small_line (by decide), draw_ok (by omega) h (by decide) (by decide) fun v S1 hv0 hv1 d1 => ?_⟩
  rw [gIx_lst]
  obtain ⟨x, hx, e⟩ := atI_mem (ds := opNames.map D.str) hv0 hv1
  refine ⟨x, e, ?_⟩
  obtain ⟨z, hz, rfl⟩ := List.mem_map.mp hx
  have fin : ∀ (made : Nat) (op : D) (S' : Sto), OpG (CodeG deep) many made op → DK k S0 S' → wp (finD false S.length op S') F E := fun made op S' ho hd => fin_same hd.wf' (ho.tr (CodeG.tr deep)) (by rw [hd.len, h.len]) (hF made op S' ho hd)
  have push : ∀ S', DK k S0 S' → wp (den fu N' i_l_thing [.ref k, .int 2] S') (fun x S2 => 2 ≤ sizeLine ∧ wp (finD false S.length (.tup [.str "push", x]) S2) F E) (fun e S' => E e S') := fun S' hd =>
    thing_gen hfu 2 N' S' _ _ (by omega) hd fun t S2 ht d2 => ⟨small_line (by decide), fin 1 _ S2 (.inl ⟨rfl, t, rfl, ht⟩) d2⟩
  simp only [wp_ok, wp_ret, wp_stuck, wp_bad, wp_bnd, wp_if, wp_fif, wps_ok_nx, wps_ok_rt, wps_ok_bk, wps_ok_ct, wps_ok_xc, wps_bad, wps_lft, wps_seq, wps_nil, wps_ret, wps_expr, wps_asg, wps_if, wp_run, wps_for, wps_while, wp_comp, wp_var, wp_C, wp_bin, wp_un, wp_T, wp_Tb, wp_asBl, wp_truthBl, wp_bAnd, wp_bOr, wp_bNot, wp_eIf, wp_eAnd, wp_eOr, wp_eNot, blCase_bl, wp_chain, wp_aNil, wp_aCons, wp_tup, wp_lst, wp_lstM, wp_call, wp_cl1, wp_cl2, wp_cl3, wp_cl4, wp_cl5, wp_meth, wp_isi, wp_oNone, wp_oSome, wp_sl, wp_it, wp_range1, wp_range2, wp_bYes, gEq_str, gNe_str, gEq_int, gNe_int, gEq_bl, gNe_bl, gIs_bl, gIsNot_bl, gAdd_int, gSub_int, gC_int, gI_int, gAdd_str, gAdd_tup, gAdd_lst, gNeg_int, gIx_tup, gIx_lst, gLen_tup, gLen_lst, gLen_str, gInt_int, gInt_bl, gTuple_lst, gTuple_tup, gList_lst, gList_tup, gSl_tup, gSl_lst, gSl_fl, gSl_str, srcL_tup, srcL_lst, srcL_fl, srcL_str, srcR1_int, typN, startR, List.map_cons, List.map_nil, List.length_cons, List.length_nil, Nat.reduceAdd, Nat.reduceSub, Nat.zero_add, Nat.sub_self, Nat.sub_zero, List.replicate_zero, List.replicate_succ, List.cons_append, List.nil_append, List.append_nil, List.getElem?_cons_zero, List.getElem?_cons_succ, List.set_cons_zero, List.set_cons_succ, List.set_nil, List.getElem?_nil, Option.some.injEq, exists_eq_left', exists_eq_left, exists_eq_right, reduceCtorEq, false_and, and_false, true_and, and_true, exists_false, exists_const, wipeR, Nat.zero_le, String.reduceEq, D.int.injEq, D.str.injEq, D.bl.injEq, atI_0, atI_1, atI_2, atI_3, atI_4, beq_self_eq_true, not_true_eq_false, not_false_eq_true, Int.cast_ofNat_Int, Int.reduceEq, Int.reduceLE, Int.reduceLT, Int.reduceAdd, Int.reduceSub, Int.reduceMul, Int.reduceNeg, if_true, if_false, ite_true, ite_false, Bool.false_eq_true, if_neg, if_pos, decide_eq_true_eq, Bool.not_eq_true', decide_eq_false_iff_not, eq_self_iff_true, decide_true, decide_false, Bool.not_true, Bool.not_false]
  by_cases hm0 : (many : Int) = 0
  · simp only [hm0, wp_ok, wp_ret, wp_stuck, wp_bad, wp_bnd, wp_if, wp_fif, wps_ok_nx, wps_ok_rt, wps_ok_bk, wps_ok_ct, wps_ok_xc, wps_bad, wps_lft, wps_seq, wps_nil, wps_ret, wps_expr, wps_asg, wps_if, wp_run, wps_for, wps_while, wp_comp, wp_var, wp_C, wp_bin, wp_un, wp_T, wp_Tb, wp_asBl, wp_truthBl, wp_bAnd, wp_bOr, wp_bNot, wp_eIf, wp_eAnd, wp_eOr, wp_eNot, blCase_bl, wp_chain, wp_aNil, wp_aCons, wp_tup, wp_lst, wp_lstM, wp_call, wp_cl1, wp_cl2, wp_cl3, wp_cl4, wp_cl5, wp_meth, wp_isi, wp_oNone, wp_oSome, wp_sl, wp_it, wp_range1, wp_range2, wp_bYes, gEq_str, gNe_str, gEq_int, gNe_int, gEq_bl, gNe_bl, gIs_bl, gIsNot_bl, gAdd_int, gSub_int, gC_int, gI_int, gAdd_str, gAdd_tup, gAdd_lst, gNeg_int, gIx_tup, gIx_lst, gLen_tup, gLen_lst, gLen_str, gInt_int, gInt_bl, gTuple_lst, gTuple_tup, gList_lst, gList_tup, gSl_tup, gSl_lst, gSl_fl, gSl_str, srcL_tup, srcL_lst, srcL_fl, srcL_str, srcR1_int, typN, startR, List.map_cons, List.map_nil, List.length_cons, List.length_nil, Nat.reduceAdd, Nat.reduceSub, Nat.zero_add, Nat.sub_self, Nat.sub_zero, List.replicate_zero, List.replicate_succ, List.cons_append, List.nil_append, List.append_nil, List.getElem?_cons_zero, List.getElem?_cons_succ, List.set_cons_zero, List.set_cons_succ, List.set_nil, List.getElem?_nil, Option.some.injEq, exists_eq_left', exists_eq_left, exists_eq_right, reduceCtorEq, false_and, and_false, true_and, and_true, exists_false, exists_const, wipeR, Nat.zero_le, String.reduceEq, D.int.injEq, D.str.injEq, D.bl.injEq, atI_0, atI_1, atI_2, atI_3, atI_4, beq_self_eq_true, not_true_eq_false, not_false_eq_true, Int.cast_ofNat_Int, Int.reduceEq, Int.reduceLE, Int.reduceLT, Int.reduceAdd, Int.reduceSub, Int.reduceMul, Int.reduceNeg, if_true, if_false, ite_true, ite_false, Bool.false_eq_true, if_neg, if_pos, decide_eq_true_eq, Bool.not_eq_true', decide_eq_false_iff_not, eq_self_iff_true, decide_true, decide_false, Bool.not_true, Bool.not_false]
    exact push S1 d1
  · simp only [hm0, wp_ok, wp_ret, wp_stuck, wp_bad, wp_bnd, wp_if, wp_fif, wps_ok_nx, wps_ok_rt, wps_ok_bk, wps_ok_ct, wps_ok_xc, wps_bad, wps_lft, wps_seq, wps_nil, wps_ret, wps_expr, wps_asg, wps_if, wp_run, wps_for, wps_while, wp_comp, wp_var, wp_C, wp_bin, wp_un, wp_T, wp_Tb, wp_asBl, wp_truthBl, wp_bAnd, wp_bOr, wp_bNot, wp_eIf, wp_eAnd, wp_eOr, wp_eNot, blCase_bl, wp_chain, wp_aNil, wp_aCons, wp_tup, wp_lst, wp_lstM, wp_call, wp_cl1, wp_cl2, wp_cl3, wp_cl4, wp_cl5, wp_meth, wp_isi, wp_oNone, wp_oSome, wp_sl, wp_it, wp_range1, wp_range2, wp_bYes, gEq_str, gNe_str, gEq_int, gNe_int, gEq_bl, gNe_bl, gIs_bl, gIsNot_bl, gAdd_int, gSub_int, gC_int, gI_int, gAdd_str, gAdd_tup, gAdd_lst, gNeg_int, gIx_tup, gIx_lst, gLen_tup, gLen_lst, gLen_str, gInt_int, gInt_bl, gTuple_lst, gTuple_tup, gList_lst, gList_tup, gSl_tup, gSl_lst, gSl_fl, gSl_str, srcL_tup, srcL_lst, srcL_fl, srcL_str, srcR1_int, typN, startR, List.map_cons, List.map_nil, List.length_cons, List.length_nil, Nat.reduceAdd, Nat.reduceSub, Nat.zero_add, Nat.sub_self, Nat.sub_zero, List.replicate_zero, List.replicate_succ, List.cons_append, List.nil_append, List.append_nil, List.getElem?_cons_zero, List.getElem?_cons_succ, List.set_cons_zero, List.set_cons_succ, List.set_nil, List.getElem?_nil, Option.some.injEq, exists_eq_left', exists_eq_left, exists_eq_right, reduceCtorEq, false_and, and_false, true_and, and_true, exists_false, exists_const, wipeR, Nat.zero_le, String.reduceEq, D.int.injEq, D.str.injEq, D.bl.injEq, atI_0, atI_1, atI_2, atI_3, atI_4, beq_self_eq_true, not_true_eq_false, not_false_eq_true, Int.cast_ofNat_Int, Int.reduceEq, Int.reduceLE, Int.reduceLT, Int.reduceAdd, Int.reduceSub, Int.reduceMul, Int.reduceNeg, if_true, if_false, ite_true, ite_false, Bool.false_eq_true, if_neg, if_pos, decide_eq_true_eq, Bool.not_eq_true', decide_eq_false_iff_not, eq_self_iff_true, decide_true, decide_false, Bool.not_true, Bool.not_false]
    have hmp : 0 < many := by omega
    rcases opNames_ok z hz with rfl | rfl | rfl | ⟨hp, n1, n2, n3⟩
    · simp only [wp_ok, wp_ret, wp_stuck, wp_bad, wp_bnd, wp_if, wp_fif, wps_ok_nx, wps_ok_rt, wps_ok_bk, wps_ok_ct, wps_ok_xc, wps_bad, wps_lft, wps_seq, wps_nil, wps_ret, wps_expr, wps_asg, wps_if, wp_run, wps_for, wps_while, wp_comp, wp_var, wp_C, wp_bin, wp_un, wp_T, wp_Tb, wp_asBl, wp_truthBl, wp_bAnd, wp_bOr, wp_bNot, wp_eIf, wp_eAnd, wp_eOr, wp_eNot, blCase_bl, wp_chain, wp_aNil, wp_aCons, wp_tup, wp_lst, wp_lstM, wp_call, wp_cl1, wp_cl2, wp_cl3, wp_cl4, wp_cl5, wp_meth, wp_isi, wp_oNone, wp_oSome, wp_sl, wp_it, wp_range1, wp_range2, wp_bYes, gEq_str, gNe_str, gEq_int, gNe_int, gEq_bl, gNe_bl, gIs_bl, gIsNot_bl, gAdd_int, gSub_int, gC_int, gI_int, gAdd_str, gAdd_tup, gAdd_lst, gNeg_int, gIx_tup, gIx_lst, gLen_tup, gLen_lst, gLen_str, gInt_int, gInt_bl, gTuple_lst, gTuple_tup, gList_lst, gList_tup, gSl_tup, gSl_lst, gSl_fl, gSl_str, srcL_tup, srcL_lst, srcL_fl, srcL_str, srcR1_int, typN, startR, List.map_cons, List.map_nil, List.length_cons, List.length_nil, Nat.reduceAdd, Nat.reduceSub, Nat.zero_add, Nat.sub_self, Nat.sub_zero, List.replicate_zero, List.replicate_succ, List.cons_append, List.nil_append, List.append_nil, List.getElem?_cons_zero, List.getElem?_cons_succ, List.set_cons_zero, List.set_cons_succ, List.set_nil, List.getElem?_nil, Option.some.injEq, exists_eq_left', exists_eq_left, exists_eq_right, reduceCtorEq, false_and, and_false, true_and, and_true, exists_false, exists_const, wipeR, Nat.zero_le, String.reduceEq, D.int.injEq, D.str.injEq, D.bl.injEq, atI_0, atI_1, atI_2, atI_3, atI_4, beq_self_eq_true, not_true_eq_false, not_false_eq_true, Int.cast_ofNat_Int, Int.reduceEq, Int.reduceLE, Int.reduceLT, Int.reduceAdd, Int.reduceSub, Int.reduceMul, Int.reduceNeg, if_true, if_false, ite_true, ite_false, Bool.false_eq_true, if_neg, if_pos, decide_eq_true_eq, Bool.not_eq_true', decide_eq_false_iff_not, eq_self_iff_true, decide_true, decide_false, Bool.not_true, Bool.not_false]
      exact push S1 d1
    · simp only [ofString_inj, wp_ok, wp_ret, wp_stuck, wp_bad, wp_bnd, wp_if, wp_fif, wps_ok_nx, wps_ok_rt, wps_ok_bk, wps_ok_ct, wps_ok_xc, wps_bad, wps_lft, wps_seq, wps_nil, wps_ret, wps_expr, wps_asg, wps_if, wp_run, wps_for, wps_while, wp_comp, wp_var, wp_C, wp_bin, wp_un, wp_T, wp_Tb, wp_asBl, wp_truthBl, wp_bAnd, wp_bOr, wp_bNot, wp_eIf, wp_eAnd, wp_eOr, wp_eNot, blCase_bl, wp_chain, wp_aNil, wp_aCons, wp_tup, wp_lst, wp_lstM, wp_call, wp_cl1, wp_cl2, wp_cl3, wp_cl4, wp_cl5, wp_meth, wp_isi, wp_oNone, wp_oSome, wp_sl, wp_it, wp_range1, wp_range2, wp_bYes, gEq_str, gNe_str, gEq_int, gNe_int, gEq_bl, gNe_bl, gIs_bl, gIsNot_bl, gAdd_int, gSub_int, gC_int, gI_int, gAdd_str, gAdd_tup, gAdd_lst, gNeg_int, gIx_tup, gIx_lst, gLen_tup, gLen_lst, gLen_str, gInt_int, gInt_bl, gTuple_lst, gTuple_tup, gList_lst, gList_tup, gSl_tup, gSl_lst, gSl_fl, gSl_str, srcL_tup, srcL_lst, srcL_fl, srcL_str, srcR1_int, typN, startR, List.map_cons, List.map_nil, List.length_cons, List.length_nil, Nat.reduceAdd, Nat.reduceSub, Nat.zero_add, Nat.sub_self, Nat.sub_zero, List.replicate_zero, List.replicate_succ, List.cons_append, List.nil_append, List.append_nil, List.getElem?_cons_zero, List.getElem?_cons_succ, List.set_cons_zero, List.set_cons_succ, List.set_nil, List.getElem?_nil, Option.some.injEq, exists_eq_left', exists_eq_left, exists_eq_right, reduceCtorEq, false_and, and_false, true_and, and_true, exists_false, exists_const, wipeR, Nat.zero_le, String.reduceEq, D.int.injEq, D.str.injEq, D.bl.injEq, atI_0, atI_1, atI_2, atI_3, atI_4, beq_self_eq_true, not_true_eq_false, not_false_eq_true, Int.cast_ofNat_Int, Int.reduceEq, Int.reduceLE, Int.reduceLT, Int.reduceAdd, Int.reduceSub, Int.reduceMul, Int.reduceNeg, if_true, if_false, ite_true, ite_false, Bool.false_eq_true, if_neg, if_pos, decide_eq_true_eq, Bool.not_eq_true', decide_eq_false_iff_not, eq_self_iff_true, decide_true, decide_false, Bool.not_true, Bool.not_false]
      by_cases hd0 : (deep : Int) = 0
      · simp only [hd0, wp_ok, wp_ret, wp_stuck, wp_bad, wp_bnd, wp_if, wp_fif, wps_ok_nx, wps_ok_rt, wps_ok_bk, wps_ok_ct, wps_ok_xc, wps_bad, wps_lft, wps_seq, wps_nil, wps_ret, wps_expr, wps_asg, wps_if, wp_run, wps_for, wps_while, wp_comp, wp_var, wp_C, wp_bin, wp_un, wp_T, wp_Tb, wp_asBl, wp_truthBl, wp_bAnd, wp_bOr, wp_bNot, wp_eIf, wp_eAnd, wp_eOr, wp_eNot, blCase_bl, wp_chain, wp_aNil, wp_aCons, wp_tup, wp_lst, wp_lstM, wp_call, wp_cl1, wp_cl2, wp_cl3, wp_cl4, wp_cl5, wp_meth, wp_isi, wp_oNone, wp_oSome, wp_sl, wp_it, wp_range1, wp_range2, wp_bYes, gEq_str, gNe_str, gEq_int, gNe_int, gEq_bl, gNe_bl, gIs_bl, gIsNot_bl, gAdd_int, gSub_int, gC_int, gI_int, gAdd_str, gAdd_tup, gAdd_lst, gNeg_int, gIx_tup, gIx_lst, gLen_tup, gLen_lst, gLen_str, gInt_int, gInt_bl, gTuple_lst, gTuple_tup, gList_lst, gList_tup, gSl_tup, gSl_lst, gSl_fl, gSl_str, srcL_tup, srcL_lst, srcL_fl, srcL_str, srcR1_int, typN, startR, List.map_cons, List.map_nil, List.length_cons, List.length_nil, Nat.reduceAdd, Nat.reduceSub, Nat.zero_add, Nat.sub_self, Nat.sub_zero, List.replicate_zero, List.replicate_succ, List.cons_append, List.nil_append, List.append_nil, List.getElem?_cons_zero, List.getElem?_cons_succ, List.set_cons_zero, List.set_cons_succ, List.set_nil, List.getElem?_nil, Option.some.injEq, exists_eq_left', exists_eq_left, exists_eq_right, reduceCtorEq, false_and, and_false, true_and, and_true, exists_false, exists_const, wipeR, Nat.zero_le, String.reduceEq, D.int.injEq, D.str.injEq, D.bl.injEq, atI_0, atI_1, atI_2, atI_3, atI_4, beq_self_eq_true, not_true_eq_false, not_false_eq_true, Int.cast_ofNat_Int, Int.reduceEq, Int.reduceLE, Int.reduceLT, Int.reduceAdd, Int.reduceSub, Int.reduceMul, Int.reduceNeg, if_true, if_false, ite_true, ite_false, Bool.false_eq_true, if_neg, if_pos, decide_eq_true_eq, Bool.not_eq_true', decide_eq_false_iff_not, eq_self_iff_true, decide_true, decide_false, Bool.not_true, Bool.not_false]
        exact push S1 d1
      · simp only [hd0, wp_ok, wp_ret, wp_stuck, wp_bad, wp_bnd, wp_if, wp_fif, wps_ok_nx, wps_ok_rt, wps_ok_bk, wps_ok_ct, wps_ok_xc, wps_bad, wps_lft, wps_seq, wps_nil, wps_ret, wps_expr, wps_asg, wps_if, wp_run, wps_for, wps_while, wp_comp, wp_var, wp_C, wp_bin, wp_un, wp_T, wp_Tb, wp_asBl, wp_truthBl, wp_bAnd, wp_bOr, wp_bNot, wp_eIf, wp_eAnd, wp_eOr, wp_eNot, blCase_bl, wp_chain, wp_aNil, wp_aCons, wp_tup, wp_lst, wp_lstM, wp_call, wp_cl1, wp_cl2, wp_cl3, wp_cl4, wp_cl5, wp_meth, wp_isi, wp_oNone, wp_oSome, wp_sl, wp_it, wp_range1, wp_range2, wp_bYes, gEq_str, gNe_str, gEq_int, gNe_int, gEq_bl, gNe_bl, gIs_bl, gIsNot_bl, gAdd_int, gSub_int, gC_int, gI_int, gAdd_str, gAdd_tup, gAdd_lst, gNeg_int, gIx_tup, gIx_lst, gLen_tup, gLen_lst, gLen_str, gInt_int, gInt_bl, gTuple_lst, gTuple_tup, gList_lst, gList_tup, gSl_tup, gSl_lst, gSl_fl, gSl_str, srcL_tup, srcL_lst, srcL_fl, srcL_str, srcR1_int, typN, startR, List.map_cons, List.map_nil, List.length_cons, List.length_nil, Nat.reduceAdd, Nat.reduceSub, Nat.zero_add, Nat.sub_self, Nat.sub_zero, List.replicate_zero, List.replicate_succ, List.cons_append, List.nil_append, List.append_nil, List.getElem?_cons_zero, List.getElem?_cons_succ, List.set_cons_zero, List.set_cons_succ, List.set_nil, List.getElem?_nil, Option.some.injEq, exists_eq_left', exists_eq_left, exists_eq_right, reduceCtorEq, false_and, and_false, true_and, and_true, exists_false, exists_const, wipeR, Nat.zero_le, String.reduceEq, D.int.injEq, D.str.injEq, D.bl.injEq, atI_0, atI_1, atI_2, atI_3, atI_4, beq_self_eq_true, not_true_eq_false, not_false_eq_true, Int.cast_ofNat_Int, Int.reduceEq, Int.reduceLE, Int.reduceLT, Int.reduceAdd, Int.reduceSub, Int.reduceMul, Int.reduceNeg, if_true, if_false, ite_true, ite_false, Bool.false_eq_true, if_neg, if_pos, decide_eq_true_eq, Bool.not_eq_true', decide_eq_false_iff_not, eq_self_iff_true, decide_true, decide_false, Bool.not_true, Bool.not_false]
        have hdp : 0 < deep := by omega
        refine draw_ok (by omega) d1 (by decide) (by decide) fun v2 S2 q0 q1 d2 => ?_
        rw [srcR1_int]
        refine ⟨by simp [bnd62]; omega, by rw [rangeD_len]; exact small_line (by omega), ?_⟩
        refine comp_gen (Reg many) d2 (fun d hd S' dd => ?_) (fun args S3 hl hy d3 => ?_)
        · simp only [wp_ok, wp_ret, wp_stuck, wp_bad, wp_bnd, wp_if, wp_fif, wps_ok_nx, wps_ok_rt, wps_ok_bk, wps_ok_ct, wps_ok_xc, wps_bad, wps_lft, wps_seq, wps_nil, wps_ret, wps_expr, wps_asg, wps_if, wp_run, wps_for, wps_while, wp_comp, wp_var, wp_C, wp_bin, wp_un, wp_T, wp_Tb, wp_asBl, wp_truthBl, wp_bAnd, wp_bOr, wp_bNot, wp_eIf, wp_eAnd, wp_eOr, wp_eNot, blCase_bl, wp_chain, wp_aNil, wp_aCons, wp_tup, wp_lst, wp_lstM, wp_call, wp_cl1, wp_cl2, wp_cl3, wp_cl4, wp_cl5, wp_meth, wp_isi, wp_oNone, wp_oSome, wp_sl, wp_it, wp_range1, wp_range2, wp_bYes, gEq_str, gNe_str, gEq_int, gNe_int, gEq_bl, gNe_bl, gIs_bl, gIsNot_bl, gAdd_int, gSub_int, gC_int, gI_int, gAdd_str, gAdd_tup, gAdd_lst, gNeg_int, gIx_tup, gIx_lst, gLen_tup, gLen_lst, gLen_str, gInt_int, gInt_bl, gTuple_lst, gTuple_tup, gList_lst, gList_tup, gSl_tup, gSl_lst, gSl_fl, gSl_str, srcL_tup, srcL_lst, srcL_fl, srcL_str, srcR1_int, typN, startR, List.map_cons, List.map_nil, List.length_cons, List.length_nil, Nat.reduceAdd, Nat.reduceSub, Nat.zero_add, Nat.sub_self, Nat.sub_zero, List.replicate_zero, List.replicate_succ, List.cons_append, List.nil_append, List.append_nil, List.getElem?_cons_zero, List.getElem?_cons_succ, List.set_cons_zero, List.set_cons_succ, List.set_nil, List.getElem?_nil, Option.some.injEq, exists_eq_left', exists_eq_left, exists_eq_right, reduceCtorEq, false_and, and_false, true_and, and_true, exists_false, exists_const, wipeR, Nat.zero_le, String.reduceEq, D.int.injEq, D.str.injEq, D.bl.injEq, atI_0, atI_1, atI_2, atI_3, atI_4, beq_self_eq_true, not_true_eq_false, not_false_eq_true, Int.cast_ofNat_Int, Int.reduceEq, Int.reduceLE, Int.reduceLT, Int.reduceAdd, Int.reduceSub, Int.reduceMul, Int.reduceNeg, if_true, if_false, ite_true, ite_false, Bool.false_eq_true, if_neg, if_pos, decide_eq_true_eq, Bool.not_eq_true', decide_eq_false_iff_not, eq_self_iff_true, decide_true, decide_false, Bool.not_true, Bool.not_false]
          exact draw_reg (by omega) dd hmp (by omega) fun v S'' hv d4 => ⟨hv, d4⟩
        rw [rangeD_len] at hl
        refine draw_ok (by omega) d3 (by decide) (by decide) fun v4 S4 p0 p1 d4 => ?_
        obtain ⟨wide, rfl⟩ := Int.eq_ofNat_of_zero_le p0
        refine ⟨by decide, by rw [rangeD_len]; exact small_line (by decide), ?_⟩
        refine comp_gen (CodeG deep args.length wide) d4 (fun d hd S' dd => ?_) (fun ys S5 hl2 hy2 d5 => ?_)
        · simp only [wp_ok, wp_ret, wp_stuck, wp_bad, wp_bnd, wp_if, wp_fif, wps_ok_nx, wps_ok_rt, wps_ok_bk, wps_ok_ct, wps_ok_xc, wps_bad, wps_lft, wps_seq, wps_nil, wps_ret, wps_expr, wps_asg, wps_if, wp_run, wps_for, wps_while, wp_comp, wp_var, wp_C, wp_bin, wp_un, wp_T, wp_Tb, wp_asBl, wp_truthBl, wp_bAnd, wp_bOr, wp_bNot, wp_eIf, wp_eAnd, wp_eOr, wp_eNot, blCase_bl, wp_chain, wp_aNil, wp_aCons, wp_tup, wp_lst, wp_lstM, wp_call, wp_cl1, wp_cl2, wp_cl3, wp_cl4, wp_cl5, wp_meth, wp_isi, wp_oNone, wp_oSome, wp_sl, wp_it, wp_range1, wp_range2, wp_bYes, gEq_str, gNe_str, gEq_int, gNe_int, gEq_bl, gNe_bl, gIs_bl, gIsNot_bl, gAdd_int, gSub_int, gC_int, gI_int, gAdd_str, gAdd_tup, gAdd_lst, gNeg_int, gIx_tup, gIx_lst, gLen_tup, gLen_lst, gLen_str, gInt_int, gInt_bl, gTuple_lst, gTuple_tup, gList_lst, gList_tup, gSl_tup, gSl_lst, gSl_fl, gSl_str, srcL_tup, srcL_lst, srcL_fl, srcL_str, srcR1_int, typN, startR, List.map_cons, List.map_nil, List.length_cons, List.length_nil, Nat.reduceAdd, Nat.reduceSub, Nat.zero_add, Nat.sub_self, Nat.sub_zero, List.replicate_zero, List.replicate_succ, List.cons_append, List.nil_append, List.append_nil, List.getElem?_cons_zero, List.getElem?_cons_succ, List.set_cons_zero, List.set_cons_succ, List.set_nil, List.getElem?_nil, Option.some.injEq, exists_eq_left', exists_eq_left, exists_eq_right, reduceCtorEq, false_and, and_false, true_and, and_true, exists_false, exists_const, wipeR, Nat.zero_le, String.reduceEq, D.int.injEq, D.str.injEq, D.bl.injEq, atI_0, atI_1, atI_2, atI_3, atI_4, beq_self_eq_true, not_true_eq_false, not_false_eq_true, Int.cast_ofNat_Int, Int.reduceEq, Int.reduceLE, Int.reduceLT, Int.reduceAdd, Int.reduceSub, Int.reduceMul, Int.reduceNeg, if_true, if_false, ite_true, ite_false, Bool.false_eq_true, if_neg, if_pos, decide_eq_true_eq, Bool.not_eq_true', decide_eq_false_iff_not, eq_self_iff_true, decide_true, decide_false, Bool.not_true, Bool.not_false]
          exact hC _ _ _ _ _ _ hdp (by omega) (by omega) (by omega) dd fun c S'' hc d5 => ⟨hc, d5⟩
        rw [rangeD_len] at hl2
        obtain ⟨a, b, rfl⟩ : ∃ a b, ys = [a, b] := by
          match ys, hl2 with
          | [a, b], _ => exact ⟨a, b, rfl⟩
        refine draw_reg (by omega) d5 hmp (by omega) fun v5 S6 hv5 d6 => ?_
        refine ⟨a, atI_0, b, atI_1, small_line (by decide), ?_⟩
        exact fin wide _ S6 (.inr (.inr (.inr ⟨v5, args, a, b, rfl, hv5, hy, by omega, by omega, hy2 a (by simp), hy2 b (by simp)⟩))) d6
    · simp only [ofString_inj, wp_ok, wp_ret, wp_stuck, wp_bad, wp_bnd, wp_if, wp_fif, wps_ok_nx, wps_ok_rt, wps_ok_bk, wps_ok_ct, wps_ok_xc, wps_bad, wps_lft, wps_seq, wps_nil, wps_ret, wps_expr, wps_asg, wps_if, wp_run, wps_for, wps_while, wp_comp, wp_var, wp_C, wp_bin, wp_un, wp_T, wp_Tb, wp_asBl, wp_truthBl, wp_bAnd, wp_bOr, wp_bNot, wp_eIf, wp_eAnd, wp_eOr, wp_eNot, blCase_bl, wp_chain, wp_aNil, wp_aCons, wp_tup, wp_lst, wp_lstM, wp_call, wp_cl1, wp_cl2, wp_cl3, wp_cl4, wp_cl5, wp_meth, wp_isi, wp_oNone, wp_oSome, wp_sl, wp_it, wp_range1, wp_range2, wp_bYes, gEq_str, gNe_str, gEq_int, gNe_int, gEq_bl, gNe_bl, gIs_bl, gIsNot_bl, gAdd_int, gSub_int, gC_int, gI_int, gAdd_str, gAdd_tup, gAdd_lst, gNeg_int, gIx_tup, gIx_lst, gLen_tup, gLen_lst, gLen_str, gInt_int, gInt_bl, gTuple_lst, gTuple_tup, gList_lst, gList_tup, gSl_tup, gSl_lst, gSl_fl, gSl_str, srcL_tup, srcL_lst, srcL_fl, srcL_str, srcR1_int, typN, startR, List.map_cons, List.map_nil, List.length_cons, List.length_nil, Nat.reduceAdd, Nat.reduceSub, Nat.zero_add, Nat.sub_self, Nat.sub_zero, List.replicate_zero, List.replicate_succ, List.cons_append, List.nil_append, List.append_nil, List.getElem?_cons_zero, List.getElem?_cons_succ, List.set_cons_zero, List.set_cons_succ, List.set_nil, List.getElem?_nil, Option.some.injEq, exists_eq_left', exists_eq_left, exists_eq_right, reduceCtorEq, false_and, and_false, true_and, and_true, exists_false, exists_const, wipeR, Nat.zero_le, String.reduceEq, D.int.injEq, D.str.injEq, D.bl.injEq, atI_0, atI_1, atI_2, atI_3, atI_4, beq_self_eq_true, not_true_eq_false, not_false_eq_true, Int.cast_ofNat_Int, Int.reduceEq, Int.reduceLE, Int.reduceLT, Int.reduceAdd, Int.reduceSub, Int.reduceMul, Int.reduceNeg, if_true, if_false, ite_true, ite_false, Bool.false_eq_true, if_neg, if_pos, decide_eq_true_eq, Bool.not_eq_true', decide_eq_false_iff_not, eq_self_iff_true, decide_true, decide_false, Bool.not_true, Bool.not_false]
      refine draw_reg (by omega) d1 hmp (by omega) fun v2 S2 hv2 d2 => ?_
      exact ⟨small_line (by decide), fin 1 _ S2 (.inr (.inl ⟨rfl, v2, rfl, hv2⟩)) d2⟩
    · simp only [n1, n2, n3, wp_ok, wp_ret, wp_stuck, wp_bad, wp_bnd, wp_if, wp_fif, wps_ok_nx, wps_ok_rt, wps_ok_bk, wps_ok_ct, wps_ok_xc, wps_bad, wps_lft, wps_seq, wps_nil, wps_ret, wps_expr, wps_asg, wps_if, wp_run, wps_for, wps_while, wp_comp, wp_var, wp_C, wp_bin, wp_un, wp_T, wp_Tb, wp_asBl, wp_truthBl, wp_bAnd, wp_bOr, wp_bNot, wp_eIf, wp_eAnd, wp_eOr, wp_eNot, blCase_bl, wp_chain, wp_aNil, wp_aCons, wp_tup, wp_lst, wp_lstM, wp_call, wp_cl1, wp_cl2, wp_cl3, wp_cl4, wp_cl5, wp_meth, wp_isi, wp_oNone, wp_oSome, wp_sl, wp_it, wp_range1, wp_range2, wp_bYes, gEq_str, gNe_str, gEq_int, gNe_int, gEq_bl, gNe_bl, gIs_bl, gIsNot_bl, gAdd_int, gSub_int, gC_int, gI_int, gAdd_str, gAdd_tup, gAdd_lst, gNeg_int, gIx_tup, gIx_lst, gLen_tup, gLen_lst, gLen_str, gInt_int, gInt_bl, gTuple_lst, gTuple_tup, gList_lst, gList_tup, gSl_tup, gSl_lst, gSl_fl, gSl_str, srcL_tup, srcL_lst, srcL_fl, srcL_str, srcR1_int, typN, startR, List.map_cons, List.map_nil, List.length_cons, List.length_nil, Nat.reduceAdd, Nat.reduceSub, Nat.zero_add, Nat.sub_self, Nat.sub_zero, List.replicate_zero, List.replicate_succ, List.cons_append, List.nil_append, List.append_nil, List.getElem?_cons_zero, List.getElem?_cons_succ, List.set_cons_zero, List.set_cons_succ, List.set_nil, List.getElem?_nil, Option.some.injEq, exists_eq_left', exists_eq_left, exists_eq_right, reduceCtorEq, false_and, and_false, true_and, and_true, exists_false, exists_const, wipeR, Nat.zero_le, String.reduceEq, D.int.injEq, D.str.injEq, D.bl.injEq, atI_0, atI_1, atI_2, atI_3, atI_4, beq_self_eq_true, not_true_eq_false, not_false_eq_true, Int.cast_ofNat_Int, Int.reduceEq, Int.reduceLE, Int.reduceLT, Int.reduceAdd, Int.reduceSub, Int.reduceMul, Int.reduceNeg, if_true, if_false, ite_true, ite_false, Bool.false_eq_true, if_neg, if_pos, decide_eq_true_eq, Bool.not_eq_true', decide_eq_false_iff_not, eq_self_iff_true, decide_true, decide_false, Bool.not_true, Bool.not_false]
      refine draw_reg (by omega) d1 hmp (by omega) fun v2 S2 hv2 d2 => ?_
      refine draw_reg (by omega) d2 hmp (by omega) fun v3 S3 hv3 d3 => ?_
      exact ⟨small_line (by decide), fin 1 _ S3 (.inr (.inr (.inl ⟨rfl, z, v2, v3, rfl, hp, hv2, hv3⟩))) d3⟩
theorem code_step (hfu : 1000 ≤ fu) (deep : Nat) (hO : ∀ (many N : Nat) (S0 S : Sto) (F : D → Sto → Prop) (E : Exc → Sto → Prop), many ≤ 100 → 13 + 2 * deep ≤ N → DK k S0 S → (∀ made op S', OpG (CodeG deep) many made op → DK k S0 S' → F op S') → wp (den fu N i_l_op [.ref k, .int many, .int deep] S) F E)
    (t w N : Nat) (S0 S : Sto) (F : D → Sto → Prop) (E : Exc → Sto → Prop) (ht : t ≤ 4) (hw : w ≤ 5) (hN : 14 + 2 * deep ≤ N) (h : DK k S0 S) (hF : ∀ c S', CodeG (deep + 1) t w c → DK k S0 S' → F c S') : wp (den fu N i_l_code [.ref k, .int t, .int w, .int deep] S) F E := by
  obtain ⟨N', rfl⟩ : ∃ N', N = N' + 1 := ⟨N - 1, by omega⟩
  show wp (runDef false 7 (b_l_code fu (den fu N')) _ _) _ _
  have hSl : S.length = S0.length := h.len
  have hk : k < S0.length := h.lt
  have hat : ∀ {ops : List D} {S' : Sto}, DK k (S0 ++ [.lst ops]) S' → atL S' S0.length = some ops := fun hd => by unfold atL; rw [(hd.last hk).1]
  simp only [b_l_code, hSl, wp_ok, wp_ret, wp_stuck, wp_bad, wp_bnd, wp_if, wp_fif, wps_ok_nx, wps_ok_rt, wps_ok_bk, wps_ok_ct, wps_ok_xc, wps_bad, wps_lft, wps_seq, wps_nil, wps_ret, wps_expr, wps_asg, wps_if, wp_run, wps_for, wps_while, wp_comp, wp_var, wp_C, wp_bin, wp_un, wp_T, wp_Tb, wp_asBl, wp_truthBl, wp_bAnd, wp_bOr, wp_bNot, wp_eIf, wp_eAnd, wp_eOr, wp_eNot, blCase_bl, wp_chain, wp_aNil, wp_aCons, wp_tup, wp_lst, wp_lstM, wp_call, wp_cl1, wp_cl2, wp_cl3, wp_cl4, wp_cl5, wp_meth, wp_isi, wp_oNone, wp_oSome, wp_sl, wp_it, wp_range1, wp_range2, wp_bYes, gEq_str, gNe_str, gEq_int, gNe_int, gEq_bl, gNe_bl, gIs_bl, gIsNot_bl, gAdd_int, gSub_int, gC_int, gI_int, gAdd_str, gAdd_tup, gAdd_lst, gNeg_int, gIx_tup, gIx_lst, gLen_tup, gLen_lst, gLen_str, gInt_int, gInt_bl, gTuple_lst, gTuple_tup, gList_lst, gList_tup, gSl_tup, gSl_lst, gSl_fl, gSl_str, srcL_tup, srcL_lst, srcL_fl, srcL_str, srcR1_int, typN, startR, List.map_cons, List.map_nil, List.length_cons, List.length_nil, Nat.reduceAdd, Nat.reduceSub, Nat.zero_add, Nat.sub_self, Nat.sub_zero, List.replicate_zero, List.replicate_succ, List.cons_append, List.nil_append, List.append_nil, List.getElem?_cons_zero, List.getElem?_cons_succ, List.set_cons_zero, List.set_cons_succ, List.set_nil, List.getElem?_nil, Option.some.injEq, exists_eq_left', exists_eq_left, exists_eq_right, reduceCtorEq, false_and, and_false, true_and, and_true, exists_false, exists_const, wipeR, Nat.zero_le, String.reduceEq, D.int.injEq, D.str.injEq, D.bl.injEq, atI_0, atI_1, atI_2, atI_3, atI_4, beq_self_eq_true, not_true_eq_false, not_false_eq_true, Int.cast_ofNat_Int, Int.reduceEq, Int.reduceLE, Int.reduceLT, Int.reduceAdd, Int.reduceSub, Int.reduceMul, Int.reduceNeg, if_true, if_false, ite_true, ite_false, Bool.false_eq_true, if_neg, if_pos, decide_eq_true_eq, Bool.not_eq_true', decide_eq_false_iff_not, eq_self_iff_true, decide_true, decide_false, Bool.not_true, Bool.not_false]
  have d0 : DK k (S0 ++ [.lst []]) (S ++ [.lst []]) := h.push rfl
  refine draw_ok (by omega) d0 (by decide) (by decide) fun v S1 hv0 hv1 d1 => ?_
  rw [gAdd_int, srcR1_int]
  have hn : 0 ≤ v + (if (t : Int) = 0 then (1 : Int) else 0) ∧ v + (if (t : Int) = 0 then (1 : Int) else 0) ≤ 6 := by by_cases h : (t : Int) = 0 <;> simp only [h, if_true, if_false] <;> omega
  obtain ⟨r0, r1⟩ := hn
  generalize v + (if (t : Int) = 0 then (1 : Int) else 0) = r at r0 r1
  refine ⟨by simp [bnd62]; omega, ?_⟩
  -- the codes end
  have fin : ∀ (ops : List D) (e : Nat) (S' : Sto), ops.length ≤ 7 → OpsG (CodeG deep) t ops e → 0 < e → DK k (S0 ++ [.lst ops]) S' → bnd62 (w : Int) = true ∧ (rangeD 0 (w : Int).toNat).length ≤ sizeLine ∧ wp (compM none (rangeD 0 (w : Int).toNat) (gN 6) bYes (eCall (cl 2 (den fu N' i_l_draw)) (aCons (eVar 0) (aCons (eVar 5) aNil))) [some (.ref k), some (.int t), some (.int w), some (.int deep), some (.ref S0.length), some (.int e), none] (rangeD 0 (w : Int).toNat) S') (fun ys S3 => 3 ≤ sizeLine ∧ wp (finD false S0.length (.tup [.int t, .tup ops, .tup ys]) S3) F E) nx := by
    intro ops e S' hl ho he hd
    have hle := ho.le
    refine ⟨by simp [bnd62]; omega, by rw [rangeD_len]; exact small_line (by omega), ?_⟩
    refine comp_gen (Reg e) hd (fun d _ S'' dd => ?_) (fun ys S3 hyl hy d3 => ?_)
    · simp only [wp_ok, wp_ret, wp_stuck, wp_bad, wp_bnd, wp_if, wp_fif, wps_ok_nx, wps_ok_rt, wps_ok_bk, wps_ok_ct, wps_ok_xc, wps_bad, wps_lft, wps_seq, wps_nil, wps_ret, wps_expr, wps_asg, wps_if, wp_run, wps_for, wps_while, wp_comp, wp_var, wp_C, wp_bin, wp_un, wp_T, wp_Tb, wp_asBl, wp_truthBl, wp_bAnd, wp_bOr, wp_bNot, wp_eIf, wp_eAnd, wp_eOr, wp_eNot, blCase_bl, wp_chain, wp_aNil, wp_aCons, wp_tup, wp_lst, wp_lstM, wp_call, wp_cl1, wp_cl2, wp_cl3, wp_cl4, wp_cl5, wp_meth, wp_isi, wp_oNone, wp_oSome, wp_sl, wp_it, wp_range1, wp_range2, wp_bYes, gEq_str, gNe_str, gEq_int, gNe_int, gEq_bl, gNe_bl, gIs_bl, gIsNot_bl, gAdd_int, gSub_int, gC_int, gI_int, gAdd_str, gAdd_tup, gAdd_lst, gNeg_int, gIx_tup, gIx_lst, gLen_tup, gLen_lst, gLen_str, gInt_int, gInt_bl, gTuple_lst, gTuple_tup, gList_lst, gList_tup, gSl_tup, gSl_lst, gSl_fl, gSl_str, srcL_tup, srcL_lst, srcL_fl, srcL_str, srcR1_int, typN, startR, List.map_cons, List.map_nil, List.length_cons, List.length_nil, Nat.reduceAdd, Nat.reduceSub, Nat.zero_add, Nat.sub_self, Nat.sub_zero, List.replicate_zero, List.replicate_succ, List.cons_append, List.nil_append, List.append_nil, List.getElem?_cons_zero, List.getElem?_cons_succ, List.set_cons_zero, List.set_cons_succ, List.set_nil, List.getElem?_nil, Option.some.injEq, exists_eq_left', exists_eq_left, exists_eq_right, reduceCtorEq, false_and, and_false, true_and, and_true, exists_false, exists_const, wipeR, Nat.zero_le, String.reduceEq, D.int.injEq, D.str.injEq, D.bl.injEq, atI_0, atI_1, atI_2, atI_3, atI_4, beq_self_eq_true, not_true_eq_false, not_false_eq_true, Int.cast_ofNat_Int, Int.reduceEq, Int.reduceLE, Int.reduceLT, Int.reduceAdd, Int.reduceSub, Int.reduceMul, Int.reduceNeg, if_true, if_false, ite_true, ite_false, Bool.false_eq_true, if_neg, if_pos, decide_eq_true_eq, Bool.not_eq_true', decide_eq_false_iff_not, eq_self_iff_true, decide_true, decide_false, Bool.not_true, Bool.not_false]
      exact draw_reg (by omega) dd he (by omega) fun v S4 hv d4 => ⟨hv, d4⟩
    rw [rangeD_len] at hyl
    have hG : CodeG (deep + 1) t w (.tup [.int t, .tup ops, .tup ys]) := ⟨ops, ys, e, rfl, hl, ht, ho, by simpa using hyl, hw, hy, he⟩
    refine ⟨small_line (by decide), ?_⟩
    have d5 := d3.pop hk
    exact fin_cut (S1 := S0) d3.wf' (CodeG.tr _ _ _ _ hG) (hF _ _ hG d5)
  refine wps_forM (fun i ρ S' => i ≤ r.toNat → ∃ (ops : List D) (m : Nat) (o : Option D), ρ = [some (.ref k), some (.int t), some (.int w), some (.int deep), some (.ref S0.length), some (.int m), o] ∧ ops.length = i ∧ OpsG (CodeG deep) t ops m ∧ DK k (S0 ++ [.lst ops]) S') (fun _ _ _ _ => trivial) ?_ ?_ (fun _ => ⟨[], t, none, rfl, rfl, rfl, d1⟩)
  · intro i d ρ S' hd hI
    have hlt := (List.getElem?_eq_some_iff.mp hd).1
    rw [rangeD_len] at hlt
    obtain ⟨ops, m, o, rfl, hl, ho, hd2⟩ := hI (by omega)
    have hle := ho.le
    refine ⟨_, rfl, ?_⟩
    simp only [isTy_ref (hat hd2), wp_ok, wp_ret, wp_stuck, wp_bad, wp_bnd, wp_if, wp_fif, wps_ok_nx, wps_ok_rt, wps_ok_bk, wps_ok_ct, wps_ok_xc, wps_bad, wps_lft, wps_seq, wps_nil, wps_ret, wps_expr, wps_asg, wps_if, wp_run, wps_for, wps_while, wp_comp, wp_var, wp_C, wp_bin, wp_un, wp_T, wp_Tb, wp_asBl, wp_truthBl, wp_bAnd, wp_bOr, wp_bNot, wp_eIf, wp_eAnd, wp_eOr, wp_eNot, blCase_bl, wp_chain, wp_aNil, wp_aCons, wp_tup, wp_lst, wp_lstM, wp_call, wp_cl1, wp_cl2, wp_cl3, wp_cl4, wp_cl5, wp_meth, wp_isi, wp_oNone, wp_oSome, wp_sl, wp_it, wp_range1, wp_range2, wp_bYes, gEq_str, gNe_str, gEq_int, gNe_int, gEq_bl, gNe_bl, gIs_bl, gIsNot_bl, gAdd_int, gSub_int, gC_int, gI_int, gAdd_str, gAdd_tup, gAdd_lst, gNeg_int, gIx_tup, gIx_lst, gLen_tup, gLen_lst, gLen_str, gInt_int, gInt_bl, gTuple_lst, gTuple_tup, gList_lst, gList_tup, gSl_tup, gSl_lst, gSl_fl, gSl_str, srcL_tup, srcL_lst, srcL_fl, srcL_str, srcR1_int, typN, startR, List.map_cons, List.map_nil, List.length_cons, List.length_nil, Nat.reduceAdd, Nat.reduceSub, Nat.zero_add, Nat.sub_self, Nat.sub_zero, List.replicate_zero, List.replicate_succ, List.cons_append, List.nil_append, List.append_nil, List.getElem?_cons_zero, List.getElem?_cons_succ, List.set_cons_zero, List.set_cons_succ, List.set_nil, List.getElem?_nil, Option.some.injEq, exists_eq_left', exists_eq_left, exists_eq_right, reduceCtorEq, false_and, and_false, true_and, and_true, exists_false, exists_const, wipeR, Nat.zero_le, String.reduceEq, D.int.injEq, D.str.injEq, D.bl.injEq, atI_0, atI_1, atI_2, atI_3, atI_4, beq_self_eq_true, not_true_eq_false, not_false_eq_true, Int.cast_ofNat_Int, Int.reduceEq, Int.reduceLE, Int.reduceLT, Int.reduceAdd, Int.reduceSub, Int.reduceMul, Int.reduceNeg, if_true, if_false, ite_true, ite_false, Bool.false_eq_true, if_neg, if_pos, decide_eq_true_eq, Bool.not_eq_true', decide_eq_false_iff_not, eq_self_iff_true, decide_true, decide_false, Bool.not_true, Bool.not_false]
    refine hO m N' _ _ _ _ (by omega) (by omega) hd2 fun made op S2 hop hd3 => ?_
    have hoo : OpsG (CodeG deep) t (ops ++ [op]) (m + made) := ho.app ⟨made, hop, rfl⟩
    have hd4 := hd3.put hk (m' := .lst (ops ++ [op])) (trs (hoo.all (CodeG.tr deep)))
    rw [gAppend_ref (hat hd3)]
    refine ⟨by rw [sizeLine_eq]; omega, ?_⟩
    simp only [gIx_seq (show iLst _ (.ref S0.length) = some (ops ++ [op]) from hat hd4), atI_last, wp_ok, wp_ret, wp_stuck, wp_bad, wp_bnd, wp_if, wp_fif, wps_ok_nx, wps_ok_rt, wps_ok_bk, wps_ok_ct, wps_ok_xc, wps_bad, wps_lft, wps_seq, wps_nil, wps_ret, wps_expr, wps_asg, wps_if, wp_run, wps_for, wps_while, wp_comp, wp_var, wp_C, wp_bin, wp_un, wp_T, wp_Tb, wp_asBl, wp_truthBl, wp_bAnd, wp_bOr, wp_bNot, wp_eIf, wp_eAnd, wp_eOr, wp_eNot, blCase_bl, wp_chain, wp_aNil, wp_aCons, wp_tup, wp_lst, wp_lstM, wp_call, wp_cl1, wp_cl2, wp_cl3, wp_cl4, wp_cl5, wp_meth, wp_isi, wp_oNone, wp_oSome, wp_sl, wp_it, wp_range1, wp_range2, wp_bYes, gEq_str, gNe_str, gEq_int, gNe_int, gEq_bl, gNe_bl, gIs_bl, gIsNot_bl, gAdd_int, gSub_int, gC_int, gI_int, gAdd_str, gAdd_tup, gAdd_lst, gNeg_int, gIx_tup, gIx_lst, gLen_tup, gLen_lst, gLen_str, gInt_int, gInt_bl, gTuple_lst, gTuple_tup, gList_lst, gList_tup, gSl_tup, gSl_lst, gSl_fl, gSl_str, srcL_tup, srcL_lst, srcL_fl, srcL_str, srcR1_int, typN, startR, List.map_cons, List.map_nil, List.length_cons, List.length_nil, Nat.reduceAdd, Nat.reduceSub, Nat.zero_add, Nat.sub_self, Nat.sub_zero, List.replicate_zero, List.replicate_succ, List.cons_append, List.nil_append, List.append_nil, List.getElem?_cons_zero, List.getElem?_cons_succ, List.set_cons_zero, List.set_cons_succ, List.set_nil, List.getElem?_nil, Option.some.injEq, exists_eq_left', exists_eq_left, exists_eq_right, reduceCtorEq, false_and, and_false, true_and, and_true, exists_false, exists_const, wipeR, Nat.zero_le, String.reduceEq, D.int.injEq, D.str.injEq, D.bl.injEq, atI_0, atI_1, atI_2, atI_3, atI_4, beq_self_eq_true, not_true_eq_false, not_false_eq_true, Int.cast_ofNat_Int, Int.reduceEq, Int.reduceLE, Int.reduceLT, Int.reduceAdd, Int.reduceSub, Int.reduceMul, Int.reduceNeg, if_true, if_false, ite_true, ite_false, Bool.false_eq_true, if_neg, if_pos, decide_eq_true_eq, Bool.not_eq_true', decide_eq_false_iff_not, eq_self_iff_true, decide_true, decide_false, Bool.not_true, Bool.not_false]
    obtain ⟨N'', rfl⟩ : ∃ N'', N' = N'' + 1 := ⟨N' - 1, by omega⟩
    refine lmade_ok hd4.wf' hop ?_
    exact fun _ => ⟨ops ++ [op], m + made, some d, by simp, by simp [hl], hoo, hd4⟩
  · intro ρ S' hI
    rw [rangeD_len] at hI
    obtain ⟨ops, m, o, rfl, hl, ho, hd2⟩ := hI (Nat.le_refl _)
    have hle := ho.le
    simp only [wp_ok, wp_ret, wp_stuck, wp_bad, wp_bnd, wp_if, wp_fif, wps_ok_nx, wps_ok_rt, wps_ok_bk, wps_ok_ct, wps_ok_xc, wps_bad, wps_lft, wps_seq, wps_nil, wps_ret, wps_expr, wps_asg, wps_if, wp_run, wps_for, wps_while, wp_comp, wp_var, wp_C, wp_bin, wp_un, wp_T, wp_Tb, wp_asBl, wp_truthBl, wp_bAnd, wp_bOr, wp_bNot, wp_eIf, wp_eAnd, wp_eOr, wp_eNot, blCase_bl, wp_chain, wp_aNil, wp_aCons, wp_tup, wp_lst, wp_lstM, wp_call, wp_cl1, wp_cl2, wp_cl3, wp_cl4, wp_cl5, wp_meth, wp_isi, wp_oNone, wp_oSome, wp_sl, wp_it, wp_range1, wp_range2, wp_bYes, gEq_str, gNe_str, gEq_int, gNe_int, gEq_bl, gNe_bl, gIs_bl, gIsNot_bl, gAdd_int, gSub_int, gC_int, gI_int, gAdd_str, gAdd_tup, gAdd_lst, gNeg_int, gIx_tup, gIx_lst, gLen_tup, gLen_lst, gLen_str, gInt_int, gInt_bl, gTuple_lst, gTuple_tup, gList_lst, gList_tup, gSl_tup, gSl_lst, gSl_fl, gSl_str, srcL_tup, srcL_lst, srcL_fl, srcL_str, srcR1_int, typN, startR, List.map_cons, List.map_nil, List.length_cons, List.length_nil, Nat.reduceAdd, Nat.reduceSub, Nat.zero_add, Nat.sub_self, Nat.sub_zero, List.replicate_zero, List.replicate_succ, List.cons_append, List.nil_append, List.append_nil, List.getElem?_cons_zero, List.getElem?_cons_succ, List.set_cons_zero, List.set_cons_succ, List.set_nil, List.getElem?_nil, Option.some.injEq, exists_eq_left', exists_eq_left, exists_eq_right, reduceCtorEq, false_and, and_false, true_and, and_true, exists_false, exists_const, wipeR, Nat.zero_le, String.reduceEq, D.int.injEq, D.str.injEq, D.bl.injEq, atI_0, atI_1, atI_2, atI_3, atI_4, beq_self_eq_true, not_true_eq_false, not_false_eq_true, Int.cast_ofNat_Int, Int.reduceEq, Int.reduceLE, Int.reduceLT, Int.reduceAdd, Int.reduceSub, Int.reduceMul, Int.reduceNeg, if_true, if_false, ite_true, ite_false, Bool.false_eq_true, if_neg, if_pos, decide_eq_true_eq, Bool.not_eq_true', decide_eq_false_iff_not, eq_self_iff_true, decide_true, decide_false, Bool.not_true, Bool.not_false]
    by_cases hm0 : (m : Int) = 0
    · simp only [hm0, isTy_ref (hat hd2), wp_ok, wp_ret, wp_stuck, wp_bad, wp_bnd, wp_if, wp_fif, wps_ok_nx, wps_ok_rt, wps_ok_bk, wps_ok_ct, wps_ok_xc, wps_bad, wps_lft, wps_seq, wps_nil, wps_ret, wps_expr, wps_asg, wps_if, wp_run, wps_for, wps_while, wp_comp, wp_var, wp_C, wp_bin, wp_un, wp_T, wp_Tb, wp_asBl, wp_truthBl, wp_bAnd, wp_bOr, wp_bNot, wp_eIf, wp_eAnd, wp_eOr, wp_eNot, blCase_bl, wp_chain, wp_aNil, wp_aCons, wp_tup, wp_lst, wp_lstM, wp_call, wp_cl1, wp_cl2, wp_cl3, wp_cl4, wp_cl5, wp_meth, wp_isi, wp_oNone, wp_oSome, wp_sl, wp_it, wp_range1, wp_range2, wp_bYes, gEq_str, gNe_str, gEq_int, gNe_int, gEq_bl, gNe_bl, gIs_bl, gIsNot_bl, gAdd_int, gSub_int, gC_int, gI_int, gAdd_str, gAdd_tup, gAdd_lst, gNeg_int, gIx_tup, gIx_lst, gLen_tup, gLen_lst, gLen_str, gInt_int, gInt_bl, gTuple_lst, gTuple_tup, gList_lst, gList_tup, gSl_tup, gSl_lst, gSl_fl, gSl_str, srcL_tup, srcL_lst, srcL_fl, srcL_str, srcR1_int, typN, startR, List.map_cons, List.map_nil, List.length_cons, List.length_nil, Nat.reduceAdd, Nat.reduceSub, Nat.zero_add, Nat.sub_self, Nat.sub_zero, List.replicate_zero, List.replicate_succ, List.cons_append, List.nil_append, List.append_nil, List.getElem?_cons_zero, List.getElem?_cons_succ, List.set_cons_zero, List.set_cons_succ, List.set_nil, List.getElem?_nil, Option.some.injEq, exists_eq_left', exists_eq_left, exists_eq_right, reduceCtorEq, false_and, and_false, true_and, and_true, exists_false, exists_const, wipeR, Nat.zero_le, String.reduceEq, D.int.injEq, D.str.injEq, D.bl.injEq, atI_0, atI_1, atI_2, atI_3, atI_4, beq_self_eq_true, not_true_eq_false, not_false_eq_true, Int.cast_ofNat_Int, Int.reduceEq, Int.reduceLE, Int.reduceLT, Int.reduceAdd, Int.reduceSub, Int.reduceMul, Int.reduceNeg, if_true, if_false, ite_true, ite_false, Bool.false_eq_true, if_neg, if_pos, decide_eq_true_eq, Bool.not_eq_true', decide_eq_false_iff_not, eq_self_iff_true, decide_true, decide_false, Bool.not_true, Bool.not_false]
      refine thing_gen hfu 1 N' _ _ _ (by omega) hd2 fun x S2 hx hd3 => ⟨small_line (by decide), ?_⟩
      have hoo : OpsG (CodeG deep) t (ops ++ [.tup [.str "push", x]]) 1 := ho.app ⟨1, .inl ⟨rfl, x, rfl, hx.mono⟩, by show 1 = m + 1; omega⟩
      have hd4 := hd3.put hk (m' := .lst (ops ++ [.tup [.str "push", x]])) (trs (hoo.all (CodeG.tr deep)))
      rw [gAppend_ref (hat hd3)]
      refine ⟨by rw [sizeLine_eq]; omega, ?_⟩
      rw [gTuple_seq (show iLst _ (.ref S0.length) = some (ops ++ [.tup [.str "push", x]]) from hat hd4)]
      exact fin _ 1 _ (by simp; omega) hoo (by decide) hd4
    · simp only [hm0, wp_ok, wp_ret, wp_stuck, wp_bad, wp_bnd, wp_if, wp_fif, wps_ok_nx, wps_ok_rt, wps_ok_bk, wps_ok_ct, wps_ok_xc, wps_bad, wps_lft, wps_seq, wps_nil, wps_ret, wps_expr, wps_asg, wps_if, wp_run, wps_for, wps_while, wp_comp, wp_var, wp_C, wp_bin, wp_un, wp_T, wp_Tb, wp_asBl, wp_truthBl, wp_bAnd, wp_bOr, wp_bNot, wp_eIf, wp_eAnd, wp_eOr, wp_eNot, blCase_bl, wp_chain, wp_aNil, wp_aCons, wp_tup, wp_lst, wp_lstM, wp_call, wp_cl1, wp_cl2, wp_cl3, wp_cl4, wp_cl5, wp_meth, wp_isi, wp_oNone, wp_oSome, wp_sl, wp_it, wp_range1, wp_range2, wp_bYes, gEq_str, gNe_str, gEq_int, gNe_int, gEq_bl, gNe_bl, gIs_bl, gIsNot_bl, gAdd_int, gSub_int, gC_int, gI_int, gAdd_str, gAdd_tup, gAdd_lst, gNeg_int, gIx_tup, gIx_lst, gLen_tup, gLen_lst, gLen_str, gInt_int, gInt_bl, gTuple_lst, gTuple_tup, gList_lst, gList_tup, gSl_tup, gSl_lst, gSl_fl, gSl_str, srcL_tup, srcL_lst, srcL_fl, srcL_str, srcR1_int, typN, startR, List.map_cons, List.map_nil, List.length_cons, List.length_nil, Nat.reduceAdd, Nat.reduceSub, Nat.zero_add, Nat.sub_self, Nat.sub_zero, List.replicate_zero, List.replicate_succ, List.cons_append, List.nil_append, List.append_nil, List.getElem?_cons_zero, List.getElem?_cons_succ, List.set_cons_zero, List.set_cons_succ, List.set_nil, List.getElem?_nil, Option.some.injEq, exists_eq_left', exists_eq_left, exists_eq_right, reduceCtorEq, false_and, and_false, true_and, and_true, exists_false, exists_const, wipeR, Nat.zero_le, String.reduceEq, D.int.injEq, D.str.injEq, D.bl.injEq, atI_0, atI_1, atI_2, atI_3, atI_4, beq_self_eq_true, not_true_eq_false, not_false_eq_true, Int.cast_ofNat_Int, Int.reduceEq, Int.reduceLE, Int.reduceLT, Int.reduceAdd, Int.reduceSub, Int.reduceMul, Int.reduceNeg, if_true, if_false, ite_true, ite_false, Bool.false_eq_true, if_neg, if_pos, decide_eq_true_eq, Bool.not_eq_true', decide_eq_false_iff_not, eq_self_iff_true, decide_true, decide_false, Bool.not_true, Bool.not_false]
      rw [gTuple_seq (show iLst _ (.ref S0.length) = some ops from hat hd2)]
      exact fin ops m S' (by omega) ho (by omega) hd2
theorem code_gen (hfu : 1000 ≤ fu) : ∀ (deep t w N : Nat) (S0 S : Sto) (F : D → Sto → Prop) (E : Exc → Sto → Prop), t ≤ 4 → w ≤ 5 → 14 + 2 * deep ≤ N → DK k S0 S → (∀ c S', CodeG (deep + 1) t w c → DK k S0 S' → F c S') → wp (den fu N i_l_code [.ref k, .int t, .int w, .int deep] S) F E
  | 0 => code_step hfu 0 fun many N S0 S F E hm hN h hF => op_gen hfu 0 (fun _ _ _ _ _ _ h => absurd h (by decide)) hm hN h hF
  | deep + 1 => code_step hfu (deep + 1) fun many N S0 S F E hm hN h hF => op_gen hfu (deep + 1) (fun t w N S F E _ ht hw hN h hF => by
      rw [show ((deep + 1 : Nat) : Int) - 1 = (deep : Int) by omega]
      exact code_gen hfu deep t w N S0 S F E ht hw (by omega) h hF) hm hN h hF
end K64

namespace K64
open PySem L2 DL
variable {fu n k : Nat} {S S0 : Sto} {F : D → Sto → Prop} {E : Exc → Sto → Prop}
/-! things, how great and how deep they are -/
def ThB (B : Nat) : Nat → D → Prop
  | 0, d => Num d
  | k + 1, d => Num d ∨ (∃ ws, d = .tup [.str "row", .tup ws] ∧ ws.length ≤ B ∧ ∀ w ∈ ws, WdS w ∨ ∃ t, w = .tup [.str "push", t] ∧ ThB B k t) ∨
      (∃ ts, d = .tup [.str "list", .tup ts] ∧ ts.length ≤ B ∧ ∀ t ∈ ts, ThB B k t)
def WdB (B k : Nat) (w : D) : Prop := WdS w ∨ ∃ t, w = .tup [.str "push", t] ∧ ThB B k t
theorem ThB.num {B : Nat} {d : D} (h : Num d) : ∀ k, ThB B k d
  | 0 => h
  | _ + 1 => .inl h
theorem ThB.of : ∀ {k : Nat} {d : D}, ThG k d → ThB 1000 k d
  | 0, d, h => h
  | k + 1, d, h => by
    rcases h with h | ⟨ws, e, hl, h⟩ | ⟨ts, e, hl, h⟩
    · exact .inl h
    · refine .inr (.inl ⟨ws, e, hl, fun w hw => ?_⟩)
      rcases h w hw with q | ⟨t, e, q⟩
      · exact .inl q
      · exact .inr ⟨t, e, ThB.of q⟩
    · exact .inr (.inr ⟨ts, e, hl, fun t ht => ThB.of (h t ht)⟩)
theorem ThB.mono {B B' : Nat} (hB : B ≤ B') : ∀ {k k' : Nat} {d : D}, k ≤ k' → ThB B k d → ThB B' k' d
  | 0, 0, d, _, h => h
  | 0, k' + 1, d, _, h => .inl h
  | k + 1, 0, d, hk, _ => absurd hk (by omega)
  | k + 1, k' + 1, d, hk, h => by
    rcases h with h | ⟨ws, e, hl, h⟩ | ⟨ts, e, hl, h⟩
    · exact .inl h
    · refine .inr (.inl ⟨ws, e, by omega, fun w hw => ?_⟩)
      rcases h w hw with q | ⟨t, e, q⟩
      · exact .inl q
      · exact .inr ⟨t, e, ThB.mono hB (by omega) q⟩
    · exact .inr (.inr ⟨ts, e, by omega, fun t ht => ThB.mono hB (by omega) (h t ht)⟩)
theorem WdB.tr_of {B k : Nat} (hT : ∀ t, ThB B k t → DL.tr t) {w : D} (h : WdB B k w) : DL.tr w := by
  rcases h with q | ⟨t, rfl, q⟩
  · exact q.tr
  · exact tr_tup fun d hd => by
      simp only [List.mem_cons, List.not_mem_nil, or_false] at hd
      rcases hd with rfl | rfl
      · rfl
      · exact hT _ q
theorem tr2 {k : Str} {d : D} (h : tr d) : tr (.tup [.str k, d]) := tr_tup fun x hx => by
  simp only [List.mem_cons, List.not_mem_nil, or_false] at hx
  rcases hx with rfl | rfl
  · rfl
  · exact h
theorem ThB.tr {B : Nat} : ∀ {k : Nat} {d : D}, ThB B k d → DL.tr d
  | 0, d, ⟨i, e, _⟩ => by subst e; rfl
  | k + 1, d, h => by
    rcases h with ⟨i, rfl, _⟩ | ⟨ws, rfl, _, h⟩ | ⟨ts, rfl, _, h⟩
    · rfl
    · exact tr2 (tr_tup fun w hw => WdB.tr_of (fun t ht => ThB.tr ht) (h w hw))
    · exact tr2 (tr_tup fun t ht => ThB.tr (h t ht))
/-- how great: itself and what is in it -/
def szT : Nat → D → Nat
  | J + 1, .tup [.str k, .tup xs] => 1 + if k = Str.ofString "row" then xs.length + ((pushed xs).map (szT J)).sum else (xs.map (szT J)).sum
  | _, _ => 1
def dpT : Nat → D → Nat
  | J + 1, .tup [.str k, .tup xs] => 1 + ((if k = Str.ofString "row" then pushed xs else xs).map (dpT J)).foldl max 0
  | _, _ => 0
theorem szT_row {J : Nat} {xs : List D} : szT (J + 1) (.tup [.str "row", .tup xs]) = 1 + (xs.length + ((pushed xs).map (szT J)).sum) := by simp only [szT, if_true]
theorem szT_list {J : Nat} {xs : List D} : szT (J + 1) (.tup [.str "list", .tup xs]) = 1 + (xs.map (szT J)).sum := by simp only [szT, ofString_inj, Nat.zero_le, String.reduceEq, D.int.injEq, D.str.injEq, D.bl.injEq, atI_0, atI_1, atI_2, atI_3, atI_4, beq_self_eq_true, not_true_eq_false, not_false_eq_true, Int.cast_ofNat_Int, Int.reduceEq, Int.reduceLE, Int.reduceLT, Int.reduceAdd, Int.reduceSub, Int.reduceMul, Int.reduceNeg, if_true, if_false, ite_true, ite_false, Bool.false_eq_true, if_neg, if_pos, decide_eq_true_eq, Bool.not_eq_true', decide_eq_false_iff_not, eq_self_iff_true, decide_true, decide_false, Bool.not_true, Bool.not_false]
theorem szT_num {J : Nat} {d : D} (h : Num d) : szT J d = 1 := by obtain ⟨i, rfl, _⟩ := h; cases J <;> rfl
theorem dpT_row {J : Nat} {xs : List D} : dpT (J + 1) (.tup [.str "row", .tup xs]) = 1 + ((pushed xs).map (dpT J)).foldl max 0 := by simp only [dpT, if_true]
theorem dpT_list {J : Nat} {xs : List D} : dpT (J + 1) (.tup [.str "list", .tup xs]) = 1 + (xs.map (dpT J)).foldl max 0 := by simp only [dpT, ofString_inj, Nat.zero_le, String.reduceEq, D.int.injEq, D.str.injEq, D.bl.injEq, atI_0, atI_1, atI_2, atI_3, atI_4, beq_self_eq_true, not_true_eq_false, not_false_eq_true, Int.cast_ofNat_Int, Int.reduceEq, Int.reduceLE, Int.reduceLT, Int.reduceAdd, Int.reduceSub, Int.reduceMul, Int.reduceNeg, if_true, if_false, ite_true, ite_false, Bool.false_eq_true, if_neg, if_pos, decide_eq_true_eq, Bool.not_eq_true', decide_eq_false_iff_not, eq_self_iff_true, decide_true, decide_false, Bool.not_true, Bool.not_false]
theorem dpT_num {J : Nat} {d : D} (h : Num d) : dpT J d = 0 := by obtain ⟨i, rfl, _⟩ := h; cases J <;> rfl
theorem pushed_goodB {B j : Nat} : ∀ {ws : List D}, (∀ w ∈ ws, WdB B j w) → ∀ t ∈ pushed ws, ThB B j t
  | [], _, t, h => by simp [pushed] at h
  | w :: r, hw, t, h => by
    have ih := pushed_goodB (B := B) (j := j) (fun w hw' => hw w (List.mem_cons_of_mem _ hw')) t
    rcases hw w List.mem_cons_self with ⟨z, rfl, _⟩ | ⟨u, rfl, hu⟩
    · exact ih (by simpa [pushed] using h)
    · simp only [pushed, List.mem_cons] at h
      rcases h with rfl | h
      · exact hu
      · exact ih h
theorem pushed_mem {t : D} {k : D} : ∀ {ws : List D}, D.tup [k, t] ∈ ws → t ∈ pushed ws
  | [], h => absurd h List.not_mem_nil
  | w :: r, h => by
    rcases List.mem_cons.mp h with e | h
    · rw [← e]; simp [pushed]
    · have := pushed_mem h
      unfold pushed
      split
      · rename_i e; cases e
      · rename_i e
        injection e with e1 e2
        subst e2
        exact List.mem_cons_of_mem _ this
      · rename_i e
        injection e with e1 e2
        subst e2
        exact this
theorem comp_pushedB {B : Nat} {ws : List D} {ρ : Rho} {S : Sto} {FF : List D → Sto → Prop} {i j : Nat} (hi : ∀ d : D, (ρ.set i (some d))[i]? = some (some d)) (hw : ∀ w ∈ ws, WdB B j w) (h : FF (pushed ws) S) :
    wp (compM none ws (gN i) (eT (eIsi "tuple" (eVar i))) (eBin gIx (eVar i) (eC (.int 1))) ρ ws S) FF nx := by
  refine wp_compM (fun k ys S' => S' = S ∧ ys = pushed (ws.take k)) (fun _ _ _ _ => trivial) (fun k d ys S' hd hk => ?_) (fun ys S' hk => ?_) ⟨rfl, rfl⟩
  · obtain ⟨rfl, rfl⟩ := hk
    refine ⟨_, rfl, ?_⟩
    have e : ws.take (k + 1) = ws.take k ++ [d] := by rw [List.take_succ, hd]; rfl
    rw [e, pushed_app]
    rcases hw d (List.mem_of_getElem? hd) with ⟨z, rfl, _⟩ | ⟨u, rfl, hu⟩
    · simp only [hi, isiN_st, pushed, wp_ok, wp_ret, wp_stuck, wp_bad, wp_bnd, wp_if, wp_fif, wps_ok_nx, wps_ok_rt, wps_ok_bk, wps_ok_ct, wps_ok_xc, wps_bad, wps_lft, wps_seq, wps_nil, wps_ret, wps_expr, wps_asg, wps_if, wp_run, wps_for, wps_while, wp_comp, wp_var, wp_C, wp_bin, wp_un, wp_T, wp_Tb, wp_asBl, wp_truthBl, wp_bAnd, wp_bOr, wp_bNot, wp_eIf, wp_eAnd, wp_eOr, wp_eNot, blCase_bl, wp_chain, wp_aNil, wp_aCons, wp_tup, wp_lst, wp_lstM, wp_call, wp_cl1, wp_cl2, wp_cl3, wp_cl4, wp_cl5, wp_meth, wp_isi, wp_oNone, wp_oSome, wp_sl, wp_it, wp_range1, wp_range2, wp_bYes, gEq_str, gNe_str, gEq_int, gNe_int, gEq_bl, gNe_bl, gIs_bl, gIsNot_bl, gAdd_int, gSub_int, gC_int, gI_int, gAdd_str, gAdd_tup, gAdd_lst, gNeg_int, gIx_tup, gIx_lst, gLen_tup, gLen_lst, gLen_str, gInt_int, gInt_bl, gTuple_lst, gTuple_tup, gList_lst, gList_tup, gSl_tup, gSl_lst, gSl_fl, gSl_str, srcL_tup, srcL_lst, srcL_fl, srcL_str, srcR1_int, typN, startR, List.map_cons, List.map_nil, List.length_cons, List.length_nil, Nat.reduceAdd, Nat.reduceSub, Nat.zero_add, Nat.sub_self, Nat.sub_zero, List.replicate_zero, List.replicate_succ, List.cons_append, List.nil_append, List.append_nil, List.getElem?_cons_zero, List.getElem?_cons_succ, List.set_cons_zero, List.set_cons_succ, List.set_nil, List.getElem?_nil, Option.some.injEq, exists_eq_left', exists_eq_left, exists_eq_right, reduceCtorEq, false_and, and_false, true_and, and_true, exists_false, exists_const, wipeR, Nat.zero_le, String.reduceEq, D.int.injEq, D.str.injEq, D.bl.injEq, atI_0, atI_1, atI_2, atI_3, atI_4, beq_self_eq_true, not_true_eq_false, not_false_eq_true, Int.cast_ofNat_Int, Int.reduceEq, Int.reduceLE, Int.reduceLT, Int.reduceAdd, Int.reduceSub, Int.reduceMul, Int.reduceNeg, if_true, if_false, ite_true, ite_false, Bool.false_eq_true, if_neg, if_pos, decide_eq_true_eq, Bool.not_eq_true', decide_eq_false_iff_not, eq_self_iff_true, decide_true, decide_false, Bool.not_true, Bool.not_false]
    · simp only [hi, isiN_tt, pushed, wp_ok, wp_ret, wp_stuck, wp_bad, wp_bnd, wp_if, wp_fif, wps_ok_nx, wps_ok_rt, wps_ok_bk, wps_ok_ct, wps_ok_xc, wps_bad, wps_lft, wps_seq, wps_nil, wps_ret, wps_expr, wps_asg, wps_if, wp_run, wps_for, wps_while, wp_comp, wp_var, wp_C, wp_bin, wp_un, wp_T, wp_Tb, wp_asBl, wp_truthBl, wp_bAnd, wp_bOr, wp_bNot, wp_eIf, wp_eAnd, wp_eOr, wp_eNot, blCase_bl, wp_chain, wp_aNil, wp_aCons, wp_tup, wp_lst, wp_lstM, wp_call, wp_cl1, wp_cl2, wp_cl3, wp_cl4, wp_cl5, wp_meth, wp_isi, wp_oNone, wp_oSome, wp_sl, wp_it, wp_range1, wp_range2, wp_bYes, gEq_str, gNe_str, gEq_int, gNe_int, gEq_bl, gNe_bl, gIs_bl, gIsNot_bl, gAdd_int, gSub_int, gC_int, gI_int, gAdd_str, gAdd_tup, gAdd_lst, gNeg_int, gIx_tup, gIx_lst, gLen_tup, gLen_lst, gLen_str, gInt_int, gInt_bl, gTuple_lst, gTuple_tup, gList_lst, gList_tup, gSl_tup, gSl_lst, gSl_fl, gSl_str, srcL_tup, srcL_lst, srcL_fl, srcL_str, srcR1_int, typN, startR, List.map_cons, List.map_nil, List.length_cons, List.length_nil, Nat.reduceAdd, Nat.reduceSub, Nat.zero_add, Nat.sub_self, Nat.sub_zero, List.replicate_zero, List.replicate_succ, List.cons_append, List.nil_append, List.append_nil, List.getElem?_cons_zero, List.getElem?_cons_succ, List.set_cons_zero, List.set_cons_succ, List.set_nil, List.getElem?_nil, Option.some.injEq, exists_eq_left', exists_eq_left, exists_eq_right, reduceCtorEq, false_and, and_false, true_and, and_true, exists_false, exists_const, wipeR, Nat.zero_le, String.reduceEq, D.int.injEq, D.str.injEq, D.bl.injEq, atI_0, atI_1, atI_2, atI_3, atI_4, beq_self_eq_true, not_true_eq_false, not_false_eq_true, Int.cast_ofNat_Int, Int.reduceEq, Int.reduceLE, Int.reduceLT, Int.reduceAdd, Int.reduceSub, Int.reduceMul, Int.reduceNeg, if_true, if_false, ite_true, ite_false, Bool.false_eq_true, if_neg, if_pos, decide_eq_true_eq, Bool.not_eq_true', decide_eq_false_iff_not, eq_self_iff_true, decide_true, decide_false, Bool.not_true, Bool.not_false]
  · obtain ⟨rfl, rfl⟩ := hk
    rw [List.take_length]
    exact h
theorem le_sum {f : D → Nat} : ∀ {l : List D} {x : D}, x ∈ l → f x ≤ (l.map f).sum
  | y :: l, x, h => by
    simp only [List.map_cons, List.sum_cons]
    rcases List.mem_cons.mp h with rfl | h
    · omega
    · have := le_sum (f := f) h; omega
theorem le_foldl {f : D → Nat} : ∀ {l : List D} {x : D} (a : Nat), x ∈ l → f x ≤ (l.map f).foldl max a ∧ a ≤ (l.map f).foldl max a := by
  have base : ∀ (l : List Nat) (a : Nat), a ≤ l.foldl max a := by
    intro l
    induction l with
    | nil => intro a; exact Nat.le_refl _
    | cons y l ih => intro a; exact Nat.le_trans (Nat.le_max_left a y) (ih _)
  intro l
  induction l with
  | nil => intro x a h; exact absurd h List.not_mem_nil
  | cons y l ih =>
    intro x a h
    refine ⟨?_, base _ a⟩
    simp only [List.map_cons, List.foldl_cons]
    rcases List.mem_cons.mp h with rfl | h
    · exact Nat.le_trans (Nat.le_max_right a _) (base _ _)
    · exact (ih _ h).1
/-- what isn't great -/
theorem ThB.small {B : Nat} : ∀ {j J s h : Nat} {d : D}, j ≤ J → ThB B j d → szT J d ≤ s → dpT J d ≤ h → ThB s h d
  | 0, J, s, h, d, _, q, _, _ => ThB.num q h
  | j + 1, 0, s, h, d, hJ, _, _, _ => absurd hJ (by omega)
  | j + 1, J + 1, s, h, d, hJ, q, h1, h2 => by
    rcases q with q | ⟨ws, rfl, hl, q⟩ | ⟨ts, rfl, hl, q⟩
    · exact ThB.num q h
    · rw [szT_row] at h1
      rw [dpT_row] at h2
      obtain ⟨h', rfl⟩ : ∃ h', h = h' + 1 := ⟨h - 1, by omega⟩
      refine .inr (.inl ⟨ws, rfl, by omega, fun w hw => ?_⟩)
      rcases q w hw with q' | ⟨t, rfl, q'⟩
      · exact .inl q'
      · have hm := pushed_mem hw
        have a1 := le_sum (f := szT J) hm
        have a2 := (le_foldl (f := dpT J) 0 hm).1
        exact .inr ⟨t, rfl, ThB.small (J := J) (by omega) q' (by omega) (by omega)⟩
    · rw [szT_list] at h1
      rw [dpT_list] at h2
      obtain ⟨h', rfl⟩ : ∃ h', h = h' + 1 := ⟨h - 1, by omega⟩
      have hlen : ts.length ≤ (ts.map (szT J)).sum := by
        have one : ∀ d, 1 ≤ szT J d := fun d => by unfold szT; split <;> omega
        have : ∀ l : List D, l.length ≤ (l.map (szT J)).sum := by
          intro l
          induction l with
          | nil => simp
          | cons y l ih => simp only [List.length_cons, List.map_cons, List.sum_cons]; have := one y; omega
        exact this ts
      refine .inr (.inr ⟨ts, rfl, by omega, fun t ht => ?_⟩)
      have a1 := le_sum (f := szT J) ht
      have a2 := (le_foldl (f := dpT J) 0 ht).1
      exact ThB.small (J := J) (by omega) (q t ht) (by omega) (by omega)
/-! the walks of size and depth -/
theorem size_ex {B J : Nat} (hB : B ≤ 16000000) : ∀ (j : Nat) (ts : List D) (N : Nat) (S : Sto) (F : D → Sto → Prop) (E : Exc → Sto → Prop), j ≤ J → (∀ t ∈ ts, ThB B j t) → j + 1 ≤ N → WF S → F (.int ((ts.map (szT J)).sum : Nat)) S → ∀ x, (x = .lst ts ∨ x = .tup ts) → wp (den fu N i_l_size [x] S) F E := by
  intro j
  induction j generalizing J with
  | zero =>
    intro ts N S F E hJ ht hN hS hF x hx
    obtain ⟨m, rfl⟩ : ∃ m, N = m + 1 := ⟨N - 1, by omega⟩
    show wp (runDef false 4 (b_l_size fu (den fu m)) _ _) _ _
    simp only [b_l_size, wp_ok, wp_ret, wp_stuck, wp_bad, wp_bnd, wp_if, wp_fif, wps_ok_nx, wps_ok_rt, wps_ok_bk, wps_ok_ct, wps_ok_xc, wps_bad, wps_lft, wps_seq, wps_nil, wps_ret, wps_expr, wps_asg, wps_if, wp_run, wps_for, wps_while, wp_comp, wp_var, wp_C, wp_bin, wp_un, wp_T, wp_Tb, wp_asBl, wp_truthBl, wp_bAnd, wp_bOr, wp_bNot, wp_eIf, wp_eAnd, wp_eOr, wp_eNot, blCase_bl, wp_chain, wp_aNil, wp_aCons, wp_tup, wp_lst, wp_lstM, wp_call, wp_cl1, wp_cl2, wp_cl3, wp_cl4, wp_cl5, wp_meth, wp_isi, wp_oNone, wp_oSome, wp_sl, wp_it, wp_range1, wp_range2, wp_bYes, gEq_str, gNe_str, gEq_int, gNe_int, gEq_bl, gNe_bl, gIs_bl, gIsNot_bl, gAdd_int, gSub_int, gC_int, gI_int, gAdd_str, gAdd_tup, gAdd_lst, gNeg_int, gIx_tup, gIx_lst, gLen_tup, gLen_lst, gLen_str, gInt_int, gInt_bl, gTuple_lst, gTuple_tup, gList_lst, gList_tup, gSl_tup, gSl_lst, gSl_fl, gSl_str, srcL_tup, srcL_lst, srcL_fl, srcL_str, srcR1_int, typN, startR, List.map_cons, List.map_nil, List.length_cons, List.length_nil, Nat.reduceAdd, Nat.reduceSub, Nat.zero_add, Nat.sub_self, Nat.sub_zero, List.replicate_zero, List.replicate_succ, List.cons_append, List.nil_append, List.append_nil, List.getElem?_cons_zero, List.getElem?_cons_succ, List.set_cons_zero, List.set_cons_succ, List.set_nil, List.getElem?_nil, Option.some.injEq, exists_eq_left', exists_eq_left, exists_eq_right, reduceCtorEq, false_and, and_false, true_and, and_true, exists_false, exists_const, wipeR, Nat.zero_le, String.reduceEq, D.int.injEq, D.str.injEq, D.bl.injEq, atI_0, atI_1, atI_2, atI_3, atI_4, beq_self_eq_true, not_true_eq_false, not_false_eq_true, Int.cast_ofNat_Int, Int.reduceEq, Int.reduceLE, Int.reduceLT, Int.reduceAdd, Int.reduceSub, Int.reduceMul, Int.reduceNeg, if_true, if_false, ite_true, ite_false, Bool.false_eq_true, if_neg, if_pos, decide_eq_true_eq, Bool.not_eq_true', decide_eq_false_iff_not, eq_self_iff_true, decide_true, decide_false, Bool.not_true, Bool.not_false]
    have hsrc : ∀ FI E, wp (srcL x S) FI E ↔ FI (none, ts) S := by
      intro FI E; rcases hx with rfl | rfl <;> rfl
    simp only [hsrc]
    refine wps_forM (fun i ρ S' => S' = S ∧ ∃ (o o' : Option D), ρ = [some x, some (.int (((ts.take i).map (szT J)).sum : Nat)), o, o']) (fun _ _ _ _ => trivial) ?_ ?_ ⟨rfl, none, none, rfl⟩
    · rintro i d ρ S' hd ⟨rfl, o, o', rfl⟩
      refine ⟨_, rfl, ?_⟩
      have hnum := ht d (List.mem_of_getElem? hd)
      have e : (((ts.take (i + 1)).map (szT J)).sum : Nat) = ((ts.take i).map (szT J)).sum + 1 := by rw [List.take_succ, hd]; simp [szT_num hnum]
      obtain ⟨z, rfl, _⟩ := hnum
      simp only [ofString_inj, wp_ok, wp_ret, wp_stuck, wp_bad, wp_bnd, wp_if, wp_fif, wps_ok_nx, wps_ok_rt, wps_ok_bk, wps_ok_ct, wps_ok_xc, wps_bad, wps_lft, wps_seq, wps_nil, wps_ret, wps_expr, wps_asg, wps_if, wp_run, wps_for, wps_while, wp_comp, wp_var, wp_C, wp_bin, wp_un, wp_T, wp_Tb, wp_asBl, wp_truthBl, wp_bAnd, wp_bOr, wp_bNot, wp_eIf, wp_eAnd, wp_eOr, wp_eNot, blCase_bl, wp_chain, wp_aNil, wp_aCons, wp_tup, wp_lst, wp_lstM, wp_call, wp_cl1, wp_cl2, wp_cl3, wp_cl4, wp_cl5, wp_meth, wp_isi, wp_oNone, wp_oSome, wp_sl, wp_it, wp_range1, wp_range2, wp_bYes, gEq_str, gNe_str, gEq_int, gNe_int, gEq_bl, gNe_bl, gIs_bl, gIsNot_bl, gAdd_int, gSub_int, gC_int, gI_int, gAdd_str, gAdd_tup, gAdd_lst, gNeg_int, gIx_tup, gIx_lst, gLen_tup, gLen_lst, gLen_str, gInt_int, gInt_bl, gTuple_lst, gTuple_tup, gList_lst, gList_tup, gSl_tup, gSl_lst, gSl_fl, gSl_str, srcL_tup, srcL_lst, srcL_fl, srcL_str, srcR1_int, typN, startR, List.map_cons, List.map_nil, List.length_cons, List.length_nil, Nat.reduceAdd, Nat.reduceSub, Nat.zero_add, Nat.sub_self, Nat.sub_zero, List.replicate_zero, List.replicate_succ, List.cons_append, List.nil_append, List.append_nil, List.getElem?_cons_zero, List.getElem?_cons_succ, List.set_cons_zero, List.set_cons_succ, List.set_nil, List.getElem?_nil, Option.some.injEq, exists_eq_left', exists_eq_left, exists_eq_right, reduceCtorEq, false_and, and_false, true_and, and_true, exists_false, exists_const, wipeR, Nat.zero_le, String.reduceEq, D.int.injEq, D.str.injEq, D.bl.injEq, atI_0, atI_1, atI_2, atI_3, atI_4, beq_self_eq_true, not_true_eq_false, not_false_eq_true, Int.cast_ofNat_Int, Int.reduceEq, Int.reduceLE, Int.reduceLT, Int.reduceAdd, Int.reduceSub, Int.reduceMul, Int.reduceNeg, if_true, if_false, ite_true, ite_false, Bool.false_eq_true, if_neg, if_pos, decide_eq_true_eq, Bool.not_eq_true', decide_eq_false_iff_not, eq_self_iff_true, decide_true, decide_false, Bool.not_true, Bool.not_false]
      exact ⟨some _, o', by rw [e]; rfl⟩
    · rintro ρ S' ⟨rfl, o, o', rfl⟩
      rw [List.take_length]
      simp only [fin_int hS, wp_ok, wp_ret, wp_stuck, wp_bad, wp_bnd, wp_if, wp_fif, wps_ok_nx, wps_ok_rt, wps_ok_bk, wps_ok_ct, wps_ok_xc, wps_bad, wps_lft, wps_seq, wps_nil, wps_ret, wps_expr, wps_asg, wps_if, wp_run, wps_for, wps_while, wp_comp, wp_var, wp_C, wp_bin, wp_un, wp_T, wp_Tb, wp_asBl, wp_truthBl, wp_bAnd, wp_bOr, wp_bNot, wp_eIf, wp_eAnd, wp_eOr, wp_eNot, blCase_bl, wp_chain, wp_aNil, wp_aCons, wp_tup, wp_lst, wp_lstM, wp_call, wp_cl1, wp_cl2, wp_cl3, wp_cl4, wp_cl5, wp_meth, wp_isi, wp_oNone, wp_oSome, wp_sl, wp_it, wp_range1, wp_range2, wp_bYes, gEq_str, gNe_str, gEq_int, gNe_int, gEq_bl, gNe_bl, gIs_bl, gIsNot_bl, gAdd_int, gSub_int, gC_int, gI_int, gAdd_str, gAdd_tup, gAdd_lst, gNeg_int, gIx_tup, gIx_lst, gLen_tup, gLen_lst, gLen_str, gInt_int, gInt_bl, gTuple_lst, gTuple_tup, gList_lst, gList_tup, gSl_tup, gSl_lst, gSl_fl, gSl_str, srcL_tup, srcL_lst, srcL_fl, srcL_str, srcR1_int, typN, startR, List.map_cons, List.map_nil, List.length_cons, List.length_nil, Nat.reduceAdd, Nat.reduceSub, Nat.zero_add, Nat.sub_self, Nat.sub_zero, List.replicate_zero, List.replicate_succ, List.cons_append, List.nil_append, List.append_nil, List.getElem?_cons_zero, List.getElem?_cons_succ, List.set_cons_zero, List.set_cons_succ, List.set_nil, List.getElem?_nil, Option.some.injEq, exists_eq_left', exists_eq_left, exists_eq_right, reduceCtorEq, false_and, and_false, true_and, and_true, exists_false, exists_const, wipeR, Nat.zero_le, String.reduceEq, D.int.injEq, D.str.injEq, D.bl.injEq, atI_0, atI_1, atI_2, atI_3, atI_4, beq_self_eq_true, not_true_eq_false, not_false_eq_true, Int.cast_ofNat_Int, Int.reduceEq, Int.reduceLE, Int.reduceLT, Int.reduceAdd, Int.reduceSub, Int.reduceMul, Int.reduceNeg, if_true, if_false, ite_true, ite_false, Bool.false_eq_true, if_neg, if_pos, decide_eq_true_eq, Bool.not_eq_true', decide_eq_false_iff_not, eq_self_iff_true, decide_true, decide_false, Bool.not_true, Bool.not_false]
      exact hF
  | succ j ih =>
    intro ts N S F E hJ ht hN hS hF x hx
    obtain ⟨m, rfl⟩ : ∃ m, N = m + 1 := ⟨N - 1, by omega⟩
    obtain ⟨J', rfl⟩ : ∃ J', J = J' + 1 := ⟨J - 1, by omega⟩
    show wp (runDef false 4 (b_l_size fu (den fu m)) _ _) _ _
    simp only [b_l_size, wp_ok, wp_ret, wp_stuck, wp_bad, wp_bnd, wp_if, wp_fif, wps_ok_nx, wps_ok_rt, wps_ok_bk, wps_ok_ct, wps_ok_xc, wps_bad, wps_lft, wps_seq, wps_nil, wps_ret, wps_expr, wps_asg, wps_if, wp_run, wps_for, wps_while, wp_comp, wp_var, wp_C, wp_bin, wp_un, wp_T, wp_Tb, wp_asBl, wp_truthBl, wp_bAnd, wp_bOr, wp_bNot, wp_eIf, wp_eAnd, wp_eOr, wp_eNot, blCase_bl, wp_chain, wp_aNil, wp_aCons, wp_tup, wp_lst, wp_lstM, wp_call, wp_cl1, wp_cl2, wp_cl3, wp_cl4, wp_cl5, wp_meth, wp_isi, wp_oNone, wp_oSome, wp_sl, wp_it, wp_range1, wp_range2, wp_bYes, gEq_str, gNe_str, gEq_int, gNe_int, gEq_bl, gNe_bl, gIs_bl, gIsNot_bl, gAdd_int, gSub_int, gC_int, gI_int, gAdd_str, gAdd_tup, gAdd_lst, gNeg_int, gIx_tup, gIx_lst, gLen_tup, gLen_lst, gLen_str, gInt_int, gInt_bl, gTuple_lst, gTuple_tup, gList_lst, gList_tup, gSl_tup, gSl_lst, gSl_fl, gSl_str, srcL_tup, srcL_lst, srcL_fl, srcL_str, srcR1_int, typN, startR, List.map_cons, List.map_nil, List.length_cons, List.length_nil, Nat.reduceAdd, Nat.reduceSub, Nat.zero_add, Nat.sub_self, Nat.sub_zero, List.replicate_zero, List.replicate_succ, List.cons_append, List.nil_append, List.append_nil, List.getElem?_cons_zero, List.getElem?_cons_succ, List.set_cons_zero, List.set_cons_succ, List.set_nil, List.getElem?_nil, Option.some.injEq, exists_eq_left', exists_eq_left, exists_eq_right, reduceCtorEq, false_and, and_false, true_and, and_true, exists_false, exists_const, wipeR, Nat.zero_le, String.reduceEq, D.int.injEq, D.str.injEq, D.bl.injEq, atI_0, atI_1, atI_2, atI_3, atI_4, beq_self_eq_true, not_true_eq_false, not_false_eq_true, Int.cast_ofNat_Int, Int.reduceEq, Int.reduceLE, Int.reduceLT, Int.reduceAdd, Int.reduceSub, Int.reduceMul, Int.reduceNeg, if_true, if_false, ite_true, ite_false, Bool.false_eq_true, if_neg, if_pos, decide_eq_true_eq, Bool.not_eq_true', decide_eq_false_iff_not, eq_self_iff_true, decide_true, decide_false, Bool.not_true, Bool.not_false]
    have hsrc : ∀ FI E, wp (srcL x S) FI E ↔ FI (none, ts) S := by
      intro FI E; rcases hx with rfl | rfl <;> rfl
    simp only [hsrc]
    refine wps_forM (fun i ρ S' => S' = S ∧ ∃ (o o' : Option D), ρ = [some x, some (.int (((ts.take i).map (szT (J' + 1))).sum : Nat)), o, o']) (fun _ _ _ _ => trivial) ?_ ?_ ⟨rfl, none, none, rfl⟩
    · rintro i d ρ S' hd ⟨rfl, o, o', rfl⟩
      refine ⟨_, rfl, ?_⟩
      have hd' := ht d (List.mem_of_getElem? hd)
      have e : (((ts.take (i + 1)).map (szT (J' + 1))).sum : Nat) = ((ts.take i).map (szT (J' + 1))).sum + szT (J' + 1) d := by rw [List.take_succ, hd]; simp
      rw [e]
      rcases hd' with h | ⟨ws, rfl, hl, hw⟩ | ⟨us, rfl, hl, hu⟩
      · rw [szT_num h]
        obtain ⟨z, rfl, _⟩ := h
        simp only [ofString_inj, wp_ok, wp_ret, wp_stuck, wp_bad, wp_bnd, wp_if, wp_fif, wps_ok_nx, wps_ok_rt, wps_ok_bk, wps_ok_ct, wps_ok_xc, wps_bad, wps_lft, wps_seq, wps_nil, wps_ret, wps_expr, wps_asg, wps_if, wp_run, wps_for, wps_while, wp_comp, wp_var, wp_C, wp_bin, wp_un, wp_T, wp_Tb, wp_asBl, wp_truthBl, wp_bAnd, wp_bOr, wp_bNot, wp_eIf, wp_eAnd, wp_eOr, wp_eNot, blCase_bl, wp_chain, wp_aNil, wp_aCons, wp_tup, wp_lst, wp_lstM, wp_call, wp_cl1, wp_cl2, wp_cl3, wp_cl4, wp_cl5, wp_meth, wp_isi, wp_oNone, wp_oSome, wp_sl, wp_it, wp_range1, wp_range2, wp_bYes, gEq_str, gNe_str, gEq_int, gNe_int, gEq_bl, gNe_bl, gIs_bl, gIsNot_bl, gAdd_int, gSub_int, gC_int, gI_int, gAdd_str, gAdd_tup, gAdd_lst, gNeg_int, gIx_tup, gIx_lst, gLen_tup, gLen_lst, gLen_str, gInt_int, gInt_bl, gTuple_lst, gTuple_tup, gList_lst, gList_tup, gSl_tup, gSl_lst, gSl_fl, gSl_str, srcL_tup, srcL_lst, srcL_fl, srcL_str, srcR1_int, typN, startR, List.map_cons, List.map_nil, List.length_cons, List.length_nil, Nat.reduceAdd, Nat.reduceSub, Nat.zero_add, Nat.sub_self, Nat.sub_zero, List.replicate_zero, List.replicate_succ, List.cons_append, List.nil_append, List.append_nil, List.getElem?_cons_zero, List.getElem?_cons_succ, List.set_cons_zero, List.set_cons_succ, List.set_nil, List.getElem?_nil, Option.some.injEq, exists_eq_left', exists_eq_left, exists_eq_right, reduceCtorEq, false_and, and_false, true_and, and_true, exists_false, exists_const, wipeR, Nat.zero_le, String.reduceEq, D.int.injEq, D.str.injEq, D.bl.injEq, atI_0, atI_1, atI_2, atI_3, atI_4, beq_self_eq_true, not_true_eq_false, not_false_eq_true, Int.cast_ofNat_Int, Int.reduceEq, Int.reduceLE, Int.reduceLT, Int.reduceAdd, Int.reduceSub, Int.reduceMul, Int.reduceNeg, if_true, if_false, ite_true, ite_false, Bool.false_eq_true, if_neg, if_pos, decide_eq_true_eq, Bool.not_eq_true', decide_eq_false_iff_not, eq_self_iff_true, decide_true, decide_false, Bool.not_true, Bool.not_false]
        exact ⟨some _, o', rfl⟩
      · rw [szT_row]
        simp only [ofString_inj, wp_ok, wp_ret, wp_stuck, wp_bad, wp_bnd, wp_if, wp_fif, wps_ok_nx, wps_ok_rt, wps_ok_bk, wps_ok_ct, wps_ok_xc, wps_bad, wps_lft, wps_seq, wps_nil, wps_ret, wps_expr, wps_asg, wps_if, wp_run, wps_for, wps_while, wp_comp, wp_var, wp_C, wp_bin, wp_un, wp_T, wp_Tb, wp_asBl, wp_truthBl, wp_bAnd, wp_bOr, wp_bNot, wp_eIf, wp_eAnd, wp_eOr, wp_eNot, blCase_bl, wp_chain, wp_aNil, wp_aCons, wp_tup, wp_lst, wp_lstM, wp_call, wp_cl1, wp_cl2, wp_cl3, wp_cl4, wp_cl5, wp_meth, wp_isi, wp_oNone, wp_oSome, wp_sl, wp_it, wp_range1, wp_range2, wp_bYes, gEq_str, gNe_str, gEq_int, gNe_int, gEq_bl, gNe_bl, gIs_bl, gIsNot_bl, gAdd_int, gSub_int, gC_int, gI_int, gAdd_str, gAdd_tup, gAdd_lst, gNeg_int, gIx_tup, gIx_lst, gLen_tup, gLen_lst, gLen_str, gInt_int, gInt_bl, gTuple_lst, gTuple_tup, gList_lst, gList_tup, gSl_tup, gSl_lst, gSl_fl, gSl_str, srcL_tup, srcL_lst, srcL_fl, srcL_str, srcR1_int, typN, startR, List.map_cons, List.map_nil, List.length_cons, List.length_nil, Nat.reduceAdd, Nat.reduceSub, Nat.zero_add, Nat.sub_self, Nat.sub_zero, List.replicate_zero, List.replicate_succ, List.cons_append, List.nil_append, List.append_nil, List.getElem?_cons_zero, List.getElem?_cons_succ, List.set_cons_zero, List.set_cons_succ, List.set_nil, List.getElem?_nil, Option.some.injEq, exists_eq_left', exists_eq_left, exists_eq_right, reduceCtorEq, false_and, and_false, true_and, and_true, exists_false, exists_const, wipeR, Nat.zero_le, String.reduceEq, D.int.injEq, D.str.injEq, D.bl.injEq, atI_0, atI_1, atI_2, atI_3, atI_4, beq_self_eq_true, not_true_eq_false, not_false_eq_true, Int.cast_ofNat_Int, Int.reduceEq, Int.reduceLE, Int.reduceLT, Int.reduceAdd, Int.reduceSub, Int.reduceMul, Int.reduceNeg, if_true, if_false, ite_true, ite_false, Bool.false_eq_true, if_neg, if_pos, decide_eq_true_eq, Bool.not_eq_true', decide_eq_false_iff_not, eq_self_iff_true, decide_true, decide_false, Bool.not_true, Bool.not_false]
        refine ⟨small_line (by omega), comp_pushedB (fun d => rfl) hw ?_⟩
        refine ih (J := J') _ _ _ _ _ (by omega) (fun t h => pushed_goodB hw t h) (by omega) hS ?_ _ (.inl rfl)
        simp only [wp_ok, wp_ret, wp_stuck, wp_bad, wp_bnd, wp_if, wp_fif, wps_ok_nx, wps_ok_rt, wps_ok_bk, wps_ok_ct, wps_ok_xc, wps_bad, wps_lft, wps_seq, wps_nil, wps_ret, wps_expr, wps_asg, wps_if, wp_run, wps_for, wps_while, wp_comp, wp_var, wp_C, wp_bin, wp_un, wp_T, wp_Tb, wp_asBl, wp_truthBl, wp_bAnd, wp_bOr, wp_bNot, wp_eIf, wp_eAnd, wp_eOr, wp_eNot, blCase_bl, wp_chain, wp_aNil, wp_aCons, wp_tup, wp_lst, wp_lstM, wp_call, wp_cl1, wp_cl2, wp_cl3, wp_cl4, wp_cl5, wp_meth, wp_isi, wp_oNone, wp_oSome, wp_sl, wp_it, wp_range1, wp_range2, wp_bYes, gEq_str, gNe_str, gEq_int, gNe_int, gEq_bl, gNe_bl, gIs_bl, gIsNot_bl, gAdd_int, gSub_int, gC_int, gI_int, gAdd_str, gAdd_tup, gAdd_lst, gNeg_int, gIx_tup, gIx_lst, gLen_tup, gLen_lst, gLen_str, gInt_int, gInt_bl, gTuple_lst, gTuple_tup, gList_lst, gList_tup, gSl_tup, gSl_lst, gSl_fl, gSl_str, srcL_tup, srcL_lst, srcL_fl, srcL_str, srcR1_int, typN, startR, List.map_cons, List.map_nil, List.length_cons, List.length_nil, Nat.reduceAdd, Nat.reduceSub, Nat.zero_add, Nat.sub_self, Nat.sub_zero, List.replicate_zero, List.replicate_succ, List.cons_append, List.nil_append, List.append_nil, List.getElem?_cons_zero, List.getElem?_cons_succ, List.set_cons_zero, List.set_cons_succ, List.set_nil, List.getElem?_nil, Option.some.injEq, exists_eq_left', exists_eq_left, exists_eq_right, reduceCtorEq, false_and, and_false, true_and, and_true, exists_false, exists_const, wipeR, Nat.zero_le, String.reduceEq, D.int.injEq, D.str.injEq, D.bl.injEq, atI_0, atI_1, atI_2, atI_3, atI_4, beq_self_eq_true, not_true_eq_false, not_false_eq_true, Int.cast_ofNat_Int, Int.reduceEq, Int.reduceLE, Int.reduceLT, Int.reduceAdd, Int.reduceSub, Int.reduceMul, Int.reduceNeg, if_true, if_false, ite_true, ite_false, Bool.false_eq_true, if_neg, if_pos, decide_eq_true_eq, Bool.not_eq_true', decide_eq_false_iff_not, eq_self_iff_true, decide_true, decide_false, Bool.not_true, Bool.not_false]
        have e2 : ((((ts.take i).map (szT (J' + 1))).sum : Nat) : Int) + 1 + ((ws.length : Nat) : Int) + ((((pushed ws).map (szT J')).sum : Nat) : Int) = ((((ts.take i).map (szT (J' + 1))).sum + (1 + (ws.length + ((pushed ws).map (szT J')).sum)) : Nat) : Int) := by push_cast; omega
        rw [e2]
        exact ⟨_, _, rfl⟩
      · rw [szT_list]
        simp only [ofString_inj, wp_ok, wp_ret, wp_stuck, wp_bad, wp_bnd, wp_if, wp_fif, wps_ok_nx, wps_ok_rt, wps_ok_bk, wps_ok_ct, wps_ok_xc, wps_bad, wps_lft, wps_seq, wps_nil, wps_ret, wps_expr, wps_asg, wps_if, wp_run, wps_for, wps_while, wp_comp, wp_var, wp_C, wp_bin, wp_un, wp_T, wp_Tb, wp_asBl, wp_truthBl, wp_bAnd, wp_bOr, wp_bNot, wp_eIf, wp_eAnd, wp_eOr, wp_eNot, blCase_bl, wp_chain, wp_aNil, wp_aCons, wp_tup, wp_lst, wp_lstM, wp_call, wp_cl1, wp_cl2, wp_cl3, wp_cl4, wp_cl5, wp_meth, wp_isi, wp_oNone, wp_oSome, wp_sl, wp_it, wp_range1, wp_range2, wp_bYes, gEq_str, gNe_str, gEq_int, gNe_int, gEq_bl, gNe_bl, gIs_bl, gIsNot_bl, gAdd_int, gSub_int, gC_int, gI_int, gAdd_str, gAdd_tup, gAdd_lst, gNeg_int, gIx_tup, gIx_lst, gLen_tup, gLen_lst, gLen_str, gInt_int, gInt_bl, gTuple_lst, gTuple_tup, gList_lst, gList_tup, gSl_tup, gSl_lst, gSl_fl, gSl_str, srcL_tup, srcL_lst, srcL_fl, srcL_str, srcR1_int, typN, startR, List.map_cons, List.map_nil, List.length_cons, List.length_nil, Nat.reduceAdd, Nat.reduceSub, Nat.zero_add, Nat.sub_self, Nat.sub_zero, List.replicate_zero, List.replicate_succ, List.cons_append, List.nil_append, List.append_nil, List.getElem?_cons_zero, List.getElem?_cons_succ, List.set_cons_zero, List.set_cons_succ, List.set_nil, List.getElem?_nil, Option.some.injEq, exists_eq_left', exists_eq_left, exists_eq_right, reduceCtorEq, false_and, and_false, true_and, and_true, exists_false, exists_const, wipeR, Nat.zero_le, String.reduceEq, D.int.injEq, D.str.injEq, D.bl.injEq, atI_0, atI_1, atI_2, atI_3, atI_4, beq_self_eq_true, not_true_eq_false, not_false_eq_true, Int.cast_ofNat_Int, Int.reduceEq, Int.reduceLE, Int.reduceLT, Int.reduceAdd, Int.reduceSub, Int.reduceMul, Int.reduceNeg, if_true, if_false, ite_true, ite_false, Bool.false_eq_true, if_neg, if_pos, decide_eq_true_eq, Bool.not_eq_true', decide_eq_false_iff_not, eq_self_iff_true, decide_true, decide_false, Bool.not_true, Bool.not_false]
        refine ih (J := J') us _ _ _ _ (by omega) hu (by omega) hS ?_ _ (.inr rfl)
        simp only [ofString_inj, wp_ok, wp_ret, wp_stuck, wp_bad, wp_bnd, wp_if, wp_fif, wps_ok_nx, wps_ok_rt, wps_ok_bk, wps_ok_ct, wps_ok_xc, wps_bad, wps_lft, wps_seq, wps_nil, wps_ret, wps_expr, wps_asg, wps_if, wp_run, wps_for, wps_while, wp_comp, wp_var, wp_C, wp_bin, wp_un, wp_T, wp_Tb, wp_asBl, wp_truthBl, wp_bAnd, wp_bOr, wp_bNot, wp_eIf, wp_eAnd, wp_eOr, wp_eNot, blCase_bl, wp_chain, wp_aNil, wp_aCons, wp_tup, wp_lst, wp_lstM, wp_call, wp_cl1, wp_cl2, wp_cl3, wp_cl4, wp_cl5, wp_meth, wp_isi, wp_oNone, wp_oSome, wp_sl, wp_it, wp_range1, wp_range2, wp_bYes, gEq_str, gNe_str, gEq_int, gNe_int, gEq_bl, gNe_bl, gIs_bl, gIsNot_bl, gAdd_int, gSub_int, gC_int, gI_int, gAdd_str, gAdd_tup, gAdd_lst, gNeg_int, gIx_tup, gIx_lst, gLen_tup, gLen_lst, gLen_str, gInt_int, gInt_bl, gTuple_lst, gTuple_tup, gList_lst, gList_tup, gSl_tup, gSl_lst, gSl_fl, gSl_str, srcL_tup, srcL_lst, srcL_fl, srcL_str, srcR1_int, typN, startR, List.map_cons, List.map_nil, List.length_cons, List.length_nil, Nat.reduceAdd, Nat.reduceSub, Nat.zero_add, Nat.sub_self, Nat.sub_zero, List.replicate_zero, List.replicate_succ, List.cons_append, List.nil_append, List.append_nil, List.getElem?_cons_zero, List.getElem?_cons_succ, List.set_cons_zero, List.set_cons_succ, List.set_nil, List.getElem?_nil, Option.some.injEq, exists_eq_left', exists_eq_left, exists_eq_right, reduceCtorEq, false_and, and_false, true_and, and_true, exists_false, exists_const, wipeR, Nat.zero_le, String.reduceEq, D.int.injEq, D.str.injEq, D.bl.injEq, atI_0, atI_1, atI_2, atI_3, atI_4, beq_self_eq_true, not_true_eq_false, not_false_eq_true, Int.cast_ofNat_Int, Int.reduceEq, Int.reduceLE, Int.reduceLT, Int.reduceAdd, Int.reduceSub, Int.reduceMul, Int.reduceNeg, if_true, if_false, ite_true, ite_false, Bool.false_eq_true, if_neg, if_pos, decide_eq_true_eq, Bool.not_eq_true', decide_eq_false_iff_not, eq_self_iff_true, decide_true, decide_false, Bool.not_true, Bool.not_false]
        have e2 : ((((ts.take i).map (szT (J' + 1))).sum : Nat) : Int) + 1 + (((us.map (szT J')).sum : Nat) : Int) = ((((ts.take i).map (szT (J' + 1))).sum + (1 + (us.map (szT J')).sum) : Nat) : Int) := by push_cast; omega
        rw [e2]
        exact ⟨_, _, rfl⟩
    · rintro ρ S' ⟨rfl, o, o', rfl⟩
      rw [List.take_length]
      simp only [fin_int hS, wp_ok, wp_ret, wp_stuck, wp_bad, wp_bnd, wp_if, wp_fif, wps_ok_nx, wps_ok_rt, wps_ok_bk, wps_ok_ct, wps_ok_xc, wps_bad, wps_lft, wps_seq, wps_nil, wps_ret, wps_expr, wps_asg, wps_if, wp_run, wps_for, wps_while, wp_comp, wp_var, wp_C, wp_bin, wp_un, wp_T, wp_Tb, wp_asBl, wp_truthBl, wp_bAnd, wp_bOr, wp_bNot, wp_eIf, wp_eAnd, wp_eOr, wp_eNot, blCase_bl, wp_chain, wp_aNil, wp_aCons, wp_tup, wp_lst, wp_lstM, wp_call, wp_cl1, wp_cl2, wp_cl3, wp_cl4, wp_cl5, wp_meth, wp_isi, wp_oNone, wp_oSome, wp_sl, wp_it, wp_range1, wp_range2, wp_bYes, gEq_str, gNe_str, gEq_int, gNe_int, gEq_bl, gNe_bl, gIs_bl, gIsNot_bl, gAdd_int, gSub_int, gC_int, gI_int, gAdd_str, gAdd_tup, gAdd_lst, gNeg_int, gIx_tup, gIx_lst, gLen_tup, gLen_lst, gLen_str, gInt_int, gInt_bl, gTuple_lst, gTuple_tup, gList_lst, gList_tup, gSl_tup, gSl_lst, gSl_fl, gSl_str, srcL_tup, srcL_lst, srcL_fl, srcL_str, srcR1_int, typN, startR, List.map_cons, List.map_nil, List.length_cons, List.length_nil, Nat.reduceAdd, Nat.reduceSub, Nat.zero_add, Nat.sub_self, Nat.sub_zero, List.replicate_zero, List.replicate_succ, List.cons_append, List.nil_append, List.append_nil, List.getElem?_cons_zero, List.getElem?_cons_succ, List.set_cons_zero, List.set_cons_succ, List.set_nil, List.getElem?_nil, Option.some.injEq, exists_eq_left', exists_eq_left, exists_eq_right, reduceCtorEq, false_and, and_false, true_and, and_true, exists_false, exists_const, wipeR, Nat.zero_le, String.reduceEq, D.int.injEq, D.str.injEq, D.bl.injEq, atI_0, atI_1, atI_2, atI_3, atI_4, beq_self_eq_true, not_true_eq_false, not_false_eq_true, Int.cast_ofNat_Int, Int.reduceEq, Int.reduceLE, Int.reduceLT, Int.reduceAdd, Int.reduceSub, Int.reduceMul, Int.reduceNeg, if_true, if_false, ite_true, ite_false, Bool.false_eq_true, if_neg, if_pos, decide_eq_true_eq, Bool.not_eq_true', decide_eq_false_iff_not, eq_self_iff_true, decide_true, decide_false, Bool.not_true, Bool.not_false]
      exact hF
theorem foldl_cast : ∀ (l : List Nat) (a : Nat), (l.map fun x : Nat => (x : Int)).foldl max (a : Int) = ((l.foldl max a : Nat) : Int)
  | [], a => rfl
  | x :: l, a => by
    simp only [List.map_cons, List.foldl_cons]
    rw [show max (a : Int) (x : Int) = ((max a x : Nat) : Int) by omega]
    exact foldl_cast l _
theorem gMaxL_ints {ns : List Nat} {S : Sto} : wp (gMaxL [.lst (D.int 0 :: (ns.map fun x : Nat => D.int (x : Int)))] S) F E ↔ F (.int (ns.foldl max 0 : Nat)) S := by
  have e : intsOf (D.int 0 :: (ns.map fun x : Nat => D.int (x : Int))) = some (0 :: ns.map fun x : Nat => (x : Int)) := by
    have : (D.int 0 :: (ns.map fun x : Nat => D.int (x : Int))) = (0 :: ns.map fun x : Nat => (x : Int)).map D.int := by simp
    rw [this, intsOf_map]
  unfold gMaxL
  simp only [iSeq, Option.bind_some, e]
  have h0 := foldl_cast ns 0
  rw [show ((0 : Nat) : Int) = 0 from rfl] at h0
  rw [h0]
  exact Iff.rfl
theorem deep_ex {B : Nat} (hB : B ≤ 16000000) : ∀ (j J : Nat) (d : D) (N : Nat) (S : Sto) (F : D → Sto → Prop) (E : Exc → Sto → Prop), j ≤ J → ThB B j d → j + 1 ≤ N → WF S → F (.int (dpT J d : Nat)) S → wp (den fu N i_l_deep [d] S) F E := by
  intro j
  induction j with
  | zero =>
    intro J d N S F E hJ h hN hS hF
    obtain ⟨m, rfl⟩ : ∃ m, N = m + 1 := ⟨N - 1, by omega⟩
    show wp (runDef false 4 (b_l_deep fu (den fu m)) _ _) _ _
    rw [dpT_num h] at hF
    obtain ⟨i, rfl, _⟩ := h
    simp only [b_l_deep, fin_int hS, wp_ok, wp_ret, wp_stuck, wp_bad, wp_bnd, wp_if, wp_fif, wps_ok_nx, wps_ok_rt, wps_ok_bk, wps_ok_ct, wps_ok_xc, wps_bad, wps_lft, wps_seq, wps_nil, wps_ret, wps_expr, wps_asg, wps_if, wp_run, wps_for, wps_while, wp_comp, wp_var, wp_C, wp_bin, wp_un, wp_T, wp_Tb, wp_asBl, wp_truthBl, wp_bAnd, wp_bOr, wp_bNot, wp_eIf, wp_eAnd, wp_eOr, wp_eNot, blCase_bl, wp_chain, wp_aNil, wp_aCons, wp_tup, wp_lst, wp_lstM, wp_call, wp_cl1, wp_cl2, wp_cl3, wp_cl4, wp_cl5, wp_meth, wp_isi, wp_oNone, wp_oSome, wp_sl, wp_it, wp_range1, wp_range2, wp_bYes, gEq_str, gNe_str, gEq_int, gNe_int, gEq_bl, gNe_bl, gIs_bl, gIsNot_bl, gAdd_int, gSub_int, gC_int, gI_int, gAdd_str, gAdd_tup, gAdd_lst, gNeg_int, gIx_tup, gIx_lst, gLen_tup, gLen_lst, gLen_str, gInt_int, gInt_bl, gTuple_lst, gTuple_tup, gList_lst, gList_tup, gSl_tup, gSl_lst, gSl_fl, gSl_str, srcL_tup, srcL_lst, srcL_fl, srcL_str, srcR1_int, typN, startR, List.map_cons, List.map_nil, List.length_cons, List.length_nil, Nat.reduceAdd, Nat.reduceSub, Nat.zero_add, Nat.sub_self, Nat.sub_zero, List.replicate_zero, List.replicate_succ, List.cons_append, List.nil_append, List.append_nil, List.getElem?_cons_zero, List.getElem?_cons_succ, List.set_cons_zero, List.set_cons_succ, List.set_nil, List.getElem?_nil, Option.some.injEq, exists_eq_left', exists_eq_left, exists_eq_right, reduceCtorEq, false_and, and_false, true_and, and_true, exists_false, exists_const, wipeR, Nat.zero_le, String.reduceEq, D.int.injEq, D.str.injEq, D.bl.injEq, atI_0, atI_1, atI_2, atI_3, atI_4, beq_self_eq_true, not_true_eq_false, not_false_eq_true, Int.cast_ofNat_Int, Int.reduceEq, Int.reduceLE, Int.reduceLT, Int.reduceAdd, Int.reduceSub, Int.reduceMul, Int.reduceNeg, if_true, if_false, ite_true, ite_false, Bool.false_eq_true, if_neg, if_pos, decide_eq_true_eq, Bool.not_eq_true', decide_eq_false_iff_not, eq_self_iff_true, decide_true, decide_false, Bool.not_true, Bool.not_false]
    exact hF
  | succ j ih =>
    intro J d N S F E hJ h hN hS hF
    obtain ⟨m, rfl⟩ : ∃ m, N = m + 1 := ⟨N - 1, by omega⟩
    obtain ⟨J', rfl⟩ : ∃ J', J = J' + 1 := ⟨J - 1, by omega⟩
    show wp (runDef false 4 (b_l_deep fu (den fu m)) _ _) _ _
    rcases h with h | ⟨ws, rfl, hl, hw⟩ | ⟨ts, rfl, hl, ht⟩
    · rw [dpT_num h] at hF
      obtain ⟨i, rfl, _⟩ := h
      simp only [b_l_deep, fin_int hS, wp_ok, wp_ret, wp_stuck, wp_bad, wp_bnd, wp_if, wp_fif, wps_ok_nx, wps_ok_rt, wps_ok_bk, wps_ok_ct, wps_ok_xc, wps_bad, wps_lft, wps_seq, wps_nil, wps_ret, wps_expr, wps_asg, wps_if, wp_run, wps_for, wps_while, wp_comp, wp_var, wp_C, wp_bin, wp_un, wp_T, wp_Tb, wp_asBl, wp_truthBl, wp_bAnd, wp_bOr, wp_bNot, wp_eIf, wp_eAnd, wp_eOr, wp_eNot, blCase_bl, wp_chain, wp_aNil, wp_aCons, wp_tup, wp_lst, wp_lstM, wp_call, wp_cl1, wp_cl2, wp_cl3, wp_cl4, wp_cl5, wp_meth, wp_isi, wp_oNone, wp_oSome, wp_sl, wp_it, wp_range1, wp_range2, wp_bYes, gEq_str, gNe_str, gEq_int, gNe_int, gEq_bl, gNe_bl, gIs_bl, gIsNot_bl, gAdd_int, gSub_int, gC_int, gI_int, gAdd_str, gAdd_tup, gAdd_lst, gNeg_int, gIx_tup, gIx_lst, gLen_tup, gLen_lst, gLen_str, gInt_int, gInt_bl, gTuple_lst, gTuple_tup, gList_lst, gList_tup, gSl_tup, gSl_lst, gSl_fl, gSl_str, srcL_tup, srcL_lst, srcL_fl, srcL_str, srcR1_int, typN, startR, List.map_cons, List.map_nil, List.length_cons, List.length_nil, Nat.reduceAdd, Nat.reduceSub, Nat.zero_add, Nat.sub_self, Nat.sub_zero, List.replicate_zero, List.replicate_succ, List.cons_append, List.nil_append, List.append_nil, List.getElem?_cons_zero, List.getElem?_cons_succ, List.set_cons_zero, List.set_cons_succ, List.set_nil, List.getElem?_nil, Option.some.injEq, exists_eq_left', exists_eq_left, exists_eq_right, reduceCtorEq, false_and, and_false, true_and, and_true, exists_false, exists_const, wipeR, Nat.zero_le, String.reduceEq, D.int.injEq, D.str.injEq, D.bl.injEq, atI_0, atI_1, atI_2, atI_3, atI_4, beq_self_eq_true, not_true_eq_false, not_false_eq_true, Int.cast_ofNat_Int, Int.reduceEq, Int.reduceLE, Int.reduceLT, Int.reduceAdd, Int.reduceSub, Int.reduceMul, Int.reduceNeg, if_true, if_false, ite_true, ite_false, Bool.false_eq_true, if_neg, if_pos, decide_eq_true_eq, Bool.not_eq_true', decide_eq_false_iff_not, eq_self_iff_true, decide_true, decide_false, Bool.not_true, Bool.not_false]
      exact hF
    · rw [dpT_row] at hF
      simp only [b_l_deep, ofString_inj, wp_ok, wp_ret, wp_stuck, wp_bad, wp_bnd, wp_if, wp_fif, wps_ok_nx, wps_ok_rt, wps_ok_bk, wps_ok_ct, wps_ok_xc, wps_bad, wps_lft, wps_seq, wps_nil, wps_ret, wps_expr, wps_asg, wps_if, wp_run, wps_for, wps_while, wp_comp, wp_var, wp_C, wp_bin, wp_un, wp_T, wp_Tb, wp_asBl, wp_truthBl, wp_bAnd, wp_bOr, wp_bNot, wp_eIf, wp_eAnd, wp_eOr, wp_eNot, blCase_bl, wp_chain, wp_aNil, wp_aCons, wp_tup, wp_lst, wp_lstM, wp_call, wp_cl1, wp_cl2, wp_cl3, wp_cl4, wp_cl5, wp_meth, wp_isi, wp_oNone, wp_oSome, wp_sl, wp_it, wp_range1, wp_range2, wp_bYes, gEq_str, gNe_str, gEq_int, gNe_int, gEq_bl, gNe_bl, gIs_bl, gIsNot_bl, gAdd_int, gSub_int, gC_int, gI_int, gAdd_str, gAdd_tup, gAdd_lst, gNeg_int, gIx_tup, gIx_lst, gLen_tup, gLen_lst, gLen_str, gInt_int, gInt_bl, gTuple_lst, gTuple_tup, gList_lst, gList_tup, gSl_tup, gSl_lst, gSl_fl, gSl_str, srcL_tup, srcL_lst, srcL_fl, srcL_str, srcR1_int, typN, startR, List.map_cons, List.map_nil, List.length_cons, List.length_nil, Nat.reduceAdd, Nat.reduceSub, Nat.zero_add, Nat.sub_self, Nat.sub_zero, List.replicate_zero, List.replicate_succ, List.cons_append, List.nil_append, List.append_nil, List.getElem?_cons_zero, List.getElem?_cons_succ, List.set_cons_zero, List.set_cons_succ, List.set_nil, List.getElem?_nil, Option.some.injEq, exists_eq_left', exists_eq_left, exists_eq_right, reduceCtorEq, false_and, and_false, true_and, and_true, exists_false, exists_const, wipeR, Nat.zero_le, String.reduceEq, D.int.injEq, D.str.injEq, D.bl.injEq, atI_0, atI_1, atI_2, atI_3, atI_4, beq_self_eq_true, not_true_eq_false, not_false_eq_true, Int.cast_ofNat_Int, Int.reduceEq, Int.reduceLE, Int.reduceLT, Int.reduceAdd, Int.reduceSub, Int.reduceMul, Int.reduceNeg, if_true, if_false, ite_true, ite_false, Bool.false_eq_true, if_neg, if_pos, decide_eq_true_eq, Bool.not_eq_true', decide_eq_false_iff_not, eq_self_iff_true, decide_true, decide_false, Bool.not_true, Bool.not_false]
      refine ⟨small_line (by omega), comp_pushedB (fun d => rfl) hw ?_⟩
      have hlp := pushed_len ws
      refine ⟨small_line (by decide), small_line (by omega), ?_⟩
      refine comp_pure (fun d => .int (dpT J' d : Nat)) (fun t htm => ?_) ?_
      · simp only [wp_ok, wp_ret, wp_stuck, wp_bad, wp_bnd, wp_if, wp_fif, wps_ok_nx, wps_ok_rt, wps_ok_bk, wps_ok_ct, wps_ok_xc, wps_bad, wps_lft, wps_seq, wps_nil, wps_ret, wps_expr, wps_asg, wps_if, wp_run, wps_for, wps_while, wp_comp, wp_var, wp_C, wp_bin, wp_un, wp_T, wp_Tb, wp_asBl, wp_truthBl, wp_bAnd, wp_bOr, wp_bNot, wp_eIf, wp_eAnd, wp_eOr, wp_eNot, blCase_bl, wp_chain, wp_aNil, wp_aCons, wp_tup, wp_lst, wp_lstM, wp_call, wp_cl1, wp_cl2, wp_cl3, wp_cl4, wp_cl5, wp_meth, wp_isi, wp_oNone, wp_oSome, wp_sl, wp_it, wp_range1, wp_range2, wp_bYes, gEq_str, gNe_str, gEq_int, gNe_int, gEq_bl, gNe_bl, gIs_bl, gIsNot_bl, gAdd_int, gSub_int, gC_int, gI_int, gAdd_str, gAdd_tup, gAdd_lst, gNeg_int, gIx_tup, gIx_lst, gLen_tup, gLen_lst, gLen_str, gInt_int, gInt_bl, gTuple_lst, gTuple_tup, gList_lst, gList_tup, gSl_tup, gSl_lst, gSl_fl, gSl_str, srcL_tup, srcL_lst, srcL_fl, srcL_str, srcR1_int, typN, startR, List.map_cons, List.map_nil, List.length_cons, List.length_nil, Nat.reduceAdd, Nat.reduceSub, Nat.zero_add, Nat.sub_self, Nat.sub_zero, List.replicate_zero, List.replicate_succ, List.cons_append, List.nil_append, List.append_nil, List.getElem?_cons_zero, List.getElem?_cons_succ, List.set_cons_zero, List.set_cons_succ, List.set_nil, List.getElem?_nil, Option.some.injEq, exists_eq_left', exists_eq_left, exists_eq_right, reduceCtorEq, false_and, and_false, true_and, and_true, exists_false, exists_const, wipeR, Nat.zero_le, String.reduceEq, D.int.injEq, D.str.injEq, D.bl.injEq, atI_0, atI_1, atI_2, atI_3, atI_4, beq_self_eq_true, not_true_eq_false, not_false_eq_true, Int.cast_ofNat_Int, Int.reduceEq, Int.reduceLE, Int.reduceLT, Int.reduceAdd, Int.reduceSub, Int.reduceMul, Int.reduceNeg, if_true, if_false, ite_true, ite_false, Bool.false_eq_true, if_neg, if_pos, decide_eq_true_eq, Bool.not_eq_true', decide_eq_false_iff_not, eq_self_iff_true, decide_true, decide_false, Bool.not_true, Bool.not_false]
        exact ih J' t _ _ _ _ (by omega) (pushed_goodB hw t htm) (by omega) hS ⟨rfl, rfl⟩
      · refine ⟨small_line (by simp; omega), ?_⟩
        rw [show D.int 0 :: (pushed ws).map (fun d => D.int (dpT J' d : Nat)) = D.int 0 :: (((pushed ws).map (dpT J')).map fun x : Nat => D.int (x : Int)) by simp, gMaxL_ints]
        simp only [fin_int hS, wp_ok, wp_ret, wp_stuck, wp_bad, wp_bnd, wp_if, wp_fif, wps_ok_nx, wps_ok_rt, wps_ok_bk, wps_ok_ct, wps_ok_xc, wps_bad, wps_lft, wps_seq, wps_nil, wps_ret, wps_expr, wps_asg, wps_if, wp_run, wps_for, wps_while, wp_comp, wp_var, wp_C, wp_bin, wp_un, wp_T, wp_Tb, wp_asBl, wp_truthBl, wp_bAnd, wp_bOr, wp_bNot, wp_eIf, wp_eAnd, wp_eOr, wp_eNot, blCase_bl, wp_chain, wp_aNil, wp_aCons, wp_tup, wp_lst, wp_lstM, wp_call, wp_cl1, wp_cl2, wp_cl3, wp_cl4, wp_cl5, wp_meth, wp_isi, wp_oNone, wp_oSome, wp_sl, wp_it, wp_range1, wp_range2, wp_bYes, gEq_str, gNe_str, gEq_int, gNe_int, gEq_bl, gNe_bl, gIs_bl, gIsNot_bl, gAdd_int, gSub_int, gC_int, gI_int, gAdd_str, gAdd_tup, gAdd_lst, gNeg_int, gIx_tup, gIx_lst, gLen_tup, gLen_lst, gLen_str, gInt_int, gInt_bl, gTuple_lst, gTuple_tup, gList_lst, gList_tup, gSl_tup, gSl_lst, gSl_fl, gSl_str, srcL_tup, srcL_lst, srcL_fl, srcL_str, srcR1_int, typN, startR, List.map_cons, List.map_nil, List.length_cons, List.length_nil, Nat.reduceAdd, Nat.reduceSub, Nat.zero_add, Nat.sub_self, Nat.sub_zero, List.replicate_zero, List.replicate_succ, List.cons_append, List.nil_append, List.append_nil, List.getElem?_cons_zero, List.getElem?_cons_succ, List.set_cons_zero, List.set_cons_succ, List.set_nil, List.getElem?_nil, Option.some.injEq, exists_eq_left', exists_eq_left, exists_eq_right, reduceCtorEq, false_and, and_false, true_and, and_true, exists_false, exists_const, wipeR, Nat.zero_le, String.reduceEq, D.int.injEq, D.str.injEq, D.bl.injEq, atI_0, atI_1, atI_2, atI_3, atI_4, beq_self_eq_true, not_true_eq_false, not_false_eq_true, Int.cast_ofNat_Int, Int.reduceEq, Int.reduceLE, Int.reduceLT, Int.reduceAdd, Int.reduceSub, Int.reduceMul, Int.reduceNeg, if_true, if_false, ite_true, ite_false, Bool.false_eq_true, if_neg, if_pos, decide_eq_true_eq, Bool.not_eq_true', decide_eq_false_iff_not, eq_self_iff_true, decide_true, decide_false, Bool.not_true, Bool.not_false]
        rw [show (1 : Int) + ((((pushed ws).map (dpT J')).foldl max 0 : Nat) : Int) = ((1 + ((pushed ws).map (dpT J')).foldl max 0 : Nat) : Int) by push_cast; rfl]
        exact hF
    · rw [dpT_list] at hF
      simp only [b_l_deep, ofString_inj, wp_ok, wp_ret, wp_stuck, wp_bad, wp_bnd, wp_if, wp_fif, wps_ok_nx, wps_ok_rt, wps_ok_bk, wps_ok_ct, wps_ok_xc, wps_bad, wps_lft, wps_seq, wps_nil, wps_ret, wps_expr, wps_asg, wps_if, wp_run, wps_for, wps_while, wp_comp, wp_var, wp_C, wp_bin, wp_un, wp_T, wp_Tb, wp_asBl, wp_truthBl, wp_bAnd, wp_bOr, wp_bNot, wp_eIf, wp_eAnd, wp_eOr, wp_eNot, blCase_bl, wp_chain, wp_aNil, wp_aCons, wp_tup, wp_lst, wp_lstM, wp_call, wp_cl1, wp_cl2, wp_cl3, wp_cl4, wp_cl5, wp_meth, wp_isi, wp_oNone, wp_oSome, wp_sl, wp_it, wp_range1, wp_range2, wp_bYes, gEq_str, gNe_str, gEq_int, gNe_int, gEq_bl, gNe_bl, gIs_bl, gIsNot_bl, gAdd_int, gSub_int, gC_int, gI_int, gAdd_str, gAdd_tup, gAdd_lst, gNeg_int, gIx_tup, gIx_lst, gLen_tup, gLen_lst, gLen_str, gInt_int, gInt_bl, gTuple_lst, gTuple_tup, gList_lst, gList_tup, gSl_tup, gSl_lst, gSl_fl, gSl_str, srcL_tup, srcL_lst, srcL_fl, srcL_str, srcR1_int, typN, startR, List.map_cons, List.map_nil, List.length_cons, List.length_nil, Nat.reduceAdd, Nat.reduceSub, Nat.zero_add, Nat.sub_self, Nat.sub_zero, List.replicate_zero, List.replicate_succ, List.cons_append, List.nil_append, List.append_nil, List.getElem?_cons_zero, List.getElem?_cons_succ, List.set_cons_zero, List.set_cons_succ, List.set_nil, List.getElem?_nil, Option.some.injEq, exists_eq_left', exists_eq_left, exists_eq_right, reduceCtorEq, false_and, and_false, true_and, and_true, exists_false, exists_const, wipeR, Nat.zero_le, String.reduceEq, D.int.injEq, D.str.injEq, D.bl.injEq, atI_0, atI_1, atI_2, atI_3, atI_4, beq_self_eq_true, not_true_eq_false, not_false_eq_true, Int.cast_ofNat_Int, Int.reduceEq, Int.reduceLE, Int.reduceLT, Int.reduceAdd, Int.reduceSub, Int.reduceMul, Int.reduceNeg, if_true, if_false, ite_true, ite_false, Bool.false_eq_true, if_neg, if_pos, decide_eq_true_eq, Bool.not_eq_true', decide_eq_false_iff_not, eq_self_iff_true, decide_true, decide_false, Bool.not_true, Bool.not_false]
      refine ⟨small_line (by decide), small_line (by omega), ?_⟩
      refine comp_pure (fun d => .int (dpT J' d : Nat)) (fun t htm => ?_) ?_
      · simp only [wp_ok, wp_ret, wp_stuck, wp_bad, wp_bnd, wp_if, wp_fif, wps_ok_nx, wps_ok_rt, wps_ok_bk, wps_ok_ct, wps_ok_xc, wps_bad, wps_lft, wps_seq, wps_nil, wps_ret, wps_expr, wps_asg, wps_if, wp_run, wps_for, wps_while, wp_comp, wp_var, wp_C, wp_bin, wp_un, wp_T, wp_Tb, wp_asBl, wp_truthBl, wp_bAnd, wp_bOr, wp_bNot, wp_eIf, wp_eAnd, wp_eOr, wp_eNot, blCase_bl, wp_chain, wp_aNil, wp_aCons, wp_tup, wp_lst, wp_lstM, wp_call, wp_cl1, wp_cl2, wp_cl3, wp_cl4, wp_cl5, wp_meth, wp_isi, wp_oNone, wp_oSome, wp_sl, wp_it, wp_range1, wp_range2, wp_bYes, gEq_str, gNe_str, gEq_int, gNe_int, gEq_bl, gNe_bl, gIs_bl, gIsNot_bl, gAdd_int, gSub_int, gC_int, gI_int, gAdd_str, gAdd_tup, gAdd_lst, gNeg_int, gIx_tup, gIx_lst, gLen_tup, gLen_lst, gLen_str, gInt_int, gInt_bl, gTuple_lst, gTuple_tup, gList_lst, gList_tup, gSl_tup, gSl_lst, gSl_fl, gSl_str, srcL_tup, srcL_lst, srcL_fl, srcL_str, srcR1_int, typN, startR, List.map_cons, List.map_nil, List.length_cons, List.length_nil, Nat.reduceAdd, Nat.reduceSub, Nat.zero_add, Nat.sub_self, Nat.sub_zero, List.replicate_zero, List.replicate_succ, List.cons_append, List.nil_append, List.append_nil, List.getElem?_cons_zero, List.getElem?_cons_succ, List.set_cons_zero, List.set_cons_succ, List.set_nil, List.getElem?_nil, Option.some.injEq, exists_eq_left', exists_eq_left, exists_eq_right, reduceCtorEq, false_and, and_false, true_and, and_true, exists_false, exists_const, wipeR, Nat.zero_le, String.reduceEq, D.int.injEq, D.str.injEq, D.bl.injEq, atI_0, atI_1, atI_2, atI_3, atI_4, beq_self_eq_true, not_true_eq_false, not_false_eq_true, Int.cast_ofNat_Int, Int.reduceEq, Int.reduceLE, Int.reduceLT, Int.reduceAdd, Int.reduceSub, Int.reduceMul, Int.reduceNeg, if_true, if_false, ite_true, ite_false, Bool.false_eq_true, if_neg, if_pos, decide_eq_true_eq, Bool.not_eq_true', decide_eq_false_iff_not, eq_self_iff_true, decide_true, decide_false, Bool.not_true, Bool.not_false]
        exact ih J' t _ _ _ _ (by omega) (ht t htm) (by omega) hS ⟨rfl, rfl⟩
      · refine ⟨small_line (by simp; omega), ?_⟩
        rw [show D.int 0 :: ts.map (fun d => D.int (dpT J' d : Nat)) = D.int 0 :: ((ts.map (dpT J')).map fun x : Nat => D.int (x : Int)) by simp, gMaxL_ints]
        simp only [fin_int hS, wp_ok, wp_ret, wp_stuck, wp_bad, wp_bnd, wp_if, wp_fif, wps_ok_nx, wps_ok_rt, wps_ok_bk, wps_ok_ct, wps_ok_xc, wps_bad, wps_lft, wps_seq, wps_nil, wps_ret, wps_expr, wps_asg, wps_if, wp_run, wps_for, wps_while, wp_comp, wp_var, wp_C, wp_bin, wp_un, wp_T, wp_Tb, wp_asBl, wp_truthBl, wp_bAnd, wp_bOr, wp_bNot, wp_eIf, wp_eAnd, wp_eOr, wp_eNot, blCase_bl, wp_chain, wp_aNil, wp_aCons, wp_tup, wp_lst, wp_lstM, wp_call, wp_cl1, wp_cl2, wp_cl3, wp_cl4, wp_cl5, wp_meth, wp_isi, wp_oNone, wp_oSome, wp_sl, wp_it, wp_range1, wp_range2, wp_bYes, gEq_str, gNe_str, gEq_int, gNe_int, gEq_bl, gNe_bl, gIs_bl, gIsNot_bl, gAdd_int, gSub_int, gC_int, gI_int, gAdd_str, gAdd_tup, gAdd_lst, gNeg_int, gIx_tup, gIx_lst, gLen_tup, gLen_lst, gLen_str, gInt_int, gInt_bl, gTuple_lst, gTuple_tup, gList_lst, gList_tup, gSl_tup, gSl_lst, gSl_fl, gSl_str, srcL_tup, srcL_lst, srcL_fl, srcL_str, srcR1_int, typN, startR, List.map_cons, List.map_nil, List.length_cons, List.length_nil, Nat.reduceAdd, Nat.reduceSub, Nat.zero_add, Nat.sub_self, Nat.sub_zero, List.replicate_zero, List.replicate_succ, List.cons_append, List.nil_append, List.append_nil, List.getElem?_cons_zero, List.getElem?_cons_succ, List.set_cons_zero, List.set_cons_succ, List.set_nil, List.getElem?_nil, Option.some.injEq, exists_eq_left', exists_eq_left, exists_eq_right, reduceCtorEq, false_and, and_false, true_and, and_true, exists_false, exists_const, wipeR, Nat.zero_le, String.reduceEq, D.int.injEq, D.str.injEq, D.bl.injEq, atI_0, atI_1, atI_2, atI_3, atI_4, beq_self_eq_true, not_true_eq_false, not_false_eq_true, Int.cast_ofNat_Int, Int.reduceEq, Int.reduceLE, Int.reduceLT, Int.reduceAdd, Int.reduceSub, Int.reduceMul, Int.reduceNeg, if_true, if_false, ite_true, ite_false, Bool.false_eq_true, if_neg, if_pos, decide_eq_true_eq, Bool.not_eq_true', decide_eq_false_iff_not, eq_self_iff_true, decide_true, decide_false, Bool.not_true, Bool.not_false]
        rw [show (1 : Int) + (((ts.map (dpT J')).foldl max 0 : Nat) : Int) = ((1 + (ts.map (dpT J')).foldl max 0 : Nat) : Int) by push_cast; rfl]
        exact hF
end K64

namespace K64
open PySem L2 DL
variable {fu n k : Nat} {S S0 : Sto} {F : D → Sto → Prop} {E : Exc → Sto → Prop}
/-! things as data -/
theorem basics_strOk : ∀ z ∈ basics, PyData.strOk z = true := by decide +kernel
theorem IsSh.strOk {z : Str} (h : IsSh z) : PyData.strOk z = true := by
  obtain ⟨a, b, rfl, ⟨m, hm, ha⟩, hb, hab⟩ := h
  have h1 : ∀ x ∈ a, x < 1114112 := fun x hx => by
    rw [ha] at hx
    have := List.mem_of_mem_take hx
    simp only [List.mem_cons, List.not_mem_nil, or_false] at this
    omega
  unfold PyData.strOk
  rw [← Array.all_toList, app_toList, app_toList]
  simp only [List.all_append, Bool.and_eq_true, List.all_eq_true, decide_eq_true_eq, List.toList_toArray]
  refine ⟨⟨h1, by simp⟩, fun x hx => h1 x (hab x hx)⟩
theorem sOk_number : PyData.strOk (Str.ofString "number") = true := by decide +kernel
theorem sOk_row : PyData.strOk (Str.ofString "row") = true := by decide +kernel
theorem sOk_list : PyData.strOk (Str.ofString "list") = true := by decide +kernel
theorem sOk_push : PyData.strOk (Str.ofString "push") = true := by decide +kernel
theorem sOk_great : PyData.strOk (Str.ofString "great") = true := by decide +kernel
theorem sh2 {m : Nat} {a b : D} (ha : Sh m a) (hb : Sh m b) : Sh (m + 1) (.tup [a, b]) := sh_tup fun d hd => by
  simp only [List.mem_cons, List.not_mem_nil, or_false] at hd
  rcases hd with rfl | rfl <;> assumption
theorem Num.sh {d : D} (h : Num d) : Sh 1 d := by obtain ⟨i, rfl, _⟩ := h; exact sh2 (sh_str sOk_number) sh_int
theorem WdS.sh {w : D} (h : WdS w) : Sh 0 w := by
  obtain ⟨z, rfl, _, h⟩ := h
  rcases h with h | h
  · exact sh_str (basics_strOk z h)
  · exact sh_str h.strOk
theorem ThB.sh {B : Nat} : ∀ {j : Nat} {d : D}, ThB B j d → Sh (3 * j + 1) d
  | 0, d, h => Num.sh h
  | j + 1, d, h => by
    rcases h with h | ⟨ws, rfl, _, h⟩ | ⟨ts, rfl, _, h⟩
    · exact (Num.sh h).mono (by omega)
    · refine (sh2 (m := 3 * j + 1 + 1 + 1) (sh_str sOk_row) (sh_tup fun w hw => ?_)).mono (by omega)
      rcases h w hw with q | ⟨t, rfl, q⟩
      · exact q.sh.mono (by omega)
      · exact sh2 (sh_str sOk_push) (ThB.sh q)
    · exact (sh2 (m := 3 * j + 1 + 1) (sh_str sOk_list) (sh_tup fun t ht => ThB.sh (h t ht))).mono (by omega)
theorem okEq_l {p q : PyData} (h1 : p.canLay0 = true) (h2 : q.canLay0 = true) (h : p.depth ≤ 480) : okEq p q = true := by
  unfold okEq
  rw [h1, h2, decide_eq_true (by omega)]; rfl
theorem okEq_r {p q : PyData} (h1 : p.canLay0 = true) (h2 : q.canLay0 = true) (h : q.depth ≤ 480) : okEq p q = true := by
  unfold okEq
  rw [h1, h2, decide_eq_true (by omega)]; rfl
theorem sh_lst {m : Nat} {ds : List D} (h : ∀ d ∈ ds, Sh m d) : Sh (m + 1) (.lst ds) := by
  obtain ⟨ps, a, b, c⟩ := sh_list h
  exact ⟨.list ps, by simp only [toPy, a, Option.map_some], by simp only [PyData.canLay0, b], by simp only [PyData.depth]; omega⟩
/-- a list is no text -/
theorem eq_lstStr {m : Nat} {ds : List D} {z : Str} (h : ∀ d ∈ ds, Sh m d) (hz : PyData.strOk z = true) : eqD S (.lst ds) (.str z) = some false := by
  obtain ⟨ps, a, b, c⟩ := sh_list h
  have e1 : toPyS S (.lst ds) = some (.list ps) := by show (toPys ds).map PyData.list = _; rw [a]; rfl
  have e2 : toPyS S (.str z) = some (.str z) := rfl
  have s1 : okEq (.list ps) (.str z) = true := okEq_r (by simp only [PyData.canLay0, b]) hz (Nat.zero_le _)
  unfold eqD
  simp only [e1, e2, s1, if_true]
  rfl
theorem eq_lstNil {m : Nat} {ds : List D} (h : ∀ d ∈ ds, Sh m d) : eqD S (.lst ds) (.lst []) = some (decide (ds = [])) := by
  obtain ⟨ps, a, b, c⟩ := sh_list h
  have e1 : toPyS S (.lst ds) = some (.list ps) := by show (toPys ds).map PyData.list = _; rw [a]; rfl
  have e2 : toPyS S (.lst []) = some (.list []) := rfl
  have s1 : okEq (.list ps) (.list []) = true := okEq_r (by simp only [PyData.canLay0, b]) rfl (by decide)
  unfold eqD
  simp only [e1, e2, s1, if_true]
  cases ds with
  | nil => cases a; rfl
  | cons x l =>
    cases ps with
    | nil =>
      exfalso
      unfold toPys at a
      split at a <;> simp_all
    | cons q qs => simp [PyData.eqv, PyData.eqvAll]
theorem in_none {B j : Nat} {ds : List D} (h : ∀ d ∈ ds, ThB B j d) : inD S .non (.lst ds) = some false := by
  cases ds with
  | nil => rfl
  | cons x l =>
    have hx : flatD x = none := by
      cases j with
      | zero => obtain ⟨i, rfl, _⟩ := h x List.mem_cons_self; rfl
      | succ j => rcases h x List.mem_cons_self with ⟨i, rfl, _⟩ | ⟨_, rfl, _⟩ | ⟨_, rfl, _⟩ <;> rfl
    have hf : flatDs (x :: l) = none := by unfold flatDs; rw [hx]
    obtain ⟨ps, a, b, c⟩ := sh_list (m := 3 * j + 1) fun d hd => (h d hd).sh
    have e1 : itemsPy S (.lst (x :: l)) = some (true, ps) := by show (toPys (x :: l)).map (true, ·) = _; rw [a]; rfl
    have e2 : toPyS S .non = some .none := rfl
    have s1 : okIn ps .none = true := by
      unfold okIn
      rw [b, decide_eq_true (Nat.le_trans (Nat.min_le_right _ _) (by decide))]; rfl
    have hn : ∀ (ds : List D) (ps : List PyData), toPys ds = some ps → (∀ d ∈ ds, ThB B j d) → (ps.any fun z => PyData.eqv z .none) = false := by
      intro ds
      induction ds with
      | nil => intro ps e _; cases e; rfl
      | cons y r ih =>
        intro ps e hh
        unfold toPys at e
        split at e
        · rename_i p qs e3 e4
          cases e
          rw [List.any_cons, ih qs e4 fun d hd => hh d (List.mem_cons_of_mem _ hd), Bool.or_false]
          have hy := hh y List.mem_cons_self
          have : ∃ xs, y = .tup xs := by
            cases j with
            | zero => obtain ⟨i, rfl, _⟩ := hy; exact ⟨_, rfl⟩
            | succ j => rcases hy with ⟨i, rfl, _⟩ | ⟨_, rfl, _⟩ | ⟨_, rfl, _⟩ <;> exact ⟨_, rfl⟩
          obtain ⟨xs, rfl⟩ := this
          simp only [toPy, Option.map_eq_some_iff] at e3
          obtain ⟨ps, _, rfl⟩ := e3
          rfl
        · cases e
    have iL : iLst S (.lst (x :: l)) = some (x :: l) := rfl
    unfold inD
    simp only [iL, Option.bind_some, hf, e2, e1, s1, if_true, hn _ _ a h, flatD]
theorem gIn_none {B j : Nat} {ds : List D} (h : ∀ d ∈ ds, ThB B j d) : wp (gIn .non (.lst ds) S) F E ↔ F (.bl false) S := by
  unfold gIn; rw [in_none h]; exact Iff.rfl
/-! one op -/
def lstOf : D → Option (List D)
  | .tup [.str k, .tup xs] => if k = Str.ofString "list" then some xs else none
  | _ => none
def rowOf : D → Option (List D)
  | .tup [.str k, .tup xs] => if k = Str.ofString "row" then some xs else none
  | _ => none
def numOf : D → Option Int
  | .tup [.str k, .int i] => if k = Str.ofString "number" then some i else none
  | _ => none
def calcN (w : Str) (m n : Int) : Int :=
  if w = Str.ofString "plus" then (m + n) % 1000000000000 else if w = Str.ofString "minus" then (m - n) % 1000000000000 else if w = Str.ofString "times" then (m * n) % 1000000000000 else
  if w = Str.ofString "less" then (if m < n then 1 else 0) else if m = n then 1 else 0
def pairOp (w : Str) (a b : D) : Option D :=
  if w = Str.ofString "put" then (lstOf a).map fun xs => .tup [.str "list", .tup (xs ++ [b])]
  else if w = Str.ofString "join" then (match rowOf a, rowOf b with
    | some x, some y => some (.tup [.str "row", .tup (x ++ y)])
    | _, _ => none)
  else match numOf a, numOf b with
    | some m, some n => some (.tup [.str "number", .int (calcN w m n)])
    | _, _ => none
theorem of_num {d : D} (h : Num d) : lstOf d = none ∧ rowOf d = none ∧ ∃ i, numOf d = some i ∧ d = .tup [.str "number", .int i] ∧ 0 ≤ i ∧ i < 1000000000000 := by
  obtain ⟨i, rfl, h0, h1⟩ := h
  exact ⟨rfl, rfl, i, by simp only [numOf, if_true], rfl, h0, h1⟩
theorem of_row {xs : List D} : lstOf (.tup [.str "row", .tup xs]) = none ∧ rowOf (.tup [.str "row", .tup xs]) = some xs ∧ numOf (.tup [.str "row", .tup xs]) = none := by
  refine ⟨?_, by simp only [rowOf, if_true], rfl⟩
  simp only [lstOf, ofString_inj, Nat.zero_le, String.reduceEq, D.int.injEq, D.str.injEq, D.bl.injEq, atI_0, atI_1, atI_2, atI_3, atI_4, beq_self_eq_true, not_true_eq_false, not_false_eq_true, Int.cast_ofNat_Int, Int.reduceEq, Int.reduceLE, Int.reduceLT, Int.reduceAdd, Int.reduceSub, Int.reduceMul, Int.reduceNeg, if_true, if_false, ite_true, ite_false, Bool.false_eq_true, if_neg, if_pos, decide_eq_true_eq, Bool.not_eq_true', decide_eq_false_iff_not, eq_self_iff_true, decide_true, decide_false, Bool.not_true, Bool.not_false]
theorem of_list {xs : List D} : lstOf (.tup [.str "list", .tup xs]) = some xs ∧ rowOf (.tup [.str "list", .tup xs]) = none ∧ numOf (.tup [.str "list", .tup xs]) = none := by
  refine ⟨by simp only [lstOf, if_true], ?_, rfl⟩
  simp only [rowOf, ofString_inj, Nat.zero_le, String.reduceEq, D.int.injEq, D.str.injEq, D.bl.injEq, atI_0, atI_1, atI_2, atI_3, atI_4, beq_self_eq_true, not_true_eq_false, not_false_eq_true, Int.cast_ofNat_Int, Int.reduceEq, Int.reduceLE, Int.reduceLT, Int.reduceAdd, Int.reduceSub, Int.reduceMul, Int.reduceNeg, if_true, if_false, ite_true, ite_false, Bool.false_eq_true, if_neg, if_pos, decide_eq_true_eq, Bool.not_eq_true', decide_eq_false_iff_not, eq_self_iff_true, decide_true, decide_false, Bool.not_true, Bool.not_false]
/-- the shapes of a thing, at once -/
theorem ThB.shape {B j : Nat} {d : D} (h : ThB B j d) : (∃ i, d = .tup [.str "number", .int i] ∧ 0 ≤ i ∧ i < 1000000000000 ∧ lstOf d = none ∧ rowOf d = none ∧ numOf d = some i) ∨
    (∃ xs, d = .tup [.str "row", .tup xs] ∧ xs.length ≤ B ∧ lstOf d = none ∧ rowOf d = some xs ∧ numOf d = none) ∨
    (∃ xs, d = .tup [.str "list", .tup xs] ∧ xs.length ≤ B ∧ lstOf d = some xs ∧ rowOf d = none ∧ numOf d = none) := by
  have n : ∀ {d}, Num d → (∃ i, d = .tup [.str "number", .int i] ∧ 0 ≤ i ∧ i < 1000000000000 ∧ lstOf d = none ∧ rowOf d = none ∧ numOf d = some i) := fun hn => by
    obtain ⟨h1, h2, i, h3, h4, h5, h6⟩ := of_num hn
    exact ⟨i, h4, h5, h6, h1, h2, h3⟩
  cases j with
  | zero => exact .inl (n h)
  | succ j =>
    rcases h with h | ⟨ws, rfl, hl, _⟩ | ⟨ts, rfl, hl, _⟩
    · exact .inl (n h)
    · exact .inr (.inl ⟨ws, rfl, hl, of_row⟩)
    · exact .inr (.inr ⟨ts, rfl, hl, of_list⟩)
theorem calcN_ok (w : Str) (m n : Int) : 0 ≤ calcN w m n ∧ calcN w m n < 1000000000000 := by
  have h : ∀ x : Int, 0 ≤ x % 1000000000000 ∧ x % 1000000000000 < 1000000000000 := fun x => ⟨Int.emod_nonneg _ (by decide), Int.emod_lt_of_pos _ (by decide)⟩
  unfold calcN
  split
  · exact h _
  · split
    · exact h _
    · split
      · exact h _
      · split
        · split <;> decide
        · split <;> decide
theorem rowOf_good {B j : Nat} {d : D} {xs : List D} (h : ThB B (j + 1) d) (e : rowOf d = some xs) : xs.length ≤ B ∧ ∀ w ∈ xs, WdB B j w := by
  rcases h with h | ⟨ws, rfl, hl, h⟩ | ⟨ts, rfl, hl, h⟩
  · rw [(of_num h).2.1] at e; cases e
  · rw [of_row.2.1] at e; cases e; exact ⟨hl, h⟩
  · rw [of_list.2.1] at e; cases e
theorem lstOf_good {B j : Nat} {d : D} {xs : List D} (h : ThB B (j + 1) d) (e : lstOf d = some xs) : xs.length ≤ B ∧ ∀ w ∈ xs, ThB B j w := by
  rcases h with h | ⟨ws, rfl, hl, h⟩ | ⟨ts, rfl, hl, h⟩
  · rw [(of_num h).1] at e; cases e
  · rw [of_row.1] at e; cases e
  · rw [of_list.1] at e; cases e; exact ⟨hl, h⟩
theorem pairOp_good {B j : Nat} {w : Str} {a b d : D} (ha : ThB B j a) (hb : ThB B j b) (h : pairOp w a b = some d) : ThB (2 * B + 1) (j + 1) d := by
  have ha' := ha.mono (B' := B) (Nat.le_refl _) (Nat.le_succ j)
  have hb' := hb.mono (B' := B) (Nat.le_refl _) (Nat.le_succ j)
  unfold pairOp at h
  split at h
  · rw [Option.map_eq_some_iff] at h
    obtain ⟨xs, e, rfl⟩ := h
    obtain ⟨h1, h2⟩ := lstOf_good ha' e
    refine .inr (.inr ⟨_, rfl, by simp; omega, fun t ht => ?_⟩)
    rw [List.mem_append, List.mem_singleton] at ht
    rcases ht with ht | rfl
    · exact (h2 t ht).mono (by omega) (Nat.le_refl _)
    · exact hb.mono (by omega) (Nat.le_refl _)
  · split at h
    · split at h
      · rename_i x y e1 e2
        cases h
        obtain ⟨h1, h2⟩ := rowOf_good ha' e1
        obtain ⟨h3, h4⟩ := rowOf_good hb' e2
        refine .inr (.inl ⟨_, rfl, by simp; omega, fun w hw => ?_⟩)
        rw [List.mem_append] at hw
        have key : ∀ w, WdB B j w → WdS w ∨ ∃ t, w = .tup [.str "push", t] ∧ ThB (2 * B + 1) j t := fun w q => by
          rcases q with q | ⟨t, e, q⟩
          · exact .inl q
          · exact .inr ⟨t, e, q.mono (by omega) (Nat.le_refl _)⟩
        rcases hw with hw | hw
        · exact key w (h2 w hw)
        · exact key w (h4 w hw)
      · cases h
    · split at h
      · rename_i m n e1 e2
        cases h
        have := calcN_ok w m n
        exact .inl ⟨_, rfl, this.1, this.2⟩
      · cases h
end K64

namespace K64
open PySem L2 DL
variable {fu n k : Nat} {S S0 : Sto} {F : D → Sto → Prop} {E : Exc → Sto → Prop}
/-! the walks of one op: the program's and the law's -/
abbrev noStep : Exc := ⟨"NoStep", []⟩
theorem no_len : (Str.ofString "no ").length = 3 ∧ (Str.ofString "number").length = 6 ∧ (Str.ofString "row").length = 3 ∧ (Str.ofString "list").length = 4 := by decide +kernel
theorem inside_num {B j N : Nat} {a : D} (hN : 1 ≤ N) (ha : ThB B j a) (hS : WF S) (h1 : ∀ i, numOf a = some i → 0 ≤ i → i < 1000000000000 → F (.int i) S) (h2 : numOf a = none → E noStep S) : wp (den fu N i_inside [a, .str "number"] S) F E := by
  obtain ⟨m, rfl⟩ : ∃ m, N = m + 1 := ⟨N - 1, by omega⟩
  show wp (runDef false 2 (b_inside fu (den fu m)) _ _) _ _
  rcases ha.shape with ⟨i, rfl, i0, i1, _, _, e⟩ | ⟨xs, rfl, _, _, _, e⟩ | ⟨xs, rfl, _, _, _, e⟩
  · simp only [b_inside, ofString_inj, fin_int hS, wp_ok, wp_ret, wp_stuck, wp_bad, wp_bnd, wp_if, wp_fif, wps_ok_nx, wps_ok_rt, wps_ok_bk, wps_ok_ct, wps_ok_xc, wps_bad, wps_lft, wps_seq, wps_nil, wps_ret, wps_expr, wps_asg, wps_if, wp_run, wps_for, wps_while, wp_comp, wp_var, wp_C, wp_bin, wp_un, wp_T, wp_Tb, wp_asBl, wp_truthBl, wp_bAnd, wp_bOr, wp_bNot, wp_eIf, wp_eAnd, wp_eOr, wp_eNot, blCase_bl, wp_chain, wp_aNil, wp_aCons, wp_tup, wp_lst, wp_lstM, wp_call, wp_cl1, wp_cl2, wp_cl3, wp_cl4, wp_cl5, wp_meth, wp_isi, wp_oNone, wp_oSome, wp_sl, wp_it, wp_range1, wp_range2, wp_bYes, gEq_str, gNe_str, gEq_int, gNe_int, gEq_bl, gNe_bl, gIs_bl, gIsNot_bl, gAdd_int, gSub_int, gC_int, gI_int, gAdd_str, gAdd_tup, gAdd_lst, gNeg_int, gIx_tup, gIx_lst, gLen_tup, gLen_lst, gLen_str, gInt_int, gInt_bl, gTuple_lst, gTuple_tup, gList_lst, gList_tup, gSl_tup, gSl_lst, gSl_fl, gSl_str, srcL_tup, srcL_lst, srcL_fl, srcL_str, srcR1_int, typN, startR, List.map_cons, List.map_nil, List.length_cons, List.length_nil, Nat.reduceAdd, Nat.reduceSub, Nat.zero_add, Nat.sub_self, Nat.sub_zero, List.replicate_zero, List.replicate_succ, List.cons_append, List.nil_append, List.append_nil, List.getElem?_cons_zero, List.getElem?_cons_succ, List.set_cons_zero, List.set_cons_succ, List.set_nil, List.getElem?_nil, Option.some.injEq, exists_eq_left', exists_eq_left, exists_eq_right, reduceCtorEq, false_and, and_false, true_and, and_true, exists_false, exists_const, wipeR, Nat.zero_le, String.reduceEq, D.int.injEq, D.str.injEq, D.bl.injEq, atI_0, atI_1, atI_2, atI_3, atI_4, beq_self_eq_true, not_true_eq_false, not_false_eq_true, Int.cast_ofNat_Int, Int.reduceEq, Int.reduceLE, Int.reduceLT, Int.reduceAdd, Int.reduceSub, Int.reduceMul, Int.reduceNeg, if_true, if_false, ite_true, ite_false, Bool.false_eq_true, if_neg, if_pos, decide_eq_true_eq, Bool.not_eq_true', decide_eq_false_iff_not, eq_self_iff_true, decide_true, decide_false, Bool.not_true, Bool.not_false, wps_raise, wps_try, wps_tryAs, tryCase_t, tryCase_f, tbl_hit, suiteOf_hit, wp_eDct, wp_eDGet, wp_eDNew, wp_eDDef, wps_dput]
    exact h1 i e i0 i1
  · simp only [b_inside, ofString_inj, no_len, Nat.reduceAdd, wp_ok, wp_ret, wp_stuck, wp_bad, wp_bnd, wp_if, wp_fif, wps_ok_nx, wps_ok_rt, wps_ok_bk, wps_ok_ct, wps_ok_xc, wps_bad, wps_lft, wps_seq, wps_nil, wps_ret, wps_expr, wps_asg, wps_if, wp_run, wps_for, wps_while, wp_comp, wp_var, wp_C, wp_bin, wp_un, wp_T, wp_Tb, wp_asBl, wp_truthBl, wp_bAnd, wp_bOr, wp_bNot, wp_eIf, wp_eAnd, wp_eOr, wp_eNot, blCase_bl, wp_chain, wp_aNil, wp_aCons, wp_tup, wp_lst, wp_lstM, wp_call, wp_cl1, wp_cl2, wp_cl3, wp_cl4, wp_cl5, wp_meth, wp_isi, wp_oNone, wp_oSome, wp_sl, wp_it, wp_range1, wp_range2, wp_bYes, gEq_str, gNe_str, gEq_int, gNe_int, gEq_bl, gNe_bl, gIs_bl, gIsNot_bl, gAdd_int, gSub_int, gC_int, gI_int, gAdd_str, gAdd_tup, gAdd_lst, gNeg_int, gIx_tup, gIx_lst, gLen_tup, gLen_lst, gLen_str, gInt_int, gInt_bl, gTuple_lst, gTuple_tup, gList_lst, gList_tup, gSl_tup, gSl_lst, gSl_fl, gSl_str, srcL_tup, srcL_lst, srcL_fl, srcL_str, srcR1_int, typN, startR, List.map_cons, List.map_nil, List.length_cons, List.length_nil, Nat.reduceAdd, Nat.reduceSub, Nat.zero_add, Nat.sub_self, Nat.sub_zero, List.replicate_zero, List.replicate_succ, List.cons_append, List.nil_append, List.append_nil, List.getElem?_cons_zero, List.getElem?_cons_succ, List.set_cons_zero, List.set_cons_succ, List.set_nil, List.getElem?_nil, Option.some.injEq, exists_eq_left', exists_eq_left, exists_eq_right, reduceCtorEq, false_and, and_false, true_and, and_true, exists_false, exists_const, wipeR, Nat.zero_le, String.reduceEq, D.int.injEq, D.str.injEq, D.bl.injEq, atI_0, atI_1, atI_2, atI_3, atI_4, beq_self_eq_true, not_true_eq_false, not_false_eq_true, Int.cast_ofNat_Int, Int.reduceEq, Int.reduceLE, Int.reduceLT, Int.reduceAdd, Int.reduceSub, Int.reduceMul, Int.reduceNeg, if_true, if_false, ite_true, ite_false, Bool.false_eq_true, if_neg, if_pos, decide_eq_true_eq, Bool.not_eq_true', decide_eq_false_iff_not, eq_self_iff_true, decide_true, decide_false, Bool.not_true, Bool.not_false, wps_raise, wps_try, wps_tryAs, tryCase_t, tryCase_f, tbl_hit, suiteOf_hit, wp_eDct, wp_eDGet, wp_eDNew, wp_eDDef, wps_dput]
    exact ⟨small_line (by decide), h2 e⟩
  · simp only [b_inside, ofString_inj, no_len, Nat.reduceAdd, wp_ok, wp_ret, wp_stuck, wp_bad, wp_bnd, wp_if, wp_fif, wps_ok_nx, wps_ok_rt, wps_ok_bk, wps_ok_ct, wps_ok_xc, wps_bad, wps_lft, wps_seq, wps_nil, wps_ret, wps_expr, wps_asg, wps_if, wp_run, wps_for, wps_while, wp_comp, wp_var, wp_C, wp_bin, wp_un, wp_T, wp_Tb, wp_asBl, wp_truthBl, wp_bAnd, wp_bOr, wp_bNot, wp_eIf, wp_eAnd, wp_eOr, wp_eNot, blCase_bl, wp_chain, wp_aNil, wp_aCons, wp_tup, wp_lst, wp_lstM, wp_call, wp_cl1, wp_cl2, wp_cl3, wp_cl4, wp_cl5, wp_meth, wp_isi, wp_oNone, wp_oSome, wp_sl, wp_it, wp_range1, wp_range2, wp_bYes, gEq_str, gNe_str, gEq_int, gNe_int, gEq_bl, gNe_bl, gIs_bl, gIsNot_bl, gAdd_int, gSub_int, gC_int, gI_int, gAdd_str, gAdd_tup, gAdd_lst, gNeg_int, gIx_tup, gIx_lst, gLen_tup, gLen_lst, gLen_str, gInt_int, gInt_bl, gTuple_lst, gTuple_tup, gList_lst, gList_tup, gSl_tup, gSl_lst, gSl_fl, gSl_str, srcL_tup, srcL_lst, srcL_fl, srcL_str, srcR1_int, typN, startR, List.map_cons, List.map_nil, List.length_cons, List.length_nil, Nat.reduceAdd, Nat.reduceSub, Nat.zero_add, Nat.sub_self, Nat.sub_zero, List.replicate_zero, List.replicate_succ, List.cons_append, List.nil_append, List.append_nil, List.getElem?_cons_zero, List.getElem?_cons_succ, List.set_cons_zero, List.set_cons_succ, List.set_nil, List.getElem?_nil, Option.some.injEq, exists_eq_left', exists_eq_left, exists_eq_right, reduceCtorEq, false_and, and_false, true_and, and_true, exists_false, exists_const, wipeR, Nat.zero_le, String.reduceEq, D.int.injEq, D.str.injEq, D.bl.injEq, atI_0, atI_1, atI_2, atI_3, atI_4, beq_self_eq_true, not_true_eq_false, not_false_eq_true, Int.cast_ofNat_Int, Int.reduceEq, Int.reduceLE, Int.reduceLT, Int.reduceAdd, Int.reduceSub, Int.reduceMul, Int.reduceNeg, if_true, if_false, ite_true, ite_false, Bool.false_eq_true, if_neg, if_pos, decide_eq_true_eq, Bool.not_eq_true', decide_eq_false_iff_not, eq_self_iff_true, decide_true, decide_false, Bool.not_true, Bool.not_false, wps_raise, wps_try, wps_tryAs, tryCase_t, tryCase_f, tbl_hit, suiteOf_hit, wp_eDct, wp_eDGet, wp_eDNew, wp_eDDef, wps_dput]
    exact ⟨small_line (by decide), h2 e⟩
theorem tup_tr {B j : Nat} {k : Str} {xs : List D} (ha : ThB B j (.tup [.str k, .tup xs])) : tr (.tup xs) := by
  have := ha.tr
  simpa [DL.tr, D.lo, D.los] using this
theorem inside_row {B j N : Nat} {a : D} (hN : 1 ≤ N) (ha : ThB B j a) (hS : WF S) (h1 : ∀ xs, rowOf a = some xs → xs.length ≤ B → F (.tup xs) S) (h2 : rowOf a = none → E noStep S) : wp (den fu N i_inside [a, .str "row"] S) F E := by
  obtain ⟨m, rfl⟩ : ∃ m, N = m + 1 := ⟨N - 1, by omega⟩
  show wp (runDef false 2 (b_inside fu (den fu m)) _ _) _ _
  rcases ha.shape with ⟨i, rfl, i0, i1, _, e, _⟩ | ⟨xs, rfl, hl, _, e, _⟩ | ⟨xs, rfl, _, _, e, _⟩
  · simp only [b_inside, ofString_inj, no_len, Nat.reduceAdd, wp_ok, wp_ret, wp_stuck, wp_bad, wp_bnd, wp_if, wp_fif, wps_ok_nx, wps_ok_rt, wps_ok_bk, wps_ok_ct, wps_ok_xc, wps_bad, wps_lft, wps_seq, wps_nil, wps_ret, wps_expr, wps_asg, wps_if, wp_run, wps_for, wps_while, wp_comp, wp_var, wp_C, wp_bin, wp_un, wp_T, wp_Tb, wp_asBl, wp_truthBl, wp_bAnd, wp_bOr, wp_bNot, wp_eIf, wp_eAnd, wp_eOr, wp_eNot, blCase_bl, wp_chain, wp_aNil, wp_aCons, wp_tup, wp_lst, wp_lstM, wp_call, wp_cl1, wp_cl2, wp_cl3, wp_cl4, wp_cl5, wp_meth, wp_isi, wp_oNone, wp_oSome, wp_sl, wp_it, wp_range1, wp_range2, wp_bYes, gEq_str, gNe_str, gEq_int, gNe_int, gEq_bl, gNe_bl, gIs_bl, gIsNot_bl, gAdd_int, gSub_int, gC_int, gI_int, gAdd_str, gAdd_tup, gAdd_lst, gNeg_int, gIx_tup, gIx_lst, gLen_tup, gLen_lst, gLen_str, gInt_int, gInt_bl, gTuple_lst, gTuple_tup, gList_lst, gList_tup, gSl_tup, gSl_lst, gSl_fl, gSl_str, srcL_tup, srcL_lst, srcL_fl, srcL_str, srcR1_int, typN, startR, List.map_cons, List.map_nil, List.length_cons, List.length_nil, Nat.reduceAdd, Nat.reduceSub, Nat.zero_add, Nat.sub_self, Nat.sub_zero, List.replicate_zero, List.replicate_succ, List.cons_append, List.nil_append, List.append_nil, List.getElem?_cons_zero, List.getElem?_cons_succ, List.set_cons_zero, List.set_cons_succ, List.set_nil, List.getElem?_nil, Option.some.injEq, exists_eq_left', exists_eq_left, exists_eq_right, reduceCtorEq, false_and, and_false, true_and, and_true, exists_false, exists_const, wipeR, Nat.zero_le, String.reduceEq, D.int.injEq, D.str.injEq, D.bl.injEq, atI_0, atI_1, atI_2, atI_3, atI_4, beq_self_eq_true, not_true_eq_false, not_false_eq_true, Int.cast_ofNat_Int, Int.reduceEq, Int.reduceLE, Int.reduceLT, Int.reduceAdd, Int.reduceSub, Int.reduceMul, Int.reduceNeg, if_true, if_false, ite_true, ite_false, Bool.false_eq_true, if_neg, if_pos, decide_eq_true_eq, Bool.not_eq_true', decide_eq_false_iff_not, eq_self_iff_true, decide_true, decide_false, Bool.not_true, Bool.not_false, wps_raise, wps_try, wps_tryAs, tryCase_t, tryCase_f, tbl_hit, suiteOf_hit, wp_eDct, wp_eDGet, wp_eDNew, wp_eDDef, wps_dput]
    exact ⟨small_line (by decide), h2 e⟩
  · simp only [b_inside, ofString_inj, wp_ok, wp_ret, wp_stuck, wp_bad, wp_bnd, wp_if, wp_fif, wps_ok_nx, wps_ok_rt, wps_ok_bk, wps_ok_ct, wps_ok_xc, wps_bad, wps_lft, wps_seq, wps_nil, wps_ret, wps_expr, wps_asg, wps_if, wp_run, wps_for, wps_while, wp_comp, wp_var, wp_C, wp_bin, wp_un, wp_T, wp_Tb, wp_asBl, wp_truthBl, wp_bAnd, wp_bOr, wp_bNot, wp_eIf, wp_eAnd, wp_eOr, wp_eNot, blCase_bl, wp_chain, wp_aNil, wp_aCons, wp_tup, wp_lst, wp_lstM, wp_call, wp_cl1, wp_cl2, wp_cl3, wp_cl4, wp_cl5, wp_meth, wp_isi, wp_oNone, wp_oSome, wp_sl, wp_it, wp_range1, wp_range2, wp_bYes, gEq_str, gNe_str, gEq_int, gNe_int, gEq_bl, gNe_bl, gIs_bl, gIsNot_bl, gAdd_int, gSub_int, gC_int, gI_int, gAdd_str, gAdd_tup, gAdd_lst, gNeg_int, gIx_tup, gIx_lst, gLen_tup, gLen_lst, gLen_str, gInt_int, gInt_bl, gTuple_lst, gTuple_tup, gList_lst, gList_tup, gSl_tup, gSl_lst, gSl_fl, gSl_str, srcL_tup, srcL_lst, srcL_fl, srcL_str, srcR1_int, typN, startR, List.map_cons, List.map_nil, List.length_cons, List.length_nil, Nat.reduceAdd, Nat.reduceSub, Nat.zero_add, Nat.sub_self, Nat.sub_zero, List.replicate_zero, List.replicate_succ, List.cons_append, List.nil_append, List.append_nil, List.getElem?_cons_zero, List.getElem?_cons_succ, List.set_cons_zero, List.set_cons_succ, List.set_nil, List.getElem?_nil, Option.some.injEq, exists_eq_left', exists_eq_left, exists_eq_right, reduceCtorEq, false_and, and_false, true_and, and_true, exists_false, exists_const, wipeR, Nat.zero_le, String.reduceEq, D.int.injEq, D.str.injEq, D.bl.injEq, atI_0, atI_1, atI_2, atI_3, atI_4, beq_self_eq_true, not_true_eq_false, not_false_eq_true, Int.cast_ofNat_Int, Int.reduceEq, Int.reduceLE, Int.reduceLT, Int.reduceAdd, Int.reduceSub, Int.reduceMul, Int.reduceNeg, if_true, if_false, ite_true, ite_false, Bool.false_eq_true, if_neg, if_pos, decide_eq_true_eq, Bool.not_eq_true', decide_eq_false_iff_not, eq_self_iff_true, decide_true, decide_false, Bool.not_true, Bool.not_false, wps_raise, wps_try, wps_tryAs, tryCase_t, tryCase_f, tbl_hit, suiteOf_hit, wp_eDct, wp_eDGet, wp_eDNew, wp_eDDef, wps_dput]
    exact fin_same hS (tup_tr ha) rfl (h1 xs e hl)
  · simp only [b_inside, ofString_inj, no_len, Nat.reduceAdd, wp_ok, wp_ret, wp_stuck, wp_bad, wp_bnd, wp_if, wp_fif, wps_ok_nx, wps_ok_rt, wps_ok_bk, wps_ok_ct, wps_ok_xc, wps_bad, wps_lft, wps_seq, wps_nil, wps_ret, wps_expr, wps_asg, wps_if, wp_run, wps_for, wps_while, wp_comp, wp_var, wp_C, wp_bin, wp_un, wp_T, wp_Tb, wp_asBl, wp_truthBl, wp_bAnd, wp_bOr, wp_bNot, wp_eIf, wp_eAnd, wp_eOr, wp_eNot, blCase_bl, wp_chain, wp_aNil, wp_aCons, wp_tup, wp_lst, wp_lstM, wp_call, wp_cl1, wp_cl2, wp_cl3, wp_cl4, wp_cl5, wp_meth, wp_isi, wp_oNone, wp_oSome, wp_sl, wp_it, wp_range1, wp_range2, wp_bYes, gEq_str, gNe_str, gEq_int, gNe_int, gEq_bl, gNe_bl, gIs_bl, gIsNot_bl, gAdd_int, gSub_int, gC_int, gI_int, gAdd_str, gAdd_tup, gAdd_lst, gNeg_int, gIx_tup, gIx_lst, gLen_tup, gLen_lst, gLen_str, gInt_int, gInt_bl, gTuple_lst, gTuple_tup, gList_lst, gList_tup, gSl_tup, gSl_lst, gSl_fl, gSl_str, srcL_tup, srcL_lst, srcL_fl, srcL_str, srcR1_int, typN, startR, List.map_cons, List.map_nil, List.length_cons, List.length_nil, Nat.reduceAdd, Nat.reduceSub, Nat.zero_add, Nat.sub_self, Nat.sub_zero, List.replicate_zero, List.replicate_succ, List.cons_append, List.nil_append, List.append_nil, List.getElem?_cons_zero, List.getElem?_cons_succ, List.set_cons_zero, List.set_cons_succ, List.set_nil, List.getElem?_nil, Option.some.injEq, exists_eq_left', exists_eq_left, exists_eq_right, reduceCtorEq, false_and, and_false, true_and, and_true, exists_false, exists_const, wipeR, Nat.zero_le, String.reduceEq, D.int.injEq, D.str.injEq, D.bl.injEq, atI_0, atI_1, atI_2, atI_3, atI_4, beq_self_eq_true, not_true_eq_false, not_false_eq_true, Int.cast_ofNat_Int, Int.reduceEq, Int.reduceLE, Int.reduceLT, Int.reduceAdd, Int.reduceSub, Int.reduceMul, Int.reduceNeg, if_true, if_false, ite_true, ite_false, Bool.false_eq_true, if_neg, if_pos, decide_eq_true_eq, Bool.not_eq_true', decide_eq_false_iff_not, eq_self_iff_true, decide_true, decide_false, Bool.not_true, Bool.not_false, wps_raise, wps_try, wps_tryAs, tryCase_t, tryCase_f, tbl_hit, suiteOf_hit, wp_eDct, wp_eDGet, wp_eDNew, wp_eDDef, wps_dput]
    exact ⟨small_line (by decide), h2 e⟩
theorem inside_list {B j N : Nat} {a : D} (hN : 1 ≤ N) (ha : ThB B j a) (hS : WF S) (h1 : ∀ xs, lstOf a = some xs → xs.length ≤ B → F (.tup xs) S) (h2 : lstOf a = none → E noStep S) : wp (den fu N i_inside [a, .str "list"] S) F E := by
  obtain ⟨m, rfl⟩ : ∃ m, N = m + 1 := ⟨N - 1, by omega⟩
  show wp (runDef false 2 (b_inside fu (den fu m)) _ _) _ _
  rcases ha.shape with ⟨i, rfl, i0, i1, e, _, _⟩ | ⟨xs, rfl, hl, e, _, _⟩ | ⟨xs, rfl, hl, e, _, _⟩
  · simp only [b_inside, ofString_inj, no_len, Nat.reduceAdd, wp_ok, wp_ret, wp_stuck, wp_bad, wp_bnd, wp_if, wp_fif, wps_ok_nx, wps_ok_rt, wps_ok_bk, wps_ok_ct, wps_ok_xc, wps_bad, wps_lft, wps_seq, wps_nil, wps_ret, wps_expr, wps_asg, wps_if, wp_run, wps_for, wps_while, wp_comp, wp_var, wp_C, wp_bin, wp_un, wp_T, wp_Tb, wp_asBl, wp_truthBl, wp_bAnd, wp_bOr, wp_bNot, wp_eIf, wp_eAnd, wp_eOr, wp_eNot, blCase_bl, wp_chain, wp_aNil, wp_aCons, wp_tup, wp_lst, wp_lstM, wp_call, wp_cl1, wp_cl2, wp_cl3, wp_cl4, wp_cl5, wp_meth, wp_isi, wp_oNone, wp_oSome, wp_sl, wp_it, wp_range1, wp_range2, wp_bYes, gEq_str, gNe_str, gEq_int, gNe_int, gEq_bl, gNe_bl, gIs_bl, gIsNot_bl, gAdd_int, gSub_int, gC_int, gI_int, gAdd_str, gAdd_tup, gAdd_lst, gNeg_int, gIx_tup, gIx_lst, gLen_tup, gLen_lst, gLen_str, gInt_int, gInt_bl, gTuple_lst, gTuple_tup, gList_lst, gList_tup, gSl_tup, gSl_lst, gSl_fl, gSl_str, srcL_tup, srcL_lst, srcL_fl, srcL_str, srcR1_int, typN, startR, List.map_cons, List.map_nil, List.length_cons, List.length_nil, Nat.reduceAdd, Nat.reduceSub, Nat.zero_add, Nat.sub_self, Nat.sub_zero, List.replicate_zero, List.replicate_succ, List.cons_append, List.nil_append, List.append_nil, List.getElem?_cons_zero, List.getElem?_cons_succ, List.set_cons_zero, List.set_cons_succ, List.set_nil, List.getElem?_nil, Option.some.injEq, exists_eq_left', exists_eq_left, exists_eq_right, reduceCtorEq, false_and, and_false, true_and, and_true, exists_false, exists_const, wipeR, Nat.zero_le, String.reduceEq, D.int.injEq, D.str.injEq, D.bl.injEq, atI_0, atI_1, atI_2, atI_3, atI_4, beq_self_eq_true, not_true_eq_false, not_false_eq_true, Int.cast_ofNat_Int, Int.reduceEq, Int.reduceLE, Int.reduceLT, Int.reduceAdd, Int.reduceSub, Int.reduceMul, Int.reduceNeg, if_true, if_false, ite_true, ite_false, Bool.false_eq_true, if_neg, if_pos, decide_eq_true_eq, Bool.not_eq_true', decide_eq_false_iff_not, eq_self_iff_true, decide_true, decide_false, Bool.not_true, Bool.not_false, wps_raise, wps_try, wps_tryAs, tryCase_t, tryCase_f, tbl_hit, suiteOf_hit, wp_eDct, wp_eDGet, wp_eDNew, wp_eDDef, wps_dput]
    exact ⟨small_line (by decide), h2 e⟩
  · simp only [b_inside, ofString_inj, no_len, Nat.reduceAdd, wp_ok, wp_ret, wp_stuck, wp_bad, wp_bnd, wp_if, wp_fif, wps_ok_nx, wps_ok_rt, wps_ok_bk, wps_ok_ct, wps_ok_xc, wps_bad, wps_lft, wps_seq, wps_nil, wps_ret, wps_expr, wps_asg, wps_if, wp_run, wps_for, wps_while, wp_comp, wp_var, wp_C, wp_bin, wp_un, wp_T, wp_Tb, wp_asBl, wp_truthBl, wp_bAnd, wp_bOr, wp_bNot, wp_eIf, wp_eAnd, wp_eOr, wp_eNot, blCase_bl, wp_chain, wp_aNil, wp_aCons, wp_tup, wp_lst, wp_lstM, wp_call, wp_cl1, wp_cl2, wp_cl3, wp_cl4, wp_cl5, wp_meth, wp_isi, wp_oNone, wp_oSome, wp_sl, wp_it, wp_range1, wp_range2, wp_bYes, gEq_str, gNe_str, gEq_int, gNe_int, gEq_bl, gNe_bl, gIs_bl, gIsNot_bl, gAdd_int, gSub_int, gC_int, gI_int, gAdd_str, gAdd_tup, gAdd_lst, gNeg_int, gIx_tup, gIx_lst, gLen_tup, gLen_lst, gLen_str, gInt_int, gInt_bl, gTuple_lst, gTuple_tup, gList_lst, gList_tup, gSl_tup, gSl_lst, gSl_fl, gSl_str, srcL_tup, srcL_lst, srcL_fl, srcL_str, srcR1_int, typN, startR, List.map_cons, List.map_nil, List.length_cons, List.length_nil, Nat.reduceAdd, Nat.reduceSub, Nat.zero_add, Nat.sub_self, Nat.sub_zero, List.replicate_zero, List.replicate_succ, List.cons_append, List.nil_append, List.append_nil, List.getElem?_cons_zero, List.getElem?_cons_succ, List.set_cons_zero, List.set_cons_succ, List.set_nil, List.getElem?_nil, Option.some.injEq, exists_eq_left', exists_eq_left, exists_eq_right, reduceCtorEq, false_and, and_false, true_and, and_true, exists_false, exists_const, wipeR, Nat.zero_le, String.reduceEq, D.int.injEq, D.str.injEq, D.bl.injEq, atI_0, atI_1, atI_2, atI_3, atI_4, beq_self_eq_true, not_true_eq_false, not_false_eq_true, Int.cast_ofNat_Int, Int.reduceEq, Int.reduceLE, Int.reduceLT, Int.reduceAdd, Int.reduceSub, Int.reduceMul, Int.reduceNeg, if_true, if_false, ite_true, ite_false, Bool.false_eq_true, if_neg, if_pos, decide_eq_true_eq, Bool.not_eq_true', decide_eq_false_iff_not, eq_self_iff_true, decide_true, decide_false, Bool.not_true, Bool.not_false, wps_raise, wps_try, wps_tryAs, tryCase_t, tryCase_f, tbl_hit, suiteOf_hit, wp_eDct, wp_eDGet, wp_eDNew, wp_eDDef, wps_dput]
    exact ⟨small_line (by decide), h2 e⟩
  · simp only [b_inside, ofString_inj, wp_ok, wp_ret, wp_stuck, wp_bad, wp_bnd, wp_if, wp_fif, wps_ok_nx, wps_ok_rt, wps_ok_bk, wps_ok_ct, wps_ok_xc, wps_bad, wps_lft, wps_seq, wps_nil, wps_ret, wps_expr, wps_asg, wps_if, wp_run, wps_for, wps_while, wp_comp, wp_var, wp_C, wp_bin, wp_un, wp_T, wp_Tb, wp_asBl, wp_truthBl, wp_bAnd, wp_bOr, wp_bNot, wp_eIf, wp_eAnd, wp_eOr, wp_eNot, blCase_bl, wp_chain, wp_aNil, wp_aCons, wp_tup, wp_lst, wp_lstM, wp_call, wp_cl1, wp_cl2, wp_cl3, wp_cl4, wp_cl5, wp_meth, wp_isi, wp_oNone, wp_oSome, wp_sl, wp_it, wp_range1, wp_range2, wp_bYes, gEq_str, gNe_str, gEq_int, gNe_int, gEq_bl, gNe_bl, gIs_bl, gIsNot_bl, gAdd_int, gSub_int, gC_int, gI_int, gAdd_str, gAdd_tup, gAdd_lst, gNeg_int, gIx_tup, gIx_lst, gLen_tup, gLen_lst, gLen_str, gInt_int, gInt_bl, gTuple_lst, gTuple_tup, gList_lst, gList_tup, gSl_tup, gSl_lst, gSl_fl, gSl_str, srcL_tup, srcL_lst, srcL_fl, srcL_str, srcR1_int, typN, startR, List.map_cons, List.map_nil, List.length_cons, List.length_nil, Nat.reduceAdd, Nat.reduceSub, Nat.zero_add, Nat.sub_self, Nat.sub_zero, List.replicate_zero, List.replicate_succ, List.cons_append, List.nil_append, List.append_nil, List.getElem?_cons_zero, List.getElem?_cons_succ, List.set_cons_zero, List.set_cons_succ, List.set_nil, List.getElem?_nil, Option.some.injEq, exists_eq_left', exists_eq_left, exists_eq_right, reduceCtorEq, false_and, and_false, true_and, and_true, exists_false, exists_const, wipeR, Nat.zero_le, String.reduceEq, D.int.injEq, D.str.injEq, D.bl.injEq, atI_0, atI_1, atI_2, atI_3, atI_4, beq_self_eq_true, not_true_eq_false, not_false_eq_true, Int.cast_ofNat_Int, Int.reduceEq, Int.reduceLE, Int.reduceLT, Int.reduceAdd, Int.reduceSub, Int.reduceMul, Int.reduceNeg, if_true, if_false, ite_true, ite_false, Bool.false_eq_true, if_neg, if_pos, decide_eq_true_eq, Bool.not_eq_true', decide_eq_false_iff_not, eq_self_iff_true, decide_true, decide_false, Bool.not_true, Bool.not_false, wps_raise, wps_try, wps_tryAs, tryCase_t, tryCase_f, tbl_hit, suiteOf_hit, wp_eDct, wp_eDGet, wp_eDNew, wp_eDDef, wps_dput]
    exact fin_same hS (tup_tr ha) rfl (h1 xs e hl)
def nums : List Str := ["plus", "minus", "times", "less", "same"]
theorem reckoned_ok {N : Nat} {w : Str} {m n : Int} (hN : 1 ≤ N) (hw : w ∈ nums) (m0 : 0 ≤ m) (m1 : m < 1000000000000) (hS : WF S) (hF : F (.int (calcN w m n)) S) : wp (den fu N i_reckoned [.str w, .int m, .int n] S) F E := by
  obtain ⟨k, rfl⟩ : ∃ k, N = k + 1 := ⟨N - 1, by omega⟩
  show wp (runDef false 3 (b_reckoned fu (den fu k)) _ _) _ _
  have cm : cMul m n = true := cMul_l m0 (by omega)
  simp only [nums, List.mem_cons, List.not_mem_nil, or_false] at hw
  rcases hw with rfl | rfl | rfl | rfl | rfl <;> (unfold calcN at hF; simp only [ofString_inj, Nat.zero_le, String.reduceEq, D.int.injEq, D.str.injEq, D.bl.injEq, atI_0, atI_1, atI_2, atI_3, atI_4, beq_self_eq_true, not_true_eq_false, not_false_eq_true, Int.cast_ofNat_Int, Int.reduceEq, Int.reduceLE, Int.reduceLT, Int.reduceAdd, Int.reduceSub, Int.reduceMul, Int.reduceNeg, if_true, if_false, ite_true, ite_false, Bool.false_eq_true, if_neg, if_pos, decide_eq_true_eq, Bool.not_eq_true', decide_eq_false_iff_not, eq_self_iff_true, decide_true, decide_false, Bool.not_true, Bool.not_false] at hF; simp only [b_reckoned, ofString_inj, k_WHOLE, fin_int hS, cm, wp_ok, wp_ret, wp_stuck, wp_bad, wp_bnd, wp_if, wp_fif, wps_ok_nx, wps_ok_rt, wps_ok_bk, wps_ok_ct, wps_ok_xc, wps_bad, wps_lft, wps_seq, wps_nil, wps_ret, wps_expr, wps_asg, wps_if, wp_run, wps_for, wps_while, wp_comp, wp_var, wp_C, wp_bin, wp_un, wp_T, wp_Tb, wp_asBl, wp_truthBl, wp_bAnd, wp_bOr, wp_bNot, wp_eIf, wp_eAnd, wp_eOr, wp_eNot, blCase_bl, wp_chain, wp_aNil, wp_aCons, wp_tup, wp_lst, wp_lstM, wp_call, wp_cl1, wp_cl2, wp_cl3, wp_cl4, wp_cl5, wp_meth, wp_isi, wp_oNone, wp_oSome, wp_sl, wp_it, wp_range1, wp_range2, wp_bYes, gEq_str, gNe_str, gEq_int, gNe_int, gEq_bl, gNe_bl, gIs_bl, gIsNot_bl, gAdd_int, gSub_int, gC_int, gI_int, gAdd_str, gAdd_tup, gAdd_lst, gNeg_int, gIx_tup, gIx_lst, gLen_tup, gLen_lst, gLen_str, gInt_int, gInt_bl, gTuple_lst, gTuple_tup, gList_lst, gList_tup, gSl_tup, gSl_lst, gSl_fl, gSl_str, srcL_tup, srcL_lst, srcL_fl, srcL_str, srcR1_int, typN, startR, List.map_cons, List.map_nil, List.length_cons, List.length_nil, Nat.reduceAdd, Nat.reduceSub, Nat.zero_add, Nat.sub_self, Nat.sub_zero, List.replicate_zero, List.replicate_succ, List.cons_append, List.nil_append, List.append_nil, List.getElem?_cons_zero, List.getElem?_cons_succ, List.set_cons_zero, List.set_cons_succ, List.set_nil, List.getElem?_nil, Option.some.injEq, exists_eq_left', exists_eq_left, exists_eq_right, reduceCtorEq, false_and, and_false, true_and, and_true, exists_false, exists_const, wipeR, Nat.zero_le, String.reduceEq, D.int.injEq, D.str.injEq, D.bl.injEq, atI_0, atI_1, atI_2, atI_3, atI_4, beq_self_eq_true, not_true_eq_false, not_false_eq_true, Int.cast_ofNat_Int, Int.reduceEq, Int.reduceLE, Int.reduceLT, Int.reduceAdd, Int.reduceSub, Int.reduceMul, Int.reduceNeg, if_true, if_false, ite_true, ite_false, Bool.false_eq_true, if_neg, if_pos, decide_eq_true_eq, Bool.not_eq_true', decide_eq_false_iff_not, eq_self_iff_true, decide_true, decide_false, Bool.not_true, Bool.not_false, wps_raise, wps_try, wps_tryAs, tryCase_t, tryCase_f, tbl_hit, suiteOf_hit, wp_eDct, wp_eDGet, wp_eDNew, wp_eDDef, wps_dput]; exact hF)
theorem done_ok {B j N : Nat} {w : Str} {a b : D} (hB : B ≤ 1000000) (hN : 4 ≤ N) (hw : w ∈ pairs) (ha : ThB B j a) (hb : ThB B j b) (hS : WF S) (h1 : ∀ d, pairOp w a b = some d → F (.tup [.tup [d], .tup []]) S) (h2 : pairOp w a b = none → E noStep S) :
    wp (den fu N i_done [.str w, .tup [a, b]] S) F E := by
  obtain ⟨k, rfl⟩ : ∃ k, N = k + 2 := ⟨N - 2, by omega⟩
  show wp (runDef false 3 (b_done fu (den fu (k + 1))) _ _) _ _
  have fin : ∀ d, ThB (2 * B + 1) (j + 1) d → F (.tup [.tup [d], .tup []]) S → wp (finD false S.length (.tup [.tup [d], .tup []]) S) F E := fun d hd hF => fin_same hS (by have := hd.tr; simp [DL.tr, D.lo, D.los] at this ⊢; exact this) rfl hF
  have good := fun d => pairOp_good (w := w) (d := d) ha hb
  have inN : ∀ {F E}, wp (gIn (.str w) (.tup [.str "plus", .str "minus", .str "times", .str "less", .str "same"]) S) F E ↔ F (.bl (decide (w ∈ nums))) S := fun {F E} => gIn_strs (l := nums) rfl
  have inR : ∀ {F E}, wp (gIn (.str w) (.tup [.str "do", .str "dip", .str "if", .str "while", .str "repeat"]) S) F E ↔ F (.bl (decide (w ∈ (["do", "dip", "if", "while", "repeat"] : List Str)))) S := fun {F E} => gIn_strs (l := (["do", "dip", "if", "while", "repeat"] : List Str)) rfl
  simp only [b_done, inN, inR, List.length_cons, List.length_nil, sl, Nat.reduceLeDiff, wp_ok, wp_ret, wp_stuck, wp_bad, wp_bnd, wp_if, wp_fif, wps_ok_nx, wps_ok_rt, wps_ok_bk, wps_ok_ct, wps_ok_xc, wps_bad, wps_lft, wps_seq, wps_nil, wps_ret, wps_expr, wps_asg, wps_if, wp_run, wps_for, wps_while, wp_comp, wp_var, wp_C, wp_bin, wp_un, wp_T, wp_Tb, wp_asBl, wp_truthBl, wp_bAnd, wp_bOr, wp_bNot, wp_eIf, wp_eAnd, wp_eOr, wp_eNot, blCase_bl, wp_chain, wp_aNil, wp_aCons, wp_tup, wp_lst, wp_lstM, wp_call, wp_cl1, wp_cl2, wp_cl3, wp_cl4, wp_cl5, wp_meth, wp_isi, wp_oNone, wp_oSome, wp_sl, wp_it, wp_range1, wp_range2, wp_bYes, gEq_str, gNe_str, gEq_int, gNe_int, gEq_bl, gNe_bl, gIs_bl, gIsNot_bl, gAdd_int, gSub_int, gC_int, gI_int, gAdd_str, gAdd_tup, gAdd_lst, gNeg_int, gIx_tup, gIx_lst, gLen_tup, gLen_lst, gLen_str, gInt_int, gInt_bl, gTuple_lst, gTuple_tup, gList_lst, gList_tup, gSl_tup, gSl_lst, gSl_fl, gSl_str, srcL_tup, srcL_lst, srcL_fl, srcL_str, srcR1_int, typN, startR, List.map_cons, List.map_nil, List.length_cons, List.length_nil, Nat.reduceAdd, Nat.reduceSub, Nat.zero_add, Nat.sub_self, Nat.sub_zero, List.replicate_zero, List.replicate_succ, List.cons_append, List.nil_append, List.append_nil, List.getElem?_cons_zero, List.getElem?_cons_succ, List.set_cons_zero, List.set_cons_succ, List.set_nil, List.getElem?_nil, Option.some.injEq, exists_eq_left', exists_eq_left, exists_eq_right, reduceCtorEq, false_and, and_false, true_and, and_true, exists_false, exists_const, wipeR, Nat.zero_le, String.reduceEq, D.int.injEq, D.str.injEq, D.bl.injEq, atI_0, atI_1, atI_2, atI_3, atI_4, beq_self_eq_true, not_true_eq_false, not_false_eq_true, Int.cast_ofNat_Int, Int.reduceEq, Int.reduceLE, Int.reduceLT, Int.reduceAdd, Int.reduceSub, Int.reduceMul, Int.reduceNeg, if_true, if_false, ite_true, ite_false, Bool.false_eq_true, if_neg, if_pos, decide_eq_true_eq, Bool.not_eq_true', decide_eq_false_iff_not, eq_self_iff_true, decide_true, decide_false, Bool.not_true, Bool.not_false, wps_raise, wps_try, wps_tryAs, tryCase_t, tryCase_f, tbl_hit, suiteOf_hit, wp_eDct, wp_eDGet, wp_eDNew, wp_eDDef, wps_dput]
  by_cases hn : w ∈ nums
  · simp only [hn, decide_true, Nat.zero_le, String.reduceEq, D.int.injEq, D.str.injEq, D.bl.injEq, atI_0, atI_1, atI_2, atI_3, atI_4, beq_self_eq_true, not_true_eq_false, not_false_eq_true, Int.cast_ofNat_Int, Int.reduceEq, Int.reduceLE, Int.reduceLT, Int.reduceAdd, Int.reduceSub, Int.reduceMul, Int.reduceNeg, if_true, if_false, ite_true, ite_false, Bool.false_eq_true, if_neg, if_pos, decide_eq_true_eq, Bool.not_eq_true', decide_eq_false_iff_not, eq_self_iff_true, decide_true, decide_false, Bool.not_true, Bool.not_false]
    have hp : w ≠ Str.ofString "put" ∧ w ≠ Str.ofString "join" := by
      constructor <;> (rintro rfl; revert hn; decide +kernel)
    have hpo : pairOp w a b = match numOf a, numOf b with
      | some m, some n => some (.tup [.str "number", .int (calcN w m n)])
      | _, _ => none := by unfold pairOp; rw [if_neg hp.1, if_neg hp.2] <;> rfl
    refine inside_num (by omega) ha hS (fun m e1 m0 m1 => ?_) fun e1 => h2 (by rw [hpo, e1])
    refine inside_num (by omega) hb hS (fun n e2 n0 n1 => ?_) fun e2 => h2 (by rw [hpo, e1, e2])
    have hr : pairOp w a b = some (.tup [.str "number", .int (calcN w m n)]) := by rw [hpo, e1, e2]
    refine reckoned_ok (by omega) hn m0 m1 hS ?_
    exact fin _ (good _ hr) (h1 _ hr)
  · have hd : w ∉ (["do", "dip", "if", "while", "repeat"] : List Str) := by
      simp only [pairs, List.mem_cons, List.not_mem_nil, or_false] at hw
      rcases hw with rfl | rfl | rfl | rfl | rfl | rfl | rfl <;> decide +kernel
    simp only [hn, hd, decide_false, Nat.zero_le, String.reduceEq, D.int.injEq, D.str.injEq, D.bl.injEq, atI_0, atI_1, atI_2, atI_3, atI_4, beq_self_eq_true, not_true_eq_false, not_false_eq_true, Int.cast_ofNat_Int, Int.reduceEq, Int.reduceLE, Int.reduceLT, Int.reduceAdd, Int.reduceSub, Int.reduceMul, Int.reduceNeg, if_true, if_false, ite_true, ite_false, Bool.false_eq_true, if_neg, if_pos, decide_eq_true_eq, Bool.not_eq_true', decide_eq_false_iff_not, eq_self_iff_true, decide_true, decide_false, Bool.not_true, Bool.not_false]
    have hw2 : w = Str.ofString "put" ∨ w = Str.ofString "join" := by
      simp only [nums, pairs, List.mem_cons, List.not_mem_nil, or_false] at hw hn
      rcases hw with h | h | h | h | h | h | h
      · exact absurd (.inl h) hn
      · exact absurd (.inr (.inl h)) hn
      · exact absurd (.inr (.inr (.inl h))) hn
      · exact absurd (.inr (.inr (.inr (.inl h)))) hn
      · exact absurd (.inr (.inr (.inr (.inr h)))) hn
      · exact .inl h
      · exact .inr h
    have thr : tr (.tup [a, b]) := tr_tup fun d hd => by
      simp only [List.mem_cons, List.not_mem_nil, or_false] at hd
      rcases hd with rfl | rfl
      · exact ha.tr
      · exact hb.tr
    show wp (runDef false 5 (b_done_things fu (den fu k)) _ _) _ _
    rcases hw2 with rfl | rfl
    · have hpo : pairOp (Str.ofString "put") a b = (lstOf a).map fun xs => .tup [.str "list", .tup (xs ++ [b])] := by unfold pairOp; rw [if_pos rfl]
      simp only [b_done_things, ofString_inj, sl, Nat.reduceLeDiff, wp_ok, wp_ret, wp_stuck, wp_bad, wp_bnd, wp_if, wp_fif, wps_ok_nx, wps_ok_rt, wps_ok_bk, wps_ok_ct, wps_ok_xc, wps_bad, wps_lft, wps_seq, wps_nil, wps_ret, wps_expr, wps_asg, wps_if, wp_run, wps_for, wps_while, wp_comp, wp_var, wp_C, wp_bin, wp_un, wp_T, wp_Tb, wp_asBl, wp_truthBl, wp_bAnd, wp_bOr, wp_bNot, wp_eIf, wp_eAnd, wp_eOr, wp_eNot, blCase_bl, wp_chain, wp_aNil, wp_aCons, wp_tup, wp_lst, wp_lstM, wp_call, wp_cl1, wp_cl2, wp_cl3, wp_cl4, wp_cl5, wp_meth, wp_isi, wp_oNone, wp_oSome, wp_sl, wp_it, wp_range1, wp_range2, wp_bYes, gEq_str, gNe_str, gEq_int, gNe_int, gEq_bl, gNe_bl, gIs_bl, gIsNot_bl, gAdd_int, gSub_int, gC_int, gI_int, gAdd_str, gAdd_tup, gAdd_lst, gNeg_int, gIx_tup, gIx_lst, gLen_tup, gLen_lst, gLen_str, gInt_int, gInt_bl, gTuple_lst, gTuple_tup, gList_lst, gList_tup, gSl_tup, gSl_lst, gSl_fl, gSl_str, srcL_tup, srcL_lst, srcL_fl, srcL_str, srcR1_int, typN, startR, List.map_cons, List.map_nil, List.length_cons, List.length_nil, Nat.reduceAdd, Nat.reduceSub, Nat.zero_add, Nat.sub_self, Nat.sub_zero, List.replicate_zero, List.replicate_succ, List.cons_append, List.nil_append, List.append_nil, List.getElem?_cons_zero, List.getElem?_cons_succ, List.set_cons_zero, List.set_cons_succ, List.set_nil, List.getElem?_nil, Option.some.injEq, exists_eq_left', exists_eq_left, exists_eq_right, reduceCtorEq, false_and, and_false, true_and, and_true, exists_false, exists_const, wipeR, Nat.zero_le, String.reduceEq, D.int.injEq, D.str.injEq, D.bl.injEq, atI_0, atI_1, atI_2, atI_3, atI_4, beq_self_eq_true, not_true_eq_false, not_false_eq_true, Int.cast_ofNat_Int, Int.reduceEq, Int.reduceLE, Int.reduceLT, Int.reduceAdd, Int.reduceSub, Int.reduceMul, Int.reduceNeg, if_true, if_false, ite_true, ite_false, Bool.false_eq_true, if_neg, if_pos, decide_eq_true_eq, Bool.not_eq_true', decide_eq_false_iff_not, eq_self_iff_true, decide_true, decide_false, Bool.not_true, Bool.not_false, wps_raise, wps_try, wps_tryAs, tryCase_t, tryCase_f, tbl_hit, suiteOf_hit, wp_eDct, wp_eDGet, wp_eDNew, wp_eDDef, wps_dput]
      refine inside_list (by omega) ha hS (fun xs e hl => ?_) fun e => h2 (by rw [hpo, e]; rfl)
      have hr : pairOp (Str.ofString "put") a b = some (.tup [.str "list", .tup (xs ++ [b])]) := by rw [hpo, e]; rfl
      simp only [sl, Nat.reduceLeDiff, wp_ok, wp_ret, wp_stuck, wp_bad, wp_bnd, wp_if, wp_fif, wps_ok_nx, wps_ok_rt, wps_ok_bk, wps_ok_ct, wps_ok_xc, wps_bad, wps_lft, wps_seq, wps_nil, wps_ret, wps_expr, wps_asg, wps_if, wp_run, wps_for, wps_while, wp_comp, wp_var, wp_C, wp_bin, wp_un, wp_T, wp_Tb, wp_asBl, wp_truthBl, wp_bAnd, wp_bOr, wp_bNot, wp_eIf, wp_eAnd, wp_eOr, wp_eNot, blCase_bl, wp_chain, wp_aNil, wp_aCons, wp_tup, wp_lst, wp_lstM, wp_call, wp_cl1, wp_cl2, wp_cl3, wp_cl4, wp_cl5, wp_meth, wp_isi, wp_oNone, wp_oSome, wp_sl, wp_it, wp_range1, wp_range2, wp_bYes, gEq_str, gNe_str, gEq_int, gNe_int, gEq_bl, gNe_bl, gIs_bl, gIsNot_bl, gAdd_int, gSub_int, gC_int, gI_int, gAdd_str, gAdd_tup, gAdd_lst, gNeg_int, gIx_tup, gIx_lst, gLen_tup, gLen_lst, gLen_str, gInt_int, gInt_bl, gTuple_lst, gTuple_tup, gList_lst, gList_tup, gSl_tup, gSl_lst, gSl_fl, gSl_str, srcL_tup, srcL_lst, srcL_fl, srcL_str, srcR1_int, typN, startR, List.map_cons, List.map_nil, List.length_cons, List.length_nil, Nat.reduceAdd, Nat.reduceSub, Nat.zero_add, Nat.sub_self, Nat.sub_zero, List.replicate_zero, List.replicate_succ, List.cons_append, List.nil_append, List.append_nil, List.getElem?_cons_zero, List.getElem?_cons_succ, List.set_cons_zero, List.set_cons_succ, List.set_nil, List.getElem?_nil, Option.some.injEq, exists_eq_left', exists_eq_left, exists_eq_right, reduceCtorEq, false_and, and_false, true_and, and_true, exists_false, exists_const, wipeR, Nat.zero_le, String.reduceEq, D.int.injEq, D.str.injEq, D.bl.injEq, atI_0, atI_1, atI_2, atI_3, atI_4, beq_self_eq_true, not_true_eq_false, not_false_eq_true, Int.cast_ofNat_Int, Int.reduceEq, Int.reduceLE, Int.reduceLT, Int.reduceAdd, Int.reduceSub, Int.reduceMul, Int.reduceNeg, if_true, if_false, ite_true, ite_false, Bool.false_eq_true, if_neg, if_pos, decide_eq_true_eq, Bool.not_eq_true', decide_eq_false_iff_not, eq_self_iff_true, decide_true, decide_false, Bool.not_true, Bool.not_false, wps_raise, wps_try, wps_tryAs, tryCase_t, tryCase_f, tbl_hit, suiteOf_hit, wp_eDct, wp_eDGet, wp_eDNew, wp_eDDef, wps_dput]
      refine ⟨small_line (by omega), fin_same hS (by have := (good _ hr).tr; simp [DL.tr, D.lo, D.los] at this ⊢; exact this) rfl ?_⟩
      exact fin _ (good _ hr) (h1 _ hr)
    · have hpo : pairOp (Str.ofString "join") a b = match rowOf a, rowOf b with
        | some x, some y => some (.tup [.str "row", .tup (x ++ y)])
        | _, _ => none := by unfold pairOp; rw [if_neg (by decide +kernel), if_pos rfl] <;> rfl
      simp only [b_done_things, ofString_inj, sl, Nat.reduceLeDiff, wp_ok, wp_ret, wp_stuck, wp_bad, wp_bnd, wp_if, wp_fif, wps_ok_nx, wps_ok_rt, wps_ok_bk, wps_ok_ct, wps_ok_xc, wps_bad, wps_lft, wps_seq, wps_nil, wps_ret, wps_expr, wps_asg, wps_if, wp_run, wps_for, wps_while, wp_comp, wp_var, wp_C, wp_bin, wp_un, wp_T, wp_Tb, wp_asBl, wp_truthBl, wp_bAnd, wp_bOr, wp_bNot, wp_eIf, wp_eAnd, wp_eOr, wp_eNot, blCase_bl, wp_chain, wp_aNil, wp_aCons, wp_tup, wp_lst, wp_lstM, wp_call, wp_cl1, wp_cl2, wp_cl3, wp_cl4, wp_cl5, wp_meth, wp_isi, wp_oNone, wp_oSome, wp_sl, wp_it, wp_range1, wp_range2, wp_bYes, gEq_str, gNe_str, gEq_int, gNe_int, gEq_bl, gNe_bl, gIs_bl, gIsNot_bl, gAdd_int, gSub_int, gC_int, gI_int, gAdd_str, gAdd_tup, gAdd_lst, gNeg_int, gIx_tup, gIx_lst, gLen_tup, gLen_lst, gLen_str, gInt_int, gInt_bl, gTuple_lst, gTuple_tup, gList_lst, gList_tup, gSl_tup, gSl_lst, gSl_fl, gSl_str, srcL_tup, srcL_lst, srcL_fl, srcL_str, srcR1_int, typN, startR, List.map_cons, List.map_nil, List.length_cons, List.length_nil, Nat.reduceAdd, Nat.reduceSub, Nat.zero_add, Nat.sub_self, Nat.sub_zero, List.replicate_zero, List.replicate_succ, List.cons_append, List.nil_append, List.append_nil, List.getElem?_cons_zero, List.getElem?_cons_succ, List.set_cons_zero, List.set_cons_succ, List.set_nil, List.getElem?_nil, Option.some.injEq, exists_eq_left', exists_eq_left, exists_eq_right, reduceCtorEq, false_and, and_false, true_and, and_true, exists_false, exists_const, wipeR, Nat.zero_le, String.reduceEq, D.int.injEq, D.str.injEq, D.bl.injEq, atI_0, atI_1, atI_2, atI_3, atI_4, beq_self_eq_true, not_true_eq_false, not_false_eq_true, Int.cast_ofNat_Int, Int.reduceEq, Int.reduceLE, Int.reduceLT, Int.reduceAdd, Int.reduceSub, Int.reduceMul, Int.reduceNeg, if_true, if_false, ite_true, ite_false, Bool.false_eq_true, if_neg, if_pos, decide_eq_true_eq, Bool.not_eq_true', decide_eq_false_iff_not, eq_self_iff_true, decide_true, decide_false, Bool.not_true, Bool.not_false, wps_raise, wps_try, wps_tryAs, tryCase_t, tryCase_f, tbl_hit, suiteOf_hit, wp_eDct, wp_eDGet, wp_eDNew, wp_eDDef, wps_dput]
      refine inside_row (by omega) ha hS (fun xs e1 hl => ?_) fun e1 => h2 (by rw [hpo, e1])
      refine inside_row (by omega) hb hS (fun ys e2 hl2 => ?_) fun e2 => h2 (by rw [hpo, e1, e2])
      have hr : pairOp (Str.ofString "join") a b = some (.tup [.str "row", .tup (xs ++ ys)]) := by rw [hpo, e1, e2]
      simp only [sl, Nat.reduceLeDiff, wp_ok, wp_ret, wp_stuck, wp_bad, wp_bnd, wp_if, wp_fif, wps_ok_nx, wps_ok_rt, wps_ok_bk, wps_ok_ct, wps_ok_xc, wps_bad, wps_lft, wps_seq, wps_nil, wps_ret, wps_expr, wps_asg, wps_if, wp_run, wps_for, wps_while, wp_comp, wp_var, wp_C, wp_bin, wp_un, wp_T, wp_Tb, wp_asBl, wp_truthBl, wp_bAnd, wp_bOr, wp_bNot, wp_eIf, wp_eAnd, wp_eOr, wp_eNot, blCase_bl, wp_chain, wp_aNil, wp_aCons, wp_tup, wp_lst, wp_lstM, wp_call, wp_cl1, wp_cl2, wp_cl3, wp_cl4, wp_cl5, wp_meth, wp_isi, wp_oNone, wp_oSome, wp_sl, wp_it, wp_range1, wp_range2, wp_bYes, gEq_str, gNe_str, gEq_int, gNe_int, gEq_bl, gNe_bl, gIs_bl, gIsNot_bl, gAdd_int, gSub_int, gC_int, gI_int, gAdd_str, gAdd_tup, gAdd_lst, gNeg_int, gIx_tup, gIx_lst, gLen_tup, gLen_lst, gLen_str, gInt_int, gInt_bl, gTuple_lst, gTuple_tup, gList_lst, gList_tup, gSl_tup, gSl_lst, gSl_fl, gSl_str, srcL_tup, srcL_lst, srcL_fl, srcL_str, srcR1_int, typN, startR, List.map_cons, List.map_nil, List.length_cons, List.length_nil, Nat.reduceAdd, Nat.reduceSub, Nat.zero_add, Nat.sub_self, Nat.sub_zero, List.replicate_zero, List.replicate_succ, List.cons_append, List.nil_append, List.append_nil, List.getElem?_cons_zero, List.getElem?_cons_succ, List.set_cons_zero, List.set_cons_succ, List.set_nil, List.getElem?_nil, Option.some.injEq, exists_eq_left', exists_eq_left, exists_eq_right, reduceCtorEq, false_and, and_false, true_and, and_true, exists_false, exists_const, wipeR, Nat.zero_le, String.reduceEq, D.int.injEq, D.str.injEq, D.bl.injEq, atI_0, atI_1, atI_2, atI_3, atI_4, beq_self_eq_true, not_true_eq_false, not_false_eq_true, Int.cast_ofNat_Int, Int.reduceEq, Int.reduceLE, Int.reduceLT, Int.reduceAdd, Int.reduceSub, Int.reduceMul, Int.reduceNeg, if_true, if_false, ite_true, ite_false, Bool.false_eq_true, if_neg, if_pos, decide_eq_true_eq, Bool.not_eq_true', decide_eq_false_iff_not, eq_self_iff_true, decide_true, decide_false, Bool.not_true, Bool.not_false, wps_raise, wps_try, wps_tryAs, tryCase_t, tryCase_f, tbl_hit, suiteOf_hit, wp_eDct, wp_eDGet, wp_eDNew, wp_eDDef, wps_dput]
      refine ⟨small_line (by omega), fin_same hS (by have := (good _ hr).tr; simp [DL.tr, D.lo, D.los] at this ⊢; exact this) rfl ?_⟩
      exact fin _ (good _ hr) (h1 _ hr)
theorem push_ok {N : Nat} {d : D} (hN : 1 ≤ N) (hd : tr d) (hS : WF S) (hF : F (.tup [.str "push", d]) S) : wp (den fu N i_push [d] S) F E := by
  obtain ⟨k, rfl⟩ : ∃ k, N = k + 1 := ⟨N - 1, by omega⟩
  rw [show den fu (k + 1) i_push = runDef false 1 (b_push fu (den fu k)) from rfl]
  simp only [b_push, sl, Nat.reduceLeDiff, wp_ok, wp_ret, wp_stuck, wp_bad, wp_bnd, wp_if, wp_fif, wps_ok_nx, wps_ok_rt, wps_ok_bk, wps_ok_ct, wps_ok_xc, wps_bad, wps_lft, wps_seq, wps_nil, wps_ret, wps_expr, wps_asg, wps_if, wp_run, wps_for, wps_while, wp_comp, wp_var, wp_C, wp_bin, wp_un, wp_T, wp_Tb, wp_asBl, wp_truthBl, wp_bAnd, wp_bOr, wp_bNot, wp_eIf, wp_eAnd, wp_eOr, wp_eNot, blCase_bl, wp_chain, wp_aNil, wp_aCons, wp_tup, wp_lst, wp_lstM, wp_call, wp_cl1, wp_cl2, wp_cl3, wp_cl4, wp_cl5, wp_meth, wp_isi, wp_oNone, wp_oSome, wp_sl, wp_it, wp_range1, wp_range2, wp_bYes, gEq_str, gNe_str, gEq_int, gNe_int, gEq_bl, gNe_bl, gIs_bl, gIsNot_bl, gAdd_int, gSub_int, gC_int, gI_int, gAdd_str, gAdd_tup, gAdd_lst, gNeg_int, gIx_tup, gIx_lst, gLen_tup, gLen_lst, gLen_str, gInt_int, gInt_bl, gTuple_lst, gTuple_tup, gList_lst, gList_tup, gSl_tup, gSl_lst, gSl_fl, gSl_str, srcL_tup, srcL_lst, srcL_fl, srcL_str, srcR1_int, typN, startR, List.map_cons, List.map_nil, List.length_cons, List.length_nil, Nat.reduceAdd, Nat.reduceSub, Nat.zero_add, Nat.sub_self, Nat.sub_zero, List.replicate_zero, List.replicate_succ, List.cons_append, List.nil_append, List.append_nil, List.getElem?_cons_zero, List.getElem?_cons_succ, List.set_cons_zero, List.set_cons_succ, List.set_nil, List.getElem?_nil, Option.some.injEq, exists_eq_left', exists_eq_left, exists_eq_right, reduceCtorEq, false_and, and_false, true_and, and_true, exists_false, exists_const, wipeR, Nat.zero_le, String.reduceEq, D.int.injEq, D.str.injEq, D.bl.injEq, atI_0, atI_1, atI_2, atI_3, atI_4, beq_self_eq_true, not_true_eq_false, not_false_eq_true, Int.cast_ofNat_Int, Int.reduceEq, Int.reduceLE, Int.reduceLT, Int.reduceAdd, Int.reduceSub, Int.reduceMul, Int.reduceNeg, if_true, if_false, ite_true, ite_false, Bool.false_eq_true, if_neg, if_pos, decide_eq_true_eq, Bool.not_eq_true', decide_eq_false_iff_not, eq_self_iff_true, decide_true, decide_false, Bool.not_true, Bool.not_false, wps_raise, wps_try, wps_tryAs, tryCase_t, tryCase_f, tbl_hit, suiteOf_hit, wp_eDct, wp_eDGet, wp_eDNew, wp_eDDef, wps_dput]
  exact fin_same hS (tr2 hd) rfl hF
theorem wrap_ok {B j N : Nat} {a : D} (hN : 4 ≤ N) (ha : ThB B j a) (hS : WF S) (hF : F (.tup [.tup [.tup [.str "row", .tup [.tup [.str "push", a]]]], .tup []]) S) : wp (den fu N i_done [.str "wrap", .tup [a]] S) F E := by
  obtain ⟨k, rfl⟩ : ∃ k, N = k + 2 := ⟨N - 2, by omega⟩
  show wp (runDef false 3 (b_done fu (den fu (k + 1))) _ _) _ _
  have inN : ∀ {F E}, wp (gIn (.str "wrap") (.tup [.str "plus", .str "minus", .str "times", .str "less", .str "same"]) S) F E ↔ F (.bl (decide (Str.ofString "wrap" ∈ nums))) S := fun {F E} => gIn_strs (l := nums) rfl
  have inR : ∀ {F E}, wp (gIn (.str "wrap") (.tup [.str "do", .str "dip", .str "if", .str "while", .str "repeat"]) S) F E ↔ F (.bl (decide (Str.ofString "wrap" ∈ (["do", "dip", "if", "while", "repeat"] : List Str)))) S := fun {F E} => gIn_strs (l := (["do", "dip", "if", "while", "repeat"] : List Str)) rfl
  have h1 : ¬ Str.ofString "wrap" ∈ nums := by decide +kernel
  have h2 : ¬ Str.ofString "wrap" ∈ (["do", "dip", "if", "while", "repeat"] : List Str) := by decide +kernel
  have tra := ha.tr
  have tro : tr (.tup [.tup [.tup [.str "row", .tup [.tup [.str "push", a]]]], .tup []]) := by simp [DL.tr, D.lo, D.los] at tra ⊢; exact tra
  simp only [b_done, inN, inR, h1, h2, sl, Nat.reduceLeDiff, wp_ok, wp_ret, wp_stuck, wp_bad, wp_bnd, wp_if, wp_fif, wps_ok_nx, wps_ok_rt, wps_ok_bk, wps_ok_ct, wps_ok_xc, wps_bad, wps_lft, wps_seq, wps_nil, wps_ret, wps_expr, wps_asg, wps_if, wp_run, wps_for, wps_while, wp_comp, wp_var, wp_C, wp_bin, wp_un, wp_T, wp_Tb, wp_asBl, wp_truthBl, wp_bAnd, wp_bOr, wp_bNot, wp_eIf, wp_eAnd, wp_eOr, wp_eNot, blCase_bl, wp_chain, wp_aNil, wp_aCons, wp_tup, wp_lst, wp_lstM, wp_call, wp_cl1, wp_cl2, wp_cl3, wp_cl4, wp_cl5, wp_meth, wp_isi, wp_oNone, wp_oSome, wp_sl, wp_it, wp_range1, wp_range2, wp_bYes, gEq_str, gNe_str, gEq_int, gNe_int, gEq_bl, gNe_bl, gIs_bl, gIsNot_bl, gAdd_int, gSub_int, gC_int, gI_int, gAdd_str, gAdd_tup, gAdd_lst, gNeg_int, gIx_tup, gIx_lst, gLen_tup, gLen_lst, gLen_str, gInt_int, gInt_bl, gTuple_lst, gTuple_tup, gList_lst, gList_tup, gSl_tup, gSl_lst, gSl_fl, gSl_str, srcL_tup, srcL_lst, srcL_fl, srcL_str, srcR1_int, typN, startR, List.map_cons, List.map_nil, List.length_cons, List.length_nil, Nat.reduceAdd, Nat.reduceSub, Nat.zero_add, Nat.sub_self, Nat.sub_zero, List.replicate_zero, List.replicate_succ, List.cons_append, List.nil_append, List.append_nil, List.getElem?_cons_zero, List.getElem?_cons_succ, List.set_cons_zero, List.set_cons_succ, List.set_nil, List.getElem?_nil, Option.some.injEq, exists_eq_left', exists_eq_left, exists_eq_right, reduceCtorEq, false_and, and_false, true_and, and_true, exists_false, exists_const, wipeR, Nat.zero_le, String.reduceEq, D.int.injEq, D.str.injEq, D.bl.injEq, atI_0, atI_1, atI_2, atI_3, atI_4, beq_self_eq_true, not_true_eq_false, not_false_eq_true, Int.cast_ofNat_Int, Int.reduceEq, Int.reduceLE, Int.reduceLT, Int.reduceAdd, Int.reduceSub, Int.reduceMul, Int.reduceNeg, if_true, if_false, ite_true, ite_false, Bool.false_eq_true, if_neg, if_pos, decide_eq_true_eq, Bool.not_eq_true', decide_eq_false_iff_not, eq_self_iff_true, decide_true, decide_false, Bool.not_true, Bool.not_false, wps_raise, wps_try, wps_tryAs, tryCase_t, tryCase_f, tbl_hit, suiteOf_hit, wp_eDct, wp_eDGet, wp_eDNew, wp_eDDef, wps_dput]
  show wp (runDef false 5 (b_done_things fu (den fu k)) _ _) _ _
  simp only [b_done_things, ofString_inj, sl, Nat.reduceLeDiff, wp_ok, wp_ret, wp_stuck, wp_bad, wp_bnd, wp_if, wp_fif, wps_ok_nx, wps_ok_rt, wps_ok_bk, wps_ok_ct, wps_ok_xc, wps_bad, wps_lft, wps_seq, wps_nil, wps_ret, wps_expr, wps_asg, wps_if, wp_run, wps_for, wps_while, wp_comp, wp_var, wp_C, wp_bin, wp_un, wp_T, wp_Tb, wp_asBl, wp_truthBl, wp_bAnd, wp_bOr, wp_bNot, wp_eIf, wp_eAnd, wp_eOr, wp_eNot, blCase_bl, wp_chain, wp_aNil, wp_aCons, wp_tup, wp_lst, wp_lstM, wp_call, wp_cl1, wp_cl2, wp_cl3, wp_cl4, wp_cl5, wp_meth, wp_isi, wp_oNone, wp_oSome, wp_sl, wp_it, wp_range1, wp_range2, wp_bYes, gEq_str, gNe_str, gEq_int, gNe_int, gEq_bl, gNe_bl, gIs_bl, gIsNot_bl, gAdd_int, gSub_int, gC_int, gI_int, gAdd_str, gAdd_tup, gAdd_lst, gNeg_int, gIx_tup, gIx_lst, gLen_tup, gLen_lst, gLen_str, gInt_int, gInt_bl, gTuple_lst, gTuple_tup, gList_lst, gList_tup, gSl_tup, gSl_lst, gSl_fl, gSl_str, srcL_tup, srcL_lst, srcL_fl, srcL_str, srcR1_int, typN, startR, List.map_cons, List.map_nil, List.length_cons, List.length_nil, Nat.reduceAdd, Nat.reduceSub, Nat.zero_add, Nat.sub_self, Nat.sub_zero, List.replicate_zero, List.replicate_succ, List.cons_append, List.nil_append, List.append_nil, List.getElem?_cons_zero, List.getElem?_cons_succ, List.set_cons_zero, List.set_cons_succ, List.set_nil, List.getElem?_nil, Option.some.injEq, exists_eq_left', exists_eq_left, exists_eq_right, reduceCtorEq, false_and, and_false, true_and, and_true, exists_false, exists_const, wipeR, Nat.zero_le, String.reduceEq, D.int.injEq, D.str.injEq, D.bl.injEq, atI_0, atI_1, atI_2, atI_3, atI_4, beq_self_eq_true, not_true_eq_false, not_false_eq_true, Int.cast_ofNat_Int, Int.reduceEq, Int.reduceLE, Int.reduceLT, Int.reduceAdd, Int.reduceSub, Int.reduceMul, Int.reduceNeg, if_true, if_false, ite_true, ite_false, Bool.false_eq_true, if_neg, if_pos, decide_eq_true_eq, Bool.not_eq_true', decide_eq_false_iff_not, eq_self_iff_true, decide_true, decide_false, Bool.not_true, Bool.not_false, wps_raise, wps_try, wps_tryAs, tryCase_t, tryCase_f, tbl_hit, suiteOf_hit, wp_eDct, wp_eDGet, wp_eDNew, wp_eDDef, wps_dput]
  refine push_ok (by omega) tra hS ?_
  exact fin_same hS tro rfl (fin_same hS tro rfl hF)
/-- the law's own -/
theorem pair_ok {B j N : Nat} {w : Str} {a b : D} (hB : B ≤ 1000000) (hN : 1 ≤ N) (hw : w ∈ pairs) (ha : ThB B j a) (hb : ThB B j b) (hS : WF S) (hF : F (match pairOp w a b with | some d => d | none => .non) S) :
    wp (den fu N i_l_pair_op [.str w, a, b] S) F E := by
  obtain ⟨k, rfl⟩ : ∃ k, N = k + 1 := ⟨N - 1, by omega⟩
  show wp (runDef false 6 (b_l_pair_op fu (den fu k)) _ _) _ _
  have good := fun d => pairOp_good (w := w) (d := d) ha hb
  have fin : ∀ d, pairOp w a b = some d → wp (finD false S.length d S) F E := fun d hd => fin_same hS (good d hd).tr rfl (by rw [hd] at hF; exact hF)
  have fin0 : pairOp w a b = none → wp (finD false S.length .non S) F E := fun hd => fin_same hS rfl rfl (by rw [hd] at hF; exact hF)
  clear hF
  by_cases hput : w = Str.ofString "put"
  · subst hput
    have hpo : pairOp (Str.ofString "put") a b = (lstOf a).map fun xs => .tup [.str "list", .tup (xs ++ [b])] := by unfold pairOp; rw [if_pos rfl]
    rcases ha.shape with ⟨i, rfl, _, _, e, _, _⟩ | ⟨xs, rfl, _, e, _, _⟩ | ⟨xs, rfl, hl, e, _, _⟩
    · simp only [b_l_pair_op, ofString_inj, wp_ok, wp_ret, wp_stuck, wp_bad, wp_bnd, wp_if, wp_fif, wps_ok_nx, wps_ok_rt, wps_ok_bk, wps_ok_ct, wps_ok_xc, wps_bad, wps_lft, wps_seq, wps_nil, wps_ret, wps_expr, wps_asg, wps_if, wp_run, wps_for, wps_while, wp_comp, wp_var, wp_C, wp_bin, wp_un, wp_T, wp_Tb, wp_asBl, wp_truthBl, wp_bAnd, wp_bOr, wp_bNot, wp_eIf, wp_eAnd, wp_eOr, wp_eNot, blCase_bl, wp_chain, wp_aNil, wp_aCons, wp_tup, wp_lst, wp_lstM, wp_call, wp_cl1, wp_cl2, wp_cl3, wp_cl4, wp_cl5, wp_meth, wp_isi, wp_oNone, wp_oSome, wp_sl, wp_it, wp_range1, wp_range2, wp_bYes, gEq_str, gNe_str, gEq_int, gNe_int, gEq_bl, gNe_bl, gIs_bl, gIsNot_bl, gAdd_int, gSub_int, gC_int, gI_int, gAdd_str, gAdd_tup, gAdd_lst, gNeg_int, gIx_tup, gIx_lst, gLen_tup, gLen_lst, gLen_str, gInt_int, gInt_bl, gTuple_lst, gTuple_tup, gList_lst, gList_tup, gSl_tup, gSl_lst, gSl_fl, gSl_str, srcL_tup, srcL_lst, srcL_fl, srcL_str, srcR1_int, typN, startR, List.map_cons, List.map_nil, List.length_cons, List.length_nil, Nat.reduceAdd, Nat.reduceSub, Nat.zero_add, Nat.sub_self, Nat.sub_zero, List.replicate_zero, List.replicate_succ, List.cons_append, List.nil_append, List.append_nil, List.getElem?_cons_zero, List.getElem?_cons_succ, List.set_cons_zero, List.set_cons_succ, List.set_nil, List.getElem?_nil, Option.some.injEq, exists_eq_left', exists_eq_left, exists_eq_right, reduceCtorEq, false_and, and_false, true_and, and_true, exists_false, exists_const, wipeR, Nat.zero_le, String.reduceEq, D.int.injEq, D.str.injEq, D.bl.injEq, atI_0, atI_1, atI_2, atI_3, atI_4, beq_self_eq_true, not_true_eq_false, not_false_eq_true, Int.cast_ofNat_Int, Int.reduceEq, Int.reduceLE, Int.reduceLT, Int.reduceAdd, Int.reduceSub, Int.reduceMul, Int.reduceNeg, if_true, if_false, ite_true, ite_false, Bool.false_eq_true, if_neg, if_pos, decide_eq_true_eq, Bool.not_eq_true', decide_eq_false_iff_not, eq_self_iff_true, decide_true, decide_false, Bool.not_true, Bool.not_false, wps_raise, wps_try, wps_tryAs, tryCase_t, tryCase_f, tbl_hit, suiteOf_hit, wp_eDct, wp_eDGet, wp_eDNew, wp_eDDef, wps_dput]
      exact fin0 (by rw [hpo, e]; rfl)
    · simp only [b_l_pair_op, ofString_inj, wp_ok, wp_ret, wp_stuck, wp_bad, wp_bnd, wp_if, wp_fif, wps_ok_nx, wps_ok_rt, wps_ok_bk, wps_ok_ct, wps_ok_xc, wps_bad, wps_lft, wps_seq, wps_nil, wps_ret, wps_expr, wps_asg, wps_if, wp_run, wps_for, wps_while, wp_comp, wp_var, wp_C, wp_bin, wp_un, wp_T, wp_Tb, wp_asBl, wp_truthBl, wp_bAnd, wp_bOr, wp_bNot, wp_eIf, wp_eAnd, wp_eOr, wp_eNot, blCase_bl, wp_chain, wp_aNil, wp_aCons, wp_tup, wp_lst, wp_lstM, wp_call, wp_cl1, wp_cl2, wp_cl3, wp_cl4, wp_cl5, wp_meth, wp_isi, wp_oNone, wp_oSome, wp_sl, wp_it, wp_range1, wp_range2, wp_bYes, gEq_str, gNe_str, gEq_int, gNe_int, gEq_bl, gNe_bl, gIs_bl, gIsNot_bl, gAdd_int, gSub_int, gC_int, gI_int, gAdd_str, gAdd_tup, gAdd_lst, gNeg_int, gIx_tup, gIx_lst, gLen_tup, gLen_lst, gLen_str, gInt_int, gInt_bl, gTuple_lst, gTuple_tup, gList_lst, gList_tup, gSl_tup, gSl_lst, gSl_fl, gSl_str, srcL_tup, srcL_lst, srcL_fl, srcL_str, srcR1_int, typN, startR, List.map_cons, List.map_nil, List.length_cons, List.length_nil, Nat.reduceAdd, Nat.reduceSub, Nat.zero_add, Nat.sub_self, Nat.sub_zero, List.replicate_zero, List.replicate_succ, List.cons_append, List.nil_append, List.append_nil, List.getElem?_cons_zero, List.getElem?_cons_succ, List.set_cons_zero, List.set_cons_succ, List.set_nil, List.getElem?_nil, Option.some.injEq, exists_eq_left', exists_eq_left, exists_eq_right, reduceCtorEq, false_and, and_false, true_and, and_true, exists_false, exists_const, wipeR, Nat.zero_le, String.reduceEq, D.int.injEq, D.str.injEq, D.bl.injEq, atI_0, atI_1, atI_2, atI_3, atI_4, beq_self_eq_true, not_true_eq_false, not_false_eq_true, Int.cast_ofNat_Int, Int.reduceEq, Int.reduceLE, Int.reduceLT, Int.reduceAdd, Int.reduceSub, Int.reduceMul, Int.reduceNeg, if_true, if_false, ite_true, ite_false, Bool.false_eq_true, if_neg, if_pos, decide_eq_true_eq, Bool.not_eq_true', decide_eq_false_iff_not, eq_self_iff_true, decide_true, decide_false, Bool.not_true, Bool.not_false, wps_raise, wps_try, wps_tryAs, tryCase_t, tryCase_f, tbl_hit, suiteOf_hit, wp_eDct, wp_eDGet, wp_eDNew, wp_eDDef, wps_dput]
      exact fin0 (by rw [hpo, e]; rfl)
    · simp only [b_l_pair_op, ofString_inj, sl, Nat.reduceLeDiff, wp_ok, wp_ret, wp_stuck, wp_bad, wp_bnd, wp_if, wp_fif, wps_ok_nx, wps_ok_rt, wps_ok_bk, wps_ok_ct, wps_ok_xc, wps_bad, wps_lft, wps_seq, wps_nil, wps_ret, wps_expr, wps_asg, wps_if, wp_run, wps_for, wps_while, wp_comp, wp_var, wp_C, wp_bin, wp_un, wp_T, wp_Tb, wp_asBl, wp_truthBl, wp_bAnd, wp_bOr, wp_bNot, wp_eIf, wp_eAnd, wp_eOr, wp_eNot, blCase_bl, wp_chain, wp_aNil, wp_aCons, wp_tup, wp_lst, wp_lstM, wp_call, wp_cl1, wp_cl2, wp_cl3, wp_cl4, wp_cl5, wp_meth, wp_isi, wp_oNone, wp_oSome, wp_sl, wp_it, wp_range1, wp_range2, wp_bYes, gEq_str, gNe_str, gEq_int, gNe_int, gEq_bl, gNe_bl, gIs_bl, gIsNot_bl, gAdd_int, gSub_int, gC_int, gI_int, gAdd_str, gAdd_tup, gAdd_lst, gNeg_int, gIx_tup, gIx_lst, gLen_tup, gLen_lst, gLen_str, gInt_int, gInt_bl, gTuple_lst, gTuple_tup, gList_lst, gList_tup, gSl_tup, gSl_lst, gSl_fl, gSl_str, srcL_tup, srcL_lst, srcL_fl, srcL_str, srcR1_int, typN, startR, List.map_cons, List.map_nil, List.length_cons, List.length_nil, Nat.reduceAdd, Nat.reduceSub, Nat.zero_add, Nat.sub_self, Nat.sub_zero, List.replicate_zero, List.replicate_succ, List.cons_append, List.nil_append, List.append_nil, List.getElem?_cons_zero, List.getElem?_cons_succ, List.set_cons_zero, List.set_cons_succ, List.set_nil, List.getElem?_nil, Option.some.injEq, exists_eq_left', exists_eq_left, exists_eq_right, reduceCtorEq, false_and, and_false, true_and, and_true, exists_false, exists_const, wipeR, Nat.zero_le, String.reduceEq, D.int.injEq, D.str.injEq, D.bl.injEq, atI_0, atI_1, atI_2, atI_3, atI_4, beq_self_eq_true, not_true_eq_false, not_false_eq_true, Int.cast_ofNat_Int, Int.reduceEq, Int.reduceLE, Int.reduceLT, Int.reduceAdd, Int.reduceSub, Int.reduceMul, Int.reduceNeg, if_true, if_false, ite_true, ite_false, Bool.false_eq_true, if_neg, if_pos, decide_eq_true_eq, Bool.not_eq_true', decide_eq_false_iff_not, eq_self_iff_true, decide_true, decide_false, Bool.not_true, Bool.not_false, wps_raise, wps_try, wps_tryAs, tryCase_t, tryCase_f, tbl_hit, suiteOf_hit, wp_eDct, wp_eDGet, wp_eDNew, wp_eDDef, wps_dput]
      exact ⟨small_line (by omega), fin _ (by rw [hpo, e]; rfl)⟩
  · by_cases hjoin : w = Str.ofString "join"
    · subst hjoin
      have hpo : pairOp (Str.ofString "join") a b = match rowOf a, rowOf b with
        | some x, some y => some (.tup [.str "row", .tup (x ++ y)])
        | _, _ => none := by unfold pairOp; rw [if_neg (by decide +kernel), if_pos rfl] <;> rfl
      rcases ha.shape with ⟨i, rfl, _, _, _, e, _⟩ | ⟨xs, rfl, hl, _, e, _⟩ | ⟨xs, rfl, hl, _, e, _⟩
      · simp only [b_l_pair_op, ofString_inj, wp_ok, wp_ret, wp_stuck, wp_bad, wp_bnd, wp_if, wp_fif, wps_ok_nx, wps_ok_rt, wps_ok_bk, wps_ok_ct, wps_ok_xc, wps_bad, wps_lft, wps_seq, wps_nil, wps_ret, wps_expr, wps_asg, wps_if, wp_run, wps_for, wps_while, wp_comp, wp_var, wp_C, wp_bin, wp_un, wp_T, wp_Tb, wp_asBl, wp_truthBl, wp_bAnd, wp_bOr, wp_bNot, wp_eIf, wp_eAnd, wp_eOr, wp_eNot, blCase_bl, wp_chain, wp_aNil, wp_aCons, wp_tup, wp_lst, wp_lstM, wp_call, wp_cl1, wp_cl2, wp_cl3, wp_cl4, wp_cl5, wp_meth, wp_isi, wp_oNone, wp_oSome, wp_sl, wp_it, wp_range1, wp_range2, wp_bYes, gEq_str, gNe_str, gEq_int, gNe_int, gEq_bl, gNe_bl, gIs_bl, gIsNot_bl, gAdd_int, gSub_int, gC_int, gI_int, gAdd_str, gAdd_tup, gAdd_lst, gNeg_int, gIx_tup, gIx_lst, gLen_tup, gLen_lst, gLen_str, gInt_int, gInt_bl, gTuple_lst, gTuple_tup, gList_lst, gList_tup, gSl_tup, gSl_lst, gSl_fl, gSl_str, srcL_tup, srcL_lst, srcL_fl, srcL_str, srcR1_int, typN, startR, List.map_cons, List.map_nil, List.length_cons, List.length_nil, Nat.reduceAdd, Nat.reduceSub, Nat.zero_add, Nat.sub_self, Nat.sub_zero, List.replicate_zero, List.replicate_succ, List.cons_append, List.nil_append, List.append_nil, List.getElem?_cons_zero, List.getElem?_cons_succ, List.set_cons_zero, List.set_cons_succ, List.set_nil, List.getElem?_nil, Option.some.injEq, exists_eq_left', exists_eq_left, exists_eq_right, reduceCtorEq, false_and, and_false, true_and, and_true, exists_false, exists_const, wipeR, Nat.zero_le, String.reduceEq, D.int.injEq, D.str.injEq, D.bl.injEq, atI_0, atI_1, atI_2, atI_3, atI_4, beq_self_eq_true, not_true_eq_false, not_false_eq_true, Int.cast_ofNat_Int, Int.reduceEq, Int.reduceLE, Int.reduceLT, Int.reduceAdd, Int.reduceSub, Int.reduceMul, Int.reduceNeg, if_true, if_false, ite_true, ite_false, Bool.false_eq_true, if_neg, if_pos, decide_eq_true_eq, Bool.not_eq_true', decide_eq_false_iff_not, eq_self_iff_true, decide_true, decide_false, Bool.not_true, Bool.not_false, wps_raise, wps_try, wps_tryAs, tryCase_t, tryCase_f, tbl_hit, suiteOf_hit, wp_eDct, wp_eDGet, wp_eDNew, wp_eDDef, wps_dput]
        exact fin0 (by rw [hpo, e])
      · rcases hb.shape with ⟨i, rfl, _, _, _, e2, _⟩ | ⟨ys, rfl, hl2, _, e2, _⟩ | ⟨ys, rfl, hl2, _, e2, _⟩
        · simp only [b_l_pair_op, ofString_inj, wp_ok, wp_ret, wp_stuck, wp_bad, wp_bnd, wp_if, wp_fif, wps_ok_nx, wps_ok_rt, wps_ok_bk, wps_ok_ct, wps_ok_xc, wps_bad, wps_lft, wps_seq, wps_nil, wps_ret, wps_expr, wps_asg, wps_if, wp_run, wps_for, wps_while, wp_comp, wp_var, wp_C, wp_bin, wp_un, wp_T, wp_Tb, wp_asBl, wp_truthBl, wp_bAnd, wp_bOr, wp_bNot, wp_eIf, wp_eAnd, wp_eOr, wp_eNot, blCase_bl, wp_chain, wp_aNil, wp_aCons, wp_tup, wp_lst, wp_lstM, wp_call, wp_cl1, wp_cl2, wp_cl3, wp_cl4, wp_cl5, wp_meth, wp_isi, wp_oNone, wp_oSome, wp_sl, wp_it, wp_range1, wp_range2, wp_bYes, gEq_str, gNe_str, gEq_int, gNe_int, gEq_bl, gNe_bl, gIs_bl, gIsNot_bl, gAdd_int, gSub_int, gC_int, gI_int, gAdd_str, gAdd_tup, gAdd_lst, gNeg_int, gIx_tup, gIx_lst, gLen_tup, gLen_lst, gLen_str, gInt_int, gInt_bl, gTuple_lst, gTuple_tup, gList_lst, gList_tup, gSl_tup, gSl_lst, gSl_fl, gSl_str, srcL_tup, srcL_lst, srcL_fl, srcL_str, srcR1_int, typN, startR, List.map_cons, List.map_nil, List.length_cons, List.length_nil, Nat.reduceAdd, Nat.reduceSub, Nat.zero_add, Nat.sub_self, Nat.sub_zero, List.replicate_zero, List.replicate_succ, List.cons_append, List.nil_append, List.append_nil, List.getElem?_cons_zero, List.getElem?_cons_succ, List.set_cons_zero, List.set_cons_succ, List.set_nil, List.getElem?_nil, Option.some.injEq, exists_eq_left', exists_eq_left, exists_eq_right, reduceCtorEq, false_and, and_false, true_and, and_true, exists_false, exists_const, wipeR, Nat.zero_le, String.reduceEq, D.int.injEq, D.str.injEq, D.bl.injEq, atI_0, atI_1, atI_2, atI_3, atI_4, beq_self_eq_true, not_true_eq_false, not_false_eq_true, Int.cast_ofNat_Int, Int.reduceEq, Int.reduceLE, Int.reduceLT, Int.reduceAdd, Int.reduceSub, Int.reduceMul, Int.reduceNeg, if_true, if_false, ite_true, ite_false, Bool.false_eq_true, if_neg, if_pos, decide_eq_true_eq, Bool.not_eq_true', decide_eq_false_iff_not, eq_self_iff_true, decide_true, decide_false, Bool.not_true, Bool.not_false, wps_raise, wps_try, wps_tryAs, tryCase_t, tryCase_f, tbl_hit, suiteOf_hit, wp_eDct, wp_eDGet, wp_eDNew, wp_eDDef, wps_dput]
          exact fin0 (by rw [hpo, e, e2])
        · simp only [b_l_pair_op, ofString_inj, sl, Nat.reduceLeDiff, wp_ok, wp_ret, wp_stuck, wp_bad, wp_bnd, wp_if, wp_fif, wps_ok_nx, wps_ok_rt, wps_ok_bk, wps_ok_ct, wps_ok_xc, wps_bad, wps_lft, wps_seq, wps_nil, wps_ret, wps_expr, wps_asg, wps_if, wp_run, wps_for, wps_while, wp_comp, wp_var, wp_C, wp_bin, wp_un, wp_T, wp_Tb, wp_asBl, wp_truthBl, wp_bAnd, wp_bOr, wp_bNot, wp_eIf, wp_eAnd, wp_eOr, wp_eNot, blCase_bl, wp_chain, wp_aNil, wp_aCons, wp_tup, wp_lst, wp_lstM, wp_call, wp_cl1, wp_cl2, wp_cl3, wp_cl4, wp_cl5, wp_meth, wp_isi, wp_oNone, wp_oSome, wp_sl, wp_it, wp_range1, wp_range2, wp_bYes, gEq_str, gNe_str, gEq_int, gNe_int, gEq_bl, gNe_bl, gIs_bl, gIsNot_bl, gAdd_int, gSub_int, gC_int, gI_int, gAdd_str, gAdd_tup, gAdd_lst, gNeg_int, gIx_tup, gIx_lst, gLen_tup, gLen_lst, gLen_str, gInt_int, gInt_bl, gTuple_lst, gTuple_tup, gList_lst, gList_tup, gSl_tup, gSl_lst, gSl_fl, gSl_str, srcL_tup, srcL_lst, srcL_fl, srcL_str, srcR1_int, typN, startR, List.map_cons, List.map_nil, List.length_cons, List.length_nil, Nat.reduceAdd, Nat.reduceSub, Nat.zero_add, Nat.sub_self, Nat.sub_zero, List.replicate_zero, List.replicate_succ, List.cons_append, List.nil_append, List.append_nil, List.getElem?_cons_zero, List.getElem?_cons_succ, List.set_cons_zero, List.set_cons_succ, List.set_nil, List.getElem?_nil, Option.some.injEq, exists_eq_left', exists_eq_left, exists_eq_right, reduceCtorEq, false_and, and_false, true_and, and_true, exists_false, exists_const, wipeR, Nat.zero_le, String.reduceEq, D.int.injEq, D.str.injEq, D.bl.injEq, atI_0, atI_1, atI_2, atI_3, atI_4, beq_self_eq_true, not_true_eq_false, not_false_eq_true, Int.cast_ofNat_Int, Int.reduceEq, Int.reduceLE, Int.reduceLT, Int.reduceAdd, Int.reduceSub, Int.reduceMul, Int.reduceNeg, if_true, if_false, ite_true, ite_false, Bool.false_eq_true, if_neg, if_pos, decide_eq_true_eq, Bool.not_eq_true', decide_eq_false_iff_not, eq_self_iff_true, decide_true, decide_false, Bool.not_true, Bool.not_false, wps_raise, wps_try, wps_tryAs, tryCase_t, tryCase_f, tbl_hit, suiteOf_hit, wp_eDct, wp_eDGet, wp_eDNew, wp_eDDef, wps_dput]
          exact ⟨small_line (by omega), fin _ (by rw [hpo, e, e2])⟩
        · simp only [b_l_pair_op, ofString_inj, wp_ok, wp_ret, wp_stuck, wp_bad, wp_bnd, wp_if, wp_fif, wps_ok_nx, wps_ok_rt, wps_ok_bk, wps_ok_ct, wps_ok_xc, wps_bad, wps_lft, wps_seq, wps_nil, wps_ret, wps_expr, wps_asg, wps_if, wp_run, wps_for, wps_while, wp_comp, wp_var, wp_C, wp_bin, wp_un, wp_T, wp_Tb, wp_asBl, wp_truthBl, wp_bAnd, wp_bOr, wp_bNot, wp_eIf, wp_eAnd, wp_eOr, wp_eNot, blCase_bl, wp_chain, wp_aNil, wp_aCons, wp_tup, wp_lst, wp_lstM, wp_call, wp_cl1, wp_cl2, wp_cl3, wp_cl4, wp_cl5, wp_meth, wp_isi, wp_oNone, wp_oSome, wp_sl, wp_it, wp_range1, wp_range2, wp_bYes, gEq_str, gNe_str, gEq_int, gNe_int, gEq_bl, gNe_bl, gIs_bl, gIsNot_bl, gAdd_int, gSub_int, gC_int, gI_int, gAdd_str, gAdd_tup, gAdd_lst, gNeg_int, gIx_tup, gIx_lst, gLen_tup, gLen_lst, gLen_str, gInt_int, gInt_bl, gTuple_lst, gTuple_tup, gList_lst, gList_tup, gSl_tup, gSl_lst, gSl_fl, gSl_str, srcL_tup, srcL_lst, srcL_fl, srcL_str, srcR1_int, typN, startR, List.map_cons, List.map_nil, List.length_cons, List.length_nil, Nat.reduceAdd, Nat.reduceSub, Nat.zero_add, Nat.sub_self, Nat.sub_zero, List.replicate_zero, List.replicate_succ, List.cons_append, List.nil_append, List.append_nil, List.getElem?_cons_zero, List.getElem?_cons_succ, List.set_cons_zero, List.set_cons_succ, List.set_nil, List.getElem?_nil, Option.some.injEq, exists_eq_left', exists_eq_left, exists_eq_right, reduceCtorEq, false_and, and_false, true_and, and_true, exists_false, exists_const, wipeR, Nat.zero_le, String.reduceEq, D.int.injEq, D.str.injEq, D.bl.injEq, atI_0, atI_1, atI_2, atI_3, atI_4, beq_self_eq_true, not_true_eq_false, not_false_eq_true, Int.cast_ofNat_Int, Int.reduceEq, Int.reduceLE, Int.reduceLT, Int.reduceAdd, Int.reduceSub, Int.reduceMul, Int.reduceNeg, if_true, if_false, ite_true, ite_false, Bool.false_eq_true, if_neg, if_pos, decide_eq_true_eq, Bool.not_eq_true', decide_eq_false_iff_not, eq_self_iff_true, decide_true, decide_false, Bool.not_true, Bool.not_false, wps_raise, wps_try, wps_tryAs, tryCase_t, tryCase_f, tbl_hit, suiteOf_hit, wp_eDct, wp_eDGet, wp_eDNew, wp_eDDef, wps_dput]
          exact fin0 (by rw [hpo, e, e2])
      · simp only [b_l_pair_op, ofString_inj, wp_ok, wp_ret, wp_stuck, wp_bad, wp_bnd, wp_if, wp_fif, wps_ok_nx, wps_ok_rt, wps_ok_bk, wps_ok_ct, wps_ok_xc, wps_bad, wps_lft, wps_seq, wps_nil, wps_ret, wps_expr, wps_asg, wps_if, wp_run, wps_for, wps_while, wp_comp, wp_var, wp_C, wp_bin, wp_un, wp_T, wp_Tb, wp_asBl, wp_truthBl, wp_bAnd, wp_bOr, wp_bNot, wp_eIf, wp_eAnd, wp_eOr, wp_eNot, blCase_bl, wp_chain, wp_aNil, wp_aCons, wp_tup, wp_lst, wp_lstM, wp_call, wp_cl1, wp_cl2, wp_cl3, wp_cl4, wp_cl5, wp_meth, wp_isi, wp_oNone, wp_oSome, wp_sl, wp_it, wp_range1, wp_range2, wp_bYes, gEq_str, gNe_str, gEq_int, gNe_int, gEq_bl, gNe_bl, gIs_bl, gIsNot_bl, gAdd_int, gSub_int, gC_int, gI_int, gAdd_str, gAdd_tup, gAdd_lst, gNeg_int, gIx_tup, gIx_lst, gLen_tup, gLen_lst, gLen_str, gInt_int, gInt_bl, gTuple_lst, gTuple_tup, gList_lst, gList_tup, gSl_tup, gSl_lst, gSl_fl, gSl_str, srcL_tup, srcL_lst, srcL_fl, srcL_str, srcR1_int, typN, startR, List.map_cons, List.map_nil, List.length_cons, List.length_nil, Nat.reduceAdd, Nat.reduceSub, Nat.zero_add, Nat.sub_self, Nat.sub_zero, List.replicate_zero, List.replicate_succ, List.cons_append, List.nil_append, List.append_nil, List.getElem?_cons_zero, List.getElem?_cons_succ, List.set_cons_zero, List.set_cons_succ, List.set_nil, List.getElem?_nil, Option.some.injEq, exists_eq_left', exists_eq_left, exists_eq_right, reduceCtorEq, false_and, and_false, true_and, and_true, exists_false, exists_const, wipeR, Nat.zero_le, String.reduceEq, D.int.injEq, D.str.injEq, D.bl.injEq, atI_0, atI_1, atI_2, atI_3, atI_4, beq_self_eq_true, not_true_eq_false, not_false_eq_true, Int.cast_ofNat_Int, Int.reduceEq, Int.reduceLE, Int.reduceLT, Int.reduceAdd, Int.reduceSub, Int.reduceMul, Int.reduceNeg, if_true, if_false, ite_true, ite_false, Bool.false_eq_true, if_neg, if_pos, decide_eq_true_eq, Bool.not_eq_true', decide_eq_false_iff_not, eq_self_iff_true, decide_true, decide_false, Bool.not_true, Bool.not_false, wps_raise, wps_try, wps_tryAs, tryCase_t, tryCase_f, tbl_hit, suiteOf_hit, wp_eDct, wp_eDGet, wp_eDNew, wp_eDDef, wps_dput]
        exact fin0 (by rw [hpo, e])
    · have hpo : pairOp w a b = match numOf a, numOf b with
        | some m, some n => some (.tup [.str "number", .int (calcN w m n)])
        | _, _ => none := by unfold pairOp; rw [if_neg hput, if_neg hjoin] <;> rfl
      rcases ha.shape with ⟨m, rfl, m0, m1, _, _, e⟩ | ⟨xs, rfl, hl, _, _, e⟩ | ⟨xs, rfl, hl, _, _, e⟩
      · rcases hb.shape with ⟨n, rfl, n0, n1, _, _, e2⟩ | ⟨ys, rfl, hl2, _, _, e2⟩ | ⟨ys, rfl, hl2, _, _, e2⟩
        · have hr : pairOp w (.tup [.str "number", .int m]) (.tup [.str "number", .int n]) = some (.tup [.str "number", .int (calcN w m n)]) := by rw [hpo, e, e2]
          have fin' := fin _ hr
          have cm : cMul m n = true := cMul_l m0 (by omega)
          have wfd : ∀ kvs : List (Key × D), loK 0 kvs = true → WF (S ++ [.dct kvs]) := fun kvs h => hS.append h
          have finS : ∀ (kvs : List (Key × D)) (d : D), loK 0 kvs = true → wp (finD false S.length d S) F E → tr d → wp (finD false S.length d (S ++ [.dct kvs])) F E := fun kvs d h1 h2 h3 => by
            refine fin_cut (S1 := S) (wfd kvs h1) h3 ?_
            rw [List.take_left]
            have e4 : finD false S.length d S = .ok d S := by
              unfold finD
              rw [if_neg (by decide), if_pos (hS.take _ _), if_pos (D.lo_mono (Nat.zero_le _) _ h3), List.take_length]
            rw [e4] at h2; exact h2
          have hdct : ∀ kvs : List (Key × D), atD (S ++ [.dct kvs]) (.ref S.length) = some kvs := fun kvs => atD_ref (by rw [List.getElem?_append_right (Nat.le_refl _)]; simp)
          have dget : ∀ (y : Str) (v : Int), getK [(Sum.inr (Str.ofString "plus"), D.int (m + n)), (Sum.inr (Str.ofString "minus"), D.int (m - n)), (Sum.inr (Str.ofString "times"), D.int (m * n)), (Sum.inr (Str.ofString "less"), D.int (if m < n then 1 else 0)), (Sum.inr (Str.ofString "same"), D.int (if m = n then 1 else 0))] (Sum.inr y) = some (D.int v) → ∀ {F E}, wp (gDGet (.ref S.length) (.str y) (S ++ [.dct [(Sum.inr (Str.ofString "plus"), D.int (m + n)), (Sum.inr (Str.ofString "minus"), D.int (m - n)), (Sum.inr (Str.ofString "times"), D.int (m * n)), (Sum.inr (Str.ofString "less"), D.int (if m < n then 1 else 0)), (Sum.inr (Str.ofString "same"), D.int (if m = n then 1 else 0))]])) F E ↔ F (.int v) (S ++ [.dct [(Sum.inr (Str.ofString "plus"), D.int (m + n)), (Sum.inr (Str.ofString "minus"), D.int (m - n)), (Sum.inr (Str.ofString "times"), D.int (m * n)), (Sum.inr (Str.ofString "less"), D.int (if m < n then 1 else 0)), (Sum.inr (Str.ofString "same"), D.int (if m = n then 1 else 0))]]) := fun y v h {F E} => gDGet_of (hdct _) rfl h
          simp only [pairs, List.mem_cons, List.not_mem_nil, or_false] at hw
          have red : ∀ x : Int, 0 ≤ x → x < 1000000000000 → x % (10 ^ Int.toNat 12) = x := fun x h0 h1 => Int.emod_eq_of_lt h0 (by rw [show (10 : Int) ^ Int.toNat 12 = 1000000000000 by decide]; exact h1)
          have p12 : (10 : Int) ^ Int.toNat 12 = 1000000000000 := by decide
          rcases hw with rfl | rfl | rfl | rfl | rfl | rfl | rfl
          · simp only [b_l_pair_op, ofString_inj, cm, cPow, List.map_cons, List.map_nil, List.zip_cons_cons, List.zip_nil_right, dget "plus" (m + n) (by simp [getK, ofString_inj]), p12, sl, Nat.reduceLeDiff, wp_ok, wp_ret, wp_stuck, wp_bad, wp_bnd, wp_if, wp_fif, wps_ok_nx, wps_ok_rt, wps_ok_bk, wps_ok_ct, wps_ok_xc, wps_bad, wps_lft, wps_seq, wps_nil, wps_ret, wps_expr, wps_asg, wps_if, wp_run, wps_for, wps_while, wp_comp, wp_var, wp_C, wp_bin, wp_un, wp_T, wp_Tb, wp_asBl, wp_truthBl, wp_bAnd, wp_bOr, wp_bNot, wp_eIf, wp_eAnd, wp_eOr, wp_eNot, blCase_bl, wp_chain, wp_aNil, wp_aCons, wp_tup, wp_lst, wp_lstM, wp_call, wp_cl1, wp_cl2, wp_cl3, wp_cl4, wp_cl5, wp_meth, wp_isi, wp_oNone, wp_oSome, wp_sl, wp_it, wp_range1, wp_range2, wp_bYes, gEq_str, gNe_str, gEq_int, gNe_int, gEq_bl, gNe_bl, gIs_bl, gIsNot_bl, gAdd_int, gSub_int, gC_int, gI_int, gAdd_str, gAdd_tup, gAdd_lst, gNeg_int, gIx_tup, gIx_lst, gLen_tup, gLen_lst, gLen_str, gInt_int, gInt_bl, gTuple_lst, gTuple_tup, gList_lst, gList_tup, gSl_tup, gSl_lst, gSl_fl, gSl_str, srcL_tup, srcL_lst, srcL_fl, srcL_str, srcR1_int, typN, startR, List.map_cons, List.map_nil, List.length_cons, List.length_nil, Nat.reduceAdd, Nat.reduceSub, Nat.zero_add, Nat.sub_self, Nat.sub_zero, List.replicate_zero, List.replicate_succ, List.cons_append, List.nil_append, List.append_nil, List.getElem?_cons_zero, List.getElem?_cons_succ, List.set_cons_zero, List.set_cons_succ, List.set_nil, List.getElem?_nil, Option.some.injEq, exists_eq_left', exists_eq_left, exists_eq_right, reduceCtorEq, false_and, and_false, true_and, and_true, exists_false, exists_const, wipeR, Nat.zero_le, String.reduceEq, D.int.injEq, D.str.injEq, D.bl.injEq, atI_0, atI_1, atI_2, atI_3, atI_4, beq_self_eq_true, not_true_eq_false, not_false_eq_true, Int.cast_ofNat_Int, Int.reduceEq, Int.reduceLE, Int.reduceLT, Int.reduceAdd, Int.reduceSub, Int.reduceMul, Int.reduceNeg, if_true, if_false, ite_true, ite_false, Bool.false_eq_true, if_neg, if_pos, decide_eq_true_eq, Bool.not_eq_true', decide_eq_false_iff_not, eq_self_iff_true, decide_true, decide_false, Bool.not_true, Bool.not_false, wps_raise, wps_try, wps_tryAs, tryCase_t, tryCase_f, tbl_hit, suiteOf_hit, wp_eDct, wp_eDGet, wp_eDNew, wp_eDDef, wps_dput]
            refine ⟨by decide, finS _ _ rfl ?_ rfl⟩
            unfold calcN at fin'; simp only [ofString_inj, Nat.zero_le, String.reduceEq, D.int.injEq, D.str.injEq, D.bl.injEq, atI_0, atI_1, atI_2, atI_3, atI_4, beq_self_eq_true, not_true_eq_false, not_false_eq_true, Int.cast_ofNat_Int, Int.reduceEq, Int.reduceLE, Int.reduceLT, Int.reduceAdd, Int.reduceSub, Int.reduceMul, Int.reduceNeg, if_true, if_false, ite_true, ite_false, Bool.false_eq_true, if_neg, if_pos, decide_eq_true_eq, Bool.not_eq_true', decide_eq_false_iff_not, eq_self_iff_true, decide_true, decide_false, Bool.not_true, Bool.not_false] at fin'; exact fin'
          · simp only [b_l_pair_op, ofString_inj, cm, cPow, List.map_cons, List.map_nil, List.zip_cons_cons, List.zip_nil_right, dget "minus" (m - n) (by simp [getK, ofString_inj]), p12, sl, Nat.reduceLeDiff, wp_ok, wp_ret, wp_stuck, wp_bad, wp_bnd, wp_if, wp_fif, wps_ok_nx, wps_ok_rt, wps_ok_bk, wps_ok_ct, wps_ok_xc, wps_bad, wps_lft, wps_seq, wps_nil, wps_ret, wps_expr, wps_asg, wps_if, wp_run, wps_for, wps_while, wp_comp, wp_var, wp_C, wp_bin, wp_un, wp_T, wp_Tb, wp_asBl, wp_truthBl, wp_bAnd, wp_bOr, wp_bNot, wp_eIf, wp_eAnd, wp_eOr, wp_eNot, blCase_bl, wp_chain, wp_aNil, wp_aCons, wp_tup, wp_lst, wp_lstM, wp_call, wp_cl1, wp_cl2, wp_cl3, wp_cl4, wp_cl5, wp_meth, wp_isi, wp_oNone, wp_oSome, wp_sl, wp_it, wp_range1, wp_range2, wp_bYes, gEq_str, gNe_str, gEq_int, gNe_int, gEq_bl, gNe_bl, gIs_bl, gIsNot_bl, gAdd_int, gSub_int, gC_int, gI_int, gAdd_str, gAdd_tup, gAdd_lst, gNeg_int, gIx_tup, gIx_lst, gLen_tup, gLen_lst, gLen_str, gInt_int, gInt_bl, gTuple_lst, gTuple_tup, gList_lst, gList_tup, gSl_tup, gSl_lst, gSl_fl, gSl_str, srcL_tup, srcL_lst, srcL_fl, srcL_str, srcR1_int, typN, startR, List.map_cons, List.map_nil, List.length_cons, List.length_nil, Nat.reduceAdd, Nat.reduceSub, Nat.zero_add, Nat.sub_self, Nat.sub_zero, List.replicate_zero, List.replicate_succ, List.cons_append, List.nil_append, List.append_nil, List.getElem?_cons_zero, List.getElem?_cons_succ, List.set_cons_zero, List.set_cons_succ, List.set_nil, List.getElem?_nil, Option.some.injEq, exists_eq_left', exists_eq_left, exists_eq_right, reduceCtorEq, false_and, and_false, true_and, and_true, exists_false, exists_const, wipeR, Nat.zero_le, String.reduceEq, D.int.injEq, D.str.injEq, D.bl.injEq, atI_0, atI_1, atI_2, atI_3, atI_4, beq_self_eq_true, not_true_eq_false, not_false_eq_true, Int.cast_ofNat_Int, Int.reduceEq, Int.reduceLE, Int.reduceLT, Int.reduceAdd, Int.reduceSub, Int.reduceMul, Int.reduceNeg, if_true, if_false, ite_true, ite_false, Bool.false_eq_true, if_neg, if_pos, decide_eq_true_eq, Bool.not_eq_true', decide_eq_false_iff_not, eq_self_iff_true, decide_true, decide_false, Bool.not_true, Bool.not_false, wps_raise, wps_try, wps_tryAs, tryCase_t, tryCase_f, tbl_hit, suiteOf_hit, wp_eDct, wp_eDGet, wp_eDNew, wp_eDDef, wps_dput]
            refine ⟨by decide, finS _ _ rfl ?_ rfl⟩
            unfold calcN at fin'; simp only [ofString_inj, Nat.zero_le, String.reduceEq, D.int.injEq, D.str.injEq, D.bl.injEq, atI_0, atI_1, atI_2, atI_3, atI_4, beq_self_eq_true, not_true_eq_false, not_false_eq_true, Int.cast_ofNat_Int, Int.reduceEq, Int.reduceLE, Int.reduceLT, Int.reduceAdd, Int.reduceSub, Int.reduceMul, Int.reduceNeg, if_true, if_false, ite_true, ite_false, Bool.false_eq_true, if_neg, if_pos, decide_eq_true_eq, Bool.not_eq_true', decide_eq_false_iff_not, eq_self_iff_true, decide_true, decide_false, Bool.not_true, Bool.not_false] at fin'; exact fin'
          · simp only [b_l_pair_op, ofString_inj, cm, cPow, List.map_cons, List.map_nil, List.zip_cons_cons, List.zip_nil_right, dget "times" (m * n) (by simp [getK, ofString_inj]), p12, sl, Nat.reduceLeDiff, wp_ok, wp_ret, wp_stuck, wp_bad, wp_bnd, wp_if, wp_fif, wps_ok_nx, wps_ok_rt, wps_ok_bk, wps_ok_ct, wps_ok_xc, wps_bad, wps_lft, wps_seq, wps_nil, wps_ret, wps_expr, wps_asg, wps_if, wp_run, wps_for, wps_while, wp_comp, wp_var, wp_C, wp_bin, wp_un, wp_T, wp_Tb, wp_asBl, wp_truthBl, wp_bAnd, wp_bOr, wp_bNot, wp_eIf, wp_eAnd, wp_eOr, wp_eNot, blCase_bl, wp_chain, wp_aNil, wp_aCons, wp_tup, wp_lst, wp_lstM, wp_call, wp_cl1, wp_cl2, wp_cl3, wp_cl4, wp_cl5, wp_meth, wp_isi, wp_oNone, wp_oSome, wp_sl, wp_it, wp_range1, wp_range2, wp_bYes, gEq_str, gNe_str, gEq_int, gNe_int, gEq_bl, gNe_bl, gIs_bl, gIsNot_bl, gAdd_int, gSub_int, gC_int, gI_int, gAdd_str, gAdd_tup, gAdd_lst, gNeg_int, gIx_tup, gIx_lst, gLen_tup, gLen_lst, gLen_str, gInt_int, gInt_bl, gTuple_lst, gTuple_tup, gList_lst, gList_tup, gSl_tup, gSl_lst, gSl_fl, gSl_str, srcL_tup, srcL_lst, srcL_fl, srcL_str, srcR1_int, typN, startR, List.map_cons, List.map_nil, List.length_cons, List.length_nil, Nat.reduceAdd, Nat.reduceSub, Nat.zero_add, Nat.sub_self, Nat.sub_zero, List.replicate_zero, List.replicate_succ, List.cons_append, List.nil_append, List.append_nil, List.getElem?_cons_zero, List.getElem?_cons_succ, List.set_cons_zero, List.set_cons_succ, List.set_nil, List.getElem?_nil, Option.some.injEq, exists_eq_left', exists_eq_left, exists_eq_right, reduceCtorEq, false_and, and_false, true_and, and_true, exists_false, exists_const, wipeR, Nat.zero_le, String.reduceEq, D.int.injEq, D.str.injEq, D.bl.injEq, atI_0, atI_1, atI_2, atI_3, atI_4, beq_self_eq_true, not_true_eq_false, not_false_eq_true, Int.cast_ofNat_Int, Int.reduceEq, Int.reduceLE, Int.reduceLT, Int.reduceAdd, Int.reduceSub, Int.reduceMul, Int.reduceNeg, if_true, if_false, ite_true, ite_false, Bool.false_eq_true, if_neg, if_pos, decide_eq_true_eq, Bool.not_eq_true', decide_eq_false_iff_not, eq_self_iff_true, decide_true, decide_false, Bool.not_true, Bool.not_false, wps_raise, wps_try, wps_tryAs, tryCase_t, tryCase_f, tbl_hit, suiteOf_hit, wp_eDct, wp_eDGet, wp_eDNew, wp_eDDef, wps_dput]
            refine ⟨by decide, finS _ _ rfl ?_ rfl⟩
            unfold calcN at fin'; simp only [ofString_inj, Nat.zero_le, String.reduceEq, D.int.injEq, D.str.injEq, D.bl.injEq, atI_0, atI_1, atI_2, atI_3, atI_4, beq_self_eq_true, not_true_eq_false, not_false_eq_true, Int.cast_ofNat_Int, Int.reduceEq, Int.reduceLE, Int.reduceLT, Int.reduceAdd, Int.reduceSub, Int.reduceMul, Int.reduceNeg, if_true, if_false, ite_true, ite_false, Bool.false_eq_true, if_neg, if_pos, decide_eq_true_eq, Bool.not_eq_true', decide_eq_false_iff_not, eq_self_iff_true, decide_true, decide_false, Bool.not_true, Bool.not_false] at fin'; exact fin'
          · simp only [b_l_pair_op, ofString_inj, cm, cPow, List.map_cons, List.map_nil, List.zip_cons_cons, List.zip_nil_right, dget "less" (if m < n then 1 else 0) (by simp [getK, ofString_inj]), p12, sl, Nat.reduceLeDiff, wp_ok, wp_ret, wp_stuck, wp_bad, wp_bnd, wp_if, wp_fif, wps_ok_nx, wps_ok_rt, wps_ok_bk, wps_ok_ct, wps_ok_xc, wps_bad, wps_lft, wps_seq, wps_nil, wps_ret, wps_expr, wps_asg, wps_if, wp_run, wps_for, wps_while, wp_comp, wp_var, wp_C, wp_bin, wp_un, wp_T, wp_Tb, wp_asBl, wp_truthBl, wp_bAnd, wp_bOr, wp_bNot, wp_eIf, wp_eAnd, wp_eOr, wp_eNot, blCase_bl, wp_chain, wp_aNil, wp_aCons, wp_tup, wp_lst, wp_lstM, wp_call, wp_cl1, wp_cl2, wp_cl3, wp_cl4, wp_cl5, wp_meth, wp_isi, wp_oNone, wp_oSome, wp_sl, wp_it, wp_range1, wp_range2, wp_bYes, gEq_str, gNe_str, gEq_int, gNe_int, gEq_bl, gNe_bl, gIs_bl, gIsNot_bl, gAdd_int, gSub_int, gC_int, gI_int, gAdd_str, gAdd_tup, gAdd_lst, gNeg_int, gIx_tup, gIx_lst, gLen_tup, gLen_lst, gLen_str, gInt_int, gInt_bl, gTuple_lst, gTuple_tup, gList_lst, gList_tup, gSl_tup, gSl_lst, gSl_fl, gSl_str, srcL_tup, srcL_lst, srcL_fl, srcL_str, srcR1_int, typN, startR, List.map_cons, List.map_nil, List.length_cons, List.length_nil, Nat.reduceAdd, Nat.reduceSub, Nat.zero_add, Nat.sub_self, Nat.sub_zero, List.replicate_zero, List.replicate_succ, List.cons_append, List.nil_append, List.append_nil, List.getElem?_cons_zero, List.getElem?_cons_succ, List.set_cons_zero, List.set_cons_succ, List.set_nil, List.getElem?_nil, Option.some.injEq, exists_eq_left', exists_eq_left, exists_eq_right, reduceCtorEq, false_and, and_false, true_and, and_true, exists_false, exists_const, wipeR, Nat.zero_le, String.reduceEq, D.int.injEq, D.str.injEq, D.bl.injEq, atI_0, atI_1, atI_2, atI_3, atI_4, beq_self_eq_true, not_true_eq_false, not_false_eq_true, Int.cast_ofNat_Int, Int.reduceEq, Int.reduceLE, Int.reduceLT, Int.reduceAdd, Int.reduceSub, Int.reduceMul, Int.reduceNeg, if_true, if_false, ite_true, ite_false, Bool.false_eq_true, if_neg, if_pos, decide_eq_true_eq, Bool.not_eq_true', decide_eq_false_iff_not, eq_self_iff_true, decide_true, decide_false, Bool.not_true, Bool.not_false, wps_raise, wps_try, wps_tryAs, tryCase_t, tryCase_f, tbl_hit, suiteOf_hit, wp_eDct, wp_eDGet, wp_eDNew, wp_eDDef, wps_dput]
            refine ⟨by decide, finS _ _ rfl ?_ rfl⟩
            unfold calcN at fin'; simp only [ofString_inj, Nat.zero_le, String.reduceEq, D.int.injEq, D.str.injEq, D.bl.injEq, atI_0, atI_1, atI_2, atI_3, atI_4, beq_self_eq_true, not_true_eq_false, not_false_eq_true, Int.cast_ofNat_Int, Int.reduceEq, Int.reduceLE, Int.reduceLT, Int.reduceAdd, Int.reduceSub, Int.reduceMul, Int.reduceNeg, if_true, if_false, ite_true, ite_false, Bool.false_eq_true, if_neg, if_pos, decide_eq_true_eq, Bool.not_eq_true', decide_eq_false_iff_not, eq_self_iff_true, decide_true, decide_false, Bool.not_true, Bool.not_false] at fin'
            by_cases h : m < n
            · simp only [h, if_true] at fin' ⊢; exact fin'
            · simp only [h, if_false] at fin' ⊢; exact fin'
          · simp only [b_l_pair_op, ofString_inj, cm, cPow, List.map_cons, List.map_nil, List.zip_cons_cons, List.zip_nil_right, dget "same" (if m = n then 1 else 0) (by simp [getK, ofString_inj]), p12, sl, Nat.reduceLeDiff, wp_ok, wp_ret, wp_stuck, wp_bad, wp_bnd, wp_if, wp_fif, wps_ok_nx, wps_ok_rt, wps_ok_bk, wps_ok_ct, wps_ok_xc, wps_bad, wps_lft, wps_seq, wps_nil, wps_ret, wps_expr, wps_asg, wps_if, wp_run, wps_for, wps_while, wp_comp, wp_var, wp_C, wp_bin, wp_un, wp_T, wp_Tb, wp_asBl, wp_truthBl, wp_bAnd, wp_bOr, wp_bNot, wp_eIf, wp_eAnd, wp_eOr, wp_eNot, blCase_bl, wp_chain, wp_aNil, wp_aCons, wp_tup, wp_lst, wp_lstM, wp_call, wp_cl1, wp_cl2, wp_cl3, wp_cl4, wp_cl5, wp_meth, wp_isi, wp_oNone, wp_oSome, wp_sl, wp_it, wp_range1, wp_range2, wp_bYes, gEq_str, gNe_str, gEq_int, gNe_int, gEq_bl, gNe_bl, gIs_bl, gIsNot_bl, gAdd_int, gSub_int, gC_int, gI_int, gAdd_str, gAdd_tup, gAdd_lst, gNeg_int, gIx_tup, gIx_lst, gLen_tup, gLen_lst, gLen_str, gInt_int, gInt_bl, gTuple_lst, gTuple_tup, gList_lst, gList_tup, gSl_tup, gSl_lst, gSl_fl, gSl_str, srcL_tup, srcL_lst, srcL_fl, srcL_str, srcR1_int, typN, startR, List.map_cons, List.map_nil, List.length_cons, List.length_nil, Nat.reduceAdd, Nat.reduceSub, Nat.zero_add, Nat.sub_self, Nat.sub_zero, List.replicate_zero, List.replicate_succ, List.cons_append, List.nil_append, List.append_nil, List.getElem?_cons_zero, List.getElem?_cons_succ, List.set_cons_zero, List.set_cons_succ, List.set_nil, List.getElem?_nil, Option.some.injEq, exists_eq_left', exists_eq_left, exists_eq_right, reduceCtorEq, false_and, and_false, true_and, and_true, exists_false, exists_const, wipeR, Nat.zero_le, String.reduceEq, D.int.injEq, D.str.injEq, D.bl.injEq, atI_0, atI_1, atI_2, atI_3, atI_4, beq_self_eq_true, not_true_eq_false, not_false_eq_true, Int.cast_ofNat_Int, Int.reduceEq, Int.reduceLE, Int.reduceLT, Int.reduceAdd, Int.reduceSub, Int.reduceMul, Int.reduceNeg, if_true, if_false, ite_true, ite_false, Bool.false_eq_true, if_neg, if_pos, decide_eq_true_eq, Bool.not_eq_true', decide_eq_false_iff_not, eq_self_iff_true, decide_true, decide_false, Bool.not_true, Bool.not_false, wps_raise, wps_try, wps_tryAs, tryCase_t, tryCase_f, tbl_hit, suiteOf_hit, wp_eDct, wp_eDGet, wp_eDNew, wp_eDDef, wps_dput]
            refine ⟨by decide, finS _ _ rfl ?_ rfl⟩
            unfold calcN at fin'; simp only [ofString_inj, Nat.zero_le, String.reduceEq, D.int.injEq, D.str.injEq, D.bl.injEq, atI_0, atI_1, atI_2, atI_3, atI_4, beq_self_eq_true, not_true_eq_false, not_false_eq_true, Int.cast_ofNat_Int, Int.reduceEq, Int.reduceLE, Int.reduceLT, Int.reduceAdd, Int.reduceSub, Int.reduceMul, Int.reduceNeg, if_true, if_false, ite_true, ite_false, Bool.false_eq_true, if_neg, if_pos, decide_eq_true_eq, Bool.not_eq_true', decide_eq_false_iff_not, eq_self_iff_true, decide_true, decide_false, Bool.not_true, Bool.not_false] at fin'
            by_cases h : m = n
            · simp only [h, if_true] at fin' ⊢; exact fin'
            · simp only [h, if_false] at fin' ⊢; exact fin'
          · exact absurd rfl hput
          · exact absurd rfl hjoin
        · simp only [b_l_pair_op, ofString_inj, hput, hjoin, wp_ok, wp_ret, wp_stuck, wp_bad, wp_bnd, wp_if, wp_fif, wps_ok_nx, wps_ok_rt, wps_ok_bk, wps_ok_ct, wps_ok_xc, wps_bad, wps_lft, wps_seq, wps_nil, wps_ret, wps_expr, wps_asg, wps_if, wp_run, wps_for, wps_while, wp_comp, wp_var, wp_C, wp_bin, wp_un, wp_T, wp_Tb, wp_asBl, wp_truthBl, wp_bAnd, wp_bOr, wp_bNot, wp_eIf, wp_eAnd, wp_eOr, wp_eNot, blCase_bl, wp_chain, wp_aNil, wp_aCons, wp_tup, wp_lst, wp_lstM, wp_call, wp_cl1, wp_cl2, wp_cl3, wp_cl4, wp_cl5, wp_meth, wp_isi, wp_oNone, wp_oSome, wp_sl, wp_it, wp_range1, wp_range2, wp_bYes, gEq_str, gNe_str, gEq_int, gNe_int, gEq_bl, gNe_bl, gIs_bl, gIsNot_bl, gAdd_int, gSub_int, gC_int, gI_int, gAdd_str, gAdd_tup, gAdd_lst, gNeg_int, gIx_tup, gIx_lst, gLen_tup, gLen_lst, gLen_str, gInt_int, gInt_bl, gTuple_lst, gTuple_tup, gList_lst, gList_tup, gSl_tup, gSl_lst, gSl_fl, gSl_str, srcL_tup, srcL_lst, srcL_fl, srcL_str, srcR1_int, typN, startR, List.map_cons, List.map_nil, List.length_cons, List.length_nil, Nat.reduceAdd, Nat.reduceSub, Nat.zero_add, Nat.sub_self, Nat.sub_zero, List.replicate_zero, List.replicate_succ, List.cons_append, List.nil_append, List.append_nil, List.getElem?_cons_zero, List.getElem?_cons_succ, List.set_cons_zero, List.set_cons_succ, List.set_nil, List.getElem?_nil, Option.some.injEq, exists_eq_left', exists_eq_left, exists_eq_right, reduceCtorEq, false_and, and_false, true_and, and_true, exists_false, exists_const, wipeR, Nat.zero_le, String.reduceEq, D.int.injEq, D.str.injEq, D.bl.injEq, atI_0, atI_1, atI_2, atI_3, atI_4, beq_self_eq_true, not_true_eq_false, not_false_eq_true, Int.cast_ofNat_Int, Int.reduceEq, Int.reduceLE, Int.reduceLT, Int.reduceAdd, Int.reduceSub, Int.reduceMul, Int.reduceNeg, if_true, if_false, ite_true, ite_false, Bool.false_eq_true, if_neg, if_pos, decide_eq_true_eq, Bool.not_eq_true', decide_eq_false_iff_not, eq_self_iff_true, decide_true, decide_false, Bool.not_true, Bool.not_false, wps_raise, wps_try, wps_tryAs, tryCase_t, tryCase_f, tbl_hit, suiteOf_hit, wp_eDct, wp_eDGet, wp_eDNew, wp_eDDef, wps_dput]
          exact fin0 (by rw [hpo, e, e2])
        · simp only [b_l_pair_op, ofString_inj, hput, hjoin, wp_ok, wp_ret, wp_stuck, wp_bad, wp_bnd, wp_if, wp_fif, wps_ok_nx, wps_ok_rt, wps_ok_bk, wps_ok_ct, wps_ok_xc, wps_bad, wps_lft, wps_seq, wps_nil, wps_ret, wps_expr, wps_asg, wps_if, wp_run, wps_for, wps_while, wp_comp, wp_var, wp_C, wp_bin, wp_un, wp_T, wp_Tb, wp_asBl, wp_truthBl, wp_bAnd, wp_bOr, wp_bNot, wp_eIf, wp_eAnd, wp_eOr, wp_eNot, blCase_bl, wp_chain, wp_aNil, wp_aCons, wp_tup, wp_lst, wp_lstM, wp_call, wp_cl1, wp_cl2, wp_cl3, wp_cl4, wp_cl5, wp_meth, wp_isi, wp_oNone, wp_oSome, wp_sl, wp_it, wp_range1, wp_range2, wp_bYes, gEq_str, gNe_str, gEq_int, gNe_int, gEq_bl, gNe_bl, gIs_bl, gIsNot_bl, gAdd_int, gSub_int, gC_int, gI_int, gAdd_str, gAdd_tup, gAdd_lst, gNeg_int, gIx_tup, gIx_lst, gLen_tup, gLen_lst, gLen_str, gInt_int, gInt_bl, gTuple_lst, gTuple_tup, gList_lst, gList_tup, gSl_tup, gSl_lst, gSl_fl, gSl_str, srcL_tup, srcL_lst, srcL_fl, srcL_str, srcR1_int, typN, startR, List.map_cons, List.map_nil, List.length_cons, List.length_nil, Nat.reduceAdd, Nat.reduceSub, Nat.zero_add, Nat.sub_self, Nat.sub_zero, List.replicate_zero, List.replicate_succ, List.cons_append, List.nil_append, List.append_nil, List.getElem?_cons_zero, List.getElem?_cons_succ, List.set_cons_zero, List.set_cons_succ, List.set_nil, List.getElem?_nil, Option.some.injEq, exists_eq_left', exists_eq_left, exists_eq_right, reduceCtorEq, false_and, and_false, true_and, and_true, exists_false, exists_const, wipeR, Nat.zero_le, String.reduceEq, D.int.injEq, D.str.injEq, D.bl.injEq, atI_0, atI_1, atI_2, atI_3, atI_4, beq_self_eq_true, not_true_eq_false, not_false_eq_true, Int.cast_ofNat_Int, Int.reduceEq, Int.reduceLE, Int.reduceLT, Int.reduceAdd, Int.reduceSub, Int.reduceMul, Int.reduceNeg, if_true, if_false, ite_true, ite_false, Bool.false_eq_true, if_neg, if_pos, decide_eq_true_eq, Bool.not_eq_true', decide_eq_false_iff_not, eq_self_iff_true, decide_true, decide_false, Bool.not_true, Bool.not_false, wps_raise, wps_try, wps_tryAs, tryCase_t, tryCase_f, tbl_hit, suiteOf_hit, wp_eDct, wp_eDGet, wp_eDNew, wp_eDDef, wps_dput]
          exact fin0 (by rw [hpo, e, e2])
      · simp only [b_l_pair_op, ofString_inj, hput, hjoin, wp_ok, wp_ret, wp_stuck, wp_bad, wp_bnd, wp_if, wp_fif, wps_ok_nx, wps_ok_rt, wps_ok_bk, wps_ok_ct, wps_ok_xc, wps_bad, wps_lft, wps_seq, wps_nil, wps_ret, wps_expr, wps_asg, wps_if, wp_run, wps_for, wps_while, wp_comp, wp_var, wp_C, wp_bin, wp_un, wp_T, wp_Tb, wp_asBl, wp_truthBl, wp_bAnd, wp_bOr, wp_bNot, wp_eIf, wp_eAnd, wp_eOr, wp_eNot, blCase_bl, wp_chain, wp_aNil, wp_aCons, wp_tup, wp_lst, wp_lstM, wp_call, wp_cl1, wp_cl2, wp_cl3, wp_cl4, wp_cl5, wp_meth, wp_isi, wp_oNone, wp_oSome, wp_sl, wp_it, wp_range1, wp_range2, wp_bYes, gEq_str, gNe_str, gEq_int, gNe_int, gEq_bl, gNe_bl, gIs_bl, gIsNot_bl, gAdd_int, gSub_int, gC_int, gI_int, gAdd_str, gAdd_tup, gAdd_lst, gNeg_int, gIx_tup, gIx_lst, gLen_tup, gLen_lst, gLen_str, gInt_int, gInt_bl, gTuple_lst, gTuple_tup, gList_lst, gList_tup, gSl_tup, gSl_lst, gSl_fl, gSl_str, srcL_tup, srcL_lst, srcL_fl, srcL_str, srcR1_int, typN, startR, List.map_cons, List.map_nil, List.length_cons, List.length_nil, Nat.reduceAdd, Nat.reduceSub, Nat.zero_add, Nat.sub_self, Nat.sub_zero, List.replicate_zero, List.replicate_succ, List.cons_append, List.nil_append, List.append_nil, List.getElem?_cons_zero, List.getElem?_cons_succ, List.set_cons_zero, List.set_cons_succ, List.set_nil, List.getElem?_nil, Option.some.injEq, exists_eq_left', exists_eq_left, exists_eq_right, reduceCtorEq, false_and, and_false, true_and, and_true, exists_false, exists_const, wipeR, Nat.zero_le, String.reduceEq, D.int.injEq, D.str.injEq, D.bl.injEq, atI_0, atI_1, atI_2, atI_3, atI_4, beq_self_eq_true, not_true_eq_false, not_false_eq_true, Int.cast_ofNat_Int, Int.reduceEq, Int.reduceLE, Int.reduceLT, Int.reduceAdd, Int.reduceSub, Int.reduceMul, Int.reduceNeg, if_true, if_false, ite_true, ite_false, Bool.false_eq_true, if_neg, if_pos, decide_eq_true_eq, Bool.not_eq_true', decide_eq_false_iff_not, eq_self_iff_true, decide_true, decide_false, Bool.not_true, Bool.not_false, wps_raise, wps_try, wps_tryAs, tryCase_t, tryCase_f, tbl_hit, suiteOf_hit, wp_eDct, wp_eDGet, wp_eDNew, wp_eDDef, wps_dput]
        exact fin0 (by rw [hpo, e])
      · simp only [b_l_pair_op, ofString_inj, hput, hjoin, wp_ok, wp_ret, wp_stuck, wp_bad, wp_bnd, wp_if, wp_fif, wps_ok_nx, wps_ok_rt, wps_ok_bk, wps_ok_ct, wps_ok_xc, wps_bad, wps_lft, wps_seq, wps_nil, wps_ret, wps_expr, wps_asg, wps_if, wp_run, wps_for, wps_while, wp_comp, wp_var, wp_C, wp_bin, wp_un, wp_T, wp_Tb, wp_asBl, wp_truthBl, wp_bAnd, wp_bOr, wp_bNot, wp_eIf, wp_eAnd, wp_eOr, wp_eNot, blCase_bl, wp_chain, wp_aNil, wp_aCons, wp_tup, wp_lst, wp_lstM, wp_call, wp_cl1, wp_cl2, wp_cl3, wp_cl4, wp_cl5, wp_meth, wp_isi, wp_oNone, wp_oSome, wp_sl, wp_it, wp_range1, wp_range2, wp_bYes, gEq_str, gNe_str, gEq_int, gNe_int, gEq_bl, gNe_bl, gIs_bl, gIsNot_bl, gAdd_int, gSub_int, gC_int, gI_int, gAdd_str, gAdd_tup, gAdd_lst, gNeg_int, gIx_tup, gIx_lst, gLen_tup, gLen_lst, gLen_str, gInt_int, gInt_bl, gTuple_lst, gTuple_tup, gList_lst, gList_tup, gSl_tup, gSl_lst, gSl_fl, gSl_str, srcL_tup, srcL_lst, srcL_fl, srcL_str, srcR1_int, typN, startR, List.map_cons, List.map_nil, List.length_cons, List.length_nil, Nat.reduceAdd, Nat.reduceSub, Nat.zero_add, Nat.sub_self, Nat.sub_zero, List.replicate_zero, List.replicate_succ, List.cons_append, List.nil_append, List.append_nil, List.getElem?_cons_zero, List.getElem?_cons_succ, List.set_cons_zero, List.set_cons_succ, List.set_nil, List.getElem?_nil, Option.some.injEq, exists_eq_left', exists_eq_left, exists_eq_right, reduceCtorEq, false_and, and_false, true_and, and_true, exists_false, exists_const, wipeR, Nat.zero_le, String.reduceEq, D.int.injEq, D.str.injEq, D.bl.injEq, atI_0, atI_1, atI_2, atI_3, atI_4, beq_self_eq_true, not_true_eq_false, not_false_eq_true, Int.cast_ofNat_Int, Int.reduceEq, Int.reduceLE, Int.reduceLT, Int.reduceAdd, Int.reduceSub, Int.reduceMul, Int.reduceNeg, if_true, if_false, ite_true, ite_false, Bool.false_eq_true, if_neg, if_pos, decide_eq_true_eq, Bool.not_eq_true', decide_eq_false_iff_not, eq_self_iff_true, decide_true, decide_false, Bool.not_true, Bool.not_false, wps_raise, wps_try, wps_tryAs, tryCase_t, tryCase_f, tbl_hit, suiteOf_hit, wp_eDct, wp_eDGet, wp_eDNew, wp_eDDef, wps_dput]
        exact fin0 (by rw [hpo, e])
end K64

namespace K64
open PySem L2 DL
variable {fu n k : Nat} {S S0 : Sto} {F : D → Sto → Prop} {E : Exc → Sto → Prop}
/-! codes: what they come to -/
inductive Rs where
  | non | great | some (ts : List D)
def encR : Rs → D
  | .non => .non
  | .great => .str "great"
  | .some ts => .lst ts
def regAt (fs : List D) : D → D
  | .int i => fs[i.toNat]?.getD .non
  | _ => .non
def big (d : D) : Bool := decide (300 < szT 92 d) || decide (90 < dpT 92 d)
def made (tj : D → List D → Rs) (op : D) (fs : List D) : Rs := match op with
  | .tup [.str k, x] => if k = Str.ofString "push" then .some [x] else .some [.tup [.str "row", .tup [.tup [.str "push", regAt fs x]]]]
  | .tup [.str w, a, b] => (match pairOp w (regAt fs a) (regAt fs b) with
    | some d => .some [d]
    | none => .non)
  | .tup [.str _, one, .tup args, s, o] => (match numOf (regAt fs one) with
    | some i => tj (if i = 0 then o else s) (args.map (regAt fs))
    | none => .non)
  | _ => .non
def thenR (r : Rs) (f : List D → Rs) : Rs := match r with
  | .some x => f x
  | .non => .non
  | .great => .great
def opsR (tj : D → List D → Rs) : List D → List D → Rs
  | [], fs => .some fs
  | op :: r, fs => thenR (made tj op fs) fun ms => if ms.any big = true then .great else opsR tj r (fs ++ ms)
def told : Nat → D → List D → Rs
  | j + 1, .tup [.int t, .tup ops, .tup outs], ts => if (ts.length : Int) = t then thenR (opsR (told j) ops ts) fun fs => .some (outs.map (regAt fs)) else .non
  | _, _, _ => .non
def RegOk (fs : List D) : Prop := ∀ d ∈ fs, ThB 1000 90 d
theorem regAt_ok {fs : List D} {a : D} (h : RegOk fs) (ha : Reg fs.length a) : ThB 1000 90 (regAt fs a) ∧ ∀ {S : Sto} {x : D} {F E}, iLst S x = some fs → (wp (gIx x a S) F E ↔ F (regAt fs a) S) := by
  obtain ⟨i, rfl, hi⟩ := ha
  have e : regAt fs (.int (i : Nat)) = fs[i] := by simp [regAt, hi]
  rw [e]
  refine ⟨h _ (List.getElem_mem hi), fun {S x F E} hx => ?_⟩
  rw [gIx_seq hx]
  have e2 : atI fs ((i : Nat) : Int) = some fs[i] := atI_nat (List.getElem?_eq_getElem hi)
  rw [e2]
  exact ⟨fun ⟨d, q, h⟩ => by cases q; exact h, fun h => ⟨_, rfl, h⟩⟩
theorem not_big {d : D} (h : ThB 2001 91 d) (hb : big d = false) : ThB 1000 90 d := by
  unfold big at hb
  simp only [Bool.or_eq_false_iff, decide_eq_false_iff_not, Nat.not_lt] at hb
  exact (ThB.small (J := 92) (by omega) h hb.1 hb.2).mono (by omega) (Nat.le_refl _)
/-- what one op makes: so many things, none far too great -/
theorem made_good {tj : D → List D → Rs} {CG : Nat → Nat → D → Prop} (hT : ∀ t w c ts rs, CG t w c → RegOk ts → ts.length = t → tj c ts = .some rs → rs.length = w ∧ RegOk rs) {op : D} {fs ms : List D} {m : Nat} (ho : OpG CG fs.length m op) (hf : RegOk fs) (h : made tj op fs = .some ms) :
    ms.length = m ∧ ∀ d ∈ ms, ThB 2001 91 d := by
  rcases ho with ⟨rfl, t, rfl, ht⟩ | ⟨rfl, a, rfl, ha⟩ | ⟨rfl, w, a, b, rfl, hw, ha, hb⟩ | ⟨one, args, s, o, rfl, h1, h2, h3, h4, h5, h6⟩
  · simp only [made, if_true] at h
    cases h
    exact ⟨rfl, fun d hd => by rw [List.mem_singleton.mp hd]; exact (ThB.of ht).mono (by omega) (by omega)⟩
  · simp only [made, ofString_inj, Nat.zero_le, String.reduceEq, D.int.injEq, D.str.injEq, D.bl.injEq, atI_0, atI_1, atI_2, atI_3, atI_4, beq_self_eq_true, not_true_eq_false, not_false_eq_true, Int.cast_ofNat_Int, Int.reduceEq, Int.reduceLE, Int.reduceLT, Int.reduceAdd, Int.reduceSub, Int.reduceMul, Int.reduceNeg, if_true, if_false, ite_true, ite_false, Bool.false_eq_true, if_neg, if_pos, decide_eq_true_eq, Bool.not_eq_true', decide_eq_false_iff_not, eq_self_iff_true, decide_true, decide_false, Bool.not_true, Bool.not_false] at h
    cases h
    refine ⟨rfl, fun d hd => ?_⟩
    rw [List.mem_singleton.mp hd]
    refine .inr (.inl ⟨_, rfl, by simp, fun w hw => .inr ⟨regAt fs a, List.mem_singleton.mp hw, ?_⟩⟩)
    exact (regAt_ok hf ha).1.mono (by decide) (Nat.le_refl _)
  · simp only [made] at h
    split at h
    · rename_i d e
      cases h
      refine ⟨rfl, fun x hx => ?_⟩
      rw [List.mem_singleton.mp hx]
      exact (pairOp_good (regAt_ok hf ha).1 (regAt_ok hf hb).1 e).mono (by omega) (by omega)
    · cases h
  · simp only [made] at h
    split at h
    · rename_i i e
      have hargs : RegOk (args.map (regAt fs)) := fun d hd => by
        obtain ⟨a, ha, rfl⟩ := List.mem_map.mp hd
        exact (regAt_ok hf (h2 a ha)).1
      have key : ∀ c, CG args.length m c → tj c (args.map (regAt fs)) = .some ms → ms.length = m ∧ ∀ d ∈ ms, ThB 2001 91 d := fun c hc e => by
        obtain ⟨q1, q2⟩ := hT _ _ _ _ _ hc hargs (by simp) e
        exact ⟨q1, fun d hd => (q2 d hd).mono (by omega) (by omega)⟩
      split at h
      · exact key o h6 h
      · exact key s h5 h
    · cases h
theorem ops_good {tj : D → List D → Rs} {CG : Nat → Nat → D → Prop} (hT : ∀ t w c ts rs, CG t w c → RegOk ts → ts.length = t → tj c ts = .some rs → rs.length = w ∧ RegOk rs) : ∀ {ops fs gs : List D} {e : Nat}, OpsG CG fs.length ops e → RegOk fs → opsR tj ops fs = .some gs → gs.length = e ∧ RegOk gs
  | [], fs, gs, e, ho, hf, h => by
    cases h
    have : e = fs.length := ho
    exact ⟨this.symm, hf⟩
  | op :: r, fs, gs, e, ⟨m, h1, h2⟩, hf, h => by
    unfold opsR at h
    cases hm : made tj op fs with
    | some ms =>
      rw [hm] at h
      have h : (if ms.any big = true then Rs.great else opsR tj r (fs ++ ms)) = .some gs := h
      obtain ⟨q1, q2⟩ := made_good hT h1 hf hm
      split at h
      · cases h
      · rename_i hb
        refine ops_good hT (by rw [List.length_append, q1]; exact h2) (fun d hd => ?_) h
        rw [List.mem_append] at hd
        rcases hd with hd | hd
        · exact hf d hd
        · refine not_big (q2 d hd) ?_
          cases hbd : big d with
          | false => rfl
          | true => exact absurd (List.any_eq_true.mpr ⟨d, hd, hbd⟩) hb
    | non => rw [hm] at h; cases h
    | great => rw [hm] at h; cases h
theorem told_good : ∀ (j t w : Nat) (c : D) (ts rs : List D), CodeG j t w c → RegOk ts → ts.length = t → told j c ts = .some rs → rs.length = w ∧ RegOk rs
  | 0, t, w, c, ts, rs, hc, _, _, _ => hc.elim
  | j + 1, t, w, c, ts, rs, hc, ht, hl, h => by
    obtain ⟨ops, outs, e, rfl, h1, k', hk, h2, h3, _⟩ := hc.shape
    obtain rfl : k' = j := by omega
    simp only [told, hl, if_true] at h
    cases hfs : opsR (told k') ops ts with
    | some fs =>
      rw [hfs] at h
      have h : Rs.some (outs.map (regAt fs)) = .some rs := h
      cases h
      obtain ⟨q1, q2⟩ := ops_good (CG := CodeG k') (told_good k') (by rw [hl]; exact h2) ht hfs
      refine ⟨by rw [List.length_map]; exact h1, fun d hd => ?_⟩
      obtain ⟨a, ha, rfl⟩ := List.mem_map.mp hd
      exact (regAt_ok q2 (by rw [q1]; exact h3 a ha)).1
    | non => rw [hfs] at h; cases h
    | great => rw [hfs] at h; cases h
end K64

namespace K64
open PySem L2 DL
variable {fu n k : Nat} {S S0 : Sto} {F : D → Sto → Prop} {E : Exc → Sto → Prop}
/-! the law's own walk through a code -/
theorem RegOk.tr {fs : List D} (h : RegOk fs) : D.los 0 fs = true := trs fun d hd => (h d hd).tr
/-- the great ones among things -/
theorem comp_big {N : Nat} {ms : List D} {ρ : Rho} {i : Nat} {FF : List D → Sto → Prop} (hi : ∀ d : D, (ρ.set i (some d))[i]? = some (some d)) (hN : 95 ≤ N) (hS : WF S) (hm : ∀ d ∈ ms, ThB 2001 91 d) (h : FF (ms.filter big) S) :
    wp (compM none ms (gN i) (bOr (eTb (eBin gGt (eCall (cl 1 (den fu N i_l_size)) (aCons (eLst (aCons (eVar i) aNil)) aNil)) (eC (.int 300)))) (eTb (eBin gGt (eCall (cl 1 (den fu N i_l_deep)) (aCons (eVar i) aNil)) (eC (.int 90))))) (eVar i) ρ ms S) FF nx := by
  refine wp_compM (fun k ys S' => S' = S ∧ ys = (ms.take k).filter big) (fun _ _ _ _ => trivial) (fun k d ys S' hd hk => ?_) (fun ys S' hk => ?_) ⟨rfl, rfl⟩
  · obtain ⟨rfl, rfl⟩ := hk
    refine ⟨_, rfl, ?_⟩
    have hmd := hm d (List.mem_of_getElem? hd)
    have e : ms.take (k + 1) = ms.take k ++ [d] := by rw [List.take_succ, hd]; rfl
    rw [e, List.filter_append]
    simp only [hi, sl, Nat.reduceLeDiff, wp_ok, wp_ret, wp_stuck, wp_bad, wp_bnd, wp_if, wp_fif, wps_ok_nx, wps_ok_rt, wps_ok_bk, wps_ok_ct, wps_ok_xc, wps_bad, wps_lft, wps_seq, wps_nil, wps_ret, wps_expr, wps_asg, wps_if, wp_run, wps_for, wps_while, wp_comp, wp_var, wp_C, wp_bin, wp_un, wp_T, wp_Tb, wp_asBl, wp_truthBl, wp_bAnd, wp_bOr, wp_bNot, wp_eIf, wp_eAnd, wp_eOr, wp_eNot, blCase_bl, wp_chain, wp_aNil, wp_aCons, wp_tup, wp_lst, wp_lstM, wp_call, wp_cl1, wp_cl2, wp_cl3, wp_cl4, wp_cl5, wp_meth, wp_isi, wp_oNone, wp_oSome, wp_sl, wp_it, wp_range1, wp_range2, wp_bYes, gEq_str, gNe_str, gEq_int, gNe_int, gEq_bl, gNe_bl, gIs_bl, gIsNot_bl, gAdd_int, gSub_int, gC_int, gI_int, gAdd_str, gAdd_tup, gAdd_lst, gNeg_int, gIx_tup, gIx_lst, gLen_tup, gLen_lst, gLen_str, gInt_int, gInt_bl, gTuple_lst, gTuple_tup, gList_lst, gList_tup, gSl_tup, gSl_lst, gSl_fl, gSl_str, srcL_tup, srcL_lst, srcL_fl, srcL_str, srcR1_int, typN, startR, List.map_cons, List.map_nil, List.length_cons, List.length_nil, Nat.reduceAdd, Nat.reduceSub, Nat.zero_add, Nat.sub_self, Nat.sub_zero, List.replicate_zero, List.replicate_succ, List.cons_append, List.nil_append, List.append_nil, List.getElem?_cons_zero, List.getElem?_cons_succ, List.set_cons_zero, List.set_cons_succ, List.set_nil, List.getElem?_nil, Option.some.injEq, exists_eq_left', exists_eq_left, exists_eq_right, reduceCtorEq, false_and, and_false, true_and, and_true, exists_false, exists_const, wipeR, Nat.zero_le, String.reduceEq, D.int.injEq, D.str.injEq, D.bl.injEq, atI_0, atI_1, atI_2, atI_3, atI_4, beq_self_eq_true, not_true_eq_false, not_false_eq_true, Int.cast_ofNat_Int, Int.reduceEq, Int.reduceLE, Int.reduceLT, Int.reduceAdd, Int.reduceSub, Int.reduceMul, Int.reduceNeg, if_true, if_false, ite_true, ite_false, Bool.false_eq_true, if_neg, if_pos, decide_eq_true_eq, Bool.not_eq_true', decide_eq_false_iff_not, eq_self_iff_true, decide_true, decide_false, Bool.not_true, Bool.not_false, wps_raise, wps_try, wps_tryAs, tryCase_t, tryCase_f, tbl_hit, suiteOf_hit, wp_eDct, wp_eDGet, wp_eDNew, wp_eDDef, wps_dput]
    refine size_ex (B := 2001) (J := 92) (by decide) 91 [d] N _ _ _ (by decide) (fun t ht => by rw [List.mem_singleton.mp ht]; exact hmd) (by omega) hS ?_ _ (.inl rfl)
    have es : (([d].map (szT 92)).sum : Nat) = szT 92 d := by simp
    rw [es]
    have hb : big d = (decide (300 < szT 92 d) || decide (90 < dpT 92 d)) := rfl
    by_cases h1 : 300 < szT 92 d
    · have h1' : (300 : Int) < ((szT 92 d : Nat) : Int) := by omega
      have hbt : big d = true := by rw [hb, decide_eq_true h1]; rfl
      simp only [h1', hbt, List.filter_cons_of_pos, wp_ok, wp_ret, wp_stuck, wp_bad, wp_bnd, wp_if, wp_fif, wps_ok_nx, wps_ok_rt, wps_ok_bk, wps_ok_ct, wps_ok_xc, wps_bad, wps_lft, wps_seq, wps_nil, wps_ret, wps_expr, wps_asg, wps_if, wp_run, wps_for, wps_while, wp_comp, wp_var, wp_C, wp_bin, wp_un, wp_T, wp_Tb, wp_asBl, wp_truthBl, wp_bAnd, wp_bOr, wp_bNot, wp_eIf, wp_eAnd, wp_eOr, wp_eNot, blCase_bl, wp_chain, wp_aNil, wp_aCons, wp_tup, wp_lst, wp_lstM, wp_call, wp_cl1, wp_cl2, wp_cl3, wp_cl4, wp_cl5, wp_meth, wp_isi, wp_oNone, wp_oSome, wp_sl, wp_it, wp_range1, wp_range2, wp_bYes, gEq_str, gNe_str, gEq_int, gNe_int, gEq_bl, gNe_bl, gIs_bl, gIsNot_bl, gAdd_int, gSub_int, gC_int, gI_int, gAdd_str, gAdd_tup, gAdd_lst, gNeg_int, gIx_tup, gIx_lst, gLen_tup, gLen_lst, gLen_str, gInt_int, gInt_bl, gTuple_lst, gTuple_tup, gList_lst, gList_tup, gSl_tup, gSl_lst, gSl_fl, gSl_str, srcL_tup, srcL_lst, srcL_fl, srcL_str, srcR1_int, typN, startR, List.map_cons, List.map_nil, List.length_cons, List.length_nil, Nat.reduceAdd, Nat.reduceSub, Nat.zero_add, Nat.sub_self, Nat.sub_zero, List.replicate_zero, List.replicate_succ, List.cons_append, List.nil_append, List.append_nil, List.getElem?_cons_zero, List.getElem?_cons_succ, List.set_cons_zero, List.set_cons_succ, List.set_nil, List.getElem?_nil, Option.some.injEq, exists_eq_left', exists_eq_left, exists_eq_right, reduceCtorEq, false_and, and_false, true_and, and_true, exists_false, exists_const, wipeR, Nat.zero_le, String.reduceEq, D.int.injEq, D.str.injEq, D.bl.injEq, atI_0, atI_1, atI_2, atI_3, atI_4, beq_self_eq_true, not_true_eq_false, not_false_eq_true, Int.cast_ofNat_Int, Int.reduceEq, Int.reduceLE, Int.reduceLT, Int.reduceAdd, Int.reduceSub, Int.reduceMul, Int.reduceNeg, if_true, if_false, ite_true, ite_false, Bool.false_eq_true, if_neg, if_pos, decide_eq_true_eq, Bool.not_eq_true', decide_eq_false_iff_not, eq_self_iff_true, decide_true, decide_false, Bool.not_true, Bool.not_false, wps_raise, wps_try, wps_tryAs, tryCase_t, tryCase_f, tbl_hit, suiteOf_hit, wp_eDct, wp_eDGet, wp_eDNew, wp_eDDef, wps_dput]
      simp [hbt]
    · have h1' : ¬ (300 : Int) < ((szT 92 d : Nat) : Int) := by omega
      simp only [h1', wp_ok, wp_ret, wp_stuck, wp_bad, wp_bnd, wp_if, wp_fif, wps_ok_nx, wps_ok_rt, wps_ok_bk, wps_ok_ct, wps_ok_xc, wps_bad, wps_lft, wps_seq, wps_nil, wps_ret, wps_expr, wps_asg, wps_if, wp_run, wps_for, wps_while, wp_comp, wp_var, wp_C, wp_bin, wp_un, wp_T, wp_Tb, wp_asBl, wp_truthBl, wp_bAnd, wp_bOr, wp_bNot, wp_eIf, wp_eAnd, wp_eOr, wp_eNot, blCase_bl, wp_chain, wp_aNil, wp_aCons, wp_tup, wp_lst, wp_lstM, wp_call, wp_cl1, wp_cl2, wp_cl3, wp_cl4, wp_cl5, wp_meth, wp_isi, wp_oNone, wp_oSome, wp_sl, wp_it, wp_range1, wp_range2, wp_bYes, gEq_str, gNe_str, gEq_int, gNe_int, gEq_bl, gNe_bl, gIs_bl, gIsNot_bl, gAdd_int, gSub_int, gC_int, gI_int, gAdd_str, gAdd_tup, gAdd_lst, gNeg_int, gIx_tup, gIx_lst, gLen_tup, gLen_lst, gLen_str, gInt_int, gInt_bl, gTuple_lst, gTuple_tup, gList_lst, gList_tup, gSl_tup, gSl_lst, gSl_fl, gSl_str, srcL_tup, srcL_lst, srcL_fl, srcL_str, srcR1_int, typN, startR, List.map_cons, List.map_nil, List.length_cons, List.length_nil, Nat.reduceAdd, Nat.reduceSub, Nat.zero_add, Nat.sub_self, Nat.sub_zero, List.replicate_zero, List.replicate_succ, List.cons_append, List.nil_append, List.append_nil, List.getElem?_cons_zero, List.getElem?_cons_succ, List.set_cons_zero, List.set_cons_succ, List.set_nil, List.getElem?_nil, Option.some.injEq, exists_eq_left', exists_eq_left, exists_eq_right, reduceCtorEq, false_and, and_false, true_and, and_true, exists_false, exists_const, wipeR, Nat.zero_le, String.reduceEq, D.int.injEq, D.str.injEq, D.bl.injEq, atI_0, atI_1, atI_2, atI_3, atI_4, beq_self_eq_true, not_true_eq_false, not_false_eq_true, Int.cast_ofNat_Int, Int.reduceEq, Int.reduceLE, Int.reduceLT, Int.reduceAdd, Int.reduceSub, Int.reduceMul, Int.reduceNeg, if_true, if_false, ite_true, ite_false, Bool.false_eq_true, if_neg, if_pos, decide_eq_true_eq, Bool.not_eq_true', decide_eq_false_iff_not, eq_self_iff_true, decide_true, decide_false, Bool.not_true, Bool.not_false, wps_raise, wps_try, wps_tryAs, tryCase_t, tryCase_f, tbl_hit, suiteOf_hit, wp_eDct, wp_eDGet, wp_eDNew, wp_eDDef, wps_dput]
      refine deep_ex (B := 2001) (by decide) 91 92 d N _ _ _ (by decide) hmd (by omega) hS ?_
      by_cases h2 : 90 < dpT 92 d
      · have h2' : (90 : Int) < ((dpT 92 d : Nat) : Int) := by omega
        have hbt : big d = true := by rw [hb, decide_eq_true h2, Bool.or_true]
        simp only [h2', wp_ok, wp_ret, wp_stuck, wp_bad, wp_bnd, wp_if, wp_fif, wps_ok_nx, wps_ok_rt, wps_ok_bk, wps_ok_ct, wps_ok_xc, wps_bad, wps_lft, wps_seq, wps_nil, wps_ret, wps_expr, wps_asg, wps_if, wp_run, wps_for, wps_while, wp_comp, wp_var, wp_C, wp_bin, wp_un, wp_T, wp_Tb, wp_asBl, wp_truthBl, wp_bAnd, wp_bOr, wp_bNot, wp_eIf, wp_eAnd, wp_eOr, wp_eNot, blCase_bl, wp_chain, wp_aNil, wp_aCons, wp_tup, wp_lst, wp_lstM, wp_call, wp_cl1, wp_cl2, wp_cl3, wp_cl4, wp_cl5, wp_meth, wp_isi, wp_oNone, wp_oSome, wp_sl, wp_it, wp_range1, wp_range2, wp_bYes, gEq_str, gNe_str, gEq_int, gNe_int, gEq_bl, gNe_bl, gIs_bl, gIsNot_bl, gAdd_int, gSub_int, gC_int, gI_int, gAdd_str, gAdd_tup, gAdd_lst, gNeg_int, gIx_tup, gIx_lst, gLen_tup, gLen_lst, gLen_str, gInt_int, gInt_bl, gTuple_lst, gTuple_tup, gList_lst, gList_tup, gSl_tup, gSl_lst, gSl_fl, gSl_str, srcL_tup, srcL_lst, srcL_fl, srcL_str, srcR1_int, typN, startR, List.map_cons, List.map_nil, List.length_cons, List.length_nil, Nat.reduceAdd, Nat.reduceSub, Nat.zero_add, Nat.sub_self, Nat.sub_zero, List.replicate_zero, List.replicate_succ, List.cons_append, List.nil_append, List.append_nil, List.getElem?_cons_zero, List.getElem?_cons_succ, List.set_cons_zero, List.set_cons_succ, List.set_nil, List.getElem?_nil, Option.some.injEq, exists_eq_left', exists_eq_left, exists_eq_right, reduceCtorEq, false_and, and_false, true_and, and_true, exists_false, exists_const, wipeR, Nat.zero_le, String.reduceEq, D.int.injEq, D.str.injEq, D.bl.injEq, atI_0, atI_1, atI_2, atI_3, atI_4, beq_self_eq_true, not_true_eq_false, not_false_eq_true, Int.cast_ofNat_Int, Int.reduceEq, Int.reduceLE, Int.reduceLT, Int.reduceAdd, Int.reduceSub, Int.reduceMul, Int.reduceNeg, if_true, if_false, ite_true, ite_false, Bool.false_eq_true, if_neg, if_pos, decide_eq_true_eq, Bool.not_eq_true', decide_eq_false_iff_not, eq_self_iff_true, decide_true, decide_false, Bool.not_true, Bool.not_false, wps_raise, wps_try, wps_tryAs, tryCase_t, tryCase_f, tbl_hit, suiteOf_hit, wp_eDct, wp_eDGet, wp_eDNew, wp_eDDef, wps_dput]
        simp [hbt]
      · have h2' : ¬ (90 : Int) < ((dpT 92 d : Nat) : Int) := by omega
        have hbf : big d = false := by rw [hb, decide_eq_false h1, decide_eq_false h2]; rfl
        simp only [h2', wp_ok, wp_ret, wp_stuck, wp_bad, wp_bnd, wp_if, wp_fif, wps_ok_nx, wps_ok_rt, wps_ok_bk, wps_ok_ct, wps_ok_xc, wps_bad, wps_lft, wps_seq, wps_nil, wps_ret, wps_expr, wps_asg, wps_if, wp_run, wps_for, wps_while, wp_comp, wp_var, wp_C, wp_bin, wp_un, wp_T, wp_Tb, wp_asBl, wp_truthBl, wp_bAnd, wp_bOr, wp_bNot, wp_eIf, wp_eAnd, wp_eOr, wp_eNot, blCase_bl, wp_chain, wp_aNil, wp_aCons, wp_tup, wp_lst, wp_lstM, wp_call, wp_cl1, wp_cl2, wp_cl3, wp_cl4, wp_cl5, wp_meth, wp_isi, wp_oNone, wp_oSome, wp_sl, wp_it, wp_range1, wp_range2, wp_bYes, gEq_str, gNe_str, gEq_int, gNe_int, gEq_bl, gNe_bl, gIs_bl, gIsNot_bl, gAdd_int, gSub_int, gC_int, gI_int, gAdd_str, gAdd_tup, gAdd_lst, gNeg_int, gIx_tup, gIx_lst, gLen_tup, gLen_lst, gLen_str, gInt_int, gInt_bl, gTuple_lst, gTuple_tup, gList_lst, gList_tup, gSl_tup, gSl_lst, gSl_fl, gSl_str, srcL_tup, srcL_lst, srcL_fl, srcL_str, srcR1_int, typN, startR, List.map_cons, List.map_nil, List.length_cons, List.length_nil, Nat.reduceAdd, Nat.reduceSub, Nat.zero_add, Nat.sub_self, Nat.sub_zero, List.replicate_zero, List.replicate_succ, List.cons_append, List.nil_append, List.append_nil, List.getElem?_cons_zero, List.getElem?_cons_succ, List.set_cons_zero, List.set_cons_succ, List.set_nil, List.getElem?_nil, Option.some.injEq, exists_eq_left', exists_eq_left, exists_eq_right, reduceCtorEq, false_and, and_false, true_and, and_true, exists_false, exists_const, wipeR, Nat.zero_le, String.reduceEq, D.int.injEq, D.str.injEq, D.bl.injEq, atI_0, atI_1, atI_2, atI_3, atI_4, beq_self_eq_true, not_true_eq_false, not_false_eq_true, Int.cast_ofNat_Int, Int.reduceEq, Int.reduceLE, Int.reduceLT, Int.reduceAdd, Int.reduceSub, Int.reduceMul, Int.reduceNeg, if_true, if_false, ite_true, ite_false, Bool.false_eq_true, if_neg, if_pos, decide_eq_true_eq, Bool.not_eq_true', decide_eq_false_iff_not, eq_self_iff_true, decide_true, decide_false, Bool.not_true, Bool.not_false, wps_raise, wps_try, wps_tryAs, tryCase_t, tryCase_f, tbl_hit, suiteOf_hit, wp_eDct, wp_eDGet, wp_eDNew, wp_eDDef, wps_dput]
        simp [hbf]
  · obtain ⟨rfl, rfl⟩ := hk
    rw [List.take_length]
    exact h
theorem comp_regs {fs args : List D} {ρ : Rho} {i v : Nat} {FF : List D → Sto → Prop} {x : D} (hi : ∀ d : D, (ρ.set i (some d))[i]? = some (some d)) (hv : ∀ d : D, (ρ.set i (some d))[v]? = some (some x)) (hx : iLst S x = some fs) (hf : RegOk fs) (ha : ∀ a ∈ args, Reg fs.length a) (h : FF (args.map (regAt fs)) S) :
    wp (compM none args (gN i) bYes (eBin gIx (eVar v) (eVar i)) ρ args S) FF nx := by
  refine comp_pure (regAt fs) (fun d hd => ?_) h
  simp only [hi, hv, wp_ok, wp_ret, wp_stuck, wp_bad, wp_bnd, wp_if, wp_fif, wps_ok_nx, wps_ok_rt, wps_ok_bk, wps_ok_ct, wps_ok_xc, wps_bad, wps_lft, wps_seq, wps_nil, wps_ret, wps_expr, wps_asg, wps_if, wp_run, wps_for, wps_while, wp_comp, wp_var, wp_C, wp_bin, wp_un, wp_T, wp_Tb, wp_asBl, wp_truthBl, wp_bAnd, wp_bOr, wp_bNot, wp_eIf, wp_eAnd, wp_eOr, wp_eNot, blCase_bl, wp_chain, wp_aNil, wp_aCons, wp_tup, wp_lst, wp_lstM, wp_call, wp_cl1, wp_cl2, wp_cl3, wp_cl4, wp_cl5, wp_meth, wp_isi, wp_oNone, wp_oSome, wp_sl, wp_it, wp_range1, wp_range2, wp_bYes, gEq_str, gNe_str, gEq_int, gNe_int, gEq_bl, gNe_bl, gIs_bl, gIsNot_bl, gAdd_int, gSub_int, gC_int, gI_int, gAdd_str, gAdd_tup, gAdd_lst, gNeg_int, gIx_tup, gIx_lst, gLen_tup, gLen_lst, gLen_str, gInt_int, gInt_bl, gTuple_lst, gTuple_tup, gList_lst, gList_tup, gSl_tup, gSl_lst, gSl_fl, gSl_str, srcL_tup, srcL_lst, srcL_fl, srcL_str, srcR1_int, typN, startR, List.map_cons, List.map_nil, List.length_cons, List.length_nil, Nat.reduceAdd, Nat.reduceSub, Nat.zero_add, Nat.sub_self, Nat.sub_zero, List.replicate_zero, List.replicate_succ, List.cons_append, List.nil_append, List.append_nil, List.getElem?_cons_zero, List.getElem?_cons_succ, List.set_cons_zero, List.set_cons_succ, List.set_nil, List.getElem?_nil, Option.some.injEq, exists_eq_left', exists_eq_left, exists_eq_right, reduceCtorEq, false_and, and_false, true_and, and_true, exists_false, exists_const, wipeR, Nat.zero_le, String.reduceEq, D.int.injEq, D.str.injEq, D.bl.injEq, atI_0, atI_1, atI_2, atI_3, atI_4, beq_self_eq_true, not_true_eq_false, not_false_eq_true, Int.cast_ofNat_Int, Int.reduceEq, Int.reduceLE, Int.reduceLT, Int.reduceAdd, Int.reduceSub, Int.reduceMul, Int.reduceNeg, if_true, if_false, ite_true, ite_false, Bool.false_eq_true, if_neg, if_pos, decide_eq_true_eq, Bool.not_eq_true', decide_eq_false_iff_not, eq_self_iff_true, decide_true, decide_false, Bool.not_true, Bool.not_false, wps_raise, wps_try, wps_tryAs, tryCase_t, tryCase_f, tbl_hit, suiteOf_hit, wp_eDct, wp_eDGet, wp_eDNew, wp_eDDef, wps_dput]
  rw [(regAt_ok hf (ha d hd)).2 hx]
  exact ⟨rfl, rfl⟩
theorem gIn_one : wp (gIn .non (.lst [.non]) S) F E ↔ F (.bl true) S := by
  unfold gIn; rw [show inD S .non (.lst [.non]) = some true from rfl]; exact Iff.rfl
theorem told_ok : ∀ (j t w : Nat) (c : D) (ts : List D) (N : Nat) (S : Sto) (F : D → Sto → Prop) (E : Exc → Sto → Prop), CodeG j t w c → RegOk ts → ts.length ≤ 1000 → j + 96 ≤ N → WF S → F (encR (told j c ts)) S → wp (den fu N i_l_told [c, .lst ts] S) F E := by
  intro j
  induction j with
  | zero => intro t w c ts N S F E hc; exact hc.elim
  | succ j ih =>
    intro t w c ts N S F E hc hts hlen hN hS hF
    obtain ⟨ops, outs, e, rfl, ho, k', hk, h2, h3, h4, h5, h6, h7⟩ := hc.shape
    obtain rfl : k' = j := by omega
    obtain ⟨N', rfl⟩ : ∃ N', N = N' + 1 := ⟨N - 1, by omega⟩
    show wp (runDef false 7 (b_l_told fu (den fu N')) _ _) _ _
    have fin : ∀ r, told (k' + 1) (.tup [.int t, .tup ops, .tup outs]) ts = r → tr (encR r) → wp (finD false S.length (encR r) S) F E := fun r hr ht => fin_same hS ht rfl (by rw [← hr]; exact hF)
    simp only [b_l_told, wp_ok, wp_ret, wp_stuck, wp_bad, wp_bnd, wp_if, wp_fif, wps_ok_nx, wps_ok_rt, wps_ok_bk, wps_ok_ct, wps_ok_xc, wps_bad, wps_lft, wps_seq, wps_nil, wps_ret, wps_expr, wps_asg, wps_if, wp_run, wps_for, wps_while, wp_comp, wp_var, wp_C, wp_bin, wp_un, wp_T, wp_Tb, wp_asBl, wp_truthBl, wp_bAnd, wp_bOr, wp_bNot, wp_eIf, wp_eAnd, wp_eOr, wp_eNot, blCase_bl, wp_chain, wp_aNil, wp_aCons, wp_tup, wp_lst, wp_lstM, wp_call, wp_cl1, wp_cl2, wp_cl3, wp_cl4, wp_cl5, wp_meth, wp_isi, wp_oNone, wp_oSome, wp_sl, wp_it, wp_range1, wp_range2, wp_bYes, gEq_str, gNe_str, gEq_int, gNe_int, gEq_bl, gNe_bl, gIs_bl, gIsNot_bl, gAdd_int, gSub_int, gC_int, gI_int, gAdd_str, gAdd_tup, gAdd_lst, gNeg_int, gIx_tup, gIx_lst, gLen_tup, gLen_lst, gLen_str, gInt_int, gInt_bl, gTuple_lst, gTuple_tup, gList_lst, gList_tup, gSl_tup, gSl_lst, gSl_fl, gSl_str, srcL_tup, srcL_lst, srcL_fl, srcL_str, srcR1_int, typN, startR, List.map_cons, List.map_nil, List.length_cons, List.length_nil, Nat.reduceAdd, Nat.reduceSub, Nat.zero_add, Nat.sub_self, Nat.sub_zero, List.replicate_zero, List.replicate_succ, List.cons_append, List.nil_append, List.append_nil, List.getElem?_cons_zero, List.getElem?_cons_succ, List.set_cons_zero, List.set_cons_succ, List.set_nil, List.getElem?_nil, Option.some.injEq, exists_eq_left', exists_eq_left, exists_eq_right, reduceCtorEq, false_and, and_false, true_and, and_true, exists_false, exists_const, wipeR, Nat.zero_le, String.reduceEq, D.int.injEq, D.str.injEq, D.bl.injEq, atI_0, atI_1, atI_2, atI_3, atI_4, beq_self_eq_true, not_true_eq_false, not_false_eq_true, Int.cast_ofNat_Int, Int.reduceEq, Int.reduceLE, Int.reduceLT, Int.reduceAdd, Int.reduceSub, Int.reduceMul, Int.reduceNeg, if_true, if_false, ite_true, ite_false, Bool.false_eq_true, if_neg, if_pos, decide_eq_true_eq, Bool.not_eq_true', decide_eq_false_iff_not, eq_self_iff_true, decide_true, decide_false, Bool.not_true, Bool.not_false, wps_raise, wps_try, wps_tryAs, tryCase_t, tryCase_f, tbl_hit, suiteOf_hit, wp_eDct, wp_eDGet, wp_eDNew, wp_eDDef, wps_dput]
    by_cases hl : (ts.length : Int) = (t : Nat)
    · have htold : told (k' + 1) (.tup [.int t, .tup ops, .tup outs]) ts = thenR (opsR (told k') ops ts) (fun fs => .some (outs.map (regAt fs))) := by simp only [told, hl, if_true]
      simp only [hl, srcL_tup, wp_ok, wp_ret, wp_stuck, wp_bad, wp_bnd, wp_if, wp_fif, wps_ok_nx, wps_ok_rt, wps_ok_bk, wps_ok_ct, wps_ok_xc, wps_bad, wps_lft, wps_seq, wps_nil, wps_ret, wps_expr, wps_asg, wps_if, wp_run, wps_for, wps_while, wp_comp, wp_var, wp_C, wp_bin, wp_un, wp_T, wp_Tb, wp_asBl, wp_truthBl, wp_bAnd, wp_bOr, wp_bNot, wp_eIf, wp_eAnd, wp_eOr, wp_eNot, blCase_bl, wp_chain, wp_aNil, wp_aCons, wp_tup, wp_lst, wp_lstM, wp_call, wp_cl1, wp_cl2, wp_cl3, wp_cl4, wp_cl5, wp_meth, wp_isi, wp_oNone, wp_oSome, wp_sl, wp_it, wp_range1, wp_range2, wp_bYes, gEq_str, gNe_str, gEq_int, gNe_int, gEq_bl, gNe_bl, gIs_bl, gIsNot_bl, gAdd_int, gSub_int, gC_int, gI_int, gAdd_str, gAdd_tup, gAdd_lst, gNeg_int, gIx_tup, gIx_lst, gLen_tup, gLen_lst, gLen_str, gInt_int, gInt_bl, gTuple_lst, gTuple_tup, gList_lst, gList_tup, gSl_tup, gSl_lst, gSl_fl, gSl_str, srcL_tup, srcL_lst, srcL_fl, srcL_str, srcR1_int, typN, startR, List.map_cons, List.map_nil, List.length_cons, List.length_nil, Nat.reduceAdd, Nat.reduceSub, Nat.zero_add, Nat.sub_self, Nat.sub_zero, List.replicate_zero, List.replicate_succ, List.cons_append, List.nil_append, List.append_nil, List.getElem?_cons_zero, List.getElem?_cons_succ, List.set_cons_zero, List.set_cons_succ, List.set_nil, List.getElem?_nil, Option.some.injEq, exists_eq_left', exists_eq_left, exists_eq_right, reduceCtorEq, false_and, and_false, true_and, and_true, exists_false, exists_const, wipeR, Nat.zero_le, String.reduceEq, D.int.injEq, D.str.injEq, D.bl.injEq, atI_0, atI_1, atI_2, atI_3, atI_4, beq_self_eq_true, not_true_eq_false, not_false_eq_true, Int.cast_ofNat_Int, Int.reduceEq, Int.reduceLE, Int.reduceLT, Int.reduceAdd, Int.reduceSub, Int.reduceMul, Int.reduceNeg, if_true, if_false, ite_true, ite_false, Bool.false_eq_true, if_neg, if_pos, decide_eq_true_eq, Bool.not_eq_true', decide_eq_false_iff_not, eq_self_iff_true, decide_true, decide_false, Bool.not_true, Bool.not_false, wps_raise, wps_try, wps_tryAs, tryCase_t, tryCase_f, tbl_hit, suiteOf_hit, wp_eDct, wp_eDGet, wp_eDNew, wp_eDDef, wps_dput]
      refine wps_forM (fun i ρ S' => S' = S ∧ ∃ (fs : List D) (o1 o2 o3 o4 : Option D), ρ = [some (.tup [.int t, .tup ops, .tup outs]), some (.lst ts), some (.lst fs), o1, o2, o3, o4] ∧ opsR (told k') ops ts = opsR (told k') (ops.drop i) fs ∧ OpsG (CodeG k') fs.length (ops.drop i) e ∧ RegOk fs) (fun _ _ _ _ => trivial) ?_ ?_ ⟨rfl, ts, none, none, none, none, rfl, rfl, by rw [List.drop_zero, show ts.length = t by omega]; exact h2, hts⟩
      · rintro i op ρ S' hd ⟨rfl, fs, o1, o2, o3, o4, rfl, hop, hog, hrg⟩
        have hdrop : ops.drop i = op :: ops.drop (i + 1) := by
          obtain ⟨hlt, he⟩ := List.getElem?_eq_some_iff.mp hd
          rw [List.drop_eq_getElem_cons hlt, he]
        rw [hdrop] at hop hog
        obtain ⟨m, hm, hrest⟩ := hog
        have hfl := OpsG.le hrest
        have hfsl : fs.length ≤ 100 := by
          have h8 := OpsG.le h2
          have h9 := OpsG.le hrest
          omega
        refine ⟨_, rfl, ?_⟩
        have iL : iLst S' (.lst fs) = some fs := rfl
        -- behind the op: what is made
        have tail : ∀ {BB : Rho → Sto → Prop} (r : Rs) (o5 o6 : Option D), made (told k') op fs = r → tr (encR r) → wps (sSeq (sIf (bOr (eTb (eBin gIs (eVar 4) (eC .non))) (eTb (eBin gEq (eVar 4) (eC (.str "great"))))) (sRet (eVar 4)) sNil)
            (sSeq (sIf (eTb (eBin gIn (eC .non) (eVar 4))) (sRet (eC .non)) sNil)
            (sSeq (sIf (eTb (eBin gNe (eComp (iIt (eVar 4)) (gN 6) (bOr (eTb (eBin gGt (eCall (cl 1 (den fu N' i_l_size)) (aCons (eLst (aCons (eVar 6) aNil)) aNil)) (eC (.int 300)))) (eTb (eBin gGt (eCall (cl 1 (den fu N' i_l_deep)) (aCons (eVar 6) aNil)) (eC (.int 90))))) (eVar 6) [6]) (eLst aNil))) (sRet (eC (.str "great"))) sNil)
            (sAsg (gN 2) (eBin gAdd (eVar 2) (eVar 4))))) [some (.tup [.int t, .tup ops, .tup outs]), some (.lst ts), some (.lst fs), some op, some (encR r), o5, o6] S')
            (fun ρ S'_1 => S'_1 = S' ∧ ∃ (fs : List D) (o1 o2 o3 o4 : Option D), ρ = [some (.tup [.int t, .tup ops, .tup outs]), some (.lst ts), some (.lst fs), o1, o2, o3, o4] ∧ opsR (told k') ops ts = opsR (told k') (ops.drop (i + 1)) fs ∧ OpsG (CodeG k') fs.length (ops.drop (i + 1)) e ∧ RegOk fs)
            (fun d S'_1 => wp (finD false S'.length d S'_1) F E) BB (fun ρ S'_1 => S'_1 = S' ∧ ∃ (fs : List D) (o1 o2 o3 o4 : Option D), ρ = [some (.tup [.int t, .tup ops, .tup outs]), some (.lst ts), some (.lst fs), o1, o2, o3, o4] ∧ opsR (told k') ops ts = opsR (told k') (ops.drop (i + 1)) fs ∧ OpsG (CodeG k') fs.length (ops.drop (i + 1)) e ∧ RegOk fs) (fun e ρ S' => E e S') := by
          intro BB r o5 o6 hr htr
          have hop2 : opsR (told k') ops ts = thenR r (fun ms => if ms.any big = true then .great else opsR (told k') (ops.drop (i + 1)) (fs ++ ms)) := by rw [hop, ← hr]; rfl
          cases r with
          | non =>
            have := fin .non (by rw [htold, hop2]; rfl) rfl
            simp only [encR, gIs, wp_ok, wp_ret, wp_stuck, wp_bad, wp_bnd, wp_if, wp_fif, wps_ok_nx, wps_ok_rt, wps_ok_bk, wps_ok_ct, wps_ok_xc, wps_bad, wps_lft, wps_seq, wps_nil, wps_ret, wps_expr, wps_asg, wps_if, wp_run, wps_for, wps_while, wp_comp, wp_var, wp_C, wp_bin, wp_un, wp_T, wp_Tb, wp_asBl, wp_truthBl, wp_bAnd, wp_bOr, wp_bNot, wp_eIf, wp_eAnd, wp_eOr, wp_eNot, blCase_bl, wp_chain, wp_aNil, wp_aCons, wp_tup, wp_lst, wp_lstM, wp_call, wp_cl1, wp_cl2, wp_cl3, wp_cl4, wp_cl5, wp_meth, wp_isi, wp_oNone, wp_oSome, wp_sl, wp_it, wp_range1, wp_range2, wp_bYes, gEq_str, gNe_str, gEq_int, gNe_int, gEq_bl, gNe_bl, gIs_bl, gIsNot_bl, gAdd_int, gSub_int, gC_int, gI_int, gAdd_str, gAdd_tup, gAdd_lst, gNeg_int, gIx_tup, gIx_lst, gLen_tup, gLen_lst, gLen_str, gInt_int, gInt_bl, gTuple_lst, gTuple_tup, gList_lst, gList_tup, gSl_tup, gSl_lst, gSl_fl, gSl_str, srcL_tup, srcL_lst, srcL_fl, srcL_str, srcR1_int, typN, startR, List.map_cons, List.map_nil, List.length_cons, List.length_nil, Nat.reduceAdd, Nat.reduceSub, Nat.zero_add, Nat.sub_self, Nat.sub_zero, List.replicate_zero, List.replicate_succ, List.cons_append, List.nil_append, List.append_nil, List.getElem?_cons_zero, List.getElem?_cons_succ, List.set_cons_zero, List.set_cons_succ, List.set_nil, List.getElem?_nil, Option.some.injEq, exists_eq_left', exists_eq_left, exists_eq_right, reduceCtorEq, false_and, and_false, true_and, and_true, exists_false, exists_const, wipeR, Nat.zero_le, String.reduceEq, D.int.injEq, D.str.injEq, D.bl.injEq, atI_0, atI_1, atI_2, atI_3, atI_4, beq_self_eq_true, not_true_eq_false, not_false_eq_true, Int.cast_ofNat_Int, Int.reduceEq, Int.reduceLE, Int.reduceLT, Int.reduceAdd, Int.reduceSub, Int.reduceMul, Int.reduceNeg, if_true, if_false, ite_true, ite_false, Bool.false_eq_true, if_neg, if_pos, decide_eq_true_eq, Bool.not_eq_true', decide_eq_false_iff_not, eq_self_iff_true, decide_true, decide_false, Bool.not_true, Bool.not_false, wps_raise, wps_try, wps_tryAs, tryCase_t, tryCase_f, tbl_hit, suiteOf_hit, wp_eDct, wp_eDGet, wp_eDNew, wp_eDDef, wps_dput] at this ⊢
            exact this
          | great =>
            have := fin .great (by rw [htold, hop2]; rfl) rfl
            simp only [encR, gIs, wp_ok, wp_ret, wp_stuck, wp_bad, wp_bnd, wp_if, wp_fif, wps_ok_nx, wps_ok_rt, wps_ok_bk, wps_ok_ct, wps_ok_xc, wps_bad, wps_lft, wps_seq, wps_nil, wps_ret, wps_expr, wps_asg, wps_if, wp_run, wps_for, wps_while, wp_comp, wp_var, wp_C, wp_bin, wp_un, wp_T, wp_Tb, wp_asBl, wp_truthBl, wp_bAnd, wp_bOr, wp_bNot, wp_eIf, wp_eAnd, wp_eOr, wp_eNot, blCase_bl, wp_chain, wp_aNil, wp_aCons, wp_tup, wp_lst, wp_lstM, wp_call, wp_cl1, wp_cl2, wp_cl3, wp_cl4, wp_cl5, wp_meth, wp_isi, wp_oNone, wp_oSome, wp_sl, wp_it, wp_range1, wp_range2, wp_bYes, gEq_str, gNe_str, gEq_int, gNe_int, gEq_bl, gNe_bl, gIs_bl, gIsNot_bl, gAdd_int, gSub_int, gC_int, gI_int, gAdd_str, gAdd_tup, gAdd_lst, gNeg_int, gIx_tup, gIx_lst, gLen_tup, gLen_lst, gLen_str, gInt_int, gInt_bl, gTuple_lst, gTuple_tup, gList_lst, gList_tup, gSl_tup, gSl_lst, gSl_fl, gSl_str, srcL_tup, srcL_lst, srcL_fl, srcL_str, srcR1_int, typN, startR, List.map_cons, List.map_nil, List.length_cons, List.length_nil, Nat.reduceAdd, Nat.reduceSub, Nat.zero_add, Nat.sub_self, Nat.sub_zero, List.replicate_zero, List.replicate_succ, List.cons_append, List.nil_append, List.append_nil, List.getElem?_cons_zero, List.getElem?_cons_succ, List.set_cons_zero, List.set_cons_succ, List.set_nil, List.getElem?_nil, Option.some.injEq, exists_eq_left', exists_eq_left, exists_eq_right, reduceCtorEq, false_and, and_false, true_and, and_true, exists_false, exists_const, wipeR, Nat.zero_le, String.reduceEq, D.int.injEq, D.str.injEq, D.bl.injEq, atI_0, atI_1, atI_2, atI_3, atI_4, beq_self_eq_true, not_true_eq_false, not_false_eq_true, Int.cast_ofNat_Int, Int.reduceEq, Int.reduceLE, Int.reduceLT, Int.reduceAdd, Int.reduceSub, Int.reduceMul, Int.reduceNeg, if_true, if_false, ite_true, ite_false, Bool.false_eq_true, if_neg, if_pos, decide_eq_true_eq, Bool.not_eq_true', decide_eq_false_iff_not, eq_self_iff_true, decide_true, decide_false, Bool.not_true, Bool.not_false, wps_raise, wps_try, wps_tryAs, tryCase_t, tryCase_f, tbl_hit, suiteOf_hit, wp_eDct, wp_eDGet, wp_eDNew, wp_eDDef, wps_dput] at this ⊢
            exact this
          | some ms =>
            obtain ⟨q1, q2⟩ := made_good (CG := CodeG k') (told_good k') hm hrg hr
            have shm : ∀ d ∈ ms, Sh (3 * 91 + 1) d := fun d hd => (q2 d hd).sh
            have isn : ∀ {F E}, wp (gIs (.lst ms) .non S') F E ↔ F (.bl false) S' := fun {F E} => Iff.rfl
            have eqg : ∀ {F E}, wp (gEq (.lst ms) (.str "great") S') F E ↔ F (.bl false) S' := fun {F E} => by unfold gEq; rw [eq_lstStr shm sOk_great]; exact Iff.rfl
            have hml : ms.length ≤ 100 := by have := hm.made; omega
            simp only [encR, isn, eqg, gIn_none q2, wp_ok, wp_ret, wp_stuck, wp_bad, wp_bnd, wp_if, wp_fif, wps_ok_nx, wps_ok_rt, wps_ok_bk, wps_ok_ct, wps_ok_xc, wps_bad, wps_lft, wps_seq, wps_nil, wps_ret, wps_expr, wps_asg, wps_if, wp_run, wps_for, wps_while, wp_comp, wp_var, wp_C, wp_bin, wp_un, wp_T, wp_Tb, wp_asBl, wp_truthBl, wp_bAnd, wp_bOr, wp_bNot, wp_eIf, wp_eAnd, wp_eOr, wp_eNot, blCase_bl, wp_chain, wp_aNil, wp_aCons, wp_tup, wp_lst, wp_lstM, wp_call, wp_cl1, wp_cl2, wp_cl3, wp_cl4, wp_cl5, wp_meth, wp_isi, wp_oNone, wp_oSome, wp_sl, wp_it, wp_range1, wp_range2, wp_bYes, gEq_str, gNe_str, gEq_int, gNe_int, gEq_bl, gNe_bl, gIs_bl, gIsNot_bl, gAdd_int, gSub_int, gC_int, gI_int, gAdd_str, gAdd_tup, gAdd_lst, gNeg_int, gIx_tup, gIx_lst, gLen_tup, gLen_lst, gLen_str, gInt_int, gInt_bl, gTuple_lst, gTuple_tup, gList_lst, gList_tup, gSl_tup, gSl_lst, gSl_fl, gSl_str, srcL_tup, srcL_lst, srcL_fl, srcL_str, srcR1_int, typN, startR, List.map_cons, List.map_nil, List.length_cons, List.length_nil, Nat.reduceAdd, Nat.reduceSub, Nat.zero_add, Nat.sub_self, Nat.sub_zero, List.replicate_zero, List.replicate_succ, List.cons_append, List.nil_append, List.append_nil, List.getElem?_cons_zero, List.getElem?_cons_succ, List.set_cons_zero, List.set_cons_succ, List.set_nil, List.getElem?_nil, Option.some.injEq, exists_eq_left', exists_eq_left, exists_eq_right, reduceCtorEq, false_and, and_false, true_and, and_true, exists_false, exists_const, wipeR, Nat.zero_le, String.reduceEq, D.int.injEq, D.str.injEq, D.bl.injEq, atI_0, atI_1, atI_2, atI_3, atI_4, beq_self_eq_true, not_true_eq_false, not_false_eq_true, Int.cast_ofNat_Int, Int.reduceEq, Int.reduceLE, Int.reduceLT, Int.reduceAdd, Int.reduceSub, Int.reduceMul, Int.reduceNeg, if_true, if_false, ite_true, ite_false, Bool.false_eq_true, if_neg, if_pos, decide_eq_true_eq, Bool.not_eq_true', decide_eq_false_iff_not, eq_self_iff_true, decide_true, decide_false, Bool.not_true, Bool.not_false, wps_raise, wps_try, wps_tryAs, tryCase_t, tryCase_f, tbl_hit, suiteOf_hit, wp_eDct, wp_eDGet, wp_eDNew, wp_eDDef, wps_dput]
            refine ⟨small_line (by omega), comp_big (fun d => rfl) (by omega) hS q2 ?_⟩
            have nef : ∀ {F E}, wp (gNe (.lst (ms.filter big)) (.lst []) S') F E ↔ F (.bl (!decide (ms.filter big = []))) S' := fun {F E} => by
              unfold gNe; rw [eq_lstNil fun d hd => shm d (List.mem_filter.mp hd).1]; exact Iff.rfl
            rw [nef]
            by_cases hb : ms.any big = true
            · have hne : ¬ ms.filter big = [] := by
                obtain ⟨d, hd, hbd⟩ := List.any_eq_true.mp hb
                intro z
                have : d ∈ ms.filter big := List.mem_filter.mpr ⟨hd, hbd⟩
                rw [z] at this; exact absurd this List.not_mem_nil
              have := fin .great (by rw [htold, hop2]; simp only [thenR, hb, if_true]) rfl
              simp only [hne, encR, wp_ok, wp_ret, wp_stuck, wp_bad, wp_bnd, wp_if, wp_fif, wps_ok_nx, wps_ok_rt, wps_ok_bk, wps_ok_ct, wps_ok_xc, wps_bad, wps_lft, wps_seq, wps_nil, wps_ret, wps_expr, wps_asg, wps_if, wp_run, wps_for, wps_while, wp_comp, wp_var, wp_C, wp_bin, wp_un, wp_T, wp_Tb, wp_asBl, wp_truthBl, wp_bAnd, wp_bOr, wp_bNot, wp_eIf, wp_eAnd, wp_eOr, wp_eNot, blCase_bl, wp_chain, wp_aNil, wp_aCons, wp_tup, wp_lst, wp_lstM, wp_call, wp_cl1, wp_cl2, wp_cl3, wp_cl4, wp_cl5, wp_meth, wp_isi, wp_oNone, wp_oSome, wp_sl, wp_it, wp_range1, wp_range2, wp_bYes, gEq_str, gNe_str, gEq_int, gNe_int, gEq_bl, gNe_bl, gIs_bl, gIsNot_bl, gAdd_int, gSub_int, gC_int, gI_int, gAdd_str, gAdd_tup, gAdd_lst, gNeg_int, gIx_tup, gIx_lst, gLen_tup, gLen_lst, gLen_str, gInt_int, gInt_bl, gTuple_lst, gTuple_tup, gList_lst, gList_tup, gSl_tup, gSl_lst, gSl_fl, gSl_str, srcL_tup, srcL_lst, srcL_fl, srcL_str, srcR1_int, typN, startR, List.map_cons, List.map_nil, List.length_cons, List.length_nil, Nat.reduceAdd, Nat.reduceSub, Nat.zero_add, Nat.sub_self, Nat.sub_zero, List.replicate_zero, List.replicate_succ, List.cons_append, List.nil_append, List.append_nil, List.getElem?_cons_zero, List.getElem?_cons_succ, List.set_cons_zero, List.set_cons_succ, List.set_nil, List.getElem?_nil, Option.some.injEq, exists_eq_left', exists_eq_left, exists_eq_right, reduceCtorEq, false_and, and_false, true_and, and_true, exists_false, exists_const, wipeR, Nat.zero_le, String.reduceEq, D.int.injEq, D.str.injEq, D.bl.injEq, atI_0, atI_1, atI_2, atI_3, atI_4, beq_self_eq_true, not_true_eq_false, not_false_eq_true, Int.cast_ofNat_Int, Int.reduceEq, Int.reduceLE, Int.reduceLT, Int.reduceAdd, Int.reduceSub, Int.reduceMul, Int.reduceNeg, if_true, if_false, ite_true, ite_false, Bool.false_eq_true, if_neg, if_pos, decide_eq_true_eq, Bool.not_eq_true', decide_eq_false_iff_not, eq_self_iff_true, decide_true, decide_false, Bool.not_true, Bool.not_false, wps_raise, wps_try, wps_tryAs, tryCase_t, tryCase_f, tbl_hit, suiteOf_hit, wp_eDct, wp_eDGet, wp_eDNew, wp_eDDef, wps_dput] at this ⊢
              exact this
            · have he : ms.filter big = [] := List.filter_eq_nil_iff.mpr fun d hd hbd => hb (List.any_eq_true.mpr ⟨d, hd, hbd⟩)
              simp only [he, wp_ok, wp_ret, wp_stuck, wp_bad, wp_bnd, wp_if, wp_fif, wps_ok_nx, wps_ok_rt, wps_ok_bk, wps_ok_ct, wps_ok_xc, wps_bad, wps_lft, wps_seq, wps_nil, wps_ret, wps_expr, wps_asg, wps_if, wp_run, wps_for, wps_while, wp_comp, wp_var, wp_C, wp_bin, wp_un, wp_T, wp_Tb, wp_asBl, wp_truthBl, wp_bAnd, wp_bOr, wp_bNot, wp_eIf, wp_eAnd, wp_eOr, wp_eNot, blCase_bl, wp_chain, wp_aNil, wp_aCons, wp_tup, wp_lst, wp_lstM, wp_call, wp_cl1, wp_cl2, wp_cl3, wp_cl4, wp_cl5, wp_meth, wp_isi, wp_oNone, wp_oSome, wp_sl, wp_it, wp_range1, wp_range2, wp_bYes, gEq_str, gNe_str, gEq_int, gNe_int, gEq_bl, gNe_bl, gIs_bl, gIsNot_bl, gAdd_int, gSub_int, gC_int, gI_int, gAdd_str, gAdd_tup, gAdd_lst, gNeg_int, gIx_tup, gIx_lst, gLen_tup, gLen_lst, gLen_str, gInt_int, gInt_bl, gTuple_lst, gTuple_tup, gList_lst, gList_tup, gSl_tup, gSl_lst, gSl_fl, gSl_str, srcL_tup, srcL_lst, srcL_fl, srcL_str, srcR1_int, typN, startR, List.map_cons, List.map_nil, List.length_cons, List.length_nil, Nat.reduceAdd, Nat.reduceSub, Nat.zero_add, Nat.sub_self, Nat.sub_zero, List.replicate_zero, List.replicate_succ, List.cons_append, List.nil_append, List.append_nil, List.getElem?_cons_zero, List.getElem?_cons_succ, List.set_cons_zero, List.set_cons_succ, List.set_nil, List.getElem?_nil, Option.some.injEq, exists_eq_left', exists_eq_left, exists_eq_right, reduceCtorEq, false_and, and_false, true_and, and_true, exists_false, exists_const, wipeR, Nat.zero_le, String.reduceEq, D.int.injEq, D.str.injEq, D.bl.injEq, atI_0, atI_1, atI_2, atI_3, atI_4, beq_self_eq_true, not_true_eq_false, not_false_eq_true, Int.cast_ofNat_Int, Int.reduceEq, Int.reduceLE, Int.reduceLT, Int.reduceAdd, Int.reduceSub, Int.reduceMul, Int.reduceNeg, if_true, if_false, ite_true, ite_false, Bool.false_eq_true, if_neg, if_pos, decide_eq_true_eq, Bool.not_eq_true', decide_eq_false_iff_not, eq_self_iff_true, decide_true, decide_false, Bool.not_true, Bool.not_false, wps_raise, wps_try, wps_tryAs, tryCase_t, tryCase_f, tbl_hit, suiteOf_hit, wp_eDct, wp_eDGet, wp_eDNew, wp_eDDef, wps_dput]
              refine ⟨small_line (by omega), fs ++ ms, _, _, _, _, rfl, by rw [hop2]; simp only [thenR, hb]; rfl, by rw [List.length_append, q1]; exact hrest, fun d hd => ?_⟩
              rw [List.mem_append] at hd
              rcases hd with hd | hd
              · exact hrg d hd
              · refine not_big (q2 d hd) ?_
                cases hbd : big d with
                | false => rfl
                | true => exact absurd (List.any_eq_true.mpr ⟨d, hd, hbd⟩) hb
        have tail0 : ∀ {BB : Rho → Sto → Prop} (o5 o6 : Option D), made (told k') op fs = .non → wps (sSeq (sIf (bOr (eTb (eBin gIs (eVar 4) (eC .non))) (eTb (eBin gEq (eVar 4) (eC (.str "great"))))) (sRet (eVar 4)) sNil)
            (sSeq (sIf (eTb (eBin gIn (eC .non) (eVar 4))) (sRet (eC .non)) sNil)
            (sSeq (sIf (eTb (eBin gNe (eComp (iIt (eVar 4)) (gN 6) (bOr (eTb (eBin gGt (eCall (cl 1 (den fu N' i_l_size)) (aCons (eLst (aCons (eVar 6) aNil)) aNil)) (eC (.int 300)))) (eTb (eBin gGt (eCall (cl 1 (den fu N' i_l_deep)) (aCons (eVar 6) aNil)) (eC (.int 90))))) (eVar 6) [6]) (eLst aNil))) (sRet (eC (.str "great"))) sNil)
            (sAsg (gN 2) (eBin gAdd (eVar 2) (eVar 4))))) [some (.tup [.int t, .tup ops, .tup outs]), some (.lst ts), some (.lst fs), some op, some (.lst [.non]), o5, o6] S')
            (fun ρ S'_1 => S'_1 = S' ∧ ∃ (fs : List D) (o1 o2 o3 o4 : Option D), ρ = [some (.tup [.int t, .tup ops, .tup outs]), some (.lst ts), some (.lst fs), o1, o2, o3, o4] ∧ opsR (told k') ops ts = opsR (told k') (ops.drop (i + 1)) fs ∧ OpsG (CodeG k') fs.length (ops.drop (i + 1)) e ∧ RegOk fs)
            (fun d S'_1 => wp (finD false S'.length d S'_1) F E) BB (fun ρ S'_1 => S'_1 = S' ∧ ∃ (fs : List D) (o1 o2 o3 o4 : Option D), ρ = [some (.tup [.int t, .tup ops, .tup outs]), some (.lst ts), some (.lst fs), o1, o2, o3, o4] ∧ opsR (told k') ops ts = opsR (told k') (ops.drop (i + 1)) fs ∧ OpsG (CodeG k') fs.length (ops.drop (i + 1)) e ∧ RegOk fs) (fun e ρ S' => E e S') := by
          intro BB o5 o6 hr
          have hop2 : opsR (told k') ops ts = .non := by rw [hop, show opsR (told k') (op :: ops.drop (i + 1)) fs = thenR (made (told k') op fs) (fun ms => if ms.any big = true then .great else opsR (told k') (ops.drop (i + 1)) (fs ++ ms)) from rfl, hr]; rfl
          have isn : ∀ {F E}, wp (gIs (.lst [.non]) .non S') F E ↔ F (.bl false) S' := fun {F E} => Iff.rfl
          have eqg : ∀ {F E}, wp (gEq (.lst [.non]) (.str "great") S') F E ↔ F (.bl false) S' := fun {F E} => by unfold gEq; rw [eq_lstStr (m := 1) (fun d hd => by rw [List.mem_singleton.mp hd]; exact ⟨.none, rfl, rfl, by decide⟩) sOk_great]; exact Iff.rfl
          have := fin .non (by rw [htold, hop2]; rfl) rfl
          simp only [encR, isn, eqg, gIn_one, wp_ok, wp_ret, wp_stuck, wp_bad, wp_bnd, wp_if, wp_fif, wps_ok_nx, wps_ok_rt, wps_ok_bk, wps_ok_ct, wps_ok_xc, wps_bad, wps_lft, wps_seq, wps_nil, wps_ret, wps_expr, wps_asg, wps_if, wp_run, wps_for, wps_while, wp_comp, wp_var, wp_C, wp_bin, wp_un, wp_T, wp_Tb, wp_asBl, wp_truthBl, wp_bAnd, wp_bOr, wp_bNot, wp_eIf, wp_eAnd, wp_eOr, wp_eNot, blCase_bl, wp_chain, wp_aNil, wp_aCons, wp_tup, wp_lst, wp_lstM, wp_call, wp_cl1, wp_cl2, wp_cl3, wp_cl4, wp_cl5, wp_meth, wp_isi, wp_oNone, wp_oSome, wp_sl, wp_it, wp_range1, wp_range2, wp_bYes, gEq_str, gNe_str, gEq_int, gNe_int, gEq_bl, gNe_bl, gIs_bl, gIsNot_bl, gAdd_int, gSub_int, gC_int, gI_int, gAdd_str, gAdd_tup, gAdd_lst, gNeg_int, gIx_tup, gIx_lst, gLen_tup, gLen_lst, gLen_str, gInt_int, gInt_bl, gTuple_lst, gTuple_tup, gList_lst, gList_tup, gSl_tup, gSl_lst, gSl_fl, gSl_str, srcL_tup, srcL_lst, srcL_fl, srcL_str, srcR1_int, typN, startR, List.map_cons, List.map_nil, List.length_cons, List.length_nil, Nat.reduceAdd, Nat.reduceSub, Nat.zero_add, Nat.sub_self, Nat.sub_zero, List.replicate_zero, List.replicate_succ, List.cons_append, List.nil_append, List.append_nil, List.getElem?_cons_zero, List.getElem?_cons_succ, List.set_cons_zero, List.set_cons_succ, List.set_nil, List.getElem?_nil, Option.some.injEq, exists_eq_left', exists_eq_left, exists_eq_right, reduceCtorEq, false_and, and_false, true_and, and_true, exists_false, exists_const, wipeR, Nat.zero_le, String.reduceEq, D.int.injEq, D.str.injEq, D.bl.injEq, atI_0, atI_1, atI_2, atI_3, atI_4, beq_self_eq_true, not_true_eq_false, not_false_eq_true, Int.cast_ofNat_Int, Int.reduceEq, Int.reduceLE, Int.reduceLT, Int.reduceAdd, Int.reduceSub, Int.reduceMul, Int.reduceNeg, if_true, if_false, ite_true, ite_false, Bool.false_eq_true, if_neg, if_pos, decide_eq_true_eq, Bool.not_eq_true', decide_eq_false_iff_not, eq_self_iff_true, decide_true, decide_false, Bool.not_true, Bool.not_false, wps_raise, wps_try, wps_tryAs, tryCase_t, tryCase_f, tbl_hit, suiteOf_hit, wp_eDct, wp_eDGet, wp_eDNew, wp_eDDef, wps_dput] at this ⊢
          exact this
        have glue : ∀ {BB : Rho → Sto → Prop} (a : EvS) (ρ0 : Rho), wps (a ρ0 S') (fun ρ1 S1 => ∃ (r : Rs) (x : D) (o5 o6 : Option D), S1 = S' ∧ made (told k') op fs = r ∧ ((x = encR r ∧ tr x) ∨ (x = .lst [.non] ∧ r = .non)) ∧ ρ1 = [some (.tup [.int t, .tup ops, .tup outs]), some (.lst ts), some (.lst fs), some op, some x, o5, o6])
            (fun d S'_1 => wp (finD false S'.length d S'_1) F E) (fun _ _ => False) (fun _ _ => False) (fun e ρ S' => E e S') → wps (sSeq a (sSeq (sIf (bOr (eTb (eBin gIs (eVar 4) (eC .non))) (eTb (eBin gEq (eVar 4) (eC (.str "great"))))) (sRet (eVar 4)) sNil)
            (sSeq (sIf (eTb (eBin gIn (eC .non) (eVar 4))) (sRet (eC .non)) sNil)
            (sSeq (sIf (eTb (eBin gNe (eComp (iIt (eVar 4)) (gN 6) (bOr (eTb (eBin gGt (eCall (cl 1 (den fu N' i_l_size)) (aCons (eLst (aCons (eVar 6) aNil)) aNil)) (eC (.int 300)))) (eTb (eBin gGt (eCall (cl 1 (den fu N' i_l_deep)) (aCons (eVar 6) aNil)) (eC (.int 90))))) (eVar 6) [6]) (eLst aNil))) (sRet (eC (.str "great"))) sNil)
            (sAsg (gN 2) (eBin gAdd (eVar 2) (eVar 4)))))) ρ0 S')
            (fun ρ S'_1 => S'_1 = S' ∧ ∃ (fs : List D) (o1 o2 o3 o4 : Option D), ρ = [some (.tup [.int t, .tup ops, .tup outs]), some (.lst ts), some (.lst fs), o1, o2, o3, o4] ∧ opsR (told k') ops ts = opsR (told k') (ops.drop (i + 1)) fs ∧ OpsG (CodeG k') fs.length (ops.drop (i + 1)) e ∧ RegOk fs)
            (fun d S'_1 => wp (finD false S'.length d S'_1) F E) BB (fun ρ S'_1 => S'_1 = S' ∧ ∃ (fs : List D) (o1 o2 o3 o4 : Option D), ρ = [some (.tup [.int t, .tup ops, .tup outs]), some (.lst ts), some (.lst fs), o1, o2, o3, o4] ∧ opsR (told k') ops ts = opsR (told k') (ops.drop (i + 1)) fs ∧ OpsG (CodeG k') fs.length (ops.drop (i + 1)) e ∧ RegOk fs) (fun e ρ S' => E e S') := by
          intro BB a ρ0 h
          rw [wps_seq]
          refine wps_mono h (fun ρ1 S1 ⟨r, x, o5, o6, e1, e2, e3, e4⟩ => ?_) (fun _ _ h => h) (fun _ _ h => h.elim) (fun _ _ h => h.elim) (fun _ _ _ h => h)
          subst e1 e4
          rcases e3 with ⟨rfl, e5⟩ | ⟨rfl, rfl⟩
          · exact tail r o5 o6 e2 e5
          · exact tail0 o5 o6 e2
        refine glue _ _ ?_
        rcases hm with ⟨rfl, x, rfl, hx⟩ | ⟨rfl, a, rfl, ha⟩ | ⟨rfl, w', a, b, rfl, hw', ha, hb⟩ | ⟨one, args, s, o, rfl, g1, g2, g3, g4, g5, g6⟩
        · have hr : made (told k') (.tup [.str "push", x]) fs = .some [x] := by simp only [made, if_true]
          simp only [ofString_inj, sl, Nat.reduceLeDiff, wp_ok, wp_ret, wp_stuck, wp_bad, wp_bnd, wp_if, wp_fif, wps_ok_nx, wps_ok_rt, wps_ok_bk, wps_ok_ct, wps_ok_xc, wps_bad, wps_lft, wps_seq, wps_nil, wps_ret, wps_expr, wps_asg, wps_if, wp_run, wps_for, wps_while, wp_comp, wp_var, wp_C, wp_bin, wp_un, wp_T, wp_Tb, wp_asBl, wp_truthBl, wp_bAnd, wp_bOr, wp_bNot, wp_eIf, wp_eAnd, wp_eOr, wp_eNot, blCase_bl, wp_chain, wp_aNil, wp_aCons, wp_tup, wp_lst, wp_lstM, wp_call, wp_cl1, wp_cl2, wp_cl3, wp_cl4, wp_cl5, wp_meth, wp_isi, wp_oNone, wp_oSome, wp_sl, wp_it, wp_range1, wp_range2, wp_bYes, gEq_str, gNe_str, gEq_int, gNe_int, gEq_bl, gNe_bl, gIs_bl, gIsNot_bl, gAdd_int, gSub_int, gC_int, gI_int, gAdd_str, gAdd_tup, gAdd_lst, gNeg_int, gIx_tup, gIx_lst, gLen_tup, gLen_lst, gLen_str, gInt_int, gInt_bl, gTuple_lst, gTuple_tup, gList_lst, gList_tup, gSl_tup, gSl_lst, gSl_fl, gSl_str, srcL_tup, srcL_lst, srcL_fl, srcL_str, srcR1_int, typN, startR, List.map_cons, List.map_nil, List.length_cons, List.length_nil, Nat.reduceAdd, Nat.reduceSub, Nat.zero_add, Nat.sub_self, Nat.sub_zero, List.replicate_zero, List.replicate_succ, List.cons_append, List.nil_append, List.append_nil, List.getElem?_cons_zero, List.getElem?_cons_succ, List.set_cons_zero, List.set_cons_succ, List.set_nil, List.getElem?_nil, Option.some.injEq, exists_eq_left', exists_eq_left, exists_eq_right, reduceCtorEq, false_and, and_false, true_and, and_true, exists_false, exists_const, wipeR, Nat.zero_le, String.reduceEq, D.int.injEq, D.str.injEq, D.bl.injEq, atI_0, atI_1, atI_2, atI_3, atI_4, beq_self_eq_true, not_true_eq_false, not_false_eq_true, Int.cast_ofNat_Int, Int.reduceEq, Int.reduceLE, Int.reduceLT, Int.reduceAdd, Int.reduceSub, Int.reduceMul, Int.reduceNeg, if_true, if_false, ite_true, ite_false, Bool.false_eq_true, if_neg, if_pos, decide_eq_true_eq, Bool.not_eq_true', decide_eq_false_iff_not, eq_self_iff_true, decide_true, decide_false, Bool.not_true, Bool.not_false, wps_raise, wps_try, wps_tryAs, tryCase_t, tryCase_f, tbl_hit, suiteOf_hit, wp_eDct, wp_eDGet, wp_eDNew, wp_eDDef, wps_dput]
          exact ⟨_, _, _, _, hr, .inl ⟨rfl, trs fun d hd => by rw [List.mem_singleton.mp hd]; exact hx.tr⟩, rfl⟩
        · have hr : made (told k') (.tup [.str "wrap", a]) fs = .some [.tup [.str "row", .tup [.tup [.str "push", regAt fs a]]]] := by simp only [made, ofString_inj, Nat.zero_le, String.reduceEq, D.int.injEq, D.str.injEq, D.bl.injEq, atI_0, atI_1, atI_2, atI_3, atI_4, beq_self_eq_true, not_true_eq_false, not_false_eq_true, Int.cast_ofNat_Int, Int.reduceEq, Int.reduceLE, Int.reduceLT, Int.reduceAdd, Int.reduceSub, Int.reduceMul, Int.reduceNeg, if_true, if_false, ite_true, ite_false, Bool.false_eq_true, if_neg, if_pos, decide_eq_true_eq, Bool.not_eq_true', decide_eq_false_iff_not, eq_self_iff_true, decide_true, decide_false, Bool.not_true, Bool.not_false]
          obtain ⟨g1, g2⟩ := regAt_ok hrg ha
          have gtr := g1.tr
          simp only [ofString_inj, g2 iL, sl, Nat.reduceLeDiff, wp_ok, wp_ret, wp_stuck, wp_bad, wp_bnd, wp_if, wp_fif, wps_ok_nx, wps_ok_rt, wps_ok_bk, wps_ok_ct, wps_ok_xc, wps_bad, wps_lft, wps_seq, wps_nil, wps_ret, wps_expr, wps_asg, wps_if, wp_run, wps_for, wps_while, wp_comp, wp_var, wp_C, wp_bin, wp_un, wp_T, wp_Tb, wp_asBl, wp_truthBl, wp_bAnd, wp_bOr, wp_bNot, wp_eIf, wp_eAnd, wp_eOr, wp_eNot, blCase_bl, wp_chain, wp_aNil, wp_aCons, wp_tup, wp_lst, wp_lstM, wp_call, wp_cl1, wp_cl2, wp_cl3, wp_cl4, wp_cl5, wp_meth, wp_isi, wp_oNone, wp_oSome, wp_sl, wp_it, wp_range1, wp_range2, wp_bYes, gEq_str, gNe_str, gEq_int, gNe_int, gEq_bl, gNe_bl, gIs_bl, gIsNot_bl, gAdd_int, gSub_int, gC_int, gI_int, gAdd_str, gAdd_tup, gAdd_lst, gNeg_int, gIx_tup, gIx_lst, gLen_tup, gLen_lst, gLen_str, gInt_int, gInt_bl, gTuple_lst, gTuple_tup, gList_lst, gList_tup, gSl_tup, gSl_lst, gSl_fl, gSl_str, srcL_tup, srcL_lst, srcL_fl, srcL_str, srcR1_int, typN, startR, List.map_cons, List.map_nil, List.length_cons, List.length_nil, Nat.reduceAdd, Nat.reduceSub, Nat.zero_add, Nat.sub_self, Nat.sub_zero, List.replicate_zero, List.replicate_succ, List.cons_append, List.nil_append, List.append_nil, List.getElem?_cons_zero, List.getElem?_cons_succ, List.set_cons_zero, List.set_cons_succ, List.set_nil, List.getElem?_nil, Option.some.injEq, exists_eq_left', exists_eq_left, exists_eq_right, reduceCtorEq, false_and, and_false, true_and, and_true, exists_false, exists_const, wipeR, Nat.zero_le, String.reduceEq, D.int.injEq, D.str.injEq, D.bl.injEq, atI_0, atI_1, atI_2, atI_3, atI_4, beq_self_eq_true, not_true_eq_false, not_false_eq_true, Int.cast_ofNat_Int, Int.reduceEq, Int.reduceLE, Int.reduceLT, Int.reduceAdd, Int.reduceSub, Int.reduceMul, Int.reduceNeg, if_true, if_false, ite_true, ite_false, Bool.false_eq_true, if_neg, if_pos, decide_eq_true_eq, Bool.not_eq_true', decide_eq_false_iff_not, eq_self_iff_true, decide_true, decide_false, Bool.not_true, Bool.not_false, wps_raise, wps_try, wps_tryAs, tryCase_t, tryCase_f, tbl_hit, suiteOf_hit, wp_eDct, wp_eDGet, wp_eDNew, wp_eDDef, wps_dput]
          exact ⟨_, _, _, _, hr, .inl ⟨rfl, by simp [encR, DL.tr, D.lo, D.los] at gtr ⊢; exact gtr⟩, rfl⟩
        · obtain ⟨g1, g2⟩ := regAt_ok hrg ha
          obtain ⟨g3, g4⟩ := regAt_ok hrg hb
          have n1 : ¬ w' = Str.ofString "push" := by rintro rfl; revert hw'; decide +kernel
          have n2 : ¬ w' = Str.ofString "wrap" := by rintro rfl; revert hw'; decide +kernel
          have n3 : ¬ w' = Str.ofString "if" := by rintro rfl; revert hw'; decide +kernel
          simp only [n1, n2, n3, g2 iL, g4 iL, wp_ok, wp_ret, wp_stuck, wp_bad, wp_bnd, wp_if, wp_fif, wps_ok_nx, wps_ok_rt, wps_ok_bk, wps_ok_ct, wps_ok_xc, wps_bad, wps_lft, wps_seq, wps_nil, wps_ret, wps_expr, wps_asg, wps_if, wp_run, wps_for, wps_while, wp_comp, wp_var, wp_C, wp_bin, wp_un, wp_T, wp_Tb, wp_asBl, wp_truthBl, wp_bAnd, wp_bOr, wp_bNot, wp_eIf, wp_eAnd, wp_eOr, wp_eNot, blCase_bl, wp_chain, wp_aNil, wp_aCons, wp_tup, wp_lst, wp_lstM, wp_call, wp_cl1, wp_cl2, wp_cl3, wp_cl4, wp_cl5, wp_meth, wp_isi, wp_oNone, wp_oSome, wp_sl, wp_it, wp_range1, wp_range2, wp_bYes, gEq_str, gNe_str, gEq_int, gNe_int, gEq_bl, gNe_bl, gIs_bl, gIsNot_bl, gAdd_int, gSub_int, gC_int, gI_int, gAdd_str, gAdd_tup, gAdd_lst, gNeg_int, gIx_tup, gIx_lst, gLen_tup, gLen_lst, gLen_str, gInt_int, gInt_bl, gTuple_lst, gTuple_tup, gList_lst, gList_tup, gSl_tup, gSl_lst, gSl_fl, gSl_str, srcL_tup, srcL_lst, srcL_fl, srcL_str, srcR1_int, typN, startR, List.map_cons, List.map_nil, List.length_cons, List.length_nil, Nat.reduceAdd, Nat.reduceSub, Nat.zero_add, Nat.sub_self, Nat.sub_zero, List.replicate_zero, List.replicate_succ, List.cons_append, List.nil_append, List.append_nil, List.getElem?_cons_zero, List.getElem?_cons_succ, List.set_cons_zero, List.set_cons_succ, List.set_nil, List.getElem?_nil, Option.some.injEq, exists_eq_left', exists_eq_left, exists_eq_right, reduceCtorEq, false_and, and_false, true_and, and_true, exists_false, exists_const, wipeR, Nat.zero_le, String.reduceEq, D.int.injEq, D.str.injEq, D.bl.injEq, atI_0, atI_1, atI_2, atI_3, atI_4, beq_self_eq_true, not_true_eq_false, not_false_eq_true, Int.cast_ofNat_Int, Int.reduceEq, Int.reduceLE, Int.reduceLT, Int.reduceAdd, Int.reduceSub, Int.reduceMul, Int.reduceNeg, if_true, if_false, ite_true, ite_false, Bool.false_eq_true, if_neg, if_pos, decide_eq_true_eq, Bool.not_eq_true', decide_eq_false_iff_not, eq_self_iff_true, decide_true, decide_false, Bool.not_true, Bool.not_false, wps_raise, wps_try, wps_tryAs, tryCase_t, tryCase_f, tbl_hit, suiteOf_hit, wp_eDct, wp_eDGet, wp_eDNew, wp_eDDef, wps_dput]
          refine pair_ok (by decide) (by omega) hw' g1 g3 hS ?_
          have hr : made (told k') (.tup [.str w', a, b]) fs = (match pairOp w' (regAt fs a) (regAt fs b) with | some d => .some [d] | none => .non) := rfl
          cases hp : pairOp w' (regAt fs a) (regAt fs b) with
          | some d =>
            rw [hp] at hr
            have gd := (pairOp_good g1 g3 hp).tr
            simp only [sl, Nat.reduceLeDiff, wp_ok, wp_ret, wp_stuck, wp_bad, wp_bnd, wp_if, wp_fif, wps_ok_nx, wps_ok_rt, wps_ok_bk, wps_ok_ct, wps_ok_xc, wps_bad, wps_lft, wps_seq, wps_nil, wps_ret, wps_expr, wps_asg, wps_if, wp_run, wps_for, wps_while, wp_comp, wp_var, wp_C, wp_bin, wp_un, wp_T, wp_Tb, wp_asBl, wp_truthBl, wp_bAnd, wp_bOr, wp_bNot, wp_eIf, wp_eAnd, wp_eOr, wp_eNot, blCase_bl, wp_chain, wp_aNil, wp_aCons, wp_tup, wp_lst, wp_lstM, wp_call, wp_cl1, wp_cl2, wp_cl3, wp_cl4, wp_cl5, wp_meth, wp_isi, wp_oNone, wp_oSome, wp_sl, wp_it, wp_range1, wp_range2, wp_bYes, gEq_str, gNe_str, gEq_int, gNe_int, gEq_bl, gNe_bl, gIs_bl, gIsNot_bl, gAdd_int, gSub_int, gC_int, gI_int, gAdd_str, gAdd_tup, gAdd_lst, gNeg_int, gIx_tup, gIx_lst, gLen_tup, gLen_lst, gLen_str, gInt_int, gInt_bl, gTuple_lst, gTuple_tup, gList_lst, gList_tup, gSl_tup, gSl_lst, gSl_fl, gSl_str, srcL_tup, srcL_lst, srcL_fl, srcL_str, srcR1_int, typN, startR, List.map_cons, List.map_nil, List.length_cons, List.length_nil, Nat.reduceAdd, Nat.reduceSub, Nat.zero_add, Nat.sub_self, Nat.sub_zero, List.replicate_zero, List.replicate_succ, List.cons_append, List.nil_append, List.append_nil, List.getElem?_cons_zero, List.getElem?_cons_succ, List.set_cons_zero, List.set_cons_succ, List.set_nil, List.getElem?_nil, Option.some.injEq, exists_eq_left', exists_eq_left, exists_eq_right, reduceCtorEq, false_and, and_false, true_and, and_true, exists_false, exists_const, wipeR, Nat.zero_le, String.reduceEq, D.int.injEq, D.str.injEq, D.bl.injEq, atI_0, atI_1, atI_2, atI_3, atI_4, beq_self_eq_true, not_true_eq_false, not_false_eq_true, Int.cast_ofNat_Int, Int.reduceEq, Int.reduceLE, Int.reduceLT, Int.reduceAdd, Int.reduceSub, Int.reduceMul, Int.reduceNeg, if_true, if_false, ite_true, ite_false, Bool.false_eq_true, if_neg, if_pos, decide_eq_true_eq, Bool.not_eq_true', decide_eq_false_iff_not, eq_self_iff_true, decide_true, decide_false, Bool.not_true, Bool.not_false, wps_raise, wps_try, wps_tryAs, tryCase_t, tryCase_f, tbl_hit, suiteOf_hit, wp_eDct, wp_eDGet, wp_eDNew, wp_eDDef, wps_dput]
            exact ⟨_, _, _, _, hr, .inl ⟨rfl, trs fun d hd => by rw [List.mem_singleton.mp hd]; exact gd⟩, rfl⟩
          | none =>
            rw [hp] at hr
            simp only [sl, Nat.reduceLeDiff, wp_ok, wp_ret, wp_stuck, wp_bad, wp_bnd, wp_if, wp_fif, wps_ok_nx, wps_ok_rt, wps_ok_bk, wps_ok_ct, wps_ok_xc, wps_bad, wps_lft, wps_seq, wps_nil, wps_ret, wps_expr, wps_asg, wps_if, wp_run, wps_for, wps_while, wp_comp, wp_var, wp_C, wp_bin, wp_un, wp_T, wp_Tb, wp_asBl, wp_truthBl, wp_bAnd, wp_bOr, wp_bNot, wp_eIf, wp_eAnd, wp_eOr, wp_eNot, blCase_bl, wp_chain, wp_aNil, wp_aCons, wp_tup, wp_lst, wp_lstM, wp_call, wp_cl1, wp_cl2, wp_cl3, wp_cl4, wp_cl5, wp_meth, wp_isi, wp_oNone, wp_oSome, wp_sl, wp_it, wp_range1, wp_range2, wp_bYes, gEq_str, gNe_str, gEq_int, gNe_int, gEq_bl, gNe_bl, gIs_bl, gIsNot_bl, gAdd_int, gSub_int, gC_int, gI_int, gAdd_str, gAdd_tup, gAdd_lst, gNeg_int, gIx_tup, gIx_lst, gLen_tup, gLen_lst, gLen_str, gInt_int, gInt_bl, gTuple_lst, gTuple_tup, gList_lst, gList_tup, gSl_tup, gSl_lst, gSl_fl, gSl_str, srcL_tup, srcL_lst, srcL_fl, srcL_str, srcR1_int, typN, startR, List.map_cons, List.map_nil, List.length_cons, List.length_nil, Nat.reduceAdd, Nat.reduceSub, Nat.zero_add, Nat.sub_self, Nat.sub_zero, List.replicate_zero, List.replicate_succ, List.cons_append, List.nil_append, List.append_nil, List.getElem?_cons_zero, List.getElem?_cons_succ, List.set_cons_zero, List.set_cons_succ, List.set_nil, List.getElem?_nil, Option.some.injEq, exists_eq_left', exists_eq_left, exists_eq_right, reduceCtorEq, false_and, and_false, true_and, and_true, exists_false, exists_const, wipeR, Nat.zero_le, String.reduceEq, D.int.injEq, D.str.injEq, D.bl.injEq, atI_0, atI_1, atI_2, atI_3, atI_4, beq_self_eq_true, not_true_eq_false, not_false_eq_true, Int.cast_ofNat_Int, Int.reduceEq, Int.reduceLE, Int.reduceLT, Int.reduceAdd, Int.reduceSub, Int.reduceMul, Int.reduceNeg, if_true, if_false, ite_true, ite_false, Bool.false_eq_true, if_neg, if_pos, decide_eq_true_eq, Bool.not_eq_true', decide_eq_false_iff_not, eq_self_iff_true, decide_true, decide_false, Bool.not_true, Bool.not_false, wps_raise, wps_try, wps_tryAs, tryCase_t, tryCase_f, tbl_hit, suiteOf_hit, wp_eDct, wp_eDGet, wp_eDNew, wp_eDDef, wps_dput]
            exact ⟨_, _, _, _, hr, .inr ⟨rfl, rfl⟩, rfl⟩
        · obtain ⟨g7, g8⟩ := regAt_ok hrg g1
          have hr : made (told k') (.tup [.str "if", one, .tup args, s, o]) fs = (match numOf (regAt fs one) with | some i => told k' (if i = 0 then o else s) (args.map (regAt fs)) | none => .non) := rfl
          have hargs : RegOk (args.map (regAt fs)) := fun d hd => by
            obtain ⟨a, ha, rfl⟩ := List.mem_map.mp hd
            exact (regAt_ok hrg (g2 a ha)).1
          rcases g7.shape with ⟨i', e0, i0, i1, _, _, e1⟩ | ⟨xs, e0, _, _, _, e1⟩ | ⟨xs, e0, _, _, _, e1⟩
          · rw [e1] at hr
            simp only [ofString_inj, g8 iL, e0, wp_ok, wp_ret, wp_stuck, wp_bad, wp_bnd, wp_if, wp_fif, wps_ok_nx, wps_ok_rt, wps_ok_bk, wps_ok_ct, wps_ok_xc, wps_bad, wps_lft, wps_seq, wps_nil, wps_ret, wps_expr, wps_asg, wps_if, wp_run, wps_for, wps_while, wp_comp, wp_var, wp_C, wp_bin, wp_un, wp_T, wp_Tb, wp_asBl, wp_truthBl, wp_bAnd, wp_bOr, wp_bNot, wp_eIf, wp_eAnd, wp_eOr, wp_eNot, blCase_bl, wp_chain, wp_aNil, wp_aCons, wp_tup, wp_lst, wp_lstM, wp_call, wp_cl1, wp_cl2, wp_cl3, wp_cl4, wp_cl5, wp_meth, wp_isi, wp_oNone, wp_oSome, wp_sl, wp_it, wp_range1, wp_range2, wp_bYes, gEq_str, gNe_str, gEq_int, gNe_int, gEq_bl, gNe_bl, gIs_bl, gIsNot_bl, gAdd_int, gSub_int, gC_int, gI_int, gAdd_str, gAdd_tup, gAdd_lst, gNeg_int, gIx_tup, gIx_lst, gLen_tup, gLen_lst, gLen_str, gInt_int, gInt_bl, gTuple_lst, gTuple_tup, gList_lst, gList_tup, gSl_tup, gSl_lst, gSl_fl, gSl_str, srcL_tup, srcL_lst, srcL_fl, srcL_str, srcR1_int, typN, startR, List.map_cons, List.map_nil, List.length_cons, List.length_nil, Nat.reduceAdd, Nat.reduceSub, Nat.zero_add, Nat.sub_self, Nat.sub_zero, List.replicate_zero, List.replicate_succ, List.cons_append, List.nil_append, List.append_nil, List.getElem?_cons_zero, List.getElem?_cons_succ, List.set_cons_zero, List.set_cons_succ, List.set_nil, List.getElem?_nil, Option.some.injEq, exists_eq_left', exists_eq_left, exists_eq_right, reduceCtorEq, false_and, and_false, true_and, and_true, exists_false, exists_const, wipeR, Nat.zero_le, String.reduceEq, D.int.injEq, D.str.injEq, D.bl.injEq, atI_0, atI_1, atI_2, atI_3, atI_4, beq_self_eq_true, not_true_eq_false, not_false_eq_true, Int.cast_ofNat_Int, Int.reduceEq, Int.reduceLE, Int.reduceLT, Int.reduceAdd, Int.reduceSub, Int.reduceMul, Int.reduceNeg, if_true, if_false, ite_true, ite_false, Bool.false_eq_true, if_neg, if_pos, decide_eq_true_eq, Bool.not_eq_true', decide_eq_false_iff_not, eq_self_iff_true, decide_true, decide_false, Bool.not_true, Bool.not_false, wps_raise, wps_try, wps_tryAs, tryCase_t, tryCase_f, tbl_hit, suiteOf_hit, wp_eDct, wp_eDGet, wp_eDNew, wp_eDDef, wps_dput]
            have htr : tr (encR (made (told k') (.tup [.str "if", one, .tup args, s, o]) fs)) := by
              cases hm2 : made (told k') (.tup [.str "if", one, .tup args, s, o]) fs with
              | non => rfl
              | great => rfl
              | some ms => exact trs fun d hd => ((made_good (CG := CodeG k') (told_good k') (.inr (.inr (.inr ⟨one, args, s, o, rfl, g1, g2, g3, g4, g5, g6⟩))) hrg hm2).2 d hd).tr
            have fin2 : ∀ c, CodeG k' args.length m c → told k' c (args.map (regAt fs)) = made (told k') (.tup [.str "if", one, .tup args, s, o]) fs → wp (compM none args (gN 5) bYes (eBin gIx (eVar 2) (eVar 5)) [some (.tup [.int t, .tup ops, .tup outs]), some (.lst ts), some (.lst fs), some (.tup [.str "if", one, .tup args, s, o]), o2, none, o4] args S')
                (fun ys S'' => wp (den fu N' i_l_told [c, .lst ys] S'') (fun d S'_1 => ∃ (r : Rs) (x : D) (o5 o6 : Option D), S'_1 = S' ∧ made (told k') (.tup [.str "if", one, .tup args, s, o]) fs = r ∧ ((x = encR r ∧ tr x) ∨ (x = .lst [.non] ∧ r = .non)) ∧ [some (.tup [.int t, .tup ops, .tup outs]), some (.lst ts), some (.lst fs), some (.tup [.str "if", one, .tup args, s, o]), some d, o3, o4] = [some (.tup [.int t, .tup ops, .tup outs]), some (.lst ts), some (.lst fs), some (.tup [.str "if", one, .tup args, s, o]), some x, o5, o6]) (fun e S' => E e S')) nx := fun c hc he => by
              refine comp_regs (fun d => rfl) (fun d => rfl) rfl hrg g2 ?_
              refine ih _ _ _ _ N' _ _ _ hc hargs (by rw [List.length_map]; omega) (by omega) hS ?_
              rw [he]
              exact ⟨_, _, _, _, rfl, rfl, .inl ⟨rfl, htr⟩, rfl⟩
            by_cases hz : i' = 0
            · rw [if_pos hz]
              exact ⟨o, rfl, small_line (by omega), fin2 o g6 (by rw [hr]; simp only [hz, if_true])⟩
            · rw [if_neg hz]
              exact ⟨s, rfl, small_line (by omega), fin2 s g5 (by rw [hr]; simp only [hz, if_false])⟩
          · rw [e1] at hr
            simp only [ofString_inj, g8 iL, e0, wp_ok, wp_ret, wp_stuck, wp_bad, wp_bnd, wp_if, wp_fif, wps_ok_nx, wps_ok_rt, wps_ok_bk, wps_ok_ct, wps_ok_xc, wps_bad, wps_lft, wps_seq, wps_nil, wps_ret, wps_expr, wps_asg, wps_if, wp_run, wps_for, wps_while, wp_comp, wp_var, wp_C, wp_bin, wp_un, wp_T, wp_Tb, wp_asBl, wp_truthBl, wp_bAnd, wp_bOr, wp_bNot, wp_eIf, wp_eAnd, wp_eOr, wp_eNot, blCase_bl, wp_chain, wp_aNil, wp_aCons, wp_tup, wp_lst, wp_lstM, wp_call, wp_cl1, wp_cl2, wp_cl3, wp_cl4, wp_cl5, wp_meth, wp_isi, wp_oNone, wp_oSome, wp_sl, wp_it, wp_range1, wp_range2, wp_bYes, gEq_str, gNe_str, gEq_int, gNe_int, gEq_bl, gNe_bl, gIs_bl, gIsNot_bl, gAdd_int, gSub_int, gC_int, gI_int, gAdd_str, gAdd_tup, gAdd_lst, gNeg_int, gIx_tup, gIx_lst, gLen_tup, gLen_lst, gLen_str, gInt_int, gInt_bl, gTuple_lst, gTuple_tup, gList_lst, gList_tup, gSl_tup, gSl_lst, gSl_fl, gSl_str, srcL_tup, srcL_lst, srcL_fl, srcL_str, srcR1_int, typN, startR, List.map_cons, List.map_nil, List.length_cons, List.length_nil, Nat.reduceAdd, Nat.reduceSub, Nat.zero_add, Nat.sub_self, Nat.sub_zero, List.replicate_zero, List.replicate_succ, List.cons_append, List.nil_append, List.append_nil, List.getElem?_cons_zero, List.getElem?_cons_succ, List.set_cons_zero, List.set_cons_succ, List.set_nil, List.getElem?_nil, Option.some.injEq, exists_eq_left', exists_eq_left, exists_eq_right, reduceCtorEq, false_and, and_false, true_and, and_true, exists_false, exists_const, wipeR, Nat.zero_le, String.reduceEq, D.int.injEq, D.str.injEq, D.bl.injEq, atI_0, atI_1, atI_2, atI_3, atI_4, beq_self_eq_true, not_true_eq_false, not_false_eq_true, Int.cast_ofNat_Int, Int.reduceEq, Int.reduceLE, Int.reduceLT, Int.reduceAdd, Int.reduceSub, Int.reduceMul, Int.reduceNeg, if_true, if_false, ite_true, ite_false, Bool.false_eq_true, if_neg, if_pos, decide_eq_true_eq, Bool.not_eq_true', decide_eq_false_iff_not, eq_self_iff_true, decide_true, decide_false, Bool.not_true, Bool.not_false, wps_raise, wps_try, wps_tryAs, tryCase_t, tryCase_f, tbl_hit, suiteOf_hit, wp_eDct, wp_eDGet, wp_eDNew, wp_eDDef, wps_dput]
            have := fin .non (by rw [htold, hop, show opsR (told k') (.tup [.str "if", one, .tup args, s, o] :: ops.drop (i + 1)) fs = thenR (made (told k') (.tup [.str "if", one, .tup args, s, o]) fs) (fun ms => if ms.any big = true then .great else opsR (told k') (ops.drop (i + 1)) (fs ++ ms)) from rfl, hr]; rfl) rfl
            exact this
          · rw [e1] at hr
            simp only [ofString_inj, g8 iL, e0, wp_ok, wp_ret, wp_stuck, wp_bad, wp_bnd, wp_if, wp_fif, wps_ok_nx, wps_ok_rt, wps_ok_bk, wps_ok_ct, wps_ok_xc, wps_bad, wps_lft, wps_seq, wps_nil, wps_ret, wps_expr, wps_asg, wps_if, wp_run, wps_for, wps_while, wp_comp, wp_var, wp_C, wp_bin, wp_un, wp_T, wp_Tb, wp_asBl, wp_truthBl, wp_bAnd, wp_bOr, wp_bNot, wp_eIf, wp_eAnd, wp_eOr, wp_eNot, blCase_bl, wp_chain, wp_aNil, wp_aCons, wp_tup, wp_lst, wp_lstM, wp_call, wp_cl1, wp_cl2, wp_cl3, wp_cl4, wp_cl5, wp_meth, wp_isi, wp_oNone, wp_oSome, wp_sl, wp_it, wp_range1, wp_range2, wp_bYes, gEq_str, gNe_str, gEq_int, gNe_int, gEq_bl, gNe_bl, gIs_bl, gIsNot_bl, gAdd_int, gSub_int, gC_int, gI_int, gAdd_str, gAdd_tup, gAdd_lst, gNeg_int, gIx_tup, gIx_lst, gLen_tup, gLen_lst, gLen_str, gInt_int, gInt_bl, gTuple_lst, gTuple_tup, gList_lst, gList_tup, gSl_tup, gSl_lst, gSl_fl, gSl_str, srcL_tup, srcL_lst, srcL_fl, srcL_str, srcR1_int, typN, startR, List.map_cons, List.map_nil, List.length_cons, List.length_nil, Nat.reduceAdd, Nat.reduceSub, Nat.zero_add, Nat.sub_self, Nat.sub_zero, List.replicate_zero, List.replicate_succ, List.cons_append, List.nil_append, List.append_nil, List.getElem?_cons_zero, List.getElem?_cons_succ, List.set_cons_zero, List.set_cons_succ, List.set_nil, List.getElem?_nil, Option.some.injEq, exists_eq_left', exists_eq_left, exists_eq_right, reduceCtorEq, false_and, and_false, true_and, and_true, exists_false, exists_const, wipeR, Nat.zero_le, String.reduceEq, D.int.injEq, D.str.injEq, D.bl.injEq, atI_0, atI_1, atI_2, atI_3, atI_4, beq_self_eq_true, not_true_eq_false, not_false_eq_true, Int.cast_ofNat_Int, Int.reduceEq, Int.reduceLE, Int.reduceLT, Int.reduceAdd, Int.reduceSub, Int.reduceMul, Int.reduceNeg, if_true, if_false, ite_true, ite_false, Bool.false_eq_true, if_neg, if_pos, decide_eq_true_eq, Bool.not_eq_true', decide_eq_false_iff_not, eq_self_iff_true, decide_true, decide_false, Bool.not_true, Bool.not_false, wps_raise, wps_try, wps_tryAs, tryCase_t, tryCase_f, tbl_hit, suiteOf_hit, wp_eDct, wp_eDGet, wp_eDNew, wp_eDDef, wps_dput]
            have := fin .non (by rw [htold, hop, show opsR (told k') (.tup [.str "if", one, .tup args, s, o] :: ops.drop (i + 1)) fs = thenR (made (told k') (.tup [.str "if", one, .tup args, s, o]) fs) (fun ms => if ms.any big = true then .great else opsR (told k') (ops.drop (i + 1)) (fs ++ ms)) from rfl, hr]; rfl) rfl
            exact this
      · rintro ρ S' ⟨rfl, fs, o1, o2, o3, o4, rfl, hop, hog, hrg⟩
        rw [List.drop_length] at hop hog
        have hfe : e = fs.length := hog
        have h9 := OpsG.le h2
        simp only [srcL_tup, wp_ok, wp_ret, wp_stuck, wp_bad, wp_bnd, wp_if, wp_fif, wps_ok_nx, wps_ok_rt, wps_ok_bk, wps_ok_ct, wps_ok_xc, wps_bad, wps_lft, wps_seq, wps_nil, wps_ret, wps_expr, wps_asg, wps_if, wp_run, wps_for, wps_while, wp_comp, wp_var, wp_C, wp_bin, wp_un, wp_T, wp_Tb, wp_asBl, wp_truthBl, wp_bAnd, wp_bOr, wp_bNot, wp_eIf, wp_eAnd, wp_eOr, wp_eNot, blCase_bl, wp_chain, wp_aNil, wp_aCons, wp_tup, wp_lst, wp_lstM, wp_call, wp_cl1, wp_cl2, wp_cl3, wp_cl4, wp_cl5, wp_meth, wp_isi, wp_oNone, wp_oSome, wp_sl, wp_it, wp_range1, wp_range2, wp_bYes, gEq_str, gNe_str, gEq_int, gNe_int, gEq_bl, gNe_bl, gIs_bl, gIsNot_bl, gAdd_int, gSub_int, gC_int, gI_int, gAdd_str, gAdd_tup, gAdd_lst, gNeg_int, gIx_tup, gIx_lst, gLen_tup, gLen_lst, gLen_str, gInt_int, gInt_bl, gTuple_lst, gTuple_tup, gList_lst, gList_tup, gSl_tup, gSl_lst, gSl_fl, gSl_str, srcL_tup, srcL_lst, srcL_fl, srcL_str, srcR1_int, typN, startR, List.map_cons, List.map_nil, List.length_cons, List.length_nil, Nat.reduceAdd, Nat.reduceSub, Nat.zero_add, Nat.sub_self, Nat.sub_zero, List.replicate_zero, List.replicate_succ, List.cons_append, List.nil_append, List.append_nil, List.getElem?_cons_zero, List.getElem?_cons_succ, List.set_cons_zero, List.set_cons_succ, List.set_nil, List.getElem?_nil, Option.some.injEq, exists_eq_left', exists_eq_left, exists_eq_right, reduceCtorEq, false_and, and_false, true_and, and_true, exists_false, exists_const, wipeR, Nat.zero_le, String.reduceEq, D.int.injEq, D.str.injEq, D.bl.injEq, atI_0, atI_1, atI_2, atI_3, atI_4, beq_self_eq_true, not_true_eq_false, not_false_eq_true, Int.cast_ofNat_Int, Int.reduceEq, Int.reduceLE, Int.reduceLT, Int.reduceAdd, Int.reduceSub, Int.reduceMul, Int.reduceNeg, if_true, if_false, ite_true, ite_false, Bool.false_eq_true, if_neg, if_pos, decide_eq_true_eq, Bool.not_eq_true', decide_eq_false_iff_not, eq_self_iff_true, decide_true, decide_false, Bool.not_true, Bool.not_false, wps_raise, wps_try, wps_tryAs, tryCase_t, tryCase_f, tbl_hit, suiteOf_hit, wp_eDct, wp_eDGet, wp_eDNew, wp_eDDef, wps_dput]
        refine ⟨small_line (by omega), comp_regs (fun d => rfl) (fun d => rfl) rfl hrg (fun a ha => by rw [← hfe]; exact h3 a ha) ?_⟩
        have := fin (.some (outs.map (regAt fs))) (by rw [htold, hop]; rfl) (trs fun d hd => by
          obtain ⟨a, ha, rfl⟩ := List.mem_map.mp hd
          exact (regAt_ok hrg (by rw [← hfe]; exact h3 a ha)).1.tr)
        exact this
    · have := fin .non (by simp only [told, hl, if_false]) rfl
      simp only [hl, encR, wp_ok, wp_ret, wp_stuck, wp_bad, wp_bnd, wp_if, wp_fif, wps_ok_nx, wps_ok_rt, wps_ok_bk, wps_ok_ct, wps_ok_xc, wps_bad, wps_lft, wps_seq, wps_nil, wps_ret, wps_expr, wps_asg, wps_if, wp_run, wps_for, wps_while, wp_comp, wp_var, wp_C, wp_bin, wp_un, wp_T, wp_Tb, wp_asBl, wp_truthBl, wp_bAnd, wp_bOr, wp_bNot, wp_eIf, wp_eAnd, wp_eOr, wp_eNot, blCase_bl, wp_chain, wp_aNil, wp_aCons, wp_tup, wp_lst, wp_lstM, wp_call, wp_cl1, wp_cl2, wp_cl3, wp_cl4, wp_cl5, wp_meth, wp_isi, wp_oNone, wp_oSome, wp_sl, wp_it, wp_range1, wp_range2, wp_bYes, gEq_str, gNe_str, gEq_int, gNe_int, gEq_bl, gNe_bl, gIs_bl, gIsNot_bl, gAdd_int, gSub_int, gC_int, gI_int, gAdd_str, gAdd_tup, gAdd_lst, gNeg_int, gIx_tup, gIx_lst, gLen_tup, gLen_lst, gLen_str, gInt_int, gInt_bl, gTuple_lst, gTuple_tup, gList_lst, gList_tup, gSl_tup, gSl_lst, gSl_fl, gSl_str, srcL_tup, srcL_lst, srcL_fl, srcL_str, srcR1_int, typN, startR, List.map_cons, List.map_nil, List.length_cons, List.length_nil, Nat.reduceAdd, Nat.reduceSub, Nat.zero_add, Nat.sub_self, Nat.sub_zero, List.replicate_zero, List.replicate_succ, List.cons_append, List.nil_append, List.append_nil, List.getElem?_cons_zero, List.getElem?_cons_succ, List.set_cons_zero, List.set_cons_succ, List.set_nil, List.getElem?_nil, Option.some.injEq, exists_eq_left', exists_eq_left, exists_eq_right, reduceCtorEq, false_and, and_false, true_and, and_true, exists_false, exists_const, wipeR, Nat.zero_le, String.reduceEq, D.int.injEq, D.str.injEq, D.bl.injEq, atI_0, atI_1, atI_2, atI_3, atI_4, beq_self_eq_true, not_true_eq_false, not_false_eq_true, Int.cast_ofNat_Int, Int.reduceEq, Int.reduceLE, Int.reduceLT, Int.reduceAdd, Int.reduceSub, Int.reduceMul, Int.reduceNeg, if_true, if_false, ite_true, ite_false, Bool.false_eq_true, if_neg, if_pos, decide_eq_true_eq, Bool.not_eq_true', decide_eq_false_iff_not, eq_self_iff_true, decide_true, decide_false, Bool.not_true, Bool.not_false, wps_raise, wps_try, wps_tryAs, tryCase_t, tryCase_f, tbl_hit, suiteOf_hit, wp_eDct, wp_eDGet, wp_eDNew, wp_eDDef, wps_dput] at this ⊢
      exact this
end K64

namespace K64
open PySem L2 DL
variable {fu n k : Nat} {S S0 : Sto} {F : D → Sto → Prop} {E : Exc → Sto → Prop}
/-! the program's walk through a code -/
theorem gExtend_lst {n : Nat} {ds es : List D} (h : atL S n = some ds) : wp (gExtend (.ref n) [.lst es] S) F E ↔ ds.length + es.length ≤ sizeLine ∧ F .non (S.set n (.lst (ds ++ es))) := by
  unfold gExtend
  simp only [h, show iTrk S (.lst es) = some es from rfl]
  by_cases hl : ds.length + es.length ≤ sizeLine
  · rw [if_pos hl]; exact ⟨fun q => ⟨hl, q⟩, fun q => q.2⟩
  · rw [if_neg hl]; exact ⟨fun q => q.elim, fun q => absurd q.1 hl⟩
theorem gListM_seq {x : D} {ds : List D} : wp (gListM [.tup ds] S) F E ↔ F (.ref S.length) (S ++ [.lst ds]) := Iff.rfl
theorem at_end {m : List D} : atL (S ++ [.lst m]) S.length = some m := by unfold atL; simp
theorem set_end {m m' : MO} : (S ++ [m]).set S.length m' = S ++ [m'] := by simp
theorem take_end {m : MO} : (S ++ [m]).take S.length = S := by simp
theorem is_set_ok {B j N : Nat} {a : D} (hN : 1 ≤ N) (ha : ThB B j a) (hS : WF S) (h1 : ∀ i, numOf a = some i → F (.bl (decide (i ≠ 0))) S) (h2 : numOf a = none → E noStep S) : wp (den fu N i_is_set [a] S) F E := by
  obtain ⟨m, rfl⟩ : ∃ m, N = m + 1 := ⟨N - 1, by omega⟩
  show wp (runDef false 1 (b_is_set fu (den fu m)) _ _) _ _
  rcases ha.shape with ⟨i, rfl, i0, i1, _, _, e⟩ | ⟨xs, rfl, _, _, _, e⟩ | ⟨xs, rfl, _, _, _, e⟩
  · simp only [b_is_set, ofString_inj, fin_bl hS, wp_ok, wp_ret, wp_stuck, wp_bad, wp_bnd, wp_if, wp_fif, wps_ok_nx, wps_ok_rt, wps_ok_bk, wps_ok_ct, wps_ok_xc, wps_bad, wps_lft, wps_seq, wps_nil, wps_ret, wps_expr, wps_asg, wps_if, wp_run, wps_for, wps_while, wp_comp, wp_var, wp_C, wp_bin, wp_un, wp_T, wp_Tb, wp_asBl, wp_truthBl, wp_bAnd, wp_bOr, wp_bNot, wp_eIf, wp_eAnd, wp_eOr, wp_eNot, blCase_bl, wp_chain, wp_aNil, wp_aCons, wp_tup, wp_lst, wp_lstM, wp_call, wp_cl1, wp_cl2, wp_cl3, wp_cl4, wp_cl5, wp_meth, wp_isi, wp_oNone, wp_oSome, wp_sl, wp_it, wp_range1, wp_range2, wp_bYes, gEq_str, gNe_str, gEq_int, gNe_int, gEq_bl, gNe_bl, gIs_bl, gIsNot_bl, gAdd_int, gSub_int, gC_int, gI_int, gAdd_str, gAdd_tup, gAdd_lst, gNeg_int, gIx_tup, gIx_lst, gLen_tup, gLen_lst, gLen_str, gInt_int, gInt_bl, gTuple_lst, gTuple_tup, gList_lst, gList_tup, gSl_tup, gSl_lst, gSl_fl, gSl_str, srcL_tup, srcL_lst, srcL_fl, srcL_str, srcR1_int, typN, startR, List.map_cons, List.map_nil, List.length_cons, List.length_nil, Nat.reduceAdd, Nat.reduceSub, Nat.zero_add, Nat.sub_self, Nat.sub_zero, List.replicate_zero, List.replicate_succ, List.cons_append, List.nil_append, List.append_nil, List.getElem?_cons_zero, List.getElem?_cons_succ, List.set_cons_zero, List.set_cons_succ, List.set_nil, List.getElem?_nil, Option.some.injEq, exists_eq_left', exists_eq_left, exists_eq_right, reduceCtorEq, false_and, and_false, true_and, and_true, exists_false, exists_const, wipeR, Nat.zero_le, String.reduceEq, D.int.injEq, D.str.injEq, D.bl.injEq, atI_0, atI_1, atI_2, atI_3, atI_4, beq_self_eq_true, not_true_eq_false, not_false_eq_true, Int.cast_ofNat_Int, Int.reduceEq, Int.reduceLE, Int.reduceLT, Int.reduceAdd, Int.reduceSub, Int.reduceMul, Int.reduceNeg, if_true, if_false, ite_true, ite_false, Bool.false_eq_true, if_neg, if_pos, decide_eq_true_eq, Bool.not_eq_true', decide_eq_false_iff_not, eq_self_iff_true, decide_true, decide_false, Bool.not_true, Bool.not_false, wps_raise, wps_try, wps_tryAs, tryCase_t, tryCase_f, tbl_hit, suiteOf_hit, wp_eDct, wp_eDGet, wp_eDNew, wp_eDDef, wps_dput]
    have := h1 i e
    simpa using this
  · simp only [b_is_set, ofString_inj, wp_ok, wp_ret, wp_stuck, wp_bad, wp_bnd, wp_if, wp_fif, wps_ok_nx, wps_ok_rt, wps_ok_bk, wps_ok_ct, wps_ok_xc, wps_bad, wps_lft, wps_seq, wps_nil, wps_ret, wps_expr, wps_asg, wps_if, wp_run, wps_for, wps_while, wp_comp, wp_var, wp_C, wp_bin, wp_un, wp_T, wp_Tb, wp_asBl, wp_truthBl, wp_bAnd, wp_bOr, wp_bNot, wp_eIf, wp_eAnd, wp_eOr, wp_eNot, blCase_bl, wp_chain, wp_aNil, wp_aCons, wp_tup, wp_lst, wp_lstM, wp_call, wp_cl1, wp_cl2, wp_cl3, wp_cl4, wp_cl5, wp_meth, wp_isi, wp_oNone, wp_oSome, wp_sl, wp_it, wp_range1, wp_range2, wp_bYes, gEq_str, gNe_str, gEq_int, gNe_int, gEq_bl, gNe_bl, gIs_bl, gIsNot_bl, gAdd_int, gSub_int, gC_int, gI_int, gAdd_str, gAdd_tup, gAdd_lst, gNeg_int, gIx_tup, gIx_lst, gLen_tup, gLen_lst, gLen_str, gInt_int, gInt_bl, gTuple_lst, gTuple_tup, gList_lst, gList_tup, gSl_tup, gSl_lst, gSl_fl, gSl_str, srcL_tup, srcL_lst, srcL_fl, srcL_str, srcR1_int, typN, startR, List.map_cons, List.map_nil, List.length_cons, List.length_nil, Nat.reduceAdd, Nat.reduceSub, Nat.zero_add, Nat.sub_self, Nat.sub_zero, List.replicate_zero, List.replicate_succ, List.cons_append, List.nil_append, List.append_nil, List.getElem?_cons_zero, List.getElem?_cons_succ, List.set_cons_zero, List.set_cons_succ, List.set_nil, List.getElem?_nil, Option.some.injEq, exists_eq_left', exists_eq_left, exists_eq_right, reduceCtorEq, false_and, and_false, true_and, and_true, exists_false, exists_const, wipeR, Nat.zero_le, String.reduceEq, D.int.injEq, D.str.injEq, D.bl.injEq, atI_0, atI_1, atI_2, atI_3, atI_4, beq_self_eq_true, not_true_eq_false, not_false_eq_true, Int.cast_ofNat_Int, Int.reduceEq, Int.reduceLE, Int.reduceLT, Int.reduceAdd, Int.reduceSub, Int.reduceMul, Int.reduceNeg, if_true, if_false, ite_true, ite_false, Bool.false_eq_true, if_neg, if_pos, decide_eq_true_eq, Bool.not_eq_true', decide_eq_false_iff_not, eq_self_iff_true, decide_true, decide_false, Bool.not_true, Bool.not_false, wps_raise, wps_try, wps_tryAs, tryCase_t, tryCase_f, tbl_hit, suiteOf_hit, wp_eDct, wp_eDGet, wp_eDNew, wp_eDDef, wps_dput]
    exact h2 e
  · simp only [b_is_set, ofString_inj, wp_ok, wp_ret, wp_stuck, wp_bad, wp_bnd, wp_if, wp_fif, wps_ok_nx, wps_ok_rt, wps_ok_bk, wps_ok_ct, wps_ok_xc, wps_bad, wps_lft, wps_seq, wps_nil, wps_ret, wps_expr, wps_asg, wps_if, wp_run, wps_for, wps_while, wp_comp, wp_var, wp_C, wp_bin, wp_un, wp_T, wp_Tb, wp_asBl, wp_truthBl, wp_bAnd, wp_bOr, wp_bNot, wp_eIf, wp_eAnd, wp_eOr, wp_eNot, blCase_bl, wp_chain, wp_aNil, wp_aCons, wp_tup, wp_lst, wp_lstM, wp_call, wp_cl1, wp_cl2, wp_cl3, wp_cl4, wp_cl5, wp_meth, wp_isi, wp_oNone, wp_oSome, wp_sl, wp_it, wp_range1, wp_range2, wp_bYes, gEq_str, gNe_str, gEq_int, gNe_int, gEq_bl, gNe_bl, gIs_bl, gIsNot_bl, gAdd_int, gSub_int, gC_int, gI_int, gAdd_str, gAdd_tup, gAdd_lst, gNeg_int, gIx_tup, gIx_lst, gLen_tup, gLen_lst, gLen_str, gInt_int, gInt_bl, gTuple_lst, gTuple_tup, gList_lst, gList_tup, gSl_tup, gSl_lst, gSl_fl, gSl_str, srcL_tup, srcL_lst, srcL_fl, srcL_str, srcR1_int, typN, startR, List.map_cons, List.map_nil, List.length_cons, List.length_nil, Nat.reduceAdd, Nat.reduceSub, Nat.zero_add, Nat.sub_self, Nat.sub_zero, List.replicate_zero, List.replicate_succ, List.cons_append, List.nil_append, List.append_nil, List.getElem?_cons_zero, List.getElem?_cons_succ, List.set_cons_zero, List.set_cons_succ, List.set_nil, List.getElem?_nil, Option.some.injEq, exists_eq_left', exists_eq_left, exists_eq_right, reduceCtorEq, false_and, and_false, true_and, and_true, exists_false, exists_const, wipeR, Nat.zero_le, String.reduceEq, D.int.injEq, D.str.injEq, D.bl.injEq, atI_0, atI_1, atI_2, atI_3, atI_4, beq_self_eq_true, not_true_eq_false, not_false_eq_true, Int.cast_ofNat_Int, Int.reduceEq, Int.reduceLE, Int.reduceLT, Int.reduceAdd, Int.reduceSub, Int.reduceMul, Int.reduceNeg, if_true, if_false, ite_true, ite_false, Bool.false_eq_true, if_neg, if_pos, decide_eq_true_eq, Bool.not_eq_true', decide_eq_false_iff_not, eq_self_iff_true, decide_true, decide_false, Bool.not_true, Bool.not_false, wps_raise, wps_try, wps_tryAs, tryCase_t, tryCase_f, tbl_hit, suiteOf_hit, wp_eDct, wp_eDGet, wp_eDNew, wp_eDDef, wps_dput]
    exact h2 e
theorem cutW {x a : D} : cutD [x, a] (some 1) none = [a] := rfl
theorem cutP {x a b : D} : cutD [x, a, b] (some 1) none = [a, b] := rfl
theorem run_ok : ∀ (j t w : Nat) (c : D) (ts : List D) (N : Nat) (S : Sto) (F : D → Sto → Prop) (E : Exc → Sto → Prop), CodeG j t w c → RegOk ts → ts.length ≤ 1000 → j + 6 ≤ N → WF S → told j c ts ≠ .great → (∀ rs, told j c ts = .some rs → F (.tup rs) S) → (told j c ts = .non → ∀ G, WF (S ++ G) → E noStep (S ++ G)) →
    wp (den fu N i_run_code [c, .tup ts] S) F E := by
  intro j
  induction j with
  | zero => intro t w c ts N S F E hc; exact hc.elim
  | succ j ih =>
    intro t w c ts N S F E hc hts hlen hN hS hg hF hE
    obtain ⟨ops, outs, e, rfl, ho, k', hk, h2, h3, h4, h5, h6, h7⟩ := hc.shape
    obtain rfl : k' = j := by omega
    obtain ⟨N', rfl⟩ : ∃ N', N = N' + 1 := ⟨N - 1, by omega⟩
    show wp (runDef false 10 (b_run_code fu (den fu N')) _ _) _ _
    simp only [b_run_code, wps_asgTp, gTp3, gNs_cons, gN0_nil, gListM_seq, wp_ok, wp_ret, wp_stuck, wp_bad, wp_bnd, wp_if, wp_fif, wps_ok_nx, wps_ok_rt, wps_ok_bk, wps_ok_ct, wps_ok_xc, wps_bad, wps_lft, wps_seq, wps_nil, wps_ret, wps_expr, wps_asg, wps_if, wp_run, wps_for, wps_while, wp_comp, wp_var, wp_C, wp_bin, wp_un, wp_T, wp_Tb, wp_asBl, wp_truthBl, wp_bAnd, wp_bOr, wp_bNot, wp_eIf, wp_eAnd, wp_eOr, wp_eNot, blCase_bl, wp_chain, wp_aNil, wp_aCons, wp_tup, wp_lst, wp_lstM, wp_call, wp_cl1, wp_cl2, wp_cl3, wp_cl4, wp_cl5, wp_meth, wp_isi, wp_oNone, wp_oSome, wp_sl, wp_it, wp_range1, wp_range2, wp_bYes, gEq_str, gNe_str, gEq_int, gNe_int, gEq_bl, gNe_bl, gIs_bl, gIsNot_bl, gAdd_int, gSub_int, gC_int, gI_int, gAdd_str, gAdd_tup, gAdd_lst, gNeg_int, gIx_tup, gIx_lst, gLen_tup, gLen_lst, gLen_str, gInt_int, gInt_bl, gTuple_lst, gTuple_tup, gList_lst, gList_tup, gSl_tup, gSl_lst, gSl_fl, gSl_str, srcL_tup, srcL_lst, srcL_fl, srcL_str, srcR1_int, typN, startR, List.map_cons, List.map_nil, List.length_cons, List.length_nil, Nat.reduceAdd, Nat.reduceSub, Nat.zero_add, Nat.sub_self, Nat.sub_zero, List.replicate_zero, List.replicate_succ, List.cons_append, List.nil_append, List.append_nil, List.getElem?_cons_zero, List.getElem?_cons_succ, List.set_cons_zero, List.set_cons_succ, List.set_nil, List.getElem?_nil, Option.some.injEq, exists_eq_left', exists_eq_left, exists_eq_right, reduceCtorEq, false_and, and_false, true_and, and_true, exists_false, exists_const, wipeR, Nat.zero_le, String.reduceEq, D.int.injEq, D.str.injEq, D.bl.injEq, atI_0, atI_1, atI_2, atI_3, atI_4, beq_self_eq_true, not_true_eq_false, not_false_eq_true, Int.cast_ofNat_Int, Int.reduceEq, Int.reduceLE, Int.reduceLT, Int.reduceAdd, Int.reduceSub, Int.reduceMul, Int.reduceNeg, if_true, if_false, ite_true, ite_false, Bool.false_eq_true, if_neg, if_pos, decide_eq_true_eq, Bool.not_eq_true', decide_eq_false_iff_not, eq_self_iff_true, decide_true, decide_false, Bool.not_true, Bool.not_false, wps_raise, wps_try, wps_tryAs, tryCase_t, tryCase_f, tbl_hit, suiteOf_hit, wp_eDct, wp_eDGet, wp_eDNew, wp_eDDef, wps_dput]
    by_cases hl : (ts.length : Int) = (t : Nat)
    · have htold : told (k' + 1) (.tup [.int t, .tup ops, .tup outs]) ts = thenR (opsR (told k') ops ts) (fun fs => .some (outs.map (regAt fs))) := by simp only [told, hl, if_true]
      simp only [hl, srcL_tup, wp_ok, wp_ret, wp_stuck, wp_bad, wp_bnd, wp_if, wp_fif, wps_ok_nx, wps_ok_rt, wps_ok_bk, wps_ok_ct, wps_ok_xc, wps_bad, wps_lft, wps_seq, wps_nil, wps_ret, wps_expr, wps_asg, wps_if, wp_run, wps_for, wps_while, wp_comp, wp_var, wp_C, wp_bin, wp_un, wp_T, wp_Tb, wp_asBl, wp_truthBl, wp_bAnd, wp_bOr, wp_bNot, wp_eIf, wp_eAnd, wp_eOr, wp_eNot, blCase_bl, wp_chain, wp_aNil, wp_aCons, wp_tup, wp_lst, wp_lstM, wp_call, wp_cl1, wp_cl2, wp_cl3, wp_cl4, wp_cl5, wp_meth, wp_isi, wp_oNone, wp_oSome, wp_sl, wp_it, wp_range1, wp_range2, wp_bYes, gEq_str, gNe_str, gEq_int, gNe_int, gEq_bl, gNe_bl, gIs_bl, gIsNot_bl, gAdd_int, gSub_int, gC_int, gI_int, gAdd_str, gAdd_tup, gAdd_lst, gNeg_int, gIx_tup, gIx_lst, gLen_tup, gLen_lst, gLen_str, gInt_int, gInt_bl, gTuple_lst, gTuple_tup, gList_lst, gList_tup, gSl_tup, gSl_lst, gSl_fl, gSl_str, srcL_tup, srcL_lst, srcL_fl, srcL_str, srcR1_int, typN, startR, List.map_cons, List.map_nil, List.length_cons, List.length_nil, Nat.reduceAdd, Nat.reduceSub, Nat.zero_add, Nat.sub_self, Nat.sub_zero, List.replicate_zero, List.replicate_succ, List.cons_append, List.nil_append, List.append_nil, List.getElem?_cons_zero, List.getElem?_cons_succ, List.set_cons_zero, List.set_cons_succ, List.set_nil, List.getElem?_nil, Option.some.injEq, exists_eq_left', exists_eq_left, exists_eq_right, reduceCtorEq, false_and, and_false, true_and, and_true, exists_false, exists_const, wipeR, Nat.zero_le, String.reduceEq, D.int.injEq, D.str.injEq, D.bl.injEq, atI_0, atI_1, atI_2, atI_3, atI_4, beq_self_eq_true, not_true_eq_false, not_false_eq_true, Int.cast_ofNat_Int, Int.reduceEq, Int.reduceLE, Int.reduceLT, Int.reduceAdd, Int.reduceSub, Int.reduceMul, Int.reduceNeg, if_true, if_false, ite_true, ite_false, Bool.false_eq_true, if_neg, if_pos, decide_eq_true_eq, Bool.not_eq_true', decide_eq_false_iff_not, eq_self_iff_true, decide_true, decide_false, Bool.not_true, Bool.not_false, wps_raise, wps_try, wps_tryAs, tryCase_t, tryCase_f, tbl_hit, suiteOf_hit, wp_eDct, wp_eDGet, wp_eDNew, wp_eDDef, wps_dput]
      refine wps_forM (fun i ρ S' => ∃ (fs : List D) (o1 o2 o3 o4 : Option D), S' = S ++ [.lst fs] ∧ ρ = [some (.tup [.int t, .tup ops, .tup outs]), some (.tup ts), some (.ref S.length), o1, some (.int t), some (.tup ops), some (.tup outs), o2, o3, o4] ∧ opsR (told k') ops ts = opsR (told k') (ops.drop i) fs ∧ OpsG (CodeG k') fs.length (ops.drop i) e ∧ RegOk fs) (fun _ _ _ _ => trivial) ?_ ?_ ⟨ts, none, none, none, none, rfl, rfl, rfl, by rw [List.drop_zero, show ts.length = t by omega]; exact h2, hts⟩
      · rintro i op ρ S' hd ⟨fs, o1, o2, o3, o4, rfl, rfl, hop, hog, hrg⟩
        have hdrop : ops.drop i = op :: ops.drop (i + 1) := by
          obtain ⟨hlt, he⟩ := List.getElem?_eq_some_iff.mp hd
          rw [List.drop_eq_getElem_cons hlt, he]
        rw [hdrop] at hop hog
        obtain ⟨m, hm, hrest⟩ := hog
        have hfl := OpsG.le hrest
        have h8 := OpsG.le h2
        have hfsl : fs.length ≤ 100 := by omega
        have hm100 : m ≤ 100 := by omega
        have hS2 : WF (S ++ [.lst fs]) := hS.append hrg.tr
        have iL : iLst (S ++ [.lst fs]) (.ref S.length) = some fs := at_end
        have hop1 : opsR (told k') ops ts = thenR (made (told k') op fs) (fun ms => if ms.any big = true then .great else opsR (told k') (ops.drop (i + 1)) (fs ++ ms)) := hop
        have bad : made (told k') op fs = .non → ∀ G, WF (S ++ [.lst fs] ++ G) → E noStep (S ++ [.lst fs] ++ G) := fun h G w => by
          rw [List.append_assoc] at w ⊢
          exact hE (by rw [htold, hop1, h]; rfl) _ w
        have ngr : made (told k') op fs ≠ .great := fun h => hg (by rw [htold, hop1, h]; rfl)
        have ext : ∀ ms, made (told k') op fs = .some ms → ms.length = m ∧ opsR (told k') ops ts = opsR (told k') (ops.drop (i + 1)) (fs ++ ms) ∧ OpsG (CodeG k') (fs ++ ms).length (ops.drop (i + 1)) e ∧ RegOk (fs ++ ms) := fun ms hr => by
          obtain ⟨q1, q2⟩ := made_good (CG := CodeG k') (told_good k') hm hrg hr
          have hb : ¬ ms.any big = true := fun hb => hg (by rw [htold, hop1, hr]; simp only [thenR, hb, if_true])
          refine ⟨q1, by rw [hop1, hr]; simp only [thenR, hb]; rfl, by rw [List.length_append, q1]; exact hrest, fun d hd => ?_⟩
          rw [List.mem_append] at hd
          rcases hd with hd | hd
          · exact hrg d hd
          · refine not_big (q2 d hd) ?_
            cases hbd : big d with
            | false => rfl
            | true => exact absurd (List.any_eq_true.mpr ⟨d, hd, hbd⟩) hb
        refine ⟨_, rfl, ?_⟩
        rcases hm with ⟨rfl, x, rfl, hx⟩ | ⟨rfl, a, rfl, ha⟩ | ⟨rfl, w', a, b, rfl, hw', ha, hb⟩ | ⟨one, args, s, o, rfl, g1, g2, g3, g4, g5, g6⟩
        · have hr : made (told k') (.tup [.str "push", x]) fs = .some [x] := by simp only [made, if_true]
          obtain ⟨_, q2, q3, q4⟩ := ext _ hr
          simp only [isTy_ref at_end, gAppend_ref at_end, set_end, wp_ok, wp_ret, wp_stuck, wp_bad, wp_bnd, wp_if, wp_fif, wps_ok_nx, wps_ok_rt, wps_ok_bk, wps_ok_ct, wps_ok_xc, wps_bad, wps_lft, wps_seq, wps_nil, wps_ret, wps_expr, wps_asg, wps_if, wp_run, wps_for, wps_while, wp_comp, wp_var, wp_C, wp_bin, wp_un, wp_T, wp_Tb, wp_asBl, wp_truthBl, wp_bAnd, wp_bOr, wp_bNot, wp_eIf, wp_eAnd, wp_eOr, wp_eNot, blCase_bl, wp_chain, wp_aNil, wp_aCons, wp_tup, wp_lst, wp_lstM, wp_call, wp_cl1, wp_cl2, wp_cl3, wp_cl4, wp_cl5, wp_meth, wp_isi, wp_oNone, wp_oSome, wp_sl, wp_it, wp_range1, wp_range2, wp_bYes, gEq_str, gNe_str, gEq_int, gNe_int, gEq_bl, gNe_bl, gIs_bl, gIsNot_bl, gAdd_int, gSub_int, gC_int, gI_int, gAdd_str, gAdd_tup, gAdd_lst, gNeg_int, gIx_tup, gIx_lst, gLen_tup, gLen_lst, gLen_str, gInt_int, gInt_bl, gTuple_lst, gTuple_tup, gList_lst, gList_tup, gSl_tup, gSl_lst, gSl_fl, gSl_str, srcL_tup, srcL_lst, srcL_fl, srcL_str, srcR1_int, typN, startR, List.map_cons, List.map_nil, List.length_cons, List.length_nil, Nat.reduceAdd, Nat.reduceSub, Nat.zero_add, Nat.sub_self, Nat.sub_zero, List.replicate_zero, List.replicate_succ, List.cons_append, List.nil_append, List.append_nil, List.getElem?_cons_zero, List.getElem?_cons_succ, List.set_cons_zero, List.set_cons_succ, List.set_nil, List.getElem?_nil, Option.some.injEq, exists_eq_left', exists_eq_left, exists_eq_right, reduceCtorEq, false_and, and_false, true_and, and_true, exists_false, exists_const, wipeR, Nat.zero_le, String.reduceEq, D.int.injEq, D.str.injEq, D.bl.injEq, atI_0, atI_1, atI_2, atI_3, atI_4, beq_self_eq_true, not_true_eq_false, not_false_eq_true, Int.cast_ofNat_Int, Int.reduceEq, Int.reduceLE, Int.reduceLT, Int.reduceAdd, Int.reduceSub, Int.reduceMul, Int.reduceNeg, if_true, if_false, ite_true, ite_false, Bool.false_eq_true, if_neg, if_pos, decide_eq_true_eq, Bool.not_eq_true', decide_eq_false_iff_not, eq_self_iff_true, decide_true, decide_false, Bool.not_true, Bool.not_false, wps_raise, wps_try, wps_tryAs, tryCase_t, tryCase_f, tbl_hit, suiteOf_hit, wp_eDct, wp_eDGet, wp_eDNew, wp_eDDef, wps_dput]
          exact ⟨by rw [sizeLine_eq]; omega, fs ++ [x], _, _, _, _, rfl, rfl, q2, q3, q4⟩
        · have hr : made (told k') (.tup [.str "wrap", a]) fs = .some [.tup [.str "row", .tup [.tup [.str "push", regAt fs a]]]] := by simp only [made, ofString_inj, Nat.zero_le, String.reduceEq, D.int.injEq, D.str.injEq, D.bl.injEq, atI_0, atI_1, atI_2, atI_3, atI_4, beq_self_eq_true, not_true_eq_false, not_false_eq_true, Int.cast_ofNat_Int, Int.reduceEq, Int.reduceLE, Int.reduceLT, Int.reduceAdd, Int.reduceSub, Int.reduceMul, Int.reduceNeg, if_true, if_false, ite_true, ite_false, Bool.false_eq_true, if_neg, if_pos, decide_eq_true_eq, Bool.not_eq_true', decide_eq_false_iff_not, eq_self_iff_true, decide_true, decide_false, Bool.not_true, Bool.not_false]
          obtain ⟨_, q2, q3, q4⟩ := ext _ hr
          obtain ⟨g1, g2⟩ := regAt_ok hrg ha
          simp only [isTy_ref at_end, ofString_inj, cutW, wp_ok, wp_ret, wp_stuck, wp_bad, wp_bnd, wp_if, wp_fif, wps_ok_nx, wps_ok_rt, wps_ok_bk, wps_ok_ct, wps_ok_xc, wps_bad, wps_lft, wps_seq, wps_nil, wps_ret, wps_expr, wps_asg, wps_if, wp_run, wps_for, wps_while, wp_comp, wp_var, wp_C, wp_bin, wp_un, wp_T, wp_Tb, wp_asBl, wp_truthBl, wp_bAnd, wp_bOr, wp_bNot, wp_eIf, wp_eAnd, wp_eOr, wp_eNot, blCase_bl, wp_chain, wp_aNil, wp_aCons, wp_tup, wp_lst, wp_lstM, wp_call, wp_cl1, wp_cl2, wp_cl3, wp_cl4, wp_cl5, wp_meth, wp_isi, wp_oNone, wp_oSome, wp_sl, wp_it, wp_range1, wp_range2, wp_bYes, gEq_str, gNe_str, gEq_int, gNe_int, gEq_bl, gNe_bl, gIs_bl, gIsNot_bl, gAdd_int, gSub_int, gC_int, gI_int, gAdd_str, gAdd_tup, gAdd_lst, gNeg_int, gIx_tup, gIx_lst, gLen_tup, gLen_lst, gLen_str, gInt_int, gInt_bl, gTuple_lst, gTuple_tup, gList_lst, gList_tup, gSl_tup, gSl_lst, gSl_fl, gSl_str, srcL_tup, srcL_lst, srcL_fl, srcL_str, srcR1_int, typN, startR, List.map_cons, List.map_nil, List.length_cons, List.length_nil, Nat.reduceAdd, Nat.reduceSub, Nat.zero_add, Nat.sub_self, Nat.sub_zero, List.replicate_zero, List.replicate_succ, List.cons_append, List.nil_append, List.append_nil, List.getElem?_cons_zero, List.getElem?_cons_succ, List.set_cons_zero, List.set_cons_succ, List.set_nil, List.getElem?_nil, Option.some.injEq, exists_eq_left', exists_eq_left, exists_eq_right, reduceCtorEq, false_and, and_false, true_and, and_true, exists_false, exists_const, wipeR, Nat.zero_le, String.reduceEq, D.int.injEq, D.str.injEq, D.bl.injEq, atI_0, atI_1, atI_2, atI_3, atI_4, beq_self_eq_true, not_true_eq_false, not_false_eq_true, Int.cast_ofNat_Int, Int.reduceEq, Int.reduceLE, Int.reduceLT, Int.reduceAdd, Int.reduceSub, Int.reduceMul, Int.reduceNeg, if_true, if_false, ite_true, ite_false, Bool.false_eq_true, if_neg, if_pos, decide_eq_true_eq, Bool.not_eq_true', decide_eq_false_iff_not, eq_self_iff_true, decide_true, decide_false, Bool.not_true, Bool.not_false, wps_raise, wps_try, wps_tryAs, tryCase_t, tryCase_f, tbl_hit, suiteOf_hit, wp_eDct, wp_eDGet, wp_eDNew, wp_eDDef, wps_dput]
          refine ⟨small_line (by decide), comp_regs (fun d => rfl) (fun d => rfl) iL hrg (fun d hd => by rw [List.mem_singleton.mp hd]; exact ha) ?_⟩
          simp only [gTuple_lst, wp_ok, wp_ret, wp_stuck, wp_bad, wp_bnd, wp_if, wp_fif, wps_ok_nx, wps_ok_rt, wps_ok_bk, wps_ok_ct, wps_ok_xc, wps_bad, wps_lft, wps_seq, wps_nil, wps_ret, wps_expr, wps_asg, wps_if, wp_run, wps_for, wps_while, wp_comp, wp_var, wp_C, wp_bin, wp_un, wp_T, wp_Tb, wp_asBl, wp_truthBl, wp_bAnd, wp_bOr, wp_bNot, wp_eIf, wp_eAnd, wp_eOr, wp_eNot, blCase_bl, wp_chain, wp_aNil, wp_aCons, wp_tup, wp_lst, wp_lstM, wp_call, wp_cl1, wp_cl2, wp_cl3, wp_cl4, wp_cl5, wp_meth, wp_isi, wp_oNone, wp_oSome, wp_sl, wp_it, wp_range1, wp_range2, wp_bYes, gEq_str, gNe_str, gEq_int, gNe_int, gEq_bl, gNe_bl, gIs_bl, gIsNot_bl, gAdd_int, gSub_int, gC_int, gI_int, gAdd_str, gAdd_tup, gAdd_lst, gNeg_int, gIx_tup, gIx_lst, gLen_tup, gLen_lst, gLen_str, gInt_int, gInt_bl, gTuple_lst, gTuple_tup, gList_lst, gList_tup, gSl_tup, gSl_lst, gSl_fl, gSl_str, srcL_tup, srcL_lst, srcL_fl, srcL_str, srcR1_int, typN, startR, List.map_cons, List.map_nil, List.length_cons, List.length_nil, Nat.reduceAdd, Nat.reduceSub, Nat.zero_add, Nat.sub_self, Nat.sub_zero, List.replicate_zero, List.replicate_succ, List.cons_append, List.nil_append, List.append_nil, List.getElem?_cons_zero, List.getElem?_cons_succ, List.set_cons_zero, List.set_cons_succ, List.set_nil, List.getElem?_nil, Option.some.injEq, exists_eq_left', exists_eq_left, exists_eq_right, reduceCtorEq, false_and, and_false, true_and, and_true, exists_false, exists_const, wipeR, Nat.zero_le, String.reduceEq, D.int.injEq, D.str.injEq, D.bl.injEq, atI_0, atI_1, atI_2, atI_3, atI_4, beq_self_eq_true, not_true_eq_false, not_false_eq_true, Int.cast_ofNat_Int, Int.reduceEq, Int.reduceLE, Int.reduceLT, Int.reduceAdd, Int.reduceSub, Int.reduceMul, Int.reduceNeg, if_true, if_false, ite_true, ite_false, Bool.false_eq_true, if_neg, if_pos, decide_eq_true_eq, Bool.not_eq_true', decide_eq_false_iff_not, eq_self_iff_true, decide_true, decide_false, Bool.not_true, Bool.not_false, wps_raise, wps_try, wps_tryAs, tryCase_t, tryCase_f, tbl_hit, suiteOf_hit, wp_eDct, wp_eDGet, wp_eDNew, wp_eDDef, wps_dput]
          refine wrap_ok (by omega) g1 hS2 ?_
          simp only [gExtend_lst at_end, set_end, wp_ok, wp_ret, wp_stuck, wp_bad, wp_bnd, wp_if, wp_fif, wps_ok_nx, wps_ok_rt, wps_ok_bk, wps_ok_ct, wps_ok_xc, wps_bad, wps_lft, wps_seq, wps_nil, wps_ret, wps_expr, wps_asg, wps_if, wp_run, wps_for, wps_while, wp_comp, wp_var, wp_C, wp_bin, wp_un, wp_T, wp_Tb, wp_asBl, wp_truthBl, wp_bAnd, wp_bOr, wp_bNot, wp_eIf, wp_eAnd, wp_eOr, wp_eNot, blCase_bl, wp_chain, wp_aNil, wp_aCons, wp_tup, wp_lst, wp_lstM, wp_call, wp_cl1, wp_cl2, wp_cl3, wp_cl4, wp_cl5, wp_meth, wp_isi, wp_oNone, wp_oSome, wp_sl, wp_it, wp_range1, wp_range2, wp_bYes, gEq_str, gNe_str, gEq_int, gNe_int, gEq_bl, gNe_bl, gIs_bl, gIsNot_bl, gAdd_int, gSub_int, gC_int, gI_int, gAdd_str, gAdd_tup, gAdd_lst, gNeg_int, gIx_tup, gIx_lst, gLen_tup, gLen_lst, gLen_str, gInt_int, gInt_bl, gTuple_lst, gTuple_tup, gList_lst, gList_tup, gSl_tup, gSl_lst, gSl_fl, gSl_str, srcL_tup, srcL_lst, srcL_fl, srcL_str, srcR1_int, typN, startR, List.map_cons, List.map_nil, List.length_cons, List.length_nil, Nat.reduceAdd, Nat.reduceSub, Nat.zero_add, Nat.sub_self, Nat.sub_zero, List.replicate_zero, List.replicate_succ, List.cons_append, List.nil_append, List.append_nil, List.getElem?_cons_zero, List.getElem?_cons_succ, List.set_cons_zero, List.set_cons_succ, List.set_nil, List.getElem?_nil, Option.some.injEq, exists_eq_left', exists_eq_left, exists_eq_right, reduceCtorEq, false_and, and_false, true_and, and_true, exists_false, exists_const, wipeR, Nat.zero_le, String.reduceEq, D.int.injEq, D.str.injEq, D.bl.injEq, atI_0, atI_1, atI_2, atI_3, atI_4, beq_self_eq_true, not_true_eq_false, not_false_eq_true, Int.cast_ofNat_Int, Int.reduceEq, Int.reduceLE, Int.reduceLT, Int.reduceAdd, Int.reduceSub, Int.reduceMul, Int.reduceNeg, if_true, if_false, ite_true, ite_false, Bool.false_eq_true, if_neg, if_pos, decide_eq_true_eq, Bool.not_eq_true', decide_eq_false_iff_not, eq_self_iff_true, decide_true, decide_false, Bool.not_true, Bool.not_false, wps_raise, wps_try, wps_tryAs, tryCase_t, tryCase_f, tbl_hit, suiteOf_hit, wp_eDct, wp_eDGet, wp_eDNew, wp_eDDef, wps_dput]
          exact ⟨small_line (by simp; omega), _, _, _, _, _, rfl, rfl, q2, q3, q4⟩
        · obtain ⟨g1, g2⟩ := regAt_ok hrg ha
          obtain ⟨g3, g4⟩ := regAt_ok hrg hb
          have n1 : ¬ w' = Str.ofString "push" := by rintro rfl; revert hw'; decide +kernel
          have n3 : ¬ w' = Str.ofString "if" := by rintro rfl; revert hw'; decide +kernel
          have hr : made (told k') (.tup [.str w', a, b]) fs = (match pairOp w' (regAt fs a) (regAt fs b) with | some d => .some [d] | none => .non) := rfl
          simp only [isTy_ref at_end, n1, n3, cutP, wp_ok, wp_ret, wp_stuck, wp_bad, wp_bnd, wp_if, wp_fif, wps_ok_nx, wps_ok_rt, wps_ok_bk, wps_ok_ct, wps_ok_xc, wps_bad, wps_lft, wps_seq, wps_nil, wps_ret, wps_expr, wps_asg, wps_if, wp_run, wps_for, wps_while, wp_comp, wp_var, wp_C, wp_bin, wp_un, wp_T, wp_Tb, wp_asBl, wp_truthBl, wp_bAnd, wp_bOr, wp_bNot, wp_eIf, wp_eAnd, wp_eOr, wp_eNot, blCase_bl, wp_chain, wp_aNil, wp_aCons, wp_tup, wp_lst, wp_lstM, wp_call, wp_cl1, wp_cl2, wp_cl3, wp_cl4, wp_cl5, wp_meth, wp_isi, wp_oNone, wp_oSome, wp_sl, wp_it, wp_range1, wp_range2, wp_bYes, gEq_str, gNe_str, gEq_int, gNe_int, gEq_bl, gNe_bl, gIs_bl, gIsNot_bl, gAdd_int, gSub_int, gC_int, gI_int, gAdd_str, gAdd_tup, gAdd_lst, gNeg_int, gIx_tup, gIx_lst, gLen_tup, gLen_lst, gLen_str, gInt_int, gInt_bl, gTuple_lst, gTuple_tup, gList_lst, gList_tup, gSl_tup, gSl_lst, gSl_fl, gSl_str, srcL_tup, srcL_lst, srcL_fl, srcL_str, srcR1_int, typN, startR, List.map_cons, List.map_nil, List.length_cons, List.length_nil, Nat.reduceAdd, Nat.reduceSub, Nat.zero_add, Nat.sub_self, Nat.sub_zero, List.replicate_zero, List.replicate_succ, List.cons_append, List.nil_append, List.append_nil, List.getElem?_cons_zero, List.getElem?_cons_succ, List.set_cons_zero, List.set_cons_succ, List.set_nil, List.getElem?_nil, Option.some.injEq, exists_eq_left', exists_eq_left, exists_eq_right, reduceCtorEq, false_and, and_false, true_and, and_true, exists_false, exists_const, wipeR, Nat.zero_le, String.reduceEq, D.int.injEq, D.str.injEq, D.bl.injEq, atI_0, atI_1, atI_2, atI_3, atI_4, beq_self_eq_true, not_true_eq_false, not_false_eq_true, Int.cast_ofNat_Int, Int.reduceEq, Int.reduceLE, Int.reduceLT, Int.reduceAdd, Int.reduceSub, Int.reduceMul, Int.reduceNeg, if_true, if_false, ite_true, ite_false, Bool.false_eq_true, if_neg, if_pos, decide_eq_true_eq, Bool.not_eq_true', decide_eq_false_iff_not, eq_self_iff_true, decide_true, decide_false, Bool.not_true, Bool.not_false, wps_raise, wps_try, wps_tryAs, tryCase_t, tryCase_f, tbl_hit, suiteOf_hit, wp_eDct, wp_eDGet, wp_eDNew, wp_eDDef, wps_dput]
          refine ⟨small_line (by decide), comp_regs (fun d => rfl) (fun d => rfl) iL hrg (fun d hd => ?_) ?_⟩
          · simp only [List.mem_cons, List.not_mem_nil, or_false] at hd
            rcases hd with rfl | rfl <;> assumption
          simp only [gTuple_lst, wp_ok, wp_ret, wp_stuck, wp_bad, wp_bnd, wp_if, wp_fif, wps_ok_nx, wps_ok_rt, wps_ok_bk, wps_ok_ct, wps_ok_xc, wps_bad, wps_lft, wps_seq, wps_nil, wps_ret, wps_expr, wps_asg, wps_if, wp_run, wps_for, wps_while, wp_comp, wp_var, wp_C, wp_bin, wp_un, wp_T, wp_Tb, wp_asBl, wp_truthBl, wp_bAnd, wp_bOr, wp_bNot, wp_eIf, wp_eAnd, wp_eOr, wp_eNot, blCase_bl, wp_chain, wp_aNil, wp_aCons, wp_tup, wp_lst, wp_lstM, wp_call, wp_cl1, wp_cl2, wp_cl3, wp_cl4, wp_cl5, wp_meth, wp_isi, wp_oNone, wp_oSome, wp_sl, wp_it, wp_range1, wp_range2, wp_bYes, gEq_str, gNe_str, gEq_int, gNe_int, gEq_bl, gNe_bl, gIs_bl, gIsNot_bl, gAdd_int, gSub_int, gC_int, gI_int, gAdd_str, gAdd_tup, gAdd_lst, gNeg_int, gIx_tup, gIx_lst, gLen_tup, gLen_lst, gLen_str, gInt_int, gInt_bl, gTuple_lst, gTuple_tup, gList_lst, gList_tup, gSl_tup, gSl_lst, gSl_fl, gSl_str, srcL_tup, srcL_lst, srcL_fl, srcL_str, srcR1_int, typN, startR, List.map_cons, List.map_nil, List.length_cons, List.length_nil, Nat.reduceAdd, Nat.reduceSub, Nat.zero_add, Nat.sub_self, Nat.sub_zero, List.replicate_zero, List.replicate_succ, List.cons_append, List.nil_append, List.append_nil, List.getElem?_cons_zero, List.getElem?_cons_succ, List.set_cons_zero, List.set_cons_succ, List.set_nil, List.getElem?_nil, Option.some.injEq, exists_eq_left', exists_eq_left, exists_eq_right, reduceCtorEq, false_and, and_false, true_and, and_true, exists_false, exists_const, wipeR, Nat.zero_le, String.reduceEq, D.int.injEq, D.str.injEq, D.bl.injEq, atI_0, atI_1, atI_2, atI_3, atI_4, beq_self_eq_true, not_true_eq_false, not_false_eq_true, Int.cast_ofNat_Int, Int.reduceEq, Int.reduceLE, Int.reduceLT, Int.reduceAdd, Int.reduceSub, Int.reduceMul, Int.reduceNeg, if_true, if_false, ite_true, ite_false, Bool.false_eq_true, if_neg, if_pos, decide_eq_true_eq, Bool.not_eq_true', decide_eq_false_iff_not, eq_self_iff_true, decide_true, decide_false, Bool.not_true, Bool.not_false, wps_raise, wps_try, wps_tryAs, tryCase_t, tryCase_f, tbl_hit, suiteOf_hit, wp_eDct, wp_eDGet, wp_eDNew, wp_eDDef, wps_dput]
          refine done_ok (by decide) (by omega) hw' g1 g3 hS2 (fun d hp => ?_) fun hp => ?_
          · rw [hp] at hr
            obtain ⟨_, q2, q3, q4⟩ := ext _ hr
            simp only [gExtend_lst at_end, set_end, wp_ok, wp_ret, wp_stuck, wp_bad, wp_bnd, wp_if, wp_fif, wps_ok_nx, wps_ok_rt, wps_ok_bk, wps_ok_ct, wps_ok_xc, wps_bad, wps_lft, wps_seq, wps_nil, wps_ret, wps_expr, wps_asg, wps_if, wp_run, wps_for, wps_while, wp_comp, wp_var, wp_C, wp_bin, wp_un, wp_T, wp_Tb, wp_asBl, wp_truthBl, wp_bAnd, wp_bOr, wp_bNot, wp_eIf, wp_eAnd, wp_eOr, wp_eNot, blCase_bl, wp_chain, wp_aNil, wp_aCons, wp_tup, wp_lst, wp_lstM, wp_call, wp_cl1, wp_cl2, wp_cl3, wp_cl4, wp_cl5, wp_meth, wp_isi, wp_oNone, wp_oSome, wp_sl, wp_it, wp_range1, wp_range2, wp_bYes, gEq_str, gNe_str, gEq_int, gNe_int, gEq_bl, gNe_bl, gIs_bl, gIsNot_bl, gAdd_int, gSub_int, gC_int, gI_int, gAdd_str, gAdd_tup, gAdd_lst, gNeg_int, gIx_tup, gIx_lst, gLen_tup, gLen_lst, gLen_str, gInt_int, gInt_bl, gTuple_lst, gTuple_tup, gList_lst, gList_tup, gSl_tup, gSl_lst, gSl_fl, gSl_str, srcL_tup, srcL_lst, srcL_fl, srcL_str, srcR1_int, typN, startR, List.map_cons, List.map_nil, List.length_cons, List.length_nil, Nat.reduceAdd, Nat.reduceSub, Nat.zero_add, Nat.sub_self, Nat.sub_zero, List.replicate_zero, List.replicate_succ, List.cons_append, List.nil_append, List.append_nil, List.getElem?_cons_zero, List.getElem?_cons_succ, List.set_cons_zero, List.set_cons_succ, List.set_nil, List.getElem?_nil, Option.some.injEq, exists_eq_left', exists_eq_left, exists_eq_right, reduceCtorEq, false_and, and_false, true_and, and_true, exists_false, exists_const, wipeR, Nat.zero_le, String.reduceEq, D.int.injEq, D.str.injEq, D.bl.injEq, atI_0, atI_1, atI_2, atI_3, atI_4, beq_self_eq_true, not_true_eq_false, not_false_eq_true, Int.cast_ofNat_Int, Int.reduceEq, Int.reduceLE, Int.reduceLT, Int.reduceAdd, Int.reduceSub, Int.reduceMul, Int.reduceNeg, if_true, if_false, ite_true, ite_false, Bool.false_eq_true, if_neg, if_pos, decide_eq_true_eq, Bool.not_eq_true', decide_eq_false_iff_not, eq_self_iff_true, decide_true, decide_false, Bool.not_true, Bool.not_false, wps_raise, wps_try, wps_tryAs, tryCase_t, tryCase_f, tbl_hit, suiteOf_hit, wp_eDct, wp_eDGet, wp_eDNew, wp_eDDef, wps_dput]
            exact ⟨small_line (by simp; omega), _, _, _, _, _, rfl, rfl, q2, q3, q4⟩
          · rw [hp] at hr
            have := bad hr []
            rw [List.append_nil] at this
            exact this hS2
        · obtain ⟨g7, g8⟩ := regAt_ok hrg g1
          have hr : made (told k') (.tup [.str "if", one, .tup args, s, o]) fs = (match numOf (regAt fs one) with | some i => told k' (if i = 0 then o else s) (args.map (regAt fs)) | none => .non) := rfl
          have hargs : RegOk (args.map (regAt fs)) := fun d hd => by
            obtain ⟨a, ha, rfl⟩ := List.mem_map.mp hd
            exact (regAt_ok hrg (g2 a ha)).1
          simp only [isTy_ref at_end, ofString_inj, wp_ok, wp_ret, wp_stuck, wp_bad, wp_bnd, wp_if, wp_fif, wps_ok_nx, wps_ok_rt, wps_ok_bk, wps_ok_ct, wps_ok_xc, wps_bad, wps_lft, wps_seq, wps_nil, wps_ret, wps_expr, wps_asg, wps_if, wp_run, wps_for, wps_while, wp_comp, wp_var, wp_C, wp_bin, wp_un, wp_T, wp_Tb, wp_asBl, wp_truthBl, wp_bAnd, wp_bOr, wp_bNot, wp_eIf, wp_eAnd, wp_eOr, wp_eNot, blCase_bl, wp_chain, wp_aNil, wp_aCons, wp_tup, wp_lst, wp_lstM, wp_call, wp_cl1, wp_cl2, wp_cl3, wp_cl4, wp_cl5, wp_meth, wp_isi, wp_oNone, wp_oSome, wp_sl, wp_it, wp_range1, wp_range2, wp_bYes, gEq_str, gNe_str, gEq_int, gNe_int, gEq_bl, gNe_bl, gIs_bl, gIsNot_bl, gAdd_int, gSub_int, gC_int, gI_int, gAdd_str, gAdd_tup, gAdd_lst, gNeg_int, gIx_tup, gIx_lst, gLen_tup, gLen_lst, gLen_str, gInt_int, gInt_bl, gTuple_lst, gTuple_tup, gList_lst, gList_tup, gSl_tup, gSl_lst, gSl_fl, gSl_str, srcL_tup, srcL_lst, srcL_fl, srcL_str, srcR1_int, typN, startR, List.map_cons, List.map_nil, List.length_cons, List.length_nil, Nat.reduceAdd, Nat.reduceSub, Nat.zero_add, Nat.sub_self, Nat.sub_zero, List.replicate_zero, List.replicate_succ, List.cons_append, List.nil_append, List.append_nil, List.getElem?_cons_zero, List.getElem?_cons_succ, List.set_cons_zero, List.set_cons_succ, List.set_nil, List.getElem?_nil, Option.some.injEq, exists_eq_left', exists_eq_left, exists_eq_right, reduceCtorEq, false_and, and_false, true_and, and_true, exists_false, exists_const, wipeR, Nat.zero_le, String.reduceEq, D.int.injEq, D.str.injEq, D.bl.injEq, atI_0, atI_1, atI_2, atI_3, atI_4, beq_self_eq_true, not_true_eq_false, not_false_eq_true, Int.cast_ofNat_Int, Int.reduceEq, Int.reduceLE, Int.reduceLT, Int.reduceAdd, Int.reduceSub, Int.reduceMul, Int.reduceNeg, if_true, if_false, ite_true, ite_false, Bool.false_eq_true, if_neg, if_pos, decide_eq_true_eq, Bool.not_eq_true', decide_eq_false_iff_not, eq_self_iff_true, decide_true, decide_false, Bool.not_true, Bool.not_false, wps_raise, wps_try, wps_tryAs, tryCase_t, tryCase_f, tbl_hit, suiteOf_hit, wp_eDct, wp_eDGet, wp_eDNew, wp_eDDef, wps_dput]
          refine ⟨small_line (by omega), comp_regs (fun d => rfl) (fun d => rfl) iL hrg g2 ?_⟩
          simp only [gTuple_lst, g8 iL, wp_ok, wp_ret, wp_stuck, wp_bad, wp_bnd, wp_if, wp_fif, wps_ok_nx, wps_ok_rt, wps_ok_bk, wps_ok_ct, wps_ok_xc, wps_bad, wps_lft, wps_seq, wps_nil, wps_ret, wps_expr, wps_asg, wps_if, wp_run, wps_for, wps_while, wp_comp, wp_var, wp_C, wp_bin, wp_un, wp_T, wp_Tb, wp_asBl, wp_truthBl, wp_bAnd, wp_bOr, wp_bNot, wp_eIf, wp_eAnd, wp_eOr, wp_eNot, blCase_bl, wp_chain, wp_aNil, wp_aCons, wp_tup, wp_lst, wp_lstM, wp_call, wp_cl1, wp_cl2, wp_cl3, wp_cl4, wp_cl5, wp_meth, wp_isi, wp_oNone, wp_oSome, wp_sl, wp_it, wp_range1, wp_range2, wp_bYes, gEq_str, gNe_str, gEq_int, gNe_int, gEq_bl, gNe_bl, gIs_bl, gIsNot_bl, gAdd_int, gSub_int, gC_int, gI_int, gAdd_str, gAdd_tup, gAdd_lst, gNeg_int, gIx_tup, gIx_lst, gLen_tup, gLen_lst, gLen_str, gInt_int, gInt_bl, gTuple_lst, gTuple_tup, gList_lst, gList_tup, gSl_tup, gSl_lst, gSl_fl, gSl_str, srcL_tup, srcL_lst, srcL_fl, srcL_str, srcR1_int, typN, startR, List.map_cons, List.map_nil, List.length_cons, List.length_nil, Nat.reduceAdd, Nat.reduceSub, Nat.zero_add, Nat.sub_self, Nat.sub_zero, List.replicate_zero, List.replicate_succ, List.cons_append, List.nil_append, List.append_nil, List.getElem?_cons_zero, List.getElem?_cons_succ, List.set_cons_zero, List.set_cons_succ, List.set_nil, List.getElem?_nil, Option.some.injEq, exists_eq_left', exists_eq_left, exists_eq_right, reduceCtorEq, false_and, and_false, true_and, and_true, exists_false, exists_const, wipeR, Nat.zero_le, String.reduceEq, D.int.injEq, D.str.injEq, D.bl.injEq, atI_0, atI_1, atI_2, atI_3, atI_4, beq_self_eq_true, not_true_eq_false, not_false_eq_true, Int.cast_ofNat_Int, Int.reduceEq, Int.reduceLE, Int.reduceLT, Int.reduceAdd, Int.reduceSub, Int.reduceMul, Int.reduceNeg, if_true, if_false, ite_true, ite_false, Bool.false_eq_true, if_neg, if_pos, decide_eq_true_eq, Bool.not_eq_true', decide_eq_false_iff_not, eq_self_iff_true, decide_true, decide_false, Bool.not_true, Bool.not_false, wps_raise, wps_try, wps_tryAs, tryCase_t, tryCase_f, tbl_hit, suiteOf_hit, wp_eDct, wp_eDGet, wp_eDNew, wp_eDDef, wps_dput]
          refine is_set_ok (by omega) g7 hS2 (fun i' e1 => ?_) fun e1 => ?_
          · rw [e1] at hr
            have fin2 : ∀ c, CodeG k' args.length m c → told k' c (args.map (regAt fs)) = made (told k') (.tup [.str "if", one, .tup args, s, o]) fs → wp (den fu N' i_run_code [c, .tup (args.map (regAt fs))] (S ++ [.lst fs]))
                (fun x S1 => wp (gList [x] S1) (fun x S1 => wp (gExtend (.ref S.length) [x] S1) (fun x S' => ∃ (fs_1 : List D) (o1' o2' o3' o4' : Option D), S' = S ++ [.lst fs_1] ∧ [some (.tup [.int t, .tup ops, .tup outs]), some (.tup ts), some (.ref S.length), some (.tup [.str "if", one, .tup args, s, o]), some (.int t), some (.tup ops), some (.tup outs), some (.tup (args.map (regAt fs))), some c, o4] = [some (.tup [.int t, .tup ops, .tup outs]), some (.tup ts), some (.ref S.length), o1', some (.int t), some (.tup ops), some (.tup outs), o2', o3', o4'] ∧
                  opsR (told k') ops ts = opsR (told k') (ops.drop (i + 1)) fs_1 ∧ OpsG (CodeG k') fs_1.length (ops.drop (i + 1)) e ∧ RegOk fs_1) fun e S' => E e S') fun e S' => E e S') (fun e S' => E e S') := fun c hc he => by
              refine ih _ _ _ _ N' _ _ _ hc hargs (by rw [List.length_map]; omega) (by omega) hS2 (by rw [he]; exact ngr) (fun rs hrs => ?_) (fun hn G w => bad (by rw [← he]; exact hn) G w)
              rw [he] at hrs
              obtain ⟨q1, q2, q3, q4⟩ := ext _ hrs
              simp only [gList_tup, gExtend_lst at_end, set_end]
              exact ⟨small_line (by omega), _, _, _, _, _, rfl, rfl, q2, q3, q4⟩
            rw [wp_truthBl]
            by_cases hz : i' = 0
            · rw [if_neg (by simp [hz])]
              exact ⟨isTy_ref at_end, fin2 o g6 (by rw [hr]; simp only [hz, if_true])⟩
            · rw [if_pos (by simp [hz])]
              exact ⟨isTy_ref at_end, fin2 s g5 (by rw [hr]; simp only [hz, if_false])⟩
          · rw [e1] at hr
            have := bad hr []
            rw [List.append_nil] at this
            exact this hS2
      · rintro ρ S' ⟨fs, o1, o2, o3, o4, rfl, rfl, hop, hog, hrg⟩
        rw [List.drop_length] at hop hog
        have hfe : e = fs.length := hog
        have h9 := OpsG.le h2
        have hS2 : WF (S ++ [.lst fs]) := hS.append hrg.tr
        have iL : iLst (S ++ [.lst fs]) (.ref S.length) = some fs := at_end
        simp only [srcL_tup, wp_ok, wp_ret, wp_stuck, wp_bad, wp_bnd, wp_if, wp_fif, wps_ok_nx, wps_ok_rt, wps_ok_bk, wps_ok_ct, wps_ok_xc, wps_bad, wps_lft, wps_seq, wps_nil, wps_ret, wps_expr, wps_asg, wps_if, wp_run, wps_for, wps_while, wp_comp, wp_var, wp_C, wp_bin, wp_un, wp_T, wp_Tb, wp_asBl, wp_truthBl, wp_bAnd, wp_bOr, wp_bNot, wp_eIf, wp_eAnd, wp_eOr, wp_eNot, blCase_bl, wp_chain, wp_aNil, wp_aCons, wp_tup, wp_lst, wp_lstM, wp_call, wp_cl1, wp_cl2, wp_cl3, wp_cl4, wp_cl5, wp_meth, wp_isi, wp_oNone, wp_oSome, wp_sl, wp_it, wp_range1, wp_range2, wp_bYes, gEq_str, gNe_str, gEq_int, gNe_int, gEq_bl, gNe_bl, gIs_bl, gIsNot_bl, gAdd_int, gSub_int, gC_int, gI_int, gAdd_str, gAdd_tup, gAdd_lst, gNeg_int, gIx_tup, gIx_lst, gLen_tup, gLen_lst, gLen_str, gInt_int, gInt_bl, gTuple_lst, gTuple_tup, gList_lst, gList_tup, gSl_tup, gSl_lst, gSl_fl, gSl_str, srcL_tup, srcL_lst, srcL_fl, srcL_str, srcR1_int, typN, startR, List.map_cons, List.map_nil, List.length_cons, List.length_nil, Nat.reduceAdd, Nat.reduceSub, Nat.zero_add, Nat.sub_self, Nat.sub_zero, List.replicate_zero, List.replicate_succ, List.cons_append, List.nil_append, List.append_nil, List.getElem?_cons_zero, List.getElem?_cons_succ, List.set_cons_zero, List.set_cons_succ, List.set_nil, List.getElem?_nil, Option.some.injEq, exists_eq_left', exists_eq_left, exists_eq_right, reduceCtorEq, false_and, and_false, true_and, and_true, exists_false, exists_const, wipeR, Nat.zero_le, String.reduceEq, D.int.injEq, D.str.injEq, D.bl.injEq, atI_0, atI_1, atI_2, atI_3, atI_4, beq_self_eq_true, not_true_eq_false, not_false_eq_true, Int.cast_ofNat_Int, Int.reduceEq, Int.reduceLE, Int.reduceLT, Int.reduceAdd, Int.reduceSub, Int.reduceMul, Int.reduceNeg, if_true, if_false, ite_true, ite_false, Bool.false_eq_true, if_neg, if_pos, decide_eq_true_eq, Bool.not_eq_true', decide_eq_false_iff_not, eq_self_iff_true, decide_true, decide_false, Bool.not_true, Bool.not_false, wps_raise, wps_try, wps_tryAs, tryCase_t, tryCase_f, tbl_hit, suiteOf_hit, wp_eDct, wp_eDGet, wp_eDNew, wp_eDDef, wps_dput]
        refine ⟨small_line (by omega), comp_regs (fun d => rfl) (fun d => rfl) iL hrg (fun a ha => by rw [← hfe]; exact h3 a ha) ?_⟩
        show wp (finD false S.length (.tup (outs.map (regAt fs))) (S ++ [.lst fs])) F E
        refine fin_cut hS2 (trs fun d hd => by
          obtain ⟨a, ha, rfl⟩ := List.mem_map.mp hd
          exact (regAt_ok hrg (by rw [← hfe]; exact h3 a ha)).1.tr) ?_
        rw [take_end]
        exact hF _ (by rw [htold, hop]; rfl)
    · have htold : told (k' + 1) (.tup [.int t, .tup ops, .tup outs]) ts = .non := by simp only [told, hl, if_false]
      simp only [hl, wp_ok, wp_ret, wp_stuck, wp_bad, wp_bnd, wp_if, wp_fif, wps_ok_nx, wps_ok_rt, wps_ok_bk, wps_ok_ct, wps_ok_xc, wps_bad, wps_lft, wps_seq, wps_nil, wps_ret, wps_expr, wps_asg, wps_if, wp_run, wps_for, wps_while, wp_comp, wp_var, wp_C, wp_bin, wp_un, wp_T, wp_Tb, wp_asBl, wp_truthBl, wp_bAnd, wp_bOr, wp_bNot, wp_eIf, wp_eAnd, wp_eOr, wp_eNot, blCase_bl, wp_chain, wp_aNil, wp_aCons, wp_tup, wp_lst, wp_lstM, wp_call, wp_cl1, wp_cl2, wp_cl3, wp_cl4, wp_cl5, wp_meth, wp_isi, wp_oNone, wp_oSome, wp_sl, wp_it, wp_range1, wp_range2, wp_bYes, gEq_str, gNe_str, gEq_int, gNe_int, gEq_bl, gNe_bl, gIs_bl, gIsNot_bl, gAdd_int, gSub_int, gC_int, gI_int, gAdd_str, gAdd_tup, gAdd_lst, gNeg_int, gIx_tup, gIx_lst, gLen_tup, gLen_lst, gLen_str, gInt_int, gInt_bl, gTuple_lst, gTuple_tup, gList_lst, gList_tup, gSl_tup, gSl_lst, gSl_fl, gSl_str, srcL_tup, srcL_lst, srcL_fl, srcL_str, srcR1_int, typN, startR, List.map_cons, List.map_nil, List.length_cons, List.length_nil, Nat.reduceAdd, Nat.reduceSub, Nat.zero_add, Nat.sub_self, Nat.sub_zero, List.replicate_zero, List.replicate_succ, List.cons_append, List.nil_append, List.append_nil, List.getElem?_cons_zero, List.getElem?_cons_succ, List.set_cons_zero, List.set_cons_succ, List.set_nil, List.getElem?_nil, Option.some.injEq, exists_eq_left', exists_eq_left, exists_eq_right, reduceCtorEq, false_and, and_false, true_and, and_true, exists_false, exists_const, wipeR, Nat.zero_le, String.reduceEq, D.int.injEq, D.str.injEq, D.bl.injEq, atI_0, atI_1, atI_2, atI_3, atI_4, beq_self_eq_true, not_true_eq_false, not_false_eq_true, Int.cast_ofNat_Int, Int.reduceEq, Int.reduceLE, Int.reduceLT, Int.reduceAdd, Int.reduceSub, Int.reduceMul, Int.reduceNeg, if_true, if_false, ite_true, ite_false, Bool.false_eq_true, if_neg, if_pos, decide_eq_true_eq, Bool.not_eq_true', decide_eq_false_iff_not, eq_self_iff_true, decide_true, decide_false, Bool.not_true, Bool.not_false, wps_raise, wps_try, wps_tryAs, tryCase_t, tryCase_f, tbl_hit, suiteOf_hit, wp_eDct, wp_eDGet, wp_eDNew, wp_eDDef, wps_dput]
      have := hE htold []
      rw [List.append_nil] at this
      exact this hS
end K64

namespace K64
open PySem L2 DL
variable {fu n k : Nat} {S S0 : Sto} {F : D → Sto → Prop} {E : Exc → Sto → Prop}
theorem run_told_ok {j t w N : Nat} {c : D} {ts : List D} (hN : j + 7 ≤ N) (hc : CodeG j t w c) (ht : RegOk ts) (hl : ts.length ≤ 1000) (hS : WF S) (hg : told j c ts ≠ .great) (hF : ∀ rs, told j c ts = .some rs → RegOk rs → F (.tup rs) S) (hE : told j c ts = .non → F (.lst [.bl true, .bl true, .bl false, .bl false]) S) :
    wp (den fu N i_l_run_told [c, .tup ts] S) F E := by
  obtain ⟨N', rfl⟩ : ∃ N', N = N' + 1 := ⟨N - 1, by omega⟩
  show wp (runDef false 4 (b_l_run_told fu (den fu N')) _ _) _ _
  simp only [b_l_run_told, wp_ok, wp_ret, wp_stuck, wp_bad, wp_bnd, wp_if, wp_fif, wps_ok_nx, wps_ok_rt, wps_ok_bk, wps_ok_ct, wps_ok_xc, wps_bad, wps_lft, wps_seq, wps_nil, wps_ret, wps_expr, wps_asg, wps_if, wp_run, wps_for, wps_while, wp_comp, wp_var, wp_C, wp_bin, wp_un, wp_T, wp_Tb, wp_asBl, wp_truthBl, wp_bAnd, wp_bOr, wp_bNot, wp_eIf, wp_eAnd, wp_eOr, wp_eNot, blCase_bl, wp_chain, wp_aNil, wp_aCons, wp_tup, wp_lst, wp_lstM, wp_call, wp_cl1, wp_cl2, wp_cl3, wp_cl4, wp_cl5, wp_meth, wp_isi, wp_oNone, wp_oSome, wp_sl, wp_it, wp_range1, wp_range2, wp_bYes, gEq_str, gNe_str, gEq_int, gNe_int, gEq_bl, gNe_bl, gIs_bl, gIsNot_bl, gAdd_int, gSub_int, gC_int, gI_int, gAdd_str, gAdd_tup, gAdd_lst, gNeg_int, gIx_tup, gIx_lst, gLen_tup, gLen_lst, gLen_str, gInt_int, gInt_bl, gTuple_lst, gTuple_tup, gList_lst, gList_tup, gSl_tup, gSl_lst, gSl_fl, gSl_str, srcL_tup, srcL_lst, srcL_fl, srcL_str, srcR1_int, typN, startR, List.map_cons, List.map_nil, List.length_cons, List.length_nil, Nat.reduceAdd, Nat.reduceSub, Nat.zero_add, Nat.sub_self, Nat.sub_zero, List.replicate_zero, List.replicate_succ, List.cons_append, List.nil_append, List.append_nil, List.getElem?_cons_zero, List.getElem?_cons_succ, List.set_cons_zero, List.set_cons_succ, List.set_nil, List.getElem?_nil, Option.some.injEq, exists_eq_left', exists_eq_left, exists_eq_right, reduceCtorEq, false_and, and_false, true_and, and_true, exists_false, exists_const, wipeR, Nat.zero_le, String.reduceEq, D.int.injEq, D.str.injEq, D.bl.injEq, atI_0, atI_1, atI_2, atI_3, atI_4, beq_self_eq_true, not_true_eq_false, not_false_eq_true, Int.cast_ofNat_Int, Int.reduceEq, Int.reduceLE, Int.reduceLT, Int.reduceAdd, Int.reduceSub, Int.reduceMul, Int.reduceNeg, if_true, if_false, ite_true, ite_false, Bool.false_eq_true, if_neg, if_pos, decide_eq_true_eq, Bool.not_eq_true', decide_eq_false_iff_not, eq_self_iff_true, decide_true, decide_false, Bool.not_true, Bool.not_false, wps_raise, wps_try, wps_tryAs, tryCase_t, tryCase_f, tbl_hit, suiteOf_hit, wp_eDct, wp_eDGet, wp_eDNew, wp_eDDef, wps_dput]
  refine run_ok j t w c ts N' _ _ _ hc ht hl (by omega) hS hg (fun rs hr => ?_) (fun hn G wf => ?_)
  · have hlen : ts.length = t := by
      obtain ⟨ops, outs, e, rfl, ho, k', rfl, _⟩ := hc.shape
      by_cases h : (ts.length : Int) = (t : Nat)
      · omega
      · simp only [told, h, if_false] at hr; cases hr
    have hro := (told_good j t w c ts rs hc ht hlen hr).2
    exact fin_same hS (trs fun d hd => (hro d hd).tr) rfl (hF rs hr hro)
  · simp only [noStep, wp_ok, wp_ret, wp_stuck, wp_bad, wp_bnd, wp_if, wp_fif, wps_ok_nx, wps_ok_rt, wps_ok_bk, wps_ok_ct, wps_ok_xc, wps_bad, wps_lft, wps_seq, wps_nil, wps_ret, wps_expr, wps_asg, wps_if, wp_run, wps_for, wps_while, wp_comp, wp_var, wp_C, wp_bin, wp_un, wp_T, wp_Tb, wp_asBl, wp_truthBl, wp_bAnd, wp_bOr, wp_bNot, wp_eIf, wp_eAnd, wp_eOr, wp_eNot, blCase_bl, wp_chain, wp_aNil, wp_aCons, wp_tup, wp_lst, wp_lstM, wp_call, wp_cl1, wp_cl2, wp_cl3, wp_cl4, wp_cl5, wp_meth, wp_isi, wp_oNone, wp_oSome, wp_sl, wp_it, wp_range1, wp_range2, wp_bYes, gEq_str, gNe_str, gEq_int, gNe_int, gEq_bl, gNe_bl, gIs_bl, gIsNot_bl, gAdd_int, gSub_int, gC_int, gI_int, gAdd_str, gAdd_tup, gAdd_lst, gNeg_int, gIx_tup, gIx_lst, gLen_tup, gLen_lst, gLen_str, gInt_int, gInt_bl, gTuple_lst, gTuple_tup, gList_lst, gList_tup, gSl_tup, gSl_lst, gSl_fl, gSl_str, srcL_tup, srcL_lst, srcL_fl, srcL_str, srcR1_int, typN, startR, List.map_cons, List.map_nil, List.length_cons, List.length_nil, Nat.reduceAdd, Nat.reduceSub, Nat.zero_add, Nat.sub_self, Nat.sub_zero, List.replicate_zero, List.replicate_succ, List.cons_append, List.nil_append, List.append_nil, List.getElem?_cons_zero, List.getElem?_cons_succ, List.set_cons_zero, List.set_cons_succ, List.set_nil, List.getElem?_nil, Option.some.injEq, exists_eq_left', exists_eq_left, exists_eq_right, reduceCtorEq, false_and, and_false, true_and, and_true, exists_false, exists_const, wipeR, Nat.zero_le, String.reduceEq, D.int.injEq, D.str.injEq, D.bl.injEq, atI_0, atI_1, atI_2, atI_3, atI_4, beq_self_eq_true, not_true_eq_false, not_false_eq_true, Int.cast_ofNat_Int, Int.reduceEq, Int.reduceLE, Int.reduceLT, Int.reduceAdd, Int.reduceSub, Int.reduceMul, Int.reduceNeg, if_true, if_false, ite_true, ite_false, Bool.false_eq_true, if_neg, if_pos, decide_eq_true_eq, Bool.not_eq_true', decide_eq_false_iff_not, eq_self_iff_true, decide_true, decide_false, Bool.not_true, Bool.not_false, wps_raise, wps_try, wps_tryAs, tryCase_t, tryCase_f, tbl_hit, suiteOf_hit, wp_eDct, wp_eDGet, wp_eDNew, wp_eDDef, wps_dput]
    refine fin_cut wf rfl ?_
    rw [List.take_left]
    exact hE hn
theorem cut63 {ns : List Int} (h : ns.length ≤ 63) : cutD (ns.map D.int) none (some 63) = ns.map D.int := by
  have e : cutD (ns.map D.int) none (some ((63 : Nat) : Int)) = (ns.map D.int).take 63 := by
    unfold cutD
    rw [HT.sIx_nat, HT.sIx_none, List.length_map, Nat.min_eq_right h]; simp
    omega
  have e2 : (ns.map D.int).take 63 = ns.map D.int := List.take_of_length_le (by simpa using h)
  rw [e2] at e; exact e
theorem gListM_lst {ds : List D} : wp (gListM [.lst ds] S) F E ↔ F (.ref S.length) (S ++ [.lst ds]) := Iff.rfl
theorem deck_ok {ns : List Int} {N : Nat} (hN : 2 ≤ N) (hfu : 1000 ≤ fu) (hl : ns.length ≤ 63) (hF : ∀ S0, DK 1 S0 S0 → F (.ref 1) S0) : wp (den fu N i_l_deck [.fl (ns.map .int), .int 600] []) F E := by
  obtain ⟨N', rfl⟩ : ∃ N', N = N' + 2 := ⟨N - 2, by omega⟩
  show wp (runDef true 4 (b_l_deck fu (den fu (N' + 1))) _ _) _ _
  have gs : ∀ {F E}, wp (gSum [.ref 0] [.lst (ns.map .int)]) F E ↔ F (.int ns.sum) [.lst (ns.map .int)] := fun {F E} => by
    have e : gSum [.ref 0] [.lst (ns.map .int)] = .ok (.int ns.sum) [.lst (ns.map .int)] := by
      unfold gSum
      simp only [show iSeq [MO.lst (ns.map .int)] (.ref 0) = some (ns.map .int) from rfl, Option.bind_some, intsOf_map]
    rw [e]; exact Iff.rfl
  simp only [b_l_deck, cut63 hl, gListM_lst, gs, wp_ok, wp_ret, wp_stuck, wp_bad, wp_bnd, wp_if, wp_fif, wps_ok_nx, wps_ok_rt, wps_ok_bk, wps_ok_ct, wps_ok_xc, wps_bad, wps_lft, wps_seq, wps_nil, wps_ret, wps_expr, wps_asg, wps_if, wp_run, wps_for, wps_while, wp_comp, wp_var, wp_C, wp_bin, wp_un, wp_T, wp_Tb, wp_asBl, wp_truthBl, wp_bAnd, wp_bOr, wp_bNot, wp_eIf, wp_eAnd, wp_eOr, wp_eNot, blCase_bl, wp_chain, wp_aNil, wp_aCons, wp_tup, wp_lst, wp_lstM, wp_call, wp_cl1, wp_cl2, wp_cl3, wp_cl4, wp_cl5, wp_meth, wp_isi, wp_oNone, wp_oSome, wp_sl, wp_it, wp_range1, wp_range2, wp_bYes, gEq_str, gNe_str, gEq_int, gNe_int, gEq_bl, gNe_bl, gIs_bl, gIsNot_bl, gAdd_int, gSub_int, gC_int, gI_int, gAdd_str, gAdd_tup, gAdd_lst, gNeg_int, gIx_tup, gIx_lst, gLen_tup, gLen_lst, gLen_str, gInt_int, gInt_bl, gTuple_lst, gTuple_tup, gList_lst, gList_tup, gSl_tup, gSl_lst, gSl_fl, gSl_str, srcL_tup, srcL_lst, srcL_fl, srcL_str, srcR1_int, typN, startR, List.map_cons, List.map_nil, List.length_cons, List.length_nil, Nat.reduceAdd, Nat.reduceSub, Nat.zero_add, Nat.sub_self, Nat.sub_zero, List.replicate_zero, List.replicate_succ, List.cons_append, List.nil_append, List.append_nil, List.getElem?_cons_zero, List.getElem?_cons_succ, List.set_cons_zero, List.set_cons_succ, List.set_nil, List.getElem?_nil, Option.some.injEq, exists_eq_left', exists_eq_left, exists_eq_right, reduceCtorEq, false_and, and_false, true_and, and_true, exists_false, exists_const, wipeR, Nat.zero_le, String.reduceEq, D.int.injEq, D.str.injEq, D.bl.injEq, atI_0, atI_1, atI_2, atI_3, atI_4, beq_self_eq_true, not_true_eq_false, not_false_eq_true, Int.cast_ofNat_Int, Int.reduceEq, Int.reduceLE, Int.reduceLT, Int.reduceAdd, Int.reduceSub, Int.reduceMul, Int.reduceNeg, if_true, if_false, ite_true, ite_false, Bool.false_eq_true, if_neg, if_pos, decide_eq_true_eq, Bool.not_eq_true', decide_eq_false_iff_not, eq_self_iff_true, decide_true, decide_false, Bool.not_true, Bool.not_false]
  refine wps_whileM (fun m ρ S' => ∃ (cells : List Int) (last : Int), ρ = [some (.fl (ns.map .int)), some (.int 600), some (.ref 0), some (.int last)] ∧ S' = [.lst (cells.map .int)] ∧ m + cells.length = 600) ?_ (600 - ns.length) (by omega) ⟨ns, _, rfl, rfl, by omega⟩
  rintro m ρ S' ⟨cells, last, rfl, rfl, hm⟩
  refine ⟨by omega, ?_⟩
  have hat : atL [MO.lst (cells.map .int)] 0 = some (cells.map .int) := rfl
  have gl : ∀ {F E}, wp (gLen [.ref 0] [.lst (cells.map .int)]) F E ↔ F (.int cells.length) [.lst (cells.map .int)] := fun {F E} => by
    rw [gLen_seq (show iLst [MO.lst (cells.map .int)] (.ref 0) = some (cells.map .int) from rfl), List.length_map]
  have hw : ∀ l : List Int, WF [MO.lst (l.map D.int)] := fun l => by
    have : D.los 0 (l.map D.int) = true := los_map (fun _ => rfl) l
    simp [WF, MO.lo, this]
  simp only [gl, wp_ok, wp_ret, wp_stuck, wp_bad, wp_bnd, wp_if, wp_fif, wps_ok_nx, wps_ok_rt, wps_ok_bk, wps_ok_ct, wps_ok_xc, wps_bad, wps_lft, wps_seq, wps_nil, wps_ret, wps_expr, wps_asg, wps_if, wp_run, wps_for, wps_while, wp_comp, wp_var, wp_C, wp_bin, wp_un, wp_T, wp_Tb, wp_asBl, wp_truthBl, wp_bAnd, wp_bOr, wp_bNot, wp_eIf, wp_eAnd, wp_eOr, wp_eNot, blCase_bl, wp_chain, wp_aNil, wp_aCons, wp_tup, wp_lst, wp_lstM, wp_call, wp_cl1, wp_cl2, wp_cl3, wp_cl4, wp_cl5, wp_meth, wp_isi, wp_oNone, wp_oSome, wp_sl, wp_it, wp_range1, wp_range2, wp_bYes, gEq_str, gNe_str, gEq_int, gNe_int, gEq_bl, gNe_bl, gIs_bl, gIsNot_bl, gAdd_int, gSub_int, gC_int, gI_int, gAdd_str, gAdd_tup, gAdd_lst, gNeg_int, gIx_tup, gIx_lst, gLen_tup, gLen_lst, gLen_str, gInt_int, gInt_bl, gTuple_lst, gTuple_tup, gList_lst, gList_tup, gSl_tup, gSl_lst, gSl_fl, gSl_str, srcL_tup, srcL_lst, srcL_fl, srcL_str, srcR1_int, typN, startR, List.map_cons, List.map_nil, List.length_cons, List.length_nil, Nat.reduceAdd, Nat.reduceSub, Nat.zero_add, Nat.sub_self, Nat.sub_zero, List.replicate_zero, List.replicate_succ, List.cons_append, List.nil_append, List.append_nil, List.getElem?_cons_zero, List.getElem?_cons_succ, List.set_cons_zero, List.set_cons_succ, List.set_nil, List.getElem?_nil, Option.some.injEq, exists_eq_left', exists_eq_left, exists_eq_right, reduceCtorEq, false_and, and_false, true_and, and_true, exists_false, exists_const, wipeR, Nat.zero_le, String.reduceEq, D.int.injEq, D.str.injEq, D.bl.injEq, atI_0, atI_1, atI_2, atI_3, atI_4, beq_self_eq_true, not_true_eq_false, not_false_eq_true, Int.cast_ofNat_Int, Int.reduceEq, Int.reduceLE, Int.reduceLT, Int.reduceAdd, Int.reduceSub, Int.reduceMul, Int.reduceNeg, if_true, if_false, ite_true, ite_false, Bool.false_eq_true, if_neg, if_pos, decide_eq_true_eq, Bool.not_eq_true', decide_eq_false_iff_not, eq_self_iff_true, decide_true, decide_false, Bool.not_true, Bool.not_false]
  by_cases hlt : (cells.length : Int) < 600
  · rw [if_pos hlt]
    refine mixed_ok (hw cells) fun v hv => ?_
    simp only [isTy_ref hat, gAppend_ref hat, wp_ok, wp_ret, wp_stuck, wp_bad, wp_bnd, wp_if, wp_fif, wps_ok_nx, wps_ok_rt, wps_ok_bk, wps_ok_ct, wps_ok_xc, wps_bad, wps_lft, wps_seq, wps_nil, wps_ret, wps_expr, wps_asg, wps_if, wp_run, wps_for, wps_while, wp_comp, wp_var, wp_C, wp_bin, wp_un, wp_T, wp_Tb, wp_asBl, wp_truthBl, wp_bAnd, wp_bOr, wp_bNot, wp_eIf, wp_eAnd, wp_eOr, wp_eNot, blCase_bl, wp_chain, wp_aNil, wp_aCons, wp_tup, wp_lst, wp_lstM, wp_call, wp_cl1, wp_cl2, wp_cl3, wp_cl4, wp_cl5, wp_meth, wp_isi, wp_oNone, wp_oSome, wp_sl, wp_it, wp_range1, wp_range2, wp_bYes, gEq_str, gNe_str, gEq_int, gNe_int, gEq_bl, gNe_bl, gIs_bl, gIsNot_bl, gAdd_int, gSub_int, gC_int, gI_int, gAdd_str, gAdd_tup, gAdd_lst, gNeg_int, gIx_tup, gIx_lst, gLen_tup, gLen_lst, gLen_str, gInt_int, gInt_bl, gTuple_lst, gTuple_tup, gList_lst, gList_tup, gSl_tup, gSl_lst, gSl_fl, gSl_str, srcL_tup, srcL_lst, srcL_fl, srcL_str, srcR1_int, typN, startR, List.map_cons, List.map_nil, List.length_cons, List.length_nil, Nat.reduceAdd, Nat.reduceSub, Nat.zero_add, Nat.sub_self, Nat.sub_zero, List.replicate_zero, List.replicate_succ, List.cons_append, List.nil_append, List.append_nil, List.getElem?_cons_zero, List.getElem?_cons_succ, List.set_cons_zero, List.set_cons_succ, List.set_nil, List.getElem?_nil, Option.some.injEq, exists_eq_left', exists_eq_left, exists_eq_right, reduceCtorEq, false_and, and_false, true_and, and_true, exists_false, exists_const, wipeR, Nat.zero_le, String.reduceEq, D.int.injEq, D.str.injEq, D.bl.injEq, atI_0, atI_1, atI_2, atI_3, atI_4, beq_self_eq_true, not_true_eq_false, not_false_eq_true, Int.cast_ofNat_Int, Int.reduceEq, Int.reduceLE, Int.reduceLT, Int.reduceAdd, Int.reduceSub, Int.reduceMul, Int.reduceNeg, if_true, if_false, ite_true, ite_false, Bool.false_eq_true, if_neg, if_pos, decide_eq_true_eq, Bool.not_eq_true', decide_eq_false_iff_not, eq_self_iff_true, decide_true, decide_false, Bool.not_true, Bool.not_false]
    refine ⟨by rw [sizeLine_eq, List.length_map]; omega, m - 1, by omega, cells ++ [v], v, rfl, by simp, by simp; omega⟩
  · rw [if_neg hlt]
    have gr : ∀ {F E}, wp (gRev true (.ref 0) [.lst (cells.map .int)]) F E ↔ F (.ref 1) [.lst (cells.map .int), .lst (cells.map .int).reverse] := fun {F E} => Iff.rfl
    simp only [gr, wp_ok, wp_ret, wp_stuck, wp_bad, wp_bnd, wp_if, wp_fif, wps_ok_nx, wps_ok_rt, wps_ok_bk, wps_ok_ct, wps_ok_xc, wps_bad, wps_lft, wps_seq, wps_nil, wps_ret, wps_expr, wps_asg, wps_if, wp_run, wps_for, wps_while, wp_comp, wp_var, wp_C, wp_bin, wp_un, wp_T, wp_Tb, wp_asBl, wp_truthBl, wp_bAnd, wp_bOr, wp_bNot, wp_eIf, wp_eAnd, wp_eOr, wp_eNot, blCase_bl, wp_chain, wp_aNil, wp_aCons, wp_tup, wp_lst, wp_lstM, wp_call, wp_cl1, wp_cl2, wp_cl3, wp_cl4, wp_cl5, wp_meth, wp_isi, wp_oNone, wp_oSome, wp_sl, wp_it, wp_range1, wp_range2, wp_bYes, gEq_str, gNe_str, gEq_int, gNe_int, gEq_bl, gNe_bl, gIs_bl, gIsNot_bl, gAdd_int, gSub_int, gC_int, gI_int, gAdd_str, gAdd_tup, gAdd_lst, gNeg_int, gIx_tup, gIx_lst, gLen_tup, gLen_lst, gLen_str, gInt_int, gInt_bl, gTuple_lst, gTuple_tup, gList_lst, gList_tup, gSl_tup, gSl_lst, gSl_fl, gSl_str, srcL_tup, srcL_lst, srcL_fl, srcL_str, srcR1_int, typN, startR, List.map_cons, List.map_nil, List.length_cons, List.length_nil, Nat.reduceAdd, Nat.reduceSub, Nat.zero_add, Nat.sub_self, Nat.sub_zero, List.replicate_zero, List.replicate_succ, List.cons_append, List.nil_append, List.append_nil, List.getElem?_cons_zero, List.getElem?_cons_succ, List.set_cons_zero, List.set_cons_succ, List.set_nil, List.getElem?_nil, Option.some.injEq, exists_eq_left', exists_eq_left, exists_eq_right, reduceCtorEq, false_and, and_false, true_and, and_true, exists_false, exists_const, wipeR, Nat.zero_le, String.reduceEq, D.int.injEq, D.str.injEq, D.bl.injEq, atI_0, atI_1, atI_2, atI_3, atI_4, beq_self_eq_true, not_true_eq_false, not_false_eq_true, Int.cast_ofNat_Int, Int.reduceEq, Int.reduceLE, Int.reduceLT, Int.reduceAdd, Int.reduceSub, Int.reduceMul, Int.reduceNeg, if_true, if_false, ite_true, ite_false, Bool.false_eq_true, if_neg, if_pos, decide_eq_true_eq, Bool.not_eq_true', decide_eq_false_iff_not, eq_self_iff_true, decide_true, decide_false, Bool.not_true, Bool.not_false]
    have wf : WF [MO.lst (cells.map .int), .lst (cells.reverse.map .int)] := by
      have := hw cells; have h2 := hw cells.reverse
      simp only [WF, List.all_cons, List.all_nil, Bool.and_true] at this h2 ⊢
      rw [this, h2]; rfl
    rw [← List.map_reverse]
    exact hF _ (DK.refl (cells := cells.reverse) wf (by simp; omega) rfl)
theorem gNe_refl {ds : List D} (h : RegOk ds) : wp (gNe (.tup ds) (.tup ds) S) F E ↔ F (.bl false) S := by
  obtain ⟨p, a, b, c⟩ := sh_tup fun d hd => (h d hd).sh
  have e1 : toPyS S (.tup ds) = some p := a
  have s1 : okEq p p = true := okEq_l b b (by omega)
  have : eqD S (.tup ds) (.tup ds) = some true := by
    unfold eqD
    simp only [e1, s1, if_true, SeqAt.eqv_refl p b]
  unfold gNe; rw [this]; exact Iff.rfl
theorem gNe_great {ds : List D} (h : RegOk ds) : wp (gNe (.lst ds) (.str "great") S) F E ↔ F (.bl true) S := by
  unfold gNe; rw [eq_lstStr (fun d hd => (h d hd).sh) sOk_great]; exact Iff.rfl
def RegOk1 (d : D) : Prop := ThB 1000 90 d
theorem law_ok (ns : List Int) (hl : ns.length ≤ 63) : wp (den 1000 200 i_law [.fl (ns.map .int)] []) (fun d _ => d = .bl true) (fun _ _ => False) := by
  show wp (runDef false 10 (b_law 1000 (den 1000 199)) _ _) _ _
  simp only [b_law, wp_ok, wp_ret, wp_stuck, wp_bad, wp_bnd, wp_if, wp_fif, wps_ok_nx, wps_ok_rt, wps_ok_bk, wps_ok_ct, wps_ok_xc, wps_bad, wps_lft, wps_seq, wps_nil, wps_ret, wps_expr, wps_asg, wps_if, wp_run, wps_for, wps_while, wp_comp, wp_var, wp_C, wp_bin, wp_un, wp_T, wp_Tb, wp_asBl, wp_truthBl, wp_bAnd, wp_bOr, wp_bNot, wp_eIf, wp_eAnd, wp_eOr, wp_eNot, blCase_bl, wp_chain, wp_aNil, wp_aCons, wp_tup, wp_lst, wp_lstM, wp_call, wp_cl1, wp_cl2, wp_cl3, wp_cl4, wp_cl5, wp_meth, wp_isi, wp_oNone, wp_oSome, wp_sl, wp_it, wp_range1, wp_range2, wp_bYes, gEq_str, gNe_str, gEq_int, gNe_int, gEq_bl, gNe_bl, gIs_bl, gIsNot_bl, gAdd_int, gSub_int, gC_int, gI_int, gAdd_str, gAdd_tup, gAdd_lst, gNeg_int, gIx_tup, gIx_lst, gLen_tup, gLen_lst, gLen_str, gInt_int, gInt_bl, gTuple_lst, gTuple_tup, gList_lst, gList_tup, gSl_tup, gSl_lst, gSl_fl, gSl_str, srcL_tup, srcL_lst, srcL_fl, srcL_str, srcR1_int, typN, startR, List.map_cons, List.map_nil, List.length_cons, List.length_nil, Nat.reduceAdd, Nat.reduceSub, Nat.zero_add, Nat.sub_self, Nat.sub_zero, List.replicate_zero, List.replicate_succ, List.cons_append, List.nil_append, List.append_nil, List.getElem?_cons_zero, List.getElem?_cons_succ, List.set_cons_zero, List.set_cons_succ, List.set_nil, List.getElem?_nil, Option.some.injEq, exists_eq_left', exists_eq_left, exists_eq_right, reduceCtorEq, false_and, and_false, true_and, and_true, exists_false, exists_const, wipeR, Nat.zero_le, String.reduceEq, D.int.injEq, D.str.injEq, D.bl.injEq, atI_0, atI_1, atI_2, atI_3, atI_4, beq_self_eq_true, not_true_eq_false, not_false_eq_true, Int.cast_ofNat_Int, Int.reduceEq, Int.reduceLE, Int.reduceLT, Int.reduceAdd, Int.reduceSub, Int.reduceMul, Int.reduceNeg, if_true, if_false, ite_true, ite_false, Bool.false_eq_true, if_neg, if_pos, decide_eq_true_eq, Bool.not_eq_true', decide_eq_false_iff_not, eq_self_iff_true, decide_true, decide_false, Bool.not_true, Bool.not_false, wps_raise, wps_try, wps_tryAs, tryCase_t, tryCase_f, tbl_hit, suiteOf_hit, wp_eDct, wp_eDGet, wp_eDNew, wp_eDDef, wps_dput]
  refine deck_ok (by decide) (by decide) hl fun S0 d0 => ?_
  refine draw_ok (by decide) d0 (by decide) (by decide) fun v1 S1 a0 a1 d1 => ?_
  refine draw_ok (by decide) d1 (by decide) (by decide) fun v2 S2 b0 b1 d2 => ?_
  obtain ⟨t, rfl⟩ := Int.eq_ofNat_of_zero_le a0
  obtain ⟨w, rfl⟩ := Int.eq_ofNat_of_zero_le b0
  refine code_gen (by decide) 2 t w 199 _ _ _ _ (by omega) (by omega) (by decide) d2 fun c S3 hc d3 => ?_
  refine ⟨by decide, ?_⟩
  refine wps_forM (fun i ρ S' => DK 1 S0 S' ∧ ∃ o3 o4 o5 o6 o7 o8 o9, ρ = [some (.fl (ns.map .int)), some (.ref 1), some c, o3, o4, o5, o6, o7, o8, o9]) (fun _ _ _ _ => trivial) ?_ ?_ ⟨d3, none, none, none, none, none, none, none, rfl⟩
  · rintro i d ρ S' hd ⟨d4, o3, o4, o5, o6, o7, o8, o9, rfl⟩
    refine ⟨_, rfl, ?_⟩
    obtain ⟨ops, outs, e, hce, ho, k', hk, h2, h3, h4, h5, h6, h7⟩ := hc.shape
    subst hce
    simp only [wp_ok, wp_ret, wp_stuck, wp_bad, wp_bnd, wp_if, wp_fif, wps_ok_nx, wps_ok_rt, wps_ok_bk, wps_ok_ct, wps_ok_xc, wps_bad, wps_lft, wps_seq, wps_nil, wps_ret, wps_expr, wps_asg, wps_if, wp_run, wps_for, wps_while, wp_comp, wp_var, wp_C, wp_bin, wp_un, wp_T, wp_Tb, wp_asBl, wp_truthBl, wp_bAnd, wp_bOr, wp_bNot, wp_eIf, wp_eAnd, wp_eOr, wp_eNot, blCase_bl, wp_chain, wp_aNil, wp_aCons, wp_tup, wp_lst, wp_lstM, wp_call, wp_cl1, wp_cl2, wp_cl3, wp_cl4, wp_cl5, wp_meth, wp_isi, wp_oNone, wp_oSome, wp_sl, wp_it, wp_range1, wp_range2, wp_bYes, gEq_str, gNe_str, gEq_int, gNe_int, gEq_bl, gNe_bl, gIs_bl, gIsNot_bl, gAdd_int, gSub_int, gC_int, gI_int, gAdd_str, gAdd_tup, gAdd_lst, gNeg_int, gIx_tup, gIx_lst, gLen_tup, gLen_lst, gLen_str, gInt_int, gInt_bl, gTuple_lst, gTuple_tup, gList_lst, gList_tup, gSl_tup, gSl_lst, gSl_fl, gSl_str, srcL_tup, srcL_lst, srcL_fl, srcL_str, srcR1_int, typN, startR, List.map_cons, List.map_nil, List.length_cons, List.length_nil, Nat.reduceAdd, Nat.reduceSub, Nat.zero_add, Nat.sub_self, Nat.sub_zero, List.replicate_zero, List.replicate_succ, List.cons_append, List.nil_append, List.append_nil, List.getElem?_cons_zero, List.getElem?_cons_succ, List.set_cons_zero, List.set_cons_succ, List.set_nil, List.getElem?_nil, Option.some.injEq, exists_eq_left', exists_eq_left, exists_eq_right, reduceCtorEq, false_and, and_false, true_and, and_true, exists_false, exists_const, wipeR, Nat.zero_le, String.reduceEq, D.int.injEq, D.str.injEq, D.bl.injEq, atI_0, atI_1, atI_2, atI_3, atI_4, beq_self_eq_true, not_true_eq_false, not_false_eq_true, Int.cast_ofNat_Int, Int.reduceEq, Int.reduceLE, Int.reduceLT, Int.reduceAdd, Int.reduceSub, Int.reduceMul, Int.reduceNeg, if_true, if_false, ite_true, ite_false, Bool.false_eq_true, if_neg, if_pos, decide_eq_true_eq, Bool.not_eq_true', decide_eq_false_iff_not, eq_self_iff_true, decide_true, decide_false, Bool.not_true, Bool.not_false, wps_raise, wps_try, wps_tryAs, tryCase_t, tryCase_f, tbl_hit, suiteOf_hit, wp_eDct, wp_eDGet, wp_eDNew, wp_eDDef, wps_dput]
    refine ⟨sl (by decide), draw_ok (by decide) d4 (by decide) (by decide) fun v3 S4 p0 p1 d5 => ?_⟩
    refine pick p0 p1 (fun r => r = .int 0 ∨ r = .int 1 ∨ r = .int (-1)) (by intro r hr; simp only [List.mem_cons, List.not_mem_nil, or_false] at hr; rcases hr with rfl | rfl | rfl | rfl | rfl | rfl | rfl | rfl <;> simp) fun r hr => ?_
    have hm : ∃ m : Int, r = .int m ∧ -1 ≤ m ∧ m ≤ 1 := by rcases hr with rfl | rfl | rfl <;> exact ⟨_, rfl, by decide, by decide⟩
    obtain ⟨m, rfl, m0, m1⟩ := hm
    have hb : bnd62 ((t : Int) + m) = true := by simp [bnd62]; omega
    have hlen : ((t : Int) + m).toNat ≤ 5 := by omega
    simp only [hb, rangeD_len, wp_ok, wp_ret, wp_stuck, wp_bad, wp_bnd, wp_if, wp_fif, wps_ok_nx, wps_ok_rt, wps_ok_bk, wps_ok_ct, wps_ok_xc, wps_bad, wps_lft, wps_seq, wps_nil, wps_ret, wps_expr, wps_asg, wps_if, wp_run, wps_for, wps_while, wp_comp, wp_var, wp_C, wp_bin, wp_un, wp_T, wp_Tb, wp_asBl, wp_truthBl, wp_bAnd, wp_bOr, wp_bNot, wp_eIf, wp_eAnd, wp_eOr, wp_eNot, blCase_bl, wp_chain, wp_aNil, wp_aCons, wp_tup, wp_lst, wp_lstM, wp_call, wp_cl1, wp_cl2, wp_cl3, wp_cl4, wp_cl5, wp_meth, wp_isi, wp_oNone, wp_oSome, wp_sl, wp_it, wp_range1, wp_range2, wp_bYes, gEq_str, gNe_str, gEq_int, gNe_int, gEq_bl, gNe_bl, gIs_bl, gIsNot_bl, gAdd_int, gSub_int, gC_int, gI_int, gAdd_str, gAdd_tup, gAdd_lst, gNeg_int, gIx_tup, gIx_lst, gLen_tup, gLen_lst, gLen_str, gInt_int, gInt_bl, gTuple_lst, gTuple_tup, gList_lst, gList_tup, gSl_tup, gSl_lst, gSl_fl, gSl_str, srcL_tup, srcL_lst, srcL_fl, srcL_str, srcR1_int, typN, startR, List.map_cons, List.map_nil, List.length_cons, List.length_nil, Nat.reduceAdd, Nat.reduceSub, Nat.zero_add, Nat.sub_self, Nat.sub_zero, List.replicate_zero, List.replicate_succ, List.cons_append, List.nil_append, List.append_nil, List.getElem?_cons_zero, List.getElem?_cons_succ, List.set_cons_zero, List.set_cons_succ, List.set_nil, List.getElem?_nil, Option.some.injEq, exists_eq_left', exists_eq_left, exists_eq_right, reduceCtorEq, false_and, and_false, true_and, and_true, exists_false, exists_const, wipeR, Nat.zero_le, String.reduceEq, D.int.injEq, D.str.injEq, D.bl.injEq, atI_0, atI_1, atI_2, atI_3, atI_4, beq_self_eq_true, not_true_eq_false, not_false_eq_true, Int.cast_ofNat_Int, Int.reduceEq, Int.reduceLE, Int.reduceLT, Int.reduceAdd, Int.reduceSub, Int.reduceMul, Int.reduceNeg, if_true, if_false, ite_true, ite_false, Bool.false_eq_true, if_neg, if_pos, decide_eq_true_eq, Bool.not_eq_true', decide_eq_false_iff_not, eq_self_iff_true, decide_true, decide_false, Bool.not_true, Bool.not_false, wps_raise, wps_try, wps_tryAs, tryCase_t, tryCase_f, tbl_hit, suiteOf_hit, wp_eDct, wp_eDGet, wp_eDNew, wp_eDDef, wps_dput]
    refine ⟨small_line (by omega), comp_gen (RegOk1) d5 (fun d hd S' dd => ?_) (fun ys S6 hyl hy d6 => ?_)⟩
    · simp only [sl, Nat.reduceLeDiff, wp_ok, wp_ret, wp_stuck, wp_bad, wp_bnd, wp_if, wp_fif, wps_ok_nx, wps_ok_rt, wps_ok_bk, wps_ok_ct, wps_ok_xc, wps_bad, wps_lft, wps_seq, wps_nil, wps_ret, wps_expr, wps_asg, wps_if, wp_run, wps_for, wps_while, wp_comp, wp_var, wp_C, wp_bin, wp_un, wp_T, wp_Tb, wp_asBl, wp_truthBl, wp_bAnd, wp_bOr, wp_bNot, wp_eIf, wp_eAnd, wp_eOr, wp_eNot, blCase_bl, wp_chain, wp_aNil, wp_aCons, wp_tup, wp_lst, wp_lstM, wp_call, wp_cl1, wp_cl2, wp_cl3, wp_cl4, wp_cl5, wp_meth, wp_isi, wp_oNone, wp_oSome, wp_sl, wp_it, wp_range1, wp_range2, wp_bYes, gEq_str, gNe_str, gEq_int, gNe_int, gEq_bl, gNe_bl, gIs_bl, gIsNot_bl, gAdd_int, gSub_int, gC_int, gI_int, gAdd_str, gAdd_tup, gAdd_lst, gNeg_int, gIx_tup, gIx_lst, gLen_tup, gLen_lst, gLen_str, gInt_int, gInt_bl, gTuple_lst, gTuple_tup, gList_lst, gList_tup, gSl_tup, gSl_lst, gSl_fl, gSl_str, srcL_tup, srcL_lst, srcL_fl, srcL_str, srcR1_int, typN, startR, List.map_cons, List.map_nil, List.length_cons, List.length_nil, Nat.reduceAdd, Nat.reduceSub, Nat.zero_add, Nat.sub_self, Nat.sub_zero, List.replicate_zero, List.replicate_succ, List.cons_append, List.nil_append, List.append_nil, List.getElem?_cons_zero, List.getElem?_cons_succ, List.set_cons_zero, List.set_cons_succ, List.set_nil, List.getElem?_nil, Option.some.injEq, exists_eq_left', exists_eq_left, exists_eq_right, reduceCtorEq, false_and, and_false, true_and, and_true, exists_false, exists_const, wipeR, Nat.zero_le, String.reduceEq, D.int.injEq, D.str.injEq, D.bl.injEq, atI_0, atI_1, atI_2, atI_3, atI_4, beq_self_eq_true, not_true_eq_false, not_false_eq_true, Int.cast_ofNat_Int, Int.reduceEq, Int.reduceLE, Int.reduceLT, Int.reduceAdd, Int.reduceSub, Int.reduceMul, Int.reduceNeg, if_true, if_false, ite_true, ite_false, Bool.false_eq_true, if_neg, if_pos, decide_eq_true_eq, Bool.not_eq_true', decide_eq_false_iff_not, eq_self_iff_true, decide_true, decide_false, Bool.not_true, Bool.not_false, wps_raise, wps_try, wps_tryAs, tryCase_t, tryCase_f, tbl_hit, suiteOf_hit, wp_eDct, wp_eDGet, wp_eDNew, wp_eDDef, wps_dput]
      refine number_gen (by decide) dd fun i S7 i0 i1 d7 => ?_
      exact ⟨.inl ⟨i, rfl, i0, i1⟩, d7⟩
    rw [rangeD_len] at hyl
    refine draw_ok (by decide) d6 (by decide) (by decide) fun v4 S7 q0 q1 d7 => ?_
    simp only [wp_ok, wp_ret, wp_stuck, wp_bad, wp_bnd, wp_if, wp_fif, wps_ok_nx, wps_ok_rt, wps_ok_bk, wps_ok_ct, wps_ok_xc, wps_bad, wps_lft, wps_seq, wps_nil, wps_ret, wps_expr, wps_asg, wps_if, wp_run, wps_for, wps_while, wp_comp, wp_var, wp_C, wp_bin, wp_un, wp_T, wp_Tb, wp_asBl, wp_truthBl, wp_bAnd, wp_bOr, wp_bNot, wp_eIf, wp_eAnd, wp_eOr, wp_eNot, blCase_bl, wp_chain, wp_aNil, wp_aCons, wp_tup, wp_lst, wp_lstM, wp_call, wp_cl1, wp_cl2, wp_cl3, wp_cl4, wp_cl5, wp_meth, wp_isi, wp_oNone, wp_oSome, wp_sl, wp_it, wp_range1, wp_range2, wp_bYes, gEq_str, gNe_str, gEq_int, gNe_int, gEq_bl, gNe_bl, gIs_bl, gIsNot_bl, gAdd_int, gSub_int, gC_int, gI_int, gAdd_str, gAdd_tup, gAdd_lst, gNeg_int, gIx_tup, gIx_lst, gLen_tup, gLen_lst, gLen_str, gInt_int, gInt_bl, gTuple_lst, gTuple_tup, gList_lst, gList_tup, gSl_tup, gSl_lst, gSl_fl, gSl_str, srcL_tup, srcL_lst, srcL_fl, srcL_str, srcR1_int, typN, startR, List.map_cons, List.map_nil, List.length_cons, List.length_nil, Nat.reduceAdd, Nat.reduceSub, Nat.zero_add, Nat.sub_self, Nat.sub_zero, List.replicate_zero, List.replicate_succ, List.cons_append, List.nil_append, List.append_nil, List.getElem?_cons_zero, List.getElem?_cons_succ, List.set_cons_zero, List.set_cons_succ, List.set_nil, List.getElem?_nil, Option.some.injEq, exists_eq_left', exists_eq_left, exists_eq_right, reduceCtorEq, false_and, and_false, true_and, and_true, exists_false, exists_const, wipeR, Nat.zero_le, String.reduceEq, D.int.injEq, D.str.injEq, D.bl.injEq, atI_0, atI_1, atI_2, atI_3, atI_4, beq_self_eq_true, not_true_eq_false, not_false_eq_true, Int.cast_ofNat_Int, Int.reduceEq, Int.reduceLE, Int.reduceLT, Int.reduceAdd, Int.reduceSub, Int.reduceMul, Int.reduceNeg, if_true, if_false, ite_true, ite_false, Bool.false_eq_true, if_neg, if_pos, decide_eq_true_eq, Bool.not_eq_true', decide_eq_false_iff_not, eq_self_iff_true, decide_true, decide_false, Bool.not_true, Bool.not_false, wps_raise, wps_try, wps_tryAs, tryCase_t, tryCase_f, tbl_hit, suiteOf_hit, wp_eDct, wp_eDGet, wp_eDNew, wp_eDDef, wps_dput]
    have two : v4 = 0 ∨ v4 = 1 := by omega
    have hys : RegOk ys := fun d hd => hy d hd
    have hyl5 : ys.length ≤ 5 := by omega
    clear hyl hy
    rcases two with rfl | rfl
    · simp only [wp_ok, wp_ret, wp_stuck, wp_bad, wp_bnd, wp_if, wp_fif, wps_ok_nx, wps_ok_rt, wps_ok_bk, wps_ok_ct, wps_ok_xc, wps_bad, wps_lft, wps_seq, wps_nil, wps_ret, wps_expr, wps_asg, wps_if, wp_run, wps_for, wps_while, wp_comp, wp_var, wp_C, wp_bin, wp_un, wp_T, wp_Tb, wp_asBl, wp_truthBl, wp_bAnd, wp_bOr, wp_bNot, wp_eIf, wp_eAnd, wp_eOr, wp_eNot, blCase_bl, wp_chain, wp_aNil, wp_aCons, wp_tup, wp_lst, wp_lstM, wp_call, wp_cl1, wp_cl2, wp_cl3, wp_cl4, wp_cl5, wp_meth, wp_isi, wp_oNone, wp_oSome, wp_sl, wp_it, wp_range1, wp_range2, wp_bYes, gEq_str, gNe_str, gEq_int, gNe_int, gEq_bl, gNe_bl, gIs_bl, gIsNot_bl, gAdd_int, gSub_int, gC_int, gI_int, gAdd_str, gAdd_tup, gAdd_lst, gNeg_int, gIx_tup, gIx_lst, gLen_tup, gLen_lst, gLen_str, gInt_int, gInt_bl, gTuple_lst, gTuple_tup, gList_lst, gList_tup, gSl_tup, gSl_lst, gSl_fl, gSl_str, srcL_tup, srcL_lst, srcL_fl, srcL_str, srcR1_int, typN, startR, List.map_cons, List.map_nil, List.length_cons, List.length_nil, Nat.reduceAdd, Nat.reduceSub, Nat.zero_add, Nat.sub_self, Nat.sub_zero, List.replicate_zero, List.replicate_succ, List.cons_append, List.nil_append, List.append_nil, List.getElem?_cons_zero, List.getElem?_cons_succ, List.set_cons_zero, List.set_cons_succ, List.set_nil, List.getElem?_nil, Option.some.injEq, exists_eq_left', exists_eq_left, exists_eq_right, reduceCtorEq, false_and, and_false, true_and, and_true, exists_false, exists_const, wipeR, Nat.zero_le, String.reduceEq, D.int.injEq, D.str.injEq, D.bl.injEq, atI_0, atI_1, atI_2, atI_3, atI_4, beq_self_eq_true, not_true_eq_false, not_false_eq_true, Int.cast_ofNat_Int, Int.reduceEq, Int.reduceLE, Int.reduceLT, Int.reduceAdd, Int.reduceSub, Int.reduceMul, Int.reduceNeg, if_true, if_false, ite_true, ite_false, Bool.false_eq_true, if_neg, if_pos, decide_eq_true_eq, Bool.not_eq_true', decide_eq_false_iff_not, eq_self_iff_true, decide_true, decide_false, Bool.not_true, Bool.not_false, wps_raise, wps_try, wps_tryAs, tryCase_t, tryCase_f, tbl_hit, suiteOf_hit, wp_eDct, wp_eDGet, wp_eDNew, wp_eDDef, wps_dput]
      refine told_ok 3 t w _ ys 199 _ _ _ hc hys (by omega) (by decide) d7.wf' ?_
      cases hr : told 3 (.tup [.int t, .tup ops, .tup outs]) ys with
      | great =>
        show wp (gNe (.str "great") (.str "great") S7) _ _
        simp only [wp_ok, wp_ret, wp_stuck, wp_bad, wp_bnd, wp_if, wp_fif, wps_ok_nx, wps_ok_rt, wps_ok_bk, wps_ok_ct, wps_ok_xc, wps_bad, wps_lft, wps_seq, wps_nil, wps_ret, wps_expr, wps_asg, wps_if, wp_run, wps_for, wps_while, wp_comp, wp_var, wp_C, wp_bin, wp_un, wp_T, wp_Tb, wp_asBl, wp_truthBl, wp_bAnd, wp_bOr, wp_bNot, wp_eIf, wp_eAnd, wp_eOr, wp_eNot, blCase_bl, wp_chain, wp_aNil, wp_aCons, wp_tup, wp_lst, wp_lstM, wp_call, wp_cl1, wp_cl2, wp_cl3, wp_cl4, wp_cl5, wp_meth, wp_isi, wp_oNone, wp_oSome, wp_sl, wp_it, wp_range1, wp_range2, wp_bYes, gEq_str, gNe_str, gEq_int, gNe_int, gEq_bl, gNe_bl, gIs_bl, gIsNot_bl, gAdd_int, gSub_int, gC_int, gI_int, gAdd_str, gAdd_tup, gAdd_lst, gNeg_int, gIx_tup, gIx_lst, gLen_tup, gLen_lst, gLen_str, gInt_int, gInt_bl, gTuple_lst, gTuple_tup, gList_lst, gList_tup, gSl_tup, gSl_lst, gSl_fl, gSl_str, srcL_tup, srcL_lst, srcL_fl, srcL_str, srcR1_int, typN, startR, List.map_cons, List.map_nil, List.length_cons, List.length_nil, Nat.reduceAdd, Nat.reduceSub, Nat.zero_add, Nat.sub_self, Nat.sub_zero, List.replicate_zero, List.replicate_succ, List.cons_append, List.nil_append, List.append_nil, List.getElem?_cons_zero, List.getElem?_cons_succ, List.set_cons_zero, List.set_cons_succ, List.set_nil, List.getElem?_nil, Option.some.injEq, exists_eq_left', exists_eq_left, exists_eq_right, reduceCtorEq, false_and, and_false, true_and, and_true, exists_false, exists_const, wipeR, Nat.zero_le, String.reduceEq, D.int.injEq, D.str.injEq, D.bl.injEq, atI_0, atI_1, atI_2, atI_3, atI_4, beq_self_eq_true, not_true_eq_false, not_false_eq_true, Int.cast_ofNat_Int, Int.reduceEq, Int.reduceLE, Int.reduceLT, Int.reduceAdd, Int.reduceSub, Int.reduceMul, Int.reduceNeg, if_true, if_false, ite_true, ite_false, Bool.false_eq_true, if_neg, if_pos, decide_eq_true_eq, Bool.not_eq_true', decide_eq_false_iff_not, eq_self_iff_true, decide_true, decide_false, Bool.not_true, Bool.not_false, wps_raise, wps_try, wps_tryAs, tryCase_t, tryCase_f, tbl_hit, suiteOf_hit, wp_eDct, wp_eDGet, wp_eDNew, wp_eDDef, wps_dput]
        refine ⟨by decide, by decide, wps_forM (fun i ρ S' => DK 1 S0 S' ∧ ∃ o3 o4 o5 o6 o7 o8 o9, ρ = [some (.fl (ns.map .int)), some (.ref 1), some (.tup [.int t, .tup ops, .tup outs]), o3, o4, o5, o6, o7, o8, o9]) (fun _ _ _ _ => trivial) (fun i d ρ S' h _ => ?_) (fun _ _ h => h) ⟨d7, _, _, _, _, _, _, _, rfl⟩⟩
        rw [show rangeD 0 (Int.toNat 0) = [] from rfl] at h
        cases h
      | non =>
        have e0 : ∀ {F E}, wp (gNe .non (.str "great") S7) F E ↔ F (.bl true) S7 := fun {F E} => Iff.rfl
        have g0 : ∀ {F E}, wp (gMul (.int 2) (.int 1) S7) F E ↔ F (.int 2) S7 := fun {F E} => Iff.rfl
        simp only [encR, e0, g0, wp_ok, wp_ret, wp_stuck, wp_bad, wp_bnd, wp_if, wp_fif, wps_ok_nx, wps_ok_rt, wps_ok_bk, wps_ok_ct, wps_ok_xc, wps_bad, wps_lft, wps_seq, wps_nil, wps_ret, wps_expr, wps_asg, wps_if, wp_run, wps_for, wps_while, wp_comp, wp_var, wp_C, wp_bin, wp_un, wp_T, wp_Tb, wp_asBl, wp_truthBl, wp_bAnd, wp_bOr, wp_bNot, wp_eIf, wp_eAnd, wp_eOr, wp_eNot, blCase_bl, wp_chain, wp_aNil, wp_aCons, wp_tup, wp_lst, wp_lstM, wp_call, wp_cl1, wp_cl2, wp_cl3, wp_cl4, wp_cl5, wp_meth, wp_isi, wp_oNone, wp_oSome, wp_sl, wp_it, wp_range1, wp_range2, wp_bYes, gEq_str, gNe_str, gEq_int, gNe_int, gEq_bl, gNe_bl, gIs_bl, gIsNot_bl, gAdd_int, gSub_int, gC_int, gI_int, gAdd_str, gAdd_tup, gAdd_lst, gNeg_int, gIx_tup, gIx_lst, gLen_tup, gLen_lst, gLen_str, gInt_int, gInt_bl, gTuple_lst, gTuple_tup, gList_lst, gList_tup, gSl_tup, gSl_lst, gSl_fl, gSl_str, srcL_tup, srcL_lst, srcL_fl, srcL_str, srcR1_int, typN, startR, List.map_cons, List.map_nil, List.length_cons, List.length_nil, Nat.reduceAdd, Nat.reduceSub, Nat.zero_add, Nat.sub_self, Nat.sub_zero, List.replicate_zero, List.replicate_succ, List.cons_append, List.nil_append, List.append_nil, List.getElem?_cons_zero, List.getElem?_cons_succ, List.set_cons_zero, List.set_cons_succ, List.set_nil, List.getElem?_nil, Option.some.injEq, exists_eq_left', exists_eq_left, exists_eq_right, reduceCtorEq, false_and, and_false, true_and, and_true, exists_false, exists_const, wipeR, Nat.zero_le, String.reduceEq, D.int.injEq, D.str.injEq, D.bl.injEq, atI_0, atI_1, atI_2, atI_3, atI_4, beq_self_eq_true, not_true_eq_false, not_false_eq_true, Int.cast_ofNat_Int, Int.reduceEq, Int.reduceLE, Int.reduceLT, Int.reduceAdd, Int.reduceSub, Int.reduceMul, Int.reduceNeg, if_true, if_false, ite_true, ite_false, Bool.false_eq_true, if_neg, if_pos, decide_eq_true_eq, Bool.not_eq_true', decide_eq_false_iff_not, eq_self_iff_true, decide_true, decide_false, Bool.not_true, Bool.not_false, wps_raise, wps_try, wps_tryAs, tryCase_t, tryCase_f, tbl_hit, suiteOf_hit, wp_eDct, wp_eDGet, wp_eDNew, wp_eDDef, wps_dput]
        refine ⟨rfl, ?_⟩
        refine wps_forM (fun i ρ S' => S' = S7 ∧ ∃ o7 o8 o9, ρ = [some (.fl (ns.map .int)), some (.ref 1), some (.tup [.int t, .tup ops, .tup outs]), some d, some (.int ((t : Int) + m)), some (.lst ys), some .non, o7, o8, o9]) (fun _ _ _ _ => trivial) ?_ ?_ ⟨rfl, _, _, _, rfl⟩
        · rintro i2 d2 ρ2 S2 hd2 ⟨rfl, o7, o8, o9, rfl⟩
          refine ⟨_, rfl, ?_⟩
          simp only [wp_ok, wp_ret, wp_stuck, wp_bad, wp_bnd, wp_if, wp_fif, wps_ok_nx, wps_ok_rt, wps_ok_bk, wps_ok_ct, wps_ok_xc, wps_bad, wps_lft, wps_seq, wps_nil, wps_ret, wps_expr, wps_asg, wps_if, wp_run, wps_for, wps_while, wp_comp, wp_var, wp_C, wp_bin, wp_un, wp_T, wp_Tb, wp_asBl, wp_truthBl, wp_bAnd, wp_bOr, wp_bNot, wp_eIf, wp_eAnd, wp_eOr, wp_eNot, blCase_bl, wp_chain, wp_aNil, wp_aCons, wp_tup, wp_lst, wp_lstM, wp_call, wp_cl1, wp_cl2, wp_cl3, wp_cl4, wp_cl5, wp_meth, wp_isi, wp_oNone, wp_oSome, wp_sl, wp_it, wp_range1, wp_range2, wp_bYes, gEq_str, gNe_str, gEq_int, gNe_int, gEq_bl, gNe_bl, gIs_bl, gIsNot_bl, gAdd_int, gSub_int, gC_int, gI_int, gAdd_str, gAdd_tup, gAdd_lst, gNeg_int, gIx_tup, gIx_lst, gLen_tup, gLen_lst, gLen_str, gInt_int, gInt_bl, gTuple_lst, gTuple_tup, gList_lst, gList_tup, gSl_tup, gSl_lst, gSl_fl, gSl_str, srcL_tup, srcL_lst, srcL_fl, srcL_str, srcR1_int, typN, startR, List.map_cons, List.map_nil, List.length_cons, List.length_nil, Nat.reduceAdd, Nat.reduceSub, Nat.zero_add, Nat.sub_self, Nat.sub_zero, List.replicate_zero, List.replicate_succ, List.cons_append, List.nil_append, List.append_nil, List.getElem?_cons_zero, List.getElem?_cons_succ, List.set_cons_zero, List.set_cons_succ, List.set_nil, List.getElem?_nil, Option.some.injEq, exists_eq_left', exists_eq_left, exists_eq_right, reduceCtorEq, false_and, and_false, true_and, and_true, exists_false, exists_const, wipeR, Nat.zero_le, String.reduceEq, D.int.injEq, D.str.injEq, D.bl.injEq, atI_0, atI_1, atI_2, atI_3, atI_4, beq_self_eq_true, not_true_eq_false, not_false_eq_true, Int.cast_ofNat_Int, Int.reduceEq, Int.reduceLE, Int.reduceLT, Int.reduceAdd, Int.reduceSub, Int.reduceMul, Int.reduceNeg, if_true, if_false, ite_true, ite_false, Bool.false_eq_true, if_neg, if_pos, decide_eq_true_eq, Bool.not_eq_true', decide_eq_false_iff_not, eq_self_iff_true, decide_true, decide_false, Bool.not_true, Bool.not_false, wps_raise, wps_try, wps_tryAs, tryCase_t, tryCase_f, tbl_hit, suiteOf_hit, wp_eDct, wp_eDGet, wp_eDNew, wp_eDDef, wps_dput]
          refine run_told_ok (by decide) hc hys (by omega) d7.wf' (by rw [hr]; intro h; cases h) (fun rs h => by rw [hr] at h; cases h) (fun _ => ?_)
          have i0 : ∀ {F E}, wp (gIs .non .non S2) F E ↔ F (.bl true) S2 := fun {F E} => Iff.rfl
          have n0 : ∀ {F E}, wp (gNe (.lst [.bl true, .bl true, .bl false, .bl false]) (.lst [.bl true, .bl true, .bl false, .bl false]) S2) F E ↔ F (.bl false) S2 := fun {F E} => Iff.rfl
          simp only [i0, n0, sl, Nat.reduceLeDiff, wp_ok, wp_ret, wp_stuck, wp_bad, wp_bnd, wp_if, wp_fif, wps_ok_nx, wps_ok_rt, wps_ok_bk, wps_ok_ct, wps_ok_xc, wps_bad, wps_lft, wps_seq, wps_nil, wps_ret, wps_expr, wps_asg, wps_if, wp_run, wps_for, wps_while, wp_comp, wp_var, wp_C, wp_bin, wp_un, wp_T, wp_Tb, wp_asBl, wp_truthBl, wp_bAnd, wp_bOr, wp_bNot, wp_eIf, wp_eAnd, wp_eOr, wp_eNot, blCase_bl, wp_chain, wp_aNil, wp_aCons, wp_tup, wp_lst, wp_lstM, wp_call, wp_cl1, wp_cl2, wp_cl3, wp_cl4, wp_cl5, wp_meth, wp_isi, wp_oNone, wp_oSome, wp_sl, wp_it, wp_range1, wp_range2, wp_bYes, gEq_str, gNe_str, gEq_int, gNe_int, gEq_bl, gNe_bl, gIs_bl, gIsNot_bl, gAdd_int, gSub_int, gC_int, gI_int, gAdd_str, gAdd_tup, gAdd_lst, gNeg_int, gIx_tup, gIx_lst, gLen_tup, gLen_lst, gLen_str, gInt_int, gInt_bl, gTuple_lst, gTuple_tup, gList_lst, gList_tup, gSl_tup, gSl_lst, gSl_fl, gSl_str, srcL_tup, srcL_lst, srcL_fl, srcL_str, srcR1_int, typN, startR, List.map_cons, List.map_nil, List.length_cons, List.length_nil, Nat.reduceAdd, Nat.reduceSub, Nat.zero_add, Nat.sub_self, Nat.sub_zero, List.replicate_zero, List.replicate_succ, List.cons_append, List.nil_append, List.append_nil, List.getElem?_cons_zero, List.getElem?_cons_succ, List.set_cons_zero, List.set_cons_succ, List.set_nil, List.getElem?_nil, Option.some.injEq, exists_eq_left', exists_eq_left, exists_eq_right, reduceCtorEq, false_and, and_false, true_and, and_true, exists_false, exists_const, wipeR, Nat.zero_le, String.reduceEq, D.int.injEq, D.str.injEq, D.bl.injEq, atI_0, atI_1, atI_2, atI_3, atI_4, beq_self_eq_true, not_true_eq_false, not_false_eq_true, Int.cast_ofNat_Int, Int.reduceEq, Int.reduceLE, Int.reduceLT, Int.reduceAdd, Int.reduceSub, Int.reduceMul, Int.reduceNeg, if_true, if_false, ite_true, ite_false, Bool.false_eq_true, if_neg, if_pos, decide_eq_true_eq, Bool.not_eq_true', decide_eq_false_iff_not, eq_self_iff_true, decide_true, decide_false, Bool.not_true, Bool.not_false, wps_raise, wps_try, wps_tryAs, tryCase_t, tryCase_f, tbl_hit, suiteOf_hit, wp_eDct, wp_eDGet, wp_eDNew, wp_eDDef, wps_dput]
          exact ⟨_, _, _, rfl⟩
        · rintro ρ2 S2 ⟨rfl, o7, o8, o9, rfl⟩
          exact ⟨d7, _, _, _, _, _, _, _, rfl⟩
      | some rs =>
        have hlt : ys.length = t := by
          by_cases h : (ys.length : Int) = (t : Nat)
          · omega
          · simp only [told, h, if_false] at hr; cases hr
        have hro := (told_good 3 t w _ ys rs hc hys hlt hr).2
        have g0 : ∀ {F E}, wp (gMul (.int 2) (.int 1) S7) F E ↔ F (.int 2) S7 := fun {F E} => Iff.rfl
        simp only [encR, gNe_great hro, g0, wp_ok, wp_ret, wp_stuck, wp_bad, wp_bnd, wp_if, wp_fif, wps_ok_nx, wps_ok_rt, wps_ok_bk, wps_ok_ct, wps_ok_xc, wps_bad, wps_lft, wps_seq, wps_nil, wps_ret, wps_expr, wps_asg, wps_if, wp_run, wps_for, wps_while, wp_comp, wp_var, wp_C, wp_bin, wp_un, wp_T, wp_Tb, wp_asBl, wp_truthBl, wp_bAnd, wp_bOr, wp_bNot, wp_eIf, wp_eAnd, wp_eOr, wp_eNot, blCase_bl, wp_chain, wp_aNil, wp_aCons, wp_tup, wp_lst, wp_lstM, wp_call, wp_cl1, wp_cl2, wp_cl3, wp_cl4, wp_cl5, wp_meth, wp_isi, wp_oNone, wp_oSome, wp_sl, wp_it, wp_range1, wp_range2, wp_bYes, gEq_str, gNe_str, gEq_int, gNe_int, gEq_bl, gNe_bl, gIs_bl, gIsNot_bl, gAdd_int, gSub_int, gC_int, gI_int, gAdd_str, gAdd_tup, gAdd_lst, gNeg_int, gIx_tup, gIx_lst, gLen_tup, gLen_lst, gLen_str, gInt_int, gInt_bl, gTuple_lst, gTuple_tup, gList_lst, gList_tup, gSl_tup, gSl_lst, gSl_fl, gSl_str, srcL_tup, srcL_lst, srcL_fl, srcL_str, srcR1_int, typN, startR, List.map_cons, List.map_nil, List.length_cons, List.length_nil, Nat.reduceAdd, Nat.reduceSub, Nat.zero_add, Nat.sub_self, Nat.sub_zero, List.replicate_zero, List.replicate_succ, List.cons_append, List.nil_append, List.append_nil, List.getElem?_cons_zero, List.getElem?_cons_succ, List.set_cons_zero, List.set_cons_succ, List.set_nil, List.getElem?_nil, Option.some.injEq, exists_eq_left', exists_eq_left, exists_eq_right, reduceCtorEq, false_and, and_false, true_and, and_true, exists_false, exists_const, wipeR, Nat.zero_le, String.reduceEq, D.int.injEq, D.str.injEq, D.bl.injEq, atI_0, atI_1, atI_2, atI_3, atI_4, beq_self_eq_true, not_true_eq_false, not_false_eq_true, Int.cast_ofNat_Int, Int.reduceEq, Int.reduceLE, Int.reduceLT, Int.reduceAdd, Int.reduceSub, Int.reduceMul, Int.reduceNeg, if_true, if_false, ite_true, ite_false, Bool.false_eq_true, if_neg, if_pos, decide_eq_true_eq, Bool.not_eq_true', decide_eq_false_iff_not, eq_self_iff_true, decide_true, decide_false, Bool.not_true, Bool.not_false, wps_raise, wps_try, wps_tryAs, tryCase_t, tryCase_f, tbl_hit, suiteOf_hit, wp_eDct, wp_eDGet, wp_eDNew, wp_eDDef, wps_dput]
        refine ⟨rfl, ?_⟩
        refine wps_forM (fun i ρ S' => S' = S7 ∧ ∃ o7 o8 o9, ρ = [some (.fl (ns.map .int)), some (.ref 1), some (.tup [.int t, .tup ops, .tup outs]), some d, some (.int ((t : Int) + m)), some (.lst ys), some (.lst rs), o7, o8, o9]) (fun _ _ _ _ => trivial) ?_ ?_ ⟨rfl, _, _, _, rfl⟩
        · rintro i2 d2 ρ2 S2 hd2 ⟨rfl, o7, o8, o9, rfl⟩
          refine ⟨_, rfl, ?_⟩
          simp only [wp_ok, wp_ret, wp_stuck, wp_bad, wp_bnd, wp_if, wp_fif, wps_ok_nx, wps_ok_rt, wps_ok_bk, wps_ok_ct, wps_ok_xc, wps_bad, wps_lft, wps_seq, wps_nil, wps_ret, wps_expr, wps_asg, wps_if, wp_run, wps_for, wps_while, wp_comp, wp_var, wp_C, wp_bin, wp_un, wp_T, wp_Tb, wp_asBl, wp_truthBl, wp_bAnd, wp_bOr, wp_bNot, wp_eIf, wp_eAnd, wp_eOr, wp_eNot, blCase_bl, wp_chain, wp_aNil, wp_aCons, wp_tup, wp_lst, wp_lstM, wp_call, wp_cl1, wp_cl2, wp_cl3, wp_cl4, wp_cl5, wp_meth, wp_isi, wp_oNone, wp_oSome, wp_sl, wp_it, wp_range1, wp_range2, wp_bYes, gEq_str, gNe_str, gEq_int, gNe_int, gEq_bl, gNe_bl, gIs_bl, gIsNot_bl, gAdd_int, gSub_int, gC_int, gI_int, gAdd_str, gAdd_tup, gAdd_lst, gNeg_int, gIx_tup, gIx_lst, gLen_tup, gLen_lst, gLen_str, gInt_int, gInt_bl, gTuple_lst, gTuple_tup, gList_lst, gList_tup, gSl_tup, gSl_lst, gSl_fl, gSl_str, srcL_tup, srcL_lst, srcL_fl, srcL_str, srcR1_int, typN, startR, List.map_cons, List.map_nil, List.length_cons, List.length_nil, Nat.reduceAdd, Nat.reduceSub, Nat.zero_add, Nat.sub_self, Nat.sub_zero, List.replicate_zero, List.replicate_succ, List.cons_append, List.nil_append, List.append_nil, List.getElem?_cons_zero, List.getElem?_cons_succ, List.set_cons_zero, List.set_cons_succ, List.set_nil, List.getElem?_nil, Option.some.injEq, exists_eq_left', exists_eq_left, exists_eq_right, reduceCtorEq, false_and, and_false, true_and, and_true, exists_false, exists_const, wipeR, Nat.zero_le, String.reduceEq, D.int.injEq, D.str.injEq, D.bl.injEq, atI_0, atI_1, atI_2, atI_3, atI_4, beq_self_eq_true, not_true_eq_false, not_false_eq_true, Int.cast_ofNat_Int, Int.reduceEq, Int.reduceLE, Int.reduceLT, Int.reduceAdd, Int.reduceSub, Int.reduceMul, Int.reduceNeg, if_true, if_false, ite_true, ite_false, Bool.false_eq_true, if_neg, if_pos, decide_eq_true_eq, Bool.not_eq_true', decide_eq_false_iff_not, eq_self_iff_true, decide_true, decide_false, Bool.not_true, Bool.not_false, wps_raise, wps_try, wps_tryAs, tryCase_t, tryCase_f, tbl_hit, suiteOf_hit, wp_eDct, wp_eDGet, wp_eDNew, wp_eDDef, wps_dput]
          refine run_told_ok (by decide) hc hys (by omega) d7.wf' (by rw [hr]; intro h; cases h) (fun rs2 h _ => ?_) (fun h => by rw [hr] at h; cases h)
          rw [hr] at h
          cases h
          have i0 : ∀ {F E}, wp (gIs (.lst rs) .non S2) F E ↔ F (.bl false) S2 := fun {F E} => Iff.rfl
          simp only [i0, gNe_refl hro, wp_ok, wp_ret, wp_stuck, wp_bad, wp_bnd, wp_if, wp_fif, wps_ok_nx, wps_ok_rt, wps_ok_bk, wps_ok_ct, wps_ok_xc, wps_bad, wps_lft, wps_seq, wps_nil, wps_ret, wps_expr, wps_asg, wps_if, wp_run, wps_for, wps_while, wp_comp, wp_var, wp_C, wp_bin, wp_un, wp_T, wp_Tb, wp_asBl, wp_truthBl, wp_bAnd, wp_bOr, wp_bNot, wp_eIf, wp_eAnd, wp_eOr, wp_eNot, blCase_bl, wp_chain, wp_aNil, wp_aCons, wp_tup, wp_lst, wp_lstM, wp_call, wp_cl1, wp_cl2, wp_cl3, wp_cl4, wp_cl5, wp_meth, wp_isi, wp_oNone, wp_oSome, wp_sl, wp_it, wp_range1, wp_range2, wp_bYes, gEq_str, gNe_str, gEq_int, gNe_int, gEq_bl, gNe_bl, gIs_bl, gIsNot_bl, gAdd_int, gSub_int, gC_int, gI_int, gAdd_str, gAdd_tup, gAdd_lst, gNeg_int, gIx_tup, gIx_lst, gLen_tup, gLen_lst, gLen_str, gInt_int, gInt_bl, gTuple_lst, gTuple_tup, gList_lst, gList_tup, gSl_tup, gSl_lst, gSl_fl, gSl_str, srcL_tup, srcL_lst, srcL_fl, srcL_str, srcR1_int, typN, startR, List.map_cons, List.map_nil, List.length_cons, List.length_nil, Nat.reduceAdd, Nat.reduceSub, Nat.zero_add, Nat.sub_self, Nat.sub_zero, List.replicate_zero, List.replicate_succ, List.cons_append, List.nil_append, List.append_nil, List.getElem?_cons_zero, List.getElem?_cons_succ, List.set_cons_zero, List.set_cons_succ, List.set_nil, List.getElem?_nil, Option.some.injEq, exists_eq_left', exists_eq_left, exists_eq_right, reduceCtorEq, false_and, and_false, true_and, and_true, exists_false, exists_const, wipeR, Nat.zero_le, String.reduceEq, D.int.injEq, D.str.injEq, D.bl.injEq, atI_0, atI_1, atI_2, atI_3, atI_4, beq_self_eq_true, not_true_eq_false, not_false_eq_true, Int.cast_ofNat_Int, Int.reduceEq, Int.reduceLE, Int.reduceLT, Int.reduceAdd, Int.reduceSub, Int.reduceMul, Int.reduceNeg, if_true, if_false, ite_true, ite_false, Bool.false_eq_true, if_neg, if_pos, decide_eq_true_eq, Bool.not_eq_true', decide_eq_false_iff_not, eq_self_iff_true, decide_true, decide_false, Bool.not_true, Bool.not_false, wps_raise, wps_try, wps_tryAs, tryCase_t, tryCase_f, tbl_hit, suiteOf_hit, wp_eDct, wp_eDGet, wp_eDNew, wp_eDDef, wps_dput]
          exact ⟨_, _, _, rfl⟩
        · rintro ρ2 S2 ⟨rfl, o7, o8, o9, rfl⟩
          exact ⟨d7, _, _, _, _, _, _, _, rfl⟩
    · simp only [hb, rangeD_len, wp_ok, wp_ret, wp_stuck, wp_bad, wp_bnd, wp_if, wp_fif, wps_ok_nx, wps_ok_rt, wps_ok_bk, wps_ok_ct, wps_ok_xc, wps_bad, wps_lft, wps_seq, wps_nil, wps_ret, wps_expr, wps_asg, wps_if, wp_run, wps_for, wps_while, wp_comp, wp_var, wp_C, wp_bin, wp_un, wp_T, wp_Tb, wp_asBl, wp_truthBl, wp_bAnd, wp_bOr, wp_bNot, wp_eIf, wp_eAnd, wp_eOr, wp_eNot, blCase_bl, wp_chain, wp_aNil, wp_aCons, wp_tup, wp_lst, wp_lstM, wp_call, wp_cl1, wp_cl2, wp_cl3, wp_cl4, wp_cl5, wp_meth, wp_isi, wp_oNone, wp_oSome, wp_sl, wp_it, wp_range1, wp_range2, wp_bYes, gEq_str, gNe_str, gEq_int, gNe_int, gEq_bl, gNe_bl, gIs_bl, gIsNot_bl, gAdd_int, gSub_int, gC_int, gI_int, gAdd_str, gAdd_tup, gAdd_lst, gNeg_int, gIx_tup, gIx_lst, gLen_tup, gLen_lst, gLen_str, gInt_int, gInt_bl, gTuple_lst, gTuple_tup, gList_lst, gList_tup, gSl_tup, gSl_lst, gSl_fl, gSl_str, srcL_tup, srcL_lst, srcL_fl, srcL_str, srcR1_int, typN, startR, List.map_cons, List.map_nil, List.length_cons, List.length_nil, Nat.reduceAdd, Nat.reduceSub, Nat.zero_add, Nat.sub_self, Nat.sub_zero, List.replicate_zero, List.replicate_succ, List.cons_append, List.nil_append, List.append_nil, List.getElem?_cons_zero, List.getElem?_cons_succ, List.set_cons_zero, List.set_cons_succ, List.set_nil, List.getElem?_nil, Option.some.injEq, exists_eq_left', exists_eq_left, exists_eq_right, reduceCtorEq, false_and, and_false, true_and, and_true, exists_false, exists_const, wipeR, Nat.zero_le, String.reduceEq, D.int.injEq, D.str.injEq, D.bl.injEq, atI_0, atI_1, atI_2, atI_3, atI_4, beq_self_eq_true, not_true_eq_false, not_false_eq_true, Int.cast_ofNat_Int, Int.reduceEq, Int.reduceLE, Int.reduceLT, Int.reduceAdd, Int.reduceSub, Int.reduceMul, Int.reduceNeg, if_true, if_false, ite_true, ite_false, Bool.false_eq_true, if_neg, if_pos, decide_eq_true_eq, Bool.not_eq_true', decide_eq_false_iff_not, eq_self_iff_true, decide_true, decide_false, Bool.not_true, Bool.not_false, wps_raise, wps_try, wps_tryAs, tryCase_t, tryCase_f, tbl_hit, suiteOf_hit, wp_eDct, wp_eDGet, wp_eDNew, wp_eDDef, wps_dput]
      refine ⟨small_line (by omega), comp_gen (RegOk1) d7 (fun d hd S' dd => ?_) (fun zs S8 hzl hz d8 => ?_)⟩
      · simp only [sl, Nat.reduceLeDiff, wp_ok, wp_ret, wp_stuck, wp_bad, wp_bnd, wp_if, wp_fif, wps_ok_nx, wps_ok_rt, wps_ok_bk, wps_ok_ct, wps_ok_xc, wps_bad, wps_lft, wps_seq, wps_nil, wps_ret, wps_expr, wps_asg, wps_if, wp_run, wps_for, wps_while, wp_comp, wp_var, wp_C, wp_bin, wp_un, wp_T, wp_Tb, wp_asBl, wp_truthBl, wp_bAnd, wp_bOr, wp_bNot, wp_eIf, wp_eAnd, wp_eOr, wp_eNot, blCase_bl, wp_chain, wp_aNil, wp_aCons, wp_tup, wp_lst, wp_lstM, wp_call, wp_cl1, wp_cl2, wp_cl3, wp_cl4, wp_cl5, wp_meth, wp_isi, wp_oNone, wp_oSome, wp_sl, wp_it, wp_range1, wp_range2, wp_bYes, gEq_str, gNe_str, gEq_int, gNe_int, gEq_bl, gNe_bl, gIs_bl, gIsNot_bl, gAdd_int, gSub_int, gC_int, gI_int, gAdd_str, gAdd_tup, gAdd_lst, gNeg_int, gIx_tup, gIx_lst, gLen_tup, gLen_lst, gLen_str, gInt_int, gInt_bl, gTuple_lst, gTuple_tup, gList_lst, gList_tup, gSl_tup, gSl_lst, gSl_fl, gSl_str, srcL_tup, srcL_lst, srcL_fl, srcL_str, srcR1_int, typN, startR, List.map_cons, List.map_nil, List.length_cons, List.length_nil, Nat.reduceAdd, Nat.reduceSub, Nat.zero_add, Nat.sub_self, Nat.sub_zero, List.replicate_zero, List.replicate_succ, List.cons_append, List.nil_append, List.append_nil, List.getElem?_cons_zero, List.getElem?_cons_succ, List.set_cons_zero, List.set_cons_succ, List.set_nil, List.getElem?_nil, Option.some.injEq, exists_eq_left', exists_eq_left, exists_eq_right, reduceCtorEq, false_and, and_false, true_and, and_true, exists_false, exists_const, wipeR, Nat.zero_le, String.reduceEq, D.int.injEq, D.str.injEq, D.bl.injEq, atI_0, atI_1, atI_2, atI_3, atI_4, beq_self_eq_true, not_true_eq_false, not_false_eq_true, Int.cast_ofNat_Int, Int.reduceEq, Int.reduceLE, Int.reduceLT, Int.reduceAdd, Int.reduceSub, Int.reduceMul, Int.reduceNeg, if_true, if_false, ite_true, ite_false, Bool.false_eq_true, if_neg, if_pos, decide_eq_true_eq, Bool.not_eq_true', decide_eq_false_iff_not, eq_self_iff_true, decide_true, decide_false, Bool.not_true, Bool.not_false, wps_raise, wps_try, wps_tryAs, tryCase_t, tryCase_f, tbl_hit, suiteOf_hit, wp_eDct, wp_eDGet, wp_eDNew, wp_eDDef, wps_dput]
        exact thing_gen (by decide) 2 _ _ _ _ (by decide) dd fun x S7 hx d7 => ⟨(ThB.of hx).mono (by decide) (by decide), d7⟩
      clear hys hyl5 d7
      rw [rangeD_len] at hzl
      obtain ⟨ys, rfl⟩ : ∃ y, y = zs := ⟨_, rfl⟩
      have hys : RegOk ys := fun d hd => hz d hd
      have hyl5 : ys.length ≤ 5 := by omega
      obtain ⟨S7, rfl⟩ : ∃ y, y = S8 := ⟨_, rfl⟩
      have d7 := d8
      refine told_ok 3 t w _ ys 199 _ _ _ hc hys (by omega) (by decide) d8.wf' ?_
      cases hr : told 3 (.tup [.int t, .tup ops, .tup outs]) ys with
      | great =>
        show wp (gNe (.str "great") (.str "great") S7) _ _
        simp only [wp_ok, wp_ret, wp_stuck, wp_bad, wp_bnd, wp_if, wp_fif, wps_ok_nx, wps_ok_rt, wps_ok_bk, wps_ok_ct, wps_ok_xc, wps_bad, wps_lft, wps_seq, wps_nil, wps_ret, wps_expr, wps_asg, wps_if, wp_run, wps_for, wps_while, wp_comp, wp_var, wp_C, wp_bin, wp_un, wp_T, wp_Tb, wp_asBl, wp_truthBl, wp_bAnd, wp_bOr, wp_bNot, wp_eIf, wp_eAnd, wp_eOr, wp_eNot, blCase_bl, wp_chain, wp_aNil, wp_aCons, wp_tup, wp_lst, wp_lstM, wp_call, wp_cl1, wp_cl2, wp_cl3, wp_cl4, wp_cl5, wp_meth, wp_isi, wp_oNone, wp_oSome, wp_sl, wp_it, wp_range1, wp_range2, wp_bYes, gEq_str, gNe_str, gEq_int, gNe_int, gEq_bl, gNe_bl, gIs_bl, gIsNot_bl, gAdd_int, gSub_int, gC_int, gI_int, gAdd_str, gAdd_tup, gAdd_lst, gNeg_int, gIx_tup, gIx_lst, gLen_tup, gLen_lst, gLen_str, gInt_int, gInt_bl, gTuple_lst, gTuple_tup, gList_lst, gList_tup, gSl_tup, gSl_lst, gSl_fl, gSl_str, srcL_tup, srcL_lst, srcL_fl, srcL_str, srcR1_int, typN, startR, List.map_cons, List.map_nil, List.length_cons, List.length_nil, Nat.reduceAdd, Nat.reduceSub, Nat.zero_add, Nat.sub_self, Nat.sub_zero, List.replicate_zero, List.replicate_succ, List.cons_append, List.nil_append, List.append_nil, List.getElem?_cons_zero, List.getElem?_cons_succ, List.set_cons_zero, List.set_cons_succ, List.set_nil, List.getElem?_nil, Option.some.injEq, exists_eq_left', exists_eq_left, exists_eq_right, reduceCtorEq, false_and, and_false, true_and, and_true, exists_false, exists_const, wipeR, Nat.zero_le, String.reduceEq, D.int.injEq, D.str.injEq, D.bl.injEq, atI_0, atI_1, atI_2, atI_3, atI_4, beq_self_eq_true, not_true_eq_false, not_false_eq_true, Int.cast_ofNat_Int, Int.reduceEq, Int.reduceLE, Int.reduceLT, Int.reduceAdd, Int.reduceSub, Int.reduceMul, Int.reduceNeg, if_true, if_false, ite_true, ite_false, Bool.false_eq_true, if_neg, if_pos, decide_eq_true_eq, Bool.not_eq_true', decide_eq_false_iff_not, eq_self_iff_true, decide_true, decide_false, Bool.not_true, Bool.not_false, wps_raise, wps_try, wps_tryAs, tryCase_t, tryCase_f, tbl_hit, suiteOf_hit, wp_eDct, wp_eDGet, wp_eDNew, wp_eDDef, wps_dput]
        refine ⟨by decide, by decide, wps_forM (fun i ρ S' => DK 1 S0 S' ∧ ∃ o3 o4 o5 o6 o7 o8 o9, ρ = [some (.fl (ns.map .int)), some (.ref 1), some (.tup [.int t, .tup ops, .tup outs]), o3, o4, o5, o6, o7, o8, o9]) (fun _ _ _ _ => trivial) (fun i d ρ S' h _ => ?_) (fun _ _ h => h) ⟨d7, _, _, _, _, _, _, _, rfl⟩⟩
        rw [show rangeD 0 (Int.toNat 0) = [] from rfl] at h
        cases h
      | non =>
        have e0 : ∀ {F E}, wp (gNe .non (.str "great") S7) F E ↔ F (.bl true) S7 := fun {F E} => Iff.rfl
        have g0 : ∀ {F E}, wp (gMul (.int 2) (.int 1) S7) F E ↔ F (.int 2) S7 := fun {F E} => Iff.rfl
        simp only [encR, e0, g0, wp_ok, wp_ret, wp_stuck, wp_bad, wp_bnd, wp_if, wp_fif, wps_ok_nx, wps_ok_rt, wps_ok_bk, wps_ok_ct, wps_ok_xc, wps_bad, wps_lft, wps_seq, wps_nil, wps_ret, wps_expr, wps_asg, wps_if, wp_run, wps_for, wps_while, wp_comp, wp_var, wp_C, wp_bin, wp_un, wp_T, wp_Tb, wp_asBl, wp_truthBl, wp_bAnd, wp_bOr, wp_bNot, wp_eIf, wp_eAnd, wp_eOr, wp_eNot, blCase_bl, wp_chain, wp_aNil, wp_aCons, wp_tup, wp_lst, wp_lstM, wp_call, wp_cl1, wp_cl2, wp_cl3, wp_cl4, wp_cl5, wp_meth, wp_isi, wp_oNone, wp_oSome, wp_sl, wp_it, wp_range1, wp_range2, wp_bYes, gEq_str, gNe_str, gEq_int, gNe_int, gEq_bl, gNe_bl, gIs_bl, gIsNot_bl, gAdd_int, gSub_int, gC_int, gI_int, gAdd_str, gAdd_tup, gAdd_lst, gNeg_int, gIx_tup, gIx_lst, gLen_tup, gLen_lst, gLen_str, gInt_int, gInt_bl, gTuple_lst, gTuple_tup, gList_lst, gList_tup, gSl_tup, gSl_lst, gSl_fl, gSl_str, srcL_tup, srcL_lst, srcL_fl, srcL_str, srcR1_int, typN, startR, List.map_cons, List.map_nil, List.length_cons, List.length_nil, Nat.reduceAdd, Nat.reduceSub, Nat.zero_add, Nat.sub_self, Nat.sub_zero, List.replicate_zero, List.replicate_succ, List.cons_append, List.nil_append, List.append_nil, List.getElem?_cons_zero, List.getElem?_cons_succ, List.set_cons_zero, List.set_cons_succ, List.set_nil, List.getElem?_nil, Option.some.injEq, exists_eq_left', exists_eq_left, exists_eq_right, reduceCtorEq, false_and, and_false, true_and, and_true, exists_false, exists_const, wipeR, Nat.zero_le, String.reduceEq, D.int.injEq, D.str.injEq, D.bl.injEq, atI_0, atI_1, atI_2, atI_3, atI_4, beq_self_eq_true, not_true_eq_false, not_false_eq_true, Int.cast_ofNat_Int, Int.reduceEq, Int.reduceLE, Int.reduceLT, Int.reduceAdd, Int.reduceSub, Int.reduceMul, Int.reduceNeg, if_true, if_false, ite_true, ite_false, Bool.false_eq_true, if_neg, if_pos, decide_eq_true_eq, Bool.not_eq_true', decide_eq_false_iff_not, eq_self_iff_true, decide_true, decide_false, Bool.not_true, Bool.not_false, wps_raise, wps_try, wps_tryAs, tryCase_t, tryCase_f, tbl_hit, suiteOf_hit, wp_eDct, wp_eDGet, wp_eDNew, wp_eDDef, wps_dput]
        refine ⟨rfl, ?_⟩
        refine wps_forM (fun i ρ S' => S' = S7 ∧ ∃ o7 o8 o9, ρ = [some (.fl (ns.map .int)), some (.ref 1), some (.tup [.int t, .tup ops, .tup outs]), some d, some (.int ((t : Int) + m)), some (.lst ys), some .non, o7, o8, o9]) (fun _ _ _ _ => trivial) ?_ ?_ ⟨rfl, _, _, _, rfl⟩
        · rintro i2 d2 ρ2 S2 hd2 ⟨rfl, o7, o8, o9, rfl⟩
          refine ⟨_, rfl, ?_⟩
          simp only [wp_ok, wp_ret, wp_stuck, wp_bad, wp_bnd, wp_if, wp_fif, wps_ok_nx, wps_ok_rt, wps_ok_bk, wps_ok_ct, wps_ok_xc, wps_bad, wps_lft, wps_seq, wps_nil, wps_ret, wps_expr, wps_asg, wps_if, wp_run, wps_for, wps_while, wp_comp, wp_var, wp_C, wp_bin, wp_un, wp_T, wp_Tb, wp_asBl, wp_truthBl, wp_bAnd, wp_bOr, wp_bNot, wp_eIf, wp_eAnd, wp_eOr, wp_eNot, blCase_bl, wp_chain, wp_aNil, wp_aCons, wp_tup, wp_lst, wp_lstM, wp_call, wp_cl1, wp_cl2, wp_cl3, wp_cl4, wp_cl5, wp_meth, wp_isi, wp_oNone, wp_oSome, wp_sl, wp_it, wp_range1, wp_range2, wp_bYes, gEq_str, gNe_str, gEq_int, gNe_int, gEq_bl, gNe_bl, gIs_bl, gIsNot_bl, gAdd_int, gSub_int, gC_int, gI_int, gAdd_str, gAdd_tup, gAdd_lst, gNeg_int, gIx_tup, gIx_lst, gLen_tup, gLen_lst, gLen_str, gInt_int, gInt_bl, gTuple_lst, gTuple_tup, gList_lst, gList_tup, gSl_tup, gSl_lst, gSl_fl, gSl_str, srcL_tup, srcL_lst, srcL_fl, srcL_str, srcR1_int, typN, startR, List.map_cons, List.map_nil, List.length_cons, List.length_nil, Nat.reduceAdd, Nat.reduceSub, Nat.zero_add, Nat.sub_self, Nat.sub_zero, List.replicate_zero, List.replicate_succ, List.cons_append, List.nil_append, List.append_nil, List.getElem?_cons_zero, List.getElem?_cons_succ, List.set_cons_zero, List.set_cons_succ, List.set_nil, List.getElem?_nil, Option.some.injEq, exists_eq_left', exists_eq_left, exists_eq_right, reduceCtorEq, false_and, and_false, true_and, and_true, exists_false, exists_const, wipeR, Nat.zero_le, String.reduceEq, D.int.injEq, D.str.injEq, D.bl.injEq, atI_0, atI_1, atI_2, atI_3, atI_4, beq_self_eq_true, not_true_eq_false, not_false_eq_true, Int.cast_ofNat_Int, Int.reduceEq, Int.reduceLE, Int.reduceLT, Int.reduceAdd, Int.reduceSub, Int.reduceMul, Int.reduceNeg, if_true, if_false, ite_true, ite_false, Bool.false_eq_true, if_neg, if_pos, decide_eq_true_eq, Bool.not_eq_true', decide_eq_false_iff_not, eq_self_iff_true, decide_true, decide_false, Bool.not_true, Bool.not_false, wps_raise, wps_try, wps_tryAs, tryCase_t, tryCase_f, tbl_hit, suiteOf_hit, wp_eDct, wp_eDGet, wp_eDNew, wp_eDDef, wps_dput]
          refine run_told_ok (by decide) hc hys (by omega) d7.wf' (by rw [hr]; intro h; cases h) (fun rs h => by rw [hr] at h; cases h) (fun _ => ?_)
          have i0 : ∀ {F E}, wp (gIs .non .non S2) F E ↔ F (.bl true) S2 := fun {F E} => Iff.rfl
          have n0 : ∀ {F E}, wp (gNe (.lst [.bl true, .bl true, .bl false, .bl false]) (.lst [.bl true, .bl true, .bl false, .bl false]) S2) F E ↔ F (.bl false) S2 := fun {F E} => Iff.rfl
          simp only [i0, n0, sl, Nat.reduceLeDiff, wp_ok, wp_ret, wp_stuck, wp_bad, wp_bnd, wp_if, wp_fif, wps_ok_nx, wps_ok_rt, wps_ok_bk, wps_ok_ct, wps_ok_xc, wps_bad, wps_lft, wps_seq, wps_nil, wps_ret, wps_expr, wps_asg, wps_if, wp_run, wps_for, wps_while, wp_comp, wp_var, wp_C, wp_bin, wp_un, wp_T, wp_Tb, wp_asBl, wp_truthBl, wp_bAnd, wp_bOr, wp_bNot, wp_eIf, wp_eAnd, wp_eOr, wp_eNot, blCase_bl, wp_chain, wp_aNil, wp_aCons, wp_tup, wp_lst, wp_lstM, wp_call, wp_cl1, wp_cl2, wp_cl3, wp_cl4, wp_cl5, wp_meth, wp_isi, wp_oNone, wp_oSome, wp_sl, wp_it, wp_range1, wp_range2, wp_bYes, gEq_str, gNe_str, gEq_int, gNe_int, gEq_bl, gNe_bl, gIs_bl, gIsNot_bl, gAdd_int, gSub_int, gC_int, gI_int, gAdd_str, gAdd_tup, gAdd_lst, gNeg_int, gIx_tup, gIx_lst, gLen_tup, gLen_lst, gLen_str, gInt_int, gInt_bl, gTuple_lst, gTuple_tup, gList_lst, gList_tup, gSl_tup, gSl_lst, gSl_fl, gSl_str, srcL_tup, srcL_lst, srcL_fl, srcL_str, srcR1_int, typN, startR, List.map_cons, List.map_nil, List.length_cons, List.length_nil, Nat.reduceAdd, Nat.reduceSub, Nat.zero_add, Nat.sub_self, Nat.sub_zero, List.replicate_zero, List.replicate_succ, List.cons_append, List.nil_append, List.append_nil, List.getElem?_cons_zero, List.getElem?_cons_succ, List.set_cons_zero, List.set_cons_succ, List.set_nil, List.getElem?_nil, Option.some.injEq, exists_eq_left', exists_eq_left, exists_eq_right, reduceCtorEq, false_and, and_false, true_and, and_true, exists_false, exists_const, wipeR, Nat.zero_le, String.reduceEq, D.int.injEq, D.str.injEq, D.bl.injEq, atI_0, atI_1, atI_2, atI_3, atI_4, beq_self_eq_true, not_true_eq_false, not_false_eq_true, Int.cast_ofNat_Int, Int.reduceEq, Int.reduceLE, Int.reduceLT, Int.reduceAdd, Int.reduceSub, Int.reduceMul, Int.reduceNeg, if_true, if_false, ite_true, ite_false, Bool.false_eq_true, if_neg, if_pos, decide_eq_true_eq, Bool.not_eq_true', decide_eq_false_iff_not, eq_self_iff_true, decide_true, decide_false, Bool.not_true, Bool.not_false, wps_raise, wps_try, wps_tryAs, tryCase_t, tryCase_f, tbl_hit, suiteOf_hit, wp_eDct, wp_eDGet, wp_eDNew, wp_eDDef, wps_dput]
          exact ⟨_, _, _, rfl⟩
        · rintro ρ2 S2 ⟨rfl, o7, o8, o9, rfl⟩
          exact ⟨d7, _, _, _, _, _, _, _, rfl⟩
      | some rs =>
        have hlt : ys.length = t := by
          by_cases h : (ys.length : Int) = (t : Nat)
          · omega
          · simp only [told, h, if_false] at hr; cases hr
        have hro := (told_good 3 t w _ ys rs hc hys hlt hr).2
        have g0 : ∀ {F E}, wp (gMul (.int 2) (.int 1) S7) F E ↔ F (.int 2) S7 := fun {F E} => Iff.rfl
        simp only [encR, gNe_great hro, g0, wp_ok, wp_ret, wp_stuck, wp_bad, wp_bnd, wp_if, wp_fif, wps_ok_nx, wps_ok_rt, wps_ok_bk, wps_ok_ct, wps_ok_xc, wps_bad, wps_lft, wps_seq, wps_nil, wps_ret, wps_expr, wps_asg, wps_if, wp_run, wps_for, wps_while, wp_comp, wp_var, wp_C, wp_bin, wp_un, wp_T, wp_Tb, wp_asBl, wp_truthBl, wp_bAnd, wp_bOr, wp_bNot, wp_eIf, wp_eAnd, wp_eOr, wp_eNot, blCase_bl, wp_chain, wp_aNil, wp_aCons, wp_tup, wp_lst, wp_lstM, wp_call, wp_cl1, wp_cl2, wp_cl3, wp_cl4, wp_cl5, wp_meth, wp_isi, wp_oNone, wp_oSome, wp_sl, wp_it, wp_range1, wp_range2, wp_bYes, gEq_str, gNe_str, gEq_int, gNe_int, gEq_bl, gNe_bl, gIs_bl, gIsNot_bl, gAdd_int, gSub_int, gC_int, gI_int, gAdd_str, gAdd_tup, gAdd_lst, gNeg_int, gIx_tup, gIx_lst, gLen_tup, gLen_lst, gLen_str, gInt_int, gInt_bl, gTuple_lst, gTuple_tup, gList_lst, gList_tup, gSl_tup, gSl_lst, gSl_fl, gSl_str, srcL_tup, srcL_lst, srcL_fl, srcL_str, srcR1_int, typN, startR, List.map_cons, List.map_nil, List.length_cons, List.length_nil, Nat.reduceAdd, Nat.reduceSub, Nat.zero_add, Nat.sub_self, Nat.sub_zero, List.replicate_zero, List.replicate_succ, List.cons_append, List.nil_append, List.append_nil, List.getElem?_cons_zero, List.getElem?_cons_succ, List.set_cons_zero, List.set_cons_succ, List.set_nil, List.getElem?_nil, Option.some.injEq, exists_eq_left', exists_eq_left, exists_eq_right, reduceCtorEq, false_and, and_false, true_and, and_true, exists_false, exists_const, wipeR, Nat.zero_le, String.reduceEq, D.int.injEq, D.str.injEq, D.bl.injEq, atI_0, atI_1, atI_2, atI_3, atI_4, beq_self_eq_true, not_true_eq_false, not_false_eq_true, Int.cast_ofNat_Int, Int.reduceEq, Int.reduceLE, Int.reduceLT, Int.reduceAdd, Int.reduceSub, Int.reduceMul, Int.reduceNeg, if_true, if_false, ite_true, ite_false, Bool.false_eq_true, if_neg, if_pos, decide_eq_true_eq, Bool.not_eq_true', decide_eq_false_iff_not, eq_self_iff_true, decide_true, decide_false, Bool.not_true, Bool.not_false, wps_raise, wps_try, wps_tryAs, tryCase_t, tryCase_f, tbl_hit, suiteOf_hit, wp_eDct, wp_eDGet, wp_eDNew, wp_eDDef, wps_dput]
        refine ⟨rfl, ?_⟩
        refine wps_forM (fun i ρ S' => S' = S7 ∧ ∃ o7 o8 o9, ρ = [some (.fl (ns.map .int)), some (.ref 1), some (.tup [.int t, .tup ops, .tup outs]), some d, some (.int ((t : Int) + m)), some (.lst ys), some (.lst rs), o7, o8, o9]) (fun _ _ _ _ => trivial) ?_ ?_ ⟨rfl, _, _, _, rfl⟩
        · rintro i2 d2 ρ2 S2 hd2 ⟨rfl, o7, o8, o9, rfl⟩
          refine ⟨_, rfl, ?_⟩
          simp only [wp_ok, wp_ret, wp_stuck, wp_bad, wp_bnd, wp_if, wp_fif, wps_ok_nx, wps_ok_rt, wps_ok_bk, wps_ok_ct, wps_ok_xc, wps_bad, wps_lft, wps_seq, wps_nil, wps_ret, wps_expr, wps_asg, wps_if, wp_run, wps_for, wps_while, wp_comp, wp_var, wp_C, wp_bin, wp_un, wp_T, wp_Tb, wp_asBl, wp_truthBl, wp_bAnd, wp_bOr, wp_bNot, wp_eIf, wp_eAnd, wp_eOr, wp_eNot, blCase_bl, wp_chain, wp_aNil, wp_aCons, wp_tup, wp_lst, wp_lstM, wp_call, wp_cl1, wp_cl2, wp_cl3, wp_cl4, wp_cl5, wp_meth, wp_isi, wp_oNone, wp_oSome, wp_sl, wp_it, wp_range1, wp_range2, wp_bYes, gEq_str, gNe_str, gEq_int, gNe_int, gEq_bl, gNe_bl, gIs_bl, gIsNot_bl, gAdd_int, gSub_int, gC_int, gI_int, gAdd_str, gAdd_tup, gAdd_lst, gNeg_int, gIx_tup, gIx_lst, gLen_tup, gLen_lst, gLen_str, gInt_int, gInt_bl, gTuple_lst, gTuple_tup, gList_lst, gList_tup, gSl_tup, gSl_lst, gSl_fl, gSl_str, srcL_tup, srcL_lst, srcL_fl, srcL_str, srcR1_int, typN, startR, List.map_cons, List.map_nil, List.length_cons, List.length_nil, Nat.reduceAdd, Nat.reduceSub, Nat.zero_add, Nat.sub_self, Nat.sub_zero, List.replicate_zero, List.replicate_succ, List.cons_append, List.nil_append, List.append_nil, List.getElem?_cons_zero, List.getElem?_cons_succ, List.set_cons_zero, List.set_cons_succ, List.set_nil, List.getElem?_nil, Option.some.injEq, exists_eq_left', exists_eq_left, exists_eq_right, reduceCtorEq, false_and, and_false, true_and, and_true, exists_false, exists_const, wipeR, Nat.zero_le, String.reduceEq, D.int.injEq, D.str.injEq, D.bl.injEq, atI_0, atI_1, atI_2, atI_3, atI_4, beq_self_eq_true, not_true_eq_false, not_false_eq_true, Int.cast_ofNat_Int, Int.reduceEq, Int.reduceLE, Int.reduceLT, Int.reduceAdd, Int.reduceSub, Int.reduceMul, Int.reduceNeg, if_true, if_false, ite_true, ite_false, Bool.false_eq_true, if_neg, if_pos, decide_eq_true_eq, Bool.not_eq_true', decide_eq_false_iff_not, eq_self_iff_true, decide_true, decide_false, Bool.not_true, Bool.not_false, wps_raise, wps_try, wps_tryAs, tryCase_t, tryCase_f, tbl_hit, suiteOf_hit, wp_eDct, wp_eDGet, wp_eDNew, wp_eDDef, wps_dput]
          refine run_told_ok (by decide) hc hys (by omega) d7.wf' (by rw [hr]; intro h; cases h) (fun rs2 h _ => ?_) (fun h => by rw [hr] at h; cases h)
          rw [hr] at h
          cases h
          have i0 : ∀ {F E}, wp (gIs (.lst rs) .non S2) F E ↔ F (.bl false) S2 := fun {F E} => Iff.rfl
          simp only [i0, gNe_refl hro, wp_ok, wp_ret, wp_stuck, wp_bad, wp_bnd, wp_if, wp_fif, wps_ok_nx, wps_ok_rt, wps_ok_bk, wps_ok_ct, wps_ok_xc, wps_bad, wps_lft, wps_seq, wps_nil, wps_ret, wps_expr, wps_asg, wps_if, wp_run, wps_for, wps_while, wp_comp, wp_var, wp_C, wp_bin, wp_un, wp_T, wp_Tb, wp_asBl, wp_truthBl, wp_bAnd, wp_bOr, wp_bNot, wp_eIf, wp_eAnd, wp_eOr, wp_eNot, blCase_bl, wp_chain, wp_aNil, wp_aCons, wp_tup, wp_lst, wp_lstM, wp_call, wp_cl1, wp_cl2, wp_cl3, wp_cl4, wp_cl5, wp_meth, wp_isi, wp_oNone, wp_oSome, wp_sl, wp_it, wp_range1, wp_range2, wp_bYes, gEq_str, gNe_str, gEq_int, gNe_int, gEq_bl, gNe_bl, gIs_bl, gIsNot_bl, gAdd_int, gSub_int, gC_int, gI_int, gAdd_str, gAdd_tup, gAdd_lst, gNeg_int, gIx_tup, gIx_lst, gLen_tup, gLen_lst, gLen_str, gInt_int, gInt_bl, gTuple_lst, gTuple_tup, gList_lst, gList_tup, gSl_tup, gSl_lst, gSl_fl, gSl_str, srcL_tup, srcL_lst, srcL_fl, srcL_str, srcR1_int, typN, startR, List.map_cons, List.map_nil, List.length_cons, List.length_nil, Nat.reduceAdd, Nat.reduceSub, Nat.zero_add, Nat.sub_self, Nat.sub_zero, List.replicate_zero, List.replicate_succ, List.cons_append, List.nil_append, List.append_nil, List.getElem?_cons_zero, List.getElem?_cons_succ, List.set_cons_zero, List.set_cons_succ, List.set_nil, List.getElem?_nil, Option.some.injEq, exists_eq_left', exists_eq_left, exists_eq_right, reduceCtorEq, false_and, and_false, true_and, and_true, exists_false, exists_const, wipeR, Nat.zero_le, String.reduceEq, D.int.injEq, D.str.injEq, D.bl.injEq, atI_0, atI_1, atI_2, atI_3, atI_4, beq_self_eq_true, not_true_eq_false, not_false_eq_true, Int.cast_ofNat_Int, Int.reduceEq, Int.reduceLE, Int.reduceLT, Int.reduceAdd, Int.reduceSub, Int.reduceMul, Int.reduceNeg, if_true, if_false, ite_true, ite_false, Bool.false_eq_true, if_neg, if_pos, decide_eq_true_eq, Bool.not_eq_true', decide_eq_false_iff_not, eq_self_iff_true, decide_true, decide_false, Bool.not_true, Bool.not_false, wps_raise, wps_try, wps_tryAs, tryCase_t, tryCase_f, tbl_hit, suiteOf_hit, wp_eDct, wp_eDGet, wp_eDNew, wp_eDDef, wps_dput]
          exact ⟨_, _, _, rfl⟩
        · rintro ρ2 S2 ⟨rfl, o7, o8, o9, rfl⟩
          exact ⟨d7, _, _, _, _, _, _, _, rfl⟩
  · rintro ρ S' ⟨d4, o3, o4, o5, o6, o7, o8, o9, rfl⟩
    exact fin_cut (S1 := []) d4.wf' rfl rfl
def FU : Nat := 1000
def NN : Nat := 200
theorem main (ns : List Int) (hl : ns.length ≤ 63) : ∃ S', den FU NN i_law [.fl (ns.map .int)] [] = .ok (.bl true) S' := by
  have := law_ok ns hl
  show ∃ S', den 1000 200 i_law [.fl (ns.map .int)] [] = .ok (.bl true) S'
  cases h : den 1000 200 i_law [.fl (ns.map .int)] [] with
  | ok d S' => rw [h] at this; have e : d = .bl true := this; subst e; exact ⟨S', rfl⟩
  | ex e S' => rw [h] at this; exact this.elim
  | bad => rw [h] at this; exact this.elim
end K64

open PySem PySem.W PyProof.Rows in
set_option maxRecDepth 100000 in
set_option maxHeartbeats 0 in
theorem PySem.Challenge.cw_takeleave_k64_codes_run_holds : PySem.Challenge.rw_takeleave_k64_codes_run.Holds := by
  w_on; o_law; k_head; (case hw => w_witness2)
  k_fill
  refine L2.walk_of (l := PySem.Challenge.rw_takeleave_k64_codes_run) (n := 63) (k := K64.NN + 20) (x := "_law_script") (CX := fun w => L2.CX PySem.Challenge.rw_takeleave_k64_codes_run.prog w) (sp := fun w => K64.spLaw _) rfl (by decide) rfl ⟨rfl, by decide, by decide⟩ (fun w h Y => PySem.W.kIn_of Y) ?F (fun _ _ a ns hl hO hS => ⟨a, ns, rfl, hO, hS, hl, fun _ => rfl⟩) (fun w H s e s' h => by obtain ⟨_, _, _, _, _, _, _, _, _, _, _, _, z⟩ := h; exact z)
  case F =>
    intro w mg fa h KX G hmg
    refine' K64.all_mk K64.FU K64.NN K64.main KX G hmg ?a1 ?l1 ?c1 ?k1 ?a2 ?l2 ?c2 ?k2 ?a3 ?l3 ?c3 ?k3 ?a4 ?l4 ?c4 ?k4 ?a5 ?l5 ?c5 ?k5 ?a6 ?l6 ?c6 ?k6 ?a7 ?l7 ?c7 ?k7 ?a8 ?l8 ?c8 ?k8 ?a9 ?l9 ?c9 ?k9 ?a10 ?l10 ?c10 ?k10 ?a11 ?l11 ?c11 ?k11 ?a12 ?l12 ?c12 ?k12 ?a13 ?l13 ?c13 ?k13 ?a14 ?l14 ?c14 ?k14 ?a15 ?l15 ?c15 ?k15 ?a16 ?l16 ?c16 ?k16 ?a17 ?l17 ?c17 ?k17 ?a18 ?l18 ?c18 ?k18 ?a19 ?l19 ?c19 ?k19 ?a20 ?l20 ?c20 ?k20 ?a21 ?l21 ?c21 ?k21 ?a22 ?l22 ?c22 ?k22 ?a23 ?l23 ?c23 ?k23 ?a24 ?l24 ?c24 ?k24 ?a25 ?l25 ?c25 ?k25 ?z_ValueError ?z_int ?z_isinstance ?z_len ?z_list ?z_max ?z_range ?z_sum ?z_tuple ?xg_NoStep ?xb_NoStep ?xt_NoStep ?xx_NoStep ?xk_NoStep ?xh_NoStep ?xq_NoStep ?xp_NoStep ?xa_NoStep ?xn_NoStep ?xw_NoStep ?xm_NoStep ?xs_NoStep ?xg_TakeError ?xb_TakeError ?xt_TakeError ?xh_TakeError ?xs_TakeError ?xg_NoCode ?xb_NoCode ?xt_NoCode ?xh_NoCode ?xs_NoCode ?xg_NoText ?xb_NoText ?xt_NoText ?xh_NoText ?xs_NoText ?u_NoStep_NoStep ?u_NoStep_TakeError ?u_NoStep_NoCode ?u_NoStep_NoText ?v_NoStep_ValueError ?n_WHOLE
    (case a1 => k_is)
    (case l1 => k_is)
    (case c1 => k_is)
    (case k1 => k_is)
    (case a2 => k_is)
    (case l2 => k_is)
    (case c2 => k_is)
    (case k2 => k_is)
    (case a3 => k_is)
    (case l3 => k_is)
    (case c3 => k_is)
    (case k3 => k_is)
    (case a4 => k_is)
    (case l4 => k_is)
    (case c4 => k_is)
    (case k4 => k_is)
    (case a5 => k_is)
    (case l5 => k_is)
    (case c5 => k_is)
    (case k5 => k_is)
    (case a6 => k_is)
    (case l6 => k_is)
    (case c6 => k_is)
    (case k6 => k_is)
    (case a7 => k_is)
    (case l7 => k_is)
    (case c7 => k_is)
    (case k7 => k_is)
    (case a8 => k_is)
    (case l8 => k_is)
    (case c8 => k_is)
    (case k8 => k_is)
    (case a9 => k_is)
    (case l9 => k_is)
    (case c9 => k_is)
    (case k9 => k_is)
    (case a10 => k_is)
    (case l10 => k_is)
    (case c10 => k_is)
    (case k10 => k_is)
    (case a11 => k_is)
    (case l11 => k_is)
    (case c11 => k_is)
    (case k11 => k_is)
    (case a12 => k_is)
    (case l12 => k_is)
    (case c12 => k_is)
    (case k12 => k_is)
    (case a13 => k_is)
    (case l13 => k_is)
    (case c13 => k_is)
    (case k13 => k_is)
    (case a14 => k_is)
    (case l14 => k_is)
    (case c14 => k_is)
    (case k14 => k_is)
    (case a15 => k_is)
    (case l15 => k_is)
    (case c15 => k_is)
    (case k15 => k_is)
    (case a16 => k_is)
    (case l16 => k_is)
    (case c16 => k_is)
    (case k16 => k_is)
    (case a17 => k_is)
    (case l17 => k_is)
    (case c17 => k_is)
    (case k17 => k_is)
    (case a18 => k_is)
    (case l18 => k_is)
    (case c18 => k_is)
    (case k18 => k_is)
    (case a19 => k_is)
    (case l19 => k_is)
    (case c19 => k_is)
    (case k19 => k_is)
    (case a20 => k_is)
    (case l20 => k_is)
    (case c20 => k_is)
    (case k20 => k_is)
    (case a21 => k_is)
    (case l21 => k_is)
    (case c21 => k_is)
    (case k21 => k_is)
    (case a22 => k_is)
    (case l22 => k_is)
    (case c22 => k_is)
    (case k22 => k_is)
    (case a23 => k_is)
    (case l23 => k_is)
    (case c23 => k_is)
    (case k23 => k_is)
    (case a24 => k_is)
    (case l24 => k_is)
    (case c24 => k_is)
    (case k24 => k_is)
    (case a25 => k_is)
    (case l25 => k_is)
    (case c25 => k_is)
    (case k25 => k_is)
    (case z_ValueError => k_is)
    (case z_int => k_is)
    (case z_isinstance => k_is)
    (case z_len => k_is)
    (case z_list => k_is)
    (case z_max => k_is)
    (case z_range => k_is)
    (case z_sum => k_is)
    (case z_tuple => k_is)
    (case xg_NoStep => k_is)
    (case xb_NoStep => k_is)
    (case xt_NoStep => k_is)
    (case xx_NoStep => k_exc)
    (case xk_NoStep => k_is)
    (case xh_NoStep => k_is)
    (case xq_NoStep => k_is)
    (case xp_NoStep => k_is)
    (case xa_NoStep => k_is)
    (case xn_NoStep => k_is)
    (case xw_NoStep => k_is)
    (case xm_NoStep => k_is)
    (case xs_NoStep => k_is)
    (case xg_TakeError => k_is)
    (case xb_TakeError => k_is)
    (case xt_TakeError => k_is)
    (case xh_TakeError => k_is)
    (case xs_TakeError => k_is)
    (case xg_NoCode => k_is)
    (case xb_NoCode => k_is)
    (case xt_NoCode => k_is)
    (case xh_NoCode => k_is)
    (case xs_NoCode => k_is)
    (case xg_NoText => k_is)
    (case xb_NoText => k_is)
    (case xt_NoText => k_is)
    (case xh_NoText => k_is)
    (case xs_NoText => k_is)
    (case u_NoStep_NoStep => k_is)
    (case u_NoStep_TakeError => k_is)
    (case u_NoStep_NoCode => k_is)
    (case u_NoStep_NoText => k_is)
    (case v_NoStep_ValueError => k_is)
    (case n_WHOLE => k_is)
