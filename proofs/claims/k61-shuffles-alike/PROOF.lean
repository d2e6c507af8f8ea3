import PyProof.Rows.All
import Wide.All
import OpenK.AllK
import Wide.FinOn
import HandS.ForSpec
import HandS.ForMost
import HandS.IsInst
import HandS.Wide
import HandS.EndBits
import HandS.TupAny
import HandS.Flow
import HandS.Style
import HandS.Deep
import HandS.Rev
import HandS.TupMul
import HandS.Iter
import HandS.ForExc
import HandS.RaiseMore
import HandS.ExcIs
import HandS.Dict
import HandS.More
import HandS.Conv
import HandS.Set
import HandS.Strs
import PyProof.Rows.SetFrom
import PyProof.Rows.SortShellAny
import HandS.Defaults
import HandS.CallSlots
import HandS.NoneIn
import HandS.Replace
import HandS.SetFor
import PySem.Challenge.RW_takeleave_k61_shuffles_alike_or_parted
set_option Elab.async false
set_option linter.all false
set_option maxRecDepth 100000
set_option maxHeartbeats 4000000
set_option autoImplicit false
/-! DL1: data as trees over a small store of the lists and dicts that change; results; the relation with the heap. -/
namespace DL
open PySem L2

inductive D where
  | non | bl (b : Bool) | int (i : Int) | str (x : Str) | tup (xs : List D) | lst (xs : List D) | fl (xs : List D) | ref (n : Nat) | fn (x : Str)
inductive MO where
  | lst (xs : List D) | dct (kvs : List (Key × D))
abbrev Sto := List MO
/-- where the stored things stand; x: lists in the making, that no value may name -/
structure Mu where
  v : List Addr
  x : List Addr
structure Exc where
  cls : Str
  fs : List (Str × D)
inductive R (α : Type) where
  | ok (a : α) (S : Sto) | ex (e : Exc) (S : Sto) | bad
abbrev M (α : Type) := Sto → R α
def ret {α : Type} (a : α) : M α := fun S => .ok a S
def stuck {α : Type} : M α := fun _ => .bad
def raiz {α : Type} (e : Exc) : M α := fun S => .ex e S
def bnd {α β : Type} (m : M α) (k : α → M β) : M β := fun S => match m S with
  | .ok a S' => k a S'
  | .ex e S' => .ex e S'
  | .bad => .bad
abbrev Rho := List (Option D)

mutual
inductive RD (K : PySem.W.Frag) (μ : Mu) (H : Hp) : D → V → Prop
  | non : RD K μ H .non .non
  | bl (b : Bool) : RD K μ H (.bl b) (.bl b)
  | int (i : Int) : RD K μ H (.int i) (.int i)
  | str (x : Str) : RD K μ H (.str x) (.str x)
  | tup {a : Addr} {vs : List V} {ds : List D} : SqT K H a vs → RDs K μ H ds vs → RD K μ H (.tup ds) (.ref a)
  | fl {a : Addr} {vs : List V} {ds : List D} : ((∃ o, H a = some (.frz o (.lst vs))) ∨ (∃ (o : Obj) (its : Array Value) (n : Nat), K.lookup a = some o ∧ o.cls = .type "list" ∧ o.dict = none ∧ o.data = .seq its n ∧ its.size ≤ sizeLine ∧ Vals vs its.toList)) →
      RDs K μ H ds vs → RD K μ H (.fl ds) (.ref a)
  | lst {a : Addr} {vs : List V} {ds : List D} : H a = some (.lst vs) → (a ∉ μ.v ∧ a ∉ μ.x) → RDs K μ H ds vs → RD K μ H (.lst ds) (.ref a)
  | ref {n : Nat} {a : Addr} : μ.v[n]? = some a → RD K μ H (.ref n) (.ref a)
  | fn {x : Str} {a : Addr} : PySem.W.nsIn K mainGlobals x = some (some (.ref a)) → RD K μ H (.fn x) (.ref a)
inductive RDs (K : PySem.W.Frag) (μ : Mu) (H : Hp) : List D → List V → Prop
  | nil : RDs K μ H [] []
  | cons {d : D} {ds : List D} {v : V} {vs : List V} : RD K μ H d v → RDs K μ H ds vs → RDs K μ H (d :: ds) (v :: vs)
end

def RKs (K : PySem.W.Frag) (μ : Mu) (H : Hp) : List (Key × D) → List (Key × V) → Prop := Paired fun p q => p.1 = q.1 ∧ RD K μ H p.2 q.2
def RFs (K : PySem.W.Frag) (μ : Mu) (H : Hp) : List (Str × D) → List (Str × V) → Prop := Paired fun p q => p.1 = q.1 ∧ RD K μ H p.2 q.2
def RM (K : PySem.W.Frag) (μ : Mu) (H : Hp) (a : Addr) : MO → Prop
  | .lst ds => ∃ vs, H a = some (.lst vs) ∧ RDs K μ H ds vs
  | .dct kvs => ∃ ws, H a = some (.dK ws) ∧ RKs K μ H kvs ws
def RX (K : PySem.W.Frag) (mg : Str → Option Value) (μ : Mu) (H : Hp) (e : Exc) (c : Value) (od : Option Addr) : Prop :=
  (∃ C, mg e.cls = some (.ref C) ∧ c = .ref C) ∧ match od with
    | none => e.fs = []
    | some d => e.fs ≠ [] ∧ ∃ fs, H d = some (.xd fs) ∧ RFs K μ H e.fs fs

structure Rel (K : PySem.W.Frag) (μ : Mu) (S : Sto) (H : Hp) : Prop where
  len : μ.v.length = S.length
  nd : μ.v.Nodup
  obj : ∀ (i : Nat) (a : Addr) (m : MO), μ.v[i]? = some a → S[i]? = some m → RM K μ H a m
  hid : ∀ a ∈ μ.x, H a ≠ none
  apt : ∀ a ∈ μ.v, a ∉ μ.x
structure Stp (μ : Mu) (H : Hp) (μ' : Mu) (H' : Hp) : Prop where
  pre : ∃ ν, μ' = ⟨μ.v ++ ν, μ.x⟩ ∧ ∀ p ∈ ν, H p = none
  keep : ∀ a u, H a = some u → a ∉ μ.v → H' a = some u
  thr : ∀ a, H a ≠ none → H' a ≠ none

theorem Stp.refl {μ : Mu} {H : Hp} : Stp μ H μ H := ⟨⟨[], by simp, by simp⟩, fun _ _ h _ => h, fun _ h => h⟩
theorem Stp.trans {μ μ1 μ2 : Mu} {H H1 H2 : Hp} (a : Stp μ H μ1 H1) (b : Stp μ1 H1 μ2 H2) : Stp μ H μ2 H2 := by
  obtain ⟨⟨ν1, rfl, f1⟩, k1, t1⟩ := a
  obtain ⟨⟨ν2, rfl, f2⟩, k2, t2⟩ := b
  refine ⟨⟨ν1 ++ ν2, by simp, fun p hp => ?_⟩, fun x u h hx => ?_, fun x h => t2 x (t1 x h)⟩
  · rcases List.mem_append.mp hp with q | q
    · exact f1 p q
    · by_cases h : H p = none
      · exact h
      · exact absurd (f2 p q) (t1 p h)
  · refine k2 x u (k1 x u h hx) fun q => ?_
    rcases List.mem_append.mp q with q | q
    · exact hx q
    · rw [f1 x q] at h; cases h
/-- a new object -/
theorem Stp.new {μ : Mu} {H : Hp} {p : Addr} {o : HO} (h : H p = none) : Stp μ H μ (upd H p o) :=
  ⟨⟨[], by simp, by simp⟩, fun a u e _ => by rw [upd_ne (ne_of_none e h)]; exact e, fun a e => by
    by_cases z : a = p
    · subst z; rw [upd_same]; simp
    · rw [upd_ne z]; exact e⟩
/-- a stored object changes -/
theorem Stp.put {μ : Mu} {H : Hp} {p : Addr} {o : HO} (h : p ∈ μ.v) : Stp μ H μ (upd H p o) :=
  ⟨⟨[], by simp, by simp⟩, fun a u e z => by rw [upd_ne (fun q => z (by rw [q]; exact h))]; exact e, fun a e => by
    by_cases z : a = p
    · subst z; rw [upd_same]; simp
    · rw [upd_ne z]; exact e⟩
def Mu.push (μ : Mu) (p : Addr) : Mu := ⟨μ.v ++ [p], μ.x⟩
def Mu.cut (μ : Mu) (n : Nat) : Mu := ⟨μ.v.take n, μ.x⟩
theorem Stp.push {μ μ' : Mu} {H H' : Hp} {p : Addr} (s : Stp μ H μ' H') (h : H p = none) : Stp μ H (μ'.push p) H' := by
  obtain ⟨⟨ν, rfl, f⟩, k, t⟩ := s
  refine ⟨⟨ν ++ [p], by simp [Mu.push], fun q hq => ?_⟩, k, t⟩
  rcases List.mem_append.mp hq with z | z
  · exact f q z
  · simp at z; rw [z]; exact h
theorem Stp.get {μ μ' : Mu} {H H' : Hp} (s : Stp μ H μ' H') {i : Nat} {a : Addr} (h : μ.v[i]? = some a) : μ'.v[i]? = some a := by
  obtain ⟨⟨ν, rfl, f⟩, k, t⟩ := s
  rw [List.getElem?_append_left (List.getElem?_eq_some_iff.mp h).1]; exact h
theorem Stp.out {μ μ' : Mu} {H H' : Hp} (s : Stp μ H μ' H') {a : Addr} {u : HO} (h : H a = some u) (h0 : a ∉ μ.v ∧ a ∉ μ.x) : a ∉ μ'.v ∧ a ∉ μ'.x := by
  obtain ⟨⟨ν, rfl, f⟩, k, t⟩ := s
  refine ⟨fun z => ?_, h0.2⟩
  rcases List.mem_append.mp z with z | z
  · exact h0.1 z
  · rw [f a z] at h; cases h
theorem Stp.x {μ μ' : Mu} {H H' : Hp} (s : Stp μ H μ' H') : μ'.x = μ.x := by
  obtain ⟨⟨ν, rfl, f⟩, k, t⟩ := s; rfl
/-- a new object, taken into the store -/
theorem Stp.alloc {μ : Mu} {H : Hp} {p : Addr} {o : HO} (h : H p = none) : Stp μ H (μ.push p) (upd H p o) := Stp.push (Stp.new h) h

section
variable {K : PySem.W.Frag} {μ μ' : Mu} {S : Sto} {H H' : Hp}
theorem Rel.mem (r : Rel K μ S H) {a : Addr} (h : a ∈ μ.v) : ∃ (i : Nat) (m : MO), μ.v[i]? = some a ∧ S[i]? = some m ∧ RM K μ H a m := by
  obtain ⟨i, hi⟩ := List.mem_iff_getElem?.mp h
  have hl := (List.getElem?_eq_some_iff.mp hi).1
  rw [r.len] at hl
  exact ⟨i, S[i], hi, List.getElem?_eq_getElem hl, r.obj i a _ hi (List.getElem?_eq_getElem hl)⟩
theorem Rel.kind (r : Rel K μ S H) {a : Addr} (h : a ∈ μ.v) : (∃ vs, H a = some (.lst vs)) ∨ ∃ ws, H a = some (.dK ws) := by
  obtain ⟨i, m, _, _, q⟩ := r.mem h
  cases m with
  | lst ds => obtain ⟨vs, e, _⟩ := q; exact .inl ⟨vs, e⟩
  | dct kvs => obtain ⟨ws, e, _⟩ := q; exact .inr ⟨ws, e⟩
theorem Rel.ntup (r : Rel K μ S H) {a : Addr} {vs : List V} (h : H a = some (.tup vs))   : a ∉ μ.v := fun z => by
  rcases r.kind z with ⟨_, e⟩ | ⟨_, e⟩ <;> rw [h] at e <;> cases e
theorem Rel.nfrz (r : Rel K μ S H) {a : Addr} {o : Obj} {u : HO} (h : H a = some (.frz o u))   : a ∉ μ.v := fun z => by
  rcases r.kind z with ⟨_, e⟩ | ⟨_, e⟩ <;> rw [h] at e <;> cases e
theorem Rel.there (r : Rel K μ S H) {a : Addr} (h : a ∈ μ.v) : H a ≠ none := fun z => by
  rcases r.kind h with ⟨_, e⟩ | ⟨_, e⟩ <;> rw [z] at e <;> cases e
theorem SqT.stp {a : Addr} {vs : List V} (h : SqT K H a vs) (r : Rel K μ S H) (s : Stp μ H μ' H') : SqT K H' a vs := by
  rcases h with (h | ⟨o, h⟩) | h
  · exact .inl (.inl (s.keep a _ h (r.ntup h)))
  · exact .inl (.inr ⟨o, s.keep a _ h (r.nfrz h)⟩)
  · exact .inr h
mutual
theorem RD.stp (r : Rel K μ S H) (s : Stp μ H μ' H') : ∀ (d : D) (v : V), RD K μ H d v → RD K μ' H' d v
  | .non, _, h => by cases h; exact .non
  | .bl _, _, h => by cases h; exact .bl _
  | .int _, _, h => by cases h; exact .int _
  | .str _, _, h => by cases h; exact .str _
  | .fn _, _, h => by cases h with | fn q => exact .fn q
  | .tup ds, _, h => by
    cases h with
    | tup h1 h2 => exact .tup (SqT.stp h1 r s) (RDs.stp r s ds _ h2)
  | .fl ds, _, h => by
    cases h with
    | fl h1 h2 =>
      refine .fl ?_ (RDs.stp r s ds _ h2)
      rcases h1 with ⟨o, h1⟩ | h1
      · exact .inl ⟨o, s.keep _ _ h1 (r.nfrz h1)⟩
      · exact .inr h1
  | .lst ds, _, h => by
    cases h with
    | lst h1 h0 h2 => exact .lst (s.keep _ _ h1 h0.1) (s.out h1 h0) (RDs.stp r s ds _ h2)
  | .ref n, _, h => by
    cases h with
    | ref h1 => exact .ref (s.get h1)
theorem RDs.stp (r : Rel K μ S H) (s : Stp μ H μ' H') : ∀ (ds : List D) (vs : List V), RDs K μ H ds vs → RDs K μ' H' ds vs
  | [], _, h => by cases h; exact .nil
  | d :: ds, _, h => by
    cases h with
    | cons h1 h2 => exact .cons (RD.stp r s d _ h1) (RDs.stp r s ds _ h2)
end
theorem RD.step {d : D} {v : V} (h : RD K μ H d v) (r : Rel K μ S H) (s : Stp μ H μ' H') : RD K μ' H' d v := RD.stp r s d v h
theorem RDs.step {ds : List D} {vs : List V} (h : RDs K μ H ds vs) (r : Rel K μ S H) (s : Stp μ H μ' H') : RDs K μ' H' ds vs := RDs.stp r s ds vs h
theorem RKs.step {ks : List (Key × D)} {ws : List (Key × V)} (h : RKs K μ H ks ws) (r : Rel K μ S H) (s : Stp μ H μ' H') : RKs K μ' H' ks ws := by
  unfold RKs at *
  exact Paired.mapP h fun p q z => ⟨z.1, z.2.step r s⟩
theorem RDs.length : ∀ {ds : List D} {vs : List V}, RDs K μ H ds vs → ds.length = vs.length
  | [], _, h => by cases h; rfl
  | d :: ds, _, h => by
    cases h with
    | cons h1 h2 => simp [RDs.length h2]
theorem RDs.get : ∀ {ds : List D} {vs : List V} {i : Nat} {d : D}, RDs K μ H ds vs → ds[i]? = some d → ∃ v, vs[i]? = some v ∧ RD K μ H d v
  | [], _, _, _, _, e => by simp at e
  | d :: ds, _, i, x, h, e => by
    cases h with
    | cons h1 h2 =>
      cases i with
      | zero => simp at e; subst e; exact ⟨_, by simp, h1⟩
      | succ i => simp at e; obtain ⟨v, q1, q2⟩ := RDs.get h2 e; exact ⟨v, by simpa using q1, q2⟩
theorem RDs.getv : ∀ {ds : List D} {vs : List V} {i : Nat} {v : V}, RDs K μ H ds vs → vs[i]? = some v → ∃ d, ds[i]? = some d ∧ RD K μ H d v
  | [], _, i, _, h, e => by cases h; simp at e
  | d :: ds, _, i, x, h, e => by
    cases h with
    | cons h1 h2 =>
      cases i with
      | zero => simp at e; subst e; exact ⟨_, by simp, h1⟩
      | succ i => simp at e; obtain ⟨v, q1, q2⟩ := RDs.getv h2 e; exact ⟨v, by simpa using q1, q2⟩
theorem RDs.append : ∀ {ds es : List D} {vs ws : List V}, RDs K μ H ds vs → RDs K μ H es ws → RDs K μ H (ds ++ es) (vs ++ ws)
  | [], _, _, _, h, g => by cases h; exact g
  | d :: ds, _, _, _, h, g => by
    cases h with
    | cons h1 h2 => exact .cons h1 (RDs.append h2 g)
theorem RDs.take : ∀ {ds : List D} {vs : List V} (n : Nat), RDs K μ H ds vs → RDs K μ H (ds.take n) (vs.take n)
  | [], _, n, h => by cases h; simp; exact .nil
  | d :: ds, _, n, h => by
    cases h with
    | cons h1 h2 =>
      cases n with
      | zero => simp; exact .nil
      | succ n => simp only [List.take_succ_cons]; exact .cons h1 (RDs.take n h2)
theorem RDs.drop : ∀ {ds : List D} {vs : List V} (n : Nat), RDs K μ H ds vs → RDs K μ H (ds.drop n) (vs.drop n)
  | [], _, n, h => by cases h; simp; exact .nil
  | d :: ds, _, n, h => by
    cases h with
    | cons h1 h2 =>
      cases n with
      | zero => simp; exact .cons h1 h2
      | succ n => simp only [List.drop_succ_cons]; exact RDs.drop n h2
theorem RDs.reverse : ∀ {ds : List D} {vs : List V}, RDs K μ H ds vs → RDs K μ H ds.reverse vs.reverse
  | [], _, h => by cases h; exact .nil
  | d :: ds, _, h => by
    cases h with
    | cons h1 h2 => simp only [List.reverse_cons]; exact (RDs.reverse h2).append (.cons h1 .nil)
theorem RDs.set : ∀ {ds : List D} {vs : List V} (i : Nat) {d : D} {v : V}, RDs K μ H ds vs → RD K μ H d v → RDs K μ H (ds.set i d) (vs.set i v)
  | [], _, i, _, _, h, _ => by cases h; exact .nil
  | d :: ds, _, i, x, y, h, g => by
    cases h with
    | cons h1 h2 =>
      cases i with
      | zero => simp; exact .cons g h2
      | succ i => simp only [List.set_cons_succ]; exact .cons h1 (RDs.set i h2 g)
theorem RDs.eraseIdx : ∀ {ds : List D} {vs : List V} (i : Nat), RDs K μ H ds vs → RDs K μ H (ds.eraseIdx i) (vs.eraseIdx i)
  | [], _, i, h => by cases h; simp; exact .nil
  | d :: ds, _, i, h => by
    cases h with
    | cons h1 h2 =>
      cases i with
      | zero => simp; exact h2
      | succ i => simp only [List.eraseIdx_cons_succ]; exact .cons h1 (RDs.eraseIdx i h2)
theorem RDs.dropLast {ds : List D} {vs : List V} (h : RDs K μ H ds vs) : RDs K μ H ds.dropLast vs.dropLast := by
  rw [List.dropLast_eq_take, List.dropLast_eq_take, h.length]; exact h.take _
theorem RDs.ints : ∀ {ns : List Int} {vs : List V}, RDs K μ H (ns.map D.int) vs → vs = ns.map V.int
  | [], _, h => by cases h; rfl
  | n :: ns, _, h => by
    cases h with
    | cons h1 h2 => cases h1; simp [RDs.ints h2]
theorem RDs.of_ints : ∀ (ns : List Int), RDs K μ H (ns.map D.int) (ns.map V.int)
  | [] => .nil
  | n :: ns => .cons (.int n) (RDs.of_ints ns)
theorem RDs.strs : ∀ {ns : List Str} {vs : List V}, RDs K μ H (ns.map D.str) vs → vs = ns.map V.str
  | [], _, h => by cases h; rfl
  | n :: ns, _, h => by
    cases h with
    | cons h1 h2 => cases h1; simp [RDs.strs h2]
theorem RDs.of_strs : ∀ (ns : List Str), RDs K μ H (ns.map D.str) (ns.map V.str)
  | [] => .nil
  | n :: ns => .cons (.str n) (RDs.of_strs ns)
theorem RDs.bls : ∀ {ns : List Bool} {vs : List V}, RDs K μ H (ns.map D.bl) vs → vs = ns.map V.bl
  | [], _, h => by cases h; rfl
  | n :: ns, _, h => by
    cases h with
    | cons h1 h2 => cases h1; simp [RDs.bls h2]
/-- objects untouched keep what they are -/
theorem RM.step {a : Addr} {m : MO} (h : RM K μ H a m) (e : H' a = H a) (r : Rel K μ S H) (s : Stp μ H μ' H') : RM K μ' H' a m := by
  cases m with
  | lst ds => obtain ⟨vs, q, z⟩ := h; exact ⟨vs, e.trans q, z.step r s⟩
  | dct kvs => obtain ⟨ws, q, z⟩ := h; exact ⟨ws, e.trans q, z.step r s⟩
/-- a heap that grows by a new object -/
theorem Rel.new {p : Addr} {o : HO} (r : Rel K μ S H) (h : H p = none) : Rel K μ S (upd H p o) := by
  refine ⟨r.len, r.nd, fun i a m h1 h2 => (r.obj i a m h1 h2).step (upd_ne fun z => ?_) r (Stp.new h), fun a ha => (Stp.new (μ := μ) h).thr a (r.hid a ha), r.apt⟩
  subst z
  exact r.there (List.mem_of_getElem? h1) h
/-- the i-th object changes -/
theorem Rel.put {i : Nat} {p : Addr} {o : HO} {m : MO} (r : Rel K μ S H) (h : μ.v[i]? = some p) (hm : RM K μ (upd H p o) p m) : Rel K μ (S.set i m) (upd H p o) := by
  have hp : p ∈ μ.v := List.mem_of_getElem? h
  refine ⟨by rw [List.length_set]; exact r.len, r.nd, fun j a n h1 h2 => ?_, fun a ha => (Stp.put (μ := μ) hp).thr a (r.hid a ha), r.apt⟩
  by_cases hij : i = j
  · subst hij
    rw [h] at h1; cases h1
    have hl := (List.getElem?_eq_some_iff.mp h).1
    rw [r.len] at hl
    rw [List.getElem?_set_self hl] at h2
    cases h2
    exact hm
  · rw [List.getElem?_set_ne hij] at h2
    refine (r.obj j a n h1 h2).step (upd_ne fun z => hij ?_) r (Stp.put hp)
    subst z
    obtain ⟨l1, e1⟩ := List.getElem?_eq_some_iff.mp h
    obtain ⟨l2, e2⟩ := List.getElem?_eq_some_iff.mp h1
    exact (List.getElem_inj r.nd).mp (e1.trans e2.symm)
/-- a new object is taken into the store -/
theorem Rel.alloc {p : Addr} {o : HO} {m : MO} (r : Rel K μ S H) (h : H p = none) (hm : RM K (μ.push p) (upd H p o) p m) : Rel K (μ.push p) (S ++ [m]) (upd H p o) := by
  have hp : p ∉ μ.v := fun z => r.there z h
  refine ⟨by simp [r.len, Mu.push], ?_, fun i a n h1 h2 => ?_, fun a ha => (Stp.alloc (μ := μ) h).thr a (r.hid a ha), fun a ha hx => ?_⟩
  · unfold Mu.push
    rw [List.nodup_append]
    refine ⟨r.nd, by simp, fun a ha b hb => ?_⟩
    simp at hb; subst hb
    exact fun z => hp (by rw [← z]; exact ha)
  · unfold Mu.push at h1
    by_cases hi : i < μ.v.length
    · rw [List.getElem?_append_left hi] at h1
      rw [List.getElem?_append_left (by rw [← r.len]; exact hi)] at h2
      exact (r.obj i a n h1 h2).step (upd_ne fun z => hp (by rw [← z]; exact List.mem_of_getElem? h1)) r (Stp.alloc h)
    · have hi' : i = μ.v.length := by
        have := (List.getElem?_eq_some_iff.mp h1).1
        simp at this; omega
      subst hi'
      rw [List.getElem?_append_right (Nat.le_refl _)] at h1
      rw [r.len, List.getElem?_append_right (Nat.le_refl _)] at h2
      simp at h1 h2
      subst h1 h2
      exact hm
  · rcases List.mem_append.mp (show a ∈ μ.v ++ [p] from ha) with q | q
    · exact r.apt a q hx
    · simp at q; subst q; exact r.hid a hx h

/-! the store cut back at a def's end -/
mutual
def D.lo (n : Nat) : D → Bool
  | .ref k => decide (k < n)
  | .tup xs => D.los n xs
  | .lst xs => D.los n xs
  | .fl xs => D.los n xs
  | _ => true
def D.los (n : Nat) : List D → Bool
  | [] => true
  | x :: xs => D.lo n x && D.los n xs
end
def loK (n : Nat) : List (Key × D) → Bool
  | [] => true
  | x :: xs => D.lo n x.2 && loK n xs
def MO.lo (n : Nat) : MO → Bool
  | .lst xs => D.los n xs
  | .dct ks => loK n ks
mutual
theorem RD.cut {n : Nat} : ∀ (d : D) (v : V), RD K μ H d v → d.lo n = true → RD K (μ.cut n) H d v
  | .non, _, h, _ => by cases h; exact .non
  | .bl _, _, h, _ => by cases h; exact .bl _
  | .int _, _, h, _ => by cases h; exact .int _
  | .str _, _, h, _ => by cases h; exact .str _
  | .fn _, _, h, _ => by cases h with | fn q => exact .fn q
  | .tup ds, _, h, b => by
    cases h with
    | tup h1 h2 => exact .tup h1 (RDs.cut ds _ h2 (by simpa [D.lo] using b))
  | .fl ds, _, h, b => by
    cases h with
    | fl h1 h2 => exact .fl h1 (RDs.cut ds _ h2 (by simpa [D.lo] using b))
  | .lst ds, _, h, b => by
    cases h with
    | lst h1 h0 h2 => exact .lst h1 ⟨fun z => h0.1 (List.mem_of_mem_take z), h0.2⟩ (RDs.cut ds _ h2 (by simpa [D.lo] using b))
  | .ref k, _, h, b => by
    cases h with
    | ref h1 => exact .ref (by unfold Mu.cut; rw [List.getElem?_take_of_lt (by simpa [D.lo] using b)]; exact h1)
theorem RDs.cut {n : Nat} : ∀ (ds : List D) (vs : List V), RDs K μ H ds vs → D.los n ds = true → RDs K (μ.cut n) H ds vs
  | [], _, h, _ => by cases h; exact .nil
  | d :: ds, _, h, b => by
    have b' : d.lo n = true ∧ D.los n ds = true := by simpa [D.los] using b
    cases h with
    | cons h1 h2 => exact .cons (RD.cut d _ h1 b'.1) (RDs.cut ds _ h2 b'.2)
end
theorem RKs.cut {n : Nat} : ∀ {ks : List (Key × D)} {ws : List (Key × V)}, RKs K μ H ks ws → loK n ks = true → RKs K (μ.cut n) H ks ws
  | [], _, h, _ => by unfold RKs at *; cases h; exact .nil
  | k :: ks, _, h, b => by
    have b' : k.2.lo n = true ∧ loK n ks = true := by simpa [loK] using b
    unfold RKs at *
    cases h with
    | cons h1 h2 => exact .cons ⟨h1.1, RD.cut _ _ h1.2 b'.1⟩ (RKs.cut h2 b'.2)
theorem RM.cut {n : Nat} {a : Addr} {m : MO} (h : RM K μ H a m) (b : m.lo n = true) : RM K (μ.cut n) H a m := by
  cases m with
  | lst ds => obtain ⟨vs, q, z⟩ := h; exact ⟨vs, q, z.cut _ _ b⟩
  | dct kvs => obtain ⟨ws, q, z⟩ := h; exact ⟨ws, q, RKs.cut z b⟩
theorem Rel.cut {n : Nat} (r : Rel K μ S H) (b : (S.take n).all (MO.lo n) = true) : Rel K (μ.cut n) (S.take n) H := by
  refine ⟨by simp [r.len, Mu.cut], r.nd.sublist (List.take_sublist _ _), fun i a m h1 h2 => ?_, r.hid, fun a ha => r.apt a (List.mem_of_mem_take ha)⟩
  unfold Mu.cut at h1
  have hb : m.lo n = true := List.all_eq_true.mp b m (List.mem_of_getElem? h2)
  have hi : i < n := by
    have := (List.getElem?_eq_some_iff.mp h1).1
    simp at this; omega
  rw [List.getElem?_take_of_lt hi] at h1 h2
  exact (r.obj i a m h1 h2).cut hb
/-- a list that leaves the store -/
theorem RD.freed {n k : Nat} {ds : List D} {v : V} (r : Rel K μ S H) (h : RD K μ H (.ref k) v) (hk : n ≤ k) (e : S[k]? = some (.lst ds)) (b : D.los n ds = true) : RD K (μ.cut n) H (.lst ds) v := by
  cases h with
  | @ref _ a h1 =>
    obtain ⟨vs, q, z⟩ := r.obj k a _ h1 e
    refine .lst q ⟨fun hm => ?_, r.apt a (List.mem_of_getElem? h1)⟩ (z.cut _ _ b)
    unfold Mu.cut at hm
    obtain ⟨j, hj⟩ := List.mem_iff_getElem?.mp hm
    have hjn : j < n := by
      have := (List.getElem?_eq_some_iff.mp hj).1
      simp at this; omega
    rw [List.getElem?_take_of_lt hjn] at hj
    obtain ⟨l1, e1⟩ := List.getElem?_eq_some_iff.mp hj
    obtain ⟨l2, e2⟩ := List.getElem?_eq_some_iff.mp h1
    have := (List.getElem_inj r.nd).mp (e1.trans e2.symm)
    omega
theorem Stp.cut (s : Stp μ H μ' H') : Stp μ H (μ'.cut μ.v.length) H' := by
  obtain ⟨⟨ν, rfl, f⟩, k, t⟩ := s
  refine ⟨⟨[], by simp [Mu.cut], by simp⟩, k, t⟩
end

/-! ### a list in the making -/
section
variable {K : PySem.W.Frag} {μ : Mu} {S : Sto} {H : Hp}
def Mu.hide (μ : Mu) (p : Addr) : Mu := ⟨μ.v, p :: μ.x⟩
mutual
theorem RD.hide {p : Addr} {o : HO} (hp : H p = none) : ∀ (d : D) (v : V), RD K μ H d v → RD K (μ.hide p) (upd H p o) d v
  | .non, _, h => by cases h; exact .non
  | .bl _, _, h => by cases h; exact .bl _
  | .int _, _, h => by cases h; exact .int _
  | .str _, _, h => by cases h; exact .str _
  | .fn _, _, h => by cases h with | fn q => exact .fn q
  | .tup ds, _, h => by
    cases h with
    | tup h1 h2 =>
      refine .tup ?_ (RDs.hide hp ds _ h2)
      rcases h1 with (h1 | ⟨o, h1⟩) | h1
      · exact .inl (.inl (by rw [upd_ne (ne_of_none h1 hp)]; exact h1))
      · exact .inl (.inr ⟨o, by rw [upd_ne (ne_of_none h1 hp)]; exact h1⟩)
      · exact .inr h1
  | .fl ds, _, h => by
    cases h with
    | fl h1 h2 =>
      refine .fl ?_ (RDs.hide hp ds _ h2)
      rcases h1 with ⟨o, h1⟩ | h1
      · exact .inl ⟨o, by rw [upd_ne (ne_of_none h1 hp)]; exact h1⟩
      · exact .inr h1
  | .lst ds, _, h => by
    cases h with
    | lst h1 h0 h2 =>
      have ne := ne_of_none h1 hp
      refine .lst (by rw [upd_ne ne]; exact h1) ⟨h0.1, fun z => ?_⟩ (RDs.hide hp ds _ h2)
      rcases List.mem_cons.mp z with z | z
      · exact ne z
      · exact h0.2 z
  | .ref n, _, h => by
    cases h with
    | ref h1 => exact .ref h1
theorem RDs.hide {p : Addr} {o : HO} (hp : H p = none) : ∀ (ds : List D) (vs : List V), RDs K μ H ds vs → RDs K (μ.hide p) (upd H p o) ds vs
  | [], _, h => by cases h; exact .nil
  | d :: ds, _, h => by
    cases h with
    | cons h1 h2 => exact .cons (RD.hide hp d _ h1) (RDs.hide hp ds _ h2)
end
mutual
/-- the hidden list changes: nobody sees it -/
theorem RD.seen {p : Addr} {xs ys : List V} (hp : H p = some (.lst xs)) : ∀ (d : D) (v : V), RD K (μ.hide p) H d v → RD K (μ.hide p) (upd H p (.lst ys)) d v
  | .non, _, h => by cases h; exact .non
  | .bl _, _, h => by cases h; exact .bl _
  | .int _, _, h => by cases h; exact .int _
  | .str _, _, h => by cases h; exact .str _
  | .fn _, _, h => by cases h with | fn q => exact .fn q
  | .tup ds, _, h => by
    cases h with
    | tup h1 h2 =>
      refine .tup ?_ (RDs.seen hp ds _ h2)
      rcases h1 with (h1 | ⟨o, h1⟩) | h1
      · exact .inl (.inl (by rw [upd_ne (ne_of h1 hp (fun z => nomatch z))]; exact h1))
      · exact .inl (.inr ⟨o, by rw [upd_ne (ne_of h1 hp (fun z => nomatch z))]; exact h1⟩)
      · exact .inr h1
  | .fl ds, _, h => by
    cases h with
    | fl h1 h2 =>
      refine .fl ?_ (RDs.seen hp ds _ h2)
      rcases h1 with ⟨o, h1⟩ | h1
      · exact .inl ⟨o, by rw [upd_ne (ne_of h1 hp (fun z => nomatch z))]; exact h1⟩
      · exact .inr h1
  | .lst ds, _, h => by
    cases h with
    | lst h1 h0 h2 =>
      refine .lst (by rw [upd_ne (fun z => h0.2 (by rw [z]; exact List.mem_cons_self))]; exact h1) h0 (RDs.seen hp ds _ h2)
  | .ref n, _, h => by
    cases h with
    | ref h1 => exact .ref h1
theorem RDs.seen {p : Addr} {xs ys : List V} (hp : H p = some (.lst xs)) : ∀ (ds : List D) (vs : List V), RDs K (μ.hide p) H ds vs → RDs K (μ.hide p) (upd H p (.lst ys)) ds vs
  | [], _, h => by cases h; exact .nil
  | d :: ds, _, h => by
    cases h with
    | cons h1 h2 => exact .cons (RD.seen hp d _ h1) (RDs.seen hp ds _ h2)
end
mutual
theorem RD.show {p : Addr} : ∀ (d : D) (v : V), RD K (μ.hide p) H d v → RD K μ H d v
  | .non, _, h => by cases h; exact .non
  | .bl _, _, h => by cases h; exact .bl _
  | .int _, _, h => by cases h; exact .int _
  | .str _, _, h => by cases h; exact .str _
  | .fn _, _, h => by cases h with | fn q => exact .fn q
  | .tup ds, _, h => by cases h with | tup h1 h2 => exact .tup h1 (RDs.show ds _ h2)
  | .fl ds, _, h => by cases h with | fl h1 h2 => exact .fl h1 (RDs.show ds _ h2)
  | .lst ds, _, h => by cases h with | lst h1 h0 h2 => exact .lst h1 ⟨h0.1, fun z => h0.2 (List.mem_cons_of_mem _ z)⟩ (RDs.show ds _ h2)
  | .ref n, _, h => by cases h with | ref h1 => exact .ref h1
theorem RDs.show {p : Addr} : ∀ (ds : List D) (vs : List V), RDs K (μ.hide p) H ds vs → RDs K μ H ds vs
  | [], _, h => by cases h; exact .nil
  | d :: ds, _, h => by
    cases h with
    | cons h1 h2 => exact .cons (RD.show d _ h1) (RDs.show ds _ h2)
end
theorem RM.map {μ' : Mu} {H' : Hp} {a : Addr} {m : MO} (h : RM K μ H a m) (e : H' a = H a) (f : ∀ d v, RD K μ H d v → RD K μ' H' d v) (fs : ∀ d v, RDs K μ H d v → RDs K μ' H' d v) : RM K μ' H' a m := by
  cases m with
  | lst ds => obtain ⟨vs, q, z⟩ := h; exact ⟨vs, e.trans q, fs _ _ z⟩
  | dct kvs => obtain ⟨ws, q, z⟩ := h; exact ⟨ws, e.trans q, Paired.mapP z fun p q z => ⟨z.1, f _ _ z.2⟩⟩
theorem Rel.hide {p : Addr} {o : HO} (r : Rel K μ S H) (hp : H p = none) : Rel K (μ.hide p) S (upd H p o) := by
  refine ⟨r.len, r.nd, fun i a m h1 h2 => (r.obj i a m h1 h2).map (upd_ne fun z => ?_) (RD.hide hp) (RDs.hide hp), fun a ha => ?_, fun a ha hx => ?_⟩
  · subst z; exact r.there (List.mem_of_getElem? h1) hp
  · rcases List.mem_cons.mp ha with z | z
    · rw [z, upd_same]; simp
    · exact (Stp.new (μ := μ) hp).thr a (r.hid a z)
  · rcases List.mem_cons.mp hx with z | z
    · subst z; exact r.there ha hp
    · exact r.apt a ha z
theorem Rel.seen {p : Addr} {xs ys : List V} (r : Rel K (μ.hide p) S H) (hp : H p = some (.lst xs)) : Rel K (μ.hide p) S (upd H p (.lst ys)) := by
  refine ⟨r.len, r.nd, fun i a m h1 h2 => (r.obj i a m h1 h2).map (upd_ne fun z => ?_) (RD.seen hp) (RDs.seen hp), fun a ha => ?_, r.apt⟩
  · exact r.apt a (List.mem_of_getElem? h1) (by rw [z]; exact List.mem_cons_self)
  · by_cases z : a = p
    · rw [z, upd_same]; simp
    · rw [upd_ne z]; exact r.hid a ha
theorem Rel.show {p : Addr} (r : Rel K (μ.hide p) S H) : Rel K μ S H :=
  ⟨r.len, r.nd, fun i a m h1 h2 => (r.obj i a m h1 h2).map rfl RD.show RDs.show, fun a ha => r.hid a (List.mem_cons_of_mem _ ha), fun a ha hx => r.apt a ha (List.mem_cons_of_mem _ hx)⟩
/-- a step beside the hidden list is a step -/
theorem Stp.show {μ' : Mu} {p : Addr} {H' : Hp} (s : Stp (μ.hide p) H μ' H') : ∃ μ1, μ' = μ1.hide p ∧ Stp μ H μ1 H' := by
  obtain ⟨⟨ν, rfl, f⟩, k, t⟩ := s
  exact ⟨⟨μ.v ++ ν, μ.x⟩, rfl, ⟨ν, rfl, f⟩, k, t⟩
end

/-! ### slots -/
structure RE (K : PySem.W.Frag) (μ : Mu) (H : Hp) (σ : L2.St) (ρ : Rho) : Prop where
  len : σ.length = ρ.length
  val : ∀ (i : Nat) (d : D), ρ[i]? = some (some d) → ∃ v, σ[i]? = some (some v) ∧ RD K μ H d v
section
variable {K : PySem.W.Frag} {μ μ' : Mu} {S : Sto} {H H' : Hp} {σ : L2.St} {ρ : Rho}
theorem RE.step (h : RE K μ H σ ρ) (r : Rel K μ S H) (s : Stp μ H μ' H') : RE K μ' H' σ ρ := ⟨h.len, fun i d e => by
  obtain ⟨v, e1, z⟩ := h.val i d e
  exact ⟨v, e1, z.step r s⟩⟩
theorem RE.set {d : D} {v : V} (h : RE K μ H σ ρ) (z : RD K μ H d v) (i : Nat) : RE K μ H (σ.set i (some v)) (ρ.set i (some d)) := by
  refine ⟨by simp [h.len], fun j e q => ?_⟩
  by_cases hij : i = j
  · subst hij
    by_cases hl : i < ρ.length
    · rw [List.getElem?_set_self hl] at q
      cases q
      exact ⟨v, List.getElem?_set_self (by rw [h.len]; exact hl), z⟩
    · rw [List.getElem?_eq_none (by simpa using hl)] at q; cases q
  · rw [List.getElem?_set_ne hij] at q ⊢
    exact h.val j e q
def wipeR (ρ : Rho) : List Nat → Rho
  | [] => ρ
  | v :: vs => (wipeR ρ vs).set v none
theorem RE.drop {i : Nat} (h : RE K μ H σ ρ) : RE K μ H (σ.set i none) (ρ.set i none) := by
  refine ⟨by simp [h.len], fun j e q => ?_⟩
  by_cases hij : i = j
  · subst hij
    by_cases hl : i < ρ.length
    · rw [List.getElem?_set_self hl] at q; cases q
    · rw [List.getElem?_eq_none (by simpa using hl)] at q; cases q
  · rw [List.getElem?_set_ne hij] at q ⊢
    exact h.val j e q
theorem RE.wipe (h : RE K μ H σ ρ) : ∀ vs, RE K μ H (L2.wipe σ vs) (wipeR ρ vs)
  | [] => h
  | v :: vs => by unfold L2.wipe wipeR; exact (RE.wipe h vs).drop
end

theorem RE.mapR {K : PySem.W.Frag} {μ μ' : Mu} {H H' : Hp} {σ : L2.St} {ρ : Rho} (h : RE K μ H σ ρ) (f : ∀ d v, RD K μ H d v → RD K μ' H' d v) : RE K μ' H' σ ρ := ⟨h.len, fun i d e => by
  obtain ⟨v, e1, z⟩ := h.val i d e
  exact ⟨v, e1, f _ _ z⟩⟩

/-! ### what is wanted of a result -/
section
variable (K : PySem.W.Frag) (mg : Str → Option Value) (W : WX)
def Post {α : Type} (μ : Mu) (σ : L2.St) (H : Hp) (r : R α) (Q : α → Mu → Hp → Prop) : Prop := match r with
  | .ok a S' => ∀ μ' H', Stp μ H μ' H' → Rel K μ' S' H' → Q a μ' H'
  | .ex e S' => ∀ μ' H' c od, Stp μ H μ' H' → Rel K μ' S' H' → RX K mg μ' H' e c od → W c od σ H'
  | .bad => False
abbrev EvD := Rho → M D
abbrev EvB := Rho → M Bool
abbrev EvL := Rho → M (List D)
def QD (Q : VK) : D → Mu → Hp → Prop := fun d μ' H' => ∀ v, RD K μ' H' d v → Q v H'
def tD (F : EvD) : TE := fun σ H Q => ∃ ρ S μ, RE K μ H σ ρ ∧ Rel K μ S H ∧ Post K mg W μ σ H (F ρ S) (QD K Q)
def tT (F : EvB) : TT := fun σ H Q => ∃ ρ S μ, RE K μ H σ ρ ∧ Rel K μ S H ∧ Post K mg W μ σ H (F ρ S) (fun b _ H' => Q b H')
def tA (F : EvL) : TA := fun σ H Q => ∃ ρ S μ, RE K μ H σ ρ ∧ Rel K μ S H ∧ Post K mg W μ σ H (F ρ S) (fun ds μ' H' => ∀ vs, RDs K μ' H' ds vs → Q vs H')
end
section
variable {K : PySem.W.Frag} {mg : Str → Option Value} {W : WX} {μ μ1 : Mu} {σ : L2.St} {H H1 : Hp} {α β : Type}
theorem Post.mono {r : R α} {Q : α → Mu → Hp → Prop} (h : Post K mg W μ σ H r Q) (s : Stp μ H μ1 H1) : Post K mg W μ1 σ H1 r Q := by
  cases r with
  | ok a S => exact fun μ' H' q => h μ' H' (s.trans q)
  | ex e S => exact fun μ' H' c od q => h μ' H' c od (s.trans q)
  | bad => exact h
theorem Post.imp {r : R α} {Q Q' : α → Mu → Hp → Prop} (h : Post K mg W μ σ H r Q) (f : ∀ a S' μ' H', r = .ok a S' → Stp μ H μ' H' → Rel K μ' S' H' → Q a μ' H' → Q' a μ' H') : Post K mg W μ σ H r Q' := by
  cases r with
  | ok a S => exact fun μ' H' s q => f a S μ' H' rfl s q (h μ' H' s q)
  | ex e S => exact h
  | bad => exact h
theorem Post.bnd {m : M α} {k : α → M β} {S : Sto} {Q : β → Mu → Hp → Prop} {Q1 : α → Mu → Hp → Prop} (h : Post K mg W μ σ H (bnd m k S) Q)
    (f : ∀ a S1 μ1 H1, Stp μ H μ1 H1 → Rel K μ1 S1 H1 → Post K mg W μ1 σ H1 (k a S1) Q → Q1 a μ1 H1) : Post K mg W μ σ H (m S) Q1 := by
  unfold DL.bnd at h
  cases e : m S with
  | ok a S1 =>
    rw [e] at h
    intro μ' H' s r
    exact f a S1 μ' H' s r (Post.mono h s)
  | ex x S1 => rw [e] at h; exact h
  | bad => rw [e] at h; exact h
/-- a result that is there -/
theorem Post.now {a : α} {S : Sto} {Q : α → Mu → Hp → Prop} (h : Post K mg W μ σ H (.ok a S) Q) (r : Rel K μ S H) : Q a μ H := h μ H .refl r
end
theorem PE.imp {X : Cx} {e : Expr} {t t' : TE} (h : PE X e t) (f : ∀ σ H Q, t' σ H Q → t σ H Q) : PE X e t' := ⟨fun pins s σ H Q I q => h.run pins s σ H Q I (f σ H Q q)⟩
theorem PT.imp {X : Cx} {e : Expr} {t t' : TT} (h : PT X e t) (f : ∀ σ H Q, t' σ H Q → t σ H Q) : PT X e t' := ⟨fun pins s σ H Q I q => h.run pins s σ H Q I (f σ H Q q)⟩
theorem PW.imp {X : Cx} {e : Expr} {t t' : TT} (h : PW X e t) (f : ∀ σ H Q, t' σ H Q → t σ H Q) : PW X e t' := ⟨fun w pins s σ H Q I q => h.run w pins s σ H Q I (f σ H Q q)⟩
theorem PA.imp {X : Cx} {e : List Expr} {t t' : TA} (h : PA X e t) (f : ∀ σ H Q, t' σ H Q → t σ H Q) : PA X e t' := ⟨fun p pins s σ H Q I q => h.run p pins s σ H Q I (f σ H Q q)⟩
theorem PS.imp {X : Cx} {e : Stmt} {t t' : TS} (h : PS X e t) (f : ∀ D σ H, t' D σ H → t D σ H) : PS X e t' := ⟨fun pins s σ H D I q => h.run pins s σ H D I (f D σ H q)⟩
theorem PSs.imp {X : Cx} {e : List Stmt} {t t' : TS} (h : PSs X e t) (f : ∀ D σ H, t' D σ H → t D σ H) : PSs X e t' := ⟨fun pins s σ H D I q => h.run pins s σ H D I (f D σ H q)⟩
end DL

/-! DL2: expressions. -/
namespace DL
open PySem L2

/-! ### readers -/
def atL (S : Sto) (n : Nat) : Option (List D) := match S[n]? with
  | some (.lst ds) => some ds
  | _ => none
theorem atL_ok {S : Sto} {n : Nat} {ds : List D} (h : atL S n = some ds) : S[n]? = some (.lst ds) := by
  unfold atL at h
  split at h
  · rename_i hs; cases h; exact hs
  · cases h
def iLst (S : Sto) : D → Option (List D)
  | .tup ds => some ds
  | .lst ds => some ds
  | .fl ds => some ds
  | .ref n => atL S n
  | _ => none
/-- a list that the heap tracks as one -/
def iTrk (S : Sto) : D → Option (List D)
  | .lst ds => some ds
  | .ref n => atL S n
  | _ => none
/-- a list, not a tuple -/
def iSeq (S : Sto) : D → Option (List D)
  | .lst ds => some ds
  | .fl ds => some ds
  | .ref n => atL S n
  | _ => none
section
variable {K : PySem.W.Frag} {μ μ' : Mu} {S : Sto} {H H' : Hp}
theorem iTrk_ok {d : D} {ds : List D} {v : V} (e : iTrk S d = some ds) (r : Rel K μ S H) (h : RD K μ H d v) : ∃ a vs, v = .ref a ∧ H a = some (.lst vs) ∧ RDs K μ H ds vs := by
  cases h with
  | lst h1 h0 h2 => cases e; exact ⟨_, _, rfl, h1, h2⟩
  | @ref n a h1 =>
    obtain ⟨vs, q, z⟩ := r.obj n a _ h1 (atL_ok (show atL S n = some ds from e))
    exact ⟨a, vs, rfl, q, z⟩
  | _ => cases e
theorem iSeq_ok {d : D} {ds : List D} {v : V} (e : iSeq S d = some ds) (r : Rel K μ S H) (h : RD K μ H d v) : ∃ a vs, v = .ref a ∧ SqL K H a vs ∧ RDs K μ H ds vs := by
  cases h with
  | lst h1 h0 h2 => cases e; exact ⟨_, _, rfl, (.inl (.inl h1)), h2⟩
  | fl h1 h2 =>
    cases e
    rcases h1 with ⟨o, h1⟩ | h1
    · exact ⟨_, _, rfl, (.inl (.inr ⟨o, h1⟩)), h2⟩
    · exact ⟨_, _, rfl, (.inr h1), h2⟩
  | @ref n a h1 =>
    obtain ⟨vs, q, z⟩ := r.obj n a _ h1 (atL_ok (show atL S n = some ds from e))
    exact ⟨a, vs, rfl, .inl (.inl q), z⟩
  | _ => cases e
theorem iLst_ok {d : D} {ds : List D} {v : V} (e : iLst S d = some ds) (r : Rel K μ S H) (h : RD K μ H d v) : ∃ a vs, v = .ref a ∧ (SqL K H a vs ∨ SqT K H a vs) ∧ RDs K μ H ds vs := by
  cases d with
  | tup ds' => cases h with | tup h1 h2 => cases e; exact ⟨_, _, rfl, .inr h1, h2⟩
  | lst ds' => obtain ⟨a, vs, q1, q2, q3⟩ := iSeq_ok (d := .lst ds') e r h; exact ⟨a, vs, q1, .inl q2, q3⟩
  | fl ds' => obtain ⟨a, vs, q1, q2, q3⟩ := iSeq_ok (d := .fl ds') e r h; exact ⟨a, vs, q1, .inl q2, q3⟩
  | ref n => obtain ⟨a, vs, q1, q2, q3⟩ := iSeq_ok (d := .ref n) e r h; exact ⟨a, vs, q1, .inl q2, q3⟩
  | _ => cases e
end

/-! ### names, constants -/
def eVar (i : Nat) : EvD := fun ρ S => match ρ[i]? with
  | some (some d) => .ok d S
  | _ => .bad
def eC (d : D) : EvD := fun _ S => .ok d S
def eBin (g : D → D → M D) (a b : EvD) : EvD := fun ρ => bnd (a ρ) fun x => bnd (b ρ) fun y => g x y
def eUn (g : D → M D) (a : EvD) : EvD := fun ρ => bnd (a ρ) g
section
variable {X : Cx} {W : WX} {pos : Pos}
theorem d_var (i : Nat) {x : Str} (hN : X.N[i]? = some x := by rfl) (hv : Vis X.env.scope x := by first | exact Or.inl rfl | exact Or.inr (Or.inl rfl) | exact Or.inr (Or.inr rfl)) (hd : (x == ("__debug__" : Str)) = false := by decide)
    (hcd : (x == ("__classdict__" : Str)) = false := by decide) : PE X (.Name x pos) (tD X.K X.mg W (eVar i)) := by
  refine PE.imp (pe_var hN hv hd hcd) fun σ H Q ⟨ρ, S, μ, e, s, h⟩ => ?_
  unfold eVar at h
  split at h
  · rename_i d hd
    obtain ⟨v, e1, z⟩ := e.val i d hd
    exact ⟨v, e1, h.now s v z⟩
  · exact h.elim
theorem d_const {e : Expr} {d : D} {v : V} (h : PE X e (tC v)) (hd : ∀ μ H, RD X.K μ H d v) : PE X e (tD X.K X.mg W (eC d)) :=
  PE.imp h fun σ H Q ⟨ρ, S, μ, e, s, h⟩ => h.now s v (hd μ H)
theorem d_int {i j} : PE X (.Constant (.int i) j pos) (tD X.K X.mg W (eC (.int i))) := d_const pe_int fun _ _ => .int i
theorem d_bl {i j} : PE X (.Constant (.bool i) j pos) (tD X.K X.mg W (eC (.bl i))) := d_const pe_bl fun _ _ => .bl i
theorem d_str {i j} : PE X (.Constant (.str i) j pos) (tD X.K X.mg W (eC (.str i))) := d_const pe_str fun _ _ => .str i
theorem d_non {j} : PE X (.Constant .none j pos) (tD X.K X.mg W (eC .non)) := d_const pe_non fun _ _ => .non
theorem d_glob {x : Str} {d : D} {v : V} {u : Value} (hg : Gl X x) (hm : X.mg x = some u) (r : RelV v u) (hd : ∀ μ H, RD X.K μ H d v) (hdb : (x == ("__debug__" : Str)) = false := by decide) : PE X (.Name x pos) (tD X.K X.mg W (eC d)) :=
  d_const (pe_glob hg hm r hdb) hd

/-! ### operations -/
def ORD (X : Cx) (W : WX) (f : Value → Value → Sem Value) (g : D → D → M D) : Prop := ∃ r : R2, OpR X f r ∧
  ∀ x y v w μ S σ H Q, Rel X.K μ S H → RD X.K μ H x v → RD X.K μ H y w → Post X.K X.mg W μ σ H (g x y S) (QD X.K Q) → r v w H Q
theorem bin_ok {r : R2} {g : D → D → M D} {ta tb : EvD} {σ : L2.St} {H : Hp} {Q : VK} (hr : ∀ x y v w μ S σ H Q, Rel X.K μ S H → RD X.K μ H x v → RD X.K μ H y w → Post X.K X.mg W μ σ H (g x y S) (QD X.K Q) → r v w H Q)
    (h : tD X.K X.mg W (eBin g ta tb) σ H Q) : tOp r (tD X.K X.mg W ta) (tD X.K X.mg W tb) σ H Q := by
  obtain ⟨ρ, S, μ, e, s, h⟩ := h
  refine ⟨ρ, S, μ, e, s, h.bnd fun x S1 μ1 H1 s1 r1 h1 v rv => ?_⟩
  refine ⟨ρ, S1, μ1, e.step s s1, r1, h1.bnd fun y S2 μ2 H2 s2 r2 h2 w rw => ?_⟩
  exact hr _ _ _ _ μ2 S2 σ H2 Q r2 (rv.step r1 s2) rw h2
theorem d_bin {a b : Expr} {op : Operator} {g : D → D → M D} {ta tb : EvD} (o : ORD X W (binaryOp op) g) (ha : PE X a (tD X.K X.mg W ta)) (hb : PE X b (tD X.K X.mg W tb)) : PE X (.BinOp a op b pos) (tD X.K X.mg W (eBin g ta tb)) := by
  obtain ⟨r, ho, hr⟩ := o
  exact PE.imp (pe_op ho ha hb) fun σ H Q h => bin_ok hr h
theorem d_cmp {a b : Expr} {op : CmpOp} {g : D → D → M D} {ta tb : EvD} (o : ORD X W (compareOp op) g) (ha : PE X a (tD X.K X.mg W ta)) (hb : PE X b (tD X.K X.mg W tb)) (hm : behindInMarks op b = false) : PE X (.Compare a [op] [b] pos) (tD X.K X.mg W (eBin g ta tb)) := by
  obtain ⟨r, ho, hr⟩ := o
  exact PE.imp (pe_cmpR ho ha hb hm) fun σ H Q h => bin_ok hr h
def URD (X : Cx) (W : WX) (f : Value → Sem Value) (g : D → M D) : Prop := ∃ r, UnR X f r ∧
  ∀ x v μ S σ H Q, Rel X.K μ S H → RD X.K μ H x v → Post X.K X.mg W μ σ H (g x S) (QD X.K Q) → r v H Q
theorem d_un {a : Expr} {op : UnaryOp} {g : D → M D} {ta : EvD} (o : URD X W (unaryOp op) g) (ha : PE X a (tD X.K X.mg W ta)) : PE X (.UnaryOp op a pos) (tD X.K X.mg W (eUn g ta)) := by
  obtain ⟨r, ho, hr⟩ := o
  refine PE.imp (pe_un ho ha) fun σ H Q ⟨ρ, S, μ, e, s, h⟩ => ?_
  exact ⟨ρ, S, μ, e, s, h.bnd fun x S1 μ1 H1 s1 r1 h1 v rv => hr _ _ μ1 S1 σ H1 Q r1 rv h1⟩

/-! arithmetic -/
def gAdd (x y : D) : M D := fun S => match x, y with
  | .int i, .int j => .ok (.int (i + j)) S
  | .str a, .str b => if a.length + b.length ≤ sizeLine then .ok (.str (a ++ b)) S else .bad
  | .tup a, .tup b => if a.length + b.length ≤ sizeLine then .ok (.tup (a ++ b)) S else .bad
  | x, y => match iTrk S x, iTrk S y with
    | some a, some b => if a.length + b.length ≤ sizeLine then .ok (.lst (a ++ b)) S else .bad
    | _, _ => .bad
theorem o_add : ORD X W (binaryOp .Add) gAdd := by
  refine ⟨_, op_add.or (op_add_str.or (op_catA.or op_cat)), fun x y v w μ S σ H Q r rx ry h => ?_⟩
  unfold gAdd at h
  split at h
  · cases rx; cases ry
    exact .inl ⟨_, _, rfl, rfl, h.now r _ (.int _)⟩
  · cases rx; cases ry
    split at h
    · rename_i hl
      exact .inr (.inl ⟨_, _, rfl, rfl, hl, h.now r _ (.str _)⟩)
    · exact h.elim
  · cases rx with
    | @tup a1 vs1 ds1 h1 h2 =>
      cases ry with
      | @tup a2 vs2 ds2 g1 g2 =>
        split at h
        · rename_i hl
          rw [h2.length, g2.length] at hl
          refine .inr (.inr (.inl ⟨_, _, _, _, rfl, rfl, h1, g1, hl, fun e => ?_, fun e1 e2 => ?_, fun e1 e2 p hp => ?_⟩))
          · subst e
            cases h2
            exact h.now r _ (.tup g1 g2)
          · subst e2
            cases g2
            exact h.now r _ (.tup h1 (by simpa using h2))
          · exact h μ _ (Stp.new hp) (r.new hp) _ (.tup (.inl (.inl upd_same)) ((h2.step r (Stp.new hp)).append (g2.step r (Stp.new hp))))
        · exact h.elim
  · split at h
    · rename_i a b ea eb
      split at h
      · rename_i hl
        obtain ⟨p1, v1, rfl, q1, z1⟩ := iTrk_ok ea r rx
        obtain ⟨p2, v2, rfl, q2, z2⟩ := iTrk_ok eb r ry
        rw [z1.length, z2.length] at hl
        refine .inr (.inr (.inr ⟨_, _, _, _, rfl, rfl, q1, q2, hl, fun p hp => ?_⟩))
        exact h μ _ (Stp.new hp) (r.new hp) _ (.lst upd_same ⟨fun z => r.there z hp, fun z => r.hid _ z hp⟩ ((z1.step r (Stp.new hp)).append (z2.step r (Stp.new hp))))
      · exact h.elim
    · exact h.elim
def gI (C : Int → Int → Bool) (f : Int → Int → Int) (x y : D) : M D := fun S => match x, y with
  | .int i, .int j => if C i j then .ok (.int (f i j)) S else .bad
  | _, _ => .bad
theorem o_int {f : Value → Value → Sem Value} {C : Int → Int → Bool} {CP : Int → Int → Prop} {k : Int → Int → Int} (ho : OpR X f (rI CP fun i j => .int (k i j))) (hC : ∀ i j, C i j = true → CP i j) : ORD X W f (gI C k) := by
  refine ⟨_, ho, fun x y v w μ S σ H Q r rx ry h => ?_⟩
  unfold gI at h
  split at h
  · cases rx; cases ry
    split at h
    · rename_i hc
      exact ⟨_, _, rfl, rfl, hC _ _ hc, h.now r _ (.int _)⟩
    · exact h.elim
  · exact h.elim
abbrev gSub := gI (fun _ _ => true) fun i j => i - j
theorem op_subC : OpR X (binaryOp .Sub) (rI (fun _ _ => True) fun i j => .int (i - j)) := fun pins s σ H x y v u Q I rx ry h => by
  obtain ⟨i, j, e1, e2, _, q⟩ := h
  exact op_sub pins s σ H x y v u Q I rx ry ⟨i, j, e1, e2, q⟩
theorem o_sub : ORD X W (binaryOp .Sub) gSub := o_int op_subC fun _ _ _ => trivial
/-- one factor below 2^64 -/
def cMul (i j : Int) : Bool := decide (i.natAbs < 18446744073709551616) || decide (j.natAbs < 18446744073709551616)
theorem cMul_ok {i j : Int} (h : cMul i j = true) : CMul i j := by
  unfold cMul at h
  simp only [Bool.or_eq_true, decide_eq_true_eq] at h
  unfold CMul
  omega
abbrev gMul := gI cMul fun i j => i * j
theorem o_mul : ORD X W (binaryOp .Mult) gMul := o_int op_mul fun _ _ h => cMul_ok h
def cDiv (_ j : Int) : Bool := decide (0 < j) && decide (j.natAbs.log2 < 9000)
abbrev gDiv := gI cDiv fun i j => i / j
theorem o_div : ORD X W (binaryOp .FloorDiv) gDiv := o_int op_fdivW fun _ _ h => by
  unfold cDiv at h
  simpa [CDivW] using h
abbrev gMod := gI (fun _ j => decide (0 < j)) fun i j => i % j
theorem o_mod : ORD X W (binaryOp .Mod) gMod := o_int op_mod fun _ _ h => by simpa using h
def cPow (i j : Int) : Bool := decide (0 ≤ j ∧ j ≤ 1000000) && decide (i.natAbs < 18446744073709551616)
abbrev gPow := gI cPow fun i j => i ^ j.toNat
theorem o_pow : ORD X W (binaryOp .Pow) gPow := o_int op_pow fun _ _ h => by
  unfold cPow at h
  simp only [Bool.and_eq_true, decide_eq_true_eq] at h
  exact ⟨h.1.1, h.1.2, h.2⟩
def gNeg (x : D) : M D := fun S => match x with
  | .int i => .ok (.int (-i)) S
  | _ => .bad
theorem o_neg : URD X W (unaryOp .USub) gNeg := by
  refine ⟨_, un_neg, fun x v μ S σ H Q r rx h => ?_⟩
  unfold gNeg at h
  split at h
  · cases rx
    exact ⟨_, rfl, h.now r _ (.int _)⟩
  · exact h.elim

/-! comparisons -/
def gC (f : Int → Int → Bool) (x y : D) : M D := fun S => match x, y with
  | .int i, .int j => .ok (.bl (f i j)) S
  | _, _ => .bad
theorem o_cmp {f : Value → Value → Sem Value} {k : Int → Int → Bool} (ho : OpR X f (rI0 fun i j => .bl (k i j))) : ORD X W f (gC k) := by
  refine ⟨_, ho, fun x y v w μ S σ H Q r rx ry h => ?_⟩
  unfold gC at h
  split at h
  · cases rx; cases ry
    exact ⟨_, _, rfl, rfl, h.now r _ (.bl _)⟩
  · exact h.elim
abbrev gLt := gC fun i j => decide (i < j)
abbrev gLe := gC fun i j => decide (i ≤ j)
abbrev gGt := gC fun i j => decide (j < i)
abbrev gGe := gC fun i j => decide (j ≤ i)
theorem o_lt : ORD X W (compareOp .Lt) gLt := o_cmp op_lt
theorem o_le : ORD X W (compareOp .LtE) gLe := o_cmp op_le
theorem o_gt : ORD X W (compareOp .Gt) gGt := o_cmp op_gt
theorem o_ge : ORD X W (compareOp .GtE) gGe := o_cmp op_ge

/-! == of data -/
end
mutual
def toPy : D → Option PyData
  | .non => some .none
  | .bl b => some (.bool b)
  | .int i => some (.int i)
  | .str x => some (.str x)
  | .tup ds => (toPys ds).map .tuple
  | .lst ds => (toPys ds).map .list
  | .fl ds => (toPys ds).map .list
  | .ref _ => none
  | .fn _ => none
def toPys : List D → Option (List PyData)
  | [] => some []
  | d :: ds => match toPy d, toPys ds with
    | some p, some ps => some (p :: ps)
    | _, _ => none
end
/-- .. a stored list at the top -/
def toPyS (S : Sto) : D → Option PyData
  | .ref n => match atL S n with
    | some ds => (toPys ds).map .list
    | none => none
  | d => toPy d
section
variable {K : PySem.W.Frag} {μ : Mu} {S : Sto} {H : Hp}
mutual
theorem toPy_ok : ∀ (d : D) (p : PyData) (v : V), toPy d = some p → RD K μ H d v → Dp K H v p
  | .non, _, _, e, h => by cases e; cases h; exact .non
  | .bl _, _, _, e, h => by cases e; cases h; exact .bl _
  | .int _, _, _, e, h => by cases e; cases h; exact .int _
  | .str _, _, _, e, h => by cases e; cases h; exact .str _
  | .tup ds, _, _, e, h => by
    simp only [toPy, Option.map_eq_some_iff] at e
    obtain ⟨ps, e, rfl⟩ := e
    cases h with
    | tup h1 h2 => exact .tup h1 (toPys_ok ds ps _ e h2)
  | .lst ds, _, _, e, h => by
    simp only [toPy, Option.map_eq_some_iff] at e
    obtain ⟨ps, e, rfl⟩ := e
    cases h with
    | lst h1 h0 h2 => exact .lst (.inl (.inl h1)) (toPys_ok ds ps _ e h2)
  | .fl ds, _, _, e, h => by
    simp only [toPy, Option.map_eq_some_iff] at e
    obtain ⟨ps, e, rfl⟩ := e
    cases h with
    | fl h1 h2 =>
      rcases h1 with ⟨o, h1⟩ | h1
      · exact .lst (.inl (.inr ⟨o, h1⟩)) (toPys_ok ds ps _ e h2)
      · exact .lst (.inr h1) (toPys_ok ds ps _ e h2)
  | .ref _, _, _, e, _ => by simp [toPy] at e
  | .fn _, _, _, e, _ => by simp [toPy] at e
theorem toPys_ok : ∀ (ds : List D) (ps : List PyData) (vs : List V), toPys ds = some ps → RDs K μ H ds vs → DpAll K H vs ps
  | [], _, _, e, h => by cases h; simp [toPys] at e; subst e; exact .nil
  | d :: ds, ps, _, e, h => by
    cases h with
    | cons h1 h2 =>
      unfold toPys at e
      split at e
      · rename_i p ps' e1 e2
        cases e
        exact .cons (toPy_ok d p _ e1 h1) (toPys_ok ds ps' _ e2 h2)
      · cases e
end
theorem toPyS_ok {d : D} {p : PyData} {v : V} (e : toPyS S d = some p) (r : Rel K μ S H) (h : RD K μ H d v) : Dp K H v p := by
  cases d with
  | ref n =>
    unfold toPyS at e
    simp only at e
    split at e
    · rename_i ds hs
      simp only [Option.map_eq_some_iff] at e
      obtain ⟨ps, e, rfl⟩ := e
      cases h with
      | @ref _ a h1 =>
        obtain ⟨vs, q, z⟩ := r.obj n a _ h1 (atL_ok hs)
        exact .lst (.inl (.inl q)) (toPys_ok ds ps _ e z)
    · cases e
  | _ => exact toPy_ok _ _ _ e h
end
/-- pairs that == serves: data, one of them not too deep -/
def okEq (p q : PyData) : Bool := p.canLay0 && q.canLay0 && decide (min p.depth q.depth ≤ 480)
theorem okEq_ok {p q : PyData} (h : okEq p q = true) : p.canLay0 = true ∧ q.canLay0 = true ∧ min p.depth q.depth ≤ 480 := by
  unfold okEq at h
  simp only [Bool.and_eq_true, decide_eq_true_eq] at h
  exact ⟨h.1.1, h.1.2, h.2⟩
/-- the answer of ==, where the model tells one -/
def eqD (S : Sto) (x y : D) : Option Bool := match x, y with
  | .str a, .str b => some (decide (a = b))
  | .int a, .int b => some (decide (a = b))
  | .bl a, .bl b => some (decide (a = b))
  | .non, .non => some true
  | .non, .int _ => some false
  | .int _, .non => some false
  | .non, .str _ => some false
  | .str _, .non => some false
  | .int _, .str _ => some false
  | .str _, .int _ => some false
  | x, y => match toPyS S x, toPyS S y with
    | some p, some q => if okEq p q = true then some (PyData.eqv p q) else none
    | _, _ => none
def gEq (x y : D) : M D := fun S => match eqD S x y with
  | some b => .ok (.bl b) S
  | none => .bad
def gNe (x y : D) : M D := fun S => match eqD S x y with
  | some b => .ok (.bl (!b)) S
  | none => .bad
theorem eqD_ok {K : PySem.W.Frag} {μ : Mu} {S : Sto} {H : Hp} {x y : D} {v w : V} {b : Bool} (e : eqD S x y = some b) (r : Rel K μ S H) (rx : RD K μ H x v) (ry : RD K μ H y w) :
    (scal v w = true ∧ b = decide (v = w)) ∨ ∃ p q, Dp K H v p ∧ Dp K H w q ∧ okEq p q = true ∧ b = PyData.eqv p q := by
  unfold eqD at e
  split at e
  iterate 10 (· cases rx; cases ry; cases e; refine .inl ⟨rfl, ?_⟩; first | rfl | (simp; done))
  split at e
  · rename_i p q hp hq
    split at e
    · rename_i hs
      cases e
      exact .inr ⟨p, q, toPyS_ok hp r rx, toPyS_ok hq r ry, hs, rfl⟩
    · cases e
  · cases e
section
variable {X : Cx} {W : WX} {pos : Pos}
def rEqW (K : PySem.W.Frag) : R2 := fun x y H Q => ∃ d e, Dp K H x d ∧ Dp K H y e ∧ okEq d e = true ∧ Q (.bl (PyData.eqv d e)) H
def rNeW (K : PySem.W.Frag) : R2 := fun x y H Q => ∃ d e, Dp K H x d ∧ Dp K H y e ∧ okEq d e = true ∧ Q (.bl (!PyData.eqv d e)) H
theorem op_eqW (hu : X.A.units + 500 < cLine) : OpR X (compareOp .Eq) (rEqW X.K) := by
  rintro pins s σ H x y v u Q I rx ry ⟨d, e, hd, he, ok, q⟩
  obtain ⟨_, r1⟩ := Dp.reads I d x v hd rx
  obtain ⟨_, r2⟩ := Dp.reads I e y u he ry
  obtain ⟨c1, c2, c3⟩ := okEq_ok ok
  exact SeqAt.compareEq_reads r1 r2 c1 c2 (by omega) ⟨.bl _, H, I, rfl, q⟩
theorem op_neW (hu : X.A.units + 500 < cLine) : OpR X (compareOp .NotEq) (rNeW X.K) := by
  rintro pins s σ H x y v u Q I rx ry ⟨d, e, hd, he, ok, q⟩
  obtain ⟨_, r1⟩ := Dp.reads I d x v hd rx
  obtain ⟨_, r2⟩ := Dp.reads I e y u he ry
  obtain ⟨c1, c2, c3⟩ := okEq_ok ok
  exact SeqAt.compareNe_reads r1 r2 c1 c2 (by omega) ⟨.bl _, H, I, rfl, q⟩
theorem room_w {k : Nat} {A : Around} (r : Room (k + 20) A) : A.units + 500 < cLine := by have := r.un; omega
theorem o_eq (hu : X.A.units + 500 < cLine) : ORD X W (compareOp .Eq) gEq := by
  refine ⟨_, op_eq.or (op_eqW hu), fun x y v w μ S σ H Q r rx ry h => ?_⟩
  unfold gEq at h
  split at h
  · rename_i b e
    rcases eqD_ok e r rx ry with ⟨z, rfl⟩ | ⟨p, q, h1, h2, h3, rfl⟩
    · exact .inl ⟨z, h.now r _ (.bl _)⟩
    · exact .inr ⟨p, q, h1, h2, h3, h.now r _ (.bl _)⟩
  · exact h.elim
theorem o_ne (hu : X.A.units + 500 < cLine) : ORD X W (compareOp .NotEq) gNe := by
  refine ⟨_, op_ne.or (op_neW hu), fun x y v w μ S σ H Q r rx ry h => ?_⟩
  unfold gNe at h
  split at h
  · rename_i b e
    rcases eqD_ok e r rx ry with ⟨z, rfl⟩ | ⟨p, q, h1, h2, h3, rfl⟩
    · exact .inl ⟨z, h.now r _ (.bl _)⟩
    · exact .inr ⟨p, q, h1, h2, h3, h.now r _ (.bl _)⟩
  · exact h.elim

/-! is None, is True -/
def gIs (x y : D) : M D := fun S => match x, y with
  | .bl a, .bl b => .ok (.bl (decide (a = b))) S
  | .non, .non => .ok (.bl true) S
  | _, .non => .ok (.bl false) S
  | _, _ => .bad
def gIsNot (x y : D) : M D := fun S => match x, y with
  | .bl a, .bl b => .ok (.bl (!decide (a = b))) S
  | .non, .non => .ok (.bl false) S
  | _, .non => .ok (.bl true) S
  | _, _ => .bad
theorem o_is : ORD X W (compareOp .Is) gIs := by
  refine ⟨_, op_isBl.or op_isN, fun x y v w μ S σ H Q r rx ry h => ?_⟩
  unfold gIs at h
  split at h
  · cases rx; cases ry
    exact .inl ⟨_, _, rfl, rfl, h.now r _ (.bl _)⟩
  · cases rx; cases ry
    exact .inr ⟨rfl, by simpa using h.now r _ (.bl _)⟩
  · rename_i hx
    cases ry
    have : decide (v = V.non) = false := by
      cases rx <;> first | rfl | exact absurd rfl (by assumption)
    exact .inr ⟨rfl, by rw [this]; exact h.now r _ (.bl _)⟩
  · exact h.elim
theorem o_isnot : ORD X W (compareOp .IsNot) gIsNot := by
  refine ⟨_, op_notBl.or op_notN, fun x y v w μ S σ H Q r rx ry h => ?_⟩
  unfold gIsNot at h
  split at h
  · cases rx; cases ry
    exact .inl ⟨_, _, rfl, rfl, h.now r _ (.bl _)⟩
  · cases rx; cases ry
    exact .inr ⟨rfl, by simpa using h.now r _ (.bl _)⟩
  · rename_i hx
    cases ry
    have : decide (v = V.non) = false := by
      cases rx <;> first | rfl | exact absurd rfl (by assumption)
    exact .inr ⟨rfl, by rw [this]; exact h.now r _ (.bl _)⟩
  · exact h.elim

/-! in -/
def flatD : D → Option V
  | .non => some .non
  | .bl b => some (.bl b)
  | .int i => some (.int i)
  | .str x => some (.str x)
  | _ => none
def flatDs : List D → Option (List V)
  | [] => some []
  | d :: ds => match flatD d, flatDs ds with
    | some v, some vs => some (v :: vs)
    | _, _ => none
theorem flatD_ok {K : PySem.W.Frag} {μ : Mu} {H : Hp} {d : D} {v w : V} (e : flatD d = some w) (h : RD K μ H d v) : v = w ∧ flatV w = true := by
  cases h <;> first | (cases e; exact ⟨rfl, rfl⟩) | cases e
theorem flatDs_ok {K : PySem.W.Frag} {μ : Mu} {H : Hp} : ∀ {ds : List D} {vs ws : List V}, flatDs ds = some ws → RDs K μ H ds vs → vs = ws ∧ ws.all flatV = true
  | [], _, _, e, h => by cases h; cases e; exact ⟨rfl, rfl⟩
  | d :: ds, _, _, e, h => by
    cases h with
    | cons h1 h2 =>
      unfold flatDs at e
      split at e
      · rename_i v' vs' e1 e2
        cases e
        obtain ⟨rfl, f1⟩ := flatD_ok e1 h1
        obtain ⟨rfl, f2⟩ := flatDs_ok e2 h2
        exact ⟨rfl, by simp only [List.all_cons, f1, f2, Bool.and_self]⟩
      · cases e
/-- the items of a list or a tuple, as data -/
def itemsPy (S : Sto) (d : D) : Option (Bool × List PyData) := match d with
  | .tup ds => (toPys ds).map (false, ·)
  | .lst ds => (toPys ds).map (true, ·)
  | .fl ds => (toPys ds).map (true, ·)
  | .ref n => match atL S n with
    | some ds => (toPys ds).map (true, ·)
    | none => none
  | _ => none
theorem itemsPy_ok {K : PySem.W.Frag} {μ : Mu} {S : Sto} {H : Hp} {d : D} {v : V} {b : Bool} {ps : List PyData} (e : itemsPy S d = some (b, ps)) (r : Rel K μ S H) (h : RD K μ H d v) : Dp K H v (if b = true then .list ps else .tuple ps) := by
  unfold itemsPy at e
  cases d with
  | tup ds =>
    simp only [Option.map_eq_some_iff] at e
    obtain ⟨p, e, q⟩ := e
    cases q
    rw [if_neg Bool.false_ne_true]
    exact toPy_ok (.tup ds) _ v (by simp only [toPy, e, Option.map_some]) h
  | lst ds =>
    simp only [Option.map_eq_some_iff] at e
    obtain ⟨p, e, q⟩ := e
    cases q
    rw [if_pos rfl]
    exact toPy_ok (.lst ds) _ v (by simp only [toPy, e, Option.map_some]) h
  | fl ds =>
    simp only [Option.map_eq_some_iff] at e
    obtain ⟨p, e, q⟩ := e
    cases q
    rw [if_pos rfl]
    exact toPy_ok (.fl ds) _ v (by simp only [toPy, e, Option.map_some]) h
  | ref n =>
    simp only at e
    split at e
    · rename_i ds hs
      simp only [Option.map_eq_some_iff] at e
      obtain ⟨p, e, q⟩ := e
      cases q
      rw [if_pos rfl]
      exact toPyS_ok (d := .ref n) (by simp only [toPyS, hs, e, Option.map_some]) r h
    · cases e
  | _ => cases e
def okIn (ps : List PyData) (p : PyData) : Bool := PyData.canLayAll0 ps && p.canLay0 && decide (min (PyData.depthAll ps) p.depth ≤ 480)
/-- the answer of in -/
def inD (S : Sto) (x y : D) : Option Bool := match x, y with
  | .str a, .str b => some (!(Builtin.Str.occurrences b a 0 b.length 1).isEmpty)
  | x, y => match flatD x, (iLst S y).bind flatDs with
    | some v, some vs => some (inV v vs)
    | _, _ => match toPyS S x, itemsPy S y with
      | some p, some (_, ps) => if okIn ps p = true then some (ps.any fun z => PyData.eqv z p) else none
      | _, _ => none
def gIn (x y : D) : M D := fun S => match inD S x y with
  | some b => .ok (.bl b) S
  | none => .bad
def gNotIn (x y : D) : M D := fun S => match inD S x y with
  | some b => .ok (.bl (!b)) S
  | none => .bad
theorem inD_ok {K : PySem.W.Frag} {μ : Mu} {S : Sto} {H : Hp} {x y : D} {v w : V} {b : Bool} (e : inD S x y = some b) (r : Rel K μ S H) (rx : RD K μ H x v) (ry : RD K μ H y w) :
    (∃ i j, v = .str i ∧ w = .str j ∧ b = !(Builtin.Str.occurrences j i 0 j.length 1).isEmpty) ∨
    (∃ p xs, w = .ref p ∧ (SqL K H p xs ∨ SqT K H p xs) ∧ flatV v = true ∧ xs.all flatV = true ∧ b = inV v xs) ∨
    ∃ p ps, Dp K H v p ∧ (Dp K H w (.list ps) ∨ Dp K H w (.tuple ps)) ∧ okIn ps p = true ∧ b = ps.any fun z => PyData.eqv z p := by
  unfold inD at e
  split at e
  · cases rx; cases ry; cases e
    exact .inl ⟨_, _, rfl, rfl, rfl⟩
  · split at e
    · rename_i v' vs' e1 e2
      cases e
      rw [Option.bind_eq_some_iff] at e2
      obtain ⟨ds, e2, e3⟩ := e2
      obtain ⟨rfl, f1⟩ := flatD_ok e1 rx
      obtain ⟨a, us, rfl, q, z⟩ := iLst_ok e2 r ry
      obtain ⟨rfl, f2⟩ := flatDs_ok e3 z
      exact .inr (.inl ⟨a, _, rfl, q, f1, f2, rfl⟩)
    · split at e
      · rename_i p b' ps e1 e2
        split at e
        · rename_i ok
          cases e
          have h1 := itemsPy_ok e2 r ry
          refine .inr (.inr ⟨p, ps, toPyS_ok e1 r rx, ?_, ok, rfl⟩)
          cases b' with
          | true => exact .inl h1
          | false => exact .inr h1
        · cases e
      · cases e
def rInW (neg : Bool) (K : PySem.W.Frag) : R2 := fun x y H Q => ∃ d ds, Dp K H x d ∧ (Dp K H y (.list ds) ∨ Dp K H y (.tuple ds)) ∧ okIn ds d = true ∧ Q (.bl (if neg = true then !ds.any (fun z => PyData.eqv z d) else ds.any fun z => PyData.eqv z d)) H
theorem okIn_ok {ps : List PyData} {p : PyData} (h : okIn ps p = true) : PyData.canLayAll0 ps = true ∧ p.canLay0 = true ∧ min (PyData.depthAll ps) p.depth ≤ 480 := by
  unfold okIn at h
  simp only [Bool.and_eq_true, decide_eq_true_eq] at h
  exact ⟨h.1.1, h.1.2, h.2⟩
theorem op_inW (hu : X.A.units + 500 < cLine) : OpR X (compareOp .In) (rInW false X.K) := by
  rintro pins s σ H x y v u Q I rx ry ⟨d, ds, hd, he, ok, q⟩
  obtain ⟨_, r1⟩ := Dp.reads I d x v hd rx
  obtain ⟨c1, c2, c3⟩ := okIn_ok ok
  rcases he with he | he
  · obtain ⟨_, r2⟩ := Dp.reads I (.list ds) y u he ry
    exact SeqAt.in_list_reads r2 r1 c1 c2 (by omega) ⟨.bl _, H, I, rfl, q⟩
  · obtain ⟨_, r2⟩ := Dp.reads I (.tuple ds) y u he ry
    exact SeqAt.in_tuple_reads r2 r1 c1 c2 (by omega) ⟨.bl _, H, I, rfl, q⟩
theorem op_notinW (hu : X.A.units + 500 < cLine) : OpR X (compareOp .NotIn) (rInW true X.K) := by
  rintro pins s σ H x y v u Q I rx ry ⟨d, ds, hd, he, ok, q⟩
  obtain ⟨_, r1⟩ := Dp.reads I d x v hd rx
  obtain ⟨c1, c2, c3⟩ := okIn_ok ok
  rcases he with he | he
  · obtain ⟨_, r2⟩ := Dp.reads I (.list ds) y u he ry
    exact SeqAt.notIn_list_reads r2 r1 c1 c2 (by omega) ⟨.bl _, H, I, rfl, q⟩
  · obtain ⟨_, r2⟩ := Dp.reads I (.tuple ds) y u he ry
    exact SeqAt.notIn_tuple_reads r2 r1 c1 c2 (by omega) ⟨.bl _, H, I, rfl, q⟩
theorem o_in (hu : X.A.units + 500 < cLine) : ORD X W (compareOp .In) gIn := by
  refine ⟨_, op_in_str.or (op_in_seq.or (op_inW hu)), fun x y v w μ S σ H Q r rx ry h => ?_⟩
  unfold gIn at h
  split at h
  · rename_i b e
    rcases inD_ok e r rx ry with ⟨i, j, rfl, rfl, rfl⟩ | ⟨p, xs, rfl, q, f1, f2, rfl⟩ | ⟨p, ps, h1, h2, ok, rfl⟩
    · exact .inl ⟨_, _, rfl, rfl, h.now r _ (.bl _)⟩
    · exact .inr (.inl ⟨_, _, rfl, q, f1, f2, h.now r _ (.bl _)⟩)
    · exact .inr (.inr ⟨p, ps, h1, h2, ok, h.now r _ (.bl _)⟩)
  · exact h.elim
theorem o_notin (hu : X.A.units + 500 < cLine) : ORD X W (compareOp .NotIn) gNotIn := by
  refine ⟨_, op_notin_str.or (op_notIn_seq.or (op_notinW hu)), fun x y v w μ S σ H Q r rx ry h => ?_⟩
  unfold gNotIn at h
  split at h
  · rename_i b e
    rcases inD_ok e r rx ry with ⟨i, j, rfl, rfl, rfl⟩ | ⟨p, xs, rfl, q, f1, f2, rfl⟩ | ⟨p, ps, h1, h2, ok, rfl⟩
    · exact .inl ⟨_, _, rfl, rfl, h.now r _ (.bl _)⟩
    · exact .inr (.inl ⟨_, _, rfl, q, f1, f2, h.now r _ (.bl _)⟩)
    · exact .inr (.inr ⟨p, ps, h1, h2, ok, h.now r _ (.bl _)⟩)
  · exact h.elim
end
end DL

/-! DL3: tests, displays, calls of built-ins, methods, subscripts, slices. -/
namespace DL
open PySem L2

def gTruth (d : D) : M Bool := fun S => match d with
  | .bl b => .ok b S
  | .non => .ok false S
  | .int i => .ok (i != 0) S
  | .str x => if x.length ≤ sizeLine then .ok ((x.length : Int) != 0) S else .bad
  | d => match iLst S d with
    | some ds => .ok (!ds.isEmpty) S
    | none => .bad
def asBl : D → M Bool
  | .bl b => ret b
  | _ => stuck
def eT (a : EvD) : EvB := fun ρ => bnd (a ρ) gTruth
def eTb (a : EvD) : EvB := fun ρ => bnd (a ρ) asBl
def bAnd (a b : EvB) : EvB := fun ρ => bnd (a ρ) fun c => if c = true then b ρ else ret false
def bOr (a b : EvB) : EvB := fun ρ => bnd (a ρ) fun c => if c = true then ret true else b ρ
def bNot (a : EvB) : EvB := fun ρ => bnd (a ρ) fun c => ret (!c)
def eIf (c : EvB) (a b : EvD) : EvD := fun ρ => bnd (c ρ) fun k => if k = true then a ρ else b ρ
def eAnd (a b : EvD) : EvD := fun ρ => bnd (a ρ) fun x => match x with
  | .bl true => b ρ
  | .bl false => ret (.bl false)
  | _ => stuck
def eOr (a b : EvD) : EvD := fun ρ => bnd (a ρ) fun x => match x with
  | .bl true => ret (.bl true)
  | .bl false => b ρ
  | _ => stuck
def eNot (a : EvD) : EvD := fun ρ => bnd (a ρ) fun x => match x with
  | .bl c => ret (.bl (!c))
  | _ => stuck
def aNil : EvL := fun _ => ret []
def aCons (a : EvD) (as : EvL) : EvL := fun ρ => bnd (a ρ) fun x => bnd (as ρ) fun xs => ret (x :: xs)
def eTup (as : EvL) : EvD := fun ρ => bnd (as ρ) fun ds S => if ds.length ≤ sizeLine then .ok (.tup ds) S else .bad
def eLst (as : EvL) : EvD := fun ρ => bnd (as ρ) fun ds S => if ds.length ≤ sizeLine then .ok (.lst ds) S else .bad
/-- a list that will change -/
def eLstM (as : EvL) : EvD := fun ρ => bnd (as ρ) fun ds S => if ds.length ≤ sizeLine then .ok (.ref S.length) (S ++ [.lst ds]) else .bad
def eCall (g : List D → M D) (as : EvL) : EvD := fun ρ => bnd (as ρ) g
/-- e1 < e2 < e3 -/
def eChain (g g' : D → D → M D) (a b c : EvD) : EvD := fun ρ => bnd (a ρ) fun x => bnd (b ρ) fun y => bnd (g x y) fun z => match z with
  | .bl true => bnd (c ρ) fun w => g' y w
  | .bl false => ret (.bl false)
  | _ => stuck

theorem new_ref {K : PySem.W.Frag} {μ : Mu} {S : Sto} {H H' : Hp} {p : Addr} (r : Rel K μ S H) : RD K (μ.push p) H' (.ref S.length) (.ref p) := .ref (by rw [← r.len]; simp [Mu.push])
section
variable {X : Cx} {W : WX} {pos : Pos}
theorem truth_ok {K : PySem.W.Frag} {mg : Str → Option Value} {μ : Mu} {S : Sto} {σ : L2.St} {H : Hp} {d : D} {v : V} {Q : Bool → Hp → Prop} (r : Rel K μ S H) (h : RD K μ H d v) (q : Post K mg W μ σ H (gTruth d S) (fun b _ H' => Q b H')) : ∃ k, TruV K v H k ∧ Q k H := by
  unfold gTruth at q
  split at q
  · cases h; exact ⟨_, rfl, q.now r⟩
  · cases h; exact ⟨_, rfl, q.now r⟩
  · cases h; exact ⟨_, rfl, q.now r⟩
  · cases h
    split at q
    · rename_i hl; exact ⟨_, ⟨hl, rfl⟩, q.now r⟩
    · exact q.elim
  · split at q
    · rename_i ds e
      obtain ⟨a, vs, rfl, qq, z⟩ := iLst_ok e r h
      have eq : (!ds.isEmpty) = !vs.isEmpty := by
        have := z.length
        cases ds <;> cases vs <;> simp_all
      refine ⟨_, ?_, q.now r⟩
      rcases qq with qq | qq
      · exact .inl ⟨vs, qq, eq⟩
      · exact .inr (.inl ⟨vs, qq, eq⟩)
    · exact q.elim
theorem t_truth {a : Expr} {ta : EvD} (ha : PE X a (tD X.K X.mg W ta)) (he : ∀ whole, isTrue a X.env whole = (do let v ← whole; standAt a.pos; holding [v] (truthy v)) := by intro _; rfl) : PT X a (tT X.K X.mg W (eT ta)) := by
  refine PT.imp (pt_truth ha he) fun σ H Q ⟨ρ, S, μ, e, s, h⟩ => ?_
  exact ⟨ρ, S, μ, e, s, h.bnd fun x S1 μ1 H1 s1 r1 h1 v rv => truth_ok r1 rv h1⟩
theorem asBl_ok {K : PySem.W.Frag} {mg : Str → Option Value} {μ : Mu} {S : Sto} {σ : L2.St} {H : Hp} {d : D} {v : V} {Q : Bool → Hp → Prop} (r : Rel K μ S H) (h : RD K μ H d v) (q : Post K mg W μ σ H (asBl d S) (fun b _ H' => Q b H')) : ∃ k, v = .bl k ∧ Q k H := by
  unfold asBl at q
  split at q
  · cases h; exact ⟨_, rfl, q.now r⟩
  · exact q.elim
theorem t_cmp {a b : Expr} {op : CmpOp} {g : D → D → M D} {ta tb : EvD} (o : ORD X W (compareOp op) g) (ha : PE X a (tD X.K X.mg W ta)) (hb : PE X b (tD X.K X.mg W tb)) (hm : behindInMarks op b = false) : PT X (.Compare a [op] [b] pos) (tT X.K X.mg W (eTb (eBin g ta tb))) := by
  obtain ⟨r, ho, hr⟩ := o
  refine PT.imp (pt_cmpR ho ha hb hm) fun σ H Q ⟨ρ, S, μ, e, s, h⟩ => ?_
  refine bin_ok hr ⟨ρ, S, μ, e, s, ?_⟩
  exact h.bnd fun x S1 μ1 H1 s1 r1 h1 v rv => asBl_ok r1 rv h1
theorem t_not {a : Expr} {ta : EvB} (ha : PT X a (tT X.K X.mg W ta)) : PT X (.UnaryOp .Not a pos) (tT X.K X.mg W (bNot ta)) := by
  refine PT.imp (pt_not ha) fun σ H Q ⟨ρ, S, μ, e, s, h⟩ => ?_
  exact ⟨ρ, S, μ, e, s, h.bnd fun x S1 μ1 H1 s1 r1 h1 => h1.now r1⟩
theorem w_one_and {a : Expr} {ta : EvB} (ha : PT X a (tT X.K X.mg W ta)) : PW X (.BoolOp .And [a] pos) (tT X.K X.mg W ta) := pw_and1 ha
theorem w_one_or {a : Expr} {ta : EvB} (ha : PT X a (tT X.K X.mg W ta)) : PW X (.BoolOp .Or [a] pos) (tT X.K X.mg W ta) := pw_or1 ha
theorem w_and {a b : Expr} {rest : List Expr} {ta tb : EvB} (ha : PT X a (tT X.K X.mg W ta)) (hb : PW X (.BoolOp .And (b :: rest) pos) (tT X.K X.mg W tb)) : PW X (.BoolOp .And (a :: b :: rest) pos) (tT X.K X.mg W (bAnd ta tb)) := by
  refine PW.imp (pw_and ha hb) fun σ H Q ⟨ρ, S, μ, e, s, h⟩ => ?_
  refine ⟨ρ, S, μ, e, s, h.bnd fun x S1 μ1 H1 s1 r1 h1 => ?_⟩
  cases x with
  | true => rw [if_pos rfl] at h1 ⊢; exact ⟨ρ, S1, μ1, e.step s s1, r1, h1⟩
  | false => rw [if_neg Bool.false_ne_true] at h1 ⊢; exact h1.now r1
theorem w_or {a b : Expr} {rest : List Expr} {ta tb : EvB} (ha : PT X a (tT X.K X.mg W ta)) (hb : PW X (.BoolOp .Or (b :: rest) pos) (tT X.K X.mg W tb)) : PW X (.BoolOp .Or (a :: b :: rest) pos) (tT X.K X.mg W (bOr ta tb)) := by
  refine PW.imp (pw_or ha hb) fun σ H Q ⟨ρ, S, μ, e, s, h⟩ => ?_
  refine ⟨ρ, S, μ, e, s, h.bnd fun x S1 μ1 H1 s1 r1 h1 => ?_⟩
  cases x with
  | true => rw [if_pos rfl] at h1 ⊢; exact h1.now r1
  | false => rw [if_neg Bool.false_ne_true] at h1 ⊢; exact ⟨ρ, S1, μ1, e.step s s1, r1, h1⟩
theorem d_ifExp {c a b : Expr} {tc : EvB} {ta tb : EvD} (hc : PT X c (tT X.K X.mg W tc)) (ha : PE X a (tD X.K X.mg W ta)) (hb : PE X b (tD X.K X.mg W tb)) : PE X (.IfExp c a b pos) (tD X.K X.mg W (eIf tc ta tb)) := by
  refine PE.imp (pe_ifExp hc ha hb) fun σ H Q ⟨ρ, S, μ, e, s, h⟩ => ?_
  refine ⟨ρ, S, μ, e, s, h.bnd fun x S1 μ1 H1 s1 r1 h1 => ?_⟩
  cases x with
  | true => rw [if_pos rfl] at h1 ⊢; exact ⟨ρ, S1, μ1, e.step s s1, r1, h1⟩
  | false => rw [if_neg Bool.false_ne_true] at h1 ⊢; exact ⟨ρ, S1, μ1, e.step s s1, r1, h1⟩
theorem d_one {op : BoolOp} {a : Expr} {ta : EvD} (ha : PE X a (tD X.K X.mg W ta)) : PE X (.BoolOp op [a] pos) (tD X.K X.mg W ta) := pe_one ha
theorem d_and {a b : Expr} {rest : List Expr} {ta tb : EvD} (ha : PE X a (tD X.K X.mg W ta)) (hb : PE X (.BoolOp .And (b :: rest) pos) (tD X.K X.mg W tb)) : PE X (.BoolOp .And (a :: b :: rest) pos) (tD X.K X.mg W (eAnd ta tb)) := by
  refine PE.imp (pe_and ha hb) fun σ H Q ⟨ρ, S, μ, e, s, h⟩ => ?_
  refine ⟨ρ, S, μ, e, s, h.bnd fun x S1 μ1 H1 s1 r1 h1 v rv => ?_⟩
  split at h1
  · cases rv; exact ⟨true, rfl, by rw [if_pos rfl]; exact ⟨ρ, S1, μ1, e.step s s1, r1, h1⟩⟩
  · cases rv; exact ⟨false, rfl, by rw [if_neg Bool.false_ne_true]; exact h1.now r1 _ (.bl _)⟩
  · exact h1.elim
theorem d_or {a b : Expr} {rest : List Expr} {ta tb : EvD} (ha : PE X a (tD X.K X.mg W ta)) (hb : PE X (.BoolOp .Or (b :: rest) pos) (tD X.K X.mg W tb)) : PE X (.BoolOp .Or (a :: b :: rest) pos) (tD X.K X.mg W (eOr ta tb)) := by
  refine PE.imp (pe_or ha hb) fun σ H Q ⟨ρ, S, μ, e, s, h⟩ => ?_
  refine ⟨ρ, S, μ, e, s, h.bnd fun x S1 μ1 H1 s1 r1 h1 v rv => ?_⟩
  split at h1
  · cases rv; exact ⟨true, rfl, by rw [if_pos rfl]; exact h1.now r1 _ (.bl _)⟩
  · cases rv; exact ⟨false, rfl, by rw [if_neg Bool.false_ne_true]; exact ⟨ρ, S1, μ1, e.step s s1, r1, h1⟩⟩
  · exact h1.elim
theorem d_not {a : Expr} {ta : EvD} (ha : PE X a (tD X.K X.mg W ta)) : PE X (.UnaryOp .Not a pos) (tD X.K X.mg W (eNot ta)) := by
  refine PE.imp (pe_not ha) fun σ H Q ⟨ρ, S, μ, e, s, h⟩ => ?_
  refine ⟨ρ, S, μ, e, s, h.bnd fun x S1 μ1 H1 s1 r1 h1 v rv => ?_⟩
  split at h1
  · cases rv; exact ⟨_, rfl, h1.now r1 _ (.bl _)⟩
  · exact h1.elim
theorem a_nil : PA X [] (tA X.K X.mg W aNil) := PA.imp pa_nil fun σ H Q ⟨ρ, S, μ, e, s, h⟩ => h.now s _ .nil
theorem a_cons {e : Expr} {es : List Expr} {te : EvD} {t : EvL} (ha : PE X e (tD X.K X.mg W te)) (hr : PA X es (tA X.K X.mg W t)) (hs : starEach (e :: es) X.env = (false, eval e X.env) :: starEach es X.env := by rfl) : PA X (e :: es) (tA X.K X.mg W (aCons te t)) := by
  refine PA.imp (pa_cons ha hr hs) fun σ H Q ⟨ρ, S, μ, e, s, h⟩ => ?_
  refine ⟨ρ, S, μ, e, s, h.bnd fun x S1 μ1 H1 s1 r1 h1 v rv => ?_⟩
  exact ⟨ρ, S1, μ1, e.step s s1, r1, h1.bnd fun xs S2 μ2 H2 s2 r2 h2 vs rvs => h2.now r2 _ (.cons (rv.step r1 s2) rvs)⟩
theorem d_tup {es : List Expr} {t : EvL} {k : Nat} (h : PA X es (tA X.K X.mg W t)) : PE X (.Tuple es k pos) (tD X.K X.mg W (eTup t)) := by
  refine PE.imp (pe_tup h) fun σ H Q ⟨ρ, S, μ, e, s, h⟩ => ?_
  refine ⟨ρ, S, μ, e, s, h.bnd fun xs S1 μ1 H1 s1 r1 h1 vs rvs => ?_⟩
  split at h1
  · rename_i hl
    exact ⟨by rw [← rvs.length]; exact hl, fun p hp => h1 μ1 _ (Stp.new hp) (r1.new hp) _ (.tup (.inl (.inl upd_same)) (rvs.step r1 (Stp.new hp)))⟩
  · exact h1.elim
theorem d_lst {es : List Expr} {t : EvL} (h : PA X es (tA X.K X.mg W t)) : PE X (.List es pos) (tD X.K X.mg W (eLst t)) := by
  refine PE.imp (pe_lst h) fun σ H Q ⟨ρ, S, μ, e, s, h⟩ => ?_
  refine ⟨ρ, S, μ, e, s, h.bnd fun xs S1 μ1 H1 s1 r1 h1 vs rvs => ?_⟩
  split at h1
  · rename_i hl
    exact ⟨by rw [← rvs.length]; exact hl, fun p hp => h1 μ1 _ (Stp.new hp) (r1.new hp) _ (.lst upd_same ⟨fun z => r1.there z hp, fun z => r1.hid _ z hp⟩ (rvs.step r1 (Stp.new hp)))⟩
  · exact h1.elim
theorem d_lstM {es : List Expr} {t : EvL} (h : PA X es (tA X.K X.mg W t)) : PE X (.List es pos) (tD X.K X.mg W (eLstM t)) := by
  refine PE.imp (pe_lst h) fun σ H Q ⟨ρ, S, μ, e, s, h⟩ => ?_
  refine ⟨ρ, S, μ, e, s, h.bnd fun xs S1 μ1 H1 s1 r1 h1 vs rvs => ?_⟩
  split at h1
  · rename_i hl
    refine ⟨by rw [← rvs.length]; exact hl, fun p hp => ?_⟩
    exact h1 (μ1.push p) _ (Stp.alloc hp) (r1.alloc hp ⟨vs, upd_same, rvs.step r1 (Stp.alloc hp)⟩) _ (new_ref r1)
  · exact h1.elim
theorem d_chain {a b c : Expr} {op op' : CmpOp} {g g' : D → D → M D} {ta tb tc : EvD} (o : ORD X W (compareOp op) g) (o' : ORD X W (compareOp op') g') (ha : PE X a (tD X.K X.mg W ta)) (hb : PE X b (tD X.K X.mg W tb)) (hc : PE X c (tD X.K X.mg W tc))
    (hm : lastMarks [op, op'] [b, c] = false) : PE X (.Compare a [op, op'] [b, c] pos) (tD X.K X.mg W (eChain g g' ta tb tc)) := by
  obtain ⟨r, ho, hr⟩ := o
  obtain ⟨r', ho', hr'⟩ := o'
  refine PE.imp (pe_chain ho ho' ha hb hc hm) fun σ H Q ⟨ρ, S, μ, e, s, h⟩ => ?_
  refine ⟨ρ, S, μ, e, s, h.bnd fun x S1 μ1 H1 s1 r1 h1 v rv => ?_⟩
  refine ⟨ρ, S1, μ1, e.step s s1, r1, h1.bnd fun y S2 μ2 H2 s2 r2 h2 w rw => ?_⟩
  refine hr _ _ _ _ μ2 S2 σ H2 _ r2 (rv.step r1 s2) rw (h2.bnd fun z S3 μ3 H3 s3 r3 h3 u ru => ?_)
  split at h3
  · cases ru
    refine ⟨true, rfl, ?_⟩
    rw [if_pos rfl]
    refine ⟨ρ, S3, μ3, ((e.step s s1).step r1 s2).step r2 s3, r3, h3.bnd fun q S4 μ4 H4 s4 r4 h4 uu ruu => ?_⟩
    exact hr' _ _ _ _ μ4 S4 σ H4 Q r4 ((rw.step r2 s3).step r3 s4) ruu h4
  · cases ru
    refine ⟨false, rfl, ?_⟩
    rw [if_neg Bool.false_ne_true]
    exact h3.now r3 _ (.bl _)
  · exact h3.elim

theorem chain_ok {r r' : R2} {g g' : D → D → M D} {ta tb tc : EvD} {σ : L2.St} {H : Hp} {Q : VK} (hr : ∀ x y v w μ S σ H Q, Rel X.K μ S H → RD X.K μ H x v → RD X.K μ H y w → Post X.K X.mg W μ σ H (g x y S) (QD X.K Q) → r v w H Q)
    (hr' : ∀ x y v w μ S σ H Q, Rel X.K μ S H → RD X.K μ H x v → RD X.K μ H y w → Post X.K X.mg W μ σ H (g' x y S) (QD X.K Q) → r' v w H Q) (hh : tD X.K X.mg W (eChain g g' ta tb tc) σ H Q) : tChain r r' (tD X.K X.mg W ta) (tD X.K X.mg W tb) (tD X.K X.mg W tc) σ H Q := by
  obtain ⟨ρ, S, μ, e, s, h⟩ := hh
  refine ⟨ρ, S, μ, e, s, h.bnd fun x S1 μ1 H1 s1 r1 h1 v rv => ?_⟩
  refine ⟨ρ, S1, μ1, e.step s s1, r1, h1.bnd fun y S2 μ2 H2 s2 r2 h2 w rw => ?_⟩
  refine hr _ _ _ _ μ2 S2 σ H2 _ r2 (rv.step r1 s2) rw (h2.bnd fun z S3 μ3 H3 s3 r3 h3 u ru => ?_)
  split at h3
  · cases ru
    refine ⟨true, rfl, ?_⟩
    rw [if_pos rfl]
    refine ⟨ρ, S3, μ3, ((e.step s s1).step r1 s2).step r2 s3, r3, h3.bnd fun q S4 μ4 H4 s4 r4 h4 uu ruu => ?_⟩
    exact hr' _ _ _ _ μ4 S4 σ H4 Q r4 ((rw.step r2 s3).step r3 s4) ruu h4
  · cases ru
    refine ⟨false, rfl, ?_⟩
    rw [if_neg Bool.false_ne_true]
    exact h3.now r3 _ (.bl _)
  · exact h3.elim
theorem t_chain {a b c : Expr} {op op' : CmpOp} {g g' : D → D → M D} {ta tb tc : EvD} (o : ORD X W (compareOp op) g) (o' : ORD X W (compareOp op') g') (ha : PE X a (tD X.K X.mg W ta)) (hb : PE X b (tD X.K X.mg W tb)) (hc : PE X c (tD X.K X.mg W tc))
    (hm : lastMarks [op, op'] [b, c] = false) : PT X (.Compare a [op, op'] [b, c] pos) (tT X.K X.mg W (eTb (eChain g g' ta tb tc))) := by
  obtain ⟨r, ho, hr⟩ := o
  obtain ⟨r', ho', hr'⟩ := o'
  refine PT.imp (pt_chain ho ho' ha hb hc hm) fun σ H Q ⟨ρ, S, μ, e, s, h⟩ => ?_
  refine chain_ok hr hr' ⟨ρ, S, μ, e, s, ?_⟩
  exact h.bnd fun x S1 μ1 H1 s1 r1 h1 v rv => asBl_ok r1 rv h1

/-! ### calls of built-ins -/
def CRD (X : Cx) (W : WX) (f : Value) (g : List D → M D) : Prop := ∃ r, CallR X f r ∧
  ∀ ds vs μ S σ H Q, Rel X.K μ S H → RDs X.K μ H ds vs → Post X.K X.mg W μ σ H (g ds S) (QD X.K Q) → r vs H Q
theorem d_callB {id : String} {x : Str} {p : Pos} {e : Expr} {es : List Expr} {g : List D → M D} {t : EvL} (o : CRD X W (.builtin id) g) (hg : Gl X x) (hm : X.mg x = none) (hv : bootBuiltins x = some (.builtin id)) (ha : PA X (e :: es) (tA X.K X.mg W t))
    (hn : x ≠ "__name__" := by decide) (hdb : (x == ("__debug__" : Str)) = false := by decide)
    (he : starEach (e :: es) X.env = (false, eval e X.env) :: starEach es X.env := by rfl) (hpl : (backTo pos (starEach es X.env)).any (·.1) = false := by rfl) : PE X (.Call (.Name x p) (e :: es) [] pos) (tD X.K X.mg W (eCall g t)) := by
  obtain ⟨r, ho, hr⟩ := o
  refine PE.imp (pe_callB ho hg hm hv ha hn hdb he hpl) fun σ H Q ⟨ρ, S, μ, e, s, h⟩ => ?_
  exact ⟨ρ, S, μ, e, s, h.bnd fun xs S1 μ1 H1 s1 r1 h1 vs rvs => hr _ _ _ _ _ _ _ r1 rvs h1⟩
theorem d_callTy {T : String} {x : Str} {p : Pos} {e : Expr} {es : List Expr} {g : List D → M D} {t : EvL} (o : CRD X W (.type T) g) (hg : Gl X x) (hm : X.mg x = none) (hv : bootBuiltins x = some (.type T)) (ha : PA X (e :: es) (tA X.K X.mg W t))
    (hn : x ≠ "__name__" := by decide) (hdb : (x == ("__debug__" : Str)) = false := by decide)
    (he : starEach (e :: es) X.env = (false, eval e X.env) :: starEach es X.env := by rfl) (hpl : (backTo pos (starEach es X.env)).any (·.1) = false := by rfl) : PE X (.Call (.Name x p) (e :: es) [] pos) (tD X.K X.mg W (eCall g t)) := by
  obtain ⟨r, ho, hr⟩ := o
  refine PE.imp (pe_callTy ho hg hm hv ha hn hdb he hpl) fun σ H Q ⟨ρ, S, μ, e, s, h⟩ => ?_
  exact ⟨ρ, S, μ, e, s, h.bnd fun xs S1 μ1 H1 s1 r1 h1 vs rvs => hr _ _ _ _ _ _ _ r1 rvs h1⟩

def gLen (xs : List D) : M D := fun S => match xs with
  | [.str x] => if x.length ≤ sizeLine then .ok (.int x.length) S else .bad
  | [d] => match iLst S d with
    | some ds => .ok (.int ds.length) S
    | none => .bad
  | _ => .bad
theorem c_len : CRD X W (.builtin "len") gLen := by
  refine ⟨_, call_len, fun ds vs μ S σ H Q r rds h => ?_⟩
  unfold gLen at h
  split at h
  · split at h
    · rename_i hl
      cases rds with
      | cons h1 h2 => cases h1; cases h2; exact ⟨_, _, rfl, ⟨hl, rfl⟩, h.now r _ (.int _)⟩
    · exact h.elim
  · cases rds with
    | cons h1 h2 =>
      cases h2
      split at h
      · rename_i ds e
        obtain ⟨a, vs, rfl, q, z⟩ := iLst_ok e r h1
        have hl := z.length
        refine ⟨_, vs.length, rfl, ?_, by rw [← hl]; exact h.now r _ (.int _)⟩
        rcases q with q | q
        · exact .inl ⟨vs, q, rfl⟩
        · exact .inr ⟨vs, q, rfl⟩
      · exact h.elim
  · exact h.elim
def gInt (xs : List D) : M D := fun S => match xs with
  | [.int i] => .ok (.int i) S
  | [.bl k] => .ok (.int (if k then 1 else 0)) S
  | _ => .bad
theorem c_int : CRD X W (.type "int") gInt := by
  refine ⟨_, call_int1, fun ds vs μ S σ H Q r rds h => ?_⟩
  unfold gInt at h
  split at h
  · cases rds with
    | cons h1 h2 => cases h1; cases h2; exact .inl ⟨_, rfl, h.now r _ (.int _)⟩
  · cases rds with
    | cons h1 h2 => cases h1; cases h2; exact .inr ⟨_, rfl, h.now r _ (.int _)⟩
  · exact h.elim
def gStr (xs : List D) : M D := fun S => match xs with
  | [.int i] => if i.natAbs.log2 < 1920 then .ok (.str (toString i)) S else .bad
  | _ => .bad
theorem c_str : CRD X W (.type "str") gStr := by
  refine ⟨_, call_str_int, fun ds vs μ S σ H Q r rds h => ?_⟩
  unfold gStr at h
  split at h
  · cases rds with
    | cons h1 h2 =>
      cases h1; cases h2
      split at h
      · rename_i hl; exact ⟨_, rfl, hl, h.now r _ (.str _)⟩
      · exact h.elim
  · exact h.elim
def gList (xs : List D) : M D := fun S => match xs with
  | [d] => match iLst S d with
    | some ds => .ok (.lst ds) S
    | none => .bad
  | _ => .bad
def gListM (xs : List D) : M D := fun S => match xs with
  | [d] => match iLst S d with
    | some ds => .ok (.ref S.length) (S ++ [.lst ds])
    | none => .bad
  | _ => .bad
theorem c_list : CRD X W (.type "list") gList := by
  refine ⟨_, call_list_of, fun ds vs μ S σ H Q r rds h => ?_⟩
  unfold gList at h
  split at h
  · cases rds with
    | cons h1 h2 =>
      cases h2
      split at h
      · rename_i ds e
        obtain ⟨a, vs, rfl, q, z⟩ := iLst_ok e r h1
        exact ⟨_, _, rfl, q, fun p hp => h μ _ (Stp.new hp) (r.new hp) _ (.lst upd_same ⟨fun z => r.there z hp, fun z => r.hid _ z hp⟩ (z.step r (Stp.new hp)))⟩
      · exact h.elim
  · exact h.elim
theorem c_listM : CRD X W (.type "list") gListM := by
  refine ⟨_, call_list_of, fun ds vs μ S σ H Q r rds h => ?_⟩
  unfold gListM at h
  split at h
  · cases rds with
    | cons h1 h2 =>
      cases h2
      split at h
      · rename_i ds e
        obtain ⟨a, vs, rfl, q, z⟩ := iLst_ok e r h1
        exact ⟨_, _, rfl, q, fun p hp => h (μ.push p) _ (Stp.alloc hp) (r.alloc hp ⟨vs, upd_same, z.step r (Stp.alloc hp)⟩) _ (new_ref r)⟩
      · exact h.elim
  · exact h.elim
def gTuple (xs : List D) : M D := fun S => match xs with
  | [d] => match iLst S d with
    | some ds => .ok (.tup ds) S
    | none => .bad
  | _ => .bad
theorem c_tuple : CRD X W (.type "tuple") gTuple := by
  refine ⟨_, call_tuple_of, fun ds vs μ S σ H Q r rds h => ?_⟩
  unfold gTuple at h
  split at h
  · cases rds with
    | cons h1 h2 =>
      cases h2
      split at h
      · rename_i ds e
        obtain ⟨a, vs, rfl, q, z⟩ := iLst_ok e r h1
        refine ⟨_, vs, rfl, ?_⟩
        rcases q with q | q
        · exact .inl ⟨q, fun p hp => h μ _ (Stp.new hp) (r.new hp) _ (.tup (.inl (.inl upd_same)) (z.step r (Stp.new hp)))⟩
        · exact .inr ⟨q, h.now r _ (.tup q z)⟩
      · exact h.elim
  · exact h.elim
def blsOf : List D → Option (List Bool)
  | [] => some []
  | .bl b :: ds => (blsOf ds).map (b :: ·)
  | _ :: _ => none
def intsOf : List D → Option (List Int)
  | [] => some []
  | .int b :: ds => (intsOf ds).map (b :: ·)
  | _ :: _ => none
def strsOf : List D → Option (List Str)
  | [] => some []
  | .str b :: ds => (strsOf ds).map (b :: ·)
  | _ :: _ => none
theorem blsOf_ok : ∀ {ds : List D} {bs : List Bool}, blsOf ds = some bs → ds = bs.map D.bl
  | [], _, h => by cases h; rfl
  | d :: ds, bs, h => by
    unfold blsOf at h
    split at h
    · rename_i e; cases e
    · rename_i b ds' e; cases e
      rw [Option.map_eq_some_iff] at h
      obtain ⟨bs', e, rfl⟩ := h
      simp [blsOf_ok e]
    · cases h
theorem intsOf_ok : ∀ {ds : List D} {bs : List Int}, intsOf ds = some bs → ds = bs.map D.int
  | [], _, h => by cases h; rfl
  | d :: ds, bs, h => by
    unfold intsOf at h
    split at h
    · rename_i e; cases e
    · rename_i b ds' e; cases e
      rw [Option.map_eq_some_iff] at h
      obtain ⟨bs', e, rfl⟩ := h
      simp [intsOf_ok e]
    · cases h
theorem strsOf_ok : ∀ {ds : List D} {bs : List Str}, strsOf ds = some bs → ds = bs.map D.str
  | [], _, h => by cases h; rfl
  | d :: ds, bs, h => by
    unfold strsOf at h
    split at h
    · rename_i e; cases e
    · rename_i b ds' e; cases e
      rw [Option.map_eq_some_iff] at h
      obtain ⟨bs', e, rfl⟩ := h
      simp [strsOf_ok e]
    · cases h
theorem intsOf_map : ∀ ns : List Int, intsOf (ns.map D.int) = some ns
  | [] => rfl
  | n :: ns => by simp [intsOf, intsOf_map ns]
theorem blsOf_map : ∀ ns : List Bool, blsOf (ns.map D.bl) = some ns
  | [] => rfl
  | n :: ns => by simp [blsOf, blsOf_map ns]
theorem strsOf_map : ∀ ns : List Str, strsOf (ns.map D.str) = some ns
  | [] => rfl
  | n :: ns => by simp [strsOf, strsOf_map ns]
def gAll (xs : List D) : M D := fun S => match xs with
  | [d] => match (iSeq S d).bind blsOf with
    | some bs => .ok (.bl (bs.all id)) S
    | none => .bad
  | _ => .bad
def gAny (xs : List D) : M D := fun S => match xs with
  | [d] => match (iSeq S d).bind blsOf with
    | some bs => .ok (.bl (bs.any id)) S
    | none => .bad
  | _ => .bad
def gSum (xs : List D) : M D := fun S => match xs with
  | [d] => match (iSeq S d).bind intsOf with
    | some ns => .ok (.int ns.sum) S
    | none => .bad
  | _ => .bad
theorem c_all (hc : X.calm = true) : CRD X W (.builtin "all") gAll := by
  refine ⟨_, cr_all hc, fun ds vs μ S σ H Q r rds h => ?_⟩
  unfold gAll at h
  split at h
  · cases rds with
    | cons h1 h2 =>
      cases h2
      split at h
      · rename_i bs e
        rw [Option.bind_eq_some_iff] at e
        obtain ⟨ds, e1, e2⟩ := e
        obtain ⟨a, vs, rfl, q, z⟩ := iSeq_ok e1 r h1
        rw [blsOf_ok e2] at z
        rw [z.bls] at q
        exact ⟨_, _, rfl, q, h.now r _ (.bl _)⟩
      · exact h.elim
  · exact h.elim
theorem c_any (hc : X.calm = true) : CRD X W (.builtin "any") gAny := by
  refine ⟨_, cr_any hc, fun ds vs μ S σ H Q r rds h => ?_⟩
  unfold gAny at h
  split at h
  · cases rds with
    | cons h1 h2 =>
      cases h2
      split at h
      · rename_i bs e
        rw [Option.bind_eq_some_iff] at e
        obtain ⟨ds, e1, e2⟩ := e
        obtain ⟨a, vs, rfl, q, z⟩ := iSeq_ok e1 r h1
        rw [blsOf_ok e2] at z
        rw [z.bls] at q
        exact ⟨_, _, rfl, q, h.now r _ (.bl _)⟩
      · exact h.elim
  · exact h.elim
theorem c_sum (hc : X.calm = true) : CRD X W (.builtin "sum") gSum := by
  refine ⟨_, cr_sum hc, fun ds vs μ S σ H Q r rds h => ?_⟩
  unfold gSum at h
  split at h
  · cases rds with
    | cons h1 h2 =>
      cases h2
      split at h
      · rename_i bs e
        rw [Option.bind_eq_some_iff] at e
        obtain ⟨ds, e1, e2⟩ := e
        obtain ⟨a, vs, rfl, q, z⟩ := iSeq_ok e1 r h1
        rw [intsOf_ok e2] at z
        rw [z.ints] at q
        exact ⟨_, _, rfl, q, h.now r _ (.int _)⟩
      · exact h.elim
  · exact h.elim
def gMax2 (xs : List D) : M D := fun S => match xs with
  | [.int i, .int j] => .ok (.int (if j > i then j else i)) S
  | _ => .bad
def gMin2 (xs : List D) : M D := fun S => match xs with
  | [.int i, .int j] => .ok (.int (if j < i then j else i)) S
  | _ => .bad
theorem c_max2 (hc : X.calm = true) : CRD X W (.builtin "max") gMax2 := by
  refine ⟨_, call_max2 hc, fun ds vs μ S σ H Q r rds h => ?_⟩
  unfold gMax2 at h
  split at h
  · cases rds with
    | cons h1 h2 => cases h1; cases h2 with
      | cons h3 h4 => cases h3; cases h4; exact ⟨_, _, rfl, h.now r _ (.int _)⟩
  · exact h.elim
theorem c_min2 (hc : X.calm = true) : CRD X W (.builtin "min") gMin2 := by
  refine ⟨_, call_min2 hc, fun ds vs μ S σ H Q r rds h => ?_⟩
  unfold gMin2 at h
  split at h
  · cases rds with
    | cons h1 h2 => cases h1; cases h2 with
      | cons h3 h4 => cases h3; cases h4; exact ⟨_, _, rfl, h.now r _ (.int _)⟩
  · exact h.elim

/-! isinstance with a built-in type -/
def typN (S : Sto) : D → Option String
  | .non => some "NoneType"
  | .bl _ => some "bool"
  | .int _ => some "int"
  | .str _ => some "str"
  | .tup _ => some "tuple"
  | .lst _ => some "list"
  | .fl _ => some "list"
  | .ref n => match S[n]? with
    | some (.lst _) => some "list"
    | some (.dct _) => some "dict"
    | none => none
  | .fn _ => none
def isiN (a b : String) : Bool := a == b || (a == "bool" && b == "int")
def gIsi (T : String) (d : D) : M D := fun S => match typN S d with
  | some a => .ok (.bl (isiN a T)) S
  | none => .bad
def eIsi (T : String) (a : EvD) : EvD := fun ρ => bnd (a ρ) (gIsi T)
theorem typN_ok {K : PySem.W.Frag} {μ : Mu} {S : Sto} {H : Hp} {d : D} {v : V} {a : String} (e : typN S d = some a) (r : Rel K μ S H) (h : RD K μ H d v) : TyX K H v (.type a) ∧ a ∈ ["NoneType", "bool", "int", "str", "tuple", "list", "dict"] := by
  cases h with
  | non => cases e; exact ⟨.base .non, by decide⟩
  | bl b => cases e; exact ⟨.base (.bl _), by decide⟩
  | int b => cases e; exact ⟨.base (.int _), by decide⟩
  | str b => cases e; exact ⟨.base (.str _), by decide⟩
  | fn h1 => cases e
  | tup h1 h2 =>
    cases e
    refine ⟨?_, by decide⟩
    rcases h1 with (h1 | ⟨o, h1⟩) | ⟨o, its, n, h1, h3, _⟩
    · exact .base (.tup h1)
    · exact .fTuple h1
    · exact .kTuple h1 h3
  | lst h1 _ _ => cases e; exact ⟨.base (.lst h1), by decide⟩
  | fl h1 _ =>
    cases e
    refine ⟨?_, by decide⟩
    rcases h1 with ⟨o, h1⟩ | ⟨o, its, n, h1, h3, _⟩
    · exact .base (.frz h1)
    · exact .kList h1 h3
  | @ref n a h1 =>
    unfold typN at e
    simp only at e
    split at e
    · rename_i hs; cases e
      obtain ⟨vs, q, z⟩ := r.obj _ _ _ h1 hs
      exact ⟨.base (.lst q), by decide⟩
    · rename_i hs; cases e
      obtain ⟨vs, q, z⟩ := r.obj _ _ _ h1 hs
      exact ⟨.base (.dK q), by decide⟩
    · cases e
theorem isiN_ok {K : PySem.W.Frag} {a b : String} (ha : a ∈ ["NoneType", "bool", "int", "str", "tuple", "list", "dict"]) (hb : b ∈ ["bool", "int", "str", "tuple", "list", "dict"]) : PySem.W.kitOne K (.type a) (.type b) = some (isiN a b) := by
  have key : (["NoneType", "bool", "int", "str", "tuple", "list", "dict"].all fun a => ["bool", "int", "str", "tuple", "list", "dict"].all fun b => decide (kitB a b = some (isiN a b))) = true := by decide +kernel
  exact kit_ty (of_decide_eq_true (List.all_eq_true.mp (List.all_eq_true.mp key a ha) b hb))
theorem d_isi {e : Expr} {te : EvD} {p1 p2 : Pos} (T : String) {tn : Str} (hg : Gl X "isinstance") (hm : X.mg "isinstance" = none) (he : PE X e (tD X.K X.mg W te)) (gt : Gl X tn) (mt : X.mg tn = none) (bt : bootBuiltins tn = some (.type T)) (hT : T ∈ ["bool", "int", "str", "tuple", "list", "dict"])
    (nt : tn ≠ "__name__" := by decide) (dt : (tn == ("__debug__" : Str)) = false := by decide)
    (hs : starEach [e, .Name tn p2] X.env = (false, eval e X.env) :: starEach [.Name tn p2] X.env := by rfl) :
    PE X (.Call (.Name "isinstance" p1) [e, .Name tn p2] [] pos) (tD X.K X.mg W (eIsi T te)) := by
  refine PE.imp (pe_callB call_isi hg hm (by decide +kernel) (pa_cons he (pa_cons (pe_bltn gt mt bt (v := .ty T) rfl nt dt) pa_nil) hs) (by decide) (by decide) hs) fun σ H Q ⟨ρ, S, μ, e, s, h⟩ => ?_
  refine ⟨ρ, S, μ, e, s, h.bnd fun d S1 μ1 H1 s1 r1 h1 v rv => ?_⟩
  unfold gIsi at h1
  split at h1
  · rename_i a ea
    obtain ⟨ty, ma⟩ := typN_ok ea r1 rv
    exact ⟨_, _, _, _, _, rfl, .ty T, ty, isiN_ok ma hT, h1.now r1 _ (.bl _)⟩
  · exact h1.elim

/-! ### subscripts, slices -/
def gIx (x i : D) : M D := fun S => match x, i with
  | .str z, .int k => if z.length ≤ sizeLine then match atI z.cps.toList k with
      | some c => .ok (.str ⟨#[c]⟩) S
      | none => .bad
    else .bad
  | x, .int k => match iLst S x with
    | some ds => match atI ds k with
      | some d => .ok d S
      | none => .bad
    | none => .bad
  | _, _ => .bad
theorem atI_rel {K : PySem.W.Frag} {μ : Mu} {H : Hp} {ds : List D} {vs : List V} {i : Int} {d : D} (z : RDs K μ H ds vs) (e : atI ds i = some d) : ∃ v, atI vs i = some v ∧ RD K μ H d v := by
  unfold atI at e ⊢
  rw [Option.bind_eq_some_iff] at e
  obtain ⟨j, e1, e2⟩ := e
  obtain ⟨v, e3, rv⟩ := z.get e2
  exact ⟨v, by rw [← z.length, e1]; exact e3, rv⟩
theorem d_ix {a b : Expr} {ta tb : EvD} (ha : PE X a (tD X.K X.mg W ta)) (hb : PE X b (tD X.K X.mg W tb)) (hs : PlainIx b := by exact fun _ _ => rfl) : PE X (.Subscript a b pos) (tD X.K X.mg W (eBin gIx ta tb)) := by
  refine PE.imp (pe_ix ix_seq ha hb hs) fun σ H Q h => bin_ok (fun x y v w μ S σ H Q r rx ry h => ?_) h
  unfold gIx at h
  split at h
  · cases rx; cases ry
    split at h
    · rename_i hl
      split at h
      · rename_i c hc
        exact .inr (.inr ⟨_, _, _, rfl, rfl, hl, hc, h.now r _ (.str _)⟩)
      · exact h.elim
    · exact h.elim
  · cases ry
    split at h
    · rename_i ds e
      split at h
      · rename_i d ed
        obtain ⟨a, vs, rfl, q, z⟩ := iLst_ok e r rx
        obtain ⟨v, ev, rv⟩ := atI_rel z ed
        rcases q with q | q
        · exact .inl ⟨_, _, _, _, rfl, rfl, q, ev, h.now r _ rv⟩
        · exact .inr (.inl ⟨_, _, _, _, rfl, rfl, q, ev, h.now r _ rv⟩)
      · exact h.elim
    · exact h.elim
  · exact h.elim
abbrev EvO := Rho → M (Option Int)
def oNone : EvO := fun _ => ret none
def oSome (a : EvD) : EvO := fun ρ => bnd (a ρ) fun x => match x with
  | .int i => ret (some i)
  | _ => stuck
def tO (K : PySem.W.Frag) (mg : Str → Option Value) (W : WX) (F : EvO) : TO := fun σ H Q => ∃ ρ S μ, RE K μ H σ ρ ∧ Rel K μ S H ∧ Post K mg W μ σ H (F ρ S) (fun o _ H' => Q o H')
theorem PO.imp {e : Option Expr} {t t' : TO} (h : PO X e t) (f : ∀ σ H Q, t' σ H Q → t σ H Q) : PO X e t' := ⟨fun pins s σ H Q I q => h.run pins s σ H Q I (f σ H Q q)⟩
theorem o_none : PO X none (tO X.K X.mg W oNone) := PO.imp po_none fun σ H Q ⟨ρ, S, μ, e, s, h⟩ => h.now s
theorem o_some {e : Expr} {te : EvD} (h : PE X e (tD X.K X.mg W te)) : PO X (some e) (tO X.K X.mg W (oSome te)) := by
  refine PO.imp (po_some h) fun σ H Q ⟨ρ, S, μ, e, s, h⟩ => ?_
  refine ⟨ρ, S, μ, e, s, h.bnd fun x S1 μ1 H1 s1 r1 h1 v rv => ?_⟩
  split at h1
  · cases rv; exact ⟨_, rfl, h1.now r1⟩
  · exact h1.elim
def cutD (xs : List D) (lo hi : Option Int) : List D := (xs.drop (HT.sIx xs.length 0 lo)).take (HT.sIx xs.length xs.length hi - HT.sIx xs.length 0 lo)
theorem cut_rel {K : PySem.W.Frag} {μ : Mu} {H : Hp} {ds : List D} {vs : List V} (z : RDs K μ H ds vs) (lo hi : Option Int) : RDs K μ H (cutD ds lo hi) (cutV vs lo hi) := by
  unfold cutD cutV
  rw [z.length]
  exact (z.drop _).take _
def gSl (mu : Bool) (x : D) (lo hi : Option Int) : M D := fun S => match x with
  | .str z => if z.length ≤ sizeLine then .ok (.str (cutS z lo hi)) S else .bad
  | .tup ds => .ok (.tup (cutD ds lo hi)) S
  | x => match iSeq S x with
    | some ds => if mu then .ok (.ref S.length) (S ++ [.lst (cutD ds lo hi)]) else .ok (.lst (cutD ds lo hi)) S
    | none => .bad
def eSl (mu : Bool) (a : EvD) (lo hi : EvO) : EvD := fun ρ => bnd (a ρ) fun x => bnd (lo ρ) fun l => bnd (hi ρ) fun h => gSl mu x l h
theorem d_slice (mu : Bool) {e : Expr} {lo hi : Option Expr} {te : EvD} {tl th : EvO} {p2 : Pos} (he : PE X e (tD X.K X.mg W te)) (hl : PO X lo (tO X.K X.mg W tl)) (hu : PO X hi (tO X.K X.mg W th)) : PE X (.Subscript e (.Slice lo hi none p2) pos) (tD X.K X.mg W (eSl mu te tl th)) := by
  refine PE.imp (pe_slice (sl_str.or (sl_tupA.or sl_list)) he hl hu) fun σ H Q ⟨ρ, S, μ, e, s, h⟩ => ?_
  refine ⟨ρ, S, μ, e, s, h.bnd fun x S1 μ1 H1 s1 r1 h1 v rv => ?_⟩
  refine ⟨ρ, S1, μ1, e.step s s1, r1, h1.bnd fun l S2 μ2 H2 s2 r2 h2 => ?_⟩
  refine ⟨ρ, S2, μ2, (e.step s s1).step r1 s2, r2, h2.bnd fun u S3 μ3 H3 s3 r3 h3 => ?_⟩
  have rv3 := (rv.step r1 s2).step r2 s3
  unfold gSl at h3
  split at h3
  · cases rv3
    split at h3
    · rename_i hz; exact .inl ⟨_, rfl, hz, h3.now r3 _ (.str _)⟩
    · exact h3.elim
  · cases rv3 with
    | @tup a vs ds q z =>
      have hcut : HT.sIx vs.length 0 l = 0 ∧ HT.sIx vs.length vs.length u = vs.length → cutV vs l u = vs := fun ⟨e1, e2⟩ => by
        unfold cutV; rw [e1, e2]; simp
      refine .inr (.inl ⟨_, _, rfl, q, fun w => h3.now r3 _ (.tup q ?_), fun _ p hp => h3 μ3 _ (Stp.new hp) (r3.new hp) _ (.tup (.inl (.inl upd_same)) ((cut_rel z l u).step r3 (Stp.new hp)))⟩)
      have := cut_rel z l u
      rw [hcut w] at this
      exact this
  · split at h3
    · rename_i ds e
      obtain ⟨a, vs, rfl, q, z⟩ := iSeq_ok e r3 rv3
      refine .inr (.inr ⟨_, _, rfl, q, fun p hp => ?_⟩)
      cases mu with
      | true => exact h3 (μ3.push p) _ (Stp.alloc hp) (r3.alloc hp ⟨_, upd_same, (cut_rel z l u).step r3 (Stp.alloc hp)⟩) _ (new_ref r3)
      | false => exact h3 μ3 _ (Stp.new hp) (r3.new hp) _ (.lst upd_same ⟨fun z => r3.there z hp, fun z => r3.hid _ z hp⟩ ((cut_rel z l u).step r3 (Stp.new hp)))
    · exact h3.elim
def gRev (mu : Bool) (x : D) : M D := fun S => match iSeq S x with
  | some ds => if mu then .ok (.ref S.length) (S ++ [.lst ds.reverse]) else .ok (.lst ds.reverse) S
  | none => .bad
/-- xs[::-1] -/
theorem d_rev (mu : Bool) {e : Expr} {te : EvD} {k : Nat} {p1 p2 p3 : Pos} (he : PE X e (tD X.K X.mg W te)) : PE X (.Subscript e (.Slice none none (some (.UnaryOp .USub (.Constant (.int 1) k p1) p2)) p3) pos) (tD X.K X.mg W (eUn (gRev mu) te)) := by
  refine PE.imp (pe_revL he) fun σ H Q ⟨ρ, S, μ, e, s, h⟩ => ?_
  refine ⟨ρ, S, μ, e, s, h.bnd fun x S1 μ1 H1 s1 r1 h1 v rv => ?_⟩
  unfold gRev at h1
  split at h1
  · rename_i ds e
    obtain ⟨a, vs, rfl, q, z⟩ := iSeq_ok e r1 rv
    refine ⟨_, _, rfl, q, fun p hp => ?_⟩
    cases mu with
    | true => exact h1 (μ1.push p) _ (Stp.alloc hp) (r1.alloc hp ⟨_, upd_same, z.reverse.step r1 (Stp.alloc hp)⟩) _ (new_ref r1)
    | false => exact h1 μ1 _ (Stp.new hp) (r1.new hp) _ (.lst upd_same ⟨fun z => r1.there z hp, fun z => r1.hid _ z hp⟩ (z.reverse.step r1 (Stp.new hp)))
  · exact h1.elim
end
end DL

/-! DL4: methods, what is walked, comprehensions. -/
namespace DL
open PySem L2

/-! ### methods -/
def isTy (S : Sto) (T : String) (d : D) : Bool := match d with
  | .str _ => T == "str"
  | .lst _ => T == "list"
  | .fl _ => T == "list"
  | .ref n => match S[n]? with
    | some (.lst _) => T == "list"
    | some (.dct _) => T == "dict"
    | none => false
  | _ => false
def chkT (T : String) (d : D) : M D := fun S => if isTy S T d = true then .ok d S else .bad
def eMeth (T : String) (g : D → List D → M D) (o : EvD) (as : EvL) : EvD := fun ρ => bnd (o ρ) fun x => bnd (chkT T x) fun x => bnd (as ρ) fun xs => g x xs
section
variable {X : Cx} {W : WX} {pos : Pos}
theorem isTy_ok {K : PySem.W.Frag} {μ : Mu} {S : Sto} {H : Hp} {T : String} {d : D} {v : V} (e : isTy S T d = true) (r : Rel K μ S H) (h : RD K μ H d v) : tyV K T v H := by
  unfold isTy at e
  split at e
  · cases h; exact eq_of_beq e
  · cases h with | lst h1 _ _ => exact .inl ⟨eq_of_beq e, _, .inl (.inl h1)⟩
  · cases h with
    | fl h1 _ =>
      rcases h1 with ⟨o, h1⟩ | h1
      · exact .inl ⟨eq_of_beq e, _, .inl (.inr ⟨o, h1⟩)⟩
      · exact .inl ⟨eq_of_beq e, _, .inr h1⟩
  · cases h with
    | @ref n a h1 =>
      split at e
      · rename_i hs
        obtain ⟨vs, q, z⟩ := r.obj _ _ _ h1 hs
        exact .inl ⟨eq_of_beq e, _, .inl (.inl q)⟩
      · rename_i hs
        obtain ⟨vs, q, z⟩ := r.obj _ _ _ h1 hs
        exact .inr (.inr (.inl ⟨eq_of_beq e, .inl ⟨_, q⟩⟩))
      · cases e
  · cases e
def MRD (X : Cx) (W : WX) (id : String) (g : D → List D → M D) : Prop := ∃ r, MtR X id r ∧
  ∀ d ds v vs μ S σ H Q, Rel X.K μ S H → RD X.K μ H d v → RDs X.K μ H ds vs → Post X.K X.mg W μ σ H (g d ds S) (QD X.K Q) → r v vs H Q
theorem d_meth {o e : Expr} {es : List Expr} {to : EvD} {t : EvL} {name : Str} {apos cpos : Pos} {T id : String} {g : D → List D → M D} (pa : PlainAttrs T) (slot : Slot T name id) (hty : typeOf (.builtin id) = pure (.type "method_descriptor")) (m : MRD X W id g) (ho : PE X o (tD X.K X.mg W to)) (ha : PA X (e :: es) (tA X.K X.mg W t))
    (hbase : attributeBase o name X.env (eval o X.env) = eval o X.env := by rfl)
    (hfew : ((backTo cpos (starEach (e :: es) X.env)).all (fun x => !x.1) && (backToKw cpos (keywordEach [] X.env)).all (fun x => x.1.isSome)
      && decide ((e :: es).length + ([] : List Keyword).length + (if ([] : List Keyword).isEmpty then 0 else 1) < 30)) = true := by rfl)
    (hline : (apos.endLine == cpos.line) = true := by rfl) (hs : starEach (e :: es) X.env = (false, eval e X.env) :: starEach es X.env := by rfl) (hplain : (backTo cpos (starEach es X.env)).any (·.1) = false := by rfl) :
    PE X (.Call (.Attribute o name apos) (e :: es) [] cpos) (tD X.K X.mg W (eMeth T g to t)) := by
  obtain ⟨r, hm, hr⟩ := m
  refine PE.imp (pe_bm pa slot hty hm ho ha hbase hfew hline hs hplain) fun σ H Q ⟨ρ, S, μ, e, s, h⟩ => ?_
  refine ⟨ρ, S, μ, e, s, h.bnd fun x S1 μ1 H1 s1 r1 h1 v rv => ?_⟩
  by_cases ty : isTy S1 T x = true
  · have h1' : Post X.K X.mg W μ1 σ H1 (bnd (t ρ) (fun xs => g x xs) S1) (QD X.K Q) := by
      unfold bnd chkT at h1
      rw [if_pos ty] at h1
      exact h1
    exact ⟨isTy_ok ty r1 rv, ρ, S1, μ1, e.step s s1, r1, h1'.bnd fun xs S2 μ2 H2 s2 r2 h2 vs rvs => hr _ _ _ _ _ _ _ _ _ r2 (rv.step r1 s2) rvs h2⟩
  · unfold bnd chkT at h1
    rw [if_neg ty] at h1
    exact h1.elim
theorem d_meth0 {o : Expr} {to : EvD} {name : Str} {apos cpos : Pos} {T id : String} {g : D → List D → M D} (pa : PlainAttrs T) (slot : Slot T name id) (hty : typeOf (.builtin id) = pure (.type "method_descriptor")) (m : MRD X W id g) (ho : PE X o (tD X.K X.mg W to))
    (hbase : attributeBase o name X.env (eval o X.env) = eval o X.env := by rfl) (hline : (apos.endLine == cpos.line) = true := by rfl) :
    PE X (.Call (.Attribute o name apos) [] [] cpos) (tD X.K X.mg W (eMeth T g to aNil)) := by
  obtain ⟨r, hm, hr⟩ := m
  refine PE.imp (pe_bm0 pa slot hty hm ho hbase hline) fun σ H Q ⟨ρ, S, μ, e, s, h⟩ => ?_
  refine ⟨ρ, S, μ, e, s, h.bnd fun x S1 μ1 H1 s1 r1 h1 v rv => ?_⟩
  by_cases ty : isTy S1 T x = true
  · have h1' : Post X.K X.mg W μ1 σ H1 (g x [] S1) (QD X.K Q) := by
      unfold bnd chkT at h1
      rw [if_pos ty] at h1
      exact h1
    exact ⟨isTy_ok ty r1 rv, hr _ _ _ _ _ _ _ _ _ r1 rv .nil h1'⟩
  · unfold bnd chkT at h1
    rw [if_neg ty] at h1
    exact h1.elim

def gAppend (x : D) (xs : List D) : M D := fun S => match x, xs with
  | .ref n, [d] => match atL S n with
    | some ds => if ds.length < sizeLine then .ok .non (S.set n (.lst (ds ++ [d]))) else .bad
    | none => .bad
  | _, _ => .bad
theorem m_append : MRD X W "list.append" gAppend := by
  refine ⟨_, mt_append, fun d ds v vs μ S σ H Q r rd rds h => ?_⟩
  unfold gAppend at h
  split at h
  · cases rds with
    | cons h1 h2 =>
      cases h2
      split at h
      · rename_i ds e
        split at h
        · rename_i hl
          cases rd with
          | @ref n a hn =>
            obtain ⟨vs, q, z⟩ := r.obj _ a _ hn (atL_ok e)
            have hm : a ∈ μ.v := List.mem_of_getElem? hn
            refine ⟨a, vs, _, rfl, rfl, q, by rw [← z.length]; exact hl, ?_⟩
            exact h μ _ (Stp.put hm) (r.put hn ⟨_, upd_same, (z.step r (Stp.put hm)).append (.cons (h1.step r (Stp.put hm)) .nil)⟩) _ .non
        · exact h.elim
      · exact h.elim
  · exact h.elim
def gPop (x : D) (xs : List D) : M D := fun S => match x, xs with
  | .ref n, [] => match atL S n with
    | some ds => match ds[ds.length - 1]? with
      | some d => .ok d (S.set n (.lst ds.dropLast))
      | none => .bad
    | none => .bad
  | .ref n, [.int i] => match atL S n with
    | some ds => match seqIndex? i ds.length with
      | some k => match ds[k]? with
        | some d => if -(2 ^ 63) ≤ i ∧ i < 2 ^ 63 then .ok d (S.set n (.lst (ds.eraseIdx k))) else .bad
        | none => .bad
      | none => .bad
    | none => .bad
  | _, _ => .bad
theorem m_pop : MRD X W "list.pop" gPop := by
  refine ⟨_, MtR.or mt_pop mt_popAt, fun d ds v vs μ S σ H Q r rd rds h => ?_⟩
  unfold gPop at h
  split at h
  · cases rds
    split at h
    · rename_i ds e
      split at h
      · rename_i d ed
        cases rd with
        | @ref n a hn =>
          obtain ⟨vs, q, z⟩ := r.obj _ a _ hn (atL_ok e)
          have hm : a ∈ μ.v := List.mem_of_getElem? hn
          obtain ⟨v, ev, rv⟩ := z.get ed
          refine .inl ⟨a, vs, v, rfl, rfl, q, by rw [← z.length]; exact ev, ?_⟩
          exact h μ _ (Stp.put hm) (r.put hn ⟨_, upd_same, (z.step r (Stp.put hm)).dropLast⟩) _ (rv.step r (Stp.put hm))
      · exact h.elim
    · exact h.elim
  · cases rds with
    | cons h1 h2 =>
      cases h2; cases h1
      split at h
      · rename_i ds e
        split at h
        · rename_i k ek
          split at h
          · rename_i d ed
            split at h
            · rename_i hb
              cases rd with
              | @ref n a hn =>
                obtain ⟨vs, q, z⟩ := r.obj _ a _ hn (atL_ok e)
                have hm : a ∈ μ.v := List.mem_of_getElem? hn
                obtain ⟨v, ev, rv⟩ := z.get ed
                refine .inr ⟨a, vs, _, k, v, rfl, rfl, q, hb.1, hb.2, by rw [← z.length]; exact ek, ev, ?_⟩
                exact h μ _ (Stp.put hm) (r.put hn ⟨_, upd_same, (z.step r (Stp.put hm)).eraseIdx k⟩) _ (rv.step r (Stp.put hm))
            · exact h.elim
          · exact h.elim
        · exact h.elim
      · exact h.elim
  · exact h.elim
def gExtend (x : D) (xs : List D) : M D := fun S => match x, xs with
  | .ref n, [d] => match atL S n, iTrk S d with
    | some ds, some es => if ds.length + es.length ≤ sizeLine then .ok .non (S.set n (.lst (ds ++ es))) else .bad
    | _, _ => .bad
  | _, _ => .bad
theorem m_extend : MRD X W "list.extend" gExtend := by
  refine ⟨_, mt_extend, fun d ds v vs μ S σ H Q r rd rds h => ?_⟩
  unfold gExtend at h
  split at h
  · cases rds with
    | cons h1 h2 =>
      cases h2
      split at h
      · rename_i ds es e e2
        split at h
        · rename_i hl
          cases rd with
          | @ref n a hn =>
            obtain ⟨vs, q, z⟩ := r.obj _ a _ hn (atL_ok e)
            have hm : a ∈ μ.v := List.mem_of_getElem? hn
            obtain ⟨b, ws, rfl, q2, z2⟩ := iTrk_ok e2 r h1
            refine ⟨a, b, vs, ws, rfl, rfl, q, q2, by rw [← z.length, ← z2.length]; exact hl, ?_⟩
            exact h μ _ (Stp.put hm) (r.put hn ⟨_, upd_same, (z.step r (Stp.put hm)).append (z2.step r (Stp.put hm))⟩) _ .non
        · exact h.elim
      · exact h.elim
  · exact h.elim
def gSplit (mu : Bool) (x : D) (xs : List D) : M D := fun S => match x, xs with
  | .str a, [.str b] => if (b.length == 0) = false ∧ a.length + 2 ≤ sizeLine then
      (if mu then .ok (.ref S.length) (S ++ [.lst ((Txt.split a b).map .str)]) else .ok (.lst ((Txt.split a b).map .str)) S) else .bad
  | _, _ => .bad
theorem m_split (mu : Bool) : MRD X W "str.split" (gSplit mu) := by
  refine ⟨_, mt_split, fun d ds v vs μ S σ H Q r rd rds h => ?_⟩
  unfold gSplit at h
  split at h
  · cases rds with
    | cons h1 h2 =>
      cases h2; cases h1; cases rd
      split at h
      · rename_i hl
        refine ⟨_, _, rfl, rfl, hl.1, hl.2, fun p hp => ?_⟩
        cases mu with
        | true => exact h (μ.push p) _ (Stp.alloc hp) (r.alloc hp ⟨_, upd_same, RDs.of_strs _⟩) _ (new_ref r)
        | false => exact h μ _ (Stp.new hp) (r.new hp) _ (.lst upd_same ⟨fun z => r.there z hp, fun z => r.hid _ z hp⟩ (RDs.of_strs _))
      · exact h.elim
  · exact h.elim
def gJoin (x : D) (xs : List D) : M D := fun S => match x, xs with
  | .str a, [d] => match (iLst S d).bind strsOf with
    | some ys => if (ys.map (·.length)).sum + ys.length * a.length ≤ 16777216 then .ok (.str (Txt.join a ys)) S else .bad
    | none => .bad
  | _, _ => .bad
theorem m_join : MRD X W "str.join" gJoin := by
  refine ⟨_, mt_join, fun d ds v vs μ S σ H Q r rd rds h => ?_⟩
  unfold gJoin at h
  split at h
  · cases rds with
    | cons h1 h2 =>
      cases h2; cases rd
      split at h
      · rename_i ys e
        split at h
        · rename_i hl
          rw [Option.bind_eq_some_iff] at e
          obtain ⟨ds, e1, e2⟩ := e
          obtain ⟨a, vs, rfl, q, z⟩ := iLst_ok e1 r h1
          rw [strsOf_ok e2] at z
          rw [z.strs] at q
          exact ⟨_, _, _, rfl, rfl, q, hl, h.now r _ (.str _)⟩
        · exact h.elim
      · exact h.elim
  · exact h.elim
end

/-! ### what is walked -/
/-- the iterator J hands out what ds says; src: the stored list that must stand as ds meanwhile -/
def liveOk (src : Option Nat) (ds : List D) (S : Sto) : Prop := match src with
  | none => True
  | some n => S[n]? = some (.lst ds)
structure ItOk (K : PySem.W.Frag) (J : It) (src : Option Nat) (ds : List D) (G : Mu → Hp → Prop) : Prop where
  go : ∀ (i : Nat) (μ : Mu) (S : Sto) (H : Hp), i < ds.length → Rel K μ S H → liveOk src ds S → G μ H → J.go i H
  yld : ∀ (i : Nat) (x : V) (μ : Mu) (S : Sto) (H H' : Hp), i < ds.length → Rel K μ S H → liveOk src ds S → G μ H → J.yld i H x H' → Stp μ H μ H' ∧ Rel K μ S H' ∧ ∃ d, ds[i]? = some d ∧ RD K μ H' d x
  stop : ∀ (μ : Mu) (S : Sto) (H : Hp), Rel K μ S H → liveOk src ds S → G μ H → J.stop ds.length H
  step : ∀ (μ : Mu) (S : Sto) (H : Hp) (μ' : Mu) (H' : Hp), G μ H → Rel K μ S H → Stp μ H μ' H' → G μ' H'
  hide : ∀ (μ : Mu) (H : Hp) (p : Addr) (o : HO), G μ H → H p = none → G (μ.hide p) (upd H p o)
  seen : ∀ (μ : Mu) (H : Hp) (p : Addr) (xs ys : List V), G (μ.hide p) H → H p = some (.lst xs) → G (μ.hide p) (upd H p (.lst ys))
abbrev EvI := Rho → M (Option Nat × List D)
def tI (K : PySem.W.Frag) (mg : Str → Option Value) (W : WX) (F : EvI) : TI := fun σ H R => ∃ ρ S μ, RE K μ H σ ρ ∧ Rel K μ S H ∧
  Post K mg W μ σ H (F ρ S) (fun p μ' H' => ∀ J G, ItOk K J p.1 p.2 G → G μ' H' → R J H')
def srcL (d : D) : M (Option Nat × List D) := fun S => match d with
  | .tup ds => .ok (none, ds) S
  | .lst ds => .ok (none, ds) S
  | .fl ds => .ok (none, ds) S
  | .ref n => match atL S n with
    | some ds => .ok (some n, ds) S
    | none => .bad
  | .str x => .ok (none, x.cps.toList.map fun c => .str ⟨#[c]⟩) S
  | _ => .bad
def iIt (a : EvD) : EvI := fun ρ => bnd (a ρ) srcL
section
variable {K : PySem.W.Frag}
theorem it_tup {a : Addr} {ds : List D} : ItOk K (Itt K a) none ds (fun μ H => RD K μ H (.tup ds) (.ref a)) where
  go := fun i μ S H hi r _ g => by
    cases g with
    | tup q z =>
      obtain ⟨v, ev, _⟩ := z.get (List.getElem?_eq_getElem hi)
      exact ⟨_, v, q, ev⟩
  yld := fun i x μ S H H' hi r _ g y => by
    obtain ⟨rfl, y⟩ := y
    cases g with
    | tup q z =>
      obtain ⟨v, ev, rv⟩ := z.get (List.getElem?_eq_getElem hi)
      have := y _ q
      rw [this] at ev
      cases ev
      exact ⟨.refl, r, _, List.getElem?_eq_getElem hi, rv⟩
  stop := fun μ S H r _ g => by
    cases g with
    | tup q z => exact ⟨_, q, by rw [z.length]; exact Nat.le_refl _⟩
  step := fun μ S H μ' H' g r s => RD.step g r s
  hide := fun μ H p o g h => RD.hide h _ _ g
  seen := fun μ H p xs ys g h => RD.seen h _ _ g
theorem it_seq {a : Addr} {d : D} {src : Option Nat} {ds : List D} (hd : d = .lst ds ∨ d = .fl ds ∨ ∃ n, d = .ref n ∧ src = some n) : ItOk K (Itl K a) src ds (fun μ H => RD K μ H d (.ref a)) := by
  have key : ∀ (μ : Mu) (S : Sto) (H : Hp), Rel K μ S H → liveOk src ds S → RD K μ H d (.ref a) → ∃ vs, SqL K H a vs ∧ RDs K μ H ds vs := fun μ S H r l g => by
    have e : iSeq S d = some ds := by
      rcases hd with rfl | rfl | ⟨n, rfl, rfl⟩
      · rfl
      · rfl
      · show atL S n = some ds
        unfold atL
        have l' : S[n]? = some (.lst ds) := l
        rw [l']
    obtain ⟨a', vs, e1, q, z⟩ := iSeq_ok e r g
    cases e1
    exact ⟨vs, q, z⟩
  refine ⟨fun i μ S H hi r l g => ?_, fun i x μ S H H' hi r l g y => ?_, fun μ S H r l g => ?_, fun μ S H μ' H' g r s => RD.step g r s, fun μ H p o g h => RD.hide h _ _ g, fun μ H p xs ys g h => RD.seen h _ _ g⟩
  · obtain ⟨vs, q, z⟩ := key μ S H r l g
    obtain ⟨v, ev, _⟩ := z.get (List.getElem?_eq_getElem hi)
    exact ⟨_, v, q, ev⟩
  · obtain ⟨rfl, y⟩ := y
    obtain ⟨vs, q, z⟩ := key μ S _ r l g
    obtain ⟨v, ev, rv⟩ := z.get (List.getElem?_eq_getElem hi)
    have := y _ q
    rw [this] at ev
    cases ev
    exact ⟨.refl, r, _, List.getElem?_eq_getElem hi, rv⟩
  · obtain ⟨vs, q, z⟩ := key μ S H r l g
    exact ⟨_, q, by rw [z.length]; exact Nat.le_refl _⟩
theorem it_str {x : Str} : ItOk K (Its x) none (x.cps.toList.map fun c => D.str ⟨#[c]⟩) (fun _ _ => True) where
  go := fun i μ S H hi r _ g => by show i < x.cps.size; simpa using hi
  yld := fun i v μ S H H' hi r _ g y => by
    obtain ⟨rfl, c, ec, rfl⟩ := y
    refine ⟨.refl, r, _, ?_, .str _⟩
    rw [List.getElem?_map, Array.getElem?_toList, ec]
    rfl
  stop := fun μ S H r _ g => by show x.cps.size ≤ _; simp
  step := fun _ _ _ _ _ _ _ _ => trivial
  hide := fun _ _ _ _ _ _ => trivial
  seen := fun _ _ _ _ _ _ _ => trivial
def rangeD (lo : Int) (n : Nat) : List D := (List.range n).map fun i => .int (lo + (i : Nat))
theorem it_range {lo : Int} {n : Nat} : ItOk K (Itr lo n) none (rangeD lo n) (fun _ _ => True) where
  go := fun i μ S H hi r _ g => by show i < n; simpa [rangeD] using hi
  yld := fun i v μ S H H' hi r _ g y => by
    obtain ⟨rfl, rfl⟩ := y
    have hi' : i < n := by simpa [rangeD] using hi
    refine ⟨.refl, r, .int (lo + (i : Nat)), ?_, .int _⟩
    unfold rangeD
    rw [List.getElem?_map, List.getElem?_range hi']
    rfl
  stop := fun μ S H r _ g => by show n ≤ _; simp [rangeD]
  step := fun _ _ _ _ _ _ _ _ => trivial
  hide := fun _ _ _ _ _ _ => trivial
  seen := fun _ _ _ _ _ _ _ => trivial
theorem it_rev {a : Addr} {ds : List D} {d : D} {src : Option Nat} (hd : d = .lst ds ∨ d = .fl ds ∨ ∃ n, d = .ref n ∧ src = some n) : True := trivial
end
section
variable {X : Cx} {W : WX} {tg : Expr}
theorem PI.or {l : Expr} {w w' : TI} (h : PI X tg l w) (h' : PI X tg l w') : PI X tg l (fun σ H R => w σ H R ∨ w' σ H R) := ⟨fun pins s σ H R I q => by
  rcases q with q | q
  · exact h.run pins s σ H R I q
  · exact h'.run pins s σ H R I q⟩
theorem PI.imp {l : Expr} {w w' : TI} (h : PI X tg l w) (f : ∀ σ H R, w' σ H R → w σ H R) : PI X tg l w' := ⟨fun pins s σ H R I q => h.run pins s σ H R I (f σ H R q)⟩
theorem i_it {e : Expr} {te : EvD} (he : PE X e (tD X.K X.mg W te)) : PI X tg e (tI X.K X.mg W (iIt te)) := by
  refine PI.imp (PI.or (pi_list he) (PI.or (pi_tup he) (pi_str he))) fun σ H R ⟨ρ, S, μ, e, s, h⟩ => ?_
  cases hr : te ρ S with
  | bad => simp only [iIt, bnd, hr] at h; exact h.elim
  | ex x S1 =>
    refine .inl ⟨ρ, S, μ, e, s, ?_⟩
    simp only [iIt, bnd, hr] at h
    rw [hr]
    exact h
  | ok d S1 =>
    have h' : Post X.K X.mg W μ σ H (srcL d S1) (fun p μ' H' => ∀ J G, ItOk X.K J p.1 p.2 G → G μ' H' → R J H') := by
      simp only [iIt, bnd, hr] at h; exact h
    unfold srcL at h'
    split at h'
    · refine .inr (.inl ⟨ρ, S, μ, e, s, ?_⟩)
      rw [hr]
      intro μ1 H1 s1 r1 v rv
      have rv0 := rv
      cases rv with
      | tup q z => exact ⟨_, rfl, ⟨_, q⟩, (h'.mono s1).now r1 _ _ it_tup rv0⟩
    · refine .inl ⟨ρ, S, μ, e, s, ?_⟩
      rw [hr]
      intro μ1 H1 s1 r1 v rv
      have rv0 := rv
      cases rv with
      | lst q _ z => exact ⟨_, rfl, ⟨_, .inl (.inl q)⟩, (h'.mono s1).now r1 _ _ (it_seq (.inl rfl)) rv0⟩
    · refine .inl ⟨ρ, S, μ, e, s, ?_⟩
      rw [hr]
      intro μ1 H1 s1 r1 v rv
      obtain ⟨a, vs, rfl, q, z⟩ := iSeq_ok (d := .fl _) (S := S1) rfl r1 rv
      exact ⟨_, rfl, ⟨_, q⟩, (h'.mono s1).now r1 _ _ (it_seq (.inr (.inl rfl))) rv⟩
    · split at h'
      · rename_i ds e1
        refine .inl ⟨ρ, S, μ, e, s, ?_⟩
        rw [hr]
        intro μ1 H1 s1 r1 v rv
        obtain ⟨a, vs, rfl, q, z⟩ := iSeq_ok (d := .ref _) (S := S1) e1 r1 rv
        exact ⟨_, rfl, ⟨_, q⟩, (h'.mono s1).now r1 _ _ (it_seq (.inr (.inr ⟨_, rfl, rfl⟩))) rv⟩
      · exact h'.elim
    · refine .inr (.inr ⟨ρ, S, μ, e, s, ?_⟩)
      rw [hr]
      intro μ1 H1 s1 r1 v rv
      cases rv
      exact ⟨_, rfl, (h'.mono s1).now r1 _ _ it_str trivial⟩
    · exact h'.elim
def bnd62 (j : Int) : Bool := decide (-(2 ^ 62) ≤ j ∧ j < 2 ^ 62)
def srcR1 (xs : List D) : M (Option Nat × List D) := fun S => match xs with
  | [.int j] => if bnd62 j = true then .ok (none, rangeD 0 j.toNat) S else .bad
  | _ => .bad
def srcR2 (xs : List D) : M (Option Nat × List D) := fun S => match xs with
  | [.int i, .int j] => if bnd62 i = true ∧ bnd62 j = true then .ok (none, rangeD i (j - i).toNat) S else .bad
  | _ => .bad
def iRange1 (as : EvL) : EvI := fun ρ => bnd (as ρ) srcR1
def iRange2 (as : EvL) : EvI := fun ρ => bnd (as ρ) srcR2
theorem i_range1 {a : Expr} {ta : EvL} {p pos : Pos} (hg : Gl X "range") (hm : X.mg "range" = none) (ha : PA X [a] (tA X.K X.mg W ta)) (hs : starEach [a] X.env = [(false, eval a X.env)] := by rfl) : PI X tg (.Call (.Name "range" p) [a] [] pos) (tI X.K X.mg W (iRange1 ta)) := by
  refine PI.imp (pi_range1 hg hm ha hs) fun σ H R ⟨ρ, S, μ, e, s, h⟩ => ?_
  refine ⟨ρ, S, μ, e, s, h.bnd fun xs S1 μ1 H1 s1 r1 h1 vs rvs => ?_⟩
  unfold srcR1 at h1
  split at h1
  · split at h1
    · rename_i hb
      unfold bnd62 at hb
      rw [decide_eq_true_eq] at hb
      cases rvs with
      | cons q1 q2 => cases q1; cases q2; exact ⟨_, rfl, hb.1, hb.2, h1.now r1 _ _ it_range trivial⟩
    · exact h1.elim
  · exact h1.elim
theorem i_range2 {a b : Expr} {ta : EvL} {p pos : Pos} (hg : Gl X "range") (hm : X.mg "range" = none) (ha : PA X [a, b] (tA X.K X.mg W ta)) (hs : starEach [a, b] X.env = [(false, eval a X.env), (false, eval b X.env)] := by rfl) (hs2 : starEach [b] X.env = [(false, eval b X.env)] := by rfl) :
    PI X tg (.Call (.Name "range" p) [a, b] [] pos) (tI X.K X.mg W (iRange2 ta)) := by
  refine PI.imp (pi_range2 hg hm ha hs hs2) fun σ H R ⟨ρ, S, μ, e, s, h⟩ => ?_
  refine ⟨ρ, S, μ, e, s, h.bnd fun xs S1 μ1 H1 s1 r1 h1 vs rvs => ?_⟩
  unfold srcR2 at h1
  split at h1
  · split at h1
    · rename_i hb
      unfold bnd62 at hb
      simp only [decide_eq_true_eq] at hb
      cases rvs with
      | cons q1 q2 => cases q2 with
        | cons q2 q3 => cases q1; cases q2; cases q3; exact ⟨_, _, rfl, ⟨hb.1.1, hb.1.2, hb.2.1, hb.2.2⟩, h1.now r1 _ _ it_range trivial⟩
    · exact h1.elim
  · exact h1.elim

/-! ### targets -/
theorem wipe_get (σ : L2.St) : ∀ (vs : List Nat) (j : Nat), (L2.wipe σ vs)[j]? = if j ∈ vs ∧ j < σ.length then some none else σ[j]?
  | [], j => by simp [L2.wipe]
  | v :: vs, j => by
    unfold L2.wipe
    rw [List.getElem?_set, wipe_get σ vs j, L2.wipe_length]
    by_cases h : v = j
    · subst h
      by_cases h2 : v < σ.length
      · simp [h2]
      · simp [h2]
    · have h' : ¬ j = v := fun e => h e.symm
      simp [h, h']
theorem wipe_twice (σ : L2.St) (vs : List Nat) : L2.wipe (L2.wipe σ vs) vs = L2.wipe σ vs := by
  apply List.ext_getElem?
  intro j
  rw [wipe_get, wipe_get, L2.wipe_length]
  split <;> rfl
theorem wipe_set {σ : L2.St} {i : Nat} {x : Option V} {vs : List Nat} (h : i ∈ vs) : L2.wipe (σ.set i x) vs = L2.wipe σ vs := by
  apply List.ext_getElem?
  intro j
  rw [wipe_get, wipe_get, List.length_set]
  by_cases hj : j ∈ vs ∧ j < σ.length
  · rw [if_pos hj, if_pos hj]
  · rw [if_neg hj, if_neg hj, List.getElem?_set]
    by_cases e : i = j
    · subst e
      have hl : ¬ i < σ.length := fun z => hj ⟨h, z⟩
      rw [if_pos rfl, if_neg hl, List.getElem?_eq_none (by omega)]
    · rw [if_neg e]
def GRD (X : Cx) (is : List Nat) (tgt : D → Rho → Option Rho) (g : TG) : Prop := ∀ (d : D) (v : V) (ρ ρ' : Rho) (σ : L2.St) (μ : Mu) (S : Sto) (H : Hp) (Q : L2.St → Hp → Prop), RE X.K μ H σ ρ → Rel X.K μ S H → RD X.K μ H d v → tgt d ρ = some ρ' →
  (∀ σ', RE X.K μ H σ' ρ' → (∀ vs, (∀ i ∈ is, i ∈ vs) → L2.wipe σ' vs = L2.wipe σ vs) → Q σ' H) → g v σ H Q
def gN (i : Nat) : D → Rho → Option Rho := fun d ρ => some (ρ.set i (some d))
theorem g_name (i : Nat) : GRD X [i] (gN i) (gName i) := fun d v ρ ρ' σ μ S H Q e r rd h q => by
  cases h
  exact q _ (e.set rd i) fun vs hv => wipe_set (hv i (by simp))
abbrev TgL := List D → Rho → Option Rho
def gN0 : TgL := fun ds ρ => match ds with
  | [] => some ρ
  | _ => none
def gNs (i : Nat) (t : TgL) : TgL := fun ds ρ => match ds with
  | d :: ds => t ds (ρ.set i (some d))
  | [] => none
def GRDs (X : Cx) (is : List Nat) (tgt : TgL) (g : TGs) : Prop := ∀ (ds : List D) (vs : List V) (ρ ρ' : Rho) (σ : L2.St) (μ : Mu) (S : Sto) (H : Hp) (Q : L2.St → Hp → Prop), RE X.K μ H σ ρ → Rel X.K μ S H → RDs X.K μ H ds vs → tgt ds ρ = some ρ' →
  (∀ σ', RE X.K μ H σ' ρ' → (∀ vs, (∀ i ∈ is, i ∈ vs) → L2.wipe σ' vs = L2.wipe σ vs) → Q σ' H) → g vs σ H Q
theorem gs_nil : GRDs X [] gN0 gNil := fun ds vs ρ ρ' σ μ S H Q e r rd h q => by
  unfold gN0 at h
  split at h
  · cases h; cases rd; exact ⟨rfl, q _ e fun _ _ => rfl⟩
  · cases h
theorem gs_cons (i : Nat) {is : List Nat} {t : TgL} {g : TGs} (ht : GRDs X is t g) : GRDs X (i :: is) (gNs i t) (gCons (gName i) g) := fun ds vs ρ ρ' σ μ S H Q e r rd h q => by
  unfold gNs at h
  split at h
  · cases rd with
    | cons h1 h2 => exact ⟨_, _, rfl, ht _ _ _ _ _ _ _ _ _ (e.set h1 i) r h2 h fun σ' e' w => q σ' e' fun vs hv => (w vs fun j hj => hv j (by simp [hj])).trans (wipe_set (hv i (by simp)))⟩
  · cases h
def gTp (n : Nat) (t : TgL) : D → Rho → Option Rho := fun d ρ => match d with
  | .tup ds => if ds.length = n then t ds ρ else none
  | _ => none
theorem g_tup {n : Nat} {is : List Nat} {t : TgL} {g : TGs} (ht : GRDs X is t g) : GRD X is (gTp n t) (gTup X.K n g) := fun d v ρ ρ' σ μ S H Q e r rd h q => by
  unfold gTp at h
  split at h
  · split at h
    · rename_i hl
      cases rd with
      | tup h1 h2 => exact ⟨_, _, rfl, h1, by rw [← h2.length]; exact hl, ht _ _ _ _ _ _ _ _ _ e r h2 h q⟩
    · cases h
  · cases h

/-! ### comprehensions -/
open Classical in
noncomputable def compM (src : Option Nat) (all : List D) (tgt : D → Rho → Option Rho) (test : EvB) (el : EvD) (ρ : Rho) : List D → M (List D)
  | [] => fun S => if liveOk src all S then .ok [] S else .bad
  | d :: ds => fun S => if liveOk src all S then (match tgt d ρ with
    | some ρ1 => bnd (test ρ1) (fun b => if b = true then bnd (el ρ1) (fun y => bnd (compM src all tgt test el ρ ds) fun ys => ret (y :: ys)) else compM src all tgt test el ρ ds) S
    | none => .bad) else .bad
def noEx {α : Type} (m : M α) : M α := fun S => match m S with
  | .ex _ _ => .bad
  | r => r
noncomputable def eComp (it : EvI) (tgt : D → Rho → Option Rho) (test : EvB) (el : EvD) (vs : List Nat) : EvD := fun ρ => bnd (it ρ) fun p => noEx (fun S => if p.2.length ≤ sizeLine then
  (match compM p.1 p.2 tgt test el (wipeR ρ vs) p.2 S with
    | .ok ys S' => .ok (.lst ys) S'
    | .ex e S' => .ex e S'
    | .bad => .bad) else .bad)
def bYes : EvB := fun _ => ret true
abbrev W0 : WX := fun _ _ _ _ => False
theorem ts_nil : PTs X [] (tT X.K X.mg W bYes) := ⟨fun pins s σ H Q I ⟨ρ, S, μ, e, r, h⟩ => (pts_nil (X := X)).run pins s σ H Q I (show Q true H from h.now r)⟩
theorem ts_one {c : Expr} {t : EvB} (h : PT X c (tT X.K X.mg W t)) : PTs X [c] (tT X.K X.mg W t) := pts_one h
def okR {α : Type} (c : R α) (F : α → Sto → Prop) : Prop := match c with
  | .ok a S => F a S
  | _ => False
theorem Stp.side {μ μ' : Mu} {H H' : Hp} {p : Addr} {o : HO} (s : Stp μ H μ' H') (hp : H p = none) : Stp μ H μ' (upd H' p o) := by
  obtain ⟨q, k, t⟩ := s
  refine ⟨q, fun a u e z => by rw [upd_ne (ne_of_none e hp)]; exact k a u e z, fun a e => ?_⟩
  by_cases z : a = p
  · rw [z, upd_same]; simp
  · rw [upd_ne z]; exact t a e
theorem okR_bnd {α β : Type} {m : M α} {k : α → M β} {S : Sto} {F : β → Sto → Prop} (h : okR (bnd m k S) F) : okR (m S) fun a S' => okR (k a S') F := by
  unfold bnd at h
  cases e : m S with
  | ok a S' => rw [e] at h; exact h
  | ex x S' => rw [e] at h; exact h
  | bad => rw [e] at h; exact h
theorem okR_post {K : PySem.W.Frag} {mg : Str → Option Value} {W : WX} {μ : Mu} {σ : L2.St} {H : Hp} {α : Type} {r : R α} {F : α → Sto → Prop} {Q : α → Mu → Hp → Prop} (h : okR r F) (f : ∀ a S' μ' H', F a S' → Stp μ H μ' H' → Rel K μ' S' H' → Q a μ' H') : Post K mg W μ σ H r Q := by
  cases r with
  | ok a S => exact fun μ' H' s r => f a S μ' H' h s r
  | ex e S => exact False.elim h
  | bad => exact False.elim h
theorem comp_ok {it : EvI} {tgt : D → Rho → Option Rho} {g : TG} {test : EvB} {el : EvD} {is vs : List Nat} (hG : GRD X is tgt g) (his : ∀ i ∈ is, i ∈ vs) {σ : L2.St} {H : Hp} {Q : VK}
    (hh : tD X.K X.mg W (eComp it tgt test el vs) σ H Q) : tLc (tI X.K X.mg W it) g (tT X.K X.mg W0 test) (tD X.K X.mg W0 el) vs σ H Q := by
  obtain ⟨ρ, S, μ, e, s, h⟩ := hh
  refine ⟨ρ, S, μ, e, s, h.bnd fun p S1 μ1 H1 s1 r1 h1 J G io gg D hD => ?_⟩
  obtain ⟨src, all⟩ := p
  simp only [] at io h1
  -- what the denotation says
  obtain ⟨hlen, fin⟩ : all.length ≤ sizeLine ∧ okR (compM src all tgt test el (wipeR ρ vs) all S1) (fun ys S' => ∀ μ' H', Stp μ1 H1 μ' H' → Rel X.K μ' S' H' → QD X.K Q (.lst ys) μ' H') := by
    unfold noEx at h1
    simp only [] at h1
    by_cases hl : all.length ≤ sizeLine
    · refine ⟨hl, ?_⟩
      rw [if_pos hl] at h1
      cases ec : compM src all tgt test el (wipeR ρ vs) all S1 with
      | ok ys S' => rw [ec] at h1; exact h1
      | ex e S' => rw [ec] at h1; exact h1
      | bad => rw [ec] at h1; exact h1
    · rw [if_neg hl] at h1; exact h1.elim
  have hDx : D ∉ μ1.x := fun z => r1.hid D z hD
  let Inv (i : Nat) (Hc : Hp) : Prop := ∃ Sc μc acc as, i ≤ all.length ∧ Stp μ1 H1 μc Hc ∧ Rel X.K (μc.hide D) Sc Hc ∧ RE X.K (μc.hide D) Hc (L2.wipe σ vs) (wipeR ρ vs) ∧ G (μc.hide D) Hc ∧ Hc D = some (.lst acc) ∧ RDs X.K (μc.hide D) Hc as acc ∧ as.length ≤ i ∧
    okR (compM src all tgt test el (wipeR ρ vs) (all.drop i) Sc) (fun ys S' => ∀ μ' H', Stp μ1 H1 μ' H' → Rel X.K μ' S' H' → QD X.K Q (.lst (as ++ ys)) μ' H')
  refine ⟨fun i m Hc => m = all.length - i ∧ Inv i Hc, ⟨all.length, by simp, ?_⟩, ?_⟩
  · refine ⟨S1, μ1, [], [], Nat.zero_le _, Stp.new hD, r1.hide hD, ((e.step s s1).wipe vs).mapR (RD.hide hD), io.hide _ _ _ _ gg hD, upd_same, .nil, Nat.le_refl _, ?_⟩
    simpa using fin
  · rintro i m Hc ⟨rfl, Sc, μc, acc, as, hi2, st, rel, re, hG2, hacc, rds, hal, done⟩
    by_cases hlt : i < all.length
    · right
      have hdrop : all.drop i = all[i] :: all.drop (i + 1) := List.drop_eq_getElem_cons hlt
      rw [hdrop] at done
      unfold compM at done
      by_cases hlive : liveOk src all Sc
      · rw [if_pos hlive] at done
        split at done
        · rename_i ρ1 hρ1
          refine ⟨io.go i _ Sc Hc hlt rel hlive hG2, fun H' => Inv (i + 1) H', fun H' q => ⟨all.length - (i + 1), by omega, rfl, q⟩, fun x H' y => ?_⟩
          obtain ⟨sy, ry, d, hd, rd⟩ := io.yld i x _ Sc Hc H' hlt rel hlive hG2 y
          rw [List.getElem?_eq_getElem hlt] at hd
          cases hd
          obtain ⟨μy, ey, sty⟩ := sy.show
          have eμ : μy = μc := by
            obtain ⟨v1, x1⟩ := μy
            obtain ⟨v2, x2⟩ := μc
            simp only [Mu.hide, Mu.mk.injEq, List.cons.injEq, true_and] at ey
            obtain ⟨rfl, rfl⟩ := ey
            rfl
          subst eμ
          have notv : ∀ (μ : Mu) (Sx : Sto) (Hx : Hp), Rel X.K (μ.hide D) Sx Hx → D ∉ (μ.hide D).v := fun μ Sx Hx r z => r.apt D z List.mem_cons_self
          have haccy : H' D = some (.lst acc) := sy.keep D _ hacc (notv _ _ _ rel)
          refine hG _ _ _ ρ1 _ _ Sc H' _ (re.step rel sy) ry rd hρ1 fun σ2 re2 hw => ⟨(hw vs his).trans (wipe_twice σ vs), ρ1, Sc, _, re2, ry, ?_⟩
          have done2 := okR_bnd done
          refine okR_post done2 fun b S2 μ2 H3 db s3 r3 => ?_
          obtain ⟨μ2', rfl, st3⟩ := s3.show
          have haccb : H3 D = some (.lst acc) := s3.keep D _ haccy (notv _ _ _ ry)
          have rds3 := (rds.step rel sy).step ry s3
          have re3 := (re.step rel sy).step ry s3
          have g3 := io.step _ _ _ _ _ (io.step _ _ _ _ _ hG2 rel sy) ry s3
          have stt := (st.trans sty).trans st3
          cases b with
          | false =>
            rw [if_neg Bool.false_ne_true] at db ⊢
            exact ⟨S2, μ2', acc, as, hlt, stt, r3, re3, g3, haccb, rds3, Nat.le_succ_of_le hal, db⟩
          | true =>
            rw [if_pos rfl] at db ⊢
            refine ⟨ρ1, S2, _, re2.step ry s3, r3, ?_⟩
            refine okR_post (okR_bnd db) fun yv S4 μ4 H4 d4 s4 r4 v rv => ?_
            obtain ⟨μ4', rfl, st4⟩ := s4.show
            have hacc4 : H4 D = some (.lst acc) := s4.keep D _ haccb (notv _ _ _ r3)
            have rds4 := rds3.step r3 s4
            refine ⟨acc, hacc4, by rw [← rds4.length]; omega, S4, μ4', acc ++ [v], as ++ [yv], hlt, (stt.trans st4).side hD, r4.seen hacc4, (re3.step r3 s4).mapR (RD.seen hacc4), io.seen _ _ _ _ _ (io.step _ _ _ _ _ g3 r3 s4) hacc4, upd_same,
              RDs.seen hacc4 _ _ (rds4.append (.cons rv .nil)), by simp; omega, ?_⟩
            have d5 := okR_bnd d4
            unfold okR at d5 ⊢
            split
            · rename_i ys S' hys
              rw [hys] at d5
              intro μ' H5 sx rx
              have := d5 μ' H5 sx rx
              simpa using this
            · rename_i hno
              split at d5
              · rename_i a S' hh; exact absurd hh (hno a S')
              · exact d5
        · exact done.elim
      · rw [if_neg hlive] at done; exact done.elim
    · left
      have hi3 : i = all.length := by omega
      subst hi3
      rw [List.drop_length] at done
      unfold compM at done
      by_cases hlive : liveOk src all Sc
      · rw [if_pos hlive] at done
        refine ⟨io.stop _ Sc Hc rel hlive hG2, ?_⟩
        have z := done μc Hc st rel.show
        refine z _ (.lst hacc ⟨fun w => rel.apt D w List.mem_cons_self, by rw [st.x]; exact hDx⟩ ?_)
        simpa using rds.show
      · rw [if_neg hlive] at done; exact done.elim
theorem d_comp {elt iter : Expr} {ifs : List Expr} {scope : Scope} {own : List (Str × Nat)} {vs : List Nat} {pos : Pos} {it : EvI} {tgt : D → Rho → Option Rho} {g : TG} {test : EvB} {el : EvD} {is : List Nat} (hc : X.calm = true) (hN : X.N.Nodup)
    (hi : PI X tg iter (tI X.K X.mg W it)) (ok : BlkOk X.N X.env.scope scope own) (hv : own.map (·.2) = vs) (hG : GRD X is tgt g) (his : ∀ i ∈ is, i ∈ vs)
    (hg : ∀ (s : Shared) (H : Hp) (C : Addr) (cl : List (Str × Addr)) (fp : List Addr), PG (X.blk s H scope (compEnvC scope cl C X.env) fp) tg g)
    (ht : ∀ (s : Shared) (H : Hp) (C : Addr) (cl : List (Str × Addr)) (fp : List Addr), PTs (X.blk s H scope (compEnvC scope cl C X.env) fp) ifs (tT X.K X.mg W0 test))
    (he : ∀ (s : Shared) (H : Hp) (C : Addr) (cl : List (Str × Addr)) (fp : List Addr), PE (X.blk s H scope (compEnvC scope cl C X.env) fp) elt (tD X.K X.mg W0 el)) (hs : ∀ x, foldedSetIterable iter X.env x = pure x := by intro _; rfl) :
    PE X (.ListComp elt [⟨tg, iter, ifs, 0⟩] scope pos) (tD X.K X.mg W (eComp it tgt test el vs)) := by
  subst hv
  exact PE.imp (pe_lc hc hN hi ok hg ht he hs) fun σ H Q h => comp_ok hG his h
end
end DL

/-! DL5: statements, defs. -/
namespace DL
open PySem L2 PyProof.Rows

inductive Out where
  | nx (ρ : Rho) | rt (d : D) | bk (ρ : Rho) | ct (ρ : Rho) | xc (e : Exc) (ρ : Rho)
abbrev EvS := Rho → M Out
/-- an expression within a statement -/
def lft {α : Type} (ρ : Rho) (m : M α) (k : α → M Out) : M Out := fun S => match m S with
  | .ok a S' => k a S'
  | .ex e S' => .ok (.xc e ρ) S'
  | .bad => .bad
section
variable (K : PySem.W.Frag) (mg : Str → Option Value) (W : WX)
def OutOk (E : Ends) (o : Out) (μ : Mu) (H : Hp) : Prop := match o with
  | .nx ρ => ∀ σ, RE K μ H σ ρ → E.nx σ H
  | .rt d => ∀ v, RD K μ H d v → E.rt v H
  | .bk ρ => ∀ σ, RE K μ H σ ρ → E.bk σ H
  | .ct ρ => ∀ σ, RE K μ H σ ρ → E.ct σ H
  | .xc e ρ => ∀ σ c od, RE K μ H σ ρ → RX K mg μ H e c od → W c od σ H
def PostO (E : Ends) (μ : Mu) (H : Hp) (r : R Out) : Prop := okR r fun o S' => ∀ μ' H', Stp μ H μ' H' → Rel K μ' S' H' → OutOk K mg W E o μ' H'
def tS (G : EvS) : TS := fun E σ H => ∃ ρ S μ, RE K μ H σ ρ ∧ Rel K μ S H ∧ PostO K mg W E μ H (G ρ S)
end
section
variable {K : PySem.W.Frag} {mg : Str → Option Value} {W : WX} {μ μ1 : Mu} {σ : L2.St} {H H1 : Hp} {E : Ends}
theorem PostO.mono {r : R Out} (h : PostO K mg W E μ H r) (s : Stp μ H μ1 H1) : PostO K mg W E μ1 H1 r := by
  cases r with
  | ok o S => exact fun μ' H' q r => h μ' H' (s.trans q) r
  | ex e S => exact h
  | bad => exact h
theorem PostO.now {o : Out} {S : Sto} (h : PostO K mg W E μ H (.ok o S)) (r : Rel K μ S H) : OutOk K mg W E o μ H := h μ H .refl r
theorem PostO.lft {α : Type} {m : M α} {k : α → M Out} {S : Sto} {ρ : Rho} {Q : α → Mu → Hp → Prop} (h : PostO K mg W E μ H (lft ρ m k S)) (e : RE K μ H σ ρ) (r : Rel K μ S H)
    (f : ∀ a S1 μ1 H1, Stp μ H μ1 H1 → Rel K μ1 S1 H1 → RE K μ1 H1 σ ρ → PostO K mg W E μ1 H1 (k a S1) → Q a μ1 H1) : Post K mg W μ σ H (m S) Q := by
  unfold DL.lft at h
  cases hm : m S with
  | ok a S1 =>
    rw [hm] at h
    exact fun μ' H' s r' => f a S1 μ' H' s r' (e.step r s) (h.mono s)
  | ex x S1 =>
    rw [hm] at h
    exact fun μ' H' c od s r' rx => h μ' H' s r' σ c od (e.step r s) rx
  | bad => rw [hm] at h; exact h
end
def sAsg (tgt : D → Rho → Option Rho) (F : EvD) : EvS := fun ρ => lft ρ (F ρ) fun d S => match tgt d ρ with
  | some ρ' => .ok (.nx ρ') S
  | none => .bad
def sExpr (F : EvD) : EvS := fun ρ => lft ρ (F ρ) fun _ => ret (.nx ρ)
def sRet (F : EvD) : EvS := fun ρ => lft ρ (F ρ) fun d => ret (.rt d)
def sRetN : EvS := fun _ => ret (.rt .non)
def sIf (c : EvB) (a b : EvS) : EvS := fun ρ => lft ρ (c ρ) fun k => if k = true then a ρ else b ρ
def sNil : EvS := fun ρ => ret (.nx ρ)
def sBrk : EvS := fun ρ => ret (.bk ρ)
def sCnt : EvS := fun ρ => ret (.ct ρ)
def sBad : EvS := fun _ => stuck
def sSeq (a b : EvS) : EvS := fun ρ S => match a ρ S with
  | .ok (.nx ρ') S' => b ρ' S'
  | r => r
def gSet (o i d : D) : M Unit := fun S => match o, i with
  | .ref n, .int k => match atL S n with
    | some ds => match ixN ds.length k with
      | some j => .ok () (S.set n (.lst (ds.set j d)))
      | none => .bad
    | none => .bad
  | _, _ => .bad
def sSub (F Fo Fi : EvD) : EvS := fun ρ => lft ρ (F ρ) fun d => lft ρ (Fo ρ) fun o => lft ρ (Fi ρ) fun i => lft ρ (gSet o i d) fun _ => ret (.nx ρ)
open Classical in
noncomputable def forM (src : Option Nat) (all : List D) (tgt : D → Rho → Option Rho) (body : EvS) : List D → Rho → M Out
  | [], ρ => fun S => if liveOk src all S then .ok (.nx ρ) S else .bad
  | d :: ds, ρ => fun S => if liveOk src all S then (match tgt d ρ with
    | some ρ1 => match body ρ1 S with
      | .ok (.nx ρ2) S2 => forM src all tgt body ds ρ2 S2
      | .ok (.ct ρ2) S2 => forM src all tgt body ds ρ2 S2
      | .ok (.bk ρ2) S2 => .ok (.nx ρ2) S2
      | r => r
    | none => .bad) else .bad
noncomputable def sFor (it : EvI) (tgt : D → Rho → Option Rho) (body : EvS) : EvS := fun ρ => lft ρ (it ρ) fun p => forM p.1 p.2 tgt body p.2 ρ
def whileM (c : EvB) (body : EvS) : Nat → Rho → M Out
  | 0, _ => stuck
  | f + 1, ρ => lft ρ (c ρ) fun k => if k = true then (fun S => match body ρ S with
    | .ok (.nx ρ2) S2 => whileM c body f ρ2 S2
    | .ok (.ct ρ2) S2 => whileM c body f ρ2 S2
    | .ok (.bk ρ2) S2 => .ok (.nx ρ2) S2
    | r => r) else ret (.nx ρ)
def sWhile (fu : Nat) (c : EvB) (body : EvS) : EvS := whileM c body fu

section
variable {X : Cx} {W : WX} {pos : Pos}
theorem s_asg {tg e : Expr} {F : EvD} {is : List Nat} {tgt : D → Rho → Option Rho} {g : TG} (he : PE X e (tD X.K X.mg W F)) (hG : GRD X is tgt g) (hg : PG X tg g) (hs : swapsWithSole [tg] e pos.line X.env = pure false := by rfl) (hw : swappedStores [tg] e X.env = pure none := by rfl)
    (h1 : (assignEach [tg] X.env).map (·.2) = [assign tg X.env] := by rfl) : PS X (.Assign [tg] e pos) (tS X.K X.mg W (sAsg tgt F)) := by
  refine PS.imp (ps_asg he hg hs hw h1) fun E σ H ⟨ρ, S, μ, e, s, h⟩ => ?_
  refine ⟨ρ, S, μ, e, s, h.lft e s fun d S1 μ1 H1 s1 r1 e1 h1 v rv => ?_⟩
  split at h1
  · rename_i ρ' et
    exact hG _ _ _ _ _ _ _ _ _ e1 r1 rv et fun σ' e' _ => h1.now r1 σ' e'
  · exact h1.elim
theorem s_expr {e : Expr} {F : EvD} (he : PE X e (tD X.K X.mg W F)) (hs : swapsWith e none pos.line X.env = pure false := by rfl) : PS X (.Expr e pos) (tS X.K X.mg W (sExpr F)) := by
  refine PS.imp (ps_expr he hs) fun E σ H ⟨ρ, S, μ, e, s, h⟩ => ?_
  exact ⟨ρ, S, μ, e, s, h.lft e s fun d S1 μ1 H1 s1 r1 e1 h1 v rv => h1.now r1 σ e1⟩
theorem s_ret {e : Expr} {F : EvD} (he : PE X e (tD X.K X.mg W F)) : PS X (.Return (some e) pos) (tS X.K X.mg W (sRet F)) := by
  refine PS.imp (ps_ret he) fun E σ H ⟨ρ, S, μ, e, s, h⟩ => ?_
  exact ⟨ρ, S, μ, e, s, h.lft e s fun d S1 μ1 H1 s1 r1 e1 h1 v rv => h1.now r1 v rv⟩
theorem s_retN : PS X (.Return none pos) (tS X.K X.mg W sRetN) := by
  refine PS.imp ps_retN fun E σ H ⟨ρ, S, μ, e, s, h⟩ => ?_
  exact h.now s _ .non
theorem s_if {c : Expr} {a b : List Stmt} {tc : EvB} {ta tb : EvS} (hc : PT X c (tT X.K X.mg W tc)) (ha : PSs X a (tS X.K X.mg W ta)) (hb : PSs X b (tS X.K X.mg W tb)) : PS X (.If c a b pos) (tS X.K X.mg W (sIf tc ta tb)) := by
  refine PS.imp (ps_if hc ha hb) fun E σ H ⟨ρ, S, μ, e, s, h⟩ => ?_
  refine ⟨ρ, S, μ, e, s, h.lft e s fun k S1 μ1 H1 s1 r1 e1 h1 => ?_⟩
  cases k with
  | true => rw [if_pos rfl] at h1 ⊢; exact ⟨ρ, S1, μ1, e1, r1, h1⟩
  | false => rw [if_neg Bool.false_ne_true] at h1 ⊢; exact ⟨ρ, S1, μ1, e1, r1, h1⟩
theorem s_pass : PS X (.Pass pos) (tS X.K X.mg W sNil) := PS.imp ps_pass fun E σ H ⟨ρ, S, μ, e, s, h⟩ => h.now s σ e
theorem s_brk : PS X (.Break pos) (tS X.K X.mg W sBrk) := PS.imp ps_break fun E σ H ⟨ρ, S, μ, e, s, h⟩ => h.now s σ e
theorem s_cnt : PS X (.Continue pos) (tS X.K X.mg W sCnt) := PS.imp ps_continue fun E σ H ⟨ρ, S, μ, e, s, h⟩ => h.now s σ e
theorem s_bad {st : Stmt} : PS X st (tS X.K X.mg W sBad) := PS.imp ps_never fun E σ H ⟨ρ, S, μ, e, s, h⟩ => h
theorem ss_nil : PSs X [] (tS X.K X.mg W sNil) := PSs.imp pss_nil fun E σ H ⟨ρ, S, μ, e, s, h⟩ => h.now s σ e
theorem ss_one {st : Stmt} {t : EvS} (h : PS X st (tS X.K X.mg W t)) : PSs X [st] (tS X.K X.mg W t) := pss_one h
theorem ss_cons {st : Stmt} {rest : List Stmt} {t u : EvS} (h1 : PS X st (tS X.K X.mg W t)) (h2 : PSs X rest (tS X.K X.mg W u)) : PSs X (st :: rest) (tS X.K X.mg W (sSeq t u)) := by
  refine PSs.imp (pss_cons h1 h2) fun E σ H ⟨ρ, S, μ, e, s, h⟩ => ?_
  refine ⟨ρ, S, μ, e, s, ?_⟩
  unfold sSeq at h
  cases ht : t ρ S with
  | ok o S1 =>
    rw [ht] at h
    intro μ1 H1 s1 r1
    cases o with
    | nx ρ' => exact fun σ' e' => ⟨ρ', S1, μ1, e', r1, h.mono s1⟩
    | rt d => exact (h.mono s1).now r1
    | bk ρ' => exact (h.mono s1).now r1
    | ct ρ' => exact (h.mono s1).now r1
    | xc x ρ' => exact (h.mono s1).now r1
  | ex x S1 => rw [ht] at h; exact h
  | bad => rw [ht] at h; exact h
theorem s_sub {o i e : Expr} {F Fo Fi : EvD} {p2 : Pos} (he : PE X e (tD X.K X.mg W F)) (ho : PE X o (tD X.K X.mg W Fo)) (hi : PE X i (tD X.K X.mg W Fi))
    (ha : ∀ v, assign (.Subscript o i p2) X.env v = (do
      let ov ← holding [v] (eval o X.env)
      let iv ← holding [v, ov] (eval i X.env)
      standAt p2
      holding [v, ov, iv] (setItem ov iv v)
      release [v, ov, iv] []) := by intro _; rfl)
    (hs : swapsWithSole [.Subscript o i p2] e pos.line X.env = pure false := by rfl) (hw : swappedStores [.Subscript o i p2] e X.env = pure none := by rfl)
    (h1 : (assignEach [.Subscript o i p2] X.env).map (·.2) = [assign (.Subscript o i p2) X.env] := by rfl) : PS X (.Assign [.Subscript o i p2] e pos) (tS X.K X.mg W (sSub F Fo Fi)) := by
  refine PS.imp (ps_asg he (pg_sub ho hi set_list ha) hs hw h1) fun E σ H ⟨ρ, S, μ, e, s, h⟩ => ?_
  refine ⟨ρ, S, μ, e, s, h.lft e s fun d S1 μ1 H1 s1 r1 e1 h1 v rv => ?_⟩
  refine ⟨ρ, S1, μ1, e1, r1, h1.lft e1 r1 fun ov S2 μ2 H2 s2 r2 e2 h2 w rw => ?_⟩
  refine ⟨ρ, S2, μ2, e2, r2, h2.lft e2 r2 fun iv S3 μ3 H3 s3 r3 e3 h3 u ru => ?_⟩
  have rv3 := (rv.step r1 s2).step r2 s3
  have rw3 := rw.step r2 s3
  unfold lft gSet at h3
  simp only [] at h3
  split at h3
  · rename_i a S4 heq
    split at heq
    · split at heq
      · rename_i ds eL
        split at heq
        · rename_i j ej
          cases heq
          cases ru
          cases rw3 with
          | @ref n a hn =>
            obtain ⟨vs, q, z⟩ := r3.obj _ a _ hn (atL_ok eL)
            have hm : a ∈ μ3.v := List.mem_of_getElem? hn
            refine ⟨a, vs, _, j, rfl, rfl, q, by rw [← z.length]; exact ej, ?_⟩
            exact h3 μ3 _ (Stp.put hm) (r3.put hn ⟨_, upd_same, (z.step r3 (Stp.put hm)).set j (rv3.step r3 (Stp.put hm))⟩) σ (e3.step r3 (Stp.put hm))
        · cases heq
      · cases heq
    · cases heq
  · rename_i x S4 heq
    split at heq
    · split at heq
      · split at heq <;> cases heq
      · cases heq
    · cases heq
  · exact h3.elim
theorem s_for {tg iter : Expr} {body : List Stmt} {it : EvI} {is : List Nat} {tgt : D → Rho → Option Rho} {g : TG} {tb : EvS} (hp : PassesOwn (model X.prog X.w) X.A X.env X.xe) (hc : X.calm = true) (hi : PI X tg iter (tI X.K X.mg W it)) (hG : GRD X is tgt g) (hg : PG X tg g) (hb : PSs X body (tS X.K X.mg W tb))
    (hs : ∀ x, foldedSetIterable iter X.env x = pure x := by intro _; rfl) : PS X (.For tg iter body [] pos) (tS X.K X.mg W (sFor it tgt tb)) := by
  refine PS.imp (ps_for hp hc hi hg hb hs) fun E σ H ⟨ρ, S, μ, e, s, h⟩ => ?_
  refine ⟨ρ, S, μ, e, s, h.lft e s fun p S1 μ1 H1 s1 r1 e1 h1 J G io gg => ?_⟩
  obtain ⟨src, all⟩ := p
  simp only [] at io h1
  let Iv (i : Nat) (σc : L2.St) (Hc : Hp) : Prop := ∃ ρc Sc μc, i ≤ all.length ∧ RE X.K μc Hc σc ρc ∧ Rel X.K μc Sc Hc ∧ G μc Hc ∧ PostO X.K X.mg W E μc Hc (forM src all tgt tb (all.drop i) ρc Sc)
  refine ⟨fun i m σc Hc => m = all.length - i ∧ Iv i σc Hc, ⟨all.length, by simp, ρ, S1, μ1, Nat.zero_le _, e1, r1, gg, by simpa using h1⟩, ?_⟩
  rintro i m σc Hc ⟨rfl, ρc, Sc, μc, hi2, ec, rc, gc, done⟩
  by_cases hlt : i < all.length
  · right
    have hdrop : all.drop i = all[i] :: all.drop (i + 1) := List.drop_eq_getElem_cons hlt
    rw [hdrop] at done
    unfold forM at done
    by_cases hlive : liveOk src all Sc
    · rw [if_pos hlive] at done
      split at done
      · rename_i ρ1 hρ1
        refine ⟨io.go i _ Sc Hc hlt rc hlive gc, fun σ' H' => Iv (i + 1) σ' H', fun σ' H' q => ⟨all.length - (i + 1), by omega, rfl, q⟩, fun x H' y => ?_⟩
        obtain ⟨sy, ry, d, hd, rd⟩ := io.yld i x _ Sc Hc H' hlt rc hlive gc y
        rw [List.getElem?_eq_getElem hlt] at hd
        cases hd
        have gy := io.step _ _ _ _ _ gc rc sy
        refine hG _ _ _ ρ1 _ _ Sc H' _ (ec.step rc sy) ry rd hρ1 fun σ2 re2 _ => ⟨ρ1, Sc, _, re2, ry, ?_⟩
        unfold PostO at done ⊢
        cases hbd : tb ρ1 Sc with
        | ok o S2 =>
          rw [hbd] at done
          intro μ2 H2 s2 r2
          have sa := sy.trans s2
          cases o with
          | nx ρ2 => exact fun σ3 e3 => ⟨ρ2, S2, μ2, hlt, e3, r2, io.step _ _ _ _ _ gy ry s2, PostO.mono done sa⟩
          | ct ρ2 => exact fun σ3 e3 => ⟨ρ2, S2, μ2, hlt, e3, r2, io.step _ _ _ _ _ gy ry s2, PostO.mono done sa⟩
          | bk ρ2 => exact fun σ3 e3 => (PostO.mono done sa).now r2 σ3 e3
          | rt d2 => exact (PostO.mono done sa).now r2
          | xc x2 ρ2 => exact (PostO.mono done sa).now r2
        | ex x2 S2 => rw [hbd] at done; exact done
        | bad => rw [hbd] at done; exact done
      · exact done.elim
    · rw [if_neg hlive] at done; exact done.elim
  · left
    have hi3 : i = all.length := by omega
    subst hi3
    rw [List.drop_length] at done
    unfold forM at done
    by_cases hlive : liveOk src all Sc
    · rw [if_pos hlive] at done
      exact ⟨io.stop _ Sc Hc rc hlive gc, done.now rc σc ec⟩
    · rw [if_neg hlive] at done; exact done.elim
theorem s_while (fu : Nat) {c : Expr} {body : List Stmt} {tc : EvB} {tb : EvS} (hp : PassesOwn (model X.prog X.w) X.A X.env X.xe) (hc : PT X c (tT X.K X.mg W tc)) (hb : PSs X body (tS X.K X.mg W tb)) : PS X (.While c body [] pos) (tS X.K X.mg W (sWhile fu tc tb)) := by
  refine PS.imp (ps_while hp hc hb) fun E σ H ⟨ρ, S, μ, e, s, h⟩ => ?_
  refine ⟨fun m σc Hc => ∃ ρc Sc μc, RE X.K μc Hc σc ρc ∧ Rel X.K μc Sc Hc ∧ PostO X.K X.mg W E μc Hc (whileM tc tb m ρc Sc), ⟨fu, ρ, S, μ, e, s, h⟩, ?_⟩
  rintro m σc Hc ⟨ρc, Sc, μc, ec, rc, done⟩
  cases m with
  | zero => exact done.elim
  | succ m =>
    unfold whileM at done
    refine ⟨ρc, Sc, μc, ec, rc, done.lft ec rc fun k S1 μ1 H1 s1 r1 e1 h1 => ?_⟩
    cases k with
    | false => rw [if_neg Bool.false_ne_true] at h1 ⊢; exact h1.now r1 σc e1
    | true =>
      rw [if_pos rfl] at h1 ⊢
      refine ⟨fun σ' H' => ∃ ρc Sc μc, RE X.K μc H' σ' ρc ∧ Rel X.K μc Sc H' ∧ PostO X.K X.mg W E μc H' (whileM tc tb m ρc Sc), fun σ' H' q => ⟨m, Nat.lt_succ_self m, q⟩, ρc, S1, μ1, e1, r1, ?_⟩
      cases hbd : tb ρc S1 with
      | ok o S2 =>
        rw [hbd] at h1
        intro μ2 H2 s2 r2
        cases o with
        | nx ρ2 => exact fun σ3 e3 => ⟨ρ2, S2, μ2, e3, r2, PostO.mono h1 s2⟩
        | ct ρ2 => exact fun σ3 e3 => ⟨ρ2, S2, μ2, e3, r2, PostO.mono h1 s2⟩
        | bk ρ2 => exact fun σ3 e3 => (PostO.mono h1 s2).now r2 σ3 e3
        | rt d2 => exact (PostO.mono h1 s2).now r2
        | xc x2 ρ2 => exact (PostO.mono h1 s2).now r2
      | ex x2 S2 => rw [hbd] at h1; exact h1
      | bad => rw [hbd] at h1; exact h1
end

/-! ### defs -/
def startR (n : Nat) (ds : List D) : Rho := ds.map some ++ List.replicate (n - ds.length) none
/-- a def's end: what it made and nobody sees any more is forgotten; keep: nothing is -/
def finD (keep : Bool) (n : Nat) (d : D) : M D := fun S => if keep = true then .ok d S else
  if (S.take n).all (MO.lo n) = true then
    (if d.lo n = true then .ok d (S.take n) else match d with
      | .ref k => match atL S k with
        | some ds => if n ≤ k ∧ D.los n ds = true then .ok (.lst ds) (S.take n) else .bad
        | none => .bad
      | _ => .bad)
  else .bad
def runDef (keep : Bool) (n : Nat) (body : EvS) (ds : List D) : M D := fun S => match body (startR n ds) S with
  | .ok (.rt d) S' => finD keep S.length d S'
  | .ok (.nx _) S' => finD keep S.length .non S'
  | .ok (.xc e _) S' => .ex e S'
  | _ => .bad
def spD (K : PySem.W.Frag) (mg : Str → Option Value) (ar : Nat) (G : List D → M D) : Sp := fun vs H Q E => ∃ μ S ds, ds.length = ar ∧ RDs K μ H ds vs ∧ Rel K μ S H ∧ Post K mg (fun c od _ H => E c od H) μ [] H (G ds S) (QD K Q)
theorem start_rel {K : PySem.W.Frag} {μ : Mu} {H : Hp} {N : List Str} {ds : List D} {vs : List V} (h : RDs K μ H ds vs) : RE K μ H (L2.start N vs) (startR N.length ds) := by
  have hl := h.length
  refine ⟨by simp [L2.start, startR, hl], fun i d e => ?_⟩
  unfold startR at e
  unfold L2.start
  by_cases hi : i < ds.length
  · rw [List.getElem?_append_left (by simpa using hi), List.getElem?_map, Option.map_eq_some_iff] at e
    obtain ⟨d', e1, e2⟩ := e
    cases e2
    obtain ⟨v, ev, rv⟩ := h.get e1
    exact ⟨v, by rw [List.getElem?_append_left (by rw [List.length_map]; omega), List.getElem?_map, ev]; rfl, rv⟩
  · rw [List.getElem?_append_right (by simpa using hi), List.getElem?_replicate] at e
    split at e <;> simp at e
theorem fin_ok {K : PySem.W.Frag} {mg : Str → Option Value} {W : WX} {μ : Mu} {S : Sto} {σ : L2.St} {H : Hp} {keep : Bool} {d : D} {S' : Sto} {Q : VK} (h : Post K mg W μ σ H (finD keep S.length d S') (QD K Q)) (r : Rel K μ S H) :
    ∀ μ' H', Stp μ H μ' H' → Rel K μ' S' H' → ∀ v, RD K μ' H' d v → Q v H' := by
  intro μ' H' s r' v rv
  unfold finD at h
  split at h
  · exact h μ' H' s r' v rv
  · split at h
    · rename_i hb
      have sc := s.cut
      rw [r.len] at sc
      split at h
      · rename_i hd
        exact h _ H' sc (r'.cut hb) v (rv.cut _ _ hd)
      · split at h
        · rename_i k
          split at h
          · rename_i ds e
            split at h
            · rename_i hc
              exact h _ H' sc (r'.cut hb) v (RD.freed r' rv hc.1 (atL_ok e) hc.2)
            · exact h.elim
          · exact h.elim
        · exact h.elim
    · exact h.elim
section
variable {P : Program} {w : World} {K : PySem.W.Frag} {mg : Str → Option Value} {base : Heap}
abbrev WD (E : XK) : WX := fun c od _ H => E c od H
/-- a def by its body -/
theorem fn_ok {x qual : Str} {st : Stmt} {f : Addr} {fd : FuncData} {N ps : List Str} {k : Nat} {keep : Bool} {body : EvS} (F : Fun K x qual st f fd) (S : FnScope N ps (defScope st))
    (hbody : ∀ (cdv : Value) (A : Around) (outer : List Env) (s : Shared) (H : Hp) (E : XK), Room k (A.deeper (envOfC qual (defScope st) s.heap.objs.size f cdv)) →
      PSs (cxOf (L2.CX P w) P w K mg base N qual (defScope st) f cdv A outer s H E) (defBody st) (tS K mg (WD E) body)) :
    FnOk P w K mg base (L2.CX P w) (k + 1) f fd ps (spD K mg ps.length (runDef keep N.length body)) := by
  refine F.okX S (fun vs H Q E ⟨μ, S, ds, hl, h, _⟩ => by rw [← h.length]; exact hl) fun cdv A outer s H vs Q E hr ⟨μ, Sx, ds, hl, hd, r, hp⟩ => ?_
  refine ⟨_, hbody cdv A outer s H E hr, startR N.length ds, Sx, μ, start_rel hd, r, ?_⟩
  unfold runDef at hp
  cases hb : body (startR N.length ds) Sx with
  | ok o S' =>
    rw [hb] at hp
    cases o with
    | nx ρ' => exact fun μ' H' s' r' σ' _ => fin_ok hp r μ' H' s' r' _ .non
    | rt d => exact fun μ' H' s' r' v rv => fin_ok hp r μ' H' s' r' v rv
    | bk ρ' => exact hp.elim
    | ct ρ' => exact hp.elim
    | xc e ρ' => exact fun μ' H' s' r' σ' c od _ rx => hp μ' H' c od s' r' rx
  | ex e S' => rw [hb] at hp; exact hp.elim
  | bad => rw [hb] at hp; exact hp.elim
end
section
variable {X : Cx} {W : WX} {pos : Pos}
/-- so many arguments -/
def cl (n : Nat) (G : List D → M D) : List D → M D := fun ds => if ds.length = n then G ds else stuck
/-- a call of a def -/
theorem d_call {k n : Nat} {f : Addr} {fd : FuncData} {ps : List Str} {x : Str} {p : Pos} {e : Expr} {es : List Expr} {G : List D → M D} {t : EvL} (F : FnOk X.prog X.w X.K X.mg X.base (L2.CX X.prog X.w) k f fd ps (spD X.K X.mg ps.length G)) (hr : Room k X.A)
    (hg : Gl X x) (hm : X.mg x = some (.ref f)) (hk : PySem.W.keepIn X.K (.ref f) = true) (hb : Binds X.K fd ps []) (tk : Takes X W) (ha : PA X (e :: es) (tA X.K X.mg W t)) (hlen : ps.length = n := by rfl) (hdb : (x == ("__debug__" : Str)) = false := by decide)
    (he : starEach (e :: es) X.env = (false, eval e X.env) :: starEach es X.env := by rfl) (hpl : (backTo pos (starEach es X.env)).any (·.1) = false := by rfl) :
    PE X (.Call (.Name x p) (e :: es) [] pos) (tD X.K X.mg W (eCall (cl n G) t)) := by
  subst hlen
  refine PE.imp (pe_callS F hr hg hm hk hb (fun σ => passAt tk σ) ha hdb he hpl) fun σ H Q ⟨ρ, S, μ, e, s, h⟩ => ?_
  refine ⟨ρ, S, μ, e, s, h.bnd fun ds S1 μ1 H1 s1 r1 h1 vs rvs => ?_⟩
  unfold cl at h1
  split at h1
  · rename_i hl
    refine ⟨μ1, S1, ds, hl, rvs, r1, ?_⟩
    cases hg : G ds S1 with
    | ok d S2 => rw [hg] at h1; exact h1
    | ex x S2 => rw [hg] at h1; exact h1
    | bad => rw [hg] at h1; exact h1
  · exact h1.elim
end
end DL

/-! DL6: short words. -/
namespace DL
open PySem L2 PyProof.Rows
/-- a module's constant -/
def GV (K : PySem.W.Frag) (mg : Str → Option Value) (x : Str) (d : D) : Prop := ∃ u v, mg x = some u ∧ RelV v u ∧ ∀ μ H, RD K μ H d v
structure DefAt (K : PySem.W.Frag) (mg : Str → Option Value) (x : Str) (st : Stmt) (ps : List Str) (f : Addr) (fd : FuncData) : Prop where
  fn : Fun K x x st f fd
  mg : mg x = some (.ref f)
  bi : Binds K fd ps []
section
variable {X : Cx} {W : WX} {pos : Pos}
theorem d_globv {x : Str} {d : D} (g : GV X.K X.mg x d) (hg : Gl X x := by rfl) (hdb : (x == ("__debug__" : Str)) = false := by decide) : PE X (.Name x pos) (tD X.K X.mg W (eC d)) := by
  obtain ⟨u, v, h1, h2, h3⟩ := g
  exact d_glob hg h1 h2 h3 hdb
theorem s_set (i : Nat) {x : Str} {p : Pos} {e : Expr} {F : EvD} (hN : X.N.Nodup) (he : PE X e (tD X.K X.mg W F)) (hi : X.N[i]? = some x := by rfl) (hx : Loc X.env.scope x := by first | exact Or.inl rfl | exact Or.inr rfl)
    (hf : X.fn x = true ∨ X.env.scope.names.lookup x = some .local := by first | exact .inl rfl | exact .inr rfl | assumption)
    (hs : swapsWithSole [.Name x p] e pos.line X.env = pure false := by rfl) (hw : swappedStores [.Name x p] e X.env = pure none := by rfl)
    (h1 : (assignEach [.Name x p] X.env).map (·.2) = [assign (.Name x p) X.env] := by rfl) : PS X (.Assign [.Name x p] e pos) (tS X.K X.mg W (sAsg (gN i) F)) :=
  s_asg he (g_name i) (pg_name hN hi hx hf) hs hw h1
/-- y = [..], y a local -/
theorem s_setLc (i : Nat) {y : Str} {py : Pos} {tg elt iter : Expr} {ifs : List Expr} {scope : Scope} {own : List (Str × Nat)} {vs : List Nat} {pos spos : Pos} {it : EvI} {tgt : D → Rho → Option Rho} {g : TG} {test : EvB} {el : EvD} {is : List Nat} (hc : X.calm = true) (hN : X.N.Nodup)
    (hi : PI X tg iter (tI X.K X.mg W it)) (ok : BlkOk X.N X.env.scope scope own) (hv : own.map (·.2) = vs) (hG : GRD X is tgt g) (his : ∀ i ∈ is, i ∈ vs)
    (hg : ∀ (s : Shared) (H : Hp) (C : Addr) (cl : List (Str × Addr)) (fp : List Addr), PG (X.blk s H scope (compEnvC scope cl C X.env) fp) tg g)
    (ht : ∀ (s : Shared) (H : Hp) (C : Addr) (cl : List (Str × Addr)) (fp : List Addr), PTs (X.blk s H scope (compEnvC scope cl C X.env) fp) ifs (tT X.K X.mg W0 test))
    (he : ∀ (s : Shared) (H : Hp) (C : Addr) (cl : List (Str × Addr)) (fp : List Addr), PE (X.blk s H scope (compEnvC scope cl C X.env) fp) elt (tD X.K X.mg W0 el))
    (hy : X.N[i]? = some y := by rfl) (hyl : X.env.scope.names.lookup y = some .local := by rfl) (hsw : swapsWith (.ListComp elt [⟨tg, iter, ifs, 0⟩] scope pos) (some (.Name y py)) spos.line X.env = pure true := by exact sw_true rfl rfl rfl (by decide +kernel))
    (hs : ∀ x, foldedSetIterable iter X.env x = pure x := by intro _; rfl) :
    PS X (.Assign [.Name y py] (.ListComp elt [⟨tg, iter, ifs, 0⟩] scope pos) spos) (tS X.K X.mg W (sAsg (gN i) (eComp it tgt test el vs))) := by
  subst hv
  refine PS.imp (ps_setLc hc hN hy hyl hsw hi ok hg ht he hs) fun E σ H ⟨ρ, S, μ, e, s, h⟩ => ?_
  refine comp_ok hG his ⟨ρ, S, μ, e, s, h.lft e s fun d S1 μ1 H1 s1 r1 e1 h1 v rv => ?_⟩
  exact h1.now r1 _ (e1.set rv i)
end
/-- a def by its body, the text read once -/
theorem fn_okL {P : Program} {w : World} {K : PySem.W.Frag} {mg : Str → Option Value} {base : Heap} {x qual : Str} {st : Stmt} {f : Addr} {fd : FuncData} {N ps : List Str} {k : Nat} {keep : Bool} {body : EvS} {B : List Stmt} {sc : Scope} (F : Fun K x qual st f fd) (S : FnScope N ps (defScope st)) (hB : defBody st = B) (hS : defScope st = sc)
    (hbody : ∀ (cdv : Value) (A : Around) (outer : List Env) (s : Shared) (H : Hp) (E : XK), Room k (A.deeper (envOfC qual sc s.heap.objs.size f cdv)) → N.Nodup →
      Takes (cxOf (L2.CX P w) P w K mg base N qual sc f cdv A outer s H E) (WD E) →
      PassesOwn (model P w) (cxOf (L2.CX P w) P w K mg base N qual sc f cdv A outer s H E).A (cxOf (L2.CX P w) P w K mg base N qual sc f cdv A outer s H E).env (cxOf (L2.CX P w) P w K mg base N qual sc f cdv A outer s H E).xe →
      PSs (cxOf (L2.CX P w) P w K mg base N qual sc f cdv A outer s H E) B (tS (cxOf (L2.CX P w) P w K mg base N qual sc f cdv A outer s H E).K (cxOf (L2.CX P w) P w K mg base N qual sc f cdv A outer s H E).mg (WD E) body)) :
    FnOk P w K mg base (L2.CX P w) (k + 1) f fd ps (spD K mg ps.length (runDef keep N.length body)) := by
  subst hB hS
  exact fn_ok F S fun cdv A outer s H E hr => hbody cdv A outer s H E hr S.nd (takes_of rfl rfl rfl rfl) (passes_of rfl)
/-- no promise at all -/
theorem fn_zero {P : Program} {w : World} {K : PySem.W.Frag} {mg : Str → Option Value} {base : Heap} {k : Nat} {f : Addr} {fd : FuncData} {ps : List Str} {CX : CXT} : FnOk P w K mg base CX k f fd ps (spD K mg ps.length fun _ => stuck) :=
  ⟨fun vs H Q E ⟨_, _, _, _, _, _, h⟩ => h.elim, fun A outer s H args us vs Q E _ _ _ _ ⟨_, _, _, _, _, _, h⟩ => h.elim⟩
end DL

/-! DL7: what a denotation does, by what is wanted behind it. -/
namespace DL
open PySem L2

def wp {α : Type} (r : R α) (F : α → Sto → Prop) (E : Exc → Sto → Prop) : Prop := match r with
  | .ok a S => F a S
  | .ex e S => E e S
  | .bad => False
/-- nothing is raised -/
abbrev nx : Exc → Sto → Prop := fun _ _ => False
def wps (r : R Out) (N : Rho → Sto → Prop) (T : D → Sto → Prop) (B C : Rho → Sto → Prop) (X : Exc → Rho → Sto → Prop) : Prop := match r with
  | .ok (.nx ρ) S => N ρ S
  | .ok (.rt d) S => T d S
  | .ok (.bk ρ) S => B ρ S
  | .ok (.ct ρ) S => C ρ S
  | .ok (.xc e ρ) S => X e ρ S
  | _ => False
section
variable {α β : Type} {F : α → Sto → Prop} {E : Exc → Sto → Prop} {N : Rho → Sto → Prop} {T : D → Sto → Prop} {B C : Rho → Sto → Prop} {X : Exc → Rho → Sto → Prop} {S : Sto} {ρ : Rho}
theorem wp_mono {r : R α} {F' : α → Sto → Prop} {E' : Exc → Sto → Prop} (h : wp r F E) (f : ∀ a S, F a S → F' a S) (g : ∀ e S, E e S → E' e S) : wp r F' E' := by
  cases r with
  | ok a S => exact f a S h
  | ex e S => exact g e S h
  | bad => exact h
theorem wps_mono {r : R Out} {N' : Rho → Sto → Prop} {T' : D → Sto → Prop} {B' C' : Rho → Sto → Prop} {X' : Exc → Rho → Sto → Prop} (h : wps r N T B C X) (f1 : ∀ ρ S, N ρ S → N' ρ S) (f2 : ∀ d S, T d S → T' d S) (f3 : ∀ ρ S, B ρ S → B' ρ S) (f4 : ∀ ρ S, C ρ S → C' ρ S) (f5 : ∀ e ρ S, X e ρ S → X' e ρ S) : wps r N' T' B' C' X' := by
  cases r with
  | ok o S =>
    cases o with
    | nx ρ => exact f1 _ _ h
    | rt d => exact f2 _ _ h
    | bk ρ => exact f3 _ _ h
    | ct ρ => exact f4 _ _ h
    | xc e ρ => exact f5 _ _ _ h
  | ex e S => exact h
  | bad => exact h
theorem wp_ok {a : α} : wp (.ok a S) F E ↔ F a S := Iff.rfl
theorem wp_ret {a : α} : wp (ret a S) F E ↔ F a S := Iff.rfl
theorem wp_stuck : wp ((stuck : M α) S) F E ↔ False := Iff.rfl
theorem wp_bad : wp (.bad : R α) F E ↔ False := Iff.rfl
theorem wp_bnd {m : M β} {k : β → M α} : wp (bnd m k S) F E ↔ wp (m S) (fun a S' => wp (k a S') F E) E := by
  unfold bnd
  cases m S <;> rfl
theorem wp_if {c : Prop} [Decidable c] {a b : R α} : wp (if c then a else b) F E ↔ if c then wp a F E else wp b F E := by
  split <;> rfl
theorem wp_fif {c : Prop} [Decidable c] {a b : M α} : wp ((if c then a else b) S) F E ↔ if c then wp (a S) F E else wp (b S) F E := by
  split <;> rfl
theorem wps_ok_nx {ρ' : Rho} : wps (.ok (.nx ρ') S) N T B C X ↔ N ρ' S := Iff.rfl
theorem wps_ok_rt {d : D} : wps (.ok (.rt d) S) N T B C X ↔ T d S := Iff.rfl
theorem wps_ok_bk {ρ' : Rho} : wps (.ok (.bk ρ') S) N T B C X ↔ B ρ' S := Iff.rfl
theorem wps_ok_ct {ρ' : Rho} : wps (.ok (.ct ρ') S) N T B C X ↔ C ρ' S := Iff.rfl
theorem wps_ok_xc {e : Exc} {ρ' : Rho} : wps (.ok (.xc e ρ') S) N T B C X ↔ X e ρ' S := Iff.rfl
theorem wps_bad : wps .bad N T B C X ↔ False := Iff.rfl
theorem wps_lft {m : M α} {k : α → M Out} : wps (lft ρ m k S) N T B C X ↔ wp (m S) (fun a S' => wps (k a S') N T B C X) (fun e S' => X e ρ S') := by
  unfold lft
  cases m S <;> rfl
theorem wps_seq {a b : EvS} : wps (sSeq a b ρ S) N T B C X ↔ wps (a ρ S) (fun ρ' S' => wps (b ρ' S') N T B C X) T B C X := by
  unfold sSeq
  cases a ρ S with
  | ok o S' => cases o <;> rfl
  | ex e S' => rfl
  | bad => rfl
theorem wps_nil : wps (sNil ρ S) N T B C X ↔ N ρ S := Iff.rfl
theorem wps_ret {e : EvD} : wps (sRet e ρ S) N T B C X ↔ wp (e ρ S) T (fun e S' => X e ρ S') := by
  unfold sRet; rw [wps_lft]; rfl
theorem wps_expr {e : EvD} : wps (sExpr e ρ S) N T B C X ↔ wp (e ρ S) (fun _ S' => N ρ S') (fun e S' => X e ρ S') := by
  unfold sExpr; rw [wps_lft]; rfl
theorem wps_asg {i : Nat} {e : EvD} : wps (sAsg (gN i) e ρ S) N T B C X ↔ wp (e ρ S) (fun d S' => N (ρ.set i (some d)) S') (fun e S' => X e ρ S') := by
  unfold sAsg; rw [wps_lft]; rfl
theorem wps_if {c : EvB} {a b : EvS} : wps (sIf c a b ρ S) N T B C X ↔ wp (c ρ S) (fun k S' => if k = true then wps (a ρ S') N T B C X else wps (b ρ S') N T B C X) (fun e S' => X e ρ S') := by
  unfold sIf; rw [wps_lft]
  constructor <;> intro h <;> refine wp_mono h (fun k S' h => ?_) (fun _ _ h => h) <;> cases k <;> exact h
theorem wp_run {keep : Bool} {n : Nat} {body : EvS} {ds : List D} {F : D → Sto → Prop} : wp (runDef keep n body ds S) F E ↔
    wps (body (startR n ds) S) (fun _ S' => wp (finD keep S.length .non S') F E) (fun d S' => wp (finD keep S.length d S') F E) (fun _ _ => False) (fun _ _ => False) (fun e _ S' => E e S') := by
  unfold runDef
  cases body (startR n ds) S with
  | ok o S' => cases o <;> rfl
  | ex e S' => rfl
  | bad => rfl
/-- a def's value that names no stored thing, of a store that names none -/
theorem wp_fin {n : Nat} {d : D} {F : D → Sto → Prop} (h1 : (S.take n).all (MO.lo n) = true) (h2 : d.lo n = true) (h : F d (S.take n)) : wp (finD false n d S) F E := by
  unfold finD
  rw [if_neg (by decide), if_pos h1, if_pos h2]
  exact h
/-- for over what is walked -/
theorem wps_for {it : EvI} {tgt : D → Rho → Option Rho} {body : EvS} : wps (sFor it tgt body ρ S) N T B C X ↔ wp (it ρ S) (fun p S' => wps (forM p.1 p.2 tgt body p.2 ρ S') N T B C X) (fun e S' => X e ρ S') := by
  unfold sFor; rw [wps_lft]
/-- the loop by an invariant over the items gone through -/
theorem wps_forM {src : Option Nat} {all : List D} {tgt : D → Rho → Option Rho} {body : EvS} (I : Nat → Rho → Sto → Prop) (hl : ∀ i ρ S, I i ρ S → liveOk src all S)
    (turn : ∀ i d ρ S, all[i]? = some d → I i ρ S → ∃ ρ1, tgt d ρ = some ρ1 ∧ wps (body ρ1 S) (I (i + 1)) T N (I (i + 1)) X) (done : ∀ ρ S, I all.length ρ S → N ρ S) (h0 : I 0 ρ S) : wps (forM src all tgt body all ρ S) N T B C X := by
  have key : ∀ (k i : Nat) (ρ : Rho) (S : Sto), i + k = all.length → I i ρ S → wps (forM src all tgt body (all.drop i) ρ S) N T B C X := by
    intro k
    induction k with
    | zero =>
      intro i ρ S hi h
      have : i = all.length := by omega
      subst this
      rw [List.drop_length]
      unfold forM
      rw [if_pos (hl _ _ _ h)]
      exact done ρ S h
    | succ k ih =>
      intro i ρ S hi h
      have hlt : i < all.length := by omega
      rw [List.drop_eq_getElem_cons hlt]
      unfold forM
      rw [if_pos (hl _ _ _ h)]
      obtain ⟨ρ1, e1, hb⟩ := turn i _ ρ S (List.getElem?_eq_getElem hlt) h
      simp only [e1]
      cases hr : body ρ1 S with
      | ok o S2 =>
        rw [hr] at hb
        cases o with
        | nx ρ2 => exact ih (i + 1) ρ2 S2 (by omega) hb
        | ct ρ2 => exact ih (i + 1) ρ2 S2 (by omega) hb
        | bk ρ2 => exact hb
        | rt d => exact hb
        | xc e ρ2 => exact hb
      | ex e S2 => rw [hr] at hb; exact hb
      | bad => rw [hr] at hb; exact hb
  have := key all.length 0 ρ S (by omega) h0
  rwa [List.drop_zero] at this
theorem wps_while {fu : Nat} {c : EvB} {body : EvS} : wps (sWhile fu c body ρ S) N T B C X ↔ wps (whileM c body fu ρ S) N T B C X := Iff.rfl
theorem wps_whileM {c : EvB} {body : EvS} {fu : Nat} (I : Nat → Rho → Sto → Prop)
    (turn : ∀ m ρ S, I m ρ S → m < fu + 1 ∧ wp (c ρ S) (fun k S' => if k = true then wps (body ρ S') (fun ρ' S'' => ∃ m', m' < m ∧ I m' ρ' S'') T N (fun ρ' S'' => ∃ m', m' < m ∧ I m' ρ' S'') X else N ρ S') (fun e S' => X e ρ S')) (m : Nat) (hm : m < fu) (h0 : I m ρ S) : wps (whileM c body fu ρ S) N T B C X := by
  have key : ∀ (f m : Nat) (ρ : Rho) (S : Sto), m < f → I m ρ S → wps (whileM c body f ρ S) N T B C X := by
    intro f
    induction f with
    | zero => intro m ρ S h; exact absurd h (Nat.not_lt_zero _)
    | succ f ih =>
      intro m ρ S hm h
      unfold whileM
      rw [wps_lft]
      refine wp_mono (turn m ρ S h).2 (fun k S' hk => ?_) (fun _ _ h => h)
      cases k with
      | false => rw [if_neg Bool.false_ne_true] at hk ⊢; exact hk
      | true =>
        rw [if_pos rfl] at hk ⊢
        show wps (match body ρ S' with
          | .ok (.nx ρ2) S2 => whileM c body f ρ2 S2
          | .ok (.ct ρ2) S2 => whileM c body f ρ2 S2
          | .ok (.bk ρ2) S2 => .ok (.nx ρ2) S2
          | r => r) N T B C X
        cases hr : body ρ S' with
        | ok o S2 =>
          rw [hr] at hk
          cases o with
          | nx ρ2 => obtain ⟨m', hl, hi⟩ := hk; exact ih m' ρ2 S2 (by omega) hi
          | ct ρ2 => obtain ⟨m', hl, hi⟩ := hk; exact ih m' ρ2 S2 (by omega) hi
          | bk ρ2 => exact hk
          | rt d => exact hk
          | xc e ρ2 => exact hk
        | ex e S2 => rw [hr] at hk; exact hk.elim
        | bad => rw [hr] at hk; exact hk.elim
  exact key fu m ρ S hm h0
/-- a comprehension -/
theorem wp_comp {it : EvI} {tgt : D → Rho → Option Rho} {test : EvB} {el : EvD} {vs : List Nat} {F : D → Sto → Prop} : wp (eComp it tgt test el vs ρ S) F E ↔
    wp (it ρ S) (fun p S' => p.2.length ≤ sizeLine ∧ wp (compM p.1 p.2 tgt test el (wipeR ρ vs) p.2 S') (fun ys S'' => F (.lst ys) S'') nx) E := by
  unfold eComp
  rw [wp_bnd]
  constructor <;> intro h <;> refine wp_mono h (fun p S' h => ?_) (fun _ _ h => h)
  · unfold noEx at h
    by_cases hl : p.2.length ≤ sizeLine
    · refine ⟨hl, ?_⟩
      simp only [if_pos hl] at h
      cases hc : compM p.1 p.2 tgt test el (wipeR ρ vs) p.2 S' with
      | ok ys S'' => rw [hc] at h; exact h
      | ex e S'' => rw [hc] at h; exact h.elim
      | bad => rw [hc] at h; exact h.elim
    · simp only [if_neg hl] at h; exact h.elim
  · obtain ⟨hl, h⟩ := h
    unfold noEx
    simp only [if_pos hl]
    cases hc : compM p.1 p.2 tgt test el (wipeR ρ vs) p.2 S' with
    | ok ys S'' => rw [hc] at h; exact h
    | ex e S'' => rw [hc] at h; exact h.elim
    | bad => rw [hc] at h; exact h.elim
/-- .. by an invariant: the items gone through, what is made so far -/
theorem wp_compM {src : Option Nat} {all : List D} {tgt : D → Rho → Option Rho} {test : EvB} {el : EvD} {F : List D → Sto → Prop} (I : Nat → List D → Sto → Prop) (hl : ∀ i ys S, I i ys S → liveOk src all S)
    (turn : ∀ i d ys S, all[i]? = some d → I i ys S → ∃ ρ1, tgt d ρ = some ρ1 ∧ wp (test ρ1 S) (fun b S' => if b = true then wp (el ρ1 S') (fun y S'' => I (i + 1) (ys ++ [y]) S'') nx else I (i + 1) ys S') nx)
    (done : ∀ ys S, I all.length ys S → F ys S) (h0 : I 0 [] S) : wp (compM src all tgt test el ρ all S) F nx := by
  have key : ∀ (k i : Nat) (ys : List D) (S : Sto), i + k = all.length → I i ys S → wp (compM src all tgt test el ρ (all.drop i) S) (fun zs S' => F (ys ++ zs) S') nx := by
    intro k
    induction k with
    | zero =>
      intro i ys S hi h
      have : i = all.length := by omega
      subst this
      rw [List.drop_length]
      unfold compM
      rw [if_pos (hl _ _ _ h)]
      rw [wp_ok, List.append_nil]
      exact done ys S h
    | succ k ih =>
      intro i ys S hi h
      have hlt : i < all.length := by omega
      rw [List.drop_eq_getElem_cons hlt]
      unfold compM
      rw [if_pos (hl _ _ _ h)]
      obtain ⟨ρ1, e1, hb⟩ := turn i _ ys S (List.getElem?_eq_getElem hlt) h
      simp only [e1]
      rw [wp_bnd]
      refine wp_mono hb (fun b S' hb => ?_) (fun _ _ h => h)
      cases b with
      | false => rw [if_neg Bool.false_ne_true] at hb ⊢; exact ih (i + 1) ys S' (by omega) hb
      | true =>
        rw [if_pos rfl] at hb ⊢
        rw [wp_bnd]
        refine wp_mono hb (fun y S'' hy => ?_) (fun _ _ h => h)
        rw [wp_bnd]
        refine wp_mono (ih (i + 1) _ S'' (by omega) hy) (fun zs S3 hz => ?_) (fun _ _ h => h)
        rw [wp_ret]
        simpa using hz
  have := key all.length 0 [] S (by omega) h0
  rw [List.drop_zero] at this
  simpa using this
end
end DL

/-! DL8: the words of an expression, one by one. -/
namespace DL
open PySem L2

theorem ofString_inj {a b : String} : Str.ofString a = Str.ofString b ↔ a = b := by
  constructor
  · intro h
    rw [Str.ofString_eq_toList, Str.ofString_eq_toList] at h
    injection h with h
    have h2 : a.toList.map Char.toNat = b.toList.map Char.toNat := by simpa using congrArg Array.toList h
    have inj : ∀ x y : Char, x.toNat = y.toNat → x = y := fun x y e => by
      have : x.val = y.val := UInt32.toNat_inj.mp e
      exact Char.ext this
    have key : ∀ l m : List Char, l.map Char.toNat = m.map Char.toNat → l = m := by
      intro l
      induction l with
      | nil => intro m h; cases m with | nil => rfl | cons c m => simp at h
      | cons c l ih =>
        intro m h
        cases m with
        | nil => simp at h
        | cons d m =>
          simp only [List.map_cons, List.cons.injEq] at h
          rw [inj _ _ h.1, ih _ h.2]
    exact String.ext (key _ _ h2)
  · intro h; rw [h]
theorem ofString_length (s : String) : (Str.ofString s).length = s.length := by
  rw [Str.ofString_eq_toList]
  simp [Str.length]
  rfl

section
variable {α β : Type} {F : D → Sto → Prop} {FB : Bool → Sto → Prop} {FL : List D → Sto → Prop} {FO : Option Int → Sto → Prop} {FI : Option Nat × List D → Sto → Prop} {E : Exc → Sto → Prop} {S : Sto} {ρ : Rho} {a b c : EvD} {s t : EvB} {as : EvL}
theorem wp_var {i : Nat} : wp (eVar i ρ S) F E ↔ ∃ d, ρ[i]? = some (some d) ∧ F d S := by
  unfold eVar
  split
  · rename_i d h
    constructor
    · intro q; exact ⟨d, h, q⟩
    · rintro ⟨d', h', q⟩; rw [h] at h'; cases h'; exact q
  · rename_i h
    constructor
    · intro q; exact q.elim
    · rintro ⟨d', h', q⟩; exact absurd h' (h d')
theorem wp_C {d : D} : wp (eC d ρ S) F E ↔ F d S := Iff.rfl
theorem wp_bin {g : D → D → M D} : wp (eBin g a b ρ S) F E ↔ wp (a ρ S) (fun x S1 => wp (b ρ S1) (fun y S2 => wp (g x y S2) F E) E) E := by
  unfold eBin; simp only [wp_bnd]
theorem wp_un {g : D → M D} : wp (eUn g a ρ S) F E ↔ wp (a ρ S) (fun x S1 => wp (g x S1) F E) E := by
  unfold eUn; simp only [wp_bnd]
theorem wp_T : wp (eT a ρ S) FB E ↔ wp (a ρ S) (fun x S1 => wp (gTruth x S1) FB E) E := by
  unfold eT; simp only [wp_bnd]
theorem wp_Tb : wp (eTb a ρ S) FB E ↔ wp (a ρ S) (fun x S1 => wp (asBl x S1) FB E) E := by
  unfold eTb; simp only [wp_bnd]
theorem wp_asBl {k : Bool} : wp (asBl (.bl k) S) FB E ↔ FB k S := Iff.rfl
theorem wp_truthBl {k : Bool} : wp (gTruth (.bl k) S) FB E ↔ FB k S := Iff.rfl
theorem wp_bAnd : wp (bAnd s t ρ S) FB E ↔ wp (s ρ S) (fun x S1 => if x = true then wp (t ρ S1) FB E else FB false S1) E := by
  unfold bAnd; simp only [wp_bnd, wp_fif, wp_ret]
theorem wp_bOr : wp (bOr s t ρ S) FB E ↔ wp (s ρ S) (fun x S1 => if x = true then FB true S1 else wp (t ρ S1) FB E) E := by
  unfold bOr; simp only [wp_bnd, wp_fif, wp_ret]
theorem wp_bNot : wp (bNot s ρ S) FB E ↔ wp (s ρ S) (fun x S1 => FB (!x) S1) E := by
  unfold bNot; simp only [wp_bnd, wp_ret]
theorem wp_eIf : wp (eIf s a b ρ S) F E ↔ wp (s ρ S) (fun x S1 => if x = true then wp (a ρ S1) F E else wp (b ρ S1) F E) E := by
  unfold eIf; simp only [wp_bnd, wp_fif]
def blCase (x : D) (p q : Prop) : Prop := match x with
  | .bl true => p
  | .bl false => q
  | _ => False
theorem blCase_bl {k : Bool} {p q : Prop} : blCase (.bl k) p q ↔ if k = true then p else q := by
  cases k <;> simp [blCase]
theorem wp_eAnd : wp (eAnd a b ρ S) F E ↔ wp (a ρ S) (fun x S1 => blCase x (wp (b ρ S1) F E) (F (.bl false) S1)) E := by
  unfold eAnd; simp only [wp_bnd]
  constructor <;> intro h <;> refine wp_mono h (fun x S' h => ?_) (fun _ _ h => h)
  · unfold blCase; split at h <;> first | exact h | exact h.elim
  · unfold blCase at h; split at h <;> first | exact h | exact h.elim
theorem wp_eOr : wp (eOr a b ρ S) F E ↔ wp (a ρ S) (fun x S1 => blCase x (F (.bl true) S1) (wp (b ρ S1) F E)) E := by
  unfold eOr; simp only [wp_bnd]
  constructor <;> intro h <;> refine wp_mono h (fun x S' h => ?_) (fun _ _ h => h)
  · unfold blCase; split at h <;> first | exact h | exact h.elim
  · unfold blCase at h; split at h <;> first | exact h | exact h.elim
theorem wp_eNot : wp (eNot a ρ S) F E ↔ wp (a ρ S) (fun x S1 => blCase x (F (.bl false) S1) (F (.bl true) S1)) E := by
  unfold eNot; simp only [wp_bnd]
  constructor <;> intro h <;> refine wp_mono h (fun x S' h => ?_) (fun _ _ h => h)
  · unfold blCase
    split at h
    · rename_i k; cases k <;> exact h
    · exact h.elim
  · unfold blCase at h; split at h <;> first | exact h | exact h.elim
theorem wp_chain {g g' : D → D → M D} : wp (eChain g g' a b c ρ S) F E ↔ wp (a ρ S) (fun x S1 => wp (b ρ S1) (fun y S2 => wp (g x y S2) (fun z S3 => blCase z (wp (c ρ S3) (fun w S4 => wp (g' y w S4) F E) E) (F (.bl false) S3)) E) E) E := by
  unfold eChain; simp only [wp_bnd]
  constructor <;> intro h <;> refine wp_mono h (fun x S1 h => wp_mono h (fun y S2 h => wp_mono h (fun z S3 h => ?_) fun _ _ h => h) fun _ _ h => h) (fun _ _ h => h)
  · cases z with
    | bl k => cases k with
      | true => exact wp_bnd.mp h
      | false => exact h
    | _ => exact False.elim h
  · cases z with
    | bl k => cases k with
      | true => exact wp_bnd.mpr h
      | false => exact h
    | _ => exact False.elim h
theorem wp_aNil : wp (aNil ρ S) FL E ↔ FL [] S := Iff.rfl
theorem wp_aCons : wp (aCons a as ρ S) FL E ↔ wp (a ρ S) (fun x S1 => wp (as ρ S1) (fun xs S2 => FL (x :: xs) S2) E) E := by
  unfold aCons; simp only [wp_bnd, wp_ret]
theorem wp_tup : wp (eTup as ρ S) F E ↔ wp (as ρ S) (fun ds S1 => ds.length ≤ sizeLine ∧ F (.tup ds) S1) E := by
  unfold eTup; simp only [wp_bnd]
  constructor <;> intro h <;> refine wp_mono h (fun x S' h => ?_) (fun _ _ h => h)
  · by_cases hl : x.length ≤ sizeLine
    · rw [if_pos hl] at h; exact ⟨hl, h⟩
    · rw [if_neg hl] at h; exact h.elim
  · rw [if_pos h.1]; exact h.2
theorem wp_lst : wp (eLst as ρ S) F E ↔ wp (as ρ S) (fun ds S1 => ds.length ≤ sizeLine ∧ F (.lst ds) S1) E := by
  unfold eLst; simp only [wp_bnd]
  constructor <;> intro h <;> refine wp_mono h (fun x S' h => ?_) (fun _ _ h => h)
  · by_cases hl : x.length ≤ sizeLine
    · rw [if_pos hl] at h; exact ⟨hl, h⟩
    · rw [if_neg hl] at h; exact h.elim
  · rw [if_pos h.1]; exact h.2
theorem wp_lstM : wp (eLstM as ρ S) F E ↔ wp (as ρ S) (fun ds S1 => ds.length ≤ sizeLine ∧ F (.ref S1.length) (S1 ++ [.lst ds])) E := by
  unfold eLstM; simp only [wp_bnd]
  constructor <;> intro h <;> refine wp_mono h (fun x S' h => ?_) (fun _ _ h => h)
  · by_cases hl : x.length ≤ sizeLine
    · rw [if_pos hl] at h; exact ⟨hl, h⟩
    · rw [if_neg hl] at h; exact h.elim
  · rw [if_pos h.1]; exact h.2
theorem wp_call {g : List D → M D} : wp (eCall g as ρ S) F E ↔ wp (as ρ S) (fun ds S1 => wp (g ds S1) F E) E := by
  unfold eCall; simp only [wp_bnd]
theorem wp_cl {n : Nat} {G : List D → M D} {ds : List D} (h : ds.length = n) : wp (cl n G ds S) F E ↔ wp (G ds S) F E := by
  unfold cl; rw [if_pos h]
theorem wp_cl1 {G : List D → M D} {x : D} : wp (cl 1 G [x] S) F E ↔ wp (G [x] S) F E := wp_cl rfl
theorem wp_cl2 {G : List D → M D} {x y : D} : wp (cl 2 G [x, y] S) F E ↔ wp (G [x, y] S) F E := wp_cl rfl
theorem wp_cl3 {G : List D → M D} {x y z : D} : wp (cl 3 G [x, y, z] S) F E ↔ wp (G [x, y, z] S) F E := wp_cl rfl
theorem wp_cl4 {G : List D → M D} {x y z u : D} : wp (cl 4 G [x, y, z, u] S) F E ↔ wp (G [x, y, z, u] S) F E := wp_cl rfl
theorem wp_cl5 {G : List D → M D} {x y z u v : D} : wp (cl 5 G [x, y, z, u, v] S) F E ↔ wp (G [x, y, z, u, v] S) F E := wp_cl rfl
theorem wp_meth {T : String} {g : D → List D → M D} : wp (eMeth T g a as ρ S) F E ↔ wp (a ρ S) (fun x S1 => isTy S1 T x = true ∧ wp (as ρ S1) (fun xs S2 => wp (g x xs S2) F E) E) E := by
  unfold eMeth; simp only [wp_bnd]
  constructor <;> intro h <;> refine wp_mono h (fun x S' h => ?_) (fun _ _ h => h)
  · unfold chkT at h
    by_cases ht : isTy S' T x = true
    · rw [if_pos ht] at h; exact ⟨ht, h⟩
    · rw [if_neg ht] at h; exact h.elim
  · unfold chkT
    rw [if_pos h.1]; exact h.2
theorem wp_isi {T : String} : wp (eIsi T a ρ S) F E ↔ wp (a ρ S) (fun x S1 => ∃ n, typN S1 x = some n ∧ F (.bl (isiN n T)) S1) E := by
  unfold eIsi; simp only [wp_bnd]
  constructor <;> intro h <;> refine wp_mono h (fun x S' h => ?_) (fun _ _ h => h)
  · unfold gIsi at h
    split at h
    · rename_i n hn; exact ⟨n, hn, h⟩
    · exact h.elim
  · obtain ⟨n, hn, h⟩ := h
    unfold gIsi
    rw [hn]; exact h
theorem wp_oNone : wp (oNone ρ S) FO E ↔ FO none S := Iff.rfl
theorem wp_oSome : wp (oSome a ρ S) FO E ↔ wp (a ρ S) (fun x S1 => ∃ i, x = .int i ∧ FO (some i) S1) E := by
  unfold oSome; simp only [wp_bnd]
  constructor <;> intro h <;> refine wp_mono h (fun x S' h => ?_) (fun _ _ h => h)
  · split at h
    · exact ⟨_, rfl, h⟩
    · exact h.elim
  · obtain ⟨i, rfl, h⟩ := h; exact h
theorem wp_sl {m : Bool} {lo hi : EvO} : wp (eSl m a lo hi ρ S) F E ↔ wp (a ρ S) (fun x S1 => wp (lo ρ S1) (fun l S2 => wp (hi ρ S2) (fun h S3 => wp (gSl m x l h S3) F E) E) E) E := by
  unfold eSl; simp only [wp_bnd]
theorem wp_it : wp (iIt a ρ S) FI E ↔ wp (a ρ S) (fun x S1 => wp (srcL x S1) FI E) E := by
  unfold iIt; simp only [wp_bnd]
theorem wp_range1 : wp (iRange1 as ρ S) FI E ↔ wp (as ρ S) (fun x S1 => wp (srcR1 x S1) FI E) E := by
  unfold iRange1; simp only [wp_bnd]
theorem wp_range2 : wp (iRange2 as ρ S) FI E ↔ wp (as ρ S) (fun x S1 => wp (srcR2 x S1) FI E) E := by
  unfold iRange2; simp only [wp_bnd]
theorem wp_bYes : wp (bYes ρ S) FB E ↔ FB true S := Iff.rfl

/-! the operations on values -/
theorem gEq_str {x y : Str} : wp (gEq (.str x) (.str y) S) F E ↔ F (.bl (decide (x = y))) S := Iff.rfl
theorem gNe_str {x y : Str} : wp (gNe (.str x) (.str y) S) F E ↔ F (.bl (!decide (x = y))) S := Iff.rfl
theorem gEq_int {x y : Int} : wp (gEq (.int x) (.int y) S) F E ↔ F (.bl (decide (x = y))) S := Iff.rfl
theorem gNe_int {x y : Int} : wp (gNe (.int x) (.int y) S) F E ↔ F (.bl (!decide (x = y))) S := Iff.rfl
theorem gEq_bl {x y : Bool} : wp (gEq (.bl x) (.bl y) S) F E ↔ F (.bl (decide (x = y))) S := Iff.rfl
theorem gNe_bl {x y : Bool} : wp (gNe (.bl x) (.bl y) S) F E ↔ F (.bl (!decide (x = y))) S := Iff.rfl
theorem gIs_bl {x y : Bool} : wp (gIs (.bl x) (.bl y) S) F E ↔ F (.bl (decide (x = y))) S := Iff.rfl
theorem gIsNot_bl {x y : Bool} : wp (gIsNot (.bl x) (.bl y) S) F E ↔ F (.bl (!decide (x = y))) S := Iff.rfl
theorem gAdd_int {x y : Int} : wp (gAdd (.int x) (.int y) S) F E ↔ F (.int (x + y)) S := Iff.rfl
theorem gSub_int {x y : Int} : wp (gSub (.int x) (.int y) S) F E ↔ F (.int (x - y)) S := by
  unfold gSub gI; simp only [if_true]; rfl
theorem gC_int {f : Int → Int → Bool} {x y : Int} : wp (gC f (.int x) (.int y) S) F E ↔ F (.bl (f x y)) S := Iff.rfl
theorem gI_int {C : Int → Int → Bool} {f : Int → Int → Int} {x y : Int} : wp (gI C f (.int x) (.int y) S) F E ↔ C x y = true ∧ F (.int (f x y)) S := by
  unfold gI
  simp only []
  by_cases h : C x y = true
  · rw [if_pos h]; exact ⟨fun q => ⟨h, q⟩, fun q => q.2⟩
  · rw [if_neg h]; exact ⟨fun q => q.elim, fun q => absurd q.1 h⟩
theorem gAdd_str {x y : Str} : wp (gAdd (.str x) (.str y) S) F E ↔ x.length + y.length ≤ sizeLine ∧ F (.str (x ++ y)) S := by
  unfold gAdd
  simp only []
  by_cases h : x.length + y.length ≤ sizeLine
  · rw [if_pos h]; exact ⟨fun q => ⟨h, q⟩, fun q => q.2⟩
  · rw [if_neg h]; exact ⟨fun q => q.elim, fun q => absurd q.1 h⟩
theorem gAdd_tup {x y : List D} : wp (gAdd (.tup x) (.tup y) S) F E ↔ x.length + y.length ≤ sizeLine ∧ F (.tup (x ++ y)) S := by
  unfold gAdd
  simp only []
  by_cases h : x.length + y.length ≤ sizeLine
  · rw [if_pos h]; exact ⟨fun q => ⟨h, q⟩, fun q => q.2⟩
  · rw [if_neg h]; exact ⟨fun q => q.elim, fun q => absurd q.1 h⟩
theorem gAdd_lst {x y : List D} : wp (gAdd (.lst x) (.lst y) S) F E ↔ x.length + y.length ≤ sizeLine ∧ F (.lst (x ++ y)) S := by
  unfold gAdd
  simp only [iTrk]
  by_cases h : x.length + y.length ≤ sizeLine
  · rw [if_pos h]; exact ⟨fun q => ⟨h, q⟩, fun q => q.2⟩
  · rw [if_neg h]; exact ⟨fun q => q.elim, fun q => absurd q.1 h⟩
theorem gNeg_int {x : Int} : wp (gNeg (.int x) S) F E ↔ F (.int (-x)) S := Iff.rfl
theorem gIx_seq {x : D} {ds : List D} {k : Int} (h : iLst S x = some ds) : wp (gIx x (.int k) S) F E ↔ ∃ d, atI ds k = some d ∧ F d S := by
  have e : gIx x (.int k) S = match atI ds k with
      | some d => .ok d S
      | none => .bad := by
    unfold gIx
    cases x with
    | str z => simp [iLst] at h
    | _ => simp only [h] <;> rfl
  rw [e]
  cases h2 : atI ds k with
  | some d => exact ⟨fun q => ⟨d, rfl, q⟩, fun ⟨d', e, q⟩ => by cases e; exact q⟩
  | none => exact ⟨fun q => q.elim, fun ⟨d', e, q⟩ => by cases e⟩
theorem gIx_tup {ds : List D} {k : Int} : wp (gIx (.tup ds) (.int k) S) F E ↔ ∃ d, atI ds k = some d ∧ F d S := gIx_seq rfl
theorem gIx_lst {ds : List D} {k : Int} : wp (gIx (.lst ds) (.int k) S) F E ↔ ∃ d, atI ds k = some d ∧ F d S := gIx_seq rfl
theorem gLen_seq {x : D} {ds : List D} (h : iLst S x = some ds) : wp (gLen [x] S) F E ↔ F (.int ds.length) S := by
  unfold gLen
  cases x <;> simp_all [iLst, wp]
theorem gLen_tup {ds : List D} : wp (gLen [.tup ds] S) F E ↔ F (.int ds.length) S := gLen_seq rfl
theorem gLen_lst {ds : List D} : wp (gLen [.lst ds] S) F E ↔ F (.int ds.length) S := gLen_seq rfl
theorem gLen_str {x : Str} : wp (gLen [.str x] S) F E ↔ x.length ≤ sizeLine ∧ F (.int x.length) S := by
  unfold gLen
  simp only []
  by_cases h : x.length ≤ sizeLine
  · rw [if_pos h]; exact ⟨fun q => ⟨h, q⟩, fun q => q.2⟩
  · rw [if_neg h]; exact ⟨fun q => q.elim, fun q => absurd q.1 h⟩
theorem gInt_int {x : Int} : wp (gInt [.int x] S) F E ↔ F (.int x) S := Iff.rfl
theorem gInt_bl {x : Bool} : wp (gInt [.bl x] S) F E ↔ F (.int (if x then 1 else 0)) S := Iff.rfl
theorem gTuple_lst {ds : List D} : wp (gTuple [.lst ds] S) F E ↔ F (.tup ds) S := Iff.rfl
theorem gTuple_tup {ds : List D} : wp (gTuple [.tup ds] S) F E ↔ F (.tup ds) S := Iff.rfl
theorem gList_lst {ds : List D} : wp (gList [.lst ds] S) F E ↔ F (.lst ds) S := Iff.rfl
theorem gList_tup {ds : List D} : wp (gList [.tup ds] S) F E ↔ F (.lst ds) S := Iff.rfl
theorem gAll_bls {bs : List Bool} : wp (gAll [.lst (bs.map .bl)] S) F E ↔ F (.bl (bs.all id)) S := by
  have e : gAll [.lst (bs.map .bl)] S = .ok (.bl (bs.all id)) S := by
    unfold gAll
    simp only [iSeq, Option.bind_some, blsOf_map]
  rw [e]; rfl
theorem gSl_tup {m : Bool} {ds : List D} {lo hi : Option Int} : wp (gSl m (.tup ds) lo hi S) F E ↔ F (.tup (cutD ds lo hi)) S := Iff.rfl
theorem gSl_lst {ds : List D} {lo hi : Option Int} : wp (gSl false (.lst ds) lo hi S) F E ↔ F (.lst (cutD ds lo hi)) S := Iff.rfl
theorem gSl_fl {ds : List D} {lo hi : Option Int} : wp (gSl false (.fl ds) lo hi S) F E ↔ F (.lst (cutD ds lo hi)) S := Iff.rfl
theorem gSl_str {m : Bool} {z : Str} {lo hi : Option Int} : wp (gSl m (.str z) lo hi S) F E ↔ z.length ≤ sizeLine ∧ F (.str (cutS z lo hi)) S := by
  unfold gSl
  simp only []
  by_cases h : z.length ≤ sizeLine
  · rw [if_pos h]; exact ⟨fun q => ⟨h, q⟩, fun q => q.2⟩
  · rw [if_neg h]; exact ⟨fun q => q.elim, fun q => absurd q.1 h⟩
theorem srcL_tup {ds : List D} : wp (srcL (.tup ds) S) FI E ↔ FI (none, ds) S := Iff.rfl
theorem srcL_lst {ds : List D} : wp (srcL (.lst ds) S) FI E ↔ FI (none, ds) S := Iff.rfl
theorem srcL_fl {ds : List D} : wp (srcL (.fl ds) S) FI E ↔ FI (none, ds) S := Iff.rfl
theorem srcL_str {x : Str} : wp (srcL (.str x) S) FI E ↔ FI (none, x.cps.toList.map fun c => .str ⟨#[c]⟩) S := Iff.rfl
theorem srcR1_int {j : Int} : wp (srcR1 [.int j] S) FI E ↔ bnd62 j = true ∧ FI (none, rangeD 0 j.toNat) S := by
  unfold srcR1
  simp only []
  by_cases h : bnd62 j = true
  · rw [if_pos h]; exact ⟨fun q => ⟨h, q⟩, fun q => q.2⟩
  · rw [if_neg h]; exact ⟨fun q => q.elim, fun q => absurd q.1 h⟩
theorem inV_strs (a : Str) : ∀ l : List Str, inV (.str a) (l.map V.str) = decide (a ∈ l)
  | [] => by simp [inV]
  | x :: l => by
    have ih := inV_strs a l
    have e : inV (.str a) ((x :: l).map V.str) = ((x == a) || inV (.str a) (l.map V.str)) := rfl
    rw [e, ih]
    by_cases h : x = a
    · simp [h]
    · have h2 : ¬ a = x := fun e => h e.symm
      have h3 : (x == a) = false := by simpa using h
      simp [h2, h3]
theorem flatDs_strs : ∀ l : List Str, flatDs (l.map D.str) = some (l.map V.str)
  | [] => rfl
  | x :: l => by simp [flatDs, flatD, flatDs_strs l]
theorem gIn_strs {a : Str} {y : D} {l : List Str} (h : iLst S y = some (l.map .str)) : wp (gIn (.str a) y S) F E ↔ F (.bl (decide (a ∈ l))) S := by
  have e : inD S (.str a) y = some (decide (a ∈ l)) := by
    unfold inD
    cases y <;> simp_all [iLst, flatD, flatDs_strs, inV_strs]
  unfold gIn
  rw [e]; rfl
theorem gNotIn_strs {a : Str} {y : D} {l : List Str} (h : iLst S y = some (l.map .str)) : wp (gNotIn (.str a) y S) F E ↔ F (.bl (!decide (a ∈ l))) S := by
  have e : inD S (.str a) y = some (decide (a ∈ l)) := by
    unfold inD
    cases y <;> simp_all [iLst, flatD, flatDs_strs, inV_strs]
  unfold gNotIn
  rw [e]; rfl
theorem occ_sign {c : Nat} {z : Str} : (!(Builtin.Str.occurrences z ⟨#[c]⟩ 0 z.length 1).isEmpty) = decide (c ∈ z.cps.toList) := PySem.StrLaws.found_one z c
theorem gIn_sign {c : Nat} {z : Str} : wp (gIn (.str ⟨#[c]⟩) (.str z) S) F E ↔ F (.bl (decide (c ∈ z.cps.toList))) S := by
  have e : inD S (.str ⟨#[c]⟩) (.str z) = some (decide (c ∈ z.cps.toList)) := by
    unfold inD
    simp only [occ_sign]
  unfold gIn
  rw [e]; rfl
end
end DL

/-! DL9: stores of trees, a deck of whole numbers. -/
namespace DL
open PySem L2
section
variable {α : Type} {a b c d e : α} {l : List α}
theorem atI_0 : atI (a :: l) 0 = some a := atI_nat (j := 0) rfl
theorem atI_1 : atI (a :: b :: l) 1 = some b := atI_nat (j := 1) rfl
theorem atI_2 : atI (a :: b :: c :: l) 2 = some c := atI_nat (j := 2) rfl
theorem atI_3 : atI (a :: b :: c :: d :: l) 3 = some d := atI_nat (j := 3) rfl
theorem atI_4 : atI (a :: b :: c :: d :: e :: l) 4 = some e := atI_nat (j := 4) rfl
end
def WF (S : Sto) : Prop := S.all (MO.lo 0) = true
abbrev tr (d : D) : Prop := d.lo 0 = true
mutual
theorem D.lo_mono {m n : Nat} (h : m ≤ n) : ∀ d : D, d.lo m = true → d.lo n = true
  | .non, _ => rfl
  | .bl _, _ => rfl
  | .int _, _ => rfl
  | .str _, _ => rfl
  | .fn _, _ => rfl
  | .tup ds, e => by simp only [D.lo] at e ⊢; exact D.los_mono h ds e
  | .lst ds, e => by simp only [D.lo] at e ⊢; exact D.los_mono h ds e
  | .fl ds, e => by simp only [D.lo] at e ⊢; exact D.los_mono h ds e
  | .ref k, e => by simp only [D.lo, decide_eq_true_eq] at e ⊢; omega
theorem D.los_mono {m n : Nat} (h : m ≤ n) : ∀ ds : List D, D.los m ds = true → D.los n ds = true
  | [], _ => rfl
  | d :: ds, e => by
    simp only [D.los, Bool.and_eq_true] at e ⊢
    exact ⟨D.lo_mono h d e.1, D.los_mono h ds e.2⟩
end
theorem loK_mono {m n : Nat} (h : m ≤ n) : ∀ ks : List (Key × D), loK m ks = true → loK n ks = true
  | [], _ => rfl
  | d :: ds, e => by
    simp only [loK, Bool.and_eq_true] at e ⊢
    exact ⟨D.lo_mono h _ e.1, loK_mono h ds e.2⟩
theorem MO.lo_mono {m n : Nat} (h : m ≤ n) (o : MO) (e : o.lo m = true) : o.lo n = true := by
  cases o with
  | lst ds => exact D.los_mono h ds e
  | dct ks => exact loK_mono h ks e
theorem los_iff {n : Nat} : ∀ ds : List D, D.los n ds = true ↔ ∀ d ∈ ds, d.lo n = true
  | [] => by simp [D.los]
  | d :: ds => by simp [D.los, los_iff ds]
theorem los_map {α : Type} {n : Nat} {f : α → D} (h : ∀ x, (f x).lo n = true) (l : List α) : D.los n (l.map f) = true := by
  rw [los_iff]; intro d hd
  obtain ⟨x, _, rfl⟩ := List.mem_map.mp hd
  exact h x
theorem WF.nil : WF [] := rfl
theorem WF.mem {S : Sto} (h : WF S) {m : MO} (hm : m ∈ S) : m.lo 0 = true := List.all_eq_true.mp h m hm
theorem WF.append {S : Sto} {m : MO} (h : WF S) (hm : m.lo 0 = true) : WF (S ++ [m]) := by
  unfold WF at *; simp [h, hm]
theorem WF.set {S : Sto} {k : Nat} {m : MO} (h : WF S) (hm : m.lo 0 = true) : WF (S.set k m) := by
  unfold WF
  rw [List.all_eq_true]
  intro x hx
  rcases List.mem_or_eq_of_mem_set hx with q | q
  · exact h.mem q
  · rw [q]; exact hm
theorem WF.take {S : Sto} (h : WF S) (n m : Nat) : (S.take n).all (MO.lo m) = true := by
  rw [List.all_eq_true]
  intro x hx
  exact MO.lo_mono (Nat.zero_le _) x (h.mem (List.mem_of_mem_take hx))
section
variable {F : D → Sto → Prop} {E : Exc → Sto → Prop} {S S1 : Sto} {d : D}
theorem fin_cut (hw : WF S) (hd : tr d) (h : F d (S.take S1.length)) : wp (finD false S1.length d S) F E :=
  wp_fin (hw.take _ _) (D.lo_mono (Nat.zero_le _) _ hd) h
theorem fin_same (hw : WF S) (hd : tr d) (hl : S.length = S1.length) (h : F d S) : wp (finD false S1.length d S) F E := by
  refine fin_cut hw hd ?_
  rw [← hl, List.take_length]; exact h
/-- .. as a rewriting, of the store as it came -/
theorem fin_bl {b : Bool} (hw : WF S) : wp (finD false S.length (.bl b) S) F E ↔ F (.bl b) S := by
  unfold finD
  rw [if_neg (by decide), if_pos (hw.take _ _), if_pos (by rfl), List.take_length]
  rfl
theorem fin_int {b : Int} (hw : WF S) : wp (finD false S.length (.int b) S) F E ↔ F (.int b) S := by
  unfold finD
  rw [if_neg (by decide), if_pos (hw.take _ _), if_pos (by rfl), List.take_length]
  rfl
theorem fin_str {b : Str} (hw : WF S) : wp (finD false S.length (.str b) S) F E ↔ F (.str b) S := by
  unfold finD
  rw [if_neg (by decide), if_pos (hw.take _ _), if_pos (by rfl), List.take_length]
  rfl
end
/-- S is S0 but for the deck of whole numbers at k -/
structure DK (k : Nat) (S0 S : Sto) : Prop where
  wf : WF S0
  lt : k < S0.length
  at_ : ∃ cells : List Int, cells.length ≤ 100000 ∧ S = S0.set k (.lst (cells.map .int))
section
variable {k : Nat} {S0 S : Sto}
theorem DK.wf' (h : DK k S0 S) : WF S := by
  obtain ⟨w, l, cells, hc, rfl⟩ := h
  exact w.set (los_map (fun _ => rfl) cells)
theorem DK.len (h : DK k S0 S) : S.length = S0.length := by
  obtain ⟨w, l, cells, hc, rfl⟩ := h
  simp
theorem DK.get (h : DK k S0 S) : ∃ cells : List Int, cells.length ≤ 100000 ∧ atL S k = some (cells.map .int) ∧ ∀ cs : List Int, cs.length ≤ 100000 → DK k S0 (S.set k (.lst (cs.map .int))) := by
  obtain ⟨w, l, cells, hc, rfl⟩ := h
  refine ⟨cells, hc, ?_, fun cs hcs => ⟨w, l, cs, hcs, by rw [List.set_set]⟩⟩
  unfold atL
  rw [List.getElem?_set_self l]
theorem DK.push {m : MO} (h : DK k S0 S) (hm : m.lo 0 = true) : DK k (S0 ++ [m]) (S ++ [m]) := by
  obtain ⟨w, l, cells, hc, rfl⟩ := h
  refine ⟨w.append hm, by simp; omega, cells, hc, ?_⟩
  rw [List.set_append_left _ _ l]
theorem DK.refl {cells : List Int} (w : WF S0) (hc : cells.length ≤ 100000) (h : S0[k]? = some (.lst (cells.map .int))) : DK k S0 S0 := by
  have l := (List.getElem?_eq_some_iff.mp h)
  obtain ⟨l, e⟩ := l
  refine ⟨w, l, cells, hc, ?_⟩
  rw [← e, List.set_getElem_self]
/-- the last stored list, beside the deck -/
theorem DK.last {m : MO} (h : DK k (S0 ++ [m]) S) (hk : k < S0.length) : S[S0.length]? = some m ∧ ∃ S', S = S' ++ [m] ∧ S'.length = S0.length := by
  obtain ⟨w, l, cells, hc, rfl⟩ := h
  rw [List.set_append_left _ _ hk]
  refine ⟨?_, _, rfl, by simp⟩
  rw [List.getElem?_append_right (by simp)]
  simp
/-- the last stored list is changed -/
theorem DK.put {m m' : MO} (h : DK k (S0 ++ [m]) S) (hk : k < S0.length) (hm : m'.lo 0 = true) : DK k (S0 ++ [m']) (S.set S0.length m') := by
  obtain ⟨w, l, cells, hc, rfl⟩ := h
  have w0 : WF S0 := by
    unfold WF at *
    simp at w ⊢
    exact w.1
  refine ⟨w0.append hm, by simp; omega, cells, hc, ?_⟩
  rw [List.set_append_left _ _ hk, List.set_append_left _ _ hk, List.set_append_right _ _ (by simp)]
  simp
/-- the last stored list is forgotten -/
theorem DK.pop {m : MO} (h : DK k (S0 ++ [m]) S) (hk : k < S0.length) : DK k S0 (S.take S0.length) := by
  obtain ⟨w, l, cells, hc, rfl⟩ := h
  have w0 : WF S0 := by
    unfold WF at *
    simp at w ⊢
    exact w.1
  refine ⟨w0, hk, cells, hc, ?_⟩
  rw [List.set_append_left _ _ hk, List.take_append_of_le_length (by simp), List.take_of_length_le (by simp)]
end
section
variable {F : D → Sto → Prop} {E : Exc → Sto → Prop} {S : Sto}
theorem gPop_ref {n : Nat} {ds : List D} (h : atL S n = some ds) : wp (gPop (.ref n) [] S) F E ↔ ∃ d, ds[ds.length - 1]? = some d ∧ F d (S.set n (.lst ds.dropLast)) := by
  unfold gPop
  simp only [h]
  cases e : ds[ds.length - 1]? with
  | some d => exact ⟨fun q => ⟨d, rfl, q⟩, fun ⟨d', e, q⟩ => by cases e; exact q⟩
  | none => exact ⟨fun q => q.elim, fun ⟨d', e, q⟩ => by cases e⟩
theorem gAppend_ref {n : Nat} {ds : List D} {d : D} (h : atL S n = some ds) : wp (gAppend (.ref n) [d] S) F E ↔ ds.length < sizeLine ∧ F .non (S.set n (.lst (ds ++ [d]))) := by
  unfold gAppend
  simp only [h]
  by_cases hl : ds.length < sizeLine
  · rw [if_pos hl]; exact ⟨fun q => ⟨hl, q⟩, fun q => q.2⟩
  · rw [if_neg hl]; exact ⟨fun q => q.elim, fun q => absurd q.1 hl⟩
theorem isTy_ref {n : Nat} {ds : List D} (h : atL S n = some ds) : isTy S "list" (.ref n) = true := by
  simp only [isTy, atL_ok h]
  rfl
theorem gEq_refNil {n : Nat} {ds : List Int} (h : atL S n = some (ds.map .int)) : wp (gEq (.ref n) (.lst []) S) F E ↔ F (.bl (decide (ds = []))) S := by
  have tp : ∀ l : List Int, toPys (l.map .int) = some (l.map PyData.int) := by
    intro l; induction l with
    | nil => rfl
    | cons x l ih => simp [toPys, toPy, ih]
  have cl : ∀ l : List Int, PyData.canLayAll0 (l.map PyData.int) = true := by
    intro l; induction l with
    | nil => rfl
    | cons x l ih => simp [PyData.canLayAll0, PyData.canLay0, ih]
  have e : eqD S (.ref n) (.lst []) = some (decide (ds = [])) := by
    have e1 : toPyS S (.ref n) = some (.list (ds.map PyData.int)) := by
      simp only [toPyS, h, tp, Option.map_some]
    have e2 : toPyS S (.lst []) = some (.list []) := rfl
    have s1 : okEq (.list (ds.map PyData.int)) (.list []) = true := by
      unfold okEq
      simp only [PyData.canLay0, cl, PyData.canLayAll0, Bool.true_and]
      exact decide_eq_true (Nat.le_trans (Nat.min_le_right _ _) (by decide))
    unfold eqD
    simp only [e1, e2, s1, if_true]
    cases ds with
    | nil => rfl
    | cons x l => simp [PyData.eqv, PyData.eqvAll]
  unfold gEq
  rw [e]; rfl
end
/-- a comprehension that leaves the store as it is -/
theorem comp_pure {all : List D} {i : Nat} {el : EvD} {ρ : Rho} {S : Sto} {FF : List D → Sto → Prop} (f : D → D) (hel : ∀ d ∈ all, wp (el (ρ.set i (some d)) S) (fun y S' => y = f d ∧ S' = S) nx) (h : FF (all.map f) S) :
    wp (compM none all (gN i) bYes el ρ all S) FF nx := by
  refine wp_compM (fun k ys S' => S' = S ∧ ys = (all.take k).map f) (fun _ _ _ _ => trivial) (fun k d ys S' hd hk => ?_) (fun ys S' hk => ?_) ⟨rfl, rfl⟩
  · obtain ⟨rfl, rfl⟩ := hk
    refine ⟨_, rfl, ?_⟩
    rw [wp_bYes, if_pos rfl]
    refine wp_mono (hel d (List.mem_of_getElem? hd)) (fun y S'' hy => ?_) (fun _ _ h => h)
    obtain ⟨rfl, rfl⟩ := hy
    refine ⟨rfl, ?_⟩
    rw [List.take_succ, hd]
    simp
  · obtain ⟨rfl, rfl⟩ := hk
    rw [List.take_length]
    exact h
theorem cMul_l {i j : Int} (h0 : 0 ≤ i) (h1 : i < 18446744073709551616) : cMul i j = true := by
  unfold cMul; simp only [Bool.or_eq_true, decide_eq_true_eq]; omega
theorem cMul_r {i j : Int} (h0 : 0 ≤ j) (h1 : j < 18446744073709551616) : cMul i j = true := by
  unfold cMul; simp only [Bool.or_eq_true, decide_eq_true_eq]; omega
theorem cDiv_of {i j : Int} (h0 : 0 < j) (h1 : j < 18446744073709551616) : cDiv i j = true := by
  unfold cDiv; simp only [Bool.and_eq_true, decide_eq_true_eq]
  refine ⟨h0, Nat.lt_of_le_of_lt (m := 64) ?_ (by decide)⟩
  by_cases hz : j.natAbs = 0
  · omega
  · exact Nat.le_of_lt ((Nat.log2_lt hz).mpr (by omega))
theorem atI_mem {α : Type} {ds : List α} {v : Int} (h0 : 0 ≤ v) (h1 : v < ds.length) : ∃ d, d ∈ ds ∧ atI ds v = some d := by
  obtain ⟨j, rfl⟩ := Int.eq_ofNat_of_zero_le h0
  have hj : j < ds.length := by omega
  exact ⟨ds[j], List.getElem_mem hj, atI_nat (List.getElem?_eq_getElem hj)⟩
theorem atL_set {S : Sto} {k : Nat} {ds : List D} (h : k < S.length) : atL (S.set k (.lst ds)) k = some ds := by
  unfold atL; rw [List.getElem?_set_self h]
theorem small_line {n : Nat} (h : n ≤ 16777216) : n ≤ sizeLine := by rw [sizeLine_eq]; exact h
end DL

namespace DL
open PySem PySem.Spec PyProof.Rows L2
theorem tuple_mul1 (l : Addr) (items : Array Value) (n : Nat) (dd : Option Addr) (sl : Array (Option Value)) (u : Tok) :
    Meets (Builtin.«tuple.__mul__» ⟨[.ref l, .int 1 u], []⟩) (fun _ R s => s.heap.get? l = some { cls := .type "tuple", dict := dd, data := .seq items n, slots := sl } ∧
      R (.ok (.ret (Value.ref l))) s) :=
  .of_wp fun prog w A R s h => by
    obtain ⟨hp, g, d, tk, os⟩ := s
    obtain ⟨hl, h⟩ := h
    have f1 := AutoSeq1.idx_int
    have c0 : (decide ((1 : Int) < -(2 ^ 63)) || decide ((1 : Int) ≥ 2 ^ 63)) = false := by decide
    have c1 : (items.isEmpty || (1 : Int) == 1) = true := by simp
    wp_walk using wpAny_loadPart' hl
    repeat (first
      | (refine wpAny_ite_false (decide_eq_false (by rw [c0]; exact Bool.false_ne_true)) ?_; wp_walk using wpAny_loadPart' hl)
      | (refine wpAny_ite_true (decide_eq_true c1) ?_; wp_walk using wpAny_loadPart' hl))
    exact ⟨_, rfl, h⟩
section
variable {X : Cx} {W : WX}
theorem op_rep1 : OpR X (binaryOp .Mult) (fun x y H Q => ∃ l xs, x = V.ref l ∧ y = V.int 1 ∧ SqT X.K H l xs ∧ Q (.ref l) H) := by
  intro pins s σ H x y v u Q I rx ry h
  obtain ⟨l, xs, rfl, rfl, hT, q⟩ := h
  cases rx
  obtain ⟨t, rfl⟩ := ry
  obtain ⟨its, r, ⟨⟨cls, dd, data, sl⟩, ho, hc, n, hd⟩, hs⟩ := I.tuple hT
  simp only at hc hd
  subst hc hd
  refine wpAny_binaryOp_repeat_ref (T := "tuple") (U := "int") (by decide) ⟨_, ho, rfl⟩ (fun s' => typeIs_int s' 1 t) noFill_tuple_mul F.fills_int_mul F.slot_int_rmul repeat_tuple F.slot_int_index.lookup
    (call_meets F.slot_int_rmul (typeIs_int s 1 t) F.entry_int_rmul (F.args_int_rmul_2 _ _) (int_rmul_tuple 1 t l its.toArray n dd sl)
      ⟨ho, rfl, ⟨_, ho, rfl⟩, call_meets F.slot_tuple_mul ⟨_, ho, rfl⟩ F.entry_tuple_mul (F.args_tuple_mul_2 _ _) (tuple_mul1 l its.toArray n dd sl t) ⟨ho, ?_⟩⟩)
  exact ⟨.ref l, _, I, rfl, q⟩
theorem RDs.repl {K : PySem.W.Frag} {μ : Mu} {H : Hp} {ds : List D} {vs : List V} (h : RDs K μ H ds vs) : ∀ m : Nat, RDs K μ H (List.replicate m ds).flatten (List.replicate m vs).flatten
  | 0 => .nil
  | m + 1 => by rw [List.replicate_succ, List.replicate_succ, List.flatten_cons, List.flatten_cons]; exact h.append (RDs.repl h m)
/-- a tuple once; a list some times -/
def gMulS (x y : D) : M D := fun S => match x, y with
  | .tup ds, .int k => if k = 1 then .ok (.tup ds) S else .bad
  | .lst ds, .int k => if 0 ≤ k ∧ k < 1000000 ∧ ds.length * k.toNat ≤ sizeLine then .ok (.lst (List.replicate k.toNat ds).flatten) S else .bad
  | _, _ => .bad
theorem o_mulS : ORD X W (binaryOp .Mult) gMulS := by
  refine ⟨_, op_rep1.or op_rep, fun x y v w μ S σ H Q r rx ry h => ?_⟩
  unfold gMulS at h
  split at h
  · cases ry
    cases rx with
    | tup h1 h2 =>
      split at h
      · rename_i hk
        subst hk
        exact .inl ⟨_, _, rfl, rfl, h1, h.now r _ (.tup h1 h2)⟩
      · exact h.elim
  · cases ry
    split at h
    · rename_i hl
      obtain ⟨p1, v1, rfl, q1, z1⟩ := iTrk_ok (d := .lst _) rfl r rx
      refine .inr ⟨_, _, _, rfl, rfl, q1, by omega, by omega, by rw [← z1.length]; exact hl.2.2, fun p hp => ?_⟩
      exact h μ _ (Stp.new hp) (r.new hp) _ (.lst upd_same ⟨fun z => r.there z hp, fun z => r.hid _ z hp⟩ ((z1.step r (Stp.new hp)).repl _))
    · exact h.elim
  · exact h.elim
end
section
variable {F : D → Sto → Prop} {E : Exc → Sto → Prop} {S : Sto}
theorem gMulS_tup {ds : List D} : wp (gMulS (.tup ds) (.int 1) S) F E ↔ F (.tup ds) S := by
  unfold gMulS; exact Iff.rfl
theorem gMulS_lst4 {d : D} : wp (gMulS (.lst [d]) (.int 4) S) F E ↔ F (.lst [d, d, d, d]) S := by
  unfold gMulS
  simp only []
  rw [if_pos ⟨by decide, by decide, by rw [sizeLine_eq]; show 1 * 4 ≤ 16777216; decide⟩]
  exact Iff.rfl
end
end DL

/-! DLT: texts by one sign parted. -/
namespace DL
open PySem L2
def jn (c : Nat) : List (List Nat) → List Nat
  | [] => []
  | [x] => x
  | x :: y :: r => x ++ c :: jn c (y :: r)
theorem jn_cons {c : Nat} {x : List Nat} {r : List (List Nat)} (h : r ≠ []) : jn c (x :: r) = x ++ c :: jn c r := by
  cases r with
  | nil => exact absurd rfl h
  | cons y r => rfl
theorem pre_uniq {c : Nat} : ∀ {a b u v : List Nat}, c ∉ a → c ∉ b → a ++ c :: u = b ++ c :: v → a = b ∧ u = v
  | [], [], _, _, _, _, e => by simpa using e
  | [], y :: b, _, _, _, hb, e => by simp at e; exact absurd (by simp [e.1]) hb
  | x :: a, [], _, _, ha, _, e => by simp at e; exact absurd (by simp [e.1]) ha
  | x :: a, y :: b, u, v, ha, hb, e => by
    simp only [List.cons_append, List.cons.injEq] at e
    obtain ⟨h1, h2⟩ := pre_uniq (fun z => ha (List.mem_cons_of_mem _ z)) (fun z => hb (List.mem_cons_of_mem _ z)) e.2
    exact ⟨by rw [e.1, h1], h2⟩
theorem jn_uniq {c : Nat} : ∀ {p q : List (List Nat)}, p ≠ [] → q ≠ [] → (∀ x ∈ p, c ∉ x) → (∀ x ∈ q, c ∉ x) → jn c p = jn c q → p = q
  | [], _, h, _, _, _, _ => absurd rfl h
  | _, [], _, h, _, _, _ => absurd rfl h
  | [x], [y], _, _, _, _, e => by simpa [jn] using e
  | [x], y :: z :: r, _, _, hp, _, e => by
    simp only [jn] at e
    exact absurd (show c ∈ x by rw [e]; simp) (hp x (by simp))
  | x :: z :: r, [y], _, _, _, hq, e => by
    simp only [jn] at e
    exact absurd (show c ∈ y by rw [← e]; simp) (hq y (by simp))
  | x :: z :: r, y :: w :: s, _, _, hp, hq, e => by
    simp only [jn] at e
    obtain ⟨h1, h2⟩ := pre_uniq (hp x (by simp)) (hq y (by simp)) e
    rw [h1, jn_uniq (by simp) (by simp) (fun t ht => hp t (List.mem_cons_of_mem _ ht)) (fun t ht => hq t (List.mem_cons_of_mem _ ht)) h2]
theorem app_toList (a b : Str) : (a ++ b).cps.toList = a.cps.toList ++ b.cps.toList := by
  show (a.cps ++ b.cps).toList = _
  simp
theorem str_ext {a b : Str} (h : a.cps.toList = b.cps.toList) : a = b := by
  cases a; cases b
  simp only at h
  congr
  exact Array.toList_inj.mp h
theorem join_toList (c : Nat) : ∀ ps : List Str, (Str.join ⟨#[c]⟩ ps).cps.toList = jn c (ps.map fun p => p.cps.toList)
  | [] => rfl
  | [x] => rfl
  | x :: y :: r => by
    show ((x ++ (⟨#[c]⟩ : Str)) ++ Str.join ⟨#[c]⟩ (y :: r)).cps.toList = _
    rw [app_toList, app_toList, join_toList c (y :: r)]
    simp [jn]
theorem split_join {c : Nat} {ps : List Str} (h0 : ps ≠ []) (hf : ∀ p ∈ ps, c ∉ p.cps.toList) : Txt.split (Str.join ⟨#[c]⟩ ps) ⟨#[c]⟩ = ps := by
  have h1 := StrLaws.join_split (Str.join ⟨#[c]⟩ ps) ⟨#[c]⟩
  have h2 := StrLaws.split_free (Str.join ⟨#[c]⟩ ps) c
  have h3 : Txt.split (Str.join ⟨#[c]⟩ ps) ⟨#[c]⟩ ≠ [] := fun e => by
    have := PyProof.Rows.split_pos (Str.join ⟨#[c]⟩ ps) ⟨#[c]⟩
    rw [e] at this
    simp at this
  generalize Txt.split (Str.join ⟨#[c]⟩ ps) ⟨#[c]⟩ = qs at *
  have h4 : jn c (qs.map fun p => p.cps.toList) = jn c (ps.map fun p => p.cps.toList) := by rw [← join_toList, ← join_toList, h1]
  have h5 := jn_uniq (by simpa using h3) (by simpa using h0) (by simpa using h2) (by simpa using hf) h4
  exact (List.map_inj_right (fun a b e => str_ext e)).mp h5
theorem split_two {c : Nat} {a b : Str} (ha : c ∉ a.cps.toList) (hb : c ∉ b.cps.toList) : Txt.split (a ++ ⟨#[c]⟩ ++ b) ⟨#[c]⟩ = [a, b] := by
  have := split_join (c := c) (ps := [a, b]) (by simp) (fun p hp => by simp only [List.mem_cons, List.not_mem_nil, or_false] at hp; rcases hp with rfl | rfl <;> assumption)
  exact this
end DL

/-! DLR: list(reversed(x)) -/
namespace DL
open PySem PySem.Spec PyProof.Rows L2 RT
section
variable {prog : Program} {w : World} {A : Around} {E : Value → Shared → Prop} {s : Shared}
theorem init_list_rev {R : Result → Shared → Prop} {it l : Addr} {items : Array Value} (hh : A.handled = none) (hit : s.heap.IsRevIter it l ((items.size : Int) - 1)) (hl : s.heap.IsList l items) (hne : l ≠ it) (hn : items.size ≤ sizeLine) (Z : Addr) (hZl : Z ≠ l)
    (hZ : s.heap.get? Z = some { cls := .type "list", data := .seq #[] })
    (hR : ∀ (h' : Heap) (tk : Nat) (acc : Array Value) (c' : Nat), (∀ b o, b ≠ it → b ≠ Z → s.heap.get? b = some o → h'.get? b = some o) → h'.get? Z = some { cls := .type "list", dict := none, data := .seq acc c', slots := #[] } →
      ItemsOf (fun i v => items[items.size - 1 - i]? = some v) acc items.size → R (.ok (.ret .none)) { s with heap := h', toks := tk }) :
    wpAny (model prog w) A.in1 (Builtin.«list.__init__» ⟨[.ref Z, .ref it], []⟩)
      (fun fin s' => match fin with | .done f => R (.ok f) s' | .again c' => c'.quiet = true ∧ codeAny (model prog w) A c' R s') (fun e s' => R (.error e) s') s := by
  have hh1 : A.in1.handled = none := hh
  have W := (Walks.listRev (prog := prog) (w := w) (A := A.in1) hh1 it l hne items).toS
  obtain ⟨oi, hoi, hoc, hod⟩ := id hit
  obtain ⟨ol, hol, _⟩ := id hl
  have hSi : Z ≠ it := fun e => by
    rw [e, hoi] at hZ
    have q := congrArg Obj.cls (Option.some.inj hZ)
    rw [hoc] at q
    injection q with q
    exact absurd q (by decide)
  have hSf : Z ∉ [it, l] := by simp only [List.mem_cons, List.not_mem_nil, or_false, not_or]; exact ⟨hSi, hZl⟩
  show wpAny _ _ (do let old ← Builtin.List.listItems (.ref Z); Builtin.List.listUpdate (.ref Z) (fun _ => #[]); letGo old.toList.reverse; Builtin.List.listExtendWith (.ref Z) (.ref it) .none) _ _ s
  refine wpAny_bind ?_
  unfold Builtin.List.listItems
  refine wpAny_bind (wpAny_seqItems hZ rfl (wpAny_pure ?_))
  show wpAny _ _ (updateSeq Z (fun _ => #[]) >>= fun _ => letGo (#[] : Array Value).toList.reverse >>= fun _ => Builtin.List.listExtendWith (.ref Z) (.ref it) .none) _ _ s
  refine wpAny_bind (wpAny_updateSeq hZ rfl ?_)
  have hZ2 := Heap.get?_update_self (Obj.mapSeq (fun _ => (#[] : Array Value))) hZ rfl
  have oth : ∀ b o, b ≠ Z → s.heap.get? b = some o → (s.heap.update Z (Obj.mapSeq (fun _ => (#[] : Array Value)))).get? b = some o :=
    fun b o hb e => (Heap.get?_update_other _ _ (Ne.symm hb)).trans e
  refine wpAny_bind (wpAny_letGo ?_)
  have hit1 : (s.heap.update Z (Obj.mapSeq (fun _ => (#[] : Array Value)))).IsRevIter it l ((items.size : Int) - 1) := hit.at fun o e => oth it o (Ne.symm hSi) e
  obtain ⟨ol', hol', hlc, nl, hld⟩ := id hl
  have hl1 : (s.heap.update Z (Obj.mapSeq (fun _ => (#[] : Array Value)))).IsList l items := ⟨ol', oth l ol' (Ne.symm hZl) hol', hlc, nl, hld⟩
  have hT : ({ s with heap := s.heap.update Z (Obj.mapSeq (fun _ => (#[] : Array Value))) } : Shared).TypeIs (.ref it) "list_reverseiterator" := Heap.IsRevIter.typeIs (s := { s with heap := s.heap.update Z (Obj.mapSeq (fun _ => (#[] : Array Value))) }) hit1
  have h1 : Builtin.List.listSameRef (.ref Z) (.ref it) = false := by simp [Builtin.List.listSameRef, hSi]
  unfold Builtin.List.listExtendWith
  refine wpAny_bind (wpAny_typeOf hT ?_)
  rw [if_neg (by rw [h1]; decide)]
  refine wpAny_bind (wpAny_pyIter_revIter (s := { s with heap := s.heap.update Z (Obj.mapSeq (fun _ => (#[] : Array Value))) }) hit1 ?_)
  refine wpAny_bind (wpAny_holding ?_)
  unfold Builtin.List.listLengthHint
  refine wpAny_bind (wpAny_specialOf hT nolen_lri ?_)
  show wpAny _ A.in1 (specialOf (Value.ref it) (Str.ofString "__length_hint__") >>= _) _ _ _
  refine wpAny_bind (wpAny_specialOf hT hint_lri ?_)
  generalize hid : ("list_reverseiterator.__length_hint__" : String) = id0
  wp_delta
  rw [show splitId id0 = some ("list_reverseiterator", "__length_hint__") from by subst hid; decide +kernel]
  subst hid
  refine wpAny_bind (wpAny_isInstance (b := true) hT (by rw [isSubtype_type]; kernel_rfl) ?_)
  refine wpAny_pure ?_
  rw [if_neg (by decide)]
  have e0 : ((items.size : Nat) : Int) - 1 - ((0 : Nat) : Int) = (items.size : Int) - 1 := by omega
  refine wpAny_pure ⟨plainId_quiet F.plain_extend_loop _, codeAny_extend_loopS W hn _ hSf _ items.size 0 _ _ _ rfl (Nat.zero_le _) ⟨Nat.zero_le _, by rw [e0]; exact hit1, hl1⟩ hZ2 (ItemsOf.nil _) fun s' acc' c' hm hS' hacc => ?_⟩
  rw [Moved.eq_with hm]
  refine hR s'.heap s'.toks acc' c' (fun b o hb hb2 e => hm.heap b o (fun hmem => ?_) (oth b o hb2 e)) hS' hacc
  rcases List.mem_cons.mp hmem with e' | hmem
  · exact hb2 e'
  · exact hb (List.mem_singleton.mp hmem)
theorem call_list_rev {it l : Addr} {items : Array Value} {Q : Value → Shared → Prop} (hh : A.handled = none) (hit : s.heap.IsRevIter it l ((items.size : Int) - 1)) (hl : s.heap.IsList l items) (hne : l ≠ it) (hn : items.size ≤ sizeLine)
    (hQ : ∀ (h' : Heap) (tk : Nat) (acc : Array Value) (c' : Nat), (∀ b o, b ≠ it → s.heap.get? b = some o → h'.get? b = some o) → h'.get? s.heap.objs.size = some { cls := .type "list", dict := none, data := .seq acc c', slots := #[] } →
      ItemsOf (fun i v => items[items.size - 1 - i]? = some v) acc items.size → Q (.ref s.heap.objs.size) { s with heap := h', toks := tk }) :
    wpAny (model prog w) A (call (.type "list") [.ref it]) Q E s := by
  obtain ⟨ol, hol, _⟩ := id hl
  refine callType_codes (Q₁ := fun obj s₁ => obj = .ref s.heap.objs.size ∧ s₁ = { s with heap := s.heap.push { cls := .type "list", data := .seq #[] } }) F.called_list (F.typeCall_list_1 _) F.entry_list_init
    (code_list_new _ ⟨rfl, rfl⟩) fun obj s₁ h₁ => ?_
  obtain ⟨rfl, rfl⟩ := h₁
  have hS : (s.heap.push { cls := .type "list", data := .seq #[] }).get? s.heap.objs.size = some { cls := .type "list", data := .seq #[] } := Heap.get?_push_size _ rfl
  refine ⟨⟨_, hS, rfl⟩, F.args_list_init_2 _ _, init_list_rev (A := A.in1) hh (hit.at fun o e => Heap.get?_push_of_some _ e) (hl.push _) hne hn _ (Nat.ne_of_gt (Heap.lt_size hol)) hS fun h' tk acc c' hk hS' hacc => ?_⟩
  exact ⟨rfl, hQ h' tk acc c' (fun b o hb e => hk b o hb (Nat.ne_of_lt (Heap.lt_size e)) (Heap.get?_push_of_some _ e)) hS' hacc⟩
end
end DL

namespace DL
open PySem PySem.Spec PyProof.Rows L2 RT
section
variable {X : Cx} {W : WX} {pos : Pos}
def tLstRev (K : PySem.W.Frag) (te : TE) : TE := fun σ H Q => te σ H fun v H1 => ∃ (a : Addr) (xs : List V), v = .ref a ∧ SqL K H1 a xs ∧ ∀ q, H1 q = none → Q (.ref q) (upd H1 q (.lst xs.reverse))
theorem pe_listRev {e : Expr} {te : TE} {p p2 pos2 : Pos} (hc : X.calm = true) (hg : Gl X "list") (hm : X.mg "list" = none) (hg2 : Gl X "reversed") (hm2 : X.mg "reversed" = none) (he : PE X e te)
    (hs : starEach [e] X.env = (false, eval e X.env) :: starEach [] X.env := by rfl)
    (hs2 : starEach [.Call (.Name "reversed" p2) [e] [] pos2] X.env = (false, eval (.Call (.Name "reversed" p2) [e] [] pos2) X.env) :: starEach [] X.env := by rfl) :
    PE X (.Call (.Name "list" p) [.Call (.Name "reversed" p2) [e] [] pos2] [] pos) (tLstRev X.K te) := by
  refine ⟨fun pins s σ H Q I h => ?_⟩
  refine Call_ (ld_blt I hg hm boot_list (PyProof.Rows.callWith_type1 (args_cons (Call_ (ld_blt I hg2 hm2 PyProof.Rows.boot_reversed (PyProof.Rows.callWith_type1 (args_cons (thn (he.run pins s σ H _ I h) fun u s1 ⟨v, H1, I1, r1, q1⟩ => args_nil ?_) hs) hs rfl))) hs2) hs2 rfl))
  obtain ⟨a, xs, ev, hq, q⟩ := q1
  subst ev
  obtain rfl : u = Value.ref a := r1
  obtain ⟨its, rv, p', hz⟩ := I1.list hq
  refine call_reversed_list p'.isList (args_nil ?_)
  have k0 : ∀ b o, s1.heap.get? b = some o → (s1.heap.push (revObj a ((its.toArray.size : Int) - 1))).get? b = some o := fun b o e => Heap.get?_push_of_some _ e
  have I2 : Inv X pins σ H1 { s1 with heap := s1.heap.push (revObj a ((its.toArray.size : Int) - 1)) } := I1.kept (t' := s1.toks) k0
  have hfp := I1.fpOk (H' := H1) (b := s1.heap.objs.size) (Nat.le_refl _) (I1.hok.fresh (Nat.le_refl _))
  have hl := p'.isList
  obtain ⟨ol, hol, _⟩ := id hl
  have hne : a ≠ s1.heap.objs.size := Nat.ne_of_lt (Heap.lt_size hol)
  have hn : its.toArray.size ≤ sizeLine := by rw [List.size_toArray, ← rv.length]; exact hz
  refine call_list_rev (s := { s1 with heap := s1.heap.push (revObj a ((its.toArray.size : Int) - 1)) }) (I1.ok.hd hc) ⟨_, Heap.get?_push_size _ rfl, rfl, rfl⟩ (hl.push _) hne hn fun h' tk acc c' hk hS hi => ?_
  have I3 := I2.turnedNew (t' := tk) (ch := [s1.heap.objs.size]) (ob := .lst xs.reverse) (fun b o hb e => hk b o (fun z => hb (by simp [z])) e) (fun b hb => by
    have z : b = s1.heap.objs.size := by simpa using hb
    rw [z]; exact hfp) (Nat.le_refl _) (show ObjOk X.prog X.w _ _ _ (.lst xs.reverse) from ⟨by rw [List.length_reverse]; exact hz, acc.toList, c', vals_rev rv hi, by rw [Array.toArray_toList]; exact hS⟩)
  exact ⟨.ref (s1.heap.push (revObj a ((its.toArray.size : Int) - 1))).objs.size, _, I3, rfl, q _ (I2.hok.fresh (Nat.le_refl _))⟩
/-- list(reversed(x)), to be changed or not -/
def gRevL (mu : Bool) (x : D) : M D := gRev mu x
theorem d_listRev (mu : Bool) {e : Expr} {te : EvD} {p p2 pos2 : Pos} (hc : X.calm = true) (hg : Gl X "list") (hm : X.mg "list" = none) (hg2 : Gl X "reversed") (hm2 : X.mg "reversed" = none) (he : PE X e (tD X.K X.mg W te))
    (hs : starEach [e] X.env = (false, eval e X.env) :: starEach [] X.env := by rfl)
    (hs2 : starEach [.Call (.Name "reversed" p2) [e] [] pos2] X.env = (false, eval (.Call (.Name "reversed" p2) [e] [] pos2) X.env) :: starEach [] X.env := by rfl) :
    PE X (.Call (.Name "list" p) [.Call (.Name "reversed" p2) [e] [] pos2] [] pos) (tD X.K X.mg W (eUn (gRev mu) te)) := by
  refine PE.imp (pe_listRev hc hg hm hg2 hm2 he hs hs2) fun σ H Q ⟨ρ, S, μ, e, s, h⟩ => ?_
  refine ⟨ρ, S, μ, e, s, h.bnd fun x S1 μ1 H1 s1 r1 h1 v rv => ?_⟩
  unfold gRev at h1
  split at h1
  · rename_i ds e
    obtain ⟨a, vs, rfl, q, z⟩ := iSeq_ok e r1 rv
    refine ⟨a, vs, rfl, q, fun p hp => ?_⟩
    split at h1
    · exact h1 (μ1.push p) _ (Stp.alloc hp) (r1.alloc hp ⟨_, upd_same, (z.step r1 (Stp.alloc hp)).reverse⟩) _ (new_ref r1)
    · exact h1 μ1 _ (Stp.new hp) (r1.new hp) _ (.lst upd_same ⟨fun z => r1.there z hp, fun z => r1.hid _ z hp⟩ (z.step r1 (Stp.new hp)).reverse)
  · exact h1.elim
/-- reversed(x), x a tuple -/
theorem it_revT {K : PySem.W.Frag} {a : Addr} {ds : List D} : ItOk K (ItvT K a ds.length) none ds.reverse (fun μ H => RD K μ H (.tup ds) (.ref a)) where
  go := fun i μ S H hi r _ g => by
    have hi' : i < ds.length := by simpa using hi
    cases g with
    | tup q z =>
      obtain ⟨v, ev, _⟩ := z.get (List.getElem?_eq_getElem (show ds.length - 1 - i < ds.length by omega))
      exact ⟨hi', _, v, q, ev⟩
  yld := fun i x μ S H H' hi r _ g y => by
    have hi' : i < ds.length := by simpa using hi
    obtain ⟨rfl, y⟩ := y
    cases g with
    | tup q z =>
      obtain ⟨v, ev, rv⟩ := z.get (List.getElem?_eq_getElem (show ds.length - 1 - i < ds.length by omega))
      have := y _ q
      rw [this] at ev
      cases ev
      refine ⟨.refl, r, _, ?_, rv⟩
      rw [List.getElem?_reverse hi', List.getElem?_eq_getElem]
  stop := fun μ S H r _ g => by show ds.length ≤ _; simp
  step := fun μ S H μ' H' g r s => RD.step g r s
  hide := fun μ H p o g h => RD.hide h _ _ g
  seen := fun μ H p xs ys g h => RD.seen h _ _ g
def srcV (d : D) : M (Option Nat × List D) := fun S => match d with
  | .tup ds => .ok (none, ds.reverse) S
  | _ => .bad
def iRev (a : EvD) : EvI := fun ρ => bnd (a ρ) srcV
theorem i_rev {tg e : Expr} {te : EvD} {p pos : Pos} (hg : Gl X "reversed") (hm : X.mg "reversed" = none) (he : PE X e (tD X.K X.mg W te)) (hs : starEach [e] X.env = (false, eval e X.env) :: starEach [] X.env := by rfl) : PI X tg (.Call (.Name "reversed" p) [e] [] pos) (tI X.K X.mg W (iRev te)) := by
  refine PI.imp (pi_revA hg hm he hs) fun σ H R ⟨ρ, S, μ, e, s, h⟩ => ?_
  refine ⟨ρ, S, μ, e, s, h.bnd fun x S1 μ1 H1 s1 r1 h1 v rv => ?_⟩
  unfold srcV at h1
  split at h1
  · have rv0 := rv
    cases rv with
    | @tup a vs _ q z =>
      refine ⟨a, vs, rfl, .inr ⟨q, ?_⟩⟩
      rw [← z.length]
      exact h1.now r1 _ _ it_revT rv0
  · exact h1.elim
/-- + of lists: a list that will be changed -/
def gAddM (x y : D) : M D := fun S => match iTrk S x, iTrk S y with
  | some a, some b => if a.length + b.length ≤ sizeLine then .ok (.ref S.length) (S ++ [.lst (a ++ b)]) else .bad
  | _, _ => .bad
theorem o_addM : ORD X W (binaryOp .Add) gAddM := by
  refine ⟨_, op_cat, fun x y v w μ S σ H Q r rx ry h => ?_⟩
  unfold gAddM at h
  split at h
  · rename_i a b ea eb
    split at h
    · rename_i hl
      obtain ⟨p1, v1, rfl, q1, z1⟩ := iTrk_ok ea r rx
      obtain ⟨p2, v2, rfl, q2, z2⟩ := iTrk_ok eb r ry
      rw [z1.length, z2.length] at hl
      refine ⟨_, _, _, _, rfl, rfl, q1, q2, hl, fun p hp => ?_⟩
      exact h (μ.push p) _ (Stp.alloc hp) (r.alloc hp ⟨_, upd_same, (z1.step r (Stp.alloc hp)).append (z2.step r (Stp.alloc hp))⟩) _ (new_ref r)
    · exact h.elim
  · exact h.elim
end
end DL

/-! DLR3: comprehensions whose list will be changed -/
namespace DL
open PySem L2
section
variable {K : PySem.W.Frag} {μ : Mu} {S : Sto} {H : Hp}
mutual
theorem RD.reveal {p : Addr} : ∀ (d : D) (v : V), RD K (μ.hide p) H d v → RD K (μ.push p) H d v
  | .non, _, h => by cases h; exact .non
  | .bl _, _, h => by cases h; exact .bl _
  | .int _, _, h => by cases h; exact .int _
  | .str _, _, h => by cases h; exact .str _
  | .fn _, _, h => by cases h with | fn q => exact .fn q
  | .tup ds, _, h => by cases h with | tup h1 h2 => exact .tup h1 (RDs.reveal ds _ h2)
  | .fl ds, _, h => by cases h with | fl h1 h2 => exact .fl h1 (RDs.reveal ds _ h2)
  | .lst ds, _, h => by
    cases h with
    | lst h1 h0 h2 =>
      refine .lst h1 ⟨fun z => ?_, fun z => h0.2 (List.mem_cons_of_mem _ z)⟩ (RDs.reveal ds _ h2)
      rcases List.mem_append.mp z with z | z
      · exact h0.1 z
      · exact h0.2 (by rw [List.mem_singleton.mp z]; exact List.mem_cons_self)
  | .ref n, _, h => by
    cases h with
    | ref h1 =>
      refine .ref ?_
      have h1' : μ.v[n]? = some _ := h1
      show (μ.v ++ [p])[n]? = _
      rw [List.getElem?_append_left (List.getElem?_eq_some_iff.mp h1').1]; exact h1'
theorem RDs.reveal {p : Addr} : ∀ (ds : List D) (vs : List V), RDs K (μ.hide p) H ds vs → RDs K (μ.push p) H ds vs
  | [], _, h => by cases h; exact .nil
  | d :: ds, _, h => by
    cases h with
    | cons h1 h2 => exact .cons (RD.reveal d _ h1) (RDs.reveal ds _ h2)
end
theorem Rel.reveal {p : Addr} {xs : List V} {ds : List D} (r : Rel K (μ.hide p) S H) (hp : H p = some (.lst xs)) (hd : RDs K (μ.hide p) H ds xs) (hpx : p ∉ μ.x) : Rel K (μ.push p) (S ++ [.lst ds]) H := by
  have hn : p ∉ μ.v := fun z => r.apt p z List.mem_cons_self
  refine ⟨by simp [Mu.push, r.show.len], ?_, fun i a m h1 h2 => ?_, fun a ha => r.hid a (List.mem_cons_of_mem _ ha), fun a ha hx => ?_⟩
  · show (μ.v ++ [p]).Nodup
    rw [List.nodup_append]
    exact ⟨r.show.nd, by simp, fun x hx y hy => by rw [List.mem_singleton.mp hy]; exact fun e => hn (e ▸ hx)⟩
  · have hl : S.length = μ.v.length := r.show.len.symm
    by_cases hi : i < S.length
    · rw [List.getElem?_append_left hi] at h2
      have h1' : (μ.v ++ [p])[i]? = some a := h1
      rw [List.getElem?_append_left (by omega)] at h1'
      exact (r.obj i a m h1' h2).map rfl RD.reveal RDs.reveal
    · have h2' := h2
      rw [List.getElem?_append_right (by omega)] at h2'
      have hi0 : i = S.length := by
        have := (List.getElem?_eq_some_iff.mp h2).1
        simp at this; omega
      subst hi0
      simp at h2'
      subst h2'
      have h1' : (μ.v ++ [p])[S.length]? = some a := h1
      rw [hl, List.getElem?_append_right (Nat.le_refl _)] at h1'
      simp at h1'
      subst h1'
      exact ⟨xs, hp, RDs.reveal _ _ hd⟩
  · rcases List.mem_append.mp ha with z | z
    · exact r.show.apt a z hx
    · exact hpx (by rw [← List.mem_singleton.mp z]; exact hx)
noncomputable def eCompM (it : EvI) (tgt : D → Rho → Option Rho) (test : EvB) (el : EvD) (vs : List Nat) : EvD := fun ρ => bnd (it ρ) fun p => noEx (fun S => if p.2.length ≤ sizeLine then
  (match compM p.1 p.2 tgt test el (wipeR ρ vs) p.2 S with
    | .ok ys S' => .ok (.ref S'.length) (S' ++ [.lst ys])
    | .ex e S' => .ex e S'
    | .bad => .bad) else .bad)
end
section
variable {X : Cx} {W : WX} {tg : Expr}
theorem comp_okM {it : EvI} {tgt : D → Rho → Option Rho} {g : TG} {test : EvB} {el : EvD} {is vs : List Nat} (hG : GRD X is tgt g) (his : ∀ i ∈ is, i ∈ vs) {σ : L2.St} {H : Hp} {Q : VK}
    (hh : tD X.K X.mg W (eCompM it tgt test el vs) σ H Q) : tLc (tI X.K X.mg W it) g (tT X.K X.mg W0 test) (tD X.K X.mg W0 el) vs σ H Q := by
  obtain ⟨ρ, S, μ, e, s, h⟩ := hh
  refine ⟨ρ, S, μ, e, s, h.bnd fun p S1 μ1 H1 s1 r1 h1 J G io gg D hD => ?_⟩
  obtain ⟨src, all⟩ := p
  simp only [] at io h1
  -- what the denotation says
  obtain ⟨hlen, fin⟩ : all.length ≤ sizeLine ∧ okR (compM src all tgt test el (wipeR ρ vs) all S1) (fun ys S' => ∀ μ' H', Stp μ1 H1 μ' H' → Rel X.K μ' (S' ++ [.lst ys]) H' → QD X.K Q (.ref S'.length) μ' H') := by
    unfold noEx at h1
    simp only [] at h1
    by_cases hl : all.length ≤ sizeLine
    · refine ⟨hl, ?_⟩
      rw [if_pos hl] at h1
      cases ec : compM src all tgt test el (wipeR ρ vs) all S1 with
      | ok ys S' => rw [ec] at h1; exact h1
      | ex e S' => rw [ec] at h1; exact h1
      | bad => rw [ec] at h1; exact h1
    · rw [if_neg hl] at h1; exact h1.elim
  have hDx : D ∉ μ1.x := fun z => r1.hid D z hD
  let Inv (i : Nat) (Hc : Hp) : Prop := ∃ Sc μc acc as, i ≤ all.length ∧ Stp μ1 H1 μc Hc ∧ Rel X.K (μc.hide D) Sc Hc ∧ RE X.K (μc.hide D) Hc (L2.wipe σ vs) (wipeR ρ vs) ∧ G (μc.hide D) Hc ∧ Hc D = some (.lst acc) ∧ RDs X.K (μc.hide D) Hc as acc ∧ as.length ≤ i ∧
    okR (compM src all tgt test el (wipeR ρ vs) (all.drop i) Sc) (fun ys S' => ∀ μ' H', Stp μ1 H1 μ' H' → Rel X.K μ' (S' ++ [.lst (as ++ ys)]) H' → QD X.K Q (.ref S'.length) μ' H')
  refine ⟨fun i m Hc => m = all.length - i ∧ Inv i Hc, ⟨all.length, by simp, ?_⟩, ?_⟩
  · refine ⟨S1, μ1, [], [], Nat.zero_le _, Stp.new hD, r1.hide hD, ((e.step s s1).wipe vs).mapR (RD.hide hD), io.hide _ _ _ _ gg hD, upd_same, .nil, Nat.le_refl _, ?_⟩
    simpa using fin
  · rintro i m Hc ⟨rfl, Sc, μc, acc, as, hi2, st, rel, re, hG2, hacc, rds, hal, done⟩
    by_cases hlt : i < all.length
    · right
      have hdrop : all.drop i = all[i] :: all.drop (i + 1) := List.drop_eq_getElem_cons hlt
      rw [hdrop] at done
      unfold compM at done
      by_cases hlive : liveOk src all Sc
      · rw [if_pos hlive] at done
        split at done
        · rename_i ρ1 hρ1
          refine ⟨io.go i _ Sc Hc hlt rel hlive hG2, fun H' => Inv (i + 1) H', fun H' q => ⟨all.length - (i + 1), by omega, rfl, q⟩, fun x H' y => ?_⟩
          obtain ⟨sy, ry, d, hd, rd⟩ := io.yld i x _ Sc Hc H' hlt rel hlive hG2 y
          rw [List.getElem?_eq_getElem hlt] at hd
          cases hd
          obtain ⟨μy, ey, sty⟩ := sy.show
          have eμ : μy = μc := by
            obtain ⟨v1, x1⟩ := μy
            obtain ⟨v2, x2⟩ := μc
            simp only [Mu.hide, Mu.mk.injEq, List.cons.injEq, true_and] at ey
            obtain ⟨rfl, rfl⟩ := ey
            rfl
          subst eμ
          have notv : ∀ (μ : Mu) (Sx : Sto) (Hx : Hp), Rel X.K (μ.hide D) Sx Hx → D ∉ (μ.hide D).v := fun μ Sx Hx r z => r.apt D z List.mem_cons_self
          have haccy : H' D = some (.lst acc) := sy.keep D _ hacc (notv _ _ _ rel)
          refine hG _ _ _ ρ1 _ _ Sc H' _ (re.step rel sy) ry rd hρ1 fun σ2 re2 hw => ⟨(hw vs his).trans (wipe_twice σ vs), ρ1, Sc, _, re2, ry, ?_⟩
          have done2 := okR_bnd done
          refine okR_post done2 fun b S2 μ2 H3 db s3 r3 => ?_
          obtain ⟨μ2', rfl, st3⟩ := s3.show
          have haccb : H3 D = some (.lst acc) := s3.keep D _ haccy (notv _ _ _ ry)
          have rds3 := (rds.step rel sy).step ry s3
          have re3 := (re.step rel sy).step ry s3
          have g3 := io.step _ _ _ _ _ (io.step _ _ _ _ _ hG2 rel sy) ry s3
          have stt := (st.trans sty).trans st3
          cases b with
          | false =>
            rw [if_neg Bool.false_ne_true] at db ⊢
            exact ⟨S2, μ2', acc, as, hlt, stt, r3, re3, g3, haccb, rds3, Nat.le_succ_of_le hal, db⟩
          | true =>
            rw [if_pos rfl] at db ⊢
            refine ⟨ρ1, S2, _, re2.step ry s3, r3, ?_⟩
            refine okR_post (okR_bnd db) fun yv S4 μ4 H4 d4 s4 r4 v rv => ?_
            obtain ⟨μ4', rfl, st4⟩ := s4.show
            have hacc4 : H4 D = some (.lst acc) := s4.keep D _ haccb (notv _ _ _ r3)
            have rds4 := rds3.step r3 s4
            refine ⟨acc, hacc4, by rw [← rds4.length]; omega, S4, μ4', acc ++ [v], as ++ [yv], hlt, (stt.trans st4).side hD, r4.seen hacc4, (re3.step r3 s4).mapR (RD.seen hacc4), io.seen _ _ _ _ _ (io.step _ _ _ _ _ g3 r3 s4) hacc4, upd_same,
              RDs.seen hacc4 _ _ (rds4.append (.cons rv .nil)), by simp; omega, ?_⟩
            have d5 := okR_bnd d4
            unfold okR at d5 ⊢
            split
            · rename_i ys S' hys
              rw [hys] at d5
              intro μ' H5 sx rx
              have := d5 μ' H5 sx (by simpa using rx)
              simpa using this
            · rename_i hno
              split at d5
              · rename_i a S' hh; exact absurd hh (hno a S')
              · exact d5
        · exact done.elim
      · rw [if_neg hlive] at done; exact done.elim
    · left
      have hi3 : i = all.length := by omega
      subst hi3
      rw [List.drop_length] at done
      unfold compM at done
      by_cases hlive : liveOk src all Sc
      · rw [if_pos hlive] at done
        refine ⟨io.stop _ Sc Hc rel hlive hG2, ?_⟩
        have z := done (μc.push D) Hc (st.push hD) (by simpa using rel.reveal hacc rds (by rw [st.x]; exact hDx))
        exact z _ (new_ref rel.show)
      · rw [if_neg hlive] at done; exact done.elim
theorem d_compM {elt iter : Expr} {ifs : List Expr} {scope : Scope} {own : List (Str × Nat)} {vs : List Nat} {pos : Pos} {it : EvI} {tgt : D → Rho → Option Rho} {g : TG} {test : EvB} {el : EvD} {is : List Nat} (hc : X.calm = true) (hN : X.N.Nodup)
    (hi : PI X tg iter (tI X.K X.mg W it)) (ok : BlkOk X.N X.env.scope scope own) (hv : own.map (·.2) = vs) (hG : GRD X is tgt g) (his : ∀ i ∈ is, i ∈ vs)
    (hg : ∀ (s : Shared) (H : Hp) (C : Addr) (cl : List (Str × Addr)) (fp : List Addr), PG (X.blk s H scope (compEnvC scope cl C X.env) fp) tg g)
    (ht : ∀ (s : Shared) (H : Hp) (C : Addr) (cl : List (Str × Addr)) (fp : List Addr), PTs (X.blk s H scope (compEnvC scope cl C X.env) fp) ifs (tT X.K X.mg W0 test))
    (he : ∀ (s : Shared) (H : Hp) (C : Addr) (cl : List (Str × Addr)) (fp : List Addr), PE (X.blk s H scope (compEnvC scope cl C X.env) fp) elt (tD X.K X.mg W0 el)) (hs : ∀ x, foldedSetIterable iter X.env x = pure x := by intro _; rfl) :
    PE X (.ListComp elt [⟨tg, iter, ifs, 0⟩] scope pos) (tD X.K X.mg W (eCompM it tgt test el vs)) := by
  subst hv
  exact PE.imp (pe_lc hc hN hi ok hg ht he hs) fun σ H Q h => comp_okM hG his h
theorem s_setLcM (i : Nat) {y : Str} {py : Pos} {tg elt iter : Expr} {ifs : List Expr} {scope : Scope} {own : List (Str × Nat)} {vs : List Nat} {pos spos : Pos} {it : EvI} {tgt : D → Rho → Option Rho} {g : TG} {test : EvB} {el : EvD} {is : List Nat} (hc : X.calm = true) (hN : X.N.Nodup)
    (hi : PI X tg iter (tI X.K X.mg W it)) (ok : BlkOk X.N X.env.scope scope own) (hv : own.map (·.2) = vs) (hG : GRD X is tgt g) (his : ∀ i ∈ is, i ∈ vs)
    (hg : ∀ (s : Shared) (H : Hp) (C : Addr) (cl : List (Str × Addr)) (fp : List Addr), PG (X.blk s H scope (compEnvC scope cl C X.env) fp) tg g)
    (ht : ∀ (s : Shared) (H : Hp) (C : Addr) (cl : List (Str × Addr)) (fp : List Addr), PTs (X.blk s H scope (compEnvC scope cl C X.env) fp) ifs (tT X.K X.mg W0 test))
    (he : ∀ (s : Shared) (H : Hp) (C : Addr) (cl : List (Str × Addr)) (fp : List Addr), PE (X.blk s H scope (compEnvC scope cl C X.env) fp) elt (tD X.K X.mg W0 el))
    (hy : X.N[i]? = some y := by rfl) (hyl : X.env.scope.names.lookup y = some .local := by rfl) (hsw : swapsWith (.ListComp elt [⟨tg, iter, ifs, 0⟩] scope pos) (some (.Name y py)) spos.line X.env = pure true := by exact sw_true rfl rfl rfl (by decide +kernel))
    (hs : ∀ x, foldedSetIterable iter X.env x = pure x := by intro _; rfl) :
    PS X (.Assign [.Name y py] (.ListComp elt [⟨tg, iter, ifs, 0⟩] scope pos) spos) (tS X.K X.mg W (sAsg (gN i) (eCompM it tgt test el vs))) := by
  subst hv
  refine PS.imp (ps_setLc hc hN hy hyl hsw hi ok hg ht he hs) fun E σ H ⟨ρ, S, μ, e, s, h⟩ => ?_
  refine comp_okM hG his ⟨ρ, S, μ, e, s, h.lft e s fun d S1 μ1 H1 s1 r1 e1 h1 v rv => ?_⟩
  exact h1.now r1 _ (e1.set rv i)
end
end DL

/-! DLW: more words for the weakest precondition -/
namespace DL
open PySem L2
section
variable {S : Sto} {F : D → Sto → Prop} {E : Exc → Sto → Prop}
theorem gIx_sign {z : Str} {j : Int} : wp (gIx (.str z) (.int j) S) F E ↔ z.length ≤ sizeLine ∧ ∃ c, atI z.cps.toList j = some c ∧ F (.str ⟨#[c]⟩) S := by
  unfold gIx
  by_cases h : z.length ≤ sizeLine
  · simp only [if_pos h]
    cases e : atI z.cps.toList j with
    | some c => exact ⟨fun q => ⟨h, c, rfl, q⟩, fun ⟨_, c', e, q⟩ => by cases e; exact q⟩
    | none => exact ⟨fun q => q.elim, fun ⟨_, c', e, q⟩ => by cases e⟩
  · simp only [if_neg h]
    exact ⟨fun q => q.elim, fun q => h q.1⟩
theorem rangeD_len {lo : Int} {m : Nat} : (rangeD lo m).length = m := by simp [rangeD]
theorem gTuple_seq {x : D} {ds : List D} (h : iLst S x = some ds) : wp (gTuple [x] S) F E ↔ F (.tup ds) S := by
  unfold gTuple
  simp only [h]
  exact Iff.rfl
theorem atI_last {ds : List D} {x : D} : atI (ds ++ [x]) (-1) = some x := by
  have e : ixN (ds ++ [x]).length (-1) = some ds.length := by
    unfold ixN
    rw [if_neg (by decide), if_pos (by simp; omega)]
    congr 1; simp; omega
  unfold atI; rw [e]; simp
theorem trs {ds : List D} (h : ∀ d ∈ ds, tr d) : D.los 0 ds = true := los_iff ds |>.mpr h
theorem tr_tup {ds : List D} (h : ∀ d ∈ ds, tr d) : tr (.tup ds) := trs h
theorem comp1 {all ds : List D} {d : D} {i : Nat} {el : EvD} {ρ : Rho} {FF : List D → Sto → Prop} : wp (compM none all (gN i) bYes el ρ (d :: ds) S) FF nx ↔ wp (el (ρ.set i (some d)) S) (fun y S1 => wp (compM none all (gN i) bYes el ρ ds S1) (fun ys S2 => FF (y :: ys) S2) nx) nx := by
  have e : compM none all (gN i) bYes el ρ (d :: ds) S = bnd (bYes (ρ.set i (some d))) (fun b => if b = true then bnd (el (ρ.set i (some d))) (fun y => bnd (compM none all (gN i) bYes el ρ ds) fun ys => ret (y :: ys)) else compM none all (gN i) bYes el ρ ds) S := by
    conv => lhs; unfold compM
    rw [if_pos (show liveOk none all S from trivial)]; rfl
  rw [e]
  simp only [wp_ok, wp_ret, wp_stuck, wp_bad, wp_bnd, wp_if, wp_fif, wps_ok_nx, wps_ok_rt, wps_ok_bk, wps_ok_ct, wps_ok_xc, wps_bad, wps_lft, wps_seq, wps_nil, wps_ret, wps_expr, wps_asg, wps_if, wp_run, wps_for, wps_while, wp_comp, wp_var, wp_C, wp_bin, wp_un, wp_T, wp_Tb, wp_asBl, wp_truthBl, wp_bAnd, wp_bOr, wp_bNot, wp_eIf, wp_eAnd, wp_eOr, wp_eNot, blCase_bl, wp_chain, wp_aNil, wp_aCons, wp_tup, wp_lst, wp_lstM, wp_call, wp_cl1, wp_cl2, wp_cl3, wp_cl4, wp_cl5, wp_meth, wp_isi, wp_oNone, wp_oSome, wp_sl, wp_it, wp_range1, wp_range2, wp_bYes, gEq_str, gNe_str, gEq_int, gNe_int, gEq_bl, gNe_bl, gIs_bl, gIsNot_bl, gAdd_int, gSub_int, gC_int, gI_int, gAdd_str, gAdd_tup, gAdd_lst, gNeg_int, gIx_tup, gIx_lst, gLen_tup, gLen_lst, gLen_str, gInt_int, gInt_bl, gTuple_lst, gTuple_tup, gList_lst, gList_tup, gSl_tup, gSl_lst, gSl_fl, gSl_str, srcL_tup, srcL_lst, srcL_fl, srcL_str, srcR1_int, typN, startR, List.map_cons, List.map_nil, List.length_cons, List.length_nil, Nat.reduceAdd, Nat.reduceSub, Nat.zero_add, Nat.sub_self, Nat.sub_zero, List.replicate_zero, List.replicate_succ, List.cons_append, List.nil_append, List.append_nil, List.getElem?_cons_zero, List.getElem?_cons_succ, List.set_cons_zero, List.set_cons_succ, List.set_nil, List.getElem?_nil, Option.some.injEq, exists_eq_left', exists_eq_left, exists_eq_right, reduceCtorEq, false_and, and_false, true_and, and_true, exists_false, exists_const, wipeR, Nat.zero_le, String.reduceEq, D.int.injEq, D.str.injEq, D.bl.injEq, atI_0, atI_1, atI_2, atI_3, atI_4, beq_self_eq_true, not_true_eq_false, not_false_eq_true, Int.cast_ofNat_Int, Int.reduceEq, Int.reduceLE, Int.reduceLT, Int.reduceAdd, Int.reduceSub, Int.reduceMul, Int.reduceNeg, if_true, if_false, ite_true, ite_false, Bool.false_eq_true, if_neg, if_pos, decide_eq_true_eq, Bool.not_eq_true', decide_eq_false_iff_not, eq_self_iff_true, decide_true, decide_false, Bool.not_true, Bool.not_false]
theorem comp0 {all : List D} {i : Nat} {el : EvD} {ρ : Rho} {FF : List D → Sto → Prop} : wp (compM none all (gN i) bYes el ρ [] S) FF nx ↔ FF [] S := by
  have e : compM none all (gN i) bYes el ρ [] S = .ok [] S := by
    unfold compM
    rw [if_pos (show liveOk none all S from trivial)]
  rw [e]; exact Iff.rfl
theorem comp2 {a b : D} {i : Nat} {el : EvD} {ρ : Rho} {FF : List D → Sto → Prop} : wp (compM none [a, b] (gN i) bYes el ρ [a, b] S) FF nx ↔ wp (el (ρ.set i (some a)) S) (fun y S1 => wp (el (ρ.set i (some b)) S1) (fun z S2 => FF [y, z] S2) nx) nx := by
  rw [comp1]
  simp only [comp1, comp0]
theorem los_app {m : Nat} (a b : List D) : D.los m (a ++ b) = (D.los m a && D.los m b) := by
  induction a with
  | nil => simp [D.los]
  | cons x a ih => simp [D.los, ih, Bool.and_assoc]
theorem sl {n : Nat} (h : n ≤ 100) : n ≤ sizeLine := small_line (by omega)
theorem gNs_cons {i : Nat} {t : TgL} {d : D} {ds : List D} {ρ : Rho} : gNs i t (d :: ds) ρ = t ds (ρ.set i (some d)) := rfl
theorem gN0_nil {ρ : Rho} : gN0 [] ρ = some ρ := rfl
theorem gTp_tup {m : Nat} {t : TgL} {ds : List D} {ρ : Rho} (h : ds.length = m) : gTp m t (.tup ds) ρ = t ds ρ := by unfold gTp; simp only [h, if_true]
theorem wps_asgT {tgt : D → Rho → Option Rho} {e : EvD} {ρ : Rho} {N B C : Rho → Sto → Prop} {T : D → Sto → Prop} {X : Exc → Rho → Sto → Prop} : wps (sAsg tgt e ρ S) N T B C X ↔ wp (e ρ S) (fun d S' => ∃ ρ', tgt d ρ = some ρ' ∧ N ρ' S') (fun e S' => X e ρ S') := by
  unfold sAsg; rw [wps_lft]
  constructor <;> intro h <;> refine wp_mono h (fun d S' h => ?_) (fun _ _ h => h)
  · cases e : tgt d ρ with
    | some ρ' => simp only [e] at h; exact ⟨ρ', rfl, h⟩
    | none => simp only [e] at h; exact h.elim
  · obtain ⟨ρ', e, h⟩ := h
    simp only [e]; exact h
theorem wps_asgTp {m : Nat} {t : TgL} {e : EvD} {ρ : Rho} {N B C : Rho → Sto → Prop} {T : D → Sto → Prop} {X : Exc → Rho → Sto → Prop} : wps (sAsg (gTp m t) e ρ S) N T B C X ↔ wp (e ρ S) (fun d S' => ∃ ρ', gTp m t d ρ = some ρ' ∧ N ρ' S') (fun e S' => X e ρ S') := wps_asgT
theorem gTp5 {t : TgL} {a b c d e : D} {ρ : Rho} : gTp 5 t (.tup [a, b, c, d, e]) ρ = t [a, b, c, d, e] ρ := rfl
theorem gTp3 {t : TgL} {a b c : D} {ρ : Rho} : gTp 3 t (.tup [a, b, c]) ρ = t [a, b, c] ρ := rfl
/-- one of a list, whichever -/
theorem pick {L : List D} {v : Int} (h0 : 0 ≤ v) (h1 : v < (L.length : Int)) (P : D → Prop) (hP : ∀ r ∈ L, P r) (hF : ∀ r, P r → F r S) : wp (gIx (.lst L) (.int v) S) F E := by
  rw [gIx_lst]
  obtain ⟨d, hd, e⟩ := atI_mem h0 h1
  exact ⟨d, e, hF d (hP d hd)⟩
def Sh (m : Nat) (d : D) : Prop := ∃ p, toPy d = some p ∧ p.canLay0 = true ∧ p.depth ≤ m
theorem Sh.mono {m m' : Nat} {d : D} (h : Sh m d) (l : m ≤ m') : Sh m' d := by obtain ⟨p, a, b, c⟩ := h; exact ⟨p, a, b, by omega⟩
theorem sh_int {i : Int} {m : Nat} : Sh m (.int i) := ⟨_, rfl, rfl, Nat.zero_le _⟩
theorem sh_str {z : Str} {m : Nat} (h : PyData.strOk z = true) : Sh m (.str z) := ⟨_, rfl, h, Nat.zero_le _⟩
theorem sh_list {m : Nat} : ∀ {ds : List D}, (∀ d ∈ ds, Sh m d) → ∃ ps, toPys ds = some ps ∧ PyData.canLayAll0 ps = true ∧ PyData.depthAll ps ≤ m
  | [], _ => ⟨[], rfl, rfl, Nat.zero_le _⟩
  | d :: ds, h => by
    obtain ⟨p, a, b, c⟩ := h d List.mem_cons_self
    obtain ⟨ps, a', b', c'⟩ := sh_list (m := m) (ds := ds) fun d hd => h d (List.mem_cons_of_mem _ hd)
    refine ⟨p :: ps, by simp only [toPys, a, a'], by simp only [PyData.canLayAll0, b, b', Bool.and_self], ?_⟩
    simp only [PyData.depthAll]
    omega
theorem sh_tup {m : Nat} {ds : List D} (h : ∀ d ∈ ds, Sh m d) : Sh (m + 1) (.tup ds) := by
  obtain ⟨ps, a, b, c⟩ := sh_list h
  exact ⟨.tuple ps, by simp only [toPy, a, Option.map_some], by simp only [PyData.canLay0, b], by simp only [PyData.depth]; omega⟩
theorem Sh.okEq {m m' : Nat} {d e : D} {p q : PyData} (h1 : toPy d = some p) (h2 : toPy e = some q) (hd : Sh m d) (he : Sh m' e) (hm : min m m' ≤ 480) : DL.okEq p q = true := by
  obtain ⟨p', a, b, c⟩ := hd
  obtain ⟨q', a', b', c'⟩ := he
  rw [h1] at a; rw [h2] at a'
  cases a; cases a'
  unfold DL.okEq
  simp only [b, b', Bool.true_and, decide_eq_true_eq]
  omega
theorem gNe_nil {m : Nat} {ds : List D} (h : Sh m (.tup ds)) (hm : m ≤ 100000000 := by omega) : wp (gNe (.tup ds) (.tup []) S) F E ↔ F (.bl (!decide (ds = []))) S := by
  have e : eqD S (.tup ds) (.tup []) = some (decide (ds = [])) := by
    have h' := h
    obtain ⟨p, a, b, c⟩ := h
    have e1 : toPyS S (.tup ds) = some p := a
    have e2 : toPyS S (.tup []) = some (.tuple []) := rfl
    have s0 : Sh 1 (.tup []) := sh_tup fun d hd => (List.not_mem_nil hd).elim
    have s1 : DL.okEq p (.tuple []) = true := Sh.okEq a rfl h' s0 (by omega)
    unfold eqD
    simp only [e1, e2, s1, if_true]
    simp only [toPy, Option.map_eq_some_iff] at a
    obtain ⟨ps, a, rfl⟩ := a
    cases ds with
    | nil => cases a; rfl
    | cons x l =>
      cases ps with
      | nil =>
        exfalso
        unfold toPys at a
        split at a <;> simp_all
      | cons q qs => simp [PyData.eqv, PyData.eqvAll]
  unfold gNe
  rw [e]; exact Iff.rfl
theorem cut_take {ds : List D} {a : Nat} (h : a ≤ ds.length) : cutD ds none (some ((a : Nat) : Int)) = ds.take a := by
  unfold cutD
  rw [HT.sIx_nat, HT.sIx_none, Nat.min_eq_left h]; simp
theorem cut_drop {ds : List D} {a : Nat} (h : a ≤ ds.length) : cutD ds (some ((a : Nat) : Int)) none = ds.drop a := by
  unfold cutD
  rw [HT.sIx_nat, HT.sIx_none, Nat.min_eq_left h, List.take_of_length_le]; simp
theorem cut_zero {ds : List D} : cutD ds none (some 0) = [] := by
  rw [show (0 : Int) = ((0 : Nat) : Int) from rfl, cut_take (Nat.zero_le _)]; rfl
end
end DL

/-! DLS: stores with a deck: a list of cells at 0, the deck [cells, whole, count] at 1 -/
namespace DL
open PySem L2
section
variable {S R S1 : Sto} {F : D → Sto → Prop} {E : Exc → Sto → Prop}
/-- every stored thing names stored things alone -/
def OKS (S : Sto) : Prop := S.all (MO.lo S.length) = true
theorem OKS.take (h : OKS S) : (S.take S.length).all (MO.lo S.length) = true := by rw [List.take_length]; exact h
theorem WF.oks (h : WF S) : OKS S := by
  have := h.take S.length S.length
  rwa [List.take_length] at this
theorem fin_blO {b : Bool} (hw : OKS S) : wp (finD false S.length (.bl b) S) F E ↔ F (.bl b) S := by
  have e : finD false S.length (.bl b) S = .ok (.bl b) S := by
    unfold finD
    rw [if_neg (by decide), if_pos hw.take, if_pos (show (D.bl b).lo S.length = true from rfl), List.take_length]
  rw [e]; exact Iff.rfl
theorem fin_intO {b : Int} (hw : OKS S) : wp (finD false S.length (.int b) S) F E ↔ F (.int b) S := by
  have e : finD false S.length (.int b) S = .ok (.int b) S := by
    unfold finD
    rw [if_neg (by decide), if_pos hw.take, if_pos (show (D.int b).lo S.length = true from rfl), List.take_length]
  rw [e]; exact Iff.rfl
theorem tr.lo {d : D} (h : tr d) (n : Nat) : d.lo n = true := D.lo_mono (Nat.zero_le n) d h
theorem fin_trO {d : D} (hw : OKS S) (hd : tr d) : wp (finD false S.length d S) F E ↔ F d S := by
  have e : finD false S.length d S = .ok d S := by
    unfold finD
    rw [if_neg (by decide), if_pos hw.take, if_pos (hd.lo _), List.take_length]
  rw [e]; exact Iff.rfl
def Gd (R : Sto) : Prop := 2 ≤ R.length ∧ ∀ (i : Nat) (m : MO), 2 ≤ i → R[i]? = some m → m.lo 0 = true
structure DS (R S : Sto) : Prop where
  gd : Gd R
  at_ : ∃ (cells : List Int) (a b : Int), cells.length ≤ 100000 ∧ S = (R.set 0 (.lst (cells.map .int))).set 1 (.lst [.ref 0, .int a, .int b])
theorem DS.len (h : DS R S) : S.length = R.length := by
  obtain ⟨g, cells, a, b, hc, rfl⟩ := h
  simp
theorem DS.two (h : DS R S) : 2 ≤ S.length := by rw [h.len]; exact h.gd.1
theorem DS.get (h : DS R S) {i : Nat} (hi : 2 ≤ i) : S[i]? = R[i]? := by
  obtain ⟨g, cells, a, b, hc, rfl⟩ := h
  rw [List.getElem?_set_ne (by omega), List.getElem?_set_ne (by omega)]
theorem DS.lo (h : DS R S) {n : Nat} (hn : 2 ≤ n) : (S.take n).all (MO.lo n) = true := by
  rw [List.all_eq_true]
  intro m hm
  have hm := List.mem_of_mem_take hm
  obtain ⟨i, hi⟩ := List.mem_iff_getElem?.mp hm
  by_cases h2 : 2 ≤ i
  · rw [h.get h2] at hi
    exact MO.lo_mono (Nat.zero_le n) m (h.gd.2 i m h2 hi)
  · obtain ⟨g, cells, a, b, hc, rfl⟩ := h
    have g1 := g.1
    by_cases h0 : i = 0
    · subst h0
      rw [List.getElem?_set_ne (by omega), List.getElem?_set_self (by omega)] at hi
      cases hi
      have : D.los 0 (cells.map D.int) = true := los_map (fun _ => rfl) cells
      exact MO.lo_mono (Nat.zero_le n) (.lst (cells.map .int)) this
    · obtain rfl : i = 1 := by omega
      rw [List.getElem?_set_self (by simp; omega)] at hi
      cases hi
      simp [MO.lo, D.los, D.lo]; omega
theorem DS.oks (h : DS R S) : OKS S := by
  have := h.lo (n := S.length) h.two
  rwa [List.take_length] at this
theorem DS.fin {d : D} (h : DS R S) (h2 : 2 ≤ S1.length) (hd : tr d) (hF : F d (S.take S1.length)) : wp (finD false S1.length d S) F E :=
  wp_fin (h.lo h2) (hd.lo _) hF
theorem DS.fin_same {d : D} (h : DS R S) (hl : S.length = S1.length) (hd : tr d) (hF : F d S) : wp (finD false S1.length d S) F E := by
  refine h.fin (by rw [← hl]; exact h.two) hd ?_
  rw [← hl, List.take_length]; exact hF
theorem DS.cells (h : DS R S) : ∃ (cells : List Int) (a b : Int), cells.length ≤ 100000 ∧ atL S 0 = some (cells.map .int) ∧ atL S 1 = some [.ref 0, .int a, .int b] ∧
    (∀ cs : List Int, cs.length ≤ 100000 → DS R (S.set 0 (.lst (cs.map .int)))) ∧ (∀ a' b' : Int, DS R (S.set 1 (.lst [.ref 0, .int a', .int b']))) := by
  obtain ⟨g, cells, a, b, hc, rfl⟩ := h
  have g1 := g.1
  refine ⟨cells, a, b, hc, ?_, ?_, fun cs hcs => ⟨g, cs, a, b, hcs, ?_⟩, fun a' b' => ⟨g, cells, a', b', hc, ?_⟩⟩
  · unfold atL
    rw [List.getElem?_set_ne (by omega), List.getElem?_set_self (by omega)]
  · unfold atL
    rw [List.getElem?_set_self (by simp; omega)]
  · rw [List.set_comm _ _ (by omega), List.set_set]
  · rw [List.set_set]
theorem Gd.push {m : MO} (g : Gd R) (hm : m.lo 0 = true) : Gd (R ++ [m]) := by
  refine ⟨by simp; have := g.1; omega, fun i x hi hx => ?_⟩
  by_cases hl : i < R.length
  · rw [List.getElem?_append_left hl] at hx; exact g.2 i x hi hx
  · rw [List.getElem?_append_right (by omega)] at hx
    have hz : i - R.length = 0 := by
      have := (List.getElem?_eq_some_iff.mp hx).1
      simp at this; omega
    rw [hz] at hx; simp at hx; rw [← hx]; exact hm
theorem Gd.pop {m : MO} (g : Gd (R ++ [m])) (h2 : 2 ≤ R.length) : Gd R := by
  refine ⟨h2, fun i x hi hx => g.2 i x hi ?_⟩
  rw [List.getElem?_append_left (List.getElem?_eq_some_iff.mp hx).1]; exact hx
theorem Gd.set {m : MO} {k : Nat} (g : Gd R) (hm : m.lo 0 = true) : Gd (R.set k m) := by
  refine ⟨by simp; exact g.1, fun i x hi hx => ?_⟩
  by_cases hk : k = i
  · subst hk
    have hl := (List.getElem?_eq_some_iff.mp hx).1
    rw [List.getElem?_set_self (by simpa using hl)] at hx
    cases hx; exact hm
  · rw [List.getElem?_set_ne hk] at hx; exact g.2 i x hi hx
theorem DS.push {m : MO} (h : DS R S) (hm : m.lo 0 = true) : DS (R ++ [m]) (S ++ [m]) := by
  obtain ⟨g, cells, a, b, hc, rfl⟩ := h
  have g1 := g.1
  refine ⟨g.push hm, cells, a, b, hc, ?_⟩
  rw [List.set_append_left _ _ (by omega), List.set_append_left _ _ (by simp; omega)]
theorem DS.put {m : MO} {k : Nat} (h : DS R S) (hk : 2 ≤ k) (hm : m.lo 0 = true) : DS (R.set k m) (S.set k m) := by
  obtain ⟨g, cells, a, b, hc, rfl⟩ := h
  refine ⟨g.set hm, cells, a, b, hc, ?_⟩
  rw [List.set_comm _ _ (show k ≠ 0 by omega), List.set_comm _ _ (show (1 : Nat) ≠ k by omega)]
theorem DS.cut {G : Sto} (h : DS (R ++ G) S) (h2 : 2 ≤ R.length) : DS R (S.take R.length) := by
  obtain ⟨g, cells, a, b, hc, rfl⟩ := h
  refine ⟨⟨h2, fun i x hi hx => g.2 i x hi ?_⟩, cells, a, b, hc, ?_⟩
  · rw [List.getElem?_append_left (List.getElem?_eq_some_iff.mp hx).1]; exact hx
  · rw [List.set_append_left _ _ (by omega), List.set_append_left _ _ (by simp; omega), List.take_append_of_le_length (by simp), List.take_of_length_le (by simp)]
theorem DS.last {m : MO} {G : Sto} (h : DS (R ++ m :: G) S) (h2 : 2 ≤ R.length) : S[R.length]? = some m := by
  rw [h.get h2, List.getElem?_append_right (Nat.le_refl _)]; simp
theorem atL_of {n : Nat} {ds : List D} (h : S[n]? = some (.lst ds)) : atL S n = some ds := by unfold atL; rw [h]
theorem gSet_ref {n j : Nat} {ds : List D} {k : Int} {d : D} {FU : Unit → Sto → Prop} (h : atL S n = some ds) (hj : ixN ds.length k = some j) : wp (gSet (.ref n) (.int k) d S) FU E ↔ FU () (S.set n (.lst (ds.set j d))) := by
  unfold gSet
  simp only [h, hj]
  exact Iff.rfl
theorem wps_sub {ev eo ei : EvD} {ρ : Rho} {N B C : Rho → Sto → Prop} {T : D → Sto → Prop} {X : Exc → Rho → Sto → Prop} : wps (sSub ev eo ei ρ S) N T B C X ↔ wp (ev ρ S) (fun d S1 => wp (eo ρ S1) (fun o S2 => wp (ei ρ S2) (fun i S3 => wp (gSet o i d S3) (fun _ S4 => N ρ S4) (fun e S' => X e ρ S')) (fun e S' => X e ρ S')) (fun e S' => X e ρ S')) (fun e S' => X e ρ S') := by
  unfold sSub
  simp only [wps_lft]
  exact Iff.rfl
theorem gIx_ref {n : Nat} {ds : List D} {k : Int} (h : atL S n = some ds) : wp (gIx (.ref n) (.int k) S) F E ↔ ∃ d, atI ds k = some d ∧ F d S := gIx_seq h
/-- a comprehension that draws, by any standing property of the store -/
theorem comp_inv {all : List D} {i : Nat} {el : EvD} {ρ : Rho} {FF : List D → Sto → Prop} (J : Sto → Prop) (P : D → Prop) (h0 : J S)
    (hel : ∀ d ∈ all, ∀ S', J S' → wp (el (ρ.set i (some d)) S') (fun y S'' => P y ∧ J S'') nx) (h : ∀ ys S', ys.length = all.length → (∀ y ∈ ys, P y) → J S' → FF ys S') :
    wp (compM none all (gN i) bYes el ρ all S) FF nx := by
  refine wp_compM (fun k' ys S' => k' ≤ all.length → (ys.length = k' ∧ (∀ y ∈ ys, P y) ∧ J S')) (fun _ _ _ _ => trivial) (fun k' d ys S' hd hk => ?_) (fun ys S' hk => ?_) (fun _ => ⟨rfl, fun _ h => (List.not_mem_nil h).elim, h0⟩)
  · have hlt := (List.getElem?_eq_some_iff.mp hd).1
    obtain ⟨q1, q2, q3⟩ := hk (by omega)
    refine ⟨_, rfl, ?_⟩
    rw [wp_bYes, if_pos rfl]
    refine wp_mono (hel d (List.mem_of_getElem? hd) S' q3) (fun y S'' hy => ?_) (fun _ _ h => h)
    refine fun _ => ⟨by simp [q1], fun z hz => ?_, hy.2⟩
    rw [List.mem_append, List.mem_singleton] at hz
    rcases hz with hz | rfl
    · exact q2 z hz
    · exact hy.1
  · obtain ⟨q1, q2, q3⟩ := hk (Nat.le_refl _)
    exact h ys S' q1 q2 q3
end
end DL

/-! DLX: words for lists to be changed -/
namespace DL
open PySem L2
section
variable {S : Sto} {F : D → Sto → Prop} {E : Exc → Sto → Prop} {ρ : Rho}
theorem wp_compMut {it : EvI} {tgt : D → Rho → Option Rho} {test : EvB} {el : EvD} {vs : List Nat} : wp (eCompM it tgt test el vs ρ S) F E ↔
    wp (it ρ S) (fun p S' => p.2.length ≤ sizeLine ∧ wp (compM p.1 p.2 tgt test el (wipeR ρ vs) p.2 S') (fun ys S'' => F (.ref S''.length) (S'' ++ [.lst ys])) nx) E := by
  unfold eCompM
  rw [wp_bnd]
  constructor <;> intro h <;> refine wp_mono h (fun p S' h => ?_) (fun _ _ h => h)
  · unfold noEx at h
    by_cases hl : p.2.length ≤ sizeLine
    · refine ⟨hl, ?_⟩
      simp only [if_pos hl] at h
      cases hc : compM p.1 p.2 tgt test el (wipeR ρ vs) p.2 S' with
      | ok ys S'' => rw [hc] at h; exact h
      | ex e S'' => rw [hc] at h; exact h.elim
      | bad => rw [hc] at h; exact h.elim
    · simp only [if_neg hl] at h; exact h.elim
  · obtain ⟨hl, h⟩ := h
    unfold noEx
    simp only [if_pos hl]
    cases hc : compM p.1 p.2 tgt test el (wipeR ρ vs) p.2 S' with
    | ok ys S'' => rw [hc] at h; exact h
    | ex e S'' => rw [hc] at h; exact h.elim
    | bad => rw [hc] at h; exact h.elim
theorem wp_rev {a : EvD} {FI : Option Nat × List D → Sto → Prop} : wp (iRev a ρ S) FI E ↔ wp (a ρ S) (fun x S1 => wp (srcV x S1) FI E) E := wp_bnd
theorem srcV_tup {ds : List D} {FI : Option Nat × List D → Sto → Prop} : wp (srcV (.tup ds) S) FI E ↔ FI (none, ds.reverse) S := Iff.rfl
theorem eqv_nil {m : Nat} {n : Nat} {ds : List D} (h : atL S n = some ds) (hs : ∀ d ∈ ds, Sh m d) (_ : m ≤ 100000000 := by omega) : eqD S (.ref n) (.lst []) = some (decide (ds = [])) := by
  obtain ⟨ps, a, b, c⟩ := sh_list hs
  have e1 : toPyS S (.ref n) = some (.list ps) := by simp only [toPyS, h, a, Option.map_some]
  have e2 : toPyS S (.lst []) = some (.list []) := rfl
  have s1 : okEq (.list ps) (.list []) = true := by
    unfold okEq
    simp only [PyData.canLay0, b, PyData.canLayAll0, Bool.true_and]
    exact decide_eq_true (Nat.le_trans (Nat.min_le_right _ _) (by decide))
  unfold eqD
  simp only [e1, e2, s1, if_true]
  cases ds with
  | nil => cases a; rfl
  | cons x l =>
    cases ps with
    | nil =>
      exfalso
      unfold toPys at a
      split at a <;> simp_all
    | cons q qs => simp [PyData.eqv, PyData.eqvAll]
theorem gNe_refNil {m : Nat} {n : Nat} {ds : List D} (h : atL S n = some ds) (hs : ∀ d ∈ ds, Sh m d) (hm : m ≤ 100000000 := by omega) : wp (gNe (.ref n) (.lst []) S) F E ↔ F (.bl (!decide (ds = []))) S := by
  unfold gNe
  rw [eqv_nil h hs hm]; exact Iff.rfl
theorem gAddM_seq {x y : D} {a b : List D} (ha : iTrk S x = some a) (hb : iTrk S y = some b) : wp (gAddM x y S) F E ↔ a.length + b.length ≤ sizeLine ∧ F (.ref S.length) (S ++ [.lst (a ++ b)]) := by
  unfold gAddM
  simp only [ha, hb]
  by_cases h : a.length + b.length ≤ sizeLine
  · rw [if_pos h]; exact ⟨fun q => ⟨h, q⟩, fun q => q.2⟩
  · rw [if_neg h]; exact ⟨fun q => q.elim, fun q => absurd q.1 h⟩
theorem gStr_int {i : Int} : wp (gStr [.int i] S) F E ↔ i.natAbs.log2 < 1920 ∧ F (.str (toString i)) S := by
  unfold gStr
  by_cases h : i.natAbs.log2 < 1920
  · simp only [if_pos h]; exact ⟨fun q => ⟨h, q⟩, fun q => q.2⟩
  · simp only [if_neg h]; exact ⟨fun q => q.elim, fun q => absurd q.1 h⟩
end
end DL

/-! DLE: raise, try .. except. -/
namespace DL
open PySem L2 PyProof.Rows
abbrev veB : List Value := [.type "ValueError", .type "Exception", .type "BaseException", .type "object"]
/-- an own exception class without __init__ -/
structure ExAt (K : PySem.W.Frag) (mg : Str → Option Value) (x : Str) (C : Addr) : Prop where
  g : mg x = some (.ref C)
  x : PySem.W.excIn K C veB "ValueError.__new__" = true
  k : PySem.W.keepIn K (.ref C) = true
  b : PySem.W.subIn K (.ref C) (.type "BaseException") = some true
  t : PySem.W.typeIn K (.ref C) = some (.type "type")
/-- raise X(e) -/
def sRaise (cls : Str) (a : EvD) : EvS := fun ρ => lft ρ (a ρ) fun _ S => .ok (.xc ⟨cls, []⟩ ρ) S
/-- try: body, except ..: suite -/
def sTry (sub : Str → Option Bool) (body : EvS) (suite : Exc → EvS) : EvS := fun ρ S => match body ρ S with
  | .ok (.xc e ρ') S' => (match sub e.cls with
    | some true => (match suite e ρ' S' with
      | .ok (.xc _ _) _ => .bad
      | r => r)
    | some false => .ok (.xc e ρ') S'
    | none => .bad)
  | r => r
/-- .. except .. as n: slot i is n's, and forgotten behind the suite -/
def outSet (i : Nat) : Out → Out
  | .nx ρ => .nx (ρ.set i none)
  | .bk ρ => .bk (ρ.set i none)
  | .ct ρ => .ct (ρ.set i none)
  | o => o
def sTryAs (i : Nat) (sub : Str → Option Bool) (body : EvS) (suite : Exc → EvS) : EvS := sTry sub body fun e ρ S => if e.fs.isEmpty = true then (match suite e (ρ.set i none) S with
  | .ok o S' => .ok (outSet i o) S'
  | r => r) else .bad
section
variable {X : Cx} {W : WX} {pos pos' pos2 : Pos}
theorem s_raise {x : Str} {C : Addr} {e : Expr} {te : EvD} {p : Pos} (T : ExAt X.K X.mg x C) (hc : X.calm = true) (tk : Takes X W) (he : PE X e (tD X.K X.mg W te)) (hg : Gl X x := by rfl) (hs : starEach [e] X.env = (false, eval e X.env) :: starEach [] X.env := by rfl)
    (hdb : (x == ("__debug__" : Str)) = false := by decide) : PS X (.Raise (some (.Call (.Name x p) [e] [] pos)) none pos') (tS X.K X.mg W (sRaise x te)) := by
  refine PS.imp (ps_raise hc tk (SkE.pmk_own1 PySem.F.excBase_ValueError T.x T.g T.k (raises_own T.b T.t) hg he hs hdb)) fun E σ H ⟨ρ, S, μ, e, s, h⟩ => ?_
  refine ⟨ρ, S, μ, e, s, h.lft e s fun d S1 μ1 H1 s1 r1 e1 h1 v rv => ?_⟩
  exact h1.now r1 σ (.ref C) none e1 ⟨⟨C, T.g, rfl⟩, rfl⟩
theorem PostO.try_body {K : PySem.W.Frag} {mg : Str → Option Value} {E : Ends} {μ : Mu} {H : Hp} {body : EvS} {suite : Exc → EvS} {sub : Str → Option Bool} {ρ : Rho} {S : Sto} (h : PostO K mg W E μ H (sTry sub body suite ρ S)) {W' : WX}
    (f : ∀ e ρ' S' μ' H' σ c od, Rel K μ' S' H' → RE K μ' H' σ ρ' → RX K mg μ' H' e c od → PostO K mg W E μ' H' (match sub e.cls with
      | some true => (match suite e ρ' S' with
        | .ok (.xc _ _) _ => .bad
        | r => r)
      | some false => .ok (.xc e ρ') S'
      | none => .bad) → W' c od σ H') : PostO K mg W' E μ H (body ρ S) := by
  unfold sTry at h
  cases hb : body ρ S with
  | ok o S1 =>
    rw [hb] at h
    cases o with
    | xc e ρ' => exact fun μ' H' s r σ c od re rx => f e ρ' S1 μ' H' σ c od r re rx (h.mono s)
    | nx ρ' => exact h
    | rt d => exact h
    | bk ρ' => exact h
    | ct ρ' => exact h
  | ex e S1 => rw [hb] at h; exact h
  | bad => rw [hb] at h; exact h
/-- try: body / except x: suite, the exception without a name -/
theorem s_try {x : Str} {c : Value} {body suite : List Stmt} {b₀ : Stmt} {np : Pos} {tb : EvS} {ts : EvS} {sub : Str → Option Bool} (hs : X.stack = X.env :: X.outer) (hf : X.env.frame = some X.env.locals) (hc : Names X x c) (tk : Takes X W)
    (hsub : ∀ a b, sub a = some b → ∀ A, X.mg a = some (.ref A) → PySem.W.exmOne X.K (.ref A) c = some b)
    (hb : ∀ (W : WX) (pn : List (Addr × Obj)) (xe : Value → Shared → Prop), Takes (X.tr pn xe) W → PassesOwn (model X.prog X.w) X.A X.env xe → PSs (X.tr pn xe) body (tS X.K X.mg W tb))
    (hsu : ∀ (a : Addr) (oe : Obj) (pn : List (Addr × Obj)), PSs (X.suite a ((a, oe) :: pn)) (b₀ :: suite) (tS X.K X.mg W0 ts)) :
    PS X (.Try body [.ExceptHandler (some (.Name x np)) none (b₀ :: suite) pos'] [] [] pos) (tS X.K X.mg W (sTry sub tb fun _ => ts)) := by
  refine PS.imp (ps_try_only (tb := fun W => tS X.K X.mg W tb) (ts := fun _ _ _ => tS X.K X.mg W0 ts) hs hf hc tk hb fun a oe _ _ pn _ _ => hsu a oe pn) fun E σ H ⟨ρ, S, μ, e, s, h⟩ => ?_
  refine ⟨ρ, S, μ, e, s, h.try_body fun x ρ' S' μ' H' σ' c' od r re rx h' => ?_⟩
  obtain ⟨⟨A, gA, rfl⟩, _⟩ := id rx
  unfold wOnly
  split at h'
  · rename_i hx
    refine ⟨true, hsub _ _ hx A gA, fun _ a _ => ⟨ρ', S', μ', re, r, ?_⟩, fun z => Bool.noConfusion z⟩
    cases hq : ts ρ' S' with
    | ok o S2 =>
      rw [hq] at h'
      cases o with
      | xc e2 ρ2 => exact h'.elim
      | nx ρ2 => exact h'
      | rt d => exact h'
      | bk ρ2 => exact h'
      | ct ρ2 => exact h'
    | ex e2 S2 => rw [hq] at h'; exact h'.elim
    | bad => rw [hq] at h'; exact h'.elim
  · rename_i hx
    exact ⟨false, hsub _ _ hx A gA, fun z => Bool.noConfusion z, fun _ => h'.now r σ' _ od re rx⟩
  · exact h'.elim
theorem RE.unset {K : PySem.W.Frag} {μ : Mu} {H : Hp} {σ : L2.St} {ρ : Rho} (h : RE K μ H σ ρ) (i : Nat) (x : Option V) : RE K μ H (σ.set i x) (ρ.set i none) := by
  refine ⟨by simp [h.len], fun j e q => ?_⟩
  by_cases hij : i = j
  · subst hij
    by_cases hl : i < ρ.length
    · rw [List.getElem?_set_self hl] at q; cases q
    · rw [List.getElem?_eq_none (by simpa using hl)] at q; cases q
  · rw [List.getElem?_set_ne hij] at q ⊢
    exact h.val j e q
/-- what a suite's first statement may know: slot i holds the exception -/
def tSx (K : PySem.W.Frag) (mg : Str → Option Value) (i : Nat) (a : Addr) (G : EvS) : TS := fun E σ H => (i < σ.length → σ[i]? = some (some (.ref a))) ∧ tS K mg W0 G E σ H
theorem s_tryAs {x n : Str} {c : Value} {i : Nat} {body suite : List Stmt} {b₀ : Stmt} {np : Pos} {tb : EvS} {ts : Exc → EvS} {sub : Str → Option Bool} (hs : X.stack = X.env :: X.outer) (hf : X.env.frame = some X.env.locals) (hN : X.N.Nodup) (hi : X.N[i]? = some n) (hln : X.env.kindOf n = some .local) (hc : Names X x c) (tk : Takes X W)
    (hsub : ∀ a b, sub a = some b → ∀ A, X.mg a = some (.ref A) → PySem.W.exmOne X.K (.ref A) c = some b)
    (hb : ∀ (W : WX) (pn : List (Addr × Obj)) (xe : Value → Shared → Prop), Takes (X.tr pn xe) W → PassesOwn (model X.prog X.w) X.A X.env xe → PSs (X.tr pn xe) body (tS X.K X.mg W tb))
    (hsu : ∀ (a A : Addr) (oe : Obj) (e : Exc) (pn : List (Addr × Obj)), X.mg e.cls = some (.ref A) → Zc (.ref A) none oe → (∃ vs, oe.data = .fields vs) → PSs (X.suite a ((a, oe) :: pn)) (b₀ :: suite) (tSx X.K X.mg i a (ts e))) :
    PS X (.Try body [.ExceptHandler (some (.Name x np)) (some n) (b₀ :: suite) pos'] [] [] pos) (tS X.K X.mg W (sTryAs i sub tb ts)) := by
  refine PS.imp (ps_try_as (i := i) (tb := fun W => tS X.K X.mg W tb) (ts := fun a cls d E σ H => ∃ (e : Exc) (A : Addr), cls = .ref A ∧ d = none ∧ X.mg e.cls = some (.ref A) ∧ tSx X.K X.mg i a (ts e) E σ H) hs hf hN hi hln hc tk hb fun a oe cls d pn hz hv => ⟨fun pins s σ H E I q => ?_⟩) fun E σ H ⟨ρ, S, μ, e, s, h⟩ => ?_
  · obtain ⟨e, A, rfl, rfl, gA, q⟩ := q
    exact (hsu a A oe e pn gA hz hv).run pins s σ H E I q
  refine ⟨ρ, S, μ, e, s, h.try_body fun x ρ' S' μ' H' σ' c' od r re rx h' => ?_⟩
  obtain ⟨⟨A, gA, rfl⟩, hod⟩ := id rx
  unfold wAs
  split at h'
  · rename_i hx
    refine ⟨true, hsub _ _ hx A gA, fun _ a _ => ?_, fun z => Bool.noConfusion z⟩
    by_cases hfs : x.fs.isEmpty = true
    · simp only [hfs, if_true] at h'
      have hnil : x.fs = [] := by cases hq : x.fs with
        | nil => rfl
        | cons _ _ => rw [hq] at hfs; cases hfs
      have hod' : od = none := by
        cases od with
        | none => rfl
        | some d => exact absurd hnil hod.1
      refine ⟨x, A, rfl, hod', gA, fun hl => List.getElem?_set_self (by simpa using hl), ρ'.set i none, S', μ', re.unset i _, r, ?_⟩
      cases hq : ts x (ρ'.set i none) S' with
      | ok o S2 =>
        rw [hq] at h'
        cases o with
        | xc e2 ρ2 => exact h'.elim
        | nx ρ2 => exact fun μ2 H2 s2 r2 σ2 e2 => (h'.mono s2).now r2 _ (e2.unset i none)
        | rt d => exact h'
        | bk ρ2 => exact fun μ2 H2 s2 r2 σ2 e2 => (h'.mono s2).now r2 _ (e2.unset i none)
        | ct ρ2 => exact fun μ2 H2 s2 r2 σ2 e2 => (h'.mono s2).now r2 _ (e2.unset i none)
      | ex e2 S2 => rw [hq] at h'; exact h'.elim
      | bad => rw [hq] at h'; exact h'.elim
    · simp only [hfs, if_false] at h'; exact h'.elim
  · rename_i hx
    exact ⟨false, hsub _ _ hx A gA, fun z => Bool.noConfusion z, fun _ => h'.now r σ' _ od re rx⟩
  · exact h'.elim
/-- a class that an except clause or isinstance names -/
structure ClAt (K : PySem.W.Frag) (mg : Str → Option Value) (x : Str) (C : Addr) : Prop where
  g : mg x = some (.ref C)
  b : PySem.W.subIn K (.ref C) (.type "BaseException") = some true
  h : PySem.W.hasDictIn K C = true
  t : PySem.W.typeIn K (.ref C) = some (.type "type")
  s : PySem.W.subIn K (.ref C) (.ref C) = some true
theorem ClAt.kit {K : PySem.W.Frag} {mg : Str → Option Value} {x : Str} {C : Addr} (T : ClAt K mg x C) {t : Value} {b : Bool} (e : PySem.W.subIn K t (.ref C) = some b) : PySem.W.kitOne K t (.ref C) = some b := by
  unfold PySem.W.kitOne
  by_cases hq : (t == Value.ref C) = true
  · rw [if_pos hq]
    have : t = .ref C := beq_iff_eq.mp hq
    subst this
    exact T.s.symm.trans e
  · rw [if_neg hq]
    obtain ⟨cd, hc, _⟩ := PySem.W.any_some T.h
    have e2 : ((PySem.W.clsIn K C).isSome && PySem.W.typeIn K (.ref C) == some (.type "type")) = true := by rw [hc, T.t]; rfl
    show (if ((PySem.W.clsIn K C).isSome && PySem.W.typeIn K (.ref C) == some (.type "type")) = true then PySem.W.subIn K t (.ref C) else none) = some b
    rw [if_pos e2]; exact e
theorem ClAt.exm {K : PySem.W.Frag} {mg : Str → Option Value} {x : Str} {C : Addr} (T : ClAt K mg x C) {t : Value} {b : Bool} (e : PySem.W.subIn K t (.ref C) = some b) : PySem.W.exmOne K t (.ref C) = some b := PySem.W.exm_ref T.b T.h T.t e
/-- a table over the classes that may come -/
def tblSub {β : Type} (t : List (Str × β)) (a : Str) : Option β := (t.find? fun p => decide (p.1 = a)).map (·.2)
theorem tbl_hit {β : Type} {x : Str} {b : β} {r : List (Str × β)} : tblSub ((x, b) :: r) x = some b := by unfold tblSub; simp
theorem tbl_miss {β : Type} {x a : Str} {b : β} {r : List (Str × β)} (h : ¬ x = a) : tblSub ((x, b) :: r) a = tblSub r a := by unfold tblSub; simp [h]
def TblOk (K : PySem.W.Frag) (mg : Str → Option Value) (c : Value) : List (Str × Bool) → Prop
  | [] => True
  | p :: r => (∃ A, mg p.1 = some (.ref A) ∧ PySem.W.exmOne K (.ref A) c = some p.2) ∧ TblOk K mg c r
theorem tbl_ok {K : PySem.W.Frag} {mg : Str → Option Value} {c : Value} : ∀ {t : List (Str × Bool)}, TblOk K mg c t → ∀ a b, tblSub t a = some b → ∀ A, mg a = some (.ref A) → PySem.W.exmOne K (.ref A) c = some b
  | [], _, a, b, h, _, _ => by simp [tblSub] at h
  | (x, k) :: r, ⟨⟨A', h1, h2⟩, hr⟩, a, b, h, A, g => by
    by_cases e : x = a
    · subst e
      rw [tbl_hit] at h
      cases h
      have : A' = A := by
        have := h1.symm.trans g
        simpa using this
      rw [← this]; exact h2
    · rw [tbl_miss e] at h
      exact tbl_ok hr a b h A g
/-- isinstance(n, T), n the exception in slot i -/
def tIs (i : Nat) (a : Addr) (b : Bool) : TE := fun σ H Q => σ[i]? = some (some (.ref a)) ∧ Q (.bl b) H
section
variable {a A : Addr} {oe : Obj} {pn : List (Addr × Obj)} {i : Nat} {n tn : Str} {p1 p2 p3 : Pos}
theorem pe_isE {v : V} {cv : Value} {b : Bool} (C : ExcC X.K A) (hz : Zc (.ref A) none oe) (hf : ∃ vs, oe.data = .fields vs) (hg : Gl X "isinstance") (hm : X.mg "isinstance" = none) (hT : PE (X.suite a ((a, oe) :: pn)) (.Name tn p3) (tC v)) (hv : ∀ u, RelV v u → u = cv) (hk : PySem.W.kitOne X.K (.ref A) cv = some b)
    (hN : X.N[i]? = some n := by rfl) (hvis : Vis X.env.scope n := by first | exact Or.inl rfl | exact Or.inr (Or.inl rfl) | exact Or.inr (Or.inr rfl)) (hd : (n == ("__debug__" : Str)) = false := by decide) (hcd : (n == ("__classdict__" : Str)) = false := by decide)
    (hs : starEach [.Name n p2, .Name tn p3] X.env = (false, eval (.Name n p2) X.env) :: starEach [.Name tn p3] X.env := by rfl) (hs2 : starEach [.Name tn p3] X.env = (false, eval (.Name tn p3) X.env) :: starEach [] X.env := by rfl) :
    PE (X.suite a ((a, oe) :: pn)) (.Call (.Name "isinstance" p1) [.Name n p2, .Name tn p3] [] pos) (tIs i a b) := by
  refine PE.imp (pe_callB (call_isE C hz hf) hg hm (by decide +kernel) (pa_cons (pe_var (X := X.suite a ((a, oe) :: pn)) hN hvis hd hcd) (pa_cons hT pa_nil hs2) hs) (by decide) (by decide) hs) fun σ H Q ⟨h1, h2⟩ => ?_
  exact ⟨_, h1, v, cv, b, rfl, hv, hk, h2⟩
/-- a display of such -/
def IsL (X : Cx) (i : Nat) (a : Addr) (es : List Expr) (bs : List Bool) : Prop := ∃ t, PA X es t ∧ ∀ σ H (Q : List V → Hp → Prop), σ[i]? = some (some (.ref a)) → Q (bs.map V.bl) H → t σ H Q
theorem isl_nil {Y : Cx} : IsL Y i a [] [] := ⟨_, pa_nil, fun _ _ _ _ q => q⟩
theorem isl_cons {Y : Cx} {e : Expr} {es : List Expr} {b : Bool} {bs : List Bool} (h : PE Y e (tIs i a b)) (hr : IsL Y i a es bs) (hs : starEach (e :: es) Y.env = (false, eval e Y.env) :: starEach es Y.env := by rfl) : IsL Y i a (e :: es) (b :: bs) := by
  obtain ⟨t, h1, h2⟩ := hr
  exact ⟨_, pa_cons h h1 hs, fun σ H Q hi q => ⟨hi, h2 σ H _ hi q⟩⟩
/-- y = [isinstance(n, A), ..] in a suite -/
theorem s_isList {j : Nat} {y : Str} {py lp ap : Pos} {es : List Expr} {bs : List Bool} (hN : X.N.Nodup) (hl : IsL (X.suite a ((a, oe) :: pn)) i a es bs) (hb : bs.length ≤ 100) (hi : X.N[i]? = some n) (hj : X.N[j]? = some y) (hx : Loc X.env.scope y) (hf : X.fn y = true ∨ X.env.scope.names.lookup y = some .local)
    (hs : swapsWithSole [.Name y py] (.List es lp) ap.line X.env = pure false := by rfl) (hw : swappedStores [.Name y py] (.List es lp) X.env = pure none := by rfl)
    (h1 : (assignEach [.Name y py] X.env).map (·.2) = [assign (.Name y py) X.env] := by rfl) :
    PSs (X.suite a ((a, oe) :: pn)) [.Assign [.Name y py] (.List es lp) ap] (tSx X.K X.mg i a (sAsg (gN j) (eC (.lst (bs.map D.bl))))) := by
  obtain ⟨t, h2, h3⟩ := hl
  suffices hh : PSs (X.suite a ((a, oe) :: pn)) [.Assign [.Name y py] (.List es lp) ap] (fun E σ H => σ[i]? = some (some (.ref a)) ∧ tS X.K X.mg W0 (sAsg (gN j) (eC (.lst (bs.map D.bl)))) E σ H) from
    ⟨fun pins s σ H E I q => hh.run pins s σ H E I ⟨q.1 (by have e1 : σ.length = X.N.length := I.len; have := (List.getElem?_eq_some_iff.mp hi).1; omega), q.2⟩⟩
  refine pss_one (PS.imp (ps_asg (X := X.suite a ((a, oe) :: pn)) (pe_lst h2) (pg_name (X := X.suite a ((a, oe) :: pn)) hN hj hx hf) hs hw h1) fun E σ H ⟨q, ρ, S, μ, e, s, h⟩ => ?_)
  refine h3 σ H _ q ⟨by rw [List.length_map]; exact small_line (by omega), fun p hp => ?_⟩
  have rds : ∀ l : List Bool, RDs X.K μ H (l.map D.bl) (l.map V.bl) := fun l => by
    induction l with
    | nil => exact .nil
    | cons b l ih => exact .cons (.bl b) ih
  have := h μ (upd H p (.lst (bs.map V.bl))) (Stp.new hp) (s.new hp)
  exact this _ ((e.step s (Stp.new hp)).set (.lst upd_same ⟨fun z => s.there z hp, fun z => s.hid _ z hp⟩ ((rds bs).step s (Stp.new hp))) j)
end
end
end DL

/-! DLD: dicts with keys that are ints or texts. -/
namespace DL
open PySem L2 PyProof.Rows
def getK {β : Type} (kvs : List (Key × β)) (k : Key) : Option β := (kvs.find? fun kv => decide (kv.1 = k)).map (·.2)
def setK {β : Type} (kvs : List (Key × β)) (k : Key) (v : β) : List (Key × β) :=
  if (kvs.any fun kv => decide (kv.1 = k)) = true then kvs.map (fun kv => if kv.1 = k then (kv.1, v) else kv) else kvs ++ [(k, v)]
def keyD : D → Option Key
  | .int i => some (.inl i)
  | .str x => some (.inr x)
  | _ => none
def ofKey : Key → D
  | .inl i => .int i
  | .inr x => .str x
def atD (S : Sto) (d : D) : Option (List (Key × D)) := match d with
  | .ref n => match S[n]? with
    | some (.dct kvs) => some kvs
    | _ => none
  | _ => none
section
variable {K : PySem.W.Frag} {μ μ' : Mu} {S : Sto} {H H' : Hp}
theorem keyD_ok {d : D} {k : Key} {v : V} (e : keyD d = some k) (h : RD K μ H d v) : v = kV k := by
  cases h <;> first | (cases e; rfl) | cases e
theorem ofKey_rd (k : Key) : RD K μ H (ofKey k) (kV k) := by
  cases k with
  | inl i => exact .int i
  | inr x => exact .str x
theorem atD_ok {d : D} {kvs : List (Key × D)} {v : V} (e : atD S d = some kvs) (r : Rel K μ S H) (h : RD K μ H d v) : ∃ n a ws, d = .ref n ∧ v = .ref a ∧ μ.v[n]? = some a ∧ S[n]? = some (.dct kvs) ∧ H a = some (.dK ws) ∧ RKs K μ H kvs ws := by
  cases h with
  | @ref n a h1 =>
    unfold atD at e
    simp only at e
    split at e
    · rename_i ks hs
      cases e
      obtain ⟨ws, q, z⟩ := r.obj n a _ h1 hs
      exact ⟨n, a, ws, rfl, rfl, h1, hs, q, z⟩
    · cases e
  | _ => cases e
theorem RKs.get : ∀ {kvs : List (Key × D)} {ws : List (Key × V)} (k : Key), RKs K μ H kvs ws → (getK kvs k = none ∧ valV ws k = none) ∨ ∃ d v, getK kvs k = some d ∧ valV ws k = some v ∧ RD K μ H d v
  | [], _, k, h => by cases h; exact .inl ⟨rfl, rfl⟩
  | (k0, d) :: kvs, _, k, h => by
    cases h with
    | @cons _ q _ ws h1 h2 =>
      obtain ⟨k1, w⟩ := q
      obtain ⟨e, rd⟩ := h1
      have e' : k0 = k1 := e
      subst e'
      by_cases hk : k0 = k
      · right
        exact ⟨d, w, by simp [getK, hk], by simp [valV, hk], rd⟩
      · have r1 : getK ((k0, d) :: kvs) k = getK kvs k := by simp [getK, hk]
        have r2 : valV ((k0, w) :: ws) k = valV ws k := by simp [valV, hk]
        rw [r1, r2]
        exact RKs.get k h2
theorem RKs.len : ∀ {kvs : List (Key × D)} {ws : List (Key × V)}, RKs K μ H kvs ws → kvs.length = ws.length
  | [], _, h => by cases h; rfl
  | _ :: _, _, h => by cases h with | cons h1 h2 => simp [RKs.len h2]
theorem RKs.any : ∀ {kvs : List (Key × D)} {ws : List (Key × V)} (k : Key), RKs K μ H kvs ws → (kvs.any fun kv => decide (kv.1 = k)) = ws.any fun kv => decide (kv.1 = k)
  | [], _, k, h => by cases h; rfl
  | (k0, d) :: kvs, _, k, h => by
    cases h with
    | cons h1 h2 =>
      have e : k0 = _ := h1.1
      simp only [List.any_cons, RKs.any k h2, e]
theorem RKs.app : ∀ {kvs k2 : List (Key × D)} {ws w2 : List (Key × V)}, RKs K μ H kvs ws → RKs K μ H k2 w2 → RKs K μ H (kvs ++ k2) (ws ++ w2)
  | [], _, _, _, h, g => by cases h; exact g
  | _ :: _, _, _, _, h, g => by cases h with | cons h1 h2 => exact .cons h1 (RKs.app h2 g)
theorem RKs.over : ∀ {kvs : List (Key × D)} {ws : List (Key × V)} (k : Key) {d : D} {v : V}, RKs K μ H kvs ws → RD K μ H d v → RKs K μ H (kvs.map fun kv => if kv.1 = k then (kv.1, d) else kv) (ws.map fun kv => if kv.1 = k then (kv.1, v) else kv)
  | [], _, k, _, _, h, _ => by cases h; exact .nil
  | (k0, d0) :: kvs, _, k, d, v, h, rd => by
    cases h with
    | @cons _ q _ ws h1 h2 =>
      obtain ⟨k1, w⟩ := q
      have e : k0 = k1 := h1.1
      subst e
      simp only [List.map_cons]
      refine .cons ?_ (RKs.over k h2 rd)
      by_cases hk : k0 = k
      · simp only [hk, if_true]; exact ⟨trivial, rd⟩
      · simp only [hk, if_false]; exact ⟨trivial, h1.2⟩
theorem RKs.set {kvs : List (Key × D)} {ws : List (Key × V)} (k : Key) {d : D} {v : V} (h : RKs K μ H kvs ws) (rd : RD K μ H d v) : RKs K μ H (setK kvs k d) (putK ws k v) := by
  unfold setK putK
  rw [RKs.any k h]
  split
  · exact RKs.over k h rd
  · exact RKs.app h (.cons ⟨rfl, rd⟩ .nil)
theorem RKs.keys : ∀ {kvs : List (Key × D)} {ws : List (Key × V)}, RKs K μ H kvs ws → RDs K μ H (kvs.map fun kv => ofKey kv.1) (ws.map fun kv => kV kv.1)
  | [], _, h => by cases h; exact .nil
  | (k0, d) :: kvs, _, h => by
    cases h with
    | @cons _ q _ ws h1 h2 =>
      have e : k0 = q.1 := h1.1
      simp only [List.map_cons, ← e]
      exact .cons (ofKey_rd k0) (RKs.keys h2)
end
def gDGet (x y : D) : M D := fun S => match atD S x, keyD y with
  | some kvs, some k => (match getK kvs k with
    | some v => .ok v S
    | none => .bad)
  | _, _ => .bad
def gDIn (neg : Bool) (y x : D) : M D := fun S => match atD S x, keyD y with
  | some kvs, some k => .ok (.bl (if neg = true then !(getK kvs k).isSome else (getK kvs k).isSome)) S
  | _, _ => .bad
def gDDef (x y z : D) : M D := fun S => match atD S x, keyD y with
  | some kvs, some k => .ok ((getK kvs k).getD z) S
  | _, _ => .bad
def eDGet (a b : EvD) : EvD := eBin gDGet a b
def eDNew : EvD := fun _ S => .ok (.ref S.length) (S ++ [.dct []])
/-- d.get(k, z) -/
def eDDef (a b c : EvD) : EvD := fun ρ => bnd (a ρ) fun x S1 => match atD S1 x with
  | some _ => bnd (b ρ) (fun y => bnd (c ρ) fun z => gDDef x y z) S1
  | none => .bad
def gDPut (v x y : D) : M Unit := fun S => match x, keyD y with
  | .ref n, some k => (match S[n]? with
    | some (.dct kvs) => if kvs.length < 16777216 then .ok () (S.set n (.dct (setK kvs k v))) else .bad
    | _ => .bad)
  | _, _ => .bad
def sDPutD (F Fo Fi : EvD) : EvS := fun ρ => lft ρ (F ρ) fun d => lft ρ (Fo ρ) fun o => lft ρ (Fi ρ) fun i => lft ρ (gDPut d o i) fun _ => ret (.nx ρ)
/-- list(d) -/
def gListK (xs : List D) : M D := fun S => match xs with
  | [d] => (match atD S d with
    | some kvs => .ok (.lst (kvs.map fun kv => ofKey kv.1)) S
    | none => .bad)
  | _ => .bad
section
variable {X : Cx} {W : WX} {pos pos' : Pos}
theorem DGet.of {K : PySem.W.Frag} {μ : Mu} {S : Sto} {H : Hp} {x y : D} {kvs : List (Key × D)} {k : Key} {v w : V} (e : atD S x = some kvs) (ek : keyD y = some k) (r : Rel K μ S H) (hx : RD K μ H x v) (hy : RD K μ H y w) :
    ∃ a ws, v = .ref a ∧ DGet H a w (valV ws k) ∧ RKs K μ H kvs ws := by
  obtain ⟨n, a, ws, rfl, rfl, _, _, q, z⟩ := atD_ok e r hx
  have := keyD_ok ek hy
  subst this
  exact ⟨a, ws, rfl, L2.DGet.k q, z⟩
theorem d_dget {o i : Expr} {to ti : EvD} (hu : X.A.units + 500 < cLine) (ho : PE X o (tD X.K X.mg W to)) (hi : PE X i (tD X.K X.mg W ti)) (hs : NoSl i := by exact fun _ _ => rfl) : PE X (.Subscript o i pos) (tD X.K X.mg W (eDGet to ti)) := by
  refine PE.imp (pe_dget (by omega) ho hi hs) fun σ H Q ⟨ρ, S, μ, e, s, h⟩ => ?_
  refine ⟨ρ, S, μ, e, s, h.bnd fun x S1 μ1 H1 s1 r1 h1 v rv => ?_⟩
  refine ⟨ρ, S1, μ1, e.step s s1, r1, h1.bnd fun y S2 μ2 H2 s2 r2 h2 w rw => ?_⟩
  unfold gDGet at h2
  split at h2
  · rename_i kvs k ea ek
    obtain ⟨a, ws, rfl, g, z⟩ := DGet.of ea ek r2 (rv.step r1 s2) rw
    rcases z.get k with ⟨g1, g2⟩ | ⟨d, u, g1, g2, rd⟩
    · rw [g1] at h2; exact h2.elim
    · rw [g1] at h2
      rw [g2] at g
      exact ⟨a, u, rfl, g, h2.now r2 _ rd⟩
  · exact h2.elim
theorem d_din {o i : Expr} {to ti : EvD} (hu : X.A.units + 500 < cLine) (hi : PE X i (tD X.K X.mg W ti)) (ho : PE X o (tD X.K X.mg W to)) (hm : behindInMarks .In o = false) : PE X (.Compare i [.In] [o] pos) (tD X.K X.mg W (eBin (gDIn false) ti to)) := by
  refine PE.imp (pe_cmp (pc_din (by omega) hi ho) hm) fun σ H Q ⟨ρ, S, μ, e, s, h⟩ => ?_
  refine ⟨ρ, S, μ, e, s, h.bnd fun y S1 μ1 H1 s1 r1 h1 w rw => ?_⟩
  refine ⟨ρ, S1, μ1, e.step s s1, r1, h1.bnd fun x S2 μ2 H2 s2 r2 h2 v rv => ?_⟩
  unfold gDIn at h2
  split at h2
  · rename_i kvs k ea ek
    obtain ⟨a, ws, rfl, g, z⟩ := DGet.of ea ek r2 rv (rw.step r1 s2)
    refine ⟨a, _, rfl, g, ?_⟩
    have : (getK kvs k).isSome = (valV ws k).isSome := by
      rcases z.get k with ⟨g1, g2⟩ | ⟨d, u, g1, g2, rd⟩ <;> rw [g1, g2] <;> rfl
    rw [if_neg Bool.false_ne_true, this] at h2
    exact h2.now r2 _ (.bl _)
  · exact h2.elim
theorem d_dnotin {o i : Expr} {to ti : EvD} (hu : X.A.units + 500 < cLine) (hi : PE X i (tD X.K X.mg W ti)) (ho : PE X o (tD X.K X.mg W to)) (hm : behindInMarks .NotIn o = false) : PE X (.Compare i [.NotIn] [o] pos) (tD X.K X.mg W (eBin (gDIn true) ti to)) := by
  refine PE.imp (pe_cmp (pc_dnotin (by omega) hi ho) hm) fun σ H Q ⟨ρ, S, μ, e, s, h⟩ => ?_
  refine ⟨ρ, S, μ, e, s, h.bnd fun y S1 μ1 H1 s1 r1 h1 w rw => ?_⟩
  refine ⟨ρ, S1, μ1, e.step s s1, r1, h1.bnd fun x S2 μ2 H2 s2 r2 h2 v rv => ?_⟩
  unfold gDIn at h2
  split at h2
  · rename_i kvs k ea ek
    obtain ⟨a, ws, rfl, g, z⟩ := DGet.of ea ek r2 rv (rw.step r1 s2)
    refine ⟨a, _, rfl, g, ?_⟩
    have : (getK kvs k).isSome = (valV ws k).isSome := by
      rcases z.get k with ⟨g1, g2⟩ | ⟨d, u, g1, g2, rd⟩ <;> rw [g1, g2] <;> rfl
    rw [if_pos rfl, this] at h2
    exact h2.now r2 _ (.bl _)
  · exact h2.elim
theorem d_dnew : PE X (.Dict [] [] pos) (tD X.K X.mg W eDNew) := by
  refine PE.imp pe_dnewK fun σ H Q ⟨ρ, S, μ, e, s, h⟩ => ?_
  exact fun p hp => h (μ.push p) _ (Stp.alloc hp) (s.alloc hp ⟨[], upd_same, .nil⟩) _ (new_ref s)
theorem d_ddef {o e f : Expr} {to te tf : EvD} {apos cpos : Pos} (hu : X.A.units + 500 < cLine) (ho : PE X o (tD X.K X.mg W to)) (he : PE X e (tD X.K X.mg W te)) (hf : PE X f (tD X.K X.mg W tf)) (m : M2 X o "get" apos e f cpos) : PE X (.Call (.Attribute o "get" apos) [e, f] [] cpos) (tD X.K X.mg W (eDDef to te tf)) := by
  refine PE.imp (pe_dget2 (by omega) ho he hf m) fun σ H Q ⟨ρ, S, μ, e, s, h⟩ => ?_
  refine ⟨ρ, S, μ, e, s, h.bnd fun x S1 μ1 H1 s1 r1 h1 v rv => ?_⟩
  split at h1
  · rename_i kv0 ea0
    obtain ⟨n, a, ws0, rfl, rfl, hn, hS0, q0, z0⟩ := atD_ok ea0 r1 rv
    refine ⟨a, rfl, .inl ⟨ws0, .inl q0⟩, ρ, S1, μ1, e.step s s1, r1, h1.bnd fun y S2 μ2 H2 s2 r2 h2 w rw => ?_⟩
    refine ⟨ρ, S2, μ2, (e.step s s1).step r1 s2, r2, h2.bnd fun z S3 μ3 H3 s3 r3 h3 u ru => ?_⟩
    unfold gDDef at h3
    split at h3
    · rename_i kvs k ea ek
      obtain ⟨a', ws, ea', g, zz⟩ := DGet.of ea ek r3 ((rv.step r1 s2).step r2 s3) (rw.step r2 s3)
      cases ea'
      refine ⟨_, g, ?_⟩
      rcases zz.get k with ⟨g1, g2⟩ | ⟨d, u', g1, g2, rd⟩
      · rw [g1] at h3; rw [g2]; exact h3.now r3 _ ru
      · rw [g1] at h3; rw [g2]; exact h3.now r3 _ rd
    · exact h3.elim
  · exact h1.elim
theorem s_dput {o i e : Expr} {F Fo Fi : EvD} {p2 : Pos} (hu : X.A.units + 500 < cLine) (he : PE X e (tD X.K X.mg W F)) (ho : PE X o (tD X.K X.mg W Fo)) (hi : PE X i (tD X.K X.mg W Fi)) (hs : swapsWith e (some (.Subscript o i p2)) pos.line X.env = pure false := by rfl) :
    PS X (.Assign [.Subscript o i p2] e pos) (tS X.K X.mg W (sDPutD F Fo Fi)) := by
  refine PS.imp (ps_dput (by omega) ho hi he hs) fun E σ H ⟨ρ, S, μ, e, s, h⟩ => ?_
  refine ⟨ρ, S, μ, e, s, h.lft e s fun d S1 μ1 H1 s1 r1 e1 h1 v rv => ?_⟩
  refine ⟨ρ, S1, μ1, e1, r1, h1.lft e1 r1 fun ov S2 μ2 H2 s2 r2 e2 h2 w rw => ?_⟩
  refine ⟨ρ, S2, μ2, e2, r2, h2.lft e2 r2 fun iv S3 μ3 H3 s3 r3 e3 h3 u ru => ?_⟩
  have rv3 := (rv.step r1 s2).step r2 s3
  have rw3 := rw.step r2 s3
  unfold lft gDPut at h3
  split at h3
  · rename_i a S4 heq
    split at heq
    · rename_i n k ek
      split at heq
      · rename_i kvs eS
        split at heq
        · rename_i hl
          cases heq
          obtain ⟨n', a, ws, en, rfl, hn, hS, q, z⟩ := atD_ok (d := .ref n) (kvs := kvs) (by unfold atD; simp only [eS]) r3 rw3
          cases en
          have := keyD_ok ek ru
          subst this
          have hm : a ∈ μ3.v := List.mem_of_getElem? hn
          have zk := (RKs.step z r3 (Stp.put (o := .dK (putK ws k v)) hm)).set k (rv3.step r3 (Stp.put hm))
          refine ⟨a, _, rfl, DPut.k q (by rw [← z.len, sizeLine_eq]; exact hl), ?_⟩
          exact h3 μ3 _ (Stp.put hm) (r3.put hn ⟨_, upd_same, zk⟩) σ (e3.step r3 (Stp.put hm))
        · cases heq
      · cases heq
    · cases heq
  · rename_i x S4 heq
    split at heq
    · split at heq
      · split at heq <;> cases heq
      · cases heq
    · cases heq
  · exact h3.elim
theorem c_listK (hc : X.calm = true) : CRD X W (.type "list") gListK := by
  refine ⟨_, call_listD hc, fun ds vs μ S σ H Q r rds h => ?_⟩
  unfold gListK at h
  split at h
  · cases rds with
    | cons h1 h2 =>
      cases h2
      split at h
      · rename_i kvs e
        obtain ⟨n, a, ws, rfl, rfl, _, _, q, z⟩ := atD_ok e r h1
        exact ⟨a, ws, rfl, .inl q, fun p hp => h μ _ (Stp.new hp) (r.new hp) _ (.lst upd_same ⟨fun z => r.there z hp, fun z => r.hid _ z hp⟩ (z.keys.step r (Stp.new hp)))⟩
      · exact h.elim
  · exact h.elim
end
/-! ### displays -/
section
variable {K : PySem.W.Frag} {μ : Mu} {S : Sto} {H : Hp}
mutual
/-- a dict in the making comes into the store -/
theorem RD.revealD {p : Addr} {o : HO} {kv : List (Key × V)} (hp : H p = some (.dK kv)) : ∀ (d : D) (v : V), RD K (μ.hide p) H d v → RD K (μ.push p) (upd H p o) d v
  | .non, _, h => by cases h; exact .non
  | .bl _, _, h => by cases h; exact .bl _
  | .int _, _, h => by cases h; exact .int _
  | .str _, _, h => by cases h; exact .str _
  | .fn _, _, h => by cases h with | fn q => exact .fn q
  | .tup ds, _, h => by
    cases h with
    | tup h1 h2 =>
      refine .tup ?_ (RDs.revealD hp ds _ h2)
      rcases h1 with (h1 | ⟨o, h1⟩) | h1
      · exact .inl (.inl (by rw [upd_ne (ne_of h1 hp (fun z => nomatch z))]; exact h1))
      · exact .inl (.inr ⟨o, by rw [upd_ne (ne_of h1 hp (fun z => nomatch z))]; exact h1⟩)
      · exact .inr h1
  | .fl ds, _, h => by
    cases h with
    | fl h1 h2 =>
      refine .fl ?_ (RDs.revealD hp ds _ h2)
      rcases h1 with ⟨o, h1⟩ | h1
      · exact .inl ⟨o, by rw [upd_ne (ne_of h1 hp (fun z => nomatch z))]; exact h1⟩
      · exact .inr h1
  | .lst ds, _, h => by
    cases h with
    | @lst a vs _ h1 h0 h2 =>
      have ne : a ≠ p := fun z => h0.2 (by rw [z]; exact List.mem_cons_self)
      refine .lst (by rw [upd_ne ne]; exact h1) ⟨fun z => ?_, fun z => h0.2 (List.mem_cons_of_mem _ z)⟩ (RDs.revealD hp ds _ h2)
      rcases List.mem_append.mp (show a ∈ μ.v ++ [p] from z) with q | q
      · exact h0.1 q
      · exact ne (by simpa using q)
  | .ref n, _, h => by
    cases h with
    | ref h1 => exact .ref (by
        have h1' : μ.v[n]? = some _ := h1
        show (μ.v ++ [p])[n]? = _
        rw [List.getElem?_append_left (List.getElem?_eq_some_iff.mp h1').1]; exact h1')
theorem RDs.revealD {p : Addr} {o : HO} {kv : List (Key × V)} (hp : H p = some (.dK kv)) : ∀ (ds : List D) (vs : List V), RDs K (μ.hide p) H ds vs → RDs K (μ.push p) (upd H p o) ds vs
  | [], _, h => by cases h; exact .nil
  | d :: ds, _, h => by
    cases h with
    | cons h1 h2 => exact .cons (RD.revealD hp d _ h1) (RDs.revealD hp ds _ h2)
end
theorem Rel.revealD {p : Addr} {o : HO} {kv : List (Key × V)} {m : MO} (r : Rel K (μ.hide p) S H) (hx : p ∉ μ.x) (hp : H p = some (.dK kv)) (hm : RM K (μ.push p) (upd H p o) p m) : Rel K (μ.push p) (S ++ [m]) (upd H p o) := by
  have hpv : p ∉ μ.v := fun z => r.apt p z List.mem_cons_self
  refine ⟨by have := r.len; simp only [Mu.push, List.length_append, List.length_singleton]; exact congrArg (· + 1) this, ?_, fun i a n h1 h2 => ?_, fun a ha => ?_, fun a ha hz => ?_⟩
  · show (μ.v ++ [p]).Nodup
    rw [List.nodup_append]
    refine ⟨r.nd, by simp, fun a ha b hb => ?_⟩
    simp at hb; subst hb
    exact fun z => hpv (by rw [← z]; exact ha)
  · have h1' : (μ.v ++ [p])[i]? = some a := h1
    have hlen : μ.v.length = S.length := r.len
    by_cases hi : i < μ.v.length
    · rw [List.getElem?_append_left hi] at h1'
      rw [List.getElem?_append_left (by omega)] at h2
      exact (r.obj i a n h1' h2).map (upd_ne fun z => hpv (by rw [← z]; exact List.mem_of_getElem? h1')) (RD.revealD hp) (RDs.revealD hp)
    · have hi' : i = μ.v.length := by
        have := (List.getElem?_eq_some_iff.mp h1').1
        simp at this; omega
      subst hi'
      rw [List.getElem?_append_right (Nat.le_refl _)] at h1'
      rw [hlen, List.getElem?_append_right (Nat.le_refl _)] at h2
      simp at h1' h2
      subst h1' h2
      exact hm
  · by_cases z : a = p
    · rw [z, upd_same]; simp
    · rw [upd_ne z]; exact r.hid a (List.mem_cons_of_mem _ ha)
  · rcases List.mem_append.mp (show a ∈ μ.v ++ [p] from ha) with q | q
    · exact r.apt a q (List.mem_cons_of_mem _ hz)
    · have : a = p := by simpa using q
      subst this
      exact hx hz
end
/-- {k: e, ..}, the keys written texts -/
def eDct (ks : List Str) (as : EvL) : EvD := fun ρ => bnd (as ρ) fun ds S => if ds.length = ks.length then .ok (.ref S.length) (S ++ [.dct ((ks.map Sum.inr).zip ds)]) else .bad
structure DPs (X : Cx) (W : WX) (pos : Pos) (ks : List (Option Expr)) (vs : List Expr) (trs : List (TE × TE)) (xs : List Str) (F : EvL) : Prop where
  pp : PPs X pos ks vs trs
  len : vs.length = xs.length
  go : ∀ σ H (Q : List (V × V) → Hp → Prop), (∃ ρ S μ, RE X.K μ H σ ρ ∧ Rel X.K μ S H ∧ Post X.K X.mg W μ σ H (F ρ S) (fun ds μ' H' => ∀ ws, RDs X.K μ' H' ds ws → ds.length = xs.length → Q ((xs.map V.str).zip ws) H')) → tPairs trs σ H Q
section
variable {X : Cx} {W : WX} {pos : Pos}
theorem dps_nil : DPs X W pos [] [] [] [] aNil := ⟨pps_nil, rfl, fun σ H Q ⟨ρ, S, μ, e, s, h⟩ => by
  have := h.now s [] .nil rfl
  exact this⟩
theorem dps_cons {x : Str} {v : Expr} {ks : List (Option Expr)} {vs : List Expr} {trs : List (TE × TE)} {xs : List Str} {te : EvD} {F : EvL} {j : Nat} {p : Pos} (hv : PE X v (tD X.K X.mg W te)) (hr : DPs X W pos ks vs trs xs F) :
    DPs X W pos (some (.Constant (.str x) j p) :: ks) (v :: vs) ((tC (.str x), tD X.K X.mg W te) :: trs) (x :: xs) (aCons te F) := by
  refine ⟨pps_cons pe_str hv hr.pp, by simp [hr.len], fun σ H Q ⟨ρ, S, μ, e, s, h⟩ => ?_⟩
  show tD X.K X.mg W te σ H _
  refine ⟨ρ, S, μ, e, s, h.bnd fun y S1 μ1 H1 s1 r1 h1 w rw => ?_⟩
  refine hr.go σ H1 _ ⟨ρ, S1, μ1, e.step s s1, r1, h1.bnd fun ys S2 μ2 H2 s2 r2 h2 ws rws hl => ?_⟩
  exact h2.now r2 (w :: ws) (.cons (rw.step r1 s2) rws) (by simp [hl])
theorem zip_keys : ∀ (xs : List Str) (ws : List V), ((xs.map V.str).zip ws) = ((xs.map Sum.inr).zip ws).map fun kv : Key × V => (kV kv.1, kv.2)
  | [], _ => rfl
  | x :: xs, [] => rfl
  | x :: xs, w :: ws => by simp only [List.map_cons, List.zip_cons_cons, zip_keys xs ws]; rfl
theorem merge_fresh : ∀ (more kvs : List (Key × V)), (more.map (·.1)).Nodup → (∀ k ∈ more.map (·.1), k ∉ kvs.map (·.1)) → mergeK kvs more = kvs ++ more
  | [], kvs, _, _ => by simp [mergeK]
  | (k, v) :: more, kvs, nd, dj => by
    have h0 : (kvs.any fun kv => decide (kv.1 = k)) = false := by
      rw [List.any_eq_false]
      intro kv hkv
      have := dj k (by simp)
      simp only [decide_eq_true_eq]
      intro e
      exact this (List.mem_map.mpr ⟨kv, hkv, e⟩)
    have e1 : putK kvs k v = kvs ++ [(k, v)] := by unfold putK; rw [h0]; rfl
    have nd' : k ∉ more.map (·.1) ∧ (more.map (·.1)).Nodup := by simpa using nd
    have : mergeK kvs ((k, v) :: more) = mergeK (kvs ++ [(k, v)]) more := by
      show (more.foldl (fun acc kv => putK acc kv.1 kv.2) (putK kvs k v)) = _
      rw [e1]; rfl
    rw [this, merge_fresh more _ nd'.2 fun k' hk' => ?_]
    · simp
    · simp only [List.map_append, List.map_cons, List.map_nil, List.mem_append, List.mem_singleton, not_or]
      exact ⟨dj k' (by simp only [List.map_cons, List.mem_cons]; exact .inr hk'), fun e => nd'.1 (by rw [← e]; exact hk')⟩
theorem keys_zip : ∀ (xs : List Str) (ws : List V), xs.length = ws.length → (((xs.map Sum.inr : List Key).zip ws).map (·.1)) = xs.map Sum.inr
  | [], _, _ => rfl
  | x :: xs, [], h => by simp at h
  | x :: xs, w :: ws, h => by simp only [List.map_cons, List.zip_cons_cons, keys_zip xs ws (by simpa using h)]
theorem RKs.zip {K : PySem.W.Frag} {μ : Mu} {H : Hp} : ∀ (xs : List Str) {ds : List D} {ws : List V}, RDs K μ H ds ws → RKs K μ H ((xs.map Sum.inr).zip ds) ((xs.map Sum.inr).zip ws)
  | [], _, _, _ => .nil
  | x :: xs, [], _, h => by cases h; exact .nil
  | x :: xs, d :: ds, _, h => by cases h with | cons h1 h2 => exact .cons ⟨rfl, h1⟩ (RKs.zip xs h2)
theorem d_dct {ks : List (Option Expr)} {vs : List Expr} {trs : List (TE × TE)} {xs : List Str} {F : EvL} (h : DPs X W pos ks vs trs xs F) (nd : xs.Nodup) (hall : ks.all (·.isSome) = true := by rfl) (hl : ks.length = vs.length := by rfl) (h0 : ks ≠ [] := by exact fun z => nomatch z) (h15 : ks.length ≤ 15 := by decide) :
    PE X (.Dict ks vs pos) (tD X.K X.mg W (eDct xs F)) := by
  refine PE.imp (pe_disp h.pp hall hl h0 h15) fun σ H Q ⟨ρ, S, μ, e, s, q⟩ => ?_
  intro p hp
  have hpx : p ∉ μ.x := fun z => s.hid p z hp
  have q' : Post X.K X.mg W (μ.hide p) σ (upd H p (.dK [])) (F ρ S) (fun ds μ' H' => ∃ μ1, μ' = Mu.hide μ1 p ∧ Stp μ H μ1 H' ∧ H' p = some (.dK []) ∧ Rel X.K (μ1.hide p) ((match F ρ S with | .ok _ S' => S' | _ => S)) H' ∧ (match (if ds.length = xs.length then R.ok (D.ref (match F ρ S with | .ok _ S' => S' | _ => S).length) ((match F ρ S with | .ok _ S' => S' | _ => S) ++ [MO.dct ((xs.map Sum.inr).zip ds)]) else R.bad : R D) with
      | .ok d S2 => ∀ μ2 H2, Stp μ H μ2 H2 → Rel X.K μ2 S2 H2 → QD X.K Q d μ2 H2
      | _ => False)) := by
    unfold eDct bnd at q
    cases hF : F ρ S with
    | ok ds S1 =>
      rw [hF] at q
      intro μ' H' st r'
      have hks : H' p = some (.dK []) := st.keep p _ upd_same (fun z => (s.there (show p ∈ μ.v from z)) hp)
      have st0 : Stp (μ.hide p) H (μ.hide p) (upd H p (.dK [])) := Stp.new hp
      obtain ⟨μ1, rfl, st1⟩ := Stp.show (st0.trans st)
      refine ⟨μ1, rfl, st1, hks, r', ?_⟩
      by_cases hd : ds.length = xs.length
      · simp only [hd, if_true] at q ⊢
        exact fun μ2 H2 s2 r2 => q μ2 H2 s2 r2
      · simp only [hd, if_false] at q
        exact q.elim
    | ex x S1 =>
      rw [hF] at q
      intro μ' H' c od st r' rx
      have st0 : Stp (μ.hide p) H (μ.hide p) (upd H p (.dK [])) := Stp.new hp
      obtain ⟨μ1, rfl, st1⟩ := Stp.show (st0.trans st)
      refine q μ1 H' c od st1 r'.show ?_
      obtain ⟨h1, h2⟩ := rx
      refine ⟨h1, ?_⟩
      cases od with
      | none => exact h2
      | some d =>
        obtain ⟨h3, fs, h4, h5⟩ := h2
        exact ⟨h3, fs, h4, Paired.mapP h5 fun _ _ z => ⟨z.1, RD.show _ _ z.2⟩⟩
    | bad => rw [hF] at q; exact q.elim
  refine h.go σ _ _ ⟨ρ, S, μ.hide p, e.mapR (RD.hide hp), s.hide hp, q'.imp fun ds S' μ' H' hr st r' ⟨μ1, eμ, st1, hks, r1, fin⟩ => ?_⟩
  subst eμ
  intro ws rws hlen
  rw [hr] at fin r1
  simp only [hlen, if_true] at fin r1
  have hle : xs.length = ws.length := by rw [← hlen, rws.length]
  refine ⟨hks, (xs.map Sum.inr).zip ws, zip_keys xs ws, by rw [List.length_zip, List.length_map, ← hle, Nat.min_self, ← h.len, ← hl]; exact h15, ?_⟩
  have ndk : (xs.map Sum.inr : List Key).Nodup := List.pairwise_map.mpr (List.Pairwise.imp (fun h e => h (Sum.inr.inj e)) nd)
  rw [merge_fresh _ [] (by rw [keys_zip xs ws hle]; exact ndk) (fun k _ => by simp), List.nil_append]
  have hpx1 : p ∉ μ1.x := by rw [st1.x]; exact hpx
  have rr := r1.revealD (o := .dK ((xs.map Sum.inr).zip ws)) (m := .dct ((xs.map Sum.inr).zip ds)) hpx1 hks ⟨_, upd_same, RKs.zip xs (RDs.revealD hks _ _ rws)⟩
  have stp2 : Stp μ H (μ1.push p) (upd H' p (.dK ((xs.map Sum.inr).zip ws))) := by
    have := (st1.side (o := .dK ((xs.map Sum.inr).zip ws)) hp).push hp
    exact this
  refine fin _ _ stp2 rr _ (.ref ?_)
  have hln : μ1.v.length = S'.length := r1.len
  show (μ1.v ++ [p])[S'.length]? = some p
  rw [List.getElem?_append_right (by omega), hln]; simp
end
end DL

/-! DLN: more built-ins. -/
namespace DL
open PySem L2 PyProof.Rows
def gMaxL (xs : List D) : M D := fun S => match xs with
  | [d] => (match (iSeq S d).bind intsOf with
    | some (n :: ns) => .ok (.int (ns.foldl max n)) S
    | _ => .bad)
  | _ => .bad
theorem foldl_max : ∀ (ns : List Int) (n : Int), (ns.foldl max n) ∈ n :: ns ∧ ∀ y ∈ n :: ns, y ≤ ns.foldl max n
  | [], n => ⟨by simp, fun y hy => by simp at hy; simp [hy]⟩
  | m :: ns, n => by
    obtain ⟨h1, h2⟩ := foldl_max ns (max n m)
    refine ⟨?_, fun y hy => ?_⟩
    · simp only [List.foldl_cons]
      rcases List.mem_cons.mp h1 with e | h
      · rw [e]
        rcases Int.le_total n m with h | h
        · rw [Int.max_eq_right h]; simp
        · rw [Int.max_eq_left h]; simp
      · exact List.mem_cons_of_mem _ (List.mem_cons_of_mem _ h)
    · simp only [List.foldl_cons]
      have hb := h2 (max n m) List.mem_cons_self
      rcases List.mem_cons.mp hy with rfl | hy
      · exact Int.le_trans (Int.le_max_left _ _) hb
      · rcases List.mem_cons.mp hy with rfl | hy
        · exact Int.le_trans (Int.le_max_right _ _) hb
        · exact h2 y (List.mem_cons_of_mem _ hy)
theorem c_maxL {X : Cx} {W : WX} (hc : X.calm = true) : CRD X W (.builtin "max") gMaxL := by
  refine ⟨_, cr_max hc, fun ds vs μ S σ H Q r rds h => ?_⟩
  unfold gMaxL at h
  split at h
  · cases rds with
    | cons h1 h2 =>
      cases h2
      split at h
      · rename_i n ns e
        rw [Option.bind_eq_some_iff] at e
        obtain ⟨ds, e1, e2⟩ := e
        obtain ⟨a, vs, rfl, q, z⟩ := iSeq_ok e1 r h1
        rw [intsOf_ok e2] at z
        rw [z.ints] at q
        obtain ⟨f1, f2⟩ := foldl_max ns n
        refine ⟨_, _, rfl, q, by simp, fun m hm hy => ?_⟩
        have : m = ns.foldl max n := Int.le_antisymm (f2 m hm) (hy _ f1)
        rw [this]
        exact h.now r _ (.int _)
      · exact h.elim
  · exact h.elim
end DL
namespace DL
open PySem L2 PyProof.Rows
theorem kit_bt {K : PySem.W.Frag} {A : Addr} {T : String} {b : Bool} (hm : PySem.W.kitMeta T = true) (e : PySem.W.subIn K (.ref A) (.type T) = some b) : PySem.W.kitOne K (.ref A) (.type T) = some b := by
  unfold PySem.W.kitOne
  rw [if_neg (by intro h; exact absurd (beq_iff_eq.mp h) (fun z => nomatch z))]
  show (if PySem.W.kitMeta T = true then PySem.W.subIn K (.ref A) (.type T) else none) = some b
  rw [if_pos hm]; exact e
theorem ref_eq {mg : Str → Option Value} {x : Str} {A B : Addr} (h : mg x = some (.ref A)) (g : mg x = some (.ref B)) : A = B := by
  have := h.symm.trans g
  simpa using this
/-- a suite that asks for the class, class by class -/
def SuiteTbl (X : Cx) (suite : List Stmt) (i : Nat) (G : List Bool → EvS) : List (Str × List Bool) → Prop
  | [] => True
  | p :: r => (∀ (a A : Addr) (oe : Obj) (pn : List (Addr × Obj)), X.mg p.1 = some (.ref A) → Zc (.ref A) none oe → (∃ vs, oe.data = .fields vs) → PSs (X.suite a ((a, oe) :: pn)) suite (tSx X.K X.mg i a (G p.2))) ∧ SuiteTbl X suite i G r
def suiteOf (G : List Bool → EvS) (t : List (Str × List Bool)) (e : Exc) : EvS := match tblSub t e.cls with
  | some bs => G bs
  | none => sBad
theorem suite_tbl {X : Cx} {suite : List Stmt} {i : Nat} {G : List Bool → EvS} : ∀ {t : List (Str × List Bool)}, SuiteTbl X suite i G t → ∀ (a A : Addr) (oe : Obj) (e : Exc) (pn : List (Addr × Obj)), X.mg e.cls = some (.ref A) → Zc (.ref A) none oe → (∃ vs, oe.data = .fields vs) →
    PSs (X.suite a ((a, oe) :: pn)) suite (tSx X.K X.mg i a (suiteOf G t e))
  | [], _, a, A, oe, e, pn, g, hz, hv => ⟨fun pins s σ H E I ⟨_, ρ, S, μ, _, _, h⟩ => h.elim⟩
  | (x, bs) :: r, h, a, A, oe, e, pn, g, hz, hv => by
    obtain ⟨c, fs⟩ := e
    by_cases hx : x = c
    · subst hx
      unfold suiteOf
      simp only [tbl_hit]
      exact h.1 a A oe pn g hz hv
    · have e1 : suiteOf G ((x, bs) :: r) ⟨c, fs⟩ = suiteOf G r ⟨c, fs⟩ := by
        unfold suiteOf
        simp only [tbl_miss hx]
      rw [e1]
      exact suite_tbl h.2 a A oe ⟨c, fs⟩ pn g hz hv
end DL

/-! DLQ: sorted(set(texts)) -/
namespace DL
open PySem PySem.Spec PyProof.Rows L2
def keyS (e : Int × Value) : Str := match e.2 with
  | .str z _ => z
  | _ => Str.empty
def GoodS (w : World) (e : Int × Value) : Prop := ∃ z tk, e.2 = Value.str z tk ∧ e.1 = hashStr w z
def ddS (L : List Str) (z : Str) : List Str := if z ∈ L then L else L ++ [z]
def dedup (zs : List Str) : List Str := zs.foldl ddS []
structure SetS (w : World) (h : Heap) (a : Addr) (L : List Str) : Prop where
  ex : ∃ o es ep t, h.get? a = some o ∧ o.ExactSet ∧ o.data = .set es ep t ∧ (∀ e ∈ es.toList, GoodS w e) ∧ (es.toList.map keyS).Perm L ∧ L.Nodup ∧
    es.size < scanBound ∧ t.fits es.size = true ∧ Ris t.place.toList ∧ (w.params.followText "set-order" = true ∨ t.led = true)
section
variable {P : Program} {w : World} {h h' : Heap} {a : Addr} {L : List Str}
abbrev sk (P : Program) (w : World) := PySem.strKind P w
theorem SetS.at (R : SetS w h a L) (k : ∀ o, h.get? a = some o → h'.get? a = some o) : SetS w h' a L := by
  obtain ⟨o, es, ep, t, ho, r⟩ := R.ex
  exact ⟨o, es, ep, t, k o ho, r⟩
theorem goodS_elems {l : List (Int × Value)} (g : ∀ e ∈ l, GoodS w e) : ElemsOf (sk P w) l := fun e he => by
  obtain ⟨k, tk, h1, h2⟩ := g e he
  refine ⟨⟨k, ?_, h2⟩, by rw [h1] <;> rfl⟩
  rw [h1]; exact strKind_is P w k tk
theorem goodS_is {e : Int × Value} (g : GoodS w e) (k : Str) : (sk P w).is k e.2 = true ↔ keyS e = k := by
  obtain ⟨z, tk, h1, _⟩ := g
  unfold keyS
  rw [h1]
  constructor
  · intro q
    obtain ⟨u, hu⟩ := Value.isStrOf_shape (show Value.isStrOf k (.str z tk) = true from q)
    injection hu with hu _
  · intro q
    subst q
    exact strKind_is P w _ tk
theorem goodS_mem {l : List (Int × Value)} (g : ∀ e ∈ l, GoodS w e) (k : Str) : k ∈ l.map keyS ↔ ∃ e ∈ l, (sk P w).is k e.2 = true := by
  rw [List.mem_map]
  exact ⟨fun ⟨e, he, q⟩ => ⟨e, he, (goodS_is (g e he) k).2 q⟩, fun ⟨e, he, q⟩ => ⟨e, he, (goodS_is (g e he) k).1 q⟩⟩
end
section
variable {P : Program} {w : World} {A : Around} {E : Value → Shared → Prop} {s : Shared} {a : Addr} {L : List Str}
theorem setS_tail {g : Bool → Sem Unit} (hg : ∀ (b : Bool) (s₁ : Shared) (Q' : Unit → Shared → Prop), Q' () s₁ → wpAny (model P w) A (g b) Q' E s₁) {o : Obj} {es es1 : Array (Int × Value)} {ep : Nat} {t t2 : SetTable} {L1 : List Str} {wd : Bool} {R : Option Bool → Shared → Prop}
    (ho : s.heap.get? a = some o) (hex : o.ExactSet) (hd : o.data = .set es ep t) (g1 : ∀ e ∈ es1.toList, GoodS w e) (p1 : (es1.toList.map keyS).Perm L1) (nd1 : L1.Nodup) (hb1 : es1.size < scanBound) (hf2 : t2.fits es1.size = true) (hr : Ris t2.place.toList)
    (hl : w.params.followText "set-order" = true ∨ t2.led = true) (hR : ∀ h', Heap.SameBut a s.heap h' → SetS w h' a L1 → R (some true) { s with heap := h' }) :
    wpAny (model P w) A (do storeSet a es1 t2; if (!wd && t2.tooFull) = true then do { g (relayAll t2 es1 (SetTable.grown es1.size)).2.2; storeSet a (relayAll t2 es1 (SetTable.grown es1.size)).1 (relayAll t2 es1 (SetTable.grown es1.size)).2.1; pure (some true) } else pure (some true)) R E s := by
  refine wpAny_bind (wpAny_storeSet_of ho hd ?_ (fits_of_scanBound hb1))
  have o1 := store_at (es' := es1) (t' := t2) ho hd
  have b1 := Heap.SameBut.update s.heap a (Obj.putSet es1 t2)
  split
  · have q1 := relayAll_perm t2 es1 (SetTable.grown es1.size)
    have q2 := relayAll_fits t2 es1 (SetTable.grown es1.size)
    have q3 := relayAll_ris t2 es1 (SetTable.grown es1.size)
    have q4 := relayAll_led t2 es1 (SetTable.grown es1.size)
    generalize relayAll t2 es1 (SetTable.grown es1.size) = Y at q1 q2 q3 q4 ⊢
    obtain ⟨es2, t3, gv⟩ := Y
    dsimp only at q1 q2 q3 q4 ⊢
    have hb2 : es2.size < scanBound := by
      have := q1.length_eq
      rw [Array.length_toList, Array.length_toList] at this
      omega
    refine wpAny_bind (hg _ _ _ (wpAny_bind (wpAny_storeSet_of o1 rfl ?_ (fits_of_scanBound hb2))))
    have o2 := store_at (es' := es2) (t' := t3) o1 rfl
    exact wpAny_pure (hR _ (b1.trans (Heap.SameBut.update _ a _)) ⟨_, es2, _, t3, o2, hex, rfl, fun e he => g1 e (q1.mem_iff.mp he), (q1.map keyS).trans p1, nd1, hb2, q2, q3, hl.imp id fun z => by rw [q4]; exact z⟩)
  · exact wpAny_pure (hR _ b1 ⟨_, es1, _, t2, o1, hex, rfl, g1, p1, nd1, hb1, hf2, hr, hl⟩)
theorem setS_hashed {z : Str} {tk : Tok} {Q : Bool → Shared → Prop} (R : SetS w s.heap a L) (room : (ddS L z).length < scanBound) (hQ : ∀ h' b, Heap.SameBut a s.heap h' → SetS w h' a (ddS L z) → Q b { s with heap := h' }) :
    wpAny (model P w) A (setAddHashed a (.str z tk) ((sk P w).hash z)) Q E s := by
  obtain ⟨o, es, ep, t, ho, hex, hd, g, pm0, nd, hb, hf, hr, hl⟩ := R.ex
  have kz : (sk P w).is z (.str z tk) = true := strKind_is P w z tk
  have sz : (Value.str z tk).scannable = true := rfl
  have el : ElemsOf (sk P w) es.toList := goodS_elems g
  unfold setAddHashed setAddHashedIn
  refine wpAny_holding (wpAny_bind (wpAny_setState_of ho hd hf ?_))
  dsimp only
  rw [byScan_of sz hb el]
  simp only [↓reduceIte]
  unfold setAddByScan
  refine wpAny_bind (wpAny_bind (wpAny_rule (wpAny_bind (wpAny_setScan_of kz ho hd hf el ?_))))
  cases fi : List.findIdx? (fun e => (sk P w).is z e.2) es.toList with
  | some j =>
    dsimp only
    obtain ⟨hj, pj, _⟩ := List.findIdx?_eq_some_iff_getElem.mp fi
    have hz : z ∈ L := pm0.mem_iff.mp ((goodS_mem (P := P) (w := w) g z).2 ⟨es.toList[j], List.getElem_mem hj, pj⟩)
    have e : ddS L z = L := if_pos hz
    rw [e] at hQ
    exact wpAny_pure (wpAny_pure (hQ s.heap _ (Heap.SameBut.refl a s.heap) R))
  | none =>
    dsimp only
    have nz : z ∉ L := fun q => by
      obtain ⟨e, he, q⟩ := (goodS_mem (P := P) (w := w) g z).1 (pm0.mem_iff.mpr q)
      have c := List.findIdx?_eq_none_iff.mp fi e he
      rw [q] at c; cases c
    have e : ddS L z = L ++ [z] := if_neg nz
    rw [e] at hQ room
    have gw : ∀ (b : Bool) {s₁ : Shared} {Q' : Unit → Shared → Prop}, Q' () s₁ → wpAny (model P w) A (match b with | true => rule "set.scan.the-table-gave-way" | false => pure ()) Q' E s₁ := fun b s₁ Q' q => by
      cases b
      · exact wpAny_pure q
      · exact wpAny_rule q
    have q1 := layNew_perm t es ((sk P w).hash z) (.str z tk)
    have q2 := layNew_fits t es ((sk P w).hash z) (.str z tk)
    have q3 := layNew_ris t es ((sk P w).hash z) (.str z tk) hr
    have q4 := layNew_led t es ((sk P w).hash z) (.str z tk)
    generalize layNew t es ((sk P w).hash z) (.str z tk) = Y at q1 q2 q3 q4 ⊢
    obtain ⟨es1, t1, wd, gv⟩ := Y
    dsimp only at q1 q2 q3 q4 ⊢
    rw [Array.toList_push] at q1
    have g1 : ∀ e ∈ es1.toList, GoodS w e := fun e he => by
      rcases List.mem_append.mp (q1.mem_iff.mp he) with y | y
      · exact g e y
      · rw [List.mem_singleton.mp y]; exact ⟨z, tk, rfl, rfl⟩
    have p1 : (es1.toList.map keyS).Perm (L ++ [z]) := by
      have := q1.map keyS
      rw [List.map_append] at this
      exact this.trans (pm0.append (List.Perm.refl _))
    have nd1 : (L ++ [z]).Nodup := by
      rw [List.nodup_append]
      exact ⟨nd, by simp, fun x hx y hy e => nz (by rw [List.mem_singleton.mp hy] at e; rw [← e]; exact hx)⟩
    have hb1 : es1.size < scanBound := by
      have := p1.length_eq
      rw [List.length_map, Array.length_toList] at this
      omega
    have ld : w.params.followText "set-order" = true ∨ t1.led = true := hl.imp id fun y => by rw [q4]; exact y
    refine wpAny_bind (gw _ ?_)
    split
    · refine wpAny_bind ?_
      rw [hashByValue_scannable 8 sz]
      refine wpAny_pure (setS_tail (fun b s₁ Q' q => gw b q) ho hex hd g1 p1 nd1 hb1 ?_ ?_ ?_ fun h' sb r => wpAny_pure (hQ h' _ sb r))
      · first | (split <;> first | exact q2 | exact SetTable.fits_plain_off q2) | exact q2
      · first | (split <;> exact q3) | exact q3
      · first | (split <;> exact ld) | exact ld
    · refine wpAny_bind (wpAny_pure ?_)
      simp only [↓reduceIte]
      exact setS_tail (fun b s₁ Q' q => gw b q) ho hex hd g1 p1 nd1 hb1 q2 q3 ld fun h' sb r => wpAny_pure (hQ h' _ sb r)
end
theorem dd_take (zs : List Str) {i : Nat} {z : Str} (h : zs[i]? = some z) : dedup (zs.take (i + 1)) = ddS (dedup (zs.take i)) z := by
  unfold dedup
  rw [List.take_succ, h]
  simp
theorem ddS_len (L : List Str) (z : Str) : L.length ≤ (ddS L z).length := by unfold ddS; split <;> simp
theorem dd_mono (zs : List Str) (i : Nat) : (dedup (zs.take i)).length ≤ (dedup zs).length := by
  have key : ∀ (b L : List Str), L.length ≤ (b.foldl ddS L).length := by
    intro b
    induction b with
    | nil => intro L; exact Nat.le_refl _
    | cons x b ih => intro L; exact Nat.le_trans (ddS_len L x) (ih _)
  conv => rhs; rw [← List.take_append_drop i zs]
  unfold dedup
  rw [List.foldl_append]
  exact key _ _
section
variable {P : Program} {w : World} {A : Around} {R : Result → Shared → Prop} {I : Addr} {fp wr : List Addr} {G : Array GenState → Array GenState → Prop} {n : Nat} {Pv : Nat → Value → Prop} {St : Nat → Shared → Prop}
theorem setS_loop (Y : WalksS P w A.in1 I fp wr G n Pv St) (C : Addr) (hC : C ∉ fp) (zs : List Str) (hn : zs.length = n) (hv : ∀ i v, Pv i v → ∃ z t, zs[i]? = some z ∧ v = .str z t) (room : (dedup zs).length < scanBound) :
    ∀ (k i : Nat) (s : Shared), n - i = k → i ≤ n → St i s → SetS w s.heap C (dedup (zs.take i)) → (∀ s', Moved (C :: wr) G s s' → SetS w s'.heap C (dedup zs) → R (.ok (.ret .none)) s') →
      codeAny (model P w) A (.builtin "set.update.loop" ⟨[.ref C, .ref I], []⟩) R s := by
  have hw : C ∉ wr := fun h => hC (Y.sub _ h)
  have sub : ∀ b ∈ wr, b ∈ C :: wr := fun b hb => List.mem_cons_of_mem _ hb
  intro k
  induction k with
  | zero =>
    intro i s hk hi hst hS hR
    obtain rfl : i = n := by omega
    refine codeAny_builtin F.entry_set_update_loop ?_
    rw [Around.under_plainId F.plain_set_update_loop _]
    refine wpAny_bind (m := pyNext (.ref I)) (Y.done s _ _ hst fun s' hm => wpAny_pure (hR s' (hm.mono sub) ?_))
    rw [List.take_of_length_le (by omega)] at hS
    exact hS.at fun o ho => hm.heap C _ hw ho
  | succ k ih =>
    intro i s hk hi hst hS hR
    have lt : i < n := by omega
    refine codeAny_builtin F.entry_set_update_loop ?_
    rw [Around.under_plainId F.plain_set_update_loop _]
    refine wpAny_bind (m := pyNext (.ref I)) (Y.item i s _ _ lt hst fun v s' hP hst' hm => ?_)
    obtain ⟨z, t, hz, rfl⟩ := hv i v hP
    have hS' : SetS w s'.heap C (dedup (zs.take i)) := hS.at fun o ho => hm.heap C _ hw ho
    show wpAny _ A.in1 (holding [Value.str z t] (setAdd C (.str z t)) >>= _) _ _ s'
    refine wpAny_bind (wpAny_holding ?_)
    unfold setAdd
    refine wpAny_holding (wpAny_bind ((sk P w).pyHash (k := z) (strKind_is _ _ _ _) ?_))
    have rm : (ddS (dedup (zs.take i)) z).length < scanBound := by
      rw [← dd_take zs hz]
      have := dd_mono zs (i + 1)
      omega
    refine setS_hashed (s := { s' with toks := s'.toks + 1 }) hS' rm fun h' b sb S2 => ?_
    rw [← dd_take zs hz] at S2
    refine wpAny_pure ⟨plainId_quiet F.plain_set_update_loop _, ih (i + 1) _ (by omega) lt (Y.frame _ s' _ _ hst' (Nat.le_succ _) fun b hb o e => ?_) S2 fun s'' hm'' S3 => ?_⟩
    · rw [sb.2 b (fun q : b = C => hC (by rw [← q]; exact hb))]; exact e
    · refine hR s'' (Moved.trans Y.gtrans ((hm.mono sub).then_heap (Nat.le_succ _) fun b o hb e => ?_) hm'') S3
      rw [sb.2 b (fun q : b = C => hb (by rw [q]; exact List.mem_cons_self))]; exact e
end
section
variable {P : Program} {w : World} {A : Around} {E : Value → Shared → Prop} {s : Shared}
/-- the empty set that list items are put into -/
abbrev set0 (w : World) : Obj := { cls := .type "set", dict := none, data := .set #[] 0 (.fresh 0 0 (!w.params.followText "set-order")) }
theorem set0_ok (h : Heap) : SetS w (h.push (set0 w)) h.objs.size [] :=
  ⟨_, #[], 0, _, Heap.get?_push_size _ rfl, ⟨rfl, rfl, rfl⟩, rfl, (fun e he => by simp at he), (by simp), List.Pairwise.nil, (by decide), (by rfl), List.Pairwise.nil, by
    show _ ∨ (!w.params.followText "set-order") = true
    cases w.params.followText "set-order"
    · exact .inr rfl
    · exact .inl rfl⟩
theorem new_set1 (x : Value) {Q : Value → Shared → Prop} (h : Q (.ref s.heap.objs.size) { s with heap := s.heap.push (set0 w) }) : codeAny (model P w) A (.call (.builtin "set.__new__") ⟨[.type "set", x], []⟩) (wants Q E) s := by
  refine codeAny_of_tree ?_
  show wpAny _ A.in1 (checkBuiltinCall "set.__new__" ⟨[.type "set", x], []⟩ >>= fun _ => again (.builtin "set.__new__" ⟨[.type "set", x], []⟩)) _ _ s
  refine wpAny_bind (wpAny_of_eq (PySem.F.newCall_set_1 x) (wpAny_pure ⟨plainId_quiet PySem.F.plain_set_new _, codeAny_builtin PySem.F.entry_set_new ?_⟩))
  rw [Around.under_plainId PySem.F.plain_set_new _]
  unfold Builtin.«set.__new__» Builtin.Frozenset.newClass
  have hsub := sub_set_self
  obtain ⟨hp, g, d, tk, os⟩ := s
  dsimp only
  wp_walk
  refine wpAny_askSetting (wpAny_pure ?_)
  dsimp only
  simp only [newObj]
  exact wpAny_bind (wpAny_alloc (wpAny_pure (wpAny_pure h)))
set_option maxHeartbeats 3200000 in
/-- set(a list of texts) -/
theorem call_setS {l : Addr} {items : Array Value} {zs : List Str} {Q : Value → Shared → Prop} (hh : A.handled = none) (hl : s.heap.IsList l items) (hi : StrsAre items.toList zs) (room : (dedup zs).length < scanBound)
    (hQ : ∀ (h' : Heap) (tk : Nat), SetS w h' s.heap.objs.size (dedup zs) → (∀ b o, b < s.heap.objs.size → s.heap.get? b = some o → h'.get? b = some o) → Q (.ref s.heap.objs.size) { s with heap := h', toks := tk }) :
    wpAny (model P w) A (call (.type "set") [.ref l]) Q E s := by
  obtain ⟨c, tl, hmro⟩ := PySem.F.called_set.mro
  have hmade := PySem.F.called_set.made
  have hsub := PySem.F.called_set.sub
  refine wpAny_call (codeAny_of_tree (show wpAny _ _ (callAny (.type "set") _) _ _ _ from ?_))
  refine wpAny_pure ⟨Code.quiet_builtin _ (by decide +kernel), codeAny_builtin PySem.F.entry_type_call ?_⟩
  rw [Around.under_plain (weight_type_call_type "set" [.ref l] []) rfl]
  have h1 := PySem.F.called_set.notType
  have h2 := PySem.F.called_set.canCreate
  have hct := PySem.F.typeCall_set_1 (.ref l)
  repeat (any_goals (first | assumption | wp_step))
  refine codeAny_mono (new_set1 (.ref l) (E := E) (Q := fun obj s₁ => obj = .ref s.heap.objs.size ∧ s₁ = { s with heap := s.heap.push (set0 w) }) ⟨rfl, rfl⟩) fun r s₁ hr => ?_
  cases r with
  | error e => exact hr
  | ok fl =>
    cases fl with
    | ret obj =>
      obtain ⟨rfl, rfl⟩ := hr
      have hS : (s.heap.push (set0 w)).get? s.heap.objs.size = some (set0 w) := Heap.get?_push_size _ rfl
      have hT : Shared.TypeIs { s with heap := s.heap.push (set0 w) } (.ref s.heap.objs.size) "set" := ⟨_, hS, rfl⟩
      have hli := PySem.F.called_set.init.lookup
      have hbi := PySem.F.called_set.init.bind (.ref s.heap.objs.size)
      repeat (any_goals (first | assumption | wp_step))
      refine codeAny_mono (codeAny_call_builtin (R := wants (fun r s₂ => r = .none ∧ ∃ h' tk, s₂ = { s with heap := h', toks := tk } ∧ SetS w h' s.heap.objs.size (dedup zs) ∧ (∀ b o, b < s.heap.objs.size → s.heap.get? b = some o → h'.get? b = some o)) E)
        PySem.F.called_set.init.plain PySem.F.entry_set_init (check_set_init_1 hT ?_)) fun r₂ s₂ hr₂ => ?_
      · obtain ⟨ol, hol, hcl, nl, hdl⟩ := hl
        obtain ⟨oc, od, odt, osl⟩ := ol
        simp only at hcl hdl
        subst hcl hdl
        have hol' : (s.heap.push (set0 w)).get? l = some { cls := .type "list", dict := od, data := .seq items nl, slots := osl } := Heap.get?_push_of_some _ hol
        have hsls := PySem.F.sub_list_set
        have hslf := PySem.F.sub_list_frozenset
        have hne : (Value.type "list" == Value.type "dict") = false := by decide
        have l1 : (s.heap.push (set0 w)).IsList l items := ⟨_, hol', rfl, nl, rfl⟩
        unfold Builtin.«set.__init__» noKeywords Builtin.Frozenset.updateFrom
        generalize hPI : pyIter = PI
        wp_walk
        subst hPI
        refine wpAny_pyIter_list l1 (wpAny_bind (wpAny_runValue ?_))
        have hlS : l < s.heap.objs.size := Heap.lt_size hol
        have hh3 : A.in1.in1.in1.handled = none := by simp [hh]
        have sz1 : (s.heap.push (set0 w)).objs.size = s.heap.objs.size + 1 := Heap.size_push ..
        have hneI : l ≠ (s.heap.push (set0 w)).objs.size := by rw [sz1]; exact Nat.ne_of_lt (Nat.lt_succ_of_lt hlS)
        have hSf : s.heap.objs.size ∉ [(s.heap.push (set0 w)).objs.size, l] := by
          rw [sz1]; simp only [List.mem_cons, List.not_mem_nil, or_false, not_or]; exact ⟨Nat.ne_of_lt (Nat.lt_succ_self _), Nat.ne_of_gt hlS⟩
        have hsz : zs.length = items.size := by rw [← StrsAre.len_eq hi, Array.length_toList]
        have hval : ∀ (i : Nat) (v : Value), items[i]? = some v → ∃ z t, zs[i]? = some z ∧ v = .str z t := fun i v hv => by
          obtain ⟨t, e⟩ := SS.strs_at hi i v (by rw [Array.getElem?_toList]; exact hv)
          have hlt : i < zs.length := by rw [hsz]; exact (Array.getElem?_eq_some_iff.mp hv).1
          refine ⟨zs[i], t, List.getElem?_eq_getElem hlt, ?_⟩
          rw [e]; simp [hlt]
        refine setS_loop ((Walks.list hh3 _ l hneI items).toS) s.heap.objs.size hSf zs hsz hval room (items.size - 0) 0 _ (by omega) (Nat.zero_le _) ⟨⟨_, Heap.get?_push_size _ rfl, rfl, rfl⟩, (l1.push _)⟩ ?hS0 ?hR
        case hS0 => exact (set0_ok s.heap).at fun o e => Heap.get?_push_of_some _ e
        case hR =>
          intro s' hm hS'
          obtain ⟨h', g', d', tk', os'⟩ := s'
          obtain rfl : g' = s.gens := hm.gens
          obtain rfl : d' = s.drawn := hm.drawn
          obtain rfl : os' = s.os := hm.os
          show wpAny _ _ _ _ _ _
          refine wpAny_pure (show wpAny _ _ (PySem.ret Value.none) _ _ _ from wpAny_pure ⟨rfl, h', tk', rfl, hS', fun b o hb e => ?_⟩)
          refine hm.heap b o ?_ (Heap.get?_push_of_some _ (Heap.get?_push_of_some _ e))
          simp only [List.mem_cons, List.not_mem_nil, or_false, not_or]
          refine ⟨Nat.ne_of_lt hb, ?_⟩
          show b ≠ (s.heap.push (set0 w)).objs.size
          rw [sz1]; exact Nat.ne_of_lt (Nat.lt_succ_of_lt hb)
      · cases r₂ with
        | error e => exact hr₂
        | ok fl₂ =>
          cases fl₂ with
          | ret r =>
            obtain ⟨rfl, h', tk, rfl, hS', hk'⟩ := hr₂
            repeat (any_goals (first | assumption | wp_step))
            exact hQ _ _ hS' hk'
          | _ => exact hr₂.elim
    | _ => exact hr.elim
end
/-! the order of texts -/
def leS (a b : Str) : Bool := decide (a.cps.toList ≤ b.cps.toList)
def sortT (L : List Str) : List Str := L.mergeSort leS
theorem leS_trans (a b c : Str) (h : leS a b = true) (g : leS b c = true) : leS a c = true := by
  unfold leS at *
  rw [decide_eq_true_eq] at *
  exact List.le_trans h g
theorem leS_total (a b : Str) : (leS a b || leS b a) = true := by
  unfold leS
  rw [Bool.or_eq_true, decide_eq_true_eq, decide_eq_true_eq]
  exact List.le_total _ _
theorem leS_anti (a b : Str) (h : leS a b = true) (g : leS b a = true) : a = b := by
  unfold leS at *
  rw [decide_eq_true_eq] at *
  have := List.le_antisymm h g
  cases a; cases b
  simp only at this
  rw [Array.toList_inj] at this
  rw [this]
theorem rising_leS : ∀ (x : Str) (l : List Str), risingS x l = true → (x :: l).Pairwise (fun a b => leS a b = true)
  | x, [], _ => List.pairwise_cons.mpr ⟨fun _ h => (List.not_mem_nil h).elim, List.Pairwise.nil⟩
  | x, y :: l, h => by
    have h : (!ltCps y.cps.toList x.cps.toList && risingS y l) = true := h
    rw [Bool.and_eq_true, Bool.not_eq_true', ltCps_eq, decide_eq_false_iff_not] at h
    have ih := rising_leS y l h.2
    have hxy : leS x y = true := by
      unfold leS
      rw [decide_eq_true_eq]
      exact List.not_lt.mp h.1
    refine List.pairwise_cons.mpr ⟨fun z hz => ?_, ih⟩
    rcases List.mem_cons.mp hz with rfl | hz
    · exact hxy
    · exact leS_trans _ _ _ hxy ((List.pairwise_cons.mp ih).1 z hz)
theorem sorted_leS : ∀ {l : List Str}, sortedS l = true → l.Pairwise (fun a b => leS a b = true)
  | [], _ => List.Pairwise.nil
  | x :: l, h => rising_leS x l h
theorem sorted_unique {l L : List Str} (h : sortedS l = true) (p : l.Perm L) : l = sortT L := by
  refine List.Perm.eq_of_pairwise (le := fun a b => leS a b = true) (fun a b _ _ h1 h2 => leS_anti a b h1 h2) (sorted_leS h) ?_ (p.trans (List.mergeSort_perm L leS).symm)
  exact List.pairwise_mergeSort leS_trans leS_total L
section
variable {P : Program} {w : World} {A : Around} {E : Value → Shared → Prop} {s : Shared} {a : Addr} {L : List Str}
theorem strs_of : ∀ (l : List Value), (∀ v ∈ l, ∃ k tk, v = Value.str k tk) → StrsAre l (l.map strOf)
  | [], _ => .nil
  | v :: l, h => by
    obtain ⟨k, tk, rfl⟩ := h v List.mem_cons_self
    exact .cons k tk (strs_of l fun u hu => h u (List.mem_cons_of_mem _ hu))
theorem sorted_setS {Q : Value → Shared → Prop} (R : SetS w s.heap a L) (hh : A.handled = none)
    (hQ : ∀ s' p (out : Array Value) (c : Nat), (∀ b o, s.heap.get? b = some o → s'.heap.get? b = some o) → s'.gens = s.gens → s'.os = s.os → s.heap.objs.size ≤ p → s'.heap.get? p = some (seqObj "list" out c) → StrsAre out.toList (sortT L) → Q (.ref p) s') :
    wpAny (model P w) A (call (.builtin "sorted") [.ref a]) Q E s := by
  obtain ⟨o, es, ep, t, ho, hex, hd, g, pm0, nd, hb, hf, hr, hl⟩ := R.ex
  refine Calls.call_function_entry kind_sorted plain_sorted entry_sorted (args_sorted1 _) ?_
  unfold Builtin.«sorted»
  refine wpAny_bind (m := checkCount "sorted" 1 1 _) (wpAny_pure (wpAny_bind (collect_set (A := A.in1) hh ⟨o, ho, hex.1, hd⟩ hf hb hr hl fun s1 vs k1 hz g1 o1 pm => ?_)))
  have hvl : vs.length < scanBound := by
    rw [pm.length_eq, List.length_map, Array.length_toList]; exact hb
  have hI : StrsAre vs (vs.map strOf) := strs_of vs fun v hv => by
    obtain ⟨e, he, q⟩ := List.mem_map.mp (pm.mem_iff.mp hv)
    obtain ⟨k, tk, h1, _⟩ := g e he
    exact ⟨k, tk, by rw [← q]; exact h1⟩
  have pk : (vs.map strOf).Perm L := by
    have q := pm.map strOf
    rw [List.map_map] at q
    refine (q.trans (List.Perm.of_eq (List.map_congr_left fun e he => ?_))).trans pm0
    obtain ⟨k, tk, h1, _⟩ := g e he
    simp only [Function.comp, keyS, h1]
    rfl
  have hvs : vs.length ≤ sizeLine := by unfold scanBound at hvl; rw [sizeLine_eq]; omega
  refine wpAny_bind (wpAny_newList ?_ hvs)
  have hoL : (s1.heap.push (seqObj "list" vs.toArray 0)).get? s1.heap.objs.size = some (seqObj "list" vs.toArray 0) := Heap.get?_push_size _ rfl
  refine wpAny_bind (wpAny_holding (wpAny_call_entry slot_list_sort ⟨_, hoL, rfl⟩ entry_list_sort (list_sort_treeKAny strKind_oneLt hoL hI.keysOf (fun v₁ v₂ rest e => keyKind_strs (by rw [← e]; exact hI)) hvs fun st' a1 a2 => ⟨_, rfl, ?_⟩) (args_list_sort _)))
  obtain ⟨zs, b1, b2, b3⟩ := sorted_out_str hI a1 a2
  rw [sorted_unique b3 (b2.trans pk)] at b1
  obtain ⟨c, hc⟩ := sortedHeap_at (vs := vs) (out := (arrOf st').map (·.2)) hoL
  refine wpAny_pure ⟨_, rfl, hQ _ s1.heap.objs.size _ c (fun b u e => ?_) g1 o1 hz hc b1⟩
  have q := k1 b u e
  have hlt := Heap.lt_size q
  show (sortedHeap (s1.heap.push (seqObj "list" vs.toArray 0)) s1.heap.objs.size vs _).get? b = some u
  rw [sortedHeap_old (Nat.ne_of_lt hlt) (by rw [size_push']; exact Nat.lt_succ_of_lt hlt)]
  exact Heap.get?_push_of_some _ q
end
theorem dedup_len (zs : List Str) : (dedup zs).length ≤ zs.length := by
  have key : ∀ (b L : List Str), (b.foldl ddS L).length ≤ L.length + b.length := by
    intro b
    induction b with
    | nil => intro L; exact Nat.le_refl _
    | cons x b ih =>
      intro L
      refine Nat.le_trans (ih _) ?_
      have : (ddS L x).length ≤ L.length + 1 := by unfold ddS; split <;> simp
      simp only [List.length_cons]
      omega
  have := key zs []
  unfold dedup
  simpa using this
section
variable {X : Cx} {W : WX} {pos : Pos}
def tSortSet (K : PySem.W.Frag) (te : TE) : TE := fun σ H Q => te σ H fun v H1 => ∃ (a : Addr) (zs : List Str), v = .ref a ∧ SqL K H1 a (zs.map V.str) ∧ (dedup zs).length < scanBound ∧ ∀ q, H1 q = none → Q (.ref q) (upd H1 q (.lst ((sortT (dedup zs)).map V.str)))
theorem pe_sortSet {e : Expr} {te : TE} {p p2 pos2 : Pos} (hc : X.calm = true) (hg : Gl X "sorted") (hm : X.mg "sorted" = none) (hg2 : Gl X "set") (hm2 : X.mg "set" = none) (he : PE X e te)
    (hs : starEach [e] X.env = (false, eval e X.env) :: starEach [] X.env := by rfl) (hs2 : starEach [.Call (.Name "set" p2) [e] [] pos2] X.env = (false, eval (.Call (.Name "set" p2) [e] [] pos2) X.env) :: starEach [] X.env := by rfl) :
    PE X (.Call (.Name "sorted" p) [.Call (.Name "set" p2) [e] [] pos2] [] pos) (tSortSet X.K te) := by
  refine ⟨fun pins s σ H Q I h => ?_⟩
  refine Call_ (ld_blt I hg hm PyProof.Rows.boot_sorted (PyProof.Rows.callWith_builtin1 (PyProof.Rows.args_cons (Call_ (ld_blt I hg2 hm2 PyProof.Rows.boot_set (PyProof.Rows.callWith_type1 (PyProof.Rows.args_cons (thn (he.run pins s σ H _ I h) fun u s1 ⟨v, H1, I1, r1, q1⟩ => PyProof.Rows.args_nil ?_) hs) hs rfl))) hs2) hs2 rfl))
  obtain ⟨a, zs, rfl, hq, hrm, q⟩ := q1
  obtain rfl : u = Value.ref a := r1
  obtain ⟨its, rv, pl, hz⟩ := I1.list hq
  refine call_setS (I1.ok.hd hc) pl.isList (by simpa using rv.strs) hrm fun h' tk hS hk => ?_
  have I2 : Inv X pins σ H1 { s1 with heap := h', toks := tk } := I1.kept fun b o e => hk b o (Heap.lt_size e) e
  refine PyProof.Rows.args_nil (sorted_setS (s := { s1 with heap := h', toks := tk }) hS (I2.ok.hd hc) fun s' p out c k g o hp hgt hi => ?_)
  have hlen : ((sortT (dedup zs)).map V.str).length ≤ sizeLine := by
    rw [List.length_map]
    unfold sortT
    rw [List.length_mergeSort]
    unfold scanBound at hrm
    rw [sizeLine_eq]; omega
  have hn : H1 p = none := I2.hok.fresh hp
  have J : Inv X pins σ (upd H1 p (.lst ((sortT (dedup zs)).map V.str))) { ({ s1 with heap := h', toks := tk } : Shared) with heap := s'.heap, gens := s'.gens, drawn := s'.drawn, toks := s'.toks } :=
    I2.call (ch := []) (Un.laid k hp hn) (I2.hok.laid k hp ⟨hlen, out.toList, c, vals_of_strs hi, hgt⟩) (by rw [g]; exact I2.bare) (fun _ z => nomatch z)
  have e : s' = { ({ s1 with heap := h', toks := tk } : Shared) with heap := s'.heap, gens := s'.gens, drawn := s'.drawn, toks := s'.toks } := by
    cases s'
    cases s1
    cases o
    rfl
  rw [e]
  exact ⟨.ref p, _, J, rfl, q p hn⟩
/-- sorted(set(texts)) -/
def gSortSet (d : D) : M D := fun S => match (iSeq S d).bind strsOf with
  | some zs => if (dedup zs).length < scanBound then .ok (.lst ((sortT (dedup zs)).map .str)) S else .bad
  | none => .bad
theorem rds_strs {K : PySem.W.Frag} {μ : Mu} {H : Hp} : ∀ zs : List Str, RDs K μ H (zs.map .str) (zs.map .str)
  | [] => .nil
  | z :: zs => .cons (.str z) (rds_strs zs)
theorem d_sortSet {e : Expr} {te : EvD} {p p2 pos2 : Pos} (hc : X.calm = true) (hg : Gl X "sorted") (hm : X.mg "sorted" = none) (hg2 : Gl X "set") (hm2 : X.mg "set" = none) (he : PE X e (tD X.K X.mg W te))
    (hs : starEach [e] X.env = (false, eval e X.env) :: starEach [] X.env := by rfl) (hs2 : starEach [.Call (.Name "set" p2) [e] [] pos2] X.env = (false, eval (.Call (.Name "set" p2) [e] [] pos2) X.env) :: starEach [] X.env := by rfl) :
    PE X (.Call (.Name "sorted" p) [.Call (.Name "set" p2) [e] [] pos2] [] pos) (tD X.K X.mg W (eUn gSortSet te)) := by
  refine PE.imp (pe_sortSet hc hg hm hg2 hm2 he hs hs2) fun σ H Q ⟨ρ, S, μ, e, s, h⟩ => ?_
  refine ⟨ρ, S, μ, e, s, h.bnd fun x S1 μ1 H1 s1 r1 h1 v rv => ?_⟩
  unfold gSortSet at h1
  split at h1
  · rename_i zs ez
    rw [Option.bind_eq_some_iff] at ez
    obtain ⟨ds, e1, e2⟩ := ez
    obtain ⟨a, vs, rfl, q, z⟩ := iSeq_ok e1 r1 rv
    rw [strsOf_ok e2] at z
    rw [z.strs] at q
    split at h1
    · rename_i hrm
      exact ⟨a, zs, rfl, q, hrm, fun p hp => h1 μ1 _ (Stp.new hp) (r1.new hp) _ (.lst upd_same ⟨fun z => r1.there z hp, fun z => r1.hid _ z hp⟩ (rds_strs _))⟩
    · exact h1.elim
  · exact h1.elim
end
section
variable {X : Cx} {W : WX} {pos : Pos}
theorem t_din {o i : Expr} {to ti : EvD} (hu : X.A.units + 500 < cLine) (hi : PE X i (tD X.K X.mg W ti)) (ho : PE X o (tD X.K X.mg W to)) (hm : behindInMarks .In o = false) : PT X (.Compare i [.In] [o] pos) (tT X.K X.mg W (eTb (eBin (gDIn false) ti to))) := by
  refine PT.imp (pt_cmp (pc_din (by omega) hi ho) hm) fun σ H Q ⟨ρ, S, μ, e, s, h⟩ => ?_
  have h : Post X.K X.mg W μ σ H (eBin (gDIn false) ti to ρ S) (QD X.K fun v H' => ∃ k, v = .bl k ∧ Q k H') := h.bnd fun x S1 μ1 H1 s1 r1 h1 v rv => asBl_ok r1 rv h1
  refine ⟨ρ, S, μ, e, s, h.bnd fun y S1 μ1 H1 s1 r1 h1 w rw => ?_⟩
  refine ⟨ρ, S1, μ1, e.step s s1, r1, h1.bnd fun x S2 μ2 H2 s2 r2 h2 v rv => ?_⟩
  unfold gDIn at h2
  split at h2
  · rename_i kvs k ea ek
    obtain ⟨a, ws, rfl, g, z⟩ := DGet.of ea ek r2 rv (rw.step r1 s2)
    refine ⟨a, _, rfl, g, ?_⟩
    have : (getK kvs k).isSome = (valV ws k).isSome := by
      rcases z.get k with ⟨g1, g2⟩ | ⟨d, u, g1, g2, rd⟩ <;> rw [g1, g2] <;> rfl
    rw [if_neg Bool.false_ne_true, this] at h2
    exact h2.now r2 _ (.bl _)
  · exact h2.elim
end
section
variable {X : Cx} {W : WX} {pos : Pos}
theorem t_dnotin {o i : Expr} {to ti : EvD} (hu : X.A.units + 500 < cLine) (hi : PE X i (tD X.K X.mg W ti)) (ho : PE X o (tD X.K X.mg W to)) (hm : behindInMarks .NotIn o = false) : PT X (.Compare i [.NotIn] [o] pos) (tT X.K X.mg W (eTb (eBin (gDIn true) ti to))) := by
  refine PT.imp (pt_cmp (pc_dnotin (by omega) hi ho) hm) fun σ H Q ⟨ρ, S, μ, e, s, h⟩ => ?_
  have h : Post X.K X.mg W μ σ H (eBin (gDIn true) ti to ρ S) (QD X.K fun v H' => ∃ k, v = .bl k ∧ Q k H') := h.bnd fun x S1 μ1 H1 s1 r1 h1 v rv => asBl_ok r1 rv h1
  refine ⟨ρ, S, μ, e, s, h.bnd fun y S1 μ1 H1 s1 r1 h1 w rw => ?_⟩
  refine ⟨ρ, S1, μ1, e.step s s1, r1, h1.bnd fun x S2 μ2 H2 s2 r2 h2 v rv => ?_⟩
  unfold gDIn at h2
  split at h2
  · rename_i kvs k ea ek
    obtain ⟨a, ws, rfl, g, z⟩ := DGet.of ea ek r2 rv (rw.step r1 s2)
    refine ⟨a, _, rfl, g, ?_⟩
    have : (getK kvs k).isSome = (valV ws k).isSome := by
      rcases z.get k with ⟨g1, g2⟩ | ⟨d, u, g1, g2, rd⟩ <;> rw [g1, g2] <;> rfl
    rw [if_pos rfl, this] at h2
    exact h2.now r2 _ (.bl _)
  · exact h2.elim
end
end DL

/-! DLZ: words for exceptions and dicts. -/
namespace DL
open PySem L2
def tryCase (o : Option Bool) (p q : Prop) : Prop := match o with
  | some true => p
  | some false => q
  | none => False
theorem tryCase_t {p q : Prop} : tryCase (some true) p q ↔ p := Iff.rfl
theorem tryCase_f {p q : Prop} : tryCase (some false) p q ↔ q := Iff.rfl
section
variable {ρ : Rho} {S : Sto} {F : D → Sto → Prop} {E : Exc → Sto → Prop} {N : Rho → Sto → Prop} {T : D → Sto → Prop} {B C : Rho → Sto → Prop} {X : Exc → Rho → Sto → Prop}
theorem wps_raise {c : Str} {e : EvD} : wps (sRaise c e ρ S) N T B C X ↔ wp (e ρ S) (fun _ S' => X ⟨c, []⟩ ρ S') (fun e S' => X e ρ S') := by
  unfold sRaise; rw [wps_lft]; rfl
theorem wps_try {sub : Str → Option Bool} {body : EvS} {suite : Exc → EvS} : wps (sTry sub body suite ρ S) N T B C X ↔
    wps (body ρ S) N T B C (fun e ρ' S' => tryCase (sub e.cls) (wps (suite e ρ' S') N T B C (fun _ _ _ => False)) (X e ρ' S')) := by
  unfold sTry
  cases body ρ S with
  | ok o S' =>
    cases o with
    | xc e ρ' =>
      show wps (match sub e.cls with
        | some true => _
        | some false => _
        | none => _) N T B C X ↔ tryCase (sub e.cls) _ _
      cases sub e.cls with
      | none => exact Iff.rfl
      | some b =>
        cases b with
        | false => exact Iff.rfl
        | true =>
          show wps (match suite e ρ' S' with
            | .ok (.xc _ _) _ => .bad
            | r => r) N T B C X ↔ wps (suite e ρ' S') N T B C (fun _ _ _ => False)
          cases suite e ρ' S' with
          | ok o2 S2 => cases o2 <;> exact Iff.rfl
          | ex e2 S2 => exact Iff.rfl
          | bad => exact Iff.rfl
    | _ => exact Iff.rfl
  | ex e S' => exact Iff.rfl
  | bad => exact Iff.rfl
theorem wps_tryAs {i : Nat} {sub : Str → Option Bool} {body : EvS} {suite : Exc → EvS} : wps (sTryAs i sub body suite ρ S) N T B C X ↔
    wps (body ρ S) N T B C (fun e ρ' S' => tryCase (sub e.cls) (e.fs = [] ∧ wps (suite e (ρ'.set i none) S') (fun ρ2 S2 => N (ρ2.set i none) S2) T (fun ρ2 S2 => B (ρ2.set i none) S2) (fun ρ2 S2 => C (ρ2.set i none) S2) (fun _ _ _ => False)) (X e ρ' S')) := by
  unfold sTryAs
  rw [wps_try]
  constructor <;> intro h <;> refine wps_mono h (fun _ _ h => h) (fun _ _ h => h) (fun _ _ h => h) (fun _ _ h => h) fun e ρ' S' h => ?_
  · cases hs : sub e.cls with
    | none => rw [hs] at h; exact h
    | some b =>
      rw [hs] at h
      cases b with
      | false => exact h
      | true =>
        have h' : wps (if e.fs.isEmpty = true then (match suite e (ρ'.set i none) S' with
          | .ok o S2 => .ok (outSet i o) S2
          | r => r) else .bad) N T B C (fun _ _ _ => False) := h
        show e.fs = [] ∧ _
        by_cases hf : e.fs.isEmpty = true
        · rw [if_pos hf] at h'
          have hnil : e.fs = [] := by
            cases hq : e.fs with
            | nil => rfl
            | cons _ _ => rw [hq] at hf; cases hf
          refine ⟨hnil, ?_⟩
          cases hu : suite e (ρ'.set i none) S' with
          | ok o S2 => rw [hu] at h'; cases o <;> exact h'
          | ex e2 S2 => rw [hu] at h'; exact h'
          | bad => rw [hu] at h'; exact h'
        · rw [if_neg hf] at h'; exact h'.elim
  · cases hs : sub e.cls with
    | none => rw [hs] at h; exact h
    | some b =>
      rw [hs] at h
      cases b with
      | false => exact h
      | true =>
        obtain ⟨hf, h'⟩ : e.fs = [] ∧ _ := h
        show wps (if e.fs.isEmpty = true then (match suite e (ρ'.set i none) S' with
          | .ok o S2 => .ok (outSet i o) S2
          | r => r) else .bad) N T B C (fun _ _ _ => False)
        rw [if_pos (by rw [hf]; rfl)]
        cases hu : suite e (ρ'.set i none) S' with
        | ok o S2 => rw [hu] at h'; cases o <;> exact h'
        | ex e2 S2 => rw [hu] at h'; exact h'
        | bad => rw [hu] at h'; exact h'
theorem suiteOf_hit {G : List Bool → EvS} {x : Str} {bs : List Bool} {r : List (Str × List Bool)} {fs : List (Str × D)} : suiteOf G ((x, bs) :: r) ⟨x, fs⟩ = G bs := by
  unfold suiteOf; simp only [tbl_hit]
theorem wp_eDct {ks : List Str} {as : EvL} : wp (eDct ks as ρ S) F E ↔ wp (as ρ S) (fun ds S1 => ds.length = ks.length ∧ F (.ref S1.length) (S1 ++ [.dct ((ks.map Sum.inr).zip ds)])) E := by
  unfold eDct
  rw [wp_bnd]
  constructor <;> intro h <;> refine wp_mono h (fun ds S' h => ?_) (fun _ _ h => h)
  · by_cases hl : ds.length = ks.length
    · rw [if_pos hl] at h; exact ⟨hl, h⟩
    · rw [if_neg hl] at h; exact h.elim
  · rw [if_pos h.1]; exact h.2
theorem wp_eDGet {a b : EvD} : wp (eDGet a b ρ S) F E ↔ wp (a ρ S) (fun x S1 => wp (b ρ S1) (fun y S2 => wp (gDGet x y S2) F E) E) E := wp_bin
theorem wp_eDNew : wp (eDNew ρ S) F E ↔ F (.ref S.length) (S ++ [.dct []]) := Iff.rfl
theorem gDGet_of {x y : D} {kvs : List (Key × D)} {k : Key} {v : D} (h : atD S x = some kvs) (hk : keyD y = some k) (hv : getK kvs k = some v) : wp (gDGet x y S) F E ↔ F v S := by
  unfold gDGet
  simp only [h, hk, hv]
  exact Iff.rfl
theorem atD_ref {n : Nat} {kvs : List (Key × D)} (h : S[n]? = some (.dct kvs)) : atD S (.ref n) = some kvs := by
  unfold atD; simp only [h]
theorem gDIn_of {x y : D} {kvs : List (Key × D)} {k : Key} {neg : Bool} (h : atD S x = some kvs) (hk : keyD y = some k) : wp (gDIn neg y x S) F E ↔ F (.bl (if neg = true then !(getK kvs k).isSome else (getK kvs k).isSome)) S := by
  unfold gDIn
  simp only [h, hk]
  exact Iff.rfl
theorem wp_eDDef {a b c : EvD} : wp (eDDef a b c ρ S) F E ↔ wp (a ρ S) (fun x S1 => (∃ kvs, atD S1 x = some kvs) ∧ wp (b ρ S1) (fun y S2 => wp (c ρ S2) (fun z S3 => wp (gDDef x y z S3) F E) E) E) E := by
  unfold eDDef
  rw [wp_bnd]
  constructor <;> intro h <;> refine wp_mono h (fun x S' h => ?_) (fun _ _ h => h)
  · split at h
    · rename_i kvs hk
      simp only [wp_bnd] at h
      exact ⟨⟨kvs, hk⟩, h⟩
    · exact h.elim
  · obtain ⟨⟨kvs, hk⟩, h⟩ := h
    simp only [hk, wp_bnd]
    exact h
theorem gDDef_of {x y z : D} {kvs : List (Key × D)} {k : Key} (h : atD S x = some kvs) (hk : keyD y = some k) : wp (gDDef x y z S) F E ↔ F ((getK kvs k).getD z) S := by
  unfold gDDef
  simp only [h, hk]
  exact Iff.rfl
theorem wps_dput {a b c : EvD} : wps (sDPutD a b c ρ S) N T B C X ↔ wp (a ρ S) (fun d S1 => wp (b ρ S1) (fun o S2 => wp (c ρ S2) (fun i S3 => wp (gDPut d o i S3) (fun _ S4 => N ρ S4) (fun e S' => X e ρ S')) (fun e S' => X e ρ S')) (fun e S' => X e ρ S')) (fun e S' => X e ρ S') := by
  unfold sDPutD
  simp only [wps_lft]
  exact Iff.rfl
theorem gDPut_of {n : Nat} {v y : D} {kvs : List (Key × D)} {k : Key} {FU : Unit → Sto → Prop} (h : S[n]? = some (.dct kvs)) (hk : keyD y = some k) : wp (gDPut v (.ref n) y S) FU E ↔ kvs.length < 16777216 ∧ FU () (S.set n (.dct (setK kvs k v))) := by
  unfold gDPut
  simp only [h, hk]
  by_cases hl : kvs.length < 16777216
  · rw [if_pos hl]; exact ⟨fun q => ⟨hl, q⟩, fun q => q.2⟩
  · rw [if_neg hl]; exact ⟨fun q => q.elim, fun q => absurd q.1 hl⟩
theorem gListK_of {x : D} {kvs : List (Key × D)} (h : atD S x = some kvs) : wp (gListK [x] S) F E ↔ F (.lst (kvs.map fun kv => ofKey kv.1)) S := by
  unfold gListK
  simp only [h]
  exact Iff.rfl
end
end DL

/-! DLP: defs with a default, other names of defs, n += e, a list unpacked, tuple(range), slices of tuples with a step -/
namespace DL
open PySem PySem.Spec PyProof.Rows L2
/-! ### defs whose last parameter may be left out -/
structure FunV (K : PySem.W.Frag) (x qual : Str) (st : Stmt) (dV : Value) (f : Addr) (fd : FuncData) : Prop where
  ex : ∃ (oc : Value) (od : Option Addr) (kV doc pm : Value) (an : Option Addr) (cdv ct : Value) (osl : Array (Option Value)),
    fd = PySem.W.fnOf x qual (defArgs st) (defBody st) (defScope st) dV kV doc pm an cdv ct ∧ K.lookup f = some ⟨oc, od, .func fd, osl⟩ ∧ PySem.W.codeIn K cdv qual = true
  kp : PySem.W.keepIn K (.ref f) = true
/-- a def under a name y; dv: what stands for the last parameter where it is left out -/
structure DefV (K : PySem.W.Frag) (mg : Str → Option Value) (y x : Str) (st : Stmt) (ps : List Str) (dV : Value) (dv : List Value) (f : Addr) (fd : FuncData) : Prop where
  fn : FunV K x x st dV f fd
  mg : mg y = some (.ref f)
  bi : Binds K fd ps []
  bd : Binds K fd ps dv
section
variable {P : Program} {w : World} {K : PySem.W.Frag} {mg : Str → Option Value} {base : Heap}
theorem funV_mk {x qual : Str} {st : Stmt} {dV : Value} {f : Addr} {oc : Value} {od an : Option Addr} {osl : Array (Option Value)} {kV doc pm cdv ct : Value} (l : K.lookup f = some ⟨oc, od, .func (PySem.W.fnOf x qual (defArgs st) (defBody st) (defScope st) dV kV doc pm an cdv ct), osl⟩)
    (c : PySem.W.codeIn K cdv qual = true) (k : PySem.W.keepIn K (.ref f) = true) : FunV K x qual st dV f (PySem.W.fnOf x qual (defArgs st) (defBody st) (defScope st) dV kV doc pm an cdv ct) := ⟨⟨oc, od, kV, doc, pm, an, cdv, ct, osl, rfl, l, c⟩, k⟩
theorem FunV.binds0 {x qual : Str} {st : Stmt} {f : Addr} {fd : FuncData} {ps : List Str} (F : FunV K x qual st .none f fd)
    (h : ∀ (kV doc pm : Value) (an : Option Addr) (cdv ct : Value) (us : List Value), us.length = ps.length → bindArgs (PySem.W.fnOf x qual (defArgs st) (defBody st) (defScope st) .none kV doc pm an cdv ct) ⟨us, []⟩ = pure (ps.zip us)) : Binds K fd ps [] := by
  obtain ⟨oc, od, kV, doc, pm, an, cdv, ct, osl, rfl, lk, hcd⟩ := F.ex
  exact .all (h kV doc pm an cdv ct)
/-- every parameter given, or all but the last: the defaults stand at T -/
theorem FunV.bindsT {x qual : Str} {st : Stmt} {f T : Addr} {fd : FuncData} {ps : List Str} {o : Obj} {n : Nat} {dv : List Value} (F : FunV K x qual st (.ref T) f fd) (lT : K.lookup T = some o) (oT : o.data = .seq #[.none] n)
    (h : ∀ (kV doc pm : Value) (an : Option Addr) (cdv ct : Value) (us : List Value), us.length + dv.length = ps.length → ∃ k, bindArgs (PySem.W.fnOf x qual (defArgs st) (defBody st) (defScope st) (.ref T) kV doc pm an cdv ct) ⟨us, []⟩ = seqItems? (.ref T) >>= k ∧ k (some #[.none]) = pure (ps.zip (us ++ dv))) : Binds K fd ps dv := by
  obtain ⟨oc, od, kV, doc, pm, an, cdv, ct, osl, rfl, lk, hcd⟩ := F.ex
  intro s us X hlen
  rw [List.length_append] at hlen
  obtain ⟨k, e1, e2⟩ := h kV doc pm an cdv ct us hlen
  refine BindsTo.of_looks fun M => ?_
  rw [e1]
  exact looks_items X lT oT (.of_pure e2)
theorem fn_okV {x qual : Str} {st : Stmt} {dV : Value} {f : Addr} {fd : FuncData} {N ps : List Str} {k : Nat} {keep : Bool} {body : EvS} {B : List Stmt} {sc : Scope} (F : FunV K x qual st dV f fd) (S : FnScope N ps (defScope st)) (hB : defBody st = B) (hS : defScope st = sc)
    (hbody : ∀ (cdv : Value) (A : Around) (outer : List Env) (s : Shared) (H : Hp) (E : XK), Room k (A.deeper (envOfC qual sc s.heap.objs.size f cdv)) → N.Nodup →
      Takes (cxOf (L2.CX P w) P w K mg base N qual sc f cdv A outer s H E) (WD E) →
      PassesOwn (model P w) (cxOf (L2.CX P w) P w K mg base N qual sc f cdv A outer s H E).A (cxOf (L2.CX P w) P w K mg base N qual sc f cdv A outer s H E).env (cxOf (L2.CX P w) P w K mg base N qual sc f cdv A outer s H E).xe →
      PSs (cxOf (L2.CX P w) P w K mg base N qual sc f cdv A outer s H E) B (tS (cxOf (L2.CX P w) P w K mg base N qual sc f cdv A outer s H E).K (cxOf (L2.CX P w) P w K mg base N qual sc f cdv A outer s H E).mg (WD E) body)) :
    FnOk P w K mg base (L2.CX P w) (k + 1) f fd ps (spD K mg ps.length (runDef keep N.length body)) := by
  subst hB hS
  obtain ⟨oc, od, kV, doc, pm, an, cdv, ct, osl, rfl, lk, hcd⟩ := F.ex
  refine fn_of lk hcd S (fun vs H Q E ⟨μ, S, ds, hl, h, _⟩ => by rw [← h.length]; exact hl) fun A outer s H vs Q E hr ⟨μ, Sx, ds, hl, hd, r, hp⟩ => ?_
  refine ⟨_, hbody cdv A outer s H E hr S.nd (takes_of rfl rfl rfl rfl) (passes_of rfl), startR N.length ds, Sx, μ, start_rel hd, r, ?_⟩
  unfold runDef at hp
  cases hb : body (startR N.length ds) Sx with
  | ok o S' =>
    rw [hb] at hp
    cases o with
    | nx ρ' => exact fun μ' H' s' r' σ' _ => fin_ok hp r μ' H' s' r' _ .non
    | rt d => exact fun μ' H' s' r' v rv => fin_ok hp r μ' H' s' r' v rv
    | bk ρ' => exact hp.elim
    | ct ρ' => exact hp.elim
    | xc e ρ' => exact fun μ' H' s' r' σ' c od _ rx => hp μ' H' c od s' r' rx
  | ex e S' => rw [hb] at hp; exact hp.elim
  | bad => rw [hb] at hp; exact hp.elim
end
section
variable {X : Cx} {W : WX} {pos : Pos}
/-- so many arguments, and None for the last parameter -/
def clN (n : Nat) (G : List D → M D) : List D → M D := fun ds => if ds.length = n then G (ds ++ [.non]) else stuck
/-- a call of a def, its last parameter left out -/
theorem d_callN {k n : Nat} {f : Addr} {fd : FuncData} {ps : List Str} {x : Str} {p : Pos} {e : Expr} {es : List Expr} {G : List D → M D} {t : EvL} (F : FnOk X.prog X.w X.K X.mg X.base (L2.CX X.prog X.w) k f fd ps (spD X.K X.mg ps.length G)) (hr : Room k X.A)
    (hg : Gl X x) (hm : X.mg x = some (.ref f)) (hk : PySem.W.keepIn X.K (.ref f) = true) (hb : Binds X.K fd ps [.none]) (tk : Takes X W) (ha : PA X (e :: es) (tA X.K X.mg W t)) (hlen : ps.length = n + 1 := by rfl) (hdb : (x == ("__debug__" : Str)) = false := by decide)
    (he : starEach (e :: es) X.env = (false, eval e X.env) :: starEach es X.env := by rfl) (hpl : (backTo pos (starEach es X.env)).any (·.1) = false := by rfl) :
    PE X (.Call (.Name x p) (e :: es) [] pos) (tD X.K X.mg W (eCall (clN n G) t)) := by
  refine PE.imp (pe_callSD F hr hg hm hk hb (dvs := [.non]) (.cons rfl .nil) (fun σ => passAt tk σ) ha hdb he hpl) fun σ H Q ⟨ρ, S, μ, e, s, h⟩ => ?_
  refine ⟨ρ, S, μ, e, s, h.bnd fun ds S1 μ1 H1 s1 r1 h1 vs rvs => ?_⟩
  unfold clN at h1
  split at h1
  · rename_i hl
    refine ⟨μ1, S1, ds ++ [.non], by simp [hl, hlen], rvs.append (.cons .non .nil), r1, ?_⟩
    cases hg : G (ds ++ [.non]) S1 with
    | ok d S2 => rw [hg] at h1; exact h1
    | ex x S2 => rw [hg] at h1; exact h1
    | bad => rw [hg] at h1; exact h1
  · exact h1.elim
/-! ### n += e, n -= e -/
def sAugI (i : Nat) (f : Int → Int → Int) (te : EvD) : EvS := fun ρ S => match ρ[i]? with
  | some (some (.int a)) => lft ρ (te ρ) (fun d S => match d with
    | .int b => .ok (.nx (ρ.set i (some (.int (f a b))))) S
    | _ => .bad) S
  | _ => .bad
theorem s_aug (i : Nat) {x : Str} {e : Expr} {op : Operator} {f : Int → Int → Int} {te : EvD} {p : Pos} (hN : X.N.Nodup) (ho : PIp X op (ipI f)) (he : PE X e (tD X.K X.mg W te)) (hi : X.N[i]? = some x := by rfl)
    (hx : Loc X.env.scope x := by first | exact Or.inl rfl | exact Or.inr rfl) (hf : X.fn x = true ∨ X.env.scope.names.lookup x = some .local := by first | exact .inl rfl | exact .inr rfl | assumption) :
    PS X (.AugAssign (.Name x p) op e pos) (tS X.K X.mg W (sAugI i f te)) := by
  refine PS.imp (ps_aug hN hi hx he ho hf) fun E σ H ⟨ρ, S, μ, e, s, h⟩ => ?_
  unfold sAugI at h
  split at h
  · rename_i a ea
    obtain ⟨v, ev, rv⟩ := e.val _ _ ea
    cases rv
    refine ⟨_, ev, ρ, S, μ, e, s, h.lft e s fun d S1 μ1 H1 s1 r1 e1 h1 v rv => ?_⟩
    split at h1
    · rename_i b
      cases rv
      exact ⟨a, b, rfl, rfl, h1.now r1 _ (e1.set (.int _) i)⟩
    · exact h1.elim
  · exact h.elim
/-! ### a, b = a list -/
def gUl (n : Nat) (t : TgL) : D → Rho → Option Rho := fun d ρ => match d with
  | .lst ds => if ds.length = n then t ds ρ else none
  | _ => none
theorem g_unl {n : Nat} {is : List Nat} {t : TgL} {g : TGs} (ht : GRDs X is t g) : GRD X is (gUl n t) (gUnl X.K n g) := fun d v ρ ρ' σ μ S H Q e r rd h q => by
  unfold gUl at h
  split at h
  · split at h
    · rename_i hl
      cases rd with
      | lst h1 h0 h2 => exact ⟨_, _, rfl, .inl (.inl h1), by rw [← h2.length]; exact hl, ht _ _ _ _ _ _ _ _ _ e r h2 h q⟩
    · cases h
  · cases h
/-! ### tuple(range(n)), list(range(n)) -/
theorem rg_rd {μ : Mu} {H : Hp} (a b : Int) : RDs X.K μ H (rangeD a (b - a).toNat) (rgV a b) := by
  unfold rangeD rgV
  generalize (b - a).toNat = m
  have : ∀ l : List Nat, RDs X.K μ H (l.map fun i => D.int (a + (i : Nat))) (l.map fun i => V.int (a + (i : Nat))) := by
    intro l
    induction l with
    | nil => exact .nil
    | cons x l ih => exact .cons (.int _) ih
  exact this _
def gTupR (xs : List D) : M D := fun S => match xs with
  | [.int b] => if b ≤ 16777216 ∧ 0 ≤ b + 16777216 then .ok (.tup (rangeD 0 b.toNat)) S else .bad
  | _ => .bad
def gLstR (mu : Bool) (xs : List D) : M D := fun S => match xs with
  | [.int b] => if b ≤ 16777216 ∧ 0 ≤ b + 16777216 then (if mu then .ok (.ref S.length) (S ++ [.lst (rangeD 0 b.toNat)]) else .ok (.lst (rangeD 0 b.toNat)) S) else .bad
  | _ => .bad
theorem d_tupR {e : Expr} {te : EvD} {p p2 pos2 : Pos} (hc : X.calm = true) (hg : Gl X "tuple") (hm : X.mg "tuple" = none) (hg2 : Gl X "range") (hm2 : X.mg "range" = none) (he : PE X e (tD X.K X.mg W te))
    (hs : starEach [e] X.env = (false, eval e X.env) :: starEach [] X.env := by rfl) (hs2 : starEach [.Call (.Name "range" p2) [e] [] pos2] X.env = (false, eval (.Call (.Name "range" p2) [e] [] pos2) X.env) :: starEach [] X.env := by rfl) :
    PE X (.Call (.Name "tuple" p) [.Call (.Name "range" p2) [e] [] pos2] [] pos) (tD X.K X.mg W (eUn (fun x => gTupR [x]) te)) := by
  refine PE.imp (pe_tupRg hc hg hm (prg_1 hg2 hm2 he hs) hs2) fun σ H Q ⟨ρ, S, μ, e, s, h⟩ => ?_
  refine ⟨ρ, S, μ, e, s, h.bnd fun x S1 μ1 H1 s1 r1 h1 v rv => ?_⟩
  unfold gTupR at h1
  split at h1
  · rename_i b eb
    cases eb
    cases rv
    split at h1
    · rename_i hb
      refine ⟨b, rfl, ⟨by decide, by decide, by omega, by omega, by omega⟩, fun p hp => h1 μ1 _ (Stp.new hp) (r1.new hp) _ (.tup (.inl (.inl upd_same)) ?_)⟩
      have := rg_rd (X := X) (μ := μ1) (H := upd H1 p (.tup (rgV 0 b))) 0 b
      rwa [show b - 0 = b by omega] at this
    · exact h1.elim
  · exact h1.elim
theorem d_lstR (mu : Bool) {e : Expr} {te : EvD} {p p2 pos2 : Pos} (hc : X.calm = true) (hg : Gl X "list") (hm : X.mg "list" = none) (hg2 : Gl X "range") (hm2 : X.mg "range" = none) (he : PE X e (tD X.K X.mg W te))
    (hs : starEach [e] X.env = (false, eval e X.env) :: starEach [] X.env := by rfl) (hs2 : starEach [.Call (.Name "range" p2) [e] [] pos2] X.env = (false, eval (.Call (.Name "range" p2) [e] [] pos2) X.env) :: starEach [] X.env := by rfl) :
    PE X (.Call (.Name "list" p) [.Call (.Name "range" p2) [e] [] pos2] [] pos) (tD X.K X.mg W (eUn (fun x => gLstR mu [x]) te)) := by
  refine PE.imp (pe_listRg hc hg hm (prg_1 hg2 hm2 he hs) hs2) fun σ H Q ⟨ρ, S, μ, e, s, h⟩ => ?_
  refine ⟨ρ, S, μ, e, s, h.bnd fun x S1 μ1 H1 s1 r1 h1 v rv => ?_⟩
  unfold gLstR at h1
  split at h1
  · rename_i b eb
    cases eb
    cases rv
    split at h1
    · rename_i hb
      refine ⟨b, rfl, ⟨by decide, by decide, by omega, by omega, by omega⟩, fun p hp => ?_⟩
      have rd := rg_rd (X := X) (μ := μ1) (H := H1) 0 b
      rw [show b - 0 = b by omega] at rd
      cases mu with
      | true => exact h1 (μ1.push p) _ (Stp.alloc hp) (r1.alloc hp ⟨_, upd_same, rd.step r1 (Stp.alloc hp)⟩) _ (new_ref r1)
      | false => exact h1 μ1 _ (Stp.new hp) (r1.new hp) _ (.lst upd_same ⟨fun z => r1.there z hp, fun z => r1.hid _ z hp⟩ (rd.step r1 (Stp.new hp)))
    · exact h1.elim
  · exact h1.elim
end
/-! ### slices of a tuple with a step -/
def cutSt {α : Type} (xs : List α) (lo hi : Option Int) (st : Int) : List α :=
  (List.range (Builtin.Slice.slicePlaces (Builtin.Slice.sliceAdjust lo hi st (xs.length : Nat)).1 (Builtin.Slice.sliceAdjust lo hi st (xs.length : Nat)).2 st)).filterMap fun (k : Nat) => xs[((Builtin.Slice.sliceAdjust lo hi st (xs.length : Nat)).1 + (k : Int) * st).toNat]?
section
variable {prog : Program} {w : World} {A : Around} {E : Value → Shared → Prop} {s : Shared}
theorem applied_st {sl : Addr} {vl vu vs : Value} {lo hi : Option Int} {st : Int} {n : Nat} {Q : Int × Int × Nat → Shared → Prop} (hs : s.heap.IsSliceOf sl vl vu vs) (pl : IsPart vl lo) (pu : IsPart vu hi) (ps : IsPart vs (some st)) (h0 : st ≠ 0)
    (h : Q ((Builtin.Slice.sliceAdjust lo hi st (n : Int)).1, st, Builtin.Slice.slicePlaces (Builtin.Slice.sliceAdjust lo hi st (n : Int)).1 (Builtin.Slice.sliceAdjust lo hi st (n : Int)).2 st) s) : wpAny (model prog w) A (Builtin.Slice.sliceApplied (.ref sl) (pure (n : Int))) Q E s := by
  obtain ⟨os, hos, hcs, hds⟩ := id hs
  unfold Builtin.Slice.sliceApplied Builtin.Slice.sliceFields
  refine wpAny_bind (wpAny_bind (wpAny_field hos hds (x := vl) rfl (wpAny_bind (wpAny_field hos hds (x := vu) rfl (wpAny_bind (wpAny_field hos hds (x := vs) rfl (wpAny_pure ?_)))))))
  refine wpAny_bind (HT.slicePart_ ps ?_)
  show wpAny _ _ (if (st == 0) = true then _ else _) _ _ s
  rw [if_neg (by simpa using h0)]
  exact wpAny_bind (HT.slicePart_ pl (wpAny_bind (HT.slicePart_ pu (wpAny_bind (wpAny_pure (wpAny_pure h))))))
theorem getItem_tuple_st {t sl : Addr} {items : Array Value} {vl vu vs : Value} {lo hi : Option Int} {st : Int} {Q : Value → Shared → Prop} (ht : IsTup s.heap t items) (hs : s.heap.IsSliceOf sl vl vu vs) (pl : IsPart vl lo) (pu : IsPart vu hi) (ps : IsPart vs (some st)) (h0 : st ≠ 0) (h1 : st ≠ 1)
    (hz : (cutSt items.toList lo hi st).length ≤ sizeLine) (h : Q (.ref s.heap.objs.size) { s with heap := s.heap.push { cls := .type "tuple", data := .seq (cutSt items.toList lo hi st).toArray } }) : wpAny (model prog w) A (getItem (.ref t) (.ref sl)) Q E s := by
  have hzk : sizeOk (.seq (cutSt items.toList lo hi st).toArray) := by
    show (cutSt items.toList lo hi st).toArray.size ≤ sizeLine
    rw [List.size_toArray]; exact hz
  obtain ⟨os, hos, hcs, hds⟩ := id hs
  have hTs : s.TypeIs (.ref sl) "slice" := ⟨os, hos, hcs⟩
  unfold getItem
  try with_reducible refine wpAny_holding ?_
  first | refine wpAny_bind (wpAny_pure ?_) | skip
  refine wpAny_bind (wpAny_sequenceKey ht.typeIs (by decide) (wpAny_bind (wpAny_callSpecial?_slot (name := Str.ofString "__getitem__") ht.typeIs PyProof.Rows.slot_tuple_getitem (wpAny_call_entry PyProof.Rows.slot_tuple_getitem ht.typeIs entry_tuple_getitem ?_ (args_tuple_getitem _ _)))))
  show wpAny _ _ (Builtin.Tuple.tupleItemsOf (.ref t) >>= _) _ _ s
  refine wpAny_bind (PyProof.Rows.tupleItemsOf_ ht (wpAny_bind (wpAny_typeOf hTs ?_)))
  rw [if_pos (by decide)]
  refine wpAny_bind (applied_st hs pl pu ps h0 ?_)
  have e : ((List.range (Builtin.Slice.slicePlaces (Builtin.Slice.sliceAdjust lo hi st (items.size : Int)).1 (Builtin.Slice.sliceAdjust lo hi st (items.size : Int)).2 st)).filterMap fun (k : Nat) => items[((Builtin.Slice.sliceAdjust lo hi st (items.size : Int)).1 + (k : Int) * st).toNat]?) = cutSt items.toList lo hi st := by
    unfold cutSt
    rw [Array.length_toList]
    simp only [Array.getElem?_toList]
  have hno : ∀ (a : Int) (k : Nat), ¬ ((a == 0 && st == 1 && k == items.size) = true) := by
    intro a k q
    rw [Bool.and_eq_true, Bool.and_eq_true] at q
    exact h1 (eq_of_beq q.1.2)
  dsimp only
  rw [if_neg (hno _ _), e]
  first
    | exact wpAny_bind (m := Builtin.Tuple.tupleExact _) (wpAny_newObj_type (wpAny_pure ⟨_, rfl, wpAny_pure h⟩) hzk)
    | exact wpAny_bind (wpAny_bind (m := Builtin.Tuple.tupleExact _) (wpAny_newObj_type (wpAny_pure (wpAny_pure ⟨_, rfl, wpAny_pure h⟩)) hzk))
    | exact wpAny_bind (wpAny_bind (m := Builtin.Tuple.tupleExact _) (wpAny_newObj_type (wpAny_pure ⟨_, rfl, wpAny_pure h⟩) hzk))
end
section
variable {X : Cx} {W : WX} {pos : Pos}
def tSlSt (K : PySem.W.Frag) (te : TE) (tl th ts : TO) : TE := fun σ H Q => te σ H fun x H1 => tl σ H1 fun l H2 => th σ H2 fun u H3 => ts σ H3 fun o H4 => ∃ (a : Addr) (xs : List V) (st : Int), x = .ref a ∧ o = some st ∧ st ≠ 0 ∧ st ≠ 1 ∧ SqT K H4 a xs ∧ (cutSt xs l u st).length ≤ sizeLine ∧ ∀ p, H4 p = none → Q (.ref p) (upd H4 p (.tup (cutSt xs l u st)))
theorem vals_cutSt {xs : List V} {us : List Value} (r : Vals xs us) (lo hi : Option Int) (st : Int) : Vals (cutSt xs lo hi st) (cutSt us lo hi st) := by
  unfold cutSt
  rw [← r.length]
  generalize (Builtin.Slice.sliceAdjust lo hi st (xs.length : Nat)).1 = a
  generalize List.range (Builtin.Slice.slicePlaces a (Builtin.Slice.sliceAdjust lo hi st (xs.length : Nat)).2 st) = l
  induction l with
  | nil => exact .nil
  | cons k l ih =>
    cases e : xs[(a + (k : Int) * st).toNat]? with
    | none =>
      have e2 : us[(a + (k : Int) * st).toNat]? = none := by
        rw [List.getElem?_eq_none_iff] at e ⊢
        rw [← r.length]; exact e
      simp only [List.filterMap_cons, e, e2]; exact ih
    | some x =>
      obtain ⟨u, e2, rx⟩ := r.get e
      simp only [List.filterMap_cons, e, e2]
      exact .cons rx ih
theorem pe_slSt {e stE : Expr} {lo hi : Option Expr} {te : TE} {tl th ts : TO} {p2 : Pos} (he : PE X e te) (hl : PO X lo tl) (hu : PO X hi th) (hst : PO X (some stE) ts) :
    PE X (.Subscript e (.Slice lo hi (some stE) p2) pos) (tSlSt X.K te tl th ts) := by
  refine ⟨fun pins s σ H Q I h => ?_⟩
  refine Subscript_ (thn (he.run pins s σ H _ I h) fun v s1 ⟨x, H1, I1, r1, q1⟩ => ?_)
  refine wpAny_Slice (thn (hl.run pins s1 σ H1 _ I1 q1) fun vl s2 ⟨l, H2, I2, pl, q2⟩ => thn (hu.run pins s2 σ H2 _ I2 q2) fun vu s3 ⟨u, H3, I3, pu, q3⟩ => thn (hst.run pins s3 σ H3 _ I3 q3) fun vs s4 ⟨o, H4, I4, ps, q4⟩ => ?_)
  obtain ⟨a, xs, st, rfl, rfl, h0, h1, hx, hz, q⟩ := q4
  cases r1
  have I5 : Inv X pins σ H4 { s4 with heap := s4.heap.push { cls := .type "slice", data := .fields #[vl, vu, vs] } } := I4.kept (t' := s4.toks) fun b ob q => Heap.get?_push_of_some _ q
  obtain ⟨its, r, ht, _⟩ := I5.tuple hx
  show wpAny (model X.prog X.w) X.A (subscriptTail e (.Slice lo hi (some stE) p2) (.ref a) (.ref s4.heap.objs.size)) (EP X pins σ Q) X.xe { s4 with heap := s4.heap.push { cls := .type "slice", data := .fields #[vl, vu, vs] } }
  refine tail_any (ops := [.ref a, .ref s4.heap.objs.size]) ht.typeIs (PyProof.Rows.slot_tuple_getitem.lookup) ?_ (by with_unfolding_all rfl)
  have rc := vals_cutSt r l u st
  refine getItem_tuple_st ht (Heap.IsSliceOf.new _ vl vu vs) pl pu ps h0 h1 (by rw [← rc.length] <;> exact hz) ?_
  refine ⟨.ref _, _, I5.laid (t' := s4.toks) (o := .tup (cutSt xs l u st)) (fun b ob q => Heap.get?_push_of_some _ q) (Nat.le_refl _) ?_, rfl, q _ (I5.hok.fresh (Nat.le_refl _))⟩
  exact ⟨hz, _, rc, IsTup.new _ _⟩
theorem cutSt_rd {K : PySem.W.Frag} {μ : Mu} {H : Hp} {ds : List D} {vs : List V} (r : RDs K μ H ds vs) (lo hi : Option Int) (st : Int) : RDs K μ H (cutSt ds lo hi st) (cutSt vs lo hi st) := by
  unfold cutSt
  rw [← r.length]
  generalize (Builtin.Slice.sliceAdjust lo hi st (ds.length : Nat)).1 = a
  generalize List.range (Builtin.Slice.slicePlaces a (Builtin.Slice.sliceAdjust lo hi st (ds.length : Nat)).2 st) = l
  induction l with
  | nil => exact .nil
  | cons k l ih =>
    cases e : ds[(a + (k : Int) * st).toNat]? with
    | none =>
      have e2 : vs[(a + (k : Int) * st).toNat]? = none := by
        rw [List.getElem?_eq_none_iff] at e ⊢
        rw [← r.length]; exact e
      simp only [List.filterMap_cons, e, e2]; exact ih
    | some x =>
      obtain ⟨u, e2, rx⟩ := r.get e
      simp only [List.filterMap_cons, e, e2]
      exact .cons rx ih
def gSlSt (x : D) (lo hi st : Option Int) : M D := fun S => match x, st with
  | .tup ds, some c => if c ≠ 0 ∧ c ≠ 1 ∧ (cutSt ds lo hi c).length ≤ sizeLine then .ok (.tup (cutSt ds lo hi c)) S else .bad
  | _, _ => .bad
def eSlSt (a : EvD) (lo hi st : EvO) : EvD := fun ρ => bnd (a ρ) fun x => bnd (lo ρ) fun l => bnd (hi ρ) fun h => bnd (st ρ) fun c => gSlSt x l h c
theorem d_slSt {e stE : Expr} {lo hi : Option Expr} {te : EvD} {tl th ts : EvO} {p2 : Pos} (he : PE X e (tD X.K X.mg W te)) (hl : PO X lo (tO X.K X.mg W tl)) (hu : PO X hi (tO X.K X.mg W th)) (hst : PO X (some stE) (tO X.K X.mg W ts)) :
    PE X (.Subscript e (.Slice lo hi (some stE) p2) pos) (tD X.K X.mg W (eSlSt te tl th ts)) := by
  refine PE.imp (pe_slSt he hl hu hst) fun σ H Q ⟨ρ, S, μ, e, s, h⟩ => ?_
  refine ⟨ρ, S, μ, e, s, h.bnd fun x S1 μ1 H1 s1 r1 h1 v rv => ?_⟩
  refine ⟨ρ, S1, μ1, e.step s s1, r1, h1.bnd fun l S2 μ2 H2 s2 r2 h2 => ?_⟩
  refine ⟨ρ, S2, μ2, (e.step s s1).step r1 s2, r2, h2.bnd fun u S3 μ3 H3 s3 r3 h3 => ?_⟩
  refine ⟨ρ, S3, μ3, ((e.step s s1).step r1 s2).step r2 s3, r3, h3.bnd fun c S4 μ4 H4 s4 r4 h4 => ?_⟩
  have rv4 := ((rv.step r1 s2).step r2 s3).step r3 s4
  unfold gSlSt at h4
  split at h4
  · rename_i ds c
    split at h4
    · rename_i hc
      cases rv4 with
      | @tup a vs _ q z =>
        have rc := cutSt_rd z l u c
        exact ⟨a, vs, c, rfl, rfl, hc.1, hc.2.1, q, by rw [← rc.length]; exact hc.2.2, fun p hp => h4 μ4 _ (Stp.new hp) (r4.new hp) _ (.tup (.inl (.inl upd_same)) (rc.step r4 (Stp.new hp)))⟩
    · exact h4.elim
  · exact h4.elim
end
/-! ### more methods -/
section
variable {X : Cx} {W : WX} {pos : Pos}
def gSIndex (x : D) (xs : List D) : M D := fun S => match x, xs with
  | .str a, [.str b] => match Builtin.Str.occurrences a b 0 a.length 1 with
    | i :: _ => .ok (.int (i : Nat)) S
    | [] => .bad
  | _, _ => .bad
theorem m_sindex : MRD X W "str.index" gSIndex := by
  refine ⟨_, mt_sindex, fun d ds v vs μ S σ H Q r rd rds h => ?_⟩
  unfold gSIndex at h
  split at h
  · cases rds with
    | cons h1 h2 =>
      cases h2; cases h1; cases rd
      split at h
      · rename_i i rest e
        exact ⟨_, _, i, rest, rfl, rfl, e, h.now r _ (.int _)⟩
      · exact h.elim
  · exact h.elim
def gEndswith (x : D) (xs : List D) : M D := fun S => match x, xs with
  | .str a, [.str b] => .ok (.bl (Txt.endswith a b)) S
  | _, _ => .bad
theorem m_endswith : MRD X W "str.endswith" gEndswith := by
  refine ⟨_, mt_endswith, fun d ds v vs μ S σ H Q r rd rds h => ?_⟩
  unfold gEndswith at h
  split at h
  · cases rds with
    | cons h1 h2 =>
      cases h2; cases h1; cases rd
      exact ⟨_, _, rfl, rfl, h.now r _ (.bl _)⟩
  · exact h.elim
def gInsert (x : D) (xs : List D) : M D := fun S => match x, xs with
  | .ref n, [.int i, d] => match atL S n with
    | some ds => if ds.length < sizeLine ∧ 0 ≤ i ∧ i < 2 ^ 63 then .ok .non (S.set n (.lst (ds.take i.toNat ++ [d] ++ ds.drop i.toNat))) else .bad
    | none => .bad
  | _, _ => .bad
theorem m_insert : MRD X W "list.insert" gInsert := by
  refine ⟨_, mt_insert, fun d ds v vs μ S σ H Q r rd rds h => ?_⟩
  unfold gInsert at h
  split at h
  · cases rds with
    | cons h1 h2 =>
      cases h2 with
      | cons h2 h3 =>
        cases h3; cases h1
        split at h
        · rename_i ds e
          split at h
          · rename_i hb
            cases rd with
            | @ref n a hn =>
              obtain ⟨vs, q, z⟩ := r.obj _ a _ hn (atL_ok e)
              have hm : a ∈ μ.v := List.mem_of_getElem? hn
              refine ⟨a, vs, _, _, rfl, rfl, q, by rw [← z.length]; exact hb.1, hb.2.1, hb.2.2, ?_⟩
              exact h μ _ (Stp.put hm) (r.put hn ⟨_, upd_same, (((z.take _).append (.cons h2 .nil)).append (z.drop _)).step r (Stp.put hm)⟩) _ .non
          · exact h.elim
        · exact h.elim
  · exact h.elim
def gCount (x : D) (xs : List D) : M D := fun S => match xs with
  | [.int k] => match (iSeq S x).bind intsOf with
    | some ns => .ok (.int (ns.count k : Nat)) S
    | none => .bad
  | _ => .bad
theorem m_count : MRD X W "list.count" gCount := by
  refine ⟨_, mt_lcount, fun d ds v vs μ S σ H Q r rd rds h => ?_⟩
  unfold gCount at h
  split at h
  · cases rds with
    | cons h1 h2 =>
      cases h2; cases h1
      split at h
      · rename_i ns e
        rw [Option.bind_eq_some_iff] at e
        obtain ⟨ds, e1, e2⟩ := e
        obtain ⟨a, vs, rfl, q, z⟩ := iSeq_ok e1 r rd
        rw [intsOf_ok e2] at z
        rw [z.ints] at q
        exact ⟨a, ns, _, rfl, rfl, q, h.now r _ (.int _)⟩
      · exact h.elim
  · exact h.elim
end
end DL

/-! DLY: words for the constructs of DLP -/
namespace DL
open PySem L2
section
variable {ρ : Rho} {S : Sto} {F : D → Sto → Prop} {E : Exc → Sto → Prop} {N : Rho → Sto → Prop} {T : D → Sto → Prop} {B C : Rho → Sto → Prop} {X : Exc → Rho → Sto → Prop}
theorem wps_augI {i : Nat} {f : Int → Int → Int} {e : EvD} : wps (sAugI i f e ρ S) N T B C X ↔ ∃ a, ρ[i]? = some (some (.int a)) ∧ wp (e ρ S) (fun d S' => ∃ b, d = .int b ∧ N (ρ.set i (some (.int (f a b)))) S') (fun e S' => X e ρ S') := by
  unfold sAugI
  constructor
  · intro h
    split at h
    · rename_i a ea
      refine ⟨a, ea, ?_⟩
      rw [wps_lft] at h
      refine wp_mono h (fun d S' h => ?_) (fun _ _ h => h)
      split at h
      · exact ⟨_, rfl, h⟩
      · exact h.elim
    · exact h.elim
  · rintro ⟨a, ea, h⟩
    simp only [ea]
    rw [wps_lft]
    refine wp_mono h (fun d S' h => ?_) (fun _ _ h => h)
    obtain ⟨b, rfl, h⟩ := h
    exact h
theorem wps_asgUl {m : Nat} {t : TgL} {e : EvD} : wps (sAsg (gUl m t) e ρ S) N T B C X ↔ wp (e ρ S) (fun d S' => ∃ ρ', gUl m t d ρ = some ρ' ∧ N ρ' S') (fun e S' => X e ρ S') := wps_asgT
theorem gUl2 {t : TgL} {a b : D} : gUl 2 t (.lst [a, b]) ρ = t [a, b] ρ := rfl
theorem gTp2 {t : TgL} {a b : D} : gTp 2 t (.tup [a, b]) ρ = t [a, b] ρ := rfl
theorem gTp4 {t : TgL} {a b c d : D} : gTp 4 t (.tup [a, b, c, d]) ρ = t [a, b, c, d] ρ := rfl
theorem wp_clN1 {G : List D → M D} {a : D} : wp (clN 1 G [a] S) F E ↔ wp (G [a, .non] S) F E := Iff.rfl
theorem wp_clN2 {G : List D → M D} {a b : D} : wp (clN 2 G [a, b] S) F E ↔ wp (G [a, b, .non] S) F E := Iff.rfl
theorem wp_clN3 {G : List D → M D} {a b c : D} : wp (clN 3 G [a, b, c] S) F E ↔ wp (G [a, b, c, .non] S) F E := Iff.rfl
theorem wp_slSt {a : EvD} {lo hi st : EvO} : wp (eSlSt a lo hi st ρ S) F E ↔ wp (a ρ S) (fun x S1 => wp (lo ρ S1) (fun l S2 => wp (hi ρ S2) (fun h S3 => wp (st ρ S3) (fun c S4 => wp (gSlSt x l h c S4) F E) E) E) E) E := by
  unfold eSlSt; simp only [wp_bnd]
theorem gSlSt_tup {ds : List D} {lo hi : Option Int} {c : Int} (h0 : c ≠ 0) (h1 : c ≠ 1) : wp (gSlSt (.tup ds) lo hi (some c) S) F E ↔ (cutSt ds lo hi c).length ≤ sizeLine ∧ F (.tup (cutSt ds lo hi c)) S := by
  unfold gSlSt
  by_cases h : (cutSt ds lo hi c).length ≤ sizeLine
  · simp only [if_pos (show c ≠ 0 ∧ c ≠ 1 ∧ (cutSt ds lo hi c).length ≤ sizeLine from ⟨h0, h1, h⟩)]
    exact ⟨fun q => ⟨h, q⟩, fun q => q.2⟩
  · simp only [if_neg (show ¬ (c ≠ 0 ∧ c ≠ 1 ∧ (cutSt ds lo hi c).length ≤ sizeLine) from fun q => h q.2.2)]
    exact ⟨fun q => q.elim, fun q => h q.1⟩
theorem gTupR_int {b : Int} : wp (gTupR [.int b] S) F E ↔ (b ≤ 16777216 ∧ 0 ≤ b + 16777216) ∧ F (.tup (rangeD 0 b.toNat)) S := by
  unfold gTupR
  by_cases h : b ≤ 16777216 ∧ 0 ≤ b + 16777216
  · simp only [if_pos h]; exact ⟨fun q => ⟨h, q⟩, fun q => q.2⟩
  · simp only [if_neg h]; exact ⟨fun q => q.elim, fun q => h q.1⟩
theorem gLstR_int {b : Int} : wp (gLstR false [.int b] S) F E ↔ (b ≤ 16777216 ∧ 0 ≤ b + 16777216) ∧ F (.lst (rangeD 0 b.toNat)) S := by
  unfold gLstR
  by_cases h : b ≤ 16777216 ∧ 0 ≤ b + 16777216
  · simp only [if_pos h]; exact ⟨fun q => ⟨h, q⟩, fun q => q.2⟩
  · simp only [if_neg h]; exact ⟨fun q => q.elim, fun q => h q.1⟩
theorem gSIndex_of {a b : Str} {i : Nat} {r : List Nat} (h : Builtin.Str.occurrences a b 0 a.length 1 = i :: r) : wp (gSIndex (.str a) [.str b] S) F E ↔ F (.int i) S := by
  unfold gSIndex
  simp only [h]; exact Iff.rfl
theorem gEndswith_str {a b : Str} : wp (gEndswith (.str a) [.str b] S) F E ↔ F (.bl (Txt.endswith a b)) S := Iff.rfl
theorem gInsert_ref {n : Nat} {ds : List D} {i : Int} {d : D} (h : atL S n = some ds) : wp (gInsert (.ref n) [.int i, d] S) F E ↔ (ds.length < sizeLine ∧ 0 ≤ i ∧ i < 2 ^ 63) ∧ F .non (S.set n (.lst (ds.take i.toNat ++ [d] ++ ds.drop i.toNat))) := by
  unfold gInsert
  simp only [h]
  by_cases hb : ds.length < sizeLine ∧ 0 ≤ i ∧ i < 2 ^ 63
  · rw [if_pos hb]; exact ⟨fun q => ⟨hb, q⟩, fun q => q.2⟩
  · rw [if_neg hb]; exact ⟨fun q => q.elim, fun q => hb q.1⟩
theorem gCount_of {x : D} {ns : List Int} {k : Int} (h : iSeq S x = some (ns.map .int)) : wp (gCount x [.int k] S) F E ↔ F (.int (ns.count k : Nat)) S := by
  unfold gCount
  simp only [h, Option.bind_some, intsOf_map]; exact Iff.rfl
theorem gPop0_ref {n : Nat} {ds : List D} {d : D} (h : atL S n = some (d :: ds)) (hl : ds.length < 1000000) : wp (gPop (.ref n) [.int 0] S) F E ↔ F d (S.set n (.lst ds)) := by
  unfold gPop
  have e : seqIndex? 0 (d :: ds).length = some 0 := by
    unfold PySem.seqIndex?
    simp
  simp only [h, e, List.getElem?_cons_zero, List.eraseIdx_cons_zero]
  rw [if_pos (by decide)]
  exact Iff.rfl
end
/-! ### data without truths: == is to be the same -/
mutual
def D.pu : D → Bool
  | .non => true
  | .int _ => true
  | .str _ => true
  | .tup ds => D.pus ds
  | .lst ds => D.pus ds
  | _ => false
def D.pus : List D → Bool
  | [] => true
  | d :: ds => d.pu && D.pus ds
end
theorem pus_iff : ∀ {ds : List D}, D.pus ds = true ↔ ∀ d ∈ ds, d.pu = true
  | [] => by simp [D.pus]
  | d :: ds => by
    show (d.pu && D.pus ds) = true ↔ _
    rw [Bool.and_eq_true, pus_iff (ds := ds)]
    simp
theorem pu_tup {ds : List D} (h : ∀ d ∈ ds, d.pu = true) : (D.tup ds).pu = true := pus_iff.mpr h
theorem pu_lst {ds : List D} (h : ∀ d ∈ ds, d.pu = true) : (D.lst ds).pu = true := pus_iff.mpr h
mutual
theorem eqv_pu : ∀ (d e : D) (p q : PyData), d.pu = true → e.pu = true → toPy d = some p → toPy e = some q → (PyData.eqv p q = true ↔ d = e)
  | .bl _, _, _, _, h, _, _, _ => by cases h
  | .fl _, _, _, _, h, _, _, _ => by cases h
  | .ref _, _, _, _, h, _, _, _ => by cases h
  | .fn _, _, _, _, h, _, _, _ => by cases h
  | .non, e, p, q, _, h, e1, e2 => by
    cases e1
    cases e with
    | non => cases e2; simp [PyData.eqv]
    | int i => cases e2; simp [PyData.eqv]
    | str x => cases e2; simp [PyData.eqv]
    | tup es => simp only [toPy, Option.map_eq_some_iff] at e2; obtain ⟨qs, _, rfl⟩ := e2; simp [PyData.eqv]
    | lst es => simp only [toPy, Option.map_eq_some_iff] at e2; obtain ⟨qs, _, rfl⟩ := e2; simp [PyData.eqv]
    | _ => cases h
  | .int i, e, p, q, _, h, e1, e2 => by
    cases e1
    cases e with
    | non => cases e2; simp [PyData.eqv]
    | int i => cases e2; simp [PyData.eqv]
    | str x => cases e2; simp [PyData.eqv]
    | tup es => simp only [toPy, Option.map_eq_some_iff] at e2; obtain ⟨qs, _, rfl⟩ := e2; simp [PyData.eqv]
    | lst es => simp only [toPy, Option.map_eq_some_iff] at e2; obtain ⟨qs, _, rfl⟩ := e2; simp [PyData.eqv]
    | _ => cases h
  | .str x, e, p, q, _, h, e1, e2 => by
    cases e1
    cases e with
    | non => cases e2; simp [PyData.eqv]
    | int i => cases e2; simp [PyData.eqv]
    | str x => cases e2; simp [PyData.eqv]
    | tup es => simp only [toPy, Option.map_eq_some_iff] at e2; obtain ⟨qs, _, rfl⟩ := e2; simp [PyData.eqv]
    | lst es => simp only [toPy, Option.map_eq_some_iff] at e2; obtain ⟨qs, _, rfl⟩ := e2; simp [PyData.eqv]
    | _ => cases h
  | .tup ds, e, p, q, g, h, e1, e2 => by
    simp only [toPy, Option.map_eq_some_iff] at e1
    obtain ⟨ps, e1, rfl⟩ := e1
    cases e with
    | non => cases e2; simp [PyData.eqv]
    | int i => cases e2; simp [PyData.eqv]
    | str x => cases e2; simp [PyData.eqv]
    | tup es =>
      simp only [toPy, Option.map_eq_some_iff] at e2
      obtain ⟨qs, e2, rfl⟩ := e2
      have := eqvs_pu ds es ps qs g h e1 e2
      simp only [PyData.eqv, D.tup.injEq]
      exact this
    | lst es => simp only [toPy, Option.map_eq_some_iff] at e2; obtain ⟨qs, _, rfl⟩ := e2; simp [PyData.eqv]
    | _ => cases h
  | .lst ds, e, p, q, g, h, e1, e2 => by
    simp only [toPy, Option.map_eq_some_iff] at e1
    obtain ⟨ps, e1, rfl⟩ := e1
    cases e with
    | non => cases e2; simp [PyData.eqv]
    | int i => cases e2; simp [PyData.eqv]
    | str x => cases e2; simp [PyData.eqv]
    | tup es => simp only [toPy, Option.map_eq_some_iff] at e2; obtain ⟨qs, _, rfl⟩ := e2; simp [PyData.eqv]
    | lst es =>
      simp only [toPy, Option.map_eq_some_iff] at e2
      obtain ⟨qs, e2, rfl⟩ := e2
      have := eqvs_pu ds es ps qs g h e1 e2
      simp only [PyData.eqv, D.lst.injEq]
      exact this
    | _ => cases h
theorem eqvs_pu : ∀ (ds es : List D) (ps qs : List PyData), D.pus ds = true → D.pus es = true → toPys ds = some ps → toPys es = some qs → (PyData.eqvAll ps qs = true ↔ ds = es)
  | [], [], _, _, _, _, e1, e2 => by cases e1; cases e2; simp [PyData.eqvAll]
  | [], e :: es, _, qs, _, _, e1, e2 => by
    cases e1
    unfold toPys at e2
    split at e2
    · cases e2; simp [PyData.eqvAll]
    · cases e2
  | d :: ds, [], ps, _, _, _, e1, e2 => by
    cases e2
    unfold toPys at e1
    split at e1
    · cases e1; simp [PyData.eqvAll]
    · cases e1
  | d :: ds, e :: es, ps, qs, g, h, e1, e2 => by
    have g' : (d.pu && D.pus ds) = true := g
    have h' : (e.pu && D.pus es) = true := h
    rw [Bool.and_eq_true] at g' h'
    unfold toPys at e1 e2
    split at e1
    · rename_i p ps' a1 a2
      split at e2
      · rename_i q qs' b1 b2
        cases e1
        cases e2
        have i1 := eqv_pu d e p q g'.1 h'.1 a1 b1
        have i2 := eqvs_pu ds es ps' qs' g'.2 h'.2 a2 b2
        simp only [PyData.eqvAll, Bool.and_eq_true, i1, i2, List.cons.injEq]
      · cases e2
    · cases e1
end
section
variable {S : Sto} {F : D → Sto → Prop} {E : Exc → Sto → Prop}
open Classical in
theorem eqD_pu {m m' : Nat} {d e : D} (hd : Sh m d) (he : Sh m' e) (hm : min m m' ≤ 480) (pd : d.pu = true) (pe : e.pu = true) : eqD S d e = some (decide (d = e)) := by
  obtain ⟨p, a, b, c⟩ := id hd
  obtain ⟨q, a', b', c'⟩ := id he
  have key := eqv_pu d e p q pd pe a a'
  have ok := Sh.okEq a a' hd he hm
  have e1 : toPyS S d = some p := by cases d <;> first | exact a | cases pd
  have e2 : toPyS S e = some q := by cases e <;> first | exact a' | cases pe
  have gen : ∀ b : Bool, (b = true ↔ d = e) → b = decide (d = e) := fun b h => by
    rw [Bool.eq_iff_iff, h, decide_eq_true_eq]
  unfold eqD
  split
  · congr 1; exact gen _ (by simp)
  · congr 1; exact gen _ (by simp)
  · cases pd
  · congr 1; exact gen _ (by simp)
  all_goals first
    | (congr 1; exact gen _ (by simp); done)
    | skip
  simp only [e1, e2, ok, if_true]
  congr 1
  exact gen _ key
open Classical in
theorem gEq_pu {m m' : Nat} {d e : D} (hd : Sh m d) (he : Sh m' e) (hm : min m m' ≤ 480) (pd : d.pu = true) (pe : e.pu = true) : wp (gEq d e S) F E ↔ F (.bl (decide (d = e))) S := by
  unfold gEq; rw [eqD_pu hd he hm pd pe]; exact Iff.rfl
open Classical in
theorem gNe_pu {m m' : Nat} {d e : D} (hd : Sh m d) (he : Sh m' e) (hm : min m m' ≤ 480) (pd : d.pu = true) (pe : e.pu = true) : wp (gNe d e S) F E ↔ F (.bl (!decide (d = e))) S := by
  unfold gNe; rw [eqD_pu hd he hm pd pe]; exact Iff.rfl
theorem eqV_pu {d x : D} {w v : V} (pd : d.pu = true) (px : x.pu = true) (h1 : flatD d = some w) (h2 : flatD x = some v) : eqV w v = true ↔ d = x := by
  cases d <;> cases x <;> first
    | (cases pd; done)
    | (cases px; done)
    | (cases h1; done)
    | (cases h2; done)
    | (cases h1; cases h2; simp [eqV])
open Classical in
theorem inV_pu {x : D} {v : V} (px : x.pu = true) (h2 : flatD x = some v) : ∀ {ds : List D} {vs : List V}, D.pus ds = true → flatDs ds = some vs → inV v vs = decide (x ∈ ds)
  | [], _, _, h => by cases h; simp [inV]
  | d :: ds, vs, pd, h => by
    have pd' : (d.pu && D.pus ds) = true := pd
    rw [Bool.and_eq_true] at pd'
    unfold flatDs at h
    split at h
    · rename_i w ws e1 e2
      cases h
      have ih := inV_pu px h2 pd'.2 e2
      have k := eqV_pu pd'.1 px e1 h2
      show (eqV w v || inV v ws) = _
      rw [ih, Bool.eq_iff_iff, Bool.or_eq_true, k, decide_eq_true_eq, decide_eq_true_eq, List.mem_cons]
      constructor
      · rintro (rfl | h)
        · exact .inl rfl
        · exact .inr h
      · rintro (rfl | h)
        · exact .inl rfl
        · exact .inr h
    · cases h
open Classical in
theorem anyPy_pu {x : D} {p : PyData} (px : x.pu = true) (h2 : toPy x = some p) : ∀ {ds : List D} {ps : List PyData}, D.pus ds = true → toPys ds = some ps → (ps.any fun z => PyData.eqv z p) = decide (x ∈ ds)
  | [], _, _, h => by cases h; simp
  | d :: ds, vs, pd, h => by
    have pd' : (d.pu && D.pus ds) = true := pd
    rw [Bool.and_eq_true] at pd'
    unfold toPys at h
    split at h
    · rename_i w ws e1 e2
      cases h
      have ih := anyPy_pu px h2 pd'.2 e2
      have k := eqv_pu d x w p pd'.1 px e1 h2
      show (PyData.eqv w p || ws.any fun z => PyData.eqv z p) = _
      rw [ih, Bool.eq_iff_iff, Bool.or_eq_true, k, decide_eq_true_eq, decide_eq_true_eq, List.mem_cons]
      constructor
      · rintro (rfl | h)
        · exact .inl rfl
        · exact .inr h
      · rintro (rfl | h)
        · exact .inl rfl
        · exact .inr h
    · cases h
open Classical in
theorem inD_pu {m m' : Nat} {x y : D} {ds : List D} (hy : y = .tup ds ∨ y = .lst ds) (hx : Sh m x) (hd : ∀ d ∈ ds, Sh m' d) (hm : min m m' ≤ 480) (px : x.pu = true) (pd : ∀ d ∈ ds, d.pu = true) : inD S x y = some (decide (x ∈ ds)) := by
  obtain ⟨p, a, b, c⟩ := id hx
  obtain ⟨ps, a', b', c'⟩ := sh_list hd
  have e1 : toPyS S x = some p := by cases x <;> first | exact a | cases px
  have ei : iLst S y = some ds := by rcases hy with rfl | rfl <;> rfl
  have e2 : ∃ k, itemsPy S y = some (k, ps) := by
    rcases hy with rfl | rfl
    · exact ⟨_, by show (toPys ds).map _ = _; rw [a']; rfl⟩
    · exact ⟨_, by show (toPys ds).map _ = _; rw [a']; rfl⟩
  obtain ⟨k, e2⟩ := e2
  have ok : okIn ps p = true := by
    unfold okIn
    rw [b, b', decide_eq_true (by omega)]; rfl
  unfold inD
  split
  · rcases hy with h | h <;> cases h
  · rw [ei, Option.bind_some]
    split
    · rename_i v vs h1 h2
      rw [inV_pu px h1 (pus_iff.mpr pd) h2]
    · simp only [e1, e2, ok, if_true]
      rw [anyPy_pu px a (pus_iff.mpr pd) a']
open Classical in
theorem gIn_pu {m m' : Nat} {x y : D} {ds : List D} (hy : y = .tup ds ∨ y = .lst ds) (hx : Sh m x) (hd : ∀ d ∈ ds, Sh m' d) (hm : min m m' ≤ 480) (px : x.pu = true) (pd : ∀ d ∈ ds, d.pu = true) : wp (gIn x y S) F E ↔ F (.bl (decide (x ∈ ds))) S := by
  unfold gIn; rw [inD_pu hy hx hd hm px pd]; exact Iff.rfl
open Classical in
theorem gNotIn_pu {m m' : Nat} {x y : D} {ds : List D} (hy : y = .tup ds ∨ y = .lst ds) (hx : Sh m x) (hd : ∀ d ∈ ds, Sh m' d) (hm : min m m' ≤ 480) (px : x.pu = true) (pd : ∀ d ∈ ds, d.pu = true) : wp (gNotIn x y S) F E ↔ F (.bl (!decide (x ∈ ds))) S := by
  unfold gNotIn; rw [inD_pu hy hx hd hm px pd]; exact Iff.rfl
end
section
variable {ρ : Rho} {S : Sto} {F : D → Sto → Prop} {E : Exc → Sto → Prop}
theorem at_endL {A : Sto} {m : List D} : atL (A ++ [.lst m]) A.length = some m := by unfold atL; simp
theorem get_endL {A : Sto} {m : List D} : (A ++ [.lst m])[A.length]? = some (.lst m) := by simp
theorem set_endL {A : Sto} {x y : MO} : (A ++ [x]).set A.length y = A ++ [y] := by
  rw [List.set_append_right _ _ (Nat.le_refl _), Nat.sub_self]; rfl
theorem gSl_refD {n : Nat} {ds : List D} {lo hi : Option Int} (h : atL S n = some ds) : wp (gSl false (.ref n) lo hi S) F E ↔ F (.lst (cutD ds lo hi)) S := by
  unfold gSl
  simp only [show iSeq S (.ref n) = some ds from h]
  exact Iff.rfl
theorem srcL_refD {n : Nat} {ds : List D} {FI : Option Nat × List D → Sto → Prop} {E : Exc → Sto → Prop} (h : atL S n = some ds) : wp (srcL (.ref n) S) FI E ↔ FI (some n, ds) S := by
  unfold srcL
  simp only [h]
  exact Iff.rfl
theorem gLen_refD {n : Nat} {ds : List D} (h : atL S n = some ds) : wp (gLen [.ref n] S) F E ↔ F (.int ds.length) S := gLen_seq h
/-- a comprehension without draws that makes one thing of each -/
theorem comp_oneS {α : Type} {src : Option Nat} {all : List α} {en : α → D} {i : Nat} {el : EvD} {FF : List D → Sto → Prop} (g : α → D) (hl : liveOk src (all.map en) S) (h : ∀ a ∈ all, ∀ {F E}, F (g a) S → wp (el (ρ.set i (some (en a))) S) F E) (hF : FF (all.map g) S) :
    wp (compM src (all.map en) (gN i) bYes el ρ (all.map en) S) FF nx := by
  refine wp_compM (fun k ys S' => S' = S ∧ ys = (all.take k).map g) (fun _ _ _ hI => hI.1 ▸ hl) (fun k d ys S' hd hk => ?_) (fun ys S' hk => ?_) ⟨rfl, rfl⟩
  · obtain ⟨rfl, rfl⟩ := hk
    rw [List.getElem?_map, Option.map_eq_some_iff] at hd
    obtain ⟨a, ha, rfl⟩ := hd
    refine ⟨_, rfl, ?_⟩
    rw [wp_bYes, if_pos rfl]
    refine h a (List.mem_of_getElem? ha) ⟨rfl, ?_⟩
    rw [List.take_succ, ha]; simp
  · obtain ⟨rfl, rfl⟩ := hk
    rw [List.length_map, List.take_length]; exact hF
theorem oks_app {A B : Sto} (h : OKS A) (hB : ∀ o ∈ B, o.lo 0 = true) : OKS (A ++ B) := by
  unfold OKS at h ⊢
  rw [List.all_append, Bool.and_eq_true]
  constructor
  · rw [List.all_eq_true] at h ⊢
    exact fun o ho => MO.lo_mono (by simp) _ (h o ho)
  · rw [List.all_eq_true]
    exact fun o ho => MO.lo_mono (Nat.zero_le _) _ (hB o ho)
theorem fin_cutO {A : Sto} {d : D} {S : Sto} (hS : OKS S) (hA : A.take S.length = S) (hd : tr d) (hF : F d S) : wp (finD false S.length d A) F E := by
  refine wp_fin (by rw [hA]; exact hS) (D.lo_mono (Nat.zero_le _) _ hd) ?_
  rw [hA]; exact hF
theorem sh_lst {m : Nat} {ds : List D} (h : ∀ d ∈ ds, Sh m d) : Sh (m + 1) (.lst ds) := by
  obtain ⟨ps, a, b, c⟩ := sh_list h
  exact ⟨.list ps, by simp only [toPy, a, Option.map_some], by simp only [PyData.canLay0, b], by simp only [PyData.depth]; omega⟩
theorem count_cast (k : Nat) : ∀ l : List Nat, (l.map fun (p : Nat) => (p : Int)).count (k : Int) = l.count k
  | [] => rfl
  | a :: l => by
    rw [List.map_cons, List.count_cons, List.count_cons, count_cast k l]
    by_cases h : a = k
    · simp [h]
    · have h2 : ¬ ((a : Int) = (k : Int)) := by omega
      simp [h, h2]
end
end DL

namespace K61
open PySem L2 PyProof.Rows DL
abbrev i_is_shuffle : Nat := 0
abbrev i_taken_left : Nat := 1
abbrev i_least_map : Nat := 2
abbrev i_map_with : Nat := 3
abbrev i_whole_map : Nat := 4
abbrev i_map_of : Nat := 5
abbrev i_need_of : Nat := 6
abbrev i_parting : Nat := 7
abbrev i_said : Nat := 8
abbrev i_turned_back : Nat := 9
abbrev i_shorter : Nat := 10
abbrev i_are_shuffles_alike : Nat := 11
abbrev i_parted_on : Nat := 12
abbrev i_of_shuffles : Nat := 13
abbrev i_alike : Nat := 14
abbrev i_l_deck : Nat := 15
abbrev i_l_draw : Nat := 16
abbrev i_l_shuffle : Nat := 17
abbrev i_l_parts : Nat := 18
abbrev i_l_is_shuffle : Nat := 19
abbrev i_l_map : Nat := 20
abbrev i_l_map_word : Nat := 21
abbrev i_l_push : Nat := 22
abbrev i_l_inner : Nat := 23
abbrev i_l_takes : Nat := 24
abbrev i_l_made : Nat := 25
abbrev i_l_by_maps : Nat := 26
abbrev i_l_by_dips : Nat := 27
abbrev i_l_is_entered : Nat := 28
abbrev i_l_put : Nat := 29
abbrev i_l_is_by : Nat := 30
abbrev i_l_turned_by : Nat := 31
abbrev i_l_leads : Nat := 32
abbrev i_l_shuffles : Nat := 33
abbrev i_l_other : Nat := 34
abbrev i_l_end : Nat := 35
abbrev i_l_right : Nat := 36
abbrev i_law : Nat := 37
def k_LETTERS : D := (.str "abcdefgh")
def k_MOST_LEFT_shuffles : D := (.int 12)
noncomputable def b_is_shuffle (fu : Nat) (C : Nat → List D → M D) : EvS :=
 (sSeq (sIf (bNot (eT (eIsi "str" (eVar 0)))) (sRet (eC (.bl false))) sNil)
 (sSeq (sAsg (gN 1) (eMeth "str" (gSplit false) (eVar 0) (aCons (eC (.str "-")) aNil)))
 (sSeq (sIf (bOr (eTb (eBin gNe (eCall gLen (aCons (eVar 1) aNil)) (eC (.int 2)))) (bOr (eTb (eBin gGt (eCall gLen (aCons (eBin gIx (eVar 1) (eC (.int 1))) aNil)) (eC k_MOST_LEFT_shuffles))) (eTb (eBin gNe (eBin gIx (eVar 1) (eC (.int 0))) (eSl false (eC k_LETTERS) oNone (oSome (eCall gLen (aCons (eBin gIx (eVar 1) (eC (.int 0))) aNil)))))))) (sRet (eC (.bl false))) sNil)
 (sRet (eCall gAll (aCons (eComp (iIt (eBin gIx (eVar 1) (eC (.int 1)))) (gN 2) bYes (eBin gIn (eVar 2) (eBin gIx (eVar 1) (eC (.int 0)))) [2]) aNil))))))
noncomputable def b_taken_left (fu : Nat) (C : Nat → List D → M D) : EvS :=
 (sSeq (sAsg (gUl 2 (gNs 1 (gNs 2 gN0))) (eMeth "str" (gSplit false) (eVar 0) (aCons (eC (.str "-")) aNil)))
 (sRet (eTup (aCons (eCall gLen (aCons (eVar 1) aNil)) (aCons (eCall gTuple (aCons (eComp (iIt (eVar 2)) (gN 3) bYes (eMeth "str" gSIndex (eVar 1) (aCons (eVar 3) aNil)) [3]) aNil)) aNil)))))
noncomputable def b_least_map (fu : Nat) (C : Nat → List D → M D) : EvS :=
 (sSeq (sWhile fu (bAnd (eTb (eBin gGt (eVar 0) (eC (.int 0)))) (bAnd (eTb (eBin gNe (eVar 1) (eTup aNil))) (bAnd (eTb (eBin gEq (eBin gIx (eVar 1) (eC (.int 0))) (eC (.int 0)))) (eTb (eBin gNotIn (eC (.int 0)) (eSl false (eVar 1) (oSome (eC (.int 1))) oNone)))))) (sSeq (sAugI 0 (fun i j => i - j) (eC (.int 1)))
 (sAsg (gN 1) (eCall gTuple (aCons (eComp (iIt (eSl false (eVar 1) (oSome (eC (.int 1))) oNone)) (gN 2) bYes (eBin gSub (eVar 2) (eC (.int 1))) [2]) aNil)))))
 (sRet (eTup (aCons (eVar 0) (aCons (eVar 1) aNil)))))
noncomputable def b_map_with (fu : Nat) (C : Nat → List D → M D) : EvS :=
 (sSeq (sAsg (gTp 2 (gNs 5 (gNs 6 gN0))) (eCall (cl 1 (C i_taken_left)) (aCons (eVar 2) aNil)))
 (sSeq (sAsg (gN 3) (eBin gSub (eVar 5) (eCall gLen (aCons (eVar 1) aNil))))
 (sSeq (sIf (eTb (eBin gGt (eVar 3) (eC (.int 0)))) (sSeq (sAugI 0 (fun i j => i + j) (eVar 3))
 (sAsg (gN 1) (eBin gAdd (eUn (fun x => gTupR [x]) (eVar 3)) (eCall gTuple (aCons (eComp (iIt (eVar 1)) (gN 7) bYes (eBin gAdd (eVar 7) (eVar 3)) [7]) aNil))))) sNil)
 (sSeq (sAsg (gN 4) (eBin gSub (eCall gLen (aCons (eVar 1) aNil)) (eVar 5)))
 (sRet (eTup (aCons (eVar 0) (aCons (eBin gAdd (eSl false (eVar 1) oNone (oSome (eVar 4))) (eCall gTuple (aCons (eComp (iIt (eVar 6)) (gN 8) bYes (eBin gIx (eVar 1) (eBin gAdd (eVar 4) (eVar 8))) [8]) aNil))) aNil))))))))
noncomputable def b_whole_map (fu : Nat) (C : Nat → List D → M D) : EvS :=
 (sSeq (sAsg (gN 1) (eC (.int 0)))
 (sSeq (sAsg (gN 2) (eTup aNil))
 (sSeq (sFor (iIt (eVar 0)) (gN 3) (sSeq (sIf (bNot (eT (eCall (cl 1 (C i_is_shuffle)) (aCons (eVar 3) aNil)))) (sRaise "NoShuffle" (eC (.str "a word that is no shuffle"))) sNil)
 (sAsg (gTp 2 (gNs 1 (gNs 2 gN0))) (eCall (cl 3 (C i_map_with)) (aCons (eVar 1) (aCons (eVar 2) (aCons (eVar 3) aNil)))))))
 (sRet (eTup (aCons (eVar 1) (aCons (eVar 2) aNil)))))))
noncomputable def b_map_of (fu : Nat) (C : Nat → List D → M D) : EvS :=
 (sSeq (sAsg (gTp 2 (gNs 1 (gNs 2 gN0))) (eCall (cl 1 (C i_whole_map)) (aCons (eVar 0) aNil)))
 (sRet (eCall (cl 2 (C i_least_map)) (aCons (eVar 1) (aCons (eVar 2) aNil)))))
noncomputable def b_need_of (fu : Nat) (C : Nat → List D → M D) : EvS :=
 (sRet (eBin gIx (eCall (cl 1 (C i_whole_map)) (aCons (eVar 0) aNil)) (eC (.int 0))))
noncomputable def b_parting (fu : Nat) (C : Nat → List D → M D) : EvS :=
 (sSeq (sAsg (gN 2) (eCall gMax2 (aCons (eCall (cl 1 (C i_need_of)) (aCons (eVar 0) aNil)) (aCons (eCall (cl 1 (C i_need_of)) (aCons (eVar 1) aNil)) aNil))))
 (sSeq (sIf (eTb (eBin gEq (eCall (cl 1 (C i_map_of)) (aCons (eVar 0) aNil)) (eCall (cl 1 (C i_map_of)) (aCons (eVar 1) aNil)))) (sRet (eC .non)) sNil)
 (sRet (eCall gTuple (aCons (eComp (iRange1 (aCons (eVar 2) aNil)) (gN 3) bYes (eTup (aCons (eC (.str "number")) (aCons (eVar 3) aNil))) [3]) aNil)))))
noncomputable def b_said (fu : Nat) (C : Nat → List D → M D) : EvS :=
 (sSeq (sIf (eTb (eBin gIs (eVar 0) (eC .non))) (sRet (eTup aNil)) sNil)
 (sRet (eVar 0)))
noncomputable def b_are_shuffles_alike (fu : Nat) (C : Nat → List D → M D) : EvS :=
 (sRet (eCall gAll (aCons (eComp (iIt (eVar 0)) (gN 1) bYes (eCall (cl 1 (C i_is_shuffle)) (aCons (eVar 1) aNil)) [1]) aNil)))
noncomputable def b_of_shuffles (fu : Nat) (C : Nat → List D → M D) : EvS :=
 (sSeq (sAsg (gN 2) (eCall (cl 2 (C i_parting)) (aCons (eVar 0) (aCons (eVar 1) aNil))))
 (sSeq (sIf (eTb (eBin gIsNot (eVar 2) (eC .non))) (sRet (eTup (aCons (eC (.str "parted")) (aCons (eVar 2) aNil)))) sNil)
 (sRet (eTup (aCons (eC (.str "alike")) (aCons (eTup (aCons (eTup (aCons (eTup (aCons (eC (.int 0)) aNil)) (aCons (eCall gLen (aCons (eVar 0) aNil)) (aCons (eC (.str "mapped")) (aCons (eVar 1) aNil))))) aNil)) aNil))))))
noncomputable def b_alike (fu : Nat) (C : Nat → List D → M D) : EvS :=
 (sSeq (sAsg (gN 2) (eCall (cl 1 (C i_said)) (aCons (eVar 2) aNil)))
 (sSeq (sIf (bAnd (eT (eCall (cl 1 (C i_are_shuffles_alike)) (aCons (eVar 0) aNil))) (eT (eCall (cl 1 (C i_are_shuffles_alike)) (aCons (eVar 1) aNil)))) (sRet (eCall (cl 2 (C i_of_shuffles)) (aCons (eVar 0) (aCons (eVar 1) aNil)))) sNil)
 (sSeq (sAsg (gTp 2 (gNs 4 (gNs 5 gN0))) (eCall (cl 2 (C i_shorter)) (aCons (eVar 0) (aCons (eVar 2) aNil))))
 (sSeq (sAsg (gTp 2 (gNs 6 (gNs 7 gN0))) (eCall (cl 2 (C i_shorter)) (aCons (eVar 1) (aCons (eVar 2) aNil))))
 (sSeq (sIf (bAnd (eTb (eBin gNe (eVar 4) (eVar 6))) (bAnd (eT (eCall (cl 1 (C i_are_shuffles_alike)) (aCons (eVar 4) aNil))) (bAnd (eT (eCall (cl 1 (C i_are_shuffles_alike)) (aCons (eVar 6) aNil))) (eTb (eBin gEq (eCall (cl 1 (C i_map_of)) (aCons (eVar 4) aNil)) (eCall (cl 1 (C i_map_of)) (aCons (eVar 6) aNil))))))) (sSeq (sAsg (gN 5) (eBin gAdd (eVar 5) (eTup (aCons (eTup (aCons (eTup (aCons (eC (.int 0)) aNil)) (aCons (eCall gLen (aCons (eVar 4) aNil)) (aCons (eC (.str "mapped")) (aCons (eVar 6) aNil))))) aNil))))
 (sAsg (gN 4) (eVar 6))) sNil)
 (sSeq (sIf (eTb (eBin gEq (eVar 4) (eVar 6))) (sRet (eTup (aCons (eC (.str "alike")) (aCons (eBin gAdd (eVar 5) (eCall (cl 3 (C i_turned_back)) (aCons (eVar 1) (aCons (eVar 7) (aCons (eVar 2) aNil))))) aNil)))) sNil)
 (sSeq (sAsg (gN 3) (eCall (cl 3 (C i_parted_on)) (aCons (eVar 0) (aCons (eVar 1) (aCons (eVar 2) aNil)))))
 (sSeq (sIf (eTb (eBin gIs (eVar 3) (eC .non))) (sRet (eTup (aCons (eC (.str "open")) aNil))) sNil)
 (sRet (eTup (aCons (eC (.str "parted")) (aCons (eVar 3) aNil))))))))))))
noncomputable def b_l_deck (fu : Nat) (C : Nat → List D → M D) : EvS :=
 (sRet (eLstM (aCons (eCall gListM (aCons (eSl false (eVar 0) oNone (oSome (eC (.int 63)))) aNil)) (aCons (eC (.int 0)) (aCons (eCall gSum (aCons (eComp (iIt (eSl false (eVar 0) oNone (oSome (eC (.int 63))))) (gN 1) bYes (eBin gMod (eVar 1) (eC (.int 1000003))) [1]) aNil)) aNil)))))
noncomputable def b_l_draw (fu : Nat) (C : Nat → List D → M D) : EvS :=
 (sSeq (sSub (eBin gAdd (eBin gIx (eVar 0) (eC (.int 1))) (eC (.int 1))) (eVar 0) (eC (.int 1)))
 (sSeq (sAsg (gN 2) (eBin gAdd (eBin gIx (eVar 0) (eC (.int 2))) (eBin gMul (eC (.int 104729)) (eBin gIx (eVar 0) (eC (.int 1))))))
 (sSeq (sIf (eTb (eBin gNe (eBin gIx (eVar 0) (eC (.int 0))) (eLst aNil))) (sSeq (sAsg (gN 2) (eMeth "list" gPop (eBin gIx (eVar 0) (eC (.int 0))) (aCons (eC (.int 0)) aNil)))
 (sIf (eTb (eBin gGe (eVar 2) (eBin gPow (eC (.int 10)) (eC (.int 18))))) (sSeq (sExpr (eMeth "list" gInsert (eBin gIx (eVar 0) (eC (.int 0))) (aCons (eC (.int 0)) (aCons (eBin gDiv (eVar 2) (eVar 1)) aNil))))
 (sRet (eBin gMod (eVar 2) (eVar 1)))) sNil)) sNil)
 (sSeq (sAsg (gN 3) (eBin gMod (eBin gMul (eBin gAdd (eBin gMod (eVar 2) (eC (.int 2147483629))) (eBin gMul (eC (.int 7919)) (eBin gIx (eVar 0) (eC (.int 1))))) (eC (.int 48271))) (eC (.int 2147483647))))
 (sSeq (sAsg (gN 3) (eBin gMod (eBin gAdd (eBin gAdd (eBin gMul (eVar 3) (eVar 3)) (eBin gMul (eC (.int 69621)) (eVar 3))) (eBin gIx (eVar 0) (eC (.int 1)))) (eC (.int 2147483587))))
 (sRet (eBin gMod (eBin gDiv (eVar 3) (eC (.int 64))) (eVar 1))))))))
noncomputable def b_l_shuffle (fu : Nat) (C : Nat → List D → M D) : EvS :=
 (sSeq (sAsg (gN 2) (eBin gIx (eLst (aCons (eCall (cl 2 (C i_l_draw)) (aCons (eVar 0) (aCons (eC (.int 4)) aNil))) (aCons (eCall (cl 2 (C i_l_draw)) (aCons (eVar 0) (aCons (eC (.int 9)) aNil))) aNil))) (eCall gInt (aCons (eBin gEq (eCall (cl 2 (C i_l_draw)) (aCons (eVar 0) (aCons (eC (.int 8)) aNil))) (eC (.int 1))) aNil))))
 (sSeq (sAsg (gN 3) (eC (.str "")))
 (sSeq (sIf (eTb (eBin gGt (eVar 2) (eC (.int 0)))) (sFor (iRange1 (aCons (eCall (cl 2 (C i_l_draw)) (aCons (eVar 0) (aCons (eVar 1) aNil))) aNil)) (gN 4) (sAsg (gN 3) (eBin gAdd (eVar 3) (eBin gIx (eC (.str "abcdefgh")) (eCall (cl 2 (C i_l_draw)) (aCons (eVar 0) (aCons (eVar 2) aNil))))))) sNil)
 (sRet (eBin gAdd (eBin gAdd (eSl false (eC (.str "abcdefgh")) oNone (oSome (eVar 2))) (eC (.str "-"))) (eVar 3))))))
noncomputable def b_l_parts (fu : Nat) (C : Nat → List D → M D) : EvS :=
 (sSeq (sAsg (gUl 2 (gNs 1 (gNs 2 gN0))) (eMeth "str" (gSplit false) (eVar 0) (aCons (eC (.str "-")) aNil)))
 (sRet (eTup (aCons (eCall gLen (aCons (eVar 1) aNil)) (aCons (eComp (iIt (eVar 2)) (gN 3) bYes (eMeth "str" gSIndex (eVar 1) (aCons (eVar 3) aNil)) [3]) aNil)))))
noncomputable def b_l_is_shuffle (fu : Nat) (C : Nat → List D → M D) : EvS :=
 (sRet (eAnd (eIsi "str" (eVar 0)) (eBin gIn (eC (.str "-")) (eVar 0))))
noncomputable def b_l_map (fu : Nat) (C : Nat → List D → M D) : EvS :=
 (sSeq (sAsg (gN 1) (eLstM aNil))
 (sSeq (sAsg (gN 2) (eC (.int 0)))
 (sSeq (sFor (iIt (eVar 0)) (gN 3) (sSeq (sAsg (gTp 2 (gNs 6 (gNs 4 gN0))) (eCall (cl 1 (C i_l_parts)) (aCons (eVar 3) aNil)))
 (sSeq (sWhile fu (eTb (eBin gLt (eCall gLen (aCons (eVar 1) aNil)) (eVar 6))) (sSeq (sAsg (gN 2) (eBin gAdd (eVar 2) (eC (.int 1))))
 (sExpr (eMeth "list" gInsert (eVar 1) (aCons (eC (.int 0)) (aCons (eBin gSub (eC (.int 0)) (eVar 2)) aNil))))))
 (sSeq (sAsg (gN 5) (eSl false (eVar 1) (oSome (eBin gSub (eCall gLen (aCons (eVar 1) aNil)) (eVar 6))) oNone))
 (sAsg (gN 1) (eBin gAddM (eSl false (eVar 1) oNone (oSome (eBin gSub (eCall gLen (aCons (eVar 1) aNil)) (eVar 6)))) (eComp (iIt (eVar 4)) (gN 8) bYes (eBin gIx (eVar 5) (eVar 8)) [8])))))))
 (sSeq (sAsg (gN 4) (eComp (iIt (eVar 1)) (gN 7) bYes (eBin gAdd (eVar 2) (eVar 7)) [7]))
 (sSeq (sWhile fu (bAnd (eTb (eBin gEq (eSl false (eVar 4) oNone (oSome (eC (.int 1)))) (eLst (aCons (eC (.int 0)) aNil)))) (eTb (eBin gEq (eMeth "list" gCount (eVar 4) (aCons (eC (.int 0)) aNil)) (eC (.int 1))))) (sSeq (sAsg (gN 2) (eBin gSub (eVar 2) (eC (.int 1))))
 (sAsg (gN 4) (eComp (iIt (eSl false (eVar 4) (oSome (eC (.int 1))) oNone)) (gN 7) bYes (eBin gSub (eVar 7) (eC (.int 1))) [7]))))
 (sRet (eTup (aCons (eVar 2) (aCons (eVar 4) aNil)))))))))
noncomputable def b_l_map_word (fu : Nat) (C : Nat → List D → M D) : EvS :=
 (sSeq (sIf (bOr (eTb (eBin gGt (eVar 0) (eC (.int 8)))) (eTb (eBin gGt (eCall gLen (aCons (eVar 1) aNil)) (eC (.int 12))))) (sRet (eC .non)) sNil)
 (sRet (eBin gAdd (eBin gAdd (eSl false (eC (.str "abcdefgh")) oNone (oSome (eVar 0))) (eC (.str "-"))) (eMeth "str" gJoin (eC (.str "")) (aCons (eComp (iIt (eVar 1)) (gN 2) bYes (eBin gIx (eC (.str "abcdefgh")) (eVar 2)) [2]) aNil)))))
noncomputable def b_l_put (fu : Nat) (C : Nat → List D → M D) : EvS :=
 (sSeq (sAsg (gN 4) (eBin gIx (eVar 1) (eC (.int 0))))
 (sSeq (sIf (eTb (eBin gEq (eCall gLen (aCons (eVar 1) aNil)) (eC (.int 1)))) (sRet (eBin gAdd (eBin gAdd (eSl false (eVar 0) oNone (oSome (eVar 4))) (eVar 3)) (eSl false (eVar 0) (oSome (eBin gAdd (eVar 4) (eVar 2))) oNone))) sNil)
 (sSeq (sAsg (gN 5) (eCall (cl 4 (C i_l_put)) (aCons (eCall (cl 1 (C i_l_inner)) (aCons (eBin gIx (eVar 0) (eVar 4)) aNil)) (aCons (eSl false (eVar 1) (oSome (eC (.int 1))) oNone) (aCons (eVar 2) (aCons (eVar 3) aNil))))))
 (sRet (eBin gAdd (eBin gAdd (eSl false (eVar 0) oNone (oSome (eVar 4))) (eTup (aCons (eCall (cl 1 (C i_l_push)) (aCons (eVar 5) aNil)) aNil))) (eSl false (eVar 0) (oSome (eBin gAdd (eVar 4) (eC (.int 1)))) oNone))))))
noncomputable def b_l_is_by (fu : Nat) (C : Nat → List D → M D) : EvS :=
 (sSeq (sIf (eTb (eBin gEq (eVar 0) (eC (.str "mapped")))) (sSeq (sAsg (gN 5) (eComp (iIt (eBin gAdd (eVar 1) (eVar 2))) (gN 9) (bNot (eT (eCall (cl 1 (C i_l_is_shuffle)) (aCons (eVar 9) aNil)))) (eVar 9) [9]))
 (sRet (eAnd (eBin gEq (eVar 5) (eLst aNil)) (eBin gEq (eCall (cl 1 (C i_l_map)) (aCons (eVar 1) aNil)) (eCall (cl 1 (C i_l_map)) (aCons (eVar 2) aNil)))))) sNil)
 (sSeq (sIf (eTb (eBin gEq (eVar 1) (eTup aNil))) (sRet (eC (.bl false))) sNil)
 (sSeq (sIf (eTb (eBin gEq (eVar 0) (eC (.str "stepped")))) (sSeq (sAsg (gN 6) (eUn gNeg (eC (.int 1))))
 (sSeq (sIf (bAnd (eT (eIsi "str" (eBin gIx (eVar 1) (eUn gNeg (eC (.int 1)))))) (eTb (eBin gEq (eComp (iIt (eSl false (eVar 1) oNone (oSome (eUn gNeg (eC (.int 1)))))) (gN 9) (eT (eIsi "str" (eVar 9))) (eVar 9) [9]) (eLst aNil)))) (sAsg (gN 6) (eCall (cl 2 (C i_l_takes)) (aCons (eBin gIx (eVar 1) (eUn gNeg (eC (.int 1)))) (aCons (eVar 3) aNil)))) sNil)
 (sSeq (sAsg (gN 7) (eBin gSub (eBin gSub (eCall gLen (aCons (eVar 1) aNil)) (eC (.int 1))) (eVar 6)))
 (sSeq (sIf (bOr (eTb (eBin gLt (eVar 6) (eC (.int 0)))) (eTb (eBin gLt (eVar 7) (eC (.int 0))))) (sRet (eC (.bl false))) sNil)
 (sSeq (sAsg (gN 8) (eCall (cl 3 (C i_l_made)) (aCons (eBin gIx (eVar 1) (eUn gNeg (eC (.int 1)))) (aCons (eComp (iIt (eSl false (eVar 1) (oSome (eVar 7)) (oSome (eUn gNeg (eC (.int 1)))))) (gN 9) bYes (eBin gIx (eVar 9) (eC (.int 1))) [9]) (aCons (eVar 3) aNil)))))
 (sRet (eAnd (eBin gIsNot (eVar 8) (eC .non)) (eBin gEq (eVar 2) (eBin gAdd (eSl false (eVar 1) oNone (oSome (eVar 7))) (eVar 8)))))))))) sNil)
 (sSeq (sIf (bAnd (eTb (eBin gEq (eVar 0) (eC (.str "slid")))) (bAnd (eTb (eBin gEq (eCall gLen (aCons (eVar 2) aNil)) (eC (.int 1)))) (eT (eCall (cl 1 (C i_l_is_shuffle)) (aCons (eBin gIx (eVar 2) (eC (.int 0))) aNil))))) (sSeq (sAsg (gN 4) (eComp (iIt (eCall (cl 2 (C i_l_by_dips)) (aCons (eVar 1) (aCons (eC (.int 0)) aNil)))) (gN 10) (bAnd (eTb (eBin gEq (eBin gIx (eVar 10) (eC (.int 1))) (eVar 0))) (eTb (eBin gEq (eBin gIx (eVar 10) (eC (.int 0))) (eCall gLen (aCons (eVar 1) aNil))))) (eVar 10) [10]))
 (sRet (eAnd (eBin gNe (eVar 4) (eLst aNil)) (eBin gEq (eCall (cl 1 (C i_l_map)) (aCons (eBin gIx (eBin gIx (eVar 4) (eC (.int 0))) (eC (.int 2))) aNil)) (eCall (cl 1 (C i_l_map)) (aCons (eVar 2) aNil)))))) sNil)
 (sSeq (sAsg (gN 4) (eBin gAdd (eCall (cl 2 (C i_l_by_maps)) (aCons (eVar 1) (aCons (eC (.int 0)) aNil))) (eCall (cl 2 (C i_l_by_dips)) (aCons (eVar 1) (aCons (eC (.int 0)) aNil)))))
 (sRet (eBin gIn (eTup (aCons (eCall gLen (aCons (eVar 1) aNil)) (aCons (eVar 0) (aCons (eVar 2) aNil)))) (eVar 4))))))))
noncomputable def b_l_turned_by (fu : Nat) (C : Nat → List D → M D) : EvS :=
 (sSeq (sAsg (gTp 4 (gNs 6 (gNs 7 (gNs 8 (gNs 9 gN0))))) (eVar 1))
 (sSeq (sAsg (gN 3) (eVar 0))
 (sSeq (sFor (iIt (eSl false (eVar 6) oNone (oSome (eUn gNeg (eC (.int 1)))))) (gN 4) (sSeq (sIf (bOr (eTb (eBin gGe (eVar 4) (eCall gLen (aCons (eVar 3) aNil)))) (bNot (eT (eCall (cl 2 (C i_l_is_entered)) (aCons (eVar 3) (aCons (eVar 4) aNil)))))) (sRet (eC .non)) sNil)
 (sAsg (gN 3) (eCall (cl 1 (C i_l_inner)) (aCons (eBin gIx (eVar 3) (eVar 4)) aNil)))))
 (sSeq (sAsg (gN 5) (eSl false (eVar 3) (oSome (eBin gIx (eVar 6) (eUn gNeg (eC (.int 1))))) (oSome (eBin gAdd (eBin gIx (eVar 6) (eUn gNeg (eC (.int 1)))) (eVar 7)))))
 (sSeq (sIf (bOr (eTb (eBin gNe (eCall gLen (aCons (eVar 5) aNil)) (eVar 7))) (bAnd (bNot (eT (eCall (cl 4 (C i_l_is_by)) (aCons (eVar 8) (aCons (eVar 5) (aCons (eVar 9) (aCons (eVar 2) aNil))))))) (bNot (eT (eCall (cl 4 (C i_l_is_by)) (aCons (eVar 8) (aCons (eVar 9) (aCons (eVar 5) (aCons (eVar 2) aNil))))))))) (sRet (eC .non)) sNil)
 (sRet (eCall (cl 4 (C i_l_put)) (aCons (eVar 0) (aCons (eVar 6) (aCons (eVar 7) (aCons (eVar 9) aNil)))))))))))
noncomputable def b_l_leads (fu : Nat) (C : Nat → List D → M D) : EvS :=
 (sSeq (sFor (iIt (eVar 1)) (gN 4) (sIf (eTb (eBin gIsNot (eVar 0) (eC .non))) (sAsg (gN 0) (eCall (cl 3 (C i_l_turned_by)) (aCons (eVar 0) (aCons (eVar 4) (aCons (eVar 3) aNil))))) sNil))
 (sRet (eBin gEq (eVar 0) (eVar 2))))
noncomputable def b_l_shuffles (fu : Nat) (C : Nat → List D → M D) : EvS :=
 (sRet (eCall gTuple (aCons (eComp (iRange1 (aCons (eCall (cl 2 (C i_l_draw)) (aCons (eVar 0) (aCons (eBin gAdd (eVar 1) (eC (.int 1))) aNil))) aNil)) (gN 2) bYes (eCall (cl 2 (C i_l_shuffle)) (aCons (eVar 0) (aCons (eC (.int 5)) aNil))) [2]) aNil)))
noncomputable def b_l_other (fu : Nat) (C : Nat → List D → M D) : EvS :=
 (sSeq (sAsg (gN 2) (eCall (cl 2 (C i_l_draw)) (aCons (eVar 0) (aCons (eC (.int 6)) aNil))))
 (sSeq (sAsg (gN 3) (eCall (cl 2 (C i_l_draw)) (aCons (eVar 0) (aCons (eBin gAdd (eCall gLen (aCons (eVar 1) aNil)) (eC (.int 1))) aNil))))
 (sSeq (sIf (eTb (eBin gEq (eVar 2) (eC (.int 0)))) (sRet (eCall (cl 2 (C i_l_shuffles)) (aCons (eVar 0) (aCons (eC (.int 6)) aNil)))) sNil)
 (sSeq (sIf (eTb (eBin gEq (eVar 2) (eC (.int 1)))) (sRet (eBin gAdd (eSl false (eVar 1) oNone (oSome (eVar 3))) (eSl false (eVar 1) (oSome (eBin gAdd (eVar 3) (eC (.int 1)))) oNone))) sNil)
 (sSeq (sIf (eTb (eBin gEq (eVar 2) (eC (.int 2)))) (sRet (eBin gAdd (eBin gAdd (eSl false (eVar 1) oNone (oSome (eVar 3))) (eTup (aCons (eBin gIx (eLst (aCons (eC (.str "a-a")) (aCons (eC (.str "-")) (aCons (eC (.str "ab-ab")) (aCons (eC (.str "abc-abc")) aNil))))) (eCall (cl 2 (C i_l_draw)) (aCons (eVar 0) (aCons (eC (.int 4)) aNil)))) aNil))) (eSl false (eVar 1) (oSome (eVar 3)) oNone))) sNil)
 (sSeq (sIf (eTb (eBin gEq (eVar 2) (eC (.int 3)))) (sRet (eSlSt (eVar 1) oNone oNone (oSome (eUn gNeg (eC (.int 1)))))) sNil)
 (sSeq (sAsg (gTp 2 (gNs 5 (gNs 6 gN0))) (eCall (cl 1 (C i_l_map)) (aCons (eSl false (eVar 1) (oSome (eVar 3)) (oSome (eBin gAdd (eVar 3) (eC (.int 2))))) aNil)))
 (sSeq (sAsg (gN 4) (eCall (cl 2 (C i_l_map_word)) (aCons (eBin gSub (eBin gAdd (eVar 5) (eVar 2)) (eC (.int 4))) (aCons (eBin gAdd (eUn (fun x => gLstR false [x]) (eBin gSub (eVar 2) (eC (.int 4)))) (eComp (iIt (eVar 6)) (gN 7) bYes (eBin gSub (eBin gAdd (eVar 7) (eVar 2)) (eC (.int 4))) [7])) aNil))))
 (sSeq (sIf (eTb (eBin gIs (eVar 4) (eC .non))) (sRet (eBin gAdd (eVar 1) (eTup (aCons (eC (.str "ab-ba")) (aCons (eC (.str "ab-ba")) aNil))))) sNil)
 (sRet (eBin gAdd (eBin gAdd (eSl false (eVar 1) oNone (oSome (eVar 3))) (eTup (aCons (eVar 4) aNil))) (eSl false (eVar 1) (oSome (eBin gAdd (eVar 3) (eC (.int 2)))) oNone))))))))))))
noncomputable def b_l_end (fu : Nat) (C : Nat → List D → M D) : EvS :=
 (sSeq (sAsg (gN 1) (eCall gList (aCons (eVar 1) aNil)))
 (sSeq (sFor (iIt (eVar 0)) (gN 2) (sSeq (sAsg (gTp 2 (gNs 4 (gNs 5 gN0))) (eCall (cl 1 (C i_l_parts)) (aCons (eVar 2) aNil)))
 (sSeq (sIf (eTb (eBin gGt (eVar 4) (eCall gLen (aCons (eVar 1) aNil)))) (sRet (eC .non)) sNil)
 (sSeq (sAsg (gN 3) (eSl false (eVar 1) (oSome (eBin gSub (eCall gLen (aCons (eVar 1) aNil)) (eVar 4))) oNone))
 (sAsg (gN 1) (eBin gAdd (eSl false (eVar 1) oNone (oSome (eBin gSub (eCall gLen (aCons (eVar 1) aNil)) (eVar 4)))) (eComp (iIt (eVar 5)) (gN 6) bYes (eBin gIx (eVar 3) (eVar 6)) [6])))))))
 (sRet (eVar 1))))
noncomputable def b_l_right (fu : Nat) (C : Nat → List D → M D) : EvS :=
 (sSeq (sAsg (gN 2) (eCall (clN 2 (C i_alike)) (aCons (eVar 0) (aCons (eVar 1) aNil))))
 (sSeq (sIf (bOr (bNot (eT (eIsi "tuple" (eVar 2)))) (eTb (eBin gNe (eCall gLen (aCons (eVar 2) aNil)) (eC (.int 2))))) (sRet (eC (.bl false))) sNil)
 (sSeq (sIf (eTb (eBin gEq (eCall (cl 1 (C i_l_map)) (aCons (eVar 0) aNil)) (eCall (cl 1 (C i_l_map)) (aCons (eVar 1) aNil)))) (sRet (eAnd (eBin gEq (eBin gIx (eVar 2) (eC (.int 0))) (eC (.str "alike"))) (eCall (cl 4 (C i_l_leads)) (aCons (eVar 0) (aCons (eBin gIx (eVar 2) (eC (.int 1))) (aCons (eVar 1) (aCons eDNew aNil))))))) sNil)
 (sSeq (sIf (eTb (eBin gNe (eBin gIx (eVar 2) (eC (.int 0))) (eC (.str "parted")))) (sRet (eC (.bl false))) sNil)
 (sSeq (sAsg (gN 3) (eLst (aCons (eCall (cl 2 (C i_l_end)) (aCons (eVar 0) (aCons (eBin gIx (eVar 2) (eC (.int 1))) aNil))) (aCons (eCall (cl 2 (C i_l_end)) (aCons (eVar 1) (aCons (eBin gIx (eVar 2) (eC (.int 1))) aNil))) aNil))))
 (sRet (eAnd (eBin gNotIn (eC .non) (eVar 3)) (eBin gNe (eBin gIx (eVar 3) (eC (.int 0))) (eBin gIx (eVar 3) (eC (.int 1)))))))))))
noncomputable def b_law (fu : Nat) (C : Nat → List D → M D) : EvS :=
 (sSeq (sAsg (gN 1) (eCall (cl 1 (C i_l_deck)) (aCons (eVar 0) aNil)))
 (sSeq (sFor (iRange1 (aCons (eC (.int 3)) aNil)) (gN 2) (sSeq (sAsg (gN 3) (eCall (cl 2 (C i_l_shuffles)) (aCons (eVar 1) (aCons (eC (.int 6)) aNil))))
 (sSeq (sAsg (gN 4) (eCall (cl 2 (C i_l_other)) (aCons (eVar 1) (aCons (eVar 3) aNil))))
 (sIf (bOr (bNot (eT (eCall (cl 2 (C i_l_right)) (aCons (eVar 3) (aCons (eVar 4) aNil))))) (bNot (eT (eCall (cl 2 (C i_l_right)) (aCons (eVar 4) (aCons (eVar 3) aNil)))))) (sRet (eC (.bl false))) sNil))))
 (sRet (eC (.bl true)))))
noncomputable def den (fu : Nat) : Nat → Nat → List D → M D
  | 0, _ => fun _ => stuck
  | n + 1, i => match i with
    | 0 => runDef false 3 (b_is_shuffle fu (den fu n))
    | 1 => runDef false 4 (b_taken_left fu (den fu n))
    | 2 => runDef false 3 (b_least_map fu (den fu n))
    | 3 => runDef false 9 (b_map_with fu (den fu n))
    | 4 => runDef false 4 (b_whole_map fu (den fu n))
    | 5 => runDef false 3 (b_map_of fu (den fu n))
    | 6 => runDef false 1 (b_need_of fu (den fu n))
    | 7 => runDef false 4 (b_parting fu (den fu n))
    | 8 => runDef false 1 (b_said fu (den fu n))
    | 11 => runDef false 2 (b_are_shuffles_alike fu (den fu n))
    | 13 => runDef false 3 (b_of_shuffles fu (den fu n))
    | 14 => runDef false 8 (b_alike fu (den fu n))
    | 15 => runDef true 2 (b_l_deck fu (den fu n))
    | 16 => runDef false 4 (b_l_draw fu (den fu n))
    | 17 => runDef false 5 (b_l_shuffle fu (den fu n))
    | 18 => runDef false 4 (b_l_parts fu (den fu n))
    | 19 => runDef false 1 (b_l_is_shuffle fu (den fu n))
    | 20 => runDef false 9 (b_l_map fu (den fu n))
    | 21 => runDef false 3 (b_l_map_word fu (den fu n))
    | 29 => runDef false 6 (b_l_put fu (den fu n))
    | 30 => runDef false 11 (b_l_is_by fu (den fu n))
    | 31 => runDef false 10 (b_l_turned_by fu (den fu n))
    | 32 => runDef false 5 (b_l_leads fu (den fu n))
    | 33 => runDef false 3 (b_l_shuffles fu (den fu n))
    | 34 => runDef false 8 (b_l_other fu (den fu n))
    | 35 => runDef false 7 (b_l_end fu (den fu n))
    | 36 => runDef false 4 (b_l_right fu (den fu n))
    | 37 => runDef false 5 (b_law fu (den fu n))
    | _ => fun _ => stuck
end K61

namespace K61
open PySem L2 PyProof.Rows DL
def topS (i : Nat) : Stmt := PySem.Challenge.pw_takeleave_k61_shuffles_alike_or_parted.main.body.getD i (.Pass ⟨0, 0, 0, 0⟩)
abbrev s_is_shuffle : Stmt := topS 8
abbrev n_is_shuffle : List Str := ["thing", "parts", "sign"]
abbrev p_is_shuffle : List Str := ["thing"]
abbrev s_taken_left : Stmt := topS 9
abbrev n_taken_left : List Str := ["shuffle", "taken", "left", "sign"]
abbrev p_taken_left : List Str := ["shuffle"]
abbrev s_least_map : Stmt := topS 12
abbrev n_least_map : List Str := ["n", "picks", "pick"]
abbrev p_least_map : List Str := ["n", "picks"]
abbrev s_map_with : Stmt := topS 13
abbrev n_map_with : List Str := ["n", "picks", "word", "lacks", "kept", "takes", "left", "pick", "k"]
abbrev p_map_with : List Str := ["n", "picks", "word"]
abbrev s_whole_map : Stmt := topS 14
abbrev n_whole_map : List Str := ["row", "n", "picks", "word"]
abbrev p_whole_map : List Str := ["row"]
abbrev s_map_of : Stmt := topS 15
abbrev n_map_of : List Str := ["row", "n", "picks"]
abbrev p_map_of : List Str := ["row"]
abbrev s_need_of : Stmt := topS 16
abbrev n_need_of : List Str := ["row"]
abbrev p_need_of : List Str := ["row"]
abbrev s_parting : Stmt := topS 17
abbrev n_parting : List Str := ["one", "other", "many", "k"]
abbrev p_parting : List Str := ["one", "other"]
abbrev s_said : Stmt := topS 33
abbrev n_said : List Str := ["book"]
abbrev p_said : List Str := ["book"]
abbrev s_turned_back : Stmt := topS 78
abbrev n_turned_back : List Str := ["row", "paper", "book", "found", "place", "many", "rule", "new"]
abbrev p_turned_back : List Str := ["row", "paper", "book"]
abbrev s_shorter : Stmt := topS 97
abbrev n_shorter : List Str := ["row", "book", "paper", "turn"]
abbrev p_shorter : List Str := ["row", "book"]
abbrev s_are_shuffles_alike : Stmt := topS 105
abbrev n_are_shuffles_alike : List Str := ["row", "word"]
abbrev p_are_shuffles_alike : List Str := ["row"]
abbrev s_parted_on : Stmt := topS 110
abbrev n_parted_on : List Str := ["one", "other", "book", "stack", "here", "there"]
abbrev p_parted_on : List Str := ["one", "other", "book"]
abbrev s_of_shuffles : Stmt := topS 111
abbrev n_of_shuffles : List Str := ["one", "other", "stack"]
abbrev p_of_shuffles : List Str := ["one", "other"]
abbrev s_alike : Stmt := topS 112
abbrev n_alike : List Str := ["one", "other", "book", "stack", "here", "paper", "there", "back"]
abbrev p_alike : List Str := ["one", "other", "book"]
abbrev s_l_deck : Stmt := topS 114
abbrev n_l_deck : List Str := ["_law_script", "_law_cell"]
abbrev p_l_deck : List Str := ["_law_script"]
abbrev s_l_draw : Stmt := topS 115
abbrev n_l_draw : List Str := ["_law_deck_here", "_law_most", "_law_cell", "_law_number_here"]
abbrev p_l_draw : List Str := ["_law_deck_here", "_law_most"]
abbrev s_l_shuffle : Stmt := topS 117
abbrev n_l_shuffle : List Str := ["_law_deck_here", "_law_most", "_law_n", "_law_left", "_law_k"]
abbrev p_l_shuffle : List Str := ["_law_deck_here", "_law_most"]
abbrev s_l_parts : Stmt := topS 123
abbrev n_l_parts : List Str := ["_law_word_here", "_law_taken", "_law_left", "_law_sign"]
abbrev p_l_parts : List Str := ["_law_word_here"]
abbrev s_l_is_shuffle : Stmt := topS 124
abbrev n_l_is_shuffle : List Str := ["_law_word_here"]
abbrev p_l_is_shuffle : List Str := ["_law_word_here"]
abbrev s_l_map : Stmt := topS 125
abbrev n_l_map : List Str := ["_law_words", "_law_stack", "_law_needed", "_law_word_here", "_law_picks", "_law_top", "_law_many", "_law_one", "_law_k"]
abbrev p_l_map : List Str := ["_law_words"]
abbrev s_l_map_word : Stmt := topS 126
abbrev n_l_map_word : List Str := ["_law_needed", "_law_picks", "_law_k"]
abbrev p_l_map_word : List Str := ["_law_needed", "_law_picks"]
abbrev s_l_push : Stmt := topS 127
abbrev n_l_push : List Str := ["_law_row_here"]
abbrev p_l_push : List Str := ["_law_row_here"]
abbrev s_l_inner : Stmt := topS 128
abbrev n_l_inner : List Str := ["_law_word_here"]
abbrev p_l_inner : List Str := ["_law_word_here"]
abbrev s_l_takes : Stmt := topS 129
abbrev n_l_takes : List Str := ["_law_text", "_law_book", "_law_table", "_law_two"]
abbrev p_l_takes : List Str := ["_law_text", "_law_book"]
abbrev s_l_made : Stmt := topS 132
abbrev n_l_made : List Str := ["_law_text", "_law_things", "_law_book", "_law_kinds", "_law_values", "_law_more", "_law_thing_here", "_law_k"]
abbrev p_l_made : List Str := ["_law_text", "_law_things", "_law_book"]
abbrev s_l_by_maps : Stmt := topS 134
abbrev n_l_by_maps : List Str := ["_law_row_here", "_law_at", "_law_found", "_law_needed", "_law_picks"]
abbrev p_l_by_maps : List Str := ["_law_row_here", "_law_at"]
abbrev s_l_by_dips : Stmt := topS 135
abbrev n_l_by_dips : List Str := ["_law_row_here", "_law_at", "_law_inner_here", "_law_found", "_law_word_here", "_law_many", "_law_picks", "_law_needed", "_law_k"]
abbrev p_l_by_dips : List Str := ["_law_row_here", "_law_at"]
abbrev s_l_is_entered : Stmt := topS 136
abbrev n_l_is_entered : List Str := ["_law_row_here", "_law_k", "_law_words"]
abbrev p_l_is_entered : List Str := ["_law_row_here", "_law_k"]
abbrev s_l_put : Stmt := topS 138
abbrev n_l_put : List Str := ["_law_row_here", "_law_place", "_law_many", "_law_new", "_law_at", "_law_inner_here"]
abbrev p_l_put : List Str := ["_law_row_here", "_law_place", "_law_many", "_law_new"]
abbrev s_l_is_by : Stmt := topS 140
abbrev n_l_is_by : List Str := ["_law_rule", "_law_old", "_law_new", "_law_book", "_law_some", "_law_others", "_law_many", "_law_at", "_law_made_here", "_law_word_here", "_law_one"]
abbrev p_l_is_by : List Str := ["_law_rule", "_law_old", "_law_new", "_law_book"]
abbrev s_l_turned_by : Stmt := topS 141
abbrev n_l_turned_by : List Str := ["_law_row_here", "_law_turn", "_law_book", "_law_here", "_law_k", "_law_old", "_law_place", "_law_many", "_law_rule", "_law_new"]
abbrev p_l_turned_by : List Str := ["_law_row_here", "_law_turn", "_law_book"]
abbrev s_l_leads : Stmt := topS 142
abbrev n_l_leads : List Str := ["_law_row_here", "_law_paper", "_law_other_here", "_law_book", "_law_turn"]
abbrev p_l_leads : List Str := ["_law_row_here", "_law_paper", "_law_other_here", "_law_book"]
abbrev s_l_shuffles : Stmt := topS 143
abbrev n_l_shuffles : List Str := ["_law_deck_here", "_law_most", "_law_k"]
abbrev p_l_shuffles : List Str := ["_law_deck_here", "_law_most"]
abbrev s_l_other : Stmt := topS 144
abbrev n_l_other : List Str := ["_law_deck_here", "_law_row_here", "_law_way", "_law_at", "_law_word_here", "_law_needed", "_law_picks", "_law_k"]
abbrev p_l_other : List Str := ["_law_deck_here", "_law_row_here"]
abbrev s_l_end : Stmt := topS 145
abbrev n_l_end : List Str := ["_law_row_here", "_law_stack", "_law_word_here", "_law_top", "_law_many", "_law_picks", "_law_k"]
abbrev p_l_end : List Str := ["_law_row_here", "_law_stack"]
abbrev s_l_right : Stmt := topS 146
abbrev n_l_right : List Str := ["_law_one", "_law_other_here", "_law_told", "_law_ends"]
abbrev p_l_right : List Str := ["_law_one", "_law_other_here"]
abbrev s_law : Stmt := topS 147
abbrev n_law : List Str := ["_law_script", "_law_deck_here", "_law_turn", "_law_one", "_law_other_here"]
abbrev p_law : List Str := ["_law_script"]
structure Tx (K : PySem.W.Frag) (mg : Str → Option Value) where
  a_is_shuffle : Addr
  f_is_shuffle : FuncData
  d_is_shuffle : DefAt K mg "is_shuffle" s_is_shuffle p_is_shuffle a_is_shuffle f_is_shuffle
  a_taken_left : Addr
  f_taken_left : FuncData
  d_taken_left : DefAt K mg "taken_left" s_taken_left p_taken_left a_taken_left f_taken_left
  a_least_map : Addr
  f_least_map : FuncData
  d_least_map : DefAt K mg "least_map" s_least_map p_least_map a_least_map f_least_map
  a_map_with : Addr
  f_map_with : FuncData
  d_map_with : DefAt K mg "map_with" s_map_with p_map_with a_map_with f_map_with
  a_whole_map : Addr
  f_whole_map : FuncData
  d_whole_map : DefAt K mg "whole_map" s_whole_map p_whole_map a_whole_map f_whole_map
  a_map_of : Addr
  f_map_of : FuncData
  d_map_of : DefAt K mg "map_of" s_map_of p_map_of a_map_of f_map_of
  a_need_of : Addr
  f_need_of : FuncData
  d_need_of : DefAt K mg "need_of" s_need_of p_need_of a_need_of f_need_of
  a_parting : Addr
  f_parting : FuncData
  d_parting : DefAt K mg "parting" s_parting p_parting a_parting f_parting
  a_said : Addr
  f_said : FuncData
  d_said : DefAt K mg "said" s_said p_said a_said f_said
  t_turned_back : Addr
  a_turned_back : Addr
  f_turned_back : FuncData
  d_turned_back : DefV K mg "turned_back" "turned_back" s_turned_back p_turned_back (.ref t_turned_back) [.none] a_turned_back f_turned_back
  t_shorter : Addr
  a_shorter : Addr
  f_shorter : FuncData
  d_shorter : DefV K mg "shorter" "shorter" s_shorter p_shorter (.ref t_shorter) [.none] a_shorter f_shorter
  a_are_shuffles_alike : Addr
  f_are_shuffles_alike : FuncData
  d_are_shuffles_alike : DefV K mg "are_shuffles_alike" "are_shuffles" s_are_shuffles_alike p_are_shuffles_alike .none [] a_are_shuffles_alike f_are_shuffles_alike
  a_parted_on : Addr
  f_parted_on : FuncData
  d_parted_on : DefAt K mg "parted_on" s_parted_on p_parted_on a_parted_on f_parted_on
  a_of_shuffles : Addr
  f_of_shuffles : FuncData
  d_of_shuffles : DefAt K mg "of_shuffles" s_of_shuffles p_of_shuffles a_of_shuffles f_of_shuffles
  t_alike : Addr
  a_alike : Addr
  f_alike : FuncData
  d_alike : DefV K mg "alike" "alike" s_alike p_alike (.ref t_alike) [.none] a_alike f_alike
  a_l_deck : Addr
  f_l_deck : FuncData
  d_l_deck : DefAt K mg "_law_deck" s_l_deck p_l_deck a_l_deck f_l_deck
  a_l_draw : Addr
  f_l_draw : FuncData
  d_l_draw : DefAt K mg "_law_draw" s_l_draw p_l_draw a_l_draw f_l_draw
  a_l_shuffle : Addr
  f_l_shuffle : FuncData
  d_l_shuffle : DefAt K mg "_law_shuffle" s_l_shuffle p_l_shuffle a_l_shuffle f_l_shuffle
  a_l_parts : Addr
  f_l_parts : FuncData
  d_l_parts : DefAt K mg "_law_parts" s_l_parts p_l_parts a_l_parts f_l_parts
  a_l_is_shuffle : Addr
  f_l_is_shuffle : FuncData
  d_l_is_shuffle : DefAt K mg "_law_is_shuffle" s_l_is_shuffle p_l_is_shuffle a_l_is_shuffle f_l_is_shuffle
  a_l_map : Addr
  f_l_map : FuncData
  d_l_map : DefAt K mg "_law_map" s_l_map p_l_map a_l_map f_l_map
  a_l_map_word : Addr
  f_l_map_word : FuncData
  d_l_map_word : DefAt K mg "_law_map_word" s_l_map_word p_l_map_word a_l_map_word f_l_map_word
  a_l_push : Addr
  f_l_push : FuncData
  d_l_push : DefAt K mg "_law_push" s_l_push p_l_push a_l_push f_l_push
  a_l_inner : Addr
  f_l_inner : FuncData
  d_l_inner : DefAt K mg "_law_inner" s_l_inner p_l_inner a_l_inner f_l_inner
  a_l_takes : Addr
  f_l_takes : FuncData
  d_l_takes : DefAt K mg "_law_takes" s_l_takes p_l_takes a_l_takes f_l_takes
  a_l_made : Addr
  f_l_made : FuncData
  d_l_made : DefAt K mg "_law_made" s_l_made p_l_made a_l_made f_l_made
  a_l_by_maps : Addr
  f_l_by_maps : FuncData
  d_l_by_maps : DefAt K mg "_law_by_maps" s_l_by_maps p_l_by_maps a_l_by_maps f_l_by_maps
  a_l_by_dips : Addr
  f_l_by_dips : FuncData
  d_l_by_dips : DefAt K mg "_law_by_dips" s_l_by_dips p_l_by_dips a_l_by_dips f_l_by_dips
  a_l_is_entered : Addr
  f_l_is_entered : FuncData
  d_l_is_entered : DefAt K mg "_law_is_entered" s_l_is_entered p_l_is_entered a_l_is_entered f_l_is_entered
  a_l_put : Addr
  f_l_put : FuncData
  d_l_put : DefAt K mg "_law_put" s_l_put p_l_put a_l_put f_l_put
  a_l_is_by : Addr
  f_l_is_by : FuncData
  d_l_is_by : DefAt K mg "_law_is_by" s_l_is_by p_l_is_by a_l_is_by f_l_is_by
  a_l_turned_by : Addr
  f_l_turned_by : FuncData
  d_l_turned_by : DefAt K mg "_law_turned_by" s_l_turned_by p_l_turned_by a_l_turned_by f_l_turned_by
  a_l_leads : Addr
  f_l_leads : FuncData
  d_l_leads : DefAt K mg "_law_leads" s_l_leads p_l_leads a_l_leads f_l_leads
  a_l_shuffles : Addr
  f_l_shuffles : FuncData
  d_l_shuffles : DefAt K mg "_law_shuffles" s_l_shuffles p_l_shuffles a_l_shuffles f_l_shuffles
  a_l_other : Addr
  f_l_other : FuncData
  d_l_other : DefAt K mg "_law_other" s_l_other p_l_other a_l_other f_l_other
  a_l_end : Addr
  f_l_end : FuncData
  d_l_end : DefAt K mg "_law_end" s_l_end p_l_end a_l_end f_l_end
  a_l_right : Addr
  f_l_right : FuncData
  d_l_right : DefAt K mg "_law_right" s_l_right p_l_right a_l_right f_l_right
  a_law : Addr
  f_law : FuncData
  d_law : DefAt K mg "law" s_law p_law a_law f_law
  z_all : mg "all" = none
  z_int : mg "int" = none
  z_isinstance : mg "isinstance" = none
  z_len : mg "len" = none
  z_list : mg "list" = none
  z_max : mg "max" = none
  z_range : mg "range" = none
  z_str : mg "str" = none
  z_sum : mg "sum" = none
  z_tuple : mg "tuple" = none
  e_NoShuffle : Addr
  E_NoShuffle : ExAt K mg "NoShuffle" e_NoShuffle
  c_LETTERS : GV K mg "LETTERS" k_LETTERS
  c_MOST_LEFT_shuffles : GV K mg "MOST_LEFT_shuffles" k_MOST_LEFT_shuffles
structure Cal (P : Program) (w : World) (K : PySem.W.Frag) (mg : Str → Option Value) (base : Heap) (T : Tx K mg) (k : Nat) (C : Nat → List D → M D) : Prop where
  is_shuffle : FnOk P w K mg base (L2.CX P w) (k + 20) T.a_is_shuffle T.f_is_shuffle p_is_shuffle (spD K mg (p_is_shuffle).length (C i_is_shuffle))
  taken_left : FnOk P w K mg base (L2.CX P w) (k + 20) T.a_taken_left T.f_taken_left p_taken_left (spD K mg (p_taken_left).length (C i_taken_left))
  least_map : FnOk P w K mg base (L2.CX P w) (k + 20) T.a_least_map T.f_least_map p_least_map (spD K mg (p_least_map).length (C i_least_map))
  map_with : FnOk P w K mg base (L2.CX P w) (k + 20) T.a_map_with T.f_map_with p_map_with (spD K mg (p_map_with).length (C i_map_with))
  whole_map : FnOk P w K mg base (L2.CX P w) (k + 20) T.a_whole_map T.f_whole_map p_whole_map (spD K mg (p_whole_map).length (C i_whole_map))
  map_of : FnOk P w K mg base (L2.CX P w) (k + 20) T.a_map_of T.f_map_of p_map_of (spD K mg (p_map_of).length (C i_map_of))
  need_of : FnOk P w K mg base (L2.CX P w) (k + 20) T.a_need_of T.f_need_of p_need_of (spD K mg (p_need_of).length (C i_need_of))
  parting : FnOk P w K mg base (L2.CX P w) (k + 20) T.a_parting T.f_parting p_parting (spD K mg (p_parting).length (C i_parting))
  said : FnOk P w K mg base (L2.CX P w) (k + 20) T.a_said T.f_said p_said (spD K mg (p_said).length (C i_said))
  turned_back : FnOk P w K mg base (L2.CX P w) (k + 20) T.a_turned_back T.f_turned_back p_turned_back (spD K mg (p_turned_back).length (C i_turned_back))
  shorter : FnOk P w K mg base (L2.CX P w) (k + 20) T.a_shorter T.f_shorter p_shorter (spD K mg (p_shorter).length (C i_shorter))
  are_shuffles_alike : FnOk P w K mg base (L2.CX P w) (k + 20) T.a_are_shuffles_alike T.f_are_shuffles_alike p_are_shuffles_alike (spD K mg (p_are_shuffles_alike).length (C i_are_shuffles_alike))
  parted_on : FnOk P w K mg base (L2.CX P w) (k + 20) T.a_parted_on T.f_parted_on p_parted_on (spD K mg (p_parted_on).length (C i_parted_on))
  of_shuffles : FnOk P w K mg base (L2.CX P w) (k + 20) T.a_of_shuffles T.f_of_shuffles p_of_shuffles (spD K mg (p_of_shuffles).length (C i_of_shuffles))
  alike : FnOk P w K mg base (L2.CX P w) (k + 20) T.a_alike T.f_alike p_alike (spD K mg (p_alike).length (C i_alike))
  l_deck : FnOk P w K mg base (L2.CX P w) (k + 20) T.a_l_deck T.f_l_deck p_l_deck (spD K mg (p_l_deck).length (C i_l_deck))
  l_draw : FnOk P w K mg base (L2.CX P w) (k + 20) T.a_l_draw T.f_l_draw p_l_draw (spD K mg (p_l_draw).length (C i_l_draw))
  l_shuffle : FnOk P w K mg base (L2.CX P w) (k + 20) T.a_l_shuffle T.f_l_shuffle p_l_shuffle (spD K mg (p_l_shuffle).length (C i_l_shuffle))
  l_parts : FnOk P w K mg base (L2.CX P w) (k + 20) T.a_l_parts T.f_l_parts p_l_parts (spD K mg (p_l_parts).length (C i_l_parts))
  l_is_shuffle : FnOk P w K mg base (L2.CX P w) (k + 20) T.a_l_is_shuffle T.f_l_is_shuffle p_l_is_shuffle (spD K mg (p_l_is_shuffle).length (C i_l_is_shuffle))
  l_map : FnOk P w K mg base (L2.CX P w) (k + 20) T.a_l_map T.f_l_map p_l_map (spD K mg (p_l_map).length (C i_l_map))
  l_map_word : FnOk P w K mg base (L2.CX P w) (k + 20) T.a_l_map_word T.f_l_map_word p_l_map_word (spD K mg (p_l_map_word).length (C i_l_map_word))
  l_push : FnOk P w K mg base (L2.CX P w) (k + 20) T.a_l_push T.f_l_push p_l_push (spD K mg (p_l_push).length (C i_l_push))
  l_inner : FnOk P w K mg base (L2.CX P w) (k + 20) T.a_l_inner T.f_l_inner p_l_inner (spD K mg (p_l_inner).length (C i_l_inner))
  l_takes : FnOk P w K mg base (L2.CX P w) (k + 20) T.a_l_takes T.f_l_takes p_l_takes (spD K mg (p_l_takes).length (C i_l_takes))
  l_made : FnOk P w K mg base (L2.CX P w) (k + 20) T.a_l_made T.f_l_made p_l_made (spD K mg (p_l_made).length (C i_l_made))
  l_by_maps : FnOk P w K mg base (L2.CX P w) (k + 20) T.a_l_by_maps T.f_l_by_maps p_l_by_maps (spD K mg (p_l_by_maps).length (C i_l_by_maps))
  l_by_dips : FnOk P w K mg base (L2.CX P w) (k + 20) T.a_l_by_dips T.f_l_by_dips p_l_by_dips (spD K mg (p_l_by_dips).length (C i_l_by_dips))
  l_is_entered : FnOk P w K mg base (L2.CX P w) (k + 20) T.a_l_is_entered T.f_l_is_entered p_l_is_entered (spD K mg (p_l_is_entered).length (C i_l_is_entered))
  l_put : FnOk P w K mg base (L2.CX P w) (k + 20) T.a_l_put T.f_l_put p_l_put (spD K mg (p_l_put).length (C i_l_put))
  l_is_by : FnOk P w K mg base (L2.CX P w) (k + 20) T.a_l_is_by T.f_l_is_by p_l_is_by (spD K mg (p_l_is_by).length (C i_l_is_by))
  l_turned_by : FnOk P w K mg base (L2.CX P w) (k + 20) T.a_l_turned_by T.f_l_turned_by p_l_turned_by (spD K mg (p_l_turned_by).length (C i_l_turned_by))
  l_leads : FnOk P w K mg base (L2.CX P w) (k + 20) T.a_l_leads T.f_l_leads p_l_leads (spD K mg (p_l_leads).length (C i_l_leads))
  l_shuffles : FnOk P w K mg base (L2.CX P w) (k + 20) T.a_l_shuffles T.f_l_shuffles p_l_shuffles (spD K mg (p_l_shuffles).length (C i_l_shuffles))
  l_other : FnOk P w K mg base (L2.CX P w) (k + 20) T.a_l_other T.f_l_other p_l_other (spD K mg (p_l_other).length (C i_l_other))
  l_end : FnOk P w K mg base (L2.CX P w) (k + 20) T.a_l_end T.f_l_end p_l_end (spD K mg (p_l_end).length (C i_l_end))
  l_right : FnOk P w K mg base (L2.CX P w) (k + 20) T.a_l_right T.f_l_right p_l_right (spD K mg (p_l_right).length (C i_l_right))
  law : FnOk P w K mg base (L2.CX P w) (k + 20) T.a_law T.f_law p_law (spD K mg (p_law).length (C i_law))
section
variable {P : Program} {w : World} {K : PySem.W.Frag} {mg : Str → Option Value} {base : Heap} {T : Tx K mg} {k : Nat} {C : Nat → List D → M D}
theorem sc_is_shuffle : FnScope n_is_shuffle p_is_shuffle (defScope s_is_shuffle) := ⟨rfl, rfl, rfl, by decide +kernel, rfl, by decide +kernel, by decide +kernel⟩
theorem ok_is_shuffle (fu : Nat) (c : Cal P w K mg base T k C) : FnOk P w K mg base (L2.CX P w) (k + 20 + 1) T.a_is_shuffle T.f_is_shuffle p_is_shuffle (spD K mg (p_is_shuffle).length (runDef false 3 (b_is_shuffle fu C))) := by
  refine' fn_okL (N := n_is_shuffle) T.d_is_shuffle.fn sc_is_shuffle ?hB ?hS ?body
  case hB => conv => lhs; whnf
  case hS => conv => lhs; whnf
  case body =>
  intro cdv A outer s H E hr nd tk pw
  exact (ss_cons (s_if (t_not (t_truth (d_isi "str" rfl T.z_isinstance (d_var 0) rfl T.z_str (by decide +kernel) (by decide)))) (ss_one (s_ret d_bl)) ss_nil)
 (ss_cons (s_set 1 nd (d_meth PySem.F.plainAttrs_str PySem.F.slot_str_split PySem.F.type_str_split (m_split false) (d_var 0) (a_cons d_str a_nil)))
 (ss_cons (s_if (PW.pt (w_or (t_cmp (o_ne (room_w hr)) (d_callB c_len (by rfl) T.z_len (by decide +kernel) (a_cons (d_var 1) a_nil)) d_int (nomark _)) (w_or (t_cmp o_gt (d_callB c_len (by rfl) T.z_len (by decide +kernel) (a_cons (d_ix (d_var 1) d_int) a_nil)) (d_globv T.c_MOST_LEFT_shuffles) (nomark _)) (w_one_or (t_cmp (o_ne (room_w hr)) (d_ix (d_var 1) d_int) (d_slice false (d_globv T.c_LETTERS) o_none (o_some (d_callB c_len (by rfl) T.z_len (by decide +kernel) (a_cons (d_ix (d_var 1) d_int) a_nil)))) (nomark _)))))) (ss_one (s_ret d_bl)) ss_nil)
 (ss_one (s_ret (d_callB (c_all rfl) (by rfl) T.z_all (by decide +kernel) (a_cons (d_comp rfl nd (i_it (d_ix (d_var 1) d_int)) (blkOk_by (own := [("sign", 2)]) (N := n_is_shuffle) (sc := defScope s_is_shuffle) (by decide +kernel)) rfl (g_name 2) (by decide) (fun _ _ _ _ _ => (pg_name (i := 2) nd rfl (by first | exact Or.inl rfl | exact Or.inr rfl))) (fun _ _ _ _ _ => ts_nil) (fun _ _ _ _ _ => (d_cmp (o_in (room_w hr)) (d_var 2) (d_ix (d_var 1) d_int) (by rfl)))) a_nil)))))))
theorem sc_taken_left : FnScope n_taken_left p_taken_left (defScope s_taken_left) := ⟨rfl, rfl, rfl, by decide +kernel, rfl, by decide +kernel, by decide +kernel⟩
theorem ok_taken_left (fu : Nat) (c : Cal P w K mg base T k C) : FnOk P w K mg base (L2.CX P w) (k + 20 + 1) T.a_taken_left T.f_taken_left p_taken_left (spD K mg (p_taken_left).length (runDef false 4 (b_taken_left fu C))) := by
  refine' fn_okL (N := n_taken_left) T.d_taken_left.fn sc_taken_left ?hB ?hS ?body
  case hB => conv => lhs; whnf
  case hS => conv => lhs; whnf
  case body =>
  intro cdv A outer s H E hr nd tk pw
  exact (ss_cons (s_asg (d_meth PySem.F.plainAttrs_str PySem.F.slot_str_split PySem.F.type_str_split (m_split false) (d_var 0) (a_cons d_str a_nil)) (g_unl (gs_cons 1 (gs_cons 2 gs_nil))) (pg_unl rfl (pgs_cons (pg_name (i := 1) nd rfl (by first | exact Or.inl rfl | exact Or.inr rfl)) (pgs_cons (pg_name (i := 2) nd rfl (by first | exact Or.inl rfl | exact Or.inr rfl)) pgs_nil))))
 (ss_one (s_ret (d_tup (a_cons (d_callB c_len (by rfl) T.z_len (by decide +kernel) (a_cons (d_var 1) a_nil)) (a_cons (d_callTy c_tuple (by rfl) T.z_tuple (by decide +kernel) (a_cons (d_comp rfl nd (i_it (d_var 2)) (blkOk_by (own := [("sign", 3)]) (N := n_taken_left) (sc := defScope s_taken_left) (by decide +kernel)) rfl (g_name 3) (by decide) (fun _ _ _ _ _ => (pg_name (i := 3) nd rfl (by first | exact Or.inl rfl | exact Or.inr rfl))) (fun _ _ _ _ _ => ts_nil) (fun _ _ _ _ _ => (d_meth PySem.F.plainAttrs_str PySem.F.slot_str_index PySem.F.type_str_index m_sindex (d_var 1) (a_cons (d_var 3) a_nil)))) a_nil)) a_nil))))))
theorem sc_least_map : FnScope n_least_map p_least_map (defScope s_least_map) := ⟨rfl, rfl, rfl, by decide +kernel, rfl, by decide +kernel, by decide +kernel⟩
theorem ok_least_map (fu : Nat) (c : Cal P w K mg base T k C) : FnOk P w K mg base (L2.CX P w) (k + 20 + 1) T.a_least_map T.f_least_map p_least_map (spD K mg (p_least_map).length (runDef false 3 (b_least_map fu C))) := by
  refine' fn_okL (N := n_least_map) T.d_least_map.fn sc_least_map ?hB ?hS ?body
  case hB => conv => lhs; whnf
  case hS => conv => lhs; whnf
  case body =>
  intro cdv A outer s H E hr nd tk pw
  exact (ss_cons (s_while fu pw (PW.pt (w_and (t_cmp o_gt (d_var 0) d_int (nomark _)) (w_and (t_cmp (o_ne (room_w hr)) (d_var 1) (d_tup a_nil) (nomark _)) (w_and (t_cmp (o_eq (room_w hr)) (d_ix (d_var 1) d_int) d_int (nomark _)) (w_one_and (t_cmp (o_notin (room_w hr)) d_int (d_slice false (d_var 1) (o_some d_int) o_none) (by rfl))))))) (ss_cons (s_aug 0 nd ip_sub d_int)
 (ss_one (s_set 1 nd (d_callTy c_tuple (by rfl) T.z_tuple (by decide +kernel) (a_cons (d_comp rfl nd (i_it (d_slice false (d_var 1) (o_some d_int) o_none)) (blkOk_by (own := [("pick", 2)]) (N := n_least_map) (sc := defScope s_least_map) (by decide +kernel)) rfl (g_name 2) (by decide) (fun _ _ _ _ _ => (pg_name (i := 2) nd rfl (by first | exact Or.inl rfl | exact Or.inr rfl))) (fun _ _ _ _ _ => ts_nil) (fun _ _ _ _ _ => (d_bin o_sub (d_var 2) d_int))) a_nil))))))
 (ss_one (s_ret (d_tup (a_cons (d_var 0) (a_cons (d_var 1) a_nil))))))
theorem sc_map_with : FnScope n_map_with p_map_with (defScope s_map_with) := ⟨rfl, rfl, rfl, by decide +kernel, rfl, by decide +kernel, by decide +kernel⟩
theorem ok_map_with (fu : Nat) (c : Cal P w K mg base T k C) : FnOk P w K mg base (L2.CX P w) (k + 20 + 1) T.a_map_with T.f_map_with p_map_with (spD K mg (p_map_with).length (runDef false 9 (b_map_with fu C))) := by
  refine' fn_okL (N := n_map_with) T.d_map_with.fn sc_map_with ?hB ?hS ?body
  case hB => conv => lhs; whnf
  case hS => conv => lhs; whnf
  case body =>
  intro cdv A outer s H E hr nd tk pw
  exact (ss_cons (s_asg (d_call c.taken_left hr rfl T.d_taken_left.mg T.d_taken_left.fn.kp T.d_taken_left.bi tk (a_cons (d_var 2) a_nil)) (g_tup (gs_cons 5 (gs_cons 6 gs_nil))) (pg_tup rfl (pgs_cons (pg_name (i := 5) nd rfl (by first | exact Or.inl rfl | exact Or.inr rfl)) (pgs_cons (pg_name (i := 6) nd rfl (by first | exact Or.inl rfl | exact Or.inr rfl)) pgs_nil))))
 (ss_cons (s_set 3 nd (d_bin o_sub (d_var 5) (d_callB c_len (by rfl) T.z_len (by decide +kernel) (a_cons (d_var 1) a_nil))))
 (ss_cons (s_if (t_cmp o_gt (d_var 3) d_int (nomark _)) (ss_cons (s_aug 0 nd ip_add (d_var 3))
 (ss_one (s_set 1 nd (d_bin o_add (d_tupR rfl rfl T.z_tuple rfl T.z_range (d_var 3)) (d_callTy c_tuple (by rfl) T.z_tuple (by decide +kernel) (a_cons (d_comp rfl nd (i_it (d_var 1)) (blkOk_by (own := [("pick", 7)]) (N := n_map_with) (sc := defScope s_map_with) (by decide +kernel)) rfl (g_name 7) (by decide) (fun _ _ _ _ _ => (pg_name (i := 7) nd rfl (by first | exact Or.inl rfl | exact Or.inr rfl))) (fun _ _ _ _ _ => ts_nil) (fun _ _ _ _ _ => (d_bin o_add (d_var 7) (d_var 3)))) a_nil)))))) ss_nil)
 (ss_cons (s_set 4 nd (d_bin o_sub (d_callB c_len (by rfl) T.z_len (by decide +kernel) (a_cons (d_var 1) a_nil)) (d_var 5)))
 (ss_one (s_ret (d_tup (a_cons (d_var 0) (a_cons (d_bin o_add (d_slice false (d_var 1) o_none (o_some (d_var 4))) (d_callTy c_tuple (by rfl) T.z_tuple (by decide +kernel) (a_cons (d_comp rfl nd (i_it (d_var 6)) (blkOk_by (own := [("k", 8)]) (N := n_map_with) (sc := defScope s_map_with) (by decide +kernel)) rfl (g_name 8) (by decide) (fun _ _ _ _ _ => (pg_name (i := 8) nd rfl (by first | exact Or.inl rfl | exact Or.inr rfl))) (fun _ _ _ _ _ => ts_nil) (fun _ _ _ _ _ => (d_ix (d_var 1) (d_bin o_add (d_var 4) (d_var 8))))) a_nil))) a_nil)))))))))
theorem sc_whole_map : FnScope n_whole_map p_whole_map (defScope s_whole_map) := ⟨rfl, rfl, rfl, by decide +kernel, rfl, by decide +kernel, by decide +kernel⟩
theorem ok_whole_map (fu : Nat) (c : Cal P w K mg base T k C) : FnOk P w K mg base (L2.CX P w) (k + 20 + 1) T.a_whole_map T.f_whole_map p_whole_map (spD K mg (p_whole_map).length (runDef false 4 (b_whole_map fu C))) := by
  refine' fn_okL (N := n_whole_map) T.d_whole_map.fn sc_whole_map ?hB ?hS ?body
  case hB => conv => lhs; whnf
  case hS => conv => lhs; whnf
  case body =>
  intro cdv A outer s H E hr nd tk pw
  exact (ss_cons (s_set 1 nd d_int)
 (ss_cons (s_set 2 nd (d_tup a_nil))
 (ss_cons (s_for pw rfl (i_it (d_var 0)) (g_name 3) (pg_name (i := 3) nd rfl (by first | exact Or.inl rfl | exact Or.inr rfl)) (ss_cons (s_if (t_not (t_truth (d_call c.is_shuffle hr rfl T.d_is_shuffle.mg T.d_is_shuffle.fn.kp T.d_is_shuffle.bi tk (a_cons (d_var 3) a_nil)))) (ss_one (s_raise T.E_NoShuffle rfl tk d_str)) ss_nil)
 (ss_one (s_asg (d_call c.map_with hr rfl T.d_map_with.mg T.d_map_with.fn.kp T.d_map_with.bi tk (a_cons (d_var 1) (a_cons (d_var 2) (a_cons (d_var 3) a_nil)))) (g_tup (gs_cons 1 (gs_cons 2 gs_nil))) (pg_tup rfl (pgs_cons (pg_name (i := 1) nd rfl (by first | exact Or.inl rfl | exact Or.inr rfl)) (pgs_cons (pg_name (i := 2) nd rfl (by first | exact Or.inl rfl | exact Or.inr rfl)) pgs_nil)))))))
 (ss_one (s_ret (d_tup (a_cons (d_var 1) (a_cons (d_var 2) a_nil))))))))
theorem sc_map_of : FnScope n_map_of p_map_of (defScope s_map_of) := ⟨rfl, rfl, rfl, by decide +kernel, rfl, by decide +kernel, by decide +kernel⟩
theorem ok_map_of (fu : Nat) (c : Cal P w K mg base T k C) : FnOk P w K mg base (L2.CX P w) (k + 20 + 1) T.a_map_of T.f_map_of p_map_of (spD K mg (p_map_of).length (runDef false 3 (b_map_of fu C))) := by
  refine' fn_okL (N := n_map_of) T.d_map_of.fn sc_map_of ?hB ?hS ?body
  case hB => conv => lhs; whnf
  case hS => conv => lhs; whnf
  case body =>
  intro cdv A outer s H E hr nd tk pw
  exact (ss_cons (s_asg (d_call c.whole_map hr rfl T.d_whole_map.mg T.d_whole_map.fn.kp T.d_whole_map.bi tk (a_cons (d_var 0) a_nil)) (g_tup (gs_cons 1 (gs_cons 2 gs_nil))) (pg_tup rfl (pgs_cons (pg_name (i := 1) nd rfl (by first | exact Or.inl rfl | exact Or.inr rfl)) (pgs_cons (pg_name (i := 2) nd rfl (by first | exact Or.inl rfl | exact Or.inr rfl)) pgs_nil))))
 (ss_one (s_ret (d_call c.least_map hr rfl T.d_least_map.mg T.d_least_map.fn.kp T.d_least_map.bi tk (a_cons (d_var 1) (a_cons (d_var 2) a_nil))))))
theorem sc_need_of : FnScope n_need_of p_need_of (defScope s_need_of) := ⟨rfl, rfl, rfl, by decide +kernel, rfl, by decide +kernel, by decide +kernel⟩
theorem ok_need_of (fu : Nat) (c : Cal P w K mg base T k C) : FnOk P w K mg base (L2.CX P w) (k + 20 + 1) T.a_need_of T.f_need_of p_need_of (spD K mg (p_need_of).length (runDef false 1 (b_need_of fu C))) := by
  refine' fn_okL (N := n_need_of) T.d_need_of.fn sc_need_of ?hB ?hS ?body
  case hB => conv => lhs; whnf
  case hS => conv => lhs; whnf
  case body =>
  intro cdv A outer s H E hr nd tk pw
  exact (ss_one (s_ret (d_ix (d_call c.whole_map hr rfl T.d_whole_map.mg T.d_whole_map.fn.kp T.d_whole_map.bi tk (a_cons (d_var 0) a_nil)) d_int)))
theorem sc_parting : FnScope n_parting p_parting (defScope s_parting) := ⟨rfl, rfl, rfl, by decide +kernel, rfl, by decide +kernel, by decide +kernel⟩
theorem ok_parting (fu : Nat) (c : Cal P w K mg base T k C) : FnOk P w K mg base (L2.CX P w) (k + 20 + 1) T.a_parting T.f_parting p_parting (spD K mg (p_parting).length (runDef false 4 (b_parting fu C))) := by
  refine' fn_okL (N := n_parting) T.d_parting.fn sc_parting ?hB ?hS ?body
  case hB => conv => lhs; whnf
  case hS => conv => lhs; whnf
  case body =>
  intro cdv A outer s H E hr nd tk pw
  exact (ss_cons (s_set 2 nd (d_callB (c_max2 rfl) (by rfl) T.z_max (by decide +kernel) (a_cons (d_call c.need_of hr rfl T.d_need_of.mg T.d_need_of.fn.kp T.d_need_of.bi tk (a_cons (d_var 0) a_nil)) (a_cons (d_call c.need_of hr rfl T.d_need_of.mg T.d_need_of.fn.kp T.d_need_of.bi tk (a_cons (d_var 1) a_nil)) a_nil))))
 (ss_cons (s_if (t_cmp (o_eq (room_w hr)) (d_call c.map_of hr rfl T.d_map_of.mg T.d_map_of.fn.kp T.d_map_of.bi tk (a_cons (d_var 0) a_nil)) (d_call c.map_of hr rfl T.d_map_of.mg T.d_map_of.fn.kp T.d_map_of.bi tk (a_cons (d_var 1) a_nil)) (nomark _)) (ss_one (s_ret d_non)) ss_nil)
 (ss_one (s_ret (d_callTy c_tuple (by rfl) T.z_tuple (by decide +kernel) (a_cons (d_comp rfl nd (i_range1 rfl T.z_range (a_cons (d_var 2) a_nil)) (blkOk_by (own := [("k", 3)]) (N := n_parting) (sc := defScope s_parting) (by decide +kernel)) rfl (g_name 3) (by decide) (fun _ _ _ _ _ => (pg_name (i := 3) nd rfl (by first | exact Or.inl rfl | exact Or.inr rfl))) (fun _ _ _ _ _ => ts_nil) (fun _ _ _ _ _ => (d_tup (a_cons d_str (a_cons (d_var 3) a_nil))))) a_nil))))))
theorem sc_said : FnScope n_said p_said (defScope s_said) := ⟨rfl, rfl, rfl, by decide +kernel, rfl, by decide +kernel, by decide +kernel⟩
theorem ok_said (fu : Nat) (c : Cal P w K mg base T k C) : FnOk P w K mg base (L2.CX P w) (k + 20 + 1) T.a_said T.f_said p_said (spD K mg (p_said).length (runDef false 1 (b_said fu C))) := by
  refine' fn_okL (N := n_said) T.d_said.fn sc_said ?hB ?hS ?body
  case hB => conv => lhs; whnf
  case hS => conv => lhs; whnf
  case body =>
  intro cdv A outer s H E hr nd tk pw
  exact (ss_cons (s_if (t_cmp o_is (d_var 0) d_non (nomark _)) (ss_one (s_ret (d_tup a_nil))) ss_nil)
 (ss_one (s_ret (d_var 0))))
theorem sc_are_shuffles_alike : FnScope n_are_shuffles_alike p_are_shuffles_alike (defScope s_are_shuffles_alike) := ⟨rfl, rfl, rfl, by decide +kernel, rfl, by decide +kernel, by decide +kernel⟩
theorem ok_are_shuffles_alike (fu : Nat) (c : Cal P w K mg base T k C) : FnOk P w K mg base (L2.CX P w) (k + 20 + 1) T.a_are_shuffles_alike T.f_are_shuffles_alike p_are_shuffles_alike (spD K mg (p_are_shuffles_alike).length (runDef false 2 (b_are_shuffles_alike fu C))) := by
  refine' fn_okV (N := n_are_shuffles_alike) T.d_are_shuffles_alike.fn sc_are_shuffles_alike ?hB ?hS ?body
  case hB => conv => lhs; whnf
  case hS => conv => lhs; whnf
  case body =>
  intro cdv A outer s H E hr nd tk pw
  exact (ss_one (s_ret (d_callB (c_all rfl) (by rfl) T.z_all (by decide +kernel) (a_cons (d_comp rfl nd (i_it (d_var 0)) (blkOk_by (own := [("word", 1)]) (N := n_are_shuffles_alike) (sc := defScope s_are_shuffles_alike) (by decide +kernel)) rfl (g_name 1) (by decide) (fun _ _ _ _ _ => (pg_name (i := 1) nd rfl (by first | exact Or.inl rfl | exact Or.inr rfl))) (fun _ _ _ _ _ => ts_nil) (fun _ _ _ _ _ => (d_call c.is_shuffle hr rfl T.d_is_shuffle.mg T.d_is_shuffle.fn.kp T.d_is_shuffle.bi takes0 (a_cons (d_var 1) a_nil)))) a_nil))))
theorem sc_of_shuffles : FnScope n_of_shuffles p_of_shuffles (defScope s_of_shuffles) := ⟨rfl, rfl, rfl, by decide +kernel, rfl, by decide +kernel, by decide +kernel⟩
theorem ok_of_shuffles (fu : Nat) (c : Cal P w K mg base T k C) : FnOk P w K mg base (L2.CX P w) (k + 20 + 1) T.a_of_shuffles T.f_of_shuffles p_of_shuffles (spD K mg (p_of_shuffles).length (runDef false 3 (b_of_shuffles fu C))) := by
  refine' fn_okL (N := n_of_shuffles) T.d_of_shuffles.fn sc_of_shuffles ?hB ?hS ?body
  case hB => conv => lhs; whnf
  case hS => conv => lhs; whnf
  case body =>
  intro cdv A outer s H E hr nd tk pw
  exact (ss_cons (s_set 2 nd (d_call c.parting hr rfl T.d_parting.mg T.d_parting.fn.kp T.d_parting.bi tk (a_cons (d_var 0) (a_cons (d_var 1) a_nil))))
 (ss_cons (s_if (t_cmp o_isnot (d_var 2) d_non (nomark _)) (ss_one (s_ret (d_tup (a_cons d_str (a_cons (d_var 2) a_nil))))) ss_nil)
 (ss_one (s_ret (d_tup (a_cons d_str (a_cons (d_tup (a_cons (d_tup (a_cons (d_tup (a_cons d_int a_nil)) (a_cons (d_callB c_len (by rfl) T.z_len (by decide +kernel) (a_cons (d_var 0) a_nil)) (a_cons d_str (a_cons (d_var 1) a_nil))))) a_nil)) a_nil)))))))
theorem sc_alike : FnScope n_alike p_alike (defScope s_alike) := ⟨rfl, rfl, rfl, by decide +kernel, rfl, by decide +kernel, by decide +kernel⟩
theorem ok_alike (fu : Nat) (c : Cal P w K mg base T k C) : FnOk P w K mg base (L2.CX P w) (k + 20 + 1) T.a_alike T.f_alike p_alike (spD K mg (p_alike).length (runDef false 8 (b_alike fu C))) := by
  refine' fn_okV (N := n_alike) T.d_alike.fn sc_alike ?hB ?hS ?body
  case hB => conv => lhs; whnf
  case hS => conv => lhs; whnf
  case body =>
  intro cdv A outer s H E hr nd tk pw
  exact (ss_cons (s_set 2 nd (d_call c.said hr rfl T.d_said.mg T.d_said.fn.kp T.d_said.bi tk (a_cons (d_var 2) a_nil)))
 (ss_cons (s_if (PW.pt (w_and (t_truth (d_call c.are_shuffles_alike hr rfl T.d_are_shuffles_alike.mg T.d_are_shuffles_alike.fn.kp T.d_are_shuffles_alike.bi tk (a_cons (d_var 0) a_nil))) (w_one_and (t_truth (d_call c.are_shuffles_alike hr rfl T.d_are_shuffles_alike.mg T.d_are_shuffles_alike.fn.kp T.d_are_shuffles_alike.bi tk (a_cons (d_var 1) a_nil)))))) (ss_one (s_ret (d_call c.of_shuffles hr rfl T.d_of_shuffles.mg T.d_of_shuffles.fn.kp T.d_of_shuffles.bi tk (a_cons (d_var 0) (a_cons (d_var 1) a_nil))))) ss_nil)
 (ss_cons (s_asg (d_call c.shorter hr rfl T.d_shorter.mg T.d_shorter.fn.kp T.d_shorter.bi tk (a_cons (d_var 0) (a_cons (d_var 2) a_nil))) (g_tup (gs_cons 4 (gs_cons 5 gs_nil))) (pg_tup rfl (pgs_cons (pg_name (i := 4) nd rfl (by first | exact Or.inl rfl | exact Or.inr rfl)) (pgs_cons (pg_name (i := 5) nd rfl (by first | exact Or.inl rfl | exact Or.inr rfl)) pgs_nil))))
 (ss_cons (s_asg (d_call c.shorter hr rfl T.d_shorter.mg T.d_shorter.fn.kp T.d_shorter.bi tk (a_cons (d_var 1) (a_cons (d_var 2) a_nil))) (g_tup (gs_cons 6 (gs_cons 7 gs_nil))) (pg_tup rfl (pgs_cons (pg_name (i := 6) nd rfl (by first | exact Or.inl rfl | exact Or.inr rfl)) (pgs_cons (pg_name (i := 7) nd rfl (by first | exact Or.inl rfl | exact Or.inr rfl)) pgs_nil))))
 (ss_cons (s_if (PW.pt (w_and (t_cmp (o_ne (room_w hr)) (d_var 4) (d_var 6) (nomark _)) (w_and (t_truth (d_call c.are_shuffles_alike hr rfl T.d_are_shuffles_alike.mg T.d_are_shuffles_alike.fn.kp T.d_are_shuffles_alike.bi tk (a_cons (d_var 4) a_nil))) (w_and (t_truth (d_call c.are_shuffles_alike hr rfl T.d_are_shuffles_alike.mg T.d_are_shuffles_alike.fn.kp T.d_are_shuffles_alike.bi tk (a_cons (d_var 6) a_nil))) (w_one_and (t_cmp (o_eq (room_w hr)) (d_call c.map_of hr rfl T.d_map_of.mg T.d_map_of.fn.kp T.d_map_of.bi tk (a_cons (d_var 4) a_nil)) (d_call c.map_of hr rfl T.d_map_of.mg T.d_map_of.fn.kp T.d_map_of.bi tk (a_cons (d_var 6) a_nil)) (nomark _))))))) (ss_cons (s_set 5 nd (d_bin o_add (d_var 5) (d_tup (a_cons (d_tup (a_cons (d_tup (a_cons d_int a_nil)) (a_cons (d_callB c_len (by rfl) T.z_len (by decide +kernel) (a_cons (d_var 4) a_nil)) (a_cons d_str (a_cons (d_var 6) a_nil))))) a_nil))))
 (ss_one (s_set 4 nd (d_var 6)))) ss_nil)
 (ss_cons (s_if (t_cmp (o_eq (room_w hr)) (d_var 4) (d_var 6) (nomark _)) (ss_one (s_ret (d_tup (a_cons d_str (a_cons (d_bin o_add (d_var 5) (d_call c.turned_back hr rfl T.d_turned_back.mg T.d_turned_back.fn.kp T.d_turned_back.bi tk (a_cons (d_var 1) (a_cons (d_var 7) (a_cons (d_var 2) a_nil))))) a_nil))))) ss_nil)
 (ss_cons (s_set 3 nd (d_call c.parted_on hr rfl T.d_parted_on.mg T.d_parted_on.fn.kp T.d_parted_on.bi tk (a_cons (d_var 0) (a_cons (d_var 1) (a_cons (d_var 2) a_nil)))))
 (ss_cons (s_if (t_cmp o_is (d_var 3) d_non (nomark _)) (ss_one (s_ret (d_tup (a_cons d_str a_nil)))) ss_nil)
 (ss_one (s_ret (d_tup (a_cons d_str (a_cons (d_var 3) a_nil)))))))))))))
theorem sc_l_deck : FnScope n_l_deck p_l_deck (defScope s_l_deck) := ⟨rfl, rfl, rfl, by decide +kernel, rfl, by decide +kernel, by decide +kernel⟩
theorem ok_l_deck (fu : Nat) (c : Cal P w K mg base T k C) : FnOk P w K mg base (L2.CX P w) (k + 20 + 1) T.a_l_deck T.f_l_deck p_l_deck (spD K mg (p_l_deck).length (runDef true 2 (b_l_deck fu C))) := by
  refine' fn_okL (N := n_l_deck) T.d_l_deck.fn sc_l_deck ?hB ?hS ?body
  case hB => conv => lhs; whnf
  case hS => conv => lhs; whnf
  case body =>
  intro cdv A outer s H E hr nd tk pw
  exact (ss_one (s_ret (d_lstM (a_cons (d_callTy c_listM (by rfl) T.z_list (by decide +kernel) (a_cons (d_slice false (d_var 0) o_none (o_some d_int)) a_nil)) (a_cons d_int (a_cons (d_callB (c_sum rfl) (by rfl) T.z_sum (by decide +kernel) (a_cons (d_comp rfl nd (i_it (d_slice false (d_var 0) o_none (o_some d_int))) (blkOk_by (own := [("_law_cell", 1)]) (N := n_l_deck) (sc := defScope s_l_deck) (by decide +kernel)) rfl (g_name 1) (by decide) (fun _ _ _ _ _ => (pg_name (i := 1) nd rfl (by first | exact Or.inl rfl | exact Or.inr rfl))) (fun _ _ _ _ _ => ts_nil) (fun _ _ _ _ _ => (d_bin o_mod (d_var 1) d_int))) a_nil)) a_nil))))))
theorem sc_l_draw : FnScope n_l_draw p_l_draw (defScope s_l_draw) := ⟨rfl, rfl, rfl, by decide +kernel, rfl, by decide +kernel, by decide +kernel⟩
theorem ok_l_draw (fu : Nat) (c : Cal P w K mg base T k C) : FnOk P w K mg base (L2.CX P w) (k + 20 + 1) T.a_l_draw T.f_l_draw p_l_draw (spD K mg (p_l_draw).length (runDef false 4 (b_l_draw fu C))) := by
  refine' fn_okL (N := n_l_draw) T.d_l_draw.fn sc_l_draw ?hB ?hS ?body
  case hB => conv => lhs; whnf
  case hS => conv => lhs; whnf
  case body =>
  intro cdv A outer s H E hr nd tk pw
  exact (ss_cons (s_sub (d_bin o_add (d_ix (d_var 0) d_int) d_int) (d_var 0) d_int)
 (ss_cons (s_set 2 nd (d_bin o_add (d_ix (d_var 0) d_int) (d_bin o_mul d_int (d_ix (d_var 0) d_int))))
 (ss_cons (s_if (t_cmp (o_ne (room_w hr)) (d_ix (d_var 0) d_int) (d_lst a_nil) (nomark _)) (ss_cons (s_set 2 nd (d_meth PySem.F.plainAttrs_list PySem.F.slot_list_pop PySem.F.type_list_pop m_pop (d_ix (d_var 0) d_int) (a_cons d_int a_nil)))
 (ss_one (s_if (t_cmp o_ge (d_var 2) (d_bin o_pow d_int d_int) (nomark _)) (ss_cons (s_expr (d_meth PySem.F.plainAttrs_list PySem.F.slot_list_insert PySem.F.type_list_insert m_insert (d_ix (d_var 0) d_int) (a_cons d_int (a_cons (d_bin o_div (d_var 2) (d_var 1)) a_nil))))
 (ss_one (s_ret (d_bin o_mod (d_var 2) (d_var 1))))) ss_nil))) ss_nil)
 (ss_cons (s_set 3 nd (d_bin o_mod (d_bin o_mul (d_bin o_add (d_bin o_mod (d_var 2) d_int) (d_bin o_mul d_int (d_ix (d_var 0) d_int))) d_int) d_int))
 (ss_cons (s_set 3 nd (d_bin o_mod (d_bin o_add (d_bin o_add (d_bin o_mul (d_var 3) (d_var 3)) (d_bin o_mul d_int (d_var 3))) (d_ix (d_var 0) d_int)) d_int))
 (ss_one (s_ret (d_bin o_mod (d_bin o_div (d_var 3) d_int) (d_var 1)))))))))
theorem sc_l_shuffle : FnScope n_l_shuffle p_l_shuffle (defScope s_l_shuffle) := ⟨rfl, rfl, rfl, by decide +kernel, rfl, by decide +kernel, by decide +kernel⟩
theorem ok_l_shuffle (fu : Nat) (c : Cal P w K mg base T k C) : FnOk P w K mg base (L2.CX P w) (k + 20 + 1) T.a_l_shuffle T.f_l_shuffle p_l_shuffle (spD K mg (p_l_shuffle).length (runDef false 5 (b_l_shuffle fu C))) := by
  refine' fn_okL (N := n_l_shuffle) T.d_l_shuffle.fn sc_l_shuffle ?hB ?hS ?body
  case hB => conv => lhs; whnf
  case hS => conv => lhs; whnf
  case body =>
  intro cdv A outer s H E hr nd tk pw
  exact (ss_cons (s_set 2 nd (d_ix (d_lst (a_cons (d_call c.l_draw hr rfl T.d_l_draw.mg T.d_l_draw.fn.kp T.d_l_draw.bi tk (a_cons (d_var 0) (a_cons d_int a_nil))) (a_cons (d_call c.l_draw hr rfl T.d_l_draw.mg T.d_l_draw.fn.kp T.d_l_draw.bi tk (a_cons (d_var 0) (a_cons d_int a_nil))) a_nil))) (d_callTy c_int (by rfl) T.z_int (by decide +kernel) (a_cons (d_cmp (o_eq (room_w hr)) (d_call c.l_draw hr rfl T.d_l_draw.mg T.d_l_draw.fn.kp T.d_l_draw.bi tk (a_cons (d_var 0) (a_cons d_int a_nil))) d_int (nomark _)) a_nil))))
 (ss_cons (s_set 3 nd d_str)
 (ss_cons (s_if (t_cmp o_gt (d_var 2) d_int (nomark _)) (ss_one (s_for pw rfl (i_range1 rfl T.z_range (a_cons (d_call c.l_draw hr rfl T.d_l_draw.mg T.d_l_draw.fn.kp T.d_l_draw.bi tk (a_cons (d_var 0) (a_cons (d_var 1) a_nil))) a_nil)) (g_name 4) (pg_name (i := 4) nd rfl (by first | exact Or.inl rfl | exact Or.inr rfl)) (ss_one (s_set 3 nd (d_bin o_add (d_var 3) (d_ix d_str (d_call c.l_draw hr rfl T.d_l_draw.mg T.d_l_draw.fn.kp T.d_l_draw.bi tk (a_cons (d_var 0) (a_cons (d_var 2) a_nil))))))))) ss_nil)
 (ss_one (s_ret (d_bin o_add (d_bin o_add (d_slice false d_str o_none (o_some (d_var 2))) d_str) (d_var 3)))))))
theorem sc_l_parts : FnScope n_l_parts p_l_parts (defScope s_l_parts) := ⟨rfl, rfl, rfl, by decide +kernel, rfl, by decide +kernel, by decide +kernel⟩
theorem ok_l_parts (fu : Nat) (c : Cal P w K mg base T k C) : FnOk P w K mg base (L2.CX P w) (k + 20 + 1) T.a_l_parts T.f_l_parts p_l_parts (spD K mg (p_l_parts).length (runDef false 4 (b_l_parts fu C))) := by
  refine' fn_okL (N := n_l_parts) T.d_l_parts.fn sc_l_parts ?hB ?hS ?body
  case hB => conv => lhs; whnf
  case hS => conv => lhs; whnf
  case body =>
  intro cdv A outer s H E hr nd tk pw
  exact (ss_cons (s_asg (d_meth PySem.F.plainAttrs_str PySem.F.slot_str_split PySem.F.type_str_split (m_split false) (d_var 0) (a_cons d_str a_nil)) (g_unl (gs_cons 1 (gs_cons 2 gs_nil))) (pg_unl rfl (pgs_cons (pg_name (i := 1) nd rfl (by first | exact Or.inl rfl | exact Or.inr rfl)) (pgs_cons (pg_name (i := 2) nd rfl (by first | exact Or.inl rfl | exact Or.inr rfl)) pgs_nil))))
 (ss_one (s_ret (d_tup (a_cons (d_callB c_len (by rfl) T.z_len (by decide +kernel) (a_cons (d_var 1) a_nil)) (a_cons (d_comp rfl nd (i_it (d_var 2)) (blkOk_by (own := [("_law_sign", 3)]) (N := n_l_parts) (sc := defScope s_l_parts) (by decide +kernel)) rfl (g_name 3) (by decide) (fun _ _ _ _ _ => (pg_name (i := 3) nd rfl (by first | exact Or.inl rfl | exact Or.inr rfl))) (fun _ _ _ _ _ => ts_nil) (fun _ _ _ _ _ => (d_meth PySem.F.plainAttrs_str PySem.F.slot_str_index PySem.F.type_str_index m_sindex (d_var 1) (a_cons (d_var 3) a_nil)))) a_nil))))))
theorem sc_l_is_shuffle : FnScope n_l_is_shuffle p_l_is_shuffle (defScope s_l_is_shuffle) := ⟨rfl, rfl, rfl, by decide +kernel, rfl, by decide +kernel, by decide +kernel⟩
theorem ok_l_is_shuffle (fu : Nat) (c : Cal P w K mg base T k C) : FnOk P w K mg base (L2.CX P w) (k + 20 + 1) T.a_l_is_shuffle T.f_l_is_shuffle p_l_is_shuffle (spD K mg (p_l_is_shuffle).length (runDef false 1 (b_l_is_shuffle fu C))) := by
  refine' fn_okL (N := n_l_is_shuffle) T.d_l_is_shuffle.fn sc_l_is_shuffle ?hB ?hS ?body
  case hB => conv => lhs; whnf
  case hS => conv => lhs; whnf
  case body =>
  intro cdv A outer s H E hr nd tk pw
  exact (ss_one (s_ret (d_and (d_isi "str" rfl T.z_isinstance (d_var 0) rfl T.z_str (by decide +kernel) (by decide)) (d_one (d_cmp (o_in (room_w hr)) d_str (d_var 0) (by rfl))))))
theorem sc_l_map : FnScope n_l_map p_l_map (defScope s_l_map) := ⟨rfl, rfl, rfl, by decide +kernel, rfl, by decide +kernel, by decide +kernel⟩
theorem ok_l_map (fu : Nat) (c : Cal P w K mg base T k C) : FnOk P w K mg base (L2.CX P w) (k + 20 + 1) T.a_l_map T.f_l_map p_l_map (spD K mg (p_l_map).length (runDef false 9 (b_l_map fu C))) := by
  refine' fn_okL (N := n_l_map) T.d_l_map.fn sc_l_map ?hB ?hS ?body
  case hB => conv => lhs; whnf
  case hS => conv => lhs; whnf
  case body =>
  intro cdv A outer s H E hr nd tk pw
  exact (ss_cons (s_set 1 nd (d_lstM a_nil))
 (ss_cons (s_set 2 nd d_int)
 (ss_cons (s_for pw rfl (i_it (d_var 0)) (g_name 3) (pg_name (i := 3) nd rfl (by first | exact Or.inl rfl | exact Or.inr rfl)) (ss_cons (s_asg (d_call c.l_parts hr rfl T.d_l_parts.mg T.d_l_parts.fn.kp T.d_l_parts.bi tk (a_cons (d_var 3) a_nil)) (g_tup (gs_cons 6 (gs_cons 4 gs_nil))) (pg_tup rfl (pgs_cons (pg_name (i := 6) nd rfl (by first | exact Or.inl rfl | exact Or.inr rfl)) (pgs_cons (pg_name (i := 4) nd rfl (by first | exact Or.inl rfl | exact Or.inr rfl)) pgs_nil))))
 (ss_cons (s_while fu pw (t_cmp o_lt (d_callB c_len (by rfl) T.z_len (by decide +kernel) (a_cons (d_var 1) a_nil)) (d_var 6) (nomark _)) (ss_cons (s_set 2 nd (d_bin o_add (d_var 2) d_int))
 (ss_one (s_expr (d_meth PySem.F.plainAttrs_list PySem.F.slot_list_insert PySem.F.type_list_insert m_insert (d_var 1) (a_cons d_int (a_cons (d_bin o_sub d_int (d_var 2)) a_nil)))))))
 (ss_cons (s_set 5 nd (d_slice false (d_var 1) (o_some (d_bin o_sub (d_callB c_len (by rfl) T.z_len (by decide +kernel) (a_cons (d_var 1) a_nil)) (d_var 6))) o_none))
 (ss_one (s_set 1 nd (d_bin o_addM (d_slice false (d_var 1) o_none (o_some (d_bin o_sub (d_callB c_len (by rfl) T.z_len (by decide +kernel) (a_cons (d_var 1) a_nil)) (d_var 6)))) (d_comp rfl nd (i_it (d_var 4)) (blkOk_by (own := [("_law_k", 8)]) (N := n_l_map) (sc := defScope s_l_map) (by decide +kernel)) rfl (g_name 8) (by decide) (fun _ _ _ _ _ => (pg_name (i := 8) nd rfl (by first | exact Or.inl rfl | exact Or.inr rfl))) (fun _ _ _ _ _ => ts_nil) (fun _ _ _ _ _ => (d_ix (d_var 5) (d_var 8)))))))))))
 (ss_cons (s_setLc 4 rfl nd (i_it (d_var 1)) (blkOk_by (own := [("_law_one", 7)]) (N := n_l_map) (sc := defScope s_l_map) (by decide +kernel)) rfl (g_name 7) (by decide) (fun _ _ _ _ _ => (pg_name (i := 7) nd rfl (by first | exact Or.inl rfl | exact Or.inr rfl))) (fun _ _ _ _ _ => ts_nil) (fun _ _ _ _ _ => (d_bin o_add (d_var 2) (d_var 7))))
 (ss_cons (s_while fu pw (PW.pt (w_and (t_cmp (o_eq (room_w hr)) (d_slice false (d_var 4) o_none (o_some d_int)) (d_lst (a_cons d_int a_nil)) (nomark _)) (w_one_and (t_cmp (o_eq (room_w hr)) (d_meth PySem.F.plainAttrs_list PySem.F.slot_list_count PySem.F.type_list_count m_count (d_var 4) (a_cons d_int a_nil)) d_int (nomark _))))) (ss_cons (s_set 2 nd (d_bin o_sub (d_var 2) d_int))
 (ss_one (s_setLc 4 rfl nd (i_it (d_slice false (d_var 4) (o_some d_int) o_none)) (blkOk_by (own := [("_law_one", 7)]) (N := n_l_map) (sc := defScope s_l_map) (by decide +kernel)) rfl (g_name 7) (by decide) (fun _ _ _ _ _ => (pg_name (i := 7) nd rfl (by first | exact Or.inl rfl | exact Or.inr rfl))) (fun _ _ _ _ _ => ts_nil) (fun _ _ _ _ _ => (d_bin o_sub (d_var 7) d_int))))))
 (ss_one (s_ret (d_tup (a_cons (d_var 2) (a_cons (d_var 4) a_nil))))))))))
theorem sc_l_map_word : FnScope n_l_map_word p_l_map_word (defScope s_l_map_word) := ⟨rfl, rfl, rfl, by decide +kernel, rfl, by decide +kernel, by decide +kernel⟩
theorem ok_l_map_word (fu : Nat) (c : Cal P w K mg base T k C) : FnOk P w K mg base (L2.CX P w) (k + 20 + 1) T.a_l_map_word T.f_l_map_word p_l_map_word (spD K mg (p_l_map_word).length (runDef false 3 (b_l_map_word fu C))) := by
  refine' fn_okL (N := n_l_map_word) T.d_l_map_word.fn sc_l_map_word ?hB ?hS ?body
  case hB => conv => lhs; whnf
  case hS => conv => lhs; whnf
  case body =>
  intro cdv A outer s H E hr nd tk pw
  exact (ss_cons (s_if (PW.pt (w_or (t_cmp o_gt (d_var 0) d_int (nomark _)) (w_one_or (t_cmp o_gt (d_callB c_len (by rfl) T.z_len (by decide +kernel) (a_cons (d_var 1) a_nil)) d_int (nomark _))))) (ss_one (s_ret d_non)) ss_nil)
 (ss_one (s_ret (d_bin o_add (d_bin o_add (d_slice false d_str o_none (o_some (d_var 0))) d_str) (d_meth PySem.F.plainAttrs_str PySem.F.slot_str_join PySem.F.type_str_join m_join d_str (a_cons (d_comp rfl nd (i_it (d_var 1)) (blkOk_by (own := [("_law_k", 2)]) (N := n_l_map_word) (sc := defScope s_l_map_word) (by decide +kernel)) rfl (g_name 2) (by decide) (fun _ _ _ _ _ => (pg_name (i := 2) nd rfl (by first | exact Or.inl rfl | exact Or.inr rfl))) (fun _ _ _ _ _ => ts_nil) (fun _ _ _ _ _ => (d_ix d_str (d_var 2)))) a_nil))))))
theorem sc_l_put : FnScope n_l_put p_l_put (defScope s_l_put) := ⟨rfl, rfl, rfl, by decide +kernel, rfl, by decide +kernel, by decide +kernel⟩
theorem ok_l_put (fu : Nat) (c : Cal P w K mg base T k C) : FnOk P w K mg base (L2.CX P w) (k + 20 + 1) T.a_l_put T.f_l_put p_l_put (spD K mg (p_l_put).length (runDef false 6 (b_l_put fu C))) := by
  refine' fn_okL (N := n_l_put) T.d_l_put.fn sc_l_put ?hB ?hS ?body
  case hB => conv => lhs; whnf
  case hS => conv => lhs; whnf
  case body =>
  intro cdv A outer s H E hr nd tk pw
  exact (ss_cons (s_set 4 nd (d_ix (d_var 1) d_int))
 (ss_cons (s_if (t_cmp (o_eq (room_w hr)) (d_callB c_len (by rfl) T.z_len (by decide +kernel) (a_cons (d_var 1) a_nil)) d_int (nomark _)) (ss_one (s_ret (d_bin o_add (d_bin o_add (d_slice false (d_var 0) o_none (o_some (d_var 4))) (d_var 3)) (d_slice false (d_var 0) (o_some (d_bin o_add (d_var 4) (d_var 2))) o_none)))) ss_nil)
 (ss_cons (s_set 5 nd (d_call c.l_put hr rfl T.d_l_put.mg T.d_l_put.fn.kp T.d_l_put.bi tk (a_cons (d_call c.l_inner hr rfl T.d_l_inner.mg T.d_l_inner.fn.kp T.d_l_inner.bi tk (a_cons (d_ix (d_var 0) (d_var 4)) a_nil)) (a_cons (d_slice false (d_var 1) (o_some d_int) o_none) (a_cons (d_var 2) (a_cons (d_var 3) a_nil))))))
 (ss_one (s_ret (d_bin o_add (d_bin o_add (d_slice false (d_var 0) o_none (o_some (d_var 4))) (d_tup (a_cons (d_call c.l_push hr rfl T.d_l_push.mg T.d_l_push.fn.kp T.d_l_push.bi tk (a_cons (d_var 5) a_nil)) a_nil))) (d_slice false (d_var 0) (o_some (d_bin o_add (d_var 4) d_int)) o_none)))))))
theorem sc_l_is_by : FnScope n_l_is_by p_l_is_by (defScope s_l_is_by) := ⟨rfl, rfl, rfl, by decide +kernel, rfl, by decide +kernel, by decide +kernel⟩
theorem ok_l_is_by (fu : Nat) (c : Cal P w K mg base T k C) : FnOk P w K mg base (L2.CX P w) (k + 20 + 1) T.a_l_is_by T.f_l_is_by p_l_is_by (spD K mg (p_l_is_by).length (runDef false 11 (b_l_is_by fu C))) := by
  refine' fn_okL (N := n_l_is_by) T.d_l_is_by.fn sc_l_is_by ?hB ?hS ?body
  case hB => conv => lhs; whnf
  case hS => conv => lhs; whnf
  case body =>
  intro cdv A outer s H E hr nd tk pw
  exact (ss_cons (s_if (t_cmp (o_eq (room_w hr)) (d_var 0) d_str (nomark _)) (ss_cons (s_setLc 5 rfl nd (i_it (d_bin o_add (d_var 1) (d_var 2))) (blkOk_by (own := [("_law_word_here", 9)]) (N := n_l_is_by) (sc := defScope s_l_is_by) (by decide +kernel)) rfl (g_name 9) (by decide) (fun _ _ _ _ _ => (pg_name (i := 9) nd rfl (by first | exact Or.inl rfl | exact Or.inr rfl))) (fun _ _ _ _ _ => ts_one (t_not (t_truth (d_call c.l_is_shuffle hr rfl T.d_l_is_shuffle.mg T.d_l_is_shuffle.fn.kp T.d_l_is_shuffle.bi takes0 (a_cons (d_var 9) a_nil))))) (fun _ _ _ _ _ => (d_var 9)))
 (ss_one (s_ret (d_and (d_cmp (o_eq (room_w hr)) (d_var 5) (d_lst a_nil) (nomark _)) (d_one (d_cmp (o_eq (room_w hr)) (d_call c.l_map hr rfl T.d_l_map.mg T.d_l_map.fn.kp T.d_l_map.bi tk (a_cons (d_var 1) a_nil)) (d_call c.l_map hr rfl T.d_l_map.mg T.d_l_map.fn.kp T.d_l_map.bi tk (a_cons (d_var 2) a_nil)) (nomark _))))))) ss_nil)
 (ss_cons (s_if (t_cmp (o_eq (room_w hr)) (d_var 1) (d_tup a_nil) (nomark _)) (ss_one (s_ret d_bl)) ss_nil)
 (ss_cons (s_if (t_cmp (o_eq (room_w hr)) (d_var 0) d_str (nomark _)) (ss_cons (s_set 6 nd (d_un o_neg d_int))
 (ss_cons (s_if (PW.pt (w_and (t_truth (d_isi "str" rfl T.z_isinstance (d_ix (d_var 1) (d_un o_neg d_int)) rfl T.z_str (by decide +kernel) (by decide))) (w_one_and (t_cmp (o_eq (room_w hr)) (d_comp rfl nd (i_it (d_slice false (d_var 1) o_none (o_some (d_un o_neg d_int)))) (blkOk_by (own := [("_law_word_here", 9)]) (N := n_l_is_by) (sc := defScope s_l_is_by) (by decide +kernel)) rfl (g_name 9) (by decide) (fun _ _ _ _ _ => (pg_name (i := 9) nd rfl (by first | exact Or.inl rfl | exact Or.inr rfl))) (fun _ _ _ _ _ => ts_one (t_truth (d_isi "str" rfl T.z_isinstance (d_var 9) rfl T.z_str (by decide +kernel) (by decide)))) (fun _ _ _ _ _ => (d_var 9))) (d_lst a_nil) (nomark _))))) (ss_one (s_set 6 nd (d_call c.l_takes hr rfl T.d_l_takes.mg T.d_l_takes.fn.kp T.d_l_takes.bi tk (a_cons (d_ix (d_var 1) (d_un o_neg d_int)) (a_cons (d_var 3) a_nil))))) ss_nil)
 (ss_cons (s_set 7 nd (d_bin o_sub (d_bin o_sub (d_callB c_len (by rfl) T.z_len (by decide +kernel) (a_cons (d_var 1) a_nil)) d_int) (d_var 6)))
 (ss_cons (s_if (PW.pt (w_or (t_cmp o_lt (d_var 6) d_int (nomark _)) (w_one_or (t_cmp o_lt (d_var 7) d_int (nomark _))))) (ss_one (s_ret d_bl)) ss_nil)
 (ss_cons (s_set 8 nd (d_call c.l_made hr rfl T.d_l_made.mg T.d_l_made.fn.kp T.d_l_made.bi tk (a_cons (d_ix (d_var 1) (d_un o_neg d_int)) (a_cons (d_comp rfl nd (i_it (d_slice false (d_var 1) (o_some (d_var 7)) (o_some (d_un o_neg d_int)))) (blkOk_by (own := [("_law_word_here", 9)]) (N := n_l_is_by) (sc := defScope s_l_is_by) (by decide +kernel)) rfl (g_name 9) (by decide) (fun _ _ _ _ _ => (pg_name (i := 9) nd rfl (by first | exact Or.inl rfl | exact Or.inr rfl))) (fun _ _ _ _ _ => ts_nil) (fun _ _ _ _ _ => (d_ix (d_var 9) d_int))) (a_cons (d_var 3) a_nil)))))
 (ss_one (s_ret (d_and (d_cmp o_isnot (d_var 8) d_non (nomark _)) (d_one (d_cmp (o_eq (room_w hr)) (d_var 2) (d_bin o_add (d_slice false (d_var 1) o_none (o_some (d_var 7))) (d_var 8)) (nomark _))))))))))) ss_nil)
 (ss_cons (s_if (PW.pt (w_and (t_cmp (o_eq (room_w hr)) (d_var 0) d_str (nomark _)) (w_and (t_cmp (o_eq (room_w hr)) (d_callB c_len (by rfl) T.z_len (by decide +kernel) (a_cons (d_var 2) a_nil)) d_int (nomark _)) (w_one_and (t_truth (d_call c.l_is_shuffle hr rfl T.d_l_is_shuffle.mg T.d_l_is_shuffle.fn.kp T.d_l_is_shuffle.bi tk (a_cons (d_ix (d_var 2) d_int) a_nil))))))) (ss_cons (s_setLc 4 rfl nd (i_it (d_call c.l_by_dips hr rfl T.d_l_by_dips.mg T.d_l_by_dips.fn.kp T.d_l_by_dips.bi tk (a_cons (d_var 1) (a_cons d_int a_nil)))) (blkOk_by (own := [("_law_one", 10)]) (N := n_l_is_by) (sc := defScope s_l_is_by) (by decide +kernel)) rfl (g_name 10) (by decide) (fun _ _ _ _ _ => (pg_name (i := 10) nd rfl (by first | exact Or.inl rfl | exact Or.inr rfl))) (fun _ _ _ _ _ => ts_one (PW.pt (w_and (t_cmp (o_eq (room_w hr)) (d_ix (d_var 10) d_int) (d_var 0) (nomark _)) (w_one_and (t_cmp (o_eq (room_w hr)) (d_ix (d_var 10) d_int) (d_callB c_len (by rfl) T.z_len (by decide +kernel) (a_cons (d_var 1) a_nil)) (nomark _)))))) (fun _ _ _ _ _ => (d_var 10)))
 (ss_one (s_ret (d_and (d_cmp (o_ne (room_w hr)) (d_var 4) (d_lst a_nil) (nomark _)) (d_one (d_cmp (o_eq (room_w hr)) (d_call c.l_map hr rfl T.d_l_map.mg T.d_l_map.fn.kp T.d_l_map.bi tk (a_cons (d_ix (d_ix (d_var 4) d_int) d_int) a_nil)) (d_call c.l_map hr rfl T.d_l_map.mg T.d_l_map.fn.kp T.d_l_map.bi tk (a_cons (d_var 2) a_nil)) (nomark _))))))) ss_nil)
 (ss_cons (s_set 4 nd (d_bin o_add (d_call c.l_by_maps hr rfl T.d_l_by_maps.mg T.d_l_by_maps.fn.kp T.d_l_by_maps.bi tk (a_cons (d_var 1) (a_cons d_int a_nil))) (d_call c.l_by_dips hr rfl T.d_l_by_dips.mg T.d_l_by_dips.fn.kp T.d_l_by_dips.bi tk (a_cons (d_var 1) (a_cons d_int a_nil)))))
 (ss_one (s_ret (d_cmp (o_in (room_w hr)) (d_tup (a_cons (d_callB c_len (by rfl) T.z_len (by decide +kernel) (a_cons (d_var 1) a_nil)) (a_cons (d_var 0) (a_cons (d_var 2) a_nil)))) (d_var 4) (by rfl)))))))))
theorem sc_l_turned_by : FnScope n_l_turned_by p_l_turned_by (defScope s_l_turned_by) := ⟨rfl, rfl, rfl, by decide +kernel, rfl, by decide +kernel, by decide +kernel⟩
theorem ok_l_turned_by (fu : Nat) (c : Cal P w K mg base T k C) : FnOk P w K mg base (L2.CX P w) (k + 20 + 1) T.a_l_turned_by T.f_l_turned_by p_l_turned_by (spD K mg (p_l_turned_by).length (runDef false 10 (b_l_turned_by fu C))) := by
  refine' fn_okL (N := n_l_turned_by) T.d_l_turned_by.fn sc_l_turned_by ?hB ?hS ?body
  case hB => conv => lhs; whnf
  case hS => conv => lhs; whnf
  case body =>
  intro cdv A outer s H E hr nd tk pw
  exact (ss_cons (s_asg (d_var 1) (g_tup (gs_cons 6 (gs_cons 7 (gs_cons 8 (gs_cons 9 gs_nil))))) (pg_tup rfl (pgs_cons (pg_name (i := 6) nd rfl (by first | exact Or.inl rfl | exact Or.inr rfl)) (pgs_cons (pg_name (i := 7) nd rfl (by first | exact Or.inl rfl | exact Or.inr rfl)) (pgs_cons (pg_name (i := 8) nd rfl (by first | exact Or.inl rfl | exact Or.inr rfl)) (pgs_cons (pg_name (i := 9) nd rfl (by first | exact Or.inl rfl | exact Or.inr rfl)) pgs_nil))))))
 (ss_cons (s_set 3 nd (d_var 0))
 (ss_cons (s_for pw rfl (i_it (d_slice false (d_var 6) o_none (o_some (d_un o_neg d_int)))) (g_name 4) (pg_name (i := 4) nd rfl (by first | exact Or.inl rfl | exact Or.inr rfl)) (ss_cons (s_if (PW.pt (w_or (t_cmp o_ge (d_var 4) (d_callB c_len (by rfl) T.z_len (by decide +kernel) (a_cons (d_var 3) a_nil)) (nomark _)) (w_one_or (t_not (t_truth (d_call c.l_is_entered hr rfl T.d_l_is_entered.mg T.d_l_is_entered.fn.kp T.d_l_is_entered.bi tk (a_cons (d_var 3) (a_cons (d_var 4) a_nil)))))))) (ss_one (s_ret d_non)) ss_nil)
 (ss_one (s_set 3 nd (d_call c.l_inner hr rfl T.d_l_inner.mg T.d_l_inner.fn.kp T.d_l_inner.bi tk (a_cons (d_ix (d_var 3) (d_var 4)) a_nil))))))
 (ss_cons (s_set 5 nd (d_slice false (d_var 3) (o_some (d_ix (d_var 6) (d_un o_neg d_int))) (o_some (d_bin o_add (d_ix (d_var 6) (d_un o_neg d_int)) (d_var 7)))))
 (ss_cons (s_if (PW.pt (w_or (t_cmp (o_ne (room_w hr)) (d_callB c_len (by rfl) T.z_len (by decide +kernel) (a_cons (d_var 5) a_nil)) (d_var 7) (nomark _)) (w_one_or (PW.pt (w_and (t_not (t_truth (d_call c.l_is_by hr rfl T.d_l_is_by.mg T.d_l_is_by.fn.kp T.d_l_is_by.bi tk (a_cons (d_var 8) (a_cons (d_var 5) (a_cons (d_var 9) (a_cons (d_var 2) a_nil))))))) (w_one_and (t_not (t_truth (d_call c.l_is_by hr rfl T.d_l_is_by.mg T.d_l_is_by.fn.kp T.d_l_is_by.bi tk (a_cons (d_var 8) (a_cons (d_var 9) (a_cons (d_var 5) (a_cons (d_var 2) a_nil))))))))))))) (ss_one (s_ret d_non)) ss_nil)
 (ss_one (s_ret (d_call c.l_put hr rfl T.d_l_put.mg T.d_l_put.fn.kp T.d_l_put.bi tk (a_cons (d_var 0) (a_cons (d_var 6) (a_cons (d_var 7) (a_cons (d_var 9) a_nil))))))))))))
theorem sc_l_leads : FnScope n_l_leads p_l_leads (defScope s_l_leads) := ⟨rfl, rfl, rfl, by decide +kernel, rfl, by decide +kernel, by decide +kernel⟩
theorem ok_l_leads (fu : Nat) (c : Cal P w K mg base T k C) : FnOk P w K mg base (L2.CX P w) (k + 20 + 1) T.a_l_leads T.f_l_leads p_l_leads (spD K mg (p_l_leads).length (runDef false 5 (b_l_leads fu C))) := by
  refine' fn_okL (N := n_l_leads) T.d_l_leads.fn sc_l_leads ?hB ?hS ?body
  case hB => conv => lhs; whnf
  case hS => conv => lhs; whnf
  case body =>
  intro cdv A outer s H E hr nd tk pw
  exact (ss_cons (s_for pw rfl (i_it (d_var 1)) (g_name 4) (pg_name (i := 4) nd rfl (by first | exact Or.inl rfl | exact Or.inr rfl)) (ss_one (s_if (t_cmp o_isnot (d_var 0) d_non (nomark _)) (ss_one (s_set 0 nd (d_call c.l_turned_by hr rfl T.d_l_turned_by.mg T.d_l_turned_by.fn.kp T.d_l_turned_by.bi tk (a_cons (d_var 0) (a_cons (d_var 4) (a_cons (d_var 3) a_nil)))))) ss_nil)))
 (ss_one (s_ret (d_cmp (o_eq (room_w hr)) (d_var 0) (d_var 2) (nomark _)))))
theorem sc_l_shuffles : FnScope n_l_shuffles p_l_shuffles (defScope s_l_shuffles) := ⟨rfl, rfl, rfl, by decide +kernel, rfl, by decide +kernel, by decide +kernel⟩
theorem ok_l_shuffles (fu : Nat) (c : Cal P w K mg base T k C) : FnOk P w K mg base (L2.CX P w) (k + 20 + 1) T.a_l_shuffles T.f_l_shuffles p_l_shuffles (spD K mg (p_l_shuffles).length (runDef false 3 (b_l_shuffles fu C))) := by
  refine' fn_okL (N := n_l_shuffles) T.d_l_shuffles.fn sc_l_shuffles ?hB ?hS ?body
  case hB => conv => lhs; whnf
  case hS => conv => lhs; whnf
  case body =>
  intro cdv A outer s H E hr nd tk pw
  exact (ss_one (s_ret (d_callTy c_tuple (by rfl) T.z_tuple (by decide +kernel) (a_cons (d_comp rfl nd (i_range1 rfl T.z_range (a_cons (d_call c.l_draw hr rfl T.d_l_draw.mg T.d_l_draw.fn.kp T.d_l_draw.bi tk (a_cons (d_var 0) (a_cons (d_bin o_add (d_var 1) d_int) a_nil))) a_nil)) (blkOk_by (own := [("_law_k", 2)]) (N := n_l_shuffles) (sc := defScope s_l_shuffles) (by decide +kernel)) rfl (g_name 2) (by decide) (fun _ _ _ _ _ => (pg_name (i := 2) nd rfl (by first | exact Or.inl rfl | exact Or.inr rfl))) (fun _ _ _ _ _ => ts_nil) (fun _ _ _ _ _ => (d_call c.l_shuffle hr rfl T.d_l_shuffle.mg T.d_l_shuffle.fn.kp T.d_l_shuffle.bi takes0 (a_cons (d_var 0) (a_cons d_int a_nil))))) a_nil))))
theorem sc_l_other : FnScope n_l_other p_l_other (defScope s_l_other) := ⟨rfl, rfl, rfl, by decide +kernel, rfl, by decide +kernel, by decide +kernel⟩
theorem ok_l_other (fu : Nat) (c : Cal P w K mg base T k C) : FnOk P w K mg base (L2.CX P w) (k + 20 + 1) T.a_l_other T.f_l_other p_l_other (spD K mg (p_l_other).length (runDef false 8 (b_l_other fu C))) := by
  refine' fn_okL (N := n_l_other) T.d_l_other.fn sc_l_other ?hB ?hS ?body
  case hB => conv => lhs; whnf
  case hS => conv => lhs; whnf
  case body =>
  intro cdv A outer s H E hr nd tk pw
  exact (ss_cons (s_set 2 nd (d_call c.l_draw hr rfl T.d_l_draw.mg T.d_l_draw.fn.kp T.d_l_draw.bi tk (a_cons (d_var 0) (a_cons d_int a_nil))))
 (ss_cons (s_set 3 nd (d_call c.l_draw hr rfl T.d_l_draw.mg T.d_l_draw.fn.kp T.d_l_draw.bi tk (a_cons (d_var 0) (a_cons (d_bin o_add (d_callB c_len (by rfl) T.z_len (by decide +kernel) (a_cons (d_var 1) a_nil)) d_int) a_nil))))
 (ss_cons (s_if (t_cmp (o_eq (room_w hr)) (d_var 2) d_int (nomark _)) (ss_one (s_ret (d_call c.l_shuffles hr rfl T.d_l_shuffles.mg T.d_l_shuffles.fn.kp T.d_l_shuffles.bi tk (a_cons (d_var 0) (a_cons d_int a_nil))))) ss_nil)
 (ss_cons (s_if (t_cmp (o_eq (room_w hr)) (d_var 2) d_int (nomark _)) (ss_one (s_ret (d_bin o_add (d_slice false (d_var 1) o_none (o_some (d_var 3))) (d_slice false (d_var 1) (o_some (d_bin o_add (d_var 3) d_int)) o_none)))) ss_nil)
 (ss_cons (s_if (t_cmp (o_eq (room_w hr)) (d_var 2) d_int (nomark _)) (ss_one (s_ret (d_bin o_add (d_bin o_add (d_slice false (d_var 1) o_none (o_some (d_var 3))) (d_tup (a_cons (d_ix (d_lst (a_cons d_str (a_cons d_str (a_cons d_str (a_cons d_str a_nil))))) (d_call c.l_draw hr rfl T.d_l_draw.mg T.d_l_draw.fn.kp T.d_l_draw.bi tk (a_cons (d_var 0) (a_cons d_int a_nil)))) a_nil))) (d_slice false (d_var 1) (o_some (d_var 3)) o_none)))) ss_nil)
 (ss_cons (s_if (t_cmp (o_eq (room_w hr)) (d_var 2) d_int (nomark _)) (ss_one (s_ret (d_slSt (d_var 1) o_none o_none (o_some (d_un o_neg d_int))))) ss_nil)
 (ss_cons (s_asg (d_call c.l_map hr rfl T.d_l_map.mg T.d_l_map.fn.kp T.d_l_map.bi tk (a_cons (d_slice false (d_var 1) (o_some (d_var 3)) (o_some (d_bin o_add (d_var 3) d_int))) a_nil)) (g_tup (gs_cons 5 (gs_cons 6 gs_nil))) (pg_tup rfl (pgs_cons (pg_name (i := 5) nd rfl (by first | exact Or.inl rfl | exact Or.inr rfl)) (pgs_cons (pg_name (i := 6) nd rfl (by first | exact Or.inl rfl | exact Or.inr rfl)) pgs_nil))))
 (ss_cons (s_set 4 nd (d_call c.l_map_word hr rfl T.d_l_map_word.mg T.d_l_map_word.fn.kp T.d_l_map_word.bi tk (a_cons (d_bin o_sub (d_bin o_add (d_var 5) (d_var 2)) d_int) (a_cons (d_bin o_add (d_lstR false rfl rfl T.z_list rfl T.z_range (d_bin o_sub (d_var 2) d_int)) (d_comp rfl nd (i_it (d_var 6)) (blkOk_by (own := [("_law_k", 7)]) (N := n_l_other) (sc := defScope s_l_other) (by decide +kernel)) rfl (g_name 7) (by decide) (fun _ _ _ _ _ => (pg_name (i := 7) nd rfl (by first | exact Or.inl rfl | exact Or.inr rfl))) (fun _ _ _ _ _ => ts_nil) (fun _ _ _ _ _ => (d_bin o_sub (d_bin o_add (d_var 7) (d_var 2)) d_int)))) a_nil))))
 (ss_cons (s_if (t_cmp o_is (d_var 4) d_non (nomark _)) (ss_one (s_ret (d_bin o_add (d_var 1) (d_tup (a_cons d_str (a_cons d_str a_nil)))))) ss_nil)
 (ss_one (s_ret (d_bin o_add (d_bin o_add (d_slice false (d_var 1) o_none (o_some (d_var 3))) (d_tup (a_cons (d_var 4) a_nil))) (d_slice false (d_var 1) (o_some (d_bin o_add (d_var 3) d_int)) o_none)))))))))))))
theorem sc_l_end : FnScope n_l_end p_l_end (defScope s_l_end) := ⟨rfl, rfl, rfl, by decide +kernel, rfl, by decide +kernel, by decide +kernel⟩
theorem ok_l_end (fu : Nat) (c : Cal P w K mg base T k C) : FnOk P w K mg base (L2.CX P w) (k + 20 + 1) T.a_l_end T.f_l_end p_l_end (spD K mg (p_l_end).length (runDef false 7 (b_l_end fu C))) := by
  refine' fn_okL (N := n_l_end) T.d_l_end.fn sc_l_end ?hB ?hS ?body
  case hB => conv => lhs; whnf
  case hS => conv => lhs; whnf
  case body =>
  intro cdv A outer s H E hr nd tk pw
  exact (ss_cons (s_set 1 nd (d_callTy c_list (by rfl) T.z_list (by decide +kernel) (a_cons (d_var 1) a_nil)))
 (ss_cons (s_for pw rfl (i_it (d_var 0)) (g_name 2) (pg_name (i := 2) nd rfl (by first | exact Or.inl rfl | exact Or.inr rfl)) (ss_cons (s_asg (d_call c.l_parts hr rfl T.d_l_parts.mg T.d_l_parts.fn.kp T.d_l_parts.bi tk (a_cons (d_var 2) a_nil)) (g_tup (gs_cons 4 (gs_cons 5 gs_nil))) (pg_tup rfl (pgs_cons (pg_name (i := 4) nd rfl (by first | exact Or.inl rfl | exact Or.inr rfl)) (pgs_cons (pg_name (i := 5) nd rfl (by first | exact Or.inl rfl | exact Or.inr rfl)) pgs_nil))))
 (ss_cons (s_if (t_cmp o_gt (d_var 4) (d_callB c_len (by rfl) T.z_len (by decide +kernel) (a_cons (d_var 1) a_nil)) (nomark _)) (ss_one (s_ret d_non)) ss_nil)
 (ss_cons (s_set 3 nd (d_slice false (d_var 1) (o_some (d_bin o_sub (d_callB c_len (by rfl) T.z_len (by decide +kernel) (a_cons (d_var 1) a_nil)) (d_var 4))) o_none))
 (ss_one (s_set 1 nd (d_bin o_add (d_slice false (d_var 1) o_none (o_some (d_bin o_sub (d_callB c_len (by rfl) T.z_len (by decide +kernel) (a_cons (d_var 1) a_nil)) (d_var 4)))) (d_comp rfl nd (i_it (d_var 5)) (blkOk_by (own := [("_law_k", 6)]) (N := n_l_end) (sc := defScope s_l_end) (by decide +kernel)) rfl (g_name 6) (by decide) (fun _ _ _ _ _ => (pg_name (i := 6) nd rfl (by first | exact Or.inl rfl | exact Or.inr rfl))) (fun _ _ _ _ _ => ts_nil) (fun _ _ _ _ _ => (d_ix (d_var 3) (d_var 6)))))))))))
 (ss_one (s_ret (d_var 1)))))
theorem sc_l_right : FnScope n_l_right p_l_right (defScope s_l_right) := ⟨rfl, rfl, rfl, by decide +kernel, rfl, by decide +kernel, by decide +kernel⟩
theorem ok_l_right (fu : Nat) (c : Cal P w K mg base T k C) : FnOk P w K mg base (L2.CX P w) (k + 20 + 1) T.a_l_right T.f_l_right p_l_right (spD K mg (p_l_right).length (runDef false 4 (b_l_right fu C))) := by
  refine' fn_okL (N := n_l_right) T.d_l_right.fn sc_l_right ?hB ?hS ?body
  case hB => conv => lhs; whnf
  case hS => conv => lhs; whnf
  case body =>
  intro cdv A outer s H E hr nd tk pw
  exact (ss_cons (s_set 2 nd (d_callN c.alike hr rfl T.d_alike.mg T.d_alike.fn.kp T.d_alike.bd tk (a_cons (d_var 0) (a_cons (d_var 1) a_nil))))
 (ss_cons (s_if (PW.pt (w_or (t_not (t_truth (d_isi "tuple" rfl T.z_isinstance (d_var 2) rfl T.z_tuple (by decide +kernel) (by decide)))) (w_one_or (t_cmp (o_ne (room_w hr)) (d_callB c_len (by rfl) T.z_len (by decide +kernel) (a_cons (d_var 2) a_nil)) d_int (nomark _))))) (ss_one (s_ret d_bl)) ss_nil)
 (ss_cons (s_if (t_cmp (o_eq (room_w hr)) (d_call c.l_map hr rfl T.d_l_map.mg T.d_l_map.fn.kp T.d_l_map.bi tk (a_cons (d_var 0) a_nil)) (d_call c.l_map hr rfl T.d_l_map.mg T.d_l_map.fn.kp T.d_l_map.bi tk (a_cons (d_var 1) a_nil)) (nomark _)) (ss_one (s_ret (d_and (d_cmp (o_eq (room_w hr)) (d_ix (d_var 2) d_int) d_str (nomark _)) (d_one (d_call c.l_leads hr rfl T.d_l_leads.mg T.d_l_leads.fn.kp T.d_l_leads.bi tk (a_cons (d_var 0) (a_cons (d_ix (d_var 2) d_int) (a_cons (d_var 1) (a_cons d_dnew a_nil))))))))) ss_nil)
 (ss_cons (s_if (t_cmp (o_ne (room_w hr)) (d_ix (d_var 2) d_int) d_str (nomark _)) (ss_one (s_ret d_bl)) ss_nil)
 (ss_cons (s_set 3 nd (d_lst (a_cons (d_call c.l_end hr rfl T.d_l_end.mg T.d_l_end.fn.kp T.d_l_end.bi tk (a_cons (d_var 0) (a_cons (d_ix (d_var 2) d_int) a_nil))) (a_cons (d_call c.l_end hr rfl T.d_l_end.mg T.d_l_end.fn.kp T.d_l_end.bi tk (a_cons (d_var 1) (a_cons (d_ix (d_var 2) d_int) a_nil))) a_nil))))
 (ss_one (s_ret (d_and (d_cmp (o_notin (room_w hr)) d_non (d_var 3) (by rfl)) (d_one (d_cmp (o_ne (room_w hr)) (d_ix (d_var 3) d_int) (d_ix (d_var 3) d_int) (nomark _)))))))))))
theorem sc_law : FnScope n_law p_law (defScope s_law) := ⟨rfl, rfl, rfl, by decide +kernel, rfl, by decide +kernel, by decide +kernel⟩
theorem ok_law (fu : Nat) (c : Cal P w K mg base T k C) : FnOk P w K mg base (L2.CX P w) (k + 20 + 1) T.a_law T.f_law p_law (spD K mg (p_law).length (runDef false 5 (b_law fu C))) := by
  refine' fn_okL (N := n_law) T.d_law.fn sc_law ?hB ?hS ?body
  case hB => conv => lhs; whnf
  case hS => conv => lhs; whnf
  case body =>
  intro cdv A outer s H E hr nd tk pw
  exact (ss_cons (s_set 1 nd (d_call c.l_deck hr rfl T.d_l_deck.mg T.d_l_deck.fn.kp T.d_l_deck.bi tk (a_cons (d_var 0) a_nil)))
 (ss_cons (s_for pw rfl (i_range1 rfl T.z_range (a_cons d_int a_nil)) (g_name 2) (pg_name (i := 2) nd rfl (by first | exact Or.inl rfl | exact Or.inr rfl)) (ss_cons (s_set 3 nd (d_call c.l_shuffles hr rfl T.d_l_shuffles.mg T.d_l_shuffles.fn.kp T.d_l_shuffles.bi tk (a_cons (d_var 1) (a_cons d_int a_nil))))
 (ss_cons (s_set 4 nd (d_call c.l_other hr rfl T.d_l_other.mg T.d_l_other.fn.kp T.d_l_other.bi tk (a_cons (d_var 1) (a_cons (d_var 3) a_nil))))
 (ss_one (s_if (PW.pt (w_or (t_not (t_truth (d_call c.l_right hr rfl T.d_l_right.mg T.d_l_right.fn.kp T.d_l_right.bi tk (a_cons (d_var 3) (a_cons (d_var 4) a_nil))))) (w_one_or (t_not (t_truth (d_call c.l_right hr rfl T.d_l_right.mg T.d_l_right.fn.kp T.d_l_right.bi tk (a_cons (d_var 4) (a_cons (d_var 3) a_nil)))))))) (ss_one (s_ret d_bl)) ss_nil)))))
 (ss_one (s_ret d_bl))))
theorem cal (fu : Nat) : ∀ n : Nat, Cal P w K mg base T n (den fu n)
  | 0 => ⟨fn_zero, fn_zero, fn_zero, fn_zero, fn_zero, fn_zero, fn_zero, fn_zero, fn_zero, fn_zero, fn_zero, fn_zero, fn_zero, fn_zero, fn_zero, fn_zero, fn_zero, fn_zero, fn_zero, fn_zero, fn_zero, fn_zero, fn_zero, fn_zero, fn_zero, fn_zero, fn_zero, fn_zero, fn_zero, fn_zero, fn_zero, fn_zero, fn_zero, fn_zero, fn_zero, fn_zero, fn_zero, fn_zero⟩
  | n + 1 => ⟨ok_is_shuffle fu (cal fu n), ok_taken_left fu (cal fu n), ok_least_map fu (cal fu n), ok_map_with fu (cal fu n), ok_whole_map fu (cal fu n), ok_map_of fu (cal fu n), ok_need_of fu (cal fu n), ok_parting fu (cal fu n), ok_said fu (cal fu n), fn_zero, fn_zero, ok_are_shuffles_alike fu (cal fu n), fn_zero, ok_of_shuffles fu (cal fu n), ok_alike fu (cal fu n), ok_l_deck fu (cal fu n), ok_l_draw fu (cal fu n), ok_l_shuffle fu (cal fu n), ok_l_parts fu (cal fu n), ok_l_is_shuffle fu (cal fu n), ok_l_map fu (cal fu n), ok_l_map_word fu (cal fu n), fn_zero, fn_zero, fn_zero, fn_zero, fn_zero, fn_zero, fn_zero, ok_l_put fu (cal fu n), ok_l_is_by fu (cal fu n), ok_l_turned_by fu (cal fu n), ok_l_leads fu (cal fu n), ok_l_shuffles fu (cal fu n), ok_l_other fu (cal fu n), ok_l_end fu (cal fu n), ok_l_right fu (cal fu n), ok_law fu (cal fu n)⟩
end
end K61

namespace K61
open PySem L2 PyProof.Rows DL
def txMk {K : PySem.W.Frag} {h : Heap} {mg : Str → Option Value} (X : K.In h) (G : h.Ns mainGlobals mg)
    {f1 : Addr} {od1 an1 : Option Addr} {sl1 : Array (Option Value)} {oc1 kV1 dc1 pm1 cd1 ct1 : Value}
    {f2 : Addr} {od2 an2 : Option Addr} {sl2 : Array (Option Value)} {oc2 kV2 dc2 pm2 cd2 ct2 : Value}
    {f3 : Addr} {od3 an3 : Option Addr} {sl3 : Array (Option Value)} {oc3 kV3 dc3 pm3 cd3 ct3 : Value}
    {f4 : Addr} {od4 an4 : Option Addr} {sl4 : Array (Option Value)} {oc4 kV4 dc4 pm4 cd4 ct4 : Value}
    {f5 : Addr} {od5 an5 : Option Addr} {sl5 : Array (Option Value)} {oc5 kV5 dc5 pm5 cd5 ct5 : Value}
    {f6 : Addr} {od6 an6 : Option Addr} {sl6 : Array (Option Value)} {oc6 kV6 dc6 pm6 cd6 ct6 : Value}
    {f7 : Addr} {od7 an7 : Option Addr} {sl7 : Array (Option Value)} {oc7 kV7 dc7 pm7 cd7 ct7 : Value}
    {f8 : Addr} {od8 an8 : Option Addr} {sl8 : Array (Option Value)} {oc8 kV8 dc8 pm8 cd8 ct8 : Value}
    {f9 : Addr} {od9 an9 : Option Addr} {sl9 : Array (Option Value)} {oc9 kV9 dc9 pm9 cd9 ct9 : Value}
    {f10 : Addr} {od10 an10 : Option Addr} {sl10 : Array (Option Value)} {oc10 kV10 dc10 pm10 cd10 ct10 : Value}
    {t10 : Addr} {tc10 : Value} {td10 : Option Addr} {tn10 : Nat} {ts10 : Array (Option Value)}
    {f11 : Addr} {od11 an11 : Option Addr} {sl11 : Array (Option Value)} {oc11 kV11 dc11 pm11 cd11 ct11 : Value}
    {t11 : Addr} {tc11 : Value} {td11 : Option Addr} {tn11 : Nat} {ts11 : Array (Option Value)}
    {f12 : Addr} {od12 an12 : Option Addr} {sl12 : Array (Option Value)} {oc12 kV12 dc12 pm12 cd12 ct12 : Value}
    {f13 : Addr} {od13 an13 : Option Addr} {sl13 : Array (Option Value)} {oc13 kV13 dc13 pm13 cd13 ct13 : Value}
    {f14 : Addr} {od14 an14 : Option Addr} {sl14 : Array (Option Value)} {oc14 kV14 dc14 pm14 cd14 ct14 : Value}
    {f15 : Addr} {od15 an15 : Option Addr} {sl15 : Array (Option Value)} {oc15 kV15 dc15 pm15 cd15 ct15 : Value}
    {t15 : Addr} {tc15 : Value} {td15 : Option Addr} {tn15 : Nat} {ts15 : Array (Option Value)}
    {f16 : Addr} {od16 an16 : Option Addr} {sl16 : Array (Option Value)} {oc16 kV16 dc16 pm16 cd16 ct16 : Value}
    {f17 : Addr} {od17 an17 : Option Addr} {sl17 : Array (Option Value)} {oc17 kV17 dc17 pm17 cd17 ct17 : Value}
    {f18 : Addr} {od18 an18 : Option Addr} {sl18 : Array (Option Value)} {oc18 kV18 dc18 pm18 cd18 ct18 : Value}
    {f19 : Addr} {od19 an19 : Option Addr} {sl19 : Array (Option Value)} {oc19 kV19 dc19 pm19 cd19 ct19 : Value}
    {f20 : Addr} {od20 an20 : Option Addr} {sl20 : Array (Option Value)} {oc20 kV20 dc20 pm20 cd20 ct20 : Value}
    {f21 : Addr} {od21 an21 : Option Addr} {sl21 : Array (Option Value)} {oc21 kV21 dc21 pm21 cd21 ct21 : Value}
    {f22 : Addr} {od22 an22 : Option Addr} {sl22 : Array (Option Value)} {oc22 kV22 dc22 pm22 cd22 ct22 : Value}
    {f23 : Addr} {od23 an23 : Option Addr} {sl23 : Array (Option Value)} {oc23 kV23 dc23 pm23 cd23 ct23 : Value}
    {f24 : Addr} {od24 an24 : Option Addr} {sl24 : Array (Option Value)} {oc24 kV24 dc24 pm24 cd24 ct24 : Value}
    {f25 : Addr} {od25 an25 : Option Addr} {sl25 : Array (Option Value)} {oc25 kV25 dc25 pm25 cd25 ct25 : Value}
    {f26 : Addr} {od26 an26 : Option Addr} {sl26 : Array (Option Value)} {oc26 kV26 dc26 pm26 cd26 ct26 : Value}
    {f27 : Addr} {od27 an27 : Option Addr} {sl27 : Array (Option Value)} {oc27 kV27 dc27 pm27 cd27 ct27 : Value}
    {f28 : Addr} {od28 an28 : Option Addr} {sl28 : Array (Option Value)} {oc28 kV28 dc28 pm28 cd28 ct28 : Value}
    {f29 : Addr} {od29 an29 : Option Addr} {sl29 : Array (Option Value)} {oc29 kV29 dc29 pm29 cd29 ct29 : Value}
    {f30 : Addr} {od30 an30 : Option Addr} {sl30 : Array (Option Value)} {oc30 kV30 dc30 pm30 cd30 ct30 : Value}
    {f31 : Addr} {od31 an31 : Option Addr} {sl31 : Array (Option Value)} {oc31 kV31 dc31 pm31 cd31 ct31 : Value}
    {f32 : Addr} {od32 an32 : Option Addr} {sl32 : Array (Option Value)} {oc32 kV32 dc32 pm32 cd32 ct32 : Value}
    {f33 : Addr} {od33 an33 : Option Addr} {sl33 : Array (Option Value)} {oc33 kV33 dc33 pm33 cd33 ct33 : Value}
    {f34 : Addr} {od34 an34 : Option Addr} {sl34 : Array (Option Value)} {oc34 kV34 dc34 pm34 cd34 ct34 : Value}
    {f35 : Addr} {od35 an35 : Option Addr} {sl35 : Array (Option Value)} {oc35 kV35 dc35 pm35 cd35 ct35 : Value}
    {f36 : Addr} {od36 an36 : Option Addr} {sl36 : Array (Option Value)} {oc36 kV36 dc36 pm36 cd36 ct36 : Value}
    {f37 : Addr} {od37 an37 : Option Addr} {sl37 : Array (Option Value)} {oc37 kV37 dc37 pm37 cd37 ct37 : Value}
    {f38 : Addr} {od38 an38 : Option Addr} {sl38 : Array (Option Value)} {oc38 kV38 dc38 pm38 cd38 ct38 : Value}
    {eNoShuffle : Addr}
    {t_LETTERS : Tok}
    {t_MOST_LEFT_shuffles : Tok}
    (a1 : PySem.W.nsIn K mainGlobals "is_shuffle" = some (some (.ref f1))) (l1 : K.lookup f1 = some ⟨oc1, od1, .func (PySem.W.fnOf "is_shuffle" "is_shuffle" (defArgs s_is_shuffle) (defBody s_is_shuffle) (defScope s_is_shuffle) .none kV1 dc1 pm1 an1 cd1 ct1), sl1⟩) (c1 : PySem.W.codeIn K cd1 "is_shuffle" = true) (k1 : PySem.W.keepIn K (.ref f1) = true)
    (a2 : PySem.W.nsIn K mainGlobals "taken_left" = some (some (.ref f2))) (l2 : K.lookup f2 = some ⟨oc2, od2, .func (PySem.W.fnOf "taken_left" "taken_left" (defArgs s_taken_left) (defBody s_taken_left) (defScope s_taken_left) .none kV2 dc2 pm2 an2 cd2 ct2), sl2⟩) (c2 : PySem.W.codeIn K cd2 "taken_left" = true) (k2 : PySem.W.keepIn K (.ref f2) = true)
    (a3 : PySem.W.nsIn K mainGlobals "least_map" = some (some (.ref f3))) (l3 : K.lookup f3 = some ⟨oc3, od3, .func (PySem.W.fnOf "least_map" "least_map" (defArgs s_least_map) (defBody s_least_map) (defScope s_least_map) .none kV3 dc3 pm3 an3 cd3 ct3), sl3⟩) (c3 : PySem.W.codeIn K cd3 "least_map" = true) (k3 : PySem.W.keepIn K (.ref f3) = true)
    (a4 : PySem.W.nsIn K mainGlobals "map_with" = some (some (.ref f4))) (l4 : K.lookup f4 = some ⟨oc4, od4, .func (PySem.W.fnOf "map_with" "map_with" (defArgs s_map_with) (defBody s_map_with) (defScope s_map_with) .none kV4 dc4 pm4 an4 cd4 ct4), sl4⟩) (c4 : PySem.W.codeIn K cd4 "map_with" = true) (k4 : PySem.W.keepIn K (.ref f4) = true)
    (a5 : PySem.W.nsIn K mainGlobals "whole_map" = some (some (.ref f5))) (l5 : K.lookup f5 = some ⟨oc5, od5, .func (PySem.W.fnOf "whole_map" "whole_map" (defArgs s_whole_map) (defBody s_whole_map) (defScope s_whole_map) .none kV5 dc5 pm5 an5 cd5 ct5), sl5⟩) (c5 : PySem.W.codeIn K cd5 "whole_map" = true) (k5 : PySem.W.keepIn K (.ref f5) = true)
    (a6 : PySem.W.nsIn K mainGlobals "map_of" = some (some (.ref f6))) (l6 : K.lookup f6 = some ⟨oc6, od6, .func (PySem.W.fnOf "map_of" "map_of" (defArgs s_map_of) (defBody s_map_of) (defScope s_map_of) .none kV6 dc6 pm6 an6 cd6 ct6), sl6⟩) (c6 : PySem.W.codeIn K cd6 "map_of" = true) (k6 : PySem.W.keepIn K (.ref f6) = true)
    (a7 : PySem.W.nsIn K mainGlobals "need_of" = some (some (.ref f7))) (l7 : K.lookup f7 = some ⟨oc7, od7, .func (PySem.W.fnOf "need_of" "need_of" (defArgs s_need_of) (defBody s_need_of) (defScope s_need_of) .none kV7 dc7 pm7 an7 cd7 ct7), sl7⟩) (c7 : PySem.W.codeIn K cd7 "need_of" = true) (k7 : PySem.W.keepIn K (.ref f7) = true)
    (a8 : PySem.W.nsIn K mainGlobals "parting" = some (some (.ref f8))) (l8 : K.lookup f8 = some ⟨oc8, od8, .func (PySem.W.fnOf "parting" "parting" (defArgs s_parting) (defBody s_parting) (defScope s_parting) .none kV8 dc8 pm8 an8 cd8 ct8), sl8⟩) (c8 : PySem.W.codeIn K cd8 "parting" = true) (k8 : PySem.W.keepIn K (.ref f8) = true)
    (a9 : PySem.W.nsIn K mainGlobals "said" = some (some (.ref f9))) (l9 : K.lookup f9 = some ⟨oc9, od9, .func (PySem.W.fnOf "said" "said" (defArgs s_said) (defBody s_said) (defScope s_said) .none kV9 dc9 pm9 an9 cd9 ct9), sl9⟩) (c9 : PySem.W.codeIn K cd9 "said" = true) (k9 : PySem.W.keepIn K (.ref f9) = true)
    (a10 : PySem.W.nsIn K mainGlobals "turned_back" = some (some (.ref f10))) (l10 : K.lookup f10 = some ⟨oc10, od10, .func (PySem.W.fnOf "turned_back" "turned_back" (defArgs s_turned_back) (defBody s_turned_back) (defScope s_turned_back) (.ref t10) kV10 dc10 pm10 an10 cd10 ct10), sl10⟩) (c10 : PySem.W.codeIn K cd10 "turned_back" = true) (k10 : PySem.W.keepIn K (.ref f10) = true) (q10 : K.lookup t10 = some ⟨tc10, td10, .seq #[.none] tn10, ts10⟩)
    (a11 : PySem.W.nsIn K mainGlobals "shorter" = some (some (.ref f11))) (l11 : K.lookup f11 = some ⟨oc11, od11, .func (PySem.W.fnOf "shorter" "shorter" (defArgs s_shorter) (defBody s_shorter) (defScope s_shorter) (.ref t11) kV11 dc11 pm11 an11 cd11 ct11), sl11⟩) (c11 : PySem.W.codeIn K cd11 "shorter" = true) (k11 : PySem.W.keepIn K (.ref f11) = true) (q11 : K.lookup t11 = some ⟨tc11, td11, .seq #[.none] tn11, ts11⟩)
    (a12 : PySem.W.nsIn K mainGlobals "are_shuffles_alike" = some (some (.ref f12))) (l12 : K.lookup f12 = some ⟨oc12, od12, .func (PySem.W.fnOf "are_shuffles" "are_shuffles" (defArgs s_are_shuffles_alike) (defBody s_are_shuffles_alike) (defScope s_are_shuffles_alike) .none kV12 dc12 pm12 an12 cd12 ct12), sl12⟩) (c12 : PySem.W.codeIn K cd12 "are_shuffles" = true) (k12 : PySem.W.keepIn K (.ref f12) = true)
    (a13 : PySem.W.nsIn K mainGlobals "parted_on" = some (some (.ref f13))) (l13 : K.lookup f13 = some ⟨oc13, od13, .func (PySem.W.fnOf "parted_on" "parted_on" (defArgs s_parted_on) (defBody s_parted_on) (defScope s_parted_on) .none kV13 dc13 pm13 an13 cd13 ct13), sl13⟩) (c13 : PySem.W.codeIn K cd13 "parted_on" = true) (k13 : PySem.W.keepIn K (.ref f13) = true)
    (a14 : PySem.W.nsIn K mainGlobals "of_shuffles" = some (some (.ref f14))) (l14 : K.lookup f14 = some ⟨oc14, od14, .func (PySem.W.fnOf "of_shuffles" "of_shuffles" (defArgs s_of_shuffles) (defBody s_of_shuffles) (defScope s_of_shuffles) .none kV14 dc14 pm14 an14 cd14 ct14), sl14⟩) (c14 : PySem.W.codeIn K cd14 "of_shuffles" = true) (k14 : PySem.W.keepIn K (.ref f14) = true)
    (a15 : PySem.W.nsIn K mainGlobals "alike" = some (some (.ref f15))) (l15 : K.lookup f15 = some ⟨oc15, od15, .func (PySem.W.fnOf "alike" "alike" (defArgs s_alike) (defBody s_alike) (defScope s_alike) (.ref t15) kV15 dc15 pm15 an15 cd15 ct15), sl15⟩) (c15 : PySem.W.codeIn K cd15 "alike" = true) (k15 : PySem.W.keepIn K (.ref f15) = true) (q15 : K.lookup t15 = some ⟨tc15, td15, .seq #[.none] tn15, ts15⟩)
    (a16 : PySem.W.nsIn K mainGlobals "_law_deck" = some (some (.ref f16))) (l16 : K.lookup f16 = some ⟨oc16, od16, .func (PySem.W.fnOf "_law_deck" "_law_deck" (defArgs s_l_deck) (defBody s_l_deck) (defScope s_l_deck) .none kV16 dc16 pm16 an16 cd16 ct16), sl16⟩) (c16 : PySem.W.codeIn K cd16 "_law_deck" = true) (k16 : PySem.W.keepIn K (.ref f16) = true)
    (a17 : PySem.W.nsIn K mainGlobals "_law_draw" = some (some (.ref f17))) (l17 : K.lookup f17 = some ⟨oc17, od17, .func (PySem.W.fnOf "_law_draw" "_law_draw" (defArgs s_l_draw) (defBody s_l_draw) (defScope s_l_draw) .none kV17 dc17 pm17 an17 cd17 ct17), sl17⟩) (c17 : PySem.W.codeIn K cd17 "_law_draw" = true) (k17 : PySem.W.keepIn K (.ref f17) = true)
    (a18 : PySem.W.nsIn K mainGlobals "_law_shuffle" = some (some (.ref f18))) (l18 : K.lookup f18 = some ⟨oc18, od18, .func (PySem.W.fnOf "_law_shuffle" "_law_shuffle" (defArgs s_l_shuffle) (defBody s_l_shuffle) (defScope s_l_shuffle) .none kV18 dc18 pm18 an18 cd18 ct18), sl18⟩) (c18 : PySem.W.codeIn K cd18 "_law_shuffle" = true) (k18 : PySem.W.keepIn K (.ref f18) = true)
    (a19 : PySem.W.nsIn K mainGlobals "_law_parts" = some (some (.ref f19))) (l19 : K.lookup f19 = some ⟨oc19, od19, .func (PySem.W.fnOf "_law_parts" "_law_parts" (defArgs s_l_parts) (defBody s_l_parts) (defScope s_l_parts) .none kV19 dc19 pm19 an19 cd19 ct19), sl19⟩) (c19 : PySem.W.codeIn K cd19 "_law_parts" = true) (k19 : PySem.W.keepIn K (.ref f19) = true)
    (a20 : PySem.W.nsIn K mainGlobals "_law_is_shuffle" = some (some (.ref f20))) (l20 : K.lookup f20 = some ⟨oc20, od20, .func (PySem.W.fnOf "_law_is_shuffle" "_law_is_shuffle" (defArgs s_l_is_shuffle) (defBody s_l_is_shuffle) (defScope s_l_is_shuffle) .none kV20 dc20 pm20 an20 cd20 ct20), sl20⟩) (c20 : PySem.W.codeIn K cd20 "_law_is_shuffle" = true) (k20 : PySem.W.keepIn K (.ref f20) = true)
    (a21 : PySem.W.nsIn K mainGlobals "_law_map" = some (some (.ref f21))) (l21 : K.lookup f21 = some ⟨oc21, od21, .func (PySem.W.fnOf "_law_map" "_law_map" (defArgs s_l_map) (defBody s_l_map) (defScope s_l_map) .none kV21 dc21 pm21 an21 cd21 ct21), sl21⟩) (c21 : PySem.W.codeIn K cd21 "_law_map" = true) (k21 : PySem.W.keepIn K (.ref f21) = true)
    (a22 : PySem.W.nsIn K mainGlobals "_law_map_word" = some (some (.ref f22))) (l22 : K.lookup f22 = some ⟨oc22, od22, .func (PySem.W.fnOf "_law_map_word" "_law_map_word" (defArgs s_l_map_word) (defBody s_l_map_word) (defScope s_l_map_word) .none kV22 dc22 pm22 an22 cd22 ct22), sl22⟩) (c22 : PySem.W.codeIn K cd22 "_law_map_word" = true) (k22 : PySem.W.keepIn K (.ref f22) = true)
    (a23 : PySem.W.nsIn K mainGlobals "_law_push" = some (some (.ref f23))) (l23 : K.lookup f23 = some ⟨oc23, od23, .func (PySem.W.fnOf "_law_push" "_law_push" (defArgs s_l_push) (defBody s_l_push) (defScope s_l_push) .none kV23 dc23 pm23 an23 cd23 ct23), sl23⟩) (c23 : PySem.W.codeIn K cd23 "_law_push" = true) (k23 : PySem.W.keepIn K (.ref f23) = true)
    (a24 : PySem.W.nsIn K mainGlobals "_law_inner" = some (some (.ref f24))) (l24 : K.lookup f24 = some ⟨oc24, od24, .func (PySem.W.fnOf "_law_inner" "_law_inner" (defArgs s_l_inner) (defBody s_l_inner) (defScope s_l_inner) .none kV24 dc24 pm24 an24 cd24 ct24), sl24⟩) (c24 : PySem.W.codeIn K cd24 "_law_inner" = true) (k24 : PySem.W.keepIn K (.ref f24) = true)
    (a25 : PySem.W.nsIn K mainGlobals "_law_takes" = some (some (.ref f25))) (l25 : K.lookup f25 = some ⟨oc25, od25, .func (PySem.W.fnOf "_law_takes" "_law_takes" (defArgs s_l_takes) (defBody s_l_takes) (defScope s_l_takes) .none kV25 dc25 pm25 an25 cd25 ct25), sl25⟩) (c25 : PySem.W.codeIn K cd25 "_law_takes" = true) (k25 : PySem.W.keepIn K (.ref f25) = true)
    (a26 : PySem.W.nsIn K mainGlobals "_law_made" = some (some (.ref f26))) (l26 : K.lookup f26 = some ⟨oc26, od26, .func (PySem.W.fnOf "_law_made" "_law_made" (defArgs s_l_made) (defBody s_l_made) (defScope s_l_made) .none kV26 dc26 pm26 an26 cd26 ct26), sl26⟩) (c26 : PySem.W.codeIn K cd26 "_law_made" = true) (k26 : PySem.W.keepIn K (.ref f26) = true)
    (a27 : PySem.W.nsIn K mainGlobals "_law_by_maps" = some (some (.ref f27))) (l27 : K.lookup f27 = some ⟨oc27, od27, .func (PySem.W.fnOf "_law_by_maps" "_law_by_maps" (defArgs s_l_by_maps) (defBody s_l_by_maps) (defScope s_l_by_maps) .none kV27 dc27 pm27 an27 cd27 ct27), sl27⟩) (c27 : PySem.W.codeIn K cd27 "_law_by_maps" = true) (k27 : PySem.W.keepIn K (.ref f27) = true)
    (a28 : PySem.W.nsIn K mainGlobals "_law_by_dips" = some (some (.ref f28))) (l28 : K.lookup f28 = some ⟨oc28, od28, .func (PySem.W.fnOf "_law_by_dips" "_law_by_dips" (defArgs s_l_by_dips) (defBody s_l_by_dips) (defScope s_l_by_dips) .none kV28 dc28 pm28 an28 cd28 ct28), sl28⟩) (c28 : PySem.W.codeIn K cd28 "_law_by_dips" = true) (k28 : PySem.W.keepIn K (.ref f28) = true)
    (a29 : PySem.W.nsIn K mainGlobals "_law_is_entered" = some (some (.ref f29))) (l29 : K.lookup f29 = some ⟨oc29, od29, .func (PySem.W.fnOf "_law_is_entered" "_law_is_entered" (defArgs s_l_is_entered) (defBody s_l_is_entered) (defScope s_l_is_entered) .none kV29 dc29 pm29 an29 cd29 ct29), sl29⟩) (c29 : PySem.W.codeIn K cd29 "_law_is_entered" = true) (k29 : PySem.W.keepIn K (.ref f29) = true)
    (a30 : PySem.W.nsIn K mainGlobals "_law_put" = some (some (.ref f30))) (l30 : K.lookup f30 = some ⟨oc30, od30, .func (PySem.W.fnOf "_law_put" "_law_put" (defArgs s_l_put) (defBody s_l_put) (defScope s_l_put) .none kV30 dc30 pm30 an30 cd30 ct30), sl30⟩) (c30 : PySem.W.codeIn K cd30 "_law_put" = true) (k30 : PySem.W.keepIn K (.ref f30) = true)
    (a31 : PySem.W.nsIn K mainGlobals "_law_is_by" = some (some (.ref f31))) (l31 : K.lookup f31 = some ⟨oc31, od31, .func (PySem.W.fnOf "_law_is_by" "_law_is_by" (defArgs s_l_is_by) (defBody s_l_is_by) (defScope s_l_is_by) .none kV31 dc31 pm31 an31 cd31 ct31), sl31⟩) (c31 : PySem.W.codeIn K cd31 "_law_is_by" = true) (k31 : PySem.W.keepIn K (.ref f31) = true)
    (a32 : PySem.W.nsIn K mainGlobals "_law_turned_by" = some (some (.ref f32))) (l32 : K.lookup f32 = some ⟨oc32, od32, .func (PySem.W.fnOf "_law_turned_by" "_law_turned_by" (defArgs s_l_turned_by) (defBody s_l_turned_by) (defScope s_l_turned_by) .none kV32 dc32 pm32 an32 cd32 ct32), sl32⟩) (c32 : PySem.W.codeIn K cd32 "_law_turned_by" = true) (k32 : PySem.W.keepIn K (.ref f32) = true)
    (a33 : PySem.W.nsIn K mainGlobals "_law_leads" = some (some (.ref f33))) (l33 : K.lookup f33 = some ⟨oc33, od33, .func (PySem.W.fnOf "_law_leads" "_law_leads" (defArgs s_l_leads) (defBody s_l_leads) (defScope s_l_leads) .none kV33 dc33 pm33 an33 cd33 ct33), sl33⟩) (c33 : PySem.W.codeIn K cd33 "_law_leads" = true) (k33 : PySem.W.keepIn K (.ref f33) = true)
    (a34 : PySem.W.nsIn K mainGlobals "_law_shuffles" = some (some (.ref f34))) (l34 : K.lookup f34 = some ⟨oc34, od34, .func (PySem.W.fnOf "_law_shuffles" "_law_shuffles" (defArgs s_l_shuffles) (defBody s_l_shuffles) (defScope s_l_shuffles) .none kV34 dc34 pm34 an34 cd34 ct34), sl34⟩) (c34 : PySem.W.codeIn K cd34 "_law_shuffles" = true) (k34 : PySem.W.keepIn K (.ref f34) = true)
    (a35 : PySem.W.nsIn K mainGlobals "_law_other" = some (some (.ref f35))) (l35 : K.lookup f35 = some ⟨oc35, od35, .func (PySem.W.fnOf "_law_other" "_law_other" (defArgs s_l_other) (defBody s_l_other) (defScope s_l_other) .none kV35 dc35 pm35 an35 cd35 ct35), sl35⟩) (c35 : PySem.W.codeIn K cd35 "_law_other" = true) (k35 : PySem.W.keepIn K (.ref f35) = true)
    (a36 : PySem.W.nsIn K mainGlobals "_law_end" = some (some (.ref f36))) (l36 : K.lookup f36 = some ⟨oc36, od36, .func (PySem.W.fnOf "_law_end" "_law_end" (defArgs s_l_end) (defBody s_l_end) (defScope s_l_end) .none kV36 dc36 pm36 an36 cd36 ct36), sl36⟩) (c36 : PySem.W.codeIn K cd36 "_law_end" = true) (k36 : PySem.W.keepIn K (.ref f36) = true)
    (a37 : PySem.W.nsIn K mainGlobals "_law_right" = some (some (.ref f37))) (l37 : K.lookup f37 = some ⟨oc37, od37, .func (PySem.W.fnOf "_law_right" "_law_right" (defArgs s_l_right) (defBody s_l_right) (defScope s_l_right) .none kV37 dc37 pm37 an37 cd37 ct37), sl37⟩) (c37 : PySem.W.codeIn K cd37 "_law_right" = true) (k37 : PySem.W.keepIn K (.ref f37) = true)
    (a38 : PySem.W.nsIn K mainGlobals "law" = some (some (.ref f38))) (l38 : K.lookup f38 = some ⟨oc38, od38, .func (PySem.W.fnOf "law" "law" (defArgs s_law) (defBody s_law) (defScope s_law) .none kV38 dc38 pm38 an38 cd38 ct38), sl38⟩) (c38 : PySem.W.codeIn K cd38 "law" = true) (k38 : PySem.W.keepIn K (.ref f38) = true)
    (z_all : PySem.W.nsIn K mainGlobals "all" = some none)
    (z_int : PySem.W.nsIn K mainGlobals "int" = some none)
    (z_isinstance : PySem.W.nsIn K mainGlobals "isinstance" = some none)
    (z_len : PySem.W.nsIn K mainGlobals "len" = some none)
    (z_list : PySem.W.nsIn K mainGlobals "list" = some none)
    (z_max : PySem.W.nsIn K mainGlobals "max" = some none)
    (z_range : PySem.W.nsIn K mainGlobals "range" = some none)
    (z_str : PySem.W.nsIn K mainGlobals "str" = some none)
    (z_sum : PySem.W.nsIn K mainGlobals "sum" = some none)
    (z_tuple : PySem.W.nsIn K mainGlobals "tuple" = some none)
    (xg_NoShuffle : PySem.W.nsIn K mainGlobals "NoShuffle" = some (some (.ref eNoShuffle)))
    (xb_NoShuffle : PySem.W.subIn K (.ref eNoShuffle) (.type "BaseException") = some true)
    (xt_NoShuffle : PySem.W.typeIn K (.ref eNoShuffle) = some (.type "type"))
    (xx_NoShuffle : PySem.W.excIn K eNoShuffle veB "ValueError.__new__" = true)
    (xk_NoShuffle : PySem.W.keepIn K (.ref eNoShuffle) = true)
    (n_LETTERS : PySem.W.nsIn K mainGlobals "LETTERS" = some (some (.str "abcdefgh" t_LETTERS)))
    (n_MOST_LEFT_shuffles : PySem.W.nsIn K mainGlobals "MOST_LEFT_shuffles" = some (some (.int 12 t_MOST_LEFT_shuffles))) : Tx K mg where
  a_is_shuffle := f1
  f_is_shuffle := PySem.W.fnOf "is_shuffle" "is_shuffle" (defArgs s_is_shuffle) (defBody s_is_shuffle) (defScope s_is_shuffle) .none kV1 dc1 pm1 an1 cd1 ct1
  d_is_shuffle := ⟨fun_mk (st := s_is_shuffle) l1 c1 k1, PySem.W.mg_of X G a1, (fun_mk (st := s_is_shuffle) l1 c1 k1).binds (ps := p_is_shuffle) fun _ _ _ _ _ _ us hl => match us, hl with | [_], _ => rfl⟩
  a_taken_left := f2
  f_taken_left := PySem.W.fnOf "taken_left" "taken_left" (defArgs s_taken_left) (defBody s_taken_left) (defScope s_taken_left) .none kV2 dc2 pm2 an2 cd2 ct2
  d_taken_left := ⟨fun_mk (st := s_taken_left) l2 c2 k2, PySem.W.mg_of X G a2, (fun_mk (st := s_taken_left) l2 c2 k2).binds (ps := p_taken_left) fun _ _ _ _ _ _ us hl => match us, hl with | [_], _ => rfl⟩
  a_least_map := f3
  f_least_map := PySem.W.fnOf "least_map" "least_map" (defArgs s_least_map) (defBody s_least_map) (defScope s_least_map) .none kV3 dc3 pm3 an3 cd3 ct3
  d_least_map := ⟨fun_mk (st := s_least_map) l3 c3 k3, PySem.W.mg_of X G a3, (fun_mk (st := s_least_map) l3 c3 k3).binds (ps := p_least_map) fun _ _ _ _ _ _ us hl => match us, hl with | [_, _], _ => rfl⟩
  a_map_with := f4
  f_map_with := PySem.W.fnOf "map_with" "map_with" (defArgs s_map_with) (defBody s_map_with) (defScope s_map_with) .none kV4 dc4 pm4 an4 cd4 ct4
  d_map_with := ⟨fun_mk (st := s_map_with) l4 c4 k4, PySem.W.mg_of X G a4, (fun_mk (st := s_map_with) l4 c4 k4).binds (ps := p_map_with) fun _ _ _ _ _ _ us hl => match us, hl with | [_, _, _], _ => rfl⟩
  a_whole_map := f5
  f_whole_map := PySem.W.fnOf "whole_map" "whole_map" (defArgs s_whole_map) (defBody s_whole_map) (defScope s_whole_map) .none kV5 dc5 pm5 an5 cd5 ct5
  d_whole_map := ⟨fun_mk (st := s_whole_map) l5 c5 k5, PySem.W.mg_of X G a5, (fun_mk (st := s_whole_map) l5 c5 k5).binds (ps := p_whole_map) fun _ _ _ _ _ _ us hl => match us, hl with | [_], _ => rfl⟩
  a_map_of := f6
  f_map_of := PySem.W.fnOf "map_of" "map_of" (defArgs s_map_of) (defBody s_map_of) (defScope s_map_of) .none kV6 dc6 pm6 an6 cd6 ct6
  d_map_of := ⟨fun_mk (st := s_map_of) l6 c6 k6, PySem.W.mg_of X G a6, (fun_mk (st := s_map_of) l6 c6 k6).binds (ps := p_map_of) fun _ _ _ _ _ _ us hl => match us, hl with | [_], _ => rfl⟩
  a_need_of := f7
  f_need_of := PySem.W.fnOf "need_of" "need_of" (defArgs s_need_of) (defBody s_need_of) (defScope s_need_of) .none kV7 dc7 pm7 an7 cd7 ct7
  d_need_of := ⟨fun_mk (st := s_need_of) l7 c7 k7, PySem.W.mg_of X G a7, (fun_mk (st := s_need_of) l7 c7 k7).binds (ps := p_need_of) fun _ _ _ _ _ _ us hl => match us, hl with | [_], _ => rfl⟩
  a_parting := f8
  f_parting := PySem.W.fnOf "parting" "parting" (defArgs s_parting) (defBody s_parting) (defScope s_parting) .none kV8 dc8 pm8 an8 cd8 ct8
  d_parting := ⟨fun_mk (st := s_parting) l8 c8 k8, PySem.W.mg_of X G a8, (fun_mk (st := s_parting) l8 c8 k8).binds (ps := p_parting) fun _ _ _ _ _ _ us hl => match us, hl with | [_, _], _ => rfl⟩
  a_said := f9
  f_said := PySem.W.fnOf "said" "said" (defArgs s_said) (defBody s_said) (defScope s_said) .none kV9 dc9 pm9 an9 cd9 ct9
  d_said := ⟨fun_mk (st := s_said) l9 c9 k9, PySem.W.mg_of X G a9, (fun_mk (st := s_said) l9 c9 k9).binds (ps := p_said) fun _ _ _ _ _ _ us hl => match us, hl with | [_], _ => rfl⟩
  t_turned_back := t10
  a_turned_back := f10
  f_turned_back := PySem.W.fnOf "turned_back" "turned_back" (defArgs s_turned_back) (defBody s_turned_back) (defScope s_turned_back) (.ref t10) kV10 dc10 pm10 an10 cd10 ct10
  d_turned_back := ⟨(funV_mk (st := s_turned_back) l10 c10 k10), PySem.W.mg_of X G a10, (funV_mk (st := s_turned_back) l10 c10 k10).bindsT (ps := p_turned_back) (dv := []) q10 rfl fun _ _ _ _ _ _ us hl => match us, hl with | [_, _, _], _ => ⟨_, rfl, rfl⟩, (funV_mk (st := s_turned_back) l10 c10 k10).bindsT (ps := p_turned_back) (dv := [.none]) q10 rfl fun _ _ _ _ _ _ us hl => match us, hl with | [_, _], _ => ⟨_, rfl, rfl⟩⟩
  t_shorter := t11
  a_shorter := f11
  f_shorter := PySem.W.fnOf "shorter" "shorter" (defArgs s_shorter) (defBody s_shorter) (defScope s_shorter) (.ref t11) kV11 dc11 pm11 an11 cd11 ct11
  d_shorter := ⟨(funV_mk (st := s_shorter) l11 c11 k11), PySem.W.mg_of X G a11, (funV_mk (st := s_shorter) l11 c11 k11).bindsT (ps := p_shorter) (dv := []) q11 rfl fun _ _ _ _ _ _ us hl => match us, hl with | [_, _], _ => ⟨_, rfl, rfl⟩, (funV_mk (st := s_shorter) l11 c11 k11).bindsT (ps := p_shorter) (dv := [.none]) q11 rfl fun _ _ _ _ _ _ us hl => match us, hl with | [_], _ => ⟨_, rfl, rfl⟩⟩
  a_are_shuffles_alike := f12
  f_are_shuffles_alike := PySem.W.fnOf "are_shuffles" "are_shuffles" (defArgs s_are_shuffles_alike) (defBody s_are_shuffles_alike) (defScope s_are_shuffles_alike) .none kV12 dc12 pm12 an12 cd12 ct12
  d_are_shuffles_alike := ⟨(funV_mk (st := s_are_shuffles_alike) l12 c12 k12), PySem.W.mg_of X G a12, (funV_mk (st := s_are_shuffles_alike) l12 c12 k12).binds0 (ps := p_are_shuffles_alike) fun _ _ _ _ _ _ us hl => match us, hl with | [_], _ => rfl, (funV_mk (st := s_are_shuffles_alike) l12 c12 k12).binds0 (ps := p_are_shuffles_alike) fun _ _ _ _ _ _ us hl => match us, hl with | [_], _ => rfl⟩
  a_parted_on := f13
  f_parted_on := PySem.W.fnOf "parted_on" "parted_on" (defArgs s_parted_on) (defBody s_parted_on) (defScope s_parted_on) .none kV13 dc13 pm13 an13 cd13 ct13
  d_parted_on := ⟨fun_mk (st := s_parted_on) l13 c13 k13, PySem.W.mg_of X G a13, (fun_mk (st := s_parted_on) l13 c13 k13).binds (ps := p_parted_on) fun _ _ _ _ _ _ us hl => match us, hl with | [_, _, _], _ => rfl⟩
  a_of_shuffles := f14
  f_of_shuffles := PySem.W.fnOf "of_shuffles" "of_shuffles" (defArgs s_of_shuffles) (defBody s_of_shuffles) (defScope s_of_shuffles) .none kV14 dc14 pm14 an14 cd14 ct14
  d_of_shuffles := ⟨fun_mk (st := s_of_shuffles) l14 c14 k14, PySem.W.mg_of X G a14, (fun_mk (st := s_of_shuffles) l14 c14 k14).binds (ps := p_of_shuffles) fun _ _ _ _ _ _ us hl => match us, hl with | [_, _], _ => rfl⟩
  t_alike := t15
  a_alike := f15
  f_alike := PySem.W.fnOf "alike" "alike" (defArgs s_alike) (defBody s_alike) (defScope s_alike) (.ref t15) kV15 dc15 pm15 an15 cd15 ct15
  d_alike := ⟨(funV_mk (st := s_alike) l15 c15 k15), PySem.W.mg_of X G a15, (funV_mk (st := s_alike) l15 c15 k15).bindsT (ps := p_alike) (dv := []) q15 rfl fun _ _ _ _ _ _ us hl => match us, hl with | [_, _, _], _ => ⟨_, rfl, rfl⟩, (funV_mk (st := s_alike) l15 c15 k15).bindsT (ps := p_alike) (dv := [.none]) q15 rfl fun _ _ _ _ _ _ us hl => match us, hl with | [_, _], _ => ⟨_, rfl, rfl⟩⟩
  a_l_deck := f16
  f_l_deck := PySem.W.fnOf "_law_deck" "_law_deck" (defArgs s_l_deck) (defBody s_l_deck) (defScope s_l_deck) .none kV16 dc16 pm16 an16 cd16 ct16
  d_l_deck := ⟨fun_mk (st := s_l_deck) l16 c16 k16, PySem.W.mg_of X G a16, (fun_mk (st := s_l_deck) l16 c16 k16).binds (ps := p_l_deck) fun _ _ _ _ _ _ us hl => match us, hl with | [_], _ => rfl⟩
  a_l_draw := f17
  f_l_draw := PySem.W.fnOf "_law_draw" "_law_draw" (defArgs s_l_draw) (defBody s_l_draw) (defScope s_l_draw) .none kV17 dc17 pm17 an17 cd17 ct17
  d_l_draw := ⟨fun_mk (st := s_l_draw) l17 c17 k17, PySem.W.mg_of X G a17, (fun_mk (st := s_l_draw) l17 c17 k17).binds (ps := p_l_draw) fun _ _ _ _ _ _ us hl => match us, hl with | [_, _], _ => rfl⟩
  a_l_shuffle := f18
  f_l_shuffle := PySem.W.fnOf "_law_shuffle" "_law_shuffle" (defArgs s_l_shuffle) (defBody s_l_shuffle) (defScope s_l_shuffle) .none kV18 dc18 pm18 an18 cd18 ct18
  d_l_shuffle := ⟨fun_mk (st := s_l_shuffle) l18 c18 k18, PySem.W.mg_of X G a18, (fun_mk (st := s_l_shuffle) l18 c18 k18).binds (ps := p_l_shuffle) fun _ _ _ _ _ _ us hl => match us, hl with | [_, _], _ => rfl⟩
  a_l_parts := f19
  f_l_parts := PySem.W.fnOf "_law_parts" "_law_parts" (defArgs s_l_parts) (defBody s_l_parts) (defScope s_l_parts) .none kV19 dc19 pm19 an19 cd19 ct19
  d_l_parts := ⟨fun_mk (st := s_l_parts) l19 c19 k19, PySem.W.mg_of X G a19, (fun_mk (st := s_l_parts) l19 c19 k19).binds (ps := p_l_parts) fun _ _ _ _ _ _ us hl => match us, hl with | [_], _ => rfl⟩
  a_l_is_shuffle := f20
  f_l_is_shuffle := PySem.W.fnOf "_law_is_shuffle" "_law_is_shuffle" (defArgs s_l_is_shuffle) (defBody s_l_is_shuffle) (defScope s_l_is_shuffle) .none kV20 dc20 pm20 an20 cd20 ct20
  d_l_is_shuffle := ⟨fun_mk (st := s_l_is_shuffle) l20 c20 k20, PySem.W.mg_of X G a20, (fun_mk (st := s_l_is_shuffle) l20 c20 k20).binds (ps := p_l_is_shuffle) fun _ _ _ _ _ _ us hl => match us, hl with | [_], _ => rfl⟩
  a_l_map := f21
  f_l_map := PySem.W.fnOf "_law_map" "_law_map" (defArgs s_l_map) (defBody s_l_map) (defScope s_l_map) .none kV21 dc21 pm21 an21 cd21 ct21
  d_l_map := ⟨fun_mk (st := s_l_map) l21 c21 k21, PySem.W.mg_of X G a21, (fun_mk (st := s_l_map) l21 c21 k21).binds (ps := p_l_map) fun _ _ _ _ _ _ us hl => match us, hl with | [_], _ => rfl⟩
  a_l_map_word := f22
  f_l_map_word := PySem.W.fnOf "_law_map_word" "_law_map_word" (defArgs s_l_map_word) (defBody s_l_map_word) (defScope s_l_map_word) .none kV22 dc22 pm22 an22 cd22 ct22
  d_l_map_word := ⟨fun_mk (st := s_l_map_word) l22 c22 k22, PySem.W.mg_of X G a22, (fun_mk (st := s_l_map_word) l22 c22 k22).binds (ps := p_l_map_word) fun _ _ _ _ _ _ us hl => match us, hl with | [_, _], _ => rfl⟩
  a_l_push := f23
  f_l_push := PySem.W.fnOf "_law_push" "_law_push" (defArgs s_l_push) (defBody s_l_push) (defScope s_l_push) .none kV23 dc23 pm23 an23 cd23 ct23
  d_l_push := ⟨fun_mk (st := s_l_push) l23 c23 k23, PySem.W.mg_of X G a23, (fun_mk (st := s_l_push) l23 c23 k23).binds (ps := p_l_push) fun _ _ _ _ _ _ us hl => match us, hl with | [_], _ => rfl⟩
  a_l_inner := f24
  f_l_inner := PySem.W.fnOf "_law_inner" "_law_inner" (defArgs s_l_inner) (defBody s_l_inner) (defScope s_l_inner) .none kV24 dc24 pm24 an24 cd24 ct24
  d_l_inner := ⟨fun_mk (st := s_l_inner) l24 c24 k24, PySem.W.mg_of X G a24, (fun_mk (st := s_l_inner) l24 c24 k24).binds (ps := p_l_inner) fun _ _ _ _ _ _ us hl => match us, hl with | [_], _ => rfl⟩
  a_l_takes := f25
  f_l_takes := PySem.W.fnOf "_law_takes" "_law_takes" (defArgs s_l_takes) (defBody s_l_takes) (defScope s_l_takes) .none kV25 dc25 pm25 an25 cd25 ct25
  d_l_takes := ⟨fun_mk (st := s_l_takes) l25 c25 k25, PySem.W.mg_of X G a25, (fun_mk (st := s_l_takes) l25 c25 k25).binds (ps := p_l_takes) fun _ _ _ _ _ _ us hl => match us, hl with | [_, _], _ => rfl⟩
  a_l_made := f26
  f_l_made := PySem.W.fnOf "_law_made" "_law_made" (defArgs s_l_made) (defBody s_l_made) (defScope s_l_made) .none kV26 dc26 pm26 an26 cd26 ct26
  d_l_made := ⟨fun_mk (st := s_l_made) l26 c26 k26, PySem.W.mg_of X G a26, (fun_mk (st := s_l_made) l26 c26 k26).binds (ps := p_l_made) fun _ _ _ _ _ _ us hl => match us, hl with | [_, _, _], _ => rfl⟩
  a_l_by_maps := f27
  f_l_by_maps := PySem.W.fnOf "_law_by_maps" "_law_by_maps" (defArgs s_l_by_maps) (defBody s_l_by_maps) (defScope s_l_by_maps) .none kV27 dc27 pm27 an27 cd27 ct27
  d_l_by_maps := ⟨fun_mk (st := s_l_by_maps) l27 c27 k27, PySem.W.mg_of X G a27, (fun_mk (st := s_l_by_maps) l27 c27 k27).binds (ps := p_l_by_maps) fun _ _ _ _ _ _ us hl => match us, hl with | [_, _], _ => rfl⟩
  a_l_by_dips := f28
  f_l_by_dips := PySem.W.fnOf "_law_by_dips" "_law_by_dips" (defArgs s_l_by_dips) (defBody s_l_by_dips) (defScope s_l_by_dips) .none kV28 dc28 pm28 an28 cd28 ct28
  d_l_by_dips := ⟨fun_mk (st := s_l_by_dips) l28 c28 k28, PySem.W.mg_of X G a28, (fun_mk (st := s_l_by_dips) l28 c28 k28).binds (ps := p_l_by_dips) fun _ _ _ _ _ _ us hl => match us, hl with | [_, _], _ => rfl⟩
  a_l_is_entered := f29
  f_l_is_entered := PySem.W.fnOf "_law_is_entered" "_law_is_entered" (defArgs s_l_is_entered) (defBody s_l_is_entered) (defScope s_l_is_entered) .none kV29 dc29 pm29 an29 cd29 ct29
  d_l_is_entered := ⟨fun_mk (st := s_l_is_entered) l29 c29 k29, PySem.W.mg_of X G a29, (fun_mk (st := s_l_is_entered) l29 c29 k29).binds (ps := p_l_is_entered) fun _ _ _ _ _ _ us hl => match us, hl with | [_, _], _ => rfl⟩
  a_l_put := f30
  f_l_put := PySem.W.fnOf "_law_put" "_law_put" (defArgs s_l_put) (defBody s_l_put) (defScope s_l_put) .none kV30 dc30 pm30 an30 cd30 ct30
  d_l_put := ⟨fun_mk (st := s_l_put) l30 c30 k30, PySem.W.mg_of X G a30, (fun_mk (st := s_l_put) l30 c30 k30).binds (ps := p_l_put) fun _ _ _ _ _ _ us hl => match us, hl with | [_, _, _, _], _ => rfl⟩
  a_l_is_by := f31
  f_l_is_by := PySem.W.fnOf "_law_is_by" "_law_is_by" (defArgs s_l_is_by) (defBody s_l_is_by) (defScope s_l_is_by) .none kV31 dc31 pm31 an31 cd31 ct31
  d_l_is_by := ⟨fun_mk (st := s_l_is_by) l31 c31 k31, PySem.W.mg_of X G a31, (fun_mk (st := s_l_is_by) l31 c31 k31).binds (ps := p_l_is_by) fun _ _ _ _ _ _ us hl => match us, hl with | [_, _, _, _], _ => rfl⟩
  a_l_turned_by := f32
  f_l_turned_by := PySem.W.fnOf "_law_turned_by" "_law_turned_by" (defArgs s_l_turned_by) (defBody s_l_turned_by) (defScope s_l_turned_by) .none kV32 dc32 pm32 an32 cd32 ct32
  d_l_turned_by := ⟨fun_mk (st := s_l_turned_by) l32 c32 k32, PySem.W.mg_of X G a32, (fun_mk (st := s_l_turned_by) l32 c32 k32).binds (ps := p_l_turned_by) fun _ _ _ _ _ _ us hl => match us, hl with | [_, _, _], _ => rfl⟩
  a_l_leads := f33
  f_l_leads := PySem.W.fnOf "_law_leads" "_law_leads" (defArgs s_l_leads) (defBody s_l_leads) (defScope s_l_leads) .none kV33 dc33 pm33 an33 cd33 ct33
  d_l_leads := ⟨fun_mk (st := s_l_leads) l33 c33 k33, PySem.W.mg_of X G a33, (fun_mk (st := s_l_leads) l33 c33 k33).binds (ps := p_l_leads) fun _ _ _ _ _ _ us hl => match us, hl with | [_, _, _, _], _ => rfl⟩
  a_l_shuffles := f34
  f_l_shuffles := PySem.W.fnOf "_law_shuffles" "_law_shuffles" (defArgs s_l_shuffles) (defBody s_l_shuffles) (defScope s_l_shuffles) .none kV34 dc34 pm34 an34 cd34 ct34
  d_l_shuffles := ⟨fun_mk (st := s_l_shuffles) l34 c34 k34, PySem.W.mg_of X G a34, (fun_mk (st := s_l_shuffles) l34 c34 k34).binds (ps := p_l_shuffles) fun _ _ _ _ _ _ us hl => match us, hl with | [_, _], _ => rfl⟩
  a_l_other := f35
  f_l_other := PySem.W.fnOf "_law_other" "_law_other" (defArgs s_l_other) (defBody s_l_other) (defScope s_l_other) .none kV35 dc35 pm35 an35 cd35 ct35
  d_l_other := ⟨fun_mk (st := s_l_other) l35 c35 k35, PySem.W.mg_of X G a35, (fun_mk (st := s_l_other) l35 c35 k35).binds (ps := p_l_other) fun _ _ _ _ _ _ us hl => match us, hl with | [_, _], _ => rfl⟩
  a_l_end := f36
  f_l_end := PySem.W.fnOf "_law_end" "_law_end" (defArgs s_l_end) (defBody s_l_end) (defScope s_l_end) .none kV36 dc36 pm36 an36 cd36 ct36
  d_l_end := ⟨fun_mk (st := s_l_end) l36 c36 k36, PySem.W.mg_of X G a36, (fun_mk (st := s_l_end) l36 c36 k36).binds (ps := p_l_end) fun _ _ _ _ _ _ us hl => match us, hl with | [_, _], _ => rfl⟩
  a_l_right := f37
  f_l_right := PySem.W.fnOf "_law_right" "_law_right" (defArgs s_l_right) (defBody s_l_right) (defScope s_l_right) .none kV37 dc37 pm37 an37 cd37 ct37
  d_l_right := ⟨fun_mk (st := s_l_right) l37 c37 k37, PySem.W.mg_of X G a37, (fun_mk (st := s_l_right) l37 c37 k37).binds (ps := p_l_right) fun _ _ _ _ _ _ us hl => match us, hl with | [_, _], _ => rfl⟩
  a_law := f38
  f_law := PySem.W.fnOf "law" "law" (defArgs s_law) (defBody s_law) (defScope s_law) .none kV38 dc38 pm38 an38 cd38 ct38
  d_law := ⟨fun_mk (st := s_law) l38 c38 k38, PySem.W.mg_of X G a38, (fun_mk (st := s_law) l38 c38 k38).binds (ps := p_law) fun _ _ _ _ _ _ us hl => match us, hl with | [_], _ => rfl⟩
  z_all := PySem.W.mg_none_of X G z_all
  z_int := PySem.W.mg_none_of X G z_int
  z_isinstance := PySem.W.mg_none_of X G z_isinstance
  z_len := PySem.W.mg_none_of X G z_len
  z_list := PySem.W.mg_none_of X G z_list
  z_max := PySem.W.mg_none_of X G z_max
  z_range := PySem.W.mg_none_of X G z_range
  z_str := PySem.W.mg_none_of X G z_str
  z_sum := PySem.W.mg_none_of X G z_sum
  z_tuple := PySem.W.mg_none_of X G z_tuple
  e_NoShuffle := eNoShuffle
  E_NoShuffle := ⟨PySem.W.mg_of X G xg_NoShuffle, xx_NoShuffle, xk_NoShuffle, xb_NoShuffle, xt_NoShuffle⟩
  c_LETTERS := ⟨_, .str "abcdefgh", PySem.W.mg_of X G n_LETTERS, ⟨_, rfl⟩, fun _ _ => .str _⟩
  c_MOST_LEFT_shuffles := ⟨_, .int 12, PySem.W.mg_of X G n_MOST_LEFT_shuffles, ⟨_, rfl⟩, fun _ _ => .int _⟩
def spLaw (K : PySem.W.Frag) : Sp := fun vs H Q _ => ∃ (a : Addr) (ns : List Int), vs = [.ref a] ∧ Only H ∧ SqL K H a (ns.map V.int) ∧ ns.length ≤ 63 ∧ ∀ H', Q (.bl true) H'
theorem law_sp {K : PySem.W.Frag} {mg : Str → Option Value} {G : List D → M D} (hG : ∀ ns : List Int, ns.length ≤ 63 → ∃ S', G [.fl (ns.map .int)] [] = .ok (.bl true) S') (vs : List V) (H : Hp) (Q : VK) (E : XK) (h : spLaw K vs H Q E) : spD K mg 1 G vs H Q E := by
  obtain ⟨a, ns, rfl, hO, hS, hl, k⟩ := h
  obtain ⟨S', hS'⟩ := hG ns hl
  refine ⟨⟨[], []⟩, [], [.fl (ns.map .int)], rfl, .cons (.fl (vs := ns.map V.int) ?_ (RDs.of_ints ns)) .nil, ⟨rfl, List.nodup_nil, fun i a m h => by simp at h, fun a h => by simp at h, fun a h => by simp at h⟩, ?_⟩
  · rcases hS with (hS | ⟨o, hS⟩) | hS
    · rcases hO a with z | ⟨o, xs, z⟩ <;> rw [hS] at z <;> cases z
    · exact .inl ⟨o, hS⟩
    · exact .inr hS
  · rw [hS']
    intro μ' H' _ _ v rv
    cases rv
    exact k H'
theorem all_mk {l : PySem.W.OpenLaw} {w : World} {K : PySem.W.Frag} {h : Heap} {mg : Str → Option Value} {fa : Addr} (fu n : Nat) (hG : ∀ ns : List Int, ns.length ≤ 63 → ∃ S', den fu n i_law [.fl (ns.map .int)] [] = .ok (.bl true) S') (X : K.In h) (G : h.Ns mainGlobals mg) (hfa : mg "law" = some (.ref fa))
    {f1 : Addr} {od1 an1 : Option Addr} {sl1 : Array (Option Value)} {oc1 kV1 dc1 pm1 cd1 ct1 : Value}
    {f2 : Addr} {od2 an2 : Option Addr} {sl2 : Array (Option Value)} {oc2 kV2 dc2 pm2 cd2 ct2 : Value}
    {f3 : Addr} {od3 an3 : Option Addr} {sl3 : Array (Option Value)} {oc3 kV3 dc3 pm3 cd3 ct3 : Value}
    {f4 : Addr} {od4 an4 : Option Addr} {sl4 : Array (Option Value)} {oc4 kV4 dc4 pm4 cd4 ct4 : Value}
    {f5 : Addr} {od5 an5 : Option Addr} {sl5 : Array (Option Value)} {oc5 kV5 dc5 pm5 cd5 ct5 : Value}
    {f6 : Addr} {od6 an6 : Option Addr} {sl6 : Array (Option Value)} {oc6 kV6 dc6 pm6 cd6 ct6 : Value}
    {f7 : Addr} {od7 an7 : Option Addr} {sl7 : Array (Option Value)} {oc7 kV7 dc7 pm7 cd7 ct7 : Value}
    {f8 : Addr} {od8 an8 : Option Addr} {sl8 : Array (Option Value)} {oc8 kV8 dc8 pm8 cd8 ct8 : Value}
    {f9 : Addr} {od9 an9 : Option Addr} {sl9 : Array (Option Value)} {oc9 kV9 dc9 pm9 cd9 ct9 : Value}
    {f10 : Addr} {od10 an10 : Option Addr} {sl10 : Array (Option Value)} {oc10 kV10 dc10 pm10 cd10 ct10 : Value}
    {t10 : Addr} {tc10 : Value} {td10 : Option Addr} {tn10 : Nat} {ts10 : Array (Option Value)}
    {f11 : Addr} {od11 an11 : Option Addr} {sl11 : Array (Option Value)} {oc11 kV11 dc11 pm11 cd11 ct11 : Value}
    {t11 : Addr} {tc11 : Value} {td11 : Option Addr} {tn11 : Nat} {ts11 : Array (Option Value)}
    {f12 : Addr} {od12 an12 : Option Addr} {sl12 : Array (Option Value)} {oc12 kV12 dc12 pm12 cd12 ct12 : Value}
    {f13 : Addr} {od13 an13 : Option Addr} {sl13 : Array (Option Value)} {oc13 kV13 dc13 pm13 cd13 ct13 : Value}
    {f14 : Addr} {od14 an14 : Option Addr} {sl14 : Array (Option Value)} {oc14 kV14 dc14 pm14 cd14 ct14 : Value}
    {f15 : Addr} {od15 an15 : Option Addr} {sl15 : Array (Option Value)} {oc15 kV15 dc15 pm15 cd15 ct15 : Value}
    {t15 : Addr} {tc15 : Value} {td15 : Option Addr} {tn15 : Nat} {ts15 : Array (Option Value)}
    {f16 : Addr} {od16 an16 : Option Addr} {sl16 : Array (Option Value)} {oc16 kV16 dc16 pm16 cd16 ct16 : Value}
    {f17 : Addr} {od17 an17 : Option Addr} {sl17 : Array (Option Value)} {oc17 kV17 dc17 pm17 cd17 ct17 : Value}
    {f18 : Addr} {od18 an18 : Option Addr} {sl18 : Array (Option Value)} {oc18 kV18 dc18 pm18 cd18 ct18 : Value}
    {f19 : Addr} {od19 an19 : Option Addr} {sl19 : Array (Option Value)} {oc19 kV19 dc19 pm19 cd19 ct19 : Value}
    {f20 : Addr} {od20 an20 : Option Addr} {sl20 : Array (Option Value)} {oc20 kV20 dc20 pm20 cd20 ct20 : Value}
    {f21 : Addr} {od21 an21 : Option Addr} {sl21 : Array (Option Value)} {oc21 kV21 dc21 pm21 cd21 ct21 : Value}
    {f22 : Addr} {od22 an22 : Option Addr} {sl22 : Array (Option Value)} {oc22 kV22 dc22 pm22 cd22 ct22 : Value}
    {f23 : Addr} {od23 an23 : Option Addr} {sl23 : Array (Option Value)} {oc23 kV23 dc23 pm23 cd23 ct23 : Value}
    {f24 : Addr} {od24 an24 : Option Addr} {sl24 : Array (Option Value)} {oc24 kV24 dc24 pm24 cd24 ct24 : Value}
    {f25 : Addr} {od25 an25 : Option Addr} {sl25 : Array (Option Value)} {oc25 kV25 dc25 pm25 cd25 ct25 : Value}
    {f26 : Addr} {od26 an26 : Option Addr} {sl26 : Array (Option Value)} {oc26 kV26 dc26 pm26 cd26 ct26 : Value}
    {f27 : Addr} {od27 an27 : Option Addr} {sl27 : Array (Option Value)} {oc27 kV27 dc27 pm27 cd27 ct27 : Value}
    {f28 : Addr} {od28 an28 : Option Addr} {sl28 : Array (Option Value)} {oc28 kV28 dc28 pm28 cd28 ct28 : Value}
    {f29 : Addr} {od29 an29 : Option Addr} {sl29 : Array (Option Value)} {oc29 kV29 dc29 pm29 cd29 ct29 : Value}
    {f30 : Addr} {od30 an30 : Option Addr} {sl30 : Array (Option Value)} {oc30 kV30 dc30 pm30 cd30 ct30 : Value}
    {f31 : Addr} {od31 an31 : Option Addr} {sl31 : Array (Option Value)} {oc31 kV31 dc31 pm31 cd31 ct31 : Value}
    {f32 : Addr} {od32 an32 : Option Addr} {sl32 : Array (Option Value)} {oc32 kV32 dc32 pm32 cd32 ct32 : Value}
    {f33 : Addr} {od33 an33 : Option Addr} {sl33 : Array (Option Value)} {oc33 kV33 dc33 pm33 cd33 ct33 : Value}
    {f34 : Addr} {od34 an34 : Option Addr} {sl34 : Array (Option Value)} {oc34 kV34 dc34 pm34 cd34 ct34 : Value}
    {f35 : Addr} {od35 an35 : Option Addr} {sl35 : Array (Option Value)} {oc35 kV35 dc35 pm35 cd35 ct35 : Value}
    {f36 : Addr} {od36 an36 : Option Addr} {sl36 : Array (Option Value)} {oc36 kV36 dc36 pm36 cd36 ct36 : Value}
    {f37 : Addr} {od37 an37 : Option Addr} {sl37 : Array (Option Value)} {oc37 kV37 dc37 pm37 cd37 ct37 : Value}
    {f38 : Addr} {od38 an38 : Option Addr} {sl38 : Array (Option Value)} {oc38 kV38 dc38 pm38 cd38 ct38 : Value}
    {eNoShuffle : Addr}
    {t_LETTERS : Tok}
    {t_MOST_LEFT_shuffles : Tok}
    (a1 : PySem.W.nsIn K mainGlobals "is_shuffle" = some (some (.ref f1))) (l1 : K.lookup f1 = some ⟨oc1, od1, .func (PySem.W.fnOf "is_shuffle" "is_shuffle" (defArgs s_is_shuffle) (defBody s_is_shuffle) (defScope s_is_shuffle) .none kV1 dc1 pm1 an1 cd1 ct1), sl1⟩) (c1 : PySem.W.codeIn K cd1 "is_shuffle" = true) (k1 : PySem.W.keepIn K (.ref f1) = true)
    (a2 : PySem.W.nsIn K mainGlobals "taken_left" = some (some (.ref f2))) (l2 : K.lookup f2 = some ⟨oc2, od2, .func (PySem.W.fnOf "taken_left" "taken_left" (defArgs s_taken_left) (defBody s_taken_left) (defScope s_taken_left) .none kV2 dc2 pm2 an2 cd2 ct2), sl2⟩) (c2 : PySem.W.codeIn K cd2 "taken_left" = true) (k2 : PySem.W.keepIn K (.ref f2) = true)
    (a3 : PySem.W.nsIn K mainGlobals "least_map" = some (some (.ref f3))) (l3 : K.lookup f3 = some ⟨oc3, od3, .func (PySem.W.fnOf "least_map" "least_map" (defArgs s_least_map) (defBody s_least_map) (defScope s_least_map) .none kV3 dc3 pm3 an3 cd3 ct3), sl3⟩) (c3 : PySem.W.codeIn K cd3 "least_map" = true) (k3 : PySem.W.keepIn K (.ref f3) = true)
    (a4 : PySem.W.nsIn K mainGlobals "map_with" = some (some (.ref f4))) (l4 : K.lookup f4 = some ⟨oc4, od4, .func (PySem.W.fnOf "map_with" "map_with" (defArgs s_map_with) (defBody s_map_with) (defScope s_map_with) .none kV4 dc4 pm4 an4 cd4 ct4), sl4⟩) (c4 : PySem.W.codeIn K cd4 "map_with" = true) (k4 : PySem.W.keepIn K (.ref f4) = true)
    (a5 : PySem.W.nsIn K mainGlobals "whole_map" = some (some (.ref f5))) (l5 : K.lookup f5 = some ⟨oc5, od5, .func (PySem.W.fnOf "whole_map" "whole_map" (defArgs s_whole_map) (defBody s_whole_map) (defScope s_whole_map) .none kV5 dc5 pm5 an5 cd5 ct5), sl5⟩) (c5 : PySem.W.codeIn K cd5 "whole_map" = true) (k5 : PySem.W.keepIn K (.ref f5) = true)
    (a6 : PySem.W.nsIn K mainGlobals "map_of" = some (some (.ref f6))) (l6 : K.lookup f6 = some ⟨oc6, od6, .func (PySem.W.fnOf "map_of" "map_of" (defArgs s_map_of) (defBody s_map_of) (defScope s_map_of) .none kV6 dc6 pm6 an6 cd6 ct6), sl6⟩) (c6 : PySem.W.codeIn K cd6 "map_of" = true) (k6 : PySem.W.keepIn K (.ref f6) = true)
    (a7 : PySem.W.nsIn K mainGlobals "need_of" = some (some (.ref f7))) (l7 : K.lookup f7 = some ⟨oc7, od7, .func (PySem.W.fnOf "need_of" "need_of" (defArgs s_need_of) (defBody s_need_of) (defScope s_need_of) .none kV7 dc7 pm7 an7 cd7 ct7), sl7⟩) (c7 : PySem.W.codeIn K cd7 "need_of" = true) (k7 : PySem.W.keepIn K (.ref f7) = true)
    (a8 : PySem.W.nsIn K mainGlobals "parting" = some (some (.ref f8))) (l8 : K.lookup f8 = some ⟨oc8, od8, .func (PySem.W.fnOf "parting" "parting" (defArgs s_parting) (defBody s_parting) (defScope s_parting) .none kV8 dc8 pm8 an8 cd8 ct8), sl8⟩) (c8 : PySem.W.codeIn K cd8 "parting" = true) (k8 : PySem.W.keepIn K (.ref f8) = true)
    (a9 : PySem.W.nsIn K mainGlobals "said" = some (some (.ref f9))) (l9 : K.lookup f9 = some ⟨oc9, od9, .func (PySem.W.fnOf "said" "said" (defArgs s_said) (defBody s_said) (defScope s_said) .none kV9 dc9 pm9 an9 cd9 ct9), sl9⟩) (c9 : PySem.W.codeIn K cd9 "said" = true) (k9 : PySem.W.keepIn K (.ref f9) = true)
    (a10 : PySem.W.nsIn K mainGlobals "turned_back" = some (some (.ref f10))) (l10 : K.lookup f10 = some ⟨oc10, od10, .func (PySem.W.fnOf "turned_back" "turned_back" (defArgs s_turned_back) (defBody s_turned_back) (defScope s_turned_back) (.ref t10) kV10 dc10 pm10 an10 cd10 ct10), sl10⟩) (c10 : PySem.W.codeIn K cd10 "turned_back" = true) (k10 : PySem.W.keepIn K (.ref f10) = true) (q10 : K.lookup t10 = some ⟨tc10, td10, .seq #[.none] tn10, ts10⟩)
    (a11 : PySem.W.nsIn K mainGlobals "shorter" = some (some (.ref f11))) (l11 : K.lookup f11 = some ⟨oc11, od11, .func (PySem.W.fnOf "shorter" "shorter" (defArgs s_shorter) (defBody s_shorter) (defScope s_shorter) (.ref t11) kV11 dc11 pm11 an11 cd11 ct11), sl11⟩) (c11 : PySem.W.codeIn K cd11 "shorter" = true) (k11 : PySem.W.keepIn K (.ref f11) = true) (q11 : K.lookup t11 = some ⟨tc11, td11, .seq #[.none] tn11, ts11⟩)
    (a12 : PySem.W.nsIn K mainGlobals "are_shuffles_alike" = some (some (.ref f12))) (l12 : K.lookup f12 = some ⟨oc12, od12, .func (PySem.W.fnOf "are_shuffles" "are_shuffles" (defArgs s_are_shuffles_alike) (defBody s_are_shuffles_alike) (defScope s_are_shuffles_alike) .none kV12 dc12 pm12 an12 cd12 ct12), sl12⟩) (c12 : PySem.W.codeIn K cd12 "are_shuffles" = true) (k12 : PySem.W.keepIn K (.ref f12) = true)
    (a13 : PySem.W.nsIn K mainGlobals "parted_on" = some (some (.ref f13))) (l13 : K.lookup f13 = some ⟨oc13, od13, .func (PySem.W.fnOf "parted_on" "parted_on" (defArgs s_parted_on) (defBody s_parted_on) (defScope s_parted_on) .none kV13 dc13 pm13 an13 cd13 ct13), sl13⟩) (c13 : PySem.W.codeIn K cd13 "parted_on" = true) (k13 : PySem.W.keepIn K (.ref f13) = true)
    (a14 : PySem.W.nsIn K mainGlobals "of_shuffles" = some (some (.ref f14))) (l14 : K.lookup f14 = some ⟨oc14, od14, .func (PySem.W.fnOf "of_shuffles" "of_shuffles" (defArgs s_of_shuffles) (defBody s_of_shuffles) (defScope s_of_shuffles) .none kV14 dc14 pm14 an14 cd14 ct14), sl14⟩) (c14 : PySem.W.codeIn K cd14 "of_shuffles" = true) (k14 : PySem.W.keepIn K (.ref f14) = true)
    (a15 : PySem.W.nsIn K mainGlobals "alike" = some (some (.ref f15))) (l15 : K.lookup f15 = some ⟨oc15, od15, .func (PySem.W.fnOf "alike" "alike" (defArgs s_alike) (defBody s_alike) (defScope s_alike) (.ref t15) kV15 dc15 pm15 an15 cd15 ct15), sl15⟩) (c15 : PySem.W.codeIn K cd15 "alike" = true) (k15 : PySem.W.keepIn K (.ref f15) = true) (q15 : K.lookup t15 = some ⟨tc15, td15, .seq #[.none] tn15, ts15⟩)
    (a16 : PySem.W.nsIn K mainGlobals "_law_deck" = some (some (.ref f16))) (l16 : K.lookup f16 = some ⟨oc16, od16, .func (PySem.W.fnOf "_law_deck" "_law_deck" (defArgs s_l_deck) (defBody s_l_deck) (defScope s_l_deck) .none kV16 dc16 pm16 an16 cd16 ct16), sl16⟩) (c16 : PySem.W.codeIn K cd16 "_law_deck" = true) (k16 : PySem.W.keepIn K (.ref f16) = true)
    (a17 : PySem.W.nsIn K mainGlobals "_law_draw" = some (some (.ref f17))) (l17 : K.lookup f17 = some ⟨oc17, od17, .func (PySem.W.fnOf "_law_draw" "_law_draw" (defArgs s_l_draw) (defBody s_l_draw) (defScope s_l_draw) .none kV17 dc17 pm17 an17 cd17 ct17), sl17⟩) (c17 : PySem.W.codeIn K cd17 "_law_draw" = true) (k17 : PySem.W.keepIn K (.ref f17) = true)
    (a18 : PySem.W.nsIn K mainGlobals "_law_shuffle" = some (some (.ref f18))) (l18 : K.lookup f18 = some ⟨oc18, od18, .func (PySem.W.fnOf "_law_shuffle" "_law_shuffle" (defArgs s_l_shuffle) (defBody s_l_shuffle) (defScope s_l_shuffle) .none kV18 dc18 pm18 an18 cd18 ct18), sl18⟩) (c18 : PySem.W.codeIn K cd18 "_law_shuffle" = true) (k18 : PySem.W.keepIn K (.ref f18) = true)
    (a19 : PySem.W.nsIn K mainGlobals "_law_parts" = some (some (.ref f19))) (l19 : K.lookup f19 = some ⟨oc19, od19, .func (PySem.W.fnOf "_law_parts" "_law_parts" (defArgs s_l_parts) (defBody s_l_parts) (defScope s_l_parts) .none kV19 dc19 pm19 an19 cd19 ct19), sl19⟩) (c19 : PySem.W.codeIn K cd19 "_law_parts" = true) (k19 : PySem.W.keepIn K (.ref f19) = true)
    (a20 : PySem.W.nsIn K mainGlobals "_law_is_shuffle" = some (some (.ref f20))) (l20 : K.lookup f20 = some ⟨oc20, od20, .func (PySem.W.fnOf "_law_is_shuffle" "_law_is_shuffle" (defArgs s_l_is_shuffle) (defBody s_l_is_shuffle) (defScope s_l_is_shuffle) .none kV20 dc20 pm20 an20 cd20 ct20), sl20⟩) (c20 : PySem.W.codeIn K cd20 "_law_is_shuffle" = true) (k20 : PySem.W.keepIn K (.ref f20) = true)
    (a21 : PySem.W.nsIn K mainGlobals "_law_map" = some (some (.ref f21))) (l21 : K.lookup f21 = some ⟨oc21, od21, .func (PySem.W.fnOf "_law_map" "_law_map" (defArgs s_l_map) (defBody s_l_map) (defScope s_l_map) .none kV21 dc21 pm21 an21 cd21 ct21), sl21⟩) (c21 : PySem.W.codeIn K cd21 "_law_map" = true) (k21 : PySem.W.keepIn K (.ref f21) = true)
    (a22 : PySem.W.nsIn K mainGlobals "_law_map_word" = some (some (.ref f22))) (l22 : K.lookup f22 = some ⟨oc22, od22, .func (PySem.W.fnOf "_law_map_word" "_law_map_word" (defArgs s_l_map_word) (defBody s_l_map_word) (defScope s_l_map_word) .none kV22 dc22 pm22 an22 cd22 ct22), sl22⟩) (c22 : PySem.W.codeIn K cd22 "_law_map_word" = true) (k22 : PySem.W.keepIn K (.ref f22) = true)
    (a23 : PySem.W.nsIn K mainGlobals "_law_push" = some (some (.ref f23))) (l23 : K.lookup f23 = some ⟨oc23, od23, .func (PySem.W.fnOf "_law_push" "_law_push" (defArgs s_l_push) (defBody s_l_push) (defScope s_l_push) .none kV23 dc23 pm23 an23 cd23 ct23), sl23⟩) (c23 : PySem.W.codeIn K cd23 "_law_push" = true) (k23 : PySem.W.keepIn K (.ref f23) = true)
    (a24 : PySem.W.nsIn K mainGlobals "_law_inner" = some (some (.ref f24))) (l24 : K.lookup f24 = some ⟨oc24, od24, .func (PySem.W.fnOf "_law_inner" "_law_inner" (defArgs s_l_inner) (defBody s_l_inner) (defScope s_l_inner) .none kV24 dc24 pm24 an24 cd24 ct24), sl24⟩) (c24 : PySem.W.codeIn K cd24 "_law_inner" = true) (k24 : PySem.W.keepIn K (.ref f24) = true)
    (a25 : PySem.W.nsIn K mainGlobals "_law_takes" = some (some (.ref f25))) (l25 : K.lookup f25 = some ⟨oc25, od25, .func (PySem.W.fnOf "_law_takes" "_law_takes" (defArgs s_l_takes) (defBody s_l_takes) (defScope s_l_takes) .none kV25 dc25 pm25 an25 cd25 ct25), sl25⟩) (c25 : PySem.W.codeIn K cd25 "_law_takes" = true) (k25 : PySem.W.keepIn K (.ref f25) = true)
    (a26 : PySem.W.nsIn K mainGlobals "_law_made" = some (some (.ref f26))) (l26 : K.lookup f26 = some ⟨oc26, od26, .func (PySem.W.fnOf "_law_made" "_law_made" (defArgs s_l_made) (defBody s_l_made) (defScope s_l_made) .none kV26 dc26 pm26 an26 cd26 ct26), sl26⟩) (c26 : PySem.W.codeIn K cd26 "_law_made" = true) (k26 : PySem.W.keepIn K (.ref f26) = true)
    (a27 : PySem.W.nsIn K mainGlobals "_law_by_maps" = some (some (.ref f27))) (l27 : K.lookup f27 = some ⟨oc27, od27, .func (PySem.W.fnOf "_law_by_maps" "_law_by_maps" (defArgs s_l_by_maps) (defBody s_l_by_maps) (defScope s_l_by_maps) .none kV27 dc27 pm27 an27 cd27 ct27), sl27⟩) (c27 : PySem.W.codeIn K cd27 "_law_by_maps" = true) (k27 : PySem.W.keepIn K (.ref f27) = true)
    (a28 : PySem.W.nsIn K mainGlobals "_law_by_dips" = some (some (.ref f28))) (l28 : K.lookup f28 = some ⟨oc28, od28, .func (PySem.W.fnOf "_law_by_dips" "_law_by_dips" (defArgs s_l_by_dips) (defBody s_l_by_dips) (defScope s_l_by_dips) .none kV28 dc28 pm28 an28 cd28 ct28), sl28⟩) (c28 : PySem.W.codeIn K cd28 "_law_by_dips" = true) (k28 : PySem.W.keepIn K (.ref f28) = true)
    (a29 : PySem.W.nsIn K mainGlobals "_law_is_entered" = some (some (.ref f29))) (l29 : K.lookup f29 = some ⟨oc29, od29, .func (PySem.W.fnOf "_law_is_entered" "_law_is_entered" (defArgs s_l_is_entered) (defBody s_l_is_entered) (defScope s_l_is_entered) .none kV29 dc29 pm29 an29 cd29 ct29), sl29⟩) (c29 : PySem.W.codeIn K cd29 "_law_is_entered" = true) (k29 : PySem.W.keepIn K (.ref f29) = true)
    (a30 : PySem.W.nsIn K mainGlobals "_law_put" = some (some (.ref f30))) (l30 : K.lookup f30 = some ⟨oc30, od30, .func (PySem.W.fnOf "_law_put" "_law_put" (defArgs s_l_put) (defBody s_l_put) (defScope s_l_put) .none kV30 dc30 pm30 an30 cd30 ct30), sl30⟩) (c30 : PySem.W.codeIn K cd30 "_law_put" = true) (k30 : PySem.W.keepIn K (.ref f30) = true)
    (a31 : PySem.W.nsIn K mainGlobals "_law_is_by" = some (some (.ref f31))) (l31 : K.lookup f31 = some ⟨oc31, od31, .func (PySem.W.fnOf "_law_is_by" "_law_is_by" (defArgs s_l_is_by) (defBody s_l_is_by) (defScope s_l_is_by) .none kV31 dc31 pm31 an31 cd31 ct31), sl31⟩) (c31 : PySem.W.codeIn K cd31 "_law_is_by" = true) (k31 : PySem.W.keepIn K (.ref f31) = true)
    (a32 : PySem.W.nsIn K mainGlobals "_law_turned_by" = some (some (.ref f32))) (l32 : K.lookup f32 = some ⟨oc32, od32, .func (PySem.W.fnOf "_law_turned_by" "_law_turned_by" (defArgs s_l_turned_by) (defBody s_l_turned_by) (defScope s_l_turned_by) .none kV32 dc32 pm32 an32 cd32 ct32), sl32⟩) (c32 : PySem.W.codeIn K cd32 "_law_turned_by" = true) (k32 : PySem.W.keepIn K (.ref f32) = true)
    (a33 : PySem.W.nsIn K mainGlobals "_law_leads" = some (some (.ref f33))) (l33 : K.lookup f33 = some ⟨oc33, od33, .func (PySem.W.fnOf "_law_leads" "_law_leads" (defArgs s_l_leads) (defBody s_l_leads) (defScope s_l_leads) .none kV33 dc33 pm33 an33 cd33 ct33), sl33⟩) (c33 : PySem.W.codeIn K cd33 "_law_leads" = true) (k33 : PySem.W.keepIn K (.ref f33) = true)
    (a34 : PySem.W.nsIn K mainGlobals "_law_shuffles" = some (some (.ref f34))) (l34 : K.lookup f34 = some ⟨oc34, od34, .func (PySem.W.fnOf "_law_shuffles" "_law_shuffles" (defArgs s_l_shuffles) (defBody s_l_shuffles) (defScope s_l_shuffles) .none kV34 dc34 pm34 an34 cd34 ct34), sl34⟩) (c34 : PySem.W.codeIn K cd34 "_law_shuffles" = true) (k34 : PySem.W.keepIn K (.ref f34) = true)
    (a35 : PySem.W.nsIn K mainGlobals "_law_other" = some (some (.ref f35))) (l35 : K.lookup f35 = some ⟨oc35, od35, .func (PySem.W.fnOf "_law_other" "_law_other" (defArgs s_l_other) (defBody s_l_other) (defScope s_l_other) .none kV35 dc35 pm35 an35 cd35 ct35), sl35⟩) (c35 : PySem.W.codeIn K cd35 "_law_other" = true) (k35 : PySem.W.keepIn K (.ref f35) = true)
    (a36 : PySem.W.nsIn K mainGlobals "_law_end" = some (some (.ref f36))) (l36 : K.lookup f36 = some ⟨oc36, od36, .func (PySem.W.fnOf "_law_end" "_law_end" (defArgs s_l_end) (defBody s_l_end) (defScope s_l_end) .none kV36 dc36 pm36 an36 cd36 ct36), sl36⟩) (c36 : PySem.W.codeIn K cd36 "_law_end" = true) (k36 : PySem.W.keepIn K (.ref f36) = true)
    (a37 : PySem.W.nsIn K mainGlobals "_law_right" = some (some (.ref f37))) (l37 : K.lookup f37 = some ⟨oc37, od37, .func (PySem.W.fnOf "_law_right" "_law_right" (defArgs s_l_right) (defBody s_l_right) (defScope s_l_right) .none kV37 dc37 pm37 an37 cd37 ct37), sl37⟩) (c37 : PySem.W.codeIn K cd37 "_law_right" = true) (k37 : PySem.W.keepIn K (.ref f37) = true)
    (a38 : PySem.W.nsIn K mainGlobals "law" = some (some (.ref f38))) (l38 : K.lookup f38 = some ⟨oc38, od38, .func (PySem.W.fnOf "law" "law" (defArgs s_law) (defBody s_law) (defScope s_law) .none kV38 dc38 pm38 an38 cd38 ct38), sl38⟩) (c38 : PySem.W.codeIn K cd38 "law" = true) (k38 : PySem.W.keepIn K (.ref f38) = true)
    (z_all : PySem.W.nsIn K mainGlobals "all" = some none)
    (z_int : PySem.W.nsIn K mainGlobals "int" = some none)
    (z_isinstance : PySem.W.nsIn K mainGlobals "isinstance" = some none)
    (z_len : PySem.W.nsIn K mainGlobals "len" = some none)
    (z_list : PySem.W.nsIn K mainGlobals "list" = some none)
    (z_max : PySem.W.nsIn K mainGlobals "max" = some none)
    (z_range : PySem.W.nsIn K mainGlobals "range" = some none)
    (z_str : PySem.W.nsIn K mainGlobals "str" = some none)
    (z_sum : PySem.W.nsIn K mainGlobals "sum" = some none)
    (z_tuple : PySem.W.nsIn K mainGlobals "tuple" = some none)
    (xg_NoShuffle : PySem.W.nsIn K mainGlobals "NoShuffle" = some (some (.ref eNoShuffle)))
    (xb_NoShuffle : PySem.W.subIn K (.ref eNoShuffle) (.type "BaseException") = some true)
    (xt_NoShuffle : PySem.W.typeIn K (.ref eNoShuffle) = some (.type "type"))
    (xx_NoShuffle : PySem.W.excIn K eNoShuffle veB "ValueError.__new__" = true)
    (xk_NoShuffle : PySem.W.keepIn K (.ref eNoShuffle) = true)
    (n_LETTERS : PySem.W.nsIn K mainGlobals "LETTERS" = some (some (.str "abcdefgh" t_LETTERS)))
    (n_MOST_LEFT_shuffles : PySem.W.nsIn K mainGlobals "MOST_LEFT_shuffles" = some (some (.int 12 t_MOST_LEFT_shuffles))) :
    ∃ fd : FuncData, (∀ (s : Shared) (v : Value), BindsTo s fd ⟨[v], []⟩ [("_law_script", v)]) ∧ ∀ base : Heap, K.In base → base.Ns mainGlobals mg → FnOk l.prog w K mg base (L2.CX l.prog w) (n + 20) fa fd ["_law_script"] (spLaw K) := by
  have e := hfa.symm.trans (PySem.W.mg_of X G a38)
  cases e
  exact ⟨PySem.W.fnOf "law" "law" (defArgs s_law) (defBody s_law) (defScope s_law) .none kV38 dc38 pm38 an38 cd38 ct38, fun s v => .of_eq rfl, fun base _ _ => (cal (T := txMk X G a1 l1 c1 k1 a2 l2 c2 k2 a3 l3 c3 k3 a4 l4 c4 k4 a5 l5 c5 k5 a6 l6 c6 k6 a7 l7 c7 k7 a8 l8 c8 k8 a9 l9 c9 k9 a10 l10 c10 k10 q10 a11 l11 c11 k11 q11 a12 l12 c12 k12 a13 l13 c13 k13 a14 l14 c14 k14 a15 l15 c15 k15 q15 a16 l16 c16 k16 a17 l17 c17 k17 a18 l18 c18 k18 a19 l19 c19 k19 a20 l20 c20 k20 a21 l21 c21 k21 a22 l22 c22 k22 a23 l23 c23 k23 a24 l24 c24 k24 a25 l25 c25 k25 a26 l26 c26 k26 a27 l27 c27 k27 a28 l28 c28 k28 a29 l29 c29 k29 a30 l30 c30 k30 a31 l31 c31 k31 a32 l32 c32 k32 a33 l33 c33 k33 a34 l34 c34 k34 a35 l35 c35 k35 a36 l36 c36 k36 a37 l37 c37 k37 a38 l38 c38 k38 z_all z_int z_isinstance z_len z_list z_max z_range z_str z_sum z_tuple xg_NoShuffle xb_NoShuffle xt_NoShuffle xx_NoShuffle xk_NoShuffle n_LETTERS n_MOST_LEFT_shuffles) fu n).law.imp (law_sp hG)⟩
end K61

namespace K61
open PySem L2 DL
variable {fu n : Nat} {R S : Sto} {F : D → Sto → Prop} {E : Exc → Sto → Prop}
/-! shuffles -/
theorem isiN_ss : isiN "str" "str" = true := by decide
theorem isiN_tt : isiN "tuple" "tuple" = true := by decide
theorem isiN_ii : isiN "int" "int" = true := by decide
theorem isiN_ib : isiN "int" "bool" = false := by decide
theorem isiN_bi : isiN "bool" "int" = true := by decide
theorem isiN_bb : isiN "bool" "bool" = true := by decide
theorem isiN_ts : isiN "tuple" "str" = false := by decide
theorem isiN_st : isiN "str" "tuple" = false := by decide
theorem isiN_lt : isiN "list" "tuple" = false := by decide
theorem isiN_nt : isiN "NoneType" "tuple" = false := by decide
theorem isiN_ns : isiN "NoneType" "str" = false := by decide
theorem isiN_ni : isiN "NoneType" "int" = false := by decide
theorem isiN_it : isiN "int" "tuple" = false := by decide
theorem isiN_si : isiN "str" "int" = false := by decide
theorem isiN_ti : isiN "tuple" "int" = false := by decide
theorem isiN_bt : isiN "bool" "tuple" = false := by decide
theorem signs_in {ρ : Rho} {i : Nat} {z : Str} {l : List Nat} (hl : z.length ≤ sizeLine) {el : EvD} (hi : ∀ c S, wp (el ((wipeR ρ [i]).set i (some (.str ⟨#[c]⟩))) S) (fun d S' => d = .bl (decide (c ∈ l)) ∧ S' = S) nx) {FF : List D → Sto → Prop} (h : FF ((z.cps.toList.map fun c => decide (c ∈ l)).map D.bl) S) :
    wp (compM none (z.cps.toList.map fun c => D.str ⟨#[c]⟩) (gN i) bYes el (wipeR ρ [i]) (z.cps.toList.map fun c => D.str ⟨#[c]⟩) S) FF nx := by
  refine wp_compM (fun k ys S' => S' = S ∧ ys = ((z.cps.toList.take k).map fun c => decide (c ∈ l)).map D.bl) (fun _ _ _ _ => trivial) (fun k d ys S' hd hk => ?_) (fun ys S' hk => ?_) ⟨rfl, rfl⟩
  · obtain ⟨rfl, rfl⟩ := hk
    rw [List.getElem?_map, Option.map_eq_some_iff] at hd
    obtain ⟨c, hc, rfl⟩ := hd
    refine ⟨_, rfl, ?_⟩
    rw [wp_bYes, if_pos rfl]
    refine wp_mono (hi c S') (fun y S'' hy => ?_) (fun _ _ h => h)
    obtain ⟨rfl, rfl⟩ := hy
    refine ⟨rfl, ?_⟩
    rw [List.take_succ, hc]
    simp
  · obtain ⟨rfl, rfl⟩ := hk
    rw [List.length_map, List.take_length]
    exact h
def IsSh (z : Str) : Prop := ∃ a b : List Nat, z = (⟨a.toArray⟩ : Str) ++ (⟨#[45]⟩ : Str) ++ (⟨b.toArray⟩ : Str) ∧ (∃ m, m ≤ 8 ∧ a = [97, 98, 99, 100, 101, 102, 103, 104].take m) ∧ b.length ≤ 12 ∧ ∀ x ∈ b, x ∈ a
theorem dash_eq : Str.ofString "-" = ⟨#[45]⟩ := by decide +kernel
theorem letters_eq : Str.ofString "abcdefgh" = ⟨#[97, 98, 99, 100, 101, 102, 103, 104]⟩ := by decide +kernel
theorem iLst_strs {l : List Str} : iLst S (.lst (l.map .str)) = some (l.map .str) := rfl
theorem shuffle_ok {z : Str} (hS : OKS S) (hz : IsSh z) (hF : F (.bl true) S) : wp (den fu (n + 1) i_is_shuffle [.str z] S) F E := by
  obtain ⟨a, b, rfl, ⟨m, hm, ha⟩, hb, hab⟩ := hz
  have la : a.length = m := by rw [ha]; simp; omega
  have n45 : ∀ x ∈ a, x ≠ 45 := by
    intro x hx
    rw [ha] at hx
    have := List.mem_of_mem_take hx
    intro e; subst e; revert this; decide
  have sp : Txt.split ((⟨a.toArray⟩ : Str) ++ (⟨#[45]⟩ : Str) ++ (⟨b.toArray⟩ : Str)) ⟨#[45]⟩ = [⟨a.toArray⟩, ⟨b.toArray⟩] :=
    split_two (fun h => n45 45 (by simpa using h) rfl) (fun h => n45 45 (hab 45 (by simpa using h)) rfl)
  have hlen : ((⟨a.toArray⟩ : Str) ++ (⟨#[45]⟩ : Str) ++ (⟨b.toArray⟩ : Str)).length ≤ 21 := by
    show ((a.toArray ++ #[45]) ++ b.toArray).size ≤ 21
    simp; omega
  generalize hzz : ((⟨a.toArray⟩ : Str) ++ (⟨#[45]⟩ : Str) ++ (⟨b.toArray⟩ : Str)) = z at sp hlen
  show wp (runDef false 3 (b_is_shuffle fu (den fu n)) _ _) _ _
  have spl : ∀ S F, wp (gSplit false (.str z) [.str (Str.ofString "-")] S) F E ↔ F (.lst [.str ⟨a.toArray⟩, .str ⟨b.toArray⟩]) S := by
    intro S F
    unfold gSplit
    rw [dash_eq]
    simp only [sp, List.map_cons, List.map_nil]
    rw [if_pos ⟨by decide, by rw [sizeLine_eq]; omega⟩]
    exact Iff.rfl
  have l8 : ∀ x : Nat, x ≤ 16777216 → x ≤ sizeLine := fun x h => by rw [sizeLine_eq]; exact h
  have cut : cutS (Str.ofString "abcdefgh") none (some (m : Int)) = ⟨a.toArray⟩ := by
    rw [letters_eq]
    unfold cutS
    apply str_ext
    simp only [List.toList_toArray]
    rw [ha]
    have e1 : HT.sIx (Str.length ⟨#[97, 98, 99, 100, 101, 102, 103, 104]⟩) 0 none = 0 := rfl
    have e2 : HT.sIx (Str.length ⟨#[97, 98, 99, 100, 101, 102, 103, 104]⟩) (Str.length ⟨#[97, 98, 99, 100, 101, 102, 103, 104]⟩) (some (m : Int)) = m := by
      rw [HT.sIx_nat]; show min m 8 = m; omega
    rw [e1, e2]; simp
  have hL : ((⟨a.toArray⟩ : Str)).length = m := by show a.toArray.size = m; simp [la]
  have hR : ((⟨b.toArray⟩ : Str)).length = b.length := by show b.toArray.size = _; simp
  have hA : (Str.ofString "abcdefgh").length ≤ sizeLine := by rw [letters_eq]; exact l8 _ (by decide)
  simp only [b_is_shuffle, k_MOST_LEFT_shuffles, k_LETTERS, isiN_ss, spl, isTy, hL, hR, cut, hA, l8 m (by omega), l8 b.length (by omega), show ¬ (12 : Int) < (b.length : Int) by omega, wp_ok, wp_ret, wp_stuck, wp_bad, wp_bnd, wp_if, wp_fif, wps_ok_nx, wps_ok_rt, wps_ok_bk, wps_ok_ct, wps_ok_xc, wps_bad, wps_lft, wps_seq, wps_nil, wps_ret, wps_expr, wps_asg, wps_if, wp_run, wps_for, wps_while, wp_comp, wp_var, wp_C, wp_bin, wp_un, wp_T, wp_Tb, wp_asBl, wp_truthBl, wp_bAnd, wp_bOr, wp_bNot, wp_eIf, wp_eAnd, wp_eOr, wp_eNot, blCase_bl, wp_chain, wp_aNil, wp_aCons, wp_tup, wp_lst, wp_lstM, wp_call, wp_cl1, wp_cl2, wp_cl3, wp_cl4, wp_cl5, wp_meth, wp_isi, wp_oNone, wp_oSome, wp_sl, wp_it, wp_range1, wp_range2, wp_bYes, gEq_str, gNe_str, gEq_int, gNe_int, gEq_bl, gNe_bl, gIs_bl, gIsNot_bl, gAdd_int, gSub_int, gC_int, gI_int, gAdd_str, gAdd_tup, gAdd_lst, gNeg_int, gIx_tup, gIx_lst, gLen_tup, gLen_lst, gLen_str, gInt_int, gInt_bl, gTuple_lst, gTuple_tup, gList_lst, gList_tup, gSl_tup, gSl_lst, gSl_fl, gSl_str, srcL_tup, srcL_lst, srcL_fl, srcL_str, srcR1_int, typN, startR, List.map_cons, List.map_nil, List.length_cons, List.length_nil, Nat.reduceAdd, Nat.reduceSub, Nat.zero_add, Nat.sub_self, Nat.sub_zero, List.replicate_zero, List.replicate_succ, List.cons_append, List.nil_append, List.append_nil, List.getElem?_cons_zero, List.getElem?_cons_succ, List.set_cons_zero, List.set_cons_succ, List.set_nil, List.getElem?_nil, Option.some.injEq, exists_eq_left', exists_eq_left, exists_eq_right, reduceCtorEq, false_and, and_false, true_and, and_true, exists_false, exists_const, wipeR, Nat.zero_le, String.reduceEq, D.int.injEq, D.str.injEq, D.bl.injEq, atI_0, atI_1, atI_2, atI_3, atI_4, beq_self_eq_true, not_true_eq_false, not_false_eq_true, Int.cast_ofNat_Int, Int.reduceEq, Int.reduceLE, Int.reduceLT, Int.reduceAdd, Int.reduceSub, Int.reduceMul, Int.reduceNeg, if_true, if_false, ite_true, ite_false, Bool.false_eq_true, if_neg, if_pos, decide_eq_true_eq, Bool.not_eq_true', decide_eq_false_iff_not, eq_self_iff_true, decide_true, decide_false, Bool.not_true, Bool.not_false]
  refine ⟨by rw [List.length_map]; exact l8 _ (by omega), ?_⟩
  refine signs_in (ρ := [some (.str z), some (.lst [.str ⟨a.toArray⟩, .str ⟨b.toArray⟩]), none]) (by rw [hR]; exact l8 _ (by omega)) (l := a) (fun c S => ?_) ?_
  · simp only [gIn_sign, List.toList_toArray, wp_ok, wp_ret, wp_stuck, wp_bad, wp_bnd, wp_if, wp_fif, wps_ok_nx, wps_ok_rt, wps_ok_bk, wps_ok_ct, wps_ok_xc, wps_bad, wps_lft, wps_seq, wps_nil, wps_ret, wps_expr, wps_asg, wps_if, wp_run, wps_for, wps_while, wp_comp, wp_var, wp_C, wp_bin, wp_un, wp_T, wp_Tb, wp_asBl, wp_truthBl, wp_bAnd, wp_bOr, wp_bNot, wp_eIf, wp_eAnd, wp_eOr, wp_eNot, blCase_bl, wp_chain, wp_aNil, wp_aCons, wp_tup, wp_lst, wp_lstM, wp_call, wp_cl1, wp_cl2, wp_cl3, wp_cl4, wp_cl5, wp_meth, wp_isi, wp_oNone, wp_oSome, wp_sl, wp_it, wp_range1, wp_range2, wp_bYes, gEq_str, gNe_str, gEq_int, gNe_int, gEq_bl, gNe_bl, gIs_bl, gIsNot_bl, gAdd_int, gSub_int, gC_int, gI_int, gAdd_str, gAdd_tup, gAdd_lst, gNeg_int, gIx_tup, gIx_lst, gLen_tup, gLen_lst, gLen_str, gInt_int, gInt_bl, gTuple_lst, gTuple_tup, gList_lst, gList_tup, gSl_tup, gSl_lst, gSl_fl, gSl_str, srcL_tup, srcL_lst, srcL_fl, srcL_str, srcR1_int, typN, startR, List.map_cons, List.map_nil, List.length_cons, List.length_nil, Nat.reduceAdd, Nat.reduceSub, Nat.zero_add, Nat.sub_self, Nat.sub_zero, List.replicate_zero, List.replicate_succ, List.cons_append, List.nil_append, List.append_nil, List.getElem?_cons_zero, List.getElem?_cons_succ, List.set_cons_zero, List.set_cons_succ, List.set_nil, List.getElem?_nil, Option.some.injEq, exists_eq_left', exists_eq_left, exists_eq_right, reduceCtorEq, false_and, and_false, true_and, and_true, exists_false, exists_const, wipeR, Nat.zero_le, String.reduceEq, D.int.injEq, D.str.injEq, D.bl.injEq, atI_0, atI_1, atI_2, atI_3, atI_4, beq_self_eq_true, not_true_eq_false, not_false_eq_true, Int.cast_ofNat_Int, Int.reduceEq, Int.reduceLE, Int.reduceLT, Int.reduceAdd, Int.reduceSub, Int.reduceMul, Int.reduceNeg, if_true, if_false, ite_true, ite_false, Bool.false_eq_true, if_neg, if_pos, decide_eq_true_eq, Bool.not_eq_true', decide_eq_false_iff_not, eq_self_iff_true, decide_true, decide_false, Bool.not_true, Bool.not_false]
  · rw [gAll_bls, List.toList_toArray]
    have : ((b.map fun c => decide (c ∈ a)).all id) = true := by simpa using hab
    rw [this]
    exact (fin_blO hS).mpr hF
def L8 : List Nat := [97, 98, 99, 100, 101, 102, 103, 104]
def wd (m : Nat) (ps : List Nat) : Str := (⟨(L8.take m).toArray⟩ : Str) ++ (⟨#[45]⟩ : Str) ++ (⟨(ps.map (97 + ·)).toArray⟩ : Str)
def ShO (m : Nat) (ps : List Nat) : Prop := m ≤ 8 ∧ ps.length ≤ 12 ∧ ∀ p ∈ ps, p < m
theorem mem_L8 {m p : Nat} (hm : m ≤ 8) (hp : p < m) : 97 + p ∈ L8.take m := by
  have : ∀ m, m ≤ 8 → ∀ p, p < m → 97 + p ∈ L8.take m := by decide
  exact this m hm p hp
theorem ShO.is {m : Nat} {ps : List Nat} (h : ShO m ps) : IsSh (wd m ps) := ⟨L8.take m, ps.map (97 + ·), rfl, ⟨m, h.1, rfl⟩, by rw [List.length_map]; exact h.2.1, fun x hx => by
  obtain ⟨p, hp, rfl⟩ := List.mem_map.mp hx
  exact mem_L8 h.1 (h.2.2 p hp)⟩
theorem L8_len {m : Nat} (h : m ≤ 8) : (L8.take m).length = m := by
  rw [List.length_take]; show min m 8 = m; omega
theorem L8_small {x : Nat} {m : Nat} (h : x ∈ L8.take m) : x ≠ 45 := by
  have := List.mem_of_mem_take h
  intro e; subst e; revert this; decide
theorem wd_split {m : Nat} {ps : List Nat} (h : ShO m ps) {S : Sto} {F E} : wp (gSplit false (.str (wd m ps)) [.str "-"] S) F E ↔ F (.lst [.str ⟨(L8.take m).toArray⟩, .str ⟨(ps.map (97 + ·)).toArray⟩]) S := by
  have sp : Txt.split (wd m ps) ⟨#[45]⟩ = [⟨(L8.take m).toArray⟩, ⟨(ps.map (97 + ·)).toArray⟩] :=
    split_two (fun h => L8_small (by simpa using h) rfl) (fun h => by simp at h; omega)
  have hlen : (wd m ps).length ≤ 21 := by
    show (((L8.take m).toArray ++ #[45]) ++ (ps.map (97 + ·)).toArray).size ≤ 21
    have h2 := h.2.1
    have h3 := L8_len h.1
    have h1 := h.1
    rw [Array.size_append, Array.size_append, List.size_toArray, h3]
    show m + 1 + (ps.map (97 + ·)).toArray.size ≤ 21
    rw [List.size_toArray, List.length_map]
    omega
  unfold gSplit
  rw [dash_eq]
  simp only [sp, List.map_cons, List.map_nil]
  rw [if_pos ⟨by decide, by rw [sizeLine_eq]; omega⟩]
  exact Iff.rfl
theorem find_L8 {m p : Nat} (hm : m ≤ 8) (hp : p < m) : ∃ r, Builtin.Str.occurrences (⟨(L8.take m).toArray⟩ : Str) ⟨#[97 + p]⟩ 0 (⟨(L8.take m).toArray⟩ : Str).length 1 = p :: r := by
  have : ∀ m, m ≤ 8 → ∀ p, p < m → Builtin.Str.occurrences (⟨(L8.take m).toArray⟩ : Str) ⟨#[97 + p]⟩ 0 (⟨(L8.take m).toArray⟩ : Str).length 1 = [p] := by decide +kernel
  exact ⟨[], this m hm p hp⟩
abbrev nats (ps : List Nat) : List D := ps.map fun p => D.int (p : Nat)
theorem nats_tr (ps : List Nat) : D.los 0 (nats ps) = true := los_map (fun _ => rfl) ps
/-- a comprehension without draws that makes one thing of each -/
theorem comp_one {α : Type} {all : List α} {en : α → D} {i : Nat} {el : EvD} {ρ : Rho} {FF : List D → Sto → Prop} (g : α → D) (h : ∀ a ∈ all, ∀ {F E}, F (g a) S → wp (el (ρ.set i (some (en a))) S) F E) (hF : FF (all.map g) S) :
    wp (compM none (all.map en) (gN i) bYes el ρ (all.map en) S) FF nx := by
  refine wp_compM (fun k ys S' => S' = S ∧ ys = (all.take k).map g) (fun _ _ _ _ => trivial) (fun k d ys S' hd hk => ?_) (fun ys S' hk => ?_) ⟨rfl, rfl⟩
  · obtain ⟨rfl, rfl⟩ := hk
    rw [List.getElem?_map, Option.map_eq_some_iff] at hd
    obtain ⟨a, ha, rfl⟩ := hd
    refine ⟨_, rfl, ?_⟩
    rw [wp_bYes, if_pos rfl]
    refine h a (List.mem_of_getElem? ha) ⟨rfl, ?_⟩
    rw [List.take_succ, ha]; simp
  · obtain ⟨rfl, rfl⟩ := hk
    rw [List.length_map, List.take_length]; exact hF
theorem taken_left_ok {m N : Nat} {ps : List Nat} (h : ShO m ps) (hN : 1 ≤ N) (hS : OKS S) (hF : F (.tup [.int m, .tup (nats ps)]) S) : wp (den fu N i_taken_left [.str (wd m ps)] S) F E := by
  obtain ⟨N', rfl⟩ : ∃ N', N = N' + 1 := ⟨N - 1, by omega⟩
  show wp (runDef false 4 (b_taken_left fu (den fu N')) _ _) _ _
  have hL : ((⟨(L8.take m).toArray⟩ : Str)).length = m := by show (L8.take m).toArray.size = m; simp [L8_len h.1]
  have hR : ((⟨(ps.map (97 + ·)).toArray⟩ : Str)).length = ps.length := by show (ps.map (97 + ·)).toArray.size = _; simp
  have h1 := h.1
  have h2 := h.2.1
  simp only [b_taken_left, wd_split h, isTy, hL, hR, wp_ok, wp_ret, wp_stuck, wp_bad, wp_bnd, wp_if, wp_fif, wps_ok_nx, wps_ok_rt, wps_ok_bk, wps_ok_ct, wps_ok_xc, wps_bad, wps_lft, wps_seq, wps_nil, wps_ret, wps_expr, wps_asg, wps_if, wp_run, wps_for, wps_while, wp_comp, wp_var, wp_C, wp_bin, wp_un, wp_T, wp_Tb, wp_asBl, wp_truthBl, wp_bAnd, wp_bOr, wp_bNot, wp_eIf, wp_eAnd, wp_eOr, wp_eNot, blCase_bl, wp_chain, wp_aNil, wp_aCons, wp_tup, wp_lst, wp_lstM, wp_call, wp_cl1, wp_cl2, wp_cl3, wp_cl4, wp_cl5, wp_meth, wp_isi, wp_oNone, wp_oSome, wp_sl, wp_it, wp_range1, wp_range2, wp_bYes, gEq_str, gNe_str, gEq_int, gNe_int, gEq_bl, gNe_bl, gIs_bl, gIsNot_bl, gAdd_int, gSub_int, gC_int, gI_int, gAdd_str, gAdd_tup, gAdd_lst, gNeg_int, gIx_tup, gIx_lst, gLen_tup, gLen_lst, gLen_str, gInt_int, gInt_bl, gTuple_lst, gTuple_tup, gList_lst, gList_tup, gSl_tup, gSl_lst, gSl_fl, gSl_str, srcL_tup, srcL_lst, srcL_fl, srcL_str, srcR1_int, typN, startR, List.map_cons, List.map_nil, List.length_cons, List.length_nil, Nat.reduceAdd, Nat.reduceSub, Nat.zero_add, Nat.sub_self, Nat.sub_zero, List.replicate_zero, List.replicate_succ, List.cons_append, List.nil_append, List.append_nil, List.getElem?_cons_zero, List.getElem?_cons_succ, List.set_cons_zero, List.set_cons_succ, List.set_nil, List.getElem?_nil, Option.some.injEq, exists_eq_left', exists_eq_left, exists_eq_right, reduceCtorEq, false_and, and_false, true_and, and_true, exists_false, exists_const, wipeR, Nat.zero_le, String.reduceEq, D.int.injEq, D.str.injEq, D.bl.injEq, atI_0, atI_1, atI_2, atI_3, atI_4, beq_self_eq_true, not_true_eq_false, not_false_eq_true, Int.cast_ofNat_Int, Int.reduceEq, Int.reduceLE, Int.reduceLT, Int.reduceAdd, Int.reduceSub, Int.reduceMul, Int.reduceNeg, if_true, if_false, ite_true, ite_false, Bool.false_eq_true, if_neg, if_pos, decide_eq_true_eq, Bool.not_eq_true', decide_eq_false_iff_not, eq_self_iff_true, decide_true, decide_false, Bool.not_true, Bool.not_false, wps_raise, wps_try, wps_tryAs, tryCase_t, tryCase_f, tbl_hit, suiteOf_hit, wp_eDct, wp_eDGet, wp_eDNew, wp_eDDef, wps_dput, wps_augI, wps_asgTp, wps_asgUl, gUl2, gTp2, gTp3, gTp4, gTp5, gNs_cons, gN0_nil, wp_clN1, wp_clN2, wp_clN3, wp_slSt, gTupR_int, gLstR_int, gEndswith_str]
  refine ⟨small_line (by omega), small_line (by rw [List.length_map, List.length_map]; omega), ?_⟩
  rw [List.map_map]
  refine comp_one (fun p => D.int (p : Nat)) (fun p hp F E hF => ?_) ?_
  · obtain ⟨r, hr⟩ := find_L8 h.1 (h.2.2 p hp)
    simp only [Function.comp, isTy, gSIndex_of hr, wp_ok, wp_ret, wp_stuck, wp_bad, wp_bnd, wp_if, wp_fif, wps_ok_nx, wps_ok_rt, wps_ok_bk, wps_ok_ct, wps_ok_xc, wps_bad, wps_lft, wps_seq, wps_nil, wps_ret, wps_expr, wps_asg, wps_if, wp_run, wps_for, wps_while, wp_comp, wp_var, wp_C, wp_bin, wp_un, wp_T, wp_Tb, wp_asBl, wp_truthBl, wp_bAnd, wp_bOr, wp_bNot, wp_eIf, wp_eAnd, wp_eOr, wp_eNot, blCase_bl, wp_chain, wp_aNil, wp_aCons, wp_tup, wp_lst, wp_lstM, wp_call, wp_cl1, wp_cl2, wp_cl3, wp_cl4, wp_cl5, wp_meth, wp_isi, wp_oNone, wp_oSome, wp_sl, wp_it, wp_range1, wp_range2, wp_bYes, gEq_str, gNe_str, gEq_int, gNe_int, gEq_bl, gNe_bl, gIs_bl, gIsNot_bl, gAdd_int, gSub_int, gC_int, gI_int, gAdd_str, gAdd_tup, gAdd_lst, gNeg_int, gIx_tup, gIx_lst, gLen_tup, gLen_lst, gLen_str, gInt_int, gInt_bl, gTuple_lst, gTuple_tup, gList_lst, gList_tup, gSl_tup, gSl_lst, gSl_fl, gSl_str, srcL_tup, srcL_lst, srcL_fl, srcL_str, srcR1_int, typN, startR, List.map_cons, List.map_nil, List.length_cons, List.length_nil, Nat.reduceAdd, Nat.reduceSub, Nat.zero_add, Nat.sub_self, Nat.sub_zero, List.replicate_zero, List.replicate_succ, List.cons_append, List.nil_append, List.append_nil, List.getElem?_cons_zero, List.getElem?_cons_succ, List.set_cons_zero, List.set_cons_succ, List.set_nil, List.getElem?_nil, Option.some.injEq, exists_eq_left', exists_eq_left, exists_eq_right, reduceCtorEq, false_and, and_false, true_and, and_true, exists_false, exists_const, wipeR, Nat.zero_le, String.reduceEq, D.int.injEq, D.str.injEq, D.bl.injEq, atI_0, atI_1, atI_2, atI_3, atI_4, beq_self_eq_true, not_true_eq_false, not_false_eq_true, Int.cast_ofNat_Int, Int.reduceEq, Int.reduceLE, Int.reduceLT, Int.reduceAdd, Int.reduceSub, Int.reduceMul, Int.reduceNeg, if_true, if_false, ite_true, ite_false, Bool.false_eq_true, if_neg, if_pos, decide_eq_true_eq, Bool.not_eq_true', decide_eq_false_iff_not, eq_self_iff_true, decide_true, decide_false, Bool.not_true, Bool.not_false, wps_raise, wps_try, wps_tryAs, tryCase_t, tryCase_f, tbl_hit, suiteOf_hit, wp_eDct, wp_eDGet, wp_eDNew, wp_eDDef, wps_dput, wps_augI, wps_asgTp, wps_asgUl, gUl2, gTp2, gTp3, gTp4, gTp5, gNs_cons, gN0_nil, wp_clN1, wp_clN2, wp_clN3, wp_slSt, gTupR_int, gLstR_int, gEndswith_str]
    exact hF
  · exact ⟨small_line (by decide), (fin_trO hS (tr_tup fun d hd => by
      simp only [List.mem_cons, List.not_mem_nil, or_false] at hd
      rcases hd with rfl | rfl
      · rfl
      · exact nats_tr ps)).mpr hF⟩
theorem parts_ok {m N : Nat} {ps : List Nat} (h : ShO m ps) (hN : 1 ≤ N) (hS : OKS S) (hF : F (.tup [.int m, .lst (nats ps)]) S) : wp (den fu N i_l_parts [.str (wd m ps)] S) F E := by
  obtain ⟨N', rfl⟩ : ∃ N', N = N' + 1 := ⟨N - 1, by omega⟩
  show wp (runDef false 4 (b_l_parts fu (den fu N')) _ _) _ _
  have hL : ((⟨(L8.take m).toArray⟩ : Str)).length = m := by show (L8.take m).toArray.size = m; simp [L8_len h.1]
  have hR : ((⟨(ps.map (97 + ·)).toArray⟩ : Str)).length = ps.length := by show (ps.map (97 + ·)).toArray.size = _; simp
  have h1 := h.1
  have h2 := h.2.1
  simp only [b_l_parts, wd_split h, isTy, hL, hR, wp_ok, wp_ret, wp_stuck, wp_bad, wp_bnd, wp_if, wp_fif, wps_ok_nx, wps_ok_rt, wps_ok_bk, wps_ok_ct, wps_ok_xc, wps_bad, wps_lft, wps_seq, wps_nil, wps_ret, wps_expr, wps_asg, wps_if, wp_run, wps_for, wps_while, wp_comp, wp_var, wp_C, wp_bin, wp_un, wp_T, wp_Tb, wp_asBl, wp_truthBl, wp_bAnd, wp_bOr, wp_bNot, wp_eIf, wp_eAnd, wp_eOr, wp_eNot, blCase_bl, wp_chain, wp_aNil, wp_aCons, wp_tup, wp_lst, wp_lstM, wp_call, wp_cl1, wp_cl2, wp_cl3, wp_cl4, wp_cl5, wp_meth, wp_isi, wp_oNone, wp_oSome, wp_sl, wp_it, wp_range1, wp_range2, wp_bYes, gEq_str, gNe_str, gEq_int, gNe_int, gEq_bl, gNe_bl, gIs_bl, gIsNot_bl, gAdd_int, gSub_int, gC_int, gI_int, gAdd_str, gAdd_tup, gAdd_lst, gNeg_int, gIx_tup, gIx_lst, gLen_tup, gLen_lst, gLen_str, gInt_int, gInt_bl, gTuple_lst, gTuple_tup, gList_lst, gList_tup, gSl_tup, gSl_lst, gSl_fl, gSl_str, srcL_tup, srcL_lst, srcL_fl, srcL_str, srcR1_int, typN, startR, List.map_cons, List.map_nil, List.length_cons, List.length_nil, Nat.reduceAdd, Nat.reduceSub, Nat.zero_add, Nat.sub_self, Nat.sub_zero, List.replicate_zero, List.replicate_succ, List.cons_append, List.nil_append, List.append_nil, List.getElem?_cons_zero, List.getElem?_cons_succ, List.set_cons_zero, List.set_cons_succ, List.set_nil, List.getElem?_nil, Option.some.injEq, exists_eq_left', exists_eq_left, exists_eq_right, reduceCtorEq, false_and, and_false, true_and, and_true, exists_false, exists_const, wipeR, Nat.zero_le, String.reduceEq, D.int.injEq, D.str.injEq, D.bl.injEq, atI_0, atI_1, atI_2, atI_3, atI_4, beq_self_eq_true, not_true_eq_false, not_false_eq_true, Int.cast_ofNat_Int, Int.reduceEq, Int.reduceLE, Int.reduceLT, Int.reduceAdd, Int.reduceSub, Int.reduceMul, Int.reduceNeg, if_true, if_false, ite_true, ite_false, Bool.false_eq_true, if_neg, if_pos, decide_eq_true_eq, Bool.not_eq_true', decide_eq_false_iff_not, eq_self_iff_true, decide_true, decide_false, Bool.not_true, Bool.not_false, wps_raise, wps_try, wps_tryAs, tryCase_t, tryCase_f, tbl_hit, suiteOf_hit, wp_eDct, wp_eDGet, wp_eDNew, wp_eDDef, wps_dput, wps_augI, wps_asgTp, wps_asgUl, gUl2, gTp2, gTp3, gTp4, gTp5, gNs_cons, gN0_nil, wp_clN1, wp_clN2, wp_clN3, wp_slSt, gTupR_int, gLstR_int, gEndswith_str]
  refine ⟨small_line (by omega), small_line (by rw [List.length_map, List.length_map]; omega), ?_⟩
  rw [List.map_map]
  refine comp_one (fun p => D.int (p : Nat)) (fun p hp F E hF => ?_) ?_
  · obtain ⟨r, hr⟩ := find_L8 h.1 (h.2.2 p hp)
    simp only [Function.comp, isTy, gSIndex_of hr, wp_ok, wp_ret, wp_stuck, wp_bad, wp_bnd, wp_if, wp_fif, wps_ok_nx, wps_ok_rt, wps_ok_bk, wps_ok_ct, wps_ok_xc, wps_bad, wps_lft, wps_seq, wps_nil, wps_ret, wps_expr, wps_asg, wps_if, wp_run, wps_for, wps_while, wp_comp, wp_var, wp_C, wp_bin, wp_un, wp_T, wp_Tb, wp_asBl, wp_truthBl, wp_bAnd, wp_bOr, wp_bNot, wp_eIf, wp_eAnd, wp_eOr, wp_eNot, blCase_bl, wp_chain, wp_aNil, wp_aCons, wp_tup, wp_lst, wp_lstM, wp_call, wp_cl1, wp_cl2, wp_cl3, wp_cl4, wp_cl5, wp_meth, wp_isi, wp_oNone, wp_oSome, wp_sl, wp_it, wp_range1, wp_range2, wp_bYes, gEq_str, gNe_str, gEq_int, gNe_int, gEq_bl, gNe_bl, gIs_bl, gIsNot_bl, gAdd_int, gSub_int, gC_int, gI_int, gAdd_str, gAdd_tup, gAdd_lst, gNeg_int, gIx_tup, gIx_lst, gLen_tup, gLen_lst, gLen_str, gInt_int, gInt_bl, gTuple_lst, gTuple_tup, gList_lst, gList_tup, gSl_tup, gSl_lst, gSl_fl, gSl_str, srcL_tup, srcL_lst, srcL_fl, srcL_str, srcR1_int, typN, startR, List.map_cons, List.map_nil, List.length_cons, List.length_nil, Nat.reduceAdd, Nat.reduceSub, Nat.zero_add, Nat.sub_self, Nat.sub_zero, List.replicate_zero, List.replicate_succ, List.cons_append, List.nil_append, List.append_nil, List.getElem?_cons_zero, List.getElem?_cons_succ, List.set_cons_zero, List.set_cons_succ, List.set_nil, List.getElem?_nil, Option.some.injEq, exists_eq_left', exists_eq_left, exists_eq_right, reduceCtorEq, false_and, and_false, true_and, and_true, exists_false, exists_const, wipeR, Nat.zero_le, String.reduceEq, D.int.injEq, D.str.injEq, D.bl.injEq, atI_0, atI_1, atI_2, atI_3, atI_4, beq_self_eq_true, not_true_eq_false, not_false_eq_true, Int.cast_ofNat_Int, Int.reduceEq, Int.reduceLE, Int.reduceLT, Int.reduceAdd, Int.reduceSub, Int.reduceMul, Int.reduceNeg, if_true, if_false, ite_true, ite_false, Bool.false_eq_true, if_neg, if_pos, decide_eq_true_eq, Bool.not_eq_true', decide_eq_false_iff_not, eq_self_iff_true, decide_true, decide_false, Bool.not_true, Bool.not_false, wps_raise, wps_try, wps_tryAs, tryCase_t, tryCase_f, tbl_hit, suiteOf_hit, wp_eDct, wp_eDGet, wp_eDNew, wp_eDDef, wps_dput, wps_augI, wps_asgTp, wps_asgUl, gUl2, gTp2, gTp3, gTp4, gTp5, gNs_cons, gN0_nil, wp_clN1, wp_clN2, wp_clN3, wp_slSt, gTupR_int, gLstR_int, gEndswith_str]
    exact hF
  · exact ⟨small_line (by decide), (fin_trO hS (tr_tup fun d hd => by
      simp only [List.mem_cons, List.not_mem_nil, or_false] at hd
      rcases hd with rfl | rfl
      · rfl
      · exact nats_tr ps)).mpr hF⟩
theorem isSh_ok {m N : Nat} {ps : List Nat} (h : ShO m ps) (hN : 1 ≤ N) (hS : OKS S) (hF : F (.bl true) S) : wp (den fu N i_is_shuffle [.str (wd m ps)] S) F E := by
  obtain ⟨N', rfl⟩ : ∃ N', N = N' + 1 := ⟨N - 1, by omega⟩
  exact shuffle_ok hS h.is hF
theorem lSh_ok {m N : Nat} {ps : List Nat} (h : ShO m ps) (hN : 1 ≤ N) (hS : OKS S) (hF : F (.bl true) S) : wp (den fu N i_l_is_shuffle [.str (wd m ps)] S) F E := by
  obtain ⟨N', rfl⟩ : ∃ N', N = N' + 1 := ⟨N - 1, by omega⟩
  rw [show den fu (N' + 1) i_l_is_shuffle = runDef false 1 (b_l_is_shuffle fu (den fu N')) from rfl]
  have h45 : (45 : Nat) ∈ (wd m ps).cps.toList := by
    unfold wd
    rw [app_toList, app_toList]
    simp
  have hin : ∀ {S F E}, wp (gIn (.str "-") (.str (wd m ps)) S) F E ↔ F (.bl true) S := fun {S F E} => by
    rw [dash_eq, gIn_sign, decide_eq_true h45]
  simp only [b_l_is_shuffle, isiN_ss, hin, wp_ok, wp_ret, wp_stuck, wp_bad, wp_bnd, wp_if, wp_fif, wps_ok_nx, wps_ok_rt, wps_ok_bk, wps_ok_ct, wps_ok_xc, wps_bad, wps_lft, wps_seq, wps_nil, wps_ret, wps_expr, wps_asg, wps_if, wp_run, wps_for, wps_while, wp_comp, wp_var, wp_C, wp_bin, wp_un, wp_T, wp_Tb, wp_asBl, wp_truthBl, wp_bAnd, wp_bOr, wp_bNot, wp_eIf, wp_eAnd, wp_eOr, wp_eNot, blCase_bl, wp_chain, wp_aNil, wp_aCons, wp_tup, wp_lst, wp_lstM, wp_call, wp_cl1, wp_cl2, wp_cl3, wp_cl4, wp_cl5, wp_meth, wp_isi, wp_oNone, wp_oSome, wp_sl, wp_it, wp_range1, wp_range2, wp_bYes, gEq_str, gNe_str, gEq_int, gNe_int, gEq_bl, gNe_bl, gIs_bl, gIsNot_bl, gAdd_int, gSub_int, gC_int, gI_int, gAdd_str, gAdd_tup, gAdd_lst, gNeg_int, gIx_tup, gIx_lst, gLen_tup, gLen_lst, gLen_str, gInt_int, gInt_bl, gTuple_lst, gTuple_tup, gList_lst, gList_tup, gSl_tup, gSl_lst, gSl_fl, gSl_str, srcL_tup, srcL_lst, srcL_fl, srcL_str, srcR1_int, typN, startR, List.map_cons, List.map_nil, List.length_cons, List.length_nil, Nat.reduceAdd, Nat.reduceSub, Nat.zero_add, Nat.sub_self, Nat.sub_zero, List.replicate_zero, List.replicate_succ, List.cons_append, List.nil_append, List.append_nil, List.getElem?_cons_zero, List.getElem?_cons_succ, List.set_cons_zero, List.set_cons_succ, List.set_nil, List.getElem?_nil, Option.some.injEq, exists_eq_left', exists_eq_left, exists_eq_right, reduceCtorEq, false_and, and_false, true_and, and_true, exists_false, exists_const, wipeR, Nat.zero_le, String.reduceEq, D.int.injEq, D.str.injEq, D.bl.injEq, atI_0, atI_1, atI_2, atI_3, atI_4, beq_self_eq_true, not_true_eq_false, not_false_eq_true, Int.cast_ofNat_Int, Int.reduceEq, Int.reduceLE, Int.reduceLT, Int.reduceAdd, Int.reduceSub, Int.reduceMul, Int.reduceNeg, if_true, if_false, ite_true, ite_false, Bool.false_eq_true, if_neg, if_pos, decide_eq_true_eq, Bool.not_eq_true', decide_eq_false_iff_not, eq_self_iff_true, decide_true, decide_false, Bool.not_true, Bool.not_false, wps_raise, wps_try, wps_tryAs, tryCase_t, tryCase_f, tbl_hit, suiteOf_hit, wp_eDct, wp_eDGet, wp_eDNew, wp_eDDef, wps_dput, wps_augI, wps_asgTp, wps_asgUl, gUl2, gTp2, gTp3, gTp4, gTp5, gNs_cons, gN0_nil, wp_clN1, wp_clN2, wp_clN3, wp_slSt, gTupR_int, gLstR_int, gEndswith_str]
  exact (fin_blO hS).mpr hF
end K61

namespace K61
open PySem L2 DL
variable {fu n : Nat} {R S : Sto} {F : D → Sto → Prop} {E : Exc → Sto → Prop}
/-! maps -/
abbrev Mp := Nat × List Nat
def mapW (q w : Mp) : Mp :=
  (q.1 + (w.1 - q.2.length), (List.range (w.1 - q.2.length) ++ q.2.map (· + (w.1 - q.2.length))).take ((List.range (w.1 - q.2.length) ++ q.2.map (· + (w.1 - q.2.length))).length - w.1) ++
    w.2.map fun k => (List.range (w.1 - q.2.length) ++ q.2.map (· + (w.1 - q.2.length))).getD ((List.range (w.1 - q.2.length) ++ q.2.map (· + (w.1 - q.2.length))).length - w.1 + k) 0)
def wholeM (row : List Mp) : Mp := row.foldl mapW (0, [])
def leastM : Nat → List Nat → Mp
  | n + 1, 0 :: r => if 0 ∈ r then (n + 1, 0 :: r) else leastM n (r.map (· - 1))
  | n, ps => (n, ps)
theorem leastM_s {n : Nat} {r : List Nat} : leastM (n + 1) (0 :: r) = if 0 ∈ r then (n + 1, 0 :: r) else leastM n (r.map (· - 1)) := rfl
def RowO (row : List Mp) : Prop := ∀ w ∈ row, ShO w.1 w.2
def wdD (w : Mp) : D := .str (wd w.1 w.2)
def rowD (row : List Mp) : D := .tup (row.map wdD)
def mpD (q : Mp) : D := .tup [.int q.1, .tup (nats q.2)]
theorem rangeD_nats (l : Nat) : rangeD 0 l = nats (List.range l) := by
  unfold rangeD
  rw [nats]
  refine List.map_congr_left fun i _ => ?_
  rw [Int.zero_add]
theorem mpD_tr (q : Mp) : tr (mpD q) := tr_tup fun d hd => by
  simp only [List.mem_cons, List.not_mem_nil, or_false] at hd
  rcases hd with rfl | rfl
  · rfl
  · exact nats_tr q.2
theorem sh_nats {ps : List Nat} : ∀ d ∈ nats ps, Sh 0 d := fun d hd => by
  obtain ⟨p, _, rfl⟩ := List.mem_map.mp hd
  exact sh_int
theorem pu_nats {ps : List Nat} : ∀ d ∈ nats ps, d.pu = true := fun d hd => by
  obtain ⟨p, _, rfl⟩ := List.mem_map.mp hd
  rfl
theorem nats_inj {ps qs : List Nat} : nats ps = nats qs ↔ ps = qs := by
  constructor
  · intro h
    exact List.map_inj_right (fun a b e => by injection e with e; omega) |>.mp h
  · rintro rfl; rfl
theorem map_id_add (ps : List Nat) : ps.map (· + 0) = ps := by simp
theorem cmp_gt_nat {a b : Nat} : ((a : Int) - (b : Int) > 0) ↔ b < a := by omega
theorem map_with_ok {N : Nat} {q w : Mp} (hw : ShO w.1 w.2) (hq : q.2.length ≤ 1000) (hN : 2 ≤ N) (hS : OKS S) (hF : F (mpD (mapW q w)) S) : wp (den fu N i_map_with [.int q.1, .tup (nats q.2), wdD w] S) F E := by
  obtain ⟨N', rfl⟩ : ∃ N', N = N' + 1 := ⟨N - 1, by omega⟩
  show wp (runDef false 9 (b_map_with fu (den fu N')) _ _) _ _
  obtain ⟨n, ps⟩ := q
  obtain ⟨t, left⟩ := w
  have h1 := hw.1
  have h2 := hw.2.1
  simp only at hq h1 h2
  have tail : ∀ (ni : Int) (n' : Nat) (qs : List Nat) (o4 o5 o7 : Option D) (lk kp : Int), ni = n' → kp = ((qs.length : Nat) : Int) - (t : Nat) → t ≤ qs.length → qs.length ≤ 1010 → F (mpD (n', qs.take (qs.length - t) ++ left.map fun k => qs.getD (qs.length - t + k) 0)) S →
      wp (compM none (nats left) (gN 8) bYes (eBin gIx (eVar 1) (eBin gAdd (eVar 4) (eVar 8))) [some (.int ni), some (.tup (nats qs)), o5, some (.int lk), some (.int kp), some (.int t), some (.tup (nats left)), o7, none] (nats left) S)
        (fun ys S'' => (cutD (nats qs) none (some kp)).length + ys.length ≤ sizeLine ∧ 2 ≤ sizeLine ∧ wp (finD false S.length (D.tup [D.int ni, D.tup (cutD (nats qs) none (some kp) ++ ys)]) S'') F E) nx := by
    rintro ni n' qs o4 o5 o7 lk kp rfl rfl ht hl hF
    have hkept : ((qs.length : Nat) : Int) - (t : Nat) = ((qs.length - t : Nat) : Int) := by omega
    rw [hkept, cut_take (ds := nats qs) (a := qs.length - t) (by rw [List.length_map]; omega)]
    refine comp_one (fun k => D.int ((qs.getD (qs.length - t + k) 0 : Nat) : Int)) (fun k hk F E hF => ?_) ?_
    · have hkt := hw.2.2 k hk
      have hlt : qs.length - t + k < qs.length := by simp only at hkt; omega
      have e1 : ((qs.length - t : Nat) : Int) + (k : Nat) = ((qs.length - t + k : Nat) : Int) := by omega
      have e2 : atI (nats qs) ((qs.length - t + k : Nat) : Int) = some (.int ((qs.getD (qs.length - t + k) 0 : Nat) : Int)) := atI_nat (by
        rw [List.getElem?_map, List.getElem?_eq_getElem hlt, List.getD_eq_getElem?_getD, List.getElem?_eq_getElem hlt]; rfl)
      simp only [e1, e2, wp_ok, wp_ret, wp_stuck, wp_bad, wp_bnd, wp_if, wp_fif, wps_ok_nx, wps_ok_rt, wps_ok_bk, wps_ok_ct, wps_ok_xc, wps_bad, wps_lft, wps_seq, wps_nil, wps_ret, wps_expr, wps_asg, wps_if, wp_run, wps_for, wps_while, wp_comp, wp_var, wp_C, wp_bin, wp_un, wp_T, wp_Tb, wp_asBl, wp_truthBl, wp_bAnd, wp_bOr, wp_bNot, wp_eIf, wp_eAnd, wp_eOr, wp_eNot, blCase_bl, wp_chain, wp_aNil, wp_aCons, wp_tup, wp_lst, wp_lstM, wp_call, wp_cl1, wp_cl2, wp_cl3, wp_cl4, wp_cl5, wp_meth, wp_isi, wp_oNone, wp_oSome, wp_sl, wp_it, wp_range1, wp_range2, wp_bYes, gEq_str, gNe_str, gEq_int, gNe_int, gEq_bl, gNe_bl, gIs_bl, gIsNot_bl, gAdd_int, gSub_int, gC_int, gI_int, gAdd_str, gAdd_tup, gAdd_lst, gNeg_int, gIx_tup, gIx_lst, gLen_tup, gLen_lst, gLen_str, gInt_int, gInt_bl, gTuple_lst, gTuple_tup, gList_lst, gList_tup, gSl_tup, gSl_lst, gSl_fl, gSl_str, srcL_tup, srcL_lst, srcL_fl, srcL_str, srcR1_int, typN, startR, List.map_cons, List.map_nil, List.length_cons, List.length_nil, Nat.reduceAdd, Nat.reduceSub, Nat.zero_add, Nat.sub_self, Nat.sub_zero, List.replicate_zero, List.replicate_succ, List.cons_append, List.nil_append, List.append_nil, List.getElem?_cons_zero, List.getElem?_cons_succ, List.set_cons_zero, List.set_cons_succ, List.set_nil, List.getElem?_nil, Option.some.injEq, exists_eq_left', exists_eq_left, exists_eq_right, reduceCtorEq, false_and, and_false, true_and, and_true, exists_false, exists_const, wipeR, Nat.zero_le, String.reduceEq, D.int.injEq, D.str.injEq, D.bl.injEq, atI_0, atI_1, atI_2, atI_3, atI_4, beq_self_eq_true, not_true_eq_false, not_false_eq_true, Int.cast_ofNat_Int, Int.reduceEq, Int.reduceLE, Int.reduceLT, Int.reduceAdd, Int.reduceSub, Int.reduceMul, Int.reduceNeg, if_true, if_false, ite_true, ite_false, Bool.false_eq_true, if_neg, if_pos, decide_eq_true_eq, Bool.not_eq_true', decide_eq_false_iff_not, eq_self_iff_true, decide_true, decide_false, Bool.not_true, Bool.not_false, wps_raise, wps_try, wps_tryAs, tryCase_t, tryCase_f, tbl_hit, suiteOf_hit, wp_eDct, wp_eDGet, wp_eDNew, wp_eDDef, wps_dput, wps_augI, wps_asgTp, wps_asgUl, gUl2, gTp2, gTp3, gTp4, gTp5, gNs_cons, gN0_nil, wp_clN1, wp_clN2, wp_clN3, wp_slSt, gTupR_int, gLstR_int, gEndswith_str]
      exact hF
    · have e3 : (nats qs).take (qs.length - t) ++ left.map (fun k => D.int ((qs.getD (qs.length - t + k) 0 : Nat) : Int)) = nats (qs.take (qs.length - t) ++ left.map fun k => qs.getD (qs.length - t + k) 0) := by
        rw [nats, nats, List.map_append, List.map_take, List.map_map]; rfl
      rw [e3]
      refine ⟨small_line (by simp only [List.length_map, List.length_append, List.length_take]; omega), small_line (by decide), (fin_trO hS (mpD_tr (n', _))).mpr hF⟩
  by_cases hc : ps.length < t
  · have hg : ((t : Nat) : Int) - ((ps.length : Nat) : Int) > 0 := by omega
    simp only [b_map_with, wdD, wp_ok, wp_ret, wp_stuck, wp_bad, wp_bnd, wp_if, wp_fif, wps_ok_nx, wps_ok_rt, wps_ok_bk, wps_ok_ct, wps_ok_xc, wps_bad, wps_lft, wps_seq, wps_nil, wps_ret, wps_expr, wps_asg, wps_if, wp_run, wps_for, wps_while, wp_comp, wp_var, wp_C, wp_bin, wp_un, wp_T, wp_Tb, wp_asBl, wp_truthBl, wp_bAnd, wp_bOr, wp_bNot, wp_eIf, wp_eAnd, wp_eOr, wp_eNot, blCase_bl, wp_chain, wp_aNil, wp_aCons, wp_tup, wp_lst, wp_lstM, wp_call, wp_cl1, wp_cl2, wp_cl3, wp_cl4, wp_cl5, wp_meth, wp_isi, wp_oNone, wp_oSome, wp_sl, wp_it, wp_range1, wp_range2, wp_bYes, gEq_str, gNe_str, gEq_int, gNe_int, gEq_bl, gNe_bl, gIs_bl, gIsNot_bl, gAdd_int, gSub_int, gC_int, gI_int, gAdd_str, gAdd_tup, gAdd_lst, gNeg_int, gIx_tup, gIx_lst, gLen_tup, gLen_lst, gLen_str, gInt_int, gInt_bl, gTuple_lst, gTuple_tup, gList_lst, gList_tup, gSl_tup, gSl_lst, gSl_fl, gSl_str, srcL_tup, srcL_lst, srcL_fl, srcL_str, srcR1_int, typN, startR, List.map_cons, List.map_nil, List.length_cons, List.length_nil, Nat.reduceAdd, Nat.reduceSub, Nat.zero_add, Nat.sub_self, Nat.sub_zero, List.replicate_zero, List.replicate_succ, List.cons_append, List.nil_append, List.append_nil, List.getElem?_cons_zero, List.getElem?_cons_succ, List.set_cons_zero, List.set_cons_succ, List.set_nil, List.getElem?_nil, Option.some.injEq, exists_eq_left', exists_eq_left, exists_eq_right, reduceCtorEq, false_and, and_false, true_and, and_true, exists_false, exists_const, wipeR, Nat.zero_le, String.reduceEq, D.int.injEq, D.str.injEq, D.bl.injEq, atI_0, atI_1, atI_2, atI_3, atI_4, beq_self_eq_true, not_true_eq_false, not_false_eq_true, Int.cast_ofNat_Int, Int.reduceEq, Int.reduceLE, Int.reduceLT, Int.reduceAdd, Int.reduceSub, Int.reduceMul, Int.reduceNeg, if_true, if_false, ite_true, ite_false, Bool.false_eq_true, if_neg, if_pos, decide_eq_true_eq, Bool.not_eq_true', decide_eq_false_iff_not, eq_self_iff_true, decide_true, decide_false, Bool.not_true, Bool.not_false, wps_raise, wps_try, wps_tryAs, tryCase_t, tryCase_f, tbl_hit, suiteOf_hit, wp_eDct, wp_eDGet, wp_eDNew, wp_eDDef, wps_dput, wps_augI, wps_asgTp, wps_asgUl, gUl2, gTp2, gTp3, gTp4, gTp5, gNs_cons, gN0_nil, wp_clN1, wp_clN2, wp_clN3, wp_slSt, gTupR_int, gLstR_int, gEndswith_str]
    refine taken_left_ok hw (by omega) hS ?_
    simp only [List.length_map, hg, wp_ok, wp_ret, wp_stuck, wp_bad, wp_bnd, wp_if, wp_fif, wps_ok_nx, wps_ok_rt, wps_ok_bk, wps_ok_ct, wps_ok_xc, wps_bad, wps_lft, wps_seq, wps_nil, wps_ret, wps_expr, wps_asg, wps_if, wp_run, wps_for, wps_while, wp_comp, wp_var, wp_C, wp_bin, wp_un, wp_T, wp_Tb, wp_asBl, wp_truthBl, wp_bAnd, wp_bOr, wp_bNot, wp_eIf, wp_eAnd, wp_eOr, wp_eNot, blCase_bl, wp_chain, wp_aNil, wp_aCons, wp_tup, wp_lst, wp_lstM, wp_call, wp_cl1, wp_cl2, wp_cl3, wp_cl4, wp_cl5, wp_meth, wp_isi, wp_oNone, wp_oSome, wp_sl, wp_it, wp_range1, wp_range2, wp_bYes, gEq_str, gNe_str, gEq_int, gNe_int, gEq_bl, gNe_bl, gIs_bl, gIsNot_bl, gAdd_int, gSub_int, gC_int, gI_int, gAdd_str, gAdd_tup, gAdd_lst, gNeg_int, gIx_tup, gIx_lst, gLen_tup, gLen_lst, gLen_str, gInt_int, gInt_bl, gTuple_lst, gTuple_tup, gList_lst, gList_tup, gSl_tup, gSl_lst, gSl_fl, gSl_str, srcL_tup, srcL_lst, srcL_fl, srcL_str, srcR1_int, typN, startR, List.map_cons, List.map_nil, List.length_cons, List.length_nil, Nat.reduceAdd, Nat.reduceSub, Nat.zero_add, Nat.sub_self, Nat.sub_zero, List.replicate_zero, List.replicate_succ, List.cons_append, List.nil_append, List.append_nil, List.getElem?_cons_zero, List.getElem?_cons_succ, List.set_cons_zero, List.set_cons_succ, List.set_nil, List.getElem?_nil, Option.some.injEq, exists_eq_left', exists_eq_left, exists_eq_right, reduceCtorEq, false_and, and_false, true_and, and_true, exists_false, exists_const, wipeR, Nat.zero_le, String.reduceEq, D.int.injEq, D.str.injEq, D.bl.injEq, atI_0, atI_1, atI_2, atI_3, atI_4, beq_self_eq_true, not_true_eq_false, not_false_eq_true, Int.cast_ofNat_Int, Int.reduceEq, Int.reduceLE, Int.reduceLT, Int.reduceAdd, Int.reduceSub, Int.reduceMul, Int.reduceNeg, if_true, if_false, ite_true, ite_false, Bool.false_eq_true, if_neg, if_pos, decide_eq_true_eq, Bool.not_eq_true', decide_eq_false_iff_not, eq_self_iff_true, decide_true, decide_false, Bool.not_true, Bool.not_false, wps_raise, wps_try, wps_tryAs, tryCase_t, tryCase_f, tbl_hit, suiteOf_hit, wp_eDct, wp_eDGet, wp_eDNew, wp_eDDef, wps_dput, wps_augI, wps_asgTp, wps_asgUl, gUl2, gTp2, gTp3, gTp4, gTp5, gNs_cons, gN0_nil, wp_clN1, wp_clN2, wp_clN3, wp_slSt, gTupR_int, gLstR_int, gEndswith_str]
    have e1 : ((t : Nat) : Int) - ((ps.length : Nat) : Int) = ((t - ps.length : Nat) : Int) := by omega
    refine ⟨⟨by omega, by omega⟩, small_line (by omega), comp_one (fun p => D.int ((p + (t - ps.length) : Nat) : Int)) (fun p hp F E hF => ?_) ?_⟩
    · simp only [wp_ok, wp_ret, wp_stuck, wp_bad, wp_bnd, wp_if, wp_fif, wps_ok_nx, wps_ok_rt, wps_ok_bk, wps_ok_ct, wps_ok_xc, wps_bad, wps_lft, wps_seq, wps_nil, wps_ret, wps_expr, wps_asg, wps_if, wp_run, wps_for, wps_while, wp_comp, wp_var, wp_C, wp_bin, wp_un, wp_T, wp_Tb, wp_asBl, wp_truthBl, wp_bAnd, wp_bOr, wp_bNot, wp_eIf, wp_eAnd, wp_eOr, wp_eNot, blCase_bl, wp_chain, wp_aNil, wp_aCons, wp_tup, wp_lst, wp_lstM, wp_call, wp_cl1, wp_cl2, wp_cl3, wp_cl4, wp_cl5, wp_meth, wp_isi, wp_oNone, wp_oSome, wp_sl, wp_it, wp_range1, wp_range2, wp_bYes, gEq_str, gNe_str, gEq_int, gNe_int, gEq_bl, gNe_bl, gIs_bl, gIsNot_bl, gAdd_int, gSub_int, gC_int, gI_int, gAdd_str, gAdd_tup, gAdd_lst, gNeg_int, gIx_tup, gIx_lst, gLen_tup, gLen_lst, gLen_str, gInt_int, gInt_bl, gTuple_lst, gTuple_tup, gList_lst, gList_tup, gSl_tup, gSl_lst, gSl_fl, gSl_str, srcL_tup, srcL_lst, srcL_fl, srcL_str, srcR1_int, typN, startR, List.map_cons, List.map_nil, List.length_cons, List.length_nil, Nat.reduceAdd, Nat.reduceSub, Nat.zero_add, Nat.sub_self, Nat.sub_zero, List.replicate_zero, List.replicate_succ, List.cons_append, List.nil_append, List.append_nil, List.getElem?_cons_zero, List.getElem?_cons_succ, List.set_cons_zero, List.set_cons_succ, List.set_nil, List.getElem?_nil, Option.some.injEq, exists_eq_left', exists_eq_left, exists_eq_right, reduceCtorEq, false_and, and_false, true_and, and_true, exists_false, exists_const, wipeR, Nat.zero_le, String.reduceEq, D.int.injEq, D.str.injEq, D.bl.injEq, atI_0, atI_1, atI_2, atI_3, atI_4, beq_self_eq_true, not_true_eq_false, not_false_eq_true, Int.cast_ofNat_Int, Int.reduceEq, Int.reduceLE, Int.reduceLT, Int.reduceAdd, Int.reduceSub, Int.reduceMul, Int.reduceNeg, if_true, if_false, ite_true, ite_false, Bool.false_eq_true, if_neg, if_pos, decide_eq_true_eq, Bool.not_eq_true', decide_eq_false_iff_not, eq_self_iff_true, decide_true, decide_false, Bool.not_true, Bool.not_false, wps_raise, wps_try, wps_tryAs, tryCase_t, tryCase_f, tbl_hit, suiteOf_hit, wp_eDct, wp_eDGet, wp_eDNew, wp_eDDef, wps_dput, wps_augI, wps_asgTp, wps_asgUl, gUl2, gTp2, gTp3, gTp4, gTp5, gNs_cons, gN0_nil, wp_clN1, wp_clN2, wp_clN3, wp_slSt, gTupR_int, gLstR_int, gEndswith_str]
      have e2 : ((p : Nat) : Int) + (((t : Nat) : Int) - ((ps.length : Nat) : Int)) = ((p + (t - ps.length) : Nat) : Int) := by omega
      rw [e2]; exact hF
    · rw [e1, Int.toNat_natCast, rangeD_nats]
      have e3 : nats (List.range (t - ps.length)) ++ ps.map (fun p => D.int ((p + (t - ps.length) : Nat) : Int)) = nats (List.range (t - ps.length) ++ ps.map (· + (t - ps.length))) := by
        rw [nats, nats, List.map_append, List.map_map]; rfl
      rw [e3]
      refine ⟨small_line (by simp only [List.length_map, List.length_range]; omega), small_line (by omega), ?_⟩
      refine tail _ (n + (t - ps.length)) _ none _ _ _ _ (by omega) (by rw [List.length_map]) (by simp only [List.length_append, List.length_map, List.length_range]; omega) (by simp only [List.length_append, List.length_map, List.length_range]; omega) hF
  · have hg : ¬ ((t : Nat) : Int) - ((ps.length : Nat) : Int) > 0 := by omega
    simp only [b_map_with, wdD, wp_ok, wp_ret, wp_stuck, wp_bad, wp_bnd, wp_if, wp_fif, wps_ok_nx, wps_ok_rt, wps_ok_bk, wps_ok_ct, wps_ok_xc, wps_bad, wps_lft, wps_seq, wps_nil, wps_ret, wps_expr, wps_asg, wps_if, wp_run, wps_for, wps_while, wp_comp, wp_var, wp_C, wp_bin, wp_un, wp_T, wp_Tb, wp_asBl, wp_truthBl, wp_bAnd, wp_bOr, wp_bNot, wp_eIf, wp_eAnd, wp_eOr, wp_eNot, blCase_bl, wp_chain, wp_aNil, wp_aCons, wp_tup, wp_lst, wp_lstM, wp_call, wp_cl1, wp_cl2, wp_cl3, wp_cl4, wp_cl5, wp_meth, wp_isi, wp_oNone, wp_oSome, wp_sl, wp_it, wp_range1, wp_range2, wp_bYes, gEq_str, gNe_str, gEq_int, gNe_int, gEq_bl, gNe_bl, gIs_bl, gIsNot_bl, gAdd_int, gSub_int, gC_int, gI_int, gAdd_str, gAdd_tup, gAdd_lst, gNeg_int, gIx_tup, gIx_lst, gLen_tup, gLen_lst, gLen_str, gInt_int, gInt_bl, gTuple_lst, gTuple_tup, gList_lst, gList_tup, gSl_tup, gSl_lst, gSl_fl, gSl_str, srcL_tup, srcL_lst, srcL_fl, srcL_str, srcR1_int, typN, startR, List.map_cons, List.map_nil, List.length_cons, List.length_nil, Nat.reduceAdd, Nat.reduceSub, Nat.zero_add, Nat.sub_self, Nat.sub_zero, List.replicate_zero, List.replicate_succ, List.cons_append, List.nil_append, List.append_nil, List.getElem?_cons_zero, List.getElem?_cons_succ, List.set_cons_zero, List.set_cons_succ, List.set_nil, List.getElem?_nil, Option.some.injEq, exists_eq_left', exists_eq_left, exists_eq_right, reduceCtorEq, false_and, and_false, true_and, and_true, exists_false, exists_const, wipeR, Nat.zero_le, String.reduceEq, D.int.injEq, D.str.injEq, D.bl.injEq, atI_0, atI_1, atI_2, atI_3, atI_4, beq_self_eq_true, not_true_eq_false, not_false_eq_true, Int.cast_ofNat_Int, Int.reduceEq, Int.reduceLE, Int.reduceLT, Int.reduceAdd, Int.reduceSub, Int.reduceMul, Int.reduceNeg, if_true, if_false, ite_true, ite_false, Bool.false_eq_true, if_neg, if_pos, decide_eq_true_eq, Bool.not_eq_true', decide_eq_false_iff_not, eq_self_iff_true, decide_true, decide_false, Bool.not_true, Bool.not_false, wps_raise, wps_try, wps_tryAs, tryCase_t, tryCase_f, tbl_hit, suiteOf_hit, wp_eDct, wp_eDGet, wp_eDNew, wp_eDDef, wps_dput, wps_augI, wps_asgTp, wps_asgUl, gUl2, gTp2, gTp3, gTp4, gTp5, gNs_cons, gN0_nil, wp_clN1, wp_clN2, wp_clN3, wp_slSt, gTupR_int, gLstR_int, gEndswith_str]
    refine taken_left_ok hw (by omega) hS ?_
    simp only [List.length_map, hg, wp_ok, wp_ret, wp_stuck, wp_bad, wp_bnd, wp_if, wp_fif, wps_ok_nx, wps_ok_rt, wps_ok_bk, wps_ok_ct, wps_ok_xc, wps_bad, wps_lft, wps_seq, wps_nil, wps_ret, wps_expr, wps_asg, wps_if, wp_run, wps_for, wps_while, wp_comp, wp_var, wp_C, wp_bin, wp_un, wp_T, wp_Tb, wp_asBl, wp_truthBl, wp_bAnd, wp_bOr, wp_bNot, wp_eIf, wp_eAnd, wp_eOr, wp_eNot, blCase_bl, wp_chain, wp_aNil, wp_aCons, wp_tup, wp_lst, wp_lstM, wp_call, wp_cl1, wp_cl2, wp_cl3, wp_cl4, wp_cl5, wp_meth, wp_isi, wp_oNone, wp_oSome, wp_sl, wp_it, wp_range1, wp_range2, wp_bYes, gEq_str, gNe_str, gEq_int, gNe_int, gEq_bl, gNe_bl, gIs_bl, gIsNot_bl, gAdd_int, gSub_int, gC_int, gI_int, gAdd_str, gAdd_tup, gAdd_lst, gNeg_int, gIx_tup, gIx_lst, gLen_tup, gLen_lst, gLen_str, gInt_int, gInt_bl, gTuple_lst, gTuple_tup, gList_lst, gList_tup, gSl_tup, gSl_lst, gSl_fl, gSl_str, srcL_tup, srcL_lst, srcL_fl, srcL_str, srcR1_int, typN, startR, List.map_cons, List.map_nil, List.length_cons, List.length_nil, Nat.reduceAdd, Nat.reduceSub, Nat.zero_add, Nat.sub_self, Nat.sub_zero, List.replicate_zero, List.replicate_succ, List.cons_append, List.nil_append, List.append_nil, List.getElem?_cons_zero, List.getElem?_cons_succ, List.set_cons_zero, List.set_cons_succ, List.set_nil, List.getElem?_nil, Option.some.injEq, exists_eq_left', exists_eq_left, exists_eq_right, reduceCtorEq, false_and, and_false, true_and, and_true, exists_false, exists_const, wipeR, Nat.zero_le, String.reduceEq, D.int.injEq, D.str.injEq, D.bl.injEq, atI_0, atI_1, atI_2, atI_3, atI_4, beq_self_eq_true, not_true_eq_false, not_false_eq_true, Int.cast_ofNat_Int, Int.reduceEq, Int.reduceLE, Int.reduceLT, Int.reduceAdd, Int.reduceSub, Int.reduceMul, Int.reduceNeg, if_true, if_false, ite_true, ite_false, Bool.false_eq_true, if_neg, if_pos, decide_eq_true_eq, Bool.not_eq_true', decide_eq_false_iff_not, eq_self_iff_true, decide_true, decide_false, Bool.not_true, Bool.not_false, wps_raise, wps_try, wps_tryAs, tryCase_t, tryCase_f, tbl_hit, suiteOf_hit, wp_eDct, wp_eDGet, wp_eDNew, wp_eDDef, wps_dput, wps_augI, wps_asgTp, wps_asgUl, gUl2, gTp2, gTp3, gTp4, gTp5, gNs_cons, gN0_nil, wp_clN1, wp_clN2, wp_clN3, wp_slSt, gTupR_int, gLstR_int, gEndswith_str]
    refine ⟨small_line (by omega), tail _ n ps none _ _ _ _ rfl rfl (by omega) (by omega) ?_⟩
    have e1 : t - ps.length = 0 := by omega
    have : mapW (n, ps) (t, left) = (n, ps.take (ps.length - t) ++ left.map fun k => ps.getD (ps.length - t + k) 0) := by
      unfold mapW
      rw [e1]
      simp
    rwa [this] at hF
/-- the row's map -/
def RowS (row : List Mp) : Prop := row.length ≤ 20 ∧ RowO row
theorem RowO.tail {w : Mp} {row : List Mp} (h : RowO (w :: row)) : RowO row := fun x hx => h x (List.mem_cons_of_mem _ hx)
theorem mapW_len {q w : Mp} (hw : ShO w.1 w.2) : (mapW q w).2.length ≤ q.2.length + 12 := by
  have h := hw.2.1
  unfold mapW
  simp only [List.length_append, List.length_take, List.length_map, List.length_range]
  omega
theorem fold_len {row : List Mp} (h : RowO row) (q : Mp) : (row.foldl mapW q).2.length ≤ q.2.length + 12 * row.length := by
  induction row generalizing q with
  | nil => exact Nat.le_refl _
  | cons w row ih =>
    have := ih h.tail (mapW q w)
    have h2 := mapW_len (q := q) (h w (List.mem_cons_self ..))
    rw [List.foldl_cons, List.length_cons]
    omega
theorem take_fold {row : List Mp} {k : Nat} {w : Mp} (h : row[k]? = some w) : wholeM (row.take (k + 1)) = mapW (wholeM (row.take k)) w := by
  unfold wholeM
  rw [List.take_succ, h, Option.toList_some, List.foldl_append]
  rfl
theorem RowO.take {row : List Mp} (h : RowO row) (k : Nat) : RowO (row.take k) := fun x hx => h x (List.mem_of_mem_take hx)
theorem whole_len {row : List Mp} (h : RowS row) (k : Nat) : (wholeM (row.take k)).2.length ≤ 240 := by
  have := fold_len (h.2.take k) (0, [])
  have h1 := h.1
  have h2 : (row.take k).length ≤ row.length := by rw [List.length_take]; omega
  unfold wholeM
  simp only [List.length_nil] at this
  omega
theorem whole_map_ok {N : Nat} {row : List Mp} (h : RowS row) (hN : 3 ≤ N) (hS : OKS S) (hF : F (mpD (wholeM row)) S) : wp (den fu N i_whole_map [rowD row] S) F E := by
  obtain ⟨N', rfl⟩ : ∃ N', N = N' + 1 := ⟨N - 1, by omega⟩
  show wp (runDef false 4 (b_whole_map fu (den fu N')) _ _) _ _
  simp only [b_whole_map, rowD, wp_ok, wp_ret, wp_stuck, wp_bad, wp_bnd, wp_if, wp_fif, wps_ok_nx, wps_ok_rt, wps_ok_bk, wps_ok_ct, wps_ok_xc, wps_bad, wps_lft, wps_seq, wps_nil, wps_ret, wps_expr, wps_asg, wps_if, wp_run, wps_for, wps_while, wp_comp, wp_var, wp_C, wp_bin, wp_un, wp_T, wp_Tb, wp_asBl, wp_truthBl, wp_bAnd, wp_bOr, wp_bNot, wp_eIf, wp_eAnd, wp_eOr, wp_eNot, blCase_bl, wp_chain, wp_aNil, wp_aCons, wp_tup, wp_lst, wp_lstM, wp_call, wp_cl1, wp_cl2, wp_cl3, wp_cl4, wp_cl5, wp_meth, wp_isi, wp_oNone, wp_oSome, wp_sl, wp_it, wp_range1, wp_range2, wp_bYes, gEq_str, gNe_str, gEq_int, gNe_int, gEq_bl, gNe_bl, gIs_bl, gIsNot_bl, gAdd_int, gSub_int, gC_int, gI_int, gAdd_str, gAdd_tup, gAdd_lst, gNeg_int, gIx_tup, gIx_lst, gLen_tup, gLen_lst, gLen_str, gInt_int, gInt_bl, gTuple_lst, gTuple_tup, gList_lst, gList_tup, gSl_tup, gSl_lst, gSl_fl, gSl_str, srcL_tup, srcL_lst, srcL_fl, srcL_str, srcR1_int, typN, startR, List.map_cons, List.map_nil, List.length_cons, List.length_nil, Nat.reduceAdd, Nat.reduceSub, Nat.zero_add, Nat.sub_self, Nat.sub_zero, List.replicate_zero, List.replicate_succ, List.cons_append, List.nil_append, List.append_nil, List.getElem?_cons_zero, List.getElem?_cons_succ, List.set_cons_zero, List.set_cons_succ, List.set_nil, List.getElem?_nil, Option.some.injEq, exists_eq_left', exists_eq_left, exists_eq_right, reduceCtorEq, false_and, and_false, true_and, and_true, exists_false, exists_const, wipeR, Nat.zero_le, String.reduceEq, D.int.injEq, D.str.injEq, D.bl.injEq, atI_0, atI_1, atI_2, atI_3, atI_4, beq_self_eq_true, not_true_eq_false, not_false_eq_true, Int.cast_ofNat_Int, Int.reduceEq, Int.reduceLE, Int.reduceLT, Int.reduceAdd, Int.reduceSub, Int.reduceMul, Int.reduceNeg, if_true, if_false, ite_true, ite_false, Bool.false_eq_true, if_neg, if_pos, decide_eq_true_eq, Bool.not_eq_true', decide_eq_false_iff_not, eq_self_iff_true, decide_true, decide_false, Bool.not_true, Bool.not_false, wps_raise, wps_try, wps_tryAs, tryCase_t, tryCase_f, tbl_hit, suiteOf_hit, wp_eDct, wp_eDGet, wp_eDNew, wp_eDDef, wps_dput, wps_augI, wps_asgTp, wps_asgUl, gUl2, gTp2, gTp3, gTp4, gTp5, gNs_cons, gN0_nil, wp_clN1, wp_clN2, wp_clN3, wp_slSt, gTupR_int, gLstR_int, gEndswith_str]
  refine wps_forM (fun k ρ S' => S' = S ∧ ∃ o, ρ = [some (rowD row), some (.int (wholeM (row.take k)).1), some (.tup (nats (wholeM (row.take k)).2)), o]) (fun _ _ _ _ => trivial) (fun k d ρ S' hd hI => ?_) (fun ρ S' hI => ?_) ⟨rfl, none, rfl⟩
  · obtain ⟨rfl, o, rfl⟩ := hI
    rw [List.getElem?_map, Option.map_eq_some_iff] at hd
    obtain ⟨w, hw, rfl⟩ := hd
    refine ⟨_, rfl, ?_⟩
    have hwo := h.2 w (List.mem_of_getElem? hw)
    have hl := whole_len h k
    simp only [wdD, wp_ok, wp_ret, wp_stuck, wp_bad, wp_bnd, wp_if, wp_fif, wps_ok_nx, wps_ok_rt, wps_ok_bk, wps_ok_ct, wps_ok_xc, wps_bad, wps_lft, wps_seq, wps_nil, wps_ret, wps_expr, wps_asg, wps_if, wp_run, wps_for, wps_while, wp_comp, wp_var, wp_C, wp_bin, wp_un, wp_T, wp_Tb, wp_asBl, wp_truthBl, wp_bAnd, wp_bOr, wp_bNot, wp_eIf, wp_eAnd, wp_eOr, wp_eNot, blCase_bl, wp_chain, wp_aNil, wp_aCons, wp_tup, wp_lst, wp_lstM, wp_call, wp_cl1, wp_cl2, wp_cl3, wp_cl4, wp_cl5, wp_meth, wp_isi, wp_oNone, wp_oSome, wp_sl, wp_it, wp_range1, wp_range2, wp_bYes, gEq_str, gNe_str, gEq_int, gNe_int, gEq_bl, gNe_bl, gIs_bl, gIsNot_bl, gAdd_int, gSub_int, gC_int, gI_int, gAdd_str, gAdd_tup, gAdd_lst, gNeg_int, gIx_tup, gIx_lst, gLen_tup, gLen_lst, gLen_str, gInt_int, gInt_bl, gTuple_lst, gTuple_tup, gList_lst, gList_tup, gSl_tup, gSl_lst, gSl_fl, gSl_str, srcL_tup, srcL_lst, srcL_fl, srcL_str, srcR1_int, typN, startR, List.map_cons, List.map_nil, List.length_cons, List.length_nil, Nat.reduceAdd, Nat.reduceSub, Nat.zero_add, Nat.sub_self, Nat.sub_zero, List.replicate_zero, List.replicate_succ, List.cons_append, List.nil_append, List.append_nil, List.getElem?_cons_zero, List.getElem?_cons_succ, List.set_cons_zero, List.set_cons_succ, List.set_nil, List.getElem?_nil, Option.some.injEq, exists_eq_left', exists_eq_left, exists_eq_right, reduceCtorEq, false_and, and_false, true_and, and_true, exists_false, exists_const, wipeR, Nat.zero_le, String.reduceEq, D.int.injEq, D.str.injEq, D.bl.injEq, atI_0, atI_1, atI_2, atI_3, atI_4, beq_self_eq_true, not_true_eq_false, not_false_eq_true, Int.cast_ofNat_Int, Int.reduceEq, Int.reduceLE, Int.reduceLT, Int.reduceAdd, Int.reduceSub, Int.reduceMul, Int.reduceNeg, if_true, if_false, ite_true, ite_false, Bool.false_eq_true, if_neg, if_pos, decide_eq_true_eq, Bool.not_eq_true', decide_eq_false_iff_not, eq_self_iff_true, decide_true, decide_false, Bool.not_true, Bool.not_false, wps_raise, wps_try, wps_tryAs, tryCase_t, tryCase_f, tbl_hit, suiteOf_hit, wp_eDct, wp_eDGet, wp_eDNew, wp_eDDef, wps_dput, wps_augI, wps_asgTp, wps_asgUl, gUl2, gTp2, gTp3, gTp4, gTp5, gNs_cons, gN0_nil, wp_clN1, wp_clN2, wp_clN3, wp_slSt, gTupR_int, gLstR_int, gEndswith_str]
    refine isSh_ok hwo (by omega) hS ?_
    simp only [wp_ok, wp_ret, wp_stuck, wp_bad, wp_bnd, wp_if, wp_fif, wps_ok_nx, wps_ok_rt, wps_ok_bk, wps_ok_ct, wps_ok_xc, wps_bad, wps_lft, wps_seq, wps_nil, wps_ret, wps_expr, wps_asg, wps_if, wp_run, wps_for, wps_while, wp_comp, wp_var, wp_C, wp_bin, wp_un, wp_T, wp_Tb, wp_asBl, wp_truthBl, wp_bAnd, wp_bOr, wp_bNot, wp_eIf, wp_eAnd, wp_eOr, wp_eNot, blCase_bl, wp_chain, wp_aNil, wp_aCons, wp_tup, wp_lst, wp_lstM, wp_call, wp_cl1, wp_cl2, wp_cl3, wp_cl4, wp_cl5, wp_meth, wp_isi, wp_oNone, wp_oSome, wp_sl, wp_it, wp_range1, wp_range2, wp_bYes, gEq_str, gNe_str, gEq_int, gNe_int, gEq_bl, gNe_bl, gIs_bl, gIsNot_bl, gAdd_int, gSub_int, gC_int, gI_int, gAdd_str, gAdd_tup, gAdd_lst, gNeg_int, gIx_tup, gIx_lst, gLen_tup, gLen_lst, gLen_str, gInt_int, gInt_bl, gTuple_lst, gTuple_tup, gList_lst, gList_tup, gSl_tup, gSl_lst, gSl_fl, gSl_str, srcL_tup, srcL_lst, srcL_fl, srcL_str, srcR1_int, typN, startR, List.map_cons, List.map_nil, List.length_cons, List.length_nil, Nat.reduceAdd, Nat.reduceSub, Nat.zero_add, Nat.sub_self, Nat.sub_zero, List.replicate_zero, List.replicate_succ, List.cons_append, List.nil_append, List.append_nil, List.getElem?_cons_zero, List.getElem?_cons_succ, List.set_cons_zero, List.set_cons_succ, List.set_nil, List.getElem?_nil, Option.some.injEq, exists_eq_left', exists_eq_left, exists_eq_right, reduceCtorEq, false_and, and_false, true_and, and_true, exists_false, exists_const, wipeR, Nat.zero_le, String.reduceEq, D.int.injEq, D.str.injEq, D.bl.injEq, atI_0, atI_1, atI_2, atI_3, atI_4, beq_self_eq_true, not_true_eq_false, not_false_eq_true, Int.cast_ofNat_Int, Int.reduceEq, Int.reduceLE, Int.reduceLT, Int.reduceAdd, Int.reduceSub, Int.reduceMul, Int.reduceNeg, if_true, if_false, ite_true, ite_false, Bool.false_eq_true, if_neg, if_pos, decide_eq_true_eq, Bool.not_eq_true', decide_eq_false_iff_not, eq_self_iff_true, decide_true, decide_false, Bool.not_true, Bool.not_false, wps_raise, wps_try, wps_tryAs, tryCase_t, tryCase_f, tbl_hit, suiteOf_hit, wp_eDct, wp_eDGet, wp_eDNew, wp_eDDef, wps_dput, wps_augI, wps_asgTp, wps_asgUl, gUl2, gTp2, gTp3, gTp4, gTp5, gNs_cons, gN0_nil, wp_clN1, wp_clN2, wp_clN3, wp_slSt, gTupR_int, gLstR_int, gEndswith_str]
    refine map_with_ok (q := wholeM (row.take k)) hwo (by omega) (by omega) hS ?_
    simp only [mpD, wp_ok, wp_ret, wp_stuck, wp_bad, wp_bnd, wp_if, wp_fif, wps_ok_nx, wps_ok_rt, wps_ok_bk, wps_ok_ct, wps_ok_xc, wps_bad, wps_lft, wps_seq, wps_nil, wps_ret, wps_expr, wps_asg, wps_if, wp_run, wps_for, wps_while, wp_comp, wp_var, wp_C, wp_bin, wp_un, wp_T, wp_Tb, wp_asBl, wp_truthBl, wp_bAnd, wp_bOr, wp_bNot, wp_eIf, wp_eAnd, wp_eOr, wp_eNot, blCase_bl, wp_chain, wp_aNil, wp_aCons, wp_tup, wp_lst, wp_lstM, wp_call, wp_cl1, wp_cl2, wp_cl3, wp_cl4, wp_cl5, wp_meth, wp_isi, wp_oNone, wp_oSome, wp_sl, wp_it, wp_range1, wp_range2, wp_bYes, gEq_str, gNe_str, gEq_int, gNe_int, gEq_bl, gNe_bl, gIs_bl, gIsNot_bl, gAdd_int, gSub_int, gC_int, gI_int, gAdd_str, gAdd_tup, gAdd_lst, gNeg_int, gIx_tup, gIx_lst, gLen_tup, gLen_lst, gLen_str, gInt_int, gInt_bl, gTuple_lst, gTuple_tup, gList_lst, gList_tup, gSl_tup, gSl_lst, gSl_fl, gSl_str, srcL_tup, srcL_lst, srcL_fl, srcL_str, srcR1_int, typN, startR, List.map_cons, List.map_nil, List.length_cons, List.length_nil, Nat.reduceAdd, Nat.reduceSub, Nat.zero_add, Nat.sub_self, Nat.sub_zero, List.replicate_zero, List.replicate_succ, List.cons_append, List.nil_append, List.append_nil, List.getElem?_cons_zero, List.getElem?_cons_succ, List.set_cons_zero, List.set_cons_succ, List.set_nil, List.getElem?_nil, Option.some.injEq, exists_eq_left', exists_eq_left, exists_eq_right, reduceCtorEq, false_and, and_false, true_and, and_true, exists_false, exists_const, wipeR, Nat.zero_le, String.reduceEq, D.int.injEq, D.str.injEq, D.bl.injEq, atI_0, atI_1, atI_2, atI_3, atI_4, beq_self_eq_true, not_true_eq_false, not_false_eq_true, Int.cast_ofNat_Int, Int.reduceEq, Int.reduceLE, Int.reduceLT, Int.reduceAdd, Int.reduceSub, Int.reduceMul, Int.reduceNeg, if_true, if_false, ite_true, ite_false, Bool.false_eq_true, if_neg, if_pos, decide_eq_true_eq, Bool.not_eq_true', decide_eq_false_iff_not, eq_self_iff_true, decide_true, decide_false, Bool.not_true, Bool.not_false, wps_raise, wps_try, wps_tryAs, tryCase_t, tryCase_f, tbl_hit, suiteOf_hit, wp_eDct, wp_eDGet, wp_eDNew, wp_eDDef, wps_dput, wps_augI, wps_asgTp, wps_asgUl, gUl2, gTp2, gTp3, gTp4, gTp5, gNs_cons, gN0_nil, wp_clN1, wp_clN2, wp_clN3, wp_slSt, gTupR_int, gLstR_int, gEndswith_str]
    rw [take_fold hw]
    exact ⟨_, rfl⟩
  · obtain ⟨rfl, o, rfl⟩ := hI
    rw [List.length_map, List.take_length]
    simp only [wp_ok, wp_ret, wp_stuck, wp_bad, wp_bnd, wp_if, wp_fif, wps_ok_nx, wps_ok_rt, wps_ok_bk, wps_ok_ct, wps_ok_xc, wps_bad, wps_lft, wps_seq, wps_nil, wps_ret, wps_expr, wps_asg, wps_if, wp_run, wps_for, wps_while, wp_comp, wp_var, wp_C, wp_bin, wp_un, wp_T, wp_Tb, wp_asBl, wp_truthBl, wp_bAnd, wp_bOr, wp_bNot, wp_eIf, wp_eAnd, wp_eOr, wp_eNot, blCase_bl, wp_chain, wp_aNil, wp_aCons, wp_tup, wp_lst, wp_lstM, wp_call, wp_cl1, wp_cl2, wp_cl3, wp_cl4, wp_cl5, wp_meth, wp_isi, wp_oNone, wp_oSome, wp_sl, wp_it, wp_range1, wp_range2, wp_bYes, gEq_str, gNe_str, gEq_int, gNe_int, gEq_bl, gNe_bl, gIs_bl, gIsNot_bl, gAdd_int, gSub_int, gC_int, gI_int, gAdd_str, gAdd_tup, gAdd_lst, gNeg_int, gIx_tup, gIx_lst, gLen_tup, gLen_lst, gLen_str, gInt_int, gInt_bl, gTuple_lst, gTuple_tup, gList_lst, gList_tup, gSl_tup, gSl_lst, gSl_fl, gSl_str, srcL_tup, srcL_lst, srcL_fl, srcL_str, srcR1_int, typN, startR, List.map_cons, List.map_nil, List.length_cons, List.length_nil, Nat.reduceAdd, Nat.reduceSub, Nat.zero_add, Nat.sub_self, Nat.sub_zero, List.replicate_zero, List.replicate_succ, List.cons_append, List.nil_append, List.append_nil, List.getElem?_cons_zero, List.getElem?_cons_succ, List.set_cons_zero, List.set_cons_succ, List.set_nil, List.getElem?_nil, Option.some.injEq, exists_eq_left', exists_eq_left, exists_eq_right, reduceCtorEq, false_and, and_false, true_and, and_true, exists_false, exists_const, wipeR, Nat.zero_le, String.reduceEq, D.int.injEq, D.str.injEq, D.bl.injEq, atI_0, atI_1, atI_2, atI_3, atI_4, beq_self_eq_true, not_true_eq_false, not_false_eq_true, Int.cast_ofNat_Int, Int.reduceEq, Int.reduceLE, Int.reduceLT, Int.reduceAdd, Int.reduceSub, Int.reduceMul, Int.reduceNeg, if_true, if_false, ite_true, ite_false, Bool.false_eq_true, if_neg, if_pos, decide_eq_true_eq, Bool.not_eq_true', decide_eq_false_iff_not, eq_self_iff_true, decide_true, decide_false, Bool.not_true, Bool.not_false, wps_raise, wps_try, wps_tryAs, tryCase_t, tryCase_f, tbl_hit, suiteOf_hit, wp_eDct, wp_eDGet, wp_eDNew, wp_eDDef, wps_dput, wps_augI, wps_asgTp, wps_asgUl, gUl2, gTp2, gTp3, gTp4, gTp5, gNs_cons, gN0_nil, wp_clN1, wp_clN2, wp_clN3, wp_slSt, gTupR_int, gLstR_int, gEndswith_str]
    exact ⟨small_line (by decide), (fin_trO hS (mpD_tr _)).mpr hF⟩
theorem mem_nats {p : Nat} {ps : List Nat} : D.int (p : Nat) ∈ nats ps ↔ p ∈ ps := by
  constructor
  · intro h
    obtain ⟨q, hq, e⟩ := List.mem_map.mp h
    injection e with e
    have : q = p := by omega
    exact this ▸ hq
  · exact fun h => List.mem_map.mpr ⟨p, h, rfl⟩
theorem sh_tup_nats {ps : List Nat} : Sh 1 (.tup (nats ps)) := sh_tup sh_nats
theorem least_map_ok {N : Nat} {n : Nat} {ps : List Nat} (hn : n < fu) (hl : ps.length ≤ 1000) (hN : 1 ≤ N) (hS : OKS S) (hF : F (mpD (leastM n ps)) S) : wp (den fu N i_least_map [.int n, .tup (nats ps)] S) F E := by
  obtain ⟨N', rfl⟩ : ∃ N', N = N' + 1 := ⟨N - 1, by omega⟩
  show wp (runDef false 3 (b_least_map fu (den fu N')) _ _) _ _
  simp only [b_least_map, wp_ok, wp_ret, wp_stuck, wp_bad, wp_bnd, wp_if, wp_fif, wps_ok_nx, wps_ok_rt, wps_ok_bk, wps_ok_ct, wps_ok_xc, wps_bad, wps_lft, wps_seq, wps_nil, wps_ret, wps_expr, wps_asg, wps_if, wp_run, wps_for, wps_while, wp_comp, wp_var, wp_C, wp_bin, wp_un, wp_T, wp_Tb, wp_asBl, wp_truthBl, wp_bAnd, wp_bOr, wp_bNot, wp_eIf, wp_eAnd, wp_eOr, wp_eNot, blCase_bl, wp_chain, wp_aNil, wp_aCons, wp_tup, wp_lst, wp_lstM, wp_call, wp_cl1, wp_cl2, wp_cl3, wp_cl4, wp_cl5, wp_meth, wp_isi, wp_oNone, wp_oSome, wp_sl, wp_it, wp_range1, wp_range2, wp_bYes, gEq_str, gNe_str, gEq_int, gNe_int, gEq_bl, gNe_bl, gIs_bl, gIsNot_bl, gAdd_int, gSub_int, gC_int, gI_int, gAdd_str, gAdd_tup, gAdd_lst, gNeg_int, gIx_tup, gIx_lst, gLen_tup, gLen_lst, gLen_str, gInt_int, gInt_bl, gTuple_lst, gTuple_tup, gList_lst, gList_tup, gSl_tup, gSl_lst, gSl_fl, gSl_str, srcL_tup, srcL_lst, srcL_fl, srcL_str, srcR1_int, typN, startR, List.map_cons, List.map_nil, List.length_cons, List.length_nil, Nat.reduceAdd, Nat.reduceSub, Nat.zero_add, Nat.sub_self, Nat.sub_zero, List.replicate_zero, List.replicate_succ, List.cons_append, List.nil_append, List.append_nil, List.getElem?_cons_zero, List.getElem?_cons_succ, List.set_cons_zero, List.set_cons_succ, List.set_nil, List.getElem?_nil, Option.some.injEq, exists_eq_left', exists_eq_left, exists_eq_right, reduceCtorEq, false_and, and_false, true_and, and_true, exists_false, exists_const, wipeR, Nat.zero_le, String.reduceEq, D.int.injEq, D.str.injEq, D.bl.injEq, atI_0, atI_1, atI_2, atI_3, atI_4, beq_self_eq_true, not_true_eq_false, not_false_eq_true, Int.cast_ofNat_Int, Int.reduceEq, Int.reduceLE, Int.reduceLT, Int.reduceAdd, Int.reduceSub, Int.reduceMul, Int.reduceNeg, if_true, if_false, ite_true, ite_false, Bool.false_eq_true, if_neg, if_pos, decide_eq_true_eq, Bool.not_eq_true', decide_eq_false_iff_not, eq_self_iff_true, decide_true, decide_false, Bool.not_true, Bool.not_false, wps_raise, wps_try, wps_tryAs, tryCase_t, tryCase_f, tbl_hit, suiteOf_hit, wp_eDct, wp_eDGet, wp_eDNew, wp_eDDef, wps_dput, wps_augI, wps_asgTp, wps_asgUl, gUl2, gTp2, gTp3, gTp4, gTp5, gNs_cons, gN0_nil, wp_clN1, wp_clN2, wp_clN3, wp_slSt, gTupR_int, gLstR_int, gEndswith_str]
  refine wps_whileM (fun m ρ S' => S' = S ∧ ∃ qs o, ρ = [some (.int (m : Nat)), some (.tup (nats qs)), o] ∧ leastM m qs = leastM n ps ∧ qs.length ≤ 1000 ∧ m ≤ n) (fun m ρ S' hI => ⟨?_, ?_⟩) n hn ⟨rfl, ps, none, rfl, rfl, hl, Nat.le_refl _⟩
  · obtain ⟨_, _, _, _, _, _, h⟩ := hI
    omega
  · obtain ⟨rfl, qs, o, rfl, he, hql, hmn⟩ := hI
    have out : leastM m qs = (m, qs) → F (.tup [.int m, .tup (nats qs)]) S' := by
      intro h
      rw [← he, h] at hF
      exact hF
    have fin : leastM m qs = (m, qs) → 2 ≤ sizeLine ∧ wp (finD false S'.length (.tup [.int m, .tup (nats qs)]) S') F E := fun h => ⟨small_line (by decide), (fin_trO hS (mpD_tr (m, qs))).mpr (out h)⟩
    rcases m with _ | m
    · simp only [List.length_map, wp_ok, wp_ret, wp_stuck, wp_bad, wp_bnd, wp_if, wp_fif, wps_ok_nx, wps_ok_rt, wps_ok_bk, wps_ok_ct, wps_ok_xc, wps_bad, wps_lft, wps_seq, wps_nil, wps_ret, wps_expr, wps_asg, wps_if, wp_run, wps_for, wps_while, wp_comp, wp_var, wp_C, wp_bin, wp_un, wp_T, wp_Tb, wp_asBl, wp_truthBl, wp_bAnd, wp_bOr, wp_bNot, wp_eIf, wp_eAnd, wp_eOr, wp_eNot, blCase_bl, wp_chain, wp_aNil, wp_aCons, wp_tup, wp_lst, wp_lstM, wp_call, wp_cl1, wp_cl2, wp_cl3, wp_cl4, wp_cl5, wp_meth, wp_isi, wp_oNone, wp_oSome, wp_sl, wp_it, wp_range1, wp_range2, wp_bYes, gEq_str, gNe_str, gEq_int, gNe_int, gEq_bl, gNe_bl, gIs_bl, gIsNot_bl, gAdd_int, gSub_int, gC_int, gI_int, gAdd_str, gAdd_tup, gAdd_lst, gNeg_int, gIx_tup, gIx_lst, gLen_tup, gLen_lst, gLen_str, gInt_int, gInt_bl, gTuple_lst, gTuple_tup, gList_lst, gList_tup, gSl_tup, gSl_lst, gSl_fl, gSl_str, srcL_tup, srcL_lst, srcL_fl, srcL_str, srcR1_int, typN, startR, List.map_cons, List.map_nil, List.length_cons, List.length_nil, Nat.reduceAdd, Nat.reduceSub, Nat.zero_add, Nat.sub_self, Nat.sub_zero, List.replicate_zero, List.replicate_succ, List.cons_append, List.nil_append, List.append_nil, List.getElem?_cons_zero, List.getElem?_cons_succ, List.set_cons_zero, List.set_cons_succ, List.set_nil, List.getElem?_nil, Option.some.injEq, exists_eq_left', exists_eq_left, exists_eq_right, reduceCtorEq, false_and, and_false, true_and, and_true, exists_false, exists_const, wipeR, Nat.zero_le, String.reduceEq, D.int.injEq, D.str.injEq, D.bl.injEq, atI_0, atI_1, atI_2, atI_3, atI_4, beq_self_eq_true, not_true_eq_false, not_false_eq_true, Int.cast_ofNat_Int, Int.reduceEq, Int.reduceLE, Int.reduceLT, Int.reduceAdd, Int.reduceSub, Int.reduceMul, Int.reduceNeg, if_true, if_false, ite_true, ite_false, Bool.false_eq_true, if_neg, if_pos, decide_eq_true_eq, Bool.not_eq_true', decide_eq_false_iff_not, eq_self_iff_true, decide_true, decide_false, Bool.not_true, Bool.not_false, wps_raise, wps_try, wps_tryAs, tryCase_t, tryCase_f, tbl_hit, suiteOf_hit, wp_eDct, wp_eDGet, wp_eDNew, wp_eDDef, wps_dput, wps_augI, wps_asgTp, wps_asgUl, gUl2, gTp2, gTp3, gTp4, gTp5, gNs_cons, gN0_nil, wp_clN1, wp_clN2, wp_clN3, wp_slSt, gTupR_int, gLstR_int, gEndswith_str, gt_iff_lt, Int.ofNat_zero, Int.lt_irrefl]
      exact fin (by cases qs <;> rfl)
    · have hp : ((m + 1 : Nat) : Int) > 0 := by omega
      rcases qs with _ | ⟨q, qs⟩
      · simp only [gNe_nil (ds := []) (sh_tup (m := 0) (by simp)), wp_ok, wp_ret, wp_stuck, wp_bad, wp_bnd, wp_if, wp_fif, wps_ok_nx, wps_ok_rt, wps_ok_bk, wps_ok_ct, wps_ok_xc, wps_bad, wps_lft, wps_seq, wps_nil, wps_ret, wps_expr, wps_asg, wps_if, wp_run, wps_for, wps_while, wp_comp, wp_var, wp_C, wp_bin, wp_un, wp_T, wp_Tb, wp_asBl, wp_truthBl, wp_bAnd, wp_bOr, wp_bNot, wp_eIf, wp_eAnd, wp_eOr, wp_eNot, blCase_bl, wp_chain, wp_aNil, wp_aCons, wp_tup, wp_lst, wp_lstM, wp_call, wp_cl1, wp_cl2, wp_cl3, wp_cl4, wp_cl5, wp_meth, wp_isi, wp_oNone, wp_oSome, wp_sl, wp_it, wp_range1, wp_range2, wp_bYes, gEq_str, gNe_str, gEq_int, gNe_int, gEq_bl, gNe_bl, gIs_bl, gIsNot_bl, gAdd_int, gSub_int, gC_int, gI_int, gAdd_str, gAdd_tup, gAdd_lst, gNeg_int, gIx_tup, gIx_lst, gLen_tup, gLen_lst, gLen_str, gInt_int, gInt_bl, gTuple_lst, gTuple_tup, gList_lst, gList_tup, gSl_tup, gSl_lst, gSl_fl, gSl_str, srcL_tup, srcL_lst, srcL_fl, srcL_str, srcR1_int, typN, startR, List.map_cons, List.map_nil, List.length_cons, List.length_nil, Nat.reduceAdd, Nat.reduceSub, Nat.zero_add, Nat.sub_self, Nat.sub_zero, List.replicate_zero, List.replicate_succ, List.cons_append, List.nil_append, List.append_nil, List.getElem?_cons_zero, List.getElem?_cons_succ, List.set_cons_zero, List.set_cons_succ, List.set_nil, List.getElem?_nil, Option.some.injEq, exists_eq_left', exists_eq_left, exists_eq_right, reduceCtorEq, false_and, and_false, true_and, and_true, exists_false, exists_const, wipeR, Nat.zero_le, String.reduceEq, D.int.injEq, D.str.injEq, D.bl.injEq, atI_0, atI_1, atI_2, atI_3, atI_4, beq_self_eq_true, not_true_eq_false, not_false_eq_true, Int.cast_ofNat_Int, Int.reduceEq, Int.reduceLE, Int.reduceLT, Int.reduceAdd, Int.reduceSub, Int.reduceMul, Int.reduceNeg, if_true, if_false, ite_true, ite_false, Bool.false_eq_true, if_neg, if_pos, decide_eq_true_eq, Bool.not_eq_true', decide_eq_false_iff_not, eq_self_iff_true, decide_true, decide_false, Bool.not_true, Bool.not_false, wps_raise, wps_try, wps_tryAs, tryCase_t, tryCase_f, tbl_hit, suiteOf_hit, wp_eDct, wp_eDGet, wp_eDNew, wp_eDDef, wps_dput, wps_augI, wps_asgTp, wps_asgUl, gUl2, gTp2, gTp3, gTp4, gTp5, gNs_cons, gN0_nil, wp_clN1, wp_clN2, wp_clN3, wp_slSt, gTupR_int, gLstR_int, gEndswith_str, hp]
        exact fin rfl
      · have hq1 : (nats (q :: qs)).drop 1 = nats qs := rfl
        have cut : cutD (nats (q :: qs)) (some 1) none = nats qs := cut_drop (ds := nats (q :: qs)) (a := 1) (by rw [List.length_map]; simp)
        have at0 : atI (nats (q :: qs)) 0 = some (.int (q : Nat)) := atI_0
        have hne : ∀ {F E}, wp (gNe (.tup (nats (q :: qs))) (.tup []) S') F E ↔ F (.bl true) S' := fun {F E} => by
          rw [gNe_nil (sh_tup_nats (ps := q :: qs)), decide_eq_false (show ¬ nats (q :: qs) = [] from List.cons_ne_nil _ _)]
          exact Iff.rfl
        have hmem : (D.int 0) ∈ nats qs ↔ 0 ∈ qs := mem_nats (p := 0)
        generalize hX : nats (q :: qs) = X at cut at0 hne fin
        simp only [hne, gNotIn_pu (x := .int 0) (Or.inl rfl) (sh_int (m := 0)) (sh_nats (ps := qs)) (by decide) rfl pu_nats, hp, cut, at0, hmem, wp_ok, wp_ret, wp_stuck, wp_bad, wp_bnd, wp_if, wp_fif, wps_ok_nx, wps_ok_rt, wps_ok_bk, wps_ok_ct, wps_ok_xc, wps_bad, wps_lft, wps_seq, wps_nil, wps_ret, wps_expr, wps_asg, wps_if, wp_run, wps_for, wps_while, wp_comp, wp_var, wp_C, wp_bin, wp_un, wp_T, wp_Tb, wp_asBl, wp_truthBl, wp_bAnd, wp_bOr, wp_bNot, wp_eIf, wp_eAnd, wp_eOr, wp_eNot, blCase_bl, wp_chain, wp_aNil, wp_aCons, wp_tup, wp_lst, wp_lstM, wp_call, wp_cl1, wp_cl2, wp_cl3, wp_cl4, wp_cl5, wp_meth, wp_isi, wp_oNone, wp_oSome, wp_sl, wp_it, wp_range1, wp_range2, wp_bYes, gEq_str, gNe_str, gEq_int, gNe_int, gEq_bl, gNe_bl, gIs_bl, gIsNot_bl, gAdd_int, gSub_int, gC_int, gI_int, gAdd_str, gAdd_tup, gAdd_lst, gNeg_int, gIx_tup, gIx_lst, gLen_tup, gLen_lst, gLen_str, gInt_int, gInt_bl, gTuple_lst, gTuple_tup, gList_lst, gList_tup, gSl_tup, gSl_lst, gSl_fl, gSl_str, srcL_tup, srcL_lst, srcL_fl, srcL_str, srcR1_int, typN, startR, List.map_cons, List.map_nil, List.length_cons, List.length_nil, Nat.reduceAdd, Nat.reduceSub, Nat.zero_add, Nat.sub_self, Nat.sub_zero, List.replicate_zero, List.replicate_succ, List.cons_append, List.nil_append, List.append_nil, List.getElem?_cons_zero, List.getElem?_cons_succ, List.set_cons_zero, List.set_cons_succ, List.set_nil, List.getElem?_nil, Option.some.injEq, exists_eq_left', exists_eq_left, exists_eq_right, reduceCtorEq, false_and, and_false, true_and, and_true, exists_false, exists_const, wipeR, Nat.zero_le, String.reduceEq, D.int.injEq, D.str.injEq, D.bl.injEq, atI_0, atI_1, atI_2, atI_3, atI_4, beq_self_eq_true, not_true_eq_false, not_false_eq_true, Int.cast_ofNat_Int, Int.reduceEq, Int.reduceLE, Int.reduceLT, Int.reduceAdd, Int.reduceSub, Int.reduceMul, Int.reduceNeg, if_true, if_false, ite_true, ite_false, Bool.false_eq_true, if_neg, if_pos, decide_eq_true_eq, Bool.not_eq_true', decide_eq_false_iff_not, eq_self_iff_true, decide_true, decide_false, Bool.not_true, Bool.not_false, wps_raise, wps_try, wps_tryAs, tryCase_t, tryCase_f, tbl_hit, suiteOf_hit, wp_eDct, wp_eDGet, wp_eDNew, wp_eDDef, wps_dput, wps_augI, wps_asgTp, wps_asgUl, gUl2, gTp2, gTp3, gTp4, gTp5, gNs_cons, gN0_nil, wp_clN1, wp_clN2, wp_clN3, wp_slSt, gTupR_int, gLstR_int, gEndswith_str]
        rcases q with _ | q
        · simp only [Int.ofNat_zero, wp_ok, wp_ret, wp_stuck, wp_bad, wp_bnd, wp_if, wp_fif, wps_ok_nx, wps_ok_rt, wps_ok_bk, wps_ok_ct, wps_ok_xc, wps_bad, wps_lft, wps_seq, wps_nil, wps_ret, wps_expr, wps_asg, wps_if, wp_run, wps_for, wps_while, wp_comp, wp_var, wp_C, wp_bin, wp_un, wp_T, wp_Tb, wp_asBl, wp_truthBl, wp_bAnd, wp_bOr, wp_bNot, wp_eIf, wp_eAnd, wp_eOr, wp_eNot, blCase_bl, wp_chain, wp_aNil, wp_aCons, wp_tup, wp_lst, wp_lstM, wp_call, wp_cl1, wp_cl2, wp_cl3, wp_cl4, wp_cl5, wp_meth, wp_isi, wp_oNone, wp_oSome, wp_sl, wp_it, wp_range1, wp_range2, wp_bYes, gEq_str, gNe_str, gEq_int, gNe_int, gEq_bl, gNe_bl, gIs_bl, gIsNot_bl, gAdd_int, gSub_int, gC_int, gI_int, gAdd_str, gAdd_tup, gAdd_lst, gNeg_int, gIx_tup, gIx_lst, gLen_tup, gLen_lst, gLen_str, gInt_int, gInt_bl, gTuple_lst, gTuple_tup, gList_lst, gList_tup, gSl_tup, gSl_lst, gSl_fl, gSl_str, srcL_tup, srcL_lst, srcL_fl, srcL_str, srcR1_int, typN, startR, List.map_cons, List.map_nil, List.length_cons, List.length_nil, Nat.reduceAdd, Nat.reduceSub, Nat.zero_add, Nat.sub_self, Nat.sub_zero, List.replicate_zero, List.replicate_succ, List.cons_append, List.nil_append, List.append_nil, List.getElem?_cons_zero, List.getElem?_cons_succ, List.set_cons_zero, List.set_cons_succ, List.set_nil, List.getElem?_nil, Option.some.injEq, exists_eq_left', exists_eq_left, exists_eq_right, reduceCtorEq, false_and, and_false, true_and, and_true, exists_false, exists_const, wipeR, Nat.zero_le, String.reduceEq, D.int.injEq, D.str.injEq, D.bl.injEq, atI_0, atI_1, atI_2, atI_3, atI_4, beq_self_eq_true, not_true_eq_false, not_false_eq_true, Int.cast_ofNat_Int, Int.reduceEq, Int.reduceLE, Int.reduceLT, Int.reduceAdd, Int.reduceSub, Int.reduceMul, Int.reduceNeg, if_true, if_false, ite_true, ite_false, Bool.false_eq_true, if_neg, if_pos, decide_eq_true_eq, Bool.not_eq_true', decide_eq_false_iff_not, eq_self_iff_true, decide_true, decide_false, Bool.not_true, Bool.not_false, wps_raise, wps_try, wps_tryAs, tryCase_t, tryCase_f, tbl_hit, suiteOf_hit, wp_eDct, wp_eDGet, wp_eDNew, wp_eDDef, wps_dput, wps_augI, wps_asgTp, wps_asgUl, gUl2, gTp2, gTp3, gTp4, gTp5, gNs_cons, gN0_nil, wp_clN1, wp_clN2, wp_clN3, wp_slSt, gTupR_int, gLstR_int, gEndswith_str]
          by_cases h0 : 0 ∈ qs
          · simp only [h0, wp_ok, wp_ret, wp_stuck, wp_bad, wp_bnd, wp_if, wp_fif, wps_ok_nx, wps_ok_rt, wps_ok_bk, wps_ok_ct, wps_ok_xc, wps_bad, wps_lft, wps_seq, wps_nil, wps_ret, wps_expr, wps_asg, wps_if, wp_run, wps_for, wps_while, wp_comp, wp_var, wp_C, wp_bin, wp_un, wp_T, wp_Tb, wp_asBl, wp_truthBl, wp_bAnd, wp_bOr, wp_bNot, wp_eIf, wp_eAnd, wp_eOr, wp_eNot, blCase_bl, wp_chain, wp_aNil, wp_aCons, wp_tup, wp_lst, wp_lstM, wp_call, wp_cl1, wp_cl2, wp_cl3, wp_cl4, wp_cl5, wp_meth, wp_isi, wp_oNone, wp_oSome, wp_sl, wp_it, wp_range1, wp_range2, wp_bYes, gEq_str, gNe_str, gEq_int, gNe_int, gEq_bl, gNe_bl, gIs_bl, gIsNot_bl, gAdd_int, gSub_int, gC_int, gI_int, gAdd_str, gAdd_tup, gAdd_lst, gNeg_int, gIx_tup, gIx_lst, gLen_tup, gLen_lst, gLen_str, gInt_int, gInt_bl, gTuple_lst, gTuple_tup, gList_lst, gList_tup, gSl_tup, gSl_lst, gSl_fl, gSl_str, srcL_tup, srcL_lst, srcL_fl, srcL_str, srcR1_int, typN, startR, List.map_cons, List.map_nil, List.length_cons, List.length_nil, Nat.reduceAdd, Nat.reduceSub, Nat.zero_add, Nat.sub_self, Nat.sub_zero, List.replicate_zero, List.replicate_succ, List.cons_append, List.nil_append, List.append_nil, List.getElem?_cons_zero, List.getElem?_cons_succ, List.set_cons_zero, List.set_cons_succ, List.set_nil, List.getElem?_nil, Option.some.injEq, exists_eq_left', exists_eq_left, exists_eq_right, reduceCtorEq, false_and, and_false, true_and, and_true, exists_false, exists_const, wipeR, Nat.zero_le, String.reduceEq, D.int.injEq, D.str.injEq, D.bl.injEq, atI_0, atI_1, atI_2, atI_3, atI_4, beq_self_eq_true, not_true_eq_false, not_false_eq_true, Int.cast_ofNat_Int, Int.reduceEq, Int.reduceLE, Int.reduceLT, Int.reduceAdd, Int.reduceSub, Int.reduceMul, Int.reduceNeg, if_true, if_false, ite_true, ite_false, Bool.false_eq_true, if_neg, if_pos, decide_eq_true_eq, Bool.not_eq_true', decide_eq_false_iff_not, eq_self_iff_true, decide_true, decide_false, Bool.not_true, Bool.not_false, wps_raise, wps_try, wps_tryAs, tryCase_t, tryCase_f, tbl_hit, suiteOf_hit, wp_eDct, wp_eDGet, wp_eDNew, wp_eDDef, wps_dput, wps_augI, wps_asgTp, wps_asgUl, gUl2, gTp2, gTp3, gTp4, gTp5, gNs_cons, gN0_nil, wp_clN1, wp_clN2, wp_clN3, wp_slSt, gTupR_int, gLstR_int, gEndswith_str]
            exact fin (by rw [leastM_s, if_pos h0])
          · simp only [h0, wp_ok, wp_ret, wp_stuck, wp_bad, wp_bnd, wp_if, wp_fif, wps_ok_nx, wps_ok_rt, wps_ok_bk, wps_ok_ct, wps_ok_xc, wps_bad, wps_lft, wps_seq, wps_nil, wps_ret, wps_expr, wps_asg, wps_if, wp_run, wps_for, wps_while, wp_comp, wp_var, wp_C, wp_bin, wp_un, wp_T, wp_Tb, wp_asBl, wp_truthBl, wp_bAnd, wp_bOr, wp_bNot, wp_eIf, wp_eAnd, wp_eOr, wp_eNot, blCase_bl, wp_chain, wp_aNil, wp_aCons, wp_tup, wp_lst, wp_lstM, wp_call, wp_cl1, wp_cl2, wp_cl3, wp_cl4, wp_cl5, wp_meth, wp_isi, wp_oNone, wp_oSome, wp_sl, wp_it, wp_range1, wp_range2, wp_bYes, gEq_str, gNe_str, gEq_int, gNe_int, gEq_bl, gNe_bl, gIs_bl, gIsNot_bl, gAdd_int, gSub_int, gC_int, gI_int, gAdd_str, gAdd_tup, gAdd_lst, gNeg_int, gIx_tup, gIx_lst, gLen_tup, gLen_lst, gLen_str, gInt_int, gInt_bl, gTuple_lst, gTuple_tup, gList_lst, gList_tup, gSl_tup, gSl_lst, gSl_fl, gSl_str, srcL_tup, srcL_lst, srcL_fl, srcL_str, srcR1_int, typN, startR, List.map_cons, List.map_nil, List.length_cons, List.length_nil, Nat.reduceAdd, Nat.reduceSub, Nat.zero_add, Nat.sub_self, Nat.sub_zero, List.replicate_zero, List.replicate_succ, List.cons_append, List.nil_append, List.append_nil, List.getElem?_cons_zero, List.getElem?_cons_succ, List.set_cons_zero, List.set_cons_succ, List.set_nil, List.getElem?_nil, Option.some.injEq, exists_eq_left', exists_eq_left, exists_eq_right, reduceCtorEq, false_and, and_false, true_and, and_true, exists_false, exists_const, wipeR, Nat.zero_le, String.reduceEq, D.int.injEq, D.str.injEq, D.bl.injEq, atI_0, atI_1, atI_2, atI_3, atI_4, beq_self_eq_true, not_true_eq_false, not_false_eq_true, Int.cast_ofNat_Int, Int.reduceEq, Int.reduceLE, Int.reduceLT, Int.reduceAdd, Int.reduceSub, Int.reduceMul, Int.reduceNeg, if_true, if_false, ite_true, ite_false, Bool.false_eq_true, if_neg, if_pos, decide_eq_true_eq, Bool.not_eq_true', decide_eq_false_iff_not, eq_self_iff_true, decide_true, decide_false, Bool.not_true, Bool.not_false, wps_raise, wps_try, wps_tryAs, tryCase_t, tryCase_f, tbl_hit, suiteOf_hit, wp_eDct, wp_eDGet, wp_eDNew, wp_eDDef, wps_dput, wps_augI, wps_asgTp, wps_asgUl, gUl2, gTp2, gTp3, gTp4, gTp5, gNs_cons, gN0_nil, wp_clN1, wp_clN2, wp_clN3, wp_slSt, gTupR_int, gLstR_int, gEndswith_str]
            refine ⟨small_line (by simp only [List.length_cons, List.length_map] at hql ⊢; omega), comp_one (fun p => D.int ((p - 1 : Nat) : Int)) (fun p hp F E hF => ?_) ?_⟩
            · simp only [wp_ok, wp_ret, wp_stuck, wp_bad, wp_bnd, wp_if, wp_fif, wps_ok_nx, wps_ok_rt, wps_ok_bk, wps_ok_ct, wps_ok_xc, wps_bad, wps_lft, wps_seq, wps_nil, wps_ret, wps_expr, wps_asg, wps_if, wp_run, wps_for, wps_while, wp_comp, wp_var, wp_C, wp_bin, wp_un, wp_T, wp_Tb, wp_asBl, wp_truthBl, wp_bAnd, wp_bOr, wp_bNot, wp_eIf, wp_eAnd, wp_eOr, wp_eNot, blCase_bl, wp_chain, wp_aNil, wp_aCons, wp_tup, wp_lst, wp_lstM, wp_call, wp_cl1, wp_cl2, wp_cl3, wp_cl4, wp_cl5, wp_meth, wp_isi, wp_oNone, wp_oSome, wp_sl, wp_it, wp_range1, wp_range2, wp_bYes, gEq_str, gNe_str, gEq_int, gNe_int, gEq_bl, gNe_bl, gIs_bl, gIsNot_bl, gAdd_int, gSub_int, gC_int, gI_int, gAdd_str, gAdd_tup, gAdd_lst, gNeg_int, gIx_tup, gIx_lst, gLen_tup, gLen_lst, gLen_str, gInt_int, gInt_bl, gTuple_lst, gTuple_tup, gList_lst, gList_tup, gSl_tup, gSl_lst, gSl_fl, gSl_str, srcL_tup, srcL_lst, srcL_fl, srcL_str, srcR1_int, typN, startR, List.map_cons, List.map_nil, List.length_cons, List.length_nil, Nat.reduceAdd, Nat.reduceSub, Nat.zero_add, Nat.sub_self, Nat.sub_zero, List.replicate_zero, List.replicate_succ, List.cons_append, List.nil_append, List.append_nil, List.getElem?_cons_zero, List.getElem?_cons_succ, List.set_cons_zero, List.set_cons_succ, List.set_nil, List.getElem?_nil, Option.some.injEq, exists_eq_left', exists_eq_left, exists_eq_right, reduceCtorEq, false_and, and_false, true_and, and_true, exists_false, exists_const, wipeR, Nat.zero_le, String.reduceEq, D.int.injEq, D.str.injEq, D.bl.injEq, atI_0, atI_1, atI_2, atI_3, atI_4, beq_self_eq_true, not_true_eq_false, not_false_eq_true, Int.cast_ofNat_Int, Int.reduceEq, Int.reduceLE, Int.reduceLT, Int.reduceAdd, Int.reduceSub, Int.reduceMul, Int.reduceNeg, if_true, if_false, ite_true, ite_false, Bool.false_eq_true, if_neg, if_pos, decide_eq_true_eq, Bool.not_eq_true', decide_eq_false_iff_not, eq_self_iff_true, decide_true, decide_false, Bool.not_true, Bool.not_false, wps_raise, wps_try, wps_tryAs, tryCase_t, tryCase_f, tbl_hit, suiteOf_hit, wp_eDct, wp_eDGet, wp_eDNew, wp_eDDef, wps_dput, wps_augI, wps_asgTp, wps_asgUl, gUl2, gTp2, gTp3, gTp4, gTp5, gNs_cons, gN0_nil, wp_clN1, wp_clN2, wp_clN3, wp_slSt, gTupR_int, gLstR_int, gEndswith_str]
              have : p ≠ 0 := fun h => h0 (h ▸ hp)
              have e : ((p : Nat) : Int) - 1 = ((p - 1 : Nat) : Int) := by omega
              rw [e]; exact hF
            · refine ⟨m, by omega, rfl, qs.map (· - 1), o, ?_, ?_, ?_, by omega⟩
              · have e : ((m + 1 : Nat) : Int) - 1 = (m : Nat) := by omega
                rw [e, nats, List.map_map]; rfl
              · rw [← he, leastM_s, if_neg h0]
              · simp only [List.length_cons] at hql; rw [List.length_map]; omega
        · have : ¬ ((q + 1 : Nat) : Int) = 0 := by omega
          simp only [this, wp_ok, wp_ret, wp_stuck, wp_bad, wp_bnd, wp_if, wp_fif, wps_ok_nx, wps_ok_rt, wps_ok_bk, wps_ok_ct, wps_ok_xc, wps_bad, wps_lft, wps_seq, wps_nil, wps_ret, wps_expr, wps_asg, wps_if, wp_run, wps_for, wps_while, wp_comp, wp_var, wp_C, wp_bin, wp_un, wp_T, wp_Tb, wp_asBl, wp_truthBl, wp_bAnd, wp_bOr, wp_bNot, wp_eIf, wp_eAnd, wp_eOr, wp_eNot, blCase_bl, wp_chain, wp_aNil, wp_aCons, wp_tup, wp_lst, wp_lstM, wp_call, wp_cl1, wp_cl2, wp_cl3, wp_cl4, wp_cl5, wp_meth, wp_isi, wp_oNone, wp_oSome, wp_sl, wp_it, wp_range1, wp_range2, wp_bYes, gEq_str, gNe_str, gEq_int, gNe_int, gEq_bl, gNe_bl, gIs_bl, gIsNot_bl, gAdd_int, gSub_int, gC_int, gI_int, gAdd_str, gAdd_tup, gAdd_lst, gNeg_int, gIx_tup, gIx_lst, gLen_tup, gLen_lst, gLen_str, gInt_int, gInt_bl, gTuple_lst, gTuple_tup, gList_lst, gList_tup, gSl_tup, gSl_lst, gSl_fl, gSl_str, srcL_tup, srcL_lst, srcL_fl, srcL_str, srcR1_int, typN, startR, List.map_cons, List.map_nil, List.length_cons, List.length_nil, Nat.reduceAdd, Nat.reduceSub, Nat.zero_add, Nat.sub_self, Nat.sub_zero, List.replicate_zero, List.replicate_succ, List.cons_append, List.nil_append, List.append_nil, List.getElem?_cons_zero, List.getElem?_cons_succ, List.set_cons_zero, List.set_cons_succ, List.set_nil, List.getElem?_nil, Option.some.injEq, exists_eq_left', exists_eq_left, exists_eq_right, reduceCtorEq, false_and, and_false, true_and, and_true, exists_false, exists_const, wipeR, Nat.zero_le, String.reduceEq, D.int.injEq, D.str.injEq, D.bl.injEq, atI_0, atI_1, atI_2, atI_3, atI_4, beq_self_eq_true, not_true_eq_false, not_false_eq_true, Int.cast_ofNat_Int, Int.reduceEq, Int.reduceLE, Int.reduceLT, Int.reduceAdd, Int.reduceSub, Int.reduceMul, Int.reduceNeg, if_true, if_false, ite_true, ite_false, Bool.false_eq_true, if_neg, if_pos, decide_eq_true_eq, Bool.not_eq_true', decide_eq_false_iff_not, eq_self_iff_true, decide_true, decide_false, Bool.not_true, Bool.not_false, wps_raise, wps_try, wps_tryAs, tryCase_t, tryCase_f, tbl_hit, suiteOf_hit, wp_eDct, wp_eDGet, wp_eDNew, wp_eDDef, wps_dput, wps_augI, wps_asgTp, wps_asgUl, gUl2, gTp2, gTp3, gTp4, gTp5, gNs_cons, gN0_nil, wp_clN1, wp_clN2, wp_clN3, wp_slSt, gTupR_int, gLstR_int, gEndswith_str]
          exact fin rfl
theorem whole_n {row : List Mp} (h : RowO row) (q : Mp) : (row.foldl mapW q).1 ≤ q.1 + 8 * row.length := by
  induction row generalizing q with
  | nil => exact Nat.le_refl _
  | cons w row ih =>
    have := ih h.tail (mapW q w)
    have h2 : (mapW q w).1 ≤ q.1 + 8 := by
      have := (h w (List.mem_cons_self ..)).1
      show q.1 + (w.1 - q.2.length) ≤ _
      omega
    rw [List.foldl_cons, List.length_cons]
    omega
theorem whole_n' {row : List Mp} (h : RowS row) : (wholeM row).1 ≤ 160 := by
  have := whole_n h.2 (0, [])
  have := h.1
  unfold wholeM
  omega
theorem whole_len' {row : List Mp} (h : RowS row) : (wholeM row).2.length ≤ 240 := by
  have := whole_len h row.length
  rwa [List.take_length] at this
theorem leastM_le : ∀ (n : Nat) (ps : List Nat), (leastM n ps).1 ≤ n ∧ (leastM n ps).2.length ≤ ps.length := by
  intro n
  induction n with
  | zero => intro ps; cases ps <;> exact ⟨Nat.le_refl _, Nat.le_refl _⟩
  | succ n ih =>
    intro ps
    rcases ps with _ | ⟨q, ps⟩
    · exact ⟨Nat.le_refl _, Nat.le_refl _⟩
    · rcases q with _ | q
      · rw [leastM_s]
        by_cases h : 0 ∈ ps
        · rw [if_pos h]; exact ⟨Nat.le_refl _, Nat.le_refl _⟩
        · rw [if_neg h]
          have := ih (ps.map (· - 1))
          rw [List.length_map] at this
          rw [List.length_cons]
          omega
      · exact ⟨Nat.le_refl _, Nat.le_refl _⟩
theorem map_of_ok {N : Nat} {row : List Mp} (h : RowS row) (hf : 1000 ≤ fu) (hN : 4 ≤ N) (hS : OKS S) (hF : F (mpD (leastM (wholeM row).1 (wholeM row).2)) S) : wp (den fu N i_map_of [rowD row] S) F E := by
  obtain ⟨N', rfl⟩ : ∃ N', N = N' + 1 := ⟨N - 1, by omega⟩
  show wp (runDef false 3 (b_map_of fu (den fu N')) _ _) _ _
  simp only [b_map_of, wp_ok, wp_ret, wp_stuck, wp_bad, wp_bnd, wp_if, wp_fif, wps_ok_nx, wps_ok_rt, wps_ok_bk, wps_ok_ct, wps_ok_xc, wps_bad, wps_lft, wps_seq, wps_nil, wps_ret, wps_expr, wps_asg, wps_if, wp_run, wps_for, wps_while, wp_comp, wp_var, wp_C, wp_bin, wp_un, wp_T, wp_Tb, wp_asBl, wp_truthBl, wp_bAnd, wp_bOr, wp_bNot, wp_eIf, wp_eAnd, wp_eOr, wp_eNot, blCase_bl, wp_chain, wp_aNil, wp_aCons, wp_tup, wp_lst, wp_lstM, wp_call, wp_cl1, wp_cl2, wp_cl3, wp_cl4, wp_cl5, wp_meth, wp_isi, wp_oNone, wp_oSome, wp_sl, wp_it, wp_range1, wp_range2, wp_bYes, gEq_str, gNe_str, gEq_int, gNe_int, gEq_bl, gNe_bl, gIs_bl, gIsNot_bl, gAdd_int, gSub_int, gC_int, gI_int, gAdd_str, gAdd_tup, gAdd_lst, gNeg_int, gIx_tup, gIx_lst, gLen_tup, gLen_lst, gLen_str, gInt_int, gInt_bl, gTuple_lst, gTuple_tup, gList_lst, gList_tup, gSl_tup, gSl_lst, gSl_fl, gSl_str, srcL_tup, srcL_lst, srcL_fl, srcL_str, srcR1_int, typN, startR, List.map_cons, List.map_nil, List.length_cons, List.length_nil, Nat.reduceAdd, Nat.reduceSub, Nat.zero_add, Nat.sub_self, Nat.sub_zero, List.replicate_zero, List.replicate_succ, List.cons_append, List.nil_append, List.append_nil, List.getElem?_cons_zero, List.getElem?_cons_succ, List.set_cons_zero, List.set_cons_succ, List.set_nil, List.getElem?_nil, Option.some.injEq, exists_eq_left', exists_eq_left, exists_eq_right, reduceCtorEq, false_and, and_false, true_and, and_true, exists_false, exists_const, wipeR, Nat.zero_le, String.reduceEq, D.int.injEq, D.str.injEq, D.bl.injEq, atI_0, atI_1, atI_2, atI_3, atI_4, beq_self_eq_true, not_true_eq_false, not_false_eq_true, Int.cast_ofNat_Int, Int.reduceEq, Int.reduceLE, Int.reduceLT, Int.reduceAdd, Int.reduceSub, Int.reduceMul, Int.reduceNeg, if_true, if_false, ite_true, ite_false, Bool.false_eq_true, if_neg, if_pos, decide_eq_true_eq, Bool.not_eq_true', decide_eq_false_iff_not, eq_self_iff_true, decide_true, decide_false, Bool.not_true, Bool.not_false, wps_raise, wps_try, wps_tryAs, tryCase_t, tryCase_f, tbl_hit, suiteOf_hit, wp_eDct, wp_eDGet, wp_eDNew, wp_eDDef, wps_dput, wps_augI, wps_asgTp, wps_asgUl, gUl2, gTp2, gTp3, gTp4, gTp5, gNs_cons, gN0_nil, wp_clN1, wp_clN2, wp_clN3, wp_slSt, gTupR_int, gLstR_int, gEndswith_str]
  refine whole_map_ok h (by omega) hS ?_
  simp only [mpD, wp_ok, wp_ret, wp_stuck, wp_bad, wp_bnd, wp_if, wp_fif, wps_ok_nx, wps_ok_rt, wps_ok_bk, wps_ok_ct, wps_ok_xc, wps_bad, wps_lft, wps_seq, wps_nil, wps_ret, wps_expr, wps_asg, wps_if, wp_run, wps_for, wps_while, wp_comp, wp_var, wp_C, wp_bin, wp_un, wp_T, wp_Tb, wp_asBl, wp_truthBl, wp_bAnd, wp_bOr, wp_bNot, wp_eIf, wp_eAnd, wp_eOr, wp_eNot, blCase_bl, wp_chain, wp_aNil, wp_aCons, wp_tup, wp_lst, wp_lstM, wp_call, wp_cl1, wp_cl2, wp_cl3, wp_cl4, wp_cl5, wp_meth, wp_isi, wp_oNone, wp_oSome, wp_sl, wp_it, wp_range1, wp_range2, wp_bYes, gEq_str, gNe_str, gEq_int, gNe_int, gEq_bl, gNe_bl, gIs_bl, gIsNot_bl, gAdd_int, gSub_int, gC_int, gI_int, gAdd_str, gAdd_tup, gAdd_lst, gNeg_int, gIx_tup, gIx_lst, gLen_tup, gLen_lst, gLen_str, gInt_int, gInt_bl, gTuple_lst, gTuple_tup, gList_lst, gList_tup, gSl_tup, gSl_lst, gSl_fl, gSl_str, srcL_tup, srcL_lst, srcL_fl, srcL_str, srcR1_int, typN, startR, List.map_cons, List.map_nil, List.length_cons, List.length_nil, Nat.reduceAdd, Nat.reduceSub, Nat.zero_add, Nat.sub_self, Nat.sub_zero, List.replicate_zero, List.replicate_succ, List.cons_append, List.nil_append, List.append_nil, List.getElem?_cons_zero, List.getElem?_cons_succ, List.set_cons_zero, List.set_cons_succ, List.set_nil, List.getElem?_nil, Option.some.injEq, exists_eq_left', exists_eq_left, exists_eq_right, reduceCtorEq, false_and, and_false, true_and, and_true, exists_false, exists_const, wipeR, Nat.zero_le, String.reduceEq, D.int.injEq, D.str.injEq, D.bl.injEq, atI_0, atI_1, atI_2, atI_3, atI_4, beq_self_eq_true, not_true_eq_false, not_false_eq_true, Int.cast_ofNat_Int, Int.reduceEq, Int.reduceLE, Int.reduceLT, Int.reduceAdd, Int.reduceSub, Int.reduceMul, Int.reduceNeg, if_true, if_false, ite_true, ite_false, Bool.false_eq_true, if_neg, if_pos, decide_eq_true_eq, Bool.not_eq_true', decide_eq_false_iff_not, eq_self_iff_true, decide_true, decide_false, Bool.not_true, Bool.not_false, wps_raise, wps_try, wps_tryAs, tryCase_t, tryCase_f, tbl_hit, suiteOf_hit, wp_eDct, wp_eDGet, wp_eDNew, wp_eDDef, wps_dput, wps_augI, wps_asgTp, wps_asgUl, gUl2, gTp2, gTp3, gTp4, gTp5, gNs_cons, gN0_nil, wp_clN1, wp_clN2, wp_clN3, wp_slSt, gTupR_int, gLstR_int, gEndswith_str]
  have := whole_n' h
  have := whole_len' h
  exact least_map_ok (by omega) (by omega) (by omega) hS ((fin_trO hS (mpD_tr _)).mpr hF)
theorem need_of_ok {N : Nat} {row : List Mp} (h : RowS row) (hN : 4 ≤ N) (hS : OKS S) (hF : F (.int (wholeM row).1) S) : wp (den fu N i_need_of [rowD row] S) F E := by
  obtain ⟨N', rfl⟩ : ∃ N', N = N' + 1 := ⟨N - 1, by omega⟩
  show wp (runDef false 1 (b_need_of fu (den fu N')) _ _) _ _
  simp only [b_need_of, wp_ok, wp_ret, wp_stuck, wp_bad, wp_bnd, wp_if, wp_fif, wps_ok_nx, wps_ok_rt, wps_ok_bk, wps_ok_ct, wps_ok_xc, wps_bad, wps_lft, wps_seq, wps_nil, wps_ret, wps_expr, wps_asg, wps_if, wp_run, wps_for, wps_while, wp_comp, wp_var, wp_C, wp_bin, wp_un, wp_T, wp_Tb, wp_asBl, wp_truthBl, wp_bAnd, wp_bOr, wp_bNot, wp_eIf, wp_eAnd, wp_eOr, wp_eNot, blCase_bl, wp_chain, wp_aNil, wp_aCons, wp_tup, wp_lst, wp_lstM, wp_call, wp_cl1, wp_cl2, wp_cl3, wp_cl4, wp_cl5, wp_meth, wp_isi, wp_oNone, wp_oSome, wp_sl, wp_it, wp_range1, wp_range2, wp_bYes, gEq_str, gNe_str, gEq_int, gNe_int, gEq_bl, gNe_bl, gIs_bl, gIsNot_bl, gAdd_int, gSub_int, gC_int, gI_int, gAdd_str, gAdd_tup, gAdd_lst, gNeg_int, gIx_tup, gIx_lst, gLen_tup, gLen_lst, gLen_str, gInt_int, gInt_bl, gTuple_lst, gTuple_tup, gList_lst, gList_tup, gSl_tup, gSl_lst, gSl_fl, gSl_str, srcL_tup, srcL_lst, srcL_fl, srcL_str, srcR1_int, typN, startR, List.map_cons, List.map_nil, List.length_cons, List.length_nil, Nat.reduceAdd, Nat.reduceSub, Nat.zero_add, Nat.sub_self, Nat.sub_zero, List.replicate_zero, List.replicate_succ, List.cons_append, List.nil_append, List.append_nil, List.getElem?_cons_zero, List.getElem?_cons_succ, List.set_cons_zero, List.set_cons_succ, List.set_nil, List.getElem?_nil, Option.some.injEq, exists_eq_left', exists_eq_left, exists_eq_right, reduceCtorEq, false_and, and_false, true_and, and_true, exists_false, exists_const, wipeR, Nat.zero_le, String.reduceEq, D.int.injEq, D.str.injEq, D.bl.injEq, atI_0, atI_1, atI_2, atI_3, atI_4, beq_self_eq_true, not_true_eq_false, not_false_eq_true, Int.cast_ofNat_Int, Int.reduceEq, Int.reduceLE, Int.reduceLT, Int.reduceAdd, Int.reduceSub, Int.reduceMul, Int.reduceNeg, if_true, if_false, ite_true, ite_false, Bool.false_eq_true, if_neg, if_pos, decide_eq_true_eq, Bool.not_eq_true', decide_eq_false_iff_not, eq_self_iff_true, decide_true, decide_false, Bool.not_true, Bool.not_false, wps_raise, wps_try, wps_tryAs, tryCase_t, tryCase_f, tbl_hit, suiteOf_hit, wp_eDct, wp_eDGet, wp_eDNew, wp_eDDef, wps_dput, wps_augI, wps_asgTp, wps_asgUl, gUl2, gTp2, gTp3, gTp4, gTp5, gNs_cons, gN0_nil, wp_clN1, wp_clN2, wp_clN3, wp_slSt, gTupR_int, gLstR_int, gEndswith_str]
  refine whole_map_ok h (by omega) hS ?_
  simp only [mpD, wp_ok, wp_ret, wp_stuck, wp_bad, wp_bnd, wp_if, wp_fif, wps_ok_nx, wps_ok_rt, wps_ok_bk, wps_ok_ct, wps_ok_xc, wps_bad, wps_lft, wps_seq, wps_nil, wps_ret, wps_expr, wps_asg, wps_if, wp_run, wps_for, wps_while, wp_comp, wp_var, wp_C, wp_bin, wp_un, wp_T, wp_Tb, wp_asBl, wp_truthBl, wp_bAnd, wp_bOr, wp_bNot, wp_eIf, wp_eAnd, wp_eOr, wp_eNot, blCase_bl, wp_chain, wp_aNil, wp_aCons, wp_tup, wp_lst, wp_lstM, wp_call, wp_cl1, wp_cl2, wp_cl3, wp_cl4, wp_cl5, wp_meth, wp_isi, wp_oNone, wp_oSome, wp_sl, wp_it, wp_range1, wp_range2, wp_bYes, gEq_str, gNe_str, gEq_int, gNe_int, gEq_bl, gNe_bl, gIs_bl, gIsNot_bl, gAdd_int, gSub_int, gC_int, gI_int, gAdd_str, gAdd_tup, gAdd_lst, gNeg_int, gIx_tup, gIx_lst, gLen_tup, gLen_lst, gLen_str, gInt_int, gInt_bl, gTuple_lst, gTuple_tup, gList_lst, gList_tup, gSl_tup, gSl_lst, gSl_fl, gSl_str, srcL_tup, srcL_lst, srcL_fl, srcL_str, srcR1_int, typN, startR, List.map_cons, List.map_nil, List.length_cons, List.length_nil, Nat.reduceAdd, Nat.reduceSub, Nat.zero_add, Nat.sub_self, Nat.sub_zero, List.replicate_zero, List.replicate_succ, List.cons_append, List.nil_append, List.append_nil, List.getElem?_cons_zero, List.getElem?_cons_succ, List.set_cons_zero, List.set_cons_succ, List.set_nil, List.getElem?_nil, Option.some.injEq, exists_eq_left', exists_eq_left, exists_eq_right, reduceCtorEq, false_and, and_false, true_and, and_true, exists_false, exists_const, wipeR, Nat.zero_le, String.reduceEq, D.int.injEq, D.str.injEq, D.bl.injEq, atI_0, atI_1, atI_2, atI_3, atI_4, beq_self_eq_true, not_true_eq_false, not_false_eq_true, Int.cast_ofNat_Int, Int.reduceEq, Int.reduceLE, Int.reduceLT, Int.reduceAdd, Int.reduceSub, Int.reduceMul, Int.reduceNeg, if_true, if_false, ite_true, ite_false, Bool.false_eq_true, if_neg, if_pos, decide_eq_true_eq, Bool.not_eq_true', decide_eq_false_iff_not, eq_self_iff_true, decide_true, decide_false, Bool.not_true, Bool.not_false, wps_raise, wps_try, wps_tryAs, tryCase_t, tryCase_f, tbl_hit, suiteOf_hit, wp_eDct, wp_eDGet, wp_eDNew, wp_eDDef, wps_dput, wps_augI, wps_asgTp, wps_asgUl, gUl2, gTp2, gTp3, gTp4, gTp5, gNs_cons, gN0_nil, wp_clN1, wp_clN2, wp_clN3, wp_slSt, gTupR_int, gLstR_int, gEndswith_str]
  exact (fin_trO hS rfl).mpr hF
/-! the program's parting and alike -/
def mapsM (row : List Mp) : Mp := leastM (wholeM row).1 (wholeM row).2
def numsD (m : Nat) : D := .tup ((List.range m).map fun k => .tup [.str "number", .int (k : Nat)])
theorem mpD_inj {a b : Mp} : mpD a = mpD b ↔ a = b := by
  constructor
  · intro h
    obtain ⟨a1, a2⟩ := a
    obtain ⟨b1, b2⟩ := b
    simp only [mpD, D.tup.injEq, List.cons.injEq, and_true, D.int.injEq] at h
    rw [show a1 = b1 by omega, nats_inj.mp h.2]
  · rintro rfl; rfl
theorem sh_mpD {q : Mp} : Sh 2 (mpD q) := sh_tup fun d hd => by
  simp only [List.mem_cons, List.not_mem_nil, or_false] at hd
  rcases hd with rfl | rfl
  · exact sh_int
  · exact sh_tup_nats
theorem pu_mpD {q : Mp} : (mpD q).pu = true := pu_tup fun d hd => by
  simp only [List.mem_cons, List.not_mem_nil, or_false] at hd
  rcases hd with rfl | rfl
  · rfl
  · exact pu_tup pu_nats
theorem numsD_tr (m : Nat) : tr (numsD m) := tr_tup fun d hd => by
  obtain ⟨k, _, rfl⟩ := List.mem_map.mp hd
  rfl
end K61

namespace K61
open PySem L2 DL
variable {fu n : Nat} {R S : Sto} {F : D → Sto → Prop} {E : Exc → Sto → Prop}
theorem gIs_non {F E} : wp (gIs .non .non S) F E ↔ F (.bl true) S := Iff.rfl
theorem gIs_tupn {ds : List D} {F E} : wp (gIs (.tup ds) .non S) F E ↔ F (.bl false) S := Iff.rfl
theorem gIs_strn {z : Str} {F E} : wp (gIs (.str z) .non S) F E ↔ F (.bl false) S := Iff.rfl
theorem gIsNot_tup {ds : List D} {F E} : wp (gIsNot (.tup ds) .non S) F E ↔ F (.bl true) S := Iff.rfl
theorem gIsNot_non {F E} : wp (gIsNot .non .non S) F E ↔ F (.bl false) S := Iff.rfl
theorem gMax2_nat {a b : Nat} {F E} : wp (gMax2 [.int a, .int b] S) F E ↔ F (.int (max a b : Nat)) S := by
  show F (.int (if (b : Int) > a then b else a)) S ↔ _
  by_cases h : (b : Int) > a
  · rw [if_pos h, show max a b = b by omega]
  · rw [if_neg h, show max a b = a by omega]
theorem parting_ok {N : Nat} {one two : List Mp} (h1 : RowS one) (h2 : RowS two) (hf : 1000 ≤ fu) (hN : 5 ≤ N) (hS : OKS S)
    (hF : F (if mapsM one = mapsM two then .non else numsD (max (wholeM one).1 (wholeM two).1)) S) : wp (den fu N i_parting [rowD one, rowD two] S) F E := by
  obtain ⟨N', rfl⟩ : ∃ N', N = N' + 1 := ⟨N - 1, by omega⟩
  show wp (runDef false 4 (b_parting fu (den fu N')) _ _) _ _
  simp only [b_parting, wp_ok, wp_ret, wp_stuck, wp_bad, wp_bnd, wp_if, wp_fif, wps_ok_nx, wps_ok_rt, wps_ok_bk, wps_ok_ct, wps_ok_xc, wps_bad, wps_lft, wps_seq, wps_nil, wps_ret, wps_expr, wps_asg, wps_if, wp_run, wps_for, wps_while, wp_comp, wp_var, wp_C, wp_bin, wp_un, wp_T, wp_Tb, wp_asBl, wp_truthBl, wp_bAnd, wp_bOr, wp_bNot, wp_eIf, wp_eAnd, wp_eOr, wp_eNot, blCase_bl, wp_chain, wp_aNil, wp_aCons, wp_tup, wp_lst, wp_lstM, wp_call, wp_cl1, wp_cl2, wp_cl3, wp_cl4, wp_cl5, wp_meth, wp_isi, wp_oNone, wp_oSome, wp_sl, wp_it, wp_range1, wp_range2, wp_bYes, gEq_str, gNe_str, gEq_int, gNe_int, gEq_bl, gNe_bl, gIs_bl, gIsNot_bl, gAdd_int, gSub_int, gC_int, gI_int, gAdd_str, gAdd_tup, gAdd_lst, gNeg_int, gIx_tup, gIx_lst, gLen_tup, gLen_lst, gLen_str, gInt_int, gInt_bl, gTuple_lst, gTuple_tup, gList_lst, gList_tup, gSl_tup, gSl_lst, gSl_fl, gSl_str, srcL_tup, srcL_lst, srcL_fl, srcL_str, srcR1_int, typN, startR, List.map_cons, List.map_nil, List.length_cons, List.length_nil, Nat.reduceAdd, Nat.reduceSub, Nat.zero_add, Nat.sub_self, Nat.sub_zero, List.replicate_zero, List.replicate_succ, List.cons_append, List.nil_append, List.append_nil, List.getElem?_cons_zero, List.getElem?_cons_succ, List.set_cons_zero, List.set_cons_succ, List.set_nil, List.getElem?_nil, Option.some.injEq, exists_eq_left', exists_eq_left, exists_eq_right, reduceCtorEq, false_and, and_false, true_and, and_true, exists_false, exists_const, wipeR, Nat.zero_le, String.reduceEq, D.int.injEq, D.str.injEq, D.bl.injEq, atI_0, atI_1, atI_2, atI_3, atI_4, beq_self_eq_true, not_true_eq_false, not_false_eq_true, Int.cast_ofNat_Int, Int.reduceEq, Int.reduceLE, Int.reduceLT, Int.reduceAdd, Int.reduceSub, Int.reduceMul, Int.reduceNeg, if_true, if_false, ite_true, ite_false, Bool.false_eq_true, if_neg, if_pos, decide_eq_true_eq, Bool.not_eq_true', decide_eq_false_iff_not, eq_self_iff_true, decide_true, decide_false, Bool.not_true, Bool.not_false, wps_raise, wps_try, wps_tryAs, tryCase_t, tryCase_f, tbl_hit, suiteOf_hit, wp_eDct, wp_eDGet, wp_eDNew, wp_eDDef, wps_dput, wps_augI, wps_asgTp, wps_asgUl, gUl2, gTp2, gTp3, gTp4, gTp5, gNs_cons, gN0_nil, wp_clN1, wp_clN2, wp_clN3, wp_slSt, gTupR_int, gLstR_int, gEndswith_str]
  refine need_of_ok h1 (by omega) hS ?_
  refine need_of_ok h2 (by omega) hS ?_
  simp only [gMax2_nat, wp_ok, wp_ret, wp_stuck, wp_bad, wp_bnd, wp_if, wp_fif, wps_ok_nx, wps_ok_rt, wps_ok_bk, wps_ok_ct, wps_ok_xc, wps_bad, wps_lft, wps_seq, wps_nil, wps_ret, wps_expr, wps_asg, wps_if, wp_run, wps_for, wps_while, wp_comp, wp_var, wp_C, wp_bin, wp_un, wp_T, wp_Tb, wp_asBl, wp_truthBl, wp_bAnd, wp_bOr, wp_bNot, wp_eIf, wp_eAnd, wp_eOr, wp_eNot, blCase_bl, wp_chain, wp_aNil, wp_aCons, wp_tup, wp_lst, wp_lstM, wp_call, wp_cl1, wp_cl2, wp_cl3, wp_cl4, wp_cl5, wp_meth, wp_isi, wp_oNone, wp_oSome, wp_sl, wp_it, wp_range1, wp_range2, wp_bYes, gEq_str, gNe_str, gEq_int, gNe_int, gEq_bl, gNe_bl, gIs_bl, gIsNot_bl, gAdd_int, gSub_int, gC_int, gI_int, gAdd_str, gAdd_tup, gAdd_lst, gNeg_int, gIx_tup, gIx_lst, gLen_tup, gLen_lst, gLen_str, gInt_int, gInt_bl, gTuple_lst, gTuple_tup, gList_lst, gList_tup, gSl_tup, gSl_lst, gSl_fl, gSl_str, srcL_tup, srcL_lst, srcL_fl, srcL_str, srcR1_int, typN, startR, List.map_cons, List.map_nil, List.length_cons, List.length_nil, Nat.reduceAdd, Nat.reduceSub, Nat.zero_add, Nat.sub_self, Nat.sub_zero, List.replicate_zero, List.replicate_succ, List.cons_append, List.nil_append, List.append_nil, List.getElem?_cons_zero, List.getElem?_cons_succ, List.set_cons_zero, List.set_cons_succ, List.set_nil, List.getElem?_nil, Option.some.injEq, exists_eq_left', exists_eq_left, exists_eq_right, reduceCtorEq, false_and, and_false, true_and, and_true, exists_false, exists_const, wipeR, Nat.zero_le, String.reduceEq, D.int.injEq, D.str.injEq, D.bl.injEq, atI_0, atI_1, atI_2, atI_3, atI_4, beq_self_eq_true, not_true_eq_false, not_false_eq_true, Int.cast_ofNat_Int, Int.reduceEq, Int.reduceLE, Int.reduceLT, Int.reduceAdd, Int.reduceSub, Int.reduceMul, Int.reduceNeg, if_true, if_false, ite_true, ite_false, Bool.false_eq_true, if_neg, if_pos, decide_eq_true_eq, Bool.not_eq_true', decide_eq_false_iff_not, eq_self_iff_true, decide_true, decide_false, Bool.not_true, Bool.not_false, wps_raise, wps_try, wps_tryAs, tryCase_t, tryCase_f, tbl_hit, suiteOf_hit, wp_eDct, wp_eDGet, wp_eDNew, wp_eDDef, wps_dput, wps_augI, wps_asgTp, wps_asgUl, gUl2, gTp2, gTp3, gTp4, gTp5, gNs_cons, gN0_nil, wp_clN1, wp_clN2, wp_clN3, wp_slSt, gTupR_int, gLstR_int, gEndswith_str]
  refine map_of_ok h1 hf (by omega) hS ?_
  refine map_of_ok h2 hf (by omega) hS ?_
  rw [gEq_pu sh_mpD sh_mpD (by decide) pu_mpD pu_mpD]
  simp only [mpD_inj, wp_ok, wp_ret, wp_stuck, wp_bad, wp_bnd, wp_if, wp_fif, wps_ok_nx, wps_ok_rt, wps_ok_bk, wps_ok_ct, wps_ok_xc, wps_bad, wps_lft, wps_seq, wps_nil, wps_ret, wps_expr, wps_asg, wps_if, wp_run, wps_for, wps_while, wp_comp, wp_var, wp_C, wp_bin, wp_un, wp_T, wp_Tb, wp_asBl, wp_truthBl, wp_bAnd, wp_bOr, wp_bNot, wp_eIf, wp_eAnd, wp_eOr, wp_eNot, blCase_bl, wp_chain, wp_aNil, wp_aCons, wp_tup, wp_lst, wp_lstM, wp_call, wp_cl1, wp_cl2, wp_cl3, wp_cl4, wp_cl5, wp_meth, wp_isi, wp_oNone, wp_oSome, wp_sl, wp_it, wp_range1, wp_range2, wp_bYes, gEq_str, gNe_str, gEq_int, gNe_int, gEq_bl, gNe_bl, gIs_bl, gIsNot_bl, gAdd_int, gSub_int, gC_int, gI_int, gAdd_str, gAdd_tup, gAdd_lst, gNeg_int, gIx_tup, gIx_lst, gLen_tup, gLen_lst, gLen_str, gInt_int, gInt_bl, gTuple_lst, gTuple_tup, gList_lst, gList_tup, gSl_tup, gSl_lst, gSl_fl, gSl_str, srcL_tup, srcL_lst, srcL_fl, srcL_str, srcR1_int, typN, startR, List.map_cons, List.map_nil, List.length_cons, List.length_nil, Nat.reduceAdd, Nat.reduceSub, Nat.zero_add, Nat.sub_self, Nat.sub_zero, List.replicate_zero, List.replicate_succ, List.cons_append, List.nil_append, List.append_nil, List.getElem?_cons_zero, List.getElem?_cons_succ, List.set_cons_zero, List.set_cons_succ, List.set_nil, List.getElem?_nil, Option.some.injEq, exists_eq_left', exists_eq_left, exists_eq_right, reduceCtorEq, false_and, and_false, true_and, and_true, exists_false, exists_const, wipeR, Nat.zero_le, String.reduceEq, D.int.injEq, D.str.injEq, D.bl.injEq, atI_0, atI_1, atI_2, atI_3, atI_4, beq_self_eq_true, not_true_eq_false, not_false_eq_true, Int.cast_ofNat_Int, Int.reduceEq, Int.reduceLE, Int.reduceLT, Int.reduceAdd, Int.reduceSub, Int.reduceMul, Int.reduceNeg, if_true, if_false, ite_true, ite_false, Bool.false_eq_true, if_neg, if_pos, decide_eq_true_eq, Bool.not_eq_true', decide_eq_false_iff_not, eq_self_iff_true, decide_true, decide_false, Bool.not_true, Bool.not_false, wps_raise, wps_try, wps_tryAs, tryCase_t, tryCase_f, tbl_hit, suiteOf_hit, wp_eDct, wp_eDGet, wp_eDNew, wp_eDDef, wps_dput, wps_augI, wps_asgTp, wps_asgUl, gUl2, gTp2, gTp3, gTp4, gTp5, gNs_cons, gN0_nil, wp_clN1, wp_clN2, wp_clN3, wp_slSt, gTupR_int, gLstR_int, gEndswith_str]
  have w1 := whole_n' h1
  have w2 := whole_n' h2
  show if mapsM one = mapsM two then _ else _
  by_cases he : mapsM one = mapsM two
  · rw [if_pos he] at hF ⊢
    exact (fin_trO hS rfl).mpr hF
  · rw [if_neg he] at hF ⊢
    rw [Int.toNat_natCast, rangeD_nats]
    refine ⟨by simp [bnd62]; omega, small_line (by rw [List.length_map, List.length_range]; omega), comp_one (fun k => .tup [.str "number", .int (k : Nat)]) (fun k hk F E hF => ?_) ?_⟩
    · simp only [wp_ok, wp_ret, wp_stuck, wp_bad, wp_bnd, wp_if, wp_fif, wps_ok_nx, wps_ok_rt, wps_ok_bk, wps_ok_ct, wps_ok_xc, wps_bad, wps_lft, wps_seq, wps_nil, wps_ret, wps_expr, wps_asg, wps_if, wp_run, wps_for, wps_while, wp_comp, wp_var, wp_C, wp_bin, wp_un, wp_T, wp_Tb, wp_asBl, wp_truthBl, wp_bAnd, wp_bOr, wp_bNot, wp_eIf, wp_eAnd, wp_eOr, wp_eNot, blCase_bl, wp_chain, wp_aNil, wp_aCons, wp_tup, wp_lst, wp_lstM, wp_call, wp_cl1, wp_cl2, wp_cl3, wp_cl4, wp_cl5, wp_meth, wp_isi, wp_oNone, wp_oSome, wp_sl, wp_it, wp_range1, wp_range2, wp_bYes, gEq_str, gNe_str, gEq_int, gNe_int, gEq_bl, gNe_bl, gIs_bl, gIsNot_bl, gAdd_int, gSub_int, gC_int, gI_int, gAdd_str, gAdd_tup, gAdd_lst, gNeg_int, gIx_tup, gIx_lst, gLen_tup, gLen_lst, gLen_str, gInt_int, gInt_bl, gTuple_lst, gTuple_tup, gList_lst, gList_tup, gSl_tup, gSl_lst, gSl_fl, gSl_str, srcL_tup, srcL_lst, srcL_fl, srcL_str, srcR1_int, typN, startR, List.map_cons, List.map_nil, List.length_cons, List.length_nil, Nat.reduceAdd, Nat.reduceSub, Nat.zero_add, Nat.sub_self, Nat.sub_zero, List.replicate_zero, List.replicate_succ, List.cons_append, List.nil_append, List.append_nil, List.getElem?_cons_zero, List.getElem?_cons_succ, List.set_cons_zero, List.set_cons_succ, List.set_nil, List.getElem?_nil, Option.some.injEq, exists_eq_left', exists_eq_left, exists_eq_right, reduceCtorEq, false_and, and_false, true_and, and_true, exists_false, exists_const, wipeR, Nat.zero_le, String.reduceEq, D.int.injEq, D.str.injEq, D.bl.injEq, atI_0, atI_1, atI_2, atI_3, atI_4, beq_self_eq_true, not_true_eq_false, not_false_eq_true, Int.cast_ofNat_Int, Int.reduceEq, Int.reduceLE, Int.reduceLT, Int.reduceAdd, Int.reduceSub, Int.reduceMul, Int.reduceNeg, if_true, if_false, ite_true, ite_false, Bool.false_eq_true, if_neg, if_pos, decide_eq_true_eq, Bool.not_eq_true', decide_eq_false_iff_not, eq_self_iff_true, decide_true, decide_false, Bool.not_true, Bool.not_false, wps_raise, wps_try, wps_tryAs, tryCase_t, tryCase_f, tbl_hit, suiteOf_hit, wp_eDct, wp_eDGet, wp_eDNew, wp_eDDef, wps_dput, wps_augI, wps_asgTp, wps_asgUl, gUl2, gTp2, gTp3, gTp4, gTp5, gNs_cons, gN0_nil, wp_clN1, wp_clN2, wp_clN3, wp_slSt, gTupR_int, gLstR_int, gEndswith_str]
      exact ⟨small_line (by decide), hF⟩
    · exact (fin_trO hS (numsD_tr _)).mpr hF
theorem are_sh_ok {N : Nat} {row : List Mp} (h : RowS row) (hN : 2 ≤ N) (hS : OKS S) (hF : F (.bl true) S) : wp (den fu N i_are_shuffles_alike [rowD row] S) F E := by
  obtain ⟨N', rfl⟩ : ∃ N', N = N' + 1 := ⟨N - 1, by omega⟩
  show wp (runDef false 2 (b_are_shuffles_alike fu (den fu N')) _ _) _ _
  have := h.1
  simp only [b_are_shuffles_alike, rowD, wp_ok, wp_ret, wp_stuck, wp_bad, wp_bnd, wp_if, wp_fif, wps_ok_nx, wps_ok_rt, wps_ok_bk, wps_ok_ct, wps_ok_xc, wps_bad, wps_lft, wps_seq, wps_nil, wps_ret, wps_expr, wps_asg, wps_if, wp_run, wps_for, wps_while, wp_comp, wp_var, wp_C, wp_bin, wp_un, wp_T, wp_Tb, wp_asBl, wp_truthBl, wp_bAnd, wp_bOr, wp_bNot, wp_eIf, wp_eAnd, wp_eOr, wp_eNot, blCase_bl, wp_chain, wp_aNil, wp_aCons, wp_tup, wp_lst, wp_lstM, wp_call, wp_cl1, wp_cl2, wp_cl3, wp_cl4, wp_cl5, wp_meth, wp_isi, wp_oNone, wp_oSome, wp_sl, wp_it, wp_range1, wp_range2, wp_bYes, gEq_str, gNe_str, gEq_int, gNe_int, gEq_bl, gNe_bl, gIs_bl, gIsNot_bl, gAdd_int, gSub_int, gC_int, gI_int, gAdd_str, gAdd_tup, gAdd_lst, gNeg_int, gIx_tup, gIx_lst, gLen_tup, gLen_lst, gLen_str, gInt_int, gInt_bl, gTuple_lst, gTuple_tup, gList_lst, gList_tup, gSl_tup, gSl_lst, gSl_fl, gSl_str, srcL_tup, srcL_lst, srcL_fl, srcL_str, srcR1_int, typN, startR, List.map_cons, List.map_nil, List.length_cons, List.length_nil, Nat.reduceAdd, Nat.reduceSub, Nat.zero_add, Nat.sub_self, Nat.sub_zero, List.replicate_zero, List.replicate_succ, List.cons_append, List.nil_append, List.append_nil, List.getElem?_cons_zero, List.getElem?_cons_succ, List.set_cons_zero, List.set_cons_succ, List.set_nil, List.getElem?_nil, Option.some.injEq, exists_eq_left', exists_eq_left, exists_eq_right, reduceCtorEq, false_and, and_false, true_and, and_true, exists_false, exists_const, wipeR, Nat.zero_le, String.reduceEq, D.int.injEq, D.str.injEq, D.bl.injEq, atI_0, atI_1, atI_2, atI_3, atI_4, beq_self_eq_true, not_true_eq_false, not_false_eq_true, Int.cast_ofNat_Int, Int.reduceEq, Int.reduceLE, Int.reduceLT, Int.reduceAdd, Int.reduceSub, Int.reduceMul, Int.reduceNeg, if_true, if_false, ite_true, ite_false, Bool.false_eq_true, if_neg, if_pos, decide_eq_true_eq, Bool.not_eq_true', decide_eq_false_iff_not, eq_self_iff_true, decide_true, decide_false, Bool.not_true, Bool.not_false, wps_raise, wps_try, wps_tryAs, tryCase_t, tryCase_f, tbl_hit, suiteOf_hit, wp_eDct, wp_eDGet, wp_eDNew, wp_eDDef, wps_dput, wps_augI, wps_asgTp, wps_asgUl, gUl2, gTp2, gTp3, gTp4, gTp5, gNs_cons, gN0_nil, wp_clN1, wp_clN2, wp_clN3, wp_slSt, gTupR_int, gLstR_int, gEndswith_str]
  refine ⟨small_line (by rw [List.length_map]; omega), comp_one (fun _ => D.bl true) (fun w hw F E hF => ?_) ?_⟩
  · simp only [wdD, wp_ok, wp_ret, wp_stuck, wp_bad, wp_bnd, wp_if, wp_fif, wps_ok_nx, wps_ok_rt, wps_ok_bk, wps_ok_ct, wps_ok_xc, wps_bad, wps_lft, wps_seq, wps_nil, wps_ret, wps_expr, wps_asg, wps_if, wp_run, wps_for, wps_while, wp_comp, wp_var, wp_C, wp_bin, wp_un, wp_T, wp_Tb, wp_asBl, wp_truthBl, wp_bAnd, wp_bOr, wp_bNot, wp_eIf, wp_eAnd, wp_eOr, wp_eNot, blCase_bl, wp_chain, wp_aNil, wp_aCons, wp_tup, wp_lst, wp_lstM, wp_call, wp_cl1, wp_cl2, wp_cl3, wp_cl4, wp_cl5, wp_meth, wp_isi, wp_oNone, wp_oSome, wp_sl, wp_it, wp_range1, wp_range2, wp_bYes, gEq_str, gNe_str, gEq_int, gNe_int, gEq_bl, gNe_bl, gIs_bl, gIsNot_bl, gAdd_int, gSub_int, gC_int, gI_int, gAdd_str, gAdd_tup, gAdd_lst, gNeg_int, gIx_tup, gIx_lst, gLen_tup, gLen_lst, gLen_str, gInt_int, gInt_bl, gTuple_lst, gTuple_tup, gList_lst, gList_tup, gSl_tup, gSl_lst, gSl_fl, gSl_str, srcL_tup, srcL_lst, srcL_fl, srcL_str, srcR1_int, typN, startR, List.map_cons, List.map_nil, List.length_cons, List.length_nil, Nat.reduceAdd, Nat.reduceSub, Nat.zero_add, Nat.sub_self, Nat.sub_zero, List.replicate_zero, List.replicate_succ, List.cons_append, List.nil_append, List.append_nil, List.getElem?_cons_zero, List.getElem?_cons_succ, List.set_cons_zero, List.set_cons_succ, List.set_nil, List.getElem?_nil, Option.some.injEq, exists_eq_left', exists_eq_left, exists_eq_right, reduceCtorEq, false_and, and_false, true_and, and_true, exists_false, exists_const, wipeR, Nat.zero_le, String.reduceEq, D.int.injEq, D.str.injEq, D.bl.injEq, atI_0, atI_1, atI_2, atI_3, atI_4, beq_self_eq_true, not_true_eq_false, not_false_eq_true, Int.cast_ofNat_Int, Int.reduceEq, Int.reduceLE, Int.reduceLT, Int.reduceAdd, Int.reduceSub, Int.reduceMul, Int.reduceNeg, if_true, if_false, ite_true, ite_false, Bool.false_eq_true, if_neg, if_pos, decide_eq_true_eq, Bool.not_eq_true', decide_eq_false_iff_not, eq_self_iff_true, decide_true, decide_false, Bool.not_true, Bool.not_false, wps_raise, wps_try, wps_tryAs, tryCase_t, tryCase_f, tbl_hit, suiteOf_hit, wp_eDct, wp_eDGet, wp_eDNew, wp_eDDef, wps_dput, wps_augI, wps_asgTp, wps_asgUl, gUl2, gTp2, gTp3, gTp4, gTp5, gNs_cons, gN0_nil, wp_clN1, wp_clN2, wp_clN3, wp_slSt, gTupR_int, gLstR_int, gEndswith_str]
    exact isSh_ok (h.2 w hw) (by omega) hS hF
  · rw [show row.map (fun _ => D.bl true) = (row.map fun _ => true).map D.bl by rw [List.map_map]; rfl, gAll_bls]
    rw [show (row.map fun _ => true).all id = true by simp]
    exact (fin_blO hS).mpr hF
def turnD (m : Nat) (two : List Mp) : D := .tup [.tup [.int 0], .int m, .str "mapped", rowD two]
def toldD (one two : List Mp) : D := if mapsM one = mapsM two then .tup [.str "alike", .tup [turnD one.length two]] else .tup [.str "parted", numsD (max (wholeM one).1 (wholeM two).1)]
theorem rowD_tr (row : List Mp) : tr (rowD row) := tr_tup fun d hd => by
  obtain ⟨k, _, rfl⟩ := List.mem_map.mp hd
  rfl
theorem turnD_tr (m : Nat) (two : List Mp) : tr (turnD m two) := tr_tup fun d hd => by
  simp only [List.mem_cons, List.not_mem_nil, or_false] at hd
  rcases hd with rfl | rfl | rfl | rfl
  · rfl
  · rfl
  · rfl
  · exact rowD_tr _
theorem toldD_tr (one two : List Mp) : tr (toldD one two) := by
  unfold toldD
  split
  · refine tr_tup fun d hd => ?_
    simp only [List.mem_cons, List.not_mem_nil, or_false] at hd
    rcases hd with rfl | rfl
    · rfl
    · exact tr_tup fun d hd => by rw [List.mem_singleton.mp hd]; exact turnD_tr _ _
  · refine tr_tup fun d hd => ?_
    simp only [List.mem_cons, List.not_mem_nil, or_false] at hd
    rcases hd with rfl | rfl
    · rfl
    · exact numsD_tr _
theorem of_sh_ok {N : Nat} {one two : List Mp} (h1 : RowS one) (h2 : RowS two) (hf : 1000 ≤ fu) (hN : 6 ≤ N) (hS : OKS S) (hF : F (toldD one two) S) : wp (den fu N i_of_shuffles [rowD one, rowD two] S) F E := by
  obtain ⟨N', rfl⟩ : ∃ N', N = N' + 1 := ⟨N - 1, by omega⟩
  show wp (runDef false 3 (b_of_shuffles fu (den fu N')) _ _) _ _
  have tt := toldD_tr one two
  simp only [b_of_shuffles, wp_ok, wp_ret, wp_stuck, wp_bad, wp_bnd, wp_if, wp_fif, wps_ok_nx, wps_ok_rt, wps_ok_bk, wps_ok_ct, wps_ok_xc, wps_bad, wps_lft, wps_seq, wps_nil, wps_ret, wps_expr, wps_asg, wps_if, wp_run, wps_for, wps_while, wp_comp, wp_var, wp_C, wp_bin, wp_un, wp_T, wp_Tb, wp_asBl, wp_truthBl, wp_bAnd, wp_bOr, wp_bNot, wp_eIf, wp_eAnd, wp_eOr, wp_eNot, blCase_bl, wp_chain, wp_aNil, wp_aCons, wp_tup, wp_lst, wp_lstM, wp_call, wp_cl1, wp_cl2, wp_cl3, wp_cl4, wp_cl5, wp_meth, wp_isi, wp_oNone, wp_oSome, wp_sl, wp_it, wp_range1, wp_range2, wp_bYes, gEq_str, gNe_str, gEq_int, gNe_int, gEq_bl, gNe_bl, gIs_bl, gIsNot_bl, gAdd_int, gSub_int, gC_int, gI_int, gAdd_str, gAdd_tup, gAdd_lst, gNeg_int, gIx_tup, gIx_lst, gLen_tup, gLen_lst, gLen_str, gInt_int, gInt_bl, gTuple_lst, gTuple_tup, gList_lst, gList_tup, gSl_tup, gSl_lst, gSl_fl, gSl_str, srcL_tup, srcL_lst, srcL_fl, srcL_str, srcR1_int, typN, startR, List.map_cons, List.map_nil, List.length_cons, List.length_nil, Nat.reduceAdd, Nat.reduceSub, Nat.zero_add, Nat.sub_self, Nat.sub_zero, List.replicate_zero, List.replicate_succ, List.cons_append, List.nil_append, List.append_nil, List.getElem?_cons_zero, List.getElem?_cons_succ, List.set_cons_zero, List.set_cons_succ, List.set_nil, List.getElem?_nil, Option.some.injEq, exists_eq_left', exists_eq_left, exists_eq_right, reduceCtorEq, false_and, and_false, true_and, and_true, exists_false, exists_const, wipeR, Nat.zero_le, String.reduceEq, D.int.injEq, D.str.injEq, D.bl.injEq, atI_0, atI_1, atI_2, atI_3, atI_4, beq_self_eq_true, not_true_eq_false, not_false_eq_true, Int.cast_ofNat_Int, Int.reduceEq, Int.reduceLE, Int.reduceLT, Int.reduceAdd, Int.reduceSub, Int.reduceMul, Int.reduceNeg, if_true, if_false, ite_true, ite_false, Bool.false_eq_true, if_neg, if_pos, decide_eq_true_eq, Bool.not_eq_true', decide_eq_false_iff_not, eq_self_iff_true, decide_true, decide_false, Bool.not_true, Bool.not_false, wps_raise, wps_try, wps_tryAs, tryCase_t, tryCase_f, tbl_hit, suiteOf_hit, wp_eDct, wp_eDGet, wp_eDNew, wp_eDDef, wps_dput, wps_augI, wps_asgTp, wps_asgUl, gUl2, gTp2, gTp3, gTp4, gTp5, gNs_cons, gN0_nil, wp_clN1, wp_clN2, wp_clN3, wp_slSt, gTupR_int, gLstR_int, gEndswith_str]
  refine parting_ok h1 h2 hf (by omega) hS ?_
  unfold toldD at hF tt
  by_cases he : mapsM one = mapsM two
  · rw [if_pos he] at hF tt ⊢
    simp only [gIsNot_non, rowD, wp_ok, wp_ret, wp_stuck, wp_bad, wp_bnd, wp_if, wp_fif, wps_ok_nx, wps_ok_rt, wps_ok_bk, wps_ok_ct, wps_ok_xc, wps_bad, wps_lft, wps_seq, wps_nil, wps_ret, wps_expr, wps_asg, wps_if, wp_run, wps_for, wps_while, wp_comp, wp_var, wp_C, wp_bin, wp_un, wp_T, wp_Tb, wp_asBl, wp_truthBl, wp_bAnd, wp_bOr, wp_bNot, wp_eIf, wp_eAnd, wp_eOr, wp_eNot, blCase_bl, wp_chain, wp_aNil, wp_aCons, wp_tup, wp_lst, wp_lstM, wp_call, wp_cl1, wp_cl2, wp_cl3, wp_cl4, wp_cl5, wp_meth, wp_isi, wp_oNone, wp_oSome, wp_sl, wp_it, wp_range1, wp_range2, wp_bYes, gEq_str, gNe_str, gEq_int, gNe_int, gEq_bl, gNe_bl, gIs_bl, gIsNot_bl, gAdd_int, gSub_int, gC_int, gI_int, gAdd_str, gAdd_tup, gAdd_lst, gNeg_int, gIx_tup, gIx_lst, gLen_tup, gLen_lst, gLen_str, gInt_int, gInt_bl, gTuple_lst, gTuple_tup, gList_lst, gList_tup, gSl_tup, gSl_lst, gSl_fl, gSl_str, srcL_tup, srcL_lst, srcL_fl, srcL_str, srcR1_int, typN, startR, List.map_cons, List.map_nil, List.length_cons, List.length_nil, Nat.reduceAdd, Nat.reduceSub, Nat.zero_add, Nat.sub_self, Nat.sub_zero, List.replicate_zero, List.replicate_succ, List.cons_append, List.nil_append, List.append_nil, List.getElem?_cons_zero, List.getElem?_cons_succ, List.set_cons_zero, List.set_cons_succ, List.set_nil, List.getElem?_nil, Option.some.injEq, exists_eq_left', exists_eq_left, exists_eq_right, reduceCtorEq, false_and, and_false, true_and, and_true, exists_false, exists_const, wipeR, Nat.zero_le, String.reduceEq, D.int.injEq, D.str.injEq, D.bl.injEq, atI_0, atI_1, atI_2, atI_3, atI_4, beq_self_eq_true, not_true_eq_false, not_false_eq_true, Int.cast_ofNat_Int, Int.reduceEq, Int.reduceLE, Int.reduceLT, Int.reduceAdd, Int.reduceSub, Int.reduceMul, Int.reduceNeg, if_true, if_false, ite_true, ite_false, Bool.false_eq_true, if_neg, if_pos, decide_eq_true_eq, Bool.not_eq_true', decide_eq_false_iff_not, eq_self_iff_true, decide_true, decide_false, Bool.not_true, Bool.not_false, wps_raise, wps_try, wps_tryAs, tryCase_t, tryCase_f, tbl_hit, suiteOf_hit, wp_eDct, wp_eDGet, wp_eDNew, wp_eDDef, wps_dput, wps_augI, wps_asgTp, wps_asgUl, gUl2, gTp2, gTp3, gTp4, gTp5, gNs_cons, gN0_nil, wp_clN1, wp_clN2, wp_clN3, wp_slSt, gTupR_int, gLstR_int, gEndswith_str]
    rw [List.length_map]
    exact ⟨small_line (by decide), small_line (by decide), small_line (by decide), small_line (by decide), (fin_trO hS tt).mpr hF⟩
  · rw [if_neg he] at hF tt ⊢
    simp only [numsD, gIsNot_tup, wp_ok, wp_ret, wp_stuck, wp_bad, wp_bnd, wp_if, wp_fif, wps_ok_nx, wps_ok_rt, wps_ok_bk, wps_ok_ct, wps_ok_xc, wps_bad, wps_lft, wps_seq, wps_nil, wps_ret, wps_expr, wps_asg, wps_if, wp_run, wps_for, wps_while, wp_comp, wp_var, wp_C, wp_bin, wp_un, wp_T, wp_Tb, wp_asBl, wp_truthBl, wp_bAnd, wp_bOr, wp_bNot, wp_eIf, wp_eAnd, wp_eOr, wp_eNot, blCase_bl, wp_chain, wp_aNil, wp_aCons, wp_tup, wp_lst, wp_lstM, wp_call, wp_cl1, wp_cl2, wp_cl3, wp_cl4, wp_cl5, wp_meth, wp_isi, wp_oNone, wp_oSome, wp_sl, wp_it, wp_range1, wp_range2, wp_bYes, gEq_str, gNe_str, gEq_int, gNe_int, gEq_bl, gNe_bl, gIs_bl, gIsNot_bl, gAdd_int, gSub_int, gC_int, gI_int, gAdd_str, gAdd_tup, gAdd_lst, gNeg_int, gIx_tup, gIx_lst, gLen_tup, gLen_lst, gLen_str, gInt_int, gInt_bl, gTuple_lst, gTuple_tup, gList_lst, gList_tup, gSl_tup, gSl_lst, gSl_fl, gSl_str, srcL_tup, srcL_lst, srcL_fl, srcL_str, srcR1_int, typN, startR, List.map_cons, List.map_nil, List.length_cons, List.length_nil, Nat.reduceAdd, Nat.reduceSub, Nat.zero_add, Nat.sub_self, Nat.sub_zero, List.replicate_zero, List.replicate_succ, List.cons_append, List.nil_append, List.append_nil, List.getElem?_cons_zero, List.getElem?_cons_succ, List.set_cons_zero, List.set_cons_succ, List.set_nil, List.getElem?_nil, Option.some.injEq, exists_eq_left', exists_eq_left, exists_eq_right, reduceCtorEq, false_and, and_false, true_and, and_true, exists_false, exists_const, wipeR, Nat.zero_le, String.reduceEq, D.int.injEq, D.str.injEq, D.bl.injEq, atI_0, atI_1, atI_2, atI_3, atI_4, beq_self_eq_true, not_true_eq_false, not_false_eq_true, Int.cast_ofNat_Int, Int.reduceEq, Int.reduceLE, Int.reduceLT, Int.reduceAdd, Int.reduceSub, Int.reduceMul, Int.reduceNeg, if_true, if_false, ite_true, ite_false, Bool.false_eq_true, if_neg, if_pos, decide_eq_true_eq, Bool.not_eq_true', decide_eq_false_iff_not, eq_self_iff_true, decide_true, decide_false, Bool.not_true, Bool.not_false, wps_raise, wps_try, wps_tryAs, tryCase_t, tryCase_f, tbl_hit, suiteOf_hit, wp_eDct, wp_eDGet, wp_eDNew, wp_eDDef, wps_dput, wps_augI, wps_asgTp, wps_asgUl, gUl2, gTp2, gTp3, gTp4, gTp5, gNs_cons, gN0_nil, wp_clN1, wp_clN2, wp_clN3, wp_slSt, gTupR_int, gLstR_int, gEndswith_str]
    exact ⟨small_line (by decide), (fin_trO hS tt).mpr hF⟩
theorem alike_ok {N : Nat} {one two : List Mp} (h1 : RowS one) (h2 : RowS two) (hf : 1000 ≤ fu) (hN : 7 ≤ N) (hS : OKS S) (hF : F (toldD one two) S) : wp (den fu N i_alike [rowD one, rowD two, .non] S) F E := by
  obtain ⟨N', rfl⟩ : ∃ N', N = N' + 1 := ⟨N - 1, by omega⟩
  rw [show den fu (N' + 1) i_alike = runDef false 8 (b_alike fu (den fu N')) from rfl]
  have hsaid : ∀ {F E}, F (.tup []) S → wp (den fu N' i_said [.non] S) F E := fun {F E} hF => by
    obtain ⟨N'', rfl⟩ : ∃ N'', N' = N'' + 1 := ⟨N' - 1, by omega⟩
    rw [show den fu (N'' + 1) i_said = runDef false 1 (b_said fu (den fu N'')) from rfl]
    simp only [b_said, gIs_non, wp_ok, wp_ret, wp_stuck, wp_bad, wp_bnd, wp_if, wp_fif, wps_ok_nx, wps_ok_rt, wps_ok_bk, wps_ok_ct, wps_ok_xc, wps_bad, wps_lft, wps_seq, wps_nil, wps_ret, wps_expr, wps_asg, wps_if, wp_run, wps_for, wps_while, wp_comp, wp_var, wp_C, wp_bin, wp_un, wp_T, wp_Tb, wp_asBl, wp_truthBl, wp_bAnd, wp_bOr, wp_bNot, wp_eIf, wp_eAnd, wp_eOr, wp_eNot, blCase_bl, wp_chain, wp_aNil, wp_aCons, wp_tup, wp_lst, wp_lstM, wp_call, wp_cl1, wp_cl2, wp_cl3, wp_cl4, wp_cl5, wp_meth, wp_isi, wp_oNone, wp_oSome, wp_sl, wp_it, wp_range1, wp_range2, wp_bYes, gEq_str, gNe_str, gEq_int, gNe_int, gEq_bl, gNe_bl, gIs_bl, gIsNot_bl, gAdd_int, gSub_int, gC_int, gI_int, gAdd_str, gAdd_tup, gAdd_lst, gNeg_int, gIx_tup, gIx_lst, gLen_tup, gLen_lst, gLen_str, gInt_int, gInt_bl, gTuple_lst, gTuple_tup, gList_lst, gList_tup, gSl_tup, gSl_lst, gSl_fl, gSl_str, srcL_tup, srcL_lst, srcL_fl, srcL_str, srcR1_int, typN, startR, List.map_cons, List.map_nil, List.length_cons, List.length_nil, Nat.reduceAdd, Nat.reduceSub, Nat.zero_add, Nat.sub_self, Nat.sub_zero, List.replicate_zero, List.replicate_succ, List.cons_append, List.nil_append, List.append_nil, List.getElem?_cons_zero, List.getElem?_cons_succ, List.set_cons_zero, List.set_cons_succ, List.set_nil, List.getElem?_nil, Option.some.injEq, exists_eq_left', exists_eq_left, exists_eq_right, reduceCtorEq, false_and, and_false, true_and, and_true, exists_false, exists_const, wipeR, Nat.zero_le, String.reduceEq, D.int.injEq, D.str.injEq, D.bl.injEq, atI_0, atI_1, atI_2, atI_3, atI_4, beq_self_eq_true, not_true_eq_false, not_false_eq_true, Int.cast_ofNat_Int, Int.reduceEq, Int.reduceLE, Int.reduceLT, Int.reduceAdd, Int.reduceSub, Int.reduceMul, Int.reduceNeg, if_true, if_false, ite_true, ite_false, Bool.false_eq_true, if_neg, if_pos, decide_eq_true_eq, Bool.not_eq_true', decide_eq_false_iff_not, eq_self_iff_true, decide_true, decide_false, Bool.not_true, Bool.not_false, wps_raise, wps_try, wps_tryAs, tryCase_t, tryCase_f, tbl_hit, suiteOf_hit, wp_eDct, wp_eDGet, wp_eDNew, wp_eDDef, wps_dput, wps_augI, wps_asgTp, wps_asgUl, gUl2, gTp2, gTp3, gTp4, gTp5, gNs_cons, gN0_nil, wp_clN1, wp_clN2, wp_clN3, wp_slSt, gTupR_int, gLstR_int, gEndswith_str]
    exact (fin_trO hS rfl).mpr hF
  rw [wp_run]
  unfold b_alike
  rw [wps_seq]
  simp only [wps_asg, wp_call, wp_aCons, wp_aNil, wp_var, startR, List.map_cons, List.map_nil, List.length_cons, List.length_nil, Nat.reduceAdd, Nat.reduceSub, Nat.zero_add, Nat.sub_self, Nat.sub_zero, List.replicate_zero, List.replicate_succ, List.cons_append, List.nil_append, List.append_nil, List.getElem?_cons_zero, List.getElem?_cons_succ, List.set_cons_zero, List.set_cons_succ, List.set_nil, List.getElem?_nil, Option.some.injEq, exists_eq_left', exists_eq_left, exists_eq_right, reduceCtorEq, false_and, and_false, true_and, and_true, exists_false, exists_const, wipeR, wp_cl1]
  refine hsaid ?_
  rw [wps_seq]
  simp only [wps_if, wp_bAnd, wp_T, wp_call, wp_aCons, wp_aNil, wp_var, startR, List.map_cons, List.map_nil, List.length_cons, List.length_nil, Nat.reduceAdd, Nat.reduceSub, Nat.zero_add, Nat.sub_self, Nat.sub_zero, List.replicate_zero, List.replicate_succ, List.cons_append, List.nil_append, List.append_nil, List.getElem?_cons_zero, List.getElem?_cons_succ, List.set_cons_zero, List.set_cons_succ, List.set_nil, List.getElem?_nil, Option.some.injEq, exists_eq_left', exists_eq_left, exists_eq_right, reduceCtorEq, false_and, and_false, true_and, and_true, exists_false, exists_const, wipeR, wp_cl1]
  refine are_sh_ok h1 (by omega) hS ?_
  simp only [wp_truthBl, if_true]
  refine are_sh_ok h2 (by omega) hS ?_
  simp only [wp_truthBl, if_true, wps_ret, wp_call, wp_aCons, wp_aNil, wp_var, startR, List.map_cons, List.map_nil, List.length_cons, List.length_nil, Nat.reduceAdd, Nat.reduceSub, Nat.zero_add, Nat.sub_self, Nat.sub_zero, List.replicate_zero, List.replicate_succ, List.cons_append, List.nil_append, List.append_nil, List.getElem?_cons_zero, List.getElem?_cons_succ, List.set_cons_zero, List.set_cons_succ, List.set_nil, List.getElem?_nil, Option.some.injEq, exists_eq_left', exists_eq_left, exists_eq_right, reduceCtorEq, false_and, and_false, true_and, and_true, exists_false, exists_const, wipeR, wp_cl2]
  refine of_sh_ok h1 h2 hf (by omega) hS ?_
  exact (fin_trO hS (toldD_tr _ _)).mpr hF
end K61

namespace K61
open PySem L2 DL
variable {fu n : Nat} {R S : Sto} {F : D → Sto → Prop} {E : Exc → Sto → Prop}
/-! the law's map -/
def extM (j : Nat) (q : Mp) : Mp := (q.1 + j, List.range j ++ q.2.map (· + j))
theorem mapW_ext (q w : Mp) : mapW q w = ((extM (w.1 - q.2.length) q).1, (extM (w.1 - q.2.length) q).2.take ((extM (w.1 - q.2.length) q).2.length - w.1) ++ w.2.map fun k => (extM (w.1 - q.2.length) q).2.getD ((extM (w.1 - q.2.length) q).2.length - w.1 + k) 0) := rfl
def stkI (q : Mp) : List Int := q.2.map fun (p : Nat) => (p : Int) - (q.1 : Nat)
abbrev stkD (q : Mp) : List D := (stkI q).map D.int
theorem ext_0 (q : Mp) : extM 0 q = q := by
  obtain ⟨a, b⟩ := q
  unfold extM; simp
theorem ext_len (j : Nat) (q : Mp) : (extM j q).2.length = j + q.2.length := by unfold extM; simp
theorem stk_len (q : Mp) : (stkD q).length = q.2.length := by simp [stkI]
theorem stk_ext (j : Nat) (q : Mp) : stkI (extM (j + 1) q) = (0 - ((q.1 + j + 1 : Nat) : Int)) :: stkI (extM j q) := by
  unfold stkI extM
  simp only [List.range_succ_eq_map, List.cons_append, List.map_cons, List.map_append, List.map_map]
  refine congr (congrArg List.cons (by omega)) (congr (congrArg _ ?_) ?_)
  · refine List.map_congr_left fun a _ => ?_
    simp only [Function.comp]; omega
  · refine List.map_congr_left fun a _ => ?_
    simp only [Function.comp]; omega
def Wf (q : Mp) : Prop := ∀ p ∈ q.2, p < q.1
theorem ext_wf {q : Mp} (h : Wf q) (j : Nat) : Wf (extM j q) := by
  intro p hp
  unfold extM at hp ⊢
  simp only [List.mem_append, List.mem_range, List.mem_map] at hp ⊢
  rcases hp with hp | ⟨a, ha, rfl⟩
  · omega
  · have := h a ha; omega
theorem mapW_wf {q w : Mp} (h : Wf q) (hw : ShO w.1 w.2) : Wf (mapW q w) := by
  rw [mapW_ext]
  have hl := ext_len (w.1 - q.2.length) q
  have he := ext_wf h (w.1 - q.2.length)
  generalize hq : extM (w.1 - q.2.length) q = e at hl he
  intro p hp
  simp only [List.mem_append, List.mem_map] at hp
  rcases hp with hp | ⟨k, hk, rfl⟩
  · exact he p (List.mem_of_mem_take hp)
  · have hkt := hw.2.2 k hk
    have hlt : e.2.length - w.1 + k < e.2.length := by omega
    rw [List.getD_eq_getElem?_getD, List.getElem?_eq_getElem hlt]
    exact he _ (List.getElem_mem hlt)
theorem whole_wf {row : List Mp} (h : RowO row) : Wf (wholeM row) := by
  have : ∀ (row : List Mp) (q : Mp), RowO row → Wf q → Wf (row.foldl mapW q) := by
    intro row
    induction row with
    | nil => intro q _ h; exact h
    | cons w row ih => intro q hr h; exact ih _ hr.tail (mapW_wf h (hr w (List.mem_cons_self ..)))
  exact this row _ h (fun p hp => (List.not_mem_nil hp).elim)
def lmpD (q : Mp) : D := .tup [.int q.1, .lst (nats q.2)]
theorem lmpD_tr (q : Mp) : tr (lmpD q) := tr_tup fun d hd => by
  simp only [List.mem_cons, List.not_mem_nil, or_false] at hd
  rcases hd with rfl | rfl
  · rfl
  · exact nats_tr q.2
theorem ints_lo (l : List Int) : (MO.lst (l.map D.int)).lo 0 = true := los_map (fun _ => rfl) l
theorem getD_drop {l : List Nat} {a k : Nat} : (l.drop a).getD k 0 = l.getD (a + k) 0 := by
  rw [List.getD_eq_getElem?_getD, List.getD_eq_getElem?_getD, List.getElem?_drop]
def Wk (T : Sto) : Prop := ∀ o ∈ T, o.lo 0 = true
theorem lmap_ok {N : Nat} {row : List Mp} (h : RowS row) (hf : 1000 ≤ fu) (hN : 2 ≤ N) (hS : OKS S) (hF : F (lmpD (mapsM row)) S) : wp (den fu N i_l_map [rowD row] S) F E := by
  obtain ⟨N', rfl⟩ : ∃ N', N = N' + 1 := ⟨N - 1, by omega⟩
  rw [show den fu (N' + 1) i_l_map = runDef false 9 (b_l_map fu (den fu N')) from rfl]
  simp only [b_l_map, rowD, wp_ok, wp_ret, wp_stuck, wp_bad, wp_bnd, wp_if, wp_fif, wps_ok_nx, wps_ok_rt, wps_ok_bk, wps_ok_ct, wps_ok_xc, wps_bad, wps_lft, wps_seq, wps_nil, wps_ret, wps_expr, wps_asg, wps_if, wp_run, wps_for, wps_while, wp_comp, wp_var, wp_C, wp_bin, wp_un, wp_T, wp_Tb, wp_asBl, wp_truthBl, wp_bAnd, wp_bOr, wp_bNot, wp_eIf, wp_eAnd, wp_eOr, wp_eNot, blCase_bl, wp_chain, wp_aNil, wp_aCons, wp_tup, wp_lst, wp_lstM, wp_call, wp_cl1, wp_cl2, wp_cl3, wp_cl4, wp_cl5, wp_meth, wp_isi, wp_oNone, wp_oSome, wp_sl, wp_it, wp_range1, wp_range2, wp_bYes, gEq_str, gNe_str, gEq_int, gNe_int, gEq_bl, gNe_bl, gIs_bl, gIsNot_bl, gAdd_int, gSub_int, gC_int, gI_int, gAdd_str, gAdd_tup, gAdd_lst, gNeg_int, gIx_tup, gIx_lst, gLen_tup, gLen_lst, gLen_str, gInt_int, gInt_bl, gTuple_lst, gTuple_tup, gList_lst, gList_tup, gSl_tup, gSl_lst, gSl_fl, gSl_str, srcL_tup, srcL_lst, srcL_fl, srcL_str, srcR1_int, typN, startR, List.map_cons, List.map_nil, List.length_cons, List.length_nil, Nat.reduceAdd, Nat.reduceSub, Nat.zero_add, Nat.sub_self, Nat.sub_zero, List.replicate_zero, List.replicate_succ, List.cons_append, List.nil_append, List.append_nil, List.getElem?_cons_zero, List.getElem?_cons_succ, List.set_cons_zero, List.set_cons_succ, List.set_nil, List.getElem?_nil, Option.some.injEq, exists_eq_left', exists_eq_left, exists_eq_right, reduceCtorEq, false_and, and_false, true_and, and_true, exists_false, exists_const, wipeR, Nat.zero_le, String.reduceEq, D.int.injEq, D.str.injEq, D.bl.injEq, atI_0, atI_1, atI_2, atI_3, atI_4, beq_self_eq_true, not_true_eq_false, not_false_eq_true, Int.cast_ofNat_Int, Int.reduceEq, Int.reduceLE, Int.reduceLT, Int.reduceAdd, Int.reduceSub, Int.reduceMul, Int.reduceNeg, if_true, if_false, ite_true, ite_false, Bool.false_eq_true, if_neg, if_pos, decide_eq_true_eq, Bool.not_eq_true', decide_eq_false_iff_not, eq_self_iff_true, decide_true, decide_false, Bool.not_true, Bool.not_false, wps_raise, wps_try, wps_tryAs, tryCase_t, tryCase_f, tbl_hit, suiteOf_hit, wp_eDct, wp_eDGet, wp_eDNew, wp_eDDef, wps_dput, wps_augI, wps_asgTp, wps_asgUl, gUl2, gTp2, gTp3, gTp4, gTp5, gNs_cons, gN0_nil, wp_clN1, wp_clN2, wp_clN3, wp_slSt, gTupR_int, gLstR_int, gEndswith_str]
  refine wps_forM (fun k ρ S' => ∃ (T : Sto) (o3 o4 o5 o6 : Option D), Wk T ∧ S' = (S ++ T) ++ [.lst (stkD (wholeM (row.take k)))] ∧ ρ = [some (rowD row), some (.ref (S ++ T).length), some (.int (wholeM (row.take k)).1), o3, o4, o5, o6, none, none]) (fun _ _ _ _ => trivial) (fun k d ρ S' hd hI => ?_) (fun ρ S' hI => ?_) ⟨[], none, none, none, none, fun _ h => (List.not_mem_nil h).elim, by rw [List.append_nil]; rfl, by rw [List.append_nil]; rfl⟩
  · obtain ⟨T, o3, o4, o5, o6, hT, rfl, rfl⟩ := hI
    rw [List.getElem?_map, Option.map_eq_some_iff] at hd
    obtain ⟨w, hw, rfl⟩ := hd
    have hwo := h.2 w (List.mem_of_getElem? hw)
    have hl := whole_len h k
    have h8 := hwo.1
    rw [take_fold hw]
    generalize wholeM (row.take k) = q at hl
    refine ⟨_, rfl, ?_⟩
    have hA : OKS (S ++ T) := oks_app hS hT
    generalize hAe : S ++ T = A at hA
    have hokq : ∀ q, OKS (A ++ [.lst (stkD q)]) := fun q => oks_app hA fun o ho => by rw [List.mem_singleton.mp ho]; exact ints_lo _
    simp only [wdD, wp_ok, wp_ret, wp_stuck, wp_bad, wp_bnd, wp_if, wp_fif, wps_ok_nx, wps_ok_rt, wps_ok_bk, wps_ok_ct, wps_ok_xc, wps_bad, wps_lft, wps_seq, wps_nil, wps_ret, wps_expr, wps_asg, wps_if, wp_run, wps_for, wps_while, wp_comp, wp_var, wp_C, wp_bin, wp_un, wp_T, wp_Tb, wp_asBl, wp_truthBl, wp_bAnd, wp_bOr, wp_bNot, wp_eIf, wp_eAnd, wp_eOr, wp_eNot, blCase_bl, wp_chain, wp_aNil, wp_aCons, wp_tup, wp_lst, wp_lstM, wp_call, wp_cl1, wp_cl2, wp_cl3, wp_cl4, wp_cl5, wp_meth, wp_isi, wp_oNone, wp_oSome, wp_sl, wp_it, wp_range1, wp_range2, wp_bYes, gEq_str, gNe_str, gEq_int, gNe_int, gEq_bl, gNe_bl, gIs_bl, gIsNot_bl, gAdd_int, gSub_int, gC_int, gI_int, gAdd_str, gAdd_tup, gAdd_lst, gNeg_int, gIx_tup, gIx_lst, gLen_tup, gLen_lst, gLen_str, gInt_int, gInt_bl, gTuple_lst, gTuple_tup, gList_lst, gList_tup, gSl_tup, gSl_lst, gSl_fl, gSl_str, srcL_tup, srcL_lst, srcL_fl, srcL_str, srcR1_int, typN, startR, List.map_cons, List.map_nil, List.length_cons, List.length_nil, Nat.reduceAdd, Nat.reduceSub, Nat.zero_add, Nat.sub_self, Nat.sub_zero, List.replicate_zero, List.replicate_succ, List.cons_append, List.nil_append, List.append_nil, List.getElem?_cons_zero, List.getElem?_cons_succ, List.set_cons_zero, List.set_cons_succ, List.set_nil, List.getElem?_nil, Option.some.injEq, exists_eq_left', exists_eq_left, exists_eq_right, reduceCtorEq, false_and, and_false, true_and, and_true, exists_false, exists_const, wipeR, Nat.zero_le, String.reduceEq, D.int.injEq, D.str.injEq, D.bl.injEq, atI_0, atI_1, atI_2, atI_3, atI_4, beq_self_eq_true, not_true_eq_false, not_false_eq_true, Int.cast_ofNat_Int, Int.reduceEq, Int.reduceLE, Int.reduceLT, Int.reduceAdd, Int.reduceSub, Int.reduceMul, Int.reduceNeg, if_true, if_false, ite_true, ite_false, Bool.false_eq_true, if_neg, if_pos, decide_eq_true_eq, Bool.not_eq_true', decide_eq_false_iff_not, eq_self_iff_true, decide_true, decide_false, Bool.not_true, Bool.not_false, wps_raise, wps_try, wps_tryAs, tryCase_t, tryCase_f, tbl_hit, suiteOf_hit, wp_eDct, wp_eDGet, wp_eDNew, wp_eDDef, wps_dput, wps_augI, wps_asgTp, wps_asgUl, gUl2, gTp2, gTp3, gTp4, gTp5, gNs_cons, gN0_nil, wp_clN1, wp_clN2, wp_clN3, wp_slSt, gTupR_int, gLstR_int, gEndswith_str]
    refine parts_ok hwo (by omega) (hokq q) ?_
    simp only [wp_ok, wp_ret, wp_stuck, wp_bad, wp_bnd, wp_if, wp_fif, wps_ok_nx, wps_ok_rt, wps_ok_bk, wps_ok_ct, wps_ok_xc, wps_bad, wps_lft, wps_seq, wps_nil, wps_ret, wps_expr, wps_asg, wps_if, wp_run, wps_for, wps_while, wp_comp, wp_var, wp_C, wp_bin, wp_un, wp_T, wp_Tb, wp_asBl, wp_truthBl, wp_bAnd, wp_bOr, wp_bNot, wp_eIf, wp_eAnd, wp_eOr, wp_eNot, blCase_bl, wp_chain, wp_aNil, wp_aCons, wp_tup, wp_lst, wp_lstM, wp_call, wp_cl1, wp_cl2, wp_cl3, wp_cl4, wp_cl5, wp_meth, wp_isi, wp_oNone, wp_oSome, wp_sl, wp_it, wp_range1, wp_range2, wp_bYes, gEq_str, gNe_str, gEq_int, gNe_int, gEq_bl, gNe_bl, gIs_bl, gIsNot_bl, gAdd_int, gSub_int, gC_int, gI_int, gAdd_str, gAdd_tup, gAdd_lst, gNeg_int, gIx_tup, gIx_lst, gLen_tup, gLen_lst, gLen_str, gInt_int, gInt_bl, gTuple_lst, gTuple_tup, gList_lst, gList_tup, gSl_tup, gSl_lst, gSl_fl, gSl_str, srcL_tup, srcL_lst, srcL_fl, srcL_str, srcR1_int, typN, startR, List.map_cons, List.map_nil, List.length_cons, List.length_nil, Nat.reduceAdd, Nat.reduceSub, Nat.zero_add, Nat.sub_self, Nat.sub_zero, List.replicate_zero, List.replicate_succ, List.cons_append, List.nil_append, List.append_nil, List.getElem?_cons_zero, List.getElem?_cons_succ, List.set_cons_zero, List.set_cons_succ, List.set_nil, List.getElem?_nil, Option.some.injEq, exists_eq_left', exists_eq_left, exists_eq_right, reduceCtorEq, false_and, and_false, true_and, and_true, exists_false, exists_const, wipeR, Nat.zero_le, String.reduceEq, D.int.injEq, D.str.injEq, D.bl.injEq, atI_0, atI_1, atI_2, atI_3, atI_4, beq_self_eq_true, not_true_eq_false, not_false_eq_true, Int.cast_ofNat_Int, Int.reduceEq, Int.reduceLE, Int.reduceLT, Int.reduceAdd, Int.reduceSub, Int.reduceMul, Int.reduceNeg, if_true, if_false, ite_true, ite_false, Bool.false_eq_true, if_neg, if_pos, decide_eq_true_eq, Bool.not_eq_true', decide_eq_false_iff_not, eq_self_iff_true, decide_true, decide_false, Bool.not_true, Bool.not_false, wps_raise, wps_try, wps_tryAs, tryCase_t, tryCase_f, tbl_hit, suiteOf_hit, wp_eDct, wp_eDGet, wp_eDNew, wp_eDDef, wps_dput, wps_augI, wps_asgTp, wps_asgUl, gUl2, gTp2, gTp3, gTp4, gTp5, gNs_cons, gN0_nil, wp_clN1, wp_clN2, wp_clN3, wp_slSt, gTupR_int, gLstR_int, gEndswith_str]
    refine wps_whileM (fun m ρ S' => ∃ j, j ≤ w.1 - q.2.length ∧ m = w.1 - q.2.length - j ∧ S' = A ++ [.lst (stkD (extM j q))] ∧ ρ = [some (rowD row), some (.ref A.length), some (.int (q.1 + j : Nat)), some (wdD w), some (.lst (nats w.2)), o5, some (.int w.1), none, none]) (fun m ρ S' hI => ⟨?_, ?_⟩) (w.1 - q.2.length) (by omega) ⟨0, Nat.zero_le _, rfl, by rw [ext_0], rfl⟩
    · obtain ⟨j, _, _, _, _⟩ := hI
      omega
    · obtain ⟨j, hj, rfl, rfl, rfl⟩ := hI
      have eL := ext_len j q
      simp only [gLen_refD at_endL, stk_len, wp_ok, wp_ret, wp_stuck, wp_bad, wp_bnd, wp_if, wp_fif, wps_ok_nx, wps_ok_rt, wps_ok_bk, wps_ok_ct, wps_ok_xc, wps_bad, wps_lft, wps_seq, wps_nil, wps_ret, wps_expr, wps_asg, wps_if, wp_run, wps_for, wps_while, wp_comp, wp_var, wp_C, wp_bin, wp_un, wp_T, wp_Tb, wp_asBl, wp_truthBl, wp_bAnd, wp_bOr, wp_bNot, wp_eIf, wp_eAnd, wp_eOr, wp_eNot, blCase_bl, wp_chain, wp_aNil, wp_aCons, wp_tup, wp_lst, wp_lstM, wp_call, wp_cl1, wp_cl2, wp_cl3, wp_cl4, wp_cl5, wp_meth, wp_isi, wp_oNone, wp_oSome, wp_sl, wp_it, wp_range1, wp_range2, wp_bYes, gEq_str, gNe_str, gEq_int, gNe_int, gEq_bl, gNe_bl, gIs_bl, gIsNot_bl, gAdd_int, gSub_int, gC_int, gI_int, gAdd_str, gAdd_tup, gAdd_lst, gNeg_int, gIx_tup, gIx_lst, gLen_tup, gLen_lst, gLen_str, gInt_int, gInt_bl, gTuple_lst, gTuple_tup, gList_lst, gList_tup, gSl_tup, gSl_lst, gSl_fl, gSl_str, srcL_tup, srcL_lst, srcL_fl, srcL_str, srcR1_int, typN, startR, List.map_cons, List.map_nil, List.length_cons, List.length_nil, Nat.reduceAdd, Nat.reduceSub, Nat.zero_add, Nat.sub_self, Nat.sub_zero, List.replicate_zero, List.replicate_succ, List.cons_append, List.nil_append, List.append_nil, List.getElem?_cons_zero, List.getElem?_cons_succ, List.set_cons_zero, List.set_cons_succ, List.set_nil, List.getElem?_nil, Option.some.injEq, exists_eq_left', exists_eq_left, exists_eq_right, reduceCtorEq, false_and, and_false, true_and, and_true, exists_false, exists_const, wipeR, Nat.zero_le, String.reduceEq, D.int.injEq, D.str.injEq, D.bl.injEq, atI_0, atI_1, atI_2, atI_3, atI_4, beq_self_eq_true, not_true_eq_false, not_false_eq_true, Int.cast_ofNat_Int, Int.reduceEq, Int.reduceLE, Int.reduceLT, Int.reduceAdd, Int.reduceSub, Int.reduceMul, Int.reduceNeg, if_true, if_false, ite_true, ite_false, Bool.false_eq_true, if_neg, if_pos, decide_eq_true_eq, Bool.not_eq_true', decide_eq_false_iff_not, eq_self_iff_true, decide_true, decide_false, Bool.not_true, Bool.not_false, wps_raise, wps_try, wps_tryAs, tryCase_t, tryCase_f, tbl_hit, suiteOf_hit, wp_eDct, wp_eDGet, wp_eDNew, wp_eDDef, wps_dput, wps_augI, wps_asgTp, wps_asgUl, gUl2, gTp2, gTp3, gTp4, gTp5, gNs_cons, gN0_nil, wp_clN1, wp_clN2, wp_clN3, wp_slSt, gTupR_int, gLstR_int, gEndswith_str]
      by_cases hlt : ((extM j q).2.length : Int) < (w.1 : Nat)
      · simp only [hlt, isTy_ref at_endL, gInsert_ref at_endL, set_endL, wp_ok, wp_ret, wp_stuck, wp_bad, wp_bnd, wp_if, wp_fif, wps_ok_nx, wps_ok_rt, wps_ok_bk, wps_ok_ct, wps_ok_xc, wps_bad, wps_lft, wps_seq, wps_nil, wps_ret, wps_expr, wps_asg, wps_if, wp_run, wps_for, wps_while, wp_comp, wp_var, wp_C, wp_bin, wp_un, wp_T, wp_Tb, wp_asBl, wp_truthBl, wp_bAnd, wp_bOr, wp_bNot, wp_eIf, wp_eAnd, wp_eOr, wp_eNot, blCase_bl, wp_chain, wp_aNil, wp_aCons, wp_tup, wp_lst, wp_lstM, wp_call, wp_cl1, wp_cl2, wp_cl3, wp_cl4, wp_cl5, wp_meth, wp_isi, wp_oNone, wp_oSome, wp_sl, wp_it, wp_range1, wp_range2, wp_bYes, gEq_str, gNe_str, gEq_int, gNe_int, gEq_bl, gNe_bl, gIs_bl, gIsNot_bl, gAdd_int, gSub_int, gC_int, gI_int, gAdd_str, gAdd_tup, gAdd_lst, gNeg_int, gIx_tup, gIx_lst, gLen_tup, gLen_lst, gLen_str, gInt_int, gInt_bl, gTuple_lst, gTuple_tup, gList_lst, gList_tup, gSl_tup, gSl_lst, gSl_fl, gSl_str, srcL_tup, srcL_lst, srcL_fl, srcL_str, srcR1_int, typN, startR, List.map_cons, List.map_nil, List.length_cons, List.length_nil, Nat.reduceAdd, Nat.reduceSub, Nat.zero_add, Nat.sub_self, Nat.sub_zero, List.replicate_zero, List.replicate_succ, List.cons_append, List.nil_append, List.append_nil, List.getElem?_cons_zero, List.getElem?_cons_succ, List.set_cons_zero, List.set_cons_succ, List.set_nil, List.getElem?_nil, Option.some.injEq, exists_eq_left', exists_eq_left, exists_eq_right, reduceCtorEq, false_and, and_false, true_and, and_true, exists_false, exists_const, wipeR, Nat.zero_le, String.reduceEq, D.int.injEq, D.str.injEq, D.bl.injEq, atI_0, atI_1, atI_2, atI_3, atI_4, beq_self_eq_true, not_true_eq_false, not_false_eq_true, Int.cast_ofNat_Int, Int.reduceEq, Int.reduceLE, Int.reduceLT, Int.reduceAdd, Int.reduceSub, Int.reduceMul, Int.reduceNeg, if_true, if_false, ite_true, ite_false, Bool.false_eq_true, if_neg, if_pos, decide_eq_true_eq, Bool.not_eq_true', decide_eq_false_iff_not, eq_self_iff_true, decide_true, decide_false, Bool.not_true, Bool.not_false, wps_raise, wps_try, wps_tryAs, tryCase_t, tryCase_f, tbl_hit, suiteOf_hit, wp_eDct, wp_eDGet, wp_eDNew, wp_eDDef, wps_dput, wps_augI, wps_asgTp, wps_asgUl, gUl2, gTp2, gTp3, gTp4, gTp5, gNs_cons, gN0_nil, wp_clN1, wp_clN2, wp_clN3, wp_slSt, gTupR_int, gLstR_int, gEndswith_str]
        refine ⟨⟨by rw [stk_len, sizeLine_eq]; omega, by decide⟩, w.1 - q.2.length - (j + 1), by omega, j + 1, by omega, rfl, ?_, ?_⟩
        · rw [stkD, stkD, stk_ext]
          simp only [List.map_cons]
          rfl
        · rfl
      · simp only [hlt, wp_ok, wp_ret, wp_stuck, wp_bad, wp_bnd, wp_if, wp_fif, wps_ok_nx, wps_ok_rt, wps_ok_bk, wps_ok_ct, wps_ok_xc, wps_bad, wps_lft, wps_seq, wps_nil, wps_ret, wps_expr, wps_asg, wps_if, wp_run, wps_for, wps_while, wp_comp, wp_var, wp_C, wp_bin, wp_un, wp_T, wp_Tb, wp_asBl, wp_truthBl, wp_bAnd, wp_bOr, wp_bNot, wp_eIf, wp_eAnd, wp_eOr, wp_eNot, blCase_bl, wp_chain, wp_aNil, wp_aCons, wp_tup, wp_lst, wp_lstM, wp_call, wp_cl1, wp_cl2, wp_cl3, wp_cl4, wp_cl5, wp_meth, wp_isi, wp_oNone, wp_oSome, wp_sl, wp_it, wp_range1, wp_range2, wp_bYes, gEq_str, gNe_str, gEq_int, gNe_int, gEq_bl, gNe_bl, gIs_bl, gIsNot_bl, gAdd_int, gSub_int, gC_int, gI_int, gAdd_str, gAdd_tup, gAdd_lst, gNeg_int, gIx_tup, gIx_lst, gLen_tup, gLen_lst, gLen_str, gInt_int, gInt_bl, gTuple_lst, gTuple_tup, gList_lst, gList_tup, gSl_tup, gSl_lst, gSl_fl, gSl_str, srcL_tup, srcL_lst, srcL_fl, srcL_str, srcR1_int, typN, startR, List.map_cons, List.map_nil, List.length_cons, List.length_nil, Nat.reduceAdd, Nat.reduceSub, Nat.zero_add, Nat.sub_self, Nat.sub_zero, List.replicate_zero, List.replicate_succ, List.cons_append, List.nil_append, List.append_nil, List.getElem?_cons_zero, List.getElem?_cons_succ, List.set_cons_zero, List.set_cons_succ, List.set_nil, List.getElem?_nil, Option.some.injEq, exists_eq_left', exists_eq_left, exists_eq_right, reduceCtorEq, false_and, and_false, true_and, and_true, exists_false, exists_const, wipeR, Nat.zero_le, String.reduceEq, D.int.injEq, D.str.injEq, D.bl.injEq, atI_0, atI_1, atI_2, atI_3, atI_4, beq_self_eq_true, not_true_eq_false, not_false_eq_true, Int.cast_ofNat_Int, Int.reduceEq, Int.reduceLE, Int.reduceLT, Int.reduceAdd, Int.reduceSub, Int.reduceMul, Int.reduceNeg, if_true, if_false, ite_true, ite_false, Bool.false_eq_true, if_neg, if_pos, decide_eq_true_eq, Bool.not_eq_true', decide_eq_false_iff_not, eq_self_iff_true, decide_true, decide_false, Bool.not_true, Bool.not_false, wps_raise, wps_try, wps_tryAs, tryCase_t, tryCase_f, tbl_hit, suiteOf_hit, wp_eDct, wp_eDGet, wp_eDNew, wp_eDDef, wps_dput, wps_augI, wps_asgTp, wps_asgUl, gUl2, gTp2, gTp3, gTp4, gTp5, gNs_cons, gN0_nil, wp_clN1, wp_clN2, wp_clN3, wp_slSt, gTupR_int, gLstR_int, gEndswith_str]
        have hj2 : j = w.1 - q.2.length := by omega
        subst hj2
        generalize he : extM (w.1 - q.2.length) q = e at eL hlt
        have hq1 : q.1 + (w.1 - q.2.length) = e.1 := by rw [← he]; rfl
        have hk : ((e.2.length : Nat) : Int) - (w.1 : Nat) = ((e.2.length - w.1 : Nat) : Int) := by omega
        simp only [gLen_refD at_endL, gSl_refD at_endL, stk_len, hk, cut_take (ds := stkD e) (a := e.2.length - w.1) (by rw [stk_len]; omega), cut_drop (ds := stkD e) (a := e.2.length - w.1) (by rw [stk_len]; omega), wp_ok, wp_ret, wp_stuck, wp_bad, wp_bnd, wp_if, wp_fif, wps_ok_nx, wps_ok_rt, wps_ok_bk, wps_ok_ct, wps_ok_xc, wps_bad, wps_lft, wps_seq, wps_nil, wps_ret, wps_expr, wps_asg, wps_if, wp_run, wps_for, wps_while, wp_comp, wp_var, wp_C, wp_bin, wp_un, wp_T, wp_Tb, wp_asBl, wp_truthBl, wp_bAnd, wp_bOr, wp_bNot, wp_eIf, wp_eAnd, wp_eOr, wp_eNot, blCase_bl, wp_chain, wp_aNil, wp_aCons, wp_tup, wp_lst, wp_lstM, wp_call, wp_cl1, wp_cl2, wp_cl3, wp_cl4, wp_cl5, wp_meth, wp_isi, wp_oNone, wp_oSome, wp_sl, wp_it, wp_range1, wp_range2, wp_bYes, gEq_str, gNe_str, gEq_int, gNe_int, gEq_bl, gNe_bl, gIs_bl, gIsNot_bl, gAdd_int, gSub_int, gC_int, gI_int, gAdd_str, gAdd_tup, gAdd_lst, gNeg_int, gIx_tup, gIx_lst, gLen_tup, gLen_lst, gLen_str, gInt_int, gInt_bl, gTuple_lst, gTuple_tup, gList_lst, gList_tup, gSl_tup, gSl_lst, gSl_fl, gSl_str, srcL_tup, srcL_lst, srcL_fl, srcL_str, srcR1_int, typN, startR, List.map_cons, List.map_nil, List.length_cons, List.length_nil, Nat.reduceAdd, Nat.reduceSub, Nat.zero_add, Nat.sub_self, Nat.sub_zero, List.replicate_zero, List.replicate_succ, List.cons_append, List.nil_append, List.append_nil, List.getElem?_cons_zero, List.getElem?_cons_succ, List.set_cons_zero, List.set_cons_succ, List.set_nil, List.getElem?_nil, Option.some.injEq, exists_eq_left', exists_eq_left, exists_eq_right, reduceCtorEq, false_and, and_false, true_and, and_true, exists_false, exists_const, wipeR, Nat.zero_le, String.reduceEq, D.int.injEq, D.str.injEq, D.bl.injEq, atI_0, atI_1, atI_2, atI_3, atI_4, beq_self_eq_true, not_true_eq_false, not_false_eq_true, Int.cast_ofNat_Int, Int.reduceEq, Int.reduceLE, Int.reduceLT, Int.reduceAdd, Int.reduceSub, Int.reduceMul, Int.reduceNeg, if_true, if_false, ite_true, ite_false, Bool.false_eq_true, if_neg, if_pos, decide_eq_true_eq, Bool.not_eq_true', decide_eq_false_iff_not, eq_self_iff_true, decide_true, decide_false, Bool.not_true, Bool.not_false, wps_raise, wps_try, wps_tryAs, tryCase_t, tryCase_f, tbl_hit, suiteOf_hit, wp_eDct, wp_eDGet, wp_eDNew, wp_eDDef, wps_dput, wps_augI, wps_asgTp, wps_asgUl, gUl2, gTp2, gTp3, gTp4, gTp5, gNs_cons, gN0_nil, wp_clN1, wp_clN2, wp_clN3, wp_slSt, gTupR_int, gLstR_int, gEndswith_str]
        refine ⟨small_line (by rw [List.length_map]; exact Nat.le_trans hwo.2.1 (by decide)), comp_one (fun k => D.int ((e.2.getD (e.2.length - w.1 + k) 0 : Nat) - (e.1 : Nat) : Int)) (fun k hk F E hF => ?_) ?_⟩
        · have hkt := hwo.2.2 k hk
          have hlt : e.2.length - w.1 + k < e.2.length := by omega
          have e2 : atI ((stkD e).drop (e.2.length - w.1)) ((k : Nat) : Int) = some (.int ((e.2.getD (e.2.length - w.1 + k) 0 : Nat) - (e.1 : Nat) : Int)) := atI_nat (by
            rw [List.getElem?_drop, List.getElem?_map, stkI, List.getElem?_map, List.getElem?_eq_getElem hlt, List.getD_eq_getElem?_getD, List.getElem?_eq_getElem hlt]; rfl)
          simp only [e2, wp_ok, wp_ret, wp_stuck, wp_bad, wp_bnd, wp_if, wp_fif, wps_ok_nx, wps_ok_rt, wps_ok_bk, wps_ok_ct, wps_ok_xc, wps_bad, wps_lft, wps_seq, wps_nil, wps_ret, wps_expr, wps_asg, wps_if, wp_run, wps_for, wps_while, wp_comp, wp_var, wp_C, wp_bin, wp_un, wp_T, wp_Tb, wp_asBl, wp_truthBl, wp_bAnd, wp_bOr, wp_bNot, wp_eIf, wp_eAnd, wp_eOr, wp_eNot, blCase_bl, wp_chain, wp_aNil, wp_aCons, wp_tup, wp_lst, wp_lstM, wp_call, wp_cl1, wp_cl2, wp_cl3, wp_cl4, wp_cl5, wp_meth, wp_isi, wp_oNone, wp_oSome, wp_sl, wp_it, wp_range1, wp_range2, wp_bYes, gEq_str, gNe_str, gEq_int, gNe_int, gEq_bl, gNe_bl, gIs_bl, gIsNot_bl, gAdd_int, gSub_int, gC_int, gI_int, gAdd_str, gAdd_tup, gAdd_lst, gNeg_int, gIx_tup, gIx_lst, gLen_tup, gLen_lst, gLen_str, gInt_int, gInt_bl, gTuple_lst, gTuple_tup, gList_lst, gList_tup, gSl_tup, gSl_lst, gSl_fl, gSl_str, srcL_tup, srcL_lst, srcL_fl, srcL_str, srcR1_int, typN, startR, List.map_cons, List.map_nil, List.length_cons, List.length_nil, Nat.reduceAdd, Nat.reduceSub, Nat.zero_add, Nat.sub_self, Nat.sub_zero, List.replicate_zero, List.replicate_succ, List.cons_append, List.nil_append, List.append_nil, List.getElem?_cons_zero, List.getElem?_cons_succ, List.set_cons_zero, List.set_cons_succ, List.set_nil, List.getElem?_nil, Option.some.injEq, exists_eq_left', exists_eq_left, exists_eq_right, reduceCtorEq, false_and, and_false, true_and, and_true, exists_false, exists_const, wipeR, Nat.zero_le, String.reduceEq, D.int.injEq, D.str.injEq, D.bl.injEq, atI_0, atI_1, atI_2, atI_3, atI_4, beq_self_eq_true, not_true_eq_false, not_false_eq_true, Int.cast_ofNat_Int, Int.reduceEq, Int.reduceLE, Int.reduceLT, Int.reduceAdd, Int.reduceSub, Int.reduceMul, Int.reduceNeg, if_true, if_false, ite_true, ite_false, Bool.false_eq_true, if_neg, if_pos, decide_eq_true_eq, Bool.not_eq_true', decide_eq_false_iff_not, eq_self_iff_true, decide_true, decide_false, Bool.not_true, Bool.not_false, wps_raise, wps_try, wps_tryAs, tryCase_t, tryCase_f, tbl_hit, suiteOf_hit, wp_eDct, wp_eDGet, wp_eDNew, wp_eDDef, wps_dput, wps_augI, wps_asgTp, wps_asgUl, gUl2, gTp2, gTp3, gTp4, gTp5, gNs_cons, gN0_nil, wp_clN1, wp_clN2, wp_clN3, wp_slSt, gTupR_int, gLstR_int, gEndswith_str]
          exact hF
        · rw [gAddM_seq (a := (stkD e).take (e.2.length - w.1)) (b := w.2.map fun k => D.int ((e.2.getD (e.2.length - w.1 + k) 0 : Nat) - (e.1 : Nat) : Int)) rfl rfl]
          have em : mapW q w = (e.1, e.2.take (e.2.length - w.1) ++ w.2.map fun k => e.2.getD (e.2.length - w.1 + k) 0) := by rw [mapW_ext, he]
          refine ⟨?_, T ++ [.lst (stkD e)], some (wdD w), some (.lst (nats w.2)), some (.lst ((stkD e).drop (e.2.length - w.1))), some (.int w.1), ?_, ?_, ?_⟩
          · rw [List.length_take, stk_len, List.length_map]
            have := hwo.2.1
            exact small_line (by omega)
          · intro o ho
            rcases List.mem_append.mp ho with ho | ho
            · exact hT o ho
            · rw [List.mem_singleton.mp ho]; exact ints_lo _
          · rw [← List.append_assoc, hAe]
            refine congrArg (fun x => A ++ [MO.lst (stkD e)] ++ [MO.lst x]) ?_
            rw [em, stkD, stkD, stkI, stkI]
            simp only [List.map_append, List.map_map, List.map_take]
            rfl
          · rw [← List.append_assoc, hAe, em, hq1]
  · obtain ⟨T, o3, o4, o5, o6, hT, rfl, rfl⟩ := hI
    rw [List.length_map, List.take_length]
    have hw := whole_wf h.2
    have hn := whole_n' h
    have hl := whole_len' h
    unfold mapsM at hF
    generalize wholeM row = q at hw hn hl hF
    have hA : OKS (S ++ T) := oks_app hS hT
    simp only [srcL_refD at_endL, wp_ok, wp_ret, wp_stuck, wp_bad, wp_bnd, wp_if, wp_fif, wps_ok_nx, wps_ok_rt, wps_ok_bk, wps_ok_ct, wps_ok_xc, wps_bad, wps_lft, wps_seq, wps_nil, wps_ret, wps_expr, wps_asg, wps_if, wp_run, wps_for, wps_while, wp_comp, wp_var, wp_C, wp_bin, wp_un, wp_T, wp_Tb, wp_asBl, wp_truthBl, wp_bAnd, wp_bOr, wp_bNot, wp_eIf, wp_eAnd, wp_eOr, wp_eNot, blCase_bl, wp_chain, wp_aNil, wp_aCons, wp_tup, wp_lst, wp_lstM, wp_call, wp_cl1, wp_cl2, wp_cl3, wp_cl4, wp_cl5, wp_meth, wp_isi, wp_oNone, wp_oSome, wp_sl, wp_it, wp_range1, wp_range2, wp_bYes, gEq_str, gNe_str, gEq_int, gNe_int, gEq_bl, gNe_bl, gIs_bl, gIsNot_bl, gAdd_int, gSub_int, gC_int, gI_int, gAdd_str, gAdd_tup, gAdd_lst, gNeg_int, gIx_tup, gIx_lst, gLen_tup, gLen_lst, gLen_str, gInt_int, gInt_bl, gTuple_lst, gTuple_tup, gList_lst, gList_tup, gSl_tup, gSl_lst, gSl_fl, gSl_str, srcL_tup, srcL_lst, srcL_fl, srcL_str, srcR1_int, typN, startR, List.map_cons, List.map_nil, List.length_cons, List.length_nil, Nat.reduceAdd, Nat.reduceSub, Nat.zero_add, Nat.sub_self, Nat.sub_zero, List.replicate_zero, List.replicate_succ, List.cons_append, List.nil_append, List.append_nil, List.getElem?_cons_zero, List.getElem?_cons_succ, List.set_cons_zero, List.set_cons_succ, List.set_nil, List.getElem?_nil, Option.some.injEq, exists_eq_left', exists_eq_left, exists_eq_right, reduceCtorEq, false_and, and_false, true_and, and_true, exists_false, exists_const, wipeR, Nat.zero_le, String.reduceEq, D.int.injEq, D.str.injEq, D.bl.injEq, atI_0, atI_1, atI_2, atI_3, atI_4, beq_self_eq_true, not_true_eq_false, not_false_eq_true, Int.cast_ofNat_Int, Int.reduceEq, Int.reduceLE, Int.reduceLT, Int.reduceAdd, Int.reduceSub, Int.reduceMul, Int.reduceNeg, if_true, if_false, ite_true, ite_false, Bool.false_eq_true, if_neg, if_pos, decide_eq_true_eq, Bool.not_eq_true', decide_eq_false_iff_not, eq_self_iff_true, decide_true, decide_false, Bool.not_true, Bool.not_false, wps_raise, wps_try, wps_tryAs, tryCase_t, tryCase_f, tbl_hit, suiteOf_hit, wp_eDct, wp_eDGet, wp_eDNew, wp_eDDef, wps_dput, wps_augI, wps_asgTp, wps_asgUl, gUl2, gTp2, gTp3, gTp4, gTp5, gNs_cons, gN0_nil, wp_clN1, wp_clN2, wp_clN3, wp_slSt, gTupR_int, gLstR_int, gEndswith_str]
    refine ⟨small_line (by rw [stk_len]; omega), ?_⟩
    refine comp_oneS (all := stkI q) (fun i => D.int ((q.1 : Nat) + i)) get_endL (fun i hi F E hF => ?_) ?_
    · simp only [wp_ok, wp_ret, wp_stuck, wp_bad, wp_bnd, wp_if, wp_fif, wps_ok_nx, wps_ok_rt, wps_ok_bk, wps_ok_ct, wps_ok_xc, wps_bad, wps_lft, wps_seq, wps_nil, wps_ret, wps_expr, wps_asg, wps_if, wp_run, wps_for, wps_while, wp_comp, wp_var, wp_C, wp_bin, wp_un, wp_T, wp_Tb, wp_asBl, wp_truthBl, wp_bAnd, wp_bOr, wp_bNot, wp_eIf, wp_eAnd, wp_eOr, wp_eNot, blCase_bl, wp_chain, wp_aNil, wp_aCons, wp_tup, wp_lst, wp_lstM, wp_call, wp_cl1, wp_cl2, wp_cl3, wp_cl4, wp_cl5, wp_meth, wp_isi, wp_oNone, wp_oSome, wp_sl, wp_it, wp_range1, wp_range2, wp_bYes, gEq_str, gNe_str, gEq_int, gNe_int, gEq_bl, gNe_bl, gIs_bl, gIsNot_bl, gAdd_int, gSub_int, gC_int, gI_int, gAdd_str, gAdd_tup, gAdd_lst, gNeg_int, gIx_tup, gIx_lst, gLen_tup, gLen_lst, gLen_str, gInt_int, gInt_bl, gTuple_lst, gTuple_tup, gList_lst, gList_tup, gSl_tup, gSl_lst, gSl_fl, gSl_str, srcL_tup, srcL_lst, srcL_fl, srcL_str, srcR1_int, typN, startR, List.map_cons, List.map_nil, List.length_cons, List.length_nil, Nat.reduceAdd, Nat.reduceSub, Nat.zero_add, Nat.sub_self, Nat.sub_zero, List.replicate_zero, List.replicate_succ, List.cons_append, List.nil_append, List.append_nil, List.getElem?_cons_zero, List.getElem?_cons_succ, List.set_cons_zero, List.set_cons_succ, List.set_nil, List.getElem?_nil, Option.some.injEq, exists_eq_left', exists_eq_left, exists_eq_right, reduceCtorEq, false_and, and_false, true_and, and_true, exists_false, exists_const, wipeR, Nat.zero_le, String.reduceEq, D.int.injEq, D.str.injEq, D.bl.injEq, atI_0, atI_1, atI_2, atI_3, atI_4, beq_self_eq_true, not_true_eq_false, not_false_eq_true, Int.cast_ofNat_Int, Int.reduceEq, Int.reduceLE, Int.reduceLT, Int.reduceAdd, Int.reduceSub, Int.reduceMul, Int.reduceNeg, if_true, if_false, ite_true, ite_false, Bool.false_eq_true, if_neg, if_pos, decide_eq_true_eq, Bool.not_eq_true', decide_eq_false_iff_not, eq_self_iff_true, decide_true, decide_false, Bool.not_true, Bool.not_false, wps_raise, wps_try, wps_tryAs, tryCase_t, tryCase_f, tbl_hit, suiteOf_hit, wp_eDct, wp_eDGet, wp_eDNew, wp_eDDef, wps_dput, wps_augI, wps_asgTp, wps_asgUl, gUl2, gTp2, gTp3, gTp4, gTp5, gNs_cons, gN0_nil, wp_clN1, wp_clN2, wp_clN3, wp_slSt, gTupR_int, gLstR_int, gEndswith_str]
      exact hF
    · have e1 : (stkI q).map (fun i => D.int ((q.1 : Nat) + i)) = nats q.2 := by
        rw [stkI, List.map_map]
        refine List.map_congr_left fun p _ => ?_
        simp only [Function.comp]
        exact congrArg D.int (by omega)
      rw [e1]
      generalize hB : S ++ T ++ [MO.lst (stkD q)] = B
      have hBt : B.take S.length = S := by rw [← hB, List.append_assoc, List.take_left' rfl]
      generalize some (D.ref (S ++ T).length) = o1
      unfold Wf at hw
      obtain ⟨n, ps⟩ := q
      simp only at hw hn hl hF
      show wps (whileM _ _ fu [some (rowD row), o1, some (.int (n : Nat)), o3, some (.lst (nats ps)), o5, o6, none, none] B) _ _ _ _ _
      refine wps_whileM (fun m ρ S' => S' = B ∧ ∃ qs o7, ρ = [some (rowD row), o1, some (.int (m : Nat)), o3, some (.lst (nats qs)), o5, o6, o7, none] ∧ leastM m qs = leastM n ps ∧ (∀ p ∈ qs, p < m) ∧ qs.length ≤ 240 ∧ m ≤ n) (fun m ρ S' hI => ⟨?_, ?_⟩) n (by omega) ⟨rfl, ps, none, rfl, rfl, hw, hl, Nat.le_refl _⟩
      · obtain ⟨_, _, _, _, _, _, _, h⟩ := hI
        omega
      · obtain ⟨rfl, qs, o7, rfl, he, hwf, hql, hmn⟩ := hI
        have fin : leastM m qs = (m, qs) → 2 ≤ sizeLine ∧ wp (finD false S.length (.tup [.int m, .lst (nats qs)]) S') F E := fun h => ⟨small_line (by decide), fin_cutO hS hBt (lmpD_tr (m, qs)) (by rw [← he, h] at hF; exact hF)⟩
        have sh0 : ∀ {l : List Nat}, Sh 1 (.lst (nats l)) := fun {l} => sh_lst sh_nats
        have hEq : ∀ {l : List Nat} {F E}, wp (gEq (.lst (nats l)) (.lst [.int 0]) S') F E ↔ F (.bl (decide (l = [0]))) S' := fun {l F E} => by
          rw [show (D.lst [.int 0]) = .lst (nats [0]) from rfl, gEq_pu sh0 sh0 (by decide) (pu_lst pu_nats) (pu_lst pu_nats)]
          simp only [D.lst.injEq, nats_inj]
        have hCt : ∀ {l : List Nat} {F E}, wp (gCount (.lst (nats l)) [.int 0] S') F E ↔ F (.int (l.count 0 : Nat)) S' := fun {l F E} => by
          rw [gCount_of (ns := l.map fun (p : Nat) => (p : Int)) (show iSeq S' (.lst (nats l)) = _ from by rw [List.map_map]; rfl)]
          rw [show (0 : Int) = ((0 : Nat) : Int) from rfl, count_cast]
        have hc : cutD (nats qs) none (some 1) = nats (qs.take 1) := by
          rcases qs with _ | ⟨q, qs⟩
          · rfl
          · exact cut_take (ds := nats (q :: qs)) (a := 1) (by rw [List.length_map]; simp)
        have hd : qs ≠ [] → cutD (nats qs) (some 1) none = nats (qs.drop 1) := fun hq => by
          rcases qs with _ | ⟨q, qs⟩
          · exact absurd rfl hq
          · exact cut_drop (ds := nats (q :: qs)) (a := 1) (by rw [List.length_map]; simp)
        have hty : isTy S' "list" (.lst (nats qs)) = true := rfl
        have hq : ¬ (qs.take 1 = [0] ∧ (qs.count 0 : Int) = 1) → leastM m qs = (m, qs) := fun hq => by
          rcases qs with _ | ⟨q, qs⟩
          · cases m <;> rfl
          · rcases q with _ | q
            · rcases m with _ | m
              · rfl
              · rw [leastM_s, if_pos]
                refine Decidable.byContradiction fun h0 => hq ⟨rfl, ?_⟩
                rw [List.count_cons, List.count_eq_zero.mpr h0]; rfl
            · cases m <;> rfl
        simp only [hc, hEq, hCt, hty, wp_ok, wp_ret, wp_stuck, wp_bad, wp_bnd, wp_if, wp_fif, wps_ok_nx, wps_ok_rt, wps_ok_bk, wps_ok_ct, wps_ok_xc, wps_bad, wps_lft, wps_seq, wps_nil, wps_ret, wps_expr, wps_asg, wps_if, wp_run, wps_for, wps_while, wp_comp, wp_var, wp_C, wp_bin, wp_un, wp_T, wp_Tb, wp_asBl, wp_truthBl, wp_bAnd, wp_bOr, wp_bNot, wp_eIf, wp_eAnd, wp_eOr, wp_eNot, blCase_bl, wp_chain, wp_aNil, wp_aCons, wp_tup, wp_lst, wp_lstM, wp_call, wp_cl1, wp_cl2, wp_cl3, wp_cl4, wp_cl5, wp_meth, wp_isi, wp_oNone, wp_oSome, wp_sl, wp_it, wp_range1, wp_range2, wp_bYes, gEq_str, gNe_str, gEq_int, gNe_int, gEq_bl, gNe_bl, gIs_bl, gIsNot_bl, gAdd_int, gSub_int, gC_int, gI_int, gAdd_str, gAdd_tup, gAdd_lst, gNeg_int, gIx_tup, gIx_lst, gLen_tup, gLen_lst, gLen_str, gInt_int, gInt_bl, gTuple_lst, gTuple_tup, gList_lst, gList_tup, gSl_tup, gSl_lst, gSl_fl, gSl_str, srcL_tup, srcL_lst, srcL_fl, srcL_str, srcR1_int, typN, startR, List.map_cons, List.map_nil, List.length_cons, List.length_nil, Nat.reduceAdd, Nat.reduceSub, Nat.zero_add, Nat.sub_self, Nat.sub_zero, List.replicate_zero, List.replicate_succ, List.cons_append, List.nil_append, List.append_nil, List.getElem?_cons_zero, List.getElem?_cons_succ, List.set_cons_zero, List.set_cons_succ, List.set_nil, List.getElem?_nil, Option.some.injEq, exists_eq_left', exists_eq_left, exists_eq_right, reduceCtorEq, false_and, and_false, true_and, and_true, exists_false, exists_const, wipeR, Nat.zero_le, String.reduceEq, D.int.injEq, D.str.injEq, D.bl.injEq, atI_0, atI_1, atI_2, atI_3, atI_4, beq_self_eq_true, not_true_eq_false, not_false_eq_true, Int.cast_ofNat_Int, Int.reduceEq, Int.reduceLE, Int.reduceLT, Int.reduceAdd, Int.reduceSub, Int.reduceMul, Int.reduceNeg, if_true, if_false, ite_true, ite_false, Bool.false_eq_true, if_neg, if_pos, decide_eq_true_eq, Bool.not_eq_true', decide_eq_false_iff_not, eq_self_iff_true, decide_true, decide_false, Bool.not_true, Bool.not_false, wps_raise, wps_try, wps_tryAs, tryCase_t, tryCase_f, tbl_hit, suiteOf_hit, wp_eDct, wp_eDGet, wp_eDNew, wp_eDDef, wps_dput, wps_augI, wps_asgTp, wps_asgUl, gUl2, gTp2, gTp3, gTp4, gTp5, gNs_cons, gN0_nil, wp_clN1, wp_clN2, wp_clN3, wp_slSt, gTupR_int, gLstR_int, gEndswith_str]
        by_cases h1 : qs.take 1 = [0]
        · by_cases h2 : (qs.count 0 : Int) = 1
          · have hne : qs ≠ [] := fun e => by rw [e] at h1; exact absurd h1 (by decide)
            simp only [h1, h2, hd hne, wp_ok, wp_ret, wp_stuck, wp_bad, wp_bnd, wp_if, wp_fif, wps_ok_nx, wps_ok_rt, wps_ok_bk, wps_ok_ct, wps_ok_xc, wps_bad, wps_lft, wps_seq, wps_nil, wps_ret, wps_expr, wps_asg, wps_if, wp_run, wps_for, wps_while, wp_comp, wp_var, wp_C, wp_bin, wp_un, wp_T, wp_Tb, wp_asBl, wp_truthBl, wp_bAnd, wp_bOr, wp_bNot, wp_eIf, wp_eAnd, wp_eOr, wp_eNot, blCase_bl, wp_chain, wp_aNil, wp_aCons, wp_tup, wp_lst, wp_lstM, wp_call, wp_cl1, wp_cl2, wp_cl3, wp_cl4, wp_cl5, wp_meth, wp_isi, wp_oNone, wp_oSome, wp_sl, wp_it, wp_range1, wp_range2, wp_bYes, gEq_str, gNe_str, gEq_int, gNe_int, gEq_bl, gNe_bl, gIs_bl, gIsNot_bl, gAdd_int, gSub_int, gC_int, gI_int, gAdd_str, gAdd_tup, gAdd_lst, gNeg_int, gIx_tup, gIx_lst, gLen_tup, gLen_lst, gLen_str, gInt_int, gInt_bl, gTuple_lst, gTuple_tup, gList_lst, gList_tup, gSl_tup, gSl_lst, gSl_fl, gSl_str, srcL_tup, srcL_lst, srcL_fl, srcL_str, srcR1_int, typN, startR, List.map_cons, List.map_nil, List.length_cons, List.length_nil, Nat.reduceAdd, Nat.reduceSub, Nat.zero_add, Nat.sub_self, Nat.sub_zero, List.replicate_zero, List.replicate_succ, List.cons_append, List.nil_append, List.append_nil, List.getElem?_cons_zero, List.getElem?_cons_succ, List.set_cons_zero, List.set_cons_succ, List.set_nil, List.getElem?_nil, Option.some.injEq, exists_eq_left', exists_eq_left, exists_eq_right, reduceCtorEq, false_and, and_false, true_and, and_true, exists_false, exists_const, wipeR, Nat.zero_le, String.reduceEq, D.int.injEq, D.str.injEq, D.bl.injEq, atI_0, atI_1, atI_2, atI_3, atI_4, beq_self_eq_true, not_true_eq_false, not_false_eq_true, Int.cast_ofNat_Int, Int.reduceEq, Int.reduceLE, Int.reduceLT, Int.reduceAdd, Int.reduceSub, Int.reduceMul, Int.reduceNeg, if_true, if_false, ite_true, ite_false, Bool.false_eq_true, if_neg, if_pos, decide_eq_true_eq, Bool.not_eq_true', decide_eq_false_iff_not, eq_self_iff_true, decide_true, decide_false, Bool.not_true, Bool.not_false, wps_raise, wps_try, wps_tryAs, tryCase_t, tryCase_f, tbl_hit, suiteOf_hit, wp_eDct, wp_eDGet, wp_eDNew, wp_eDDef, wps_dput, wps_augI, wps_asgTp, wps_asgUl, gUl2, gTp2, gTp3, gTp4, gTp5, gNs_cons, gN0_nil, wp_clN1, wp_clN2, wp_clN3, wp_slSt, gTupR_int, gLstR_int, gEndswith_str]
            rcases qs with _ | ⟨q, qs⟩
            · exact absurd rfl hne
            obtain rfl : q = 0 := by simpa using h1
            rcases m with _ | m
            · exact absurd (hwf 0 (List.mem_cons_self ..)) (by omega)
            have h0 : 0 ∉ qs := fun h => by
              rw [List.count_cons] at h2
              have := List.count_pos_iff.mpr h
              simp at h2
              omega
            simp only [List.length_cons] at hql
            refine ⟨small_line (by decide), small_line (by rw [List.length_map]; show qs.length ≤ _; omega), comp_one (all := qs) (fun p => D.int ((p - 1 : Nat) : Int)) (fun p hp F E hF => ?_) ?_⟩
            · simp only [wp_ok, wp_ret, wp_stuck, wp_bad, wp_bnd, wp_if, wp_fif, wps_ok_nx, wps_ok_rt, wps_ok_bk, wps_ok_ct, wps_ok_xc, wps_bad, wps_lft, wps_seq, wps_nil, wps_ret, wps_expr, wps_asg, wps_if, wp_run, wps_for, wps_while, wp_comp, wp_var, wp_C, wp_bin, wp_un, wp_T, wp_Tb, wp_asBl, wp_truthBl, wp_bAnd, wp_bOr, wp_bNot, wp_eIf, wp_eAnd, wp_eOr, wp_eNot, blCase_bl, wp_chain, wp_aNil, wp_aCons, wp_tup, wp_lst, wp_lstM, wp_call, wp_cl1, wp_cl2, wp_cl3, wp_cl4, wp_cl5, wp_meth, wp_isi, wp_oNone, wp_oSome, wp_sl, wp_it, wp_range1, wp_range2, wp_bYes, gEq_str, gNe_str, gEq_int, gNe_int, gEq_bl, gNe_bl, gIs_bl, gIsNot_bl, gAdd_int, gSub_int, gC_int, gI_int, gAdd_str, gAdd_tup, gAdd_lst, gNeg_int, gIx_tup, gIx_lst, gLen_tup, gLen_lst, gLen_str, gInt_int, gInt_bl, gTuple_lst, gTuple_tup, gList_lst, gList_tup, gSl_tup, gSl_lst, gSl_fl, gSl_str, srcL_tup, srcL_lst, srcL_fl, srcL_str, srcR1_int, typN, startR, List.map_cons, List.map_nil, List.length_cons, List.length_nil, Nat.reduceAdd, Nat.reduceSub, Nat.zero_add, Nat.sub_self, Nat.sub_zero, List.replicate_zero, List.replicate_succ, List.cons_append, List.nil_append, List.append_nil, List.getElem?_cons_zero, List.getElem?_cons_succ, List.set_cons_zero, List.set_cons_succ, List.set_nil, List.getElem?_nil, Option.some.injEq, exists_eq_left', exists_eq_left, exists_eq_right, reduceCtorEq, false_and, and_false, true_and, and_true, exists_false, exists_const, wipeR, Nat.zero_le, String.reduceEq, D.int.injEq, D.str.injEq, D.bl.injEq, atI_0, atI_1, atI_2, atI_3, atI_4, beq_self_eq_true, not_true_eq_false, not_false_eq_true, Int.cast_ofNat_Int, Int.reduceEq, Int.reduceLE, Int.reduceLT, Int.reduceAdd, Int.reduceSub, Int.reduceMul, Int.reduceNeg, if_true, if_false, ite_true, ite_false, Bool.false_eq_true, if_neg, if_pos, decide_eq_true_eq, Bool.not_eq_true', decide_eq_false_iff_not, eq_self_iff_true, decide_true, decide_false, Bool.not_true, Bool.not_false, wps_raise, wps_try, wps_tryAs, tryCase_t, tryCase_f, tbl_hit, suiteOf_hit, wp_eDct, wp_eDGet, wp_eDNew, wp_eDDef, wps_dput, wps_augI, wps_asgTp, wps_asgUl, gUl2, gTp2, gTp3, gTp4, gTp5, gNs_cons, gN0_nil, wp_clN1, wp_clN2, wp_clN3, wp_slSt, gTupR_int, gLstR_int, gEndswith_str]
              have : p ≠ 0 := fun h => h0 (h ▸ hp)
              have e : ((p : Nat) : Int) - 1 = ((p - 1 : Nat) : Int) := by omega
              rw [e]; exact hF
            · refine ⟨m, by omega, rfl, qs.map (· - 1), o7, ?_, ?_, ?_, ?_, by omega⟩
              · have e : ((m + 1 : Nat) : Int) - 1 = (m : Nat) := by omega
                rw [e, nats, List.map_map]; rfl
              · rw [← he, leastM_s, if_neg h0]
              · intro p hp
                obtain ⟨a, ha, rfl⟩ := List.mem_map.mp hp
                have := hwf a (List.mem_cons_of_mem _ ha)
                have : a ≠ 0 := fun h => h0 (h ▸ ha)
                omega
              · rw [List.length_map]; omega
          · simp only [h1, h2, wp_ok, wp_ret, wp_stuck, wp_bad, wp_bnd, wp_if, wp_fif, wps_ok_nx, wps_ok_rt, wps_ok_bk, wps_ok_ct, wps_ok_xc, wps_bad, wps_lft, wps_seq, wps_nil, wps_ret, wps_expr, wps_asg, wps_if, wp_run, wps_for, wps_while, wp_comp, wp_var, wp_C, wp_bin, wp_un, wp_T, wp_Tb, wp_asBl, wp_truthBl, wp_bAnd, wp_bOr, wp_bNot, wp_eIf, wp_eAnd, wp_eOr, wp_eNot, blCase_bl, wp_chain, wp_aNil, wp_aCons, wp_tup, wp_lst, wp_lstM, wp_call, wp_cl1, wp_cl2, wp_cl3, wp_cl4, wp_cl5, wp_meth, wp_isi, wp_oNone, wp_oSome, wp_sl, wp_it, wp_range1, wp_range2, wp_bYes, gEq_str, gNe_str, gEq_int, gNe_int, gEq_bl, gNe_bl, gIs_bl, gIsNot_bl, gAdd_int, gSub_int, gC_int, gI_int, gAdd_str, gAdd_tup, gAdd_lst, gNeg_int, gIx_tup, gIx_lst, gLen_tup, gLen_lst, gLen_str, gInt_int, gInt_bl, gTuple_lst, gTuple_tup, gList_lst, gList_tup, gSl_tup, gSl_lst, gSl_fl, gSl_str, srcL_tup, srcL_lst, srcL_fl, srcL_str, srcR1_int, typN, startR, List.map_cons, List.map_nil, List.length_cons, List.length_nil, Nat.reduceAdd, Nat.reduceSub, Nat.zero_add, Nat.sub_self, Nat.sub_zero, List.replicate_zero, List.replicate_succ, List.cons_append, List.nil_append, List.append_nil, List.getElem?_cons_zero, List.getElem?_cons_succ, List.set_cons_zero, List.set_cons_succ, List.set_nil, List.getElem?_nil, Option.some.injEq, exists_eq_left', exists_eq_left, exists_eq_right, reduceCtorEq, false_and, and_false, true_and, and_true, exists_false, exists_const, wipeR, Nat.zero_le, String.reduceEq, D.int.injEq, D.str.injEq, D.bl.injEq, atI_0, atI_1, atI_2, atI_3, atI_4, beq_self_eq_true, not_true_eq_false, not_false_eq_true, Int.cast_ofNat_Int, Int.reduceEq, Int.reduceLE, Int.reduceLT, Int.reduceAdd, Int.reduceSub, Int.reduceMul, Int.reduceNeg, if_true, if_false, ite_true, ite_false, Bool.false_eq_true, if_neg, if_pos, decide_eq_true_eq, Bool.not_eq_true', decide_eq_false_iff_not, eq_self_iff_true, decide_true, decide_false, Bool.not_true, Bool.not_false, wps_raise, wps_try, wps_tryAs, tryCase_t, tryCase_f, tbl_hit, suiteOf_hit, wp_eDct, wp_eDGet, wp_eDNew, wp_eDDef, wps_dput, wps_augI, wps_asgTp, wps_asgUl, gUl2, gTp2, gTp3, gTp4, gTp5, gNs_cons, gN0_nil, wp_clN1, wp_clN2, wp_clN3, wp_slSt, gTupR_int, gLstR_int, gEndswith_str]
            exact ⟨small_line (by decide), fin (hq fun h => h2 h.2)⟩
        · simp only [h1, wp_ok, wp_ret, wp_stuck, wp_bad, wp_bnd, wp_if, wp_fif, wps_ok_nx, wps_ok_rt, wps_ok_bk, wps_ok_ct, wps_ok_xc, wps_bad, wps_lft, wps_seq, wps_nil, wps_ret, wps_expr, wps_asg, wps_if, wp_run, wps_for, wps_while, wp_comp, wp_var, wp_C, wp_bin, wp_un, wp_T, wp_Tb, wp_asBl, wp_truthBl, wp_bAnd, wp_bOr, wp_bNot, wp_eIf, wp_eAnd, wp_eOr, wp_eNot, blCase_bl, wp_chain, wp_aNil, wp_aCons, wp_tup, wp_lst, wp_lstM, wp_call, wp_cl1, wp_cl2, wp_cl3, wp_cl4, wp_cl5, wp_meth, wp_isi, wp_oNone, wp_oSome, wp_sl, wp_it, wp_range1, wp_range2, wp_bYes, gEq_str, gNe_str, gEq_int, gNe_int, gEq_bl, gNe_bl, gIs_bl, gIsNot_bl, gAdd_int, gSub_int, gC_int, gI_int, gAdd_str, gAdd_tup, gAdd_lst, gNeg_int, gIx_tup, gIx_lst, gLen_tup, gLen_lst, gLen_str, gInt_int, gInt_bl, gTuple_lst, gTuple_tup, gList_lst, gList_tup, gSl_tup, gSl_lst, gSl_fl, gSl_str, srcL_tup, srcL_lst, srcL_fl, srcL_str, srcR1_int, typN, startR, List.map_cons, List.map_nil, List.length_cons, List.length_nil, Nat.reduceAdd, Nat.reduceSub, Nat.zero_add, Nat.sub_self, Nat.sub_zero, List.replicate_zero, List.replicate_succ, List.cons_append, List.nil_append, List.append_nil, List.getElem?_cons_zero, List.getElem?_cons_succ, List.set_cons_zero, List.set_cons_succ, List.set_nil, List.getElem?_nil, Option.some.injEq, exists_eq_left', exists_eq_left, exists_eq_right, reduceCtorEq, false_and, and_false, true_and, and_true, exists_false, exists_const, wipeR, Nat.zero_le, String.reduceEq, D.int.injEq, D.str.injEq, D.bl.injEq, atI_0, atI_1, atI_2, atI_3, atI_4, beq_self_eq_true, not_true_eq_false, not_false_eq_true, Int.cast_ofNat_Int, Int.reduceEq, Int.reduceLE, Int.reduceLT, Int.reduceAdd, Int.reduceSub, Int.reduceMul, Int.reduceNeg, if_true, if_false, ite_true, ite_false, Bool.false_eq_true, if_neg, if_pos, decide_eq_true_eq, Bool.not_eq_true', decide_eq_false_iff_not, eq_self_iff_true, decide_true, decide_false, Bool.not_true, Bool.not_false, wps_raise, wps_try, wps_tryAs, tryCase_t, tryCase_f, tbl_hit, suiteOf_hit, wp_eDct, wp_eDGet, wp_eDNew, wp_eDDef, wps_dput, wps_augI, wps_asgTp, wps_asgUl, gUl2, gTp2, gTp3, gTp4, gTp5, gNs_cons, gN0_nil, wp_clN1, wp_clN2, wp_clN3, wp_slSt, gTupR_int, gLstR_int, gEndswith_str]
          exact ⟨small_line (by decide), fin (hq fun h => h1 h.1)⟩
end K61

namespace K61
open PySem L2 DL
variable {fu n : Nat} {R S : Sto} {F : D → Sto → Prop} {E : Exc → Sto → Prop}
/-! the draws -/
theorem gEq_refNil {m : Nat} {ds : List D} (h : atL S m = some ds) (hs : ∀ d ∈ ds, Sh 0 d) {F E} : wp (gNe (.ref m) (.lst []) S) F E ↔ F (.bl (!decide (ds = []))) S := gNe_refNil h hs
theorem sh_ints {cs : List Int} : ∀ d ∈ cs.map D.int, Sh 0 d := fun d hd => by
  obtain ⟨c, _, rfl⟩ := List.mem_map.mp hd
  exact sh_int
theorem draw_ok {m : Int} {N : Nat} (hN : 1 ≤ N) (h : DS R S) (hm : 0 < m) (hm2 : m < 18446744073709551616) (hF : ∀ (v : Int) (S' : Sto), 0 ≤ v → v < m → DS R S' → F (.int v) S') : wp (den fu N i_l_draw [.ref 1, .int m] S) F E := by
  obtain ⟨N', rfl⟩ : ∃ N', N = N' + 1 := ⟨N - 1, by omega⟩
  rw [show den fu (N' + 1) i_l_draw = runDef false 4 (b_l_draw fu (den fu N')) from rfl]
  obtain ⟨cells, a, b, hc, at0, at1, up0, up1⟩ := h.cells
  have h1 := up1 (a + 1) b
  have hl1 : (S.set 1 (.lst [.ref 0, .int (a + 1), .int b])).length = S.length := by simp
  have st : ∀ d, wp (gSet (.ref 1) (.int 1) (.int d) S) = wp (.ok () (S.set 1 (.lst [.ref 0, .int d, .int b]))) := fun d => by
    funext F E
    exact propext (gSet_ref (j := 1) at1 (by show ixN 3 1 = some 1; decide))
  have two : (2 : Nat) ≤ S.length := h.two
  have at1' : atL (S.set 1 (.lst [.ref 0, .int (a + 1), .int b])) 1 = some [.ref 0, .int (a + 1), .int b] := atL_set (by omega)
  have at0' : atL (S.set 1 (.lst [.ref 0, .int (a + 1), .int b])) 0 = some (cells.map .int) := by
    rw [← at0]; unfold atL; rw [List.getElem?_set_ne (by omega)]
  have up0' : ∀ cs : List Int, cs.length ≤ 100000 → DS R ((S.set 1 (.lst [.ref 0, .int (a + 1), .int b])).set 0 (.lst (cs.map .int))) := fun cs hcs => by
    obtain ⟨_, _, _, _, _, _, u, _⟩ := h1.cells
    exact u cs hcs
  generalize hS1 : S.set 1 (.lst [.ref 0, .int (a + 1), .int b]) = S1 at *
  have mix : ∀ (c : Int), cMul 7919 (a + 1) = true ∧ cMul (c % 2147483629 + 7919 * (a + 1)) 48271 = true ∧ cMul ((c % 2147483629 + 7919 * (a + 1)) * 48271 % 2147483647) ((c % 2147483629 + 7919 * (a + 1)) * 48271 % 2147483647) = true ∧ cMul 69621 ((c % 2147483629 + 7919 * (a + 1)) * 48271 % 2147483647) = true := fun c => by
    have h3 := Int.emod_nonneg ((c % 2147483629 + 7919 * (a + 1)) * 48271) (show (2147483647 : Int) ≠ 0 by decide)
    have h4 := Int.emod_lt_of_pos ((c % 2147483629 + 7919 * (a + 1)) * 48271) (show (0 : Int) < 2147483647 by decide)
    exact ⟨cMul_l (by decide) (by decide), cMul_r (by decide) (by decide), cMul_l h3 (by omega), cMul_l (by decide) (by decide)⟩
  have d64 : cDiv 2147483587 64 = true := rfl
  have done : ∀ {S2 : Sto} {x : Int}, DS R S2 → S2.length = S.length → wp (finD false S.length (.int (x % m)) S2) F E := fun {S2 x} h2 hl => h2.fin_same hl rfl (hF _ _ (Int.emod_nonneg _ (by omega)) (Int.emod_lt_of_pos _ hm) h2)
  simp only [b_l_draw, gIx_ref at1, wps_sub, st, wp_ok, wp_ret, wp_stuck, wp_bad, wp_bnd, wp_if, wp_fif, wps_ok_nx, wps_ok_rt, wps_ok_bk, wps_ok_ct, wps_ok_xc, wps_bad, wps_lft, wps_seq, wps_nil, wps_ret, wps_expr, wps_asg, wps_if, wp_run, wps_for, wps_while, wp_comp, wp_var, wp_C, wp_bin, wp_un, wp_T, wp_Tb, wp_asBl, wp_truthBl, wp_bAnd, wp_bOr, wp_bNot, wp_eIf, wp_eAnd, wp_eOr, wp_eNot, blCase_bl, wp_chain, wp_aNil, wp_aCons, wp_tup, wp_lst, wp_lstM, wp_call, wp_cl1, wp_cl2, wp_cl3, wp_cl4, wp_cl5, wp_meth, wp_isi, wp_oNone, wp_oSome, wp_sl, wp_it, wp_range1, wp_range2, wp_bYes, gEq_str, gNe_str, gEq_int, gNe_int, gEq_bl, gNe_bl, gIs_bl, gIsNot_bl, gAdd_int, gSub_int, gC_int, gI_int, gAdd_str, gAdd_tup, gAdd_lst, gNeg_int, gIx_tup, gIx_lst, gLen_tup, gLen_lst, gLen_str, gInt_int, gInt_bl, gTuple_lst, gTuple_tup, gList_lst, gList_tup, gSl_tup, gSl_lst, gSl_fl, gSl_str, srcL_tup, srcL_lst, srcL_fl, srcL_str, srcR1_int, typN, startR, List.map_cons, List.map_nil, List.length_cons, List.length_nil, Nat.reduceAdd, Nat.reduceSub, Nat.zero_add, Nat.sub_self, Nat.sub_zero, List.replicate_zero, List.replicate_succ, List.cons_append, List.nil_append, List.append_nil, List.getElem?_cons_zero, List.getElem?_cons_succ, List.set_cons_zero, List.set_cons_succ, List.set_nil, List.getElem?_nil, Option.some.injEq, exists_eq_left', exists_eq_left, exists_eq_right, reduceCtorEq, false_and, and_false, true_and, and_true, exists_false, exists_const, wipeR, Nat.zero_le, String.reduceEq, D.int.injEq, D.str.injEq, D.bl.injEq, atI_0, atI_1, atI_2, atI_3, atI_4, beq_self_eq_true, not_true_eq_false, not_false_eq_true, Int.cast_ofNat_Int, Int.reduceEq, Int.reduceLE, Int.reduceLT, Int.reduceAdd, Int.reduceSub, Int.reduceMul, Int.reduceNeg, if_true, if_false, ite_true, ite_false, Bool.false_eq_true, if_neg, if_pos, decide_eq_true_eq, Bool.not_eq_true', decide_eq_false_iff_not, eq_self_iff_true, decide_true, decide_false, Bool.not_true, Bool.not_false, wps_raise, wps_try, wps_tryAs, tryCase_t, tryCase_f, tbl_hit, suiteOf_hit, wp_eDct, wp_eDGet, wp_eDNew, wp_eDDef, wps_dput, wps_augI, wps_asgTp, wps_asgUl, gUl2, gTp2, gTp3, gTp4, gTp5, gNs_cons, gN0_nil, wp_clN1, wp_clN2, wp_clN3, wp_slSt, gTupR_int, gLstR_int, gEndswith_str]
  simp only [hS1, gIx_ref at1', gEq_refNil at0' sh_ints, wp_ok, wp_ret, wp_stuck, wp_bad, wp_bnd, wp_if, wp_fif, wps_ok_nx, wps_ok_rt, wps_ok_bk, wps_ok_ct, wps_ok_xc, wps_bad, wps_lft, wps_seq, wps_nil, wps_ret, wps_expr, wps_asg, wps_if, wp_run, wps_for, wps_while, wp_comp, wp_var, wp_C, wp_bin, wp_un, wp_T, wp_Tb, wp_asBl, wp_truthBl, wp_bAnd, wp_bOr, wp_bNot, wp_eIf, wp_eAnd, wp_eOr, wp_eNot, blCase_bl, wp_chain, wp_aNil, wp_aCons, wp_tup, wp_lst, wp_lstM, wp_call, wp_cl1, wp_cl2, wp_cl3, wp_cl4, wp_cl5, wp_meth, wp_isi, wp_oNone, wp_oSome, wp_sl, wp_it, wp_range1, wp_range2, wp_bYes, gEq_str, gNe_str, gEq_int, gNe_int, gEq_bl, gNe_bl, gIs_bl, gIsNot_bl, gAdd_int, gSub_int, gC_int, gI_int, gAdd_str, gAdd_tup, gAdd_lst, gNeg_int, gIx_tup, gIx_lst, gLen_tup, gLen_lst, gLen_str, gInt_int, gInt_bl, gTuple_lst, gTuple_tup, gList_lst, gList_tup, gSl_tup, gSl_lst, gSl_fl, gSl_str, srcL_tup, srcL_lst, srcL_fl, srcL_str, srcR1_int, typN, startR, List.map_cons, List.map_nil, List.length_cons, List.length_nil, Nat.reduceAdd, Nat.reduceSub, Nat.zero_add, Nat.sub_self, Nat.sub_zero, List.replicate_zero, List.replicate_succ, List.cons_append, List.nil_append, List.append_nil, List.getElem?_cons_zero, List.getElem?_cons_succ, List.set_cons_zero, List.set_cons_succ, List.set_nil, List.getElem?_nil, Option.some.injEq, exists_eq_left', exists_eq_left, exists_eq_right, reduceCtorEq, false_and, and_false, true_and, and_true, exists_false, exists_const, wipeR, Nat.zero_le, String.reduceEq, D.int.injEq, D.str.injEq, D.bl.injEq, atI_0, atI_1, atI_2, atI_3, atI_4, beq_self_eq_true, not_true_eq_false, not_false_eq_true, Int.cast_ofNat_Int, Int.reduceEq, Int.reduceLE, Int.reduceLT, Int.reduceAdd, Int.reduceSub, Int.reduceMul, Int.reduceNeg, if_true, if_false, ite_true, ite_false, Bool.false_eq_true, if_neg, if_pos, decide_eq_true_eq, Bool.not_eq_true', decide_eq_false_iff_not, eq_self_iff_true, decide_true, decide_false, Bool.not_true, Bool.not_false, wps_raise, wps_try, wps_tryAs, tryCase_t, tryCase_f, tbl_hit, suiteOf_hit, wp_eDct, wp_eDGet, wp_eDNew, wp_eDDef, wps_dput, wps_augI, wps_asgTp, wps_asgUl, gUl2, gTp2, gTp3, gTp4, gTp5, gNs_cons, gN0_nil, wp_clN1, wp_clN2, wp_clN3, wp_slSt, gTupR_int, gLstR_int, gEndswith_str]
  refine ⟨cMul_l (by decide) (by decide), ?_⟩
  rcases cells with _ | ⟨c, cs⟩
  · simp only [gIx_ref at1', hm, wp_ok, wp_ret, wp_stuck, wp_bad, wp_bnd, wp_if, wp_fif, wps_ok_nx, wps_ok_rt, wps_ok_bk, wps_ok_ct, wps_ok_xc, wps_bad, wps_lft, wps_seq, wps_nil, wps_ret, wps_expr, wps_asg, wps_if, wp_run, wps_for, wps_while, wp_comp, wp_var, wp_C, wp_bin, wp_un, wp_T, wp_Tb, wp_asBl, wp_truthBl, wp_bAnd, wp_bOr, wp_bNot, wp_eIf, wp_eAnd, wp_eOr, wp_eNot, blCase_bl, wp_chain, wp_aNil, wp_aCons, wp_tup, wp_lst, wp_lstM, wp_call, wp_cl1, wp_cl2, wp_cl3, wp_cl4, wp_cl5, wp_meth, wp_isi, wp_oNone, wp_oSome, wp_sl, wp_it, wp_range1, wp_range2, wp_bYes, gEq_str, gNe_str, gEq_int, gNe_int, gEq_bl, gNe_bl, gIs_bl, gIsNot_bl, gAdd_int, gSub_int, gC_int, gI_int, gAdd_str, gAdd_tup, gAdd_lst, gNeg_int, gIx_tup, gIx_lst, gLen_tup, gLen_lst, gLen_str, gInt_int, gInt_bl, gTuple_lst, gTuple_tup, gList_lst, gList_tup, gSl_tup, gSl_lst, gSl_fl, gSl_str, srcL_tup, srcL_lst, srcL_fl, srcL_str, srcR1_int, typN, startR, List.map_cons, List.map_nil, List.length_cons, List.length_nil, Nat.reduceAdd, Nat.reduceSub, Nat.zero_add, Nat.sub_self, Nat.sub_zero, List.replicate_zero, List.replicate_succ, List.cons_append, List.nil_append, List.append_nil, List.getElem?_cons_zero, List.getElem?_cons_succ, List.set_cons_zero, List.set_cons_succ, List.set_nil, List.getElem?_nil, Option.some.injEq, exists_eq_left', exists_eq_left, exists_eq_right, reduceCtorEq, false_and, and_false, true_and, and_true, exists_false, exists_const, wipeR, Nat.zero_le, String.reduceEq, D.int.injEq, D.str.injEq, D.bl.injEq, atI_0, atI_1, atI_2, atI_3, atI_4, beq_self_eq_true, not_true_eq_false, not_false_eq_true, Int.cast_ofNat_Int, Int.reduceEq, Int.reduceLE, Int.reduceLT, Int.reduceAdd, Int.reduceSub, Int.reduceMul, Int.reduceNeg, if_true, if_false, ite_true, ite_false, Bool.false_eq_true, if_neg, if_pos, decide_eq_true_eq, Bool.not_eq_true', decide_eq_false_iff_not, eq_self_iff_true, decide_true, decide_false, Bool.not_true, Bool.not_false, wps_raise, wps_try, wps_tryAs, tryCase_t, tryCase_f, tbl_hit, suiteOf_hit, wp_eDct, wp_eDGet, wp_eDNew, wp_eDDef, wps_dput, wps_augI, wps_asgTp, wps_asgUl, gUl2, gTp2, gTp3, gTp4, gTp5, gNs_cons, gN0_nil, wp_clN1, wp_clN2, wp_clN3, wp_slSt, gTupR_int, gLstR_int, gEndswith_str]
    obtain ⟨m1, m2, m3, m4⟩ := mix (b + 104729 * (a + 1))
    exact ⟨m1, m2, m3, m4, cDiv_of (by decide) (by decide), done h1 hl1⟩
  · have hne : ¬ (D.int c :: cs.map D.int) = [] := List.cons_ne_nil _ _
    simp only [List.length_cons] at hc
    have h2 := up0' cs (by omega)
    have q0 : atL (S1.set 0 (.lst (cs.map .int))) 0 = some (cs.map .int) := atL_set (by omega)
    have q1 : atL (S1.set 0 (.lst (cs.map .int))) 1 = some [.ref 0, .int (a + 1), .int b] := by
      rw [← at1']; unfold atL; rw [List.getElem?_set_ne (by omega)]
    simp only [List.map_cons] at at0'
    simp only [hne, isTy_ref at0', gPop0_ref at0' (by rw [List.length_map]; omega), wp_ok, wp_ret, wp_stuck, wp_bad, wp_bnd, wp_if, wp_fif, wps_ok_nx, wps_ok_rt, wps_ok_bk, wps_ok_ct, wps_ok_xc, wps_bad, wps_lft, wps_seq, wps_nil, wps_ret, wps_expr, wps_asg, wps_if, wp_run, wps_for, wps_while, wp_comp, wp_var, wp_C, wp_bin, wp_un, wp_T, wp_Tb, wp_asBl, wp_truthBl, wp_bAnd, wp_bOr, wp_bNot, wp_eIf, wp_eAnd, wp_eOr, wp_eNot, blCase_bl, wp_chain, wp_aNil, wp_aCons, wp_tup, wp_lst, wp_lstM, wp_call, wp_cl1, wp_cl2, wp_cl3, wp_cl4, wp_cl5, wp_meth, wp_isi, wp_oNone, wp_oSome, wp_sl, wp_it, wp_range1, wp_range2, wp_bYes, gEq_str, gNe_str, gEq_int, gNe_int, gEq_bl, gNe_bl, gIs_bl, gIsNot_bl, gAdd_int, gSub_int, gC_int, gI_int, gAdd_str, gAdd_tup, gAdd_lst, gNeg_int, gIx_tup, gIx_lst, gLen_tup, gLen_lst, gLen_str, gInt_int, gInt_bl, gTuple_lst, gTuple_tup, gList_lst, gList_tup, gSl_tup, gSl_lst, gSl_fl, gSl_str, srcL_tup, srcL_lst, srcL_fl, srcL_str, srcR1_int, typN, startR, List.map_cons, List.map_nil, List.length_cons, List.length_nil, Nat.reduceAdd, Nat.reduceSub, Nat.zero_add, Nat.sub_self, Nat.sub_zero, List.replicate_zero, List.replicate_succ, List.cons_append, List.nil_append, List.append_nil, List.getElem?_cons_zero, List.getElem?_cons_succ, List.set_cons_zero, List.set_cons_succ, List.set_nil, List.getElem?_nil, Option.some.injEq, exists_eq_left', exists_eq_left, exists_eq_right, reduceCtorEq, false_and, and_false, true_and, and_true, exists_false, exists_const, wipeR, Nat.zero_le, String.reduceEq, D.int.injEq, D.str.injEq, D.bl.injEq, atI_0, atI_1, atI_2, atI_3, atI_4, beq_self_eq_true, not_true_eq_false, not_false_eq_true, Int.cast_ofNat_Int, Int.reduceEq, Int.reduceLE, Int.reduceLT, Int.reduceAdd, Int.reduceSub, Int.reduceMul, Int.reduceNeg, if_true, if_false, ite_true, ite_false, Bool.false_eq_true, if_neg, if_pos, decide_eq_true_eq, Bool.not_eq_true', decide_eq_false_iff_not, eq_self_iff_true, decide_true, decide_false, Bool.not_true, Bool.not_false, wps_raise, wps_try, wps_tryAs, tryCase_t, tryCase_f, tbl_hit, suiteOf_hit, wp_eDct, wp_eDGet, wp_eDNew, wp_eDDef, wps_dput, wps_augI, wps_asgTp, wps_asgUl, gUl2, gTp2, gTp3, gTp4, gTp5, gNs_cons, gN0_nil, wp_clN1, wp_clN2, wp_clN3, wp_slSt, gTupR_int, gLstR_int, gEndswith_str]
    refine ⟨by decide, ?_⟩
    by_cases hge : c ≥ (10 : Int) ^ (Int.toNat 18)
    · simp only [hge, gIx_ref q1, isTy_ref q0, gInsert_ref q0, hm, wp_ok, wp_ret, wp_stuck, wp_bad, wp_bnd, wp_if, wp_fif, wps_ok_nx, wps_ok_rt, wps_ok_bk, wps_ok_ct, wps_ok_xc, wps_bad, wps_lft, wps_seq, wps_nil, wps_ret, wps_expr, wps_asg, wps_if, wp_run, wps_for, wps_while, wp_comp, wp_var, wp_C, wp_bin, wp_un, wp_T, wp_Tb, wp_asBl, wp_truthBl, wp_bAnd, wp_bOr, wp_bNot, wp_eIf, wp_eAnd, wp_eOr, wp_eNot, blCase_bl, wp_chain, wp_aNil, wp_aCons, wp_tup, wp_lst, wp_lstM, wp_call, wp_cl1, wp_cl2, wp_cl3, wp_cl4, wp_cl5, wp_meth, wp_isi, wp_oNone, wp_oSome, wp_sl, wp_it, wp_range1, wp_range2, wp_bYes, gEq_str, gNe_str, gEq_int, gNe_int, gEq_bl, gNe_bl, gIs_bl, gIsNot_bl, gAdd_int, gSub_int, gC_int, gI_int, gAdd_str, gAdd_tup, gAdd_lst, gNeg_int, gIx_tup, gIx_lst, gLen_tup, gLen_lst, gLen_str, gInt_int, gInt_bl, gTuple_lst, gTuple_tup, gList_lst, gList_tup, gSl_tup, gSl_lst, gSl_fl, gSl_str, srcL_tup, srcL_lst, srcL_fl, srcL_str, srcR1_int, typN, startR, List.map_cons, List.map_nil, List.length_cons, List.length_nil, Nat.reduceAdd, Nat.reduceSub, Nat.zero_add, Nat.sub_self, Nat.sub_zero, List.replicate_zero, List.replicate_succ, List.cons_append, List.nil_append, List.append_nil, List.getElem?_cons_zero, List.getElem?_cons_succ, List.set_cons_zero, List.set_cons_succ, List.set_nil, List.getElem?_nil, Option.some.injEq, exists_eq_left', exists_eq_left, exists_eq_right, reduceCtorEq, false_and, and_false, true_and, and_true, exists_false, exists_const, wipeR, Nat.zero_le, String.reduceEq, D.int.injEq, D.str.injEq, D.bl.injEq, atI_0, atI_1, atI_2, atI_3, atI_4, beq_self_eq_true, not_true_eq_false, not_false_eq_true, Int.cast_ofNat_Int, Int.reduceEq, Int.reduceLE, Int.reduceLT, Int.reduceAdd, Int.reduceSub, Int.reduceMul, Int.reduceNeg, if_true, if_false, ite_true, ite_false, Bool.false_eq_true, if_neg, if_pos, decide_eq_true_eq, Bool.not_eq_true', decide_eq_false_iff_not, eq_self_iff_true, decide_true, decide_false, Bool.not_true, Bool.not_false, wps_raise, wps_try, wps_tryAs, tryCase_t, tryCase_f, tbl_hit, suiteOf_hit, wp_eDct, wp_eDGet, wp_eDNew, wp_eDDef, wps_dput, wps_augI, wps_asgTp, wps_asgUl, gUl2, gTp2, gTp3, gTp4, gTp5, gNs_cons, gN0_nil, wp_clN1, wp_clN2, wp_clN3, wp_slSt, gTupR_int, gLstR_int, gEndswith_str]
      refine ⟨cDiv_of hm hm2, ⟨⟨by rw [sizeLine_eq, List.length_map]; omega, by decide⟩, ?_⟩⟩
      have h3 : DS R ((S1.set 0 (.lst (cs.map .int))).set 0 (.lst ((c / m :: cs).map .int))) := by
        obtain ⟨_, _, _, _, _, _, u, _⟩ := h2.cells
        exact u _ (by simp; omega)
      exact done h3 (by simp [hl1])
    · simp only [hge, gIx_ref q1, hm, wp_ok, wp_ret, wp_stuck, wp_bad, wp_bnd, wp_if, wp_fif, wps_ok_nx, wps_ok_rt, wps_ok_bk, wps_ok_ct, wps_ok_xc, wps_bad, wps_lft, wps_seq, wps_nil, wps_ret, wps_expr, wps_asg, wps_if, wp_run, wps_for, wps_while, wp_comp, wp_var, wp_C, wp_bin, wp_un, wp_T, wp_Tb, wp_asBl, wp_truthBl, wp_bAnd, wp_bOr, wp_bNot, wp_eIf, wp_eAnd, wp_eOr, wp_eNot, blCase_bl, wp_chain, wp_aNil, wp_aCons, wp_tup, wp_lst, wp_lstM, wp_call, wp_cl1, wp_cl2, wp_cl3, wp_cl4, wp_cl5, wp_meth, wp_isi, wp_oNone, wp_oSome, wp_sl, wp_it, wp_range1, wp_range2, wp_bYes, gEq_str, gNe_str, gEq_int, gNe_int, gEq_bl, gNe_bl, gIs_bl, gIsNot_bl, gAdd_int, gSub_int, gC_int, gI_int, gAdd_str, gAdd_tup, gAdd_lst, gNeg_int, gIx_tup, gIx_lst, gLen_tup, gLen_lst, gLen_str, gInt_int, gInt_bl, gTuple_lst, gTuple_tup, gList_lst, gList_tup, gSl_tup, gSl_lst, gSl_fl, gSl_str, srcL_tup, srcL_lst, srcL_fl, srcL_str, srcR1_int, typN, startR, List.map_cons, List.map_nil, List.length_cons, List.length_nil, Nat.reduceAdd, Nat.reduceSub, Nat.zero_add, Nat.sub_self, Nat.sub_zero, List.replicate_zero, List.replicate_succ, List.cons_append, List.nil_append, List.append_nil, List.getElem?_cons_zero, List.getElem?_cons_succ, List.set_cons_zero, List.set_cons_succ, List.set_nil, List.getElem?_nil, Option.some.injEq, exists_eq_left', exists_eq_left, exists_eq_right, reduceCtorEq, false_and, and_false, true_and, and_true, exists_false, exists_const, wipeR, Nat.zero_le, String.reduceEq, D.int.injEq, D.str.injEq, D.bl.injEq, atI_0, atI_1, atI_2, atI_3, atI_4, beq_self_eq_true, not_true_eq_false, not_false_eq_true, Int.cast_ofNat_Int, Int.reduceEq, Int.reduceLE, Int.reduceLT, Int.reduceAdd, Int.reduceSub, Int.reduceMul, Int.reduceNeg, if_true, if_false, ite_true, ite_false, Bool.false_eq_true, if_neg, if_pos, decide_eq_true_eq, Bool.not_eq_true', decide_eq_false_iff_not, eq_self_iff_true, decide_true, decide_false, Bool.not_true, Bool.not_false, wps_raise, wps_try, wps_tryAs, tryCase_t, tryCase_f, tbl_hit, suiteOf_hit, wp_eDct, wp_eDGet, wp_eDNew, wp_eDDef, wps_dput, wps_augI, wps_asgTp, wps_asgUl, gUl2, gTp2, gTp3, gTp4, gTp5, gNs_cons, gN0_nil, wp_clN1, wp_clN2, wp_clN3, wp_slSt, gTupR_int, gLstR_int, gEndswith_str]
      obtain ⟨m1, m2, m3, m4⟩ := mix c
      exact ⟨m1, m2, m3, m4, cDiv_of (by decide) (by decide), done h2 (by simp [hl1])⟩
theorem cut63 {ns : List Int} (h : ns.length ≤ 63) : cutD (ns.map D.int) none (some 63) = ns.map D.int := by
  unfold cutD
  have hx : HT.sIx (ns.map D.int).length (ns.map D.int).length (some ((63 : Nat) : Int)) = min 63 (ns.map D.int).length := HT.sIx_nat _ _ 63
  have e0 : HT.sIx (ns.map D.int).length 0 none = 0 := rfl
  have hm : (ns.map D.int).length = ns.length := by simp
  have e63 : ((63 : Nat) : Int) = 63 := rfl
  rw [e63] at hx
  rw [hx, e0, hm, List.drop_zero, Nat.sub_zero, List.take_of_length_le (by simp; omega)]
theorem gListM_lst {ds : List D} {F E} : wp (gListM [.lst ds] S) F E ↔ F (.ref S.length) (S ++ [.lst ds]) := Iff.rfl
theorem deck_ok {ns : List Int} {N : Nat} (hN : 1 ≤ N) (hl : ns.length ≤ 63) (hF : ∀ S0, DS S0 S0 → F (.ref 1) S0) : wp (den fu N i_l_deck [.fl (ns.map .int)] []) F E := by
  obtain ⟨N', rfl⟩ : ∃ N', N = N' + 1 := ⟨N - 1, by omega⟩
  rw [show den fu (N' + 1) i_l_deck = runDef true 2 (b_l_deck fu (den fu N')) from rfl]
  have gs : ∀ {ns : List Int} {S : Sto} {F E}, wp (gSum [.lst (ns.map .int)] S) F E ↔ F (.int ns.sum) S := fun {ns S F E} => by
    have e : gSum [.lst (ns.map .int)] S = .ok (.int ns.sum) S := by
      unfold gSum
      simp only [show iSeq S (.lst (ns.map .int)) = some (ns.map .int) from rfl, Option.bind_some, intsOf_map]
    rw [e]; exact Iff.rfl
  simp only [b_l_deck, cut63 hl, gListM_lst, wp_ok, wp_ret, wp_stuck, wp_bad, wp_bnd, wp_if, wp_fif, wps_ok_nx, wps_ok_rt, wps_ok_bk, wps_ok_ct, wps_ok_xc, wps_bad, wps_lft, wps_seq, wps_nil, wps_ret, wps_expr, wps_asg, wps_if, wp_run, wps_for, wps_while, wp_comp, wp_var, wp_C, wp_bin, wp_un, wp_T, wp_Tb, wp_asBl, wp_truthBl, wp_bAnd, wp_bOr, wp_bNot, wp_eIf, wp_eAnd, wp_eOr, wp_eNot, blCase_bl, wp_chain, wp_aNil, wp_aCons, wp_tup, wp_lst, wp_lstM, wp_call, wp_cl1, wp_cl2, wp_cl3, wp_cl4, wp_cl5, wp_meth, wp_isi, wp_oNone, wp_oSome, wp_sl, wp_it, wp_range1, wp_range2, wp_bYes, gEq_str, gNe_str, gEq_int, gNe_int, gEq_bl, gNe_bl, gIs_bl, gIsNot_bl, gAdd_int, gSub_int, gC_int, gI_int, gAdd_str, gAdd_tup, gAdd_lst, gNeg_int, gIx_tup, gIx_lst, gLen_tup, gLen_lst, gLen_str, gInt_int, gInt_bl, gTuple_lst, gTuple_tup, gList_lst, gList_tup, gSl_tup, gSl_lst, gSl_fl, gSl_str, srcL_tup, srcL_lst, srcL_fl, srcL_str, srcR1_int, typN, startR, List.map_cons, List.map_nil, List.length_cons, List.length_nil, Nat.reduceAdd, Nat.reduceSub, Nat.zero_add, Nat.sub_self, Nat.sub_zero, List.replicate_zero, List.replicate_succ, List.cons_append, List.nil_append, List.append_nil, List.getElem?_cons_zero, List.getElem?_cons_succ, List.set_cons_zero, List.set_cons_succ, List.set_nil, List.getElem?_nil, Option.some.injEq, exists_eq_left', exists_eq_left, exists_eq_right, reduceCtorEq, false_and, and_false, true_and, and_true, exists_false, exists_const, wipeR, Nat.zero_le, String.reduceEq, D.int.injEq, D.str.injEq, D.bl.injEq, atI_0, atI_1, atI_2, atI_3, atI_4, beq_self_eq_true, not_true_eq_false, not_false_eq_true, Int.cast_ofNat_Int, Int.reduceEq, Int.reduceLE, Int.reduceLT, Int.reduceAdd, Int.reduceSub, Int.reduceMul, Int.reduceNeg, if_true, if_false, ite_true, ite_false, Bool.false_eq_true, if_neg, if_pos, decide_eq_true_eq, Bool.not_eq_true', decide_eq_false_iff_not, eq_self_iff_true, decide_true, decide_false, Bool.not_true, Bool.not_false, wps_raise, wps_try, wps_tryAs, tryCase_t, tryCase_f, tbl_hit, suiteOf_hit, wp_eDct, wp_eDGet, wp_eDNew, wp_eDDef, wps_dput, wps_augI, wps_asgTp, wps_asgUl, gUl2, gTp2, gTp3, gTp4, gTp5, gNs_cons, gN0_nil, wp_clN1, wp_clN2, wp_clN3, wp_slSt, gTupR_int, gLstR_int, gEndswith_str]
  refine ⟨by rw [List.length_map]; exact small_line (by omega), comp_one (all := ns) (fun c => D.int (c % 1000003)) (fun c hc F E hF => ?_) ?_⟩
  · simp only [wp_ok, wp_ret, wp_stuck, wp_bad, wp_bnd, wp_if, wp_fif, wps_ok_nx, wps_ok_rt, wps_ok_bk, wps_ok_ct, wps_ok_xc, wps_bad, wps_lft, wps_seq, wps_nil, wps_ret, wps_expr, wps_asg, wps_if, wp_run, wps_for, wps_while, wp_comp, wp_var, wp_C, wp_bin, wp_un, wp_T, wp_Tb, wp_asBl, wp_truthBl, wp_bAnd, wp_bOr, wp_bNot, wp_eIf, wp_eAnd, wp_eOr, wp_eNot, blCase_bl, wp_chain, wp_aNil, wp_aCons, wp_tup, wp_lst, wp_lstM, wp_call, wp_cl1, wp_cl2, wp_cl3, wp_cl4, wp_cl5, wp_meth, wp_isi, wp_oNone, wp_oSome, wp_sl, wp_it, wp_range1, wp_range2, wp_bYes, gEq_str, gNe_str, gEq_int, gNe_int, gEq_bl, gNe_bl, gIs_bl, gIsNot_bl, gAdd_int, gSub_int, gC_int, gI_int, gAdd_str, gAdd_tup, gAdd_lst, gNeg_int, gIx_tup, gIx_lst, gLen_tup, gLen_lst, gLen_str, gInt_int, gInt_bl, gTuple_lst, gTuple_tup, gList_lst, gList_tup, gSl_tup, gSl_lst, gSl_fl, gSl_str, srcL_tup, srcL_lst, srcL_fl, srcL_str, srcR1_int, typN, startR, List.map_cons, List.map_nil, List.length_cons, List.length_nil, Nat.reduceAdd, Nat.reduceSub, Nat.zero_add, Nat.sub_self, Nat.sub_zero, List.replicate_zero, List.replicate_succ, List.cons_append, List.nil_append, List.append_nil, List.getElem?_cons_zero, List.getElem?_cons_succ, List.set_cons_zero, List.set_cons_succ, List.set_nil, List.getElem?_nil, Option.some.injEq, exists_eq_left', exists_eq_left, exists_eq_right, reduceCtorEq, false_and, and_false, true_and, and_true, exists_false, exists_const, wipeR, Nat.zero_le, String.reduceEq, D.int.injEq, D.str.injEq, D.bl.injEq, atI_0, atI_1, atI_2, atI_3, atI_4, beq_self_eq_true, not_true_eq_false, not_false_eq_true, Int.cast_ofNat_Int, Int.reduceEq, Int.reduceLE, Int.reduceLT, Int.reduceAdd, Int.reduceSub, Int.reduceMul, Int.reduceNeg, if_true, if_false, ite_true, ite_false, Bool.false_eq_true, if_neg, if_pos, decide_eq_true_eq, Bool.not_eq_true', decide_eq_false_iff_not, eq_self_iff_true, decide_true, decide_false, Bool.not_true, Bool.not_false, wps_raise, wps_try, wps_tryAs, tryCase_t, tryCase_f, tbl_hit, suiteOf_hit, wp_eDct, wp_eDGet, wp_eDNew, wp_eDDef, wps_dput, wps_augI, wps_asgTp, wps_asgUl, gUl2, gTp2, gTp3, gTp4, gTp5, gNs_cons, gN0_nil, wp_clN1, wp_clN2, wp_clN3, wp_slSt, gTupR_int, gLstR_int, gEndswith_str]
    exact hF
  · rw [show ns.map (fun c => D.int (c % 1000003)) = (ns.map (· % 1000003)).map D.int by rw [List.map_map]; rfl, gs]
    refine ⟨small_line (by decide), ?_⟩
    refine hF _ ⟨⟨by simp, fun i m hi hm => ?_⟩, ns, 0, _, by omega, rfl⟩
    have := (List.getElem?_eq_some_iff.mp hm).1
    simp at this; omega
end K61

namespace K61
open PySem L2 DL
variable {fu n : Nat} {R S : Sto} {F : D → Sto → Prop} {E : Exc → Sto → Prop}
/-! rows drawn -/
theorem cutL8 {m : Nat} (h : m ≤ 8) : cutS (Str.ofString "abcdefgh") none (some (m : Int)) = ⟨(L8.take m).toArray⟩ := by
  rw [letters_eq]
  unfold cutS
  apply str_ext
  simp only [List.toList_toArray]
  have e1 : HT.sIx (Str.length ⟨#[97, 98, 99, 100, 101, 102, 103, 104]⟩) 0 none = 0 := rfl
  have e2 : HT.sIx (Str.length ⟨#[97, 98, 99, 100, 101, 102, 103, 104]⟩) (Str.length ⟨#[97, 98, 99, 100, 101, 102, 103, 104]⟩) (some (m : Int)) = m := by
    rw [HT.sIx_nat]; show min m 8 = m; omega
  rw [e1, e2]; simp [L8]
theorem ixL8 {v : Nat} (h : v < 8) {F E} : wp (gIx (.str (Str.ofString "abcdefgh")) (.int v) S) F E ↔ F (.str ⟨#[97 + v]⟩) S := by
  have : ∀ v, v < 8 → atI [97, 98, 99, 100, 101, 102, 103, 104] ((v : Nat) : Int) = some (97 + v) := by decide
  rw [letters_eq, gIx_sign]
  constructor
  · rintro ⟨_, c, hc, hF⟩
    rw [show (⟨#[97, 98, 99, 100, 101, 102, 103, 104]⟩ : Str).cps.toList = [97, 98, 99, 100, 101, 102, 103, 104] from rfl, this v h] at hc
    cases hc; exact hF
  · exact fun hF => ⟨small_line (by decide), _, this v h, hF⟩
theorem len_L8 : (Str.ofString "abcdefgh").length ≤ sizeLine := by rw [letters_eq]; exact small_line (by decide)
theorem len_dash : (Str.ofString "-").length = 1 := by rw [dash_eq]; rfl
def lS (ps : List Nat) : Str := ⟨(ps.map (97 + ·)).toArray⟩
theorem lS_len (ps : List Nat) : (lS ps).length = ps.length := by show (ps.map (97 + ·)).toArray.size = _; simp
theorem lS_snoc (ps : List Nat) (v : Nat) : lS ps ++ (⟨#[97 + v]⟩ : Str) = lS (ps ++ [v]) := by
  apply str_ext
  rw [app_toList]
  simp [lS]
theorem wd_eq (m : Nat) (ps : List Nat) : (⟨(L8.take m).toArray⟩ : Str) ++ Str.ofString "-" ++ lS ps = wd m ps := by rw [dash_eq]; rfl
theorem shuffle_drawn {N : Nat} (hN : 2 ≤ N) (h : DS R S) (hF : ∀ w S', ShO w.1 w.2 → w.2.length ≤ 4 → DS R S' → F (wdD w) S') : wp (den fu N i_l_shuffle [.ref 1, .int 5] S) F E := by
  obtain ⟨N', rfl⟩ : ∃ N', N = N' + 1 := ⟨N - 1, by omega⟩
  rw [show den fu (N' + 1) i_l_shuffle = runDef false 5 (b_l_shuffle fu (den fu N')) from rfl]
  simp only [b_l_shuffle, wp_ok, wp_ret, wp_stuck, wp_bad, wp_bnd, wp_if, wp_fif, wps_ok_nx, wps_ok_rt, wps_ok_bk, wps_ok_ct, wps_ok_xc, wps_bad, wps_lft, wps_seq, wps_nil, wps_ret, wps_expr, wps_asg, wps_if, wp_run, wps_for, wps_while, wp_comp, wp_var, wp_C, wp_bin, wp_un, wp_T, wp_Tb, wp_asBl, wp_truthBl, wp_bAnd, wp_bOr, wp_bNot, wp_eIf, wp_eAnd, wp_eOr, wp_eNot, blCase_bl, wp_chain, wp_aNil, wp_aCons, wp_tup, wp_lst, wp_lstM, wp_call, wp_cl1, wp_cl2, wp_cl3, wp_cl4, wp_cl5, wp_meth, wp_isi, wp_oNone, wp_oSome, wp_sl, wp_it, wp_range1, wp_range2, wp_bYes, gEq_str, gNe_str, gEq_int, gNe_int, gEq_bl, gNe_bl, gIs_bl, gIsNot_bl, gAdd_int, gSub_int, gC_int, gI_int, gAdd_str, gAdd_tup, gAdd_lst, gNeg_int, gIx_tup, gIx_lst, gLen_tup, gLen_lst, gLen_str, gInt_int, gInt_bl, gTuple_lst, gTuple_tup, gList_lst, gList_tup, gSl_tup, gSl_lst, gSl_fl, gSl_str, srcL_tup, srcL_lst, srcL_fl, srcL_str, srcR1_int, typN, startR, List.map_cons, List.map_nil, List.length_cons, List.length_nil, Nat.reduceAdd, Nat.reduceSub, Nat.zero_add, Nat.sub_self, Nat.sub_zero, List.replicate_zero, List.replicate_succ, List.cons_append, List.nil_append, List.append_nil, List.getElem?_cons_zero, List.getElem?_cons_succ, List.set_cons_zero, List.set_cons_succ, List.set_nil, List.getElem?_nil, Option.some.injEq, exists_eq_left', exists_eq_left, exists_eq_right, reduceCtorEq, false_and, and_false, true_and, and_true, exists_false, exists_const, wipeR, Nat.zero_le, String.reduceEq, D.int.injEq, D.str.injEq, D.bl.injEq, atI_0, atI_1, atI_2, atI_3, atI_4, beq_self_eq_true, not_true_eq_false, not_false_eq_true, Int.cast_ofNat_Int, Int.reduceEq, Int.reduceLE, Int.reduceLT, Int.reduceAdd, Int.reduceSub, Int.reduceMul, Int.reduceNeg, if_true, if_false, ite_true, ite_false, Bool.false_eq_true, if_neg, if_pos, decide_eq_true_eq, Bool.not_eq_true', decide_eq_false_iff_not, eq_self_iff_true, decide_true, decide_false, Bool.not_true, Bool.not_false, wps_raise, wps_try, wps_tryAs, tryCase_t, tryCase_f, tbl_hit, suiteOf_hit, wp_eDct, wp_eDGet, wp_eDNew, wp_eDDef, wps_dput, wps_augI, wps_asgTp, wps_asgUl, gUl2, gTp2, gTp3, gTp4, gTp5, gNs_cons, gN0_nil, wp_clN1, wp_clN2, wp_clN3, wp_slSt, gTupR_int, gLstR_int, gEndswith_str]
  refine draw_ok (by omega) h (by decide) (by decide) fun v1 S1 hv1 hv1' h1 => ?_
  refine draw_ok (by omega) h1 (by decide) (by decide) fun v2 S2 hv2 hv2' h2 => ?_
  refine ⟨small_line (by decide), ?_⟩
  refine draw_ok (by omega) h2 (by decide) (by decide) fun v3 S3 hv3 hv3' h3 => ?_
  simp only [wp_ok, wp_ret, wp_stuck, wp_bad, wp_bnd, wp_if, wp_fif, wps_ok_nx, wps_ok_rt, wps_ok_bk, wps_ok_ct, wps_ok_xc, wps_bad, wps_lft, wps_seq, wps_nil, wps_ret, wps_expr, wps_asg, wps_if, wp_run, wps_for, wps_while, wp_comp, wp_var, wp_C, wp_bin, wp_un, wp_T, wp_Tb, wp_asBl, wp_truthBl, wp_bAnd, wp_bOr, wp_bNot, wp_eIf, wp_eAnd, wp_eOr, wp_eNot, blCase_bl, wp_chain, wp_aNil, wp_aCons, wp_tup, wp_lst, wp_lstM, wp_call, wp_cl1, wp_cl2, wp_cl3, wp_cl4, wp_cl5, wp_meth, wp_isi, wp_oNone, wp_oSome, wp_sl, wp_it, wp_range1, wp_range2, wp_bYes, gEq_str, gNe_str, gEq_int, gNe_int, gEq_bl, gNe_bl, gIs_bl, gIsNot_bl, gAdd_int, gSub_int, gC_int, gI_int, gAdd_str, gAdd_tup, gAdd_lst, gNeg_int, gIx_tup, gIx_lst, gLen_tup, gLen_lst, gLen_str, gInt_int, gInt_bl, gTuple_lst, gTuple_tup, gList_lst, gList_tup, gSl_tup, gSl_lst, gSl_fl, gSl_str, srcL_tup, srcL_lst, srcL_fl, srcL_str, srcR1_int, typN, startR, List.map_cons, List.map_nil, List.length_cons, List.length_nil, Nat.reduceAdd, Nat.reduceSub, Nat.zero_add, Nat.sub_self, Nat.sub_zero, List.replicate_zero, List.replicate_succ, List.cons_append, List.nil_append, List.append_nil, List.getElem?_cons_zero, List.getElem?_cons_succ, List.set_cons_zero, List.set_cons_succ, List.set_nil, List.getElem?_nil, Option.some.injEq, exists_eq_left', exists_eq_left, exists_eq_right, reduceCtorEq, false_and, and_false, true_and, and_true, exists_false, exists_const, wipeR, Nat.zero_le, String.reduceEq, D.int.injEq, D.str.injEq, D.bl.injEq, atI_0, atI_1, atI_2, atI_3, atI_4, beq_self_eq_true, not_true_eq_false, not_false_eq_true, Int.cast_ofNat_Int, Int.reduceEq, Int.reduceLE, Int.reduceLT, Int.reduceAdd, Int.reduceSub, Int.reduceMul, Int.reduceNeg, if_true, if_false, ite_true, ite_false, Bool.false_eq_true, if_neg, if_pos, decide_eq_true_eq, Bool.not_eq_true', decide_eq_false_iff_not, eq_self_iff_true, decide_true, decide_false, Bool.not_true, Bool.not_false, wps_raise, wps_try, wps_tryAs, tryCase_t, tryCase_f, tbl_hit, suiteOf_hit, wp_eDct, wp_eDGet, wp_eDNew, wp_eDDef, wps_dput, wps_augI, wps_asgTp, wps_asgUl, gUl2, gTp2, gTp3, gTp4, gTp5, gNs_cons, gN0_nil, wp_clN1, wp_clN2, wp_clN3, wp_slSt, gTupR_int, gLstR_int, gEndswith_str]
  have hd : ∃ m : Nat, m ≤ 8 ∧ atI [D.int v1, D.int v2] (if v3 = 1 then 1 else 0) = some (.int (m : Nat)) := by
    by_cases h1 : v3 = 1
    · rw [if_pos h1]; exact ⟨v2.toNat, by omega, by rw [Int.toNat_of_nonneg hv2]; rfl⟩
    · rw [if_neg h1]; exact ⟨v1.toNat, by omega, by rw [Int.toNat_of_nonneg hv1]; rfl⟩
  obtain ⟨m, hm, hd⟩ := hd
  refine ⟨_, hd, ?_⟩
  have hl3 : ∀ {S'}, DS R S' → S'.length = S.length := fun h' => by rw [h'.len, h.len]
  have l1 : (L8.take m).length ≤ 8 := by rw [List.length_take]; omega
  have len1 : ∀ ps : List Nat, ps.length ≤ 4 → (⟨(L8.take m).toArray⟩ : Str).length + (Str.ofString "-").length ≤ sizeLine ∧ ((⟨(L8.take m).toArray⟩ : Str) ++ Str.ofString "-").length + (lS ps).length ≤ sizeLine := fun ps hp => by
    rw [lS_len, dash_eq]
    constructor
    · show (L8.take m).toArray.size + 1 ≤ _
      rw [List.size_toArray]
      exact small_line (by omega)
    · show ((L8.take m).toArray ++ #[45]).size + _ ≤ _
      rw [Array.size_append, List.size_toArray]
      exact small_line (by show (L8.take m).length + 1 + _ ≤ _; omega)
  by_cases hz : m = 0
  · subst hz
    simp only [Int.ofNat_zero, wp_ok, wp_ret, wp_stuck, wp_bad, wp_bnd, wp_if, wp_fif, wps_ok_nx, wps_ok_rt, wps_ok_bk, wps_ok_ct, wps_ok_xc, wps_bad, wps_lft, wps_seq, wps_nil, wps_ret, wps_expr, wps_asg, wps_if, wp_run, wps_for, wps_while, wp_comp, wp_var, wp_C, wp_bin, wp_un, wp_T, wp_Tb, wp_asBl, wp_truthBl, wp_bAnd, wp_bOr, wp_bNot, wp_eIf, wp_eAnd, wp_eOr, wp_eNot, blCase_bl, wp_chain, wp_aNil, wp_aCons, wp_tup, wp_lst, wp_lstM, wp_call, wp_cl1, wp_cl2, wp_cl3, wp_cl4, wp_cl5, wp_meth, wp_isi, wp_oNone, wp_oSome, wp_sl, wp_it, wp_range1, wp_range2, wp_bYes, gEq_str, gNe_str, gEq_int, gNe_int, gEq_bl, gNe_bl, gIs_bl, gIsNot_bl, gAdd_int, gSub_int, gC_int, gI_int, gAdd_str, gAdd_tup, gAdd_lst, gNeg_int, gIx_tup, gIx_lst, gLen_tup, gLen_lst, gLen_str, gInt_int, gInt_bl, gTuple_lst, gTuple_tup, gList_lst, gList_tup, gSl_tup, gSl_lst, gSl_fl, gSl_str, srcL_tup, srcL_lst, srcL_fl, srcL_str, srcR1_int, typN, startR, List.map_cons, List.map_nil, List.length_cons, List.length_nil, Nat.reduceAdd, Nat.reduceSub, Nat.zero_add, Nat.sub_self, Nat.sub_zero, List.replicate_zero, List.replicate_succ, List.cons_append, List.nil_append, List.append_nil, List.getElem?_cons_zero, List.getElem?_cons_succ, List.set_cons_zero, List.set_cons_succ, List.set_nil, List.getElem?_nil, Option.some.injEq, exists_eq_left', exists_eq_left, exists_eq_right, reduceCtorEq, false_and, and_false, true_and, and_true, exists_false, exists_const, wipeR, Nat.zero_le, String.reduceEq, D.int.injEq, D.str.injEq, D.bl.injEq, atI_0, atI_1, atI_2, atI_3, atI_4, beq_self_eq_true, not_true_eq_false, not_false_eq_true, Int.cast_ofNat_Int, Int.reduceEq, Int.reduceLE, Int.reduceLT, Int.reduceAdd, Int.reduceSub, Int.reduceMul, Int.reduceNeg, if_true, if_false, ite_true, ite_false, Bool.false_eq_true, if_neg, if_pos, decide_eq_true_eq, Bool.not_eq_true', decide_eq_false_iff_not, eq_self_iff_true, decide_true, decide_false, Bool.not_true, Bool.not_false, wps_raise, wps_try, wps_tryAs, tryCase_t, tryCase_f, tbl_hit, suiteOf_hit, wp_eDct, wp_eDGet, wp_eDNew, wp_eDDef, wps_dput, wps_augI, wps_asgTp, wps_asgUl, gUl2, gTp2, gTp3, gTp4, gTp5, gNs_cons, gN0_nil, wp_clN1, wp_clN2, wp_clN3, wp_slSt, gTupR_int, gLstR_int, gEndswith_str]
    refine ⟨len_L8, ?_⟩
    have e0 : Str.ofString "" = lS [] := by decide +kernel
    have c0 := cutL8 (m := 0) (by omega)
    simp only [Int.ofNat_zero] at c0
    rw [c0, e0, wd_eq]
    have q1 := (len1 [] (by decide)).1
    have q2 := (len1 [] (by decide)).2
    rw [show (0 : Nat) = 0 from rfl] at q1
    exact ⟨q1, q2, h3.fin_same (hl3 h3) rfl (hF (0, []) _ ⟨by decide, by decide, fun _ h => (List.not_mem_nil h).elim⟩ (by decide) h3)⟩
  · have hpos : ((m : Nat) : Int) > 0 := by omega
    simp only [hpos, wp_ok, wp_ret, wp_stuck, wp_bad, wp_bnd, wp_if, wp_fif, wps_ok_nx, wps_ok_rt, wps_ok_bk, wps_ok_ct, wps_ok_xc, wps_bad, wps_lft, wps_seq, wps_nil, wps_ret, wps_expr, wps_asg, wps_if, wp_run, wps_for, wps_while, wp_comp, wp_var, wp_C, wp_bin, wp_un, wp_T, wp_Tb, wp_asBl, wp_truthBl, wp_bAnd, wp_bOr, wp_bNot, wp_eIf, wp_eAnd, wp_eOr, wp_eNot, blCase_bl, wp_chain, wp_aNil, wp_aCons, wp_tup, wp_lst, wp_lstM, wp_call, wp_cl1, wp_cl2, wp_cl3, wp_cl4, wp_cl5, wp_meth, wp_isi, wp_oNone, wp_oSome, wp_sl, wp_it, wp_range1, wp_range2, wp_bYes, gEq_str, gNe_str, gEq_int, gNe_int, gEq_bl, gNe_bl, gIs_bl, gIsNot_bl, gAdd_int, gSub_int, gC_int, gI_int, gAdd_str, gAdd_tup, gAdd_lst, gNeg_int, gIx_tup, gIx_lst, gLen_tup, gLen_lst, gLen_str, gInt_int, gInt_bl, gTuple_lst, gTuple_tup, gList_lst, gList_tup, gSl_tup, gSl_lst, gSl_fl, gSl_str, srcL_tup, srcL_lst, srcL_fl, srcL_str, srcR1_int, typN, startR, List.map_cons, List.map_nil, List.length_cons, List.length_nil, Nat.reduceAdd, Nat.reduceSub, Nat.zero_add, Nat.sub_self, Nat.sub_zero, List.replicate_zero, List.replicate_succ, List.cons_append, List.nil_append, List.append_nil, List.getElem?_cons_zero, List.getElem?_cons_succ, List.set_cons_zero, List.set_cons_succ, List.set_nil, List.getElem?_nil, Option.some.injEq, exists_eq_left', exists_eq_left, exists_eq_right, reduceCtorEq, false_and, and_false, true_and, and_true, exists_false, exists_const, wipeR, Nat.zero_le, String.reduceEq, D.int.injEq, D.str.injEq, D.bl.injEq, atI_0, atI_1, atI_2, atI_3, atI_4, beq_self_eq_true, not_true_eq_false, not_false_eq_true, Int.cast_ofNat_Int, Int.reduceEq, Int.reduceLE, Int.reduceLT, Int.reduceAdd, Int.reduceSub, Int.reduceMul, Int.reduceNeg, if_true, if_false, ite_true, ite_false, Bool.false_eq_true, if_neg, if_pos, decide_eq_true_eq, Bool.not_eq_true', decide_eq_false_iff_not, eq_self_iff_true, decide_true, decide_false, Bool.not_true, Bool.not_false, wps_raise, wps_try, wps_tryAs, tryCase_t, tryCase_f, tbl_hit, suiteOf_hit, wp_eDct, wp_eDGet, wp_eDNew, wp_eDDef, wps_dput, wps_augI, wps_asgTp, wps_asgUl, gUl2, gTp2, gTp3, gTp4, gTp5, gNs_cons, gN0_nil, wp_clN1, wp_clN2, wp_clN3, wp_slSt, gTupR_int, gLstR_int, gEndswith_str]
    refine draw_ok (by omega) h3 (by decide) (by decide) fun v4 S4 hv4 hv4' h4 => ?_
    simp only [wp_ok, wp_ret, wp_stuck, wp_bad, wp_bnd, wp_if, wp_fif, wps_ok_nx, wps_ok_rt, wps_ok_bk, wps_ok_ct, wps_ok_xc, wps_bad, wps_lft, wps_seq, wps_nil, wps_ret, wps_expr, wps_asg, wps_if, wp_run, wps_for, wps_while, wp_comp, wp_var, wp_C, wp_bin, wp_un, wp_T, wp_Tb, wp_asBl, wp_truthBl, wp_bAnd, wp_bOr, wp_bNot, wp_eIf, wp_eAnd, wp_eOr, wp_eNot, blCase_bl, wp_chain, wp_aNil, wp_aCons, wp_tup, wp_lst, wp_lstM, wp_call, wp_cl1, wp_cl2, wp_cl3, wp_cl4, wp_cl5, wp_meth, wp_isi, wp_oNone, wp_oSome, wp_sl, wp_it, wp_range1, wp_range2, wp_bYes, gEq_str, gNe_str, gEq_int, gNe_int, gEq_bl, gNe_bl, gIs_bl, gIsNot_bl, gAdd_int, gSub_int, gC_int, gI_int, gAdd_str, gAdd_tup, gAdd_lst, gNeg_int, gIx_tup, gIx_lst, gLen_tup, gLen_lst, gLen_str, gInt_int, gInt_bl, gTuple_lst, gTuple_tup, gList_lst, gList_tup, gSl_tup, gSl_lst, gSl_fl, gSl_str, srcL_tup, srcL_lst, srcL_fl, srcL_str, srcR1_int, typN, startR, List.map_cons, List.map_nil, List.length_cons, List.length_nil, Nat.reduceAdd, Nat.reduceSub, Nat.zero_add, Nat.sub_self, Nat.sub_zero, List.replicate_zero, List.replicate_succ, List.cons_append, List.nil_append, List.append_nil, List.getElem?_cons_zero, List.getElem?_cons_succ, List.set_cons_zero, List.set_cons_succ, List.set_nil, List.getElem?_nil, Option.some.injEq, exists_eq_left', exists_eq_left, exists_eq_right, reduceCtorEq, false_and, and_false, true_and, and_true, exists_false, exists_const, wipeR, Nat.zero_le, String.reduceEq, D.int.injEq, D.str.injEq, D.bl.injEq, atI_0, atI_1, atI_2, atI_3, atI_4, beq_self_eq_true, not_true_eq_false, not_false_eq_true, Int.cast_ofNat_Int, Int.reduceEq, Int.reduceLE, Int.reduceLT, Int.reduceAdd, Int.reduceSub, Int.reduceMul, Int.reduceNeg, if_true, if_false, ite_true, ite_false, Bool.false_eq_true, if_neg, if_pos, decide_eq_true_eq, Bool.not_eq_true', decide_eq_false_iff_not, eq_self_iff_true, decide_true, decide_false, Bool.not_true, Bool.not_false, wps_raise, wps_try, wps_tryAs, tryCase_t, tryCase_f, tbl_hit, suiteOf_hit, wp_eDct, wp_eDGet, wp_eDNew, wp_eDDef, wps_dput, wps_augI, wps_asgTp, wps_asgUl, gUl2, gTp2, gTp3, gTp4, gTp5, gNs_cons, gN0_nil, wp_clN1, wp_clN2, wp_clN3, wp_slSt, gTupR_int, gLstR_int, gEndswith_str]
    refine ⟨by simp [bnd62]; omega, ?_⟩
    refine wps_forM (fun k ρ S' => k ≤ 4 → DS R S' ∧ ∃ ps o, ps.length = k ∧ (∀ p ∈ ps, p < m) ∧ ρ = [some (.ref 1), some (.int 5), some (.int (m : Nat)), some (.str (lS ps)), o]) (fun _ _ _ _ => trivial) (fun k d ρ S' hd hI => ?_) (fun ρ S' hI => ?_) (fun _ => ⟨h4, [], none, rfl, fun _ h => (List.not_mem_nil h).elim, ?_⟩)
    · have hk : k < v4.toNat := by
        have := (List.getElem?_eq_some_iff.mp hd).1
        rwa [rangeD_len] at this
      obtain ⟨h', ps, o, hp, hlt, rfl⟩ := hI (by omega)
      refine ⟨_, rfl, ?_⟩
      simp only [wp_ok, wp_ret, wp_stuck, wp_bad, wp_bnd, wp_if, wp_fif, wps_ok_nx, wps_ok_rt, wps_ok_bk, wps_ok_ct, wps_ok_xc, wps_bad, wps_lft, wps_seq, wps_nil, wps_ret, wps_expr, wps_asg, wps_if, wp_run, wps_for, wps_while, wp_comp, wp_var, wp_C, wp_bin, wp_un, wp_T, wp_Tb, wp_asBl, wp_truthBl, wp_bAnd, wp_bOr, wp_bNot, wp_eIf, wp_eAnd, wp_eOr, wp_eNot, blCase_bl, wp_chain, wp_aNil, wp_aCons, wp_tup, wp_lst, wp_lstM, wp_call, wp_cl1, wp_cl2, wp_cl3, wp_cl4, wp_cl5, wp_meth, wp_isi, wp_oNone, wp_oSome, wp_sl, wp_it, wp_range1, wp_range2, wp_bYes, gEq_str, gNe_str, gEq_int, gNe_int, gEq_bl, gNe_bl, gIs_bl, gIsNot_bl, gAdd_int, gSub_int, gC_int, gI_int, gAdd_str, gAdd_tup, gAdd_lst, gNeg_int, gIx_tup, gIx_lst, gLen_tup, gLen_lst, gLen_str, gInt_int, gInt_bl, gTuple_lst, gTuple_tup, gList_lst, gList_tup, gSl_tup, gSl_lst, gSl_fl, gSl_str, srcL_tup, srcL_lst, srcL_fl, srcL_str, srcR1_int, typN, startR, List.map_cons, List.map_nil, List.length_cons, List.length_nil, Nat.reduceAdd, Nat.reduceSub, Nat.zero_add, Nat.sub_self, Nat.sub_zero, List.replicate_zero, List.replicate_succ, List.cons_append, List.nil_append, List.append_nil, List.getElem?_cons_zero, List.getElem?_cons_succ, List.set_cons_zero, List.set_cons_succ, List.set_nil, List.getElem?_nil, Option.some.injEq, exists_eq_left', exists_eq_left, exists_eq_right, reduceCtorEq, false_and, and_false, true_and, and_true, exists_false, exists_const, wipeR, Nat.zero_le, String.reduceEq, D.int.injEq, D.str.injEq, D.bl.injEq, atI_0, atI_1, atI_2, atI_3, atI_4, beq_self_eq_true, not_true_eq_false, not_false_eq_true, Int.cast_ofNat_Int, Int.reduceEq, Int.reduceLE, Int.reduceLT, Int.reduceAdd, Int.reduceSub, Int.reduceMul, Int.reduceNeg, if_true, if_false, ite_true, ite_false, Bool.false_eq_true, if_neg, if_pos, decide_eq_true_eq, Bool.not_eq_true', decide_eq_false_iff_not, eq_self_iff_true, decide_true, decide_false, Bool.not_true, Bool.not_false, wps_raise, wps_try, wps_tryAs, tryCase_t, tryCase_f, tbl_hit, suiteOf_hit, wp_eDct, wp_eDGet, wp_eDNew, wp_eDDef, wps_dput, wps_augI, wps_asgTp, wps_asgUl, gUl2, gTp2, gTp3, gTp4, gTp5, gNs_cons, gN0_nil, wp_clN1, wp_clN2, wp_clN3, wp_slSt, gTupR_int, gLstR_int, gEndswith_str]
      refine draw_ok (by omega) h' (by omega) (by omega) fun v5 S5 hv5 hv5' h5 => ?_
      obtain ⟨v, rfl⟩ : ∃ v : Nat, v5 = v := ⟨v5.toNat, by omega⟩
      rw [ixL8 (by omega)]
      simp only [wp_ok, wp_ret, wp_stuck, wp_bad, wp_bnd, wp_if, wp_fif, wps_ok_nx, wps_ok_rt, wps_ok_bk, wps_ok_ct, wps_ok_xc, wps_bad, wps_lft, wps_seq, wps_nil, wps_ret, wps_expr, wps_asg, wps_if, wp_run, wps_for, wps_while, wp_comp, wp_var, wp_C, wp_bin, wp_un, wp_T, wp_Tb, wp_asBl, wp_truthBl, wp_bAnd, wp_bOr, wp_bNot, wp_eIf, wp_eAnd, wp_eOr, wp_eNot, blCase_bl, wp_chain, wp_aNil, wp_aCons, wp_tup, wp_lst, wp_lstM, wp_call, wp_cl1, wp_cl2, wp_cl3, wp_cl4, wp_cl5, wp_meth, wp_isi, wp_oNone, wp_oSome, wp_sl, wp_it, wp_range1, wp_range2, wp_bYes, gEq_str, gNe_str, gEq_int, gNe_int, gEq_bl, gNe_bl, gIs_bl, gIsNot_bl, gAdd_int, gSub_int, gC_int, gI_int, gAdd_str, gAdd_tup, gAdd_lst, gNeg_int, gIx_tup, gIx_lst, gLen_tup, gLen_lst, gLen_str, gInt_int, gInt_bl, gTuple_lst, gTuple_tup, gList_lst, gList_tup, gSl_tup, gSl_lst, gSl_fl, gSl_str, srcL_tup, srcL_lst, srcL_fl, srcL_str, srcR1_int, typN, startR, List.map_cons, List.map_nil, List.length_cons, List.length_nil, Nat.reduceAdd, Nat.reduceSub, Nat.zero_add, Nat.sub_self, Nat.sub_zero, List.replicate_zero, List.replicate_succ, List.cons_append, List.nil_append, List.append_nil, List.getElem?_cons_zero, List.getElem?_cons_succ, List.set_cons_zero, List.set_cons_succ, List.set_nil, List.getElem?_nil, Option.some.injEq, exists_eq_left', exists_eq_left, exists_eq_right, reduceCtorEq, false_and, and_false, true_and, and_true, exists_false, exists_const, wipeR, Nat.zero_le, String.reduceEq, D.int.injEq, D.str.injEq, D.bl.injEq, atI_0, atI_1, atI_2, atI_3, atI_4, beq_self_eq_true, not_true_eq_false, not_false_eq_true, Int.cast_ofNat_Int, Int.reduceEq, Int.reduceLE, Int.reduceLT, Int.reduceAdd, Int.reduceSub, Int.reduceMul, Int.reduceNeg, if_true, if_false, ite_true, ite_false, Bool.false_eq_true, if_neg, if_pos, decide_eq_true_eq, Bool.not_eq_true', decide_eq_false_iff_not, eq_self_iff_true, decide_true, decide_false, Bool.not_true, Bool.not_false, wps_raise, wps_try, wps_tryAs, tryCase_t, tryCase_f, tbl_hit, suiteOf_hit, wp_eDct, wp_eDGet, wp_eDNew, wp_eDDef, wps_dput, wps_augI, wps_asgTp, wps_asgUl, gUl2, gTp2, gTp3, gTp4, gTp5, gNs_cons, gN0_nil, wp_clN1, wp_clN2, wp_clN3, wp_slSt, gTupR_int, gLstR_int, gEndswith_str]
      rw [lS_snoc, lS_len]
      refine ⟨small_line (by show _ + 1 ≤ _; omega), fun hk4 => ⟨h5, ps ++ [v], some d, by simp [hp], fun p hp => ?_, rfl⟩⟩
      rcases List.mem_append.mp hp with hp | hp
      · exact hlt p hp
      · rw [List.mem_singleton.mp hp]; omega
    · obtain ⟨h', ps, o, hp, hlt, rfl⟩ := hI (by rw [rangeD_len]; omega)
      rw [rangeD_len] at hp
      simp only [cutL8 hm, wp_ok, wp_ret, wp_stuck, wp_bad, wp_bnd, wp_if, wp_fif, wps_ok_nx, wps_ok_rt, wps_ok_bk, wps_ok_ct, wps_ok_xc, wps_bad, wps_lft, wps_seq, wps_nil, wps_ret, wps_expr, wps_asg, wps_if, wp_run, wps_for, wps_while, wp_comp, wp_var, wp_C, wp_bin, wp_un, wp_T, wp_Tb, wp_asBl, wp_truthBl, wp_bAnd, wp_bOr, wp_bNot, wp_eIf, wp_eAnd, wp_eOr, wp_eNot, blCase_bl, wp_chain, wp_aNil, wp_aCons, wp_tup, wp_lst, wp_lstM, wp_call, wp_cl1, wp_cl2, wp_cl3, wp_cl4, wp_cl5, wp_meth, wp_isi, wp_oNone, wp_oSome, wp_sl, wp_it, wp_range1, wp_range2, wp_bYes, gEq_str, gNe_str, gEq_int, gNe_int, gEq_bl, gNe_bl, gIs_bl, gIsNot_bl, gAdd_int, gSub_int, gC_int, gI_int, gAdd_str, gAdd_tup, gAdd_lst, gNeg_int, gIx_tup, gIx_lst, gLen_tup, gLen_lst, gLen_str, gInt_int, gInt_bl, gTuple_lst, gTuple_tup, gList_lst, gList_tup, gSl_tup, gSl_lst, gSl_fl, gSl_str, srcL_tup, srcL_lst, srcL_fl, srcL_str, srcR1_int, typN, startR, List.map_cons, List.map_nil, List.length_cons, List.length_nil, Nat.reduceAdd, Nat.reduceSub, Nat.zero_add, Nat.sub_self, Nat.sub_zero, List.replicate_zero, List.replicate_succ, List.cons_append, List.nil_append, List.append_nil, List.getElem?_cons_zero, List.getElem?_cons_succ, List.set_cons_zero, List.set_cons_succ, List.set_nil, List.getElem?_nil, Option.some.injEq, exists_eq_left', exists_eq_left, exists_eq_right, reduceCtorEq, false_and, and_false, true_and, and_true, exists_false, exists_const, wipeR, Nat.zero_le, String.reduceEq, D.int.injEq, D.str.injEq, D.bl.injEq, atI_0, atI_1, atI_2, atI_3, atI_4, beq_self_eq_true, not_true_eq_false, not_false_eq_true, Int.cast_ofNat_Int, Int.reduceEq, Int.reduceLE, Int.reduceLT, Int.reduceAdd, Int.reduceSub, Int.reduceMul, Int.reduceNeg, if_true, if_false, ite_true, ite_false, Bool.false_eq_true, if_neg, if_pos, decide_eq_true_eq, Bool.not_eq_true', decide_eq_false_iff_not, eq_self_iff_true, decide_true, decide_false, Bool.not_true, Bool.not_false, wps_raise, wps_try, wps_tryAs, tryCase_t, tryCase_f, tbl_hit, suiteOf_hit, wp_eDct, wp_eDGet, wp_eDNew, wp_eDDef, wps_dput, wps_augI, wps_asgTp, wps_asgUl, gUl2, gTp2, gTp3, gTp4, gTp5, gNs_cons, gN0_nil, wp_clN1, wp_clN2, wp_clN3, wp_slSt, gTupR_int, gLstR_int, gEndswith_str]
      rw [wd_eq]
      refine ⟨len_L8, (len1 ps (by omega)).1, (len1 ps (by omega)).2, h'.fin_same (hl3 h') rfl (hF (m, ps) _ ⟨hm, by show ps.length ≤ 12; omega, hlt⟩ (by show ps.length ≤ 4; omega) h')⟩
    · rw [show Str.ofString "" = lS [] from by decide +kernel]
theorem shuffles_drawn {N : Nat} (hN : 3 ≤ N) (h : DS R S) (hF : ∀ row S', row.length ≤ 6 → RowO row → DS R S' → F (rowD row) S') : wp (den fu N i_l_shuffles [.ref 1, .int 6] S) F E := by
  obtain ⟨N', rfl⟩ : ∃ N', N = N' + 1 := ⟨N - 1, by omega⟩
  rw [show den fu (N' + 1) i_l_shuffles = runDef false 3 (b_l_shuffles fu (den fu N')) from rfl]
  simp only [b_l_shuffles, wp_ok, wp_ret, wp_stuck, wp_bad, wp_bnd, wp_if, wp_fif, wps_ok_nx, wps_ok_rt, wps_ok_bk, wps_ok_ct, wps_ok_xc, wps_bad, wps_lft, wps_seq, wps_nil, wps_ret, wps_expr, wps_asg, wps_if, wp_run, wps_for, wps_while, wp_comp, wp_var, wp_C, wp_bin, wp_un, wp_T, wp_Tb, wp_asBl, wp_truthBl, wp_bAnd, wp_bOr, wp_bNot, wp_eIf, wp_eAnd, wp_eOr, wp_eNot, blCase_bl, wp_chain, wp_aNil, wp_aCons, wp_tup, wp_lst, wp_lstM, wp_call, wp_cl1, wp_cl2, wp_cl3, wp_cl4, wp_cl5, wp_meth, wp_isi, wp_oNone, wp_oSome, wp_sl, wp_it, wp_range1, wp_range2, wp_bYes, gEq_str, gNe_str, gEq_int, gNe_int, gEq_bl, gNe_bl, gIs_bl, gIsNot_bl, gAdd_int, gSub_int, gC_int, gI_int, gAdd_str, gAdd_tup, gAdd_lst, gNeg_int, gIx_tup, gIx_lst, gLen_tup, gLen_lst, gLen_str, gInt_int, gInt_bl, gTuple_lst, gTuple_tup, gList_lst, gList_tup, gSl_tup, gSl_lst, gSl_fl, gSl_str, srcL_tup, srcL_lst, srcL_fl, srcL_str, srcR1_int, typN, startR, List.map_cons, List.map_nil, List.length_cons, List.length_nil, Nat.reduceAdd, Nat.reduceSub, Nat.zero_add, Nat.sub_self, Nat.sub_zero, List.replicate_zero, List.replicate_succ, List.cons_append, List.nil_append, List.append_nil, List.getElem?_cons_zero, List.getElem?_cons_succ, List.set_cons_zero, List.set_cons_succ, List.set_nil, List.getElem?_nil, Option.some.injEq, exists_eq_left', exists_eq_left, exists_eq_right, reduceCtorEq, false_and, and_false, true_and, and_true, exists_false, exists_const, wipeR, Nat.zero_le, String.reduceEq, D.int.injEq, D.str.injEq, D.bl.injEq, atI_0, atI_1, atI_2, atI_3, atI_4, beq_self_eq_true, not_true_eq_false, not_false_eq_true, Int.cast_ofNat_Int, Int.reduceEq, Int.reduceLE, Int.reduceLT, Int.reduceAdd, Int.reduceSub, Int.reduceMul, Int.reduceNeg, if_true, if_false, ite_true, ite_false, Bool.false_eq_true, if_neg, if_pos, decide_eq_true_eq, Bool.not_eq_true', decide_eq_false_iff_not, eq_self_iff_true, decide_true, decide_false, Bool.not_true, Bool.not_false, wps_raise, wps_try, wps_tryAs, tryCase_t, tryCase_f, tbl_hit, suiteOf_hit, wp_eDct, wp_eDGet, wp_eDNew, wp_eDDef, wps_dput, wps_augI, wps_asgTp, wps_asgUl, gUl2, gTp2, gTp3, gTp4, gTp5, gNs_cons, gN0_nil, wp_clN1, wp_clN2, wp_clN3, wp_slSt, gTupR_int, gLstR_int, gEndswith_str]
  refine draw_ok (by omega) h (by decide) (by decide) fun v S1 hv hv' h1 => ?_
  simp only [wp_ok, wp_ret, wp_stuck, wp_bad, wp_bnd, wp_if, wp_fif, wps_ok_nx, wps_ok_rt, wps_ok_bk, wps_ok_ct, wps_ok_xc, wps_bad, wps_lft, wps_seq, wps_nil, wps_ret, wps_expr, wps_asg, wps_if, wp_run, wps_for, wps_while, wp_comp, wp_var, wp_C, wp_bin, wp_un, wp_T, wp_Tb, wp_asBl, wp_truthBl, wp_bAnd, wp_bOr, wp_bNot, wp_eIf, wp_eAnd, wp_eOr, wp_eNot, blCase_bl, wp_chain, wp_aNil, wp_aCons, wp_tup, wp_lst, wp_lstM, wp_call, wp_cl1, wp_cl2, wp_cl3, wp_cl4, wp_cl5, wp_meth, wp_isi, wp_oNone, wp_oSome, wp_sl, wp_it, wp_range1, wp_range2, wp_bYes, gEq_str, gNe_str, gEq_int, gNe_int, gEq_bl, gNe_bl, gIs_bl, gIsNot_bl, gAdd_int, gSub_int, gC_int, gI_int, gAdd_str, gAdd_tup, gAdd_lst, gNeg_int, gIx_tup, gIx_lst, gLen_tup, gLen_lst, gLen_str, gInt_int, gInt_bl, gTuple_lst, gTuple_tup, gList_lst, gList_tup, gSl_tup, gSl_lst, gSl_fl, gSl_str, srcL_tup, srcL_lst, srcL_fl, srcL_str, srcR1_int, typN, startR, List.map_cons, List.map_nil, List.length_cons, List.length_nil, Nat.reduceAdd, Nat.reduceSub, Nat.zero_add, Nat.sub_self, Nat.sub_zero, List.replicate_zero, List.replicate_succ, List.cons_append, List.nil_append, List.append_nil, List.getElem?_cons_zero, List.getElem?_cons_succ, List.set_cons_zero, List.set_cons_succ, List.set_nil, List.getElem?_nil, Option.some.injEq, exists_eq_left', exists_eq_left, exists_eq_right, reduceCtorEq, false_and, and_false, true_and, and_true, exists_false, exists_const, wipeR, Nat.zero_le, String.reduceEq, D.int.injEq, D.str.injEq, D.bl.injEq, atI_0, atI_1, atI_2, atI_3, atI_4, beq_self_eq_true, not_true_eq_false, not_false_eq_true, Int.cast_ofNat_Int, Int.reduceEq, Int.reduceLE, Int.reduceLT, Int.reduceAdd, Int.reduceSub, Int.reduceMul, Int.reduceNeg, if_true, if_false, ite_true, ite_false, Bool.false_eq_true, if_neg, if_pos, decide_eq_true_eq, Bool.not_eq_true', decide_eq_false_iff_not, eq_self_iff_true, decide_true, decide_false, Bool.not_true, Bool.not_false, wps_raise, wps_try, wps_tryAs, tryCase_t, tryCase_f, tbl_hit, suiteOf_hit, wp_eDct, wp_eDGet, wp_eDNew, wp_eDDef, wps_dput, wps_augI, wps_asgTp, wps_asgUl, gUl2, gTp2, gTp3, gTp4, gTp5, gNs_cons, gN0_nil, wp_clN1, wp_clN2, wp_clN3, wp_slSt, gTupR_int, gLstR_int, gEndswith_str]
  refine ⟨by simp [bnd62]; omega, by rw [rangeD_len]; exact small_line (by omega), ?_⟩
  refine comp_inv (fun S' => DS R S') (fun y => ∃ w : Mp, y = wdD w ∧ ShO w.1 w.2) h1 (fun d hd S' h' => ?_) (fun ys S' hl hP h' => ?_)
  · simp only [wp_ok, wp_ret, wp_stuck, wp_bad, wp_bnd, wp_if, wp_fif, wps_ok_nx, wps_ok_rt, wps_ok_bk, wps_ok_ct, wps_ok_xc, wps_bad, wps_lft, wps_seq, wps_nil, wps_ret, wps_expr, wps_asg, wps_if, wp_run, wps_for, wps_while, wp_comp, wp_var, wp_C, wp_bin, wp_un, wp_T, wp_Tb, wp_asBl, wp_truthBl, wp_bAnd, wp_bOr, wp_bNot, wp_eIf, wp_eAnd, wp_eOr, wp_eNot, blCase_bl, wp_chain, wp_aNil, wp_aCons, wp_tup, wp_lst, wp_lstM, wp_call, wp_cl1, wp_cl2, wp_cl3, wp_cl4, wp_cl5, wp_meth, wp_isi, wp_oNone, wp_oSome, wp_sl, wp_it, wp_range1, wp_range2, wp_bYes, gEq_str, gNe_str, gEq_int, gNe_int, gEq_bl, gNe_bl, gIs_bl, gIsNot_bl, gAdd_int, gSub_int, gC_int, gI_int, gAdd_str, gAdd_tup, gAdd_lst, gNeg_int, gIx_tup, gIx_lst, gLen_tup, gLen_lst, gLen_str, gInt_int, gInt_bl, gTuple_lst, gTuple_tup, gList_lst, gList_tup, gSl_tup, gSl_lst, gSl_fl, gSl_str, srcL_tup, srcL_lst, srcL_fl, srcL_str, srcR1_int, typN, startR, List.map_cons, List.map_nil, List.length_cons, List.length_nil, Nat.reduceAdd, Nat.reduceSub, Nat.zero_add, Nat.sub_self, Nat.sub_zero, List.replicate_zero, List.replicate_succ, List.cons_append, List.nil_append, List.append_nil, List.getElem?_cons_zero, List.getElem?_cons_succ, List.set_cons_zero, List.set_cons_succ, List.set_nil, List.getElem?_nil, Option.some.injEq, exists_eq_left', exists_eq_left, exists_eq_right, reduceCtorEq, false_and, and_false, true_and, and_true, exists_false, exists_const, wipeR, Nat.zero_le, String.reduceEq, D.int.injEq, D.str.injEq, D.bl.injEq, atI_0, atI_1, atI_2, atI_3, atI_4, beq_self_eq_true, not_true_eq_false, not_false_eq_true, Int.cast_ofNat_Int, Int.reduceEq, Int.reduceLE, Int.reduceLT, Int.reduceAdd, Int.reduceSub, Int.reduceMul, Int.reduceNeg, if_true, if_false, ite_true, ite_false, Bool.false_eq_true, if_neg, if_pos, decide_eq_true_eq, Bool.not_eq_true', decide_eq_false_iff_not, eq_self_iff_true, decide_true, decide_false, Bool.not_true, Bool.not_false, wps_raise, wps_try, wps_tryAs, tryCase_t, tryCase_f, tbl_hit, suiteOf_hit, wp_eDct, wp_eDGet, wp_eDNew, wp_eDDef, wps_dput, wps_augI, wps_asgTp, wps_asgUl, gUl2, gTp2, gTp3, gTp4, gTp5, gNs_cons, gN0_nil, wp_clN1, wp_clN2, wp_clN3, wp_slSt, gTupR_int, gLstR_int, gEndswith_str]
    exact shuffle_drawn (by omega) h' fun w S'' hw hw4 h'' => ⟨⟨w, rfl, hw⟩, h''⟩
  · rw [rangeD_len] at hl
    have : ∃ row : List Mp, ys = row.map wdD ∧ RowO row := by
      clear hl
      induction ys with
      | nil => exact ⟨[], rfl, fun _ h => (List.not_mem_nil h).elim⟩
      | cons y ys ih =>
        obtain ⟨w, rfl, hw⟩ := hP y (List.mem_cons_self ..)
        obtain ⟨row, rfl, hr⟩ := ih fun y hy => hP y (List.mem_cons_of_mem _ hy)
        exact ⟨w :: row, rfl, fun x hx => by
          rcases List.mem_cons.mp hx with rfl | hx
          · exact hw
          · exact hr x hx⟩
    obtain ⟨row, rfl, hr⟩ := this
    rw [List.length_map] at hl
    exact h'.fin_same (by rw [h'.len, h.len]) (rowD_tr row) (hF row S' (by omega) hr h')
end K61

namespace K61
open PySem L2 DL
variable {fu n : Nat} {R S : Sto} {F : D → Sto → Prop} {E : Exc → Sto → Prop}
/-! the other row -/
def sg (c : Nat) : Str := ⟨#[c]⟩
theorem join_sg : ∀ bs : List Nat, Str.join (Str.ofString "") (bs.map sg) = ⟨bs.toArray⟩
  | [] => rfl
  | [c] => rfl
  | c :: d :: bs => by
    show sg c ++ Str.ofString "" ++ Str.join (Str.ofString "") ((d :: bs).map sg) = _
    rw [join_sg (d :: bs)]
    apply str_ext
    have e0 : (Str.ofString "").cps.toList = [] := by decide +kernel
    rw [app_toList, app_toList, e0]
    simp [sg]
theorem sum_sg (bs : List Nat) : ((bs.map sg).map (·.length)).sum = bs.length := by
  induction bs with
  | nil => rfl
  | cons c bs ih => simp only [List.map_cons, List.sum_cons, ih, List.length_cons]; show 1 + bs.length = _; omega
theorem gJoin_strs {a : Str} {ps : List Str} : wp (gJoin (.str a) [.lst (ps.map .str)] S) F E ↔ (ps.map (·.length)).sum + ps.length * a.length ≤ 16777216 ∧ F (.str (Str.join a ps)) S := by
  unfold gJoin
  simp only [show iLst S (.lst (ps.map .str)) = some (ps.map .str) from rfl, Option.bind_some, strsOf_map]
  by_cases h : (ps.map (·.length)).sum + ps.length * a.length ≤ 16777216
  · rw [if_pos h, show Txt.join a ps = Str.join a ps from StrLaws.glued_eq_join a ps]
    exact ⟨fun q => ⟨h, q⟩, fun q => q.2⟩
  · rw [if_neg h]
    exact ⟨fun q => q.elim, fun q => h q.1⟩
theorem empty_len : (Str.ofString "").length = 0 := by decide +kernel
theorem lmw_ok {N : Nat} {m : Nat} {ps : List Nat} (hps : ∀ p ∈ ps, p < m) (hl : ps.length ≤ 1000) (hN : 1 ≤ N) (hS : OKS S) (hF : F (if m ≤ 8 ∧ ps.length ≤ 12 then wdD (m, ps) else .non) S) : wp (den fu N i_l_map_word [.int m, .lst (nats ps)] S) F E := by
  obtain ⟨N', rfl⟩ : ∃ N', N = N' + 1 := ⟨N - 1, by omega⟩
  rw [show den fu (N' + 1) i_l_map_word = runDef false 3 (b_l_map_word fu (den fu N')) from rfl]
  simp only [b_l_map_word, List.length_map, wp_ok, wp_ret, wp_stuck, wp_bad, wp_bnd, wp_if, wp_fif, wps_ok_nx, wps_ok_rt, wps_ok_bk, wps_ok_ct, wps_ok_xc, wps_bad, wps_lft, wps_seq, wps_nil, wps_ret, wps_expr, wps_asg, wps_if, wp_run, wps_for, wps_while, wp_comp, wp_var, wp_C, wp_bin, wp_un, wp_T, wp_Tb, wp_asBl, wp_truthBl, wp_bAnd, wp_bOr, wp_bNot, wp_eIf, wp_eAnd, wp_eOr, wp_eNot, blCase_bl, wp_chain, wp_aNil, wp_aCons, wp_tup, wp_lst, wp_lstM, wp_call, wp_cl1, wp_cl2, wp_cl3, wp_cl4, wp_cl5, wp_meth, wp_isi, wp_oNone, wp_oSome, wp_sl, wp_it, wp_range1, wp_range2, wp_bYes, gEq_str, gNe_str, gEq_int, gNe_int, gEq_bl, gNe_bl, gIs_bl, gIsNot_bl, gAdd_int, gSub_int, gC_int, gI_int, gAdd_str, gAdd_tup, gAdd_lst, gNeg_int, gIx_tup, gIx_lst, gLen_tup, gLen_lst, gLen_str, gInt_int, gInt_bl, gTuple_lst, gTuple_tup, gList_lst, gList_tup, gSl_tup, gSl_lst, gSl_fl, gSl_str, srcL_tup, srcL_lst, srcL_fl, srcL_str, srcR1_int, typN, startR, List.map_cons, List.map_nil, List.length_cons, List.length_nil, Nat.reduceAdd, Nat.reduceSub, Nat.zero_add, Nat.sub_self, Nat.sub_zero, List.replicate_zero, List.replicate_succ, List.cons_append, List.nil_append, List.append_nil, List.getElem?_cons_zero, List.getElem?_cons_succ, List.set_cons_zero, List.set_cons_succ, List.set_nil, List.getElem?_nil, Option.some.injEq, exists_eq_left', exists_eq_left, exists_eq_right, reduceCtorEq, false_and, and_false, true_and, and_true, exists_false, exists_const, wipeR, Nat.zero_le, String.reduceEq, D.int.injEq, D.str.injEq, D.bl.injEq, atI_0, atI_1, atI_2, atI_3, atI_4, beq_self_eq_true, not_true_eq_false, not_false_eq_true, Int.cast_ofNat_Int, Int.reduceEq, Int.reduceLE, Int.reduceLT, Int.reduceAdd, Int.reduceSub, Int.reduceMul, Int.reduceNeg, if_true, if_false, ite_true, ite_false, Bool.false_eq_true, if_neg, if_pos, decide_eq_true_eq, Bool.not_eq_true', decide_eq_false_iff_not, eq_self_iff_true, decide_true, decide_false, Bool.not_true, Bool.not_false, wps_raise, wps_try, wps_tryAs, tryCase_t, tryCase_f, tbl_hit, suiteOf_hit, wp_eDct, wp_eDGet, wp_eDNew, wp_eDDef, wps_dput, wps_augI, wps_asgTp, wps_asgUl, gUl2, gTp2, gTp3, gTp4, gTp5, gNs_cons, gN0_nil, wp_clN1, wp_clN2, wp_clN3, wp_slSt, gTupR_int, gLstR_int, gEndswith_str]
  by_cases h1 : ((m : Nat) : Int) > 8
  · rw [if_neg (by omega)] at hF
    simp only [h1, wp_ok, wp_ret, wp_stuck, wp_bad, wp_bnd, wp_if, wp_fif, wps_ok_nx, wps_ok_rt, wps_ok_bk, wps_ok_ct, wps_ok_xc, wps_bad, wps_lft, wps_seq, wps_nil, wps_ret, wps_expr, wps_asg, wps_if, wp_run, wps_for, wps_while, wp_comp, wp_var, wp_C, wp_bin, wp_un, wp_T, wp_Tb, wp_asBl, wp_truthBl, wp_bAnd, wp_bOr, wp_bNot, wp_eIf, wp_eAnd, wp_eOr, wp_eNot, blCase_bl, wp_chain, wp_aNil, wp_aCons, wp_tup, wp_lst, wp_lstM, wp_call, wp_cl1, wp_cl2, wp_cl3, wp_cl4, wp_cl5, wp_meth, wp_isi, wp_oNone, wp_oSome, wp_sl, wp_it, wp_range1, wp_range2, wp_bYes, gEq_str, gNe_str, gEq_int, gNe_int, gEq_bl, gNe_bl, gIs_bl, gIsNot_bl, gAdd_int, gSub_int, gC_int, gI_int, gAdd_str, gAdd_tup, gAdd_lst, gNeg_int, gIx_tup, gIx_lst, gLen_tup, gLen_lst, gLen_str, gInt_int, gInt_bl, gTuple_lst, gTuple_tup, gList_lst, gList_tup, gSl_tup, gSl_lst, gSl_fl, gSl_str, srcL_tup, srcL_lst, srcL_fl, srcL_str, srcR1_int, typN, startR, List.map_cons, List.map_nil, List.length_cons, List.length_nil, Nat.reduceAdd, Nat.reduceSub, Nat.zero_add, Nat.sub_self, Nat.sub_zero, List.replicate_zero, List.replicate_succ, List.cons_append, List.nil_append, List.append_nil, List.getElem?_cons_zero, List.getElem?_cons_succ, List.set_cons_zero, List.set_cons_succ, List.set_nil, List.getElem?_nil, Option.some.injEq, exists_eq_left', exists_eq_left, exists_eq_right, reduceCtorEq, false_and, and_false, true_and, and_true, exists_false, exists_const, wipeR, Nat.zero_le, String.reduceEq, D.int.injEq, D.str.injEq, D.bl.injEq, atI_0, atI_1, atI_2, atI_3, atI_4, beq_self_eq_true, not_true_eq_false, not_false_eq_true, Int.cast_ofNat_Int, Int.reduceEq, Int.reduceLE, Int.reduceLT, Int.reduceAdd, Int.reduceSub, Int.reduceMul, Int.reduceNeg, if_true, if_false, ite_true, ite_false, Bool.false_eq_true, if_neg, if_pos, decide_eq_true_eq, Bool.not_eq_true', decide_eq_false_iff_not, eq_self_iff_true, decide_true, decide_false, Bool.not_true, Bool.not_false, wps_raise, wps_try, wps_tryAs, tryCase_t, tryCase_f, tbl_hit, suiteOf_hit, wp_eDct, wp_eDGet, wp_eDNew, wp_eDDef, wps_dput, wps_augI, wps_asgTp, wps_asgUl, gUl2, gTp2, gTp3, gTp4, gTp5, gNs_cons, gN0_nil, wp_clN1, wp_clN2, wp_clN3, wp_slSt, gTupR_int, gLstR_int, gEndswith_str]
    exact (fin_trO hS rfl).mpr hF
  · by_cases h2 : ((ps.length : Nat) : Int) > 12
    · rw [if_neg (by omega)] at hF
      simp only [h1, h2, wp_ok, wp_ret, wp_stuck, wp_bad, wp_bnd, wp_if, wp_fif, wps_ok_nx, wps_ok_rt, wps_ok_bk, wps_ok_ct, wps_ok_xc, wps_bad, wps_lft, wps_seq, wps_nil, wps_ret, wps_expr, wps_asg, wps_if, wp_run, wps_for, wps_while, wp_comp, wp_var, wp_C, wp_bin, wp_un, wp_T, wp_Tb, wp_asBl, wp_truthBl, wp_bAnd, wp_bOr, wp_bNot, wp_eIf, wp_eAnd, wp_eOr, wp_eNot, blCase_bl, wp_chain, wp_aNil, wp_aCons, wp_tup, wp_lst, wp_lstM, wp_call, wp_cl1, wp_cl2, wp_cl3, wp_cl4, wp_cl5, wp_meth, wp_isi, wp_oNone, wp_oSome, wp_sl, wp_it, wp_range1, wp_range2, wp_bYes, gEq_str, gNe_str, gEq_int, gNe_int, gEq_bl, gNe_bl, gIs_bl, gIsNot_bl, gAdd_int, gSub_int, gC_int, gI_int, gAdd_str, gAdd_tup, gAdd_lst, gNeg_int, gIx_tup, gIx_lst, gLen_tup, gLen_lst, gLen_str, gInt_int, gInt_bl, gTuple_lst, gTuple_tup, gList_lst, gList_tup, gSl_tup, gSl_lst, gSl_fl, gSl_str, srcL_tup, srcL_lst, srcL_fl, srcL_str, srcR1_int, typN, startR, List.map_cons, List.map_nil, List.length_cons, List.length_nil, Nat.reduceAdd, Nat.reduceSub, Nat.zero_add, Nat.sub_self, Nat.sub_zero, List.replicate_zero, List.replicate_succ, List.cons_append, List.nil_append, List.append_nil, List.getElem?_cons_zero, List.getElem?_cons_succ, List.set_cons_zero, List.set_cons_succ, List.set_nil, List.getElem?_nil, Option.some.injEq, exists_eq_left', exists_eq_left, exists_eq_right, reduceCtorEq, false_and, and_false, true_and, and_true, exists_false, exists_const, wipeR, Nat.zero_le, String.reduceEq, D.int.injEq, D.str.injEq, D.bl.injEq, atI_0, atI_1, atI_2, atI_3, atI_4, beq_self_eq_true, not_true_eq_false, not_false_eq_true, Int.cast_ofNat_Int, Int.reduceEq, Int.reduceLE, Int.reduceLT, Int.reduceAdd, Int.reduceSub, Int.reduceMul, Int.reduceNeg, if_true, if_false, ite_true, ite_false, Bool.false_eq_true, if_neg, if_pos, decide_eq_true_eq, Bool.not_eq_true', decide_eq_false_iff_not, eq_self_iff_true, decide_true, decide_false, Bool.not_true, Bool.not_false, wps_raise, wps_try, wps_tryAs, tryCase_t, tryCase_f, tbl_hit, suiteOf_hit, wp_eDct, wp_eDGet, wp_eDNew, wp_eDDef, wps_dput, wps_augI, wps_asgTp, wps_asgUl, gUl2, gTp2, gTp3, gTp4, gTp5, gNs_cons, gN0_nil, wp_clN1, wp_clN2, wp_clN3, wp_slSt, gTupR_int, gLstR_int, gEndswith_str]
      exact (fin_trO hS rfl).mpr hF
    · rw [if_pos (by omega)] at hF
      have hm : m ≤ 8 := by omega
      have l1 : (L8.take m).length ≤ 8 := by rw [List.length_take]; omega
      simp only [h1, h2, cutL8 hm, isTy, wp_ok, wp_ret, wp_stuck, wp_bad, wp_bnd, wp_if, wp_fif, wps_ok_nx, wps_ok_rt, wps_ok_bk, wps_ok_ct, wps_ok_xc, wps_bad, wps_lft, wps_seq, wps_nil, wps_ret, wps_expr, wps_asg, wps_if, wp_run, wps_for, wps_while, wp_comp, wp_var, wp_C, wp_bin, wp_un, wp_T, wp_Tb, wp_asBl, wp_truthBl, wp_bAnd, wp_bOr, wp_bNot, wp_eIf, wp_eAnd, wp_eOr, wp_eNot, blCase_bl, wp_chain, wp_aNil, wp_aCons, wp_tup, wp_lst, wp_lstM, wp_call, wp_cl1, wp_cl2, wp_cl3, wp_cl4, wp_cl5, wp_meth, wp_isi, wp_oNone, wp_oSome, wp_sl, wp_it, wp_range1, wp_range2, wp_bYes, gEq_str, gNe_str, gEq_int, gNe_int, gEq_bl, gNe_bl, gIs_bl, gIsNot_bl, gAdd_int, gSub_int, gC_int, gI_int, gAdd_str, gAdd_tup, gAdd_lst, gNeg_int, gIx_tup, gIx_lst, gLen_tup, gLen_lst, gLen_str, gInt_int, gInt_bl, gTuple_lst, gTuple_tup, gList_lst, gList_tup, gSl_tup, gSl_lst, gSl_fl, gSl_str, srcL_tup, srcL_lst, srcL_fl, srcL_str, srcR1_int, typN, startR, List.map_cons, List.map_nil, List.length_cons, List.length_nil, Nat.reduceAdd, Nat.reduceSub, Nat.zero_add, Nat.sub_self, Nat.sub_zero, List.replicate_zero, List.replicate_succ, List.cons_append, List.nil_append, List.append_nil, List.getElem?_cons_zero, List.getElem?_cons_succ, List.set_cons_zero, List.set_cons_succ, List.set_nil, List.getElem?_nil, Option.some.injEq, exists_eq_left', exists_eq_left, exists_eq_right, reduceCtorEq, false_and, and_false, true_and, and_true, exists_false, exists_const, wipeR, Nat.zero_le, String.reduceEq, D.int.injEq, D.str.injEq, D.bl.injEq, atI_0, atI_1, atI_2, atI_3, atI_4, beq_self_eq_true, not_true_eq_false, not_false_eq_true, Int.cast_ofNat_Int, Int.reduceEq, Int.reduceLE, Int.reduceLT, Int.reduceAdd, Int.reduceSub, Int.reduceMul, Int.reduceNeg, if_true, if_false, ite_true, ite_false, Bool.false_eq_true, if_neg, if_pos, decide_eq_true_eq, Bool.not_eq_true', decide_eq_false_iff_not, eq_self_iff_true, decide_true, decide_false, Bool.not_true, Bool.not_false, wps_raise, wps_try, wps_tryAs, tryCase_t, tryCase_f, tbl_hit, suiteOf_hit, wp_eDct, wp_eDGet, wp_eDNew, wp_eDDef, wps_dput, wps_augI, wps_asgTp, wps_asgUl, gUl2, gTp2, gTp3, gTp4, gTp5, gNs_cons, gN0_nil, wp_clN1, wp_clN2, wp_clN3, wp_slSt, gTupR_int, gLstR_int, gEndswith_str]
      refine ⟨len_L8, ?_, small_line (by omega), comp_one (fun p => D.str (sg (97 + p))) (fun p hp F E hF => ?_) ?_⟩
      · rw [dash_eq]
        show (L8.take m).toArray.size + 1 ≤ _
        rw [List.size_toArray]
        exact small_line (by omega)
      · simp only [wp_ok, wp_ret, wp_stuck, wp_bad, wp_bnd, wp_if, wp_fif, wps_ok_nx, wps_ok_rt, wps_ok_bk, wps_ok_ct, wps_ok_xc, wps_bad, wps_lft, wps_seq, wps_nil, wps_ret, wps_expr, wps_asg, wps_if, wp_run, wps_for, wps_while, wp_comp, wp_var, wp_C, wp_bin, wp_un, wp_T, wp_Tb, wp_asBl, wp_truthBl, wp_bAnd, wp_bOr, wp_bNot, wp_eIf, wp_eAnd, wp_eOr, wp_eNot, blCase_bl, wp_chain, wp_aNil, wp_aCons, wp_tup, wp_lst, wp_lstM, wp_call, wp_cl1, wp_cl2, wp_cl3, wp_cl4, wp_cl5, wp_meth, wp_isi, wp_oNone, wp_oSome, wp_sl, wp_it, wp_range1, wp_range2, wp_bYes, gEq_str, gNe_str, gEq_int, gNe_int, gEq_bl, gNe_bl, gIs_bl, gIsNot_bl, gAdd_int, gSub_int, gC_int, gI_int, gAdd_str, gAdd_tup, gAdd_lst, gNeg_int, gIx_tup, gIx_lst, gLen_tup, gLen_lst, gLen_str, gInt_int, gInt_bl, gTuple_lst, gTuple_tup, gList_lst, gList_tup, gSl_tup, gSl_lst, gSl_fl, gSl_str, srcL_tup, srcL_lst, srcL_fl, srcL_str, srcR1_int, typN, startR, List.map_cons, List.map_nil, List.length_cons, List.length_nil, Nat.reduceAdd, Nat.reduceSub, Nat.zero_add, Nat.sub_self, Nat.sub_zero, List.replicate_zero, List.replicate_succ, List.cons_append, List.nil_append, List.append_nil, List.getElem?_cons_zero, List.getElem?_cons_succ, List.set_cons_zero, List.set_cons_succ, List.set_nil, List.getElem?_nil, Option.some.injEq, exists_eq_left', exists_eq_left, exists_eq_right, reduceCtorEq, false_and, and_false, true_and, and_true, exists_false, exists_const, wipeR, Nat.zero_le, String.reduceEq, D.int.injEq, D.str.injEq, D.bl.injEq, atI_0, atI_1, atI_2, atI_3, atI_4, beq_self_eq_true, not_true_eq_false, not_false_eq_true, Int.cast_ofNat_Int, Int.reduceEq, Int.reduceLE, Int.reduceLT, Int.reduceAdd, Int.reduceSub, Int.reduceMul, Int.reduceNeg, if_true, if_false, ite_true, ite_false, Bool.false_eq_true, if_neg, if_pos, decide_eq_true_eq, Bool.not_eq_true', decide_eq_false_iff_not, eq_self_iff_true, decide_true, decide_false, Bool.not_true, Bool.not_false, wps_raise, wps_try, wps_tryAs, tryCase_t, tryCase_f, tbl_hit, suiteOf_hit, wp_eDct, wp_eDGet, wp_eDNew, wp_eDDef, wps_dput, wps_augI, wps_asgTp, wps_asgUl, gUl2, gTp2, gTp3, gTp4, gTp5, gNs_cons, gN0_nil, wp_clN1, wp_clN2, wp_clN3, wp_slSt, gTupR_int, gLstR_int, gEndswith_str]
        rw [ixL8 (by have := hps p hp; omega)]
        exact hF
      · rw [show ps.map (fun p => D.str (sg (97 + p))) = ((ps.map (97 + ·)).map sg).map D.str by simp only [List.map_map]; rfl, gJoin_strs, sum_sg, join_sg, empty_len]
        simp only [wp_ok, wp_ret, wp_stuck, wp_bad, wp_bnd, wp_if, wp_fif, wps_ok_nx, wps_ok_rt, wps_ok_bk, wps_ok_ct, wps_ok_xc, wps_bad, wps_lft, wps_seq, wps_nil, wps_ret, wps_expr, wps_asg, wps_if, wp_run, wps_for, wps_while, wp_comp, wp_var, wp_C, wp_bin, wp_un, wp_T, wp_Tb, wp_asBl, wp_truthBl, wp_bAnd, wp_bOr, wp_bNot, wp_eIf, wp_eAnd, wp_eOr, wp_eNot, blCase_bl, wp_chain, wp_aNil, wp_aCons, wp_tup, wp_lst, wp_lstM, wp_call, wp_cl1, wp_cl2, wp_cl3, wp_cl4, wp_cl5, wp_meth, wp_isi, wp_oNone, wp_oSome, wp_sl, wp_it, wp_range1, wp_range2, wp_bYes, gEq_str, gNe_str, gEq_int, gNe_int, gEq_bl, gNe_bl, gIs_bl, gIsNot_bl, gAdd_int, gSub_int, gC_int, gI_int, gAdd_str, gAdd_tup, gAdd_lst, gNeg_int, gIx_tup, gIx_lst, gLen_tup, gLen_lst, gLen_str, gInt_int, gInt_bl, gTuple_lst, gTuple_tup, gList_lst, gList_tup, gSl_tup, gSl_lst, gSl_fl, gSl_str, srcL_tup, srcL_lst, srcL_fl, srcL_str, srcR1_int, typN, startR, List.map_cons, List.map_nil, List.length_cons, List.length_nil, Nat.reduceAdd, Nat.reduceSub, Nat.zero_add, Nat.sub_self, Nat.sub_zero, List.replicate_zero, List.replicate_succ, List.cons_append, List.nil_append, List.append_nil, List.getElem?_cons_zero, List.getElem?_cons_succ, List.set_cons_zero, List.set_cons_succ, List.set_nil, List.getElem?_nil, Option.some.injEq, exists_eq_left', exists_eq_left, exists_eq_right, reduceCtorEq, false_and, and_false, true_and, and_true, exists_false, exists_const, wipeR, Nat.zero_le, String.reduceEq, D.int.injEq, D.str.injEq, D.bl.injEq, atI_0, atI_1, atI_2, atI_3, atI_4, beq_self_eq_true, not_true_eq_false, not_false_eq_true, Int.cast_ofNat_Int, Int.reduceEq, Int.reduceLE, Int.reduceLT, Int.reduceAdd, Int.reduceSub, Int.reduceMul, Int.reduceNeg, if_true, if_false, ite_true, ite_false, Bool.false_eq_true, if_neg, if_pos, decide_eq_true_eq, Bool.not_eq_true', decide_eq_false_iff_not, eq_self_iff_true, decide_true, decide_false, Bool.not_true, Bool.not_false, wps_raise, wps_try, wps_tryAs, tryCase_t, tryCase_f, tbl_hit, suiteOf_hit, wp_eDct, wp_eDGet, wp_eDNew, wp_eDDef, wps_dput, wps_augI, wps_asgTp, wps_asgUl, gUl2, gTp2, gTp3, gTp4, gTp5, gNs_cons, gN0_nil, wp_clN1, wp_clN2, wp_clN3, wp_slSt, gTupR_int, gLstR_int, gEndswith_str]
        have e : (⟨(ps.map (97 + ·)).toArray⟩ : Str) = lS ps := rfl
        rw [e, wd_eq, lS_len, List.length_map]
        refine ⟨by omega, ?_, (fin_trO hS rfl).mpr hF⟩
        rw [dash_eq]
        show ((L8.take m).toArray ++ #[45]).size + _ ≤ _
        rw [Array.size_append, List.size_toArray]
        exact small_line (by show (L8.take m).length + 1 + _ ≤ _; omega)
theorem cut_takeN {ds : List D} {a : Nat} : cutD ds none (some ((a : Nat) : Int)) = ds.take a := by
  unfold cutD
  rw [HT.sIx_nat, HT.sIx_none]
  simp only [List.drop_zero, Nat.sub_zero]
  rcases Nat.le_total a ds.length with h | h
  · rw [Nat.min_eq_left h]
  · rw [Nat.min_eq_right h, List.take_of_length_le (Nat.le_refl _), List.take_of_length_le h]
theorem cut_dropN {ds : List D} {a : Nat} : cutD ds (some ((a : Nat) : Int)) none = ds.drop a := by
  unfold cutD
  rw [HT.sIx_nat, HT.sIx_none]
  rw [List.take_of_length_le (by simp)]
  rcases Nat.le_total a ds.length with h | h
  · rw [Nat.min_eq_left h]
  · rw [Nat.min_eq_right h, List.drop_of_length_le (Nat.le_refl _), List.drop_of_length_le h]
theorem cut_mid {ds : List D} {a b : Nat} (h : a ≤ b) : cutD ds (some ((a : Nat) : Int)) (some ((b : Nat) : Int)) = (ds.drop a).take (b - a) := by
  unfold cutD
  rw [HT.sIx_nat, HT.sIx_nat]
  rcases Nat.le_total a ds.length with h1 | h1
  · rw [Nat.min_eq_left h1]
    rcases Nat.le_total b ds.length with h2 | h2
    · rw [Nat.min_eq_left h2]
    · rw [Nat.min_eq_right h2, List.take_of_length_le (by simp), List.take_of_length_le (by simp; omega)]
  · rw [Nat.min_eq_right h1, List.drop_of_length_le (Nat.le_refl _), List.drop_of_length_le h1]
    simp
theorem cutSt_map {α β : Type} (f : α → β) (xs : List α) (lo hi : Option Int) (st : Int) : cutSt (xs.map f) lo hi st = (cutSt xs lo hi st).map f := by
  unfold cutSt
  rw [List.length_map, List.map_filterMap]
  refine congrArg (fun g => List.filterMap g _) (funext fun k => ?_)
  rw [List.getElem?_map]
theorem cutSt_mem {α : Type} {xs : List α} {lo hi : Option Int} {st : Int} {x : α} (h : x ∈ cutSt xs lo hi st) : x ∈ xs := by
  unfold cutSt at h
  rw [List.mem_filterMap] at h
  obtain ⟨k, _, hk⟩ := h
  exact List.mem_of_getElem? hk
theorem cutSt_len {α : Type} {xs : List α} (h : xs.length ≤ 8) : (cutSt xs none none (-1)).length ≤ 8 := by
  have : ∀ n, n ≤ 8 → Builtin.Slice.slicePlaces (Builtin.Slice.sliceAdjust none none (-1) (n : Nat)).1 (Builtin.Slice.sliceAdjust none none (-1) (n : Nat)).2 (-1) ≤ 8 := by decide
  unfold cutSt
  refine Nat.le_trans (List.length_filterMap_le _ _) ?_
  rw [List.length_range]
  exact this _ h
theorem rowO_app {a b : List Mp} (ha : RowO a) (hb : RowO b) : RowO (a ++ b) := fun x hx => (List.mem_append.mp hx).elim (ha x) (hb x)
theorem rowO_1 {w : Mp} (h : ShO w.1 w.2) : RowO [w] := fun x hx => by rw [List.mem_singleton.mp hx]; exact h
theorem rowO_take {a : List Mp} (ha : RowO a) (k : Nat) : RowO (a.take k) := fun x hx => ha x (List.mem_of_mem_take hx)
theorem rowO_drop {a : List Mp} (ha : RowO a) (k : Nat) : RowO (a.drop k) := fun x hx => ha x (List.mem_of_mem_drop hx)
theorem way_split {v : Int} (h0 : 0 ≤ v) (h1 : v < 6) : v = 0 ∨ v = 1 ∨ v = 2 ∨ v = 3 ∨ ∃ j : Nat, j ≤ 1 ∧ v = ((4 + j : Nat) : Int) := by
  have : v = 0 ∨ v = 1 ∨ v = 2 ∨ v = 3 ∨ v = 4 ∨ v = 5 := by omega
  rcases this with h | h | h | h | h | h
  · exact .inl h
  · exact .inr (.inl h)
  · exact .inr (.inr (.inl h))
  · exact .inr (.inr (.inr (.inl h)))
  · exact .inr (.inr (.inr (.inr ⟨0, by omega, by omega⟩)))
  · exact .inr (.inr (.inr (.inr ⟨1, by omega, by omega⟩)))
theorem w_aa : Str.ofString "a-a" = wd 1 [0] := by decide +kernel
theorem w_e : Str.ofString "-" = wd 0 [] := by decide +kernel
theorem w_ab : Str.ofString "ab-ab" = wd 2 [0, 1] := by decide +kernel
theorem w_abc : Str.ofString "abc-abc" = wd 3 [0, 1, 2] := by decide +kernel
theorem w_ba : Str.ofString "ab-ba" = wd 2 [1, 0] := by decide +kernel
theorem leastM_wf : ∀ (n : Nat) (ps : List Nat), (∀ p ∈ ps, p < n) → Wf (leastM n ps) := by
  intro n
  induction n with
  | zero => intro ps h; cases ps <;> exact h
  | succ n ih =>
    intro ps h
    rcases ps with _ | ⟨q, ps⟩
    · exact h
    · rcases q with _ | q
      · rw [leastM_s]
        by_cases h0 : 0 ∈ ps
        · rw [if_pos h0]; exact h
        · rw [if_neg h0]
          refine ih _ fun p hp => ?_
          obtain ⟨b, hb, rfl⟩ := List.mem_map.mp hp
          have := h b (List.mem_cons_of_mem _ hb)
          have : b ≠ 0 := fun e => h0 (e ▸ hb)
          omega
      · exact h
theorem mapsM_wf {row : List Mp} (h : RowO row) : Wf (mapsM row) := leastM_wf _ _ (whole_wf h)
theorem mapsM_len {row : List Mp} (h : RowS row) : (mapsM row).1 ≤ 160 ∧ (mapsM row).2.length ≤ 240 := by
  have := leastM_le (wholeM row).1 (wholeM row).2
  have := whole_n' h
  have := whole_len' h
  unfold mapsM
  omega
theorem gIs_wd {w : Mp} {F E} : wp (gIs (wdD w) .non S) F E ↔ F (.bl false) S := Iff.rfl
theorem other_ok {N : Nat} {row : List Mp} (hr : row.length ≤ 6) (ho : RowO row) (hf : 1000 ≤ fu) (hN : 4 ≤ N) (h : DS R S) (hF : ∀ row' S', row'.length ≤ 8 → RowO row' → DS R S' → F (rowD row') S') : wp (den fu N i_l_other [.ref 1, rowD row] S) F E := by
  obtain ⟨N', rfl⟩ : ∃ N', N = N' + 1 := ⟨N - 1, by omega⟩
  rw [show den fu (N' + 1) i_l_other = runDef false 8 (b_l_other fu (den fu N')) from rfl]
  have fin : ∀ {S' : Sto} {row' : List Mp} {d : D}, d = rowD row' → row'.length ≤ 8 → RowO row' → DS R S' → wp (finD false S.length d S') F E := fun {S' row' d} e h1 h2 h3 => by
    subst e
    exact h3.fin_same (by rw [h3.len, h.len]) (rowD_tr _) (hF _ _ h1 h2 h3)
  simp only [b_l_other, rowD, wp_ok, wp_ret, wp_stuck, wp_bad, wp_bnd, wp_if, wp_fif, wps_ok_nx, wps_ok_rt, wps_ok_bk, wps_ok_ct, wps_ok_xc, wps_bad, wps_lft, wps_seq, wps_nil, wps_ret, wps_expr, wps_asg, wps_if, wp_run, wps_for, wps_while, wp_comp, wp_var, wp_C, wp_bin, wp_un, wp_T, wp_Tb, wp_asBl, wp_truthBl, wp_bAnd, wp_bOr, wp_bNot, wp_eIf, wp_eAnd, wp_eOr, wp_eNot, blCase_bl, wp_chain, wp_aNil, wp_aCons, wp_tup, wp_lst, wp_lstM, wp_call, wp_cl1, wp_cl2, wp_cl3, wp_cl4, wp_cl5, wp_meth, wp_isi, wp_oNone, wp_oSome, wp_sl, wp_it, wp_range1, wp_range2, wp_bYes, gEq_str, gNe_str, gEq_int, gNe_int, gEq_bl, gNe_bl, gIs_bl, gIsNot_bl, gAdd_int, gSub_int, gC_int, gI_int, gAdd_str, gAdd_tup, gAdd_lst, gNeg_int, gIx_tup, gIx_lst, gLen_tup, gLen_lst, gLen_str, gInt_int, gInt_bl, gTuple_lst, gTuple_tup, gList_lst, gList_tup, gSl_tup, gSl_lst, gSl_fl, gSl_str, srcL_tup, srcL_lst, srcL_fl, srcL_str, srcR1_int, typN, startR, List.map_cons, List.map_nil, List.length_cons, List.length_nil, Nat.reduceAdd, Nat.reduceSub, Nat.zero_add, Nat.sub_self, Nat.sub_zero, List.replicate_zero, List.replicate_succ, List.cons_append, List.nil_append, List.append_nil, List.getElem?_cons_zero, List.getElem?_cons_succ, List.set_cons_zero, List.set_cons_succ, List.set_nil, List.getElem?_nil, Option.some.injEq, exists_eq_left', exists_eq_left, exists_eq_right, reduceCtorEq, false_and, and_false, true_and, and_true, exists_false, exists_const, wipeR, Nat.zero_le, String.reduceEq, D.int.injEq, D.str.injEq, D.bl.injEq, atI_0, atI_1, atI_2, atI_3, atI_4, beq_self_eq_true, not_true_eq_false, not_false_eq_true, Int.cast_ofNat_Int, Int.reduceEq, Int.reduceLE, Int.reduceLT, Int.reduceAdd, Int.reduceSub, Int.reduceMul, Int.reduceNeg, if_true, if_false, ite_true, ite_false, Bool.false_eq_true, if_neg, if_pos, decide_eq_true_eq, Bool.not_eq_true', decide_eq_false_iff_not, eq_self_iff_true, decide_true, decide_false, Bool.not_true, Bool.not_false, wps_raise, wps_try, wps_tryAs, tryCase_t, tryCase_f, tbl_hit, suiteOf_hit, wp_eDct, wp_eDGet, wp_eDNew, wp_eDDef, wps_dput, wps_augI, wps_asgTp, wps_asgUl, gUl2, gTp2, gTp3, gTp4, gTp5, gNs_cons, gN0_nil, wp_clN1, wp_clN2, wp_clN3, wp_slSt, gTupR_int, gLstR_int, gEndswith_str]
  refine draw_ok (by omega) h (by decide) (by decide) fun v S1 hv hv' h1 => ?_
  refine draw_ok (by omega) h1 (by rw [List.length_map]; omega) (by rw [List.length_map]; omega) fun at_ S2 ha ha' h2 => ?_
  rw [List.length_map] at ha'
  obtain ⟨a, rfl⟩ : ∃ a : Nat, at_ = a := ⟨at_.toNat, by omega⟩
  have ha1 : ((a : Nat) : Int) + 1 = ((a + 1 : Nat) : Int) := by omega
  have ha2 : ((a : Nat) : Int) + 2 = ((a + 2 : Nat) : Int) := by omega
  simp only [ha1, ha2, cut_takeN, cut_dropN, cut_mid (show a ≤ a + 2 by omega), ← List.map_take, ← List.map_drop, wp_ok, wp_ret, wp_stuck, wp_bad, wp_bnd, wp_if, wp_fif, wps_ok_nx, wps_ok_rt, wps_ok_bk, wps_ok_ct, wps_ok_xc, wps_bad, wps_lft, wps_seq, wps_nil, wps_ret, wps_expr, wps_asg, wps_if, wp_run, wps_for, wps_while, wp_comp, wp_var, wp_C, wp_bin, wp_un, wp_T, wp_Tb, wp_asBl, wp_truthBl, wp_bAnd, wp_bOr, wp_bNot, wp_eIf, wp_eAnd, wp_eOr, wp_eNot, blCase_bl, wp_chain, wp_aNil, wp_aCons, wp_tup, wp_lst, wp_lstM, wp_call, wp_cl1, wp_cl2, wp_cl3, wp_cl4, wp_cl5, wp_meth, wp_isi, wp_oNone, wp_oSome, wp_sl, wp_it, wp_range1, wp_range2, wp_bYes, gEq_str, gNe_str, gEq_int, gNe_int, gEq_bl, gNe_bl, gIs_bl, gIsNot_bl, gAdd_int, gSub_int, gC_int, gI_int, gAdd_str, gAdd_tup, gAdd_lst, gNeg_int, gIx_tup, gIx_lst, gLen_tup, gLen_lst, gLen_str, gInt_int, gInt_bl, gTuple_lst, gTuple_tup, gList_lst, gList_tup, gSl_tup, gSl_lst, gSl_fl, gSl_str, srcL_tup, srcL_lst, srcL_fl, srcL_str, srcR1_int, typN, startR, List.map_cons, List.map_nil, List.length_cons, List.length_nil, Nat.reduceAdd, Nat.reduceSub, Nat.zero_add, Nat.sub_self, Nat.sub_zero, List.replicate_zero, List.replicate_succ, List.cons_append, List.nil_append, List.append_nil, List.getElem?_cons_zero, List.getElem?_cons_succ, List.set_cons_zero, List.set_cons_succ, List.set_nil, List.getElem?_nil, Option.some.injEq, exists_eq_left', exists_eq_left, exists_eq_right, reduceCtorEq, false_and, and_false, true_and, and_true, exists_false, exists_const, wipeR, Nat.zero_le, String.reduceEq, D.int.injEq, D.str.injEq, D.bl.injEq, atI_0, atI_1, atI_2, atI_3, atI_4, beq_self_eq_true, not_true_eq_false, not_false_eq_true, Int.cast_ofNat_Int, Int.reduceEq, Int.reduceLE, Int.reduceLT, Int.reduceAdd, Int.reduceSub, Int.reduceMul, Int.reduceNeg, if_true, if_false, ite_true, ite_false, Bool.false_eq_true, if_neg, if_pos, decide_eq_true_eq, Bool.not_eq_true', decide_eq_false_iff_not, eq_self_iff_true, decide_true, decide_false, Bool.not_true, Bool.not_false, wps_raise, wps_try, wps_tryAs, tryCase_t, tryCase_f, tbl_hit, suiteOf_hit, wp_eDct, wp_eDGet, wp_eDNew, wp_eDDef, wps_dput, wps_augI, wps_asgTp, wps_asgUl, gUl2, gTp2, gTp3, gTp4, gTp5, gNs_cons, gN0_nil, wp_clN1, wp_clN2, wp_clN3, wp_slSt, gTupR_int, gLstR_int, gEndswith_str]
  rcases way_split hv hv' with rfl | rfl | rfl | rfl | ⟨j, hj, rfl⟩
  · simp only [wp_ok, wp_ret, wp_stuck, wp_bad, wp_bnd, wp_if, wp_fif, wps_ok_nx, wps_ok_rt, wps_ok_bk, wps_ok_ct, wps_ok_xc, wps_bad, wps_lft, wps_seq, wps_nil, wps_ret, wps_expr, wps_asg, wps_if, wp_run, wps_for, wps_while, wp_comp, wp_var, wp_C, wp_bin, wp_un, wp_T, wp_Tb, wp_asBl, wp_truthBl, wp_bAnd, wp_bOr, wp_bNot, wp_eIf, wp_eAnd, wp_eOr, wp_eNot, blCase_bl, wp_chain, wp_aNil, wp_aCons, wp_tup, wp_lst, wp_lstM, wp_call, wp_cl1, wp_cl2, wp_cl3, wp_cl4, wp_cl5, wp_meth, wp_isi, wp_oNone, wp_oSome, wp_sl, wp_it, wp_range1, wp_range2, wp_bYes, gEq_str, gNe_str, gEq_int, gNe_int, gEq_bl, gNe_bl, gIs_bl, gIsNot_bl, gAdd_int, gSub_int, gC_int, gI_int, gAdd_str, gAdd_tup, gAdd_lst, gNeg_int, gIx_tup, gIx_lst, gLen_tup, gLen_lst, gLen_str, gInt_int, gInt_bl, gTuple_lst, gTuple_tup, gList_lst, gList_tup, gSl_tup, gSl_lst, gSl_fl, gSl_str, srcL_tup, srcL_lst, srcL_fl, srcL_str, srcR1_int, typN, startR, List.map_cons, List.map_nil, List.length_cons, List.length_nil, Nat.reduceAdd, Nat.reduceSub, Nat.zero_add, Nat.sub_self, Nat.sub_zero, List.replicate_zero, List.replicate_succ, List.cons_append, List.nil_append, List.append_nil, List.getElem?_cons_zero, List.getElem?_cons_succ, List.set_cons_zero, List.set_cons_succ, List.set_nil, List.getElem?_nil, Option.some.injEq, exists_eq_left', exists_eq_left, exists_eq_right, reduceCtorEq, false_and, and_false, true_and, and_true, exists_false, exists_const, wipeR, Nat.zero_le, String.reduceEq, D.int.injEq, D.str.injEq, D.bl.injEq, atI_0, atI_1, atI_2, atI_3, atI_4, beq_self_eq_true, not_true_eq_false, not_false_eq_true, Int.cast_ofNat_Int, Int.reduceEq, Int.reduceLE, Int.reduceLT, Int.reduceAdd, Int.reduceSub, Int.reduceMul, Int.reduceNeg, if_true, if_false, ite_true, ite_false, Bool.false_eq_true, if_neg, if_pos, decide_eq_true_eq, Bool.not_eq_true', decide_eq_false_iff_not, eq_self_iff_true, decide_true, decide_false, Bool.not_true, Bool.not_false, wps_raise, wps_try, wps_tryAs, tryCase_t, tryCase_f, tbl_hit, suiteOf_hit, wp_eDct, wp_eDGet, wp_eDNew, wp_eDDef, wps_dput, wps_augI, wps_asgTp, wps_asgUl, gUl2, gTp2, gTp3, gTp4, gTp5, gNs_cons, gN0_nil, wp_clN1, wp_clN2, wp_clN3, wp_slSt, gTupR_int, gLstR_int, gEndswith_str]
    exact shuffles_drawn (by omega) h2 fun row' S' hl ho h' => fin rfl (by omega) ho h'
  · simp only [wp_ok, wp_ret, wp_stuck, wp_bad, wp_bnd, wp_if, wp_fif, wps_ok_nx, wps_ok_rt, wps_ok_bk, wps_ok_ct, wps_ok_xc, wps_bad, wps_lft, wps_seq, wps_nil, wps_ret, wps_expr, wps_asg, wps_if, wp_run, wps_for, wps_while, wp_comp, wp_var, wp_C, wp_bin, wp_un, wp_T, wp_Tb, wp_asBl, wp_truthBl, wp_bAnd, wp_bOr, wp_bNot, wp_eIf, wp_eAnd, wp_eOr, wp_eNot, blCase_bl, wp_chain, wp_aNil, wp_aCons, wp_tup, wp_lst, wp_lstM, wp_call, wp_cl1, wp_cl2, wp_cl3, wp_cl4, wp_cl5, wp_meth, wp_isi, wp_oNone, wp_oSome, wp_sl, wp_it, wp_range1, wp_range2, wp_bYes, gEq_str, gNe_str, gEq_int, gNe_int, gEq_bl, gNe_bl, gIs_bl, gIsNot_bl, gAdd_int, gSub_int, gC_int, gI_int, gAdd_str, gAdd_tup, gAdd_lst, gNeg_int, gIx_tup, gIx_lst, gLen_tup, gLen_lst, gLen_str, gInt_int, gInt_bl, gTuple_lst, gTuple_tup, gList_lst, gList_tup, gSl_tup, gSl_lst, gSl_fl, gSl_str, srcL_tup, srcL_lst, srcL_fl, srcL_str, srcR1_int, typN, startR, List.map_cons, List.map_nil, List.length_cons, List.length_nil, Nat.reduceAdd, Nat.reduceSub, Nat.zero_add, Nat.sub_self, Nat.sub_zero, List.replicate_zero, List.replicate_succ, List.cons_append, List.nil_append, List.append_nil, List.getElem?_cons_zero, List.getElem?_cons_succ, List.set_cons_zero, List.set_cons_succ, List.set_nil, List.getElem?_nil, Option.some.injEq, exists_eq_left', exists_eq_left, exists_eq_right, reduceCtorEq, false_and, and_false, true_and, and_true, exists_false, exists_const, wipeR, Nat.zero_le, String.reduceEq, D.int.injEq, D.str.injEq, D.bl.injEq, atI_0, atI_1, atI_2, atI_3, atI_4, beq_self_eq_true, not_true_eq_false, not_false_eq_true, Int.cast_ofNat_Int, Int.reduceEq, Int.reduceLE, Int.reduceLT, Int.reduceAdd, Int.reduceSub, Int.reduceMul, Int.reduceNeg, if_true, if_false, ite_true, ite_false, Bool.false_eq_true, if_neg, if_pos, decide_eq_true_eq, Bool.not_eq_true', decide_eq_false_iff_not, eq_self_iff_true, decide_true, decide_false, Bool.not_true, Bool.not_false, wps_raise, wps_try, wps_tryAs, tryCase_t, tryCase_f, tbl_hit, suiteOf_hit, wp_eDct, wp_eDGet, wp_eDNew, wp_eDDef, wps_dput, wps_augI, wps_asgTp, wps_asgUl, gUl2, gTp2, gTp3, gTp4, gTp5, gNs_cons, gN0_nil, wp_clN1, wp_clN2, wp_clN3, wp_slSt, gTupR_int, gLstR_int, gEndswith_str]
    refine ⟨small_line (by simp only [List.length_map, List.length_take, List.length_drop]; omega), fin (row' := row.take a ++ row.drop (a + 1)) (by rw [rowD, List.map_append]) (by simp only [List.length_append, List.length_take, List.length_drop]; omega) (rowO_app (rowO_take ho a) (rowO_drop ho _)) h2⟩
  · simp only [wp_ok, wp_ret, wp_stuck, wp_bad, wp_bnd, wp_if, wp_fif, wps_ok_nx, wps_ok_rt, wps_ok_bk, wps_ok_ct, wps_ok_xc, wps_bad, wps_lft, wps_seq, wps_nil, wps_ret, wps_expr, wps_asg, wps_if, wp_run, wps_for, wps_while, wp_comp, wp_var, wp_C, wp_bin, wp_un, wp_T, wp_Tb, wp_asBl, wp_truthBl, wp_bAnd, wp_bOr, wp_bNot, wp_eIf, wp_eAnd, wp_eOr, wp_eNot, blCase_bl, wp_chain, wp_aNil, wp_aCons, wp_tup, wp_lst, wp_lstM, wp_call, wp_cl1, wp_cl2, wp_cl3, wp_cl4, wp_cl5, wp_meth, wp_isi, wp_oNone, wp_oSome, wp_sl, wp_it, wp_range1, wp_range2, wp_bYes, gEq_str, gNe_str, gEq_int, gNe_int, gEq_bl, gNe_bl, gIs_bl, gIsNot_bl, gAdd_int, gSub_int, gC_int, gI_int, gAdd_str, gAdd_tup, gAdd_lst, gNeg_int, gIx_tup, gIx_lst, gLen_tup, gLen_lst, gLen_str, gInt_int, gInt_bl, gTuple_lst, gTuple_tup, gList_lst, gList_tup, gSl_tup, gSl_lst, gSl_fl, gSl_str, srcL_tup, srcL_lst, srcL_fl, srcL_str, srcR1_int, typN, startR, List.map_cons, List.map_nil, List.length_cons, List.length_nil, Nat.reduceAdd, Nat.reduceSub, Nat.zero_add, Nat.sub_self, Nat.sub_zero, List.replicate_zero, List.replicate_succ, List.cons_append, List.nil_append, List.append_nil, List.getElem?_cons_zero, List.getElem?_cons_succ, List.set_cons_zero, List.set_cons_succ, List.set_nil, List.getElem?_nil, Option.some.injEq, exists_eq_left', exists_eq_left, exists_eq_right, reduceCtorEq, false_and, and_false, true_and, and_true, exists_false, exists_const, wipeR, Nat.zero_le, String.reduceEq, D.int.injEq, D.str.injEq, D.bl.injEq, atI_0, atI_1, atI_2, atI_3, atI_4, beq_self_eq_true, not_true_eq_false, not_false_eq_true, Int.cast_ofNat_Int, Int.reduceEq, Int.reduceLE, Int.reduceLT, Int.reduceAdd, Int.reduceSub, Int.reduceMul, Int.reduceNeg, if_true, if_false, ite_true, ite_false, Bool.false_eq_true, if_neg, if_pos, decide_eq_true_eq, Bool.not_eq_true', decide_eq_false_iff_not, eq_self_iff_true, decide_true, decide_false, Bool.not_true, Bool.not_false, wps_raise, wps_try, wps_tryAs, tryCase_t, tryCase_f, tbl_hit, suiteOf_hit, wp_eDct, wp_eDGet, wp_eDNew, wp_eDDef, wps_dput, wps_augI, wps_asgTp, wps_asgUl, gUl2, gTp2, gTp3, gTp4, gTp5, gNs_cons, gN0_nil, wp_clN1, wp_clN2, wp_clN3, wp_slSt, gTupR_int, gLstR_int, gEndswith_str]
    refine ⟨small_line (by decide), draw_ok (by omega) h2 (by decide) (by decide) fun v4 S4 hv4 hv4' h4 => ?_⟩
    refine pick (L := [.str "a-a", .str "-", .str "ab-ab", .str "abc-abc"]) hv4 hv4' (fun d => ∃ w : Mp, d = wdD w ∧ ShO w.1 w.2) ?_ ?_
    · intro d hd
      simp only [List.mem_cons, List.not_mem_nil, or_false] at hd
      rcases hd with rfl | rfl | rfl | rfl
      · exact ⟨(1, [0]), by rw [w_aa]; rfl, by decide, by decide, by decide⟩
      · exact ⟨(0, []), by rw [w_e]; rfl, by decide, by decide, by decide⟩
      · exact ⟨(2, [0, 1]), by rw [w_ab]; rfl, by decide, by decide, by decide⟩
      · exact ⟨(3, [0, 1, 2]), by rw [w_abc]; rfl, by decide, by decide, by decide⟩
    · rintro d ⟨w, rfl, hw⟩
      refine ⟨small_line (by decide), small_line (by simp only [List.length_map, List.length_take, List.length_drop]; omega), small_line (by simp only [List.length_append, List.length_cons, List.length_nil, List.length_map, List.length_take, List.length_drop]; omega), fin (row' := row.take a ++ [w] ++ row.drop a) (by rw [rowD, List.map_append, List.map_append]; rfl) (by simp only [List.length_append, List.length_cons, List.length_nil, List.length_take, List.length_drop]; omega) (rowO_app (rowO_app (rowO_take ho a) (rowO_1 hw)) (rowO_drop ho _)) h4⟩
  · simp only [wp_ok, wp_ret, wp_stuck, wp_bad, wp_bnd, wp_if, wp_fif, wps_ok_nx, wps_ok_rt, wps_ok_bk, wps_ok_ct, wps_ok_xc, wps_bad, wps_lft, wps_seq, wps_nil, wps_ret, wps_expr, wps_asg, wps_if, wp_run, wps_for, wps_while, wp_comp, wp_var, wp_C, wp_bin, wp_un, wp_T, wp_Tb, wp_asBl, wp_truthBl, wp_bAnd, wp_bOr, wp_bNot, wp_eIf, wp_eAnd, wp_eOr, wp_eNot, blCase_bl, wp_chain, wp_aNil, wp_aCons, wp_tup, wp_lst, wp_lstM, wp_call, wp_cl1, wp_cl2, wp_cl3, wp_cl4, wp_cl5, wp_meth, wp_isi, wp_oNone, wp_oSome, wp_sl, wp_it, wp_range1, wp_range2, wp_bYes, gEq_str, gNe_str, gEq_int, gNe_int, gEq_bl, gNe_bl, gIs_bl, gIsNot_bl, gAdd_int, gSub_int, gC_int, gI_int, gAdd_str, gAdd_tup, gAdd_lst, gNeg_int, gIx_tup, gIx_lst, gLen_tup, gLen_lst, gLen_str, gInt_int, gInt_bl, gTuple_lst, gTuple_tup, gList_lst, gList_tup, gSl_tup, gSl_lst, gSl_fl, gSl_str, srcL_tup, srcL_lst, srcL_fl, srcL_str, srcR1_int, typN, startR, List.map_cons, List.map_nil, List.length_cons, List.length_nil, Nat.reduceAdd, Nat.reduceSub, Nat.zero_add, Nat.sub_self, Nat.sub_zero, List.replicate_zero, List.replicate_succ, List.cons_append, List.nil_append, List.append_nil, List.getElem?_cons_zero, List.getElem?_cons_succ, List.set_cons_zero, List.set_cons_succ, List.set_nil, List.getElem?_nil, Option.some.injEq, exists_eq_left', exists_eq_left, exists_eq_right, reduceCtorEq, false_and, and_false, true_and, and_true, exists_false, exists_const, wipeR, Nat.zero_le, String.reduceEq, D.int.injEq, D.str.injEq, D.bl.injEq, atI_0, atI_1, atI_2, atI_3, atI_4, beq_self_eq_true, not_true_eq_false, not_false_eq_true, Int.cast_ofNat_Int, Int.reduceEq, Int.reduceLE, Int.reduceLT, Int.reduceAdd, Int.reduceSub, Int.reduceMul, Int.reduceNeg, if_true, if_false, ite_true, ite_false, Bool.false_eq_true, if_neg, if_pos, decide_eq_true_eq, Bool.not_eq_true', decide_eq_false_iff_not, eq_self_iff_true, decide_true, decide_false, Bool.not_true, Bool.not_false, wps_raise, wps_try, wps_tryAs, tryCase_t, tryCase_f, tbl_hit, suiteOf_hit, wp_eDct, wp_eDGet, wp_eDNew, wp_eDDef, wps_dput, wps_augI, wps_asgTp, wps_asgUl, gUl2, gTp2, gTp3, gTp4, gTp5, gNs_cons, gN0_nil, wp_clN1, wp_clN2, wp_clN3, wp_slSt, gTupR_int, gLstR_int, gEndswith_str]
    rw [gSlSt_tup (by decide) (by decide), cutSt_map]
    have hl := cutSt_len (xs := row) (by omega)
    exact ⟨small_line (by rw [List.length_map]; omega), fin (row' := cutSt row none none (-1)) rfl hl (fun x hx => ho x (cutSt_mem hx)) h2⟩
  · have hR : RowS ((row.drop a).take (a + 2 - a)) := ⟨by simp only [List.length_take, List.length_drop]; omega, rowO_take (rowO_drop ho _) _⟩
    have hM := mapsM_len hR
    have n0 : ¬ ((4 + j : Nat) : Int) = 0 := by omega
    have n1 : ¬ ((4 + j : Nat) : Int) = 1 := by omega
    have n2 : ¬ ((4 + j : Nat) : Int) = 2 := by omega
    have n3 : ¬ ((4 + j : Nat) : Int) = 3 := by omega
    simp only [n0, n1, n2, n3, wp_ok, wp_ret, wp_stuck, wp_bad, wp_bnd, wp_if, wp_fif, wps_ok_nx, wps_ok_rt, wps_ok_bk, wps_ok_ct, wps_ok_xc, wps_bad, wps_lft, wps_seq, wps_nil, wps_ret, wps_expr, wps_asg, wps_if, wp_run, wps_for, wps_while, wp_comp, wp_var, wp_C, wp_bin, wp_un, wp_T, wp_Tb, wp_asBl, wp_truthBl, wp_bAnd, wp_bOr, wp_bNot, wp_eIf, wp_eAnd, wp_eOr, wp_eNot, blCase_bl, wp_chain, wp_aNil, wp_aCons, wp_tup, wp_lst, wp_lstM, wp_call, wp_cl1, wp_cl2, wp_cl3, wp_cl4, wp_cl5, wp_meth, wp_isi, wp_oNone, wp_oSome, wp_sl, wp_it, wp_range1, wp_range2, wp_bYes, gEq_str, gNe_str, gEq_int, gNe_int, gEq_bl, gNe_bl, gIs_bl, gIsNot_bl, gAdd_int, gSub_int, gC_int, gI_int, gAdd_str, gAdd_tup, gAdd_lst, gNeg_int, gIx_tup, gIx_lst, gLen_tup, gLen_lst, gLen_str, gInt_int, gInt_bl, gTuple_lst, gTuple_tup, gList_lst, gList_tup, gSl_tup, gSl_lst, gSl_fl, gSl_str, srcL_tup, srcL_lst, srcL_fl, srcL_str, srcR1_int, typN, startR, List.map_cons, List.map_nil, List.length_cons, List.length_nil, Nat.reduceAdd, Nat.reduceSub, Nat.zero_add, Nat.sub_self, Nat.sub_zero, List.replicate_zero, List.replicate_succ, List.cons_append, List.nil_append, List.append_nil, List.getElem?_cons_zero, List.getElem?_cons_succ, List.set_cons_zero, List.set_cons_succ, List.set_nil, List.getElem?_nil, Option.some.injEq, exists_eq_left', exists_eq_left, exists_eq_right, reduceCtorEq, false_and, and_false, true_and, and_true, exists_false, exists_const, wipeR, Nat.zero_le, String.reduceEq, D.int.injEq, D.str.injEq, D.bl.injEq, atI_0, atI_1, atI_2, atI_3, atI_4, beq_self_eq_true, not_true_eq_false, not_false_eq_true, Int.cast_ofNat_Int, Int.reduceEq, Int.reduceLE, Int.reduceLT, Int.reduceAdd, Int.reduceSub, Int.reduceMul, Int.reduceNeg, if_true, if_false, ite_true, ite_false, Bool.false_eq_true, if_neg, if_pos, decide_eq_true_eq, Bool.not_eq_true', decide_eq_false_iff_not, eq_self_iff_true, decide_true, decide_false, Bool.not_true, Bool.not_false, wps_raise, wps_try, wps_tryAs, tryCase_t, tryCase_f, tbl_hit, suiteOf_hit, wp_eDct, wp_eDGet, wp_eDNew, wp_eDDef, wps_dput, wps_augI, wps_asgTp, wps_asgUl, gUl2, gTp2, gTp3, gTp4, gTp5, gNs_cons, gN0_nil, wp_clN1, wp_clN2, wp_clN3, wp_slSt, gTupR_int, gLstR_int, gEndswith_str]
    refine lmap_ok hR hf (by omega) h2.oks ?_
    have hq := mapsM_wf hR.2
    obtain ⟨hq1, hq2⟩ := hM
    generalize mapsM ((row.drop a).take (a + 2 - a)) = q at hq hq1 hq2
    have e4 : ((4 + j : Nat) : Int) - 4 = (j : Nat) := by omega
    simp only [lmpD, gLstR_int, e4, Int.toNat_natCast, rangeD_nats, wp_ok, wp_ret, wp_stuck, wp_bad, wp_bnd, wp_if, wp_fif, wps_ok_nx, wps_ok_rt, wps_ok_bk, wps_ok_ct, wps_ok_xc, wps_bad, wps_lft, wps_seq, wps_nil, wps_ret, wps_expr, wps_asg, wps_if, wp_run, wps_for, wps_while, wp_comp, wp_var, wp_C, wp_bin, wp_un, wp_T, wp_Tb, wp_asBl, wp_truthBl, wp_bAnd, wp_bOr, wp_bNot, wp_eIf, wp_eAnd, wp_eOr, wp_eNot, blCase_bl, wp_chain, wp_aNil, wp_aCons, wp_tup, wp_lst, wp_lstM, wp_call, wp_cl1, wp_cl2, wp_cl3, wp_cl4, wp_cl5, wp_meth, wp_isi, wp_oNone, wp_oSome, wp_sl, wp_it, wp_range1, wp_range2, wp_bYes, gEq_str, gNe_str, gEq_int, gNe_int, gEq_bl, gNe_bl, gIs_bl, gIsNot_bl, gAdd_int, gSub_int, gC_int, gI_int, gAdd_str, gAdd_tup, gAdd_lst, gNeg_int, gIx_tup, gIx_lst, gLen_tup, gLen_lst, gLen_str, gInt_int, gInt_bl, gTuple_lst, gTuple_tup, gList_lst, gList_tup, gSl_tup, gSl_lst, gSl_fl, gSl_str, srcL_tup, srcL_lst, srcL_fl, srcL_str, srcR1_int, typN, startR, List.map_cons, List.map_nil, List.length_cons, List.length_nil, Nat.reduceAdd, Nat.reduceSub, Nat.zero_add, Nat.sub_self, Nat.sub_zero, List.replicate_zero, List.replicate_succ, List.cons_append, List.nil_append, List.append_nil, List.getElem?_cons_zero, List.getElem?_cons_succ, List.set_cons_zero, List.set_cons_succ, List.set_nil, List.getElem?_nil, Option.some.injEq, exists_eq_left', exists_eq_left, exists_eq_right, reduceCtorEq, false_and, and_false, true_and, and_true, exists_false, exists_const, wipeR, Nat.zero_le, String.reduceEq, D.int.injEq, D.str.injEq, D.bl.injEq, atI_0, atI_1, atI_2, atI_3, atI_4, beq_self_eq_true, not_true_eq_false, not_false_eq_true, Int.cast_ofNat_Int, Int.reduceEq, Int.reduceLE, Int.reduceLT, Int.reduceAdd, Int.reduceSub, Int.reduceMul, Int.reduceNeg, if_true, if_false, ite_true, ite_false, Bool.false_eq_true, if_neg, if_pos, decide_eq_true_eq, Bool.not_eq_true', decide_eq_false_iff_not, eq_self_iff_true, decide_true, decide_false, Bool.not_true, Bool.not_false, wps_raise, wps_try, wps_tryAs, tryCase_t, tryCase_f, tbl_hit, suiteOf_hit, wp_eDct, wp_eDGet, wp_eDNew, wp_eDDef, wps_dput, wps_augI, wps_asgTp, wps_asgUl, gUl2, gTp2, gTp3, gTp4, gTp5, gNs_cons, gN0_nil, wp_clN1, wp_clN2, wp_clN3, wp_slSt, gTupR_int, gLstR_int, gEndswith_str]
    refine ⟨⟨by omega, by omega⟩, small_line (by rw [List.length_map]; omega), comp_one (all := q.2) (fun p => D.int ((p + j : Nat) : Int)) (fun p hp F E hF => ?_) ?_⟩
    · simp only [wp_ok, wp_ret, wp_stuck, wp_bad, wp_bnd, wp_if, wp_fif, wps_ok_nx, wps_ok_rt, wps_ok_bk, wps_ok_ct, wps_ok_xc, wps_bad, wps_lft, wps_seq, wps_nil, wps_ret, wps_expr, wps_asg, wps_if, wp_run, wps_for, wps_while, wp_comp, wp_var, wp_C, wp_bin, wp_un, wp_T, wp_Tb, wp_asBl, wp_truthBl, wp_bAnd, wp_bOr, wp_bNot, wp_eIf, wp_eAnd, wp_eOr, wp_eNot, blCase_bl, wp_chain, wp_aNil, wp_aCons, wp_tup, wp_lst, wp_lstM, wp_call, wp_cl1, wp_cl2, wp_cl3, wp_cl4, wp_cl5, wp_meth, wp_isi, wp_oNone, wp_oSome, wp_sl, wp_it, wp_range1, wp_range2, wp_bYes, gEq_str, gNe_str, gEq_int, gNe_int, gEq_bl, gNe_bl, gIs_bl, gIsNot_bl, gAdd_int, gSub_int, gC_int, gI_int, gAdd_str, gAdd_tup, gAdd_lst, gNeg_int, gIx_tup, gIx_lst, gLen_tup, gLen_lst, gLen_str, gInt_int, gInt_bl, gTuple_lst, gTuple_tup, gList_lst, gList_tup, gSl_tup, gSl_lst, gSl_fl, gSl_str, srcL_tup, srcL_lst, srcL_fl, srcL_str, srcR1_int, typN, startR, List.map_cons, List.map_nil, List.length_cons, List.length_nil, Nat.reduceAdd, Nat.reduceSub, Nat.zero_add, Nat.sub_self, Nat.sub_zero, List.replicate_zero, List.replicate_succ, List.cons_append, List.nil_append, List.append_nil, List.getElem?_cons_zero, List.getElem?_cons_succ, List.set_cons_zero, List.set_cons_succ, List.set_nil, List.getElem?_nil, Option.some.injEq, exists_eq_left', exists_eq_left, exists_eq_right, reduceCtorEq, false_and, and_false, true_and, and_true, exists_false, exists_const, wipeR, Nat.zero_le, String.reduceEq, D.int.injEq, D.str.injEq, D.bl.injEq, atI_0, atI_1, atI_2, atI_3, atI_4, beq_self_eq_true, not_true_eq_false, not_false_eq_true, Int.cast_ofNat_Int, Int.reduceEq, Int.reduceLE, Int.reduceLT, Int.reduceAdd, Int.reduceSub, Int.reduceMul, Int.reduceNeg, if_true, if_false, ite_true, ite_false, Bool.false_eq_true, if_neg, if_pos, decide_eq_true_eq, Bool.not_eq_true', decide_eq_false_iff_not, eq_self_iff_true, decide_true, decide_false, Bool.not_true, Bool.not_false, wps_raise, wps_try, wps_tryAs, tryCase_t, tryCase_f, tbl_hit, suiteOf_hit, wp_eDct, wp_eDGet, wp_eDNew, wp_eDDef, wps_dput, wps_augI, wps_asgTp, wps_asgUl, gUl2, gTp2, gTp3, gTp4, gTp5, gNs_cons, gN0_nil, wp_clN1, wp_clN2, wp_clN3, wp_slSt, gTupR_int, gLstR_int, gEndswith_str]
      rw [show ((p : Nat) : Int) + ((4 + j : Nat) : Int) - 4 = ((p + j : Nat) : Int) by omega]; exact hF
    · have e5 : nats (List.range j) ++ q.2.map (fun p => D.int ((p + j : Nat) : Int)) = nats (List.range j ++ q.2.map (· + j)) := by
        rw [nats, nats, List.map_append, List.map_map]; rfl
      have e6 : ((q.1 : Nat) : Int) + ((4 + j : Nat) : Int) - 4 = ((q.1 + j : Nat) : Int) := by omega
      rw [e5, e6]
      have hwf : ∀ p ∈ List.range j ++ q.2.map (· + j), p < q.1 + j := fun p hp => by
        have := ext_wf hq j p hp
        exact this
      have hlen : (List.range j ++ q.2.map (· + j)).length ≤ 1000 := by simp only [List.length_append, List.length_range, List.length_map]; omega
      refine ⟨small_line (by simp only [List.length_range, List.length_map]; omega), lmw_ok hwf hlen (by omega) h2.oks ?_⟩
      by_cases hc : q.1 + j ≤ 8 ∧ (List.range j ++ q.2.map (· + j)).length ≤ 12
      · rw [if_pos hc]
        simp only [gIs_wd, ha2, cut_takeN, cut_dropN, ← List.map_take, ← List.map_drop, wp_ok, wp_ret, wp_stuck, wp_bad, wp_bnd, wp_if, wp_fif, wps_ok_nx, wps_ok_rt, wps_ok_bk, wps_ok_ct, wps_ok_xc, wps_bad, wps_lft, wps_seq, wps_nil, wps_ret, wps_expr, wps_asg, wps_if, wp_run, wps_for, wps_while, wp_comp, wp_var, wp_C, wp_bin, wp_un, wp_T, wp_Tb, wp_asBl, wp_truthBl, wp_bAnd, wp_bOr, wp_bNot, wp_eIf, wp_eAnd, wp_eOr, wp_eNot, blCase_bl, wp_chain, wp_aNil, wp_aCons, wp_tup, wp_lst, wp_lstM, wp_call, wp_cl1, wp_cl2, wp_cl3, wp_cl4, wp_cl5, wp_meth, wp_isi, wp_oNone, wp_oSome, wp_sl, wp_it, wp_range1, wp_range2, wp_bYes, gEq_str, gNe_str, gEq_int, gNe_int, gEq_bl, gNe_bl, gIs_bl, gIsNot_bl, gAdd_int, gSub_int, gC_int, gI_int, gAdd_str, gAdd_tup, gAdd_lst, gNeg_int, gIx_tup, gIx_lst, gLen_tup, gLen_lst, gLen_str, gInt_int, gInt_bl, gTuple_lst, gTuple_tup, gList_lst, gList_tup, gSl_tup, gSl_lst, gSl_fl, gSl_str, srcL_tup, srcL_lst, srcL_fl, srcL_str, srcR1_int, typN, startR, List.map_cons, List.map_nil, List.length_cons, List.length_nil, Nat.reduceAdd, Nat.reduceSub, Nat.zero_add, Nat.sub_self, Nat.sub_zero, List.replicate_zero, List.replicate_succ, List.cons_append, List.nil_append, List.append_nil, List.getElem?_cons_zero, List.getElem?_cons_succ, List.set_cons_zero, List.set_cons_succ, List.set_nil, List.getElem?_nil, Option.some.injEq, exists_eq_left', exists_eq_left, exists_eq_right, reduceCtorEq, false_and, and_false, true_and, and_true, exists_false, exists_const, wipeR, Nat.zero_le, String.reduceEq, D.int.injEq, D.str.injEq, D.bl.injEq, atI_0, atI_1, atI_2, atI_3, atI_4, beq_self_eq_true, not_true_eq_false, not_false_eq_true, Int.cast_ofNat_Int, Int.reduceEq, Int.reduceLE, Int.reduceLT, Int.reduceAdd, Int.reduceSub, Int.reduceMul, Int.reduceNeg, if_true, if_false, ite_true, ite_false, Bool.false_eq_true, if_neg, if_pos, decide_eq_true_eq, Bool.not_eq_true', decide_eq_false_iff_not, eq_self_iff_true, decide_true, decide_false, Bool.not_true, Bool.not_false, wps_raise, wps_try, wps_tryAs, tryCase_t, tryCase_f, tbl_hit, suiteOf_hit, wp_eDct, wp_eDGet, wp_eDNew, wp_eDDef, wps_dput, wps_augI, wps_asgTp, wps_asgUl, gUl2, gTp2, gTp3, gTp4, gTp5, gNs_cons, gN0_nil, wp_clN1, wp_clN2, wp_clN3, wp_slSt, gTupR_int, gLstR_int, gEndswith_str]
        refine ⟨small_line (by decide), small_line (by simp only [List.length_map, List.length_take]; omega), small_line (by simp only [List.length_append, List.length_cons, List.length_nil, List.length_map, List.length_take, List.length_drop]; omega), fin (row' := row.take a ++ [(q.1 + j, List.range j ++ q.2.map (· + j))] ++ row.drop (a + 2)) (by rw [rowD, List.map_append, List.map_append]; rfl) (by simp only [List.length_append, List.length_cons, List.length_nil, List.length_take, List.length_drop]; omega) (rowO_app (rowO_app (rowO_take ho a) (rowO_1 ⟨hc.1, hc.2, hwf⟩)) (rowO_drop ho _)) h2⟩
      · rw [if_neg hc]
        simp only [gIs_non, wp_ok, wp_ret, wp_stuck, wp_bad, wp_bnd, wp_if, wp_fif, wps_ok_nx, wps_ok_rt, wps_ok_bk, wps_ok_ct, wps_ok_xc, wps_bad, wps_lft, wps_seq, wps_nil, wps_ret, wps_expr, wps_asg, wps_if, wp_run, wps_for, wps_while, wp_comp, wp_var, wp_C, wp_bin, wp_un, wp_T, wp_Tb, wp_asBl, wp_truthBl, wp_bAnd, wp_bOr, wp_bNot, wp_eIf, wp_eAnd, wp_eOr, wp_eNot, blCase_bl, wp_chain, wp_aNil, wp_aCons, wp_tup, wp_lst, wp_lstM, wp_call, wp_cl1, wp_cl2, wp_cl3, wp_cl4, wp_cl5, wp_meth, wp_isi, wp_oNone, wp_oSome, wp_sl, wp_it, wp_range1, wp_range2, wp_bYes, gEq_str, gNe_str, gEq_int, gNe_int, gEq_bl, gNe_bl, gIs_bl, gIsNot_bl, gAdd_int, gSub_int, gC_int, gI_int, gAdd_str, gAdd_tup, gAdd_lst, gNeg_int, gIx_tup, gIx_lst, gLen_tup, gLen_lst, gLen_str, gInt_int, gInt_bl, gTuple_lst, gTuple_tup, gList_lst, gList_tup, gSl_tup, gSl_lst, gSl_fl, gSl_str, srcL_tup, srcL_lst, srcL_fl, srcL_str, srcR1_int, typN, startR, List.map_cons, List.map_nil, List.length_cons, List.length_nil, Nat.reduceAdd, Nat.reduceSub, Nat.zero_add, Nat.sub_self, Nat.sub_zero, List.replicate_zero, List.replicate_succ, List.cons_append, List.nil_append, List.append_nil, List.getElem?_cons_zero, List.getElem?_cons_succ, List.set_cons_zero, List.set_cons_succ, List.set_nil, List.getElem?_nil, Option.some.injEq, exists_eq_left', exists_eq_left, exists_eq_right, reduceCtorEq, false_and, and_false, true_and, and_true, exists_false, exists_const, wipeR, Nat.zero_le, String.reduceEq, D.int.injEq, D.str.injEq, D.bl.injEq, atI_0, atI_1, atI_2, atI_3, atI_4, beq_self_eq_true, not_true_eq_false, not_false_eq_true, Int.cast_ofNat_Int, Int.reduceEq, Int.reduceLE, Int.reduceLT, Int.reduceAdd, Int.reduceSub, Int.reduceMul, Int.reduceNeg, if_true, if_false, ite_true, ite_false, Bool.false_eq_true, if_neg, if_pos, decide_eq_true_eq, Bool.not_eq_true', decide_eq_false_iff_not, eq_self_iff_true, decide_true, decide_false, Bool.not_true, Bool.not_false, wps_raise, wps_try, wps_tryAs, tryCase_t, tryCase_f, tbl_hit, suiteOf_hit, wp_eDct, wp_eDGet, wp_eDNew, wp_eDDef, wps_dput, wps_augI, wps_asgTp, wps_asgUl, gUl2, gTp2, gTp3, gTp4, gTp5, gNs_cons, gN0_nil, wp_clN1, wp_clN2, wp_clN3, wp_slSt, gTupR_int, gLstR_int, gEndswith_str]
        refine ⟨small_line (by decide), small_line (by simp only [List.length_map]; omega), fin (row' := row ++ [(2, [1, 0]), (2, [1, 0])]) ?_ (by simp only [List.length_append, List.length_cons, List.length_nil]; omega) (rowO_app ho fun x hx => ?_) h2⟩
        · rw [rowD, List.map_append, w_ba]; rfl
        · have : x = (2, [1, 0]) := by simpa using hx
          rw [this]; exact ⟨by decide, by decide, by decide⟩
end K61

namespace K61
open PySem L2 DL
variable {fu n : Nat} {R S : Sto} {F : D → Sto → Prop} {E : Exc → Sto → Prop}
/-! the law's turns -/
theorem sh_lmpD {q : Mp} : Sh 2 (lmpD q) := sh_tup fun d hd => by
  simp only [List.mem_cons, List.not_mem_nil, or_false] at hd
  rcases hd with rfl | rfl
  · exact sh_int
  · exact sh_lst sh_nats
theorem pu_lmpD {q : Mp} : (lmpD q).pu = true := pu_tup fun d hd => by
  simp only [List.mem_cons, List.not_mem_nil, or_false] at hd
  rcases hd with rfl | rfl
  · rfl
  · exact pu_lst pu_nats
theorem lmpD_inj {a b : Mp} : lmpD a = lmpD b ↔ a = b := by
  constructor
  · intro h
    obtain ⟨a1, a2⟩ := a
    obtain ⟨b1, b2⟩ := b
    simp only [lmpD, D.tup.injEq, D.lst.injEq, List.cons.injEq, and_true, D.int.injEq] at h
    rw [show a1 = b1 by omega, nats_inj.mp h.2]
  · rintro rfl; rfl
theorem gEq_lmp {a b : Mp} {F E} : wp (gEq (lmpD a) (lmpD b) S) F E ↔ F (.bl (decide (a = b))) S := by
  rw [gEq_pu sh_lmpD sh_lmpD (by decide) pu_lmpD pu_lmpD]
  simp only [lmpD_inj]
theorem is_by_ok {N : Nat} {one two : List Mp} {b : D} (h1 : RowS one) (h2 : RowS two) (he : mapsM one = mapsM two) (hf : 1000 ≤ fu) (hN : 3 ≤ N) (hS : OKS S) (hF : F (.bl true) S) : wp (den fu N i_l_is_by [.str "mapped", rowD one, rowD two, b] S) F E := by
  obtain ⟨N', rfl⟩ : ∃ N', N = N' + 1 := ⟨N - 1, by omega⟩
  rw [show den fu (N' + 1) i_l_is_by = runDef false 11 (b_l_is_by fu (den fu N')) from rfl]
  simp only [b_l_is_by, rowD, ofString_inj, wp_ok, wp_ret, wp_stuck, wp_bad, wp_bnd, wp_if, wp_fif, wps_ok_nx, wps_ok_rt, wps_ok_bk, wps_ok_ct, wps_ok_xc, wps_bad, wps_lft, wps_seq, wps_nil, wps_ret, wps_expr, wps_asg, wps_if, wp_run, wps_for, wps_while, wp_comp, wp_var, wp_C, wp_bin, wp_un, wp_T, wp_Tb, wp_asBl, wp_truthBl, wp_bAnd, wp_bOr, wp_bNot, wp_eIf, wp_eAnd, wp_eOr, wp_eNot, blCase_bl, wp_chain, wp_aNil, wp_aCons, wp_tup, wp_lst, wp_lstM, wp_call, wp_cl1, wp_cl2, wp_cl3, wp_cl4, wp_cl5, wp_meth, wp_isi, wp_oNone, wp_oSome, wp_sl, wp_it, wp_range1, wp_range2, wp_bYes, gEq_str, gNe_str, gEq_int, gNe_int, gEq_bl, gNe_bl, gIs_bl, gIsNot_bl, gAdd_int, gSub_int, gC_int, gI_int, gAdd_str, gAdd_tup, gAdd_lst, gNeg_int, gIx_tup, gIx_lst, gLen_tup, gLen_lst, gLen_str, gInt_int, gInt_bl, gTuple_lst, gTuple_tup, gList_lst, gList_tup, gSl_tup, gSl_lst, gSl_fl, gSl_str, srcL_tup, srcL_lst, srcL_fl, srcL_str, srcR1_int, typN, startR, List.map_cons, List.map_nil, List.length_cons, List.length_nil, Nat.reduceAdd, Nat.reduceSub, Nat.zero_add, Nat.sub_self, Nat.sub_zero, List.replicate_zero, List.replicate_succ, List.cons_append, List.nil_append, List.append_nil, List.getElem?_cons_zero, List.getElem?_cons_succ, List.set_cons_zero, List.set_cons_succ, List.set_nil, List.getElem?_nil, Option.some.injEq, exists_eq_left', exists_eq_left, exists_eq_right, reduceCtorEq, false_and, and_false, true_and, and_true, exists_false, exists_const, wipeR, Nat.zero_le, String.reduceEq, D.int.injEq, D.str.injEq, D.bl.injEq, atI_0, atI_1, atI_2, atI_3, atI_4, beq_self_eq_true, not_true_eq_false, not_false_eq_true, Int.cast_ofNat_Int, Int.reduceEq, Int.reduceLE, Int.reduceLT, Int.reduceAdd, Int.reduceSub, Int.reduceMul, Int.reduceNeg, if_true, if_false, ite_true, ite_false, Bool.false_eq_true, if_neg, if_pos, decide_eq_true_eq, Bool.not_eq_true', decide_eq_false_iff_not, eq_self_iff_true, decide_true, decide_false, Bool.not_true, Bool.not_false, wps_raise, wps_try, wps_tryAs, tryCase_t, tryCase_f, tbl_hit, suiteOf_hit, wp_eDct, wp_eDGet, wp_eDNew, wp_eDDef, wps_dput, wps_augI, wps_asgTp, wps_asgUl, gUl2, gTp2, gTp3, gTp4, gTp5, gNs_cons, gN0_nil, wp_clN1, wp_clN2, wp_clN3, wp_slSt, gTupR_int, gLstR_int, gEndswith_str]
  have l1 := h1.1
  have l2 := h2.1
  refine ⟨small_line (by simp only [List.length_map]; omega), small_line (by simp only [List.length_append, List.length_map]; omega), ?_⟩
  refine wp_compM (fun k ys S' => S' = S ∧ ys = []) (fun _ _ _ _ => trivial) (fun k d ys S' hd hk => ?_) (fun ys S' hk => ?_) ⟨rfl, rfl⟩
  · obtain ⟨rfl, rfl⟩ := hk
    rw [← List.map_append, List.getElem?_map, Option.map_eq_some_iff] at hd
    obtain ⟨w, hw, rfl⟩ := hd
    have hwo : ShO w.1 w.2 := rowO_app h1.2 h2.2 w (List.mem_of_getElem? hw)
    refine ⟨_, rfl, ?_⟩
    simp only [wdD, wp_ok, wp_ret, wp_stuck, wp_bad, wp_bnd, wp_if, wp_fif, wps_ok_nx, wps_ok_rt, wps_ok_bk, wps_ok_ct, wps_ok_xc, wps_bad, wps_lft, wps_seq, wps_nil, wps_ret, wps_expr, wps_asg, wps_if, wp_run, wps_for, wps_while, wp_comp, wp_var, wp_C, wp_bin, wp_un, wp_T, wp_Tb, wp_asBl, wp_truthBl, wp_bAnd, wp_bOr, wp_bNot, wp_eIf, wp_eAnd, wp_eOr, wp_eNot, blCase_bl, wp_chain, wp_aNil, wp_aCons, wp_tup, wp_lst, wp_lstM, wp_call, wp_cl1, wp_cl2, wp_cl3, wp_cl4, wp_cl5, wp_meth, wp_isi, wp_oNone, wp_oSome, wp_sl, wp_it, wp_range1, wp_range2, wp_bYes, gEq_str, gNe_str, gEq_int, gNe_int, gEq_bl, gNe_bl, gIs_bl, gIsNot_bl, gAdd_int, gSub_int, gC_int, gI_int, gAdd_str, gAdd_tup, gAdd_lst, gNeg_int, gIx_tup, gIx_lst, gLen_tup, gLen_lst, gLen_str, gInt_int, gInt_bl, gTuple_lst, gTuple_tup, gList_lst, gList_tup, gSl_tup, gSl_lst, gSl_fl, gSl_str, srcL_tup, srcL_lst, srcL_fl, srcL_str, srcR1_int, typN, startR, List.map_cons, List.map_nil, List.length_cons, List.length_nil, Nat.reduceAdd, Nat.reduceSub, Nat.zero_add, Nat.sub_self, Nat.sub_zero, List.replicate_zero, List.replicate_succ, List.cons_append, List.nil_append, List.append_nil, List.getElem?_cons_zero, List.getElem?_cons_succ, List.set_cons_zero, List.set_cons_succ, List.set_nil, List.getElem?_nil, Option.some.injEq, exists_eq_left', exists_eq_left, exists_eq_right, reduceCtorEq, false_and, and_false, true_and, and_true, exists_false, exists_const, wipeR, Nat.zero_le, String.reduceEq, D.int.injEq, D.str.injEq, D.bl.injEq, atI_0, atI_1, atI_2, atI_3, atI_4, beq_self_eq_true, not_true_eq_false, not_false_eq_true, Int.cast_ofNat_Int, Int.reduceEq, Int.reduceLE, Int.reduceLT, Int.reduceAdd, Int.reduceSub, Int.reduceMul, Int.reduceNeg, if_true, if_false, ite_true, ite_false, Bool.false_eq_true, if_neg, if_pos, decide_eq_true_eq, Bool.not_eq_true', decide_eq_false_iff_not, eq_self_iff_true, decide_true, decide_false, Bool.not_true, Bool.not_false, wps_raise, wps_try, wps_tryAs, tryCase_t, tryCase_f, tbl_hit, suiteOf_hit, wp_eDct, wp_eDGet, wp_eDNew, wp_eDDef, wps_dput, wps_augI, wps_asgTp, wps_asgUl, gUl2, gTp2, gTp3, gTp4, gTp5, gNs_cons, gN0_nil, wp_clN1, wp_clN2, wp_clN3, wp_slSt, gTupR_int, gLstR_int, gEndswith_str]
    refine lSh_ok hwo (by omega) hS ?_
    simp only [wp_ok, wp_ret, wp_stuck, wp_bad, wp_bnd, wp_if, wp_fif, wps_ok_nx, wps_ok_rt, wps_ok_bk, wps_ok_ct, wps_ok_xc, wps_bad, wps_lft, wps_seq, wps_nil, wps_ret, wps_expr, wps_asg, wps_if, wp_run, wps_for, wps_while, wp_comp, wp_var, wp_C, wp_bin, wp_un, wp_T, wp_Tb, wp_asBl, wp_truthBl, wp_bAnd, wp_bOr, wp_bNot, wp_eIf, wp_eAnd, wp_eOr, wp_eNot, blCase_bl, wp_chain, wp_aNil, wp_aCons, wp_tup, wp_lst, wp_lstM, wp_call, wp_cl1, wp_cl2, wp_cl3, wp_cl4, wp_cl5, wp_meth, wp_isi, wp_oNone, wp_oSome, wp_sl, wp_it, wp_range1, wp_range2, wp_bYes, gEq_str, gNe_str, gEq_int, gNe_int, gEq_bl, gNe_bl, gIs_bl, gIsNot_bl, gAdd_int, gSub_int, gC_int, gI_int, gAdd_str, gAdd_tup, gAdd_lst, gNeg_int, gIx_tup, gIx_lst, gLen_tup, gLen_lst, gLen_str, gInt_int, gInt_bl, gTuple_lst, gTuple_tup, gList_lst, gList_tup, gSl_tup, gSl_lst, gSl_fl, gSl_str, srcL_tup, srcL_lst, srcL_fl, srcL_str, srcR1_int, typN, startR, List.map_cons, List.map_nil, List.length_cons, List.length_nil, Nat.reduceAdd, Nat.reduceSub, Nat.zero_add, Nat.sub_self, Nat.sub_zero, List.replicate_zero, List.replicate_succ, List.cons_append, List.nil_append, List.append_nil, List.getElem?_cons_zero, List.getElem?_cons_succ, List.set_cons_zero, List.set_cons_succ, List.set_nil, List.getElem?_nil, Option.some.injEq, exists_eq_left', exists_eq_left, exists_eq_right, reduceCtorEq, false_and, and_false, true_and, and_true, exists_false, exists_const, wipeR, Nat.zero_le, String.reduceEq, D.int.injEq, D.str.injEq, D.bl.injEq, atI_0, atI_1, atI_2, atI_3, atI_4, beq_self_eq_true, not_true_eq_false, not_false_eq_true, Int.cast_ofNat_Int, Int.reduceEq, Int.reduceLE, Int.reduceLT, Int.reduceAdd, Int.reduceSub, Int.reduceMul, Int.reduceNeg, if_true, if_false, ite_true, ite_false, Bool.false_eq_true, if_neg, if_pos, decide_eq_true_eq, Bool.not_eq_true', decide_eq_false_iff_not, eq_self_iff_true, decide_true, decide_false, Bool.not_true, Bool.not_false, wps_raise, wps_try, wps_tryAs, tryCase_t, tryCase_f, tbl_hit, suiteOf_hit, wp_eDct, wp_eDGet, wp_eDNew, wp_eDDef, wps_dput, wps_augI, wps_asgTp, wps_asgUl, gUl2, gTp2, gTp3, gTp4, gTp5, gNs_cons, gN0_nil, wp_clN1, wp_clN2, wp_clN3, wp_slSt, gTupR_int, gLstR_int, gEndswith_str]
  · obtain ⟨rfl, rfl⟩ := hk
    have hnil : ∀ {F E}, wp (gEq (.lst []) (.lst []) S') F E ↔ F (.bl true) S' := fun {F E} => by
      rw [gEq_pu (sh_lst (m := 0) (by simp)) (sh_lst (m := 0) (by simp)) (by decide) rfl rfl]
      simp
    simp only [hnil, wp_ok, wp_ret, wp_stuck, wp_bad, wp_bnd, wp_if, wp_fif, wps_ok_nx, wps_ok_rt, wps_ok_bk, wps_ok_ct, wps_ok_xc, wps_bad, wps_lft, wps_seq, wps_nil, wps_ret, wps_expr, wps_asg, wps_if, wp_run, wps_for, wps_while, wp_comp, wp_var, wp_C, wp_bin, wp_un, wp_T, wp_Tb, wp_asBl, wp_truthBl, wp_bAnd, wp_bOr, wp_bNot, wp_eIf, wp_eAnd, wp_eOr, wp_eNot, blCase_bl, wp_chain, wp_aNil, wp_aCons, wp_tup, wp_lst, wp_lstM, wp_call, wp_cl1, wp_cl2, wp_cl3, wp_cl4, wp_cl5, wp_meth, wp_isi, wp_oNone, wp_oSome, wp_sl, wp_it, wp_range1, wp_range2, wp_bYes, gEq_str, gNe_str, gEq_int, gNe_int, gEq_bl, gNe_bl, gIs_bl, gIsNot_bl, gAdd_int, gSub_int, gC_int, gI_int, gAdd_str, gAdd_tup, gAdd_lst, gNeg_int, gIx_tup, gIx_lst, gLen_tup, gLen_lst, gLen_str, gInt_int, gInt_bl, gTuple_lst, gTuple_tup, gList_lst, gList_tup, gSl_tup, gSl_lst, gSl_fl, gSl_str, srcL_tup, srcL_lst, srcL_fl, srcL_str, srcR1_int, typN, startR, List.map_cons, List.map_nil, List.length_cons, List.length_nil, Nat.reduceAdd, Nat.reduceSub, Nat.zero_add, Nat.sub_self, Nat.sub_zero, List.replicate_zero, List.replicate_succ, List.cons_append, List.nil_append, List.append_nil, List.getElem?_cons_zero, List.getElem?_cons_succ, List.set_cons_zero, List.set_cons_succ, List.set_nil, List.getElem?_nil, Option.some.injEq, exists_eq_left', exists_eq_left, exists_eq_right, reduceCtorEq, false_and, and_false, true_and, and_true, exists_false, exists_const, wipeR, Nat.zero_le, String.reduceEq, D.int.injEq, D.str.injEq, D.bl.injEq, atI_0, atI_1, atI_2, atI_3, atI_4, beq_self_eq_true, not_true_eq_false, not_false_eq_true, Int.cast_ofNat_Int, Int.reduceEq, Int.reduceLE, Int.reduceLT, Int.reduceAdd, Int.reduceSub, Int.reduceMul, Int.reduceNeg, if_true, if_false, ite_true, ite_false, Bool.false_eq_true, if_neg, if_pos, decide_eq_true_eq, Bool.not_eq_true', decide_eq_false_iff_not, eq_self_iff_true, decide_true, decide_false, Bool.not_true, Bool.not_false, wps_raise, wps_try, wps_tryAs, tryCase_t, tryCase_f, tbl_hit, suiteOf_hit, wp_eDct, wp_eDGet, wp_eDNew, wp_eDDef, wps_dput, wps_augI, wps_asgTp, wps_asgUl, gUl2, gTp2, gTp3, gTp4, gTp5, gNs_cons, gN0_nil, wp_clN1, wp_clN2, wp_clN3, wp_slSt, gTupR_int, gLstR_int, gEndswith_str]
    refine lmap_ok h1 hf (by omega) hS ?_
    refine lmap_ok h2 hf (by omega) hS ?_
    rw [gEq_lmp, decide_eq_true he]
    exact (fin_blO hS).mpr hF
theorem put_ok {N : Nat} {one two : List Mp} (h1 : RowS one) (h2 : RowS two) (hN : 1 ≤ N) (hS : OKS S) (hF : F (rowD two) S) : wp (den fu N i_l_put [rowD one, .tup [.int 0], .int one.length, rowD two] S) F E := by
  obtain ⟨N', rfl⟩ : ∃ N', N = N' + 1 := ⟨N - 1, by omega⟩
  rw [show den fu (N' + 1) i_l_put = runDef false 6 (b_l_put fu (den fu N')) from rfl]
  have l1 := h1.1
  have l2 := h2.1
  have c1 : cutD (one.map wdD) none (some 0) = [] := cut_takeN (a := 0)
  have c2 : cutD (one.map wdD) (some ((one.length : Nat) : Int)) none = [] := by
    rw [cut_dropN, List.drop_of_length_le (by rw [List.length_map]; exact Nat.le_refl _)]
  have z : (0 : Int) + ((one.length : Nat) : Int) = ((one.length : Nat) : Int) := by omega
  simp only [b_l_put, rowD, c1, c2, z, wp_ok, wp_ret, wp_stuck, wp_bad, wp_bnd, wp_if, wp_fif, wps_ok_nx, wps_ok_rt, wps_ok_bk, wps_ok_ct, wps_ok_xc, wps_bad, wps_lft, wps_seq, wps_nil, wps_ret, wps_expr, wps_asg, wps_if, wp_run, wps_for, wps_while, wp_comp, wp_var, wp_C, wp_bin, wp_un, wp_T, wp_Tb, wp_asBl, wp_truthBl, wp_bAnd, wp_bOr, wp_bNot, wp_eIf, wp_eAnd, wp_eOr, wp_eNot, blCase_bl, wp_chain, wp_aNil, wp_aCons, wp_tup, wp_lst, wp_lstM, wp_call, wp_cl1, wp_cl2, wp_cl3, wp_cl4, wp_cl5, wp_meth, wp_isi, wp_oNone, wp_oSome, wp_sl, wp_it, wp_range1, wp_range2, wp_bYes, gEq_str, gNe_str, gEq_int, gNe_int, gEq_bl, gNe_bl, gIs_bl, gIsNot_bl, gAdd_int, gSub_int, gC_int, gI_int, gAdd_str, gAdd_tup, gAdd_lst, gNeg_int, gIx_tup, gIx_lst, gLen_tup, gLen_lst, gLen_str, gInt_int, gInt_bl, gTuple_lst, gTuple_tup, gList_lst, gList_tup, gSl_tup, gSl_lst, gSl_fl, gSl_str, srcL_tup, srcL_lst, srcL_fl, srcL_str, srcR1_int, typN, startR, List.map_cons, List.map_nil, List.length_cons, List.length_nil, Nat.reduceAdd, Nat.reduceSub, Nat.zero_add, Nat.sub_self, Nat.sub_zero, List.replicate_zero, List.replicate_succ, List.cons_append, List.nil_append, List.append_nil, List.getElem?_cons_zero, List.getElem?_cons_succ, List.set_cons_zero, List.set_cons_succ, List.set_nil, List.getElem?_nil, Option.some.injEq, exists_eq_left', exists_eq_left, exists_eq_right, reduceCtorEq, false_and, and_false, true_and, and_true, exists_false, exists_const, wipeR, Nat.zero_le, String.reduceEq, D.int.injEq, D.str.injEq, D.bl.injEq, atI_0, atI_1, atI_2, atI_3, atI_4, beq_self_eq_true, not_true_eq_false, not_false_eq_true, Int.cast_ofNat_Int, Int.reduceEq, Int.reduceLE, Int.reduceLT, Int.reduceAdd, Int.reduceSub, Int.reduceMul, Int.reduceNeg, if_true, if_false, ite_true, ite_false, Bool.false_eq_true, if_neg, if_pos, decide_eq_true_eq, Bool.not_eq_true', decide_eq_false_iff_not, eq_self_iff_true, decide_true, decide_false, Bool.not_true, Bool.not_false, wps_raise, wps_try, wps_tryAs, tryCase_t, tryCase_f, tbl_hit, suiteOf_hit, wp_eDct, wp_eDGet, wp_eDNew, wp_eDDef, wps_dput, wps_augI, wps_asgTp, wps_asgUl, gUl2, gTp2, gTp3, gTp4, gTp5, gNs_cons, gN0_nil, wp_clN1, wp_clN2, wp_clN3, wp_slSt, gTupR_int, gLstR_int, gEndswith_str]
  exact ⟨small_line (by rw [List.length_map]; omega), small_line (by rw [List.length_map]; omega), (fin_trO hS (rowD_tr two)).mpr hF⟩
theorem for0 {all : List D} {tgt : D → Rho → Option Rho} {body : EvS} {ρ : Rho} {N : Rho → Sto → Prop} {T : D → Sto → Prop} {B C : Rho → Sto → Prop} {X : Exc → Rho → Sto → Prop} : wps (forM none all tgt body [] ρ S) N T B C X ↔ N ρ S := by
  unfold DL.forM
  rw [if_pos (show liveOk none all S from trivial)]
  exact Iff.rfl
theorem turned_by_ok {N : Nat} {one two : List Mp} {b : D} (h1 : RowS one) (h2 : RowS two) (he : mapsM one = mapsM two) (hf : 1000 ≤ fu) (hN : 4 ≤ N) (hS : OKS S) (hF : F (rowD two) S) : wp (den fu N i_l_turned_by [rowD one, turnD one.length two, b] S) F E := by
  obtain ⟨N', rfl⟩ : ∃ N', N = N' + 1 := ⟨N - 1, by omega⟩
  rw [show den fu (N' + 1) i_l_turned_by = runDef false 10 (b_l_turned_by fu (den fu N')) from rfl]
  have c1 : cutD [D.int 0] none (some (-1)) = [] := rfl
  have z : (0 : Int) + ((one.length : Nat) : Int) = ((one.length : Nat) : Int) := by omega
  have c2 : cutD (one.map wdD) (some 0) (some ((one.length : Nat) : Int)) = one.map wdD := by
    have := cut_mid (ds := one.map wdD) (a := 0) (b := one.length) (Nat.zero_le _)
    rw [List.drop_zero, Nat.sub_zero, List.take_of_length_le (by rw [List.length_map]; exact Nat.le_refl _)] at this
    exact this
  have a1 : atI [D.int 0] (-1) = some (.int 0) := rfl
  have gs : ∀ {F E}, wp (gSl false (rowD one) (some 0) (some (0 + ((one.length : Nat) : Int))) S) F E ↔ F (rowD one) S := fun {F E} => by
    rw [rowD, gSl_tup, z, c2]
  have gl : ∀ {F E}, wp (gLen [rowD one] S) F E ↔ F (.int one.length) S := fun {F E} => by
    rw [rowD, gLen_tup, List.length_map]
  simp only [b_l_turned_by, turnD, c1, a1, for0, gs, gl, wp_ok, wp_ret, wp_stuck, wp_bad, wp_bnd, wp_if, wp_fif, wps_ok_nx, wps_ok_rt, wps_ok_bk, wps_ok_ct, wps_ok_xc, wps_bad, wps_lft, wps_seq, wps_nil, wps_ret, wps_expr, wps_asg, wps_if, wp_run, wps_for, wps_while, wp_comp, wp_var, wp_C, wp_bin, wp_un, wp_T, wp_Tb, wp_asBl, wp_truthBl, wp_bAnd, wp_bOr, wp_bNot, wp_eIf, wp_eAnd, wp_eOr, wp_eNot, blCase_bl, wp_chain, wp_aNil, wp_aCons, wp_tup, wp_lst, wp_lstM, wp_call, wp_cl1, wp_cl2, wp_cl3, wp_cl4, wp_cl5, wp_meth, wp_isi, wp_oNone, wp_oSome, wp_sl, wp_it, wp_range1, wp_range2, wp_bYes, gEq_str, gNe_str, gEq_int, gNe_int, gEq_bl, gNe_bl, gIs_bl, gIsNot_bl, gAdd_int, gSub_int, gC_int, gI_int, gAdd_str, gAdd_tup, gAdd_lst, gNeg_int, gIx_tup, gIx_lst, gLen_tup, gLen_lst, gLen_str, gInt_int, gInt_bl, gTuple_lst, gTuple_tup, gList_lst, gList_tup, gSl_tup, gSl_lst, gSl_fl, gSl_str, srcL_tup, srcL_lst, srcL_fl, srcL_str, srcR1_int, typN, startR, List.map_cons, List.map_nil, List.length_cons, List.length_nil, Nat.reduceAdd, Nat.reduceSub, Nat.zero_add, Nat.sub_self, Nat.sub_zero, List.replicate_zero, List.replicate_succ, List.cons_append, List.nil_append, List.append_nil, List.getElem?_cons_zero, List.getElem?_cons_succ, List.set_cons_zero, List.set_cons_succ, List.set_nil, List.getElem?_nil, Option.some.injEq, exists_eq_left', exists_eq_left, exists_eq_right, reduceCtorEq, false_and, and_false, true_and, and_true, exists_false, exists_const, wipeR, Nat.zero_le, String.reduceEq, D.int.injEq, D.str.injEq, D.bl.injEq, atI_0, atI_1, atI_2, atI_3, atI_4, beq_self_eq_true, not_true_eq_false, not_false_eq_true, Int.cast_ofNat_Int, Int.reduceEq, Int.reduceLE, Int.reduceLT, Int.reduceAdd, Int.reduceSub, Int.reduceMul, Int.reduceNeg, if_true, if_false, ite_true, ite_false, Bool.false_eq_true, if_neg, if_pos, decide_eq_true_eq, Bool.not_eq_true', decide_eq_false_iff_not, eq_self_iff_true, decide_true, decide_false, Bool.not_true, Bool.not_false, wps_raise, wps_try, wps_tryAs, tryCase_t, tryCase_f, tbl_hit, suiteOf_hit, wp_eDct, wp_eDGet, wp_eDNew, wp_eDDef, wps_dput, wps_augI, wps_asgTp, wps_asgUl, gUl2, gTp2, gTp3, gTp4, gTp5, gNs_cons, gN0_nil, wp_clN1, wp_clN2, wp_clN3, wp_slSt, gTupR_int, gLstR_int, gEndswith_str]
  refine is_by_ok h1 h2 he hf (by omega) hS ?_
  simp only [wp_ok, wp_ret, wp_stuck, wp_bad, wp_bnd, wp_if, wp_fif, wps_ok_nx, wps_ok_rt, wps_ok_bk, wps_ok_ct, wps_ok_xc, wps_bad, wps_lft, wps_seq, wps_nil, wps_ret, wps_expr, wps_asg, wps_if, wp_run, wps_for, wps_while, wp_comp, wp_var, wp_C, wp_bin, wp_un, wp_T, wp_Tb, wp_asBl, wp_truthBl, wp_bAnd, wp_bOr, wp_bNot, wp_eIf, wp_eAnd, wp_eOr, wp_eNot, blCase_bl, wp_chain, wp_aNil, wp_aCons, wp_tup, wp_lst, wp_lstM, wp_call, wp_cl1, wp_cl2, wp_cl3, wp_cl4, wp_cl5, wp_meth, wp_isi, wp_oNone, wp_oSome, wp_sl, wp_it, wp_range1, wp_range2, wp_bYes, gEq_str, gNe_str, gEq_int, gNe_int, gEq_bl, gNe_bl, gIs_bl, gIsNot_bl, gAdd_int, gSub_int, gC_int, gI_int, gAdd_str, gAdd_tup, gAdd_lst, gNeg_int, gIx_tup, gIx_lst, gLen_tup, gLen_lst, gLen_str, gInt_int, gInt_bl, gTuple_lst, gTuple_tup, gList_lst, gList_tup, gSl_tup, gSl_lst, gSl_fl, gSl_str, srcL_tup, srcL_lst, srcL_fl, srcL_str, srcR1_int, typN, startR, List.map_cons, List.map_nil, List.length_cons, List.length_nil, Nat.reduceAdd, Nat.reduceSub, Nat.zero_add, Nat.sub_self, Nat.sub_zero, List.replicate_zero, List.replicate_succ, List.cons_append, List.nil_append, List.append_nil, List.getElem?_cons_zero, List.getElem?_cons_succ, List.set_cons_zero, List.set_cons_succ, List.set_nil, List.getElem?_nil, Option.some.injEq, exists_eq_left', exists_eq_left, exists_eq_right, reduceCtorEq, false_and, and_false, true_and, and_true, exists_false, exists_const, wipeR, Nat.zero_le, String.reduceEq, D.int.injEq, D.str.injEq, D.bl.injEq, atI_0, atI_1, atI_2, atI_3, atI_4, beq_self_eq_true, not_true_eq_false, not_false_eq_true, Int.cast_ofNat_Int, Int.reduceEq, Int.reduceLE, Int.reduceLT, Int.reduceAdd, Int.reduceSub, Int.reduceMul, Int.reduceNeg, if_true, if_false, ite_true, ite_false, Bool.false_eq_true, if_neg, if_pos, decide_eq_true_eq, Bool.not_eq_true', decide_eq_false_iff_not, eq_self_iff_true, decide_true, decide_false, Bool.not_true, Bool.not_false, wps_raise, wps_try, wps_tryAs, tryCase_t, tryCase_f, tbl_hit, suiteOf_hit, wp_eDct, wp_eDGet, wp_eDNew, wp_eDDef, wps_dput, wps_augI, wps_asgTp, wps_asgUl, gUl2, gTp2, gTp3, gTp4, gTp5, gNs_cons, gN0_nil, wp_clN1, wp_clN2, wp_clN3, wp_slSt, gTupR_int, gLstR_int, gEndswith_str]
  exact put_ok h1 h2 (by omega) hS ((fin_trO hS (rowD_tr two)).mpr hF)
theorem L8_strOk {x : Nat} {m : Nat} (h : x ∈ L8.take m) : x < 1114112 := by
  have h := List.mem_of_mem_take h
  simp only [L8, List.mem_cons, List.not_mem_nil, or_false] at h
  omega
theorem wd_strOk {m : Nat} {ps : List Nat} (h : ShO m ps) : PyData.strOk (wd m ps) = true := by
  unfold PyData.strOk wd
  rw [← Array.all_toList, app_toList, app_toList]
  simp only [List.all_append, Bool.and_eq_true, List.all_eq_true, decide_eq_true_eq, List.toList_toArray]
  refine ⟨⟨fun x hx => L8_strOk hx, by simp⟩, fun x hx => ?_⟩
  obtain ⟨p, hp, rfl⟩ := List.mem_map.mp hx
  have := h.2.2 p hp
  have := h.1
  omega
theorem sh_rowD {row : List Mp} (h : RowO row) : Sh 1 (rowD row) := sh_tup fun d hd => by
  obtain ⟨w, hw, rfl⟩ := List.mem_map.mp hd
  exact sh_str (wd_strOk (h w hw))
theorem pu_rowD {row : List Mp} : (rowD row).pu = true := pu_tup fun d hd => by
  obtain ⟨w, hw, rfl⟩ := List.mem_map.mp hd
  rfl
theorem leads_ok {N : Nat} {one two : List Mp} {b : D} (h1 : RowS one) (h2 : RowS two) (he : mapsM one = mapsM two) (hf : 1000 ≤ fu) (hN : 5 ≤ N) (hS : OKS S) (hF : F (.bl true) S) : wp (den fu N i_l_leads [rowD one, .tup [turnD one.length two], rowD two, b] S) F E := by
  obtain ⟨N', rfl⟩ : ∃ N', N = N' + 1 := ⟨N - 1, by omega⟩
  rw [show den fu (N' + 1) i_l_leads = runDef false 5 (b_l_leads fu (den fu N')) from rfl]
  have gn : ∀ {row : List Mp} {F E}, wp (gIsNot (rowD row) .non S) F E ↔ F (.bl true) S := fun {row F E} => Iff.rfl
  simp only [b_l_leads, wp_ok, wp_ret, wp_stuck, wp_bad, wp_bnd, wp_if, wp_fif, wps_ok_nx, wps_ok_rt, wps_ok_bk, wps_ok_ct, wps_ok_xc, wps_bad, wps_lft, wps_seq, wps_nil, wps_ret, wps_expr, wps_asg, wps_if, wp_run, wps_for, wps_while, wp_comp, wp_var, wp_C, wp_bin, wp_un, wp_T, wp_Tb, wp_asBl, wp_truthBl, wp_bAnd, wp_bOr, wp_bNot, wp_eIf, wp_eAnd, wp_eOr, wp_eNot, blCase_bl, wp_chain, wp_aNil, wp_aCons, wp_tup, wp_lst, wp_lstM, wp_call, wp_cl1, wp_cl2, wp_cl3, wp_cl4, wp_cl5, wp_meth, wp_isi, wp_oNone, wp_oSome, wp_sl, wp_it, wp_range1, wp_range2, wp_bYes, gEq_str, gNe_str, gEq_int, gNe_int, gEq_bl, gNe_bl, gIs_bl, gIsNot_bl, gAdd_int, gSub_int, gC_int, gI_int, gAdd_str, gAdd_tup, gAdd_lst, gNeg_int, gIx_tup, gIx_lst, gLen_tup, gLen_lst, gLen_str, gInt_int, gInt_bl, gTuple_lst, gTuple_tup, gList_lst, gList_tup, gSl_tup, gSl_lst, gSl_fl, gSl_str, srcL_tup, srcL_lst, srcL_fl, srcL_str, srcR1_int, typN, startR, List.map_cons, List.map_nil, List.length_cons, List.length_nil, Nat.reduceAdd, Nat.reduceSub, Nat.zero_add, Nat.sub_self, Nat.sub_zero, List.replicate_zero, List.replicate_succ, List.cons_append, List.nil_append, List.append_nil, List.getElem?_cons_zero, List.getElem?_cons_succ, List.set_cons_zero, List.set_cons_succ, List.set_nil, List.getElem?_nil, Option.some.injEq, exists_eq_left', exists_eq_left, exists_eq_right, reduceCtorEq, false_and, and_false, true_and, and_true, exists_false, exists_const, wipeR, Nat.zero_le, String.reduceEq, D.int.injEq, D.str.injEq, D.bl.injEq, atI_0, atI_1, atI_2, atI_3, atI_4, beq_self_eq_true, not_true_eq_false, not_false_eq_true, Int.cast_ofNat_Int, Int.reduceEq, Int.reduceLE, Int.reduceLT, Int.reduceAdd, Int.reduceSub, Int.reduceMul, Int.reduceNeg, if_true, if_false, ite_true, ite_false, Bool.false_eq_true, if_neg, if_pos, decide_eq_true_eq, Bool.not_eq_true', decide_eq_false_iff_not, eq_self_iff_true, decide_true, decide_false, Bool.not_true, Bool.not_false, wps_raise, wps_try, wps_tryAs, tryCase_t, tryCase_f, tbl_hit, suiteOf_hit, wp_eDct, wp_eDGet, wp_eDNew, wp_eDDef, wps_dput, wps_augI, wps_asgTp, wps_asgUl, gUl2, gTp2, gTp3, gTp4, gTp5, gNs_cons, gN0_nil, wp_clN1, wp_clN2, wp_clN3, wp_slSt, gTupR_int, gLstR_int, gEndswith_str]
  refine wps_forM (fun k ρ S' => S' = S ∧ ∃ o, ρ = [some (rowD (if k = 0 then one else two)), some (.tup [turnD one.length two]), some (rowD two), some b, o]) (fun _ _ _ _ => trivial) (fun k d ρ S' hd hI => ?_) (fun ρ S' hI => ?_) ⟨rfl, none, rfl⟩
  · obtain ⟨rfl, o, rfl⟩ := hI
    have hk := (List.getElem?_eq_some_iff.mp hd).1
    simp only [List.length_singleton] at hk
    obtain rfl : k = 0 := by omega
    obtain rfl : turnD one.length two = d := by simpa using hd
    refine ⟨_, rfl, ?_⟩
    simp only [gn, wp_ok, wp_ret, wp_stuck, wp_bad, wp_bnd, wp_if, wp_fif, wps_ok_nx, wps_ok_rt, wps_ok_bk, wps_ok_ct, wps_ok_xc, wps_bad, wps_lft, wps_seq, wps_nil, wps_ret, wps_expr, wps_asg, wps_if, wp_run, wps_for, wps_while, wp_comp, wp_var, wp_C, wp_bin, wp_un, wp_T, wp_Tb, wp_asBl, wp_truthBl, wp_bAnd, wp_bOr, wp_bNot, wp_eIf, wp_eAnd, wp_eOr, wp_eNot, blCase_bl, wp_chain, wp_aNil, wp_aCons, wp_tup, wp_lst, wp_lstM, wp_call, wp_cl1, wp_cl2, wp_cl3, wp_cl4, wp_cl5, wp_meth, wp_isi, wp_oNone, wp_oSome, wp_sl, wp_it, wp_range1, wp_range2, wp_bYes, gEq_str, gNe_str, gEq_int, gNe_int, gEq_bl, gNe_bl, gIs_bl, gIsNot_bl, gAdd_int, gSub_int, gC_int, gI_int, gAdd_str, gAdd_tup, gAdd_lst, gNeg_int, gIx_tup, gIx_lst, gLen_tup, gLen_lst, gLen_str, gInt_int, gInt_bl, gTuple_lst, gTuple_tup, gList_lst, gList_tup, gSl_tup, gSl_lst, gSl_fl, gSl_str, srcL_tup, srcL_lst, srcL_fl, srcL_str, srcR1_int, typN, startR, List.map_cons, List.map_nil, List.length_cons, List.length_nil, Nat.reduceAdd, Nat.reduceSub, Nat.zero_add, Nat.sub_self, Nat.sub_zero, List.replicate_zero, List.replicate_succ, List.cons_append, List.nil_append, List.append_nil, List.getElem?_cons_zero, List.getElem?_cons_succ, List.set_cons_zero, List.set_cons_succ, List.set_nil, List.getElem?_nil, Option.some.injEq, exists_eq_left', exists_eq_left, exists_eq_right, reduceCtorEq, false_and, and_false, true_and, and_true, exists_false, exists_const, wipeR, Nat.zero_le, String.reduceEq, D.int.injEq, D.str.injEq, D.bl.injEq, atI_0, atI_1, atI_2, atI_3, atI_4, beq_self_eq_true, not_true_eq_false, not_false_eq_true, Int.cast_ofNat_Int, Int.reduceEq, Int.reduceLE, Int.reduceLT, Int.reduceAdd, Int.reduceSub, Int.reduceMul, Int.reduceNeg, if_true, if_false, ite_true, ite_false, Bool.false_eq_true, if_neg, if_pos, decide_eq_true_eq, Bool.not_eq_true', decide_eq_false_iff_not, eq_self_iff_true, decide_true, decide_false, Bool.not_true, Bool.not_false, wps_raise, wps_try, wps_tryAs, tryCase_t, tryCase_f, tbl_hit, suiteOf_hit, wp_eDct, wp_eDGet, wp_eDNew, wp_eDDef, wps_dput, wps_augI, wps_asgTp, wps_asgUl, gUl2, gTp2, gTp3, gTp4, gTp5, gNs_cons, gN0_nil, wp_clN1, wp_clN2, wp_clN3, wp_slSt, gTupR_int, gLstR_int, gEndswith_str]
    refine turned_by_ok h1 h2 he hf (by omega) hS ⟨rfl, _, rfl⟩
  · obtain ⟨rfl, o, rfl⟩ := hI
    simp only [List.length_singleton, show ¬ (1 = 0) by decide, wp_ok, wp_ret, wp_stuck, wp_bad, wp_bnd, wp_if, wp_fif, wps_ok_nx, wps_ok_rt, wps_ok_bk, wps_ok_ct, wps_ok_xc, wps_bad, wps_lft, wps_seq, wps_nil, wps_ret, wps_expr, wps_asg, wps_if, wp_run, wps_for, wps_while, wp_comp, wp_var, wp_C, wp_bin, wp_un, wp_T, wp_Tb, wp_asBl, wp_truthBl, wp_bAnd, wp_bOr, wp_bNot, wp_eIf, wp_eAnd, wp_eOr, wp_eNot, blCase_bl, wp_chain, wp_aNil, wp_aCons, wp_tup, wp_lst, wp_lstM, wp_call, wp_cl1, wp_cl2, wp_cl3, wp_cl4, wp_cl5, wp_meth, wp_isi, wp_oNone, wp_oSome, wp_sl, wp_it, wp_range1, wp_range2, wp_bYes, gEq_str, gNe_str, gEq_int, gNe_int, gEq_bl, gNe_bl, gIs_bl, gIsNot_bl, gAdd_int, gSub_int, gC_int, gI_int, gAdd_str, gAdd_tup, gAdd_lst, gNeg_int, gIx_tup, gIx_lst, gLen_tup, gLen_lst, gLen_str, gInt_int, gInt_bl, gTuple_lst, gTuple_tup, gList_lst, gList_tup, gSl_tup, gSl_lst, gSl_fl, gSl_str, srcL_tup, srcL_lst, srcL_fl, srcL_str, srcR1_int, typN, startR, List.map_cons, List.map_nil, List.length_cons, List.length_nil, Nat.reduceAdd, Nat.reduceSub, Nat.zero_add, Nat.sub_self, Nat.sub_zero, List.replicate_zero, List.replicate_succ, List.cons_append, List.nil_append, List.append_nil, List.getElem?_cons_zero, List.getElem?_cons_succ, List.set_cons_zero, List.set_cons_succ, List.set_nil, List.getElem?_nil, Option.some.injEq, exists_eq_left', exists_eq_left, exists_eq_right, reduceCtorEq, false_and, and_false, true_and, and_true, exists_false, exists_const, wipeR, Nat.zero_le, String.reduceEq, D.int.injEq, D.str.injEq, D.bl.injEq, atI_0, atI_1, atI_2, atI_3, atI_4, beq_self_eq_true, not_true_eq_false, not_false_eq_true, Int.cast_ofNat_Int, Int.reduceEq, Int.reduceLE, Int.reduceLT, Int.reduceAdd, Int.reduceSub, Int.reduceMul, Int.reduceNeg, if_true, if_false, ite_true, ite_false, Bool.false_eq_true, if_neg, if_pos, decide_eq_true_eq, Bool.not_eq_true', decide_eq_false_iff_not, eq_self_iff_true, decide_true, decide_false, Bool.not_true, Bool.not_false, wps_raise, wps_try, wps_tryAs, tryCase_t, tryCase_f, tbl_hit, suiteOf_hit, wp_eDct, wp_eDGet, wp_eDNew, wp_eDDef, wps_dput, wps_augI, wps_asgTp, wps_asgUl, gUl2, gTp2, gTp3, gTp4, gTp5, gNs_cons, gN0_nil, wp_clN1, wp_clN2, wp_clN3, wp_slSt, gTupR_int, gLstR_int, gEndswith_str]
    rw [gEq_pu (sh_rowD h2.2) (sh_rowD h2.2) (by decide) pu_rowD pu_rowD]
    simp only [wp_ok, wp_ret, wp_stuck, wp_bad, wp_bnd, wp_if, wp_fif, wps_ok_nx, wps_ok_rt, wps_ok_bk, wps_ok_ct, wps_ok_xc, wps_bad, wps_lft, wps_seq, wps_nil, wps_ret, wps_expr, wps_asg, wps_if, wp_run, wps_for, wps_while, wp_comp, wp_var, wp_C, wp_bin, wp_un, wp_T, wp_Tb, wp_asBl, wp_truthBl, wp_bAnd, wp_bOr, wp_bNot, wp_eIf, wp_eAnd, wp_eOr, wp_eNot, blCase_bl, wp_chain, wp_aNil, wp_aCons, wp_tup, wp_lst, wp_lstM, wp_call, wp_cl1, wp_cl2, wp_cl3, wp_cl4, wp_cl5, wp_meth, wp_isi, wp_oNone, wp_oSome, wp_sl, wp_it, wp_range1, wp_range2, wp_bYes, gEq_str, gNe_str, gEq_int, gNe_int, gEq_bl, gNe_bl, gIs_bl, gIsNot_bl, gAdd_int, gSub_int, gC_int, gI_int, gAdd_str, gAdd_tup, gAdd_lst, gNeg_int, gIx_tup, gIx_lst, gLen_tup, gLen_lst, gLen_str, gInt_int, gInt_bl, gTuple_lst, gTuple_tup, gList_lst, gList_tup, gSl_tup, gSl_lst, gSl_fl, gSl_str, srcL_tup, srcL_lst, srcL_fl, srcL_str, srcR1_int, typN, startR, List.map_cons, List.map_nil, List.length_cons, List.length_nil, Nat.reduceAdd, Nat.reduceSub, Nat.zero_add, Nat.sub_self, Nat.sub_zero, List.replicate_zero, List.replicate_succ, List.cons_append, List.nil_append, List.append_nil, List.getElem?_cons_zero, List.getElem?_cons_succ, List.set_cons_zero, List.set_cons_succ, List.set_nil, List.getElem?_nil, Option.some.injEq, exists_eq_left', exists_eq_left, exists_eq_right, reduceCtorEq, false_and, and_false, true_and, and_true, exists_false, exists_const, wipeR, Nat.zero_le, String.reduceEq, D.int.injEq, D.str.injEq, D.bl.injEq, atI_0, atI_1, atI_2, atI_3, atI_4, beq_self_eq_true, not_true_eq_false, not_false_eq_true, Int.cast_ofNat_Int, Int.reduceEq, Int.reduceLE, Int.reduceLT, Int.reduceAdd, Int.reduceSub, Int.reduceMul, Int.reduceNeg, if_true, if_false, ite_true, ite_false, Bool.false_eq_true, if_neg, if_pos, decide_eq_true_eq, Bool.not_eq_true', decide_eq_false_iff_not, eq_self_iff_true, decide_true, decide_false, Bool.not_true, Bool.not_false, wps_raise, wps_try, wps_tryAs, tryCase_t, tryCase_f, tbl_hit, suiteOf_hit, wp_eDct, wp_eDGet, wp_eDNew, wp_eDDef, wps_dput, wps_augI, wps_asgTp, wps_asgUl, gUl2, gTp2, gTp3, gTp4, gTp5, gNs_cons, gN0_nil, wp_clN1, wp_clN2, wp_clN3, wp_slSt, gTupR_int, gLstR_int, gEndswith_str]
    exact (fin_blO hS).mpr hF
end K61

namespace K61
open PySem L2 DL
variable {fu n : Nat} {R S : Sto} {F : D → Sto → Prop} {E : Exc → Sto → Prop}
/-! the ends of a stack -/
def expM (M : Nat) (q : Mp) : List Nat := List.range (M - q.1) ++ q.2.map (· + (M - q.1))
theorem range_add (a b : Nat) : List.range (a + b) = List.range a ++ (List.range b).map (· + a) := by
  rw [List.range_add]
  refine congrArg _ (List.map_congr_left fun x _ => by omega)
theorem exp_ext {M j : Nat} {q : Mp} (h : q.1 + j ≤ M) : expM M (extM j q) = expM M q := by
  unfold expM extM
  simp only
  rw [show M - q.1 = (M - (q.1 + j)) + j by omega, range_add, List.map_append, List.append_assoc, List.map_map]
  refine congrArg _ (congrArg _ (List.map_congr_left fun x _ => ?_))
  simp only [Function.comp]; omega
theorem exp_len {M : Nat} {q : Mp} : (expM M q).length = M - q.1 + q.2.length := by simp [expM]
theorem leastM_exp {ps : List Nat} {n : Nat} : ∀ d : Nat, leastM (n + d) (List.range d ++ ps.map (· + d)) = leastM n ps
  | 0 => by simp
  | d + 1 => by
    have e : List.range (d + 1) ++ ps.map (· + (d + 1)) = 0 :: (List.range d ++ ps.map (· + d)).map (· + 1) := by
      rw [List.range_succ_eq_map, List.cons_append, List.map_append, List.map_map]
      refine congrArg _ (congr (congrArg _ ?_) ?_)
      · exact List.map_congr_left fun x _ => rfl
      · exact List.map_congr_left fun x _ => by simp only [Function.comp]; omega
    rw [e, ← Nat.add_assoc, leastM_s, if_neg (by simp), List.map_map, ← leastM_exp d (ps := ps) (n := n)]
    refine congrArg _ ?_
    conv => rhs; rw [← List.map_id (List.range d ++ ps.map (· + d))]
    exact List.map_congr_left fun x _ => by simp [Function.comp]
theorem exp_least {M : Nat} {q : Mp} (h : q.1 ≤ M) : leastM M (expM M q) = leastM q.1 q.2 := by
  have := leastM_exp (ps := q.2) (n := q.1) (M - q.1)
  rw [show q.1 + (M - q.1) = M by omega] at this
  exact this
theorem exp_step {M : Nat} {q w : Mp} (hw : ShO w.1 w.2) (h : (mapW q w).1 ≤ M) :
    w.1 ≤ (expM M q).length ∧ expM M (mapW q w) = (expM M q).take ((expM M q).length - w.1) ++ w.2.map fun k => (expM M q).getD ((expM M q).length - w.1 + k) 0 := by
  have hq : q.1 + (w.1 - q.2.length) ≤ M := h
  rw [← exp_ext hq]
  have hl := ext_len (w.1 - q.2.length) q
  have em := mapW_ext q w
  have h1 : (extM (w.1 - q.2.length) q).1 ≤ M := hq
  generalize hee : extM (w.1 - q.2.length) q = e at hl em h1
  refine ⟨by rw [exp_len]; omega, ?_⟩
  rw [em, exp_len]
  have e1 : M - e.1 + e.2.length - w.1 = (M - e.1) + (e.2.length - w.1) := by omega
  rw [e1]
  unfold expM
  simp only
  generalize M - e.1 = d
  generalize haa : e.2.length - w.1 = a
  have hal : ∀ k, k < w.1 → a + k < e.2.length := fun k hk => by omega
  generalize e.2 = L at hal
  rw [List.map_append, ← List.append_assoc, List.take_append, List.take_of_length_le (l := List.range d) (by rw [List.length_range]; omega), List.length_range, show d + a - d = a by omega, List.map_take, List.map_map]
  refine congrArg _ (List.map_congr_left fun k hk => ?_)
  have hk := hal k (hw.2.2 k hk)
  simp only [Function.comp]
  rw [List.getD_eq_getElem?_getD, List.getD_eq_getElem?_getD, List.getElem?_append_right (by rw [List.length_range]; omega), List.length_range, show d + a + k - d = a + k by omega, List.getElem?_map, List.getElem?_eq_getElem hk]
  rfl
theorem whole_mono {row : List Mp} (k : Nat) : (wholeM (row.take k)).1 ≤ (wholeM row).1 := by
  have : ∀ (l : List Mp) (q : Mp), q.1 ≤ (l.foldl mapW q).1 := by
    intro l
    induction l with
    | nil => exact fun q => Nat.le_refl _
    | cons w l ih => exact fun q => Nat.le_trans (Nat.le_add_right _ _) (ih (mapW q w))
  have e : wholeM row = (row.drop k).foldl mapW (wholeM (row.take k)) := by
    unfold wholeM
    rw [← List.foldl_append, List.take_append_drop]
  rw [e]; exact this _ _
def nD (k : Nat) : D := .tup [.str "number", .int (k : Nat)]
theorem nD_inj {a b : List Nat} : a.map nD = b.map nD ↔ a = b := by
  constructor
  · intro h
    refine List.map_inj_right (fun x y e => ?_) |>.mp h
    simp only [nD, D.tup.injEq, List.cons.injEq, D.int.injEq, and_true, true_and] at e
    omega
  · rintro rfl; rfl
theorem nD_tr (l : List Nat) : tr (.lst (l.map nD)) := by
  refine los_iff _ |>.mpr fun d hd => ?_
  obtain ⟨k, _, rfl⟩ := List.mem_map.mp hd
  rfl
theorem sh_nD {l : List Nat} : Sh 2 (.lst (l.map nD)) := sh_lst fun d hd => by
  obtain ⟨k, _, rfl⟩ := List.mem_map.mp hd
  refine sh_tup fun d hd => ?_
  simp only [List.mem_cons, List.not_mem_nil, or_false] at hd
  rcases hd with rfl | rfl
  · exact sh_str (by decide +kernel)
  · exact sh_int
theorem pu_nD {l : List Nat} : (D.lst (l.map nD)).pu = true := pu_lst fun d hd => by
  obtain ⟨k, _, rfl⟩ := List.mem_map.mp hd
  rfl
theorem end_ok {N : Nat} {row : List Mp} {M : Nat} (h : RowS row) (hM : (wholeM row).1 ≤ M) (hM2 : M ≤ 1000) (hN : 2 ≤ N) (hS : OKS S) (hF : F (.lst ((expM M (wholeM row)).map nD)) S) : wp (den fu N i_l_end [rowD row, numsD M] S) F E := by
  obtain ⟨N', rfl⟩ : ∃ N', N = N' + 1 := ⟨N - 1, by omega⟩
  rw [show den fu (N' + 1) i_l_end = runDef false 7 (b_l_end fu (den fu N')) from rfl]
  simp only [b_l_end, rowD, numsD, wp_ok, wp_ret, wp_stuck, wp_bad, wp_bnd, wp_if, wp_fif, wps_ok_nx, wps_ok_rt, wps_ok_bk, wps_ok_ct, wps_ok_xc, wps_bad, wps_lft, wps_seq, wps_nil, wps_ret, wps_expr, wps_asg, wps_if, wp_run, wps_for, wps_while, wp_comp, wp_var, wp_C, wp_bin, wp_un, wp_T, wp_Tb, wp_asBl, wp_truthBl, wp_bAnd, wp_bOr, wp_bNot, wp_eIf, wp_eAnd, wp_eOr, wp_eNot, blCase_bl, wp_chain, wp_aNil, wp_aCons, wp_tup, wp_lst, wp_lstM, wp_call, wp_cl1, wp_cl2, wp_cl3, wp_cl4, wp_cl5, wp_meth, wp_isi, wp_oNone, wp_oSome, wp_sl, wp_it, wp_range1, wp_range2, wp_bYes, gEq_str, gNe_str, gEq_int, gNe_int, gEq_bl, gNe_bl, gIs_bl, gIsNot_bl, gAdd_int, gSub_int, gC_int, gI_int, gAdd_str, gAdd_tup, gAdd_lst, gNeg_int, gIx_tup, gIx_lst, gLen_tup, gLen_lst, gLen_str, gInt_int, gInt_bl, gTuple_lst, gTuple_tup, gList_lst, gList_tup, gSl_tup, gSl_lst, gSl_fl, gSl_str, srcL_tup, srcL_lst, srcL_fl, srcL_str, srcR1_int, typN, startR, List.map_cons, List.map_nil, List.length_cons, List.length_nil, Nat.reduceAdd, Nat.reduceSub, Nat.zero_add, Nat.sub_self, Nat.sub_zero, List.replicate_zero, List.replicate_succ, List.cons_append, List.nil_append, List.append_nil, List.getElem?_cons_zero, List.getElem?_cons_succ, List.set_cons_zero, List.set_cons_succ, List.set_nil, List.getElem?_nil, Option.some.injEq, exists_eq_left', exists_eq_left, exists_eq_right, reduceCtorEq, false_and, and_false, true_and, and_true, exists_false, exists_const, wipeR, Nat.zero_le, String.reduceEq, D.int.injEq, D.str.injEq, D.bl.injEq, atI_0, atI_1, atI_2, atI_3, atI_4, beq_self_eq_true, not_true_eq_false, not_false_eq_true, Int.cast_ofNat_Int, Int.reduceEq, Int.reduceLE, Int.reduceLT, Int.reduceAdd, Int.reduceSub, Int.reduceMul, Int.reduceNeg, if_true, if_false, ite_true, ite_false, Bool.false_eq_true, if_neg, if_pos, decide_eq_true_eq, Bool.not_eq_true', decide_eq_false_iff_not, eq_self_iff_true, decide_true, decide_false, Bool.not_true, Bool.not_false, wps_raise, wps_try, wps_tryAs, tryCase_t, tryCase_f, tbl_hit, suiteOf_hit, wp_eDct, wp_eDGet, wp_eDNew, wp_eDDef, wps_dput, wps_augI, wps_asgTp, wps_asgUl, gUl2, gTp2, gTp3, gTp4, gTp5, gNs_cons, gN0_nil, wp_clN1, wp_clN2, wp_clN3, wp_slSt, gTupR_int, gLstR_int, gEndswith_str]
  refine wps_forM (fun k ρ S' => S' = S ∧ ∃ o2 o3 o4 o5, ρ = [some (rowD row), some (.lst ((expM M (wholeM (row.take k))).map nD)), o2, o3, o4, o5, none]) (fun _ _ _ _ => trivial) (fun k d ρ S' hd hI => ?_) (fun ρ S' hI => ?_) ⟨rfl, none, none, none, none, ?_⟩
  · obtain ⟨rfl, o2, o3, o4, o5, rfl⟩ := hI
    rw [List.getElem?_map, Option.map_eq_some_iff] at hd
    obtain ⟨w, hw, rfl⟩ := hd
    have hwo := h.2 w (List.mem_of_getElem? hw)
    have hm := whole_mono (row := row) (k + 1)
    rw [take_fold hw] at hm
    rw [take_fold hw]
    have hl := whole_len h k
    obtain ⟨q1, q2⟩ := exp_step hwo (Nat.le_trans hm hM)
    rw [q2]
    have q3 : (expM M (wholeM (row.take k))).length ≤ 1300 := by rw [exp_len]; omega
    generalize expM M (wholeM (row.take k)) = L at q1 q3
    refine ⟨_, rfl, ?_⟩
    simp only [wdD, wp_ok, wp_ret, wp_stuck, wp_bad, wp_bnd, wp_if, wp_fif, wps_ok_nx, wps_ok_rt, wps_ok_bk, wps_ok_ct, wps_ok_xc, wps_bad, wps_lft, wps_seq, wps_nil, wps_ret, wps_expr, wps_asg, wps_if, wp_run, wps_for, wps_while, wp_comp, wp_var, wp_C, wp_bin, wp_un, wp_T, wp_Tb, wp_asBl, wp_truthBl, wp_bAnd, wp_bOr, wp_bNot, wp_eIf, wp_eAnd, wp_eOr, wp_eNot, blCase_bl, wp_chain, wp_aNil, wp_aCons, wp_tup, wp_lst, wp_lstM, wp_call, wp_cl1, wp_cl2, wp_cl3, wp_cl4, wp_cl5, wp_meth, wp_isi, wp_oNone, wp_oSome, wp_sl, wp_it, wp_range1, wp_range2, wp_bYes, gEq_str, gNe_str, gEq_int, gNe_int, gEq_bl, gNe_bl, gIs_bl, gIsNot_bl, gAdd_int, gSub_int, gC_int, gI_int, gAdd_str, gAdd_tup, gAdd_lst, gNeg_int, gIx_tup, gIx_lst, gLen_tup, gLen_lst, gLen_str, gInt_int, gInt_bl, gTuple_lst, gTuple_tup, gList_lst, gList_tup, gSl_tup, gSl_lst, gSl_fl, gSl_str, srcL_tup, srcL_lst, srcL_fl, srcL_str, srcR1_int, typN, startR, List.map_cons, List.map_nil, List.length_cons, List.length_nil, Nat.reduceAdd, Nat.reduceSub, Nat.zero_add, Nat.sub_self, Nat.sub_zero, List.replicate_zero, List.replicate_succ, List.cons_append, List.nil_append, List.append_nil, List.getElem?_cons_zero, List.getElem?_cons_succ, List.set_cons_zero, List.set_cons_succ, List.set_nil, List.getElem?_nil, Option.some.injEq, exists_eq_left', exists_eq_left, exists_eq_right, reduceCtorEq, false_and, and_false, true_and, and_true, exists_false, exists_const, wipeR, Nat.zero_le, String.reduceEq, D.int.injEq, D.str.injEq, D.bl.injEq, atI_0, atI_1, atI_2, atI_3, atI_4, beq_self_eq_true, not_true_eq_false, not_false_eq_true, Int.cast_ofNat_Int, Int.reduceEq, Int.reduceLE, Int.reduceLT, Int.reduceAdd, Int.reduceSub, Int.reduceMul, Int.reduceNeg, if_true, if_false, ite_true, ite_false, Bool.false_eq_true, if_neg, if_pos, decide_eq_true_eq, Bool.not_eq_true', decide_eq_false_iff_not, eq_self_iff_true, decide_true, decide_false, Bool.not_true, Bool.not_false, wps_raise, wps_try, wps_tryAs, tryCase_t, tryCase_f, tbl_hit, suiteOf_hit, wp_eDct, wp_eDGet, wp_eDNew, wp_eDDef, wps_dput, wps_augI, wps_asgTp, wps_asgUl, gUl2, gTp2, gTp3, gTp4, gTp5, gNs_cons, gN0_nil, wp_clN1, wp_clN2, wp_clN3, wp_slSt, gTupR_int, gLstR_int, gEndswith_str]
    refine parts_ok hwo (by omega) hS ?_
    have ng : ¬ ((w.1 : Nat) : Int) > (L.length : Nat) := by omega
    have e1 : ((L.length : Nat) : Int) - (w.1 : Nat) = ((L.length - w.1 : Nat) : Int) := by omega
    simp only [List.length_map, ng, e1, cut_takeN, cut_dropN, wp_ok, wp_ret, wp_stuck, wp_bad, wp_bnd, wp_if, wp_fif, wps_ok_nx, wps_ok_rt, wps_ok_bk, wps_ok_ct, wps_ok_xc, wps_bad, wps_lft, wps_seq, wps_nil, wps_ret, wps_expr, wps_asg, wps_if, wp_run, wps_for, wps_while, wp_comp, wp_var, wp_C, wp_bin, wp_un, wp_T, wp_Tb, wp_asBl, wp_truthBl, wp_bAnd, wp_bOr, wp_bNot, wp_eIf, wp_eAnd, wp_eOr, wp_eNot, blCase_bl, wp_chain, wp_aNil, wp_aCons, wp_tup, wp_lst, wp_lstM, wp_call, wp_cl1, wp_cl2, wp_cl3, wp_cl4, wp_cl5, wp_meth, wp_isi, wp_oNone, wp_oSome, wp_sl, wp_it, wp_range1, wp_range2, wp_bYes, gEq_str, gNe_str, gEq_int, gNe_int, gEq_bl, gNe_bl, gIs_bl, gIsNot_bl, gAdd_int, gSub_int, gC_int, gI_int, gAdd_str, gAdd_tup, gAdd_lst, gNeg_int, gIx_tup, gIx_lst, gLen_tup, gLen_lst, gLen_str, gInt_int, gInt_bl, gTuple_lst, gTuple_tup, gList_lst, gList_tup, gSl_tup, gSl_lst, gSl_fl, gSl_str, srcL_tup, srcL_lst, srcL_fl, srcL_str, srcR1_int, typN, startR, List.map_cons, List.map_nil, List.length_cons, List.length_nil, Nat.reduceAdd, Nat.reduceSub, Nat.zero_add, Nat.sub_self, Nat.sub_zero, List.replicate_zero, List.replicate_succ, List.cons_append, List.nil_append, List.append_nil, List.getElem?_cons_zero, List.getElem?_cons_succ, List.set_cons_zero, List.set_cons_succ, List.set_nil, List.getElem?_nil, Option.some.injEq, exists_eq_left', exists_eq_left, exists_eq_right, reduceCtorEq, false_and, and_false, true_and, and_true, exists_false, exists_const, wipeR, Nat.zero_le, String.reduceEq, D.int.injEq, D.str.injEq, D.bl.injEq, atI_0, atI_1, atI_2, atI_3, atI_4, beq_self_eq_true, not_true_eq_false, not_false_eq_true, Int.cast_ofNat_Int, Int.reduceEq, Int.reduceLE, Int.reduceLT, Int.reduceAdd, Int.reduceSub, Int.reduceMul, Int.reduceNeg, if_true, if_false, ite_true, ite_false, Bool.false_eq_true, if_neg, if_pos, decide_eq_true_eq, Bool.not_eq_true', decide_eq_false_iff_not, eq_self_iff_true, decide_true, decide_false, Bool.not_true, Bool.not_false, wps_raise, wps_try, wps_tryAs, tryCase_t, tryCase_f, tbl_hit, suiteOf_hit, wp_eDct, wp_eDGet, wp_eDNew, wp_eDDef, wps_dput, wps_augI, wps_asgTp, wps_asgUl, gUl2, gTp2, gTp3, gTp4, gTp5, gNs_cons, gN0_nil, wp_clN1, wp_clN2, wp_clN3, wp_slSt, gTupR_int, gLstR_int, gEndswith_str]
    refine ⟨small_line (by have := hwo.2.1; omega), comp_one (fun k => nD (L.getD (L.length - w.1 + k) 0)) (fun k hk F E hF => ?_) ?_⟩
    · have hkt := hwo.2.2 k hk
      have hlt : L.length - w.1 + k < L.length := by omega
      have e2 : atI ((L.map nD).drop (L.length - w.1)) ((k : Nat) : Int) = some (nD (L.getD (L.length - w.1 + k) 0)) := atI_nat (by
        rw [List.getElem?_drop, List.getElem?_map, List.getElem?_eq_getElem hlt, List.getD_eq_getElem?_getD, List.getElem?_eq_getElem hlt]; rfl)
      simp only [e2, wp_ok, wp_ret, wp_stuck, wp_bad, wp_bnd, wp_if, wp_fif, wps_ok_nx, wps_ok_rt, wps_ok_bk, wps_ok_ct, wps_ok_xc, wps_bad, wps_lft, wps_seq, wps_nil, wps_ret, wps_expr, wps_asg, wps_if, wp_run, wps_for, wps_while, wp_comp, wp_var, wp_C, wp_bin, wp_un, wp_T, wp_Tb, wp_asBl, wp_truthBl, wp_bAnd, wp_bOr, wp_bNot, wp_eIf, wp_eAnd, wp_eOr, wp_eNot, blCase_bl, wp_chain, wp_aNil, wp_aCons, wp_tup, wp_lst, wp_lstM, wp_call, wp_cl1, wp_cl2, wp_cl3, wp_cl4, wp_cl5, wp_meth, wp_isi, wp_oNone, wp_oSome, wp_sl, wp_it, wp_range1, wp_range2, wp_bYes, gEq_str, gNe_str, gEq_int, gNe_int, gEq_bl, gNe_bl, gIs_bl, gIsNot_bl, gAdd_int, gSub_int, gC_int, gI_int, gAdd_str, gAdd_tup, gAdd_lst, gNeg_int, gIx_tup, gIx_lst, gLen_tup, gLen_lst, gLen_str, gInt_int, gInt_bl, gTuple_lst, gTuple_tup, gList_lst, gList_tup, gSl_tup, gSl_lst, gSl_fl, gSl_str, srcL_tup, srcL_lst, srcL_fl, srcL_str, srcR1_int, typN, startR, List.map_cons, List.map_nil, List.length_cons, List.length_nil, Nat.reduceAdd, Nat.reduceSub, Nat.zero_add, Nat.sub_self, Nat.sub_zero, List.replicate_zero, List.replicate_succ, List.cons_append, List.nil_append, List.append_nil, List.getElem?_cons_zero, List.getElem?_cons_succ, List.set_cons_zero, List.set_cons_succ, List.set_nil, List.getElem?_nil, Option.some.injEq, exists_eq_left', exists_eq_left, exists_eq_right, reduceCtorEq, false_and, and_false, true_and, and_true, exists_false, exists_const, wipeR, Nat.zero_le, String.reduceEq, D.int.injEq, D.str.injEq, D.bl.injEq, atI_0, atI_1, atI_2, atI_3, atI_4, beq_self_eq_true, not_true_eq_false, not_false_eq_true, Int.cast_ofNat_Int, Int.reduceEq, Int.reduceLE, Int.reduceLT, Int.reduceAdd, Int.reduceSub, Int.reduceMul, Int.reduceNeg, if_true, if_false, ite_true, ite_false, Bool.false_eq_true, if_neg, if_pos, decide_eq_true_eq, Bool.not_eq_true', decide_eq_false_iff_not, eq_self_iff_true, decide_true, decide_false, Bool.not_true, Bool.not_false, wps_raise, wps_try, wps_tryAs, tryCase_t, tryCase_f, tbl_hit, suiteOf_hit, wp_eDct, wp_eDGet, wp_eDNew, wp_eDDef, wps_dput, wps_augI, wps_asgTp, wps_asgUl, gUl2, gTp2, gTp3, gTp4, gTp5, gNs_cons, gN0_nil, wp_clN1, wp_clN2, wp_clN3, wp_slSt, gTupR_int, gLstR_int, gEndswith_str]
      exact hF
    · have := hwo.2.1
      refine ⟨small_line (by simp only [List.length_take, List.length_map]; omega), rfl, some (wdD w), some (.lst ((L.map nD).drop (L.length - w.1))), some (.int w.1), some (.lst (nats w.2)), ?_⟩
      rw [List.map_append, List.map_take, List.map_map]
      rfl
  · obtain ⟨rfl, o2, o3, o4, o5, rfl⟩ := hI
    rw [List.length_map, List.take_length]
    simp only [wp_ok, wp_ret, wp_stuck, wp_bad, wp_bnd, wp_if, wp_fif, wps_ok_nx, wps_ok_rt, wps_ok_bk, wps_ok_ct, wps_ok_xc, wps_bad, wps_lft, wps_seq, wps_nil, wps_ret, wps_expr, wps_asg, wps_if, wp_run, wps_for, wps_while, wp_comp, wp_var, wp_C, wp_bin, wp_un, wp_T, wp_Tb, wp_asBl, wp_truthBl, wp_bAnd, wp_bOr, wp_bNot, wp_eIf, wp_eAnd, wp_eOr, wp_eNot, blCase_bl, wp_chain, wp_aNil, wp_aCons, wp_tup, wp_lst, wp_lstM, wp_call, wp_cl1, wp_cl2, wp_cl3, wp_cl4, wp_cl5, wp_meth, wp_isi, wp_oNone, wp_oSome, wp_sl, wp_it, wp_range1, wp_range2, wp_bYes, gEq_str, gNe_str, gEq_int, gNe_int, gEq_bl, gNe_bl, gIs_bl, gIsNot_bl, gAdd_int, gSub_int, gC_int, gI_int, gAdd_str, gAdd_tup, gAdd_lst, gNeg_int, gIx_tup, gIx_lst, gLen_tup, gLen_lst, gLen_str, gInt_int, gInt_bl, gTuple_lst, gTuple_tup, gList_lst, gList_tup, gSl_tup, gSl_lst, gSl_fl, gSl_str, srcL_tup, srcL_lst, srcL_fl, srcL_str, srcR1_int, typN, startR, List.map_cons, List.map_nil, List.length_cons, List.length_nil, Nat.reduceAdd, Nat.reduceSub, Nat.zero_add, Nat.sub_self, Nat.sub_zero, List.replicate_zero, List.replicate_succ, List.cons_append, List.nil_append, List.append_nil, List.getElem?_cons_zero, List.getElem?_cons_succ, List.set_cons_zero, List.set_cons_succ, List.set_nil, List.getElem?_nil, Option.some.injEq, exists_eq_left', exists_eq_left, exists_eq_right, reduceCtorEq, false_and, and_false, true_and, and_true, exists_false, exists_const, wipeR, Nat.zero_le, String.reduceEq, D.int.injEq, D.str.injEq, D.bl.injEq, atI_0, atI_1, atI_2, atI_3, atI_4, beq_self_eq_true, not_true_eq_false, not_false_eq_true, Int.cast_ofNat_Int, Int.reduceEq, Int.reduceLE, Int.reduceLT, Int.reduceAdd, Int.reduceSub, Int.reduceMul, Int.reduceNeg, if_true, if_false, ite_true, ite_false, Bool.false_eq_true, if_neg, if_pos, decide_eq_true_eq, Bool.not_eq_true', decide_eq_false_iff_not, eq_self_iff_true, decide_true, decide_false, Bool.not_true, Bool.not_false, wps_raise, wps_try, wps_tryAs, tryCase_t, tryCase_f, tbl_hit, suiteOf_hit, wp_eDct, wp_eDGet, wp_eDNew, wp_eDDef, wps_dput, wps_augI, wps_asgTp, wps_asgUl, gUl2, gTp2, gTp3, gTp4, gTp5, gNs_cons, gN0_nil, wp_clN1, wp_clN2, wp_clN3, wp_slSt, gTupR_int, gLstR_int, gEndswith_str]
    exact (fin_trO hS (nD_tr _)).mpr hF
  · have : expM M (wholeM (row.take 0)) = List.range M := by
      unfold expM wholeM
      simp
    rw [this, show List.map nD (List.range M) = _ from rfl]
    rfl
theorem ends_part {one two : List Mp} {M : Nat} (h1 : (wholeM one).1 ≤ M) (h2 : (wholeM two).1 ≤ M) (h : mapsM one ≠ mapsM two) : expM M (wholeM one) ≠ expM M (wholeM two) := fun e => h (by
  unfold mapsM
  rw [← exp_least h1, ← exp_least h2, e])
theorem right_ok {N : Nat} {one two : List Mp} (h1 : RowS one) (h2 : RowS two) (hf : 1000 ≤ fu) (hN : 8 ≤ N) (hS : OKS S) (hF : F (.bl true) S) : wp (den fu N i_l_right [rowD one, rowD two] S) F E := by
  obtain ⟨N', rfl⟩ : ∃ N', N = N' + 1 := ⟨N - 1, by omega⟩
  rw [show den fu (N' + 1) i_l_right = runDef false 4 (b_l_right fu (den fu N')) from rfl]
  simp only [b_l_right, wp_ok, wp_ret, wp_stuck, wp_bad, wp_bnd, wp_if, wp_fif, wps_ok_nx, wps_ok_rt, wps_ok_bk, wps_ok_ct, wps_ok_xc, wps_bad, wps_lft, wps_seq, wps_nil, wps_ret, wps_expr, wps_asg, wps_if, wp_run, wps_for, wps_while, wp_comp, wp_var, wp_C, wp_bin, wp_un, wp_T, wp_Tb, wp_asBl, wp_truthBl, wp_bAnd, wp_bOr, wp_bNot, wp_eIf, wp_eAnd, wp_eOr, wp_eNot, blCase_bl, wp_chain, wp_aNil, wp_aCons, wp_tup, wp_lst, wp_lstM, wp_call, wp_cl1, wp_cl2, wp_cl3, wp_cl4, wp_cl5, wp_meth, wp_isi, wp_oNone, wp_oSome, wp_sl, wp_it, wp_range1, wp_range2, wp_bYes, gEq_str, gNe_str, gEq_int, gNe_int, gEq_bl, gNe_bl, gIs_bl, gIsNot_bl, gAdd_int, gSub_int, gC_int, gI_int, gAdd_str, gAdd_tup, gAdd_lst, gNeg_int, gIx_tup, gIx_lst, gLen_tup, gLen_lst, gLen_str, gInt_int, gInt_bl, gTuple_lst, gTuple_tup, gList_lst, gList_tup, gSl_tup, gSl_lst, gSl_fl, gSl_str, srcL_tup, srcL_lst, srcL_fl, srcL_str, srcR1_int, typN, startR, List.map_cons, List.map_nil, List.length_cons, List.length_nil, Nat.reduceAdd, Nat.reduceSub, Nat.zero_add, Nat.sub_self, Nat.sub_zero, List.replicate_zero, List.replicate_succ, List.cons_append, List.nil_append, List.append_nil, List.getElem?_cons_zero, List.getElem?_cons_succ, List.set_cons_zero, List.set_cons_succ, List.set_nil, List.getElem?_nil, Option.some.injEq, exists_eq_left', exists_eq_left, exists_eq_right, reduceCtorEq, false_and, and_false, true_and, and_true, exists_false, exists_const, wipeR, Nat.zero_le, String.reduceEq, D.int.injEq, D.str.injEq, D.bl.injEq, atI_0, atI_1, atI_2, atI_3, atI_4, beq_self_eq_true, not_true_eq_false, not_false_eq_true, Int.cast_ofNat_Int, Int.reduceEq, Int.reduceLE, Int.reduceLT, Int.reduceAdd, Int.reduceSub, Int.reduceMul, Int.reduceNeg, if_true, if_false, ite_true, ite_false, Bool.false_eq_true, if_neg, if_pos, decide_eq_true_eq, Bool.not_eq_true', decide_eq_false_iff_not, eq_self_iff_true, decide_true, decide_false, Bool.not_true, Bool.not_false, wps_raise, wps_try, wps_tryAs, tryCase_t, tryCase_f, tbl_hit, suiteOf_hit, wp_eDct, wp_eDGet, wp_eDNew, wp_eDDef, wps_dput, wps_augI, wps_asgTp, wps_asgUl, gUl2, gTp2, gTp3, gTp4, gTp5, gNs_cons, gN0_nil, wp_clN1, wp_clN2, wp_clN3, wp_slSt, gTupR_int, gLstR_int, gEndswith_str]
  refine alike_ok h1 h2 hf (by omega) hS ?_
  have w1 := whole_n' h1
  have w2 := whole_n' h2
  have gtp : ∀ {ds : List D}, typN S (.tup ds) = some "tuple" := fun {ds} => rfl
  unfold toldD
  by_cases he : mapsM one = mapsM two
  · rw [if_pos he]
    simp only [gtp, isiN_tt, wp_ok, wp_ret, wp_stuck, wp_bad, wp_bnd, wp_if, wp_fif, wps_ok_nx, wps_ok_rt, wps_ok_bk, wps_ok_ct, wps_ok_xc, wps_bad, wps_lft, wps_seq, wps_nil, wps_ret, wps_expr, wps_asg, wps_if, wp_run, wps_for, wps_while, wp_comp, wp_var, wp_C, wp_bin, wp_un, wp_T, wp_Tb, wp_asBl, wp_truthBl, wp_bAnd, wp_bOr, wp_bNot, wp_eIf, wp_eAnd, wp_eOr, wp_eNot, blCase_bl, wp_chain, wp_aNil, wp_aCons, wp_tup, wp_lst, wp_lstM, wp_call, wp_cl1, wp_cl2, wp_cl3, wp_cl4, wp_cl5, wp_meth, wp_isi, wp_oNone, wp_oSome, wp_sl, wp_it, wp_range1, wp_range2, wp_bYes, gEq_str, gNe_str, gEq_int, gNe_int, gEq_bl, gNe_bl, gIs_bl, gIsNot_bl, gAdd_int, gSub_int, gC_int, gI_int, gAdd_str, gAdd_tup, gAdd_lst, gNeg_int, gIx_tup, gIx_lst, gLen_tup, gLen_lst, gLen_str, gInt_int, gInt_bl, gTuple_lst, gTuple_tup, gList_lst, gList_tup, gSl_tup, gSl_lst, gSl_fl, gSl_str, srcL_tup, srcL_lst, srcL_fl, srcL_str, srcR1_int, typN, startR, List.map_cons, List.map_nil, List.length_cons, List.length_nil, Nat.reduceAdd, Nat.reduceSub, Nat.zero_add, Nat.sub_self, Nat.sub_zero, List.replicate_zero, List.replicate_succ, List.cons_append, List.nil_append, List.append_nil, List.getElem?_cons_zero, List.getElem?_cons_succ, List.set_cons_zero, List.set_cons_succ, List.set_nil, List.getElem?_nil, Option.some.injEq, exists_eq_left', exists_eq_left, exists_eq_right, reduceCtorEq, false_and, and_false, true_and, and_true, exists_false, exists_const, wipeR, Nat.zero_le, String.reduceEq, D.int.injEq, D.str.injEq, D.bl.injEq, atI_0, atI_1, atI_2, atI_3, atI_4, beq_self_eq_true, not_true_eq_false, not_false_eq_true, Int.cast_ofNat_Int, Int.reduceEq, Int.reduceLE, Int.reduceLT, Int.reduceAdd, Int.reduceSub, Int.reduceMul, Int.reduceNeg, if_true, if_false, ite_true, ite_false, Bool.false_eq_true, if_neg, if_pos, decide_eq_true_eq, Bool.not_eq_true', decide_eq_false_iff_not, eq_self_iff_true, decide_true, decide_false, Bool.not_true, Bool.not_false, wps_raise, wps_try, wps_tryAs, tryCase_t, tryCase_f, tbl_hit, suiteOf_hit, wp_eDct, wp_eDGet, wp_eDNew, wp_eDDef, wps_dput, wps_augI, wps_asgTp, wps_asgUl, gUl2, gTp2, gTp3, gTp4, gTp5, gNs_cons, gN0_nil, wp_clN1, wp_clN2, wp_clN3, wp_slSt, gTupR_int, gLstR_int, gEndswith_str]
    refine lmap_ok h1 hf (by omega) hS ?_
    refine lmap_ok h2 hf (by omega) hS ?_
    rw [gEq_lmp, decide_eq_true he]
    simp only [wp_eDNew, wp_ok, wp_ret, wp_stuck, wp_bad, wp_bnd, wp_if, wp_fif, wps_ok_nx, wps_ok_rt, wps_ok_bk, wps_ok_ct, wps_ok_xc, wps_bad, wps_lft, wps_seq, wps_nil, wps_ret, wps_expr, wps_asg, wps_if, wp_run, wps_for, wps_while, wp_comp, wp_var, wp_C, wp_bin, wp_un, wp_T, wp_Tb, wp_asBl, wp_truthBl, wp_bAnd, wp_bOr, wp_bNot, wp_eIf, wp_eAnd, wp_eOr, wp_eNot, blCase_bl, wp_chain, wp_aNil, wp_aCons, wp_tup, wp_lst, wp_lstM, wp_call, wp_cl1, wp_cl2, wp_cl3, wp_cl4, wp_cl5, wp_meth, wp_isi, wp_oNone, wp_oSome, wp_sl, wp_it, wp_range1, wp_range2, wp_bYes, gEq_str, gNe_str, gEq_int, gNe_int, gEq_bl, gNe_bl, gIs_bl, gIsNot_bl, gAdd_int, gSub_int, gC_int, gI_int, gAdd_str, gAdd_tup, gAdd_lst, gNeg_int, gIx_tup, gIx_lst, gLen_tup, gLen_lst, gLen_str, gInt_int, gInt_bl, gTuple_lst, gTuple_tup, gList_lst, gList_tup, gSl_tup, gSl_lst, gSl_fl, gSl_str, srcL_tup, srcL_lst, srcL_fl, srcL_str, srcR1_int, typN, startR, List.map_cons, List.map_nil, List.length_cons, List.length_nil, Nat.reduceAdd, Nat.reduceSub, Nat.zero_add, Nat.sub_self, Nat.sub_zero, List.replicate_zero, List.replicate_succ, List.cons_append, List.nil_append, List.append_nil, List.getElem?_cons_zero, List.getElem?_cons_succ, List.set_cons_zero, List.set_cons_succ, List.set_nil, List.getElem?_nil, Option.some.injEq, exists_eq_left', exists_eq_left, exists_eq_right, reduceCtorEq, false_and, and_false, true_and, and_true, exists_false, exists_const, wipeR, Nat.zero_le, String.reduceEq, D.int.injEq, D.str.injEq, D.bl.injEq, atI_0, atI_1, atI_2, atI_3, atI_4, beq_self_eq_true, not_true_eq_false, not_false_eq_true, Int.cast_ofNat_Int, Int.reduceEq, Int.reduceLE, Int.reduceLT, Int.reduceAdd, Int.reduceSub, Int.reduceMul, Int.reduceNeg, if_true, if_false, ite_true, ite_false, Bool.false_eq_true, if_neg, if_pos, decide_eq_true_eq, Bool.not_eq_true', decide_eq_false_iff_not, eq_self_iff_true, decide_true, decide_false, Bool.not_true, Bool.not_false, wps_raise, wps_try, wps_tryAs, tryCase_t, tryCase_f, tbl_hit, suiteOf_hit, wp_eDct, wp_eDGet, wp_eDNew, wp_eDDef, wps_dput, wps_augI, wps_asgTp, wps_asgUl, gUl2, gTp2, gTp3, gTp4, gTp5, gNs_cons, gN0_nil, wp_clN1, wp_clN2, wp_clN3, wp_slSt, gTupR_int, gLstR_int, gEndswith_str]
    have hS' : OKS (S ++ [.dct []]) := oks_app hS fun o ho => by rw [List.mem_singleton.mp ho]; rfl
    refine leads_ok h1 h2 he hf (by omega) hS' ?_
    exact fin_cutO hS (by rw [List.take_left' rfl]) rfl hF
  · rw [if_neg he]
    have hM1 : (wholeM one).1 ≤ max (wholeM one).1 (wholeM two).1 := Nat.le_max_left _ _
    have hM2 : (wholeM two).1 ≤ max (wholeM one).1 (wholeM two).1 := Nat.le_max_right _ _
    have hM3 : max (wholeM one).1 (wholeM two).1 ≤ 1000 := by omega
    have hne := ends_part hM1 hM2 he
    generalize max (wholeM one).1 (wholeM two).1 = M at hM1 hM2 hM3 hne
    simp only [gtp, isiN_tt, wp_ok, wp_ret, wp_stuck, wp_bad, wp_bnd, wp_if, wp_fif, wps_ok_nx, wps_ok_rt, wps_ok_bk, wps_ok_ct, wps_ok_xc, wps_bad, wps_lft, wps_seq, wps_nil, wps_ret, wps_expr, wps_asg, wps_if, wp_run, wps_for, wps_while, wp_comp, wp_var, wp_C, wp_bin, wp_un, wp_T, wp_Tb, wp_asBl, wp_truthBl, wp_bAnd, wp_bOr, wp_bNot, wp_eIf, wp_eAnd, wp_eOr, wp_eNot, blCase_bl, wp_chain, wp_aNil, wp_aCons, wp_tup, wp_lst, wp_lstM, wp_call, wp_cl1, wp_cl2, wp_cl3, wp_cl4, wp_cl5, wp_meth, wp_isi, wp_oNone, wp_oSome, wp_sl, wp_it, wp_range1, wp_range2, wp_bYes, gEq_str, gNe_str, gEq_int, gNe_int, gEq_bl, gNe_bl, gIs_bl, gIsNot_bl, gAdd_int, gSub_int, gC_int, gI_int, gAdd_str, gAdd_tup, gAdd_lst, gNeg_int, gIx_tup, gIx_lst, gLen_tup, gLen_lst, gLen_str, gInt_int, gInt_bl, gTuple_lst, gTuple_tup, gList_lst, gList_tup, gSl_tup, gSl_lst, gSl_fl, gSl_str, srcL_tup, srcL_lst, srcL_fl, srcL_str, srcR1_int, typN, startR, List.map_cons, List.map_nil, List.length_cons, List.length_nil, Nat.reduceAdd, Nat.reduceSub, Nat.zero_add, Nat.sub_self, Nat.sub_zero, List.replicate_zero, List.replicate_succ, List.cons_append, List.nil_append, List.append_nil, List.getElem?_cons_zero, List.getElem?_cons_succ, List.set_cons_zero, List.set_cons_succ, List.set_nil, List.getElem?_nil, Option.some.injEq, exists_eq_left', exists_eq_left, exists_eq_right, reduceCtorEq, false_and, and_false, true_and, and_true, exists_false, exists_const, wipeR, Nat.zero_le, String.reduceEq, D.int.injEq, D.str.injEq, D.bl.injEq, atI_0, atI_1, atI_2, atI_3, atI_4, beq_self_eq_true, not_true_eq_false, not_false_eq_true, Int.cast_ofNat_Int, Int.reduceEq, Int.reduceLE, Int.reduceLT, Int.reduceAdd, Int.reduceSub, Int.reduceMul, Int.reduceNeg, if_true, if_false, ite_true, ite_false, Bool.false_eq_true, if_neg, if_pos, decide_eq_true_eq, Bool.not_eq_true', decide_eq_false_iff_not, eq_self_iff_true, decide_true, decide_false, Bool.not_true, Bool.not_false, wps_raise, wps_try, wps_tryAs, tryCase_t, tryCase_f, tbl_hit, suiteOf_hit, wp_eDct, wp_eDGet, wp_eDNew, wp_eDDef, wps_dput, wps_augI, wps_asgTp, wps_asgUl, gUl2, gTp2, gTp3, gTp4, gTp5, gNs_cons, gN0_nil, wp_clN1, wp_clN2, wp_clN3, wp_slSt, gTupR_int, gLstR_int, gEndswith_str]
    refine lmap_ok h1 hf (by omega) hS ?_
    refine lmap_ok h2 hf (by omega) hS ?_
    rw [gEq_lmp, decide_eq_false he]
    simp only [wp_ok, wp_ret, wp_stuck, wp_bad, wp_bnd, wp_if, wp_fif, wps_ok_nx, wps_ok_rt, wps_ok_bk, wps_ok_ct, wps_ok_xc, wps_bad, wps_lft, wps_seq, wps_nil, wps_ret, wps_expr, wps_asg, wps_if, wp_run, wps_for, wps_while, wp_comp, wp_var, wp_C, wp_bin, wp_un, wp_T, wp_Tb, wp_asBl, wp_truthBl, wp_bAnd, wp_bOr, wp_bNot, wp_eIf, wp_eAnd, wp_eOr, wp_eNot, blCase_bl, wp_chain, wp_aNil, wp_aCons, wp_tup, wp_lst, wp_lstM, wp_call, wp_cl1, wp_cl2, wp_cl3, wp_cl4, wp_cl5, wp_meth, wp_isi, wp_oNone, wp_oSome, wp_sl, wp_it, wp_range1, wp_range2, wp_bYes, gEq_str, gNe_str, gEq_int, gNe_int, gEq_bl, gNe_bl, gIs_bl, gIsNot_bl, gAdd_int, gSub_int, gC_int, gI_int, gAdd_str, gAdd_tup, gAdd_lst, gNeg_int, gIx_tup, gIx_lst, gLen_tup, gLen_lst, gLen_str, gInt_int, gInt_bl, gTuple_lst, gTuple_tup, gList_lst, gList_tup, gSl_tup, gSl_lst, gSl_fl, gSl_str, srcL_tup, srcL_lst, srcL_fl, srcL_str, srcR1_int, typN, startR, List.map_cons, List.map_nil, List.length_cons, List.length_nil, Nat.reduceAdd, Nat.reduceSub, Nat.zero_add, Nat.sub_self, Nat.sub_zero, List.replicate_zero, List.replicate_succ, List.cons_append, List.nil_append, List.append_nil, List.getElem?_cons_zero, List.getElem?_cons_succ, List.set_cons_zero, List.set_cons_succ, List.set_nil, List.getElem?_nil, Option.some.injEq, exists_eq_left', exists_eq_left, exists_eq_right, reduceCtorEq, false_and, and_false, true_and, and_true, exists_false, exists_const, wipeR, Nat.zero_le, String.reduceEq, D.int.injEq, D.str.injEq, D.bl.injEq, atI_0, atI_1, atI_2, atI_3, atI_4, beq_self_eq_true, not_true_eq_false, not_false_eq_true, Int.cast_ofNat_Int, Int.reduceEq, Int.reduceLE, Int.reduceLT, Int.reduceAdd, Int.reduceSub, Int.reduceMul, Int.reduceNeg, if_true, if_false, ite_true, ite_false, Bool.false_eq_true, if_neg, if_pos, decide_eq_true_eq, Bool.not_eq_true', decide_eq_false_iff_not, eq_self_iff_true, decide_true, decide_false, Bool.not_true, Bool.not_false, wps_raise, wps_try, wps_tryAs, tryCase_t, tryCase_f, tbl_hit, suiteOf_hit, wp_eDct, wp_eDGet, wp_eDNew, wp_eDDef, wps_dput, wps_augI, wps_asgTp, wps_asgUl, gUl2, gTp2, gTp3, gTp4, gTp5, gNs_cons, gN0_nil, wp_clN1, wp_clN2, wp_clN3, wp_slSt, gTupR_int, gLstR_int, gEndswith_str]
    refine end_ok h1 hM1 hM3 (by omega) hS ?_
    refine end_ok h2 hM2 hM3 (by omega) hS ?_
    refine ⟨small_line (by decide), ?_⟩
    have shn : Sh 0 D.non := ⟨_, rfl, rfl, Nat.zero_le _⟩
    have two2 : ∀ {P : D → Prop}, P (.lst ((expM M (wholeM one)).map nD)) → P (.lst ((expM M (wholeM two)).map nD)) → ∀ d ∈ [D.lst ((expM M (wholeM one)).map nD), .lst ((expM M (wholeM two)).map nD)], P d := fun a b d hd => by
      simp only [List.mem_cons, List.not_mem_nil, or_false] at hd
      rcases hd with rfl | rfl
      · exact a
      · exact b
    rw [gNotIn_pu (Or.inr rfl) shn (two2 sh_nD sh_nD) (by decide) rfl (two2 pu_nD pu_nD)]
    have hnin : ¬ D.non ∈ [D.lst ((expM M (wholeM one)).map nD), .lst ((expM M (wholeM two)).map nD)] := by simp
    simp only [hnin, gNe_pu sh_nD sh_nD (by decide) pu_nD pu_nD, D.lst.injEq, nD_inj, hne, wp_ok, wp_ret, wp_stuck, wp_bad, wp_bnd, wp_if, wp_fif, wps_ok_nx, wps_ok_rt, wps_ok_bk, wps_ok_ct, wps_ok_xc, wps_bad, wps_lft, wps_seq, wps_nil, wps_ret, wps_expr, wps_asg, wps_if, wp_run, wps_for, wps_while, wp_comp, wp_var, wp_C, wp_bin, wp_un, wp_T, wp_Tb, wp_asBl, wp_truthBl, wp_bAnd, wp_bOr, wp_bNot, wp_eIf, wp_eAnd, wp_eOr, wp_eNot, blCase_bl, wp_chain, wp_aNil, wp_aCons, wp_tup, wp_lst, wp_lstM, wp_call, wp_cl1, wp_cl2, wp_cl3, wp_cl4, wp_cl5, wp_meth, wp_isi, wp_oNone, wp_oSome, wp_sl, wp_it, wp_range1, wp_range2, wp_bYes, gEq_str, gNe_str, gEq_int, gNe_int, gEq_bl, gNe_bl, gIs_bl, gIsNot_bl, gAdd_int, gSub_int, gC_int, gI_int, gAdd_str, gAdd_tup, gAdd_lst, gNeg_int, gIx_tup, gIx_lst, gLen_tup, gLen_lst, gLen_str, gInt_int, gInt_bl, gTuple_lst, gTuple_tup, gList_lst, gList_tup, gSl_tup, gSl_lst, gSl_fl, gSl_str, srcL_tup, srcL_lst, srcL_fl, srcL_str, srcR1_int, typN, startR, List.map_cons, List.map_nil, List.length_cons, List.length_nil, Nat.reduceAdd, Nat.reduceSub, Nat.zero_add, Nat.sub_self, Nat.sub_zero, List.replicate_zero, List.replicate_succ, List.cons_append, List.nil_append, List.append_nil, List.getElem?_cons_zero, List.getElem?_cons_succ, List.set_cons_zero, List.set_cons_succ, List.set_nil, List.getElem?_nil, Option.some.injEq, exists_eq_left', exists_eq_left, exists_eq_right, reduceCtorEq, false_and, and_false, true_and, and_true, exists_false, exists_const, wipeR, Nat.zero_le, String.reduceEq, D.int.injEq, D.str.injEq, D.bl.injEq, atI_0, atI_1, atI_2, atI_3, atI_4, beq_self_eq_true, not_true_eq_false, not_false_eq_true, Int.cast_ofNat_Int, Int.reduceEq, Int.reduceLE, Int.reduceLT, Int.reduceAdd, Int.reduceSub, Int.reduceMul, Int.reduceNeg, if_true, if_false, ite_true, ite_false, Bool.false_eq_true, if_neg, if_pos, decide_eq_true_eq, Bool.not_eq_true', decide_eq_false_iff_not, eq_self_iff_true, decide_true, decide_false, Bool.not_true, Bool.not_false, wps_raise, wps_try, wps_tryAs, tryCase_t, tryCase_f, tbl_hit, suiteOf_hit, wp_eDct, wp_eDGet, wp_eDNew, wp_eDDef, wps_dput, wps_augI, wps_asgTp, wps_asgUl, gUl2, gTp2, gTp3, gTp4, gTp5, gNs_cons, gN0_nil, wp_clN1, wp_clN2, wp_clN3, wp_slSt, gTupR_int, gLstR_int, gEndswith_str]
    exact (fin_blO hS).mpr hF
theorem law_ok {ns : List Int} {N : Nat} (hN : 9 ≤ N) (hf : 1000 ≤ fu) (hl : ns.length ≤ 63) (hF : ∀ S, F (.bl true) S) : wp (den fu N i_law [.fl (ns.map .int)] []) F E := by
  obtain ⟨N', rfl⟩ : ∃ N', N = N' + 1 := ⟨N - 1, by omega⟩
  rw [show den fu (N' + 1) i_law = runDef false 5 (b_law fu (den fu N')) from rfl]
  simp only [b_law, wp_ok, wp_ret, wp_stuck, wp_bad, wp_bnd, wp_if, wp_fif, wps_ok_nx, wps_ok_rt, wps_ok_bk, wps_ok_ct, wps_ok_xc, wps_bad, wps_lft, wps_seq, wps_nil, wps_ret, wps_expr, wps_asg, wps_if, wp_run, wps_for, wps_while, wp_comp, wp_var, wp_C, wp_bin, wp_un, wp_T, wp_Tb, wp_asBl, wp_truthBl, wp_bAnd, wp_bOr, wp_bNot, wp_eIf, wp_eAnd, wp_eOr, wp_eNot, blCase_bl, wp_chain, wp_aNil, wp_aCons, wp_tup, wp_lst, wp_lstM, wp_call, wp_cl1, wp_cl2, wp_cl3, wp_cl4, wp_cl5, wp_meth, wp_isi, wp_oNone, wp_oSome, wp_sl, wp_it, wp_range1, wp_range2, wp_bYes, gEq_str, gNe_str, gEq_int, gNe_int, gEq_bl, gNe_bl, gIs_bl, gIsNot_bl, gAdd_int, gSub_int, gC_int, gI_int, gAdd_str, gAdd_tup, gAdd_lst, gNeg_int, gIx_tup, gIx_lst, gLen_tup, gLen_lst, gLen_str, gInt_int, gInt_bl, gTuple_lst, gTuple_tup, gList_lst, gList_tup, gSl_tup, gSl_lst, gSl_fl, gSl_str, srcL_tup, srcL_lst, srcL_fl, srcL_str, srcR1_int, typN, startR, List.map_cons, List.map_nil, List.length_cons, List.length_nil, Nat.reduceAdd, Nat.reduceSub, Nat.zero_add, Nat.sub_self, Nat.sub_zero, List.replicate_zero, List.replicate_succ, List.cons_append, List.nil_append, List.append_nil, List.getElem?_cons_zero, List.getElem?_cons_succ, List.set_cons_zero, List.set_cons_succ, List.set_nil, List.getElem?_nil, Option.some.injEq, exists_eq_left', exists_eq_left, exists_eq_right, reduceCtorEq, false_and, and_false, true_and, and_true, exists_false, exists_const, wipeR, Nat.zero_le, String.reduceEq, D.int.injEq, D.str.injEq, D.bl.injEq, atI_0, atI_1, atI_2, atI_3, atI_4, beq_self_eq_true, not_true_eq_false, not_false_eq_true, Int.cast_ofNat_Int, Int.reduceEq, Int.reduceLE, Int.reduceLT, Int.reduceAdd, Int.reduceSub, Int.reduceMul, Int.reduceNeg, if_true, if_false, ite_true, ite_false, Bool.false_eq_true, if_neg, if_pos, decide_eq_true_eq, Bool.not_eq_true', decide_eq_false_iff_not, eq_self_iff_true, decide_true, decide_false, Bool.not_true, Bool.not_false, wps_raise, wps_try, wps_tryAs, tryCase_t, tryCase_f, tbl_hit, suiteOf_hit, wp_eDct, wp_eDGet, wp_eDNew, wp_eDDef, wps_dput, wps_augI, wps_asgTp, wps_asgUl, gUl2, gTp2, gTp3, gTp4, gTp5, gNs_cons, gN0_nil, wp_clN1, wp_clN2, wp_clN3, wp_slSt, gTupR_int, gLstR_int, gEndswith_str]
  refine deck_ok (by omega) hl fun S0 h0 => ?_
  refine ⟨by decide, ?_⟩
  refine wps_forM (fun k ρ S' => DS S0 S' ∧ ∃ o2 o3 o4, ρ = [some (.fl (ns.map .int)), some (.ref 1), o2, o3, o4]) (fun _ _ _ _ => trivial) (fun k d ρ S' hd hI => ?_) (fun ρ S' hI => ?_) ⟨h0, none, none, none, rfl⟩
  · obtain ⟨h, o2, o3, o4, rfl⟩ := hI
    refine ⟨_, rfl, ?_⟩
    simp only [wp_ok, wp_ret, wp_stuck, wp_bad, wp_bnd, wp_if, wp_fif, wps_ok_nx, wps_ok_rt, wps_ok_bk, wps_ok_ct, wps_ok_xc, wps_bad, wps_lft, wps_seq, wps_nil, wps_ret, wps_expr, wps_asg, wps_if, wp_run, wps_for, wps_while, wp_comp, wp_var, wp_C, wp_bin, wp_un, wp_T, wp_Tb, wp_asBl, wp_truthBl, wp_bAnd, wp_bOr, wp_bNot, wp_eIf, wp_eAnd, wp_eOr, wp_eNot, blCase_bl, wp_chain, wp_aNil, wp_aCons, wp_tup, wp_lst, wp_lstM, wp_call, wp_cl1, wp_cl2, wp_cl3, wp_cl4, wp_cl5, wp_meth, wp_isi, wp_oNone, wp_oSome, wp_sl, wp_it, wp_range1, wp_range2, wp_bYes, gEq_str, gNe_str, gEq_int, gNe_int, gEq_bl, gNe_bl, gIs_bl, gIsNot_bl, gAdd_int, gSub_int, gC_int, gI_int, gAdd_str, gAdd_tup, gAdd_lst, gNeg_int, gIx_tup, gIx_lst, gLen_tup, gLen_lst, gLen_str, gInt_int, gInt_bl, gTuple_lst, gTuple_tup, gList_lst, gList_tup, gSl_tup, gSl_lst, gSl_fl, gSl_str, srcL_tup, srcL_lst, srcL_fl, srcL_str, srcR1_int, typN, startR, List.map_cons, List.map_nil, List.length_cons, List.length_nil, Nat.reduceAdd, Nat.reduceSub, Nat.zero_add, Nat.sub_self, Nat.sub_zero, List.replicate_zero, List.replicate_succ, List.cons_append, List.nil_append, List.append_nil, List.getElem?_cons_zero, List.getElem?_cons_succ, List.set_cons_zero, List.set_cons_succ, List.set_nil, List.getElem?_nil, Option.some.injEq, exists_eq_left', exists_eq_left, exists_eq_right, reduceCtorEq, false_and, and_false, true_and, and_true, exists_false, exists_const, wipeR, Nat.zero_le, String.reduceEq, D.int.injEq, D.str.injEq, D.bl.injEq, atI_0, atI_1, atI_2, atI_3, atI_4, beq_self_eq_true, not_true_eq_false, not_false_eq_true, Int.cast_ofNat_Int, Int.reduceEq, Int.reduceLE, Int.reduceLT, Int.reduceAdd, Int.reduceSub, Int.reduceMul, Int.reduceNeg, if_true, if_false, ite_true, ite_false, Bool.false_eq_true, if_neg, if_pos, decide_eq_true_eq, Bool.not_eq_true', decide_eq_false_iff_not, eq_self_iff_true, decide_true, decide_false, Bool.not_true, Bool.not_false, wps_raise, wps_try, wps_tryAs, tryCase_t, tryCase_f, tbl_hit, suiteOf_hit, wp_eDct, wp_eDGet, wp_eDNew, wp_eDDef, wps_dput, wps_augI, wps_asgTp, wps_asgUl, gUl2, gTp2, gTp3, gTp4, gTp5, gNs_cons, gN0_nil, wp_clN1, wp_clN2, wp_clN3, wp_slSt, gTupR_int, gLstR_int, gEndswith_str]
    refine shuffles_drawn (by omega) h fun one S1 l1 ho1 h1 => ?_
    refine other_ok l1 ho1 hf (by omega) h1 fun two S2 l2 ho2 h2 => ?_
    refine right_ok ⟨by omega, ho1⟩ ⟨by omega, ho2⟩ hf (by omega) h2.oks ?_
    simp only [wp_ok, wp_ret, wp_stuck, wp_bad, wp_bnd, wp_if, wp_fif, wps_ok_nx, wps_ok_rt, wps_ok_bk, wps_ok_ct, wps_ok_xc, wps_bad, wps_lft, wps_seq, wps_nil, wps_ret, wps_expr, wps_asg, wps_if, wp_run, wps_for, wps_while, wp_comp, wp_var, wp_C, wp_bin, wp_un, wp_T, wp_Tb, wp_asBl, wp_truthBl, wp_bAnd, wp_bOr, wp_bNot, wp_eIf, wp_eAnd, wp_eOr, wp_eNot, blCase_bl, wp_chain, wp_aNil, wp_aCons, wp_tup, wp_lst, wp_lstM, wp_call, wp_cl1, wp_cl2, wp_cl3, wp_cl4, wp_cl5, wp_meth, wp_isi, wp_oNone, wp_oSome, wp_sl, wp_it, wp_range1, wp_range2, wp_bYes, gEq_str, gNe_str, gEq_int, gNe_int, gEq_bl, gNe_bl, gIs_bl, gIsNot_bl, gAdd_int, gSub_int, gC_int, gI_int, gAdd_str, gAdd_tup, gAdd_lst, gNeg_int, gIx_tup, gIx_lst, gLen_tup, gLen_lst, gLen_str, gInt_int, gInt_bl, gTuple_lst, gTuple_tup, gList_lst, gList_tup, gSl_tup, gSl_lst, gSl_fl, gSl_str, srcL_tup, srcL_lst, srcL_fl, srcL_str, srcR1_int, typN, startR, List.map_cons, List.map_nil, List.length_cons, List.length_nil, Nat.reduceAdd, Nat.reduceSub, Nat.zero_add, Nat.sub_self, Nat.sub_zero, List.replicate_zero, List.replicate_succ, List.cons_append, List.nil_append, List.append_nil, List.getElem?_cons_zero, List.getElem?_cons_succ, List.set_cons_zero, List.set_cons_succ, List.set_nil, List.getElem?_nil, Option.some.injEq, exists_eq_left', exists_eq_left, exists_eq_right, reduceCtorEq, false_and, and_false, true_and, and_true, exists_false, exists_const, wipeR, Nat.zero_le, String.reduceEq, D.int.injEq, D.str.injEq, D.bl.injEq, atI_0, atI_1, atI_2, atI_3, atI_4, beq_self_eq_true, not_true_eq_false, not_false_eq_true, Int.cast_ofNat_Int, Int.reduceEq, Int.reduceLE, Int.reduceLT, Int.reduceAdd, Int.reduceSub, Int.reduceMul, Int.reduceNeg, if_true, if_false, ite_true, ite_false, Bool.false_eq_true, if_neg, if_pos, decide_eq_true_eq, Bool.not_eq_true', decide_eq_false_iff_not, eq_self_iff_true, decide_true, decide_false, Bool.not_true, Bool.not_false, wps_raise, wps_try, wps_tryAs, tryCase_t, tryCase_f, tbl_hit, suiteOf_hit, wp_eDct, wp_eDGet, wp_eDNew, wp_eDDef, wps_dput, wps_augI, wps_asgTp, wps_asgUl, gUl2, gTp2, gTp3, gTp4, gTp5, gNs_cons, gN0_nil, wp_clN1, wp_clN2, wp_clN3, wp_slSt, gTupR_int, gLstR_int, gEndswith_str]
    refine right_ok ⟨by omega, ho2⟩ ⟨by omega, ho1⟩ hf (by omega) h2.oks ?_
    simp only [wp_ok, wp_ret, wp_stuck, wp_bad, wp_bnd, wp_if, wp_fif, wps_ok_nx, wps_ok_rt, wps_ok_bk, wps_ok_ct, wps_ok_xc, wps_bad, wps_lft, wps_seq, wps_nil, wps_ret, wps_expr, wps_asg, wps_if, wp_run, wps_for, wps_while, wp_comp, wp_var, wp_C, wp_bin, wp_un, wp_T, wp_Tb, wp_asBl, wp_truthBl, wp_bAnd, wp_bOr, wp_bNot, wp_eIf, wp_eAnd, wp_eOr, wp_eNot, blCase_bl, wp_chain, wp_aNil, wp_aCons, wp_tup, wp_lst, wp_lstM, wp_call, wp_cl1, wp_cl2, wp_cl3, wp_cl4, wp_cl5, wp_meth, wp_isi, wp_oNone, wp_oSome, wp_sl, wp_it, wp_range1, wp_range2, wp_bYes, gEq_str, gNe_str, gEq_int, gNe_int, gEq_bl, gNe_bl, gIs_bl, gIsNot_bl, gAdd_int, gSub_int, gC_int, gI_int, gAdd_str, gAdd_tup, gAdd_lst, gNeg_int, gIx_tup, gIx_lst, gLen_tup, gLen_lst, gLen_str, gInt_int, gInt_bl, gTuple_lst, gTuple_tup, gList_lst, gList_tup, gSl_tup, gSl_lst, gSl_fl, gSl_str, srcL_tup, srcL_lst, srcL_fl, srcL_str, srcR1_int, typN, startR, List.map_cons, List.map_nil, List.length_cons, List.length_nil, Nat.reduceAdd, Nat.reduceSub, Nat.zero_add, Nat.sub_self, Nat.sub_zero, List.replicate_zero, List.replicate_succ, List.cons_append, List.nil_append, List.append_nil, List.getElem?_cons_zero, List.getElem?_cons_succ, List.set_cons_zero, List.set_cons_succ, List.set_nil, List.getElem?_nil, Option.some.injEq, exists_eq_left', exists_eq_left, exists_eq_right, reduceCtorEq, false_and, and_false, true_and, and_true, exists_false, exists_const, wipeR, Nat.zero_le, String.reduceEq, D.int.injEq, D.str.injEq, D.bl.injEq, atI_0, atI_1, atI_2, atI_3, atI_4, beq_self_eq_true, not_true_eq_false, not_false_eq_true, Int.cast_ofNat_Int, Int.reduceEq, Int.reduceLE, Int.reduceLT, Int.reduceAdd, Int.reduceSub, Int.reduceMul, Int.reduceNeg, if_true, if_false, ite_true, ite_false, Bool.false_eq_true, if_neg, if_pos, decide_eq_true_eq, Bool.not_eq_true', decide_eq_false_iff_not, eq_self_iff_true, decide_true, decide_false, Bool.not_true, Bool.not_false, wps_raise, wps_try, wps_tryAs, tryCase_t, tryCase_f, tbl_hit, suiteOf_hit, wp_eDct, wp_eDGet, wp_eDNew, wp_eDDef, wps_dput, wps_augI, wps_asgTp, wps_asgUl, gUl2, gTp2, gTp3, gTp4, gTp5, gNs_cons, gN0_nil, wp_clN1, wp_clN2, wp_clN3, wp_slSt, gTupR_int, gLstR_int, gEndswith_str]
    exact ⟨h2, _, _, _, rfl⟩
  · obtain ⟨h, o2, o3, o4, rfl⟩ := hI
    refine wp_fin rfl rfl ?_
    exact hF _
def FU : Nat := 1000
def NN : Nat := 100
theorem main (ns : List Int) (hl : ns.length ≤ 63) : ∃ S', den FU NN i_law [.fl (ns.map .int)] [] = .ok (.bl true) S' := by
  have := law_ok (fu := 1000) (N := 100) (F := fun d _ => d = .bl true) (E := fun _ _ => False) (ns := ns) (by decide) (by decide) hl (fun _ => rfl)
  show ∃ S', den 1000 100 i_law [.fl (ns.map .int)] [] = .ok (.bl true) S'
  cases h : den 1000 100 i_law [.fl (ns.map .int)] [] with
  | ok d S' => rw [h] at this; have e : d = .bl true := this; subst e; exact ⟨S', rfl⟩
  | ex e S' => rw [h] at this; exact this.elim
  | bad => rw [h] at this; exact this.elim
end K61

open PySem PySem.W PyProof.Rows in
set_option maxRecDepth 100000 in
set_option maxHeartbeats 0 in
theorem PySem.Challenge.cw_takeleave_k61_shuffles_alike_or_parted_holds : PySem.Challenge.rw_takeleave_k61_shuffles_alike_or_parted.Holds := by
  w_on; o_law; k_head; (case hw => w_witness2)
  k_fill
  refine L2.walk_of (l := PySem.Challenge.rw_takeleave_k61_shuffles_alike_or_parted) (n := 63) (k := K61.NN + 20) (x := "_law_script") (CX := fun w => L2.CX PySem.Challenge.rw_takeleave_k61_shuffles_alike_or_parted.prog w) (sp := fun w => K61.spLaw _) rfl (by decide) rfl ⟨rfl, by decide, by decide⟩ (fun w h Y => PySem.W.kIn_of Y) ?F (fun _ _ a ns hl hO hS => ⟨a, ns, rfl, hO, hS, hl, fun _ => rfl⟩) (fun w H s e s' h => by obtain ⟨_, _, _, _, _, _, _, _, _, _, _, _, z⟩ := h; exact z)
  case F =>
    intro w mg fa h KX G hmg
    refine' K61.all_mk K61.FU K61.NN K61.main KX G hmg ?a1 ?l1 ?c1 ?k1 ?a2 ?l2 ?c2 ?k2 ?a3 ?l3 ?c3 ?k3 ?a4 ?l4 ?c4 ?k4 ?a5 ?l5 ?c5 ?k5 ?a6 ?l6 ?c6 ?k6 ?a7 ?l7 ?c7 ?k7 ?a8 ?l8 ?c8 ?k8 ?a9 ?l9 ?c9 ?k9 ?a10 ?l10 ?c10 ?k10 ?q10 ?a11 ?l11 ?c11 ?k11 ?q11 ?a12 ?l12 ?c12 ?k12 ?a13 ?l13 ?c13 ?k13 ?a14 ?l14 ?c14 ?k14 ?a15 ?l15 ?c15 ?k15 ?q15 ?a16 ?l16 ?c16 ?k16 ?a17 ?l17 ?c17 ?k17 ?a18 ?l18 ?c18 ?k18 ?a19 ?l19 ?c19 ?k19 ?a20 ?l20 ?c20 ?k20 ?a21 ?l21 ?c21 ?k21 ?a22 ?l22 ?c22 ?k22 ?a23 ?l23 ?c23 ?k23 ?a24 ?l24 ?c24 ?k24 ?a25 ?l25 ?c25 ?k25 ?a26 ?l26 ?c26 ?k26 ?a27 ?l27 ?c27 ?k27 ?a28 ?l28 ?c28 ?k28 ?a29 ?l29 ?c29 ?k29 ?a30 ?l30 ?c30 ?k30 ?a31 ?l31 ?c31 ?k31 ?a32 ?l32 ?c32 ?k32 ?a33 ?l33 ?c33 ?k33 ?a34 ?l34 ?c34 ?k34 ?a35 ?l35 ?c35 ?k35 ?a36 ?l36 ?c36 ?k36 ?a37 ?l37 ?c37 ?k37 ?a38 ?l38 ?c38 ?k38 ?z_all ?z_int ?z_isinstance ?z_len ?z_list ?z_max ?z_range ?z_str ?z_sum ?z_tuple ?xg_NoShuffle ?xb_NoShuffle ?xt_NoShuffle ?xx_NoShuffle ?xk_NoShuffle ?n_LETTERS ?n_MOST_LEFT_shuffles
    (case a1 => k_is)
    (case l1 => k_is)
    (case c1 => k_is)
    (case k1 => k_is)
    (case a2 => k_is)
    (case l2 => k_is)
    (case c2 => k_is)
    (case k2 => k_is)
    (case a3 => k_is)
    (case l3 => k_is)
    (case c3 => k_is)
    (case k3 => k_is)
    (case a4 => k_is)
    (case l4 => k_is)
    (case c4 => k_is)
    (case k4 => k_is)
    (case a5 => k_is)
    (case l5 => k_is)
    (case c5 => k_is)
    (case k5 => k_is)
    (case a6 => k_is)
    (case l6 => k_is)
    (case c6 => k_is)
    (case k6 => k_is)
    (case a7 => k_is)
    (case l7 => k_is)
    (case c7 => k_is)
    (case k7 => k_is)
    (case a8 => k_is)
    (case l8 => k_is)
    (case c8 => k_is)
    (case k8 => k_is)
    (case a9 => k_is)
    (case l9 => k_is)
    (case c9 => k_is)
    (case k9 => k_is)
    (case a10 => k_is)
    (case l10 => k_is)
    (case c10 => k_is)
    (case k10 => k_is)
    (case q10 => k_is)
    (case a11 => k_is)
    (case l11 => k_is)
    (case c11 => k_is)
    (case k11 => k_is)
    (case q11 => k_is)
    (case a12 => k_is)
    (case l12 => k_is)
    (case c12 => k_is)
    (case k12 => k_is)
    (case a13 => k_is)
    (case l13 => k_is)
    (case c13 => k_is)
    (case k13 => k_is)
    (case a14 => k_is)
    (case l14 => k_is)
    (case c14 => k_is)
    (case k14 => k_is)
    (case a15 => k_is)
    (case l15 => k_is)
    (case c15 => k_is)
    (case k15 => k_is)
    (case q15 => k_is)
    (case a16 => k_is)
    (case l16 => k_is)
    (case c16 => k_is)
    (case k16 => k_is)
    (case a17 => k_is)
    (case l17 => k_is)
    (case c17 => k_is)
    (case k17 => k_is)
    (case a18 => k_is)
    (case l18 => k_is)
    (case c18 => k_is)
    (case k18 => k_is)
    (case a19 => k_is)
    (case l19 => k_is)
    (case c19 => k_is)
    (case k19 => k_is)
    (case a20 => k_is)
    (case l20 => k_is)
    (case c20 => k_is)
    (case k20 => k_is)
    (case a21 => k_is)
    (case l21 => k_is)
    (case c21 => k_is)
    (case k21 => k_is)
    (case a22 => k_is)
    (case l22 => k_is)
    (case c22 => k_is)
    (case k22 => k_is)
    (case a23 => k_is)
    (case l23 => k_is)
    (case c23 => k_is)
    (case k23 => k_is)
    (case a24 => k_is)
    (case l24 => k_is)
    (case c24 => k_is)
    (case k24 => k_is)
    (case a25 => k_is)
    (case l25 => k_is)
    (case c25 => k_is)
    (case k25 => k_is)
    (case a26 => k_is)
    (case l26 => k_is)
    (case c26 => k_is)
    (case k26 => k_is)
    (case a27 => k_is)
    (case l27 => k_is)
    (case c27 => k_is)
    (case k27 => k_is)
    (case a28 => k_is)
    (case l28 => k_is)
    (case c28 => k_is)
    (case k28 => k_is)
    (case a29 => k_is)
    (case l29 => k_is)
    (case c29 => k_is)
    (case k29 => k_is)
    (case a30 => k_is)
    (case l30 => k_is)
    (case c30 => k_is)
    (case k30 => k_is)
    (case a31 => k_is)
    (case l31 => k_is)
    (case c31 => k_is)
    (case k31 => k_is)
    (case a32 => k_is)
    (case l32 => k_is)
    (case c32 => k_is)
    (case k32 => k_is)
    (case a33 => k_is)
    (case l33 => k_is)
    (case c33 => k_is)
    (case k33 => k_is)
    (case a34 => k_is)
    (case l34 => k_is)
    (case c34 => k_is)
    (case k34 => k_is)
    (case a35 => k_is)
    (case l35 => k_is)
    (case c35 => k_is)
    (case k35 => k_is)
    (case a36 => k_is)
    (case l36 => k_is)
    (case c36 => k_is)
    (case k36 => k_is)
    (case a37 => k_is)
    (case l37 => k_is)
    (case c37 => k_is)
    (case k37 => k_is)
    (case a38 => k_is)
    (case l38 => k_is)
    (case c38 => k_is)
    (case k38 => k_is)
    (case z_all => k_is)
    (case z_int => k_is)
    (case z_isinstance => k_is)
    (case z_len => k_is)
    (case z_list => k_is)
    (case z_max => k_is)
    (case z_range => k_is)
    (case z_str => k_is)
    (case z_sum => k_is)
    (case z_tuple => k_is)
    (case xg_NoShuffle => k_is)
    (case xb_NoShuffle => k_is)
    (case xt_NoShuffle => k_is)
    (case xx_NoShuffle => k_exc)
    (case xk_NoShuffle => k_is)
    (case n_LETTERS => k_is)
    (case n_MOST_LEFT_shuffles => k_is)
