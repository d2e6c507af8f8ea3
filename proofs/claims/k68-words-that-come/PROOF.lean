import PyProof.Rows.All
import Wide.All
import OpenK.AllK
import Wide.FinOn
import HandS.ForSpec
import HandS.ForMost
import HandS.IsInst
import HandS.Wide
import HandS.EndBits
import HandS.TupAny
import HandS.Flow
import HandS.Style
import HandS.Deep
import HandS.Rev
import HandS.TupMul
import HandS.Iter
import HandS.ForExc
import HandS.RaiseMore
import HandS.ExcIs
import HandS.Dict
import HandS.More
import HandS.Conv
import HandS.Set
import HandS.Strs
import PyProof.Rows.SetFrom
import PyProof.Rows.SortShellAny
import PySem.Challenge.RW_takeleave_k68_words_that_come_to_themsel
set_option Elab.async false
set_option linter.all false
set_option maxRecDepth 100000
set_option maxHeartbeats 4000000
set_option autoImplicit false
/-! DL1: data as trees over a small store of the lists and dicts that change; results; the relation with the heap. -/
namespace DL
open PySem L2

inductive D where
  | non | bl (b : Bool) | int (i : Int) | str (x : Str) | tup (xs : List D) | lst (xs : List D) | fl (xs : List D) | ref (n : Nat) | fn (x : Str)
inductive MO where
  | lst (xs : List D) | dct (kvs : List (Key × D))
abbrev Sto := List MO
/-- where the stored things stand; x: lists in the making, that no value may name -/
structure Mu where
  v : List Addr
  x : List Addr
structure Exc where
  cls : Str
  fs : List (Str × D)
inductive R (α : Type) where
  | ok (a : α) (S : Sto) | ex (e : Exc) (S : Sto) | bad
abbrev M (α : Type) := Sto → R α
def ret {α : Type} (a : α) : M α := fun S => .ok a S
def stuck {α : Type} : M α := fun _ => .bad
def raiz {α : Type} (e : Exc) : M α := fun S => .ex e S
def bnd {α β : Type} (m : M α) (k : α → M β) : M β := fun S => match m S with
  | .ok a S' => k a S'
  | .ex e S' => .ex e S'
  | .bad => .bad
abbrev Rho := List (Option D)

mutual
inductive RD (K : PySem.W.Frag) (μ : Mu) (H : Hp) : D → V → Prop
  | non : RD K μ H .non .non
  | bl (b : Bool) : RD K μ H (.bl b) (.bl b)
  | int (i : Int) : RD K μ H (.int i) (.int i)
  | str (x : Str) : RD K μ H (.str x) (.str x)
  | tup {a : Addr} {vs : List V} {ds : List D} : SqT K H a vs → RDs K μ H ds vs → RD K μ H (.tup ds) (.ref a)
  | fl {a : Addr} {vs : List V} {ds : List D} : ((∃ o, H a = some (.frz o (.lst vs))) ∨ (∃ (o : Obj) (its : Array Value) (n : Nat), K.lookup a = some o ∧ o.cls = .type "list" ∧ o.dict = none ∧ o.data = .seq its n ∧ its.size ≤ sizeLine ∧ Vals vs its.toList)) →
      RDs K μ H ds vs → RD K μ H (.fl ds) (.ref a)
  | lst {a : Addr} {vs : List V} {ds : List D} : H a = some (.lst vs) → (a ∉ μ.v ∧ a ∉ μ.x) → RDs K μ H ds vs → RD K μ H (.lst ds) (.ref a)
  | ref {n : Nat} {a : Addr} : μ.v[n]? = some a → RD K μ H (.ref n) (.ref a)
  | fn {x : Str} {a : Addr} : PySem.W.nsIn K mainGlobals x = some (some (.ref a)) → RD K μ H (.fn x) (.ref a)
inductive RDs (K : PySem.W.Frag) (μ : Mu) (H : Hp) : List D → List V → Prop
  | nil : RDs K μ H [] []
  | cons {d : D} {ds : List D} {v : V} {vs : List V} : RD K μ H d v → RDs K μ H ds vs → RDs K μ H (d :: ds) (v :: vs)
end

def RKs (K : PySem.W.Frag) (μ : Mu) (H : Hp) : List (Key × D) → List (Key × V) → Prop := Paired fun p q => p.1 = q.1 ∧ RD K μ H p.2 q.2
def RFs (K : PySem.W.Frag) (μ : Mu) (H : Hp) : List (Str × D) → List (Str × V) → Prop := Paired fun p q => p.1 = q.1 ∧ RD K μ H p.2 q.2
def RM (K : PySem.W.Frag) (μ : Mu) (H : Hp) (a : Addr) : MO → Prop
  | .lst ds => ∃ vs, H a = some (.lst vs) ∧ RDs K μ H ds vs
  | .dct kvs => ∃ ws, H a = some (.dK ws) ∧ RKs K μ H kvs ws
def RX (K : PySem.W.Frag) (mg : Str → Option Value) (μ : Mu) (H : Hp) (e : Exc) (c : Value) (od : Option Addr) : Prop :=
  (∃ C, mg e.cls = some (.ref C) ∧ c = .ref C) ∧ match od with
    | none => e.fs = []
    | some d => e.fs ≠ [] ∧ ∃ fs, H d = some (.xd fs) ∧ RFs K μ H e.fs fs

structure Rel (K : PySem.W.Frag) (μ : Mu) (S : Sto) (H : Hp) : Prop where
  len : μ.v.length = S.length
  nd : μ.v.Nodup
  obj : ∀ (i : Nat) (a : Addr) (m : MO), μ.v[i]? = some a → S[i]? = some m → RM K μ H a m
  hid : ∀ a ∈ μ.x, H a ≠ none
  apt : ∀ a ∈ μ.v, a ∉ μ.x
structure Stp (μ : Mu) (H : Hp) (μ' : Mu) (H' : Hp) : Prop where
  pre : ∃ ν, μ' = ⟨μ.v ++ ν, μ.x⟩ ∧ ∀ p ∈ ν, H p = none
  keep : ∀ a u, H a = some u → a ∉ μ.v → H' a = some u
  thr : ∀ a, H a ≠ none → H' a ≠ none

theorem Stp.refl {μ : Mu} {H : Hp} : Stp μ H μ H := ⟨⟨[], by simp, by simp⟩, fun _ _ h _ => h, fun _ h => h⟩
theorem Stp.trans {μ μ1 μ2 : Mu} {H H1 H2 : Hp} (a : Stp μ H μ1 H1) (b : Stp μ1 H1 μ2 H2) : Stp μ H μ2 H2 := by
  obtain ⟨⟨ν1, rfl, f1⟩, k1, t1⟩ := a
  obtain ⟨⟨ν2, rfl, f2⟩, k2, t2⟩ := b
  refine ⟨⟨ν1 ++ ν2, by simp, fun p hp => ?_⟩, fun x u h hx => ?_, fun x h => t2 x (t1 x h)⟩
  · rcases List.mem_append.mp hp with q | q
    · exact f1 p q
    · by_cases h : H p = none
      · exact h
      · exact absurd (f2 p q) (t1 p h)
  · refine k2 x u (k1 x u h hx) fun q => ?_
    rcases List.mem_append.mp q with q | q
    · exact hx q
    · rw [f1 x q] at h; cases h
/-- a new object -/
theorem Stp.new {μ : Mu} {H : Hp} {p : Addr} {o : HO} (h : H p = none) : Stp μ H μ (upd H p o) :=
  ⟨⟨[], by simp, by simp⟩, fun a u e _ => by rw [upd_ne (ne_of_none e h)]; exact e, fun a e => by
    by_cases z : a = p
    · subst z; rw [upd_same]; simp
    · rw [upd_ne z]; exact e⟩
/-- a stored object changes -/
theorem Stp.put {μ : Mu} {H : Hp} {p : Addr} {o : HO} (h : p ∈ μ.v) : Stp μ H μ (upd H p o) :=
  ⟨⟨[], by simp, by simp⟩, fun a u e z => by rw [upd_ne (fun q => z (by rw [q]; exact h))]; exact e, fun a e => by
    by_cases z : a = p
    · subst z; rw [upd_same]; simp
    · rw [upd_ne z]; exact e⟩
def Mu.push (μ : Mu) (p : Addr) : Mu := ⟨μ.v ++ [p], μ.x⟩
def Mu.cut (μ : Mu) (n : Nat) : Mu := ⟨μ.v.take n, μ.x⟩
theorem Stp.push {μ μ' : Mu} {H H' : Hp} {p : Addr} (s : Stp μ H μ' H') (h : H p = none) : Stp μ H (μ'.push p) H' := by
  obtain ⟨⟨ν, rfl, f⟩, k, t⟩ := s
  refine ⟨⟨ν ++ [p], by simp [Mu.push], fun q hq => ?_⟩, k, t⟩
  rcases List.mem_append.mp hq with z | z
  · exact f q z
  · simp at z; rw [z]; exact h
theorem Stp.get {μ μ' : Mu} {H H' : Hp} (s : Stp μ H μ' H') {i : Nat} {a : Addr} (h : μ.v[i]? = some a) : μ'.v[i]? = some a := by
  obtain ⟨⟨ν, rfl, f⟩, k, t⟩ := s
  rw [List.getElem?_append_left (List.getElem?_eq_some_iff.mp h).1]; exact h
theorem Stp.out {μ μ' : Mu} {H H' : Hp} (s : Stp μ H μ' H') {a : Addr} {u : HO} (h : H a = some u) (h0 : a ∉ μ.v ∧ a ∉ μ.x) : a ∉ μ'.v ∧ a ∉ μ'.x := by
  obtain ⟨⟨ν, rfl, f⟩, k, t⟩ := s
  refine ⟨fun z => ?_, h0.2⟩
  rcases List.mem_append.mp z with z | z
  · exact h0.1 z
  · rw [f a z] at h; cases h
theorem Stp.x {μ μ' : Mu} {H H' : Hp} (s : Stp μ H μ' H') : μ'.x = μ.x := by
  obtain ⟨⟨ν, rfl, f⟩, k, t⟩ := s; rfl
/-- a new object, taken into the store -/
theorem Stp.alloc {μ : Mu} {H : Hp} {p : Addr} {o : HO} (h : H p = none) : Stp μ H (μ.push p) (upd H p o) := Stp.push (Stp.new h) h

section
variable {K : PySem.W.Frag} {μ μ' : Mu} {S : Sto} {H H' : Hp}
theorem Rel.mem (r : Rel K μ S H) {a : Addr} (h : a ∈ μ.v) : ∃ (i : Nat) (m : MO), μ.v[i]? = some a ∧ S[i]? = some m ∧ RM K μ H a m := by
  obtain ⟨i, hi⟩ := List.mem_iff_getElem?.mp h
  have hl := (List.getElem?_eq_some_iff.mp hi).1
  rw [r.len] at hl
  exact ⟨i, S[i], hi, List.getElem?_eq_getElem hl, r.obj i a _ hi (List.getElem?_eq_getElem hl)⟩
theorem Rel.kind (r : Rel K μ S H) {a : Addr} (h : a ∈ μ.v) : (∃ vs, H a = some (.lst vs)) ∨ ∃ ws, H a = some (.dK ws) := by
  obtain ⟨i, m, _, _, q⟩ := r.mem h
  cases m with
  | lst ds => obtain ⟨vs, e, _⟩ := q; exact .inl ⟨vs, e⟩
  | dct kvs => obtain ⟨ws, e, _⟩ := q; exact .inr ⟨ws, e⟩
theorem Rel.ntup (r : Rel K μ S H) {a : Addr} {vs : List V} (h : H a = some (.tup vs))   : a ∉ μ.v := fun z => by
  rcases r.kind z with ⟨_, e⟩ | ⟨_, e⟩ <;> rw [h] at e <;> cases e
theorem Rel.nfrz (r : Rel K μ S H) {a : Addr} {o : Obj} {u : HO} (h : H a = some (.frz o u))   : a ∉ μ.v := fun z => by
  rcases r.kind z with ⟨_, e⟩ | ⟨_, e⟩ <;> rw [h] at e <;> cases e
theorem Rel.there (r : Rel K μ S H) {a : Addr} (h : a ∈ μ.v) : H a ≠ none := fun z => by
  rcases r.kind h with ⟨_, e⟩ | ⟨_, e⟩ <;> rw [z] at e <;> cases e
theorem SqT.stp {a : Addr} {vs : List V} (h : SqT K H a vs) (r : Rel K μ S H) (s : Stp μ H μ' H') : SqT K H' a vs := by
  rcases h with (h | ⟨o, h⟩) | h
  · exact .inl (.inl (s.keep a _ h (r.ntup h)))
  · exact .inl (.inr ⟨o, s.keep a _ h (r.nfrz h)⟩)
  · exact .inr h
mutual
theorem RD.stp (r : Rel K μ S H) (s : Stp μ H μ' H') : ∀ (d : D) (v : V), RD K μ H d v → RD K μ' H' d v
  | .non, _, h => by cases h; exact .non
  | .bl _, _, h => by cases h; exact .bl _
  | .int _, _, h => by cases h; exact .int _
  | .str _, _, h => by cases h; exact .str _
  | .fn _, _, h => by cases h with | fn q => exact .fn q
  | .tup ds, _, h => by
    cases h with
    | tup h1 h2 => exact .tup (SqT.stp h1 r s) (RDs.stp r s ds _ h2)
  | .fl ds, _, h => by
    cases h with
    | fl h1 h2 =>
      refine .fl ?_ (RDs.stp r s ds _ h2)
      rcases h1 with ⟨o, h1⟩ | h1
      · exact .inl ⟨o, s.keep _ _ h1 (r.nfrz h1)⟩
      · exact .inr h1
  | .lst ds, _, h => by
    cases h with
    | lst h1 h0 h2 => exact .lst (s.keep _ _ h1 h0.1) (s.out h1 h0) (RDs.stp r s ds _ h2)
  | .ref n, _, h => by
    cases h with
    | ref h1 => exact .ref (s.get h1)
theorem RDs.stp (r : Rel K μ S H) (s : Stp μ H μ' H') : ∀ (ds : List D) (vs : List V), RDs K μ H ds vs → RDs K μ' H' ds vs
  | [], _, h => by cases h; exact .nil
  | d :: ds, _, h => by
    cases h with
    | cons h1 h2 => exact .cons (RD.stp r s d _ h1) (RDs.stp r s ds _ h2)
end
theorem RD.step {d : D} {v : V} (h : RD K μ H d v) (r : Rel K μ S H) (s : Stp μ H μ' H') : RD K μ' H' d v := RD.stp r s d v h
theorem RDs.step {ds : List D} {vs : List V} (h : RDs K μ H ds vs) (r : Rel K μ S H) (s : Stp μ H μ' H') : RDs K μ' H' ds vs := RDs.stp r s ds vs h
theorem RKs.step {ks : List (Key × D)} {ws : List (Key × V)} (h : RKs K μ H ks ws) (r : Rel K μ S H) (s : Stp μ H μ' H') : RKs K μ' H' ks ws := by
  unfold RKs at *
  exact Paired.mapP h fun p q z => ⟨z.1, z.2.step r s⟩
theorem RDs.length : ∀ {ds : List D} {vs : List V}, RDs K μ H ds vs → ds.length = vs.length
  | [], _, h => by cases h; rfl
  | d :: ds, _, h => by
    cases h with
    | cons h1 h2 => simp [RDs.length h2]
theorem RDs.get : ∀ {ds : List D} {vs : List V} {i : Nat} {d : D}, RDs K μ H ds vs → ds[i]? = some d → ∃ v, vs[i]? = some v ∧ RD K μ H d v
  | [], _, _, _, _, e => by simp at e
  | d :: ds, _, i, x, h, e => by
    cases h with
    | cons h1 h2 =>
      cases i with
      | zero => simp at e; subst e; exact ⟨_, by simp, h1⟩
      | succ i => simp at e; obtain ⟨v, q1, q2⟩ := RDs.get h2 e; exact ⟨v, by simpa using q1, q2⟩
theorem RDs.getv : ∀ {ds : List D} {vs : List V} {i : Nat} {v : V}, RDs K μ H ds vs → vs[i]? = some v → ∃ d, ds[i]? = some d ∧ RD K μ H d v
  | [], _, i, _, h, e => by cases h; simp at e
  | d :: ds, _, i, x, h, e => by
    cases h with
    | cons h1 h2 =>
      cases i with
      | zero => simp at e; subst e; exact ⟨_, by simp, h1⟩
      | succ i => simp at e; obtain ⟨v, q1, q2⟩ := RDs.getv h2 e; exact ⟨v, by simpa using q1, q2⟩
theorem RDs.append : ∀ {ds es : List D} {vs ws : List V}, RDs K μ H ds vs → RDs K μ H es ws → RDs K μ H (ds ++ es) (vs ++ ws)
  | [], _, _, _, h, g => by cases h; exact g
  | d :: ds, _, _, _, h, g => by
    cases h with
    | cons h1 h2 => exact .cons h1 (RDs.append h2 g)
theorem RDs.take : ∀ {ds : List D} {vs : List V} (n : Nat), RDs K μ H ds vs → RDs K μ H (ds.take n) (vs.take n)
  | [], _, n, h => by cases h; simp; exact .nil
  | d :: ds, _, n, h => by
    cases h with
    | cons h1 h2 =>
      cases n with
      | zero => simp; exact .nil
      | succ n => simp only [List.take_succ_cons]; exact .cons h1 (RDs.take n h2)
theorem RDs.drop : ∀ {ds : List D} {vs : List V} (n : Nat), RDs K μ H ds vs → RDs K μ H (ds.drop n) (vs.drop n)
  | [], _, n, h => by cases h; simp; exact .nil
  | d :: ds, _, n, h => by
    cases h with
    | cons h1 h2 =>
      cases n with
      | zero => simp; exact .cons h1 h2
      | succ n => simp only [List.drop_succ_cons]; exact RDs.drop n h2
theorem RDs.reverse : ∀ {ds : List D} {vs : List V}, RDs K μ H ds vs → RDs K μ H ds.reverse vs.reverse
  | [], _, h => by cases h; exact .nil
  | d :: ds, _, h => by
    cases h with
    | cons h1 h2 => simp only [List.reverse_cons]; exact (RDs.reverse h2).append (.cons h1 .nil)
theorem RDs.set : ∀ {ds : List D} {vs : List V} (i : Nat) {d : D} {v : V}, RDs K μ H ds vs → RD K μ H d v → RDs K μ H (ds.set i d) (vs.set i v)
  | [], _, i, _, _, h, _ => by cases h; exact .nil
  | d :: ds, _, i, x, y, h, g => by
    cases h with
    | cons h1 h2 =>
      cases i with
      | zero => simp; exact .cons g h2
      | succ i => simp only [List.set_cons_succ]; exact .cons h1 (RDs.set i h2 g)
theorem RDs.eraseIdx : ∀ {ds : List D} {vs : List V} (i : Nat), RDs K μ H ds vs → RDs K μ H (ds.eraseIdx i) (vs.eraseIdx i)
  | [], _, i, h => by cases h; simp; exact .nil
  | d :: ds, _, i, h => by
    cases h with
    | cons h1 h2 =>
      cases i with
      | zero => simp; exact h2
      | succ i => simp only [List.eraseIdx_cons_succ]; exact .cons h1 (RDs.eraseIdx i h2)
theorem RDs.dropLast {ds : List D} {vs : List V} (h : RDs K μ H ds vs) : RDs K μ H ds.dropLast vs.dropLast := by
  rw [List.dropLast_eq_take, List.dropLast_eq_take, h.length]; exact h.take _
theorem RDs.ints : ∀ {ns : List Int} {vs : List V}, RDs K μ H (ns.map D.int) vs → vs = ns.map V.int
  | [], _, h => by cases h; rfl
  | n :: ns, _, h => by
    cases h with
    | cons h1 h2 => cases h1; simp [RDs.ints h2]
theorem RDs.of_ints : ∀ (ns : List Int), RDs K μ H (ns.map D.int) (ns.map V.int)
  | [] => .nil
  | n :: ns => .cons (.int n) (RDs.of_ints ns)
theorem RDs.strs : ∀ {ns : List Str} {vs : List V}, RDs K μ H (ns.map D.str) vs → vs = ns.map V.str
  | [], _, h => by cases h; rfl
  | n :: ns, _, h => by
    cases h with
    | cons h1 h2 => cases h1; simp [RDs.strs h2]
theorem RDs.of_strs : ∀ (ns : List Str), RDs K μ H (ns.map D.str) (ns.map V.str)
  | [] => .nil
  | n :: ns => .cons (.str n) (RDs.of_strs ns)
theorem RDs.bls : ∀ {ns : List Bool} {vs : List V}, RDs K μ H (ns.map D.bl) vs → vs = ns.map V.bl
  | [], _, h => by cases h; rfl
  | n :: ns, _, h => by
    cases h with
    | cons h1 h2 => cases h1; simp [RDs.bls h2]
/-- objects untouched keep what they are -/
theorem RM.step {a : Addr} {m : MO} (h : RM K μ H a m) (e : H' a = H a) (r : Rel K μ S H) (s : Stp μ H μ' H') : RM K μ' H' a m := by
  cases m with
  | lst ds => obtain ⟨vs, q, z⟩ := h; exact ⟨vs, e.trans q, z.step r s⟩
  | dct kvs => obtain ⟨ws, q, z⟩ := h; exact ⟨ws, e.trans q, z.step r s⟩
/-- a heap that grows by a new object -/
theorem Rel.new {p : Addr} {o : HO} (r : Rel K μ S H) (h : H p = none) : Rel K μ S (upd H p o) := by
  refine ⟨r.len, r.nd, fun i a m h1 h2 => (r.obj i a m h1 h2).step (upd_ne fun z => ?_) r (Stp.new h), fun a ha => (Stp.new (μ := μ) h).thr a (r.hid a ha), r.apt⟩
  subst z
  exact r.there (List.mem_of_getElem? h1) h
/-- the i-th object changes -/
theorem Rel.put {i : Nat} {p : Addr} {o : HO} {m : MO} (r : Rel K μ S H) (h : μ.v[i]? = some p) (hm : RM K μ (upd H p o) p m) : Rel K μ (S.set i m) (upd H p o) := by
  have hp : p ∈ μ.v := List.mem_of_getElem? h
  refine ⟨by rw [List.length_set]; exact r.len, r.nd, fun j a n h1 h2 => ?_, fun a ha => (Stp.put (μ := μ) hp).thr a (r.hid a ha), r.apt⟩
  by_cases hij : i = j
  · subst hij
    rw [h] at h1; cases h1
    have hl := (List.getElem?_eq_some_iff.mp h).1
    rw [r.len] at hl
    rw [List.getElem?_set_self hl] at h2
    cases h2
    exact hm
  · rw [List.getElem?_set_ne hij] at h2
    refine (r.obj j a n h1 h2).step (upd_ne fun z => hij ?_) r (Stp.put hp)
    subst z
    obtain ⟨l1, e1⟩ := List.getElem?_eq_some_iff.mp h
    obtain ⟨l2, e2⟩ := List.getElem?_eq_some_iff.mp h1
    exact (List.getElem_inj r.nd).mp (e1.trans e2.symm)
/-- a new object is taken into the store -/
theorem Rel.alloc {p : Addr} {o : HO} {m : MO} (r : Rel K μ S H) (h : H p = none) (hm : RM K (μ.push p) (upd H p o) p m) : Rel K (μ.push p) (S ++ [m]) (upd H p o) := by
  have hp : p ∉ μ.v := fun z => r.there z h
  refine ⟨by simp [r.len, Mu.push], ?_, fun i a n h1 h2 => ?_, fun a ha => (Stp.alloc (μ := μ) h).thr a (r.hid a ha), fun a ha hx => ?_⟩
  · unfold Mu.push
    rw [List.nodup_append]
    refine ⟨r.nd, by simp, fun a ha b hb => ?_⟩
    simp at hb; subst hb
    exact fun z => hp (by rw [← z]; exact ha)
  · unfold Mu.push at h1
    by_cases hi : i < μ.v.length
    · rw [List.getElem?_append_left hi] at h1
      rw [List.getElem?_append_left (by rw [← r.len]; exact hi)] at h2
      exact (r.obj i a n h1 h2).step (upd_ne fun z => hp (by rw [← z]; exact List.mem_of_getElem? h1)) r (Stp.alloc h)
    · have hi' : i = μ.v.length := by
        have := (List.getElem?_eq_some_iff.mp h1).1
        simp at this; omega
      subst hi'
      rw [List.getElem?_append_right (Nat.le_refl _)] at h1
      rw [r.len, List.getElem?_append_right (Nat.le_refl _)] at h2
      simp at h1 h2
      subst h1 h2
      exact hm
  · rcases List.mem_append.mp (show a ∈ μ.v ++ [p] from ha) with q | q
    · exact r.apt a q hx
    · simp at q; subst q; exact r.hid a hx h

/-! the store cut back at a def's end -/
mutual
def D.lo (n : Nat) : D → Bool
  | .ref k => decide (k < n)
  | .tup xs => D.los n xs
  | .lst xs => D.los n xs
  | .fl xs => D.los n xs
  | _ => true
def D.los (n : Nat) : List D → Bool
  | [] => true
  | x :: xs => D.lo n x && D.los n xs
end
def loK (n : Nat) : List (Key × D) → Bool
  | [] => true
  | x :: xs => D.lo n x.2 && loK n xs
def MO.lo (n : Nat) : MO → Bool
  | .lst xs => D.los n xs
  | .dct ks => loK n ks
mutual
theorem RD.cut {n : Nat} : ∀ (d : D) (v : V), RD K μ H d v → d.lo n = true → RD K (μ.cut n) H d v
  | .non, _, h, _ => by cases h; exact .non
  | .bl _, _, h, _ => by cases h; exact .bl _
  | .int _, _, h, _ => by cases h; exact .int _
  | .str _, _, h, _ => by cases h; exact .str _
  | .fn _, _, h, _ => by cases h with | fn q => exact .fn q
  | .tup ds, _, h, b => by
    cases h with
    | tup h1 h2 => exact .tup h1 (RDs.cut ds _ h2 (by simpa [D.lo] using b))
  | .fl ds, _, h, b => by
    cases h with
    | fl h1 h2 => exact .fl h1 (RDs.cut ds _ h2 (by simpa [D.lo] using b))
  | .lst ds, _, h, b => by
    cases h with
    | lst h1 h0 h2 => exact .lst h1 ⟨fun z => h0.1 (List.mem_of_mem_take z), h0.2⟩ (RDs.cut ds _ h2 (by simpa [D.lo] using b))
  | .ref k, _, h, b => by
    cases h with
    | ref h1 => exact .ref (by unfold Mu.cut; rw [List.getElem?_take_of_lt (by simpa [D.lo] using b)]; exact h1)
theorem RDs.cut {n : Nat} : ∀ (ds : List D) (vs : List V), RDs K μ H ds vs → D.los n ds = true → RDs K (μ.cut n) H ds vs
  | [], _, h, _ => by cases h; exact .nil
  | d :: ds, _, h, b => by
    have b' : d.lo n = true ∧ D.los n ds = true := by simpa [D.los] using b
    cases h with
    | cons h1 h2 => exact .cons (RD.cut d _ h1 b'.1) (RDs.cut ds _ h2 b'.2)
end
theorem RKs.cut {n : Nat} : ∀ {ks : List (Key × D)} {ws : List (Key × V)}, RKs K μ H ks ws → loK n ks = true → RKs K (μ.cut n) H ks ws
  | [], _, h, _ => by unfold RKs at *; cases h; exact .nil
  | k :: ks, _, h, b => by
    have b' : k.2.lo n = true ∧ loK n ks = true := by simpa [loK] using b
    unfold RKs at *
    cases h with
    | cons h1 h2 => exact .cons ⟨h1.1, RD.cut _ _ h1.2 b'.1⟩ (RKs.cut h2 b'.2)
theorem RM.cut {n : Nat} {a : Addr} {m : MO} (h : RM K μ H a m) (b : m.lo n = true) : RM K (μ.cut n) H a m := by
  cases m with
  | lst ds => obtain ⟨vs, q, z⟩ := h; exact ⟨vs, q, z.cut _ _ b⟩
  | dct kvs => obtain ⟨ws, q, z⟩ := h; exact ⟨ws, q, RKs.cut z b⟩
theorem Rel.cut {n : Nat} (r : Rel K μ S H) (b : (S.take n).all (MO.lo n) = true) : Rel K (μ.cut n) (S.take n) H := by
  refine ⟨by simp [r.len, Mu.cut], r.nd.sublist (List.take_sublist _ _), fun i a m h1 h2 => ?_, r.hid, fun a ha => r.apt a (List.mem_of_mem_take ha)⟩
  unfold Mu.cut at h1
  have hb : m.lo n = true := List.all_eq_true.mp b m (List.mem_of_getElem? h2)
  have hi : i < n := by
    have := (List.getElem?_eq_some_iff.mp h1).1
    simp at this; omega
  rw [List.getElem?_take_of_lt hi] at h1 h2
  exact (r.obj i a m h1 h2).cut hb
/-- a list that leaves the store -/
theorem RD.freed {n k : Nat} {ds : List D} {v : V} (r : Rel K μ S H) (h : RD K μ H (.ref k) v) (hk : n ≤ k) (e : S[k]? = some (.lst ds)) (b : D.los n ds = true) : RD K (μ.cut n) H (.lst ds) v := by
  cases h with
  | @ref _ a h1 =>
    obtain ⟨vs, q, z⟩ := r.obj k a _ h1 e
    refine .lst q ⟨fun hm => ?_, r.apt a (List.mem_of_getElem? h1)⟩ (z.cut _ _ b)
    unfold Mu.cut at hm
    obtain ⟨j, hj⟩ := List.mem_iff_getElem?.mp hm
    have hjn : j < n := by
      have := (List.getElem?_eq_some_iff.mp hj).1
      simp at this; omega
    rw [List.getElem?_take_of_lt hjn] at hj
    obtain ⟨l1, e1⟩ := List.getElem?_eq_some_iff.mp hj
    obtain ⟨l2, e2⟩ := List.getElem?_eq_some_iff.mp h1
    have := (List.getElem_inj r.nd).mp (e1.trans e2.symm)
    omega
theorem Stp.cut (s : Stp μ H μ' H') : Stp μ H (μ'.cut μ.v.length) H' := by
  obtain ⟨⟨ν, rfl, f⟩, k, t⟩ := s
  refine ⟨⟨[], by simp [Mu.cut], by simp⟩, k, t⟩
end

/-! ### a list in the making -/
section
variable {K : PySem.W.Frag} {μ : Mu} {S : Sto} {H : Hp}
def Mu.hide (μ : Mu) (p : Addr) : Mu := ⟨μ.v, p :: μ.x⟩
mutual
theorem RD.hide {p : Addr} {o : HO} (hp : H p = none) : ∀ (d : D) (v : V), RD K μ H d v → RD K (μ.hide p) (upd H p o) d v
  | .non, _, h => by cases h; exact .non
  | .bl _, _, h => by cases h; exact .bl _
  | .int _, _, h => by cases h; exact .int _
  | .str _, _, h => by cases h; exact .str _
  | .fn _, _, h => by cases h with | fn q => exact .fn q
  | .tup ds, _, h => by
    cases h with
    | tup h1 h2 =>
      refine .tup ?_ (RDs.hide hp ds _ h2)
      rcases h1 with (h1 | ⟨o, h1⟩) | h1
      · exact .inl (.inl (by rw [upd_ne (ne_of_none h1 hp)]; exact h1))
      · exact .inl (.inr ⟨o, by rw [upd_ne (ne_of_none h1 hp)]; exact h1⟩)
      · exact .inr h1
  | .fl ds, _, h => by
    cases h with
    | fl h1 h2 =>
      refine .fl ?_ (RDs.hide hp ds _ h2)
      rcases h1 with ⟨o, h1⟩ | h1
      · exact .inl ⟨o, by rw [upd_ne (ne_of_none h1 hp)]; exact h1⟩
      · exact .inr h1
  | .lst ds, _, h => by
    cases h with
    | lst h1 h0 h2 =>
      have ne := ne_of_none h1 hp
      refine .lst (by rw [upd_ne ne]; exact h1) ⟨h0.1, fun z => ?_⟩ (RDs.hide hp ds _ h2)
      rcases List.mem_cons.mp z with z | z
      · exact ne z
      · exact h0.2 z
  | .ref n, _, h => by
    cases h with
    | ref h1 => exact .ref h1
theorem RDs.hide {p : Addr} {o : HO} (hp : H p = none) : ∀ (ds : List D) (vs : List V), RDs K μ H ds vs → RDs K (μ.hide p) (upd H p o) ds vs
  | [], _, h => by cases h; exact .nil
  | d :: ds, _, h => by
    cases h with
    | cons h1 h2 => exact .cons (RD.hide hp d _ h1) (RDs.hide hp ds _ h2)
end
mutual
/-- the hidden list changes: nobody sees it -/
theorem RD.seen {p : Addr} {xs ys : List V} (hp : H p = some (.lst xs)) : ∀ (d : D) (v : V), RD K (μ.hide p) H d v → RD K (μ.hide p) (upd H p (.lst ys)) d v
  | .non, _, h => by cases h; exact .non
  | .bl _, _, h => by cases h; exact .bl _
  | .int _, _, h => by cases h; exact .int _
  | .str _, _, h => by cases h; exact .str _
  | .fn _, _, h => by cases h with | fn q => exact .fn q
  | .tup ds, _, h => by
    cases h with
    | tup h1 h2 =>
      refine .tup ?_ (RDs.seen hp ds _ h2)
      rcases h1 with (h1 | ⟨o, h1⟩) | h1
      · exact .inl (.inl (by rw [upd_ne (ne_of h1 hp (fun z => nomatch z))]; exact h1))
      · exact .inl (.inr ⟨o, by rw [upd_ne (ne_of h1 hp (fun z => nomatch z))]; exact h1⟩)
      · exact .inr h1
  | .fl ds, _, h => by
    cases h with
    | fl h1 h2 =>
      refine .fl ?_ (RDs.seen hp ds _ h2)
      rcases h1 with ⟨o, h1⟩ | h1
      · exact .inl ⟨o, by rw [upd_ne (ne_of h1 hp (fun z => nomatch z))]; exact h1⟩
      · exact .inr h1
  | .lst ds, _, h => by
    cases h with
    | lst h1 h0 h2 =>
      refine .lst (by rw [upd_ne (fun z => h0.2 (by rw [z]; exact List.mem_cons_self))]; exact h1) h0 (RDs.seen hp ds _ h2)
  | .ref n, _, h => by
    cases h with
    | ref h1 => exact .ref h1
theorem RDs.seen {p : Addr} {xs ys : List V} (hp : H p = some (.lst xs)) : ∀ (ds : List D) (vs : List V), RDs K (μ.hide p) H ds vs → RDs K (μ.hide p) (upd H p (.lst ys)) ds vs
  | [], _, h => by cases h; exact .nil
  | d :: ds, _, h => by
    cases h with
    | cons h1 h2 => exact .cons (RD.seen hp d _ h1) (RDs.seen hp ds _ h2)
end
mutual
theorem RD.show {p : Addr} : ∀ (d : D) (v : V), RD K (μ.hide p) H d v → RD K μ H d v
  | .non, _, h => by cases h; exact .non
  | .bl _, _, h => by cases h; exact .bl _
  | .int _, _, h => by cases h; exact .int _
  | .str _, _, h => by cases h; exact .str _
  | .fn _, _, h => by cases h with | fn q => exact .fn q
  | .tup ds, _, h => by cases h with | tup h1 h2 => exact .tup h1 (RDs.show ds _ h2)
  | .fl ds, _, h => by cases h with | fl h1 h2 => exact .fl h1 (RDs.show ds _ h2)
  | .lst ds, _, h => by cases h with | lst h1 h0 h2 => exact .lst h1 ⟨h0.1, fun z => h0.2 (List.mem_cons_of_mem _ z)⟩ (RDs.show ds _ h2)
  | .ref n, _, h => by cases h with | ref h1 => exact .ref h1
theorem RDs.show {p : Addr} : ∀ (ds : List D) (vs : List V), RDs K (μ.hide p) H ds vs → RDs K μ H ds vs
  | [], _, h => by cases h; exact .nil
  | d :: ds, _, h => by
    cases h with
    | cons h1 h2 => exact .cons (RD.show d _ h1) (RDs.show ds _ h2)
end
theorem RM.map {μ' : Mu} {H' : Hp} {a : Addr} {m : MO} (h : RM K μ H a m) (e : H' a = H a) (f : ∀ d v, RD K μ H d v → RD K μ' H' d v) (fs : ∀ d v, RDs K μ H d v → RDs K μ' H' d v) : RM K μ' H' a m := by
  cases m with
  | lst ds => obtain ⟨vs, q, z⟩ := h; exact ⟨vs, e.trans q, fs _ _ z⟩
  | dct kvs => obtain ⟨ws, q, z⟩ := h; exact ⟨ws, e.trans q, Paired.mapP z fun p q z => ⟨z.1, f _ _ z.2⟩⟩
theorem Rel.hide {p : Addr} {o : HO} (r : Rel K μ S H) (hp : H p = none) : Rel K (μ.hide p) S (upd H p o) := by
  refine ⟨r.len, r.nd, fun i a m h1 h2 => (r.obj i a m h1 h2).map (upd_ne fun z => ?_) (RD.hide hp) (RDs.hide hp), fun a ha => ?_, fun a ha hx => ?_⟩
  · subst z; exact r.there (List.mem_of_getElem? h1) hp
  · rcases List.mem_cons.mp ha with z | z
    · rw [z, upd_same]; simp
    · exact (Stp.new (μ := μ) hp).thr a (r.hid a z)
  · rcases List.mem_cons.mp hx with z | z
    · subst z; exact r.there ha hp
    · exact r.apt a ha z
theorem Rel.seen {p : Addr} {xs ys : List V} (r : Rel K (μ.hide p) S H) (hp : H p = some (.lst xs)) : Rel K (μ.hide p) S (upd H p (.lst ys)) := by
  refine ⟨r.len, r.nd, fun i a m h1 h2 => (r.obj i a m h1 h2).map (upd_ne fun z => ?_) (RD.seen hp) (RDs.seen hp), fun a ha => ?_, r.apt⟩
  · exact r.apt a (List.mem_of_getElem? h1) (by rw [z]; exact List.mem_cons_self)
  · by_cases z : a = p
    · rw [z, upd_same]; simp
    · rw [upd_ne z]; exact r.hid a ha
theorem Rel.show {p : Addr} (r : Rel K (μ.hide p) S H) : Rel K μ S H :=
  ⟨r.len, r.nd, fun i a m h1 h2 => (r.obj i a m h1 h2).map rfl RD.show RDs.show, fun a ha => r.hid a (List.mem_cons_of_mem _ ha), fun a ha hx => r.apt a ha (List.mem_cons_of_mem _ hx)⟩
/-- a step beside the hidden list is a step -/
theorem Stp.show {μ' : Mu} {p : Addr} {H' : Hp} (s : Stp (μ.hide p) H μ' H') : ∃ μ1, μ' = μ1.hide p ∧ Stp μ H μ1 H' := by
  obtain ⟨⟨ν, rfl, f⟩, k, t⟩ := s
  exact ⟨⟨μ.v ++ ν, μ.x⟩, rfl, ⟨ν, rfl, f⟩, k, t⟩
end

/-! ### slots -/
structure RE (K : PySem.W.Frag) (μ : Mu) (H : Hp) (σ : L2.St) (ρ : Rho) : Prop where
  len : σ.length = ρ.length
  val : ∀ (i : Nat) (d : D), ρ[i]? = some (some d) → ∃ v, σ[i]? = some (some v) ∧ RD K μ H d v
section
variable {K : PySem.W.Frag} {μ μ' : Mu} {S : Sto} {H H' : Hp} {σ : L2.St} {ρ : Rho}
theorem RE.step (h : RE K μ H σ ρ) (r : Rel K μ S H) (s : Stp μ H μ' H') : RE K μ' H' σ ρ := ⟨h.len, fun i d e => by
  obtain ⟨v, e1, z⟩ := h.val i d e
  exact ⟨v, e1, z.step r s⟩⟩
theorem RE.set {d : D} {v : V} (h : RE K μ H σ ρ) (z : RD K μ H d v) (i : Nat) : RE K μ H (σ.set i (some v)) (ρ.set i (some d)) := by
  refine ⟨by simp [h.len], fun j e q => ?_⟩
  by_cases hij : i = j
  · subst hij
    by_cases hl : i < ρ.length
    · rw [List.getElem?_set_self hl] at q
      cases q
      exact ⟨v, List.getElem?_set_self (by rw [h.len]; exact hl), z⟩
    · rw [List.getElem?_eq_none (by simpa using hl)] at q; cases q
  · rw [List.getElem?_set_ne hij] at q ⊢
    exact h.val j e q
def wipeR (ρ : Rho) : List Nat → Rho
  | [] => ρ
  | v :: vs => (wipeR ρ vs).set v none
theorem RE.drop {i : Nat} (h : RE K μ H σ ρ) : RE K μ H (σ.set i none) (ρ.set i none) := by
  refine ⟨by simp [h.len], fun j e q => ?_⟩
  by_cases hij : i = j
  · subst hij
    by_cases hl : i < ρ.length
    · rw [List.getElem?_set_self hl] at q; cases q
    · rw [List.getElem?_eq_none (by simpa using hl)] at q; cases q
  · rw [List.getElem?_set_ne hij] at q ⊢
    exact h.val j e q
theorem RE.wipe (h : RE K μ H σ ρ) : ∀ vs, RE K μ H (L2.wipe σ vs) (wipeR ρ vs)
  | [] => h
  | v :: vs => by unfold L2.wipe wipeR; exact (RE.wipe h vs).drop
end

theorem RE.mapR {K : PySem.W.Frag} {μ μ' : Mu} {H H' : Hp} {σ : L2.St} {ρ : Rho} (h : RE K μ H σ ρ) (f : ∀ d v, RD K μ H d v → RD K μ' H' d v) : RE K μ' H' σ ρ := ⟨h.len, fun i d e => by
  obtain ⟨v, e1, z⟩ := h.val i d e
  exact ⟨v, e1, f _ _ z⟩⟩

/-! ### what is wanted of a result -/
section
variable (K : PySem.W.Frag) (mg : Str → Option Value) (W : WX)
def Post {α : Type} (μ : Mu) (σ : L2.St) (H : Hp) (r : R α) (Q : α → Mu → Hp → Prop) : Prop := match r with
  | .ok a S' => ∀ μ' H', Stp μ H μ' H' → Rel K μ' S' H' → Q a μ' H'
  | .ex e S' => ∀ μ' H' c od, Stp μ H μ' H' → Rel K μ' S' H' → RX K mg μ' H' e c od → W c od σ H'
  | .bad => False
abbrev EvD := Rho → M D
abbrev EvB := Rho → M Bool
abbrev EvL := Rho → M (List D)
def QD (Q : VK) : D → Mu → Hp → Prop := fun d μ' H' => ∀ v, RD K μ' H' d v → Q v H'
def tD (F : EvD) : TE := fun σ H Q => ∃ ρ S μ, RE K μ H σ ρ ∧ Rel K μ S H ∧ Post K mg W μ σ H (F ρ S) (QD K Q)
def tT (F : EvB) : TT := fun σ H Q => ∃ ρ S μ, RE K μ H σ ρ ∧ Rel K μ S H ∧ Post K mg W μ σ H (F ρ S) (fun b _ H' => Q b H')
def tA (F : EvL) : TA := fun σ H Q => ∃ ρ S μ, RE K μ H σ ρ ∧ Rel K μ S H ∧ Post K mg W μ σ H (F ρ S) (fun ds μ' H' => ∀ vs, RDs K μ' H' ds vs → Q vs H')
end
section
variable {K : PySem.W.Frag} {mg : Str → Option Value} {W : WX} {μ μ1 : Mu} {σ : L2.St} {H H1 : Hp} {α β : Type}
theorem Post.mono {r : R α} {Q : α → Mu → Hp → Prop} (h : Post K mg W μ σ H r Q) (s : Stp μ H μ1 H1) : Post K mg W μ1 σ H1 r Q := by
  cases r with
  | ok a S => exact fun μ' H' q => h μ' H' (s.trans q)
  | ex e S => exact fun μ' H' c od q => h μ' H' c od (s.trans q)
  | bad => exact h
theorem Post.imp {r : R α} {Q Q' : α → Mu → Hp → Prop} (h : Post K mg W μ σ H r Q) (f : ∀ a S' μ' H', r = .ok a S' → Stp μ H μ' H' → Rel K μ' S' H' → Q a μ' H' → Q' a μ' H') : Post K mg W μ σ H r Q' := by
  cases r with
  | ok a S => exact fun μ' H' s q => f a S μ' H' rfl s q (h μ' H' s q)
  | ex e S => exact h
  | bad => exact h
theorem Post.bnd {m : M α} {k : α → M β} {S : Sto} {Q : β → Mu → Hp → Prop} {Q1 : α → Mu → Hp → Prop} (h : Post K mg W μ σ H (bnd m k S) Q)
    (f : ∀ a S1 μ1 H1, Stp μ H μ1 H1 → Rel K μ1 S1 H1 → Post K mg W μ1 σ H1 (k a S1) Q → Q1 a μ1 H1) : Post K mg W μ σ H (m S) Q1 := by
  unfold DL.bnd at h
  cases e : m S with
  | ok a S1 =>
    rw [e] at h
    intro μ' H' s r
    exact f a S1 μ' H' s r (Post.mono h s)
  | ex x S1 => rw [e] at h; exact h
  | bad => rw [e] at h; exact h
/-- a result that is there -/
theorem Post.now {a : α} {S : Sto} {Q : α → Mu → Hp → Prop} (h : Post K mg W μ σ H (.ok a S) Q) (r : Rel K μ S H) : Q a μ H := h μ H .refl r
end
theorem PE.imp {X : Cx} {e : Expr} {t t' : TE} (h : PE X e t) (f : ∀ σ H Q, t' σ H Q → t σ H Q) : PE X e t' := ⟨fun pins s σ H Q I q => h.run pins s σ H Q I (f σ H Q q)⟩
theorem PT.imp {X : Cx} {e : Expr} {t t' : TT} (h : PT X e t) (f : ∀ σ H Q, t' σ H Q → t σ H Q) : PT X e t' := ⟨fun pins s σ H Q I q => h.run pins s σ H Q I (f σ H Q q)⟩
theorem PW.imp {X : Cx} {e : Expr} {t t' : TT} (h : PW X e t) (f : ∀ σ H Q, t' σ H Q → t σ H Q) : PW X e t' := ⟨fun w pins s σ H Q I q => h.run w pins s σ H Q I (f σ H Q q)⟩
theorem PA.imp {X : Cx} {e : List Expr} {t t' : TA} (h : PA X e t) (f : ∀ σ H Q, t' σ H Q → t σ H Q) : PA X e t' := ⟨fun p pins s σ H Q I q => h.run p pins s σ H Q I (f σ H Q q)⟩
theorem PS.imp {X : Cx} {e : Stmt} {t t' : TS} (h : PS X e t) (f : ∀ D σ H, t' D σ H → t D σ H) : PS X e t' := ⟨fun pins s σ H D I q => h.run pins s σ H D I (f D σ H q)⟩
theorem PSs.imp {X : Cx} {e : List Stmt} {t t' : TS} (h : PSs X e t) (f : ∀ D σ H, t' D σ H → t D σ H) : PSs X e t' := ⟨fun pins s σ H D I q => h.run pins s σ H D I (f D σ H q)⟩
end DL

/-! DL2: expressions. -/
namespace DL
open PySem L2

/-! ### readers -/
def atL (S : Sto) (n : Nat) : Option (List D) := match S[n]? with
  | some (.lst ds) => some ds
  | _ => none
theorem atL_ok {S : Sto} {n : Nat} {ds : List D} (h : atL S n = some ds) : S[n]? = some (.lst ds) := by
  unfold atL at h
  split at h
  · rename_i hs; cases h; exact hs
  · cases h
def iLst (S : Sto) : D → Option (List D)
  | .tup ds => some ds
  | .lst ds => some ds
  | .fl ds => some ds
  | .ref n => atL S n
  | _ => none
/-- a list that the heap tracks as one -/
def iTrk (S : Sto) : D → Option (List D)
  | .lst ds => some ds
  | .ref n => atL S n
  | _ => none
/-- a list, not a tuple -/
def iSeq (S : Sto) : D → Option (List D)
  | .lst ds => some ds
  | .fl ds => some ds
  | .ref n => atL S n
  | _ => none
section
variable {K : PySem.W.Frag} {μ μ' : Mu} {S : Sto} {H H' : Hp}
theorem iTrk_ok {d : D} {ds : List D} {v : V} (e : iTrk S d = some ds) (r : Rel K μ S H) (h : RD K μ H d v) : ∃ a vs, v = .ref a ∧ H a = some (.lst vs) ∧ RDs K μ H ds vs := by
  cases h with
  | lst h1 h0 h2 => cases e; exact ⟨_, _, rfl, h1, h2⟩
  | @ref n a h1 =>
    obtain ⟨vs, q, z⟩ := r.obj n a _ h1 (atL_ok (show atL S n = some ds from e))
    exact ⟨a, vs, rfl, q, z⟩
  | _ => cases e
theorem iSeq_ok {d : D} {ds : List D} {v : V} (e : iSeq S d = some ds) (r : Rel K μ S H) (h : RD K μ H d v) : ∃ a vs, v = .ref a ∧ SqL K H a vs ∧ RDs K μ H ds vs := by
  cases h with
  | lst h1 h0 h2 => cases e; exact ⟨_, _, rfl, (.inl (.inl h1)), h2⟩
  | fl h1 h2 =>
    cases e
    rcases h1 with ⟨o, h1⟩ | h1
    · exact ⟨_, _, rfl, (.inl (.inr ⟨o, h1⟩)), h2⟩
    · exact ⟨_, _, rfl, (.inr h1), h2⟩
  | @ref n a h1 =>
    obtain ⟨vs, q, z⟩ := r.obj n a _ h1 (atL_ok (show atL S n = some ds from e))
    exact ⟨a, vs, rfl, .inl (.inl q), z⟩
  | _ => cases e
theorem iLst_ok {d : D} {ds : List D} {v : V} (e : iLst S d = some ds) (r : Rel K μ S H) (h : RD K μ H d v) : ∃ a vs, v = .ref a ∧ (SqL K H a vs ∨ SqT K H a vs) ∧ RDs K μ H ds vs := by
  cases d with
  | tup ds' => cases h with | tup h1 h2 => cases e; exact ⟨_, _, rfl, .inr h1, h2⟩
  | lst ds' => obtain ⟨a, vs, q1, q2, q3⟩ := iSeq_ok (d := .lst ds') e r h; exact ⟨a, vs, q1, .inl q2, q3⟩
  | fl ds' => obtain ⟨a, vs, q1, q2, q3⟩ := iSeq_ok (d := .fl ds') e r h; exact ⟨a, vs, q1, .inl q2, q3⟩
  | ref n => obtain ⟨a, vs, q1, q2, q3⟩ := iSeq_ok (d := .ref n) e r h; exact ⟨a, vs, q1, .inl q2, q3⟩
  | _ => cases e
end

/-! ### names, constants -/
def eVar (i : Nat) : EvD := fun ρ S => match ρ[i]? with
  | some (some d) => .ok d S
  | _ => .bad
def eC (d : D) : EvD := fun _ S => .ok d S
def eBin (g : D → D → M D) (a b : EvD) : EvD := fun ρ => bnd (a ρ) fun x => bnd (b ρ) fun y => g x y
def eUn (g : D → M D) (a : EvD) : EvD := fun ρ => bnd (a ρ) g
section
variable {X : Cx} {W : WX} {pos : Pos}
theorem d_var (i : Nat) {x : Str} (hN : X.N[i]? = some x := by rfl) (hv : Vis X.env.scope x := by first | exact Or.inl rfl | exact Or.inr (Or.inl rfl) | exact Or.inr (Or.inr rfl)) (hd : (x == ("__debug__" : Str)) = false := by decide)
    (hcd : (x == ("__classdict__" : Str)) = false := by decide) : PE X (.Name x pos) (tD X.K X.mg W (eVar i)) := by
  refine PE.imp (pe_var hN hv hd hcd) fun σ H Q ⟨ρ, S, μ, e, s, h⟩ => ?_
  unfold eVar at h
  split at h
  · rename_i d hd
    obtain ⟨v, e1, z⟩ := e.val i d hd
    exact ⟨v, e1, h.now s v z⟩
  · exact h.elim
theorem d_const {e : Expr} {d : D} {v : V} (h : PE X e (tC v)) (hd : ∀ μ H, RD X.K μ H d v) : PE X e (tD X.K X.mg W (eC d)) :=
  PE.imp h fun σ H Q ⟨ρ, S, μ, e, s, h⟩ => h.now s v (hd μ H)
theorem d_int {i j} : PE X (.Constant (.int i) j pos) (tD X.K X.mg W (eC (.int i))) := d_const pe_int fun _ _ => .int i
theorem d_bl {i j} : PE X (.Constant (.bool i) j pos) (tD X.K X.mg W (eC (.bl i))) := d_const pe_bl fun _ _ => .bl i
theorem d_str {i j} : PE X (.Constant (.str i) j pos) (tD X.K X.mg W (eC (.str i))) := d_const pe_str fun _ _ => .str i
theorem d_non {j} : PE X (.Constant .none j pos) (tD X.K X.mg W (eC .non)) := d_const pe_non fun _ _ => .non
theorem d_glob {x : Str} {d : D} {v : V} {u : Value} (hg : Gl X x) (hm : X.mg x = some u) (r : RelV v u) (hd : ∀ μ H, RD X.K μ H d v) (hdb : (x == ("__debug__" : Str)) = false := by decide) : PE X (.Name x pos) (tD X.K X.mg W (eC d)) :=
  d_const (pe_glob hg hm r hdb) hd

/-! ### operations -/
def ORD (X : Cx) (W : WX) (f : Value → Value → Sem Value) (g : D → D → M D) : Prop := ∃ r : R2, OpR X f r ∧
  ∀ x y v w μ S σ H Q, Rel X.K μ S H → RD X.K μ H x v → RD X.K μ H y w → Post X.K X.mg W μ σ H (g x y S) (QD X.K Q) → r v w H Q
theorem bin_ok {r : R2} {g : D → D → M D} {ta tb : EvD} {σ : L2.St} {H : Hp} {Q : VK} (hr : ∀ x y v w μ S σ H Q, Rel X.K μ S H → RD X.K μ H x v → RD X.K μ H y w → Post X.K X.mg W μ σ H (g x y S) (QD X.K Q) → r v w H Q)
    (h : tD X.K X.mg W (eBin g ta tb) σ H Q) : tOp r (tD X.K X.mg W ta) (tD X.K X.mg W tb) σ H Q := by
  obtain ⟨ρ, S, μ, e, s, h⟩ := h
  refine ⟨ρ, S, μ, e, s, h.bnd fun x S1 μ1 H1 s1 r1 h1 v rv => ?_⟩
  refine ⟨ρ, S1, μ1, e.step s s1, r1, h1.bnd fun y S2 μ2 H2 s2 r2 h2 w rw => ?_⟩
  exact hr _ _ _ _ μ2 S2 σ H2 Q r2 (rv.step r1 s2) rw h2
theorem d_bin {a b : Expr} {op : Operator} {g : D → D → M D} {ta tb : EvD} (o : ORD X W (binaryOp op) g) (ha : PE X a (tD X.K X.mg W ta)) (hb : PE X b (tD X.K X.mg W tb)) : PE X (.BinOp a op b pos) (tD X.K X.mg W (eBin g ta tb)) := by
  obtain ⟨r, ho, hr⟩ := o
  exact PE.imp (pe_op ho ha hb) fun σ H Q h => bin_ok hr h
theorem d_cmp {a b : Expr} {op : CmpOp} {g : D → D → M D} {ta tb : EvD} (o : ORD X W (compareOp op) g) (ha : PE X a (tD X.K X.mg W ta)) (hb : PE X b (tD X.K X.mg W tb)) (hm : behindInMarks op b = false) : PE X (.Compare a [op] [b] pos) (tD X.K X.mg W (eBin g ta tb)) := by
  obtain ⟨r, ho, hr⟩ := o
  exact PE.imp (pe_cmpR ho ha hb hm) fun σ H Q h => bin_ok hr h
def URD (X : Cx) (W : WX) (f : Value → Sem Value) (g : D → M D) : Prop := ∃ r, UnR X f r ∧
  ∀ x v μ S σ H Q, Rel X.K μ S H → RD X.K μ H x v → Post X.K X.mg W μ σ H (g x S) (QD X.K Q) → r v H Q
theorem d_un {a : Expr} {op : UnaryOp} {g : D → M D} {ta : EvD} (o : URD X W (unaryOp op) g) (ha : PE X a (tD X.K X.mg W ta)) : PE X (.UnaryOp op a pos) (tD X.K X.mg W (eUn g ta)) := by
  obtain ⟨r, ho, hr⟩ := o
  refine PE.imp (pe_un ho ha) fun σ H Q ⟨ρ, S, μ, e, s, h⟩ => ?_
  exact ⟨ρ, S, μ, e, s, h.bnd fun x S1 μ1 H1 s1 r1 h1 v rv => hr _ _ μ1 S1 σ H1 Q r1 rv h1⟩

/-! arithmetic -/
def gAdd (x y : D) : M D := fun S => match x, y with
  | .int i, .int j => .ok (.int (i + j)) S
  | .str a, .str b => if a.length + b.length ≤ sizeLine then .ok (.str (a ++ b)) S else .bad
  | .tup a, .tup b => if a.length + b.length ≤ sizeLine then .ok (.tup (a ++ b)) S else .bad
  | x, y => match iTrk S x, iTrk S y with
    | some a, some b => if a.length + b.length ≤ sizeLine then .ok (.lst (a ++ b)) S else .bad
    | _, _ => .bad
theorem o_add : ORD X W (binaryOp .Add) gAdd := by
  refine ⟨_, op_add.or (op_add_str.or (op_catA.or op_cat)), fun x y v w μ S σ H Q r rx ry h => ?_⟩
  unfold gAdd at h
  split at h
  · cases rx; cases ry
    exact .inl ⟨_, _, rfl, rfl, h.now r _ (.int _)⟩
  · cases rx; cases ry
    split at h
    · rename_i hl
      exact .inr (.inl ⟨_, _, rfl, rfl, hl, h.now r _ (.str _)⟩)
    · exact h.elim
  · cases rx with
    | @tup a1 vs1 ds1 h1 h2 =>
      cases ry with
      | @tup a2 vs2 ds2 g1 g2 =>
        split at h
        · rename_i hl
          rw [h2.length, g2.length] at hl
          refine .inr (.inr (.inl ⟨_, _, _, _, rfl, rfl, h1, g1, hl, fun e => ?_, fun e1 e2 => ?_, fun e1 e2 p hp => ?_⟩))
          · subst e
            cases h2
            exact h.now r _ (.tup g1 g2)
          · subst e2
            cases g2
            exact h.now r _ (.tup h1 (by simpa using h2))
          · exact h μ _ (Stp.new hp) (r.new hp) _ (.tup (.inl (.inl upd_same)) ((h2.step r (Stp.new hp)).append (g2.step r (Stp.new hp))))
        · exact h.elim
  · split at h
    · rename_i a b ea eb
      split at h
      · rename_i hl
        obtain ⟨p1, v1, rfl, q1, z1⟩ := iTrk_ok ea r rx
        obtain ⟨p2, v2, rfl, q2, z2⟩ := iTrk_ok eb r ry
        rw [z1.length, z2.length] at hl
        refine .inr (.inr (.inr ⟨_, _, _, _, rfl, rfl, q1, q2, hl, fun p hp => ?_⟩))
        exact h μ _ (Stp.new hp) (r.new hp) _ (.lst upd_same ⟨fun z => r.there z hp, fun z => r.hid _ z hp⟩ ((z1.step r (Stp.new hp)).append (z2.step r (Stp.new hp))))
      · exact h.elim
    · exact h.elim
def gI (C : Int → Int → Bool) (f : Int → Int → Int) (x y : D) : M D := fun S => match x, y with
  | .int i, .int j => if C i j then .ok (.int (f i j)) S else .bad
  | _, _ => .bad
theorem o_int {f : Value → Value → Sem Value} {C : Int → Int → Bool} {CP : Int → Int → Prop} {k : Int → Int → Int} (ho : OpR X f (rI CP fun i j => .int (k i j))) (hC : ∀ i j, C i j = true → CP i j) : ORD X W f (gI C k) := by
  refine ⟨_, ho, fun x y v w μ S σ H Q r rx ry h => ?_⟩
  unfold gI at h
  split at h
  · cases rx; cases ry
    split at h
    · rename_i hc
      exact ⟨_, _, rfl, rfl, hC _ _ hc, h.now r _ (.int _)⟩
    · exact h.elim
  · exact h.elim
abbrev gSub := gI (fun _ _ => true) fun i j => i - j
theorem op_subC : OpR X (binaryOp .Sub) (rI (fun _ _ => True) fun i j => .int (i - j)) := fun pins s σ H x y v u Q I rx ry h => by
  obtain ⟨i, j, e1, e2, _, q⟩ := h
  exact op_sub pins s σ H x y v u Q I rx ry ⟨i, j, e1, e2, q⟩
theorem o_sub : ORD X W (binaryOp .Sub) gSub := o_int op_subC fun _ _ _ => trivial
/-- one factor below 2^64 -/
def cMul (i j : Int) : Bool := decide (i.natAbs < 18446744073709551616) || decide (j.natAbs < 18446744073709551616)
theorem cMul_ok {i j : Int} (h : cMul i j = true) : CMul i j := by
  unfold cMul at h
  simp only [Bool.or_eq_true, decide_eq_true_eq] at h
  unfold CMul
  omega
abbrev gMul := gI cMul fun i j => i * j
theorem o_mul : ORD X W (binaryOp .Mult) gMul := o_int op_mul fun _ _ h => cMul_ok h
def cDiv (_ j : Int) : Bool := decide (0 < j) && decide (j.natAbs.log2 < 9000)
abbrev gDiv := gI cDiv fun i j => i / j
theorem o_div : ORD X W (binaryOp .FloorDiv) gDiv := o_int op_fdivW fun _ _ h => by
  unfold cDiv at h
  simpa [CDivW] using h
abbrev gMod := gI (fun _ j => decide (0 < j)) fun i j => i % j
theorem o_mod : ORD X W (binaryOp .Mod) gMod := o_int op_mod fun _ _ h => by simpa using h
def cPow (i j : Int) : Bool := decide (0 ≤ j ∧ j ≤ 1000000) && decide (i.natAbs < 18446744073709551616)
abbrev gPow := gI cPow fun i j => i ^ j.toNat
theorem o_pow : ORD X W (binaryOp .Pow) gPow := o_int op_pow fun _ _ h => by
  unfold cPow at h
  simp only [Bool.and_eq_true, decide_eq_true_eq] at h
  exact ⟨h.1.1, h.1.2, h.2⟩
def gNeg (x : D) : M D := fun S => match x with
  | .int i => .ok (.int (-i)) S
  | _ => .bad
theorem o_neg : URD X W (unaryOp .USub) gNeg := by
  refine ⟨_, un_neg, fun x v μ S σ H Q r rx h => ?_⟩
  unfold gNeg at h
  split at h
  · cases rx
    exact ⟨_, rfl, h.now r _ (.int _)⟩
  · exact h.elim

/-! comparisons -/
def gC (f : Int → Int → Bool) (x y : D) : M D := fun S => match x, y with
  | .int i, .int j => .ok (.bl (f i j)) S
  | _, _ => .bad
theorem o_cmp {f : Value → Value → Sem Value} {k : Int → Int → Bool} (ho : OpR X f (rI0 fun i j => .bl (k i j))) : ORD X W f (gC k) := by
  refine ⟨_, ho, fun x y v w μ S σ H Q r rx ry h => ?_⟩
  unfold gC at h
  split at h
  · cases rx; cases ry
    exact ⟨_, _, rfl, rfl, h.now r _ (.bl _)⟩
  · exact h.elim
abbrev gLt := gC fun i j => decide (i < j)
abbrev gLe := gC fun i j => decide (i ≤ j)
abbrev gGt := gC fun i j => decide (j < i)
abbrev gGe := gC fun i j => decide (j ≤ i)
theorem o_lt : ORD X W (compareOp .Lt) gLt := o_cmp op_lt
theorem o_le : ORD X W (compareOp .LtE) gLe := o_cmp op_le
theorem o_gt : ORD X W (compareOp .Gt) gGt := o_cmp op_gt
theorem o_ge : ORD X W (compareOp .GtE) gGe := o_cmp op_ge

/-! == of data -/
end
mutual
def toPy : D → Option PyData
  | .non => some .none
  | .bl b => some (.bool b)
  | .int i => some (.int i)
  | .str x => some (.str x)
  | .tup ds => (toPys ds).map .tuple
  | .lst ds => (toPys ds).map .list
  | .fl ds => (toPys ds).map .list
  | .ref _ => none
  | .fn _ => none
def toPys : List D → Option (List PyData)
  | [] => some []
  | d :: ds => match toPy d, toPys ds with
    | some p, some ps => some (p :: ps)
    | _, _ => none
end
/-- .. a stored list at the top -/
def toPyS (S : Sto) : D → Option PyData
  | .ref n => match atL S n with
    | some ds => (toPys ds).map .list
    | none => none
  | d => toPy d
section
variable {K : PySem.W.Frag} {μ : Mu} {S : Sto} {H : Hp}
mutual
theorem toPy_ok : ∀ (d : D) (p : PyData) (v : V), toPy d = some p → RD K μ H d v → Dp K H v p
  | .non, _, _, e, h => by cases e; cases h; exact .non
  | .bl _, _, _, e, h => by cases e; cases h; exact .bl _
  | .int _, _, _, e, h => by cases e; cases h; exact .int _
  | .str _, _, _, e, h => by cases e; cases h; exact .str _
  | .tup ds, _, _, e, h => by
    simp only [toPy, Option.map_eq_some_iff] at e
    obtain ⟨ps, e, rfl⟩ := e
    cases h with
    | tup h1 h2 => exact .tup h1 (toPys_ok ds ps _ e h2)
  | .lst ds, _, _, e, h => by
    simp only [toPy, Option.map_eq_some_iff] at e
    obtain ⟨ps, e, rfl⟩ := e
    cases h with
    | lst h1 h0 h2 => exact .lst (.inl (.inl h1)) (toPys_ok ds ps _ e h2)
  | .fl ds, _, _, e, h => by
    simp only [toPy, Option.map_eq_some_iff] at e
    obtain ⟨ps, e, rfl⟩ := e
    cases h with
    | fl h1 h2 =>
      rcases h1 with ⟨o, h1⟩ | h1
      · exact .lst (.inl (.inr ⟨o, h1⟩)) (toPys_ok ds ps _ e h2)
      · exact .lst (.inr h1) (toPys_ok ds ps _ e h2)
  | .ref _, _, _, e, _ => by simp [toPy] at e
  | .fn _, _, _, e, _ => by simp [toPy] at e
theorem toPys_ok : ∀ (ds : List D) (ps : List PyData) (vs : List V), toPys ds = some ps → RDs K μ H ds vs → DpAll K H vs ps
  | [], _, _, e, h => by cases h; simp [toPys] at e; subst e; exact .nil
  | d :: ds, ps, _, e, h => by
    cases h with
    | cons h1 h2 =>
      unfold toPys at e
      split at e
      · rename_i p ps' e1 e2
        cases e
        exact .cons (toPy_ok d p _ e1 h1) (toPys_ok ds ps' _ e2 h2)
      · cases e
end
theorem toPyS_ok {d : D} {p : PyData} {v : V} (e : toPyS S d = some p) (r : Rel K μ S H) (h : RD K μ H d v) : Dp K H v p := by
  cases d with
  | ref n =>
    unfold toPyS at e
    simp only at e
    split at e
    · rename_i ds hs
      simp only [Option.map_eq_some_iff] at e
      obtain ⟨ps, e, rfl⟩ := e
      cases h with
      | @ref _ a h1 =>
        obtain ⟨vs, q, z⟩ := r.obj n a _ h1 (atL_ok hs)
        exact .lst (.inl (.inl q)) (toPys_ok ds ps _ e z)
    · cases e
  | _ => exact toPy_ok _ _ _ e h
end
/-- pairs that == serves: data, one of them not too deep -/
def okEq (p q : PyData) : Bool := p.canLay0 && q.canLay0 && decide (min p.depth q.depth ≤ 480)
theorem okEq_ok {p q : PyData} (h : okEq p q = true) : p.canLay0 = true ∧ q.canLay0 = true ∧ min p.depth q.depth ≤ 480 := by
  unfold okEq at h
  simp only [Bool.and_eq_true, decide_eq_true_eq] at h
  exact ⟨h.1.1, h.1.2, h.2⟩
/-- the answer of ==, where the model tells one -/
def eqD (S : Sto) (x y : D) : Option Bool := match x, y with
  | .str a, .str b => some (decide (a = b))
  | .int a, .int b => some (decide (a = b))
  | .bl a, .bl b => some (decide (a = b))
  | .non, .non => some true
  | .non, .int _ => some false
  | .int _, .non => some false
  | .non, .str _ => some false
  | .str _, .non => some false
  | .int _, .str _ => some false
  | .str _, .int _ => some false
  | x, y => match toPyS S x, toPyS S y with
    | some p, some q => if okEq p q = true then some (PyData.eqv p q) else none
    | _, _ => none
def gEq (x y : D) : M D := fun S => match eqD S x y with
  | some b => .ok (.bl b) S
  | none => .bad
def gNe (x y : D) : M D := fun S => match eqD S x y with
  | some b => .ok (.bl (!b)) S
  | none => .bad
theorem eqD_ok {K : PySem.W.Frag} {μ : Mu} {S : Sto} {H : Hp} {x y : D} {v w : V} {b : Bool} (e : eqD S x y = some b) (r : Rel K μ S H) (rx : RD K μ H x v) (ry : RD K μ H y w) :
    (scal v w = true ∧ b = decide (v = w)) ∨ ∃ p q, Dp K H v p ∧ Dp K H w q ∧ okEq p q = true ∧ b = PyData.eqv p q := by
  unfold eqD at e
  split at e
  iterate 10 (· cases rx; cases ry; cases e; refine .inl ⟨rfl, ?_⟩; first | rfl | (simp; done))
  split at e
  · rename_i p q hp hq
    split at e
    · rename_i hs
      cases e
      exact .inr ⟨p, q, toPyS_ok hp r rx, toPyS_ok hq r ry, hs, rfl⟩
    · cases e
  · cases e
section
variable {X : Cx} {W : WX} {pos : Pos}
def rEqW (K : PySem.W.Frag) : R2 := fun x y H Q => ∃ d e, Dp K H x d ∧ Dp K H y e ∧ okEq d e = true ∧ Q (.bl (PyData.eqv d e)) H
def rNeW (K : PySem.W.Frag) : R2 := fun x y H Q => ∃ d e, Dp K H x d ∧ Dp K H y e ∧ okEq d e = true ∧ Q (.bl (!PyData.eqv d e)) H
theorem op_eqW (hu : X.A.units + 500 < cLine) : OpR X (compareOp .Eq) (rEqW X.K) := by
  rintro pins s σ H x y v u Q I rx ry ⟨d, e, hd, he, ok, q⟩
  obtain ⟨_, r1⟩ := Dp.reads I d x v hd rx
  obtain ⟨_, r2⟩ := Dp.reads I e y u he ry
  obtain ⟨c1, c2, c3⟩ := okEq_ok ok
  exact SeqAt.compareEq_reads r1 r2 c1 c2 (by omega) ⟨.bl _, H, I, rfl, q⟩
theorem op_neW (hu : X.A.units + 500 < cLine) : OpR X (compareOp .NotEq) (rNeW X.K) := by
  rintro pins s σ H x y v u Q I rx ry ⟨d, e, hd, he, ok, q⟩
  obtain ⟨_, r1⟩ := Dp.reads I d x v hd rx
  obtain ⟨_, r2⟩ := Dp.reads I e y u he ry
  obtain ⟨c1, c2, c3⟩ := okEq_ok ok
  exact SeqAt.compareNe_reads r1 r2 c1 c2 (by omega) ⟨.bl _, H, I, rfl, q⟩
theorem room_w {k : Nat} {A : Around} (r : Room (k + 20) A) : A.units + 500 < cLine := by have := r.un; omega
theorem o_eq (hu : X.A.units + 500 < cLine) : ORD X W (compareOp .Eq) gEq := by
  refine ⟨_, op_eq.or (op_eqW hu), fun x y v w μ S σ H Q r rx ry h => ?_⟩
  unfold gEq at h
  split at h
  · rename_i b e
    rcases eqD_ok e r rx ry with ⟨z, rfl⟩ | ⟨p, q, h1, h2, h3, rfl⟩
    · exact .inl ⟨z, h.now r _ (.bl _)⟩
    · exact .inr ⟨p, q, h1, h2, h3, h.now r _ (.bl _)⟩
  · exact h.elim
theorem o_ne (hu : X.A.units + 500 < cLine) : ORD X W (compareOp .NotEq) gNe := by
  refine ⟨_, op_ne.or (op_neW hu), fun x y v w μ S σ H Q r rx ry h => ?_⟩
  unfold gNe at h
  split at h
  · rename_i b e
    rcases eqD_ok e r rx ry with ⟨z, rfl⟩ | ⟨p, q, h1, h2, h3, rfl⟩
    · exact .inl ⟨z, h.now r _ (.bl _)⟩
    · exact .inr ⟨p, q, h1, h2, h3, h.now r _ (.bl _)⟩
  · exact h.elim

/-! is None, is True -/
def gIs (x y : D) : M D := fun S => match x, y with
  | .bl a, .bl b => .ok (.bl (decide (a = b))) S
  | .non, .non => .ok (.bl true) S
  | _, .non => .ok (.bl false) S
  | _, _ => .bad
def gIsNot (x y : D) : M D := fun S => match x, y with
  | .bl a, .bl b => .ok (.bl (!decide (a = b))) S
  | .non, .non => .ok (.bl false) S
  | _, .non => .ok (.bl true) S
  | _, _ => .bad
theorem o_is : ORD X W (compareOp .Is) gIs := by
  refine ⟨_, op_isBl.or op_isN, fun x y v w μ S σ H Q r rx ry h => ?_⟩
  unfold gIs at h
  split at h
  · cases rx; cases ry
    exact .inl ⟨_, _, rfl, rfl, h.now r _ (.bl _)⟩
  · cases rx; cases ry
    exact .inr ⟨rfl, by simpa using h.now r _ (.bl _)⟩
  · rename_i hx
    cases ry
    have : decide (v = V.non) = false := by
      cases rx <;> first | rfl | exact absurd rfl (by assumption)
    exact .inr ⟨rfl, by rw [this]; exact h.now r _ (.bl _)⟩
  · exact h.elim
theorem o_isnot : ORD X W (compareOp .IsNot) gIsNot := by
  refine ⟨_, op_notBl.or op_notN, fun x y v w μ S σ H Q r rx ry h => ?_⟩
  unfold gIsNot at h
  split at h
  · cases rx; cases ry
    exact .inl ⟨_, _, rfl, rfl, h.now r _ (.bl _)⟩
  · cases rx; cases ry
    exact .inr ⟨rfl, by simpa using h.now r _ (.bl _)⟩
  · rename_i hx
    cases ry
    have : decide (v = V.non) = false := by
      cases rx <;> first | rfl | exact absurd rfl (by assumption)
    exact .inr ⟨rfl, by rw [this]; exact h.now r _ (.bl _)⟩
  · exact h.elim

/-! in -/
def flatD : D → Option V
  | .non => some .non
  | .bl b => some (.bl b)
  | .int i => some (.int i)
  | .str x => some (.str x)
  | _ => none
def flatDs : List D → Option (List V)
  | [] => some []
  | d :: ds => match flatD d, flatDs ds with
    | some v, some vs => some (v :: vs)
    | _, _ => none
theorem flatD_ok {K : PySem.W.Frag} {μ : Mu} {H : Hp} {d : D} {v w : V} (e : flatD d = some w) (h : RD K μ H d v) : v = w ∧ flatV w = true := by
  cases h <;> first | (cases e; exact ⟨rfl, rfl⟩) | cases e
theorem flatDs_ok {K : PySem.W.Frag} {μ : Mu} {H : Hp} : ∀ {ds : List D} {vs ws : List V}, flatDs ds = some ws → RDs K μ H ds vs → vs = ws ∧ ws.all flatV = true
  | [], _, _, e, h => by cases h; cases e; exact ⟨rfl, rfl⟩
  | d :: ds, _, _, e, h => by
    cases h with
    | cons h1 h2 =>
      unfold flatDs at e
      split at e
      · rename_i v' vs' e1 e2
        cases e
        obtain ⟨rfl, f1⟩ := flatD_ok e1 h1
        obtain ⟨rfl, f2⟩ := flatDs_ok e2 h2
        exact ⟨rfl, by simp only [List.all_cons, f1, f2, Bool.and_self]⟩
      · cases e
/-- the items of a list or a tuple, as data -/
def itemsPy (S : Sto) (d : D) : Option (Bool × List PyData) := match d with
  | .tup ds => (toPys ds).map (false, ·)
  | .lst ds => (toPys ds).map (true, ·)
  | .fl ds => (toPys ds).map (true, ·)
  | .ref n => match atL S n with
    | some ds => (toPys ds).map (true, ·)
    | none => none
  | _ => none
theorem itemsPy_ok {K : PySem.W.Frag} {μ : Mu} {S : Sto} {H : Hp} {d : D} {v : V} {b : Bool} {ps : List PyData} (e : itemsPy S d = some (b, ps)) (r : Rel K μ S H) (h : RD K μ H d v) : Dp K H v (if b = true then .list ps else .tuple ps) := by
  unfold itemsPy at e
  cases d with
  | tup ds =>
    simp only [Option.map_eq_some_iff] at e
    obtain ⟨p, e, q⟩ := e
    cases q
    rw [if_neg Bool.false_ne_true]
    exact toPy_ok (.tup ds) _ v (by simp only [toPy, e, Option.map_some]) h
  | lst ds =>
    simp only [Option.map_eq_some_iff] at e
    obtain ⟨p, e, q⟩ := e
    cases q
    rw [if_pos rfl]
    exact toPy_ok (.lst ds) _ v (by simp only [toPy, e, Option.map_some]) h
  | fl ds =>
    simp only [Option.map_eq_some_iff] at e
    obtain ⟨p, e, q⟩ := e
    cases q
    rw [if_pos rfl]
    exact toPy_ok (.fl ds) _ v (by simp only [toPy, e, Option.map_some]) h
  | ref n =>
    simp only at e
    split at e
    · rename_i ds hs
      simp only [Option.map_eq_some_iff] at e
      obtain ⟨p, e, q⟩ := e
      cases q
      rw [if_pos rfl]
      exact toPyS_ok (d := .ref n) (by simp only [toPyS, hs, e, Option.map_some]) r h
    · cases e
  | _ => cases e
def okIn (ps : List PyData) (p : PyData) : Bool := PyData.canLayAll0 ps && p.canLay0 && decide (min (PyData.depthAll ps) p.depth ≤ 480)
/-- the answer of in -/
def inD (S : Sto) (x y : D) : Option Bool := match x, y with
  | .str a, .str b => some (!(Builtin.Str.occurrences b a 0 b.length 1).isEmpty)
  | x, y => match flatD x, (iLst S y).bind flatDs with
    | some v, some vs => some (inV v vs)
    | _, _ => match toPyS S x, itemsPy S y with
      | some p, some (_, ps) => if okIn ps p = true then some (ps.any fun z => PyData.eqv z p) else none
      | _, _ => none
def gIn (x y : D) : M D := fun S => match inD S x y with
  | some b => .ok (.bl b) S
  | none => .bad
def gNotIn (x y : D) : M D := fun S => match inD S x y with
  | some b => .ok (.bl (!b)) S
  | none => .bad
theorem inD_ok {K : PySem.W.Frag} {μ : Mu} {S : Sto} {H : Hp} {x y : D} {v w : V} {b : Bool} (e : inD S x y = some b) (r : Rel K μ S H) (rx : RD K μ H x v) (ry : RD K μ H y w) :
    (∃ i j, v = .str i ∧ w = .str j ∧ b = !(Builtin.Str.occurrences j i 0 j.length 1).isEmpty) ∨
    (∃ p xs, w = .ref p ∧ (SqL K H p xs ∨ SqT K H p xs) ∧ flatV v = true ∧ xs.all flatV = true ∧ b = inV v xs) ∨
    ∃ p ps, Dp K H v p ∧ (Dp K H w (.list ps) ∨ Dp K H w (.tuple ps)) ∧ okIn ps p = true ∧ b = ps.any fun z => PyData.eqv z p := by
  unfold inD at e
  split at e
  · cases rx; cases ry; cases e
    exact .inl ⟨_, _, rfl, rfl, rfl⟩
  · split at e
    · rename_i v' vs' e1 e2
      cases e
      rw [Option.bind_eq_some_iff] at e2
      obtain ⟨ds, e2, e3⟩ := e2
      obtain ⟨rfl, f1⟩ := flatD_ok e1 rx
      obtain ⟨a, us, rfl, q, z⟩ := iLst_ok e2 r ry
      obtain ⟨rfl, f2⟩ := flatDs_ok e3 z
      exact .inr (.inl ⟨a, _, rfl, q, f1, f2, rfl⟩)
    · split at e
      · rename_i p b' ps e1 e2
        split at e
        · rename_i ok
          cases e
          have h1 := itemsPy_ok e2 r ry
          refine .inr (.inr ⟨p, ps, toPyS_ok e1 r rx, ?_, ok, rfl⟩)
          cases b' with
          | true => exact .inl h1
          | false => exact .inr h1
        · cases e
      · cases e
def rInW (neg : Bool) (K : PySem.W.Frag) : R2 := fun x y H Q => ∃ d ds, Dp K H x d ∧ (Dp K H y (.list ds) ∨ Dp K H y (.tuple ds)) ∧ okIn ds d = true ∧ Q (.bl (if neg = true then !ds.any (fun z => PyData.eqv z d) else ds.any fun z => PyData.eqv z d)) H
theorem okIn_ok {ps : List PyData} {p : PyData} (h : okIn ps p = true) : PyData.canLayAll0 ps = true ∧ p.canLay0 = true ∧ min (PyData.depthAll ps) p.depth ≤ 480 := by
  unfold okIn at h
  simp only [Bool.and_eq_true, decide_eq_true_eq] at h
  exact ⟨h.1.1, h.1.2, h.2⟩
theorem op_inW (hu : X.A.units + 500 < cLine) : OpR X (compareOp .In) (rInW false X.K) := by
  rintro pins s σ H x y v u Q I rx ry ⟨d, ds, hd, he, ok, q⟩
  obtain ⟨_, r1⟩ := Dp.reads I d x v hd rx
  obtain ⟨c1, c2, c3⟩ := okIn_ok ok
  rcases he with he | he
  · obtain ⟨_, r2⟩ := Dp.reads I (.list ds) y u he ry
    exact SeqAt.in_list_reads r2 r1 c1 c2 (by omega) ⟨.bl _, H, I, rfl, q⟩
  · obtain ⟨_, r2⟩ := Dp.reads I (.tuple ds) y u he ry
    exact SeqAt.in_tuple_reads r2 r1 c1 c2 (by omega) ⟨.bl _, H, I, rfl, q⟩
theorem op_notinW (hu : X.A.units + 500 < cLine) : OpR X (compareOp .NotIn) (rInW true X.K) := by
  rintro pins s σ H x y v u Q I rx ry ⟨d, ds, hd, he, ok, q⟩
  obtain ⟨_, r1⟩ := Dp.reads I d x v hd rx
  obtain ⟨c1, c2, c3⟩ := okIn_ok ok
  rcases he with he | he
  · obtain ⟨_, r2⟩ := Dp.reads I (.list ds) y u he ry
    exact SeqAt.notIn_list_reads r2 r1 c1 c2 (by omega) ⟨.bl _, H, I, rfl, q⟩
  · obtain ⟨_, r2⟩ := Dp.reads I (.tuple ds) y u he ry
    exact SeqAt.notIn_tuple_reads r2 r1 c1 c2 (by omega) ⟨.bl _, H, I, rfl, q⟩
theorem o_in (hu : X.A.units + 500 < cLine) : ORD X W (compareOp .In) gIn := by
  refine ⟨_, op_in_str.or (op_in_seq.or (op_inW hu)), fun x y v w μ S σ H Q r rx ry h => ?_⟩
  unfold gIn at h
  split at h
  · rename_i b e
    rcases inD_ok e r rx ry with ⟨i, j, rfl, rfl, rfl⟩ | ⟨p, xs, rfl, q, f1, f2, rfl⟩ | ⟨p, ps, h1, h2, ok, rfl⟩
    · exact .inl ⟨_, _, rfl, rfl, h.now r _ (.bl _)⟩
    · exact .inr (.inl ⟨_, _, rfl, q, f1, f2, h.now r _ (.bl _)⟩)
    · exact .inr (.inr ⟨p, ps, h1, h2, ok, h.now r _ (.bl _)⟩)
  · exact h.elim
theorem o_notin (hu : X.A.units + 500 < cLine) : ORD X W (compareOp .NotIn) gNotIn := by
  refine ⟨_, op_notin_str.or (op_notIn_seq.or (op_notinW hu)), fun x y v w μ S σ H Q r rx ry h => ?_⟩
  unfold gNotIn at h
  split at h
  · rename_i b e
    rcases inD_ok e r rx ry with ⟨i, j, rfl, rfl, rfl⟩ | ⟨p, xs, rfl, q, f1, f2, rfl⟩ | ⟨p, ps, h1, h2, ok, rfl⟩
    · exact .inl ⟨_, _, rfl, rfl, h.now r _ (.bl _)⟩
    · exact .inr (.inl ⟨_, _, rfl, q, f1, f2, h.now r _ (.bl _)⟩)
    · exact .inr (.inr ⟨p, ps, h1, h2, ok, h.now r _ (.bl _)⟩)
  · exact h.elim
end
end DL

/-! DL3: tests, displays, calls of built-ins, methods, subscripts, slices. -/
namespace DL
open PySem L2

def gTruth (d : D) : M Bool := fun S => match d with
  | .bl b => .ok b S
  | .non => .ok false S
  | .int i => .ok (i != 0) S
  | .str x => if x.length ≤ sizeLine then .ok ((x.length : Int) != 0) S else .bad
  | d => match iLst S d with
    | some ds => .ok (!ds.isEmpty) S
    | none => .bad
def asBl : D → M Bool
  | .bl b => ret b
  | _ => stuck
def eT (a : EvD) : EvB := fun ρ => bnd (a ρ) gTruth
def eTb (a : EvD) : EvB := fun ρ => bnd (a ρ) asBl
def bAnd (a b : EvB) : EvB := fun ρ => bnd (a ρ) fun c => if c = true then b ρ else ret false
def bOr (a b : EvB) : EvB := fun ρ => bnd (a ρ) fun c => if c = true then ret true else b ρ
def bNot (a : EvB) : EvB := fun ρ => bnd (a ρ) fun c => ret (!c)
def eIf (c : EvB) (a b : EvD) : EvD := fun ρ => bnd (c ρ) fun k => if k = true then a ρ else b ρ
def eAnd (a b : EvD) : EvD := fun ρ => bnd (a ρ) fun x => match x with
  | .bl true => b ρ
  | .bl false => ret (.bl false)
  | _ => stuck
def eOr (a b : EvD) : EvD := fun ρ => bnd (a ρ) fun x => match x with
  | .bl true => ret (.bl true)
  | .bl false => b ρ
  | _ => stuck
def eNot (a : EvD) : EvD := fun ρ => bnd (a ρ) fun x => match x with
  | .bl c => ret (.bl (!c))
  | _ => stuck
def aNil : EvL := fun _ => ret []
def aCons (a : EvD) (as : EvL) : EvL := fun ρ => bnd (a ρ) fun x => bnd (as ρ) fun xs => ret (x :: xs)
def eTup (as : EvL) : EvD := fun ρ => bnd (as ρ) fun ds S => if ds.length ≤ sizeLine then .ok (.tup ds) S else .bad
def eLst (as : EvL) : EvD := fun ρ => bnd (as ρ) fun ds S => if ds.length ≤ sizeLine then .ok (.lst ds) S else .bad
/-- a list that will change -/
def eLstM (as : EvL) : EvD := fun ρ => bnd (as ρ) fun ds S => if ds.length ≤ sizeLine then .ok (.ref S.length) (S ++ [.lst ds]) else .bad
def eCall (g : List D → M D) (as : EvL) : EvD := fun ρ => bnd (as ρ) g
/-- e1 < e2 < e3 -/
def eChain (g g' : D → D → M D) (a b c : EvD) : EvD := fun ρ => bnd (a ρ) fun x => bnd (b ρ) fun y => bnd (g x y) fun z => match z with
  | .bl true => bnd (c ρ) fun w => g' y w
  | .bl false => ret (.bl false)
  | _ => stuck

theorem new_ref {K : PySem.W.Frag} {μ : Mu} {S : Sto} {H H' : Hp} {p : Addr} (r : Rel K μ S H) : RD K (μ.push p) H' (.ref S.length) (.ref p) := .ref (by rw [← r.len]; simp [Mu.push])
section
variable {X : Cx} {W : WX} {pos : Pos}
theorem truth_ok {K : PySem.W.Frag} {mg : Str → Option Value} {μ : Mu} {S : Sto} {σ : L2.St} {H : Hp} {d : D} {v : V} {Q : Bool → Hp → Prop} (r : Rel K μ S H) (h : RD K μ H d v) (q : Post K mg W μ σ H (gTruth d S) (fun b _ H' => Q b H')) : ∃ k, TruV K v H k ∧ Q k H := by
  unfold gTruth at q
  split at q
  · cases h; exact ⟨_, rfl, q.now r⟩
  · cases h; exact ⟨_, rfl, q.now r⟩
  · cases h; exact ⟨_, rfl, q.now r⟩
  · cases h
    split at q
    · rename_i hl; exact ⟨_, ⟨hl, rfl⟩, q.now r⟩
    · exact q.elim
  · split at q
    · rename_i ds e
      obtain ⟨a, vs, rfl, qq, z⟩ := iLst_ok e r h
      have eq : (!ds.isEmpty) = !vs.isEmpty := by
        have := z.length
        cases ds <;> cases vs <;> simp_all
      refine ⟨_, ?_, q.now r⟩
      rcases qq with qq | qq
      · exact .inl ⟨vs, qq, eq⟩
      · exact .inr (.inl ⟨vs, qq, eq⟩)
    · exact q.elim
theorem t_truth {a : Expr} {ta : EvD} (ha : PE X a (tD X.K X.mg W ta)) (he : ∀ whole, isTrue a X.env whole = (do let v ← whole; standAt a.pos; holding [v] (truthy v)) := by intro _; rfl) : PT X a (tT X.K X.mg W (eT ta)) := by
  refine PT.imp (pt_truth ha he) fun σ H Q ⟨ρ, S, μ, e, s, h⟩ => ?_
  exact ⟨ρ, S, μ, e, s, h.bnd fun x S1 μ1 H1 s1 r1 h1 v rv => truth_ok r1 rv h1⟩
theorem asBl_ok {K : PySem.W.Frag} {mg : Str → Option Value} {μ : Mu} {S : Sto} {σ : L2.St} {H : Hp} {d : D} {v : V} {Q : Bool → Hp → Prop} (r : Rel K μ S H) (h : RD K μ H d v) (q : Post K mg W μ σ H (asBl d S) (fun b _ H' => Q b H')) : ∃ k, v = .bl k ∧ Q k H := by
  unfold asBl at q
  split at q
  · cases h; exact ⟨_, rfl, q.now r⟩
  · exact q.elim
theorem t_cmp {a b : Expr} {op : CmpOp} {g : D → D → M D} {ta tb : EvD} (o : ORD X W (compareOp op) g) (ha : PE X a (tD X.K X.mg W ta)) (hb : PE X b (tD X.K X.mg W tb)) (hm : behindInMarks op b = false) : PT X (.Compare a [op] [b] pos) (tT X.K X.mg W (eTb (eBin g ta tb))) := by
  obtain ⟨r, ho, hr⟩ := o
  refine PT.imp (pt_cmpR ho ha hb hm) fun σ H Q ⟨ρ, S, μ, e, s, h⟩ => ?_
  refine bin_ok hr ⟨ρ, S, μ, e, s, ?_⟩
  exact h.bnd fun x S1 μ1 H1 s1 r1 h1 v rv => asBl_ok r1 rv h1
theorem t_not {a : Expr} {ta : EvB} (ha : PT X a (tT X.K X.mg W ta)) : PT X (.UnaryOp .Not a pos) (tT X.K X.mg W (bNot ta)) := by
  refine PT.imp (pt_not ha) fun σ H Q ⟨ρ, S, μ, e, s, h⟩ => ?_
  exact ⟨ρ, S, μ, e, s, h.bnd fun x S1 μ1 H1 s1 r1 h1 => h1.now r1⟩
theorem w_one_and {a : Expr} {ta : EvB} (ha : PT X a (tT X.K X.mg W ta)) : PW X (.BoolOp .And [a] pos) (tT X.K X.mg W ta) := pw_and1 ha
theorem w_one_or {a : Expr} {ta : EvB} (ha : PT X a (tT X.K X.mg W ta)) : PW X (.BoolOp .Or [a] pos) (tT X.K X.mg W ta) := pw_or1 ha
theorem w_and {a b : Expr} {rest : List Expr} {ta tb : EvB} (ha : PT X a (tT X.K X.mg W ta)) (hb : PW X (.BoolOp .And (b :: rest) pos) (tT X.K X.mg W tb)) : PW X (.BoolOp .And (a :: b :: rest) pos) (tT X.K X.mg W (bAnd ta tb)) := by
  refine PW.imp (pw_and ha hb) fun σ H Q ⟨ρ, S, μ, e, s, h⟩ => ?_
  refine ⟨ρ, S, μ, e, s, h.bnd fun x S1 μ1 H1 s1 r1 h1 => ?_⟩
  cases x with
  | true => rw [if_pos rfl] at h1 ⊢; exact ⟨ρ, S1, μ1, e.step s s1, r1, h1⟩
  | false => rw [if_neg Bool.false_ne_true] at h1 ⊢; exact h1.now r1
theorem w_or {a b : Expr} {rest : List Expr} {ta tb : EvB} (ha : PT X a (tT X.K X.mg W ta)) (hb : PW X (.BoolOp .Or (b :: rest) pos) (tT X.K X.mg W tb)) : PW X (.BoolOp .Or (a :: b :: rest) pos) (tT X.K X.mg W (bOr ta tb)) := by
  refine PW.imp (pw_or ha hb) fun σ H Q ⟨ρ, S, μ, e, s, h⟩ => ?_
  refine ⟨ρ, S, μ, e, s, h.bnd fun x S1 μ1 H1 s1 r1 h1 => ?_⟩
  cases x with
  | true => rw [if_pos rfl] at h1 ⊢; exact h1.now r1
  | false => rw [if_neg Bool.false_ne_true] at h1 ⊢; exact ⟨ρ, S1, μ1, e.step s s1, r1, h1⟩
theorem d_ifExp {c a b : Expr} {tc : EvB} {ta tb : EvD} (hc : PT X c (tT X.K X.mg W tc)) (ha : PE X a (tD X.K X.mg W ta)) (hb : PE X b (tD X.K X.mg W tb)) : PE X (.IfExp c a b pos) (tD X.K X.mg W (eIf tc ta tb)) := by
  refine PE.imp (pe_ifExp hc ha hb) fun σ H Q ⟨ρ, S, μ, e, s, h⟩ => ?_
  refine ⟨ρ, S, μ, e, s, h.bnd fun x S1 μ1 H1 s1 r1 h1 => ?_⟩
  cases x with
  | true => rw [if_pos rfl] at h1 ⊢; exact ⟨ρ, S1, μ1, e.step s s1, r1, h1⟩
  | false => rw [if_neg Bool.false_ne_true] at h1 ⊢; exact ⟨ρ, S1, μ1, e.step s s1, r1, h1⟩
theorem d_one {op : BoolOp} {a : Expr} {ta : EvD} (ha : PE X a (tD X.K X.mg W ta)) : PE X (.BoolOp op [a] pos) (tD X.K X.mg W ta) := pe_one ha
theorem d_and {a b : Expr} {rest : List Expr} {ta tb : EvD} (ha : PE X a (tD X.K X.mg W ta)) (hb : PE X (.BoolOp .And (b :: rest) pos) (tD X.K X.mg W tb)) : PE X (.BoolOp .And (a :: b :: rest) pos) (tD X.K X.mg W (eAnd ta tb)) := by
  refine PE.imp (pe_and ha hb) fun σ H Q ⟨ρ, S, μ, e, s, h⟩ => ?_
  refine ⟨ρ, S, μ, e, s, h.bnd fun x S1 μ1 H1 s1 r1 h1 v rv => ?_⟩
  split at h1
  · cases rv; exact ⟨true, rfl, by rw [if_pos rfl]; exact ⟨ρ, S1, μ1, e.step s s1, r1, h1⟩⟩
  · cases rv; exact ⟨false, rfl, by rw [if_neg Bool.false_ne_true]; exact h1.now r1 _ (.bl _)⟩
  · exact h1.elim
theorem d_or {a b : Expr} {rest : List Expr} {ta tb : EvD} (ha : PE X a (tD X.K X.mg W ta)) (hb : PE X (.BoolOp .Or (b :: rest) pos) (tD X.K X.mg W tb)) : PE X (.BoolOp .Or (a :: b :: rest) pos) (tD X.K X.mg W (eOr ta tb)) := by
  refine PE.imp (pe_or ha hb) fun σ H Q ⟨ρ, S, μ, e, s, h⟩ => ?_
  refine ⟨ρ, S, μ, e, s, h.bnd fun x S1 μ1 H1 s1 r1 h1 v rv => ?_⟩
  split at h1
  · cases rv; exact ⟨true, rfl, by rw [if_pos rfl]; exact h1.now r1 _ (.bl _)⟩
  · cases rv; exact ⟨false, rfl, by rw [if_neg Bool.false_ne_true]; exact ⟨ρ, S1, μ1, e.step s s1, r1, h1⟩⟩
  · exact h1.elim
theorem d_not {a : Expr} {ta : EvD} (ha : PE X a (tD X.K X.mg W ta)) : PE X (.UnaryOp .Not a pos) (tD X.K X.mg W (eNot ta)) := by
  refine PE.imp (pe_not ha) fun σ H Q ⟨ρ, S, μ, e, s, h⟩ => ?_
  refine ⟨ρ, S, μ, e, s, h.bnd fun x S1 μ1 H1 s1 r1 h1 v rv => ?_⟩
  split at h1
  · cases rv; exact ⟨_, rfl, h1.now r1 _ (.bl _)⟩
  · exact h1.elim
theorem a_nil : PA X [] (tA X.K X.mg W aNil) := PA.imp pa_nil fun σ H Q ⟨ρ, S, μ, e, s, h⟩ => h.now s _ .nil
theorem a_cons {e : Expr} {es : List Expr} {te : EvD} {t : EvL} (ha : PE X e (tD X.K X.mg W te)) (hr : PA X es (tA X.K X.mg W t)) (hs : starEach (e :: es) X.env = (false, eval e X.env) :: starEach es X.env := by rfl) : PA X (e :: es) (tA X.K X.mg W (aCons te t)) := by
  refine PA.imp (pa_cons ha hr hs) fun σ H Q ⟨ρ, S, μ, e, s, h⟩ => ?_
  refine ⟨ρ, S, μ, e, s, h.bnd fun x S1 μ1 H1 s1 r1 h1 v rv => ?_⟩
  exact ⟨ρ, S1, μ1, e.step s s1, r1, h1.bnd fun xs S2 μ2 H2 s2 r2 h2 vs rvs => h2.now r2 _ (.cons (rv.step r1 s2) rvs)⟩
theorem d_tup {es : List Expr} {t : EvL} {k : Nat} (h : PA X es (tA X.K X.mg W t)) : PE X (.Tuple es k pos) (tD X.K X.mg W (eTup t)) := by
  refine PE.imp (pe_tup h) fun σ H Q ⟨ρ, S, μ, e, s, h⟩ => ?_
  refine ⟨ρ, S, μ, e, s, h.bnd fun xs S1 μ1 H1 s1 r1 h1 vs rvs => ?_⟩
  split at h1
  · rename_i hl
    exact ⟨by rw [← rvs.length]; exact hl, fun p hp => h1 μ1 _ (Stp.new hp) (r1.new hp) _ (.tup (.inl (.inl upd_same)) (rvs.step r1 (Stp.new hp)))⟩
  · exact h1.elim
theorem d_lst {es : List Expr} {t : EvL} (h : PA X es (tA X.K X.mg W t)) : PE X (.List es pos) (tD X.K X.mg W (eLst t)) := by
  refine PE.imp (pe_lst h) fun σ H Q ⟨ρ, S, μ, e, s, h⟩ => ?_
  refine ⟨ρ, S, μ, e, s, h.bnd fun xs S1 μ1 H1 s1 r1 h1 vs rvs => ?_⟩
  split at h1
  · rename_i hl
    exact ⟨by rw [← rvs.length]; exact hl, fun p hp => h1 μ1 _ (Stp.new hp) (r1.new hp) _ (.lst upd_same ⟨fun z => r1.there z hp, fun z => r1.hid _ z hp⟩ (rvs.step r1 (Stp.new hp)))⟩
  · exact h1.elim
theorem d_lstM {es : List Expr} {t : EvL} (h : PA X es (tA X.K X.mg W t)) : PE X (.List es pos) (tD X.K X.mg W (eLstM t)) := by
  refine PE.imp (pe_lst h) fun σ H Q ⟨ρ, S, μ, e, s, h⟩ => ?_
  refine ⟨ρ, S, μ, e, s, h.bnd fun xs S1 μ1 H1 s1 r1 h1 vs rvs => ?_⟩
  split at h1
  · rename_i hl
    refine ⟨by rw [← rvs.length]; exact hl, fun p hp => ?_⟩
    exact h1 (μ1.push p) _ (Stp.alloc hp) (r1.alloc hp ⟨vs, upd_same, rvs.step r1 (Stp.alloc hp)⟩) _ (new_ref r1)
  · exact h1.elim
theorem d_chain {a b c : Expr} {op op' : CmpOp} {g g' : D → D → M D} {ta tb tc : EvD} (o : ORD X W (compareOp op) g) (o' : ORD X W (compareOp op') g') (ha : PE X a (tD X.K X.mg W ta)) (hb : PE X b (tD X.K X.mg W tb)) (hc : PE X c (tD X.K X.mg W tc))
    (hm : lastMarks [op, op'] [b, c] = false) : PE X (.Compare a [op, op'] [b, c] pos) (tD X.K X.mg W (eChain g g' ta tb tc)) := by
  obtain ⟨r, ho, hr⟩ := o
  obtain ⟨r', ho', hr'⟩ := o'
  refine PE.imp (pe_chain ho ho' ha hb hc hm) fun σ H Q ⟨ρ, S, μ, e, s, h⟩ => ?_
  refine ⟨ρ, S, μ, e, s, h.bnd fun x S1 μ1 H1 s1 r1 h1 v rv => ?_⟩
  refine ⟨ρ, S1, μ1, e.step s s1, r1, h1.bnd fun y S2 μ2 H2 s2 r2 h2 w rw => ?_⟩
  refine hr _ _ _ _ μ2 S2 σ H2 _ r2 (rv.step r1 s2) rw (h2.bnd fun z S3 μ3 H3 s3 r3 h3 u ru => ?_)
  split at h3
  · cases ru
    refine ⟨true, rfl, ?_⟩
    rw [if_pos rfl]
    refine ⟨ρ, S3, μ3, ((e.step s s1).step r1 s2).step r2 s3, r3, h3.bnd fun q S4 μ4 H4 s4 r4 h4 uu ruu => ?_⟩
    exact hr' _ _ _ _ μ4 S4 σ H4 Q r4 ((rw.step r2 s3).step r3 s4) ruu h4
  · cases ru
    refine ⟨false, rfl, ?_⟩
    rw [if_neg Bool.false_ne_true]
    exact h3.now r3 _ (.bl _)
  · exact h3.elim

theorem chain_ok {r r' : R2} {g g' : D → D → M D} {ta tb tc : EvD} {σ : L2.St} {H : Hp} {Q : VK} (hr : ∀ x y v w μ S σ H Q, Rel X.K μ S H → RD X.K μ H x v → RD X.K μ H y w → Post X.K X.mg W μ σ H (g x y S) (QD X.K Q) → r v w H Q)
    (hr' : ∀ x y v w μ S σ H Q, Rel X.K μ S H → RD X.K μ H x v → RD X.K μ H y w → Post X.K X.mg W μ σ H (g' x y S) (QD X.K Q) → r' v w H Q) (hh : tD X.K X.mg W (eChain g g' ta tb tc) σ H Q) : tChain r r' (tD X.K X.mg W ta) (tD X.K X.mg W tb) (tD X.K X.mg W tc) σ H Q := by
  obtain ⟨ρ, S, μ, e, s, h⟩ := hh
  refine ⟨ρ, S, μ, e, s, h.bnd fun x S1 μ1 H1 s1 r1 h1 v rv => ?_⟩
  refine ⟨ρ, S1, μ1, e.step s s1, r1, h1.bnd fun y S2 μ2 H2 s2 r2 h2 w rw => ?_⟩
  refine hr _ _ _ _ μ2 S2 σ H2 _ r2 (rv.step r1 s2) rw (h2.bnd fun z S3 μ3 H3 s3 r3 h3 u ru => ?_)
  split at h3
  · cases ru
    refine ⟨true, rfl, ?_⟩
    rw [if_pos rfl]
    refine ⟨ρ, S3, μ3, ((e.step s s1).step r1 s2).step r2 s3, r3, h3.bnd fun q S4 μ4 H4 s4 r4 h4 uu ruu => ?_⟩
    exact hr' _ _ _ _ μ4 S4 σ H4 Q r4 ((rw.step r2 s3).step r3 s4) ruu h4
  · cases ru
    refine ⟨false, rfl, ?_⟩
    rw [if_neg Bool.false_ne_true]
    exact h3.now r3 _ (.bl _)
  · exact h3.elim
theorem t_chain {a b c : Expr} {op op' : CmpOp} {g g' : D → D → M D} {ta tb tc : EvD} (o : ORD X W (compareOp op) g) (o' : ORD X W (compareOp op') g') (ha : PE X a (tD X.K X.mg W ta)) (hb : PE X b (tD X.K X.mg W tb)) (hc : PE X c (tD X.K X.mg W tc))
    (hm : lastMarks [op, op'] [b, c] = false) : PT X (.Compare a [op, op'] [b, c] pos) (tT X.K X.mg W (eTb (eChain g g' ta tb tc))) := by
  obtain ⟨r, ho, hr⟩ := o
  obtain ⟨r', ho', hr'⟩ := o'
  refine PT.imp (pt_chain ho ho' ha hb hc hm) fun σ H Q ⟨ρ, S, μ, e, s, h⟩ => ?_
  refine chain_ok hr hr' ⟨ρ, S, μ, e, s, ?_⟩
  exact h.bnd fun x S1 μ1 H1 s1 r1 h1 v rv => asBl_ok r1 rv h1

/-! ### calls of built-ins -/
def CRD (X : Cx) (W : WX) (f : Value) (g : List D → M D) : Prop := ∃ r, CallR X f r ∧
  ∀ ds vs μ S σ H Q, Rel X.K μ S H → RDs X.K μ H ds vs → Post X.K X.mg W μ σ H (g ds S) (QD X.K Q) → r vs H Q
theorem d_callB {id : String} {x : Str} {p : Pos} {e : Expr} {es : List Expr} {g : List D → M D} {t : EvL} (o : CRD X W (.builtin id) g) (hg : Gl X x) (hm : X.mg x = none) (hv : bootBuiltins x = some (.builtin id)) (ha : PA X (e :: es) (tA X.K X.mg W t))
    (hn : x ≠ "__name__" := by decide) (hdb : (x == ("__debug__" : Str)) = false := by decide)
    (he : starEach (e :: es) X.env = (false, eval e X.env) :: starEach es X.env := by rfl) (hpl : (backTo pos (starEach es X.env)).any (·.1) = false := by rfl) : PE X (.Call (.Name x p) (e :: es) [] pos) (tD X.K X.mg W (eCall g t)) := by
  obtain ⟨r, ho, hr⟩ := o
  refine PE.imp (pe_callB ho hg hm hv ha hn hdb he hpl) fun σ H Q ⟨ρ, S, μ, e, s, h⟩ => ?_
  exact ⟨ρ, S, μ, e, s, h.bnd fun xs S1 μ1 H1 s1 r1 h1 vs rvs => hr _ _ _ _ _ _ _ r1 rvs h1⟩
theorem d_callTy {T : String} {x : Str} {p : Pos} {e : Expr} {es : List Expr} {g : List D → M D} {t : EvL} (o : CRD X W (.type T) g) (hg : Gl X x) (hm : X.mg x = none) (hv : bootBuiltins x = some (.type T)) (ha : PA X (e :: es) (tA X.K X.mg W t))
    (hn : x ≠ "__name__" := by decide) (hdb : (x == ("__debug__" : Str)) = false := by decide)
    (he : starEach (e :: es) X.env = (false, eval e X.env) :: starEach es X.env := by rfl) (hpl : (backTo pos (starEach es X.env)).any (·.1) = false := by rfl) : PE X (.Call (.Name x p) (e :: es) [] pos) (tD X.K X.mg W (eCall g t)) := by
  obtain ⟨r, ho, hr⟩ := o
  refine PE.imp (pe_callTy ho hg hm hv ha hn hdb he hpl) fun σ H Q ⟨ρ, S, μ, e, s, h⟩ => ?_
  exact ⟨ρ, S, μ, e, s, h.bnd fun xs S1 μ1 H1 s1 r1 h1 vs rvs => hr _ _ _ _ _ _ _ r1 rvs h1⟩

def gLen (xs : List D) : M D := fun S => match xs with
  | [.str x] => if x.length ≤ sizeLine then .ok (.int x.length) S else .bad
  | [d] => match iLst S d with
    | some ds => .ok (.int ds.length) S
    | none => .bad
  | _ => .bad
theorem c_len : CRD X W (.builtin "len") gLen := by
  refine ⟨_, call_len, fun ds vs μ S σ H Q r rds h => ?_⟩
  unfold gLen at h
  split at h
  · split at h
    · rename_i hl
      cases rds with
      | cons h1 h2 => cases h1; cases h2; exact ⟨_, _, rfl, ⟨hl, rfl⟩, h.now r _ (.int _)⟩
    · exact h.elim
  · cases rds with
    | cons h1 h2 =>
      cases h2
      split at h
      · rename_i ds e
        obtain ⟨a, vs, rfl, q, z⟩ := iLst_ok e r h1
        have hl := z.length
        refine ⟨_, vs.length, rfl, ?_, by rw [← hl]; exact h.now r _ (.int _)⟩
        rcases q with q | q
        · exact .inl ⟨vs, q, rfl⟩
        · exact .inr ⟨vs, q, rfl⟩
      · exact h.elim
  · exact h.elim
def gInt (xs : List D) : M D := fun S => match xs with
  | [.int i] => .ok (.int i) S
  | [.bl k] => .ok (.int (if k then 1 else 0)) S
  | _ => .bad
theorem c_int : CRD X W (.type "int") gInt := by
  refine ⟨_, call_int1, fun ds vs μ S σ H Q r rds h => ?_⟩
  unfold gInt at h
  split at h
  · cases rds with
    | cons h1 h2 => cases h1; cases h2; exact .inl ⟨_, rfl, h.now r _ (.int _)⟩
  · cases rds with
    | cons h1 h2 => cases h1; cases h2; exact .inr ⟨_, rfl, h.now r _ (.int _)⟩
  · exact h.elim
def gStr (xs : List D) : M D := fun S => match xs with
  | [.int i] => if i.natAbs.log2 < 1920 then .ok (.str (toString i)) S else .bad
  | _ => .bad
theorem c_str : CRD X W (.type "str") gStr := by
  refine ⟨_, call_str_int, fun ds vs μ S σ H Q r rds h => ?_⟩
  unfold gStr at h
  split at h
  · cases rds with
    | cons h1 h2 =>
      cases h1; cases h2
      split at h
      · rename_i hl; exact ⟨_, rfl, hl, h.now r _ (.str _)⟩
      · exact h.elim
  · exact h.elim
def gList (xs : List D) : M D := fun S => match xs with
  | [d] => match iLst S d with
    | some ds => .ok (.lst ds) S
    | none => .bad
  | _ => .bad
def gListM (xs : List D) : M D := fun S => match xs with
  | [d] => match iLst S d with
    | some ds => .ok (.ref S.length) (S ++ [.lst ds])
    | none => .bad
  | _ => .bad
theorem c_list : CRD X W (.type "list") gList := by
  refine ⟨_, call_list_of, fun ds vs μ S σ H Q r rds h => ?_⟩
  unfold gList at h
  split at h
  · cases rds with
    | cons h1 h2 =>
      cases h2
      split at h
      · rename_i ds e
        obtain ⟨a, vs, rfl, q, z⟩ := iLst_ok e r h1
        exact ⟨_, _, rfl, q, fun p hp => h μ _ (Stp.new hp) (r.new hp) _ (.lst upd_same ⟨fun z => r.there z hp, fun z => r.hid _ z hp⟩ (z.step r (Stp.new hp)))⟩
      · exact h.elim
  · exact h.elim
theorem c_listM : CRD X W (.type "list") gListM := by
  refine ⟨_, call_list_of, fun ds vs μ S σ H Q r rds h => ?_⟩
  unfold gListM at h
  split at h
  · cases rds with
    | cons h1 h2 =>
      cases h2
      split at h
      · rename_i ds e
        obtain ⟨a, vs, rfl, q, z⟩ := iLst_ok e r h1
        exact ⟨_, _, rfl, q, fun p hp => h (μ.push p) _ (Stp.alloc hp) (r.alloc hp ⟨vs, upd_same, z.step r (Stp.alloc hp)⟩) _ (new_ref r)⟩
      · exact h.elim
  · exact h.elim
def gTuple (xs : List D) : M D := fun S => match xs with
  | [d] => match iLst S d with
    | some ds => .ok (.tup ds) S
    | none => .bad
  | _ => .bad
theorem c_tuple : CRD X W (.type "tuple") gTuple := by
  refine ⟨_, call_tuple_of, fun ds vs μ S σ H Q r rds h => ?_⟩
  unfold gTuple at h
  split at h
  · cases rds with
    | cons h1 h2 =>
      cases h2
      split at h
      · rename_i ds e
        obtain ⟨a, vs, rfl, q, z⟩ := iLst_ok e r h1
        refine ⟨_, vs, rfl, ?_⟩
        rcases q with q | q
        · exact .inl ⟨q, fun p hp => h μ _ (Stp.new hp) (r.new hp) _ (.tup (.inl (.inl upd_same)) (z.step r (Stp.new hp)))⟩
        · exact .inr ⟨q, h.now r _ (.tup q z)⟩
      · exact h.elim
  · exact h.elim
def blsOf : List D → Option (List Bool)
  | [] => some []
  | .bl b :: ds => (blsOf ds).map (b :: ·)
  | _ :: _ => none
def intsOf : List D → Option (List Int)
  | [] => some []
  | .int b :: ds => (intsOf ds).map (b :: ·)
  | _ :: _ => none
def strsOf : List D → Option (List Str)
  | [] => some []
  | .str b :: ds => (strsOf ds).map (b :: ·)
  | _ :: _ => none
theorem blsOf_ok : ∀ {ds : List D} {bs : List Bool}, blsOf ds = some bs → ds = bs.map D.bl
  | [], _, h => by cases h; rfl
  | d :: ds, bs, h => by
    unfold blsOf at h
    split at h
    · rename_i e; cases e
    · rename_i b ds' e; cases e
      rw [Option.map_eq_some_iff] at h
      obtain ⟨bs', e, rfl⟩ := h
      simp [blsOf_ok e]
    · cases h
theorem intsOf_ok : ∀ {ds : List D} {bs : List Int}, intsOf ds = some bs → ds = bs.map D.int
  | [], _, h => by cases h; rfl
  | d :: ds, bs, h => by
    unfold intsOf at h
    split at h
    · rename_i e; cases e
    · rename_i b ds' e; cases e
      rw [Option.map_eq_some_iff] at h
      obtain ⟨bs', e, rfl⟩ := h
      simp [intsOf_ok e]
    · cases h
theorem strsOf_ok : ∀ {ds : List D} {bs : List Str}, strsOf ds = some bs → ds = bs.map D.str
  | [], _, h => by cases h; rfl
  | d :: ds, bs, h => by
    unfold strsOf at h
    split at h
    · rename_i e; cases e
    · rename_i b ds' e; cases e
      rw [Option.map_eq_some_iff] at h
      obtain ⟨bs', e, rfl⟩ := h
      simp [strsOf_ok e]
    · cases h
theorem intsOf_map : ∀ ns : List Int, intsOf (ns.map D.int) = some ns
  | [] => rfl
  | n :: ns => by simp [intsOf, intsOf_map ns]
theorem blsOf_map : ∀ ns : List Bool, blsOf (ns.map D.bl) = some ns
  | [] => rfl
  | n :: ns => by simp [blsOf, blsOf_map ns]
theorem strsOf_map : ∀ ns : List Str, strsOf (ns.map D.str) = some ns
  | [] => rfl
  | n :: ns => by simp [strsOf, strsOf_map ns]
def gAll (xs : List D) : M D := fun S => match xs with
  | [d] => match (iSeq S d).bind blsOf with
    | some bs => .ok (.bl (bs.all id)) S
    | none => .bad
  | _ => .bad
def gAny (xs : List D) : M D := fun S => match xs with
  | [d] => match (iSeq S d).bind blsOf with
    | some bs => .ok (.bl (bs.any id)) S
    | none => .bad
  | _ => .bad
def gSum (xs : List D) : M D := fun S => match xs with
  | [d] => match (iSeq S d).bind intsOf with
    | some ns => .ok (.int ns.sum) S
    | none => .bad
  | _ => .bad
theorem c_all (hc : X.calm = true) : CRD X W (.builtin "all") gAll := by
  refine ⟨_, cr_all hc, fun ds vs μ S σ H Q r rds h => ?_⟩
  unfold gAll at h
  split at h
  · cases rds with
    | cons h1 h2 =>
      cases h2
      split at h
      · rename_i bs e
        rw [Option.bind_eq_some_iff] at e
        obtain ⟨ds, e1, e2⟩ := e
        obtain ⟨a, vs, rfl, q, z⟩ := iSeq_ok e1 r h1
        rw [blsOf_ok e2] at z
        rw [z.bls] at q
        exact ⟨_, _, rfl, q, h.now r _ (.bl _)⟩
      · exact h.elim
  · exact h.elim
theorem c_any (hc : X.calm = true) : CRD X W (.builtin "any") gAny := by
  refine ⟨_, cr_any hc, fun ds vs μ S σ H Q r rds h => ?_⟩
  unfold gAny at h
  split at h
  · cases rds with
    | cons h1 h2 =>
      cases h2
      split at h
      · rename_i bs e
        rw [Option.bind_eq_some_iff] at e
        obtain ⟨ds, e1, e2⟩ := e
        obtain ⟨a, vs, rfl, q, z⟩ := iSeq_ok e1 r h1
        rw [blsOf_ok e2] at z
        rw [z.bls] at q
        exact ⟨_, _, rfl, q, h.now r _ (.bl _)⟩
      · exact h.elim
  · exact h.elim
theorem c_sum (hc : X.calm = true) : CRD X W (.builtin "sum") gSum := by
  refine ⟨_, cr_sum hc, fun ds vs μ S σ H Q r rds h => ?_⟩
  unfold gSum at h
  split at h
  · cases rds with
    | cons h1 h2 =>
      cases h2
      split at h
      · rename_i bs e
        rw [Option.bind_eq_some_iff] at e
        obtain ⟨ds, e1, e2⟩ := e
        obtain ⟨a, vs, rfl, q, z⟩ := iSeq_ok e1 r h1
        rw [intsOf_ok e2] at z
        rw [z.ints] at q
        exact ⟨_, _, rfl, q, h.now r _ (.int _)⟩
      · exact h.elim
  · exact h.elim
def gMax2 (xs : List D) : M D := fun S => match xs with
  | [.int i, .int j] => .ok (.int (if j > i then j else i)) S
  | _ => .bad
def gMin2 (xs : List D) : M D := fun S => match xs with
  | [.int i, .int j] => .ok (.int (if j < i then j else i)) S
  | _ => .bad
theorem c_max2 (hc : X.calm = true) : CRD X W (.builtin "max") gMax2 := by
  refine ⟨_, call_max2 hc, fun ds vs μ S σ H Q r rds h => ?_⟩
  unfold gMax2 at h
  split at h
  · cases rds with
    | cons h1 h2 => cases h1; cases h2 with
      | cons h3 h4 => cases h3; cases h4; exact ⟨_, _, rfl, h.now r _ (.int _)⟩
  · exact h.elim
theorem c_min2 (hc : X.calm = true) : CRD X W (.builtin "min") gMin2 := by
  refine ⟨_, call_min2 hc, fun ds vs μ S σ H Q r rds h => ?_⟩
  unfold gMin2 at h
  split at h
  · cases rds with
    | cons h1 h2 => cases h1; cases h2 with
      | cons h3 h4 => cases h3; cases h4; exact ⟨_, _, rfl, h.now r _ (.int _)⟩
  · exact h.elim

/-! isinstance with a built-in type -/
def typN (S : Sto) : D → Option String
  | .non => some "NoneType"
  | .bl _ => some "bool"
  | .int _ => some "int"
  | .str _ => some "str"
  | .tup _ => some "tuple"
  | .lst _ => some "list"
  | .fl _ => some "list"
  | .ref n => match S[n]? with
    | some (.lst _) => some "list"
    | some (.dct _) => some "dict"
    | none => none
  | .fn _ => none
def isiN (a b : String) : Bool := a == b || (a == "bool" && b == "int")
def gIsi (T : String) (d : D) : M D := fun S => match typN S d with
  | some a => .ok (.bl (isiN a T)) S
  | none => .bad
def eIsi (T : String) (a : EvD) : EvD := fun ρ => bnd (a ρ) (gIsi T)
theorem typN_ok {K : PySem.W.Frag} {μ : Mu} {S : Sto} {H : Hp} {d : D} {v : V} {a : String} (e : typN S d = some a) (r : Rel K μ S H) (h : RD K μ H d v) : TyX K H v (.type a) ∧ a ∈ ["NoneType", "bool", "int", "str", "tuple", "list", "dict"] := by
  cases h with
  | non => cases e; exact ⟨.base .non, by decide⟩
  | bl b => cases e; exact ⟨.base (.bl _), by decide⟩
  | int b => cases e; exact ⟨.base (.int _), by decide⟩
  | str b => cases e; exact ⟨.base (.str _), by decide⟩
  | fn h1 => cases e
  | tup h1 h2 =>
    cases e
    refine ⟨?_, by decide⟩
    rcases h1 with (h1 | ⟨o, h1⟩) | ⟨o, its, n, h1, h3, _⟩
    · exact .base (.tup h1)
    · exact .fTuple h1
    · exact .kTuple h1 h3
  | lst h1 _ _ => cases e; exact ⟨.base (.lst h1), by decide⟩
  | fl h1 _ =>
    cases e
    refine ⟨?_, by decide⟩
    rcases h1 with ⟨o, h1⟩ | ⟨o, its, n, h1, h3, _⟩
    · exact .base (.frz h1)
    · exact .kList h1 h3
  | @ref n a h1 =>
    unfold typN at e
    simp only at e
    split at e
    · rename_i hs; cases e
      obtain ⟨vs, q, z⟩ := r.obj _ _ _ h1 hs
      exact ⟨.base (.lst q), by decide⟩
    · rename_i hs; cases e
      obtain ⟨vs, q, z⟩ := r.obj _ _ _ h1 hs
      exact ⟨.base (.dK q), by decide⟩
    · cases e
theorem isiN_ok {K : PySem.W.Frag} {a b : String} (ha : a ∈ ["NoneType", "bool", "int", "str", "tuple", "list", "dict"]) (hb : b ∈ ["bool", "int", "str", "tuple", "list", "dict"]) : PySem.W.kitOne K (.type a) (.type b) = some (isiN a b) := by
  have key : (["NoneType", "bool", "int", "str", "tuple", "list", "dict"].all fun a => ["bool", "int", "str", "tuple", "list", "dict"].all fun b => decide (kitB a b = some (isiN a b))) = true := by decide +kernel
  exact kit_ty (of_decide_eq_true (List.all_eq_true.mp (List.all_eq_true.mp key a ha) b hb))
theorem d_isi {e : Expr} {te : EvD} {p1 p2 : Pos} (T : String) {tn : Str} (hg : Gl X "isinstance") (hm : X.mg "isinstance" = none) (he : PE X e (tD X.K X.mg W te)) (gt : Gl X tn) (mt : X.mg tn = none) (bt : bootBuiltins tn = some (.type T)) (hT : T ∈ ["bool", "int", "str", "tuple", "list", "dict"])
    (nt : tn ≠ "__name__" := by decide) (dt : (tn == ("__debug__" : Str)) = false := by decide)
    (hs : starEach [e, .Name tn p2] X.env = (false, eval e X.env) :: starEach [.Name tn p2] X.env := by rfl) :
    PE X (.Call (.Name "isinstance" p1) [e, .Name tn p2] [] pos) (tD X.K X.mg W (eIsi T te)) := by
  refine PE.imp (pe_callB call_isi hg hm (by decide +kernel) (pa_cons he (pa_cons (pe_bltn gt mt bt (v := .ty T) rfl nt dt) pa_nil) hs) (by decide) (by decide) hs) fun σ H Q ⟨ρ, S, μ, e, s, h⟩ => ?_
  refine ⟨ρ, S, μ, e, s, h.bnd fun d S1 μ1 H1 s1 r1 h1 v rv => ?_⟩
  unfold gIsi at h1
  split at h1
  · rename_i a ea
    obtain ⟨ty, ma⟩ := typN_ok ea r1 rv
    exact ⟨_, _, _, _, _, rfl, .ty T, ty, isiN_ok ma hT, h1.now r1 _ (.bl _)⟩
  · exact h1.elim

/-! ### subscripts, slices -/
def gIx (x i : D) : M D := fun S => match x, i with
  | .str z, .int k => if z.length ≤ sizeLine then match atI z.cps.toList k with
      | some c => .ok (.str ⟨#[c]⟩) S
      | none => .bad
    else .bad
  | x, .int k => match iLst S x with
    | some ds => match atI ds k with
      | some d => .ok d S
      | none => .bad
    | none => .bad
  | _, _ => .bad
theorem atI_rel {K : PySem.W.Frag} {μ : Mu} {H : Hp} {ds : List D} {vs : List V} {i : Int} {d : D} (z : RDs K μ H ds vs) (e : atI ds i = some d) : ∃ v, atI vs i = some v ∧ RD K μ H d v := by
  unfold atI at e ⊢
  rw [Option.bind_eq_some_iff] at e
  obtain ⟨j, e1, e2⟩ := e
  obtain ⟨v, e3, rv⟩ := z.get e2
  exact ⟨v, by rw [← z.length, e1]; exact e3, rv⟩
theorem d_ix {a b : Expr} {ta tb : EvD} (ha : PE X a (tD X.K X.mg W ta)) (hb : PE X b (tD X.K X.mg W tb)) (hs : PlainIx b := by exact fun _ _ => rfl) : PE X (.Subscript a b pos) (tD X.K X.mg W (eBin gIx ta tb)) := by
  refine PE.imp (pe_ix ix_seq ha hb hs) fun σ H Q h => bin_ok (fun x y v w μ S σ H Q r rx ry h => ?_) h
  unfold gIx at h
  split at h
  · cases rx; cases ry
    split at h
    · rename_i hl
      split at h
      · rename_i c hc
        exact .inr (.inr ⟨_, _, _, rfl, rfl, hl, hc, h.now r _ (.str _)⟩)
      · exact h.elim
    · exact h.elim
  · cases ry
    split at h
    · rename_i ds e
      split at h
      · rename_i d ed
        obtain ⟨a, vs, rfl, q, z⟩ := iLst_ok e r rx
        obtain ⟨v, ev, rv⟩ := atI_rel z ed
        rcases q with q | q
        · exact .inl ⟨_, _, _, _, rfl, rfl, q, ev, h.now r _ rv⟩
        · exact .inr (.inl ⟨_, _, _, _, rfl, rfl, q, ev, h.now r _ rv⟩)
      · exact h.elim
    · exact h.elim
  · exact h.elim
abbrev EvO := Rho → M (Option Int)
def oNone : EvO := fun _ => ret none
def oSome (a : EvD) : EvO := fun ρ => bnd (a ρ) fun x => match x with
  | .int i => ret (some i)
  | _ => stuck
def tO (K : PySem.W.Frag) (mg : Str → Option Value) (W : WX) (F : EvO) : TO := fun σ H Q => ∃ ρ S μ, RE K μ H σ ρ ∧ Rel K μ S H ∧ Post K mg W μ σ H (F ρ S) (fun o _ H' => Q o H')
theorem PO.imp {e : Option Expr} {t t' : TO} (h : PO X e t) (f : ∀ σ H Q, t' σ H Q → t σ H Q) : PO X e t' := ⟨fun pins s σ H Q I q => h.run pins s σ H Q I (f σ H Q q)⟩
theorem o_none : PO X none (tO X.K X.mg W oNone) := PO.imp po_none fun σ H Q ⟨ρ, S, μ, e, s, h⟩ => h.now s
theorem o_some {e : Expr} {te : EvD} (h : PE X e (tD X.K X.mg W te)) : PO X (some e) (tO X.K X.mg W (oSome te)) := by
  refine PO.imp (po_some h) fun σ H Q ⟨ρ, S, μ, e, s, h⟩ => ?_
  refine ⟨ρ, S, μ, e, s, h.bnd fun x S1 μ1 H1 s1 r1 h1 v rv => ?_⟩
  split at h1
  · cases rv; exact ⟨_, rfl, h1.now r1⟩
  · exact h1.elim
def cutD (xs : List D) (lo hi : Option Int) : List D := (xs.drop (HT.sIx xs.length 0 lo)).take (HT.sIx xs.length xs.length hi - HT.sIx xs.length 0 lo)
theorem cut_rel {K : PySem.W.Frag} {μ : Mu} {H : Hp} {ds : List D} {vs : List V} (z : RDs K μ H ds vs) (lo hi : Option Int) : RDs K μ H (cutD ds lo hi) (cutV vs lo hi) := by
  unfold cutD cutV
  rw [z.length]
  exact (z.drop _).take _
def gSl (mu : Bool) (x : D) (lo hi : Option Int) : M D := fun S => match x with
  | .str z => if z.length ≤ sizeLine then .ok (.str (cutS z lo hi)) S else .bad
  | .tup ds => .ok (.tup (cutD ds lo hi)) S
  | x => match iSeq S x with
    | some ds => if mu then .ok (.ref S.length) (S ++ [.lst (cutD ds lo hi)]) else .ok (.lst (cutD ds lo hi)) S
    | none => .bad
def eSl (mu : Bool) (a : EvD) (lo hi : EvO) : EvD := fun ρ => bnd (a ρ) fun x => bnd (lo ρ) fun l => bnd (hi ρ) fun h => gSl mu x l h
theorem d_slice (mu : Bool) {e : Expr} {lo hi : Option Expr} {te : EvD} {tl th : EvO} {p2 : Pos} (he : PE X e (tD X.K X.mg W te)) (hl : PO X lo (tO X.K X.mg W tl)) (hu : PO X hi (tO X.K X.mg W th)) : PE X (.Subscript e (.Slice lo hi none p2) pos) (tD X.K X.mg W (eSl mu te tl th)) := by
  refine PE.imp (pe_slice (sl_str.or (sl_tupA.or sl_list)) he hl hu) fun σ H Q ⟨ρ, S, μ, e, s, h⟩ => ?_
  refine ⟨ρ, S, μ, e, s, h.bnd fun x S1 μ1 H1 s1 r1 h1 v rv => ?_⟩
  refine ⟨ρ, S1, μ1, e.step s s1, r1, h1.bnd fun l S2 μ2 H2 s2 r2 h2 => ?_⟩
  refine ⟨ρ, S2, μ2, (e.step s s1).step r1 s2, r2, h2.bnd fun u S3 μ3 H3 s3 r3 h3 => ?_⟩
  have rv3 := (rv.step r1 s2).step r2 s3
  unfold gSl at h3
  split at h3
  · cases rv3
    split at h3
    · rename_i hz; exact .inl ⟨_, rfl, hz, h3.now r3 _ (.str _)⟩
    · exact h3.elim
  · cases rv3 with
    | @tup a vs ds q z =>
      have hcut : HT.sIx vs.length 0 l = 0 ∧ HT.sIx vs.length vs.length u = vs.length → cutV vs l u = vs := fun ⟨e1, e2⟩ => by
        unfold cutV; rw [e1, e2]; simp
      refine .inr (.inl ⟨_, _, rfl, q, fun w => h3.now r3 _ (.tup q ?_), fun _ p hp => h3 μ3 _ (Stp.new hp) (r3.new hp) _ (.tup (.inl (.inl upd_same)) ((cut_rel z l u).step r3 (Stp.new hp)))⟩)
      have := cut_rel z l u
      rw [hcut w] at this
      exact this
  · split at h3
    · rename_i ds e
      obtain ⟨a, vs, rfl, q, z⟩ := iSeq_ok e r3 rv3
      refine .inr (.inr ⟨_, _, rfl, q, fun p hp => ?_⟩)
      cases mu with
      | true => exact h3 (μ3.push p) _ (Stp.alloc hp) (r3.alloc hp ⟨_, upd_same, (cut_rel z l u).step r3 (Stp.alloc hp)⟩) _ (new_ref r3)
      | false => exact h3 μ3 _ (Stp.new hp) (r3.new hp) _ (.lst upd_same ⟨fun z => r3.there z hp, fun z => r3.hid _ z hp⟩ ((cut_rel z l u).step r3 (Stp.new hp)))
    · exact h3.elim
def gRev (mu : Bool) (x : D) : M D := fun S => match iSeq S x with
  | some ds => if mu then .ok (.ref S.length) (S ++ [.lst ds.reverse]) else .ok (.lst ds.reverse) S
  | none => .bad
/-- xs[::-1] -/
theorem d_rev (mu : Bool) {e : Expr} {te : EvD} {k : Nat} {p1 p2 p3 : Pos} (he : PE X e (tD X.K X.mg W te)) : PE X (.Subscript e (.Slice none none (some (.UnaryOp .USub (.Constant (.int 1) k p1) p2)) p3) pos) (tD X.K X.mg W (eUn (gRev mu) te)) := by
  refine PE.imp (pe_revL he) fun σ H Q ⟨ρ, S, μ, e, s, h⟩ => ?_
  refine ⟨ρ, S, μ, e, s, h.bnd fun x S1 μ1 H1 s1 r1 h1 v rv => ?_⟩
  unfold gRev at h1
  split at h1
  · rename_i ds e
    obtain ⟨a, vs, rfl, q, z⟩ := iSeq_ok e r1 rv
    refine ⟨_, _, rfl, q, fun p hp => ?_⟩
    cases mu with
    | true => exact h1 (μ1.push p) _ (Stp.alloc hp) (r1.alloc hp ⟨_, upd_same, z.reverse.step r1 (Stp.alloc hp)⟩) _ (new_ref r1)
    | false => exact h1 μ1 _ (Stp.new hp) (r1.new hp) _ (.lst upd_same ⟨fun z => r1.there z hp, fun z => r1.hid _ z hp⟩ (z.reverse.step r1 (Stp.new hp)))
  · exact h1.elim
end
end DL

/-! DL4: methods, what is walked, comprehensions. -/
namespace DL
open PySem L2

/-! ### methods -/
def isTy (S : Sto) (T : String) (d : D) : Bool := match d with
  | .str _ => T == "str"
  | .lst _ => T == "list"
  | .fl _ => T == "list"
  | .ref n => match S[n]? with
    | some (.lst _) => T == "list"
    | some (.dct _) => T == "dict"
    | none => false
  | _ => false
def chkT (T : String) (d : D) : M D := fun S => if isTy S T d = true then .ok d S else .bad
def eMeth (T : String) (g : D → List D → M D) (o : EvD) (as : EvL) : EvD := fun ρ => bnd (o ρ) fun x => bnd (chkT T x) fun x => bnd (as ρ) fun xs => g x xs
section
variable {X : Cx} {W : WX} {pos : Pos}
theorem isTy_ok {K : PySem.W.Frag} {μ : Mu} {S : Sto} {H : Hp} {T : String} {d : D} {v : V} (e : isTy S T d = true) (r : Rel K μ S H) (h : RD K μ H d v) : tyV K T v H := by
  unfold isTy at e
  split at e
  · cases h; exact eq_of_beq e
  · cases h with | lst h1 _ _ => exact .inl ⟨eq_of_beq e, _, .inl (.inl h1)⟩
  · cases h with
    | fl h1 _ =>
      rcases h1 with ⟨o, h1⟩ | h1
      · exact .inl ⟨eq_of_beq e, _, .inl (.inr ⟨o, h1⟩)⟩
      · exact .inl ⟨eq_of_beq e, _, .inr h1⟩
  · cases h with
    | @ref n a h1 =>
      split at e
      · rename_i hs
        obtain ⟨vs, q, z⟩ := r.obj _ _ _ h1 hs
        exact .inl ⟨eq_of_beq e, _, .inl (.inl q)⟩
      · rename_i hs
        obtain ⟨vs, q, z⟩ := r.obj _ _ _ h1 hs
        exact .inr (.inr (.inl ⟨eq_of_beq e, .inl ⟨_, q⟩⟩))
      · cases e
  · cases e
def MRD (X : Cx) (W : WX) (id : String) (g : D → List D → M D) : Prop := ∃ r, MtR X id r ∧
  ∀ d ds v vs μ S σ H Q, Rel X.K μ S H → RD X.K μ H d v → RDs X.K μ H ds vs → Post X.K X.mg W μ σ H (g d ds S) (QD X.K Q) → r v vs H Q
theorem d_meth {o e : Expr} {es : List Expr} {to : EvD} {t : EvL} {name : Str} {apos cpos : Pos} {T id : String} {g : D → List D → M D} (pa : PlainAttrs T) (slot : Slot T name id) (hty : typeOf (.builtin id) = pure (.type "method_descriptor")) (m : MRD X W id g) (ho : PE X o (tD X.K X.mg W to)) (ha : PA X (e :: es) (tA X.K X.mg W t))
    (hbase : attributeBase o name X.env (eval o X.env) = eval o X.env := by rfl)
    (hfew : ((backTo cpos (starEach (e :: es) X.env)).all (fun x => !x.1) && (backToKw cpos (keywordEach [] X.env)).all (fun x => x.1.isSome)
      && decide ((e :: es).length + ([] : List Keyword).length + (if ([] : List Keyword).isEmpty then 0 else 1) < 30)) = true := by rfl)
    (hline : (apos.endLine == cpos.line) = true := by rfl) (hs : starEach (e :: es) X.env = (false, eval e X.env) :: starEach es X.env := by rfl) (hplain : (backTo cpos (starEach es X.env)).any (·.1) = false := by rfl) :
    PE X (.Call (.Attribute o name apos) (e :: es) [] cpos) (tD X.K X.mg W (eMeth T g to t)) := by
  obtain ⟨r, hm, hr⟩ := m
  refine PE.imp (pe_bm pa slot hty hm ho ha hbase hfew hline hs hplain) fun σ H Q ⟨ρ, S, μ, e, s, h⟩ => ?_
  refine ⟨ρ, S, μ, e, s, h.bnd fun x S1 μ1 H1 s1 r1 h1 v rv => ?_⟩
  by_cases ty : isTy S1 T x = true
  · have h1' : Post X.K X.mg W μ1 σ H1 (bnd (t ρ) (fun xs => g x xs) S1) (QD X.K Q) := by
      unfold bnd chkT at h1
      rw [if_pos ty] at h1
      exact h1
    exact ⟨isTy_ok ty r1 rv, ρ, S1, μ1, e.step s s1, r1, h1'.bnd fun xs S2 μ2 H2 s2 r2 h2 vs rvs => hr _ _ _ _ _ _ _ _ _ r2 (rv.step r1 s2) rvs h2⟩
  · unfold bnd chkT at h1
    rw [if_neg ty] at h1
    exact h1.elim
theorem d_meth0 {o : Expr} {to : EvD} {name : Str} {apos cpos : Pos} {T id : String} {g : D → List D → M D} (pa : PlainAttrs T) (slot : Slot T name id) (hty : typeOf (.builtin id) = pure (.type "method_descriptor")) (m : MRD X W id g) (ho : PE X o (tD X.K X.mg W to))
    (hbase : attributeBase o name X.env (eval o X.env) = eval o X.env := by rfl) (hline : (apos.endLine == cpos.line) = true := by rfl) :
    PE X (.Call (.Attribute o name apos) [] [] cpos) (tD X.K X.mg W (eMeth T g to aNil)) := by
  obtain ⟨r, hm, hr⟩ := m
  refine PE.imp (pe_bm0 pa slot hty hm ho hbase hline) fun σ H Q ⟨ρ, S, μ, e, s, h⟩ => ?_
  refine ⟨ρ, S, μ, e, s, h.bnd fun x S1 μ1 H1 s1 r1 h1 v rv => ?_⟩
  by_cases ty : isTy S1 T x = true
  · have h1' : Post X.K X.mg W μ1 σ H1 (g x [] S1) (QD X.K Q) := by
      unfold bnd chkT at h1
      rw [if_pos ty] at h1
      exact h1
    exact ⟨isTy_ok ty r1 rv, hr _ _ _ _ _ _ _ _ _ r1 rv .nil h1'⟩
  · unfold bnd chkT at h1
    rw [if_neg ty] at h1
    exact h1.elim

def gAppend (x : D) (xs : List D) : M D := fun S => match x, xs with
  | .ref n, [d] => match atL S n with
    | some ds => if ds.length < sizeLine then .ok .non (S.set n (.lst (ds ++ [d]))) else .bad
    | none => .bad
  | _, _ => .bad
theorem m_append : MRD X W "list.append" gAppend := by
  refine ⟨_, mt_append, fun d ds v vs μ S σ H Q r rd rds h => ?_⟩
  unfold gAppend at h
  split at h
  · cases rds with
    | cons h1 h2 =>
      cases h2
      split at h
      · rename_i ds e
        split at h
        · rename_i hl
          cases rd with
          | @ref n a hn =>
            obtain ⟨vs, q, z⟩ := r.obj _ a _ hn (atL_ok e)
            have hm : a ∈ μ.v := List.mem_of_getElem? hn
            refine ⟨a, vs, _, rfl, rfl, q, by rw [← z.length]; exact hl, ?_⟩
            exact h μ _ (Stp.put hm) (r.put hn ⟨_, upd_same, (z.step r (Stp.put hm)).append (.cons (h1.step r (Stp.put hm)) .nil)⟩) _ .non
        · exact h.elim
      · exact h.elim
  · exact h.elim
def gPop (x : D) (xs : List D) : M D := fun S => match x, xs with
  | .ref n, [] => match atL S n with
    | some ds => match ds[ds.length - 1]? with
      | some d => .ok d (S.set n (.lst ds.dropLast))
      | none => .bad
    | none => .bad
  | .ref n, [.int i] => match atL S n with
    | some ds => match seqIndex? i ds.length with
      | some k => match ds[k]? with
        | some d => if -(2 ^ 63) ≤ i ∧ i < 2 ^ 63 then .ok d (S.set n (.lst (ds.eraseIdx k))) else .bad
        | none => .bad
      | none => .bad
    | none => .bad
  | _, _ => .bad
theorem m_pop : MRD X W "list.pop" gPop := by
  refine ⟨_, MtR.or mt_pop mt_popAt, fun d ds v vs μ S σ H Q r rd rds h => ?_⟩
  unfold gPop at h
  split at h
  · cases rds
    split at h
    · rename_i ds e
      split at h
      · rename_i d ed
        cases rd with
        | @ref n a hn =>
          obtain ⟨vs, q, z⟩ := r.obj _ a _ hn (atL_ok e)
          have hm : a ∈ μ.v := List.mem_of_getElem? hn
          obtain ⟨v, ev, rv⟩ := z.get ed
          refine .inl ⟨a, vs, v, rfl, rfl, q, by rw [← z.length]; exact ev, ?_⟩
          exact h μ _ (Stp.put hm) (r.put hn ⟨_, upd_same, (z.step r (Stp.put hm)).dropLast⟩) _ (rv.step r (Stp.put hm))
      · exact h.elim
    · exact h.elim
  · cases rds with
    | cons h1 h2 =>
      cases h2; cases h1
      split at h
      · rename_i ds e
        split at h
        · rename_i k ek
          split at h
          · rename_i d ed
            split at h
            · rename_i hb
              cases rd with
              | @ref n a hn =>
                obtain ⟨vs, q, z⟩ := r.obj _ a _ hn (atL_ok e)
                have hm : a ∈ μ.v := List.mem_of_getElem? hn
                obtain ⟨v, ev, rv⟩ := z.get ed
                refine .inr ⟨a, vs, _, k, v, rfl, rfl, q, hb.1, hb.2, by rw [← z.length]; exact ek, ev, ?_⟩
                exact h μ _ (Stp.put hm) (r.put hn ⟨_, upd_same, (z.step r (Stp.put hm)).eraseIdx k⟩) _ (rv.step r (Stp.put hm))
            · exact h.elim
          · exact h.elim
        · exact h.elim
      · exact h.elim
  · exact h.elim
def gExtend (x : D) (xs : List D) : M D := fun S => match x, xs with
  | .ref n, [d] => match atL S n, iTrk S d with
    | some ds, some es => if ds.length + es.length ≤ sizeLine then .ok .non (S.set n (.lst (ds ++ es))) else .bad
    | _, _ => .bad
  | _, _ => .bad
theorem m_extend : MRD X W "list.extend" gExtend := by
  refine ⟨_, mt_extend, fun d ds v vs μ S σ H Q r rd rds h => ?_⟩
  unfold gExtend at h
  split at h
  · cases rds with
    | cons h1 h2 =>
      cases h2
      split at h
      · rename_i ds es e e2
        split at h
        · rename_i hl
          cases rd with
          | @ref n a hn =>
            obtain ⟨vs, q, z⟩ := r.obj _ a _ hn (atL_ok e)
            have hm : a ∈ μ.v := List.mem_of_getElem? hn
            obtain ⟨b, ws, rfl, q2, z2⟩ := iTrk_ok e2 r h1
            refine ⟨a, b, vs, ws, rfl, rfl, q, q2, by rw [← z.length, ← z2.length]; exact hl, ?_⟩
            exact h μ _ (Stp.put hm) (r.put hn ⟨_, upd_same, (z.step r (Stp.put hm)).append (z2.step r (Stp.put hm))⟩) _ .non
        · exact h.elim
      · exact h.elim
  · exact h.elim
def gSplit (mu : Bool) (x : D) (xs : List D) : M D := fun S => match x, xs with
  | .str a, [.str b] => if (b.length == 0) = false ∧ a.length + 2 ≤ sizeLine then
      (if mu then .ok (.ref S.length) (S ++ [.lst ((Txt.split a b).map .str)]) else .ok (.lst ((Txt.split a b).map .str)) S) else .bad
  | _, _ => .bad
theorem m_split (mu : Bool) : MRD X W "str.split" (gSplit mu) := by
  refine ⟨_, mt_split, fun d ds v vs μ S σ H Q r rd rds h => ?_⟩
  unfold gSplit at h
  split at h
  · cases rds with
    | cons h1 h2 =>
      cases h2; cases h1; cases rd
      split at h
      · rename_i hl
        refine ⟨_, _, rfl, rfl, hl.1, hl.2, fun p hp => ?_⟩
        cases mu with
        | true => exact h (μ.push p) _ (Stp.alloc hp) (r.alloc hp ⟨_, upd_same, RDs.of_strs _⟩) _ (new_ref r)
        | false => exact h μ _ (Stp.new hp) (r.new hp) _ (.lst upd_same ⟨fun z => r.there z hp, fun z => r.hid _ z hp⟩ (RDs.of_strs _))
      · exact h.elim
  · exact h.elim
def gJoin (x : D) (xs : List D) : M D := fun S => match x, xs with
  | .str a, [d] => match (iLst S d).bind strsOf with
    | some ys => if (ys.map (·.length)).sum + ys.length * a.length ≤ 16777216 then .ok (.str (Txt.join a ys)) S else .bad
    | none => .bad
  | _, _ => .bad
theorem m_join : MRD X W "str.join" gJoin := by
  refine ⟨_, mt_join, fun d ds v vs μ S σ H Q r rd rds h => ?_⟩
  unfold gJoin at h
  split at h
  · cases rds with
    | cons h1 h2 =>
      cases h2; cases rd
      split at h
      · rename_i ys e
        split at h
        · rename_i hl
          rw [Option.bind_eq_some_iff] at e
          obtain ⟨ds, e1, e2⟩ := e
          obtain ⟨a, vs, rfl, q, z⟩ := iLst_ok e1 r h1
          rw [strsOf_ok e2] at z
          rw [z.strs] at q
          exact ⟨_, _, _, rfl, rfl, q, hl, h.now r _ (.str _)⟩
        · exact h.elim
      · exact h.elim
  · exact h.elim
end

/-! ### what is walked -/
/-- the iterator J hands out what ds says; src: the stored list that must stand as ds meanwhile -/
def liveOk (src : Option Nat) (ds : List D) (S : Sto) : Prop := match src with
  | none => True
  | some n => S[n]? = some (.lst ds)
structure ItOk (K : PySem.W.Frag) (J : It) (src : Option Nat) (ds : List D) (G : Mu → Hp → Prop) : Prop where
  go : ∀ (i : Nat) (μ : Mu) (S : Sto) (H : Hp), i < ds.length → Rel K μ S H → liveOk src ds S → G μ H → J.go i H
  yld : ∀ (i : Nat) (x : V) (μ : Mu) (S : Sto) (H H' : Hp), i < ds.length → Rel K μ S H → liveOk src ds S → G μ H → J.yld i H x H' → Stp μ H μ H' ∧ Rel K μ S H' ∧ ∃ d, ds[i]? = some d ∧ RD K μ H' d x
  stop : ∀ (μ : Mu) (S : Sto) (H : Hp), Rel K μ S H → liveOk src ds S → G μ H → J.stop ds.length H
  step : ∀ (μ : Mu) (S : Sto) (H : Hp) (μ' : Mu) (H' : Hp), G μ H → Rel K μ S H → Stp μ H μ' H' → G μ' H'
  hide : ∀ (μ : Mu) (H : Hp) (p : Addr) (o : HO), G μ H → H p = none → G (μ.hide p) (upd H p o)
  seen : ∀ (μ : Mu) (H : Hp) (p : Addr) (xs ys : List V), G (μ.hide p) H → H p = some (.lst xs) → G (μ.hide p) (upd H p (.lst ys))
abbrev EvI := Rho → M (Option Nat × List D)
def tI (K : PySem.W.Frag) (mg : Str → Option Value) (W : WX) (F : EvI) : TI := fun σ H R => ∃ ρ S μ, RE K μ H σ ρ ∧ Rel K μ S H ∧
  Post K mg W μ σ H (F ρ S) (fun p μ' H' => ∀ J G, ItOk K J p.1 p.2 G → G μ' H' → R J H')
def srcL (d : D) : M (Option Nat × List D) := fun S => match d with
  | .tup ds => .ok (none, ds) S
  | .lst ds => .ok (none, ds) S
  | .fl ds => .ok (none, ds) S
  | .ref n => match atL S n with
    | some ds => .ok (some n, ds) S
    | none => .bad
  | .str x => .ok (none, x.cps.toList.map fun c => .str ⟨#[c]⟩) S
  | _ => .bad
def iIt (a : EvD) : EvI := fun ρ => bnd (a ρ) srcL
section
variable {K : PySem.W.Frag}
theorem it_tup {a : Addr} {ds : List D} : ItOk K (Itt K a) none ds (fun μ H => RD K μ H (.tup ds) (.ref a)) where
  go := fun i μ S H hi r _ g => by
    cases g with
    | tup q z =>
      obtain ⟨v, ev, _⟩ := z.get (List.getElem?_eq_getElem hi)
      exact ⟨_, v, q, ev⟩
  yld := fun i x μ S H H' hi r _ g y => by
    obtain ⟨rfl, y⟩ := y
    cases g with
    | tup q z =>
      obtain ⟨v, ev, rv⟩ := z.get (List.getElem?_eq_getElem hi)
      have := y _ q
      rw [this] at ev
      cases ev
      exact ⟨.refl, r, _, List.getElem?_eq_getElem hi, rv⟩
  stop := fun μ S H r _ g => by
    cases g with
    | tup q z => exact ⟨_, q, by rw [z.length]; exact Nat.le_refl _⟩
  step := fun μ S H μ' H' g r s => RD.step g r s
  hide := fun μ H p o g h => RD.hide h _ _ g
  seen := fun μ H p xs ys g h => RD.seen h _ _ g
theorem it_seq {a : Addr} {d : D} {src : Option Nat} {ds : List D} (hd : d = .lst ds ∨ d = .fl ds ∨ ∃ n, d = .ref n ∧ src = some n) : ItOk K (Itl K a) src ds (fun μ H => RD K μ H d (.ref a)) := by
  have key : ∀ (μ : Mu) (S : Sto) (H : Hp), Rel K μ S H → liveOk src ds S → RD K μ H d (.ref a) → ∃ vs, SqL K H a vs ∧ RDs K μ H ds vs := fun μ S H r l g => by
    have e : iSeq S d = some ds := by
      rcases hd with rfl | rfl | ⟨n, rfl, rfl⟩
      · rfl
      · rfl
      · show atL S n = some ds
        unfold atL
        have l' : S[n]? = some (.lst ds) := l
        rw [l']
    obtain ⟨a', vs, e1, q, z⟩ := iSeq_ok e r g
    cases e1
    exact ⟨vs, q, z⟩
  refine ⟨fun i μ S H hi r l g => ?_, fun i x μ S H H' hi r l g y => ?_, fun μ S H r l g => ?_, fun μ S H μ' H' g r s => RD.step g r s, fun μ H p o g h => RD.hide h _ _ g, fun μ H p xs ys g h => RD.seen h _ _ g⟩
  · obtain ⟨vs, q, z⟩ := key μ S H r l g
    obtain ⟨v, ev, _⟩ := z.get (List.getElem?_eq_getElem hi)
    exact ⟨_, v, q, ev⟩
  · obtain ⟨rfl, y⟩ := y
    obtain ⟨vs, q, z⟩ := key μ S _ r l g
    obtain ⟨v, ev, rv⟩ := z.get (List.getElem?_eq_getElem hi)
    have := y _ q
    rw [this] at ev
    cases ev
    exact ⟨.refl, r, _, List.getElem?_eq_getElem hi, rv⟩
  · obtain ⟨vs, q, z⟩ := key μ S H r l g
    exact ⟨_, q, by rw [z.length]; exact Nat.le_refl _⟩
theorem it_str {x : Str} : ItOk K (Its x) none (x.cps.toList.map fun c => D.str ⟨#[c]⟩) (fun _ _ => True) where
  go := fun i μ S H hi r _ g => by show i < x.cps.size; simpa using hi
  yld := fun i v μ S H H' hi r _ g y => by
    obtain ⟨rfl, c, ec, rfl⟩ := y
    refine ⟨.refl, r, _, ?_, .str _⟩
    rw [List.getElem?_map, Array.getElem?_toList, ec]
    rfl
  stop := fun μ S H r _ g => by show x.cps.size ≤ _; simp
  step := fun _ _ _ _ _ _ _ _ => trivial
  hide := fun _ _ _ _ _ _ => trivial
  seen := fun _ _ _ _ _ _ _ => trivial
def rangeD (lo : Int) (n : Nat) : List D := (List.range n).map fun i => .int (lo + (i : Nat))
theorem it_range {lo : Int} {n : Nat} : ItOk K (Itr lo n) none (rangeD lo n) (fun _ _ => True) where
  go := fun i μ S H hi r _ g => by show i < n; simpa [rangeD] using hi
  yld := fun i v μ S H H' hi r _ g y => by
    obtain ⟨rfl, rfl⟩ := y
    have hi' : i < n := by simpa [rangeD] using hi
    refine ⟨.refl, r, .int (lo + (i : Nat)), ?_, .int _⟩
    unfold rangeD
    rw [List.getElem?_map, List.getElem?_range hi']
    rfl
  stop := fun μ S H r _ g => by show n ≤ _; simp [rangeD]
  step := fun _ _ _ _ _ _ _ _ => trivial
  hide := fun _ _ _ _ _ _ => trivial
  seen := fun _ _ _ _ _ _ _ => trivial
theorem it_rev {a : Addr} {ds : List D} {d : D} {src : Option Nat} (hd : d = .lst ds ∨ d = .fl ds ∨ ∃ n, d = .ref n ∧ src = some n) : True := trivial
end
section
variable {X : Cx} {W : WX} {tg : Expr}
theorem PI.or {l : Expr} {w w' : TI} (h : PI X tg l w) (h' : PI X tg l w') : PI X tg l (fun σ H R => w σ H R ∨ w' σ H R) := ⟨fun pins s σ H R I q => by
  rcases q with q | q
  · exact h.run pins s σ H R I q
  · exact h'.run pins s σ H R I q⟩
theorem PI.imp {l : Expr} {w w' : TI} (h : PI X tg l w) (f : ∀ σ H R, w' σ H R → w σ H R) : PI X tg l w' := ⟨fun pins s σ H R I q => h.run pins s σ H R I (f σ H R q)⟩
theorem i_it {e : Expr} {te : EvD} (he : PE X e (tD X.K X.mg W te)) : PI X tg e (tI X.K X.mg W (iIt te)) := by
  refine PI.imp (PI.or (pi_list he) (PI.or (pi_tup he) (pi_str he))) fun σ H R ⟨ρ, S, μ, e, s, h⟩ => ?_
  cases hr : te ρ S with
  | bad => simp only [iIt, bnd, hr] at h; exact h.elim
  | ex x S1 =>
    refine .inl ⟨ρ, S, μ, e, s, ?_⟩
    simp only [iIt, bnd, hr] at h
    rw [hr]
    exact h
  | ok d S1 =>
    have h' : Post X.K X.mg W μ σ H (srcL d S1) (fun p μ' H' => ∀ J G, ItOk X.K J p.1 p.2 G → G μ' H' → R J H') := by
      simp only [iIt, bnd, hr] at h; exact h
    unfold srcL at h'
    split at h'
    · refine .inr (.inl ⟨ρ, S, μ, e, s, ?_⟩)
      rw [hr]
      intro μ1 H1 s1 r1 v rv
      have rv0 := rv
      cases rv with
      | tup q z => exact ⟨_, rfl, ⟨_, q⟩, (h'.mono s1).now r1 _ _ it_tup rv0⟩
    · refine .inl ⟨ρ, S, μ, e, s, ?_⟩
      rw [hr]
      intro μ1 H1 s1 r1 v rv
      have rv0 := rv
      cases rv with
      | lst q _ z => exact ⟨_, rfl, ⟨_, .inl (.inl q)⟩, (h'.mono s1).now r1 _ _ (it_seq (.inl rfl)) rv0⟩
    · refine .inl ⟨ρ, S, μ, e, s, ?_⟩
      rw [hr]
      intro μ1 H1 s1 r1 v rv
      obtain ⟨a, vs, rfl, q, z⟩ := iSeq_ok (d := .fl _) (S := S1) rfl r1 rv
      exact ⟨_, rfl, ⟨_, q⟩, (h'.mono s1).now r1 _ _ (it_seq (.inr (.inl rfl))) rv⟩
    · split at h'
      · rename_i ds e1
        refine .inl ⟨ρ, S, μ, e, s, ?_⟩
        rw [hr]
        intro μ1 H1 s1 r1 v rv
        obtain ⟨a, vs, rfl, q, z⟩ := iSeq_ok (d := .ref _) (S := S1) e1 r1 rv
        exact ⟨_, rfl, ⟨_, q⟩, (h'.mono s1).now r1 _ _ (it_seq (.inr (.inr ⟨_, rfl, rfl⟩))) rv⟩
      · exact h'.elim
    · refine .inr (.inr ⟨ρ, S, μ, e, s, ?_⟩)
      rw [hr]
      intro μ1 H1 s1 r1 v rv
      cases rv
      exact ⟨_, rfl, (h'.mono s1).now r1 _ _ it_str trivial⟩
    · exact h'.elim
def bnd62 (j : Int) : Bool := decide (-(2 ^ 62) ≤ j ∧ j < 2 ^ 62)
def srcR1 (xs : List D) : M (Option Nat × List D) := fun S => match xs with
  | [.int j] => if bnd62 j = true then .ok (none, rangeD 0 j.toNat) S else .bad
  | _ => .bad
def srcR2 (xs : List D) : M (Option Nat × List D) := fun S => match xs with
  | [.int i, .int j] => if bnd62 i = true ∧ bnd62 j = true then .ok (none, rangeD i (j - i).toNat) S else .bad
  | _ => .bad
def iRange1 (as : EvL) : EvI := fun ρ => bnd (as ρ) srcR1
def iRange2 (as : EvL) : EvI := fun ρ => bnd (as ρ) srcR2
theorem i_range1 {a : Expr} {ta : EvL} {p pos : Pos} (hg : Gl X "range") (hm : X.mg "range" = none) (ha : PA X [a] (tA X.K X.mg W ta)) (hs : starEach [a] X.env = [(false, eval a X.env)] := by rfl) : PI X tg (.Call (.Name "range" p) [a] [] pos) (tI X.K X.mg W (iRange1 ta)) := by
  refine PI.imp (pi_range1 hg hm ha hs) fun σ H R ⟨ρ, S, μ, e, s, h⟩ => ?_
  refine ⟨ρ, S, μ, e, s, h.bnd fun xs S1 μ1 H1 s1 r1 h1 vs rvs => ?_⟩
  unfold srcR1 at h1
  split at h1
  · split at h1
    · rename_i hb
      unfold bnd62 at hb
      rw [decide_eq_true_eq] at hb
      cases rvs with
      | cons q1 q2 => cases q1; cases q2; exact ⟨_, rfl, hb.1, hb.2, h1.now r1 _ _ it_range trivial⟩
    · exact h1.elim
  · exact h1.elim
theorem i_range2 {a b : Expr} {ta : EvL} {p pos : Pos} (hg : Gl X "range") (hm : X.mg "range" = none) (ha : PA X [a, b] (tA X.K X.mg W ta)) (hs : starEach [a, b] X.env = [(false, eval a X.env), (false, eval b X.env)] := by rfl) (hs2 : starEach [b] X.env = [(false, eval b X.env)] := by rfl) :
    PI X tg (.Call (.Name "range" p) [a, b] [] pos) (tI X.K X.mg W (iRange2 ta)) := by
  refine PI.imp (pi_range2 hg hm ha hs hs2) fun σ H R ⟨ρ, S, μ, e, s, h⟩ => ?_
  refine ⟨ρ, S, μ, e, s, h.bnd fun xs S1 μ1 H1 s1 r1 h1 vs rvs => ?_⟩
  unfold srcR2 at h1
  split at h1
  · split at h1
    · rename_i hb
      unfold bnd62 at hb
      simp only [decide_eq_true_eq] at hb
      cases rvs with
      | cons q1 q2 => cases q2 with
        | cons q2 q3 => cases q1; cases q2; cases q3; exact ⟨_, _, rfl, ⟨hb.1.1, hb.1.2, hb.2.1, hb.2.2⟩, h1.now r1 _ _ it_range trivial⟩
    · exact h1.elim
  · exact h1.elim

/-! ### targets -/
theorem wipe_get (σ : L2.St) : ∀ (vs : List Nat) (j : Nat), (L2.wipe σ vs)[j]? = if j ∈ vs ∧ j < σ.length then some none else σ[j]?
  | [], j => by simp [L2.wipe]
  | v :: vs, j => by
    unfold L2.wipe
    rw [List.getElem?_set, wipe_get σ vs j, L2.wipe_length]
    by_cases h : v = j
    · subst h
      by_cases h2 : v < σ.length
      · simp [h2]
      · simp [h2]
    · have h' : ¬ j = v := fun e => h e.symm
      simp [h, h']
theorem wipe_twice (σ : L2.St) (vs : List Nat) : L2.wipe (L2.wipe σ vs) vs = L2.wipe σ vs := by
  apply List.ext_getElem?
  intro j
  rw [wipe_get, wipe_get, L2.wipe_length]
  split <;> rfl
theorem wipe_set {σ : L2.St} {i : Nat} {x : Option V} {vs : List Nat} (h : i ∈ vs) : L2.wipe (σ.set i x) vs = L2.wipe σ vs := by
  apply List.ext_getElem?
  intro j
  rw [wipe_get, wipe_get, List.length_set]
  by_cases hj : j ∈ vs ∧ j < σ.length
  · rw [if_pos hj, if_pos hj]
  · rw [if_neg hj, if_neg hj, List.getElem?_set]
    by_cases e : i = j
    · subst e
      have hl : ¬ i < σ.length := fun z => hj ⟨h, z⟩
      rw [if_pos rfl, if_neg hl, List.getElem?_eq_none (by omega)]
    · rw [if_neg e]
def GRD (X : Cx) (is : List Nat) (tgt : D → Rho → Option Rho) (g : TG) : Prop := ∀ (d : D) (v : V) (ρ ρ' : Rho) (σ : L2.St) (μ : Mu) (S : Sto) (H : Hp) (Q : L2.St → Hp → Prop), RE X.K μ H σ ρ → Rel X.K μ S H → RD X.K μ H d v → tgt d ρ = some ρ' →
  (∀ σ', RE X.K μ H σ' ρ' → (∀ vs, (∀ i ∈ is, i ∈ vs) → L2.wipe σ' vs = L2.wipe σ vs) → Q σ' H) → g v σ H Q
def gN (i : Nat) : D → Rho → Option Rho := fun d ρ => some (ρ.set i (some d))
theorem g_name (i : Nat) : GRD X [i] (gN i) (gName i) := fun d v ρ ρ' σ μ S H Q e r rd h q => by
  cases h
  exact q _ (e.set rd i) fun vs hv => wipe_set (hv i (by simp))
abbrev TgL := List D → Rho → Option Rho
def gN0 : TgL := fun ds ρ => match ds with
  | [] => some ρ
  | _ => none
def gNs (i : Nat) (t : TgL) : TgL := fun ds ρ => match ds with
  | d :: ds => t ds (ρ.set i (some d))
  | [] => none
def GRDs (X : Cx) (is : List Nat) (tgt : TgL) (g : TGs) : Prop := ∀ (ds : List D) (vs : List V) (ρ ρ' : Rho) (σ : L2.St) (μ : Mu) (S : Sto) (H : Hp) (Q : L2.St → Hp → Prop), RE X.K μ H σ ρ → Rel X.K μ S H → RDs X.K μ H ds vs → tgt ds ρ = some ρ' →
  (∀ σ', RE X.K μ H σ' ρ' → (∀ vs, (∀ i ∈ is, i ∈ vs) → L2.wipe σ' vs = L2.wipe σ vs) → Q σ' H) → g vs σ H Q
theorem gs_nil : GRDs X [] gN0 gNil := fun ds vs ρ ρ' σ μ S H Q e r rd h q => by
  unfold gN0 at h
  split at h
  · cases h; cases rd; exact ⟨rfl, q _ e fun _ _ => rfl⟩
  · cases h
theorem gs_cons (i : Nat) {is : List Nat} {t : TgL} {g : TGs} (ht : GRDs X is t g) : GRDs X (i :: is) (gNs i t) (gCons (gName i) g) := fun ds vs ρ ρ' σ μ S H Q e r rd h q => by
  unfold gNs at h
  split at h
  · cases rd with
    | cons h1 h2 => exact ⟨_, _, rfl, ht _ _ _ _ _ _ _ _ _ (e.set h1 i) r h2 h fun σ' e' w => q σ' e' fun vs hv => (w vs fun j hj => hv j (by simp [hj])).trans (wipe_set (hv i (by simp)))⟩
  · cases h
def gTp (n : Nat) (t : TgL) : D → Rho → Option Rho := fun d ρ => match d with
  | .tup ds => if ds.length = n then t ds ρ else none
  | _ => none
theorem g_tup {n : Nat} {is : List Nat} {t : TgL} {g : TGs} (ht : GRDs X is t g) : GRD X is (gTp n t) (gTup X.K n g) := fun d v ρ ρ' σ μ S H Q e r rd h q => by
  unfold gTp at h
  split at h
  · split at h
    · rename_i hl
      cases rd with
      | tup h1 h2 => exact ⟨_, _, rfl, h1, by rw [← h2.length]; exact hl, ht _ _ _ _ _ _ _ _ _ e r h2 h q⟩
    · cases h
  · cases h

/-! ### comprehensions -/
open Classical in
noncomputable def compM (src : Option Nat) (all : List D) (tgt : D → Rho → Option Rho) (test : EvB) (el : EvD) (ρ : Rho) : List D → M (List D)
  | [] => fun S => if liveOk src all S then .ok [] S else .bad
  | d :: ds => fun S => if liveOk src all S then (match tgt d ρ with
    | some ρ1 => bnd (test ρ1) (fun b => if b = true then bnd (el ρ1) (fun y => bnd (compM src all tgt test el ρ ds) fun ys => ret (y :: ys)) else compM src all tgt test el ρ ds) S
    | none => .bad) else .bad
def noEx {α : Type} (m : M α) : M α := fun S => match m S with
  | .ex _ _ => .bad
  | r => r
noncomputable def eComp (it : EvI) (tgt : D → Rho → Option Rho) (test : EvB) (el : EvD) (vs : List Nat) : EvD := fun ρ => bnd (it ρ) fun p => noEx (fun S => if p.2.length ≤ sizeLine then
  (match compM p.1 p.2 tgt test el (wipeR ρ vs) p.2 S with
    | .ok ys S' => .ok (.lst ys) S'
    | .ex e S' => .ex e S'
    | .bad => .bad) else .bad)
def bYes : EvB := fun _ => ret true
abbrev W0 : WX := fun _ _ _ _ => False
theorem ts_nil : PTs X [] (tT X.K X.mg W bYes) := ⟨fun pins s σ H Q I ⟨ρ, S, μ, e, r, h⟩ => (pts_nil (X := X)).run pins s σ H Q I (show Q true H from h.now r)⟩
theorem ts_one {c : Expr} {t : EvB} (h : PT X c (tT X.K X.mg W t)) : PTs X [c] (tT X.K X.mg W t) := pts_one h
def okR {α : Type} (c : R α) (F : α → Sto → Prop) : Prop := match c with
  | .ok a S => F a S
  | _ => False
theorem Stp.side {μ μ' : Mu} {H H' : Hp} {p : Addr} {o : HO} (s : Stp μ H μ' H') (hp : H p = none) : Stp μ H μ' (upd H' p o) := by
  obtain ⟨q, k, t⟩ := s
  refine ⟨q, fun a u e z => by rw [upd_ne (ne_of_none e hp)]; exact k a u e z, fun a e => ?_⟩
  by_cases z : a = p
  · rw [z, upd_same]; simp
  · rw [upd_ne z]; exact t a e
theorem okR_bnd {α β : Type} {m : M α} {k : α → M β} {S : Sto} {F : β → Sto → Prop} (h : okR (bnd m k S) F) : okR (m S) fun a S' => okR (k a S') F := by
  unfold bnd at h
  cases e : m S with
  | ok a S' => rw [e] at h; exact h
  | ex x S' => rw [e] at h; exact h
  | bad => rw [e] at h; exact h
theorem okR_post {K : PySem.W.Frag} {mg : Str → Option Value} {W : WX} {μ : Mu} {σ : L2.St} {H : Hp} {α : Type} {r : R α} {F : α → Sto → Prop} {Q : α → Mu → Hp → Prop} (h : okR r F) (f : ∀ a S' μ' H', F a S' → Stp μ H μ' H' → Rel K μ' S' H' → Q a μ' H') : Post K mg W μ σ H r Q := by
  cases r with
  | ok a S => exact fun μ' H' s r => f a S μ' H' h s r
  | ex e S => exact False.elim h
  | bad => exact False.elim h
theorem comp_ok {it : EvI} {tgt : D → Rho → Option Rho} {g : TG} {test : EvB} {el : EvD} {is vs : List Nat} (hG : GRD X is tgt g) (his : ∀ i ∈ is, i ∈ vs) {σ : L2.St} {H : Hp} {Q : VK}
    (hh : tD X.K X.mg W (eComp it tgt test el vs) σ H Q) : tLc (tI X.K X.mg W it) g (tT X.K X.mg W0 test) (tD X.K X.mg W0 el) vs σ H Q := by
  obtain ⟨ρ, S, μ, e, s, h⟩ := hh
  refine ⟨ρ, S, μ, e, s, h.bnd fun p S1 μ1 H1 s1 r1 h1 J G io gg D hD => ?_⟩
  obtain ⟨src, all⟩ := p
  simp only [] at io h1
  -- what the denotation says
  obtain ⟨hlen, fin⟩ : all.length ≤ sizeLine ∧ okR (compM src all tgt test el (wipeR ρ vs) all S1) (fun ys S' => ∀ μ' H', Stp μ1 H1 μ' H' → Rel X.K μ' S' H' → QD X.K Q (.lst ys) μ' H') := by
    unfold noEx at h1
    simp only [] at h1
    by_cases hl : all.length ≤ sizeLine
    · refine ⟨hl, ?_⟩
      rw [if_pos hl] at h1
      cases ec : compM src all tgt test el (wipeR ρ vs) all S1 with
      | ok ys S' => rw [ec] at h1; exact h1
      | ex e S' => rw [ec] at h1; exact h1
      | bad => rw [ec] at h1; exact h1
    · rw [if_neg hl] at h1; exact h1.elim
  have hDx : D ∉ μ1.x := fun z => r1.hid D z hD
  let Inv (i : Nat) (Hc : Hp) : Prop := ∃ Sc μc acc as, i ≤ all.length ∧ Stp μ1 H1 μc Hc ∧ Rel X.K (μc.hide D) Sc Hc ∧ RE X.K (μc.hide D) Hc (L2.wipe σ vs) (wipeR ρ vs) ∧ G (μc.hide D) Hc ∧ Hc D = some (.lst acc) ∧ RDs X.K (μc.hide D) Hc as acc ∧ as.length ≤ i ∧
    okR (compM src all tgt test el (wipeR ρ vs) (all.drop i) Sc) (fun ys S' => ∀ μ' H', Stp μ1 H1 μ' H' → Rel X.K μ' S' H' → QD X.K Q (.lst (as ++ ys)) μ' H')
  refine ⟨fun i m Hc => m = all.length - i ∧ Inv i Hc, ⟨all.length, by simp, ?_⟩, ?_⟩
  · refine ⟨S1, μ1, [], [], Nat.zero_le _, Stp.new hD, r1.hide hD, ((e.step s s1).wipe vs).mapR (RD.hide hD), io.hide _ _ _ _ gg hD, upd_same, .nil, Nat.le_refl _, ?_⟩
    simpa using fin
  · rintro i m Hc ⟨rfl, Sc, μc, acc, as, hi2, st, rel, re, hG2, hacc, rds, hal, done⟩
    by_cases hlt : i < all.length
    · right
      have hdrop : all.drop i = all[i] :: all.drop (i + 1) := List.drop_eq_getElem_cons hlt
      rw [hdrop] at done
      unfold compM at done
      by_cases hlive : liveOk src all Sc
      · rw [if_pos hlive] at done
        split at done
        · rename_i ρ1 hρ1
          refine ⟨io.go i _ Sc Hc hlt rel hlive hG2, fun H' => Inv (i + 1) H', fun H' q => ⟨all.length - (i + 1), by omega, rfl, q⟩, fun x H' y => ?_⟩
          obtain ⟨sy, ry, d, hd, rd⟩ := io.yld i x _ Sc Hc H' hlt rel hlive hG2 y
          rw [List.getElem?_eq_getElem hlt] at hd
          cases hd
          obtain ⟨μy, ey, sty⟩ := sy.show
          have eμ : μy = μc := by
            obtain ⟨v1, x1⟩ := μy
            obtain ⟨v2, x2⟩ := μc
            simp only [Mu.hide, Mu.mk.injEq, List.cons.injEq, true_and] at ey
            obtain ⟨rfl, rfl⟩ := ey
            rfl
          subst eμ
          have notv : ∀ (μ : Mu) (Sx : Sto) (Hx : Hp), Rel X.K (μ.hide D) Sx Hx → D ∉ (μ.hide D).v := fun μ Sx Hx r z => r.apt D z List.mem_cons_self
          have haccy : H' D = some (.lst acc) := sy.keep D _ hacc (notv _ _ _ rel)
          refine hG _ _ _ ρ1 _ _ Sc H' _ (re.step rel sy) ry rd hρ1 fun σ2 re2 hw => ⟨(hw vs his).trans (wipe_twice σ vs), ρ1, Sc, _, re2, ry, ?_⟩
          have done2 := okR_bnd done
          refine okR_post done2 fun b S2 μ2 H3 db s3 r3 => ?_
          obtain ⟨μ2', rfl, st3⟩ := s3.show
          have haccb : H3 D = some (.lst acc) := s3.keep D _ haccy (notv _ _ _ ry)
          have rds3 := (rds.step rel sy).step ry s3
          have re3 := (re.step rel sy).step ry s3
          have g3 := io.step _ _ _ _ _ (io.step _ _ _ _ _ hG2 rel sy) ry s3
          have stt := (st.trans sty).trans st3
          cases b with
          | false =>
            rw [if_neg Bool.false_ne_true] at db ⊢
            exact ⟨S2, μ2', acc, as, hlt, stt, r3, re3, g3, haccb, rds3, Nat.le_succ_of_le hal, db⟩
          | true =>
            rw [if_pos rfl] at db ⊢
            refine ⟨ρ1, S2, _, re2.step ry s3, r3, ?_⟩
            refine okR_post (okR_bnd db) fun yv S4 μ4 H4 d4 s4 r4 v rv => ?_
            obtain ⟨μ4', rfl, st4⟩ := s4.show
            have hacc4 : H4 D = some (.lst acc) := s4.keep D _ haccb (notv _ _ _ r3)
            have rds4 := rds3.step r3 s4
            refine ⟨acc, hacc4, by rw [← rds4.length]; omega, S4, μ4', acc ++ [v], as ++ [yv], hlt, (stt.trans st4).side hD, r4.seen hacc4, (re3.step r3 s4).mapR (RD.seen hacc4), io.seen _ _ _ _ _ (io.step _ _ _ _ _ g3 r3 s4) hacc4, upd_same,
              RDs.seen hacc4 _ _ (rds4.append (.cons rv .nil)), by simp; omega, ?_⟩
            have d5 := okR_bnd d4
            unfold okR at d5 ⊢
            split
            · rename_i ys S' hys
              rw [hys] at d5
              intro μ' H5 sx rx
              have := d5 μ' H5 sx rx
              simpa using this
            · rename_i hno
              split at d5
              · rename_i a S' hh; exact absurd hh (hno a S')
              · exact d5
        · exact done.elim
      · rw [if_neg hlive] at done; exact done.elim
    · left
      have hi3 : i = all.length := by omega
      subst hi3
      rw [List.drop_length] at done
      unfold compM at done
      by_cases hlive : liveOk src all Sc
      · rw [if_pos hlive] at done
        refine ⟨io.stop _ Sc Hc rel hlive hG2, ?_⟩
        have z := done μc Hc st rel.show
        refine z _ (.lst hacc ⟨fun w => rel.apt D w List.mem_cons_self, by rw [st.x]; exact hDx⟩ ?_)
        simpa using rds.show
      · rw [if_neg hlive] at done; exact done.elim
theorem d_comp {elt iter : Expr} {ifs : List Expr} {scope : Scope} {own : List (Str × Nat)} {vs : List Nat} {pos : Pos} {it : EvI} {tgt : D → Rho → Option Rho} {g : TG} {test : EvB} {el : EvD} {is : List Nat} (hc : X.calm = true) (hN : X.N.Nodup)
    (hi : PI X tg iter (tI X.K X.mg W it)) (ok : BlkOk X.N X.env.scope scope own) (hv : own.map (·.2) = vs) (hG : GRD X is tgt g) (his : ∀ i ∈ is, i ∈ vs)
    (hg : ∀ (s : Shared) (H : Hp) (C : Addr) (cl : List (Str × Addr)) (fp : List Addr), PG (X.blk s H scope (compEnvC scope cl C X.env) fp) tg g)
    (ht : ∀ (s : Shared) (H : Hp) (C : Addr) (cl : List (Str × Addr)) (fp : List Addr), PTs (X.blk s H scope (compEnvC scope cl C X.env) fp) ifs (tT X.K X.mg W0 test))
    (he : ∀ (s : Shared) (H : Hp) (C : Addr) (cl : List (Str × Addr)) (fp : List Addr), PE (X.blk s H scope (compEnvC scope cl C X.env) fp) elt (tD X.K X.mg W0 el)) (hs : ∀ x, foldedSetIterable iter X.env x = pure x := by intro _; rfl) :
    PE X (.ListComp elt [⟨tg, iter, ifs, 0⟩] scope pos) (tD X.K X.mg W (eComp it tgt test el vs)) := by
  subst hv
  exact PE.imp (pe_lc hc hN hi ok hg ht he hs) fun σ H Q h => comp_ok hG his h
end
end DL

/-! DL5: statements, defs. -/
namespace DL
open PySem L2 PyProof.Rows

inductive Out where
  | nx (ρ : Rho) | rt (d : D) | bk (ρ : Rho) | ct (ρ : Rho) | xc (e : Exc) (ρ : Rho)
abbrev EvS := Rho → M Out
/-- an expression within a statement -/
def lft {α : Type} (ρ : Rho) (m : M α) (k : α → M Out) : M Out := fun S => match m S with
  | .ok a S' => k a S'
  | .ex e S' => .ok (.xc e ρ) S'
  | .bad => .bad
section
variable (K : PySem.W.Frag) (mg : Str → Option Value) (W : WX)
def OutOk (E : Ends) (o : Out) (μ : Mu) (H : Hp) : Prop := match o with
  | .nx ρ => ∀ σ, RE K μ H σ ρ → E.nx σ H
  | .rt d => ∀ v, RD K μ H d v → E.rt v H
  | .bk ρ => ∀ σ, RE K μ H σ ρ → E.bk σ H
  | .ct ρ => ∀ σ, RE K μ H σ ρ → E.ct σ H
  | .xc e ρ => ∀ σ c od, RE K μ H σ ρ → RX K mg μ H e c od → W c od σ H
def PostO (E : Ends) (μ : Mu) (H : Hp) (r : R Out) : Prop := okR r fun o S' => ∀ μ' H', Stp μ H μ' H' → Rel K μ' S' H' → OutOk K mg W E o μ' H'
def tS (G : EvS) : TS := fun E σ H => ∃ ρ S μ, RE K μ H σ ρ ∧ Rel K μ S H ∧ PostO K mg W E μ H (G ρ S)
end
section
variable {K : PySem.W.Frag} {mg : Str → Option Value} {W : WX} {μ μ1 : Mu} {σ : L2.St} {H H1 : Hp} {E : Ends}
theorem PostO.mono {r : R Out} (h : PostO K mg W E μ H r) (s : Stp μ H μ1 H1) : PostO K mg W E μ1 H1 r := by
  cases r with
  | ok o S => exact fun μ' H' q r => h μ' H' (s.trans q) r
  | ex e S => exact h
  | bad => exact h
theorem PostO.now {o : Out} {S : Sto} (h : PostO K mg W E μ H (.ok o S)) (r : Rel K μ S H) : OutOk K mg W E o μ H := h μ H .refl r
theorem PostO.lft {α : Type} {m : M α} {k : α → M Out} {S : Sto} {ρ : Rho} {Q : α → Mu → Hp → Prop} (h : PostO K mg W E μ H (lft ρ m k S)) (e : RE K μ H σ ρ) (r : Rel K μ S H)
    (f : ∀ a S1 μ1 H1, Stp μ H μ1 H1 → Rel K μ1 S1 H1 → RE K μ1 H1 σ ρ → PostO K mg W E μ1 H1 (k a S1) → Q a μ1 H1) : Post K mg W μ σ H (m S) Q := by
  unfold DL.lft at h
  cases hm : m S with
  | ok a S1 =>
    rw [hm] at h
    exact fun μ' H' s r' => f a S1 μ' H' s r' (e.step r s) (h.mono s)
  | ex x S1 =>
    rw [hm] at h
    exact fun μ' H' c od s r' rx => h μ' H' s r' σ c od (e.step r s) rx
  | bad => rw [hm] at h; exact h
end
def sAsg (tgt : D → Rho → Option Rho) (F : EvD) : EvS := fun ρ => lft ρ (F ρ) fun d S => match tgt d ρ with
  | some ρ' => .ok (.nx ρ') S
  | none => .bad
def sExpr (F : EvD) : EvS := fun ρ => lft ρ (F ρ) fun _ => ret (.nx ρ)
def sRet (F : EvD) : EvS := fun ρ => lft ρ (F ρ) fun d => ret (.rt d)
def sRetN : EvS := fun _ => ret (.rt .non)
def sIf (c : EvB) (a b : EvS) : EvS := fun ρ => lft ρ (c ρ) fun k => if k = true then a ρ else b ρ
def sNil : EvS := fun ρ => ret (.nx ρ)
def sBrk : EvS := fun ρ => ret (.bk ρ)
def sCnt : EvS := fun ρ => ret (.ct ρ)
def sBad : EvS := fun _ => stuck
def sSeq (a b : EvS) : EvS := fun ρ S => match a ρ S with
  | .ok (.nx ρ') S' => b ρ' S'
  | r => r
def gSet (o i d : D) : M Unit := fun S => match o, i with
  | .ref n, .int k => match atL S n with
    | some ds => match ixN ds.length k with
      | some j => .ok () (S.set n (.lst (ds.set j d)))
      | none => .bad
    | none => .bad
  | _, _ => .bad
def sSub (F Fo Fi : EvD) : EvS := fun ρ => lft ρ (F ρ) fun d => lft ρ (Fo ρ) fun o => lft ρ (Fi ρ) fun i => lft ρ (gSet o i d) fun _ => ret (.nx ρ)
open Classical in
noncomputable def forM (src : Option Nat) (all : List D) (tgt : D → Rho → Option Rho) (body : EvS) : List D → Rho → M Out
  | [], ρ => fun S => if liveOk src all S then .ok (.nx ρ) S else .bad
  | d :: ds, ρ => fun S => if liveOk src all S then (match tgt d ρ with
    | some ρ1 => match body ρ1 S with
      | .ok (.nx ρ2) S2 => forM src all tgt body ds ρ2 S2
      | .ok (.ct ρ2) S2 => forM src all tgt body ds ρ2 S2
      | .ok (.bk ρ2) S2 => .ok (.nx ρ2) S2
      | r => r
    | none => .bad) else .bad
noncomputable def sFor (it : EvI) (tgt : D → Rho → Option Rho) (body : EvS) : EvS := fun ρ => lft ρ (it ρ) fun p => forM p.1 p.2 tgt body p.2 ρ
def whileM (c : EvB) (body : EvS) : Nat → Rho → M Out
  | 0, _ => stuck
  | f + 1, ρ => lft ρ (c ρ) fun k => if k = true then (fun S => match body ρ S with
    | .ok (.nx ρ2) S2 => whileM c body f ρ2 S2
    | .ok (.ct ρ2) S2 => whileM c body f ρ2 S2
    | .ok (.bk ρ2) S2 => .ok (.nx ρ2) S2
    | r => r) else ret (.nx ρ)
def sWhile (fu : Nat) (c : EvB) (body : EvS) : EvS := whileM c body fu

section
variable {X : Cx} {W : WX} {pos : Pos}
theorem s_asg {tg e : Expr} {F : EvD} {is : List Nat} {tgt : D → Rho → Option Rho} {g : TG} (he : PE X e (tD X.K X.mg W F)) (hG : GRD X is tgt g) (hg : PG X tg g) (hs : swapsWithSole [tg] e pos.line X.env = pure false := by rfl) (hw : swappedStores [tg] e X.env = pure none := by rfl)
    (h1 : (assignEach [tg] X.env).map (·.2) = [assign tg X.env] := by rfl) : PS X (.Assign [tg] e pos) (tS X.K X.mg W (sAsg tgt F)) := by
  refine PS.imp (ps_asg he hg hs hw h1) fun E σ H ⟨ρ, S, μ, e, s, h⟩ => ?_
  refine ⟨ρ, S, μ, e, s, h.lft e s fun d S1 μ1 H1 s1 r1 e1 h1 v rv => ?_⟩
  split at h1
  · rename_i ρ' et
    exact hG _ _ _ _ _ _ _ _ _ e1 r1 rv et fun σ' e' _ => h1.now r1 σ' e'
  · exact h1.elim
theorem s_expr {e : Expr} {F : EvD} (he : PE X e (tD X.K X.mg W F)) (hs : swapsWith e none pos.line X.env = pure false := by rfl) : PS X (.Expr e pos) (tS X.K X.mg W (sExpr F)) := by
  refine PS.imp (ps_expr he hs) fun E σ H ⟨ρ, S, μ, e, s, h⟩ => ?_
  exact ⟨ρ, S, μ, e, s, h.lft e s fun d S1 μ1 H1 s1 r1 e1 h1 v rv => h1.now r1 σ e1⟩
theorem s_ret {e : Expr} {F : EvD} (he : PE X e (tD X.K X.mg W F)) : PS X (.Return (some e) pos) (tS X.K X.mg W (sRet F)) := by
  refine PS.imp (ps_ret he) fun E σ H ⟨ρ, S, μ, e, s, h⟩ => ?_
  exact ⟨ρ, S, μ, e, s, h.lft e s fun d S1 μ1 H1 s1 r1 e1 h1 v rv => h1.now r1 v rv⟩
theorem s_retN : PS X (.Return none pos) (tS X.K X.mg W sRetN) := by
  refine PS.imp ps_retN fun E σ H ⟨ρ, S, μ, e, s, h⟩ => ?_
  exact h.now s _ .non
theorem s_if {c : Expr} {a b : List Stmt} {tc : EvB} {ta tb : EvS} (hc : PT X c (tT X.K X.mg W tc)) (ha : PSs X a (tS X.K X.mg W ta)) (hb : PSs X b (tS X.K X.mg W tb)) : PS X (.If c a b pos) (tS X.K X.mg W (sIf tc ta tb)) := by
  refine PS.imp (ps_if hc ha hb) fun E σ H ⟨ρ, S, μ, e, s, h⟩ => ?_
  refine ⟨ρ, S, μ, e, s, h.lft e s fun k S1 μ1 H1 s1 r1 e1 h1 => ?_⟩
  cases k with
  | true => rw [if_pos rfl] at h1 ⊢; exact ⟨ρ, S1, μ1, e1, r1, h1⟩
  | false => rw [if_neg Bool.false_ne_true] at h1 ⊢; exact ⟨ρ, S1, μ1, e1, r1, h1⟩
theorem s_pass : PS X (.Pass pos) (tS X.K X.mg W sNil) := PS.imp ps_pass fun E σ H ⟨ρ, S, μ, e, s, h⟩ => h.now s σ e
theorem s_brk : PS X (.Break pos) (tS X.K X.mg W sBrk) := PS.imp ps_break fun E σ H ⟨ρ, S, μ, e, s, h⟩ => h.now s σ e
theorem s_cnt : PS X (.Continue pos) (tS X.K X.mg W sCnt) := PS.imp ps_continue fun E σ H ⟨ρ, S, μ, e, s, h⟩ => h.now s σ e
theorem s_bad {st : Stmt} : PS X st (tS X.K X.mg W sBad) := PS.imp ps_never fun E σ H ⟨ρ, S, μ, e, s, h⟩ => h
theorem ss_nil : PSs X [] (tS X.K X.mg W sNil) := PSs.imp pss_nil fun E σ H ⟨ρ, S, μ, e, s, h⟩ => h.now s σ e
theorem ss_one {st : Stmt} {t : EvS} (h : PS X st (tS X.K X.mg W t)) : PSs X [st] (tS X.K X.mg W t) := pss_one h
theorem ss_cons {st : Stmt} {rest : List Stmt} {t u : EvS} (h1 : PS X st (tS X.K X.mg W t)) (h2 : PSs X rest (tS X.K X.mg W u)) : PSs X (st :: rest) (tS X.K X.mg W (sSeq t u)) := by
  refine PSs.imp (pss_cons h1 h2) fun E σ H ⟨ρ, S, μ, e, s, h⟩ => ?_
  refine ⟨ρ, S, μ, e, s, ?_⟩
  unfold sSeq at h
  cases ht : t ρ S with
  | ok o S1 =>
    rw [ht] at h
    intro μ1 H1 s1 r1
    cases o with
    | nx ρ' => exact fun σ' e' => ⟨ρ', S1, μ1, e', r1, h.mono s1⟩
    | rt d => exact (h.mono s1).now r1
    | bk ρ' => exact (h.mono s1).now r1
    | ct ρ' => exact (h.mono s1).now r1
    | xc x ρ' => exact (h.mono s1).now r1
  | ex x S1 => rw [ht] at h; exact h
  | bad => rw [ht] at h; exact h
theorem s_sub {o i e : Expr} {F Fo Fi : EvD} {p2 : Pos} (he : PE X e (tD X.K X.mg W F)) (ho : PE X o (tD X.K X.mg W Fo)) (hi : PE X i (tD X.K X.mg W Fi))
    (ha : ∀ v, assign (.Subscript o i p2) X.env v = (do
      let ov ← holding [v] (eval o X.env)
      let iv ← holding [v, ov] (eval i X.env)
      standAt p2
      holding [v, ov, iv] (setItem ov iv v)
      release [v, ov, iv] []) := by intro _; rfl)
    (hs : swapsWithSole [.Subscript o i p2] e pos.line X.env = pure false := by rfl) (hw : swappedStores [.Subscript o i p2] e X.env = pure none := by rfl)
    (h1 : (assignEach [.Subscript o i p2] X.env).map (·.2) = [assign (.Subscript o i p2) X.env] := by rfl) : PS X (.Assign [.Subscript o i p2] e pos) (tS X.K X.mg W (sSub F Fo Fi)) := by
  refine PS.imp (ps_asg he (pg_sub ho hi set_list ha) hs hw h1) fun E σ H ⟨ρ, S, μ, e, s, h⟩ => ?_
  refine ⟨ρ, S, μ, e, s, h.lft e s fun d S1 μ1 H1 s1 r1 e1 h1 v rv => ?_⟩
  refine ⟨ρ, S1, μ1, e1, r1, h1.lft e1 r1 fun ov S2 μ2 H2 s2 r2 e2 h2 w rw => ?_⟩
  refine ⟨ρ, S2, μ2, e2, r2, h2.lft e2 r2 fun iv S3 μ3 H3 s3 r3 e3 h3 u ru => ?_⟩
  have rv3 := (rv.step r1 s2).step r2 s3
  have rw3 := rw.step r2 s3
  unfold lft gSet at h3
  simp only [] at h3
  split at h3
  · rename_i a S4 heq
    split at heq
    · split at heq
      · rename_i ds eL
        split at heq
        · rename_i j ej
          cases heq
          cases ru
          cases rw3 with
          | @ref n a hn =>
            obtain ⟨vs, q, z⟩ := r3.obj _ a _ hn (atL_ok eL)
            have hm : a ∈ μ3.v := List.mem_of_getElem? hn
            refine ⟨a, vs, _, j, rfl, rfl, q, by rw [← z.length]; exact ej, ?_⟩
            exact h3 μ3 _ (Stp.put hm) (r3.put hn ⟨_, upd_same, (z.step r3 (Stp.put hm)).set j (rv3.step r3 (Stp.put hm))⟩) σ (e3.step r3 (Stp.put hm))
        · cases heq
      · cases heq
    · cases heq
  · rename_i x S4 heq
    split at heq
    · split at heq
      · split at heq <;> cases heq
      · cases heq
    · cases heq
  · exact h3.elim
theorem s_for {tg iter : Expr} {body : List Stmt} {it : EvI} {is : List Nat} {tgt : D → Rho → Option Rho} {g : TG} {tb : EvS} (hp : PassesOwn (model X.prog X.w) X.A X.env X.xe) (hc : X.calm = true) (hi : PI X tg iter (tI X.K X.mg W it)) (hG : GRD X is tgt g) (hg : PG X tg g) (hb : PSs X body (tS X.K X.mg W tb))
    (hs : ∀ x, foldedSetIterable iter X.env x = pure x := by intro _; rfl) : PS X (.For tg iter body [] pos) (tS X.K X.mg W (sFor it tgt tb)) := by
  refine PS.imp (ps_for hp hc hi hg hb hs) fun E σ H ⟨ρ, S, μ, e, s, h⟩ => ?_
  refine ⟨ρ, S, μ, e, s, h.lft e s fun p S1 μ1 H1 s1 r1 e1 h1 J G io gg => ?_⟩
  obtain ⟨src, all⟩ := p
  simp only [] at io h1
  let Iv (i : Nat) (σc : L2.St) (Hc : Hp) : Prop := ∃ ρc Sc μc, i ≤ all.length ∧ RE X.K μc Hc σc ρc ∧ Rel X.K μc Sc Hc ∧ G μc Hc ∧ PostO X.K X.mg W E μc Hc (forM src all tgt tb (all.drop i) ρc Sc)
  refine ⟨fun i m σc Hc => m = all.length - i ∧ Iv i σc Hc, ⟨all.length, by simp, ρ, S1, μ1, Nat.zero_le _, e1, r1, gg, by simpa using h1⟩, ?_⟩
  rintro i m σc Hc ⟨rfl, ρc, Sc, μc, hi2, ec, rc, gc, done⟩
  by_cases hlt : i < all.length
  · right
    have hdrop : all.drop i = all[i] :: all.drop (i + 1) := List.drop_eq_getElem_cons hlt
    rw [hdrop] at done
    unfold forM at done
    by_cases hlive : liveOk src all Sc
    · rw [if_pos hlive] at done
      split at done
      · rename_i ρ1 hρ1
        refine ⟨io.go i _ Sc Hc hlt rc hlive gc, fun σ' H' => Iv (i + 1) σ' H', fun σ' H' q => ⟨all.length - (i + 1), by omega, rfl, q⟩, fun x H' y => ?_⟩
        obtain ⟨sy, ry, d, hd, rd⟩ := io.yld i x _ Sc Hc H' hlt rc hlive gc y
        rw [List.getElem?_eq_getElem hlt] at hd
        cases hd
        have gy := io.step _ _ _ _ _ gc rc sy
        refine hG _ _ _ ρ1 _ _ Sc H' _ (ec.step rc sy) ry rd hρ1 fun σ2 re2 _ => ⟨ρ1, Sc, _, re2, ry, ?_⟩
        unfold PostO at done ⊢
        cases hbd : tb ρ1 Sc with
        | ok o S2 =>
          rw [hbd] at done
          intro μ2 H2 s2 r2
          have sa := sy.trans s2
          cases o with
          | nx ρ2 => exact fun σ3 e3 => ⟨ρ2, S2, μ2, hlt, e3, r2, io.step _ _ _ _ _ gy ry s2, PostO.mono done sa⟩
          | ct ρ2 => exact fun σ3 e3 => ⟨ρ2, S2, μ2, hlt, e3, r2, io.step _ _ _ _ _ gy ry s2, PostO.mono done sa⟩
          | bk ρ2 => exact fun σ3 e3 => (PostO.mono done sa).now r2 σ3 e3
          | rt d2 => exact (PostO.mono done sa).now r2
          | xc x2 ρ2 => exact (PostO.mono done sa).now r2
        | ex x2 S2 => rw [hbd] at done; exact done
        | bad => rw [hbd] at done; exact done
      · exact done.elim
    · rw [if_neg hlive] at done; exact done.elim
  · left
    have hi3 : i = all.length := by omega
    subst hi3
    rw [List.drop_length] at done
    unfold forM at done
    by_cases hlive : liveOk src all Sc
    · rw [if_pos hlive] at done
      exact ⟨io.stop _ Sc Hc rc hlive gc, done.now rc σc ec⟩
    · rw [if_neg hlive] at done; exact done.elim
theorem s_while (fu : Nat) {c : Expr} {body : List Stmt} {tc : EvB} {tb : EvS} (hp : PassesOwn (model X.prog X.w) X.A X.env X.xe) (hc : PT X c (tT X.K X.mg W tc)) (hb : PSs X body (tS X.K X.mg W tb)) : PS X (.While c body [] pos) (tS X.K X.mg W (sWhile fu tc tb)) := by
  refine PS.imp (ps_while hp hc hb) fun E σ H ⟨ρ, S, μ, e, s, h⟩ => ?_
  refine ⟨fun m σc Hc => ∃ ρc Sc μc, RE X.K μc Hc σc ρc ∧ Rel X.K μc Sc Hc ∧ PostO X.K X.mg W E μc Hc (whileM tc tb m ρc Sc), ⟨fu, ρ, S, μ, e, s, h⟩, ?_⟩
  rintro m σc Hc ⟨ρc, Sc, μc, ec, rc, done⟩
  cases m with
  | zero => exact done.elim
  | succ m =>
    unfold whileM at done
    refine ⟨ρc, Sc, μc, ec, rc, done.lft ec rc fun k S1 μ1 H1 s1 r1 e1 h1 => ?_⟩
    cases k with
    | false => rw [if_neg Bool.false_ne_true] at h1 ⊢; exact h1.now r1 σc e1
    | true =>
      rw [if_pos rfl] at h1 ⊢
      refine ⟨fun σ' H' => ∃ ρc Sc μc, RE X.K μc H' σ' ρc ∧ Rel X.K μc Sc H' ∧ PostO X.K X.mg W E μc H' (whileM tc tb m ρc Sc), fun σ' H' q => ⟨m, Nat.lt_succ_self m, q⟩, ρc, S1, μ1, e1, r1, ?_⟩
      cases hbd : tb ρc S1 with
      | ok o S2 =>
        rw [hbd] at h1
        intro μ2 H2 s2 r2
        cases o with
        | nx ρ2 => exact fun σ3 e3 => ⟨ρ2, S2, μ2, e3, r2, PostO.mono h1 s2⟩
        | ct ρ2 => exact fun σ3 e3 => ⟨ρ2, S2, μ2, e3, r2, PostO.mono h1 s2⟩
        | bk ρ2 => exact fun σ3 e3 => (PostO.mono h1 s2).now r2 σ3 e3
        | rt d2 => exact (PostO.mono h1 s2).now r2
        | xc x2 ρ2 => exact (PostO.mono h1 s2).now r2
      | ex x2 S2 => rw [hbd] at h1; exact h1
      | bad => rw [hbd] at h1; exact h1
end

/-! ### defs -/
def startR (n : Nat) (ds : List D) : Rho := ds.map some ++ List.replicate (n - ds.length) none
/-- a def's end: what it made and nobody sees any more is forgotten; keep: nothing is -/
def finD (keep : Bool) (n : Nat) (d : D) : M D := fun S => if keep = true then .ok d S else
  if (S.take n).all (MO.lo n) = true then
    (if d.lo n = true then .ok d (S.take n) else match d with
      | .ref k => match atL S k with
        | some ds => if n ≤ k ∧ D.los n ds = true then .ok (.lst ds) (S.take n) else .bad
        | none => .bad
      | _ => .bad)
  else .bad
def runDef (keep : Bool) (n : Nat) (body : EvS) (ds : List D) : M D := fun S => match body (startR n ds) S with
  | .ok (.rt d) S' => finD keep S.length d S'
  | .ok (.nx _) S' => finD keep S.length .non S'
  | .ok (.xc e _) S' => .ex e S'
  | _ => .bad
def spD (K : PySem.W.Frag) (mg : Str → Option Value) (ar : Nat) (G : List D → M D) : Sp := fun vs H Q E => ∃ μ S ds, ds.length = ar ∧ RDs K μ H ds vs ∧ Rel K μ S H ∧ Post K mg (fun c od _ H => E c od H) μ [] H (G ds S) (QD K Q)
theorem start_rel {K : PySem.W.Frag} {μ : Mu} {H : Hp} {N : List Str} {ds : List D} {vs : List V} (h : RDs K μ H ds vs) : RE K μ H (L2.start N vs) (startR N.length ds) := by
  have hl := h.length
  refine ⟨by simp [L2.start, startR, hl], fun i d e => ?_⟩
  unfold startR at e
  unfold L2.start
  by_cases hi : i < ds.length
  · rw [List.getElem?_append_left (by simpa using hi), List.getElem?_map, Option.map_eq_some_iff] at e
    obtain ⟨d', e1, e2⟩ := e
    cases e2
    obtain ⟨v, ev, rv⟩ := h.get e1
    exact ⟨v, by rw [List.getElem?_append_left (by rw [List.length_map]; omega), List.getElem?_map, ev]; rfl, rv⟩
  · rw [List.getElem?_append_right (by simpa using hi), List.getElem?_replicate] at e
    split at e <;> simp at e
theorem fin_ok {K : PySem.W.Frag} {mg : Str → Option Value} {W : WX} {μ : Mu} {S : Sto} {σ : L2.St} {H : Hp} {keep : Bool} {d : D} {S' : Sto} {Q : VK} (h : Post K mg W μ σ H (finD keep S.length d S') (QD K Q)) (r : Rel K μ S H) :
    ∀ μ' H', Stp μ H μ' H' → Rel K μ' S' H' → ∀ v, RD K μ' H' d v → Q v H' := by
  intro μ' H' s r' v rv
  unfold finD at h
  split at h
  · exact h μ' H' s r' v rv
  · split at h
    · rename_i hb
      have sc := s.cut
      rw [r.len] at sc
      split at h
      · rename_i hd
        exact h _ H' sc (r'.cut hb) v (rv.cut _ _ hd)
      · split at h
        · rename_i k
          split at h
          · rename_i ds e
            split at h
            · rename_i hc
              exact h _ H' sc (r'.cut hb) v (RD.freed r' rv hc.1 (atL_ok e) hc.2)
            · exact h.elim
          · exact h.elim
        · exact h.elim
    · exact h.elim
section
variable {P : Program} {w : World} {K : PySem.W.Frag} {mg : Str → Option Value} {base : Heap}
abbrev WD (E : XK) : WX := fun c od _ H => E c od H
/-- a def by its body -/
theorem fn_ok {x qual : Str} {st : Stmt} {f : Addr} {fd : FuncData} {N ps : List Str} {k : Nat} {keep : Bool} {body : EvS} (F : Fun K x qual st f fd) (S : FnScope N ps (defScope st))
    (hbody : ∀ (cdv : Value) (A : Around) (outer : List Env) (s : Shared) (H : Hp) (E : XK), Room k (A.deeper (envOfC qual (defScope st) s.heap.objs.size f cdv)) →
      PSs (cxOf (L2.CX P w) P w K mg base N qual (defScope st) f cdv A outer s H E) (defBody st) (tS K mg (WD E) body)) :
    FnOk P w K mg base (L2.CX P w) (k + 1) f fd ps (spD K mg ps.length (runDef keep N.length body)) := by
  refine F.okX S (fun vs H Q E ⟨μ, S, ds, hl, h, _⟩ => by rw [← h.length]; exact hl) fun cdv A outer s H vs Q E hr ⟨μ, Sx, ds, hl, hd, r, hp⟩ => ?_
  refine ⟨_, hbody cdv A outer s H E hr, startR N.length ds, Sx, μ, start_rel hd, r, ?_⟩
  unfold runDef at hp
  cases hb : body (startR N.length ds) Sx with
  | ok o S' =>
    rw [hb] at hp
    cases o with
    | nx ρ' => exact fun μ' H' s' r' σ' _ => fin_ok hp r μ' H' s' r' _ .non
    | rt d => exact fun μ' H' s' r' v rv => fin_ok hp r μ' H' s' r' v rv
    | bk ρ' => exact hp.elim
    | ct ρ' => exact hp.elim
    | xc e ρ' => exact fun μ' H' s' r' σ' c od _ rx => hp μ' H' c od s' r' rx
  | ex e S' => rw [hb] at hp; exact hp.elim
  | bad => rw [hb] at hp; exact hp.elim
end
section
variable {X : Cx} {W : WX} {pos : Pos}
/-- so many arguments -/
def cl (n : Nat) (G : List D → M D) : List D → M D := fun ds => if ds.length = n then G ds else stuck
/-- a call of a def -/
theorem d_call {k n : Nat} {f : Addr} {fd : FuncData} {ps : List Str} {x : Str} {p : Pos} {e : Expr} {es : List Expr} {G : List D → M D} {t : EvL} (F : FnOk X.prog X.w X.K X.mg X.base (L2.CX X.prog X.w) k f fd ps (spD X.K X.mg ps.length G)) (hr : Room k X.A)
    (hg : Gl X x) (hm : X.mg x = some (.ref f)) (hk : PySem.W.keepIn X.K (.ref f) = true) (hb : Binds X.K fd ps []) (tk : Takes X W) (ha : PA X (e :: es) (tA X.K X.mg W t)) (hlen : ps.length = n := by rfl) (hdb : (x == ("__debug__" : Str)) = false := by decide)
    (he : starEach (e :: es) X.env = (false, eval e X.env) :: starEach es X.env := by rfl) (hpl : (backTo pos (starEach es X.env)).any (·.1) = false := by rfl) :
    PE X (.Call (.Name x p) (e :: es) [] pos) (tD X.K X.mg W (eCall (cl n G) t)) := by
  subst hlen
  refine PE.imp (pe_callS F hr hg hm hk hb (fun σ => passAt tk σ) ha hdb he hpl) fun σ H Q ⟨ρ, S, μ, e, s, h⟩ => ?_
  refine ⟨ρ, S, μ, e, s, h.bnd fun ds S1 μ1 H1 s1 r1 h1 vs rvs => ?_⟩
  unfold cl at h1
  split at h1
  · rename_i hl
    refine ⟨μ1, S1, ds, hl, rvs, r1, ?_⟩
    cases hg : G ds S1 with
    | ok d S2 => rw [hg] at h1; exact h1
    | ex x S2 => rw [hg] at h1; exact h1
    | bad => rw [hg] at h1; exact h1
  · exact h1.elim
end
end DL

/-! DL6: short words. -/
namespace DL
open PySem L2 PyProof.Rows
/-- a module's constant -/
def GV (K : PySem.W.Frag) (mg : Str → Option Value) (x : Str) (d : D) : Prop := ∃ u v, mg x = some u ∧ RelV v u ∧ ∀ μ H, RD K μ H d v
structure DefAt (K : PySem.W.Frag) (mg : Str → Option Value) (x : Str) (st : Stmt) (ps : List Str) (f : Addr) (fd : FuncData) : Prop where
  fn : Fun K x x st f fd
  mg : mg x = some (.ref f)
  bi : Binds K fd ps []
section
variable {X : Cx} {W : WX} {pos : Pos}
theorem d_globv {x : Str} {d : D} (g : GV X.K X.mg x d) (hg : Gl X x := by rfl) (hdb : (x == ("__debug__" : Str)) = false := by decide) : PE X (.Name x pos) (tD X.K X.mg W (eC d)) := by
  obtain ⟨u, v, h1, h2, h3⟩ := g
  exact d_glob hg h1 h2 h3 hdb
theorem s_set (i : Nat) {x : Str} {p : Pos} {e : Expr} {F : EvD} (hN : X.N.Nodup) (he : PE X e (tD X.K X.mg W F)) (hi : X.N[i]? = some x := by rfl) (hx : Loc X.env.scope x := by first | exact Or.inl rfl | exact Or.inr rfl)
    (hf : X.fn x = true ∨ X.env.scope.names.lookup x = some .local := by first | exact .inl rfl | exact .inr rfl | assumption)
    (hs : swapsWithSole [.Name x p] e pos.line X.env = pure false := by rfl) (hw : swappedStores [.Name x p] e X.env = pure none := by rfl)
    (h1 : (assignEach [.Name x p] X.env).map (·.2) = [assign (.Name x p) X.env] := by rfl) : PS X (.Assign [.Name x p] e pos) (tS X.K X.mg W (sAsg (gN i) F)) :=
  s_asg he (g_name i) (pg_name hN hi hx hf) hs hw h1
/-- y = [..], y a local -/
theorem s_setLc (i : Nat) {y : Str} {py : Pos} {tg elt iter : Expr} {ifs : List Expr} {scope : Scope} {own : List (Str × Nat)} {vs : List Nat} {pos spos : Pos} {it : EvI} {tgt : D → Rho → Option Rho} {g : TG} {test : EvB} {el : EvD} {is : List Nat} (hc : X.calm = true) (hN : X.N.Nodup)
    (hi : PI X tg iter (tI X.K X.mg W it)) (ok : BlkOk X.N X.env.scope scope own) (hv : own.map (·.2) = vs) (hG : GRD X is tgt g) (his : ∀ i ∈ is, i ∈ vs)
    (hg : ∀ (s : Shared) (H : Hp) (C : Addr) (cl : List (Str × Addr)) (fp : List Addr), PG (X.blk s H scope (compEnvC scope cl C X.env) fp) tg g)
    (ht : ∀ (s : Shared) (H : Hp) (C : Addr) (cl : List (Str × Addr)) (fp : List Addr), PTs (X.blk s H scope (compEnvC scope cl C X.env) fp) ifs (tT X.K X.mg W0 test))
    (he : ∀ (s : Shared) (H : Hp) (C : Addr) (cl : List (Str × Addr)) (fp : List Addr), PE (X.blk s H scope (compEnvC scope cl C X.env) fp) elt (tD X.K X.mg W0 el))
    (hy : X.N[i]? = some y := by rfl) (hyl : X.env.scope.names.lookup y = some .local := by rfl) (hsw : swapsWith (.ListComp elt [⟨tg, iter, ifs, 0⟩] scope pos) (some (.Name y py)) spos.line X.env = pure true := by exact sw_true rfl rfl rfl (by decide +kernel))
    (hs : ∀ x, foldedSetIterable iter X.env x = pure x := by intro _; rfl) :
    PS X (.Assign [.Name y py] (.ListComp elt [⟨tg, iter, ifs, 0⟩] scope pos) spos) (tS X.K X.mg W (sAsg (gN i) (eComp it tgt test el vs))) := by
  subst hv
  refine PS.imp (ps_setLc hc hN hy hyl hsw hi ok hg ht he hs) fun E σ H ⟨ρ, S, μ, e, s, h⟩ => ?_
  refine comp_ok hG his ⟨ρ, S, μ, e, s, h.lft e s fun d S1 μ1 H1 s1 r1 e1 h1 v rv => ?_⟩
  exact h1.now r1 _ (e1.set rv i)
end
/-- a def by its body, the text read once -/
theorem fn_okL {P : Program} {w : World} {K : PySem.W.Frag} {mg : Str → Option Value} {base : Heap} {x qual : Str} {st : Stmt} {f : Addr} {fd : FuncData} {N ps : List Str} {k : Nat} {keep : Bool} {body : EvS} {B : List Stmt} {sc : Scope} (F : Fun K x qual st f fd) (S : FnScope N ps (defScope st)) (hB : defBody st = B) (hS : defScope st = sc)
    (hbody : ∀ (cdv : Value) (A : Around) (outer : List Env) (s : Shared) (H : Hp) (E : XK), Room k (A.deeper (envOfC qual sc s.heap.objs.size f cdv)) → N.Nodup →
      Takes (cxOf (L2.CX P w) P w K mg base N qual sc f cdv A outer s H E) (WD E) →
      PassesOwn (model P w) (cxOf (L2.CX P w) P w K mg base N qual sc f cdv A outer s H E).A (cxOf (L2.CX P w) P w K mg base N qual sc f cdv A outer s H E).env (cxOf (L2.CX P w) P w K mg base N qual sc f cdv A outer s H E).xe →
      PSs (cxOf (L2.CX P w) P w K mg base N qual sc f cdv A outer s H E) B (tS (cxOf (L2.CX P w) P w K mg base N qual sc f cdv A outer s H E).K (cxOf (L2.CX P w) P w K mg base N qual sc f cdv A outer s H E).mg (WD E) body)) :
    FnOk P w K mg base (L2.CX P w) (k + 1) f fd ps (spD K mg ps.length (runDef keep N.length body)) := by
  subst hB hS
  exact fn_ok F S fun cdv A outer s H E hr => hbody cdv A outer s H E hr S.nd (takes_of rfl rfl rfl rfl) (passes_of rfl)
/-- no promise at all -/
theorem fn_zero {P : Program} {w : World} {K : PySem.W.Frag} {mg : Str → Option Value} {base : Heap} {k : Nat} {f : Addr} {fd : FuncData} {ps : List Str} {CX : CXT} : FnOk P w K mg base CX k f fd ps (spD K mg ps.length fun _ => stuck) :=
  ⟨fun vs H Q E ⟨_, _, _, _, _, _, h⟩ => h.elim, fun A outer s H args us vs Q E _ _ _ _ ⟨_, _, _, _, _, _, h⟩ => h.elim⟩
end DL

/-! DL7: what a denotation does, by what is wanted behind it. -/
namespace DL
open PySem L2

def wp {α : Type} (r : R α) (F : α → Sto → Prop) (E : Exc → Sto → Prop) : Prop := match r with
  | .ok a S => F a S
  | .ex e S => E e S
  | .bad => False
/-- nothing is raised -/
abbrev nx : Exc → Sto → Prop := fun _ _ => False
def wps (r : R Out) (N : Rho → Sto → Prop) (T : D → Sto → Prop) (B C : Rho → Sto → Prop) (X : Exc → Rho → Sto → Prop) : Prop := match r with
  | .ok (.nx ρ) S => N ρ S
  | .ok (.rt d) S => T d S
  | .ok (.bk ρ) S => B ρ S
  | .ok (.ct ρ) S => C ρ S
  | .ok (.xc e ρ) S => X e ρ S
  | _ => False
section
variable {α β : Type} {F : α → Sto → Prop} {E : Exc → Sto → Prop} {N : Rho → Sto → Prop} {T : D → Sto → Prop} {B C : Rho → Sto → Prop} {X : Exc → Rho → Sto → Prop} {S : Sto} {ρ : Rho}
theorem wp_mono {r : R α} {F' : α → Sto → Prop} {E' : Exc → Sto → Prop} (h : wp r F E) (f : ∀ a S, F a S → F' a S) (g : ∀ e S, E e S → E' e S) : wp r F' E' := by
  cases r with
  | ok a S => exact f a S h
  | ex e S => exact g e S h
  | bad => exact h
theorem wps_mono {r : R Out} {N' : Rho → Sto → Prop} {T' : D → Sto → Prop} {B' C' : Rho → Sto → Prop} {X' : Exc → Rho → Sto → Prop} (h : wps r N T B C X) (f1 : ∀ ρ S, N ρ S → N' ρ S) (f2 : ∀ d S, T d S → T' d S) (f3 : ∀ ρ S, B ρ S → B' ρ S) (f4 : ∀ ρ S, C ρ S → C' ρ S) (f5 : ∀ e ρ S, X e ρ S → X' e ρ S) : wps r N' T' B' C' X' := by
  cases r with
  | ok o S =>
    cases o with
    | nx ρ => exact f1 _ _ h
    | rt d => exact f2 _ _ h
    | bk ρ => exact f3 _ _ h
    | ct ρ => exact f4 _ _ h
    | xc e ρ => exact f5 _ _ _ h
  | ex e S => exact h
  | bad => exact h
theorem wp_ok {a : α} : wp (.ok a S) F E ↔ F a S := Iff.rfl
theorem wp_ret {a : α} : wp (ret a S) F E ↔ F a S := Iff.rfl
theorem wp_stuck : wp ((stuck : M α) S) F E ↔ False := Iff.rfl
theorem wp_bad : wp (.bad : R α) F E ↔ False := Iff.rfl
theorem wp_bnd {m : M β} {k : β → M α} : wp (bnd m k S) F E ↔ wp (m S) (fun a S' => wp (k a S') F E) E := by
  unfold bnd
  cases m S <;> rfl
theorem wp_if {c : Prop} [Decidable c] {a b : R α} : wp (if c then a else b) F E ↔ if c then wp a F E else wp b F E := by
  split <;> rfl
theorem wp_fif {c : Prop} [Decidable c] {a b : M α} : wp ((if c then a else b) S) F E ↔ if c then wp (a S) F E else wp (b S) F E := by
  split <;> rfl
theorem wps_ok_nx {ρ' : Rho} : wps (.ok (.nx ρ') S) N T B C X ↔ N ρ' S := Iff.rfl
theorem wps_ok_rt {d : D} : wps (.ok (.rt d) S) N T B C X ↔ T d S := Iff.rfl
theorem wps_ok_bk {ρ' : Rho} : wps (.ok (.bk ρ') S) N T B C X ↔ B ρ' S := Iff.rfl
theorem wps_ok_ct {ρ' : Rho} : wps (.ok (.ct ρ') S) N T B C X ↔ C ρ' S := Iff.rfl
theorem wps_ok_xc {e : Exc} {ρ' : Rho} : wps (.ok (.xc e ρ') S) N T B C X ↔ X e ρ' S := Iff.rfl
theorem wps_bad : wps .bad N T B C X ↔ False := Iff.rfl
theorem wps_lft {m : M α} {k : α → M Out} : wps (lft ρ m k S) N T B C X ↔ wp (m S) (fun a S' => wps (k a S') N T B C X) (fun e S' => X e ρ S') := by
  unfold lft
  cases m S <;> rfl
theorem wps_seq {a b : EvS} : wps (sSeq a b ρ S) N T B C X ↔ wps (a ρ S) (fun ρ' S' => wps (b ρ' S') N T B C X) T B C X := by
  unfold sSeq
  cases a ρ S with
  | ok o S' => cases o <;> rfl
  | ex e S' => rfl
  | bad => rfl
theorem wps_nil : wps (sNil ρ S) N T B C X ↔ N ρ S := Iff.rfl
theorem wps_ret {e : EvD} : wps (sRet e ρ S) N T B C X ↔ wp (e ρ S) T (fun e S' => X e ρ S') := by
  unfold sRet; rw [wps_lft]; rfl
theorem wps_expr {e : EvD} : wps (sExpr e ρ S) N T B C X ↔ wp (e ρ S) (fun _ S' => N ρ S') (fun e S' => X e ρ S') := by
  unfold sExpr; rw [wps_lft]; rfl
theorem wps_asg {i : Nat} {e : EvD} : wps (sAsg (gN i) e ρ S) N T B C X ↔ wp (e ρ S) (fun d S' => N (ρ.set i (some d)) S') (fun e S' => X e ρ S') := by
  unfold sAsg; rw [wps_lft]; rfl
theorem wps_if {c : EvB} {a b : EvS} : wps (sIf c a b ρ S) N T B C X ↔ wp (c ρ S) (fun k S' => if k = true then wps (a ρ S') N T B C X else wps (b ρ S') N T B C X) (fun e S' => X e ρ S') := by
  unfold sIf; rw [wps_lft]
  constructor <;> intro h <;> refine wp_mono h (fun k S' h => ?_) (fun _ _ h => h) <;> cases k <;> exact h
theorem wp_run {keep : Bool} {n : Nat} {body : EvS} {ds : List D} {F : D → Sto → Prop} : wp (runDef keep n body ds S) F E ↔
    wps (body (startR n ds) S) (fun _ S' => wp (finD keep S.length .non S') F E) (fun d S' => wp (finD keep S.length d S') F E) (fun _ _ => False) (fun _ _ => False) (fun e _ S' => E e S') := by
  unfold runDef
  cases body (startR n ds) S with
  | ok o S' => cases o <;> rfl
  | ex e S' => rfl
  | bad => rfl
/-- a def's value that names no stored thing, of a store that names none -/
theorem wp_fin {n : Nat} {d : D} {F : D → Sto → Prop} (h1 : (S.take n).all (MO.lo n) = true) (h2 : d.lo n = true) (h : F d (S.take n)) : wp (finD false n d S) F E := by
  unfold finD
  rw [if_neg (by decide), if_pos h1, if_pos h2]
  exact h
/-- for over what is walked -/
theorem wps_for {it : EvI} {tgt : D → Rho → Option Rho} {body : EvS} : wps (sFor it tgt body ρ S) N T B C X ↔ wp (it ρ S) (fun p S' => wps (forM p.1 p.2 tgt body p.2 ρ S') N T B C X) (fun e S' => X e ρ S') := by
  unfold sFor; rw [wps_lft]
/-- the loop by an invariant over the items gone through -/
theorem wps_forM {src : Option Nat} {all : List D} {tgt : D → Rho → Option Rho} {body : EvS} (I : Nat → Rho → Sto → Prop) (hl : ∀ i ρ S, I i ρ S → liveOk src all S)
    (turn : ∀ i d ρ S, all[i]? = some d → I i ρ S → ∃ ρ1, tgt d ρ = some ρ1 ∧ wps (body ρ1 S) (I (i + 1)) T N (I (i + 1)) X) (done : ∀ ρ S, I all.length ρ S → N ρ S) (h0 : I 0 ρ S) : wps (forM src all tgt body all ρ S) N T B C X := by
  have key : ∀ (k i : Nat) (ρ : Rho) (S : Sto), i + k = all.length → I i ρ S → wps (forM src all tgt body (all.drop i) ρ S) N T B C X := by
    intro k
    induction k with
    | zero =>
      intro i ρ S hi h
      have : i = all.length := by omega
      subst this
      rw [List.drop_length]
      unfold forM
      rw [if_pos (hl _ _ _ h)]
      exact done ρ S h
    | succ k ih =>
      intro i ρ S hi h
      have hlt : i < all.length := by omega
      rw [List.drop_eq_getElem_cons hlt]
      unfold forM
      rw [if_pos (hl _ _ _ h)]
      obtain ⟨ρ1, e1, hb⟩ := turn i _ ρ S (List.getElem?_eq_getElem hlt) h
      simp only [e1]
      cases hr : body ρ1 S with
      | ok o S2 =>
        rw [hr] at hb
        cases o with
        | nx ρ2 => exact ih (i + 1) ρ2 S2 (by omega) hb
        | ct ρ2 => exact ih (i + 1) ρ2 S2 (by omega) hb
        | bk ρ2 => exact hb
        | rt d => exact hb
        | xc e ρ2 => exact hb
      | ex e S2 => rw [hr] at hb; exact hb
      | bad => rw [hr] at hb; exact hb
  have := key all.length 0 ρ S (by omega) h0
  rwa [List.drop_zero] at this
theorem wps_while {fu : Nat} {c : EvB} {body : EvS} : wps (sWhile fu c body ρ S) N T B C X ↔ wps (whileM c body fu ρ S) N T B C X := Iff.rfl
theorem wps_whileM {c : EvB} {body : EvS} {fu : Nat} (I : Nat → Rho → Sto → Prop)
    (turn : ∀ m ρ S, I m ρ S → m < fu + 1 ∧ wp (c ρ S) (fun k S' => if k = true then wps (body ρ S') (fun ρ' S'' => ∃ m', m' < m ∧ I m' ρ' S'') T N (fun ρ' S'' => ∃ m', m' < m ∧ I m' ρ' S'') X else N ρ S') (fun e S' => X e ρ S')) (m : Nat) (hm : m < fu) (h0 : I m ρ S) : wps (whileM c body fu ρ S) N T B C X := by
  have key : ∀ (f m : Nat) (ρ : Rho) (S : Sto), m < f → I m ρ S → wps (whileM c body f ρ S) N T B C X := by
    intro f
    induction f with
    | zero => intro m ρ S h; exact absurd h (Nat.not_lt_zero _)
    | succ f ih =>
      intro m ρ S hm h
      unfold whileM
      rw [wps_lft]
      refine wp_mono (turn m ρ S h).2 (fun k S' hk => ?_) (fun _ _ h => h)
      cases k with
      | false => rw [if_neg Bool.false_ne_true] at hk ⊢; exact hk
      | true =>
        rw [if_pos rfl] at hk ⊢
        show wps (match body ρ S' with
          | .ok (.nx ρ2) S2 => whileM c body f ρ2 S2
          | .ok (.ct ρ2) S2 => whileM c body f ρ2 S2
          | .ok (.bk ρ2) S2 => .ok (.nx ρ2) S2
          | r => r) N T B C X
        cases hr : body ρ S' with
        | ok o S2 =>
          rw [hr] at hk
          cases o with
          | nx ρ2 => obtain ⟨m', hl, hi⟩ := hk; exact ih m' ρ2 S2 (by omega) hi
          | ct ρ2 => obtain ⟨m', hl, hi⟩ := hk; exact ih m' ρ2 S2 (by omega) hi
          | bk ρ2 => exact hk
          | rt d => exact hk
          | xc e ρ2 => exact hk
        | ex e S2 => rw [hr] at hk; exact hk.elim
        | bad => rw [hr] at hk; exact hk.elim
  exact key fu m ρ S hm h0
/-- a comprehension -/
theorem wp_comp {it : EvI} {tgt : D → Rho → Option Rho} {test : EvB} {el : EvD} {vs : List Nat} {F : D → Sto → Prop} : wp (eComp it tgt test el vs ρ S) F E ↔
    wp (it ρ S) (fun p S' => p.2.length ≤ sizeLine ∧ wp (compM p.1 p.2 tgt test el (wipeR ρ vs) p.2 S') (fun ys S'' => F (.lst ys) S'') nx) E := by
  unfold eComp
  rw [wp_bnd]
  constructor <;> intro h <;> refine wp_mono h (fun p S' h => ?_) (fun _ _ h => h)
  · unfold noEx at h
    by_cases hl : p.2.length ≤ sizeLine
    · refine ⟨hl, ?_⟩
      simp only [if_pos hl] at h
      cases hc : compM p.1 p.2 tgt test el (wipeR ρ vs) p.2 S' with
      | ok ys S'' => rw [hc] at h; exact h
      | ex e S'' => rw [hc] at h; exact h.elim
      | bad => rw [hc] at h; exact h.elim
    · simp only [if_neg hl] at h; exact h.elim
  · obtain ⟨hl, h⟩ := h
    unfold noEx
    simp only [if_pos hl]
    cases hc : compM p.1 p.2 tgt test el (wipeR ρ vs) p.2 S' with
    | ok ys S'' => rw [hc] at h; exact h
    | ex e S'' => rw [hc] at h; exact h.elim
    | bad => rw [hc] at h; exact h.elim
/-- .. by an invariant: the items gone through, what is made so far -/
theorem wp_compM {src : Option Nat} {all : List D} {tgt : D → Rho → Option Rho} {test : EvB} {el : EvD} {F : List D → Sto → Prop} (I : Nat → List D → Sto → Prop) (hl : ∀ i ys S, I i ys S → liveOk src all S)
    (turn : ∀ i d ys S, all[i]? = some d → I i ys S → ∃ ρ1, tgt d ρ = some ρ1 ∧ wp (test ρ1 S) (fun b S' => if b = true then wp (el ρ1 S') (fun y S'' => I (i + 1) (ys ++ [y]) S'') nx else I (i + 1) ys S') nx)
    (done : ∀ ys S, I all.length ys S → F ys S) (h0 : I 0 [] S) : wp (compM src all tgt test el ρ all S) F nx := by
  have key : ∀ (k i : Nat) (ys : List D) (S : Sto), i + k = all.length → I i ys S → wp (compM src all tgt test el ρ (all.drop i) S) (fun zs S' => F (ys ++ zs) S') nx := by
    intro k
    induction k with
    | zero =>
      intro i ys S hi h
      have : i = all.length := by omega
      subst this
      rw [List.drop_length]
      unfold compM
      rw [if_pos (hl _ _ _ h)]
      rw [wp_ok, List.append_nil]
      exact done ys S h
    | succ k ih =>
      intro i ys S hi h
      have hlt : i < all.length := by omega
      rw [List.drop_eq_getElem_cons hlt]
      unfold compM
      rw [if_pos (hl _ _ _ h)]
      obtain ⟨ρ1, e1, hb⟩ := turn i _ ys S (List.getElem?_eq_getElem hlt) h
      simp only [e1]
      rw [wp_bnd]
      refine wp_mono hb (fun b S' hb => ?_) (fun _ _ h => h)
      cases b with
      | false => rw [if_neg Bool.false_ne_true] at hb ⊢; exact ih (i + 1) ys S' (by omega) hb
      | true =>
        rw [if_pos rfl] at hb ⊢
        rw [wp_bnd]
        refine wp_mono hb (fun y S'' hy => ?_) (fun _ _ h => h)
        rw [wp_bnd]
        refine wp_mono (ih (i + 1) _ S'' (by omega) hy) (fun zs S3 hz => ?_) (fun _ _ h => h)
        rw [wp_ret]
        simpa using hz
  have := key all.length 0 [] S (by omega) h0
  rw [List.drop_zero] at this
  simpa using this
end
end DL

/-! DL8: the words of an expression, one by one. -/
namespace DL
open PySem L2

theorem ofString_inj {a b : String} : Str.ofString a = Str.ofString b ↔ a = b := by
  constructor
  · intro h
    rw [Str.ofString_eq_toList, Str.ofString_eq_toList] at h
    injection h with h
    have h2 : a.toList.map Char.toNat = b.toList.map Char.toNat := by simpa using congrArg Array.toList h
    have inj : ∀ x y : Char, x.toNat = y.toNat → x = y := fun x y e => by
      have : x.val = y.val := UInt32.toNat_inj.mp e
      exact Char.ext this
    have key : ∀ l m : List Char, l.map Char.toNat = m.map Char.toNat → l = m := by
      intro l
      induction l with
      | nil => intro m h; cases m with | nil => rfl | cons c m => simp at h
      | cons c l ih =>
        intro m h
        cases m with
        | nil => simp at h
        | cons d m =>
          simp only [List.map_cons, List.cons.injEq] at h
          rw [inj _ _ h.1, ih _ h.2]
    exact String.ext (key _ _ h2)
  · intro h; rw [h]
theorem ofString_length (s : String) : (Str.ofString s).length = s.length := by
  rw [Str.ofString_eq_toList]
  simp [Str.length]
  rfl

section
variable {α β : Type} {F : D → Sto → Prop} {FB : Bool → Sto → Prop} {FL : List D → Sto → Prop} {FO : Option Int → Sto → Prop} {FI : Option Nat × List D → Sto → Prop} {E : Exc → Sto → Prop} {S : Sto} {ρ : Rho} {a b c : EvD} {s t : EvB} {as : EvL}
theorem wp_var {i : Nat} : wp (eVar i ρ S) F E ↔ ∃ d, ρ[i]? = some (some d) ∧ F d S := by
  unfold eVar
  split
  · rename_i d h
    constructor
    · intro q; exact ⟨d, h, q⟩
    · rintro ⟨d', h', q⟩; rw [h] at h'; cases h'; exact q
  · rename_i h
    constructor
    · intro q; exact q.elim
    · rintro ⟨d', h', q⟩; exact absurd h' (h d')
theorem wp_C {d : D} : wp (eC d ρ S) F E ↔ F d S := Iff.rfl
theorem wp_bin {g : D → D → M D} : wp (eBin g a b ρ S) F E ↔ wp (a ρ S) (fun x S1 => wp (b ρ S1) (fun y S2 => wp (g x y S2) F E) E) E := by
  unfold eBin; simp only [wp_bnd]
theorem wp_un {g : D → M D} : wp (eUn g a ρ S) F E ↔ wp (a ρ S) (fun x S1 => wp (g x S1) F E) E := by
  unfold eUn; simp only [wp_bnd]
theorem wp_T : wp (eT a ρ S) FB E ↔ wp (a ρ S) (fun x S1 => wp (gTruth x S1) FB E) E := by
  unfold eT; simp only [wp_bnd]
theorem wp_Tb : wp (eTb a ρ S) FB E ↔ wp (a ρ S) (fun x S1 => wp (asBl x S1) FB E) E := by
  unfold eTb; simp only [wp_bnd]
theorem wp_asBl {k : Bool} : wp (asBl (.bl k) S) FB E ↔ FB k S := Iff.rfl
theorem wp_truthBl {k : Bool} : wp (gTruth (.bl k) S) FB E ↔ FB k S := Iff.rfl
theorem wp_bAnd : wp (bAnd s t ρ S) FB E ↔ wp (s ρ S) (fun x S1 => if x = true then wp (t ρ S1) FB E else FB false S1) E := by
  unfold bAnd; simp only [wp_bnd, wp_fif, wp_ret]
theorem wp_bOr : wp (bOr s t ρ S) FB E ↔ wp (s ρ S) (fun x S1 => if x = true then FB true S1 else wp (t ρ S1) FB E) E := by
  unfold bOr; simp only [wp_bnd, wp_fif, wp_ret]
theorem wp_bNot : wp (bNot s ρ S) FB E ↔ wp (s ρ S) (fun x S1 => FB (!x) S1) E := by
  unfold bNot; simp only [wp_bnd, wp_ret]
theorem wp_eIf : wp (eIf s a b ρ S) F E ↔ wp (s ρ S) (fun x S1 => if x = true then wp (a ρ S1) F E else wp (b ρ S1) F E) E := by
  unfold eIf; simp only [wp_bnd, wp_fif]
def blCase (x : D) (p q : Prop) : Prop := match x with
  | .bl true => p
  | .bl false => q
  | _ => False
theorem blCase_bl {k : Bool} {p q : Prop} : blCase (.bl k) p q ↔ if k = true then p else q := by
  cases k <;> simp [blCase]
theorem wp_eAnd : wp (eAnd a b ρ S) F E ↔ wp (a ρ S) (fun x S1 => blCase x (wp (b ρ S1) F E) (F (.bl false) S1)) E := by
  unfold eAnd; simp only [wp_bnd]
  constructor <;> intro h <;> refine wp_mono h (fun x S' h => ?_) (fun _ _ h => h)
  · unfold blCase; split at h <;> first | exact h | exact h.elim
  · unfold blCase at h; split at h <;> first | exact h | exact h.elim
theorem wp_eOr : wp (eOr a b ρ S) F E ↔ wp (a ρ S) (fun x S1 => blCase x (F (.bl true) S1) (wp (b ρ S1) F E)) E := by
  unfold eOr; simp only [wp_bnd]
  constructor <;> intro h <;> refine wp_mono h (fun x S' h => ?_) (fun _ _ h => h)
  · unfold blCase; split at h <;> first | exact h | exact h.elim
  · unfold blCase at h; split at h <;> first | exact h | exact h.elim
theorem wp_eNot : wp (eNot a ρ S) F E ↔ wp (a ρ S) (fun x S1 => blCase x (F (.bl false) S1) (F (.bl true) S1)) E := by
  unfold eNot; simp only [wp_bnd]
  constructor <;> intro h <;> refine wp_mono h (fun x S' h => ?_) (fun _ _ h => h)
  · unfold blCase
    split at h
    · rename_i k; cases k <;> exact h
    · exact h.elim
  · unfold blCase at h; split at h <;> first | exact h | exact h.elim
theorem wp_chain {g g' : D → D → M D} : wp (eChain g g' a b c ρ S) F E ↔ wp (a ρ S) (fun x S1 => wp (b ρ S1) (fun y S2 => wp (g x y S2) (fun z S3 => blCase z (wp (c ρ S3) (fun w S4 => wp (g' y w S4) F E) E) (F (.bl false) S3)) E) E) E := by
  unfold eChain; simp only [wp_bnd]
  constructor <;> intro h <;> refine wp_mono h (fun x S1 h => wp_mono h (fun y S2 h => wp_mono h (fun z S3 h => ?_) fun _ _ h => h) fun _ _ h => h) (fun _ _ h => h)
  · cases z with
    | bl k => cases k with
      | true => exact wp_bnd.mp h
      | false => exact h
    | _ => exact False.elim h
  · cases z with
    | bl k => cases k with
      | true => exact wp_bnd.mpr h
      | false => exact h
    | _ => exact False.elim h
theorem wp_aNil : wp (aNil ρ S) FL E ↔ FL [] S := Iff.rfl
theorem wp_aCons : wp (aCons a as ρ S) FL E ↔ wp (a ρ S) (fun x S1 => wp (as ρ S1) (fun xs S2 => FL (x :: xs) S2) E) E := by
  unfold aCons; simp only [wp_bnd, wp_ret]
theorem wp_tup : wp (eTup as ρ S) F E ↔ wp (as ρ S) (fun ds S1 => ds.length ≤ sizeLine ∧ F (.tup ds) S1) E := by
  unfold eTup; simp only [wp_bnd]
  constructor <;> intro h <;> refine wp_mono h (fun x S' h => ?_) (fun _ _ h => h)
  · by_cases hl : x.length ≤ sizeLine
    · rw [if_pos hl] at h; exact ⟨hl, h⟩
    · rw [if_neg hl] at h; exact h.elim
  · rw [if_pos h.1]; exact h.2
theorem wp_lst : wp (eLst as ρ S) F E ↔ wp (as ρ S) (fun ds S1 => ds.length ≤ sizeLine ∧ F (.lst ds) S1) E := by
  unfold eLst; simp only [wp_bnd]
  constructor <;> intro h <;> refine wp_mono h (fun x S' h => ?_) (fun _ _ h => h)
  · by_cases hl : x.length ≤ sizeLine
    · rw [if_pos hl] at h; exact ⟨hl, h⟩
    · rw [if_neg hl] at h; exact h.elim
  · rw [if_pos h.1]; exact h.2
theorem wp_lstM : wp (eLstM as ρ S) F E ↔ wp (as ρ S) (fun ds S1 => ds.length ≤ sizeLine ∧ F (.ref S1.length) (S1 ++ [.lst ds])) E := by
  unfold eLstM; simp only [wp_bnd]
  constructor <;> intro h <;> refine wp_mono h (fun x S' h => ?_) (fun _ _ h => h)
  · by_cases hl : x.length ≤ sizeLine
    · rw [if_pos hl] at h; exact ⟨hl, h⟩
    · rw [if_neg hl] at h; exact h.elim
  · rw [if_pos h.1]; exact h.2
theorem wp_call {g : List D → M D} : wp (eCall g as ρ S) F E ↔ wp (as ρ S) (fun ds S1 => wp (g ds S1) F E) E := by
  unfold eCall; simp only [wp_bnd]
theorem wp_cl {n : Nat} {G : List D → M D} {ds : List D} (h : ds.length = n) : wp (cl n G ds S) F E ↔ wp (G ds S) F E := by
  unfold cl; rw [if_pos h]
theorem wp_cl1 {G : List D → M D} {x : D} : wp (cl 1 G [x] S) F E ↔ wp (G [x] S) F E := wp_cl rfl
theorem wp_cl2 {G : List D → M D} {x y : D} : wp (cl 2 G [x, y] S) F E ↔ wp (G [x, y] S) F E := wp_cl rfl
theorem wp_cl3 {G : List D → M D} {x y z : D} : wp (cl 3 G [x, y, z] S) F E ↔ wp (G [x, y, z] S) F E := wp_cl rfl
theorem wp_cl4 {G : List D → M D} {x y z u : D} : wp (cl 4 G [x, y, z, u] S) F E ↔ wp (G [x, y, z, u] S) F E := wp_cl rfl
theorem wp_cl5 {G : List D → M D} {x y z u v : D} : wp (cl 5 G [x, y, z, u, v] S) F E ↔ wp (G [x, y, z, u, v] S) F E := wp_cl rfl
theorem wp_meth {T : String} {g : D → List D → M D} : wp (eMeth T g a as ρ S) F E ↔ wp (a ρ S) (fun x S1 => isTy S1 T x = true ∧ wp (as ρ S1) (fun xs S2 => wp (g x xs S2) F E) E) E := by
  unfold eMeth; simp only [wp_bnd]
  constructor <;> intro h <;> refine wp_mono h (fun x S' h => ?_) (fun _ _ h => h)
  · unfold chkT at h
    by_cases ht : isTy S' T x = true
    · rw [if_pos ht] at h; exact ⟨ht, h⟩
    · rw [if_neg ht] at h; exact h.elim
  · unfold chkT
    rw [if_pos h.1]; exact h.2
theorem wp_isi {T : String} : wp (eIsi T a ρ S) F E ↔ wp (a ρ S) (fun x S1 => ∃ n, typN S1 x = some n ∧ F (.bl (isiN n T)) S1) E := by
  unfold eIsi; simp only [wp_bnd]
  constructor <;> intro h <;> refine wp_mono h (fun x S' h => ?_) (fun _ _ h => h)
  · unfold gIsi at h
    split at h
    · rename_i n hn; exact ⟨n, hn, h⟩
    · exact h.elim
  · obtain ⟨n, hn, h⟩ := h
    unfold gIsi
    rw [hn]; exact h
theorem wp_oNone : wp (oNone ρ S) FO E ↔ FO none S := Iff.rfl
theorem wp_oSome : wp (oSome a ρ S) FO E ↔ wp (a ρ S) (fun x S1 => ∃ i, x = .int i ∧ FO (some i) S1) E := by
  unfold oSome; simp only [wp_bnd]
  constructor <;> intro h <;> refine wp_mono h (fun x S' h => ?_) (fun _ _ h => h)
  · split at h
    · exact ⟨_, rfl, h⟩
    · exact h.elim
  · obtain ⟨i, rfl, h⟩ := h; exact h
theorem wp_sl {m : Bool} {lo hi : EvO} : wp (eSl m a lo hi ρ S) F E ↔ wp (a ρ S) (fun x S1 => wp (lo ρ S1) (fun l S2 => wp (hi ρ S2) (fun h S3 => wp (gSl m x l h S3) F E) E) E) E := by
  unfold eSl; simp only [wp_bnd]
theorem wp_it : wp (iIt a ρ S) FI E ↔ wp (a ρ S) (fun x S1 => wp (srcL x S1) FI E) E := by
  unfold iIt; simp only [wp_bnd]
theorem wp_range1 : wp (iRange1 as ρ S) FI E ↔ wp (as ρ S) (fun x S1 => wp (srcR1 x S1) FI E) E := by
  unfold iRange1; simp only [wp_bnd]
theorem wp_range2 : wp (iRange2 as ρ S) FI E ↔ wp (as ρ S) (fun x S1 => wp (srcR2 x S1) FI E) E := by
  unfold iRange2; simp only [wp_bnd]
theorem wp_bYes : wp (bYes ρ S) FB E ↔ FB true S := Iff.rfl

/-! the operations on values -/
theorem gEq_str {x y : Str} : wp (gEq (.str x) (.str y) S) F E ↔ F (.bl (decide (x = y))) S := Iff.rfl
theorem gNe_str {x y : Str} : wp (gNe (.str x) (.str y) S) F E ↔ F (.bl (!decide (x = y))) S := Iff.rfl
theorem gEq_int {x y : Int} : wp (gEq (.int x) (.int y) S) F E ↔ F (.bl (decide (x = y))) S := Iff.rfl
theorem gNe_int {x y : Int} : wp (gNe (.int x) (.int y) S) F E ↔ F (.bl (!decide (x = y))) S := Iff.rfl
theorem gEq_bl {x y : Bool} : wp (gEq (.bl x) (.bl y) S) F E ↔ F (.bl (decide (x = y))) S := Iff.rfl
theorem gNe_bl {x y : Bool} : wp (gNe (.bl x) (.bl y) S) F E ↔ F (.bl (!decide (x = y))) S := Iff.rfl
theorem gIs_bl {x y : Bool} : wp (gIs (.bl x) (.bl y) S) F E ↔ F (.bl (decide (x = y))) S := Iff.rfl
theorem gIsNot_bl {x y : Bool} : wp (gIsNot (.bl x) (.bl y) S) F E ↔ F (.bl (!decide (x = y))) S := Iff.rfl
theorem gAdd_int {x y : Int} : wp (gAdd (.int x) (.int y) S) F E ↔ F (.int (x + y)) S := Iff.rfl
theorem gSub_int {x y : Int} : wp (gSub (.int x) (.int y) S) F E ↔ F (.int (x - y)) S := by
  unfold gSub gI; simp only [if_true]; rfl
theorem gC_int {f : Int → Int → Bool} {x y : Int} : wp (gC f (.int x) (.int y) S) F E ↔ F (.bl (f x y)) S := Iff.rfl
theorem gI_int {C : Int → Int → Bool} {f : Int → Int → Int} {x y : Int} : wp (gI C f (.int x) (.int y) S) F E ↔ C x y = true ∧ F (.int (f x y)) S := by
  unfold gI
  simp only []
  by_cases h : C x y = true
  · rw [if_pos h]; exact ⟨fun q => ⟨h, q⟩, fun q => q.2⟩
  · rw [if_neg h]; exact ⟨fun q => q.elim, fun q => absurd q.1 h⟩
theorem gAdd_str {x y : Str} : wp (gAdd (.str x) (.str y) S) F E ↔ x.length + y.length ≤ sizeLine ∧ F (.str (x ++ y)) S := by
  unfold gAdd
  simp only []
  by_cases h : x.length + y.length ≤ sizeLine
  · rw [if_pos h]; exact ⟨fun q => ⟨h, q⟩, fun q => q.2⟩
  · rw [if_neg h]; exact ⟨fun q => q.elim, fun q => absurd q.1 h⟩
theorem gAdd_tup {x y : List D} : wp (gAdd (.tup x) (.tup y) S) F E ↔ x.length + y.length ≤ sizeLine ∧ F (.tup (x ++ y)) S := by
  unfold gAdd
  simp only []
  by_cases h : x.length + y.length ≤ sizeLine
  · rw [if_pos h]; exact ⟨fun q => ⟨h, q⟩, fun q => q.2⟩
  · rw [if_neg h]; exact ⟨fun q => q.elim, fun q => absurd q.1 h⟩
theorem gAdd_lst {x y : List D} : wp (gAdd (.lst x) (.lst y) S) F E ↔ x.length + y.length ≤ sizeLine ∧ F (.lst (x ++ y)) S := by
  unfold gAdd
  simp only [iTrk]
  by_cases h : x.length + y.length ≤ sizeLine
  · rw [if_pos h]; exact ⟨fun q => ⟨h, q⟩, fun q => q.2⟩
  · rw [if_neg h]; exact ⟨fun q => q.elim, fun q => absurd q.1 h⟩
theorem gNeg_int {x : Int} : wp (gNeg (.int x) S) F E ↔ F (.int (-x)) S := Iff.rfl
theorem gIx_seq {x : D} {ds : List D} {k : Int} (h : iLst S x = some ds) : wp (gIx x (.int k) S) F E ↔ ∃ d, atI ds k = some d ∧ F d S := by
  have e : gIx x (.int k) S = match atI ds k with
      | some d => .ok d S
      | none => .bad := by
    unfold gIx
    cases x with
    | str z => simp [iLst] at h
    | _ => simp only [h] <;> rfl
  rw [e]
  cases h2 : atI ds k with
  | some d => exact ⟨fun q => ⟨d, rfl, q⟩, fun ⟨d', e, q⟩ => by cases e; exact q⟩
  | none => exact ⟨fun q => q.elim, fun ⟨d', e, q⟩ => by cases e⟩
theorem gIx_tup {ds : List D} {k : Int} : wp (gIx (.tup ds) (.int k) S) F E ↔ ∃ d, atI ds k = some d ∧ F d S := gIx_seq rfl
theorem gIx_lst {ds : List D} {k : Int} : wp (gIx (.lst ds) (.int k) S) F E ↔ ∃ d, atI ds k = some d ∧ F d S := gIx_seq rfl
theorem gLen_seq {x : D} {ds : List D} (h : iLst S x = some ds) : wp (gLen [x] S) F E ↔ F (.int ds.length) S := by
  unfold gLen
  cases x <;> simp_all [iLst, wp]
theorem gLen_tup {ds : List D} : wp (gLen [.tup ds] S) F E ↔ F (.int ds.length) S := gLen_seq rfl
theorem gLen_lst {ds : List D} : wp (gLen [.lst ds] S) F E ↔ F (.int ds.length) S := gLen_seq rfl
theorem gLen_str {x : Str} : wp (gLen [.str x] S) F E ↔ x.length ≤ sizeLine ∧ F (.int x.length) S := by
  unfold gLen
  simp only []
  by_cases h : x.length ≤ sizeLine
  · rw [if_pos h]; exact ⟨fun q => ⟨h, q⟩, fun q => q.2⟩
  · rw [if_neg h]; exact ⟨fun q => q.elim, fun q => absurd q.1 h⟩
theorem gInt_int {x : Int} : wp (gInt [.int x] S) F E ↔ F (.int x) S := Iff.rfl
theorem gInt_bl {x : Bool} : wp (gInt [.bl x] S) F E ↔ F (.int (if x then 1 else 0)) S := Iff.rfl
theorem gTuple_lst {ds : List D} : wp (gTuple [.lst ds] S) F E ↔ F (.tup ds) S := Iff.rfl
theorem gTuple_tup {ds : List D} : wp (gTuple [.tup ds] S) F E ↔ F (.tup ds) S := Iff.rfl
theorem gList_lst {ds : List D} : wp (gList [.lst ds] S) F E ↔ F (.lst ds) S := Iff.rfl
theorem gList_tup {ds : List D} : wp (gList [.tup ds] S) F E ↔ F (.lst ds) S := Iff.rfl
theorem gAll_bls {bs : List Bool} : wp (gAll [.lst (bs.map .bl)] S) F E ↔ F (.bl (bs.all id)) S := by
  have e : gAll [.lst (bs.map .bl)] S = .ok (.bl (bs.all id)) S := by
    unfold gAll
    simp only [iSeq, Option.bind_some, blsOf_map]
  rw [e]; rfl
theorem gSl_tup {m : Bool} {ds : List D} {lo hi : Option Int} : wp (gSl m (.tup ds) lo hi S) F E ↔ F (.tup (cutD ds lo hi)) S := Iff.rfl
theorem gSl_lst {ds : List D} {lo hi : Option Int} : wp (gSl false (.lst ds) lo hi S) F E ↔ F (.lst (cutD ds lo hi)) S := Iff.rfl
theorem gSl_fl {ds : List D} {lo hi : Option Int} : wp (gSl false (.fl ds) lo hi S) F E ↔ F (.lst (cutD ds lo hi)) S := Iff.rfl
theorem gSl_str {m : Bool} {z : Str} {lo hi : Option Int} : wp (gSl m (.str z) lo hi S) F E ↔ z.length ≤ sizeLine ∧ F (.str (cutS z lo hi)) S := by
  unfold gSl
  simp only []
  by_cases h : z.length ≤ sizeLine
  · rw [if_pos h]; exact ⟨fun q => ⟨h, q⟩, fun q => q.2⟩
  · rw [if_neg h]; exact ⟨fun q => q.elim, fun q => absurd q.1 h⟩
theorem srcL_tup {ds : List D} : wp (srcL (.tup ds) S) FI E ↔ FI (none, ds) S := Iff.rfl
theorem srcL_lst {ds : List D} : wp (srcL (.lst ds) S) FI E ↔ FI (none, ds) S := Iff.rfl
theorem srcL_fl {ds : List D} : wp (srcL (.fl ds) S) FI E ↔ FI (none, ds) S := Iff.rfl
theorem srcL_str {x : Str} : wp (srcL (.str x) S) FI E ↔ FI (none, x.cps.toList.map fun c => .str ⟨#[c]⟩) S := Iff.rfl
theorem srcR1_int {j : Int} : wp (srcR1 [.int j] S) FI E ↔ bnd62 j = true ∧ FI (none, rangeD 0 j.toNat) S := by
  unfold srcR1
  simp only []
  by_cases h : bnd62 j = true
  · rw [if_pos h]; exact ⟨fun q => ⟨h, q⟩, fun q => q.2⟩
  · rw [if_neg h]; exact ⟨fun q => q.elim, fun q => absurd q.1 h⟩
theorem inV_strs (a : Str) : ∀ l : List Str, inV (.str a) (l.map V.str) = decide (a ∈ l)
  | [] => by simp [inV]
  | x :: l => by
    have ih := inV_strs a l
    have e : inV (.str a) ((x :: l).map V.str) = ((x == a) || inV (.str a) (l.map V.str)) := rfl
    rw [e, ih]
    by_cases h : x = a
    · simp [h]
    · have h2 : ¬ a = x := fun e => h e.symm
      have h3 : (x == a) = false := by simpa using h
      simp [h2, h3]
theorem flatDs_strs : ∀ l : List Str, flatDs (l.map D.str) = some (l.map V.str)
  | [] => rfl
  | x :: l => by simp [flatDs, flatD, flatDs_strs l]
theorem gIn_strs {a : Str} {y : D} {l : List Str} (h : iLst S y = some (l.map .str)) : wp (gIn (.str a) y S) F E ↔ F (.bl (decide (a ∈ l))) S := by
  have e : inD S (.str a) y = some (decide (a ∈ l)) := by
    unfold inD
    cases y <;> simp_all [iLst, flatD, flatDs_strs, inV_strs]
  unfold gIn
  rw [e]; rfl
theorem gNotIn_strs {a : Str} {y : D} {l : List Str} (h : iLst S y = some (l.map .str)) : wp (gNotIn (.str a) y S) F E ↔ F (.bl (!decide (a ∈ l))) S := by
  have e : inD S (.str a) y = some (decide (a ∈ l)) := by
    unfold inD
    cases y <;> simp_all [iLst, flatD, flatDs_strs, inV_strs]
  unfold gNotIn
  rw [e]; rfl
theorem occ_sign {c : Nat} {z : Str} : (!(Builtin.Str.occurrences z ⟨#[c]⟩ 0 z.length 1).isEmpty) = decide (c ∈ z.cps.toList) := PySem.StrLaws.found_one z c
theorem gIn_sign {c : Nat} {z : Str} : wp (gIn (.str ⟨#[c]⟩) (.str z) S) F E ↔ F (.bl (decide (c ∈ z.cps.toList))) S := by
  have e : inD S (.str ⟨#[c]⟩) (.str z) = some (decide (c ∈ z.cps.toList)) := by
    unfold inD
    simp only [occ_sign]
  unfold gIn
  rw [e]; rfl
end
end DL

/-! DL9: stores of trees, a deck of whole numbers. -/
namespace DL
open PySem L2
section
variable {α : Type} {a b c d e : α} {l : List α}
theorem atI_0 : atI (a :: l) 0 = some a := atI_nat (j := 0) rfl
theorem atI_1 : atI (a :: b :: l) 1 = some b := atI_nat (j := 1) rfl
theorem atI_2 : atI (a :: b :: c :: l) 2 = some c := atI_nat (j := 2) rfl
theorem atI_3 : atI (a :: b :: c :: d :: l) 3 = some d := atI_nat (j := 3) rfl
theorem atI_4 : atI (a :: b :: c :: d :: e :: l) 4 = some e := atI_nat (j := 4) rfl
end
def WF (S : Sto) : Prop := S.all (MO.lo 0) = true
abbrev tr (d : D) : Prop := d.lo 0 = true
mutual
theorem D.lo_mono {m n : Nat} (h : m ≤ n) : ∀ d : D, d.lo m = true → d.lo n = true
  | .non, _ => rfl
  | .bl _, _ => rfl
  | .int _, _ => rfl
  | .str _, _ => rfl
  | .fn _, _ => rfl
  | .tup ds, e => by simp only [D.lo] at e ⊢; exact D.los_mono h ds e
  | .lst ds, e => by simp only [D.lo] at e ⊢; exact D.los_mono h ds e
  | .fl ds, e => by simp only [D.lo] at e ⊢; exact D.los_mono h ds e
  | .ref k, e => by simp only [D.lo, decide_eq_true_eq] at e ⊢; omega
theorem D.los_mono {m n : Nat} (h : m ≤ n) : ∀ ds : List D, D.los m ds = true → D.los n ds = true
  | [], _ => rfl
  | d :: ds, e => by
    simp only [D.los, Bool.and_eq_true] at e ⊢
    exact ⟨D.lo_mono h d e.1, D.los_mono h ds e.2⟩
end
theorem loK_mono {m n : Nat} (h : m ≤ n) : ∀ ks : List (Key × D), loK m ks = true → loK n ks = true
  | [], _ => rfl
  | d :: ds, e => by
    simp only [loK, Bool.and_eq_true] at e ⊢
    exact ⟨D.lo_mono h _ e.1, loK_mono h ds e.2⟩
theorem MO.lo_mono {m n : Nat} (h : m ≤ n) (o : MO) (e : o.lo m = true) : o.lo n = true := by
  cases o with
  | lst ds => exact D.los_mono h ds e
  | dct ks => exact loK_mono h ks e
theorem los_iff {n : Nat} : ∀ ds : List D, D.los n ds = true ↔ ∀ d ∈ ds, d.lo n = true
  | [] => by simp [D.los]
  | d :: ds => by simp [D.los, los_iff ds]
theorem los_map {α : Type} {n : Nat} {f : α → D} (h : ∀ x, (f x).lo n = true) (l : List α) : D.los n (l.map f) = true := by
  rw [los_iff]; intro d hd
  obtain ⟨x, _, rfl⟩ := List.mem_map.mp hd
  exact h x
theorem WF.nil : WF [] := rfl
theorem WF.mem {S : Sto} (h : WF S) {m : MO} (hm : m ∈ S) : m.lo 0 = true := List.all_eq_true.mp h m hm
theorem WF.append {S : Sto} {m : MO} (h : WF S) (hm : m.lo 0 = true) : WF (S ++ [m]) := by
  unfold WF at *; simp [h, hm]
theorem WF.set {S : Sto} {k : Nat} {m : MO} (h : WF S) (hm : m.lo 0 = true) : WF (S.set k m) := by
  unfold WF
  rw [List.all_eq_true]
  intro x hx
  rcases List.mem_or_eq_of_mem_set hx with q | q
  · exact h.mem q
  · rw [q]; exact hm
theorem WF.take {S : Sto} (h : WF S) (n m : Nat) : (S.take n).all (MO.lo m) = true := by
  rw [List.all_eq_true]
  intro x hx
  exact MO.lo_mono (Nat.zero_le _) x (h.mem (List.mem_of_mem_take hx))
section
variable {F : D → Sto → Prop} {E : Exc → Sto → Prop} {S S1 : Sto} {d : D}
theorem fin_cut (hw : WF S) (hd : tr d) (h : F d (S.take S1.length)) : wp (finD false S1.length d S) F E :=
  wp_fin (hw.take _ _) (D.lo_mono (Nat.zero_le _) _ hd) h
theorem fin_same (hw : WF S) (hd : tr d) (hl : S.length = S1.length) (h : F d S) : wp (finD false S1.length d S) F E := by
  refine fin_cut hw hd ?_
  rw [← hl, List.take_length]; exact h
/-- .. as a rewriting, of the store as it came -/
theorem fin_bl {b : Bool} (hw : WF S) : wp (finD false S.length (.bl b) S) F E ↔ F (.bl b) S := by
  unfold finD
  rw [if_neg (by decide), if_pos (hw.take _ _), if_pos (by rfl), List.take_length]
  rfl
theorem fin_int {b : Int} (hw : WF S) : wp (finD false S.length (.int b) S) F E ↔ F (.int b) S := by
  unfold finD
  rw [if_neg (by decide), if_pos (hw.take _ _), if_pos (by rfl), List.take_length]
  rfl
theorem fin_str {b : Str} (hw : WF S) : wp (finD false S.length (.str b) S) F E ↔ F (.str b) S := by
  unfold finD
  rw [if_neg (by decide), if_pos (hw.take _ _), if_pos (by rfl), List.take_length]
  rfl
end
/-- S is S0 but for the deck of whole numbers at k -/
structure DK (k : Nat) (S0 S : Sto) : Prop where
  wf : WF S0
  lt : k < S0.length
  at_ : ∃ cells : List Int, cells.length ≤ 100000 ∧ S = S0.set k (.lst (cells.map .int))
section
variable {k : Nat} {S0 S : Sto}
theorem DK.wf' (h : DK k S0 S) : WF S := by
  obtain ⟨w, l, cells, hc, rfl⟩ := h
  exact w.set (los_map (fun _ => rfl) cells)
theorem DK.len (h : DK k S0 S) : S.length = S0.length := by
  obtain ⟨w, l, cells, hc, rfl⟩ := h
  simp
theorem DK.get (h : DK k S0 S) : ∃ cells : List Int, cells.length ≤ 100000 ∧ atL S k = some (cells.map .int) ∧ ∀ cs : List Int, cs.length ≤ 100000 → DK k S0 (S.set k (.lst (cs.map .int))) := by
  obtain ⟨w, l, cells, hc, rfl⟩ := h
  refine ⟨cells, hc, ?_, fun cs hcs => ⟨w, l, cs, hcs, by rw [List.set_set]⟩⟩
  unfold atL
  rw [List.getElem?_set_self l]
theorem DK.push {m : MO} (h : DK k S0 S) (hm : m.lo 0 = true) : DK k (S0 ++ [m]) (S ++ [m]) := by
  obtain ⟨w, l, cells, hc, rfl⟩ := h
  refine ⟨w.append hm, by simp; omega, cells, hc, ?_⟩
  rw [List.set_append_left _ _ l]
theorem DK.refl {cells : List Int} (w : WF S0) (hc : cells.length ≤ 100000) (h : S0[k]? = some (.lst (cells.map .int))) : DK k S0 S0 := by
  have l := (List.getElem?_eq_some_iff.mp h)
  obtain ⟨l, e⟩ := l
  refine ⟨w, l, cells, hc, ?_⟩
  rw [← e, List.set_getElem_self]
/-- the last stored list, beside the deck -/
theorem DK.last {m : MO} (h : DK k (S0 ++ [m]) S) (hk : k < S0.length) : S[S0.length]? = some m ∧ ∃ S', S = S' ++ [m] ∧ S'.length = S0.length := by
  obtain ⟨w, l, cells, hc, rfl⟩ := h
  rw [List.set_append_left _ _ hk]
  refine ⟨?_, _, rfl, by simp⟩
  rw [List.getElem?_append_right (by simp)]
  simp
/-- the last stored list is changed -/
theorem DK.put {m m' : MO} (h : DK k (S0 ++ [m]) S) (hk : k < S0.length) (hm : m'.lo 0 = true) : DK k (S0 ++ [m']) (S.set S0.length m') := by
  obtain ⟨w, l, cells, hc, rfl⟩ := h
  have w0 : WF S0 := by
    unfold WF at *
    simp at w ⊢
    exact w.1
  refine ⟨w0.append hm, by simp; omega, cells, hc, ?_⟩
  rw [List.set_append_left _ _ hk, List.set_append_left _ _ hk, List.set_append_right _ _ (by simp)]
  simp
/-- the last stored list is forgotten -/
theorem DK.pop {m : MO} (h : DK k (S0 ++ [m]) S) (hk : k < S0.length) : DK k S0 (S.take S0.length) := by
  obtain ⟨w, l, cells, hc, rfl⟩ := h
  have w0 : WF S0 := by
    unfold WF at *
    simp at w ⊢
    exact w.1
  refine ⟨w0, hk, cells, hc, ?_⟩
  rw [List.set_append_left _ _ hk, List.take_append_of_le_length (by simp), List.take_of_length_le (by simp)]
end
section
variable {F : D → Sto → Prop} {E : Exc → Sto → Prop} {S : Sto}
theorem gPop_ref {n : Nat} {ds : List D} (h : atL S n = some ds) : wp (gPop (.ref n) [] S) F E ↔ ∃ d, ds[ds.length - 1]? = some d ∧ F d (S.set n (.lst ds.dropLast)) := by
  unfold gPop
  simp only [h]
  cases e : ds[ds.length - 1]? with
  | some d => exact ⟨fun q => ⟨d, rfl, q⟩, fun ⟨d', e, q⟩ => by cases e; exact q⟩
  | none => exact ⟨fun q => q.elim, fun ⟨d', e, q⟩ => by cases e⟩
theorem gAppend_ref {n : Nat} {ds : List D} {d : D} (h : atL S n = some ds) : wp (gAppend (.ref n) [d] S) F E ↔ ds.length < sizeLine ∧ F .non (S.set n (.lst (ds ++ [d]))) := by
  unfold gAppend
  simp only [h]
  by_cases hl : ds.length < sizeLine
  · rw [if_pos hl]; exact ⟨fun q => ⟨hl, q⟩, fun q => q.2⟩
  · rw [if_neg hl]; exact ⟨fun q => q.elim, fun q => absurd q.1 hl⟩
theorem isTy_ref {n : Nat} {ds : List D} (h : atL S n = some ds) : isTy S "list" (.ref n) = true := by
  simp only [isTy, atL_ok h]
  rfl
theorem gEq_refNil {n : Nat} {ds : List Int} (h : atL S n = some (ds.map .int)) : wp (gEq (.ref n) (.lst []) S) F E ↔ F (.bl (decide (ds = []))) S := by
  have tp : ∀ l : List Int, toPys (l.map .int) = some (l.map PyData.int) := by
    intro l; induction l with
    | nil => rfl
    | cons x l ih => simp [toPys, toPy, ih]
  have cl : ∀ l : List Int, PyData.canLayAll0 (l.map PyData.int) = true := by
    intro l; induction l with
    | nil => rfl
    | cons x l ih => simp [PyData.canLayAll0, PyData.canLay0, ih]
  have e : eqD S (.ref n) (.lst []) = some (decide (ds = [])) := by
    have e1 : toPyS S (.ref n) = some (.list (ds.map PyData.int)) := by
      simp only [toPyS, h, tp, Option.map_some]
    have e2 : toPyS S (.lst []) = some (.list []) := rfl
    have s1 : okEq (.list (ds.map PyData.int)) (.list []) = true := by
      unfold okEq
      simp only [PyData.canLay0, cl, PyData.canLayAll0, Bool.true_and]
      exact decide_eq_true (Nat.le_trans (Nat.min_le_right _ _) (by decide))
    unfold eqD
    simp only [e1, e2, s1, if_true]
    cases ds with
    | nil => rfl
    | cons x l => simp [PyData.eqv, PyData.eqvAll]
  unfold gEq
  rw [e]; rfl
end
/-- a comprehension that leaves the store as it is -/
theorem comp_pure {all : List D} {i : Nat} {el : EvD} {ρ : Rho} {S : Sto} {FF : List D → Sto → Prop} (f : D → D) (hel : ∀ d ∈ all, wp (el (ρ.set i (some d)) S) (fun y S' => y = f d ∧ S' = S) nx) (h : FF (all.map f) S) :
    wp (compM none all (gN i) bYes el ρ all S) FF nx := by
  refine wp_compM (fun k ys S' => S' = S ∧ ys = (all.take k).map f) (fun _ _ _ _ => trivial) (fun k d ys S' hd hk => ?_) (fun ys S' hk => ?_) ⟨rfl, rfl⟩
  · obtain ⟨rfl, rfl⟩ := hk
    refine ⟨_, rfl, ?_⟩
    rw [wp_bYes, if_pos rfl]
    refine wp_mono (hel d (List.mem_of_getElem? hd)) (fun y S'' hy => ?_) (fun _ _ h => h)
    obtain ⟨rfl, rfl⟩ := hy
    refine ⟨rfl, ?_⟩
    rw [List.take_succ, hd]
    simp
  · obtain ⟨rfl, rfl⟩ := hk
    rw [List.take_length]
    exact h
theorem cMul_l {i j : Int} (h0 : 0 ≤ i) (h1 : i < 18446744073709551616) : cMul i j = true := by
  unfold cMul; simp only [Bool.or_eq_true, decide_eq_true_eq]; omega
theorem cMul_r {i j : Int} (h0 : 0 ≤ j) (h1 : j < 18446744073709551616) : cMul i j = true := by
  unfold cMul; simp only [Bool.or_eq_true, decide_eq_true_eq]; omega
theorem cDiv_of {i j : Int} (h0 : 0 < j) (h1 : j < 18446744073709551616) : cDiv i j = true := by
  unfold cDiv; simp only [Bool.and_eq_true, decide_eq_true_eq]
  refine ⟨h0, Nat.lt_of_le_of_lt (m := 64) ?_ (by decide)⟩
  by_cases hz : j.natAbs = 0
  · omega
  · exact Nat.le_of_lt ((Nat.log2_lt hz).mpr (by omega))
theorem atI_mem {α : Type} {ds : List α} {v : Int} (h0 : 0 ≤ v) (h1 : v < ds.length) : ∃ d, d ∈ ds ∧ atI ds v = some d := by
  obtain ⟨j, rfl⟩ := Int.eq_ofNat_of_zero_le h0
  have hj : j < ds.length := by omega
  exact ⟨ds[j], List.getElem_mem hj, atI_nat (List.getElem?_eq_getElem hj)⟩
theorem atL_set {S : Sto} {k : Nat} {ds : List D} (h : k < S.length) : atL (S.set k (.lst ds)) k = some ds := by
  unfold atL; rw [List.getElem?_set_self h]
theorem small_line {n : Nat} (h : n ≤ 16777216) : n ≤ sizeLine := by rw [sizeLine_eq]; exact h
end DL

namespace DL
open PySem PySem.Spec PyProof.Rows L2
theorem tuple_mul1 (l : Addr) (items : Array Value) (n : Nat) (dd : Option Addr) (sl : Array (Option Value)) (u : Tok) :
    Meets (Builtin.«tuple.__mul__» ⟨[.ref l, .int 1 u], []⟩) (fun _ R s => s.heap.get? l = some { cls := .type "tuple", dict := dd, data := .seq items n, slots := sl } ∧
      R (.ok (.ret (Value.ref l))) s) :=
  .of_wp fun prog w A R s h => by
    obtain ⟨hp, g, d, tk, os⟩ := s
    obtain ⟨hl, h⟩ := h
    have f1 := AutoSeq1.idx_int
    have c0 : (decide ((1 : Int) < -(2 ^ 63)) || decide ((1 : Int) ≥ 2 ^ 63)) = false := by decide
    have c1 : (items.isEmpty || (1 : Int) == 1) = true := by simp
    wp_walk using wpAny_loadPart' hl
    repeat (first
      | (refine wpAny_ite_false (decide_eq_false (by rw [c0]; exact Bool.false_ne_true)) ?_; wp_walk using wpAny_loadPart' hl)
      | (refine wpAny_ite_true (decide_eq_true c1) ?_; wp_walk using wpAny_loadPart' hl))
    exact ⟨_, rfl, h⟩
section
variable {X : Cx} {W : WX}
theorem op_rep1 : OpR X (binaryOp .Mult) (fun x y H Q => ∃ l xs, x = V.ref l ∧ y = V.int 1 ∧ SqT X.K H l xs ∧ Q (.ref l) H) := by
  intro pins s σ H x y v u Q I rx ry h
  obtain ⟨l, xs, rfl, rfl, hT, q⟩ := h
  cases rx
  obtain ⟨t, rfl⟩ := ry
  obtain ⟨its, r, ⟨⟨cls, dd, data, sl⟩, ho, hc, n, hd⟩, hs⟩ := I.tuple hT
  simp only at hc hd
  subst hc hd
  refine wpAny_binaryOp_repeat_ref (T := "tuple") (U := "int") (by decide) ⟨_, ho, rfl⟩ (fun s' => typeIs_int s' 1 t) noFill_tuple_mul F.fills_int_mul F.slot_int_rmul repeat_tuple F.slot_int_index.lookup
    (call_meets F.slot_int_rmul (typeIs_int s 1 t) F.entry_int_rmul (F.args_int_rmul_2 _ _) (int_rmul_tuple 1 t l its.toArray n dd sl)
      ⟨ho, rfl, ⟨_, ho, rfl⟩, call_meets F.slot_tuple_mul ⟨_, ho, rfl⟩ F.entry_tuple_mul (F.args_tuple_mul_2 _ _) (tuple_mul1 l its.toArray n dd sl t) ⟨ho, ?_⟩⟩)
  exact ⟨.ref l, _, I, rfl, q⟩
theorem RDs.repl {K : PySem.W.Frag} {μ : Mu} {H : Hp} {ds : List D} {vs : List V} (h : RDs K μ H ds vs) : ∀ m : Nat, RDs K μ H (List.replicate m ds).flatten (List.replicate m vs).flatten
  | 0 => .nil
  | m + 1 => by rw [List.replicate_succ, List.replicate_succ, List.flatten_cons, List.flatten_cons]; exact h.append (RDs.repl h m)
/-- a tuple once; a list some times -/
def gMulS (x y : D) : M D := fun S => match x, y with
  | .tup ds, .int k => if k = 1 then .ok (.tup ds) S else .bad
  | .lst ds, .int k => if 0 ≤ k ∧ k < 1000000 ∧ ds.length * k.toNat ≤ sizeLine then .ok (.lst (List.replicate k.toNat ds).flatten) S else .bad
  | _, _ => .bad
theorem o_mulS : ORD X W (binaryOp .Mult) gMulS := by
  refine ⟨_, op_rep1.or op_rep, fun x y v w μ S σ H Q r rx ry h => ?_⟩
  unfold gMulS at h
  split at h
  · cases ry
    cases rx with
    | tup h1 h2 =>
      split at h
      · rename_i hk
        subst hk
        exact .inl ⟨_, _, rfl, rfl, h1, h.now r _ (.tup h1 h2)⟩
      · exact h.elim
  · cases ry
    split at h
    · rename_i hl
      obtain ⟨p1, v1, rfl, q1, z1⟩ := iTrk_ok (d := .lst _) rfl r rx
      refine .inr ⟨_, _, _, rfl, rfl, q1, by omega, by omega, by rw [← z1.length]; exact hl.2.2, fun p hp => ?_⟩
      exact h μ _ (Stp.new hp) (r.new hp) _ (.lst upd_same ⟨fun z => r.there z hp, fun z => r.hid _ z hp⟩ ((z1.step r (Stp.new hp)).repl _))
    · exact h.elim
  · exact h.elim
end
section
variable {F : D → Sto → Prop} {E : Exc → Sto → Prop} {S : Sto}
theorem gMulS_tup {ds : List D} : wp (gMulS (.tup ds) (.int 1) S) F E ↔ F (.tup ds) S := by
  unfold gMulS; exact Iff.rfl
theorem gMulS_lst4 {d : D} : wp (gMulS (.lst [d]) (.int 4) S) F E ↔ F (.lst [d, d, d, d]) S := by
  unfold gMulS
  simp only []
  rw [if_pos ⟨by decide, by decide, by rw [sizeLine_eq]; show 1 * 4 ≤ 16777216; decide⟩]
  exact Iff.rfl
end
end DL

/-! DLT: texts by one sign parted. -/
namespace DL
open PySem L2
def jn (c : Nat) : List (List Nat) → List Nat
  | [] => []
  | [x] => x
  | x :: y :: r => x ++ c :: jn c (y :: r)
theorem jn_cons {c : Nat} {x : List Nat} {r : List (List Nat)} (h : r ≠ []) : jn c (x :: r) = x ++ c :: jn c r := by
  cases r with
  | nil => exact absurd rfl h
  | cons y r => rfl
theorem pre_uniq {c : Nat} : ∀ {a b u v : List Nat}, c ∉ a → c ∉ b → a ++ c :: u = b ++ c :: v → a = b ∧ u = v
  | [], [], _, _, _, _, e => by simpa using e
  | [], y :: b, _, _, _, hb, e => by simp at e; exact absurd (by simp [e.1]) hb
  | x :: a, [], _, _, ha, _, e => by simp at e; exact absurd (by simp [e.1]) ha
  | x :: a, y :: b, u, v, ha, hb, e => by
    simp only [List.cons_append, List.cons.injEq] at e
    obtain ⟨h1, h2⟩ := pre_uniq (fun z => ha (List.mem_cons_of_mem _ z)) (fun z => hb (List.mem_cons_of_mem _ z)) e.2
    exact ⟨by rw [e.1, h1], h2⟩
theorem jn_uniq {c : Nat} : ∀ {p q : List (List Nat)}, p ≠ [] → q ≠ [] → (∀ x ∈ p, c ∉ x) → (∀ x ∈ q, c ∉ x) → jn c p = jn c q → p = q
  | [], _, h, _, _, _, _ => absurd rfl h
  | _, [], _, h, _, _, _ => absurd rfl h
  | [x], [y], _, _, _, _, e => by simpa [jn] using e
  | [x], y :: z :: r, _, _, hp, _, e => by
    simp only [jn] at e
    exact absurd (show c ∈ x by rw [e]; simp) (hp x (by simp))
  | x :: z :: r, [y], _, _, _, hq, e => by
    simp only [jn] at e
    exact absurd (show c ∈ y by rw [← e]; simp) (hq y (by simp))
  | x :: z :: r, y :: w :: s, _, _, hp, hq, e => by
    simp only [jn] at e
    obtain ⟨h1, h2⟩ := pre_uniq (hp x (by simp)) (hq y (by simp)) e
    rw [h1, jn_uniq (by simp) (by simp) (fun t ht => hp t (List.mem_cons_of_mem _ ht)) (fun t ht => hq t (List.mem_cons_of_mem _ ht)) h2]
theorem app_toList (a b : Str) : (a ++ b).cps.toList = a.cps.toList ++ b.cps.toList := by
  show (a.cps ++ b.cps).toList = _
  simp
theorem str_ext {a b : Str} (h : a.cps.toList = b.cps.toList) : a = b := by
  cases a; cases b
  simp only at h
  congr
  exact Array.toList_inj.mp h
theorem join_toList (c : Nat) : ∀ ps : List Str, (Str.join ⟨#[c]⟩ ps).cps.toList = jn c (ps.map fun p => p.cps.toList)
  | [] => rfl
  | [x] => rfl
  | x :: y :: r => by
    show ((x ++ (⟨#[c]⟩ : Str)) ++ Str.join ⟨#[c]⟩ (y :: r)).cps.toList = _
    rw [app_toList, app_toList, join_toList c (y :: r)]
    simp [jn]
theorem split_join {c : Nat} {ps : List Str} (h0 : ps ≠ []) (hf : ∀ p ∈ ps, c ∉ p.cps.toList) : Txt.split (Str.join ⟨#[c]⟩ ps) ⟨#[c]⟩ = ps := by
  have h1 := StrLaws.join_split (Str.join ⟨#[c]⟩ ps) ⟨#[c]⟩
  have h2 := StrLaws.split_free (Str.join ⟨#[c]⟩ ps) c
  have h3 : Txt.split (Str.join ⟨#[c]⟩ ps) ⟨#[c]⟩ ≠ [] := fun e => by
    have := PyProof.Rows.split_pos (Str.join ⟨#[c]⟩ ps) ⟨#[c]⟩
    rw [e] at this
    simp at this
  generalize Txt.split (Str.join ⟨#[c]⟩ ps) ⟨#[c]⟩ = qs at *
  have h4 : jn c (qs.map fun p => p.cps.toList) = jn c (ps.map fun p => p.cps.toList) := by rw [← join_toList, ← join_toList, h1]
  have h5 := jn_uniq (by simpa using h3) (by simpa using h0) (by simpa using h2) (by simpa using hf) h4
  exact (List.map_inj_right (fun a b e => str_ext e)).mp h5
theorem split_two {c : Nat} {a b : Str} (ha : c ∉ a.cps.toList) (hb : c ∉ b.cps.toList) : Txt.split (a ++ ⟨#[c]⟩ ++ b) ⟨#[c]⟩ = [a, b] := by
  have := split_join (c := c) (ps := [a, b]) (by simp) (fun p hp => by simp only [List.mem_cons, List.not_mem_nil, or_false] at hp; rcases hp with rfl | rfl <;> assumption)
  exact this
end DL

/-! DLR: list(reversed(x)) -/
namespace DL
open PySem PySem.Spec PyProof.Rows L2 RT
section
variable {prog : Program} {w : World} {A : Around} {E : Value → Shared → Prop} {s : Shared}
theorem init_list_rev {R : Result → Shared → Prop} {it l : Addr} {items : Array Value} (hh : A.handled = none) (hit : s.heap.IsRevIter it l ((items.size : Int) - 1)) (hl : s.heap.IsList l items) (hne : l ≠ it) (hn : items.size ≤ sizeLine) (Z : Addr) (hZl : Z ≠ l)
    (hZ : s.heap.get? Z = some { cls := .type "list", data := .seq #[] })
    (hR : ∀ (h' : Heap) (tk : Nat) (acc : Array Value) (c' : Nat), (∀ b o, b ≠ it → b ≠ Z → s.heap.get? b = some o → h'.get? b = some o) → h'.get? Z = some { cls := .type "list", dict := none, data := .seq acc c', slots := #[] } →
      ItemsOf (fun i v => items[items.size - 1 - i]? = some v) acc items.size → R (.ok (.ret .none)) { s with heap := h', toks := tk }) :
    wpAny (model prog w) A.in1 (Builtin.«list.__init__» ⟨[.ref Z, .ref it], []⟩)
      (fun fin s' => match fin with | .done f => R (.ok f) s' | .again c' => c'.quiet = true ∧ codeAny (model prog w) A c' R s') (fun e s' => R (.error e) s') s := by
  have hh1 : A.in1.handled = none := hh
  have W := (Walks.listRev (prog := prog) (w := w) (A := A.in1) hh1 it l hne items).toS
  obtain ⟨oi, hoi, hoc, hod⟩ := id hit
  obtain ⟨ol, hol, _⟩ := id hl
  have hSi : Z ≠ it := fun e => by
    rw [e, hoi] at hZ
    have q := congrArg Obj.cls (Option.some.inj hZ)
    rw [hoc] at q
    injection q with q
    exact absurd q (by decide)
  have hSf : Z ∉ [it, l] := by simp only [List.mem_cons, List.not_mem_nil, or_false, not_or]; exact ⟨hSi, hZl⟩
  show wpAny _ _ (do let old ← Builtin.List.listItems (.ref Z); Builtin.List.listUpdate (.ref Z) (fun _ => #[]); letGo old.toList.reverse; Builtin.List.listExtendWith (.ref Z) (.ref it) .none) _ _ s
  refine wpAny_bind ?_
  unfold Builtin.List.listItems
  refine wpAny_bind (wpAny_seqItems hZ rfl (wpAny_pure ?_))
  show wpAny _ _ (updateSeq Z (fun _ => #[]) >>= fun _ => letGo (#[] : Array Value).toList.reverse >>= fun _ => Builtin.List.listExtendWith (.ref Z) (.ref it) .none) _ _ s
  refine wpAny_bind (wpAny_updateSeq hZ rfl ?_)
  have hZ2 := Heap.get?_update_self (Obj.mapSeq (fun _ => (#[] : Array Value))) hZ rfl
  have oth : ∀ b o, b ≠ Z → s.heap.get? b = some o → (s.heap.update Z (Obj.mapSeq (fun _ => (#[] : Array Value)))).get? b = some o :=
    fun b o hb e => (Heap.get?_update_other _ _ (Ne.symm hb)).trans e
  refine wpAny_bind (wpAny_letGo ?_)
  have hit1 : (s.heap.update Z (Obj.mapSeq (fun _ => (#[] : Array Value)))).IsRevIter it l ((items.size : Int) - 1) := hit.at fun o e => oth it o (Ne.symm hSi) e
  obtain ⟨ol', hol', hlc, nl, hld⟩ := id hl
  have hl1 : (s.heap.update Z (Obj.mapSeq (fun _ => (#[] : Array Value)))).IsList l items := ⟨ol', oth l ol' (Ne.symm hZl) hol', hlc, nl, hld⟩
  have hT : ({ s with heap := s.heap.update Z (Obj.mapSeq (fun _ => (#[] : Array Value))) } : Shared).TypeIs (.ref it) "list_reverseiterator" := Heap.IsRevIter.typeIs (s := { s with heap := s.heap.update Z (Obj.mapSeq (fun _ => (#[] : Array Value))) }) hit1
  have h1 : Builtin.List.listSameRef (.ref Z) (.ref it) = false := by simp [Builtin.List.listSameRef, hSi]
  unfold Builtin.List.listExtendWith
  refine wpAny_bind (wpAny_typeOf hT ?_)
  rw [if_neg (by rw [h1]; decide)]
  refine wpAny_bind (wpAny_pyIter_revIter (s := { s with heap := s.heap.update Z (Obj.mapSeq (fun _ => (#[] : Array Value))) }) hit1 ?_)
  refine wpAny_bind (wpAny_holding ?_)
  unfold Builtin.List.listLengthHint
  refine wpAny_bind (wpAny_specialOf hT nolen_lri ?_)
  show wpAny _ A.in1 (specialOf (Value.ref it) (Str.ofString "__length_hint__") >>= _) _ _ _
  refine wpAny_bind (wpAny_specialOf hT hint_lri ?_)
  generalize hid : ("list_reverseiterator.__length_hint__" : String) = id0
  wp_delta
  rw [show splitId id0 = some ("list_reverseiterator", "__length_hint__") from by subst hid; decide +kernel]
  subst hid
  refine wpAny_bind (wpAny_isInstance (b := true) hT (by rw [isSubtype_type]; kernel_rfl) ?_)
  refine wpAny_pure ?_
  rw [if_neg (by decide)]
  have e0 : ((items.size : Nat) : Int) - 1 - ((0 : Nat) : Int) = (items.size : Int) - 1 := by omega
  refine wpAny_pure ⟨plainId_quiet F.plain_extend_loop _, codeAny_extend_loopS W hn _ hSf _ items.size 0 _ _ _ rfl (Nat.zero_le _) ⟨Nat.zero_le _, by rw [e0]; exact hit1, hl1⟩ hZ2 (ItemsOf.nil _) fun s' acc' c' hm hS' hacc => ?_⟩
  rw [Moved.eq_with hm]
  refine hR s'.heap s'.toks acc' c' (fun b o hb hb2 e => hm.heap b o (fun hmem => ?_) (oth b o hb2 e)) hS' hacc
  rcases List.mem_cons.mp hmem with e' | hmem
  · exact hb2 e'
  · exact hb (List.mem_singleton.mp hmem)
theorem call_list_rev {it l : Addr} {items : Array Value} {Q : Value → Shared → Prop} (hh : A.handled = none) (hit : s.heap.IsRevIter it l ((items.size : Int) - 1)) (hl : s.heap.IsList l items) (hne : l ≠ it) (hn : items.size ≤ sizeLine)
    (hQ : ∀ (h' : Heap) (tk : Nat) (acc : Array Value) (c' : Nat), (∀ b o, b ≠ it → s.heap.get? b = some o → h'.get? b = some o) → h'.get? s.heap.objs.size = some { cls := .type "list", dict := none, data := .seq acc c', slots := #[] } →
      ItemsOf (fun i v => items[items.size - 1 - i]? = some v) acc items.size → Q (.ref s.heap.objs.size) { s with heap := h', toks := tk }) :
    wpAny (model prog w) A (call (.type "list") [.ref it]) Q E s := by
  obtain ⟨ol, hol, _⟩ := id hl
  refine callType_codes (Q₁ := fun obj s₁ => obj = .ref s.heap.objs.size ∧ s₁ = { s with heap := s.heap.push { cls := .type "list", data := .seq #[] } }) F.called_list (F.typeCall_list_1 _) F.entry_list_init
    (code_list_new _ ⟨rfl, rfl⟩) fun obj s₁ h₁ => ?_
  obtain ⟨rfl, rfl⟩ := h₁
  have hS : (s.heap.push { cls := .type "list", data := .seq #[] }).get? s.heap.objs.size = some { cls := .type "list", data := .seq #[] } := Heap.get?_push_size _ rfl
  refine ⟨⟨_, hS, rfl⟩, F.args_list_init_2 _ _, init_list_rev (A := A.in1) hh (hit.at fun o e => Heap.get?_push_of_some _ e) (hl.push _) hne hn _ (Nat.ne_of_gt (Heap.lt_size hol)) hS fun h' tk acc c' hk hS' hacc => ?_⟩
  exact ⟨rfl, hQ h' tk acc c' (fun b o hb e => hk b o hb (Nat.ne_of_lt (Heap.lt_size e)) (Heap.get?_push_of_some _ e)) hS' hacc⟩
end
end DL

namespace DL
open PySem PySem.Spec PyProof.Rows L2 RT
section
variable {X : Cx} {W : WX} {pos : Pos}
def tLstRev (K : PySem.W.Frag) (te : TE) : TE := fun σ H Q => te σ H fun v H1 => ∃ (a : Addr) (xs : List V), v = .ref a ∧ SqL K H1 a xs ∧ ∀ q, H1 q = none → Q (.ref q) (upd H1 q (.lst xs.reverse))
theorem pe_listRev {e : Expr} {te : TE} {p p2 pos2 : Pos} (hc : X.calm = true) (hg : Gl X "list") (hm : X.mg "list" = none) (hg2 : Gl X "reversed") (hm2 : X.mg "reversed" = none) (he : PE X e te)
    (hs : starEach [e] X.env = (false, eval e X.env) :: starEach [] X.env := by rfl)
    (hs2 : starEach [.Call (.Name "reversed" p2) [e] [] pos2] X.env = (false, eval (.Call (.Name "reversed" p2) [e] [] pos2) X.env) :: starEach [] X.env := by rfl) :
    PE X (.Call (.Name "list" p) [.Call (.Name "reversed" p2) [e] [] pos2] [] pos) (tLstRev X.K te) := by
  refine ⟨fun pins s σ H Q I h => ?_⟩
  refine Call_ (ld_blt I hg hm boot_list (PyProof.Rows.callWith_type1 (args_cons (Call_ (ld_blt I hg2 hm2 PyProof.Rows.boot_reversed (PyProof.Rows.callWith_type1 (args_cons (thn (he.run pins s σ H _ I h) fun u s1 ⟨v, H1, I1, r1, q1⟩ => args_nil ?_) hs) hs rfl))) hs2) hs2 rfl))
  obtain ⟨a, xs, ev, hq, q⟩ := q1
  subst ev
  obtain rfl : u = Value.ref a := r1
  obtain ⟨its, rv, p', hz⟩ := I1.list hq
  refine call_reversed_list p'.isList (args_nil ?_)
  have k0 : ∀ b o, s1.heap.get? b = some o → (s1.heap.push (revObj a ((its.toArray.size : Int) - 1))).get? b = some o := fun b o e => Heap.get?_push_of_some _ e
  have I2 : Inv X pins σ H1 { s1 with heap := s1.heap.push (revObj a ((its.toArray.size : Int) - 1)) } := I1.kept (t' := s1.toks) k0
  have hfp := I1.fpOk (H' := H1) (b := s1.heap.objs.size) (Nat.le_refl _) (I1.hok.fresh (Nat.le_refl _))
  have hl := p'.isList
  obtain ⟨ol, hol, _⟩ := id hl
  have hne : a ≠ s1.heap.objs.size := Nat.ne_of_lt (Heap.lt_size hol)
  have hn : its.toArray.size ≤ sizeLine := by rw [List.size_toArray, ← rv.length]; exact hz
  refine call_list_rev (s := { s1 with heap := s1.heap.push (revObj a ((its.toArray.size : Int) - 1)) }) (I1.ok.hd hc) ⟨_, Heap.get?_push_size _ rfl, rfl, rfl⟩ (hl.push _) hne hn fun h' tk acc c' hk hS hi => ?_
  have I3 := I2.turnedNew (t' := tk) (ch := [s1.heap.objs.size]) (ob := .lst xs.reverse) (fun b o hb e => hk b o (fun z => hb (by simp [z])) e) (fun b hb => by
    have z : b = s1.heap.objs.size := by simpa using hb
    rw [z]; exact hfp) (Nat.le_refl _) (show ObjOk X.prog X.w _ _ _ (.lst xs.reverse) from ⟨by rw [List.length_reverse]; exact hz, acc.toList, c', vals_rev rv hi, by rw [Array.toArray_toList]; exact hS⟩)
  exact ⟨.ref (s1.heap.push (revObj a ((its.toArray.size : Int) - 1))).objs.size, _, I3, rfl, q _ (I2.hok.fresh (Nat.le_refl _))⟩
/-- list(reversed(x)), to be changed or not -/
def gRevL (mu : Bool) (x : D) : M D := gRev mu x
theorem d_listRev (mu : Bool) {e : Expr} {te : EvD} {p p2 pos2 : Pos} (hc : X.calm = true) (hg : Gl X "list") (hm : X.mg "list" = none) (hg2 : Gl X "reversed") (hm2 : X.mg "reversed" = none) (he : PE X e (tD X.K X.mg W te))
    (hs : starEach [e] X.env = (false, eval e X.env) :: starEach [] X.env := by rfl)
    (hs2 : starEach [.Call (.Name "reversed" p2) [e] [] pos2] X.env = (false, eval (.Call (.Name "reversed" p2) [e] [] pos2) X.env) :: starEach [] X.env := by rfl) :
    PE X (.Call (.Name "list" p) [.Call (.Name "reversed" p2) [e] [] pos2] [] pos) (tD X.K X.mg W (eUn (gRev mu) te)) := by
  refine PE.imp (pe_listRev hc hg hm hg2 hm2 he hs hs2) fun σ H Q ⟨ρ, S, μ, e, s, h⟩ => ?_
  refine ⟨ρ, S, μ, e, s, h.bnd fun x S1 μ1 H1 s1 r1 h1 v rv => ?_⟩
  unfold gRev at h1
  split at h1
  · rename_i ds e
    obtain ⟨a, vs, rfl, q, z⟩ := iSeq_ok e r1 rv
    refine ⟨a, vs, rfl, q, fun p hp => ?_⟩
    split at h1
    · exact h1 (μ1.push p) _ (Stp.alloc hp) (r1.alloc hp ⟨_, upd_same, (z.step r1 (Stp.alloc hp)).reverse⟩) _ (new_ref r1)
    · exact h1 μ1 _ (Stp.new hp) (r1.new hp) _ (.lst upd_same ⟨fun z => r1.there z hp, fun z => r1.hid _ z hp⟩ (z.step r1 (Stp.new hp)).reverse)
  · exact h1.elim
/-- reversed(x), x a tuple -/
theorem it_revT {K : PySem.W.Frag} {a : Addr} {ds : List D} : ItOk K (ItvT K a ds.length) none ds.reverse (fun μ H => RD K μ H (.tup ds) (.ref a)) where
  go := fun i μ S H hi r _ g => by
    have hi' : i < ds.length := by simpa using hi
    cases g with
    | tup q z =>
      obtain ⟨v, ev, _⟩ := z.get (List.getElem?_eq_getElem (show ds.length - 1 - i < ds.length by omega))
      exact ⟨hi', _, v, q, ev⟩
  yld := fun i x μ S H H' hi r _ g y => by
    have hi' : i < ds.length := by simpa using hi
    obtain ⟨rfl, y⟩ := y
    cases g with
    | tup q z =>
      obtain ⟨v, ev, rv⟩ := z.get (List.getElem?_eq_getElem (show ds.length - 1 - i < ds.length by omega))
      have := y _ q
      rw [this] at ev
      cases ev
      refine ⟨.refl, r, _, ?_, rv⟩
      rw [List.getElem?_reverse hi', List.getElem?_eq_getElem]
  stop := fun μ S H r _ g => by show ds.length ≤ _; simp
  step := fun μ S H μ' H' g r s => RD.step g r s
  hide := fun μ H p o g h => RD.hide h _ _ g
  seen := fun μ H p xs ys g h => RD.seen h _ _ g
def srcV (d : D) : M (Option Nat × List D) := fun S => match d with
  | .tup ds => .ok (none, ds.reverse) S
  | _ => .bad
def iRev (a : EvD) : EvI := fun ρ => bnd (a ρ) srcV
theorem i_rev {tg e : Expr} {te : EvD} {p pos : Pos} (hg : Gl X "reversed") (hm : X.mg "reversed" = none) (he : PE X e (tD X.K X.mg W te)) (hs : starEach [e] X.env = (false, eval e X.env) :: starEach [] X.env := by rfl) : PI X tg (.Call (.Name "reversed" p) [e] [] pos) (tI X.K X.mg W (iRev te)) := by
  refine PI.imp (pi_revA hg hm he hs) fun σ H R ⟨ρ, S, μ, e, s, h⟩ => ?_
  refine ⟨ρ, S, μ, e, s, h.bnd fun x S1 μ1 H1 s1 r1 h1 v rv => ?_⟩
  unfold srcV at h1
  split at h1
  · have rv0 := rv
    cases rv with
    | @tup a vs _ q z =>
      refine ⟨a, vs, rfl, .inr ⟨q, ?_⟩⟩
      rw [← z.length]
      exact h1.now r1 _ _ it_revT rv0
  · exact h1.elim
/-- + of lists: a list that will be changed -/
def gAddM (x y : D) : M D := fun S => match iTrk S x, iTrk S y with
  | some a, some b => if a.length + b.length ≤ sizeLine then .ok (.ref S.length) (S ++ [.lst (a ++ b)]) else .bad
  | _, _ => .bad
theorem o_addM : ORD X W (binaryOp .Add) gAddM := by
  refine ⟨_, op_cat, fun x y v w μ S σ H Q r rx ry h => ?_⟩
  unfold gAddM at h
  split at h
  · rename_i a b ea eb
    split at h
    · rename_i hl
      obtain ⟨p1, v1, rfl, q1, z1⟩ := iTrk_ok ea r rx
      obtain ⟨p2, v2, rfl, q2, z2⟩ := iTrk_ok eb r ry
      rw [z1.length, z2.length] at hl
      refine ⟨_, _, _, _, rfl, rfl, q1, q2, hl, fun p hp => ?_⟩
      exact h (μ.push p) _ (Stp.alloc hp) (r.alloc hp ⟨_, upd_same, (z1.step r (Stp.alloc hp)).append (z2.step r (Stp.alloc hp))⟩) _ (new_ref r)
    · exact h.elim
  · exact h.elim
end
end DL

/-! DLR3: comprehensions whose list will be changed -/
namespace DL
open PySem L2
section
variable {K : PySem.W.Frag} {μ : Mu} {S : Sto} {H : Hp}
mutual
theorem RD.reveal {p : Addr} : ∀ (d : D) (v : V), RD K (μ.hide p) H d v → RD K (μ.push p) H d v
  | .non, _, h => by cases h; exact .non
  | .bl _, _, h => by cases h; exact .bl _
  | .int _, _, h => by cases h; exact .int _
  | .str _, _, h => by cases h; exact .str _
  | .fn _, _, h => by cases h with | fn q => exact .fn q
  | .tup ds, _, h => by cases h with | tup h1 h2 => exact .tup h1 (RDs.reveal ds _ h2)
  | .fl ds, _, h => by cases h with | fl h1 h2 => exact .fl h1 (RDs.reveal ds _ h2)
  | .lst ds, _, h => by
    cases h with
    | lst h1 h0 h2 =>
      refine .lst h1 ⟨fun z => ?_, fun z => h0.2 (List.mem_cons_of_mem _ z)⟩ (RDs.reveal ds _ h2)
      rcases List.mem_append.mp z with z | z
      · exact h0.1 z
      · exact h0.2 (by rw [List.mem_singleton.mp z]; exact List.mem_cons_self)
  | .ref n, _, h => by
    cases h with
    | ref h1 =>
      refine .ref ?_
      have h1' : μ.v[n]? = some _ := h1
      show (μ.v ++ [p])[n]? = _
      rw [List.getElem?_append_left (List.getElem?_eq_some_iff.mp h1').1]; exact h1'
theorem RDs.reveal {p : Addr} : ∀ (ds : List D) (vs : List V), RDs K (μ.hide p) H ds vs → RDs K (μ.push p) H ds vs
  | [], _, h => by cases h; exact .nil
  | d :: ds, _, h => by
    cases h with
    | cons h1 h2 => exact .cons (RD.reveal d _ h1) (RDs.reveal ds _ h2)
end
theorem Rel.reveal {p : Addr} {xs : List V} {ds : List D} (r : Rel K (μ.hide p) S H) (hp : H p = some (.lst xs)) (hd : RDs K (μ.hide p) H ds xs) (hpx : p ∉ μ.x) : Rel K (μ.push p) (S ++ [.lst ds]) H := by
  have hn : p ∉ μ.v := fun z => r.apt p z List.mem_cons_self
  refine ⟨by simp [Mu.push, r.show.len], ?_, fun i a m h1 h2 => ?_, fun a ha => r.hid a (List.mem_cons_of_mem _ ha), fun a ha hx => ?_⟩
  · show (μ.v ++ [p]).Nodup
    rw [List.nodup_append]
    exact ⟨r.show.nd, by simp, fun x hx y hy => by rw [List.mem_singleton.mp hy]; exact fun e => hn (e ▸ hx)⟩
  · have hl : S.length = μ.v.length := r.show.len.symm
    by_cases hi : i < S.length
    · rw [List.getElem?_append_left hi] at h2
      have h1' : (μ.v ++ [p])[i]? = some a := h1
      rw [List.getElem?_append_left (by omega)] at h1'
      exact (r.obj i a m h1' h2).map rfl RD.reveal RDs.reveal
    · have h2' := h2
      rw [List.getElem?_append_right (by omega)] at h2'
      have hi0 : i = S.length := by
        have := (List.getElem?_eq_some_iff.mp h2).1
        simp at this; omega
      subst hi0
      simp at h2'
      subst h2'
      have h1' : (μ.v ++ [p])[S.length]? = some a := h1
      rw [hl, List.getElem?_append_right (Nat.le_refl _)] at h1'
      simp at h1'
      subst h1'
      exact ⟨xs, hp, RDs.reveal _ _ hd⟩
  · rcases List.mem_append.mp ha with z | z
    · exact r.show.apt a z hx
    · exact hpx (by rw [← List.mem_singleton.mp z]; exact hx)
noncomputable def eCompM (it : EvI) (tgt : D → Rho → Option Rho) (test : EvB) (el : EvD) (vs : List Nat) : EvD := fun ρ => bnd (it ρ) fun p => noEx (fun S => if p.2.length ≤ sizeLine then
  (match compM p.1 p.2 tgt test el (wipeR ρ vs) p.2 S with
    | .ok ys S' => .ok (.ref S'.length) (S' ++ [.lst ys])
    | .ex e S' => .ex e S'
    | .bad => .bad) else .bad)
end
section
variable {X : Cx} {W : WX} {tg : Expr}
theorem comp_okM {it : EvI} {tgt : D → Rho → Option Rho} {g : TG} {test : EvB} {el : EvD} {is vs : List Nat} (hG : GRD X is tgt g) (his : ∀ i ∈ is, i ∈ vs) {σ : L2.St} {H : Hp} {Q : VK}
    (hh : tD X.K X.mg W (eCompM it tgt test el vs) σ H Q) : tLc (tI X.K X.mg W it) g (tT X.K X.mg W0 test) (tD X.K X.mg W0 el) vs σ H Q := by
  obtain ⟨ρ, S, μ, e, s, h⟩ := hh
  refine ⟨ρ, S, μ, e, s, h.bnd fun p S1 μ1 H1 s1 r1 h1 J G io gg D hD => ?_⟩
  obtain ⟨src, all⟩ := p
  simp only [] at io h1
  -- what the denotation says
  obtain ⟨hlen, fin⟩ : all.length ≤ sizeLine ∧ okR (compM src all tgt test el (wipeR ρ vs) all S1) (fun ys S' => ∀ μ' H', Stp μ1 H1 μ' H' → Rel X.K μ' (S' ++ [.lst ys]) H' → QD X.K Q (.ref S'.length) μ' H') := by
    unfold noEx at h1
    simp only [] at h1
    by_cases hl : all.length ≤ sizeLine
    · refine ⟨hl, ?_⟩
      rw [if_pos hl] at h1
      cases ec : compM src all tgt test el (wipeR ρ vs) all S1 with
      | ok ys S' => rw [ec] at h1; exact h1
      | ex e S' => rw [ec] at h1; exact h1
      | bad => rw [ec] at h1; exact h1
    · rw [if_neg hl] at h1; exact h1.elim
  have hDx : D ∉ μ1.x := fun z => r1.hid D z hD
  let Inv (i : Nat) (Hc : Hp) : Prop := ∃ Sc μc acc as, i ≤ all.length ∧ Stp μ1 H1 μc Hc ∧ Rel X.K (μc.hide D) Sc Hc ∧ RE X.K (μc.hide D) Hc (L2.wipe σ vs) (wipeR ρ vs) ∧ G (μc.hide D) Hc ∧ Hc D = some (.lst acc) ∧ RDs X.K (μc.hide D) Hc as acc ∧ as.length ≤ i ∧
    okR (compM src all tgt test el (wipeR ρ vs) (all.drop i) Sc) (fun ys S' => ∀ μ' H', Stp μ1 H1 μ' H' → Rel X.K μ' (S' ++ [.lst (as ++ ys)]) H' → QD X.K Q (.ref S'.length) μ' H')
  refine ⟨fun i m Hc => m = all.length - i ∧ Inv i Hc, ⟨all.length, by simp, ?_⟩, ?_⟩
  · refine ⟨S1, μ1, [], [], Nat.zero_le _, Stp.new hD, r1.hide hD, ((e.step s s1).wipe vs).mapR (RD.hide hD), io.hide _ _ _ _ gg hD, upd_same, .nil, Nat.le_refl _, ?_⟩
    simpa using fin
  · rintro i m Hc ⟨rfl, Sc, μc, acc, as, hi2, st, rel, re, hG2, hacc, rds, hal, done⟩
    by_cases hlt : i < all.length
    · right
      have hdrop : all.drop i = all[i] :: all.drop (i + 1) := List.drop_eq_getElem_cons hlt
      rw [hdrop] at done
      unfold compM at done
      by_cases hlive : liveOk src all Sc
      · rw [if_pos hlive] at done
        split at done
        · rename_i ρ1 hρ1
          refine ⟨io.go i _ Sc Hc hlt rel hlive hG2, fun H' => Inv (i + 1) H', fun H' q => ⟨all.length - (i + 1), by omega, rfl, q⟩, fun x H' y => ?_⟩
          obtain ⟨sy, ry, d, hd, rd⟩ := io.yld i x _ Sc Hc H' hlt rel hlive hG2 y
          rw [List.getElem?_eq_getElem hlt] at hd
          cases hd
          obtain ⟨μy, ey, sty⟩ := sy.show
          have eμ : μy = μc := by
            obtain ⟨v1, x1⟩ := μy
            obtain ⟨v2, x2⟩ := μc
            simp only [Mu.hide, Mu.mk.injEq, List.cons.injEq, true_and] at ey
            obtain ⟨rfl, rfl⟩ := ey
            rfl
          subst eμ
          have notv : ∀ (μ : Mu) (Sx : Sto) (Hx : Hp), Rel X.K (μ.hide D) Sx Hx → D ∉ (μ.hide D).v := fun μ Sx Hx r z => r.apt D z List.mem_cons_self
          have haccy : H' D = some (.lst acc) := sy.keep D _ hacc (notv _ _ _ rel)
          refine hG _ _ _ ρ1 _ _ Sc H' _ (re.step rel sy) ry rd hρ1 fun σ2 re2 hw => ⟨(hw vs his).trans (wipe_twice σ vs), ρ1, Sc, _, re2, ry, ?_⟩
          have done2 := okR_bnd done
          refine okR_post done2 fun b S2 μ2 H3 db s3 r3 => ?_
          obtain ⟨μ2', rfl, st3⟩ := s3.show
          have haccb : H3 D = some (.lst acc) := s3.keep D _ haccy (notv _ _ _ ry)
          have rds3 := (rds.step rel sy).step ry s3
          have re3 := (re.step rel sy).step ry s3
          have g3 := io.step _ _ _ _ _ (io.step _ _ _ _ _ hG2 rel sy) ry s3
          have stt := (st.trans sty).trans st3
          cases b with
          | false =>
            rw [if_neg Bool.false_ne_true] at db ⊢
            exact ⟨S2, μ2', acc, as, hlt, stt, r3, re3, g3, haccb, rds3, Nat.le_succ_of_le hal, db⟩
          | true =>
            rw [if_pos rfl] at db ⊢
            refine ⟨ρ1, S2, _, re2.step ry s3, r3, ?_⟩
            refine okR_post (okR_bnd db) fun yv S4 μ4 H4 d4 s4 r4 v rv => ?_
            obtain ⟨μ4', rfl, st4⟩ := s4.show
            have hacc4 : H4 D = some (.lst acc) := s4.keep D _ haccb (notv _ _ _ r3)
            have rds4 := rds3.step r3 s4
            refine ⟨acc, hacc4, by rw [← rds4.length]; omega, S4, μ4', acc ++ [v], as ++ [yv], hlt, (stt.trans st4).side hD, r4.seen hacc4, (re3.step r3 s4).mapR (RD.seen hacc4), io.seen _ _ _ _ _ (io.step _ _ _ _ _ g3 r3 s4) hacc4, upd_same,
              RDs.seen hacc4 _ _ (rds4.append (.cons rv .nil)), by simp; omega, ?_⟩
            have d5 := okR_bnd d4
            unfold okR at d5 ⊢
            split
            · rename_i ys S' hys
              rw [hys] at d5
              intro μ' H5 sx rx
              have := d5 μ' H5 sx (by simpa using rx)
              simpa using this
            · rename_i hno
              split at d5
              · rename_i a S' hh; exact absurd hh (hno a S')
              · exact d5
        · exact done.elim
      · rw [if_neg hlive] at done; exact done.elim
    · left
      have hi3 : i = all.length := by omega
      subst hi3
      rw [List.drop_length] at done
      unfold compM at done
      by_cases hlive : liveOk src all Sc
      · rw [if_pos hlive] at done
        refine ⟨io.stop _ Sc Hc rel hlive hG2, ?_⟩
        have z := done (μc.push D) Hc (st.push hD) (by simpa using rel.reveal hacc rds (by rw [st.x]; exact hDx))
        exact z _ (new_ref rel.show)
      · rw [if_neg hlive] at done; exact done.elim
theorem d_compM {elt iter : Expr} {ifs : List Expr} {scope : Scope} {own : List (Str × Nat)} {vs : List Nat} {pos : Pos} {it : EvI} {tgt : D → Rho → Option Rho} {g : TG} {test : EvB} {el : EvD} {is : List Nat} (hc : X.calm = true) (hN : X.N.Nodup)
    (hi : PI X tg iter (tI X.K X.mg W it)) (ok : BlkOk X.N X.env.scope scope own) (hv : own.map (·.2) = vs) (hG : GRD X is tgt g) (his : ∀ i ∈ is, i ∈ vs)
    (hg : ∀ (s : Shared) (H : Hp) (C : Addr) (cl : List (Str × Addr)) (fp : List Addr), PG (X.blk s H scope (compEnvC scope cl C X.env) fp) tg g)
    (ht : ∀ (s : Shared) (H : Hp) (C : Addr) (cl : List (Str × Addr)) (fp : List Addr), PTs (X.blk s H scope (compEnvC scope cl C X.env) fp) ifs (tT X.K X.mg W0 test))
    (he : ∀ (s : Shared) (H : Hp) (C : Addr) (cl : List (Str × Addr)) (fp : List Addr), PE (X.blk s H scope (compEnvC scope cl C X.env) fp) elt (tD X.K X.mg W0 el)) (hs : ∀ x, foldedSetIterable iter X.env x = pure x := by intro _; rfl) :
    PE X (.ListComp elt [⟨tg, iter, ifs, 0⟩] scope pos) (tD X.K X.mg W (eCompM it tgt test el vs)) := by
  subst hv
  exact PE.imp (pe_lc hc hN hi ok hg ht he hs) fun σ H Q h => comp_okM hG his h
theorem s_setLcM (i : Nat) {y : Str} {py : Pos} {tg elt iter : Expr} {ifs : List Expr} {scope : Scope} {own : List (Str × Nat)} {vs : List Nat} {pos spos : Pos} {it : EvI} {tgt : D → Rho → Option Rho} {g : TG} {test : EvB} {el : EvD} {is : List Nat} (hc : X.calm = true) (hN : X.N.Nodup)
    (hi : PI X tg iter (tI X.K X.mg W it)) (ok : BlkOk X.N X.env.scope scope own) (hv : own.map (·.2) = vs) (hG : GRD X is tgt g) (his : ∀ i ∈ is, i ∈ vs)
    (hg : ∀ (s : Shared) (H : Hp) (C : Addr) (cl : List (Str × Addr)) (fp : List Addr), PG (X.blk s H scope (compEnvC scope cl C X.env) fp) tg g)
    (ht : ∀ (s : Shared) (H : Hp) (C : Addr) (cl : List (Str × Addr)) (fp : List Addr), PTs (X.blk s H scope (compEnvC scope cl C X.env) fp) ifs (tT X.K X.mg W0 test))
    (he : ∀ (s : Shared) (H : Hp) (C : Addr) (cl : List (Str × Addr)) (fp : List Addr), PE (X.blk s H scope (compEnvC scope cl C X.env) fp) elt (tD X.K X.mg W0 el))
    (hy : X.N[i]? = some y := by rfl) (hyl : X.env.scope.names.lookup y = some .local := by rfl) (hsw : swapsWith (.ListComp elt [⟨tg, iter, ifs, 0⟩] scope pos) (some (.Name y py)) spos.line X.env = pure true := by exact sw_true rfl rfl rfl (by decide +kernel))
    (hs : ∀ x, foldedSetIterable iter X.env x = pure x := by intro _; rfl) :
    PS X (.Assign [.Name y py] (.ListComp elt [⟨tg, iter, ifs, 0⟩] scope pos) spos) (tS X.K X.mg W (sAsg (gN i) (eCompM it tgt test el vs))) := by
  subst hv
  refine PS.imp (ps_setLc hc hN hy hyl hsw hi ok hg ht he hs) fun E σ H ⟨ρ, S, μ, e, s, h⟩ => ?_
  refine comp_okM hG his ⟨ρ, S, μ, e, s, h.lft e s fun d S1 μ1 H1 s1 r1 e1 h1 v rv => ?_⟩
  exact h1.now r1 _ (e1.set rv i)
end
end DL

/-! DLW: more words for the weakest precondition -/
namespace DL
open PySem L2
section
variable {S : Sto} {F : D → Sto → Prop} {E : Exc → Sto → Prop}
theorem gIx_sign {z : Str} {j : Int} : wp (gIx (.str z) (.int j) S) F E ↔ z.length ≤ sizeLine ∧ ∃ c, atI z.cps.toList j = some c ∧ F (.str ⟨#[c]⟩) S := by
  unfold gIx
  by_cases h : z.length ≤ sizeLine
  · simp only [if_pos h]
    cases e : atI z.cps.toList j with
    | some c => exact ⟨fun q => ⟨h, c, rfl, q⟩, fun ⟨_, c', e, q⟩ => by cases e; exact q⟩
    | none => exact ⟨fun q => q.elim, fun ⟨_, c', e, q⟩ => by cases e⟩
  · simp only [if_neg h]
    exact ⟨fun q => q.elim, fun q => h q.1⟩
theorem rangeD_len {lo : Int} {m : Nat} : (rangeD lo m).length = m := by simp [rangeD]
theorem gTuple_seq {x : D} {ds : List D} (h : iLst S x = some ds) : wp (gTuple [x] S) F E ↔ F (.tup ds) S := by
  unfold gTuple
  simp only [h]
  exact Iff.rfl
theorem atI_last {ds : List D} {x : D} : atI (ds ++ [x]) (-1) = some x := by
  have e : ixN (ds ++ [x]).length (-1) = some ds.length := by
    unfold ixN
    rw [if_neg (by decide), if_pos (by simp; omega)]
    congr 1; simp; omega
  unfold atI; rw [e]; simp
theorem trs {ds : List D} (h : ∀ d ∈ ds, tr d) : D.los 0 ds = true := los_iff ds |>.mpr h
theorem tr_tup {ds : List D} (h : ∀ d ∈ ds, tr d) : tr (.tup ds) := trs h
theorem comp1 {all ds : List D} {d : D} {i : Nat} {el : EvD} {ρ : Rho} {FF : List D → Sto → Prop} : wp (compM none all (gN i) bYes el ρ (d :: ds) S) FF nx ↔ wp (el (ρ.set i (some d)) S) (fun y S1 => wp (compM none all (gN i) bYes el ρ ds S1) (fun ys S2 => FF (y :: ys) S2) nx) nx := by
  have e : compM none all (gN i) bYes el ρ (d :: ds) S = bnd (bYes (ρ.set i (some d))) (fun b => if b = true then bnd (el (ρ.set i (some d))) (fun y => bnd (compM none all (gN i) bYes el ρ ds) fun ys => ret (y :: ys)) else compM none all (gN i) bYes el ρ ds) S := by
    conv => lhs; unfold compM
    rw [if_pos (show liveOk none all S from trivial)]; rfl
  rw [e]
  simp only [wp_ok, wp_ret, wp_stuck, wp_bad, wp_bnd, wp_if, wp_fif, wps_ok_nx, wps_ok_rt, wps_ok_bk, wps_ok_ct, wps_ok_xc, wps_bad, wps_lft, wps_seq, wps_nil, wps_ret, wps_expr, wps_asg, wps_if, wp_run, wps_for, wps_while, wp_comp, wp_var, wp_C, wp_bin, wp_un, wp_T, wp_Tb, wp_asBl, wp_truthBl, wp_bAnd, wp_bOr, wp_bNot, wp_eIf, wp_eAnd, wp_eOr, wp_eNot, blCase_bl, wp_chain, wp_aNil, wp_aCons, wp_tup, wp_lst, wp_lstM, wp_call, wp_cl1, wp_cl2, wp_cl3, wp_cl4, wp_cl5, wp_meth, wp_isi, wp_oNone, wp_oSome, wp_sl, wp_it, wp_range1, wp_range2, wp_bYes, gEq_str, gNe_str, gEq_int, gNe_int, gEq_bl, gNe_bl, gIs_bl, gIsNot_bl, gAdd_int, gSub_int, gC_int, gI_int, gAdd_str, gAdd_tup, gAdd_lst, gNeg_int, gIx_tup, gIx_lst, gLen_tup, gLen_lst, gLen_str, gInt_int, gInt_bl, gTuple_lst, gTuple_tup, gList_lst, gList_tup, gSl_tup, gSl_lst, gSl_fl, gSl_str, srcL_tup, srcL_lst, srcL_fl, srcL_str, srcR1_int, typN, startR, List.map_cons, List.map_nil, List.length_cons, List.length_nil, Nat.reduceAdd, Nat.reduceSub, Nat.zero_add, Nat.sub_self, Nat.sub_zero, List.replicate_zero, List.replicate_succ, List.cons_append, List.nil_append, List.append_nil, List.getElem?_cons_zero, List.getElem?_cons_succ, List.set_cons_zero, List.set_cons_succ, List.set_nil, List.getElem?_nil, Option.some.injEq, exists_eq_left', exists_eq_left, exists_eq_right, reduceCtorEq, false_and, and_false, true_and, and_true, exists_false, exists_const, wipeR, Nat.zero_le, String.reduceEq, D.int.injEq, D.str.injEq, D.bl.injEq, atI_0, atI_1, atI_2, atI_3, atI_4, beq_self_eq_true, not_true_eq_false, not_false_eq_true, Int.cast_ofNat_Int, Int.reduceEq, Int.reduceLE, Int.reduceLT, Int.reduceAdd, Int.reduceSub, Int.reduceMul, Int.reduceNeg, if_true, if_false, ite_true, ite_false, Bool.false_eq_true, if_neg, if_pos, decide_eq_true_eq, Bool.not_eq_true', decide_eq_false_iff_not, eq_self_iff_true, decide_true, decide_false, Bool.not_true, Bool.not_false]
theorem comp0 {all : List D} {i : Nat} {el : EvD} {ρ : Rho} {FF : List D → Sto → Prop} : wp (compM none all (gN i) bYes el ρ [] S) FF nx ↔ FF [] S := by
  have e : compM none all (gN i) bYes el ρ [] S = .ok [] S := by
    unfold compM
    rw [if_pos (show liveOk none all S from trivial)]
  rw [e]; exact Iff.rfl
theorem comp2 {a b : D} {i : Nat} {el : EvD} {ρ : Rho} {FF : List D → Sto → Prop} : wp (compM none [a, b] (gN i) bYes el ρ [a, b] S) FF nx ↔ wp (el (ρ.set i (some a)) S) (fun y S1 => wp (el (ρ.set i (some b)) S1) (fun z S2 => FF [y, z] S2) nx) nx := by
  rw [comp1]
  simp only [comp1, comp0]
theorem los_app {m : Nat} (a b : List D) : D.los m (a ++ b) = (D.los m a && D.los m b) := by
  induction a with
  | nil => simp [D.los]
  | cons x a ih => simp [D.los, ih, Bool.and_assoc]
theorem sl {n : Nat} (h : n ≤ 100) : n ≤ sizeLine := small_line (by omega)
theorem gNs_cons {i : Nat} {t : TgL} {d : D} {ds : List D} {ρ : Rho} : gNs i t (d :: ds) ρ = t ds (ρ.set i (some d)) := rfl
theorem gN0_nil {ρ : Rho} : gN0 [] ρ = some ρ := rfl
theorem gTp_tup {m : Nat} {t : TgL} {ds : List D} {ρ : Rho} (h : ds.length = m) : gTp m t (.tup ds) ρ = t ds ρ := by unfold gTp; simp only [h, if_true]
theorem wps_asgT {tgt : D → Rho → Option Rho} {e : EvD} {ρ : Rho} {N B C : Rho → Sto → Prop} {T : D → Sto → Prop} {X : Exc → Rho → Sto → Prop} : wps (sAsg tgt e ρ S) N T B C X ↔ wp (e ρ S) (fun d S' => ∃ ρ', tgt d ρ = some ρ' ∧ N ρ' S') (fun e S' => X e ρ S') := by
  unfold sAsg; rw [wps_lft]
  constructor <;> intro h <;> refine wp_mono h (fun d S' h => ?_) (fun _ _ h => h)
  · cases e : tgt d ρ with
    | some ρ' => simp only [e] at h; exact ⟨ρ', rfl, h⟩
    | none => simp only [e] at h; exact h.elim
  · obtain ⟨ρ', e, h⟩ := h
    simp only [e]; exact h
theorem wps_asgTp {m : Nat} {t : TgL} {e : EvD} {ρ : Rho} {N B C : Rho → Sto → Prop} {T : D → Sto → Prop} {X : Exc → Rho → Sto → Prop} : wps (sAsg (gTp m t) e ρ S) N T B C X ↔ wp (e ρ S) (fun d S' => ∃ ρ', gTp m t d ρ = some ρ' ∧ N ρ' S') (fun e S' => X e ρ S') := wps_asgT
theorem gTp5 {t : TgL} {a b c d e : D} {ρ : Rho} : gTp 5 t (.tup [a, b, c, d, e]) ρ = t [a, b, c, d, e] ρ := rfl
theorem gTp3 {t : TgL} {a b c : D} {ρ : Rho} : gTp 3 t (.tup [a, b, c]) ρ = t [a, b, c] ρ := rfl
/-- one of a list, whichever -/
theorem pick {L : List D} {v : Int} (h0 : 0 ≤ v) (h1 : v < (L.length : Int)) (P : D → Prop) (hP : ∀ r ∈ L, P r) (hF : ∀ r, P r → F r S) : wp (gIx (.lst L) (.int v) S) F E := by
  rw [gIx_lst]
  obtain ⟨d, hd, e⟩ := atI_mem h0 h1
  exact ⟨d, e, hF d (hP d hd)⟩
def Sh (m : Nat) (d : D) : Prop := ∃ p, toPy d = some p ∧ p.canLay0 = true ∧ p.depth ≤ m
theorem Sh.mono {m m' : Nat} {d : D} (h : Sh m d) (l : m ≤ m') : Sh m' d := by obtain ⟨p, a, b, c⟩ := h; exact ⟨p, a, b, by omega⟩
theorem sh_int {i : Int} {m : Nat} : Sh m (.int i) := ⟨_, rfl, rfl, Nat.zero_le _⟩
theorem sh_str {z : Str} {m : Nat} (h : PyData.strOk z = true) : Sh m (.str z) := ⟨_, rfl, h, Nat.zero_le _⟩
theorem sh_list {m : Nat} : ∀ {ds : List D}, (∀ d ∈ ds, Sh m d) → ∃ ps, toPys ds = some ps ∧ PyData.canLayAll0 ps = true ∧ PyData.depthAll ps ≤ m
  | [], _ => ⟨[], rfl, rfl, Nat.zero_le _⟩
  | d :: ds, h => by
    obtain ⟨p, a, b, c⟩ := h d List.mem_cons_self
    obtain ⟨ps, a', b', c'⟩ := sh_list (m := m) (ds := ds) fun d hd => h d (List.mem_cons_of_mem _ hd)
    refine ⟨p :: ps, by simp only [toPys, a, a'], by simp only [PyData.canLayAll0, b, b', Bool.and_self], ?_⟩
    simp only [PyData.depthAll]
    omega
theorem sh_tup {m : Nat} {ds : List D} (h : ∀ d ∈ ds, Sh m d) : Sh (m + 1) (.tup ds) := by
  obtain ⟨ps, a, b, c⟩ := sh_list h
  exact ⟨.tuple ps, by simp only [toPy, a, Option.map_some], by simp only [PyData.canLay0, b], by simp only [PyData.depth]; omega⟩
theorem Sh.okEq {m m' : Nat} {d e : D} {p q : PyData} (h1 : toPy d = some p) (h2 : toPy e = some q) (hd : Sh m d) (he : Sh m' e) (hm : min m m' ≤ 480) : DL.okEq p q = true := by
  obtain ⟨p', a, b, c⟩ := hd
  obtain ⟨q', a', b', c'⟩ := he
  rw [h1] at a; rw [h2] at a'
  cases a; cases a'
  unfold DL.okEq
  simp only [b, b', Bool.true_and, decide_eq_true_eq]
  omega
theorem gNe_nil {m : Nat} {ds : List D} (h : Sh m (.tup ds)) (hm : m ≤ 100000000 := by omega) : wp (gNe (.tup ds) (.tup []) S) F E ↔ F (.bl (!decide (ds = []))) S := by
  have e : eqD S (.tup ds) (.tup []) = some (decide (ds = [])) := by
    have h' := h
    obtain ⟨p, a, b, c⟩ := h
    have e1 : toPyS S (.tup ds) = some p := a
    have e2 : toPyS S (.tup []) = some (.tuple []) := rfl
    have s0 : Sh 1 (.tup []) := sh_tup fun d hd => (List.not_mem_nil hd).elim
    have s1 : DL.okEq p (.tuple []) = true := Sh.okEq a rfl h' s0 (by omega)
    unfold eqD
    simp only [e1, e2, s1, if_true]
    simp only [toPy, Option.map_eq_some_iff] at a
    obtain ⟨ps, a, rfl⟩ := a
    cases ds with
    | nil => cases a; rfl
    | cons x l =>
      cases ps with
      | nil =>
        exfalso
        unfold toPys at a
        split at a <;> simp_all
      | cons q qs => simp [PyData.eqv, PyData.eqvAll]
  unfold gNe
  rw [e]; exact Iff.rfl
theorem cut_take {ds : List D} {a : Nat} (h : a ≤ ds.length) : cutD ds none (some ((a : Nat) : Int)) = ds.take a := by
  unfold cutD
  rw [HT.sIx_nat, HT.sIx_none, Nat.min_eq_left h]; simp
theorem cut_drop {ds : List D} {a : Nat} (h : a ≤ ds.length) : cutD ds (some ((a : Nat) : Int)) none = ds.drop a := by
  unfold cutD
  rw [HT.sIx_nat, HT.sIx_none, Nat.min_eq_left h, List.take_of_length_le]; simp
theorem cut_zero {ds : List D} : cutD ds none (some 0) = [] := by
  rw [show (0 : Int) = ((0 : Nat) : Int) from rfl, cut_take (Nat.zero_le _)]; rfl
end
end DL

/-! DLS: stores with a deck: a list of cells at 0, the deck [cells, whole, count] at 1 -/
namespace DL
open PySem L2
section
variable {S R S1 : Sto} {F : D → Sto → Prop} {E : Exc → Sto → Prop}
/-- every stored thing names stored things alone -/
def OKS (S : Sto) : Prop := S.all (MO.lo S.length) = true
theorem OKS.take (h : OKS S) : (S.take S.length).all (MO.lo S.length) = true := by rw [List.take_length]; exact h
theorem WF.oks (h : WF S) : OKS S := by
  have := h.take S.length S.length
  rwa [List.take_length] at this
theorem fin_blO {b : Bool} (hw : OKS S) : wp (finD false S.length (.bl b) S) F E ↔ F (.bl b) S := by
  have e : finD false S.length (.bl b) S = .ok (.bl b) S := by
    unfold finD
    rw [if_neg (by decide), if_pos hw.take, if_pos (show (D.bl b).lo S.length = true from rfl), List.take_length]
  rw [e]; exact Iff.rfl
theorem fin_intO {b : Int} (hw : OKS S) : wp (finD false S.length (.int b) S) F E ↔ F (.int b) S := by
  have e : finD false S.length (.int b) S = .ok (.int b) S := by
    unfold finD
    rw [if_neg (by decide), if_pos hw.take, if_pos (show (D.int b).lo S.length = true from rfl), List.take_length]
  rw [e]; exact Iff.rfl
theorem tr.lo {d : D} (h : tr d) (n : Nat) : d.lo n = true := D.lo_mono (Nat.zero_le n) d h
theorem fin_trO {d : D} (hw : OKS S) (hd : tr d) : wp (finD false S.length d S) F E ↔ F d S := by
  have e : finD false S.length d S = .ok d S := by
    unfold finD
    rw [if_neg (by decide), if_pos hw.take, if_pos (hd.lo _), List.take_length]
  rw [e]; exact Iff.rfl
def Gd (R : Sto) : Prop := 2 ≤ R.length ∧ ∀ (i : Nat) (m : MO), 2 ≤ i → R[i]? = some m → m.lo 0 = true
structure DS (R S : Sto) : Prop where
  gd : Gd R
  at_ : ∃ (cells : List Int) (a b : Int), cells.length ≤ 100000 ∧ S = (R.set 0 (.lst (cells.map .int))).set 1 (.lst [.ref 0, .int a, .int b])
theorem DS.len (h : DS R S) : S.length = R.length := by
  obtain ⟨g, cells, a, b, hc, rfl⟩ := h
  simp
theorem DS.two (h : DS R S) : 2 ≤ S.length := by rw [h.len]; exact h.gd.1
theorem DS.get (h : DS R S) {i : Nat} (hi : 2 ≤ i) : S[i]? = R[i]? := by
  obtain ⟨g, cells, a, b, hc, rfl⟩ := h
  rw [List.getElem?_set_ne (by omega), List.getElem?_set_ne (by omega)]
theorem DS.lo (h : DS R S) {n : Nat} (hn : 2 ≤ n) : (S.take n).all (MO.lo n) = true := by
  rw [List.all_eq_true]
  intro m hm
  have hm := List.mem_of_mem_take hm
  obtain ⟨i, hi⟩ := List.mem_iff_getElem?.mp hm
  by_cases h2 : 2 ≤ i
  · rw [h.get h2] at hi
    exact MO.lo_mono (Nat.zero_le n) m (h.gd.2 i m h2 hi)
  · obtain ⟨g, cells, a, b, hc, rfl⟩ := h
    have g1 := g.1
    by_cases h0 : i = 0
    · subst h0
      rw [List.getElem?_set_ne (by omega), List.getElem?_set_self (by omega)] at hi
      cases hi
      have : D.los 0 (cells.map D.int) = true := los_map (fun _ => rfl) cells
      exact MO.lo_mono (Nat.zero_le n) (.lst (cells.map .int)) this
    · obtain rfl : i = 1 := by omega
      rw [List.getElem?_set_self (by simp; omega)] at hi
      cases hi
      simp [MO.lo, D.los, D.lo]; omega
theorem DS.oks (h : DS R S) : OKS S := by
  have := h.lo (n := S.length) h.two
  rwa [List.take_length] at this
theorem DS.fin {d : D} (h : DS R S) (h2 : 2 ≤ S1.length) (hd : tr d) (hF : F d (S.take S1.length)) : wp (finD false S1.length d S) F E :=
  wp_fin (h.lo h2) (hd.lo _) hF
theorem DS.fin_same {d : D} (h : DS R S) (hl : S.length = S1.length) (hd : tr d) (hF : F d S) : wp (finD false S1.length d S) F E := by
  refine h.fin (by rw [← hl]; exact h.two) hd ?_
  rw [← hl, List.take_length]; exact hF
theorem DS.cells (h : DS R S) : ∃ (cells : List Int) (a b : Int), cells.length ≤ 100000 ∧ atL S 0 = some (cells.map .int) ∧ atL S 1 = some [.ref 0, .int a, .int b] ∧
    (∀ cs : List Int, cs.length ≤ 100000 → DS R (S.set 0 (.lst (cs.map .int)))) ∧ (∀ a' b' : Int, DS R (S.set 1 (.lst [.ref 0, .int a', .int b']))) := by
  obtain ⟨g, cells, a, b, hc, rfl⟩ := h
  have g1 := g.1
  refine ⟨cells, a, b, hc, ?_, ?_, fun cs hcs => ⟨g, cs, a, b, hcs, ?_⟩, fun a' b' => ⟨g, cells, a', b', hc, ?_⟩⟩
  · unfold atL
    rw [List.getElem?_set_ne (by omega), List.getElem?_set_self (by omega)]
  · unfold atL
    rw [List.getElem?_set_self (by simp; omega)]
  · rw [List.set_comm _ _ (by omega), List.set_set]
  · rw [List.set_set]
theorem Gd.push {m : MO} (g : Gd R) (hm : m.lo 0 = true) : Gd (R ++ [m]) := by
  refine ⟨by simp; have := g.1; omega, fun i x hi hx => ?_⟩
  by_cases hl : i < R.length
  · rw [List.getElem?_append_left hl] at hx; exact g.2 i x hi hx
  · rw [List.getElem?_append_right (by omega)] at hx
    have hz : i - R.length = 0 := by
      have := (List.getElem?_eq_some_iff.mp hx).1
      simp at this; omega
    rw [hz] at hx; simp at hx; rw [← hx]; exact hm
theorem Gd.pop {m : MO} (g : Gd (R ++ [m])) (h2 : 2 ≤ R.length) : Gd R := by
  refine ⟨h2, fun i x hi hx => g.2 i x hi ?_⟩
  rw [List.getElem?_append_left (List.getElem?_eq_some_iff.mp hx).1]; exact hx
theorem Gd.set {m : MO} {k : Nat} (g : Gd R) (hm : m.lo 0 = true) : Gd (R.set k m) := by
  refine ⟨by simp; exact g.1, fun i x hi hx => ?_⟩
  by_cases hk : k = i
  · subst hk
    have hl := (List.getElem?_eq_some_iff.mp hx).1
    rw [List.getElem?_set_self (by simpa using hl)] at hx
    cases hx; exact hm
  · rw [List.getElem?_set_ne hk] at hx; exact g.2 i x hi hx
theorem DS.push {m : MO} (h : DS R S) (hm : m.lo 0 = true) : DS (R ++ [m]) (S ++ [m]) := by
  obtain ⟨g, cells, a, b, hc, rfl⟩ := h
  have g1 := g.1
  refine ⟨g.push hm, cells, a, b, hc, ?_⟩
  rw [List.set_append_left _ _ (by omega), List.set_append_left _ _ (by simp; omega)]
theorem DS.put {m : MO} {k : Nat} (h : DS R S) (hk : 2 ≤ k) (hm : m.lo 0 = true) : DS (R.set k m) (S.set k m) := by
  obtain ⟨g, cells, a, b, hc, rfl⟩ := h
  refine ⟨g.set hm, cells, a, b, hc, ?_⟩
  rw [List.set_comm _ _ (show k ≠ 0 by omega), List.set_comm _ _ (show (1 : Nat) ≠ k by omega)]
theorem DS.cut {G : Sto} (h : DS (R ++ G) S) (h2 : 2 ≤ R.length) : DS R (S.take R.length) := by
  obtain ⟨g, cells, a, b, hc, rfl⟩ := h
  refine ⟨⟨h2, fun i x hi hx => g.2 i x hi ?_⟩, cells, a, b, hc, ?_⟩
  · rw [List.getElem?_append_left (List.getElem?_eq_some_iff.mp hx).1]; exact hx
  · rw [List.set_append_left _ _ (by omega), List.set_append_left _ _ (by simp; omega), List.take_append_of_le_length (by simp), List.take_of_length_le (by simp)]
theorem DS.last {m : MO} {G : Sto} (h : DS (R ++ m :: G) S) (h2 : 2 ≤ R.length) : S[R.length]? = some m := by
  rw [h.get h2, List.getElem?_append_right (Nat.le_refl _)]; simp
theorem atL_of {n : Nat} {ds : List D} (h : S[n]? = some (.lst ds)) : atL S n = some ds := by unfold atL; rw [h]
theorem gSet_ref {n j : Nat} {ds : List D} {k : Int} {d : D} {FU : Unit → Sto → Prop} (h : atL S n = some ds) (hj : ixN ds.length k = some j) : wp (gSet (.ref n) (.int k) d S) FU E ↔ FU () (S.set n (.lst (ds.set j d))) := by
  unfold gSet
  simp only [h, hj]
  exact Iff.rfl
theorem wps_sub {ev eo ei : EvD} {ρ : Rho} {N B C : Rho → Sto → Prop} {T : D → Sto → Prop} {X : Exc → Rho → Sto → Prop} : wps (sSub ev eo ei ρ S) N T B C X ↔ wp (ev ρ S) (fun d S1 => wp (eo ρ S1) (fun o S2 => wp (ei ρ S2) (fun i S3 => wp (gSet o i d S3) (fun _ S4 => N ρ S4) (fun e S' => X e ρ S')) (fun e S' => X e ρ S')) (fun e S' => X e ρ S')) (fun e S' => X e ρ S') := by
  unfold sSub
  simp only [wps_lft]
  exact Iff.rfl
theorem gIx_ref {n : Nat} {ds : List D} {k : Int} (h : atL S n = some ds) : wp (gIx (.ref n) (.int k) S) F E ↔ ∃ d, atI ds k = some d ∧ F d S := gIx_seq h
/-- a comprehension that draws, by any standing property of the store -/
theorem comp_inv {all : List D} {i : Nat} {el : EvD} {ρ : Rho} {FF : List D → Sto → Prop} (J : Sto → Prop) (P : D → Prop) (h0 : J S)
    (hel : ∀ d ∈ all, ∀ S', J S' → wp (el (ρ.set i (some d)) S') (fun y S'' => P y ∧ J S'') nx) (h : ∀ ys S', ys.length = all.length → (∀ y ∈ ys, P y) → J S' → FF ys S') :
    wp (compM none all (gN i) bYes el ρ all S) FF nx := by
  refine wp_compM (fun k' ys S' => k' ≤ all.length → (ys.length = k' ∧ (∀ y ∈ ys, P y) ∧ J S')) (fun _ _ _ _ => trivial) (fun k' d ys S' hd hk => ?_) (fun ys S' hk => ?_) (fun _ => ⟨rfl, fun _ h => (List.not_mem_nil h).elim, h0⟩)
  · have hlt := (List.getElem?_eq_some_iff.mp hd).1
    obtain ⟨q1, q2, q3⟩ := hk (by omega)
    refine ⟨_, rfl, ?_⟩
    rw [wp_bYes, if_pos rfl]
    refine wp_mono (hel d (List.mem_of_getElem? hd) S' q3) (fun y S'' hy => ?_) (fun _ _ h => h)
    refine fun _ => ⟨by simp [q1], fun z hz => ?_, hy.2⟩
    rw [List.mem_append, List.mem_singleton] at hz
    rcases hz with hz | rfl
    · exact q2 z hz
    · exact hy.1
  · obtain ⟨q1, q2, q3⟩ := hk (Nat.le_refl _)
    exact h ys S' q1 q2 q3
end
end DL

/-! DLX: words for lists to be changed -/
namespace DL
open PySem L2
section
variable {S : Sto} {F : D → Sto → Prop} {E : Exc → Sto → Prop} {ρ : Rho}
theorem wp_compMut {it : EvI} {tgt : D → Rho → Option Rho} {test : EvB} {el : EvD} {vs : List Nat} : wp (eCompM it tgt test el vs ρ S) F E ↔
    wp (it ρ S) (fun p S' => p.2.length ≤ sizeLine ∧ wp (compM p.1 p.2 tgt test el (wipeR ρ vs) p.2 S') (fun ys S'' => F (.ref S''.length) (S'' ++ [.lst ys])) nx) E := by
  unfold eCompM
  rw [wp_bnd]
  constructor <;> intro h <;> refine wp_mono h (fun p S' h => ?_) (fun _ _ h => h)
  · unfold noEx at h
    by_cases hl : p.2.length ≤ sizeLine
    · refine ⟨hl, ?_⟩
      simp only [if_pos hl] at h
      cases hc : compM p.1 p.2 tgt test el (wipeR ρ vs) p.2 S' with
      | ok ys S'' => rw [hc] at h; exact h
      | ex e S'' => rw [hc] at h; exact h.elim
      | bad => rw [hc] at h; exact h.elim
    · simp only [if_neg hl] at h; exact h.elim
  · obtain ⟨hl, h⟩ := h
    unfold noEx
    simp only [if_pos hl]
    cases hc : compM p.1 p.2 tgt test el (wipeR ρ vs) p.2 S' with
    | ok ys S'' => rw [hc] at h; exact h
    | ex e S'' => rw [hc] at h; exact h.elim
    | bad => rw [hc] at h; exact h.elim
theorem wp_rev {a : EvD} {FI : Option Nat × List D → Sto → Prop} : wp (iRev a ρ S) FI E ↔ wp (a ρ S) (fun x S1 => wp (srcV x S1) FI E) E := wp_bnd
theorem srcV_tup {ds : List D} {FI : Option Nat × List D → Sto → Prop} : wp (srcV (.tup ds) S) FI E ↔ FI (none, ds.reverse) S := Iff.rfl
theorem eqv_nil {m : Nat} {n : Nat} {ds : List D} (h : atL S n = some ds) (hs : ∀ d ∈ ds, Sh m d) (_ : m ≤ 100000000 := by omega) : eqD S (.ref n) (.lst []) = some (decide (ds = [])) := by
  obtain ⟨ps, a, b, c⟩ := sh_list hs
  have e1 : toPyS S (.ref n) = some (.list ps) := by simp only [toPyS, h, a, Option.map_some]
  have e2 : toPyS S (.lst []) = some (.list []) := rfl
  have s1 : okEq (.list ps) (.list []) = true := by
    unfold okEq
    simp only [PyData.canLay0, b, PyData.canLayAll0, Bool.true_and]
    exact decide_eq_true (Nat.le_trans (Nat.min_le_right _ _) (by decide))
  unfold eqD
  simp only [e1, e2, s1, if_true]
  cases ds with
  | nil => cases a; rfl
  | cons x l =>
    cases ps with
    | nil =>
      exfalso
      unfold toPys at a
      split at a <;> simp_all
    | cons q qs => simp [PyData.eqv, PyData.eqvAll]
theorem gNe_refNil {m : Nat} {n : Nat} {ds : List D} (h : atL S n = some ds) (hs : ∀ d ∈ ds, Sh m d) (hm : m ≤ 100000000 := by omega) : wp (gNe (.ref n) (.lst []) S) F E ↔ F (.bl (!decide (ds = []))) S := by
  unfold gNe
  rw [eqv_nil h hs hm]; exact Iff.rfl
theorem gAddM_seq {x y : D} {a b : List D} (ha : iTrk S x = some a) (hb : iTrk S y = some b) : wp (gAddM x y S) F E ↔ a.length + b.length ≤ sizeLine ∧ F (.ref S.length) (S ++ [.lst (a ++ b)]) := by
  unfold gAddM
  simp only [ha, hb]
  by_cases h : a.length + b.length ≤ sizeLine
  · rw [if_pos h]; exact ⟨fun q => ⟨h, q⟩, fun q => q.2⟩
  · rw [if_neg h]; exact ⟨fun q => q.elim, fun q => absurd q.1 h⟩
theorem gStr_int {i : Int} : wp (gStr [.int i] S) F E ↔ i.natAbs.log2 < 1920 ∧ F (.str (toString i)) S := by
  unfold gStr
  by_cases h : i.natAbs.log2 < 1920
  · simp only [if_pos h]; exact ⟨fun q => ⟨h, q⟩, fun q => q.2⟩
  · simp only [if_neg h]; exact ⟨fun q => q.elim, fun q => absurd q.1 h⟩
end
end DL

/-! DLE: raise, try .. except. -/
namespace DL
open PySem L2 PyProof.Rows
abbrev veB : List Value := [.type "ValueError", .type "Exception", .type "BaseException", .type "object"]
/-- an own exception class without __init__ -/
structure ExAt (K : PySem.W.Frag) (mg : Str → Option Value) (x : Str) (C : Addr) : Prop where
  g : mg x = some (.ref C)
  x : PySem.W.excIn K C veB "ValueError.__new__" = true
  k : PySem.W.keepIn K (.ref C) = true
  b : PySem.W.subIn K (.ref C) (.type "BaseException") = some true
  t : PySem.W.typeIn K (.ref C) = some (.type "type")
/-- raise X(e) -/
def sRaise (cls : Str) (a : EvD) : EvS := fun ρ => lft ρ (a ρ) fun _ S => .ok (.xc ⟨cls, []⟩ ρ) S
/-- try: body, except ..: suite -/
def sTry (sub : Str → Option Bool) (body : EvS) (suite : Exc → EvS) : EvS := fun ρ S => match body ρ S with
  | .ok (.xc e ρ') S' => (match sub e.cls with
    | some true => (match suite e ρ' S' with
      | .ok (.xc _ _) _ => .bad
      | r => r)
    | some false => .ok (.xc e ρ') S'
    | none => .bad)
  | r => r
/-- .. except .. as n: slot i is n's, and forgotten behind the suite -/
def outSet (i : Nat) : Out → Out
  | .nx ρ => .nx (ρ.set i none)
  | .bk ρ => .bk (ρ.set i none)
  | .ct ρ => .ct (ρ.set i none)
  | o => o
def sTryAs (i : Nat) (sub : Str → Option Bool) (body : EvS) (suite : Exc → EvS) : EvS := sTry sub body fun e ρ S => if e.fs.isEmpty = true then (match suite e (ρ.set i none) S with
  | .ok o S' => .ok (outSet i o) S'
  | r => r) else .bad
section
variable {X : Cx} {W : WX} {pos pos' pos2 : Pos}
theorem s_raise {x : Str} {C : Addr} {e : Expr} {te : EvD} {p : Pos} (T : ExAt X.K X.mg x C) (hc : X.calm = true) (tk : Takes X W) (he : PE X e (tD X.K X.mg W te)) (hg : Gl X x := by rfl) (hs : starEach [e] X.env = (false, eval e X.env) :: starEach [] X.env := by rfl)
    (hdb : (x == ("__debug__" : Str)) = false := by decide) : PS X (.Raise (some (.Call (.Name x p) [e] [] pos)) none pos') (tS X.K X.mg W (sRaise x te)) := by
  refine PS.imp (ps_raise hc tk (SkE.pmk_own1 PySem.F.excBase_ValueError T.x T.g T.k (raises_own T.b T.t) hg he hs hdb)) fun E σ H ⟨ρ, S, μ, e, s, h⟩ => ?_
  refine ⟨ρ, S, μ, e, s, h.lft e s fun d S1 μ1 H1 s1 r1 e1 h1 v rv => ?_⟩
  exact h1.now r1 σ (.ref C) none e1 ⟨⟨C, T.g, rfl⟩, rfl⟩
theorem PostO.try_body {K : PySem.W.Frag} {mg : Str → Option Value} {E : Ends} {μ : Mu} {H : Hp} {body : EvS} {suite : Exc → EvS} {sub : Str → Option Bool} {ρ : Rho} {S : Sto} (h : PostO K mg W E μ H (sTry sub body suite ρ S)) {W' : WX}
    (f : ∀ e ρ' S' μ' H' σ c od, Rel K μ' S' H' → RE K μ' H' σ ρ' → RX K mg μ' H' e c od → PostO K mg W E μ' H' (match sub e.cls with
      | some true => (match suite e ρ' S' with
        | .ok (.xc _ _) _ => .bad
        | r => r)
      | some false => .ok (.xc e ρ') S'
      | none => .bad) → W' c od σ H') : PostO K mg W' E μ H (body ρ S) := by
  unfold sTry at h
  cases hb : body ρ S with
  | ok o S1 =>
    rw [hb] at h
    cases o with
    | xc e ρ' => exact fun μ' H' s r σ c od re rx => f e ρ' S1 μ' H' σ c od r re rx (h.mono s)
    | nx ρ' => exact h
    | rt d => exact h
    | bk ρ' => exact h
    | ct ρ' => exact h
  | ex e S1 => rw [hb] at h; exact h
  | bad => rw [hb] at h; exact h
/-- try: body / except x: suite, the exception without a name -/
theorem s_try {x : Str} {c : Value} {body suite : List Stmt} {b₀ : Stmt} {np : Pos} {tb : EvS} {ts : EvS} {sub : Str → Option Bool} (hs : X.stack = X.env :: X.outer) (hf : X.env.frame = some X.env.locals) (hc : Names X x c) (tk : Takes X W)
    (hsub : ∀ a b, sub a = some b → ∀ A, X.mg a = some (.ref A) → PySem.W.exmOne X.K (.ref A) c = some b)
    (hb : ∀ (W : WX) (pn : List (Addr × Obj)) (xe : Value → Shared → Prop), Takes (X.tr pn xe) W → PassesOwn (model X.prog X.w) X.A X.env xe → PSs (X.tr pn xe) body (tS X.K X.mg W tb))
    (hsu : ∀ (a : Addr) (oe : Obj) (pn : List (Addr × Obj)), PSs (X.suite a ((a, oe) :: pn)) (b₀ :: suite) (tS X.K X.mg W0 ts)) :
    PS X (.Try body [.ExceptHandler (some (.Name x np)) none (b₀ :: suite) pos'] [] [] pos) (tS X.K X.mg W (sTry sub tb fun _ => ts)) := by
  refine PS.imp (ps_try_only (tb := fun W => tS X.K X.mg W tb) (ts := fun _ _ _ => tS X.K X.mg W0 ts) hs hf hc tk hb fun a oe _ _ pn _ _ => hsu a oe pn) fun E σ H ⟨ρ, S, μ, e, s, h⟩ => ?_
  refine ⟨ρ, S, μ, e, s, h.try_body fun x ρ' S' μ' H' σ' c' od r re rx h' => ?_⟩
  obtain ⟨⟨A, gA, rfl⟩, _⟩ := id rx
  unfold wOnly
  split at h'
  · rename_i hx
    refine ⟨true, hsub _ _ hx A gA, fun _ a _ => ⟨ρ', S', μ', re, r, ?_⟩, fun z => Bool.noConfusion z⟩
    cases hq : ts ρ' S' with
    | ok o S2 =>
      rw [hq] at h'
      cases o with
      | xc e2 ρ2 => exact h'.elim
      | nx ρ2 => exact h'
      | rt d => exact h'
      | bk ρ2 => exact h'
      | ct ρ2 => exact h'
    | ex e2 S2 => rw [hq] at h'; exact h'.elim
    | bad => rw [hq] at h'; exact h'.elim
  · rename_i hx
    exact ⟨false, hsub _ _ hx A gA, fun z => Bool.noConfusion z, fun _ => h'.now r σ' _ od re rx⟩
  · exact h'.elim
theorem RE.unset {K : PySem.W.Frag} {μ : Mu} {H : Hp} {σ : L2.St} {ρ : Rho} (h : RE K μ H σ ρ) (i : Nat) (x : Option V) : RE K μ H (σ.set i x) (ρ.set i none) := by
  refine ⟨by simp [h.len], fun j e q => ?_⟩
  by_cases hij : i = j
  · subst hij
    by_cases hl : i < ρ.length
    · rw [List.getElem?_set_self hl] at q; cases q
    · rw [List.getElem?_eq_none (by simpa using hl)] at q; cases q
  · rw [List.getElem?_set_ne hij] at q ⊢
    exact h.val j e q
/-- what a suite's first statement may know: slot i holds the exception -/
def tSx (K : PySem.W.Frag) (mg : Str → Option Value) (i : Nat) (a : Addr) (G : EvS) : TS := fun E σ H => (i < σ.length → σ[i]? = some (some (.ref a))) ∧ tS K mg W0 G E σ H
theorem s_tryAs {x n : Str} {c : Value} {i : Nat} {body suite : List Stmt} {b₀ : Stmt} {np : Pos} {tb : EvS} {ts : Exc → EvS} {sub : Str → Option Bool} (hs : X.stack = X.env :: X.outer) (hf : X.env.frame = some X.env.locals) (hN : X.N.Nodup) (hi : X.N[i]? = some n) (hln : X.env.kindOf n = some .local) (hc : Names X x c) (tk : Takes X W)
    (hsub : ∀ a b, sub a = some b → ∀ A, X.mg a = some (.ref A) → PySem.W.exmOne X.K (.ref A) c = some b)
    (hb : ∀ (W : WX) (pn : List (Addr × Obj)) (xe : Value → Shared → Prop), Takes (X.tr pn xe) W → PassesOwn (model X.prog X.w) X.A X.env xe → PSs (X.tr pn xe) body (tS X.K X.mg W tb))
    (hsu : ∀ (a A : Addr) (oe : Obj) (e : Exc) (pn : List (Addr × Obj)), X.mg e.cls = some (.ref A) → Zc (.ref A) none oe → (∃ vs, oe.data = .fields vs) → PSs (X.suite a ((a, oe) :: pn)) (b₀ :: suite) (tSx X.K X.mg i a (ts e))) :
    PS X (.Try body [.ExceptHandler (some (.Name x np)) (some n) (b₀ :: suite) pos'] [] [] pos) (tS X.K X.mg W (sTryAs i sub tb ts)) := by
  refine PS.imp (ps_try_as (i := i) (tb := fun W => tS X.K X.mg W tb) (ts := fun a cls d E σ H => ∃ (e : Exc) (A : Addr), cls = .ref A ∧ d = none ∧ X.mg e.cls = some (.ref A) ∧ tSx X.K X.mg i a (ts e) E σ H) hs hf hN hi hln hc tk hb fun a oe cls d pn hz hv => ⟨fun pins s σ H E I q => ?_⟩) fun E σ H ⟨ρ, S, μ, e, s, h⟩ => ?_
  · obtain ⟨e, A, rfl, rfl, gA, q⟩ := q
    exact (hsu a A oe e pn gA hz hv).run pins s σ H E I q
  refine ⟨ρ, S, μ, e, s, h.try_body fun x ρ' S' μ' H' σ' c' od r re rx h' => ?_⟩
  obtain ⟨⟨A, gA, rfl⟩, hod⟩ := id rx
  unfold wAs
  split at h'
  · rename_i hx
    refine ⟨true, hsub _ _ hx A gA, fun _ a _ => ?_, fun z => Bool.noConfusion z⟩
    by_cases hfs : x.fs.isEmpty = true
    · simp only [hfs, if_true] at h'
      have hnil : x.fs = [] := by cases hq : x.fs with
        | nil => rfl
        | cons _ _ => rw [hq] at hfs; cases hfs
      have hod' : od = none := by
        cases od with
        | none => rfl
        | some d => exact absurd hnil hod.1
      refine ⟨x, A, rfl, hod', gA, fun hl => List.getElem?_set_self (by simpa using hl), ρ'.set i none, S', μ', re.unset i _, r, ?_⟩
      cases hq : ts x (ρ'.set i none) S' with
      | ok o S2 =>
        rw [hq] at h'
        cases o with
        | xc e2 ρ2 => exact h'.elim
        | nx ρ2 => exact fun μ2 H2 s2 r2 σ2 e2 => (h'.mono s2).now r2 _ (e2.unset i none)
        | rt d => exact h'
        | bk ρ2 => exact fun μ2 H2 s2 r2 σ2 e2 => (h'.mono s2).now r2 _ (e2.unset i none)
        | ct ρ2 => exact fun μ2 H2 s2 r2 σ2 e2 => (h'.mono s2).now r2 _ (e2.unset i none)
      | ex e2 S2 => rw [hq] at h'; exact h'.elim
      | bad => rw [hq] at h'; exact h'.elim
    · simp only [hfs, if_false] at h'; exact h'.elim
  · rename_i hx
    exact ⟨false, hsub _ _ hx A gA, fun z => Bool.noConfusion z, fun _ => h'.now r σ' _ od re rx⟩
  · exact h'.elim
/-- a class that an except clause or isinstance names -/
structure ClAt (K : PySem.W.Frag) (mg : Str → Option Value) (x : Str) (C : Addr) : Prop where
  g : mg x = some (.ref C)
  b : PySem.W.subIn K (.ref C) (.type "BaseException") = some true
  h : PySem.W.hasDictIn K C = true
  t : PySem.W.typeIn K (.ref C) = some (.type "type")
  s : PySem.W.subIn K (.ref C) (.ref C) = some true
theorem ClAt.kit {K : PySem.W.Frag} {mg : Str → Option Value} {x : Str} {C : Addr} (T : ClAt K mg x C) {t : Value} {b : Bool} (e : PySem.W.subIn K t (.ref C) = some b) : PySem.W.kitOne K t (.ref C) = some b := by
  unfold PySem.W.kitOne
  by_cases hq : (t == Value.ref C) = true
  · rw [if_pos hq]
    have : t = .ref C := beq_iff_eq.mp hq
    subst this
    exact T.s.symm.trans e
  · rw [if_neg hq]
    obtain ⟨cd, hc, _⟩ := PySem.W.any_some T.h
    have e2 : ((PySem.W.clsIn K C).isSome && PySem.W.typeIn K (.ref C) == some (.type "type")) = true := by rw [hc, T.t]; rfl
    show (if ((PySem.W.clsIn K C).isSome && PySem.W.typeIn K (.ref C) == some (.type "type")) = true then PySem.W.subIn K t (.ref C) else none) = some b
    rw [if_pos e2]; exact e
theorem ClAt.exm {K : PySem.W.Frag} {mg : Str → Option Value} {x : Str} {C : Addr} (T : ClAt K mg x C) {t : Value} {b : Bool} (e : PySem.W.subIn K t (.ref C) = some b) : PySem.W.exmOne K t (.ref C) = some b := PySem.W.exm_ref T.b T.h T.t e
/-- a table over the classes that may come -/
def tblSub {β : Type} (t : List (Str × β)) (a : Str) : Option β := (t.find? fun p => decide (p.1 = a)).map (·.2)
theorem tbl_hit {β : Type} {x : Str} {b : β} {r : List (Str × β)} : tblSub ((x, b) :: r) x = some b := by unfold tblSub; simp
theorem tbl_miss {β : Type} {x a : Str} {b : β} {r : List (Str × β)} (h : ¬ x = a) : tblSub ((x, b) :: r) a = tblSub r a := by unfold tblSub; simp [h]
def TblOk (K : PySem.W.Frag) (mg : Str → Option Value) (c : Value) : List (Str × Bool) → Prop
  | [] => True
  | p :: r => (∃ A, mg p.1 = some (.ref A) ∧ PySem.W.exmOne K (.ref A) c = some p.2) ∧ TblOk K mg c r
theorem tbl_ok {K : PySem.W.Frag} {mg : Str → Option Value} {c : Value} : ∀ {t : List (Str × Bool)}, TblOk K mg c t → ∀ a b, tblSub t a = some b → ∀ A, mg a = some (.ref A) → PySem.W.exmOne K (.ref A) c = some b
  | [], _, a, b, h, _, _ => by simp [tblSub] at h
  | (x, k) :: r, ⟨⟨A', h1, h2⟩, hr⟩, a, b, h, A, g => by
    by_cases e : x = a
    · subst e
      rw [tbl_hit] at h
      cases h
      have : A' = A := by
        have := h1.symm.trans g
        simpa using this
      rw [← this]; exact h2
    · rw [tbl_miss e] at h
      exact tbl_ok hr a b h A g
/-- isinstance(n, T), n the exception in slot i -/
def tIs (i : Nat) (a : Addr) (b : Bool) : TE := fun σ H Q => σ[i]? = some (some (.ref a)) ∧ Q (.bl b) H
section
variable {a A : Addr} {oe : Obj} {pn : List (Addr × Obj)} {i : Nat} {n tn : Str} {p1 p2 p3 : Pos}
theorem pe_isE {v : V} {cv : Value} {b : Bool} (C : ExcC X.K A) (hz : Zc (.ref A) none oe) (hf : ∃ vs, oe.data = .fields vs) (hg : Gl X "isinstance") (hm : X.mg "isinstance" = none) (hT : PE (X.suite a ((a, oe) :: pn)) (.Name tn p3) (tC v)) (hv : ∀ u, RelV v u → u = cv) (hk : PySem.W.kitOne X.K (.ref A) cv = some b)
    (hN : X.N[i]? = some n := by rfl) (hvis : Vis X.env.scope n := by first | exact Or.inl rfl | exact Or.inr (Or.inl rfl) | exact Or.inr (Or.inr rfl)) (hd : (n == ("__debug__" : Str)) = false := by decide) (hcd : (n == ("__classdict__" : Str)) = false := by decide)
    (hs : starEach [.Name n p2, .Name tn p3] X.env = (false, eval (.Name n p2) X.env) :: starEach [.Name tn p3] X.env := by rfl) (hs2 : starEach [.Name tn p3] X.env = (false, eval (.Name tn p3) X.env) :: starEach [] X.env := by rfl) :
    PE (X.suite a ((a, oe) :: pn)) (.Call (.Name "isinstance" p1) [.Name n p2, .Name tn p3] [] pos) (tIs i a b) := by
  refine PE.imp (pe_callB (call_isE C hz hf) hg hm (by decide +kernel) (pa_cons (pe_var (X := X.suite a ((a, oe) :: pn)) hN hvis hd hcd) (pa_cons hT pa_nil hs2) hs) (by decide) (by decide) hs) fun σ H Q ⟨h1, h2⟩ => ?_
  exact ⟨_, h1, v, cv, b, rfl, hv, hk, h2⟩
/-- a display of such -/
def IsL (X : Cx) (i : Nat) (a : Addr) (es : List Expr) (bs : List Bool) : Prop := ∃ t, PA X es t ∧ ∀ σ H (Q : List V → Hp → Prop), σ[i]? = some (some (.ref a)) → Q (bs.map V.bl) H → t σ H Q
theorem isl_nil {Y : Cx} : IsL Y i a [] [] := ⟨_, pa_nil, fun _ _ _ _ q => q⟩
theorem isl_cons {Y : Cx} {e : Expr} {es : List Expr} {b : Bool} {bs : List Bool} (h : PE Y e (tIs i a b)) (hr : IsL Y i a es bs) (hs : starEach (e :: es) Y.env = (false, eval e Y.env) :: starEach es Y.env := by rfl) : IsL Y i a (e :: es) (b :: bs) := by
  obtain ⟨t, h1, h2⟩ := hr
  exact ⟨_, pa_cons h h1 hs, fun σ H Q hi q => ⟨hi, h2 σ H _ hi q⟩⟩
/-- y = [isinstance(n, A), ..] in a suite -/
theorem s_isList {j : Nat} {y : Str} {py lp ap : Pos} {es : List Expr} {bs : List Bool} (hN : X.N.Nodup) (hl : IsL (X.suite a ((a, oe) :: pn)) i a es bs) (hb : bs.length ≤ 100) (hi : X.N[i]? = some n) (hj : X.N[j]? = some y) (hx : Loc X.env.scope y) (hf : X.fn y = true ∨ X.env.scope.names.lookup y = some .local)
    (hs : swapsWithSole [.Name y py] (.List es lp) ap.line X.env = pure false := by rfl) (hw : swappedStores [.Name y py] (.List es lp) X.env = pure none := by rfl)
    (h1 : (assignEach [.Name y py] X.env).map (·.2) = [assign (.Name y py) X.env] := by rfl) :
    PSs (X.suite a ((a, oe) :: pn)) [.Assign [.Name y py] (.List es lp) ap] (tSx X.K X.mg i a (sAsg (gN j) (eC (.lst (bs.map D.bl))))) := by
  obtain ⟨t, h2, h3⟩ := hl
  suffices hh : PSs (X.suite a ((a, oe) :: pn)) [.Assign [.Name y py] (.List es lp) ap] (fun E σ H => σ[i]? = some (some (.ref a)) ∧ tS X.K X.mg W0 (sAsg (gN j) (eC (.lst (bs.map D.bl)))) E σ H) from
    ⟨fun pins s σ H E I q => hh.run pins s σ H E I ⟨q.1 (by have e1 : σ.length = X.N.length := I.len; have := (List.getElem?_eq_some_iff.mp hi).1; omega), q.2⟩⟩
  refine pss_one (PS.imp (ps_asg (X := X.suite a ((a, oe) :: pn)) (pe_lst h2) (pg_name (X := X.suite a ((a, oe) :: pn)) hN hj hx hf) hs hw h1) fun E σ H ⟨q, ρ, S, μ, e, s, h⟩ => ?_)
  refine h3 σ H _ q ⟨by rw [List.length_map]; exact small_line (by omega), fun p hp => ?_⟩
  have rds : ∀ l : List Bool, RDs X.K μ H (l.map D.bl) (l.map V.bl) := fun l => by
    induction l with
    | nil => exact .nil
    | cons b l ih => exact .cons (.bl b) ih
  have := h μ (upd H p (.lst (bs.map V.bl))) (Stp.new hp) (s.new hp)
  exact this _ ((e.step s (Stp.new hp)).set (.lst upd_same ⟨fun z => s.there z hp, fun z => s.hid _ z hp⟩ ((rds bs).step s (Stp.new hp))) j)
end
end
end DL

/-! DLD: dicts with keys that are ints or texts. -/
namespace DL
open PySem L2 PyProof.Rows
def getK {β : Type} (kvs : List (Key × β)) (k : Key) : Option β := (kvs.find? fun kv => decide (kv.1 = k)).map (·.2)
def setK {β : Type} (kvs : List (Key × β)) (k : Key) (v : β) : List (Key × β) :=
  if (kvs.any fun kv => decide (kv.1 = k)) = true then kvs.map (fun kv => if kv.1 = k then (kv.1, v) else kv) else kvs ++ [(k, v)]
def keyD : D → Option Key
  | .int i => some (.inl i)
  | .str x => some (.inr x)
  | _ => none
def ofKey : Key → D
  | .inl i => .int i
  | .inr x => .str x
def atD (S : Sto) (d : D) : Option (List (Key × D)) := match d with
  | .ref n => match S[n]? with
    | some (.dct kvs) => some kvs
    | _ => none
  | _ => none
section
variable {K : PySem.W.Frag} {μ μ' : Mu} {S : Sto} {H H' : Hp}
theorem keyD_ok {d : D} {k : Key} {v : V} (e : keyD d = some k) (h : RD K μ H d v) : v = kV k := by
  cases h <;> first | (cases e; rfl) | cases e
theorem ofKey_rd (k : Key) : RD K μ H (ofKey k) (kV k) := by
  cases k with
  | inl i => exact .int i
  | inr x => exact .str x
theorem atD_ok {d : D} {kvs : List (Key × D)} {v : V} (e : atD S d = some kvs) (r : Rel K μ S H) (h : RD K μ H d v) : ∃ n a ws, d = .ref n ∧ v = .ref a ∧ μ.v[n]? = some a ∧ S[n]? = some (.dct kvs) ∧ H a = some (.dK ws) ∧ RKs K μ H kvs ws := by
  cases h with
  | @ref n a h1 =>
    unfold atD at e
    simp only at e
    split at e
    · rename_i ks hs
      cases e
      obtain ⟨ws, q, z⟩ := r.obj n a _ h1 hs
      exact ⟨n, a, ws, rfl, rfl, h1, hs, q, z⟩
    · cases e
  | _ => cases e
theorem RKs.get : ∀ {kvs : List (Key × D)} {ws : List (Key × V)} (k : Key), RKs K μ H kvs ws → (getK kvs k = none ∧ valV ws k = none) ∨ ∃ d v, getK kvs k = some d ∧ valV ws k = some v ∧ RD K μ H d v
  | [], _, k, h => by cases h; exact .inl ⟨rfl, rfl⟩
  | (k0, d) :: kvs, _, k, h => by
    cases h with
    | @cons _ q _ ws h1 h2 =>
      obtain ⟨k1, w⟩ := q
      obtain ⟨e, rd⟩ := h1
      have e' : k0 = k1 := e
      subst e'
      by_cases hk : k0 = k
      · right
        exact ⟨d, w, by simp [getK, hk], by simp [valV, hk], rd⟩
      · have r1 : getK ((k0, d) :: kvs) k = getK kvs k := by simp [getK, hk]
        have r2 : valV ((k0, w) :: ws) k = valV ws k := by simp [valV, hk]
        rw [r1, r2]
        exact RKs.get k h2
theorem RKs.len : ∀ {kvs : List (Key × D)} {ws : List (Key × V)}, RKs K μ H kvs ws → kvs.length = ws.length
  | [], _, h => by cases h; rfl
  | _ :: _, _, h => by cases h with | cons h1 h2 => simp [RKs.len h2]
theorem RKs.any : ∀ {kvs : List (Key × D)} {ws : List (Key × V)} (k : Key), RKs K μ H kvs ws → (kvs.any fun kv => decide (kv.1 = k)) = ws.any fun kv => decide (kv.1 = k)
  | [], _, k, h => by cases h; rfl
  | (k0, d) :: kvs, _, k, h => by
    cases h with
    | cons h1 h2 =>
      have e : k0 = _ := h1.1
      simp only [List.any_cons, RKs.any k h2, e]
theorem RKs.app : ∀ {kvs k2 : List (Key × D)} {ws w2 : List (Key × V)}, RKs K μ H kvs ws → RKs K μ H k2 w2 → RKs K μ H (kvs ++ k2) (ws ++ w2)
  | [], _, _, _, h, g => by cases h; exact g
  | _ :: _, _, _, _, h, g => by cases h with | cons h1 h2 => exact .cons h1 (RKs.app h2 g)
theorem RKs.over : ∀ {kvs : List (Key × D)} {ws : List (Key × V)} (k : Key) {d : D} {v : V}, RKs K μ H kvs ws → RD K μ H d v → RKs K μ H (kvs.map fun kv => if kv.1 = k then (kv.1, d) else kv) (ws.map fun kv => if kv.1 = k then (kv.1, v) else kv)
  | [], _, k, _, _, h, _ => by cases h; exact .nil
  | (k0, d0) :: kvs, _, k, d, v, h, rd => by
    cases h with
    | @cons _ q _ ws h1 h2 =>
      obtain ⟨k1, w⟩ := q
      have e : k0 = k1 := h1.1
      subst e
      simp only [List.map_cons]
      refine .cons ?_ (RKs.over k h2 rd)
      by_cases hk : k0 = k
      · simp only [hk, if_true]; exact ⟨trivial, rd⟩
      · simp only [hk, if_false]; exact ⟨trivial, h1.2⟩
theorem RKs.set {kvs : List (Key × D)} {ws : List (Key × V)} (k : Key) {d : D} {v : V} (h : RKs K μ H kvs ws) (rd : RD K μ H d v) : RKs K μ H (setK kvs k d) (putK ws k v) := by
  unfold setK putK
  rw [RKs.any k h]
  split
  · exact RKs.over k h rd
  · exact RKs.app h (.cons ⟨rfl, rd⟩ .nil)
theorem RKs.keys : ∀ {kvs : List (Key × D)} {ws : List (Key × V)}, RKs K μ H kvs ws → RDs K μ H (kvs.map fun kv => ofKey kv.1) (ws.map fun kv => kV kv.1)
  | [], _, h => by cases h; exact .nil
  | (k0, d) :: kvs, _, h => by
    cases h with
    | @cons _ q _ ws h1 h2 =>
      have e : k0 = q.1 := h1.1
      simp only [List.map_cons, ← e]
      exact .cons (ofKey_rd k0) (RKs.keys h2)
end
def gDGet (x y : D) : M D := fun S => match atD S x, keyD y with
  | some kvs, some k => (match getK kvs k with
    | some v => .ok v S
    | none => .bad)
  | _, _ => .bad
def gDIn (neg : Bool) (y x : D) : M D := fun S => match atD S x, keyD y with
  | some kvs, some k => .ok (.bl (if neg = true then !(getK kvs k).isSome else (getK kvs k).isSome)) S
  | _, _ => .bad
def gDDef (x y z : D) : M D := fun S => match atD S x, keyD y with
  | some kvs, some k => .ok ((getK kvs k).getD z) S
  | _, _ => .bad
def eDGet (a b : EvD) : EvD := eBin gDGet a b
def eDNew : EvD := fun _ S => .ok (.ref S.length) (S ++ [.dct []])
/-- d.get(k, z) -/
def eDDef (a b c : EvD) : EvD := fun ρ => bnd (a ρ) fun x S1 => match atD S1 x with
  | some _ => bnd (b ρ) (fun y => bnd (c ρ) fun z => gDDef x y z) S1
  | none => .bad
def gDPut (v x y : D) : M Unit := fun S => match x, keyD y with
  | .ref n, some k => (match S[n]? with
    | some (.dct kvs) => if kvs.length < 16777216 then .ok () (S.set n (.dct (setK kvs k v))) else .bad
    | _ => .bad)
  | _, _ => .bad
def sDPutD (F Fo Fi : EvD) : EvS := fun ρ => lft ρ (F ρ) fun d => lft ρ (Fo ρ) fun o => lft ρ (Fi ρ) fun i => lft ρ (gDPut d o i) fun _ => ret (.nx ρ)
/-- list(d) -/
def gListK (xs : List D) : M D := fun S => match xs with
  | [d] => (match atD S d with
    | some kvs => .ok (.lst (kvs.map fun kv => ofKey kv.1)) S
    | none => .bad)
  | _ => .bad
section
variable {X : Cx} {W : WX} {pos pos' : Pos}
theorem DGet.of {K : PySem.W.Frag} {μ : Mu} {S : Sto} {H : Hp} {x y : D} {kvs : List (Key × D)} {k : Key} {v w : V} (e : atD S x = some kvs) (ek : keyD y = some k) (r : Rel K μ S H) (hx : RD K μ H x v) (hy : RD K μ H y w) :
    ∃ a ws, v = .ref a ∧ DGet H a w (valV ws k) ∧ RKs K μ H kvs ws := by
  obtain ⟨n, a, ws, rfl, rfl, _, _, q, z⟩ := atD_ok e r hx
  have := keyD_ok ek hy
  subst this
  exact ⟨a, ws, rfl, L2.DGet.k q, z⟩
theorem d_dget {o i : Expr} {to ti : EvD} (hu : X.A.units + 500 < cLine) (ho : PE X o (tD X.K X.mg W to)) (hi : PE X i (tD X.K X.mg W ti)) (hs : NoSl i := by exact fun _ _ => rfl) : PE X (.Subscript o i pos) (tD X.K X.mg W (eDGet to ti)) := by
  refine PE.imp (pe_dget (by omega) ho hi hs) fun σ H Q ⟨ρ, S, μ, e, s, h⟩ => ?_
  refine ⟨ρ, S, μ, e, s, h.bnd fun x S1 μ1 H1 s1 r1 h1 v rv => ?_⟩
  refine ⟨ρ, S1, μ1, e.step s s1, r1, h1.bnd fun y S2 μ2 H2 s2 r2 h2 w rw => ?_⟩
  unfold gDGet at h2
  split at h2
  · rename_i kvs k ea ek
    obtain ⟨a, ws, rfl, g, z⟩ := DGet.of ea ek r2 (rv.step r1 s2) rw
    rcases z.get k with ⟨g1, g2⟩ | ⟨d, u, g1, g2, rd⟩
    · rw [g1] at h2; exact h2.elim
    · rw [g1] at h2
      rw [g2] at g
      exact ⟨a, u, rfl, g, h2.now r2 _ rd⟩
  · exact h2.elim
theorem d_din {o i : Expr} {to ti : EvD} (hu : X.A.units + 500 < cLine) (hi : PE X i (tD X.K X.mg W ti)) (ho : PE X o (tD X.K X.mg W to)) (hm : behindInMarks .In o = false) : PE X (.Compare i [.In] [o] pos) (tD X.K X.mg W (eBin (gDIn false) ti to)) := by
  refine PE.imp (pe_cmp (pc_din (by omega) hi ho) hm) fun σ H Q ⟨ρ, S, μ, e, s, h⟩ => ?_
  refine ⟨ρ, S, μ, e, s, h.bnd fun y S1 μ1 H1 s1 r1 h1 w rw => ?_⟩
  refine ⟨ρ, S1, μ1, e.step s s1, r1, h1.bnd fun x S2 μ2 H2 s2 r2 h2 v rv => ?_⟩
  unfold gDIn at h2
  split at h2
  · rename_i kvs k ea ek
    obtain ⟨a, ws, rfl, g, z⟩ := DGet.of ea ek r2 rv (rw.step r1 s2)
    refine ⟨a, _, rfl, g, ?_⟩
    have : (getK kvs k).isSome = (valV ws k).isSome := by
      rcases z.get k with ⟨g1, g2⟩ | ⟨d, u, g1, g2, rd⟩ <;> rw [g1, g2] <;> rfl
    rw [if_neg Bool.false_ne_true, this] at h2
    exact h2.now r2 _ (.bl _)
  · exact h2.elim
theorem d_dnotin {o i : Expr} {to ti : EvD} (hu : X.A.units + 500 < cLine) (hi : PE X i (tD X.K X.mg W ti)) (ho : PE X o (tD X.K X.mg W to)) (hm : behindInMarks .NotIn o = false) : PE X (.Compare i [.NotIn] [o] pos) (tD X.K X.mg W (eBin (gDIn true) ti to)) := by
  refine PE.imp (pe_cmp (pc_dnotin (by omega) hi ho) hm) fun σ H Q ⟨ρ, S, μ, e, s, h⟩ => ?_
  refine ⟨ρ, S, μ, e, s, h.bnd fun y S1 μ1 H1 s1 r1 h1 w rw => ?_⟩
  refine ⟨ρ, S1, μ1, e.step s s1, r1, h1.bnd fun x S2 μ2 H2 s2 r2 h2 v rv => ?_⟩
  unfold gDIn at h2
  split at h2
  · rename_i kvs k ea ek
    obtain ⟨a, ws, rfl, g, z⟩ := DGet.of ea ek r2 rv (rw.step r1 s2)
    refine ⟨a, _, rfl, g, ?_⟩
    have : (getK kvs k).isSome = (valV ws k).isSome := by
      rcases z.get k with ⟨g1, g2⟩ | ⟨d, u, g1, g2, rd⟩ <;> rw [g1, g2] <;> rfl
    rw [if_pos rfl, this] at h2
    exact h2.now r2 _ (.bl _)
  · exact h2.elim
theorem d_dnew : PE X (.Dict [] [] pos) (tD X.K X.mg W eDNew) := by
  refine PE.imp pe_dnewK fun σ H Q ⟨ρ, S, μ, e, s, h⟩ => ?_
  exact fun p hp => h (μ.push p) _ (Stp.alloc hp) (s.alloc hp ⟨[], upd_same, .nil⟩) _ (new_ref s)
theorem d_ddef {o e f : Expr} {to te tf : EvD} {apos cpos : Pos} (hu : X.A.units + 500 < cLine) (ho : PE X o (tD X.K X.mg W to)) (he : PE X e (tD X.K X.mg W te)) (hf : PE X f (tD X.K X.mg W tf)) (m : M2 X o "get" apos e f cpos) : PE X (.Call (.Attribute o "get" apos) [e, f] [] cpos) (tD X.K X.mg W (eDDef to te tf)) := by
  refine PE.imp (pe_dget2 (by omega) ho he hf m) fun σ H Q ⟨ρ, S, μ, e, s, h⟩ => ?_
  refine ⟨ρ, S, μ, e, s, h.bnd fun x S1 μ1 H1 s1 r1 h1 v rv => ?_⟩
  split at h1
  · rename_i kv0 ea0
    obtain ⟨n, a, ws0, rfl, rfl, hn, hS0, q0, z0⟩ := atD_ok ea0 r1 rv
    refine ⟨a, rfl, .inl ⟨ws0, .inl q0⟩, ρ, S1, μ1, e.step s s1, r1, h1.bnd fun y S2 μ2 H2 s2 r2 h2 w rw => ?_⟩
    refine ⟨ρ, S2, μ2, (e.step s s1).step r1 s2, r2, h2.bnd fun z S3 μ3 H3 s3 r3 h3 u ru => ?_⟩
    unfold gDDef at h3
    split at h3
    · rename_i kvs k ea ek
      obtain ⟨a', ws, ea', g, zz⟩ := DGet.of ea ek r3 ((rv.step r1 s2).step r2 s3) (rw.step r2 s3)
      cases ea'
      refine ⟨_, g, ?_⟩
      rcases zz.get k with ⟨g1, g2⟩ | ⟨d, u', g1, g2, rd⟩
      · rw [g1] at h3; rw [g2]; exact h3.now r3 _ ru
      · rw [g1] at h3; rw [g2]; exact h3.now r3 _ rd
    · exact h3.elim
  · exact h1.elim
theorem s_dput {o i e : Expr} {F Fo Fi : EvD} {p2 : Pos} (hu : X.A.units + 500 < cLine) (he : PE X e (tD X.K X.mg W F)) (ho : PE X o (tD X.K X.mg W Fo)) (hi : PE X i (tD X.K X.mg W Fi)) (hs : swapsWith e (some (.Subscript o i p2)) pos.line X.env = pure false := by rfl) :
    PS X (.Assign [.Subscript o i p2] e pos) (tS X.K X.mg W (sDPutD F Fo Fi)) := by
  refine PS.imp (ps_dput (by omega) ho hi he hs) fun E σ H ⟨ρ, S, μ, e, s, h⟩ => ?_
  refine ⟨ρ, S, μ, e, s, h.lft e s fun d S1 μ1 H1 s1 r1 e1 h1 v rv => ?_⟩
  refine ⟨ρ, S1, μ1, e1, r1, h1.lft e1 r1 fun ov S2 μ2 H2 s2 r2 e2 h2 w rw => ?_⟩
  refine ⟨ρ, S2, μ2, e2, r2, h2.lft e2 r2 fun iv S3 μ3 H3 s3 r3 e3 h3 u ru => ?_⟩
  have rv3 := (rv.step r1 s2).step r2 s3
  have rw3 := rw.step r2 s3
  unfold lft gDPut at h3
  split at h3
  · rename_i a S4 heq
    split at heq
    · rename_i n k ek
      split at heq
      · rename_i kvs eS
        split at heq
        · rename_i hl
          cases heq
          obtain ⟨n', a, ws, en, rfl, hn, hS, q, z⟩ := atD_ok (d := .ref n) (kvs := kvs) (by unfold atD; simp only [eS]) r3 rw3
          cases en
          have := keyD_ok ek ru
          subst this
          have hm : a ∈ μ3.v := List.mem_of_getElem? hn
          have zk := (RKs.step z r3 (Stp.put (o := .dK (putK ws k v)) hm)).set k (rv3.step r3 (Stp.put hm))
          refine ⟨a, _, rfl, DPut.k q (by rw [← z.len, sizeLine_eq]; exact hl), ?_⟩
          exact h3 μ3 _ (Stp.put hm) (r3.put hn ⟨_, upd_same, zk⟩) σ (e3.step r3 (Stp.put hm))
        · cases heq
      · cases heq
    · cases heq
  · rename_i x S4 heq
    split at heq
    · split at heq
      · split at heq <;> cases heq
      · cases heq
    · cases heq
  · exact h3.elim
theorem c_listK (hc : X.calm = true) : CRD X W (.type "list") gListK := by
  refine ⟨_, call_listD hc, fun ds vs μ S σ H Q r rds h => ?_⟩
  unfold gListK at h
  split at h
  · cases rds with
    | cons h1 h2 =>
      cases h2
      split at h
      · rename_i kvs e
        obtain ⟨n, a, ws, rfl, rfl, _, _, q, z⟩ := atD_ok e r h1
        exact ⟨a, ws, rfl, .inl q, fun p hp => h μ _ (Stp.new hp) (r.new hp) _ (.lst upd_same ⟨fun z => r.there z hp, fun z => r.hid _ z hp⟩ (z.keys.step r (Stp.new hp)))⟩
      · exact h.elim
  · exact h.elim
end
/-! ### displays -/
section
variable {K : PySem.W.Frag} {μ : Mu} {S : Sto} {H : Hp}
mutual
/-- a dict in the making comes into the store -/
theorem RD.revealD {p : Addr} {o : HO} {kv : List (Key × V)} (hp : H p = some (.dK kv)) : ∀ (d : D) (v : V), RD K (μ.hide p) H d v → RD K (μ.push p) (upd H p o) d v
  | .non, _, h => by cases h; exact .non
  | .bl _, _, h => by cases h; exact .bl _
  | .int _, _, h => by cases h; exact .int _
  | .str _, _, h => by cases h; exact .str _
  | .fn _, _, h => by cases h with | fn q => exact .fn q
  | .tup ds, _, h => by
    cases h with
    | tup h1 h2 =>
      refine .tup ?_ (RDs.revealD hp ds _ h2)
      rcases h1 with (h1 | ⟨o, h1⟩) | h1
      · exact .inl (.inl (by rw [upd_ne (ne_of h1 hp (fun z => nomatch z))]; exact h1))
      · exact .inl (.inr ⟨o, by rw [upd_ne (ne_of h1 hp (fun z => nomatch z))]; exact h1⟩)
      · exact .inr h1
  | .fl ds, _, h => by
    cases h with
    | fl h1 h2 =>
      refine .fl ?_ (RDs.revealD hp ds _ h2)
      rcases h1 with ⟨o, h1⟩ | h1
      · exact .inl ⟨o, by rw [upd_ne (ne_of h1 hp (fun z => nomatch z))]; exact h1⟩
      · exact .inr h1
  | .lst ds, _, h => by
    cases h with
    | @lst a vs _ h1 h0 h2 =>
      have ne : a ≠ p := fun z => h0.2 (by rw [z]; exact List.mem_cons_self)
      refine .lst (by rw [upd_ne ne]; exact h1) ⟨fun z => ?_, fun z => h0.2 (List.mem_cons_of_mem _ z)⟩ (RDs.revealD hp ds _ h2)
      rcases List.mem_append.mp (show a ∈ μ.v ++ [p] from z) with q | q
      · exact h0.1 q
      · exact ne (by simpa using q)
  | .ref n, _, h => by
    cases h with
    | ref h1 => exact .ref (by
        have h1' : μ.v[n]? = some _ := h1
        show (μ.v ++ [p])[n]? = _
        rw [List.getElem?_append_left (List.getElem?_eq_some_iff.mp h1').1]; exact h1')
theorem RDs.revealD {p : Addr} {o : HO} {kv : List (Key × V)} (hp : H p = some (.dK kv)) : ∀ (ds : List D) (vs : List V), RDs K (μ.hide p) H ds vs → RDs K (μ.push p) (upd H p o) ds vs
  | [], _, h => by cases h; exact .nil
  | d :: ds, _, h => by
    cases h with
    | cons h1 h2 => exact .cons (RD.revealD hp d _ h1) (RDs.revealD hp ds _ h2)
end
theorem Rel.revealD {p : Addr} {o : HO} {kv : List (Key × V)} {m : MO} (r : Rel K (μ.hide p) S H) (hx : p ∉ μ.x) (hp : H p = some (.dK kv)) (hm : RM K (μ.push p) (upd H p o) p m) : Rel K (μ.push p) (S ++ [m]) (upd H p o) := by
  have hpv : p ∉ μ.v := fun z => r.apt p z List.mem_cons_self
  refine ⟨by have := r.len; simp only [Mu.push, List.length_append, List.length_singleton]; exact congrArg (· + 1) this, ?_, fun i a n h1 h2 => ?_, fun a ha => ?_, fun a ha hz => ?_⟩
  · show (μ.v ++ [p]).Nodup
    rw [List.nodup_append]
    refine ⟨r.nd, by simp, fun a ha b hb => ?_⟩
    simp at hb; subst hb
    exact fun z => hpv (by rw [← z]; exact ha)
  · have h1' : (μ.v ++ [p])[i]? = some a := h1
    have hlen : μ.v.length = S.length := r.len
    by_cases hi : i < μ.v.length
    · rw [List.getElem?_append_left hi] at h1'
      rw [List.getElem?_append_left (by omega)] at h2
      exact (r.obj i a n h1' h2).map (upd_ne fun z => hpv (by rw [← z]; exact List.mem_of_getElem? h1')) (RD.revealD hp) (RDs.revealD hp)
    · have hi' : i = μ.v.length := by
        have := (List.getElem?_eq_some_iff.mp h1').1
        simp at this; omega
      subst hi'
      rw [List.getElem?_append_right (Nat.le_refl _)] at h1'
      rw [hlen, List.getElem?_append_right (Nat.le_refl _)] at h2
      simp at h1' h2
      subst h1' h2
      exact hm
  · by_cases z : a = p
    · rw [z, upd_same]; simp
    · rw [upd_ne z]; exact r.hid a (List.mem_cons_of_mem _ ha)
  · rcases List.mem_append.mp (show a ∈ μ.v ++ [p] from ha) with q | q
    · exact r.apt a q (List.mem_cons_of_mem _ hz)
    · have : a = p := by simpa using q
      subst this
      exact hx hz
end
/-- {k: e, ..}, the keys written texts -/
def eDct (ks : List Str) (as : EvL) : EvD := fun ρ => bnd (as ρ) fun ds S => if ds.length = ks.length then .ok (.ref S.length) (S ++ [.dct ((ks.map Sum.inr).zip ds)]) else .bad
structure DPs (X : Cx) (W : WX) (pos : Pos) (ks : List (Option Expr)) (vs : List Expr) (trs : List (TE × TE)) (xs : List Str) (F : EvL) : Prop where
  pp : PPs X pos ks vs trs
  len : vs.length = xs.length
  go : ∀ σ H (Q : List (V × V) → Hp → Prop), (∃ ρ S μ, RE X.K μ H σ ρ ∧ Rel X.K μ S H ∧ Post X.K X.mg W μ σ H (F ρ S) (fun ds μ' H' => ∀ ws, RDs X.K μ' H' ds ws → ds.length = xs.length → Q ((xs.map V.str).zip ws) H')) → tPairs trs σ H Q
section
variable {X : Cx} {W : WX} {pos : Pos}
theorem dps_nil : DPs X W pos [] [] [] [] aNil := ⟨pps_nil, rfl, fun σ H Q ⟨ρ, S, μ, e, s, h⟩ => by
  have := h.now s [] .nil rfl
  exact this⟩
theorem dps_cons {x : Str} {v : Expr} {ks : List (Option Expr)} {vs : List Expr} {trs : List (TE × TE)} {xs : List Str} {te : EvD} {F : EvL} {j : Nat} {p : Pos} (hv : PE X v (tD X.K X.mg W te)) (hr : DPs X W pos ks vs trs xs F) :
    DPs X W pos (some (.Constant (.str x) j p) :: ks) (v :: vs) ((tC (.str x), tD X.K X.mg W te) :: trs) (x :: xs) (aCons te F) := by
  refine ⟨pps_cons pe_str hv hr.pp, by simp [hr.len], fun σ H Q ⟨ρ, S, μ, e, s, h⟩ => ?_⟩
  show tD X.K X.mg W te σ H _
  refine ⟨ρ, S, μ, e, s, h.bnd fun y S1 μ1 H1 s1 r1 h1 w rw => ?_⟩
  refine hr.go σ H1 _ ⟨ρ, S1, μ1, e.step s s1, r1, h1.bnd fun ys S2 μ2 H2 s2 r2 h2 ws rws hl => ?_⟩
  exact h2.now r2 (w :: ws) (.cons (rw.step r1 s2) rws) (by simp [hl])
theorem zip_keys : ∀ (xs : List Str) (ws : List V), ((xs.map V.str).zip ws) = ((xs.map Sum.inr).zip ws).map fun kv : Key × V => (kV kv.1, kv.2)
  | [], _ => rfl
  | x :: xs, [] => rfl
  | x :: xs, w :: ws => by simp only [List.map_cons, List.zip_cons_cons, zip_keys xs ws]; rfl
theorem merge_fresh : ∀ (more kvs : List (Key × V)), (more.map (·.1)).Nodup → (∀ k ∈ more.map (·.1), k ∉ kvs.map (·.1)) → mergeK kvs more = kvs ++ more
  | [], kvs, _, _ => by simp [mergeK]
  | (k, v) :: more, kvs, nd, dj => by
    have h0 : (kvs.any fun kv => decide (kv.1 = k)) = false := by
      rw [List.any_eq_false]
      intro kv hkv
      have := dj k (by simp)
      simp only [decide_eq_true_eq]
      intro e
      exact this (List.mem_map.mpr ⟨kv, hkv, e⟩)
    have e1 : putK kvs k v = kvs ++ [(k, v)] := by unfold putK; rw [h0]; rfl
    have nd' : k ∉ more.map (·.1) ∧ (more.map (·.1)).Nodup := by simpa using nd
    have : mergeK kvs ((k, v) :: more) = mergeK (kvs ++ [(k, v)]) more := by
      show (more.foldl (fun acc kv => putK acc kv.1 kv.2) (putK kvs k v)) = _
      rw [e1]; rfl
    rw [this, merge_fresh more _ nd'.2 fun k' hk' => ?_]
    · simp
    · simp only [List.map_append, List.map_cons, List.map_nil, List.mem_append, List.mem_singleton, not_or]
      exact ⟨dj k' (by simp only [List.map_cons, List.mem_cons]; exact .inr hk'), fun e => nd'.1 (by rw [← e]; exact hk')⟩
theorem keys_zip : ∀ (xs : List Str) (ws : List V), xs.length = ws.length → (((xs.map Sum.inr : List Key).zip ws).map (·.1)) = xs.map Sum.inr
  | [], _, _ => rfl
  | x :: xs, [], h => by simp at h
  | x :: xs, w :: ws, h => by simp only [List.map_cons, List.zip_cons_cons, keys_zip xs ws (by simpa using h)]
theorem RKs.zip {K : PySem.W.Frag} {μ : Mu} {H : Hp} : ∀ (xs : List Str) {ds : List D} {ws : List V}, RDs K μ H ds ws → RKs K μ H ((xs.map Sum.inr).zip ds) ((xs.map Sum.inr).zip ws)
  | [], _, _, _ => .nil
  | x :: xs, [], _, h => by cases h; exact .nil
  | x :: xs, d :: ds, _, h => by cases h with | cons h1 h2 => exact .cons ⟨rfl, h1⟩ (RKs.zip xs h2)
theorem d_dct {ks : List (Option Expr)} {vs : List Expr} {trs : List (TE × TE)} {xs : List Str} {F : EvL} (h : DPs X W pos ks vs trs xs F) (nd : xs.Nodup) (hall : ks.all (·.isSome) = true := by rfl) (hl : ks.length = vs.length := by rfl) (h0 : ks ≠ [] := by exact fun z => nomatch z) (h15 : ks.length ≤ 15 := by decide) :
    PE X (.Dict ks vs pos) (tD X.K X.mg W (eDct xs F)) := by
  refine PE.imp (pe_disp h.pp hall hl h0 h15) fun σ H Q ⟨ρ, S, μ, e, s, q⟩ => ?_
  intro p hp
  have hpx : p ∉ μ.x := fun z => s.hid p z hp
  have q' : Post X.K X.mg W (μ.hide p) σ (upd H p (.dK [])) (F ρ S) (fun ds μ' H' => ∃ μ1, μ' = Mu.hide μ1 p ∧ Stp μ H μ1 H' ∧ H' p = some (.dK []) ∧ Rel X.K (μ1.hide p) ((match F ρ S with | .ok _ S' => S' | _ => S)) H' ∧ (match (if ds.length = xs.length then R.ok (D.ref (match F ρ S with | .ok _ S' => S' | _ => S).length) ((match F ρ S with | .ok _ S' => S' | _ => S) ++ [MO.dct ((xs.map Sum.inr).zip ds)]) else R.bad : R D) with
      | .ok d S2 => ∀ μ2 H2, Stp μ H μ2 H2 → Rel X.K μ2 S2 H2 → QD X.K Q d μ2 H2
      | _ => False)) := by
    unfold eDct bnd at q
    cases hF : F ρ S with
    | ok ds S1 =>
      rw [hF] at q
      intro μ' H' st r'
      have hks : H' p = some (.dK []) := st.keep p _ upd_same (fun z => (s.there (show p ∈ μ.v from z)) hp)
      have st0 : Stp (μ.hide p) H (μ.hide p) (upd H p (.dK [])) := Stp.new hp
      obtain ⟨μ1, rfl, st1⟩ := Stp.show (st0.trans st)
      refine ⟨μ1, rfl, st1, hks, r', ?_⟩
      by_cases hd : ds.length = xs.length
      · simp only [hd, if_true] at q ⊢
        exact fun μ2 H2 s2 r2 => q μ2 H2 s2 r2
      · simp only [hd, if_false] at q
        exact q.elim
    | ex x S1 =>
      rw [hF] at q
      intro μ' H' c od st r' rx
      have st0 : Stp (μ.hide p) H (μ.hide p) (upd H p (.dK [])) := Stp.new hp
      obtain ⟨μ1, rfl, st1⟩ := Stp.show (st0.trans st)
      refine q μ1 H' c od st1 r'.show ?_
      obtain ⟨h1, h2⟩ := rx
      refine ⟨h1, ?_⟩
      cases od with
      | none => exact h2
      | some d =>
        obtain ⟨h3, fs, h4, h5⟩ := h2
        exact ⟨h3, fs, h4, Paired.mapP h5 fun _ _ z => ⟨z.1, RD.show _ _ z.2⟩⟩
    | bad => rw [hF] at q; exact q.elim
  refine h.go σ _ _ ⟨ρ, S, μ.hide p, e.mapR (RD.hide hp), s.hide hp, q'.imp fun ds S' μ' H' hr st r' ⟨μ1, eμ, st1, hks, r1, fin⟩ => ?_⟩
  subst eμ
  intro ws rws hlen
  rw [hr] at fin r1
  simp only [hlen, if_true] at fin r1
  have hle : xs.length = ws.length := by rw [← hlen, rws.length]
  refine ⟨hks, (xs.map Sum.inr).zip ws, zip_keys xs ws, by rw [List.length_zip, List.length_map, ← hle, Nat.min_self, ← h.len, ← hl]; exact h15, ?_⟩
  have ndk : (xs.map Sum.inr : List Key).Nodup := List.pairwise_map.mpr (List.Pairwise.imp (fun h e => h (Sum.inr.inj e)) nd)
  rw [merge_fresh _ [] (by rw [keys_zip xs ws hle]; exact ndk) (fun k _ => by simp), List.nil_append]
  have hpx1 : p ∉ μ1.x := by rw [st1.x]; exact hpx
  have rr := r1.revealD (o := .dK ((xs.map Sum.inr).zip ws)) (m := .dct ((xs.map Sum.inr).zip ds)) hpx1 hks ⟨_, upd_same, RKs.zip xs (RDs.revealD hks _ _ rws)⟩
  have stp2 : Stp μ H (μ1.push p) (upd H' p (.dK ((xs.map Sum.inr).zip ws))) := by
    have := (st1.side (o := .dK ((xs.map Sum.inr).zip ws)) hp).push hp
    exact this
  refine fin _ _ stp2 rr _ (.ref ?_)
  have hln : μ1.v.length = S'.length := r1.len
  show (μ1.v ++ [p])[S'.length]? = some p
  rw [List.getElem?_append_right (by omega), hln]; simp
end
end DL

/-! DLN: more built-ins. -/
namespace DL
open PySem L2 PyProof.Rows
def gMaxL (xs : List D) : M D := fun S => match xs with
  | [d] => (match (iSeq S d).bind intsOf with
    | some (n :: ns) => .ok (.int (ns.foldl max n)) S
    | _ => .bad)
  | _ => .bad
theorem foldl_max : ∀ (ns : List Int) (n : Int), (ns.foldl max n) ∈ n :: ns ∧ ∀ y ∈ n :: ns, y ≤ ns.foldl max n
  | [], n => ⟨by simp, fun y hy => by simp at hy; simp [hy]⟩
  | m :: ns, n => by
    obtain ⟨h1, h2⟩ := foldl_max ns (max n m)
    refine ⟨?_, fun y hy => ?_⟩
    · simp only [List.foldl_cons]
      rcases List.mem_cons.mp h1 with e | h
      · rw [e]
        rcases Int.le_total n m with h | h
        · rw [Int.max_eq_right h]; simp
        · rw [Int.max_eq_left h]; simp
      · exact List.mem_cons_of_mem _ (List.mem_cons_of_mem _ h)
    · simp only [List.foldl_cons]
      have hb := h2 (max n m) List.mem_cons_self
      rcases List.mem_cons.mp hy with rfl | hy
      · exact Int.le_trans (Int.le_max_left _ _) hb
      · rcases List.mem_cons.mp hy with rfl | hy
        · exact Int.le_trans (Int.le_max_right _ _) hb
        · exact h2 y (List.mem_cons_of_mem _ hy)
theorem c_maxL {X : Cx} {W : WX} (hc : X.calm = true) : CRD X W (.builtin "max") gMaxL := by
  refine ⟨_, cr_max hc, fun ds vs μ S σ H Q r rds h => ?_⟩
  unfold gMaxL at h
  split at h
  · cases rds with
    | cons h1 h2 =>
      cases h2
      split at h
      · rename_i n ns e
        rw [Option.bind_eq_some_iff] at e
        obtain ⟨ds, e1, e2⟩ := e
        obtain ⟨a, vs, rfl, q, z⟩ := iSeq_ok e1 r h1
        rw [intsOf_ok e2] at z
        rw [z.ints] at q
        obtain ⟨f1, f2⟩ := foldl_max ns n
        refine ⟨_, _, rfl, q, by simp, fun m hm hy => ?_⟩
        have : m = ns.foldl max n := Int.le_antisymm (f2 m hm) (hy _ f1)
        rw [this]
        exact h.now r _ (.int _)
      · exact h.elim
  · exact h.elim
end DL
namespace DL
open PySem L2 PyProof.Rows
theorem kit_bt {K : PySem.W.Frag} {A : Addr} {T : String} {b : Bool} (hm : PySem.W.kitMeta T = true) (e : PySem.W.subIn K (.ref A) (.type T) = some b) : PySem.W.kitOne K (.ref A) (.type T) = some b := by
  unfold PySem.W.kitOne
  rw [if_neg (by intro h; exact absurd (beq_iff_eq.mp h) (fun z => nomatch z))]
  show (if PySem.W.kitMeta T = true then PySem.W.subIn K (.ref A) (.type T) else none) = some b
  rw [if_pos hm]; exact e
theorem ref_eq {mg : Str → Option Value} {x : Str} {A B : Addr} (h : mg x = some (.ref A)) (g : mg x = some (.ref B)) : A = B := by
  have := h.symm.trans g
  simpa using this
/-- a suite that asks for the class, class by class -/
def SuiteTbl (X : Cx) (suite : List Stmt) (i : Nat) (G : List Bool → EvS) : List (Str × List Bool) → Prop
  | [] => True
  | p :: r => (∀ (a A : Addr) (oe : Obj) (pn : List (Addr × Obj)), X.mg p.1 = some (.ref A) → Zc (.ref A) none oe → (∃ vs, oe.data = .fields vs) → PSs (X.suite a ((a, oe) :: pn)) suite (tSx X.K X.mg i a (G p.2))) ∧ SuiteTbl X suite i G r
def suiteOf (G : List Bool → EvS) (t : List (Str × List Bool)) (e : Exc) : EvS := match tblSub t e.cls with
  | some bs => G bs
  | none => sBad
theorem suite_tbl {X : Cx} {suite : List Stmt} {i : Nat} {G : List Bool → EvS} : ∀ {t : List (Str × List Bool)}, SuiteTbl X suite i G t → ∀ (a A : Addr) (oe : Obj) (e : Exc) (pn : List (Addr × Obj)), X.mg e.cls = some (.ref A) → Zc (.ref A) none oe → (∃ vs, oe.data = .fields vs) →
    PSs (X.suite a ((a, oe) :: pn)) suite (tSx X.K X.mg i a (suiteOf G t e))
  | [], _, a, A, oe, e, pn, g, hz, hv => ⟨fun pins s σ H E I ⟨_, ρ, S, μ, _, _, h⟩ => h.elim⟩
  | (x, bs) :: r, h, a, A, oe, e, pn, g, hz, hv => by
    obtain ⟨c, fs⟩ := e
    by_cases hx : x = c
    · subst hx
      unfold suiteOf
      simp only [tbl_hit]
      exact h.1 a A oe pn g hz hv
    · have e1 : suiteOf G ((x, bs) :: r) ⟨c, fs⟩ = suiteOf G r ⟨c, fs⟩ := by
        unfold suiteOf
        simp only [tbl_miss hx]
      rw [e1]
      exact suite_tbl h.2 a A oe ⟨c, fs⟩ pn g hz hv
end DL

/-! DLQ: sorted(set(texts)) -/
namespace DL
open PySem PySem.Spec PyProof.Rows L2
def keyS (e : Int × Value) : Str := match e.2 with
  | .str z _ => z
  | _ => Str.empty
def GoodS (w : World) (e : Int × Value) : Prop := ∃ z tk, e.2 = Value.str z tk ∧ e.1 = hashStr w z
def ddS (L : List Str) (z : Str) : List Str := if z ∈ L then L else L ++ [z]
def dedup (zs : List Str) : List Str := zs.foldl ddS []
structure SetS (w : World) (h : Heap) (a : Addr) (L : List Str) : Prop where
  ex : ∃ o es ep t, h.get? a = some o ∧ o.ExactSet ∧ o.data = .set es ep t ∧ (∀ e ∈ es.toList, GoodS w e) ∧ (es.toList.map keyS).Perm L ∧ L.Nodup ∧
    es.size < scanBound ∧ t.fits es.size = true ∧ Ris t.place.toList ∧ (w.params.followText "set-order" = true ∨ t.led = true)
section
variable {P : Program} {w : World} {h h' : Heap} {a : Addr} {L : List Str}
abbrev sk (P : Program) (w : World) := PySem.strKind P w
theorem SetS.at (R : SetS w h a L) (k : ∀ o, h.get? a = some o → h'.get? a = some o) : SetS w h' a L := by
  obtain ⟨o, es, ep, t, ho, r⟩ := R.ex
  exact ⟨o, es, ep, t, k o ho, r⟩
theorem goodS_elems {l : List (Int × Value)} (g : ∀ e ∈ l, GoodS w e) : ElemsOf (sk P w) l := fun e he => by
  obtain ⟨k, tk, h1, h2⟩ := g e he
  refine ⟨⟨k, ?_, h2⟩, by rw [h1] <;> rfl⟩
  rw [h1]; exact strKind_is P w k tk
theorem goodS_is {e : Int × Value} (g : GoodS w e) (k : Str) : (sk P w).is k e.2 = true ↔ keyS e = k := by
  obtain ⟨z, tk, h1, _⟩ := g
  unfold keyS
  rw [h1]
  constructor
  · intro q
    obtain ⟨u, hu⟩ := Value.isStrOf_shape (show Value.isStrOf k (.str z tk) = true from q)
    injection hu with hu _
  · intro q
    subst q
    exact strKind_is P w _ tk
theorem goodS_mem {l : List (Int × Value)} (g : ∀ e ∈ l, GoodS w e) (k : Str) : k ∈ l.map keyS ↔ ∃ e ∈ l, (sk P w).is k e.2 = true := by
  rw [List.mem_map]
  exact ⟨fun ⟨e, he, q⟩ => ⟨e, he, (goodS_is (g e he) k).2 q⟩, fun ⟨e, he, q⟩ => ⟨e, he, (goodS_is (g e he) k).1 q⟩⟩
end
section
variable {P : Program} {w : World} {A : Around} {E : Value → Shared → Prop} {s : Shared} {a : Addr} {L : List Str}
theorem setS_tail {g : Bool → Sem Unit} (hg : ∀ (b : Bool) (s₁ : Shared) (Q' : Unit → Shared → Prop), Q' () s₁ → wpAny (model P w) A (g b) Q' E s₁) {o : Obj} {es es1 : Array (Int × Value)} {ep : Nat} {t t2 : SetTable} {L1 : List Str} {wd : Bool} {R : Option Bool → Shared → Prop}
    (ho : s.heap.get? a = some o) (hex : o.ExactSet) (hd : o.data = .set es ep t) (g1 : ∀ e ∈ es1.toList, GoodS w e) (p1 : (es1.toList.map keyS).Perm L1) (nd1 : L1.Nodup) (hb1 : es1.size < scanBound) (hf2 : t2.fits es1.size = true) (hr : Ris t2.place.toList)
    (hl : w.params.followText "set-order" = true ∨ t2.led = true) (hR : ∀ h', Heap.SameBut a s.heap h' → SetS w h' a L1 → R (some true) { s with heap := h' }) :
    wpAny (model P w) A (do storeSet a es1 t2; if (!wd && t2.tooFull) = true then do { g (relayAll t2 es1 (SetTable.grown es1.size)).2.2; storeSet a (relayAll t2 es1 (SetTable.grown es1.size)).1 (relayAll t2 es1 (SetTable.grown es1.size)).2.1; pure (some true) } else pure (some true)) R E s := by
  refine wpAny_bind (wpAny_storeSet_of ho hd ?_ (fits_of_scanBound hb1))
  have o1 := store_at (es' := es1) (t' := t2) ho hd
  have b1 := Heap.SameBut.update s.heap a (Obj.putSet es1 t2)
  split
  · have q1 := relayAll_perm t2 es1 (SetTable.grown es1.size)
    have q2 := relayAll_fits t2 es1 (SetTable.grown es1.size)
    have q3 := relayAll_ris t2 es1 (SetTable.grown es1.size)
    have q4 := relayAll_led t2 es1 (SetTable.grown es1.size)
    generalize relayAll t2 es1 (SetTable.grown es1.size) = Y at q1 q2 q3 q4 ⊢
    obtain ⟨es2, t3, gv⟩ := Y
    dsimp only at q1 q2 q3 q4 ⊢
    have hb2 : es2.size < scanBound := by
      have := q1.length_eq
      rw [Array.length_toList, Array.length_toList] at this
      omega
    refine wpAny_bind (hg _ _ _ (wpAny_bind (wpAny_storeSet_of o1 rfl ?_ (fits_of_scanBound hb2))))
    have o2 := store_at (es' := es2) (t' := t3) o1 rfl
    exact wpAny_pure (hR _ (b1.trans (Heap.SameBut.update _ a _)) ⟨_, es2, _, t3, o2, hex, rfl, fun e he => g1 e (q1.mem_iff.mp he), (q1.map keyS).trans p1, nd1, hb2, q2, q3, hl.imp id fun z => by rw [q4]; exact z⟩)
  · exact wpAny_pure (hR _ b1 ⟨_, es1, _, t2, o1, hex, rfl, g1, p1, nd1, hb1, hf2, hr, hl⟩)
theorem setS_hashed {z : Str} {tk : Tok} {Q : Bool → Shared → Prop} (R : SetS w s.heap a L) (room : (ddS L z).length < scanBound) (hQ : ∀ h' b, Heap.SameBut a s.heap h' → SetS w h' a (ddS L z) → Q b { s with heap := h' }) :
    wpAny (model P w) A (setAddHashed a (.str z tk) ((sk P w).hash z)) Q E s := by
  obtain ⟨o, es, ep, t, ho, hex, hd, g, pm0, nd, hb, hf, hr, hl⟩ := R.ex
  have kz : (sk P w).is z (.str z tk) = true := strKind_is P w z tk
  have sz : (Value.str z tk).scannable = true := rfl
  have el : ElemsOf (sk P w) es.toList := goodS_elems g
  unfold setAddHashed setAddHashedIn
  refine wpAny_holding (wpAny_bind (wpAny_setState_of ho hd hf ?_))
  dsimp only
  rw [byScan_of sz hb el]
  simp only [↓reduceIte]
  unfold setAddByScan
  refine wpAny_bind (wpAny_bind (wpAny_rule (wpAny_bind (wpAny_setScan_of kz ho hd hf el ?_))))
  cases fi : List.findIdx? (fun e => (sk P w).is z e.2) es.toList with
  | some j =>
    dsimp only
    obtain ⟨hj, pj, _⟩ := List.findIdx?_eq_some_iff_getElem.mp fi
    have hz : z ∈ L := pm0.mem_iff.mp ((goodS_mem (P := P) (w := w) g z).2 ⟨es.toList[j], List.getElem_mem hj, pj⟩)
    have e : ddS L z = L := if_pos hz
    rw [e] at hQ
    exact wpAny_pure (wpAny_pure (hQ s.heap _ (Heap.SameBut.refl a s.heap) R))
  | none =>
    dsimp only
    have nz : z ∉ L := fun q => by
      obtain ⟨e, he, q⟩ := (goodS_mem (P := P) (w := w) g z).1 (pm0.mem_iff.mpr q)
      have c := List.findIdx?_eq_none_iff.mp fi e he
      rw [q] at c; cases c
    have e : ddS L z = L ++ [z] := if_neg nz
    rw [e] at hQ room
    have gw : ∀ (b : Bool) {s₁ : Shared} {Q' : Unit → Shared → Prop}, Q' () s₁ → wpAny (model P w) A (match b with | true => rule "set.scan.the-table-gave-way" | false => pure ()) Q' E s₁ := fun b s₁ Q' q => by
      cases b
      · exact wpAny_pure q
      · exact wpAny_rule q
    have q1 := layNew_perm t es ((sk P w).hash z) (.str z tk)
    have q2 := layNew_fits t es ((sk P w).hash z) (.str z tk)
    have q3 := layNew_ris t es ((sk P w).hash z) (.str z tk) hr
    have q4 := layNew_led t es ((sk P w).hash z) (.str z tk)
    generalize layNew t es ((sk P w).hash z) (.str z tk) = Y at q1 q2 q3 q4 ⊢
    obtain ⟨es1, t1, wd, gv⟩ := Y
    dsimp only at q1 q2 q3 q4 ⊢
    rw [Array.toList_push] at q1
    have g1 : ∀ e ∈ es1.toList, GoodS w e := fun e he => by
      rcases List.mem_append.mp (q1.mem_iff.mp he) with y | y
      · exact g e y
      · rw [List.mem_singleton.mp y]; exact ⟨z, tk, rfl, rfl⟩
    have p1 : (es1.toList.map keyS).Perm (L ++ [z]) := by
      have := q1.map keyS
      rw [List.map_append] at this
      exact this.trans (pm0.append (List.Perm.refl _))
    have nd1 : (L ++ [z]).Nodup := by
      rw [List.nodup_append]
      exact ⟨nd, by simp, fun x hx y hy e => nz (by rw [List.mem_singleton.mp hy] at e; rw [← e]; exact hx)⟩
    have hb1 : es1.size < scanBound := by
      have := p1.length_eq
      rw [List.length_map, Array.length_toList] at this
      omega
    have ld : w.params.followText "set-order" = true ∨ t1.led = true := hl.imp id fun y => by rw [q4]; exact y
    refine wpAny_bind (gw _ ?_)
    split
    · refine wpAny_bind ?_
      rw [hashByValue_scannable 8 sz]
      refine wpAny_pure (setS_tail (fun b s₁ Q' q => gw b q) ho hex hd g1 p1 nd1 hb1 ?_ ?_ ?_ fun h' sb r => wpAny_pure (hQ h' _ sb r))
      · first | (split <;> first | exact q2 | exact SetTable.fits_plain_off q2) | exact q2
      · first | (split <;> exact q3) | exact q3
      · first | (split <;> exact ld) | exact ld
    · refine wpAny_bind (wpAny_pure ?_)
      simp only [↓reduceIte]
      exact setS_tail (fun b s₁ Q' q => gw b q) ho hex hd g1 p1 nd1 hb1 q2 q3 ld fun h' sb r => wpAny_pure (hQ h' _ sb r)
end
theorem dd_take (zs : List Str) {i : Nat} {z : Str} (h : zs[i]? = some z) : dedup (zs.take (i + 1)) = ddS (dedup (zs.take i)) z := by
  unfold dedup
  rw [List.take_succ, h]
  simp
theorem ddS_len (L : List Str) (z : Str) : L.length ≤ (ddS L z).length := by unfold ddS; split <;> simp
theorem dd_mono (zs : List Str) (i : Nat) : (dedup (zs.take i)).length ≤ (dedup zs).length := by
  have key : ∀ (b L : List Str), L.length ≤ (b.foldl ddS L).length := by
    intro b
    induction b with
    | nil => intro L; exact Nat.le_refl _
    | cons x b ih => intro L; exact Nat.le_trans (ddS_len L x) (ih _)
  conv => rhs; rw [← List.take_append_drop i zs]
  unfold dedup
  rw [List.foldl_append]
  exact key _ _
section
variable {P : Program} {w : World} {A : Around} {R : Result → Shared → Prop} {I : Addr} {fp wr : List Addr} {G : Array GenState → Array GenState → Prop} {n : Nat} {Pv : Nat → Value → Prop} {St : Nat → Shared → Prop}
theorem setS_loop (Y : WalksS P w A.in1 I fp wr G n Pv St) (C : Addr) (hC : C ∉ fp) (zs : List Str) (hn : zs.length = n) (hv : ∀ i v, Pv i v → ∃ z t, zs[i]? = some z ∧ v = .str z t) (room : (dedup zs).length < scanBound) :
    ∀ (k i : Nat) (s : Shared), n - i = k → i ≤ n → St i s → SetS w s.heap C (dedup (zs.take i)) → (∀ s', Moved (C :: wr) G s s' → SetS w s'.heap C (dedup zs) → R (.ok (.ret .none)) s') →
      codeAny (model P w) A (.builtin "set.update.loop" ⟨[.ref C, .ref I], []⟩) R s := by
  have hw : C ∉ wr := fun h => hC (Y.sub _ h)
  have sub : ∀ b ∈ wr, b ∈ C :: wr := fun b hb => List.mem_cons_of_mem _ hb
  intro k
  induction k with
  | zero =>
    intro i s hk hi hst hS hR
    obtain rfl : i = n := by omega
    refine codeAny_builtin F.entry_set_update_loop ?_
    rw [Around.under_plainId F.plain_set_update_loop _]
    refine wpAny_bind (m := pyNext (.ref I)) (Y.done s _ _ hst fun s' hm => wpAny_pure (hR s' (hm.mono sub) ?_))
    rw [List.take_of_length_le (by omega)] at hS
    exact hS.at fun o ho => hm.heap C _ hw ho
  | succ k ih =>
    intro i s hk hi hst hS hR
    have lt : i < n := by omega
    refine codeAny_builtin F.entry_set_update_loop ?_
    rw [Around.under_plainId F.plain_set_update_loop _]
    refine wpAny_bind (m := pyNext (.ref I)) (Y.item i s _ _ lt hst fun v s' hP hst' hm => ?_)
    obtain ⟨z, t, hz, rfl⟩ := hv i v hP
    have hS' : SetS w s'.heap C (dedup (zs.take i)) := hS.at fun o ho => hm.heap C _ hw ho
    show wpAny _ A.in1 (holding [Value.str z t] (setAdd C (.str z t)) >>= _) _ _ s'
    refine wpAny_bind (wpAny_holding ?_)
    unfold setAdd
    refine wpAny_holding (wpAny_bind ((sk P w).pyHash (k := z) (strKind_is _ _ _ _) ?_))
    have rm : (ddS (dedup (zs.take i)) z).length < scanBound := by
      rw [← dd_take zs hz]
      have := dd_mono zs (i + 1)
      omega
    refine setS_hashed (s := { s' with toks := s'.toks + 1 }) hS' rm fun h' b sb S2 => ?_
    rw [← dd_take zs hz] at S2
    refine wpAny_pure ⟨plainId_quiet F.plain_set_update_loop _, ih (i + 1) _ (by omega) lt (Y.frame _ s' _ _ hst' (Nat.le_succ _) fun b hb o e => ?_) S2 fun s'' hm'' S3 => ?_⟩
    · rw [sb.2 b (fun q : b = C => hC (by rw [← q]; exact hb))]; exact e
    · refine hR s'' (Moved.trans Y.gtrans ((hm.mono sub).then_heap (Nat.le_succ _) fun b o hb e => ?_) hm'') S3
      rw [sb.2 b (fun q : b = C => hb (by rw [q]; exact List.mem_cons_self))]; exact e
end
section
variable {P : Program} {w : World} {A : Around} {E : Value → Shared → Prop} {s : Shared}
/-- the empty set that list items are put into -/
abbrev set0 (w : World) : Obj := { cls := .type "set", dict := none, data := .set #[] 0 (.fresh 0 0 (!w.params.followText "set-order")) }
theorem set0_ok (h : Heap) : SetS w (h.push (set0 w)) h.objs.size [] :=
  ⟨_, #[], 0, _, Heap.get?_push_size _ rfl, ⟨rfl, rfl, rfl⟩, rfl, (fun e he => by simp at he), (by simp), List.Pairwise.nil, (by decide), (by rfl), List.Pairwise.nil, by
    show _ ∨ (!w.params.followText "set-order") = true
    cases w.params.followText "set-order"
    · exact .inr rfl
    · exact .inl rfl⟩
theorem new_set1 (x : Value) {Q : Value → Shared → Prop} (h : Q (.ref s.heap.objs.size) { s with heap := s.heap.push (set0 w) }) : codeAny (model P w) A (.call (.builtin "set.__new__") ⟨[.type "set", x], []⟩) (wants Q E) s := by
  refine codeAny_of_tree ?_
  show wpAny _ A.in1 (checkBuiltinCall "set.__new__" ⟨[.type "set", x], []⟩ >>= fun _ => again (.builtin "set.__new__" ⟨[.type "set", x], []⟩)) _ _ s
  refine wpAny_bind (wpAny_of_eq (PySem.F.newCall_set_1 x) (wpAny_pure ⟨plainId_quiet PySem.F.plain_set_new _, codeAny_builtin PySem.F.entry_set_new ?_⟩))
  rw [Around.under_plainId PySem.F.plain_set_new _]
  unfold Builtin.«set.__new__» Builtin.Frozenset.newClass
  have hsub := sub_set_self
  obtain ⟨hp, g, d, tk, os⟩ := s
  dsimp only
  wp_walk
  refine wpAny_askSetting (wpAny_pure ?_)
  dsimp only
  simp only [newObj]
  exact wpAny_bind (wpAny_alloc (wpAny_pure (wpAny_pure h)))
set_option maxHeartbeats 3200000 in
/-- set(a list of texts) -/
theorem call_setS {l : Addr} {items : Array Value} {zs : List Str} {Q : Value → Shared → Prop} (hh : A.handled = none) (hl : s.heap.IsList l items) (hi : StrsAre items.toList zs) (room : (dedup zs).length < scanBound)
    (hQ : ∀ (h' : Heap) (tk : Nat), SetS w h' s.heap.objs.size (dedup zs) → (∀ b o, b < s.heap.objs.size → s.heap.get? b = some o → h'.get? b = some o) → Q (.ref s.heap.objs.size) { s with heap := h', toks := tk }) :
    wpAny (model P w) A (call (.type "set") [.ref l]) Q E s := by
  obtain ⟨c, tl, hmro⟩ := PySem.F.called_set.mro
  have hmade := PySem.F.called_set.made
  have hsub := PySem.F.called_set.sub
  refine wpAny_call (codeAny_of_tree (show wpAny _ _ (callAny (.type "set") _) _ _ _ from ?_))
  refine wpAny_pure ⟨Code.quiet_builtin _ (by decide +kernel), codeAny_builtin PySem.F.entry_type_call ?_⟩
  rw [Around.under_plain (weight_type_call_type "set" [.ref l] []) rfl]
  have h1 := PySem.F.called_set.notType
  have h2 := PySem.F.called_set.canCreate
  have hct := PySem.F.typeCall_set_1 (.ref l)
  repeat (any_goals (first | assumption | wp_step))
  refine codeAny_mono (new_set1 (.ref l) (E := E) (Q := fun obj s₁ => obj = .ref s.heap.objs.size ∧ s₁ = { s with heap := s.heap.push (set0 w) }) ⟨rfl, rfl⟩) fun r s₁ hr => ?_
  cases r with
  | error e => exact hr
  | ok fl =>
    cases fl with
    | ret obj =>
      obtain ⟨rfl, rfl⟩ := hr
      have hS : (s.heap.push (set0 w)).get? s.heap.objs.size = some (set0 w) := Heap.get?_push_size _ rfl
      have hT : Shared.TypeIs { s with heap := s.heap.push (set0 w) } (.ref s.heap.objs.size) "set" := ⟨_, hS, rfl⟩
      have hli := PySem.F.called_set.init.lookup
      have hbi := PySem.F.called_set.init.bind (.ref s.heap.objs.size)
      repeat (any_goals (first | assumption | wp_step))
      refine codeAny_mono (codeAny_call_builtin (R := wants (fun r s₂ => r = .none ∧ ∃ h' tk, s₂ = { s with heap := h', toks := tk } ∧ SetS w h' s.heap.objs.size (dedup zs) ∧ (∀ b o, b < s.heap.objs.size → s.heap.get? b = some o → h'.get? b = some o)) E)
        PySem.F.called_set.init.plain PySem.F.entry_set_init (check_set_init_1 hT ?_)) fun r₂ s₂ hr₂ => ?_
      · obtain ⟨ol, hol, hcl, nl, hdl⟩ := hl
        obtain ⟨oc, od, odt, osl⟩ := ol
        simp only at hcl hdl
        subst hcl hdl
        have hol' : (s.heap.push (set0 w)).get? l = some { cls := .type "list", dict := od, data := .seq items nl, slots := osl } := Heap.get?_push_of_some _ hol
        have hsls := PySem.F.sub_list_set
        have hslf := PySem.F.sub_list_frozenset
        have hne : (Value.type "list" == Value.type "dict") = false := by decide
        have l1 : (s.heap.push (set0 w)).IsList l items := ⟨_, hol', rfl, nl, rfl⟩
        unfold Builtin.«set.__init__» noKeywords Builtin.Frozenset.updateFrom
        generalize hPI : pyIter = PI
        wp_walk
        subst hPI
        refine wpAny_pyIter_list l1 (wpAny_bind (wpAny_runValue ?_))
        have hlS : l < s.heap.objs.size := Heap.lt_size hol
        have hh3 : A.in1.in1.in1.handled = none := by simp [hh]
        have sz1 : (s.heap.push (set0 w)).objs.size = s.heap.objs.size + 1 := Heap.size_push ..
        have hneI : l ≠ (s.heap.push (set0 w)).objs.size := by rw [sz1]; exact Nat.ne_of_lt (Nat.lt_succ_of_lt hlS)
        have hSf : s.heap.objs.size ∉ [(s.heap.push (set0 w)).objs.size, l] := by
          rw [sz1]; simp only [List.mem_cons, List.not_mem_nil, or_false, not_or]; exact ⟨Nat.ne_of_lt (Nat.lt_succ_self _), Nat.ne_of_gt hlS⟩
        have hsz : zs.length = items.size := by rw [← StrsAre.len_eq hi, Array.length_toList]
        have hval : ∀ (i : Nat) (v : Value), items[i]? = some v → ∃ z t, zs[i]? = some z ∧ v = .str z t := fun i v hv => by
          obtain ⟨t, e⟩ := SS.strs_at hi i v (by rw [Array.getElem?_toList]; exact hv)
          have hlt : i < zs.length := by rw [hsz]; exact (Array.getElem?_eq_some_iff.mp hv).1
          refine ⟨zs[i], t, List.getElem?_eq_getElem hlt, ?_⟩
          rw [e]; simp [hlt]
        refine setS_loop ((Walks.list hh3 _ l hneI items).toS) s.heap.objs.size hSf zs hsz hval room (items.size - 0) 0 _ (by omega) (Nat.zero_le _) ⟨⟨_, Heap.get?_push_size _ rfl, rfl, rfl⟩, (l1.push _)⟩ ?hS0 ?hR
        case hS0 => exact (set0_ok s.heap).at fun o e => Heap.get?_push_of_some _ e
        case hR =>
          intro s' hm hS'
          obtain ⟨h', g', d', tk', os'⟩ := s'
          obtain rfl : g' = s.gens := hm.gens
          obtain rfl : d' = s.drawn := hm.drawn
          obtain rfl : os' = s.os := hm.os
          show wpAny _ _ _ _ _ _
          refine wpAny_pure (show wpAny _ _ (PySem.ret Value.none) _ _ _ from wpAny_pure ⟨rfl, h', tk', rfl, hS', fun b o hb e => ?_⟩)
          refine hm.heap b o ?_ (Heap.get?_push_of_some _ (Heap.get?_push_of_some _ e))
          simp only [List.mem_cons, List.not_mem_nil, or_false, not_or]
          refine ⟨Nat.ne_of_lt hb, ?_⟩
          show b ≠ (s.heap.push (set0 w)).objs.size
          rw [sz1]; exact Nat.ne_of_lt (Nat.lt_succ_of_lt hb)
      · cases r₂ with
        | error e => exact hr₂
        | ok fl₂ =>
          cases fl₂ with
          | ret r =>
            obtain ⟨rfl, h', tk, rfl, hS', hk'⟩ := hr₂
            repeat (any_goals (first | assumption | wp_step))
            exact hQ _ _ hS' hk'
          | _ => exact hr₂.elim
    | _ => exact hr.elim
end
/-! the order of texts -/
def leS (a b : Str) : Bool := decide (a.cps.toList ≤ b.cps.toList)
def sortT (L : List Str) : List Str := L.mergeSort leS
theorem leS_trans (a b c : Str) (h : leS a b = true) (g : leS b c = true) : leS a c = true := by
  unfold leS at *
  rw [decide_eq_true_eq] at *
  exact List.le_trans h g
theorem leS_total (a b : Str) : (leS a b || leS b a) = true := by
  unfold leS
  rw [Bool.or_eq_true, decide_eq_true_eq, decide_eq_true_eq]
  exact List.le_total _ _
theorem leS_anti (a b : Str) (h : leS a b = true) (g : leS b a = true) : a = b := by
  unfold leS at *
  rw [decide_eq_true_eq] at *
  have := List.le_antisymm h g
  cases a; cases b
  simp only at this
  rw [Array.toList_inj] at this
  rw [this]
theorem rising_leS : ∀ (x : Str) (l : List Str), risingS x l = true → (x :: l).Pairwise (fun a b => leS a b = true)
  | x, [], _ => List.pairwise_cons.mpr ⟨fun _ h => (List.not_mem_nil h).elim, List.Pairwise.nil⟩
  | x, y :: l, h => by
    have h : (!ltCps y.cps.toList x.cps.toList && risingS y l) = true := h
    rw [Bool.and_eq_true, Bool.not_eq_true', ltCps_eq, decide_eq_false_iff_not] at h
    have ih := rising_leS y l h.2
    have hxy : leS x y = true := by
      unfold leS
      rw [decide_eq_true_eq]
      exact List.not_lt.mp h.1
    refine List.pairwise_cons.mpr ⟨fun z hz => ?_, ih⟩
    rcases List.mem_cons.mp hz with rfl | hz
    · exact hxy
    · exact leS_trans _ _ _ hxy ((List.pairwise_cons.mp ih).1 z hz)
theorem sorted_leS : ∀ {l : List Str}, sortedS l = true → l.Pairwise (fun a b => leS a b = true)
  | [], _ => List.Pairwise.nil
  | x :: l, h => rising_leS x l h
theorem sorted_unique {l L : List Str} (h : sortedS l = true) (p : l.Perm L) : l = sortT L := by
  refine List.Perm.eq_of_pairwise (le := fun a b => leS a b = true) (fun a b _ _ h1 h2 => leS_anti a b h1 h2) (sorted_leS h) ?_ (p.trans (List.mergeSort_perm L leS).symm)
  exact List.pairwise_mergeSort leS_trans leS_total L
section
variable {P : Program} {w : World} {A : Around} {E : Value → Shared → Prop} {s : Shared} {a : Addr} {L : List Str}
theorem strs_of : ∀ (l : List Value), (∀ v ∈ l, ∃ k tk, v = Value.str k tk) → StrsAre l (l.map strOf)
  | [], _ => .nil
  | v :: l, h => by
    obtain ⟨k, tk, rfl⟩ := h v List.mem_cons_self
    exact .cons k tk (strs_of l fun u hu => h u (List.mem_cons_of_mem _ hu))
theorem sorted_setS {Q : Value → Shared → Prop} (R : SetS w s.heap a L) (hh : A.handled = none)
    (hQ : ∀ s' p (out : Array Value) (c : Nat), (∀ b o, s.heap.get? b = some o → s'.heap.get? b = some o) → s'.gens = s.gens → s'.os = s.os → s.heap.objs.size ≤ p → s'.heap.get? p = some (seqObj "list" out c) → StrsAre out.toList (sortT L) → Q (.ref p) s') :
    wpAny (model P w) A (call (.builtin "sorted") [.ref a]) Q E s := by
  obtain ⟨o, es, ep, t, ho, hex, hd, g, pm0, nd, hb, hf, hr, hl⟩ := R.ex
  refine Calls.call_function_entry kind_sorted plain_sorted entry_sorted (args_sorted1 _) ?_
  unfold Builtin.«sorted»
  refine wpAny_bind (m := checkCount "sorted" 1 1 _) (wpAny_pure (wpAny_bind (collect_set (A := A.in1) hh ⟨o, ho, hex.1, hd⟩ hf hb hr hl fun s1 vs k1 hz g1 o1 pm => ?_)))
  have hvl : vs.length < scanBound := by
    rw [pm.length_eq, List.length_map, Array.length_toList]; exact hb
  have hI : StrsAre vs (vs.map strOf) := strs_of vs fun v hv => by
    obtain ⟨e, he, q⟩ := List.mem_map.mp (pm.mem_iff.mp hv)
    obtain ⟨k, tk, h1, _⟩ := g e he
    exact ⟨k, tk, by rw [← q]; exact h1⟩
  have pk : (vs.map strOf).Perm L := by
    have q := pm.map strOf
    rw [List.map_map] at q
    refine (q.trans (List.Perm.of_eq (List.map_congr_left fun e he => ?_))).trans pm0
    obtain ⟨k, tk, h1, _⟩ := g e he
    simp only [Function.comp, keyS, h1]
    rfl
  have hvs : vs.length ≤ sizeLine := by unfold scanBound at hvl; rw [sizeLine_eq]; omega
  refine wpAny_bind (wpAny_newList ?_ hvs)
  have hoL : (s1.heap.push (seqObj "list" vs.toArray 0)).get? s1.heap.objs.size = some (seqObj "list" vs.toArray 0) := Heap.get?_push_size _ rfl
  refine wpAny_bind (wpAny_holding (wpAny_call_entry slot_list_sort ⟨_, hoL, rfl⟩ entry_list_sort (list_sort_treeKAny strKind_oneLt hoL hI.keysOf (fun v₁ v₂ rest e => keyKind_strs (by rw [← e]; exact hI)) hvs fun st' a1 a2 => ⟨_, rfl, ?_⟩) (args_list_sort _)))
  obtain ⟨zs, b1, b2, b3⟩ := sorted_out_str hI a1 a2
  rw [sorted_unique b3 (b2.trans pk)] at b1
  obtain ⟨c, hc⟩ := sortedHeap_at (vs := vs) (out := (arrOf st').map (·.2)) hoL
  refine wpAny_pure ⟨_, rfl, hQ _ s1.heap.objs.size _ c (fun b u e => ?_) g1 o1 hz hc b1⟩
  have q := k1 b u e
  have hlt := Heap.lt_size q
  show (sortedHeap (s1.heap.push (seqObj "list" vs.toArray 0)) s1.heap.objs.size vs _).get? b = some u
  rw [sortedHeap_old (Nat.ne_of_lt hlt) (by rw [size_push']; exact Nat.lt_succ_of_lt hlt)]
  exact Heap.get?_push_of_some _ q
end
theorem dedup_len (zs : List Str) : (dedup zs).length ≤ zs.length := by
  have key : ∀ (b L : List Str), (b.foldl ddS L).length ≤ L.length + b.length := by
    intro b
    induction b with
    | nil => intro L; exact Nat.le_refl _
    | cons x b ih =>
      intro L
      refine Nat.le_trans (ih _) ?_
      have : (ddS L x).length ≤ L.length + 1 := by unfold ddS; split <;> simp
      simp only [List.length_cons]
      omega
  have := key zs []
  unfold dedup
  simpa using this
section
variable {X : Cx} {W : WX} {pos : Pos}
def tSortSet (K : PySem.W.Frag) (te : TE) : TE := fun σ H Q => te σ H fun v H1 => ∃ (a : Addr) (zs : List Str), v = .ref a ∧ SqL K H1 a (zs.map V.str) ∧ (dedup zs).length < scanBound ∧ ∀ q, H1 q = none → Q (.ref q) (upd H1 q (.lst ((sortT (dedup zs)).map V.str)))
theorem pe_sortSet {e : Expr} {te : TE} {p p2 pos2 : Pos} (hc : X.calm = true) (hg : Gl X "sorted") (hm : X.mg "sorted" = none) (hg2 : Gl X "set") (hm2 : X.mg "set" = none) (he : PE X e te)
    (hs : starEach [e] X.env = (false, eval e X.env) :: starEach [] X.env := by rfl) (hs2 : starEach [.Call (.Name "set" p2) [e] [] pos2] X.env = (false, eval (.Call (.Name "set" p2) [e] [] pos2) X.env) :: starEach [] X.env := by rfl) :
    PE X (.Call (.Name "sorted" p) [.Call (.Name "set" p2) [e] [] pos2] [] pos) (tSortSet X.K te) := by
  refine ⟨fun pins s σ H Q I h => ?_⟩
  refine Call_ (ld_blt I hg hm PyProof.Rows.boot_sorted (PyProof.Rows.callWith_builtin1 (PyProof.Rows.args_cons (Call_ (ld_blt I hg2 hm2 PyProof.Rows.boot_set (PyProof.Rows.callWith_type1 (PyProof.Rows.args_cons (thn (he.run pins s σ H _ I h) fun u s1 ⟨v, H1, I1, r1, q1⟩ => PyProof.Rows.args_nil ?_) hs) hs rfl))) hs2) hs2 rfl))
  obtain ⟨a, zs, rfl, hq, hrm, q⟩ := q1
  obtain rfl : u = Value.ref a := r1
  obtain ⟨its, rv, pl, hz⟩ := I1.list hq
  refine call_setS (I1.ok.hd hc) pl.isList (by simpa using rv.strs) hrm fun h' tk hS hk => ?_
  have I2 : Inv X pins σ H1 { s1 with heap := h', toks := tk } := I1.kept fun b o e => hk b o (Heap.lt_size e) e
  refine PyProof.Rows.args_nil (sorted_setS (s := { s1 with heap := h', toks := tk }) hS (I2.ok.hd hc) fun s' p out c k g o hp hgt hi => ?_)
  have hlen : ((sortT (dedup zs)).map V.str).length ≤ sizeLine := by
    rw [List.length_map]
    unfold sortT
    rw [List.length_mergeSort]
    unfold scanBound at hrm
    rw [sizeLine_eq]; omega
  have hn : H1 p = none := I2.hok.fresh hp
  have J : Inv X pins σ (upd H1 p (.lst ((sortT (dedup zs)).map V.str))) { ({ s1 with heap := h', toks := tk } : Shared) with heap := s'.heap, gens := s'.gens, drawn := s'.drawn, toks := s'.toks } :=
    I2.call (ch := []) (Un.laid k hp hn) (I2.hok.laid k hp ⟨hlen, out.toList, c, vals_of_strs hi, hgt⟩) (by rw [g]; exact I2.bare) (fun _ z => nomatch z)
  have e : s' = { ({ s1 with heap := h', toks := tk } : Shared) with heap := s'.heap, gens := s'.gens, drawn := s'.drawn, toks := s'.toks } := by
    cases s'
    cases s1
    cases o
    rfl
  rw [e]
  exact ⟨.ref p, _, J, rfl, q p hn⟩
/-- sorted(set(texts)) -/
def gSortSet (d : D) : M D := fun S => match (iSeq S d).bind strsOf with
  | some zs => if (dedup zs).length < scanBound then .ok (.lst ((sortT (dedup zs)).map .str)) S else .bad
  | none => .bad
theorem rds_strs {K : PySem.W.Frag} {μ : Mu} {H : Hp} : ∀ zs : List Str, RDs K μ H (zs.map .str) (zs.map .str)
  | [] => .nil
  | z :: zs => .cons (.str z) (rds_strs zs)
theorem d_sortSet {e : Expr} {te : EvD} {p p2 pos2 : Pos} (hc : X.calm = true) (hg : Gl X "sorted") (hm : X.mg "sorted" = none) (hg2 : Gl X "set") (hm2 : X.mg "set" = none) (he : PE X e (tD X.K X.mg W te))
    (hs : starEach [e] X.env = (false, eval e X.env) :: starEach [] X.env := by rfl) (hs2 : starEach [.Call (.Name "set" p2) [e] [] pos2] X.env = (false, eval (.Call (.Name "set" p2) [e] [] pos2) X.env) :: starEach [] X.env := by rfl) :
    PE X (.Call (.Name "sorted" p) [.Call (.Name "set" p2) [e] [] pos2] [] pos) (tD X.K X.mg W (eUn gSortSet te)) := by
  refine PE.imp (pe_sortSet hc hg hm hg2 hm2 he hs hs2) fun σ H Q ⟨ρ, S, μ, e, s, h⟩ => ?_
  refine ⟨ρ, S, μ, e, s, h.bnd fun x S1 μ1 H1 s1 r1 h1 v rv => ?_⟩
  unfold gSortSet at h1
  split at h1
  · rename_i zs ez
    rw [Option.bind_eq_some_iff] at ez
    obtain ⟨ds, e1, e2⟩ := ez
    obtain ⟨a, vs, rfl, q, z⟩ := iSeq_ok e1 r1 rv
    rw [strsOf_ok e2] at z
    rw [z.strs] at q
    split at h1
    · rename_i hrm
      exact ⟨a, zs, rfl, q, hrm, fun p hp => h1 μ1 _ (Stp.new hp) (r1.new hp) _ (.lst upd_same ⟨fun z => r1.there z hp, fun z => r1.hid _ z hp⟩ (rds_strs _))⟩
    · exact h1.elim
  · exact h1.elim
end
section
variable {X : Cx} {W : WX} {pos : Pos}
theorem t_din {o i : Expr} {to ti : EvD} (hu : X.A.units + 500 < cLine) (hi : PE X i (tD X.K X.mg W ti)) (ho : PE X o (tD X.K X.mg W to)) (hm : behindInMarks .In o = false) : PT X (.Compare i [.In] [o] pos) (tT X.K X.mg W (eTb (eBin (gDIn false) ti to))) := by
  refine PT.imp (pt_cmp (pc_din (by omega) hi ho) hm) fun σ H Q ⟨ρ, S, μ, e, s, h⟩ => ?_
  have h : Post X.K X.mg W μ σ H (eBin (gDIn false) ti to ρ S) (QD X.K fun v H' => ∃ k, v = .bl k ∧ Q k H') := h.bnd fun x S1 μ1 H1 s1 r1 h1 v rv => asBl_ok r1 rv h1
  refine ⟨ρ, S, μ, e, s, h.bnd fun y S1 μ1 H1 s1 r1 h1 w rw => ?_⟩
  refine ⟨ρ, S1, μ1, e.step s s1, r1, h1.bnd fun x S2 μ2 H2 s2 r2 h2 v rv => ?_⟩
  unfold gDIn at h2
  split at h2
  · rename_i kvs k ea ek
    obtain ⟨a, ws, rfl, g, z⟩ := DGet.of ea ek r2 rv (rw.step r1 s2)
    refine ⟨a, _, rfl, g, ?_⟩
    have : (getK kvs k).isSome = (valV ws k).isSome := by
      rcases z.get k with ⟨g1, g2⟩ | ⟨d, u, g1, g2, rd⟩ <;> rw [g1, g2] <;> rfl
    rw [if_neg Bool.false_ne_true, this] at h2
    exact h2.now r2 _ (.bl _)
  · exact h2.elim
end
section
variable {X : Cx} {W : WX} {pos : Pos}
theorem t_dnotin {o i : Expr} {to ti : EvD} (hu : X.A.units + 500 < cLine) (hi : PE X i (tD X.K X.mg W ti)) (ho : PE X o (tD X.K X.mg W to)) (hm : behindInMarks .NotIn o = false) : PT X (.Compare i [.NotIn] [o] pos) (tT X.K X.mg W (eTb (eBin (gDIn true) ti to))) := by
  refine PT.imp (pt_cmp (pc_dnotin (by omega) hi ho) hm) fun σ H Q ⟨ρ, S, μ, e, s, h⟩ => ?_
  have h : Post X.K X.mg W μ σ H (eBin (gDIn true) ti to ρ S) (QD X.K fun v H' => ∃ k, v = .bl k ∧ Q k H') := h.bnd fun x S1 μ1 H1 s1 r1 h1 v rv => asBl_ok r1 rv h1
  refine ⟨ρ, S, μ, e, s, h.bnd fun y S1 μ1 H1 s1 r1 h1 w rw => ?_⟩
  refine ⟨ρ, S1, μ1, e.step s s1, r1, h1.bnd fun x S2 μ2 H2 s2 r2 h2 v rv => ?_⟩
  unfold gDIn at h2
  split at h2
  · rename_i kvs k ea ek
    obtain ⟨a, ws, rfl, g, z⟩ := DGet.of ea ek r2 rv (rw.step r1 s2)
    refine ⟨a, _, rfl, g, ?_⟩
    have : (getK kvs k).isSome = (valV ws k).isSome := by
      rcases z.get k with ⟨g1, g2⟩ | ⟨d, u, g1, g2, rd⟩ <;> rw [g1, g2] <;> rfl
    rw [if_pos rfl, this] at h2
    exact h2.now r2 _ (.bl _)
  · exact h2.elim
end
end DL

/-! DLZ: words for exceptions and dicts. -/
namespace DL
open PySem L2
def tryCase (o : Option Bool) (p q : Prop) : Prop := match o with
  | some true => p
  | some false => q
  | none => False
theorem tryCase_t {p q : Prop} : tryCase (some true) p q ↔ p := Iff.rfl
theorem tryCase_f {p q : Prop} : tryCase (some false) p q ↔ q := Iff.rfl
section
variable {ρ : Rho} {S : Sto} {F : D → Sto → Prop} {E : Exc → Sto → Prop} {N : Rho → Sto → Prop} {T : D → Sto → Prop} {B C : Rho → Sto → Prop} {X : Exc → Rho → Sto → Prop}
theorem wps_raise {c : Str} {e : EvD} : wps (sRaise c e ρ S) N T B C X ↔ wp (e ρ S) (fun _ S' => X ⟨c, []⟩ ρ S') (fun e S' => X e ρ S') := by
  unfold sRaise; rw [wps_lft]; rfl
theorem wps_try {sub : Str → Option Bool} {body : EvS} {suite : Exc → EvS} : wps (sTry sub body suite ρ S) N T B C X ↔
    wps (body ρ S) N T B C (fun e ρ' S' => tryCase (sub e.cls) (wps (suite e ρ' S') N T B C (fun _ _ _ => False)) (X e ρ' S')) := by
  unfold sTry
  cases body ρ S with
  | ok o S' =>
    cases o with
    | xc e ρ' =>
      show wps (match sub e.cls with
        | some true => _
        | some false => _
        | none => _) N T B C X ↔ tryCase (sub e.cls) _ _
      cases sub e.cls with
      | none => exact Iff.rfl
      | some b =>
        cases b with
        | false => exact Iff.rfl
        | true =>
          show wps (match suite e ρ' S' with
            | .ok (.xc _ _) _ => .bad
            | r => r) N T B C X ↔ wps (suite e ρ' S') N T B C (fun _ _ _ => False)
          cases suite e ρ' S' with
          | ok o2 S2 => cases o2 <;> exact Iff.rfl
          | ex e2 S2 => exact Iff.rfl
          | bad => exact Iff.rfl
    | _ => exact Iff.rfl
  | ex e S' => exact Iff.rfl
  | bad => exact Iff.rfl
theorem wps_tryAs {i : Nat} {sub : Str → Option Bool} {body : EvS} {suite : Exc → EvS} : wps (sTryAs i sub body suite ρ S) N T B C X ↔
    wps (body ρ S) N T B C (fun e ρ' S' => tryCase (sub e.cls) (e.fs = [] ∧ wps (suite e (ρ'.set i none) S') (fun ρ2 S2 => N (ρ2.set i none) S2) T (fun ρ2 S2 => B (ρ2.set i none) S2) (fun ρ2 S2 => C (ρ2.set i none) S2) (fun _ _ _ => False)) (X e ρ' S')) := by
  unfold sTryAs
  rw [wps_try]
  constructor <;> intro h <;> refine wps_mono h (fun _ _ h => h) (fun _ _ h => h) (fun _ _ h => h) (fun _ _ h => h) fun e ρ' S' h => ?_
  · cases hs : sub e.cls with
    | none => rw [hs] at h; exact h
    | some b =>
      rw [hs] at h
      cases b with
      | false => exact h
      | true =>
        have h' : wps (if e.fs.isEmpty = true then (match suite e (ρ'.set i none) S' with
          | .ok o S2 => .ok (outSet i o) S2
          | r => r) else .bad) N T B C (fun _ _ _ => False) := h
        show e.fs = [] ∧ _
        by_cases hf : e.fs.isEmpty = true
        · rw [if_pos hf] at h'
          have hnil : e.fs = [] := by
            cases hq : e.fs with
            | nil => rfl
            | cons _ _ => rw [hq] at hf; cases hf
          refine ⟨hnil, ?_⟩
          cases hu : suite e (ρ'.set i none) S' with
          | ok o S2 => rw [hu] at h'; cases o <;> exact h'
          | ex e2 S2 => rw [hu] at h'; exact h'
          | bad => rw [hu] at h'; exact h'
        · rw [if_neg hf] at h'; exact h'.elim
  · cases hs : sub e.cls with
    | none => rw [hs] at h; exact h
    | some b =>
      rw [hs] at h
      cases b with
      | false => exact h
      | true =>
        obtain ⟨hf, h'⟩ : e.fs = [] ∧ _ := h
        show wps (if e.fs.isEmpty = true then (match suite e (ρ'.set i none) S' with
          | .ok o S2 => .ok (outSet i o) S2
          | r => r) else .bad) N T B C (fun _ _ _ => False)
        rw [if_pos (by rw [hf]; rfl)]
        cases hu : suite e (ρ'.set i none) S' with
        | ok o S2 => rw [hu] at h'; cases o <;> exact h'
        | ex e2 S2 => rw [hu] at h'; exact h'
        | bad => rw [hu] at h'; exact h'
theorem suiteOf_hit {G : List Bool → EvS} {x : Str} {bs : List Bool} {r : List (Str × List Bool)} {fs : List (Str × D)} : suiteOf G ((x, bs) :: r) ⟨x, fs⟩ = G bs := by
  unfold suiteOf; simp only [tbl_hit]
theorem wp_eDct {ks : List Str} {as : EvL} : wp (eDct ks as ρ S) F E ↔ wp (as ρ S) (fun ds S1 => ds.length = ks.length ∧ F (.ref S1.length) (S1 ++ [.dct ((ks.map Sum.inr).zip ds)])) E := by
  unfold eDct
  rw [wp_bnd]
  constructor <;> intro h <;> refine wp_mono h (fun ds S' h => ?_) (fun _ _ h => h)
  · by_cases hl : ds.length = ks.length
    · rw [if_pos hl] at h; exact ⟨hl, h⟩
    · rw [if_neg hl] at h; exact h.elim
  · rw [if_pos h.1]; exact h.2
theorem wp_eDGet {a b : EvD} : wp (eDGet a b ρ S) F E ↔ wp (a ρ S) (fun x S1 => wp (b ρ S1) (fun y S2 => wp (gDGet x y S2) F E) E) E := wp_bin
theorem wp_eDNew : wp (eDNew ρ S) F E ↔ F (.ref S.length) (S ++ [.dct []]) := Iff.rfl
theorem gDGet_of {x y : D} {kvs : List (Key × D)} {k : Key} {v : D} (h : atD S x = some kvs) (hk : keyD y = some k) (hv : getK kvs k = some v) : wp (gDGet x y S) F E ↔ F v S := by
  unfold gDGet
  simp only [h, hk, hv]
  exact Iff.rfl
theorem atD_ref {n : Nat} {kvs : List (Key × D)} (h : S[n]? = some (.dct kvs)) : atD S (.ref n) = some kvs := by
  unfold atD; simp only [h]
theorem gDIn_of {x y : D} {kvs : List (Key × D)} {k : Key} {neg : Bool} (h : atD S x = some kvs) (hk : keyD y = some k) : wp (gDIn neg y x S) F E ↔ F (.bl (if neg = true then !(getK kvs k).isSome else (getK kvs k).isSome)) S := by
  unfold gDIn
  simp only [h, hk]
  exact Iff.rfl
theorem wp_eDDef {a b c : EvD} : wp (eDDef a b c ρ S) F E ↔ wp (a ρ S) (fun x S1 => (∃ kvs, atD S1 x = some kvs) ∧ wp (b ρ S1) (fun y S2 => wp (c ρ S2) (fun z S3 => wp (gDDef x y z S3) F E) E) E) E := by
  unfold eDDef
  rw [wp_bnd]
  constructor <;> intro h <;> refine wp_mono h (fun x S' h => ?_) (fun _ _ h => h)
  · split at h
    · rename_i kvs hk
      simp only [wp_bnd] at h
      exact ⟨⟨kvs, hk⟩, h⟩
    · exact h.elim
  · obtain ⟨⟨kvs, hk⟩, h⟩ := h
    simp only [hk, wp_bnd]
    exact h
theorem gDDef_of {x y z : D} {kvs : List (Key × D)} {k : Key} (h : atD S x = some kvs) (hk : keyD y = some k) : wp (gDDef x y z S) F E ↔ F ((getK kvs k).getD z) S := by
  unfold gDDef
  simp only [h, hk]
  exact Iff.rfl
theorem wps_dput {a b c : EvD} : wps (sDPutD a b c ρ S) N T B C X ↔ wp (a ρ S) (fun d S1 => wp (b ρ S1) (fun o S2 => wp (c ρ S2) (fun i S3 => wp (gDPut d o i S3) (fun _ S4 => N ρ S4) (fun e S' => X e ρ S')) (fun e S' => X e ρ S')) (fun e S' => X e ρ S')) (fun e S' => X e ρ S') := by
  unfold sDPutD
  simp only [wps_lft]
  exact Iff.rfl
theorem gDPut_of {n : Nat} {v y : D} {kvs : List (Key × D)} {k : Key} {FU : Unit → Sto → Prop} (h : S[n]? = some (.dct kvs)) (hk : keyD y = some k) : wp (gDPut v (.ref n) y S) FU E ↔ kvs.length < 16777216 ∧ FU () (S.set n (.dct (setK kvs k v))) := by
  unfold gDPut
  simp only [h, hk]
  by_cases hl : kvs.length < 16777216
  · rw [if_pos hl]; exact ⟨fun q => ⟨hl, q⟩, fun q => q.2⟩
  · rw [if_neg hl]; exact ⟨fun q => q.elim, fun q => absurd q.1 hl⟩
theorem gListK_of {x : D} {kvs : List (Key × D)} (h : atD S x = some kvs) : wp (gListK [x] S) F E ↔ F (.lst (kvs.map fun kv => ofKey kv.1)) S := by
  unfold gListK
  simp only [h]
  exact Iff.rfl
end
end DL

namespace K68
open PySem L2 PyProof.Rows DL
abbrev i_names_in_thing : Nat := 0
abbrev i_names_in : Nat := 1
abbrev i_row_told : Nat := 2
abbrev i_comes_to_itself : Nat := 3
abbrev i_l_mixed : Nat := 4
abbrev i_l_deck : Nat := 5
abbrev i_l_take : Nat := 6
abbrev i_l_names : Nat := 7
abbrev i_l_number : Nat := 8
abbrev i_l_shuffle : Nat := 9
abbrev i_l_thing : Nat := 10
abbrev i_l_stack : Nat := 11
abbrev i_l_word : Nat := 12
abbrev i_l_row : Nat := 13
abbrev i_l_named : Nat := 14
abbrev i_l_book : Nat := 15
abbrev i_l_comes : Nat := 16
abbrev i_law : Nat := 17
noncomputable def b_names_in_thing (fu : Nat) (C : Nat → List D → M D) : EvS :=
 (sSeq (sIf (eTb (eBin gEq (eBin gIx (eVar 0) (eC (.int 0))) (eC (.str "row")))) (sRet (eCall (cl 1 (C i_names_in)) (aCons (eBin gIx (eVar 0) (eC (.int 1))) aNil))) sNil)
 (sSeq (sAsg (gN 1) (eLstM aNil))
 (sSeq (sIf (eTb (eBin gEq (eBin gIx (eVar 0) (eC (.int 0))) (eC (.str "list")))) (sFor (iIt (eBin gIx (eVar 0) (eC (.int 1)))) (gN 2) (sExpr (eMeth "list" gExtend (eVar 1) (aCons (eCall (cl 1 (C i_names_in_thing)) (aCons (eVar 2) aNil)) aNil)))) sNil)
 (sRet (eVar 1)))))
noncomputable def b_names_in (fu : Nat) (C : Nat → List D → M D) : EvS :=
 (sSeq (sAsg (gN 1) (eLstM aNil))
 (sSeq (sFor (iIt (eVar 0)) (gN 2) (sIf (eT (eIsi "str" (eVar 2))) (sExpr (eMeth "list" gAppend (eVar 1) (aCons (eVar 2) aNil))) (sExpr (eMeth "list" gExtend (eVar 1) (aCons (eCall (cl 1 (C i_names_in_thing)) (aCons (eBin gIx (eVar 2) (eC (.int 1))) aNil)) aNil)))))
 (sRet (eVar 1))))
noncomputable def b_row_told (fu : Nat) (C : Nat → List D → M D) : EvS :=
 (sSeq (sFor (iIt (eVar 1)) (gTp 3 (gNs 2 (gNs 3 (gNs 4 gN0)))) (sIf (eTb (eBin gEq (eVar 2) (eVar 0))) (sRet (eVar 4)) sNil))
 (sRet (eC .non)))
noncomputable def b_comes_to_itself (fu : Nat) (C : Nat → List D → M D) : EvS :=
 (sSeq (sAsg (gN 2) eDNew)
 (sSeq (sAsg (gN 3) (eLstM (aCons (eVar 0) aNil)))
 (sSeq (sWhile fu (eTb (eBin gNe (eVar 3) (eLst aNil))) (sSeq (sAsg (gN 4) (eCall (cl 2 (C i_row_told)) (aCons (eMeth "list" gPop (eVar 3) aNil) (aCons (eVar 1) aNil))))
 (sIf (eTb (eBin gIsNot (eVar 4) (eC .non))) (sFor (iIt (eCall (cl 1 (C i_names_in)) (aCons (eVar 4) aNil))) (gN 5) (sSeq (sIf (eTb (eBin gEq (eVar 5) (eVar 0))) (sRet (eC (.bl true))) sNil)
 (sIf (eTb (eBin (gDIn true) (eVar 5) (eVar 2))) (sSeq (sDPutD (eC (.bl true)) (eVar 2) (eVar 5))
 (sExpr (eMeth "list" gAppend (eVar 3) (aCons (eVar 5) aNil)))) sNil))) sNil)))
 (sRet (eC (.bl false))))))
noncomputable def b_l_mixed (fu : Nat) (C : Nat → List D → M D) : EvS :=
 (sSeq (sAsg (gN 2) (eBin gMod (eBin gMul (eBin gAdd (eBin gAdd (eBin gMod (eVar 0) (eC (.int 2147483629))) (eBin gMul (eC (.int 7919)) (eVar 1))) (eC (.int 1))) (eC (.int 48271))) (eC (.int 2147483647))))
 (sSeq (sAsg (gN 2) (eBin gMod (eBin gAdd (eBin gAdd (eBin gMul (eVar 2) (eVar 2)) (eBin gMul (eC (.int 69621)) (eVar 1))) (eC (.int 7))) (eC (.int 2147483587))))
 (sRet (eBin gAdd (eBin gMul (eVar 2) (eC (.int 2147483563))) (eBin gMod (eBin gAdd (eBin gAdd (eBin gMul (eVar 2) (eVar 2)) (eBin gMul (eC (.int 16807)) (eVar 2))) (eVar 1)) (eC (.int 2147483563)))))))
noncomputable def b_l_deck (fu : Nat) (C : Nat → List D → M D) : EvS :=
 (sRet (eLstM (aCons (eUn (gRev true) (eSl false (eVar 0) oNone (oSome (eC (.int 63))))) (aCons (eBin gAdd (eCall gSum (aCons (eSl false (eVar 0) oNone (oSome (eC (.int 63)))) aNil)) (eCall gLen (aCons (eSl false (eVar 0) oNone (oSome (eC (.int 63)))) aNil))) (aCons (eC (.int 0)) aNil)))))
noncomputable def b_l_take (fu : Nat) (C : Nat → List D → M D) : EvS :=
 (sSeq (sAsg (gN 2) (eBin gIx (eVar 0) (eC (.int 0))))
 (sSeq (sSub (eBin gAdd (eBin gIx (eVar 0) (eC (.int 2))) (eC (.int 1))) (eVar 0) (eC (.int 2)))
 (sSeq (sIf (eTb (eBin gEq (eVar 2) (eLst aNil))) (sRet (eBin gMod (eCall (cl 2 (C i_l_mixed)) (aCons (eBin gIx (eVar 0) (eC (.int 1))) (aCons (eBin gIx (eVar 0) (eC (.int 2))) aNil))) (eVar 1))) sNil)
 (sSeq (sAsg (gN 3) (eMeth "list" gPop (eVar 2) aNil))
 (sSeq (sIf (eTb (eBin gLt (eVar 3) (eBin gPow (eC (.int 10)) (eC (.int 18))))) (sRet (eBin gMod (eCall (cl 2 (C i_l_mixed)) (aCons (eVar 3) (aCons (eBin gIx (eVar 0) (eC (.int 2))) aNil))) (eVar 1))) sNil)
 (sSeq (sIf (eTb (eBin gGt (eBin gDiv (eVar 3) (eVar 1)) (eC (.int 0)))) (sExpr (eMeth "list" gAppend (eVar 2) (aCons (eBin gDiv (eVar 3) (eVar 1)) aNil))) sNil)
 (sRet (eBin gMod (eVar 3) (eVar 1)))))))))
noncomputable def b_l_names (fu : Nat) (C : Nat → List D → M D) : EvS :=
 (sSeq (sAsg (gN 2) (eC (.str "abcdefghijklmnopqrstuvwxyz")))
 (sSeq (sAsg (gN 3) (eLst (aCons (eC (.str "pl")) (aCons (eC (.str "plu")) (aCons (eC (.str "iff")) (aCons (eC (.str "i")) (aCons (eC (.str "dipp")) (aCons (eC (.str "eac")) (aCons (eC (.str "wra")) (aCons (eC (.str "lesser")) (aCons (eC (.str "dodo")) (aCons (eC (.str "d")) (aCons (eC (.str "pluss")) (aCons (eC (.str "joi")) aNil))))))))))))))
 (sSeq (sAsg (gN 4) (eCall (cl 2 (C i_l_take)) (aCons (eVar 0) (aCons (eC (.int 12)) aNil))))
 (sSeq (sAsg (gN 5) (eBin gAdd (eSl false (eVar 3) (oSome (eVar 4)) oNone) (eSl false (eVar 3) oNone (oSome (eVar 4)))))
 (sSeq (sAsg (gN 6) (eMeth "str" gJoin (eC (.str "")) (aCons (eComp (iRange1 (aCons (eC (.int 7)) aNil)) (gN 7) bYes (eBin gIx (eVar 2) (eCall (cl 2 (C i_l_take)) (aCons (eVar 0) (aCons (eC (.int 26)) aNil)))) [7]) aNil)))
 (sSeq (sIf (eTb (eBin gEq (eCall (cl 2 (C i_l_take)) (aCons (eVar 0) (aCons (eC (.int 2)) aNil))) (eC (.int 0)))) (sAsg (gN 5) (eComp (iRange1 (aCons (eC (.int 8)) aNil)) (gN 7) bYes (eBin gAdd (eC (.str "x")) (eSl false (eVar 6) oNone (oSome (eVar 7)))) [7])) sNil)
 (sRet (eSl false (eVar 5) oNone (oSome (eVar 1))))))))))
noncomputable def b_l_number (fu : Nat) (C : Nat → List D → M D) : EvS :=
 (sSeq (sAsg (gN 1) (eLst (aCons (eC (.int 0)) (aCons (eC (.int 1)) (aCons (eC (.int 2)) (aCons (eCall (cl 2 (C i_l_take)) (aCons (eVar 0) (aCons (eC (.int 100)) aNil))) (aCons (eBin gSub (eBin gPow (eC (.int 10)) (eC (.int 12))) (eC (.int 1))) (aCons (eCall (cl 2 (C i_l_take)) (aCons (eVar 0) (aCons (eBin gPow (eC (.int 10)) (eC (.int 12))) aNil))) aNil))))))))
 (sRet (eBin gIx (eVar 1) (eCall (cl 2 (C i_l_take)) (aCons (eVar 0) (aCons (eC (.int 6)) aNil))))))
noncomputable def b_l_shuffle (fu : Nat) (C : Nat → List D → M D) : EvS :=
 (sSeq (sAsg (gN 1) (eSl false (eC (.str "abcdefgh")) oNone (oSome (eBin gIx (eLst (aCons (eCall (cl 2 (C i_l_take)) (aCons (eVar 0) (aCons (eC (.int 4)) aNil))) (aCons (eCall (cl 2 (C i_l_take)) (aCons (eVar 0) (aCons (eC (.int 9)) aNil))) aNil))) (eCall gInt (aCons (eBin gEq (eCall (cl 2 (C i_l_take)) (aCons (eVar 0) (aCons (eC (.int 4)) aNil))) (eC (.int 0))) aNil))))))
 (sSeq (sAsg (gN 2) (eBin gMul (eBin gIx (eLst (aCons (eCall (cl 2 (C i_l_take)) (aCons (eVar 0) (aCons (eC (.int 4)) aNil))) (aCons (eCall (cl 2 (C i_l_take)) (aCons (eVar 0) (aCons (eC (.int 13)) aNil))) aNil))) (eCall gInt (aCons (eBin gEq (eCall (cl 2 (C i_l_take)) (aCons (eVar 0) (aCons (eC (.int 4)) aNil))) (eC (.int 0))) aNil))) (eCall gInt (aCons (eBin gNe (eVar 1) (eC (.str ""))) aNil))))
 (sRet (eBin gAdd (eBin gAdd (eVar 1) (eC (.str "-"))) (eMeth "str" gJoin (eC (.str "")) (aCons (eComp (iRange1 (aCons (eVar 2) aNil)) (gN 3) bYes (eBin gIx (eVar 1) (eCall (cl 2 (C i_l_take)) (aCons (eVar 0) (aCons (eCall gLen (aCons (eVar 1) aNil)) aNil)))) [3]) aNil))))))
noncomputable def b_l_thing (fu : Nat) (C : Nat → List D → M D) : EvS :=
 (sSeq (sAsg (gN 4) (eCall (cl 2 (C i_l_take)) (aCons (eVar 0) (aCons (eC (.int 4)) aNil))))
 (sSeq (sIf (bOr (eTb (eBin gEq (eVar 2) (eC (.int 0)))) (eTb (eBin gLt (eVar 4) (eC (.int 2))))) (sRet (eTup (aCons (eC (.str "number")) (aCons (eCall (cl 1 (C i_l_number)) (aCons (eVar 0) aNil)) aNil)))) sNil)
 (sSeq (sIf (eTb (eBin gEq (eVar 4) (eC (.int 2)))) (sRet (eTup (aCons (eC (.str "row")) (aCons (eCall (cl 4 (C i_l_row)) (aCons (eVar 0) (aCons (eVar 1) (aCons (eBin gSub (eVar 2) (eC (.int 1))) (aCons (eVar 3) aNil))))) aNil)))) sNil)
 (sRet (eTup (aCons (eC (.str "list")) (aCons (eCall (cl 4 (C i_l_stack)) (aCons (eVar 0) (aCons (eVar 1) (aCons (eBin gSub (eVar 2) (eC (.int 1))) (aCons (eVar 3) aNil))))) aNil)))))))
noncomputable def b_l_stack (fu : Nat) (C : Nat → List D → M D) : EvS :=
 (sSeq (sAsg (gN 4) (eLstM aNil))
 (sSeq (sFor (iRange1 (aCons (eCall (cl 2 (C i_l_take)) (aCons (eVar 0) (aCons (eBin gIx (eLst (aCons (eC (.int 4)) (aCons (eC (.int 7)) aNil))) (eCall gInt (aCons (eBin gEq (eCall (cl 2 (C i_l_take)) (aCons (eVar 0) (aCons (eC (.int 8)) aNil))) (eC (.int 7))) aNil))) aNil))) aNil)) (gN 5) (sIf (eTb (eBin gGt (eBin gIx (eVar 3) (eC (.int 0))) (eC (.int 0)))) (sSeq (sSub (eBin gSub (eBin gIx (eVar 3) (eC (.int 0))) (eC (.int 1))) (eVar 3) (eC (.int 0)))
 (sExpr (eMeth "list" gAppend (eVar 4) (aCons (eCall (cl 4 (C i_l_thing)) (aCons (eVar 0) (aCons (eVar 1) (aCons (eVar 2) (aCons (eVar 3) aNil))))) aNil)))) sNil))
 (sRet (eCall gTuple (aCons (eVar 4) aNil)))))
noncomputable def b_l_word (fu : Nat) (C : Nat → List D → M D) : EvS :=
 (sSeq (sAsg (gN 4) (eMeth "str" (gSplit false) (eC (.str "plus minus times less same do dip if while repeat join wrap put part each")) (aCons (eC (.str " ")) aNil)))
 (sSeq (sSub (eBin gSub (eBin gIx (eVar 3) (eC (.int 0))) (eC (.int 1))) (eVar 3) (eC (.int 0)))
 (sSeq (sAsg (gN 5) (eCall (cl 2 (C i_l_take)) (aCons (eVar 0) (aCons (eC (.int 7)) aNil))))
 (sSeq (sIf (eTb (eBin gLt (eVar 5) (eC (.int 2)))) (sRet (eBin gIx (eVar 4) (eCall (cl 2 (C i_l_take)) (aCons (eVar 0) (aCons (eC (.int 15)) aNil))))) sNil)
 (sSeq (sIf (eTb (eBin gEq (eVar 5) (eC (.int 2)))) (sRet (eCall (cl 1 (C i_l_shuffle)) (aCons (eVar 0) aNil))) sNil)
 (sSeq (sIf (eTb (eBin gEq (eVar 5) (eC (.int 3)))) (sRet (eBin gIx (eVar 1) (eCall (cl 2 (C i_l_take)) (aCons (eVar 0) (aCons (eCall gLen (aCons (eVar 1) aNil)) aNil))))) sNil)
 (sRet (eTup (aCons (eC (.str "push")) (aCons (eCall (cl 4 (C i_l_thing)) (aCons (eVar 0) (aCons (eVar 1) (aCons (eVar 2) (aCons (eVar 3) aNil))))) aNil))))))))))
noncomputable def b_l_row (fu : Nat) (C : Nat → List D → M D) : EvS :=
 (sSeq (sAsg (gN 4) (eLstM aNil))
 (sSeq (sFor (iRange1 (aCons (eCall (cl 2 (C i_l_take)) (aCons (eVar 0) (aCons (eBin gIx (eLst (aCons (eC (.int 4)) (aCons (eC (.int 7)) aNil))) (eCall gInt (aCons (eBin gEq (eCall (cl 2 (C i_l_take)) (aCons (eVar 0) (aCons (eC (.int 8)) aNil))) (eC (.int 7))) aNil))) aNil))) aNil)) (gN 5) (sIf (eTb (eBin gGt (eBin gIx (eVar 3) (eC (.int 0))) (eC (.int 0)))) (sExpr (eMeth "list" gAppend (eVar 4) (aCons (eCall (cl 4 (C i_l_word)) (aCons (eVar 0) (aCons (eVar 1) (aCons (eVar 2) (aCons (eVar 3) aNil))))) aNil))) sNil))
 (sRet (eCall gTuple (aCons (eVar 4) aNil)))))
noncomputable def b_l_named (fu : Nat) (C : Nat → List D → M D) : EvS :=
 (sSeq (sAsg (gN 1) (eLst aNil))
 (sSeq (sAsg (gN 2) (eLstM (aCons (eTup (aCons (eC (.str "row")) (aCons (eVar 0) aNil))) aNil)))
 (sSeq (sWhile fu (eTb (eBin gNe (eVar 2) (eLst aNil))) (sSeq (sAsg (gTp 2 (gNs 3 (gNs 4 gN0))) (eMeth "list" gPop (eVar 2) aNil))
 (sSeq (sIf (eTb (eBin gEq (eVar 3) (eC (.str "row")))) (sSeq (sAsg (gN 1) (eBin gAdd (eVar 1) (eComp (iIt (eVar 4)) (gN 5) (eT (eIsi "str" (eVar 5))) (eVar 5) [5])))
 (sAsg (gN 2) (eBin gAddM (eVar 2) (eComp (iIt (eVar 4)) (gN 5) (eT (eIsi "tuple" (eVar 5))) (eBin gIx (eVar 5) (eC (.int 1))) [5])))) sNil)
 (sIf (eTb (eBin gEq (eVar 3) (eC (.str "list")))) (sAsg (gN 2) (eBin gAddM (eVar 2) (eCall gList (aCons (eVar 4) aNil)))) sNil))))
 (sRet (eVar 1)))))
noncomputable def b_l_book (fu : Nat) (C : Nat → List D → M D) : EvS :=
 (sSeq (sAsg (gN 2) (eCall (cl 2 (C i_l_take)) (aCons (eVar 0) (aCons (eC (.int 3)) aNil))))
 (sSeq (sAsg (gN 3) (eLstM aNil))
 (sSeq (sFor (iRange1 (aCons (eCall gLen (aCons (eVar 1) aNil)) aNil)) (gN 4) (sSeq (sAsg (gN 6) (eVar 1))
 (sSeq (sIf (eTb (eBin gEq (eVar 2) (eC (.int 0)))) (sAsg (gN 6) (eBin gAdd (eSl false (eVar 1) oNone (oSome (eVar 4))) (eLst (aCons (eC (.str "a-")) aNil)))) sNil)
 (sSeq (sAsg (gN 7) (eCall (cl 4 (C i_l_row)) (aCons (eVar 0) (aCons (eVar 6) (aCons (eC (.int 4)) (aCons (eLstM (aCons (eC (.int 30)) aNil)) aNil))))))
 (sSeq (sIf (bAnd (eTb (eBin gEq (eVar 2) (eC (.int 1)))) (eTb (eBin gLt (eVar 4) (eC (.int 7))))) (sAsg (gN 7) (eBin gAdd (eVar 7) (eTup (aCons (eTup (aCons (eC (.str "push")) (aCons (eTup (aCons (eC (.str "row")) (aCons (eTup (aCons (eBin gIx (eVar 1) (eBin gMod (eBin gAdd (eVar 4) (eC (.int 1))) (eCall gLen (aCons (eVar 1) aNil)))) aNil)) aNil))) aNil))) aNil)))) sNil)
 (sExpr (eMeth "list" gAppend (eVar 3) (aCons (eTup (aCons (eBin gIx (eVar 1) (eVar 4)) (aCons (eC .non) (aCons (eVar 7) aNil)))) aNil))))))))
 (sSeq (sAsg (gN 5) (eCall (cl 2 (C i_l_take)) (aCons (eVar 0) (aCons (eCall gLen (aCons (eVar 3) aNil)) aNil))))
 (sRet (eCall gTuple (aCons (eBin gAdd (eSl false (eVar 3) (oSome (eVar 5)) oNone) (eSl false (eVar 3) oNone (oSome (eVar 5)))) aNil)))))))
noncomputable def b_l_comes (fu : Nat) (C : Nat → List D → M D) : EvS :=
 (sSeq (sAsg (gN 1) eDNew)
 (sSeq (sFor (iIt (eVar 0)) (gTp 3 (gNs 3 (gNs 4 (gNs 5 gN0)))) (sDPutD (eComp (iIt (eCall (cl 1 (C i_l_named)) (aCons (eVar 5) aNil))) (gN 7) bYes (eVar 7) [7]) (eVar 1) (eVar 3)))
 (sSeq (sFor (iRange1 (aCons (eCall gLen (aCons (eVar 0) aNil)) aNil)) (gN 2) (sFor (iIt (eCall gListK (aCons (eVar 1) aNil))) (gN 3) (sSeq (sAsg (gN 6) (eLst aNil))
 (sSeq (sFor (iIt (eDGet (eVar 1) (eVar 3))) (gN 7) (sAsg (gN 6) (eBin gAdd (eBin gAdd (eVar 6) (eLst (aCons (eVar 7) aNil))) (eDDef (eVar 1) (eVar 7) (eLst aNil)))))
 (sDPutD (eUn gSortSet (eVar 6)) (eVar 1) (eVar 3))))))
 (sRet (eVar 1)))))
noncomputable def b_law (fu : Nat) (C : Nat → List D → M D) : EvS :=
 (sSeq (sAsg (gN 1) (eCall (cl 1 (C i_l_deck)) (aCons (eVar 0) aNil)))
 (sSeq (sFor (iRange1 (aCons (eC (.int 3)) aNil)) (gN 2) (sSeq (sAsg (gN 3) (eCall (cl 2 (C i_l_names)) (aCons (eVar 1) (aCons (eBin gAdd (eC (.int 1)) (eCall (cl 2 (C i_l_take)) (aCons (eVar 1) (aCons (eC (.int 8)) aNil)))) aNil))))
 (sSeq (sAsg (gN 4) (eCall (cl 2 (C i_l_book)) (aCons (eVar 1) (aCons (eVar 3) aNil))))
 (sSeq (sAsg (gN 5) (eCall (cl 1 (C i_l_comes)) (aCons (eVar 4) aNil)))
 (sFor (iIt (eBin gAdd (eVar 3) (eLst (aCons (eC (.str "stranger")) aNil)))) (gN 6) (sSeq (sAsg (gN 7) (eCall (cl 2 (C i_comes_to_itself)) (aCons (eVar 6) (aCons (eVar 4) aNil))))
 (sIf (bOr (bNot (eT (eIsi "bool" (eVar 7)))) (eTb (eBin gNe (eVar 7) (eBin gIn (eVar 6) (eDDef (eVar 5) (eVar 6) (eLst aNil)))))) (sRet (eC (.bl false))) sNil)))))))
 (sRet (eC (.bl true)))))
noncomputable def den (fu : Nat) : Nat → Nat → List D → M D
  | 0, _ => fun _ => stuck
  | n + 1, i => match i with
    | 0 => runDef false 3 (b_names_in_thing fu (den fu n))
    | 1 => runDef false 3 (b_names_in fu (den fu n))
    | 2 => runDef false 5 (b_row_told fu (den fu n))
    | 3 => runDef false 6 (b_comes_to_itself fu (den fu n))
    | 4 => runDef false 3 (b_l_mixed fu (den fu n))
    | 5 => runDef true 1 (b_l_deck fu (den fu n))
    | 6 => runDef false 4 (b_l_take fu (den fu n))
    | 7 => runDef false 8 (b_l_names fu (den fu n))
    | 8 => runDef false 2 (b_l_number fu (den fu n))
    | 9 => runDef false 4 (b_l_shuffle fu (den fu n))
    | 10 => runDef false 5 (b_l_thing fu (den fu n))
    | 11 => runDef false 6 (b_l_stack fu (den fu n))
    | 12 => runDef false 6 (b_l_word fu (den fu n))
    | 13 => runDef false 6 (b_l_row fu (den fu n))
    | 14 => runDef false 6 (b_l_named fu (den fu n))
    | 15 => runDef false 8 (b_l_book fu (den fu n))
    | 16 => runDef true 8 (b_l_comes fu (den fu n))
    | 17 => runDef false 8 (b_law fu (den fu n))
    | _ => fun _ => stuck
end K68

namespace K68
open PySem L2 PyProof.Rows DL
def topS (i : Nat) : Stmt := PySem.Challenge.pw_takeleave_k68_words_that_come_to_themsel.main.body.getD i (.Pass ⟨0, 0, 0, 0⟩)
abbrev s_names_in_thing : Stmt := topS 1
abbrev n_names_in_thing : List Str := ["thing", "found", "one"]
abbrev p_names_in_thing : List Str := ["thing"]
abbrev s_names_in : Stmt := topS 2
abbrev n_names_in : List Str := ["row", "found", "word"]
abbrev p_names_in : List Str := ["row"]
abbrev s_row_told : Stmt := topS 3
abbrev n_row_told : List Str := ["name", "book", "other", "told", "row"]
abbrev p_row_told : List Str := ["name", "book"]
abbrev s_comes_to_itself : Stmt := topS 4
abbrev n_comes_to_itself : List Str := ["name", "book", "known", "waiting", "row", "word"]
abbrev p_comes_to_itself : List Str := ["name", "book"]
abbrev s_l_mixed : Stmt := topS 6
abbrev n_l_mixed : List Str := ["_law_cell", "_law_k", "_law_number_here"]
abbrev p_l_mixed : List Str := ["_law_cell", "_law_k"]
abbrev s_l_deck : Stmt := topS 7
abbrev n_l_deck : List Str := ["_law_script"]
abbrev p_l_deck : List Str := ["_law_script"]
abbrev s_l_take : Stmt := topS 8
abbrev n_l_take : List Str := ["_law_deck_here", "_law_most", "_law_cells", "_law_cell"]
abbrev p_l_take : List Str := ["_law_deck_here", "_law_most"]
abbrev s_l_names : Stmt := topS 9
abbrev n_l_names : List Str := ["_law_deck_here", "_law_many", "_law_letters", "_law_some", "_law_turn", "_law_found", "_law_tail", "_law_k"]
abbrev p_l_names : List Str := ["_law_deck_here", "_law_many"]
abbrev s_l_number : Stmt := topS 10
abbrev n_l_number : List Str := ["_law_deck_here", "_law_some"]
abbrev p_l_number : List Str := ["_law_deck_here"]
abbrev s_l_shuffle : Stmt := topS 11
abbrev n_l_shuffle : List Str := ["_law_deck_here", "_law_letters", "_law_many", "_law_k"]
abbrev p_l_shuffle : List Str := ["_law_deck_here"]
abbrev s_l_thing : Stmt := topS 12
abbrev n_l_thing : List Str := ["_law_deck_here", "_law_names_here", "_law_deep", "_law_left", "_law_way"]
abbrev p_l_thing : List Str := ["_law_deck_here", "_law_names_here", "_law_deep", "_law_left"]
abbrev s_l_stack : Stmt := topS 13
abbrev n_l_stack : List Str := ["_law_deck_here", "_law_names_here", "_law_deep", "_law_left", "_law_found", "_law_k"]
abbrev p_l_stack : List Str := ["_law_deck_here", "_law_names_here", "_law_deep", "_law_left"]
abbrev s_l_word : Stmt := topS 14
abbrev n_l_word : List Str := ["_law_deck_here", "_law_names_here", "_law_deep", "_law_left", "_law_basics", "_law_way"]
abbrev p_l_word : List Str := ["_law_deck_here", "_law_names_here", "_law_deep", "_law_left"]
abbrev s_l_row : Stmt := topS 15
abbrev n_l_row : List Str := ["_law_deck_here", "_law_names_here", "_law_deep", "_law_left", "_law_found", "_law_k"]
abbrev p_l_row : List Str := ["_law_deck_here", "_law_names_here", "_law_deep", "_law_left"]
abbrev s_l_named : Stmt := topS 16
abbrev n_l_named : List Str := ["_law_row_here", "_law_found", "_law_waiting", "_law_kind", "_law_parts", "_law_word_here"]
abbrev p_l_named : List Str := ["_law_row_here"]
abbrev s_l_book : Stmt := topS 17
abbrev n_l_book : List Str := ["_law_deck_here", "_law_names_here", "_law_way", "_law_book_here", "_law_k", "_law_turn", "_law_some", "_law_row_here"]
abbrev p_l_book : List Str := ["_law_deck_here", "_law_names_here"]
abbrev s_l_comes : Stmt := topS 18
abbrev n_l_comes : List Str := ["_law_book_here", "_law_known", "_law_turn", "_law_name", "_law_told", "_law_row_here", "_law_more", "_law_word_here"]
abbrev p_l_comes : List Str := ["_law_book_here"]
abbrev s_law : Stmt := topS 19
abbrev n_law : List Str := ["_law_script", "_law_deck_here", "_law_k", "_law_names_here", "_law_book_here", "_law_known", "_law_name", "_law_found"]
abbrev p_law : List Str := ["_law_script"]
structure Tx (K : PySem.W.Frag) (mg : Str → Option Value) where
  a_names_in_thing : Addr
  f_names_in_thing : FuncData
  d_names_in_thing : DefAt K mg "names_in_thing" s_names_in_thing p_names_in_thing a_names_in_thing f_names_in_thing
  a_names_in : Addr
  f_names_in : FuncData
  d_names_in : DefAt K mg "names_in" s_names_in p_names_in a_names_in f_names_in
  a_row_told : Addr
  f_row_told : FuncData
  d_row_told : DefAt K mg "row_told" s_row_told p_row_told a_row_told f_row_told
  a_comes_to_itself : Addr
  f_comes_to_itself : FuncData
  d_comes_to_itself : DefAt K mg "comes_to_itself" s_comes_to_itself p_comes_to_itself a_comes_to_itself f_comes_to_itself
  a_l_mixed : Addr
  f_l_mixed : FuncData
  d_l_mixed : DefAt K mg "_law_mixed" s_l_mixed p_l_mixed a_l_mixed f_l_mixed
  a_l_deck : Addr
  f_l_deck : FuncData
  d_l_deck : DefAt K mg "_law_deck" s_l_deck p_l_deck a_l_deck f_l_deck
  a_l_take : Addr
  f_l_take : FuncData
  d_l_take : DefAt K mg "_law_take" s_l_take p_l_take a_l_take f_l_take
  a_l_names : Addr
  f_l_names : FuncData
  d_l_names : DefAt K mg "_law_names" s_l_names p_l_names a_l_names f_l_names
  a_l_number : Addr
  f_l_number : FuncData
  d_l_number : DefAt K mg "_law_number" s_l_number p_l_number a_l_number f_l_number
  a_l_shuffle : Addr
  f_l_shuffle : FuncData
  d_l_shuffle : DefAt K mg "_law_shuffle" s_l_shuffle p_l_shuffle a_l_shuffle f_l_shuffle
  a_l_thing : Addr
  f_l_thing : FuncData
  d_l_thing : DefAt K mg "_law_thing" s_l_thing p_l_thing a_l_thing f_l_thing
  a_l_stack : Addr
  f_l_stack : FuncData
  d_l_stack : DefAt K mg "_law_stack" s_l_stack p_l_stack a_l_stack f_l_stack
  a_l_word : Addr
  f_l_word : FuncData
  d_l_word : DefAt K mg "_law_word" s_l_word p_l_word a_l_word f_l_word
  a_l_row : Addr
  f_l_row : FuncData
  d_l_row : DefAt K mg "_law_row" s_l_row p_l_row a_l_row f_l_row
  a_l_named : Addr
  f_l_named : FuncData
  d_l_named : DefAt K mg "_law_named" s_l_named p_l_named a_l_named f_l_named
  a_l_book : Addr
  f_l_book : FuncData
  d_l_book : DefAt K mg "_law_book" s_l_book p_l_book a_l_book f_l_book
  a_l_comes : Addr
  f_l_comes : FuncData
  d_l_comes : DefAt K mg "_law_comes" s_l_comes p_l_comes a_l_comes f_l_comes
  a_law : Addr
  f_law : FuncData
  d_law : DefAt K mg "law" s_law p_law a_law f_law
  z_bool : mg "bool" = none
  z_int : mg "int" = none
  z_isinstance : mg "isinstance" = none
  z_len : mg "len" = none
  z_list : mg "list" = none
  z_range : mg "range" = none
  z_reversed : mg "reversed" = none
  z_set : mg "set" = none
  z_sorted : mg "sorted" = none
  z_str : mg "str" = none
  z_sum : mg "sum" = none
  z_tuple : mg "tuple" = none
structure Cal (P : Program) (w : World) (K : PySem.W.Frag) (mg : Str → Option Value) (base : Heap) (T : Tx K mg) (k : Nat) (C : Nat → List D → M D) : Prop where
  names_in_thing : FnOk P w K mg base (L2.CX P w) (k + 20) T.a_names_in_thing T.f_names_in_thing p_names_in_thing (spD K mg (p_names_in_thing).length (C i_names_in_thing))
  names_in : FnOk P w K mg base (L2.CX P w) (k + 20) T.a_names_in T.f_names_in p_names_in (spD K mg (p_names_in).length (C i_names_in))
  row_told : FnOk P w K mg base (L2.CX P w) (k + 20) T.a_row_told T.f_row_told p_row_told (spD K mg (p_row_told).length (C i_row_told))
  comes_to_itself : FnOk P w K mg base (L2.CX P w) (k + 20) T.a_comes_to_itself T.f_comes_to_itself p_comes_to_itself (spD K mg (p_comes_to_itself).length (C i_comes_to_itself))
  l_mixed : FnOk P w K mg base (L2.CX P w) (k + 20) T.a_l_mixed T.f_l_mixed p_l_mixed (spD K mg (p_l_mixed).length (C i_l_mixed))
  l_deck : FnOk P w K mg base (L2.CX P w) (k + 20) T.a_l_deck T.f_l_deck p_l_deck (spD K mg (p_l_deck).length (C i_l_deck))
  l_take : FnOk P w K mg base (L2.CX P w) (k + 20) T.a_l_take T.f_l_take p_l_take (spD K mg (p_l_take).length (C i_l_take))
  l_names : FnOk P w K mg base (L2.CX P w) (k + 20) T.a_l_names T.f_l_names p_l_names (spD K mg (p_l_names).length (C i_l_names))
  l_number : FnOk P w K mg base (L2.CX P w) (k + 20) T.a_l_number T.f_l_number p_l_number (spD K mg (p_l_number).length (C i_l_number))
  l_shuffle : FnOk P w K mg base (L2.CX P w) (k + 20) T.a_l_shuffle T.f_l_shuffle p_l_shuffle (spD K mg (p_l_shuffle).length (C i_l_shuffle))
  l_thing : FnOk P w K mg base (L2.CX P w) (k + 20) T.a_l_thing T.f_l_thing p_l_thing (spD K mg (p_l_thing).length (C i_l_thing))
  l_stack : FnOk P w K mg base (L2.CX P w) (k + 20) T.a_l_stack T.f_l_stack p_l_stack (spD K mg (p_l_stack).length (C i_l_stack))
  l_word : FnOk P w K mg base (L2.CX P w) (k + 20) T.a_l_word T.f_l_word p_l_word (spD K mg (p_l_word).length (C i_l_word))
  l_row : FnOk P w K mg base (L2.CX P w) (k + 20) T.a_l_row T.f_l_row p_l_row (spD K mg (p_l_row).length (C i_l_row))
  l_named : FnOk P w K mg base (L2.CX P w) (k + 20) T.a_l_named T.f_l_named p_l_named (spD K mg (p_l_named).length (C i_l_named))
  l_book : FnOk P w K mg base (L2.CX P w) (k + 20) T.a_l_book T.f_l_book p_l_book (spD K mg (p_l_book).length (C i_l_book))
  l_comes : FnOk P w K mg base (L2.CX P w) (k + 20) T.a_l_comes T.f_l_comes p_l_comes (spD K mg (p_l_comes).length (C i_l_comes))
  law : FnOk P w K mg base (L2.CX P w) (k + 20) T.a_law T.f_law p_law (spD K mg (p_law).length (C i_law))
section
variable {P : Program} {w : World} {K : PySem.W.Frag} {mg : Str → Option Value} {base : Heap} {T : Tx K mg} {k : Nat} {C : Nat → List D → M D}
theorem sc_names_in_thing : FnScope n_names_in_thing p_names_in_thing (defScope s_names_in_thing) := ⟨rfl, rfl, rfl, by decide +kernel, rfl, by decide +kernel, by decide +kernel⟩
theorem ok_names_in_thing (fu : Nat) (c : Cal P w K mg base T k C) : FnOk P w K mg base (L2.CX P w) (k + 20 + 1) T.a_names_in_thing T.f_names_in_thing p_names_in_thing (spD K mg (p_names_in_thing).length (runDef false 3 (b_names_in_thing fu C))) := by
  refine' fn_okL (N := n_names_in_thing) T.d_names_in_thing.fn sc_names_in_thing ?hB ?hS ?body
  case hB => conv => lhs; whnf
  case hS => conv => lhs; whnf
  case body =>
  intro cdv A outer s H E hr nd tk pw
  exact (ss_cons (s_if (t_cmp (o_eq (room_w hr)) (d_ix (d_var 0) d_int) d_str (nomark _)) (ss_one (s_ret (d_call c.names_in hr rfl T.d_names_in.mg T.d_names_in.fn.kp T.d_names_in.bi tk (a_cons (d_ix (d_var 0) d_int) a_nil)))) ss_nil)
 (ss_cons (s_set 1 nd (d_lstM a_nil))
 (ss_cons (s_if (t_cmp (o_eq (room_w hr)) (d_ix (d_var 0) d_int) d_str (nomark _)) (ss_one (s_for pw rfl (i_it (d_ix (d_var 0) d_int)) (g_name 2) (pg_name (i := 2) nd rfl (by first | exact Or.inl rfl | exact Or.inr rfl)) (ss_one (s_expr (d_meth PySem.F.plainAttrs_list PySem.F.slot_list_extend PySem.F.type_list_extend m_extend (d_var 1) (a_cons (d_call c.names_in_thing hr rfl T.d_names_in_thing.mg T.d_names_in_thing.fn.kp T.d_names_in_thing.bi tk (a_cons (d_var 2) a_nil)) a_nil)))))) ss_nil)
 (ss_one (s_ret (d_var 1))))))
theorem sc_names_in : FnScope n_names_in p_names_in (defScope s_names_in) := ⟨rfl, rfl, rfl, by decide +kernel, rfl, by decide +kernel, by decide +kernel⟩
theorem ok_names_in (fu : Nat) (c : Cal P w K mg base T k C) : FnOk P w K mg base (L2.CX P w) (k + 20 + 1) T.a_names_in T.f_names_in p_names_in (spD K mg (p_names_in).length (runDef false 3 (b_names_in fu C))) := by
  refine' fn_okL (N := n_names_in) T.d_names_in.fn sc_names_in ?hB ?hS ?body
  case hB => conv => lhs; whnf
  case hS => conv => lhs; whnf
  case body =>
  intro cdv A outer s H E hr nd tk pw
  exact (ss_cons (s_set 1 nd (d_lstM a_nil))
 (ss_cons (s_for pw rfl (i_it (d_var 0)) (g_name 2) (pg_name (i := 2) nd rfl (by first | exact Or.inl rfl | exact Or.inr rfl)) (ss_one (s_if (t_truth (d_isi "str" rfl T.z_isinstance (d_var 2) rfl T.z_str (by decide +kernel) (by decide))) (ss_one (s_expr (d_meth PySem.F.plainAttrs_list PySem.F.slot_list_append PySem.F.type_list_append m_append (d_var 1) (a_cons (d_var 2) a_nil)))) (ss_one (s_expr (d_meth PySem.F.plainAttrs_list PySem.F.slot_list_extend PySem.F.type_list_extend m_extend (d_var 1) (a_cons (d_call c.names_in_thing hr rfl T.d_names_in_thing.mg T.d_names_in_thing.fn.kp T.d_names_in_thing.bi tk (a_cons (d_ix (d_var 2) d_int) a_nil)) a_nil)))))))
 (ss_one (s_ret (d_var 1)))))
theorem sc_row_told : FnScope n_row_told p_row_told (defScope s_row_told) := ⟨rfl, rfl, rfl, by decide +kernel, rfl, by decide +kernel, by decide +kernel⟩
theorem ok_row_told (fu : Nat) (c : Cal P w K mg base T k C) : FnOk P w K mg base (L2.CX P w) (k + 20 + 1) T.a_row_told T.f_row_told p_row_told (spD K mg (p_row_told).length (runDef false 5 (b_row_told fu C))) := by
  refine' fn_okL (N := n_row_told) T.d_row_told.fn sc_row_told ?hB ?hS ?body
  case hB => conv => lhs; whnf
  case hS => conv => lhs; whnf
  case body =>
  intro cdv A outer s H E hr nd tk pw
  exact (ss_cons (s_for pw rfl (i_it (d_var 1)) (g_tup (gs_cons 2 (gs_cons 3 (gs_cons 4 gs_nil)))) (pg_tup rfl (pgs_cons (pg_name (i := 2) nd rfl (by first | exact Or.inl rfl | exact Or.inr rfl)) (pgs_cons (pg_name (i := 3) nd rfl (by first | exact Or.inl rfl | exact Or.inr rfl)) (pgs_cons (pg_name (i := 4) nd rfl (by first | exact Or.inl rfl | exact Or.inr rfl)) pgs_nil)))) (ss_one (s_if (t_cmp (o_eq (room_w hr)) (d_var 2) (d_var 0) (nomark _)) (ss_one (s_ret (d_var 4))) ss_nil)))
 (ss_one (s_ret d_non)))
theorem sc_comes_to_itself : FnScope n_comes_to_itself p_comes_to_itself (defScope s_comes_to_itself) := ⟨rfl, rfl, rfl, by decide +kernel, rfl, by decide +kernel, by decide +kernel⟩
theorem ok_comes_to_itself (fu : Nat) (c : Cal P w K mg base T k C) : FnOk P w K mg base (L2.CX P w) (k + 20 + 1) T.a_comes_to_itself T.f_comes_to_itself p_comes_to_itself (spD K mg (p_comes_to_itself).length (runDef false 6 (b_comes_to_itself fu C))) := by
  refine' fn_okL (N := n_comes_to_itself) T.d_comes_to_itself.fn sc_comes_to_itself ?hB ?hS ?body
  case hB => conv => lhs; whnf
  case hS => conv => lhs; whnf
  case body =>
  intro cdv A outer s H E hr nd tk pw
  exact (ss_cons (s_set 2 nd d_dnew)
 (ss_cons (s_set 3 nd (d_lstM (a_cons (d_var 0) a_nil)))
 (ss_cons (s_while fu pw (t_cmp (o_ne (room_w hr)) (d_var 3) (d_lst a_nil) (nomark _)) (ss_cons (s_set 4 nd (d_call c.row_told hr rfl T.d_row_told.mg T.d_row_told.fn.kp T.d_row_told.bi tk (a_cons (d_meth0 PySem.F.plainAttrs_list PySem.F.slot_list_pop PySem.F.type_list_pop m_pop (d_var 3)) (a_cons (d_var 1) a_nil))))
 (ss_one (s_if (t_cmp o_isnot (d_var 4) d_non (nomark _)) (ss_one (s_for pw rfl (i_it (d_call c.names_in hr rfl T.d_names_in.mg T.d_names_in.fn.kp T.d_names_in.bi tk (a_cons (d_var 4) a_nil))) (g_name 5) (pg_name (i := 5) nd rfl (by first | exact Or.inl rfl | exact Or.inr rfl)) (ss_cons (s_if (t_cmp (o_eq (room_w hr)) (d_var 5) (d_var 0) (nomark _)) (ss_one (s_ret d_bl)) ss_nil)
 (ss_one (s_if (t_dnotin (room_w hr) (d_var 5) (d_var 2) (by rfl)) (ss_cons (s_dput (room_w hr) d_bl (d_var 2) (d_var 5))
 (ss_one (s_expr (d_meth PySem.F.plainAttrs_list PySem.F.slot_list_append PySem.F.type_list_append m_append (d_var 3) (a_cons (d_var 5) a_nil))))) ss_nil))))) ss_nil))))
 (ss_one (s_ret d_bl)))))
theorem sc_l_mixed : FnScope n_l_mixed p_l_mixed (defScope s_l_mixed) := ⟨rfl, rfl, rfl, by decide +kernel, rfl, by decide +kernel, by decide +kernel⟩
theorem ok_l_mixed (fu : Nat) (c : Cal P w K mg base T k C) : FnOk P w K mg base (L2.CX P w) (k + 20 + 1) T.a_l_mixed T.f_l_mixed p_l_mixed (spD K mg (p_l_mixed).length (runDef false 3 (b_l_mixed fu C))) := by
  refine' fn_okL (N := n_l_mixed) T.d_l_mixed.fn sc_l_mixed ?hB ?hS ?body
  case hB => conv => lhs; whnf
  case hS => conv => lhs; whnf
  case body =>
  intro cdv A outer s H E hr nd tk pw
  exact (ss_cons (s_set 2 nd (d_bin o_mod (d_bin o_mul (d_bin o_add (d_bin o_add (d_bin o_mod (d_var 0) d_int) (d_bin o_mul d_int (d_var 1))) d_int) d_int) d_int))
 (ss_cons (s_set 2 nd (d_bin o_mod (d_bin o_add (d_bin o_add (d_bin o_mul (d_var 2) (d_var 2)) (d_bin o_mul d_int (d_var 1))) d_int) d_int))
 (ss_one (s_ret (d_bin o_add (d_bin o_mul (d_var 2) d_int) (d_bin o_mod (d_bin o_add (d_bin o_add (d_bin o_mul (d_var 2) (d_var 2)) (d_bin o_mul d_int (d_var 2))) (d_var 1)) d_int))))))
theorem sc_l_deck : FnScope n_l_deck p_l_deck (defScope s_l_deck) := ⟨rfl, rfl, rfl, by decide +kernel, rfl, by decide +kernel, by decide +kernel⟩
theorem ok_l_deck (fu : Nat) (c : Cal P w K mg base T k C) : FnOk P w K mg base (L2.CX P w) (k + 20 + 1) T.a_l_deck T.f_l_deck p_l_deck (spD K mg (p_l_deck).length (runDef true 1 (b_l_deck fu C))) := by
  refine' fn_okL (N := n_l_deck) T.d_l_deck.fn sc_l_deck ?hB ?hS ?body
  case hB => conv => lhs; whnf
  case hS => conv => lhs; whnf
  case body =>
  intro cdv A outer s H E hr nd tk pw
  exact (ss_one (s_ret (d_lstM (a_cons (d_listRev true rfl rfl T.z_list rfl T.z_reversed (d_slice false (d_var 0) o_none (o_some d_int))) (a_cons (d_bin o_add (d_callB (c_sum rfl) (by rfl) T.z_sum (by decide +kernel) (a_cons (d_slice false (d_var 0) o_none (o_some d_int)) a_nil)) (d_callB c_len (by rfl) T.z_len (by decide +kernel) (a_cons (d_slice false (d_var 0) o_none (o_some d_int)) a_nil))) (a_cons d_int a_nil))))))
theorem sc_l_take : FnScope n_l_take p_l_take (defScope s_l_take) := ⟨rfl, rfl, rfl, by decide +kernel, rfl, by decide +kernel, by decide +kernel⟩
theorem ok_l_take (fu : Nat) (c : Cal P w K mg base T k C) : FnOk P w K mg base (L2.CX P w) (k + 20 + 1) T.a_l_take T.f_l_take p_l_take (spD K mg (p_l_take).length (runDef false 4 (b_l_take fu C))) := by
  refine' fn_okL (N := n_l_take) T.d_l_take.fn sc_l_take ?hB ?hS ?body
  case hB => conv => lhs; whnf
  case hS => conv => lhs; whnf
  case body =>
  intro cdv A outer s H E hr nd tk pw
  exact (ss_cons (s_set 2 nd (d_ix (d_var 0) d_int))
 (ss_cons (s_sub (d_bin o_add (d_ix (d_var 0) d_int) d_int) (d_var 0) d_int)
 (ss_cons (s_if (t_cmp (o_eq (room_w hr)) (d_var 2) (d_lst a_nil) (nomark _)) (ss_one (s_ret (d_bin o_mod (d_call c.l_mixed hr rfl T.d_l_mixed.mg T.d_l_mixed.fn.kp T.d_l_mixed.bi tk (a_cons (d_ix (d_var 0) d_int) (a_cons (d_ix (d_var 0) d_int) a_nil))) (d_var 1)))) ss_nil)
 (ss_cons (s_set 3 nd (d_meth0 PySem.F.plainAttrs_list PySem.F.slot_list_pop PySem.F.type_list_pop m_pop (d_var 2)))
 (ss_cons (s_if (t_cmp o_lt (d_var 3) (d_bin o_pow d_int d_int) (nomark _)) (ss_one (s_ret (d_bin o_mod (d_call c.l_mixed hr rfl T.d_l_mixed.mg T.d_l_mixed.fn.kp T.d_l_mixed.bi tk (a_cons (d_var 3) (a_cons (d_ix (d_var 0) d_int) a_nil))) (d_var 1)))) ss_nil)
 (ss_cons (s_if (t_cmp o_gt (d_bin o_div (d_var 3) (d_var 1)) d_int (nomark _)) (ss_one (s_expr (d_meth PySem.F.plainAttrs_list PySem.F.slot_list_append PySem.F.type_list_append m_append (d_var 2) (a_cons (d_bin o_div (d_var 3) (d_var 1)) a_nil)))) ss_nil)
 (ss_one (s_ret (d_bin o_mod (d_var 3) (d_var 1))))))))))
theorem sc_l_names : FnScope n_l_names p_l_names (defScope s_l_names) := ⟨rfl, rfl, rfl, by decide +kernel, rfl, by decide +kernel, by decide +kernel⟩
theorem ok_l_names (fu : Nat) (c : Cal P w K mg base T k C) : FnOk P w K mg base (L2.CX P w) (k + 20 + 1) T.a_l_names T.f_l_names p_l_names (spD K mg (p_l_names).length (runDef false 8 (b_l_names fu C))) := by
  refine' fn_okL (N := n_l_names) T.d_l_names.fn sc_l_names ?hB ?hS ?body
  case hB => conv => lhs; whnf
  case hS => conv => lhs; whnf
  case body =>
  intro cdv A outer s H E hr nd tk pw
  exact (ss_cons (s_set 2 nd d_str)
 (ss_cons (s_set 3 nd (d_lst (a_cons d_str (a_cons d_str (a_cons d_str (a_cons d_str (a_cons d_str (a_cons d_str (a_cons d_str (a_cons d_str (a_cons d_str (a_cons d_str (a_cons d_str (a_cons d_str a_nil))))))))))))))
 (ss_cons (s_set 4 nd (d_call c.l_take hr rfl T.d_l_take.mg T.d_l_take.fn.kp T.d_l_take.bi tk (a_cons (d_var 0) (a_cons d_int a_nil))))
 (ss_cons (s_set 5 nd (d_bin o_add (d_slice false (d_var 3) (o_some (d_var 4)) o_none) (d_slice false (d_var 3) o_none (o_some (d_var 4)))))
 (ss_cons (s_set 6 nd (d_meth PySem.F.plainAttrs_str PySem.F.slot_str_join PySem.F.type_str_join m_join d_str (a_cons (d_comp rfl nd (i_range1 rfl T.z_range (a_cons d_int a_nil)) (blkOk_by (own := [("_law_k", 7)]) (N := n_l_names) (sc := defScope s_l_names) (by decide +kernel)) rfl (g_name 7) (by decide) (fun _ _ _ _ _ => (pg_name (i := 7) nd rfl (by first | exact Or.inl rfl | exact Or.inr rfl))) (fun _ _ _ _ _ => ts_nil) (fun _ _ _ _ _ => (d_ix (d_var 2) (d_call c.l_take hr rfl T.d_l_take.mg T.d_l_take.fn.kp T.d_l_take.bi takes0 (a_cons (d_var 0) (a_cons d_int a_nil)))))) a_nil)))
 (ss_cons (s_if (t_cmp (o_eq (room_w hr)) (d_call c.l_take hr rfl T.d_l_take.mg T.d_l_take.fn.kp T.d_l_take.bi tk (a_cons (d_var 0) (a_cons d_int a_nil))) d_int (nomark _)) (ss_one (s_setLc 5 rfl nd (i_range1 rfl T.z_range (a_cons d_int a_nil)) (blkOk_by (own := [("_law_k", 7)]) (N := n_l_names) (sc := defScope s_l_names) (by decide +kernel)) rfl (g_name 7) (by decide) (fun _ _ _ _ _ => (pg_name (i := 7) nd rfl (by first | exact Or.inl rfl | exact Or.inr rfl))) (fun _ _ _ _ _ => ts_nil) (fun _ _ _ _ _ => (d_bin o_add d_str (d_slice false (d_var 6) o_none (o_some (d_var 7))))))) ss_nil)
 (ss_one (s_ret (d_slice false (d_var 5) o_none (o_some (d_var 1)))))))))))
theorem sc_l_number : FnScope n_l_number p_l_number (defScope s_l_number) := ⟨rfl, rfl, rfl, by decide +kernel, rfl, by decide +kernel, by decide +kernel⟩
theorem ok_l_number (fu : Nat) (c : Cal P w K mg base T k C) : FnOk P w K mg base (L2.CX P w) (k + 20 + 1) T.a_l_number T.f_l_number p_l_number (spD K mg (p_l_number).length (runDef false 2 (b_l_number fu C))) := by
  refine' fn_okL (N := n_l_number) T.d_l_number.fn sc_l_number ?hB ?hS ?body
  case hB => conv => lhs; whnf
  case hS => conv => lhs; whnf
  case body =>
  intro cdv A outer s H E hr nd tk pw
  exact (ss_cons (s_set 1 nd (d_lst (a_cons d_int (a_cons d_int (a_cons d_int (a_cons (d_call c.l_take hr rfl T.d_l_take.mg T.d_l_take.fn.kp T.d_l_take.bi tk (a_cons (d_var 0) (a_cons d_int a_nil))) (a_cons (d_bin o_sub (d_bin o_pow d_int d_int) d_int) (a_cons (d_call c.l_take hr rfl T.d_l_take.mg T.d_l_take.fn.kp T.d_l_take.bi tk (a_cons (d_var 0) (a_cons (d_bin o_pow d_int d_int) a_nil))) a_nil))))))))
 (ss_one (s_ret (d_ix (d_var 1) (d_call c.l_take hr rfl T.d_l_take.mg T.d_l_take.fn.kp T.d_l_take.bi tk (a_cons (d_var 0) (a_cons d_int a_nil)))))))
theorem sc_l_shuffle : FnScope n_l_shuffle p_l_shuffle (defScope s_l_shuffle) := ⟨rfl, rfl, rfl, by decide +kernel, rfl, by decide +kernel, by decide +kernel⟩
theorem ok_l_shuffle (fu : Nat) (c : Cal P w K mg base T k C) : FnOk P w K mg base (L2.CX P w) (k + 20 + 1) T.a_l_shuffle T.f_l_shuffle p_l_shuffle (spD K mg (p_l_shuffle).length (runDef false 4 (b_l_shuffle fu C))) := by
  refine' fn_okL (N := n_l_shuffle) T.d_l_shuffle.fn sc_l_shuffle ?hB ?hS ?body
  case hB => conv => lhs; whnf
  case hS => conv => lhs; whnf
  case body =>
  intro cdv A outer s H E hr nd tk pw
  exact (ss_cons (s_set 1 nd (d_slice false d_str o_none (o_some (d_ix (d_lst (a_cons (d_call c.l_take hr rfl T.d_l_take.mg T.d_l_take.fn.kp T.d_l_take.bi tk (a_cons (d_var 0) (a_cons d_int a_nil))) (a_cons (d_call c.l_take hr rfl T.d_l_take.mg T.d_l_take.fn.kp T.d_l_take.bi tk (a_cons (d_var 0) (a_cons d_int a_nil))) a_nil))) (d_callTy c_int (by rfl) T.z_int (by decide +kernel) (a_cons (d_cmp (o_eq (room_w hr)) (d_call c.l_take hr rfl T.d_l_take.mg T.d_l_take.fn.kp T.d_l_take.bi tk (a_cons (d_var 0) (a_cons d_int a_nil))) d_int (nomark _)) a_nil))))))
 (ss_cons (s_set 2 nd (d_bin o_mul (d_ix (d_lst (a_cons (d_call c.l_take hr rfl T.d_l_take.mg T.d_l_take.fn.kp T.d_l_take.bi tk (a_cons (d_var 0) (a_cons d_int a_nil))) (a_cons (d_call c.l_take hr rfl T.d_l_take.mg T.d_l_take.fn.kp T.d_l_take.bi tk (a_cons (d_var 0) (a_cons d_int a_nil))) a_nil))) (d_callTy c_int (by rfl) T.z_int (by decide +kernel) (a_cons (d_cmp (o_eq (room_w hr)) (d_call c.l_take hr rfl T.d_l_take.mg T.d_l_take.fn.kp T.d_l_take.bi tk (a_cons (d_var 0) (a_cons d_int a_nil))) d_int (nomark _)) a_nil))) (d_callTy c_int (by rfl) T.z_int (by decide +kernel) (a_cons (d_cmp (o_ne (room_w hr)) (d_var 1) d_str (nomark _)) a_nil))))
 (ss_one (s_ret (d_bin o_add (d_bin o_add (d_var 1) d_str) (d_meth PySem.F.plainAttrs_str PySem.F.slot_str_join PySem.F.type_str_join m_join d_str (a_cons (d_comp rfl nd (i_range1 rfl T.z_range (a_cons (d_var 2) a_nil)) (blkOk_by (own := [("_law_k", 3)]) (N := n_l_shuffle) (sc := defScope s_l_shuffle) (by decide +kernel)) rfl (g_name 3) (by decide) (fun _ _ _ _ _ => (pg_name (i := 3) nd rfl (by first | exact Or.inl rfl | exact Or.inr rfl))) (fun _ _ _ _ _ => ts_nil) (fun _ _ _ _ _ => (d_ix (d_var 1) (d_call c.l_take hr rfl T.d_l_take.mg T.d_l_take.fn.kp T.d_l_take.bi takes0 (a_cons (d_var 0) (a_cons (d_callB c_len (by rfl) T.z_len (by decide +kernel) (a_cons (d_var 1) a_nil)) a_nil)))))) a_nil)))))))
theorem sc_l_thing : FnScope n_l_thing p_l_thing (defScope s_l_thing) := ⟨rfl, rfl, rfl, by decide +kernel, rfl, by decide +kernel, by decide +kernel⟩
theorem ok_l_thing (fu : Nat) (c : Cal P w K mg base T k C) : FnOk P w K mg base (L2.CX P w) (k + 20 + 1) T.a_l_thing T.f_l_thing p_l_thing (spD K mg (p_l_thing).length (runDef false 5 (b_l_thing fu C))) := by
  refine' fn_okL (N := n_l_thing) T.d_l_thing.fn sc_l_thing ?hB ?hS ?body
  case hB => conv => lhs; whnf
  case hS => conv => lhs; whnf
  case body =>
  intro cdv A outer s H E hr nd tk pw
  exact (ss_cons (s_set 4 nd (d_call c.l_take hr rfl T.d_l_take.mg T.d_l_take.fn.kp T.d_l_take.bi tk (a_cons (d_var 0) (a_cons d_int a_nil))))
 (ss_cons (s_if (PW.pt (w_or (t_cmp (o_eq (room_w hr)) (d_var 2) d_int (nomark _)) (w_one_or (t_cmp o_lt (d_var 4) d_int (nomark _))))) (ss_one (s_ret (d_tup (a_cons d_str (a_cons (d_call c.l_number hr rfl T.d_l_number.mg T.d_l_number.fn.kp T.d_l_number.bi tk (a_cons (d_var 0) a_nil)) a_nil))))) ss_nil)
 (ss_cons (s_if (t_cmp (o_eq (room_w hr)) (d_var 4) d_int (nomark _)) (ss_one (s_ret (d_tup (a_cons d_str (a_cons (d_call c.l_row hr rfl T.d_l_row.mg T.d_l_row.fn.kp T.d_l_row.bi tk (a_cons (d_var 0) (a_cons (d_var 1) (a_cons (d_bin o_sub (d_var 2) d_int) (a_cons (d_var 3) a_nil))))) a_nil))))) ss_nil)
 (ss_one (s_ret (d_tup (a_cons d_str (a_cons (d_call c.l_stack hr rfl T.d_l_stack.mg T.d_l_stack.fn.kp T.d_l_stack.bi tk (a_cons (d_var 0) (a_cons (d_var 1) (a_cons (d_bin o_sub (d_var 2) d_int) (a_cons (d_var 3) a_nil))))) a_nil))))))))
theorem sc_l_stack : FnScope n_l_stack p_l_stack (defScope s_l_stack) := ⟨rfl, rfl, rfl, by decide +kernel, rfl, by decide +kernel, by decide +kernel⟩
theorem ok_l_stack (fu : Nat) (c : Cal P w K mg base T k C) : FnOk P w K mg base (L2.CX P w) (k + 20 + 1) T.a_l_stack T.f_l_stack p_l_stack (spD K mg (p_l_stack).length (runDef false 6 (b_l_stack fu C))) := by
  refine' fn_okL (N := n_l_stack) T.d_l_stack.fn sc_l_stack ?hB ?hS ?body
  case hB => conv => lhs; whnf
  case hS => conv => lhs; whnf
  case body =>
  intro cdv A outer s H E hr nd tk pw
  exact (ss_cons (s_set 4 nd (d_lstM a_nil))
 (ss_cons (s_for pw rfl (i_range1 rfl T.z_range (a_cons (d_call c.l_take hr rfl T.d_l_take.mg T.d_l_take.fn.kp T.d_l_take.bi tk (a_cons (d_var 0) (a_cons (d_ix (d_lst (a_cons d_int (a_cons d_int a_nil))) (d_callTy c_int (by rfl) T.z_int (by decide +kernel) (a_cons (d_cmp (o_eq (room_w hr)) (d_call c.l_take hr rfl T.d_l_take.mg T.d_l_take.fn.kp T.d_l_take.bi tk (a_cons (d_var 0) (a_cons d_int a_nil))) d_int (nomark _)) a_nil))) a_nil))) a_nil)) (g_name 5) (pg_name (i := 5) nd rfl (by first | exact Or.inl rfl | exact Or.inr rfl)) (ss_one (s_if (t_cmp o_gt (d_ix (d_var 3) d_int) d_int (nomark _)) (ss_cons (s_sub (d_bin o_sub (d_ix (d_var 3) d_int) d_int) (d_var 3) d_int)
 (ss_one (s_expr (d_meth PySem.F.plainAttrs_list PySem.F.slot_list_append PySem.F.type_list_append m_append (d_var 4) (a_cons (d_call c.l_thing hr rfl T.d_l_thing.mg T.d_l_thing.fn.kp T.d_l_thing.bi tk (a_cons (d_var 0) (a_cons (d_var 1) (a_cons (d_var 2) (a_cons (d_var 3) a_nil))))) a_nil))))) ss_nil)))
 (ss_one (s_ret (d_callTy c_tuple (by rfl) T.z_tuple (by decide +kernel) (a_cons (d_var 4) a_nil))))))
theorem sc_l_word : FnScope n_l_word p_l_word (defScope s_l_word) := ⟨rfl, rfl, rfl, by decide +kernel, rfl, by decide +kernel, by decide +kernel⟩
theorem ok_l_word (fu : Nat) (c : Cal P w K mg base T k C) : FnOk P w K mg base (L2.CX P w) (k + 20 + 1) T.a_l_word T.f_l_word p_l_word (spD K mg (p_l_word).length (runDef false 6 (b_l_word fu C))) := by
  refine' fn_okL (N := n_l_word) T.d_l_word.fn sc_l_word ?hB ?hS ?body
  case hB => conv => lhs; whnf
  case hS => conv => lhs; whnf
  case body =>
  intro cdv A outer s H E hr nd tk pw
  exact (ss_cons (s_set 4 nd (d_meth PySem.F.plainAttrs_str PySem.F.slot_str_split PySem.F.type_str_split (m_split false) d_str (a_cons d_str a_nil)))
 (ss_cons (s_sub (d_bin o_sub (d_ix (d_var 3) d_int) d_int) (d_var 3) d_int)
 (ss_cons (s_set 5 nd (d_call c.l_take hr rfl T.d_l_take.mg T.d_l_take.fn.kp T.d_l_take.bi tk (a_cons (d_var 0) (a_cons d_int a_nil))))
 (ss_cons (s_if (t_cmp o_lt (d_var 5) d_int (nomark _)) (ss_one (s_ret (d_ix (d_var 4) (d_call c.l_take hr rfl T.d_l_take.mg T.d_l_take.fn.kp T.d_l_take.bi tk (a_cons (d_var 0) (a_cons d_int a_nil)))))) ss_nil)
 (ss_cons (s_if (t_cmp (o_eq (room_w hr)) (d_var 5) d_int (nomark _)) (ss_one (s_ret (d_call c.l_shuffle hr rfl T.d_l_shuffle.mg T.d_l_shuffle.fn.kp T.d_l_shuffle.bi tk (a_cons (d_var 0) a_nil)))) ss_nil)
 (ss_cons (s_if (t_cmp (o_eq (room_w hr)) (d_var 5) d_int (nomark _)) (ss_one (s_ret (d_ix (d_var 1) (d_call c.l_take hr rfl T.d_l_take.mg T.d_l_take.fn.kp T.d_l_take.bi tk (a_cons (d_var 0) (a_cons (d_callB c_len (by rfl) T.z_len (by decide +kernel) (a_cons (d_var 1) a_nil)) a_nil)))))) ss_nil)
 (ss_one (s_ret (d_tup (a_cons d_str (a_cons (d_call c.l_thing hr rfl T.d_l_thing.mg T.d_l_thing.fn.kp T.d_l_thing.bi tk (a_cons (d_var 0) (a_cons (d_var 1) (a_cons (d_var 2) (a_cons (d_var 3) a_nil))))) a_nil)))))))))))
theorem sc_l_row : FnScope n_l_row p_l_row (defScope s_l_row) := ⟨rfl, rfl, rfl, by decide +kernel, rfl, by decide +kernel, by decide +kernel⟩
theorem ok_l_row (fu : Nat) (c : Cal P w K mg base T k C) : FnOk P w K mg base (L2.CX P w) (k + 20 + 1) T.a_l_row T.f_l_row p_l_row (spD K mg (p_l_row).length (runDef false 6 (b_l_row fu C))) := by
  refine' fn_okL (N := n_l_row) T.d_l_row.fn sc_l_row ?hB ?hS ?body
  case hB => conv => lhs; whnf
  case hS => conv => lhs; whnf
  case body =>
  intro cdv A outer s H E hr nd tk pw
  exact (ss_cons (s_set 4 nd (d_lstM a_nil))
 (ss_cons (s_for pw rfl (i_range1 rfl T.z_range (a_cons (d_call c.l_take hr rfl T.d_l_take.mg T.d_l_take.fn.kp T.d_l_take.bi tk (a_cons (d_var 0) (a_cons (d_ix (d_lst (a_cons d_int (a_cons d_int a_nil))) (d_callTy c_int (by rfl) T.z_int (by decide +kernel) (a_cons (d_cmp (o_eq (room_w hr)) (d_call c.l_take hr rfl T.d_l_take.mg T.d_l_take.fn.kp T.d_l_take.bi tk (a_cons (d_var 0) (a_cons d_int a_nil))) d_int (nomark _)) a_nil))) a_nil))) a_nil)) (g_name 5) (pg_name (i := 5) nd rfl (by first | exact Or.inl rfl | exact Or.inr rfl)) (ss_one (s_if (t_cmp o_gt (d_ix (d_var 3) d_int) d_int (nomark _)) (ss_one (s_expr (d_meth PySem.F.plainAttrs_list PySem.F.slot_list_append PySem.F.type_list_append m_append (d_var 4) (a_cons (d_call c.l_word hr rfl T.d_l_word.mg T.d_l_word.fn.kp T.d_l_word.bi tk (a_cons (d_var 0) (a_cons (d_var 1) (a_cons (d_var 2) (a_cons (d_var 3) a_nil))))) a_nil)))) ss_nil)))
 (ss_one (s_ret (d_callTy c_tuple (by rfl) T.z_tuple (by decide +kernel) (a_cons (d_var 4) a_nil))))))
theorem sc_l_named : FnScope n_l_named p_l_named (defScope s_l_named) := ⟨rfl, rfl, rfl, by decide +kernel, rfl, by decide +kernel, by decide +kernel⟩
theorem ok_l_named (fu : Nat) (c : Cal P w K mg base T k C) : FnOk P w K mg base (L2.CX P w) (k + 20 + 1) T.a_l_named T.f_l_named p_l_named (spD K mg (p_l_named).length (runDef false 6 (b_l_named fu C))) := by
  refine' fn_okL (N := n_l_named) T.d_l_named.fn sc_l_named ?hB ?hS ?body
  case hB => conv => lhs; whnf
  case hS => conv => lhs; whnf
  case body =>
  intro cdv A outer s H E hr nd tk pw
  exact (ss_cons (s_set 1 nd (d_lst a_nil))
 (ss_cons (s_set 2 nd (d_lstM (a_cons (d_tup (a_cons d_str (a_cons (d_var 0) a_nil))) a_nil)))
 (ss_cons (s_while fu pw (t_cmp (o_ne (room_w hr)) (d_var 2) (d_lst a_nil) (nomark _)) (ss_cons (s_asg (d_meth0 PySem.F.plainAttrs_list PySem.F.slot_list_pop PySem.F.type_list_pop m_pop (d_var 2)) (g_tup (gs_cons 3 (gs_cons 4 gs_nil))) (pg_tup rfl (pgs_cons (pg_name (i := 3) nd rfl (by first | exact Or.inl rfl | exact Or.inr rfl)) (pgs_cons (pg_name (i := 4) nd rfl (by first | exact Or.inl rfl | exact Or.inr rfl)) pgs_nil))))
 (ss_cons (s_if (t_cmp (o_eq (room_w hr)) (d_var 3) d_str (nomark _)) (ss_cons (s_set 1 nd (d_bin o_add (d_var 1) (d_comp rfl nd (i_it (d_var 4)) (blkOk_by (own := [("_law_word_here", 5)]) (N := n_l_named) (sc := defScope s_l_named) (by decide +kernel)) rfl (g_name 5) (by decide) (fun _ _ _ _ _ => (pg_name (i := 5) nd rfl (by first | exact Or.inl rfl | exact Or.inr rfl))) (fun _ _ _ _ _ => ts_one (t_truth (d_isi "str" rfl T.z_isinstance (d_var 5) rfl T.z_str (by decide +kernel) (by decide)))) (fun _ _ _ _ _ => (d_var 5)))))
 (ss_one (s_set 2 nd (d_bin o_addM (d_var 2) (d_comp rfl nd (i_it (d_var 4)) (blkOk_by (own := [("_law_word_here", 5)]) (N := n_l_named) (sc := defScope s_l_named) (by decide +kernel)) rfl (g_name 5) (by decide) (fun _ _ _ _ _ => (pg_name (i := 5) nd rfl (by first | exact Or.inl rfl | exact Or.inr rfl))) (fun _ _ _ _ _ => ts_one (t_truth (d_isi "tuple" rfl T.z_isinstance (d_var 5) rfl T.z_tuple (by decide +kernel) (by decide)))) (fun _ _ _ _ _ => (d_ix (d_var 5) d_int))))))) ss_nil)
 (ss_one (s_if (t_cmp (o_eq (room_w hr)) (d_var 3) d_str (nomark _)) (ss_one (s_set 2 nd (d_bin o_addM (d_var 2) (d_callTy c_list (by rfl) T.z_list (by decide +kernel) (a_cons (d_var 4) a_nil))))) ss_nil)))))
 (ss_one (s_ret (d_var 1))))))
theorem sc_l_book : FnScope n_l_book p_l_book (defScope s_l_book) := ⟨rfl, rfl, rfl, by decide +kernel, rfl, by decide +kernel, by decide +kernel⟩
theorem ok_l_book (fu : Nat) (c : Cal P w K mg base T k C) : FnOk P w K mg base (L2.CX P w) (k + 20 + 1) T.a_l_book T.f_l_book p_l_book (spD K mg (p_l_book).length (runDef false 8 (b_l_book fu C))) := by
  refine' fn_okL (N := n_l_book) T.d_l_book.fn sc_l_book ?hB ?hS ?body
  case hB => conv => lhs; whnf
  case hS => conv => lhs; whnf
  case body =>
  intro cdv A outer s H E hr nd tk pw
  exact (ss_cons (s_set 2 nd (d_call c.l_take hr rfl T.d_l_take.mg T.d_l_take.fn.kp T.d_l_take.bi tk (a_cons (d_var 0) (a_cons d_int a_nil))))
 (ss_cons (s_set 3 nd (d_lstM a_nil))
 (ss_cons (s_for pw rfl (i_range1 rfl T.z_range (a_cons (d_callB c_len (by rfl) T.z_len (by decide +kernel) (a_cons (d_var 1) a_nil)) a_nil)) (g_name 4) (pg_name (i := 4) nd rfl (by first | exact Or.inl rfl | exact Or.inr rfl)) (ss_cons (s_set 6 nd (d_var 1))
 (ss_cons (s_if (t_cmp (o_eq (room_w hr)) (d_var 2) d_int (nomark _)) (ss_one (s_set 6 nd (d_bin o_add (d_slice false (d_var 1) o_none (o_some (d_var 4))) (d_lst (a_cons d_str a_nil))))) ss_nil)
 (ss_cons (s_set 7 nd (d_call c.l_row hr rfl T.d_l_row.mg T.d_l_row.fn.kp T.d_l_row.bi tk (a_cons (d_var 0) (a_cons (d_var 6) (a_cons d_int (a_cons (d_lstM (a_cons d_int a_nil)) a_nil))))))
 (ss_cons (s_if (PW.pt (w_and (t_cmp (o_eq (room_w hr)) (d_var 2) d_int (nomark _)) (w_one_and (t_cmp o_lt (d_var 4) d_int (nomark _))))) (ss_one (s_set 7 nd (d_bin o_add (d_var 7) (d_tup (a_cons (d_tup (a_cons d_str (a_cons (d_tup (a_cons d_str (a_cons (d_tup (a_cons (d_ix (d_var 1) (d_bin o_mod (d_bin o_add (d_var 4) d_int) (d_callB c_len (by rfl) T.z_len (by decide +kernel) (a_cons (d_var 1) a_nil)))) a_nil)) a_nil))) a_nil))) a_nil))))) ss_nil)
 (ss_one (s_expr (d_meth PySem.F.plainAttrs_list PySem.F.slot_list_append PySem.F.type_list_append m_append (d_var 3) (a_cons (d_tup (a_cons (d_ix (d_var 1) (d_var 4)) (a_cons d_non (a_cons (d_var 7) a_nil)))) a_nil)))))))))
 (ss_cons (s_set 5 nd (d_call c.l_take hr rfl T.d_l_take.mg T.d_l_take.fn.kp T.d_l_take.bi tk (a_cons (d_var 0) (a_cons (d_callB c_len (by rfl) T.z_len (by decide +kernel) (a_cons (d_var 3) a_nil)) a_nil))))
 (ss_one (s_ret (d_callTy c_tuple (by rfl) T.z_tuple (by decide +kernel) (a_cons (d_bin o_add (d_slice false (d_var 3) (o_some (d_var 5)) o_none) (d_slice false (d_var 3) o_none (o_some (d_var 5)))) a_nil))))))))
theorem sc_l_comes : FnScope n_l_comes p_l_comes (defScope s_l_comes) := ⟨rfl, rfl, rfl, by decide +kernel, rfl, by decide +kernel, by decide +kernel⟩
theorem ok_l_comes (fu : Nat) (c : Cal P w K mg base T k C) : FnOk P w K mg base (L2.CX P w) (k + 20 + 1) T.a_l_comes T.f_l_comes p_l_comes (spD K mg (p_l_comes).length (runDef true 8 (b_l_comes fu C))) := by
  refine' fn_okL (N := n_l_comes) T.d_l_comes.fn sc_l_comes ?hB ?hS ?body
  case hB => conv => lhs; whnf
  case hS => conv => lhs; whnf
  case body =>
  intro cdv A outer s H E hr nd tk pw
  exact (ss_cons (s_set 1 nd d_dnew)
 (ss_cons (s_for pw rfl (i_it (d_var 0)) (g_tup (gs_cons 3 (gs_cons 4 (gs_cons 5 gs_nil)))) (pg_tup rfl (pgs_cons (pg_name (i := 3) nd rfl (by first | exact Or.inl rfl | exact Or.inr rfl)) (pgs_cons (pg_name (i := 4) nd rfl (by first | exact Or.inl rfl | exact Or.inr rfl)) (pgs_cons (pg_name (i := 5) nd rfl (by first | exact Or.inl rfl | exact Or.inr rfl)) pgs_nil)))) (ss_one (s_dput (room_w hr) (d_comp rfl nd (i_it (d_call c.l_named hr rfl T.d_l_named.mg T.d_l_named.fn.kp T.d_l_named.bi tk (a_cons (d_var 5) a_nil))) (blkOk_by (own := [("_law_word_here", 7)]) (N := n_l_comes) (sc := defScope s_l_comes) (by decide +kernel)) rfl (g_name 7) (by decide) (fun _ _ _ _ _ => (pg_name (i := 7) nd rfl (by first | exact Or.inl rfl | exact Or.inr rfl))) (fun _ _ _ _ _ => ts_nil) (fun _ _ _ _ _ => (d_var 7))) (d_var 1) (d_var 3))))
 (ss_cons (s_for pw rfl (i_range1 rfl T.z_range (a_cons (d_callB c_len (by rfl) T.z_len (by decide +kernel) (a_cons (d_var 0) a_nil)) a_nil)) (g_name 2) (pg_name (i := 2) nd rfl (by first | exact Or.inl rfl | exact Or.inr rfl)) (ss_one (s_for pw rfl (i_it (d_callTy (c_listK rfl) (by rfl) T.z_list (by decide +kernel) (a_cons (d_var 1) a_nil))) (g_name 3) (pg_name (i := 3) nd rfl (by first | exact Or.inl rfl | exact Or.inr rfl)) (ss_cons (s_set 6 nd (d_lst a_nil))
 (ss_cons (s_for pw rfl (i_it (d_dget (room_w hr) (d_var 1) (d_var 3))) (g_name 7) (pg_name (i := 7) nd rfl (by first | exact Or.inl rfl | exact Or.inr rfl)) (ss_one (s_set 6 nd (d_bin o_add (d_bin o_add (d_var 6) (d_lst (a_cons (d_var 7) a_nil))) (d_ddef (room_w hr) (d_var 1) (d_var 7) (d_lst a_nil) ⟨rfl, rfl, rfl, rfl⟩)))))
 (ss_one (s_dput (room_w hr) (d_sortSet rfl rfl T.z_sorted rfl T.z_set (d_var 6)) (d_var 1) (d_var 3))))))))
 (ss_one (s_ret (d_var 1))))))
theorem sc_law : FnScope n_law p_law (defScope s_law) := ⟨rfl, rfl, rfl, by decide +kernel, rfl, by decide +kernel, by decide +kernel⟩
theorem ok_law (fu : Nat) (c : Cal P w K mg base T k C) : FnOk P w K mg base (L2.CX P w) (k + 20 + 1) T.a_law T.f_law p_law (spD K mg (p_law).length (runDef false 8 (b_law fu C))) := by
  refine' fn_okL (N := n_law) T.d_law.fn sc_law ?hB ?hS ?body
  case hB => conv => lhs; whnf
  case hS => conv => lhs; whnf
  case body =>
  intro cdv A outer s H E hr nd tk pw
  exact (ss_cons (s_set 1 nd (d_call c.l_deck hr rfl T.d_l_deck.mg T.d_l_deck.fn.kp T.d_l_deck.bi tk (a_cons (d_var 0) a_nil)))
 (ss_cons (s_for pw rfl (i_range1 rfl T.z_range (a_cons d_int a_nil)) (g_name 2) (pg_name (i := 2) nd rfl (by first | exact Or.inl rfl | exact Or.inr rfl)) (ss_cons (s_set 3 nd (d_call c.l_names hr rfl T.d_l_names.mg T.d_l_names.fn.kp T.d_l_names.bi tk (a_cons (d_var 1) (a_cons (d_bin o_add d_int (d_call c.l_take hr rfl T.d_l_take.mg T.d_l_take.fn.kp T.d_l_take.bi tk (a_cons (d_var 1) (a_cons d_int a_nil)))) a_nil))))
 (ss_cons (s_set 4 nd (d_call c.l_book hr rfl T.d_l_book.mg T.d_l_book.fn.kp T.d_l_book.bi tk (a_cons (d_var 1) (a_cons (d_var 3) a_nil))))
 (ss_cons (s_set 5 nd (d_call c.l_comes hr rfl T.d_l_comes.mg T.d_l_comes.fn.kp T.d_l_comes.bi tk (a_cons (d_var 4) a_nil)))
 (ss_one (s_for pw rfl (i_it (d_bin o_add (d_var 3) (d_lst (a_cons d_str a_nil)))) (g_name 6) (pg_name (i := 6) nd rfl (by first | exact Or.inl rfl | exact Or.inr rfl)) (ss_cons (s_set 7 nd (d_call c.comes_to_itself hr rfl T.d_comes_to_itself.mg T.d_comes_to_itself.fn.kp T.d_comes_to_itself.bi tk (a_cons (d_var 6) (a_cons (d_var 4) a_nil))))
 (ss_one (s_if (PW.pt (w_or (t_not (t_truth (d_isi "bool" rfl T.z_isinstance (d_var 7) rfl T.z_bool (by decide +kernel) (by decide)))) (w_one_or (t_cmp (o_ne (room_w hr)) (d_var 7) (d_cmp (o_in (room_w hr)) (d_var 6) (d_ddef (room_w hr) (d_var 5) (d_var 6) (d_lst a_nil) ⟨rfl, rfl, rfl, rfl⟩) (by rfl)) (nomark _))))) (ss_one (s_ret d_bl)) ss_nil)))))))))
 (ss_one (s_ret d_bl))))
theorem cal (fu : Nat) : ∀ n : Nat, Cal P w K mg base T n (den fu n)
  | 0 => ⟨fn_zero, fn_zero, fn_zero, fn_zero, fn_zero, fn_zero, fn_zero, fn_zero, fn_zero, fn_zero, fn_zero, fn_zero, fn_zero, fn_zero, fn_zero, fn_zero, fn_zero, fn_zero⟩
  | n + 1 => ⟨ok_names_in_thing fu (cal fu n), ok_names_in fu (cal fu n), ok_row_told fu (cal fu n), ok_comes_to_itself fu (cal fu n), ok_l_mixed fu (cal fu n), ok_l_deck fu (cal fu n), ok_l_take fu (cal fu n), ok_l_names fu (cal fu n), ok_l_number fu (cal fu n), ok_l_shuffle fu (cal fu n), ok_l_thing fu (cal fu n), ok_l_stack fu (cal fu n), ok_l_word fu (cal fu n), ok_l_row fu (cal fu n), ok_l_named fu (cal fu n), ok_l_book fu (cal fu n), ok_l_comes fu (cal fu n), ok_law fu (cal fu n)⟩
end
end K68

namespace K68
open PySem L2 PyProof.Rows DL
def txMk {K : PySem.W.Frag} {h : Heap} {mg : Str → Option Value} (X : K.In h) (G : h.Ns mainGlobals mg)
    {f1 : Addr} {od1 an1 : Option Addr} {sl1 : Array (Option Value)} {oc1 kV1 dc1 pm1 cd1 ct1 : Value}
    {f2 : Addr} {od2 an2 : Option Addr} {sl2 : Array (Option Value)} {oc2 kV2 dc2 pm2 cd2 ct2 : Value}
    {f3 : Addr} {od3 an3 : Option Addr} {sl3 : Array (Option Value)} {oc3 kV3 dc3 pm3 cd3 ct3 : Value}
    {f4 : Addr} {od4 an4 : Option Addr} {sl4 : Array (Option Value)} {oc4 kV4 dc4 pm4 cd4 ct4 : Value}
    {f5 : Addr} {od5 an5 : Option Addr} {sl5 : Array (Option Value)} {oc5 kV5 dc5 pm5 cd5 ct5 : Value}
    {f6 : Addr} {od6 an6 : Option Addr} {sl6 : Array (Option Value)} {oc6 kV6 dc6 pm6 cd6 ct6 : Value}
    {f7 : Addr} {od7 an7 : Option Addr} {sl7 : Array (Option Value)} {oc7 kV7 dc7 pm7 cd7 ct7 : Value}
    {f8 : Addr} {od8 an8 : Option Addr} {sl8 : Array (Option Value)} {oc8 kV8 dc8 pm8 cd8 ct8 : Value}
    {f9 : Addr} {od9 an9 : Option Addr} {sl9 : Array (Option Value)} {oc9 kV9 dc9 pm9 cd9 ct9 : Value}
    {f10 : Addr} {od10 an10 : Option Addr} {sl10 : Array (Option Value)} {oc10 kV10 dc10 pm10 cd10 ct10 : Value}
    {f11 : Addr} {od11 an11 : Option Addr} {sl11 : Array (Option Value)} {oc11 kV11 dc11 pm11 cd11 ct11 : Value}
    {f12 : Addr} {od12 an12 : Option Addr} {sl12 : Array (Option Value)} {oc12 kV12 dc12 pm12 cd12 ct12 : Value}
    {f13 : Addr} {od13 an13 : Option Addr} {sl13 : Array (Option Value)} {oc13 kV13 dc13 pm13 cd13 ct13 : Value}
    {f14 : Addr} {od14 an14 : Option Addr} {sl14 : Array (Option Value)} {oc14 kV14 dc14 pm14 cd14 ct14 : Value}
    {f15 : Addr} {od15 an15 : Option Addr} {sl15 : Array (Option Value)} {oc15 kV15 dc15 pm15 cd15 ct15 : Value}
    {f16 : Addr} {od16 an16 : Option Addr} {sl16 : Array (Option Value)} {oc16 kV16 dc16 pm16 cd16 ct16 : Value}
    {f17 : Addr} {od17 an17 : Option Addr} {sl17 : Array (Option Value)} {oc17 kV17 dc17 pm17 cd17 ct17 : Value}
    {f18 : Addr} {od18 an18 : Option Addr} {sl18 : Array (Option Value)} {oc18 kV18 dc18 pm18 cd18 ct18 : Value}
    (a1 : PySem.W.nsIn K mainGlobals "names_in_thing" = some (some (.ref f1))) (l1 : K.lookup f1 = some ⟨oc1, od1, .func (PySem.W.fnOf "names_in_thing" "names_in_thing" (defArgs s_names_in_thing) (defBody s_names_in_thing) (defScope s_names_in_thing) .none kV1 dc1 pm1 an1 cd1 ct1), sl1⟩) (c1 : PySem.W.codeIn K cd1 "names_in_thing" = true) (k1 : PySem.W.keepIn K (.ref f1) = true)
    (a2 : PySem.W.nsIn K mainGlobals "names_in" = some (some (.ref f2))) (l2 : K.lookup f2 = some ⟨oc2, od2, .func (PySem.W.fnOf "names_in" "names_in" (defArgs s_names_in) (defBody s_names_in) (defScope s_names_in) .none kV2 dc2 pm2 an2 cd2 ct2), sl2⟩) (c2 : PySem.W.codeIn K cd2 "names_in" = true) (k2 : PySem.W.keepIn K (.ref f2) = true)
    (a3 : PySem.W.nsIn K mainGlobals "row_told" = some (some (.ref f3))) (l3 : K.lookup f3 = some ⟨oc3, od3, .func (PySem.W.fnOf "row_told" "row_told" (defArgs s_row_told) (defBody s_row_told) (defScope s_row_told) .none kV3 dc3 pm3 an3 cd3 ct3), sl3⟩) (c3 : PySem.W.codeIn K cd3 "row_told" = true) (k3 : PySem.W.keepIn K (.ref f3) = true)
    (a4 : PySem.W.nsIn K mainGlobals "comes_to_itself" = some (some (.ref f4))) (l4 : K.lookup f4 = some ⟨oc4, od4, .func (PySem.W.fnOf "comes_to_itself" "comes_to_itself" (defArgs s_comes_to_itself) (defBody s_comes_to_itself) (defScope s_comes_to_itself) .none kV4 dc4 pm4 an4 cd4 ct4), sl4⟩) (c4 : PySem.W.codeIn K cd4 "comes_to_itself" = true) (k4 : PySem.W.keepIn K (.ref f4) = true)
    (a5 : PySem.W.nsIn K mainGlobals "_law_mixed" = some (some (.ref f5))) (l5 : K.lookup f5 = some ⟨oc5, od5, .func (PySem.W.fnOf "_law_mixed" "_law_mixed" (defArgs s_l_mixed) (defBody s_l_mixed) (defScope s_l_mixed) .none kV5 dc5 pm5 an5 cd5 ct5), sl5⟩) (c5 : PySem.W.codeIn K cd5 "_law_mixed" = true) (k5 : PySem.W.keepIn K (.ref f5) = true)
    (a6 : PySem.W.nsIn K mainGlobals "_law_deck" = some (some (.ref f6))) (l6 : K.lookup f6 = some ⟨oc6, od6, .func (PySem.W.fnOf "_law_deck" "_law_deck" (defArgs s_l_deck) (defBody s_l_deck) (defScope s_l_deck) .none kV6 dc6 pm6 an6 cd6 ct6), sl6⟩) (c6 : PySem.W.codeIn K cd6 "_law_deck" = true) (k6 : PySem.W.keepIn K (.ref f6) = true)
    (a7 : PySem.W.nsIn K mainGlobals "_law_take" = some (some (.ref f7))) (l7 : K.lookup f7 = some ⟨oc7, od7, .func (PySem.W.fnOf "_law_take" "_law_take" (defArgs s_l_take) (defBody s_l_take) (defScope s_l_take) .none kV7 dc7 pm7 an7 cd7 ct7), sl7⟩) (c7 : PySem.W.codeIn K cd7 "_law_take" = true) (k7 : PySem.W.keepIn K (.ref f7) = true)
    (a8 : PySem.W.nsIn K mainGlobals "_law_names" = some (some (.ref f8))) (l8 : K.lookup f8 = some ⟨oc8, od8, .func (PySem.W.fnOf "_law_names" "_law_names" (defArgs s_l_names) (defBody s_l_names) (defScope s_l_names) .none kV8 dc8 pm8 an8 cd8 ct8), sl8⟩) (c8 : PySem.W.codeIn K cd8 "_law_names" = true) (k8 : PySem.W.keepIn K (.ref f8) = true)
    (a9 : PySem.W.nsIn K mainGlobals "_law_number" = some (some (.ref f9))) (l9 : K.lookup f9 = some ⟨oc9, od9, .func (PySem.W.fnOf "_law_number" "_law_number" (defArgs s_l_number) (defBody s_l_number) (defScope s_l_number) .none kV9 dc9 pm9 an9 cd9 ct9), sl9⟩) (c9 : PySem.W.codeIn K cd9 "_law_number" = true) (k9 : PySem.W.keepIn K (.ref f9) = true)
    (a10 : PySem.W.nsIn K mainGlobals "_law_shuffle" = some (some (.ref f10))) (l10 : K.lookup f10 = some ⟨oc10, od10, .func (PySem.W.fnOf "_law_shuffle" "_law_shuffle" (defArgs s_l_shuffle) (defBody s_l_shuffle) (defScope s_l_shuffle) .none kV10 dc10 pm10 an10 cd10 ct10), sl10⟩) (c10 : PySem.W.codeIn K cd10 "_law_shuffle" = true) (k10 : PySem.W.keepIn K (.ref f10) = true)
    (a11 : PySem.W.nsIn K mainGlobals "_law_thing" = some (some (.ref f11))) (l11 : K.lookup f11 = some ⟨oc11, od11, .func (PySem.W.fnOf "_law_thing" "_law_thing" (defArgs s_l_thing) (defBody s_l_thing) (defScope s_l_thing) .none kV11 dc11 pm11 an11 cd11 ct11), sl11⟩) (c11 : PySem.W.codeIn K cd11 "_law_thing" = true) (k11 : PySem.W.keepIn K (.ref f11) = true)
    (a12 : PySem.W.nsIn K mainGlobals "_law_stack" = some (some (.ref f12))) (l12 : K.lookup f12 = some ⟨oc12, od12, .func (PySem.W.fnOf "_law_stack" "_law_stack" (defArgs s_l_stack) (defBody s_l_stack) (defScope s_l_stack) .none kV12 dc12 pm12 an12 cd12 ct12), sl12⟩) (c12 : PySem.W.codeIn K cd12 "_law_stack" = true) (k12 : PySem.W.keepIn K (.ref f12) = true)
    (a13 : PySem.W.nsIn K mainGlobals "_law_word" = some (some (.ref f13))) (l13 : K.lookup f13 = some ⟨oc13, od13, .func (PySem.W.fnOf "_law_word" "_law_word" (defArgs s_l_word) (defBody s_l_word) (defScope s_l_word) .none kV13 dc13 pm13 an13 cd13 ct13), sl13⟩) (c13 : PySem.W.codeIn K cd13 "_law_word" = true) (k13 : PySem.W.keepIn K (.ref f13) = true)
    (a14 : PySem.W.nsIn K mainGlobals "_law_row" = some (some (.ref f14))) (l14 : K.lookup f14 = some ⟨oc14, od14, .func (PySem.W.fnOf "_law_row" "_law_row" (defArgs s_l_row) (defBody s_l_row) (defScope s_l_row) .none kV14 dc14 pm14 an14 cd14 ct14), sl14⟩) (c14 : PySem.W.codeIn K cd14 "_law_row" = true) (k14 : PySem.W.keepIn K (.ref f14) = true)
    (a15 : PySem.W.nsIn K mainGlobals "_law_named" = some (some (.ref f15))) (l15 : K.lookup f15 = some ⟨oc15, od15, .func (PySem.W.fnOf "_law_named" "_law_named" (defArgs s_l_named) (defBody s_l_named) (defScope s_l_named) .none kV15 dc15 pm15 an15 cd15 ct15), sl15⟩) (c15 : PySem.W.codeIn K cd15 "_law_named" = true) (k15 : PySem.W.keepIn K (.ref f15) = true)
    (a16 : PySem.W.nsIn K mainGlobals "_law_book" = some (some (.ref f16))) (l16 : K.lookup f16 = some ⟨oc16, od16, .func (PySem.W.fnOf "_law_book" "_law_book" (defArgs s_l_book) (defBody s_l_book) (defScope s_l_book) .none kV16 dc16 pm16 an16 cd16 ct16), sl16⟩) (c16 : PySem.W.codeIn K cd16 "_law_book" = true) (k16 : PySem.W.keepIn K (.ref f16) = true)
    (a17 : PySem.W.nsIn K mainGlobals "_law_comes" = some (some (.ref f17))) (l17 : K.lookup f17 = some ⟨oc17, od17, .func (PySem.W.fnOf "_law_comes" "_law_comes" (defArgs s_l_comes) (defBody s_l_comes) (defScope s_l_comes) .none kV17 dc17 pm17 an17 cd17 ct17), sl17⟩) (c17 : PySem.W.codeIn K cd17 "_law_comes" = true) (k17 : PySem.W.keepIn K (.ref f17) = true)
    (a18 : PySem.W.nsIn K mainGlobals "law" = some (some (.ref f18))) (l18 : K.lookup f18 = some ⟨oc18, od18, .func (PySem.W.fnOf "law" "law" (defArgs s_law) (defBody s_law) (defScope s_law) .none kV18 dc18 pm18 an18 cd18 ct18), sl18⟩) (c18 : PySem.W.codeIn K cd18 "law" = true) (k18 : PySem.W.keepIn K (.ref f18) = true)
    (z_bool : PySem.W.nsIn K mainGlobals "bool" = some none)
    (z_int : PySem.W.nsIn K mainGlobals "int" = some none)
    (z_isinstance : PySem.W.nsIn K mainGlobals "isinstance" = some none)
    (z_len : PySem.W.nsIn K mainGlobals "len" = some none)
    (z_list : PySem.W.nsIn K mainGlobals "list" = some none)
    (z_range : PySem.W.nsIn K mainGlobals "range" = some none)
    (z_reversed : PySem.W.nsIn K mainGlobals "reversed" = some none)
    (z_set : PySem.W.nsIn K mainGlobals "set" = some none)
    (z_sorted : PySem.W.nsIn K mainGlobals "sorted" = some none)
    (z_str : PySem.W.nsIn K mainGlobals "str" = some none)
    (z_sum : PySem.W.nsIn K mainGlobals "sum" = some none)
    (z_tuple : PySem.W.nsIn K mainGlobals "tuple" = some none) : Tx K mg where
  a_names_in_thing := f1
  f_names_in_thing := PySem.W.fnOf "names_in_thing" "names_in_thing" (defArgs s_names_in_thing) (defBody s_names_in_thing) (defScope s_names_in_thing) .none kV1 dc1 pm1 an1 cd1 ct1
  d_names_in_thing := ⟨fun_mk (st := s_names_in_thing) l1 c1 k1, PySem.W.mg_of X G a1, (fun_mk (st := s_names_in_thing) l1 c1 k1).binds (ps := p_names_in_thing) fun _ _ _ _ _ _ us hl => match us, hl with | [_], _ => rfl⟩
  a_names_in := f2
  f_names_in := PySem.W.fnOf "names_in" "names_in" (defArgs s_names_in) (defBody s_names_in) (defScope s_names_in) .none kV2 dc2 pm2 an2 cd2 ct2
  d_names_in := ⟨fun_mk (st := s_names_in) l2 c2 k2, PySem.W.mg_of X G a2, (fun_mk (st := s_names_in) l2 c2 k2).binds (ps := p_names_in) fun _ _ _ _ _ _ us hl => match us, hl with | [_], _ => rfl⟩
  a_row_told := f3
  f_row_told := PySem.W.fnOf "row_told" "row_told" (defArgs s_row_told) (defBody s_row_told) (defScope s_row_told) .none kV3 dc3 pm3 an3 cd3 ct3
  d_row_told := ⟨fun_mk (st := s_row_told) l3 c3 k3, PySem.W.mg_of X G a3, (fun_mk (st := s_row_told) l3 c3 k3).binds (ps := p_row_told) fun _ _ _ _ _ _ us hl => match us, hl with | [_, _], _ => rfl⟩
  a_comes_to_itself := f4
  f_comes_to_itself := PySem.W.fnOf "comes_to_itself" "comes_to_itself" (defArgs s_comes_to_itself) (defBody s_comes_to_itself) (defScope s_comes_to_itself) .none kV4 dc4 pm4 an4 cd4 ct4
  d_comes_to_itself := ⟨fun_mk (st := s_comes_to_itself) l4 c4 k4, PySem.W.mg_of X G a4, (fun_mk (st := s_comes_to_itself) l4 c4 k4).binds (ps := p_comes_to_itself) fun _ _ _ _ _ _ us hl => match us, hl with | [_, _], _ => rfl⟩
  a_l_mixed := f5
  f_l_mixed := PySem.W.fnOf "_law_mixed" "_law_mixed" (defArgs s_l_mixed) (defBody s_l_mixed) (defScope s_l_mixed) .none kV5 dc5 pm5 an5 cd5 ct5
  d_l_mixed := ⟨fun_mk (st := s_l_mixed) l5 c5 k5, PySem.W.mg_of X G a5, (fun_mk (st := s_l_mixed) l5 c5 k5).binds (ps := p_l_mixed) fun _ _ _ _ _ _ us hl => match us, hl with | [_, _], _ => rfl⟩
  a_l_deck := f6
  f_l_deck := PySem.W.fnOf "_law_deck" "_law_deck" (defArgs s_l_deck) (defBody s_l_deck) (defScope s_l_deck) .none kV6 dc6 pm6 an6 cd6 ct6
  d_l_deck := ⟨fun_mk (st := s_l_deck) l6 c6 k6, PySem.W.mg_of X G a6, (fun_mk (st := s_l_deck) l6 c6 k6).binds (ps := p_l_deck) fun _ _ _ _ _ _ us hl => match us, hl with | [_], _ => rfl⟩
  a_l_take := f7
  f_l_take := PySem.W.fnOf "_law_take" "_law_take" (defArgs s_l_take) (defBody s_l_take) (defScope s_l_take) .none kV7 dc7 pm7 an7 cd7 ct7
  d_l_take := ⟨fun_mk (st := s_l_take) l7 c7 k7, PySem.W.mg_of X G a7, (fun_mk (st := s_l_take) l7 c7 k7).binds (ps := p_l_take) fun _ _ _ _ _ _ us hl => match us, hl with | [_, _], _ => rfl⟩
  a_l_names := f8
  f_l_names := PySem.W.fnOf "_law_names" "_law_names" (defArgs s_l_names) (defBody s_l_names) (defScope s_l_names) .none kV8 dc8 pm8 an8 cd8 ct8
  d_l_names := ⟨fun_mk (st := s_l_names) l8 c8 k8, PySem.W.mg_of X G a8, (fun_mk (st := s_l_names) l8 c8 k8).binds (ps := p_l_names) fun _ _ _ _ _ _ us hl => match us, hl with | [_, _], _ => rfl⟩
  a_l_number := f9
  f_l_number := PySem.W.fnOf "_law_number" "_law_number" (defArgs s_l_number) (defBody s_l_number) (defScope s_l_number) .none kV9 dc9 pm9 an9 cd9 ct9
  d_l_number := ⟨fun_mk (st := s_l_number) l9 c9 k9, PySem.W.mg_of X G a9, (fun_mk (st := s_l_number) l9 c9 k9).binds (ps := p_l_number) fun _ _ _ _ _ _ us hl => match us, hl with | [_], _ => rfl⟩
  a_l_shuffle := f10
  f_l_shuffle := PySem.W.fnOf "_law_shuffle" "_law_shuffle" (defArgs s_l_shuffle) (defBody s_l_shuffle) (defScope s_l_shuffle) .none kV10 dc10 pm10 an10 cd10 ct10
  d_l_shuffle := ⟨fun_mk (st := s_l_shuffle) l10 c10 k10, PySem.W.mg_of X G a10, (fun_mk (st := s_l_shuffle) l10 c10 k10).binds (ps := p_l_shuffle) fun _ _ _ _ _ _ us hl => match us, hl with | [_], _ => rfl⟩
  a_l_thing := f11
  f_l_thing := PySem.W.fnOf "_law_thing" "_law_thing" (defArgs s_l_thing) (defBody s_l_thing) (defScope s_l_thing) .none kV11 dc11 pm11 an11 cd11 ct11
  d_l_thing := ⟨fun_mk (st := s_l_thing) l11 c11 k11, PySem.W.mg_of X G a11, (fun_mk (st := s_l_thing) l11 c11 k11).binds (ps := p_l_thing) fun _ _ _ _ _ _ us hl => match us, hl with | [_, _, _, _], _ => rfl⟩
  a_l_stack := f12
  f_l_stack := PySem.W.fnOf "_law_stack" "_law_stack" (defArgs s_l_stack) (defBody s_l_stack) (defScope s_l_stack) .none kV12 dc12 pm12 an12 cd12 ct12
  d_l_stack := ⟨fun_mk (st := s_l_stack) l12 c12 k12, PySem.W.mg_of X G a12, (fun_mk (st := s_l_stack) l12 c12 k12).binds (ps := p_l_stack) fun _ _ _ _ _ _ us hl => match us, hl with | [_, _, _, _], _ => rfl⟩
  a_l_word := f13
  f_l_word := PySem.W.fnOf "_law_word" "_law_word" (defArgs s_l_word) (defBody s_l_word) (defScope s_l_word) .none kV13 dc13 pm13 an13 cd13 ct13
  d_l_word := ⟨fun_mk (st := s_l_word) l13 c13 k13, PySem.W.mg_of X G a13, (fun_mk (st := s_l_word) l13 c13 k13).binds (ps := p_l_word) fun _ _ _ _ _ _ us hl => match us, hl with | [_, _, _, _], _ => rfl⟩
  a_l_row := f14
  f_l_row := PySem.W.fnOf "_law_row" "_law_row" (defArgs s_l_row) (defBody s_l_row) (defScope s_l_row) .none kV14 dc14 pm14 an14 cd14 ct14
  d_l_row := ⟨fun_mk (st := s_l_row) l14 c14 k14, PySem.W.mg_of X G a14, (fun_mk (st := s_l_row) l14 c14 k14).binds (ps := p_l_row) fun _ _ _ _ _ _ us hl => match us, hl with | [_, _, _, _], _ => rfl⟩
  a_l_named := f15
  f_l_named := PySem.W.fnOf "_law_named" "_law_named" (defArgs s_l_named) (defBody s_l_named) (defScope s_l_named) .none kV15 dc15 pm15 an15 cd15 ct15
  d_l_named := ⟨fun_mk (st := s_l_named) l15 c15 k15, PySem.W.mg_of X G a15, (fun_mk (st := s_l_named) l15 c15 k15).binds (ps := p_l_named) fun _ _ _ _ _ _ us hl => match us, hl with | [_], _ => rfl⟩
  a_l_book := f16
  f_l_book := PySem.W.fnOf "_law_book" "_law_book" (defArgs s_l_book) (defBody s_l_book) (defScope s_l_book) .none kV16 dc16 pm16 an16 cd16 ct16
  d_l_book := ⟨fun_mk (st := s_l_book) l16 c16 k16, PySem.W.mg_of X G a16, (fun_mk (st := s_l_book) l16 c16 k16).binds (ps := p_l_book) fun _ _ _ _ _ _ us hl => match us, hl with | [_, _], _ => rfl⟩
  a_l_comes := f17
  f_l_comes := PySem.W.fnOf "_law_comes" "_law_comes" (defArgs s_l_comes) (defBody s_l_comes) (defScope s_l_comes) .none kV17 dc17 pm17 an17 cd17 ct17
  d_l_comes := ⟨fun_mk (st := s_l_comes) l17 c17 k17, PySem.W.mg_of X G a17, (fun_mk (st := s_l_comes) l17 c17 k17).binds (ps := p_l_comes) fun _ _ _ _ _ _ us hl => match us, hl with | [_], _ => rfl⟩
  a_law := f18
  f_law := PySem.W.fnOf "law" "law" (defArgs s_law) (defBody s_law) (defScope s_law) .none kV18 dc18 pm18 an18 cd18 ct18
  d_law := ⟨fun_mk (st := s_law) l18 c18 k18, PySem.W.mg_of X G a18, (fun_mk (st := s_law) l18 c18 k18).binds (ps := p_law) fun _ _ _ _ _ _ us hl => match us, hl with | [_], _ => rfl⟩
  z_bool := PySem.W.mg_none_of X G z_bool
  z_int := PySem.W.mg_none_of X G z_int
  z_isinstance := PySem.W.mg_none_of X G z_isinstance
  z_len := PySem.W.mg_none_of X G z_len
  z_list := PySem.W.mg_none_of X G z_list
  z_range := PySem.W.mg_none_of X G z_range
  z_reversed := PySem.W.mg_none_of X G z_reversed
  z_set := PySem.W.mg_none_of X G z_set
  z_sorted := PySem.W.mg_none_of X G z_sorted
  z_str := PySem.W.mg_none_of X G z_str
  z_sum := PySem.W.mg_none_of X G z_sum
  z_tuple := PySem.W.mg_none_of X G z_tuple
def spLaw (K : PySem.W.Frag) : Sp := fun vs H Q _ => ∃ (a : Addr) (ns : List Int), vs = [.ref a] ∧ Only H ∧ SqL K H a (ns.map V.int) ∧ ns.length ≤ 63 ∧ ∀ H', Q (.bl true) H'
theorem law_sp {K : PySem.W.Frag} {mg : Str → Option Value} {G : List D → M D} (hG : ∀ ns : List Int, ns.length ≤ 63 → ∃ S', G [.fl (ns.map .int)] [] = .ok (.bl true) S') (vs : List V) (H : Hp) (Q : VK) (E : XK) (h : spLaw K vs H Q E) : spD K mg 1 G vs H Q E := by
  obtain ⟨a, ns, rfl, hO, hS, hl, k⟩ := h
  obtain ⟨S', hS'⟩ := hG ns hl
  refine ⟨⟨[], []⟩, [], [.fl (ns.map .int)], rfl, .cons (.fl (vs := ns.map V.int) ?_ (RDs.of_ints ns)) .nil, ⟨rfl, List.nodup_nil, fun i a m h => by simp at h, fun a h => by simp at h, fun a h => by simp at h⟩, ?_⟩
  · rcases hS with (hS | ⟨o, hS⟩) | hS
    · rcases hO a with z | ⟨o, xs, z⟩ <;> rw [hS] at z <;> cases z
    · exact .inl ⟨o, hS⟩
    · exact .inr hS
  · rw [hS']
    intro μ' H' _ _ v rv
    cases rv
    exact k H'
theorem all_mk {l : PySem.W.OpenLaw} {w : World} {K : PySem.W.Frag} {h : Heap} {mg : Str → Option Value} {fa : Addr} (fu n : Nat) (hG : ∀ ns : List Int, ns.length ≤ 63 → ∃ S', den fu n i_law [.fl (ns.map .int)] [] = .ok (.bl true) S') (X : K.In h) (G : h.Ns mainGlobals mg) (hfa : mg "law" = some (.ref fa))
    {f1 : Addr} {od1 an1 : Option Addr} {sl1 : Array (Option Value)} {oc1 kV1 dc1 pm1 cd1 ct1 : Value}
    {f2 : Addr} {od2 an2 : Option Addr} {sl2 : Array (Option Value)} {oc2 kV2 dc2 pm2 cd2 ct2 : Value}
    {f3 : Addr} {od3 an3 : Option Addr} {sl3 : Array (Option Value)} {oc3 kV3 dc3 pm3 cd3 ct3 : Value}
    {f4 : Addr} {od4 an4 : Option Addr} {sl4 : Array (Option Value)} {oc4 kV4 dc4 pm4 cd4 ct4 : Value}
    {f5 : Addr} {od5 an5 : Option Addr} {sl5 : Array (Option Value)} {oc5 kV5 dc5 pm5 cd5 ct5 : Value}
    {f6 : Addr} {od6 an6 : Option Addr} {sl6 : Array (Option Value)} {oc6 kV6 dc6 pm6 cd6 ct6 : Value}
    {f7 : Addr} {od7 an7 : Option Addr} {sl7 : Array (Option Value)} {oc7 kV7 dc7 pm7 cd7 ct7 : Value}
    {f8 : Addr} {od8 an8 : Option Addr} {sl8 : Array (Option Value)} {oc8 kV8 dc8 pm8 cd8 ct8 : Value}
    {f9 : Addr} {od9 an9 : Option Addr} {sl9 : Array (Option Value)} {oc9 kV9 dc9 pm9 cd9 ct9 : Value}
    {f10 : Addr} {od10 an10 : Option Addr} {sl10 : Array (Option Value)} {oc10 kV10 dc10 pm10 cd10 ct10 : Value}
    {f11 : Addr} {od11 an11 : Option Addr} {sl11 : Array (Option Value)} {oc11 kV11 dc11 pm11 cd11 ct11 : Value}
    {f12 : Addr} {od12 an12 : Option Addr} {sl12 : Array (Option Value)} {oc12 kV12 dc12 pm12 cd12 ct12 : Value}
    {f13 : Addr} {od13 an13 : Option Addr} {sl13 : Array (Option Value)} {oc13 kV13 dc13 pm13 cd13 ct13 : Value}
    {f14 : Addr} {od14 an14 : Option Addr} {sl14 : Array (Option Value)} {oc14 kV14 dc14 pm14 cd14 ct14 : Value}
    {f15 : Addr} {od15 an15 : Option Addr} {sl15 : Array (Option Value)} {oc15 kV15 dc15 pm15 cd15 ct15 : Value}
    {f16 : Addr} {od16 an16 : Option Addr} {sl16 : Array (Option Value)} {oc16 kV16 dc16 pm16 cd16 ct16 : Value}
    {f17 : Addr} {od17 an17 : Option Addr} {sl17 : Array (Option Value)} {oc17 kV17 dc17 pm17 cd17 ct17 : Value}
    {f18 : Addr} {od18 an18 : Option Addr} {sl18 : Array (Option Value)} {oc18 kV18 dc18 pm18 cd18 ct18 : Value}
    (a1 : PySem.W.nsIn K mainGlobals "names_in_thing" = some (some (.ref f1))) (l1 : K.lookup f1 = some ⟨oc1, od1, .func (PySem.W.fnOf "names_in_thing" "names_in_thing" (defArgs s_names_in_thing) (defBody s_names_in_thing) (defScope s_names_in_thing) .none kV1 dc1 pm1 an1 cd1 ct1), sl1⟩) (c1 : PySem.W.codeIn K cd1 "names_in_thing" = true) (k1 : PySem.W.keepIn K (.ref f1) = true)
    (a2 : PySem.W.nsIn K mainGlobals "names_in" = some (some (.ref f2))) (l2 : K.lookup f2 = some ⟨oc2, od2, .func (PySem.W.fnOf "names_in" "names_in" (defArgs s_names_in) (defBody s_names_in) (defScope s_names_in) .none kV2 dc2 pm2 an2 cd2 ct2), sl2⟩) (c2 : PySem.W.codeIn K cd2 "names_in" = true) (k2 : PySem.W.keepIn K (.ref f2) = true)
    (a3 : PySem.W.nsIn K mainGlobals "row_told" = some (some (.ref f3))) (l3 : K.lookup f3 = some ⟨oc3, od3, .func (PySem.W.fnOf "row_told" "row_told" (defArgs s_row_told) (defBody s_row_told) (defScope s_row_told) .none kV3 dc3 pm3 an3 cd3 ct3), sl3⟩) (c3 : PySem.W.codeIn K cd3 "row_told" = true) (k3 : PySem.W.keepIn K (.ref f3) = true)
    (a4 : PySem.W.nsIn K mainGlobals "comes_to_itself" = some (some (.ref f4))) (l4 : K.lookup f4 = some ⟨oc4, od4, .func (PySem.W.fnOf "comes_to_itself" "comes_to_itself" (defArgs s_comes_to_itself) (defBody s_comes_to_itself) (defScope s_comes_to_itself) .none kV4 dc4 pm4 an4 cd4 ct4), sl4⟩) (c4 : PySem.W.codeIn K cd4 "comes_to_itself" = true) (k4 : PySem.W.keepIn K (.ref f4) = true)
    (a5 : PySem.W.nsIn K mainGlobals "_law_mixed" = some (some (.ref f5))) (l5 : K.lookup f5 = some ⟨oc5, od5, .func (PySem.W.fnOf "_law_mixed" "_law_mixed" (defArgs s_l_mixed) (defBody s_l_mixed) (defScope s_l_mixed) .none kV5 dc5 pm5 an5 cd5 ct5), sl5⟩) (c5 : PySem.W.codeIn K cd5 "_law_mixed" = true) (k5 : PySem.W.keepIn K (.ref f5) = true)
    (a6 : PySem.W.nsIn K mainGlobals "_law_deck" = some (some (.ref f6))) (l6 : K.lookup f6 = some ⟨oc6, od6, .func (PySem.W.fnOf "_law_deck" "_law_deck" (defArgs s_l_deck) (defBody s_l_deck) (defScope s_l_deck) .none kV6 dc6 pm6 an6 cd6 ct6), sl6⟩) (c6 : PySem.W.codeIn K cd6 "_law_deck" = true) (k6 : PySem.W.keepIn K (.ref f6) = true)
    (a7 : PySem.W.nsIn K mainGlobals "_law_take" = some (some (.ref f7))) (l7 : K.lookup f7 = some ⟨oc7, od7, .func (PySem.W.fnOf "_law_take" "_law_take" (defArgs s_l_take) (defBody s_l_take) (defScope s_l_take) .none kV7 dc7 pm7 an7 cd7 ct7), sl7⟩) (c7 : PySem.W.codeIn K cd7 "_law_take" = true) (k7 : PySem.W.keepIn K (.ref f7) = true)
    (a8 : PySem.W.nsIn K mainGlobals "_law_names" = some (some (.ref f8))) (l8 : K.lookup f8 = some ⟨oc8, od8, .func (PySem.W.fnOf "_law_names" "_law_names" (defArgs s_l_names) (defBody s_l_names) (defScope s_l_names) .none kV8 dc8 pm8 an8 cd8 ct8), sl8⟩) (c8 : PySem.W.codeIn K cd8 "_law_names" = true) (k8 : PySem.W.keepIn K (.ref f8) = true)
    (a9 : PySem.W.nsIn K mainGlobals "_law_number" = some (some (.ref f9))) (l9 : K.lookup f9 = some ⟨oc9, od9, .func (PySem.W.fnOf "_law_number" "_law_number" (defArgs s_l_number) (defBody s_l_number) (defScope s_l_number) .none kV9 dc9 pm9 an9 cd9 ct9), sl9⟩) (c9 : PySem.W.codeIn K cd9 "_law_number" = true) (k9 : PySem.W.keepIn K (.ref f9) = true)
    (a10 : PySem.W.nsIn K mainGlobals "_law_shuffle" = some (some (.ref f10))) (l10 : K.lookup f10 = some ⟨oc10, od10, .func (PySem.W.fnOf "_law_shuffle" "_law_shuffle" (defArgs s_l_shuffle) (defBody s_l_shuffle) (defScope s_l_shuffle) .none kV10 dc10 pm10 an10 cd10 ct10), sl10⟩) (c10 : PySem.W.codeIn K cd10 "_law_shuffle" = true) (k10 : PySem.W.keepIn K (.ref f10) = true)
    (a11 : PySem.W.nsIn K mainGlobals "_law_thing" = some (some (.ref f11))) (l11 : K.lookup f11 = some ⟨oc11, od11, .func (PySem.W.fnOf "_law_thing" "_law_thing" (defArgs s_l_thing) (defBody s_l_thing) (defScope s_l_thing) .none kV11 dc11 pm11 an11 cd11 ct11), sl11⟩) (c11 : PySem.W.codeIn K cd11 "_law_thing" = true) (k11 : PySem.W.keepIn K (.ref f11) = true)
    (a12 : PySem.W.nsIn K mainGlobals "_law_stack" = some (some (.ref f12))) (l12 : K.lookup f12 = some ⟨oc12, od12, .func (PySem.W.fnOf "_law_stack" "_law_stack" (defArgs s_l_stack) (defBody s_l_stack) (defScope s_l_stack) .none kV12 dc12 pm12 an12 cd12 ct12), sl12⟩) (c12 : PySem.W.codeIn K cd12 "_law_stack" = true) (k12 : PySem.W.keepIn K (.ref f12) = true)
    (a13 : PySem.W.nsIn K mainGlobals "_law_word" = some (some (.ref f13))) (l13 : K.lookup f13 = some ⟨oc13, od13, .func (PySem.W.fnOf "_law_word" "_law_word" (defArgs s_l_word) (defBody s_l_word) (defScope s_l_word) .none kV13 dc13 pm13 an13 cd13 ct13), sl13⟩) (c13 : PySem.W.codeIn K cd13 "_law_word" = true) (k13 : PySem.W.keepIn K (.ref f13) = true)
    (a14 : PySem.W.nsIn K mainGlobals "_law_row" = some (some (.ref f14))) (l14 : K.lookup f14 = some ⟨oc14, od14, .func (PySem.W.fnOf "_law_row" "_law_row" (defArgs s_l_row) (defBody s_l_row) (defScope s_l_row) .none kV14 dc14 pm14 an14 cd14 ct14), sl14⟩) (c14 : PySem.W.codeIn K cd14 "_law_row" = true) (k14 : PySem.W.keepIn K (.ref f14) = true)
    (a15 : PySem.W.nsIn K mainGlobals "_law_named" = some (some (.ref f15))) (l15 : K.lookup f15 = some ⟨oc15, od15, .func (PySem.W.fnOf "_law_named" "_law_named" (defArgs s_l_named) (defBody s_l_named) (defScope s_l_named) .none kV15 dc15 pm15 an15 cd15 ct15), sl15⟩) (c15 : PySem.W.codeIn K cd15 "_law_named" = true) (k15 : PySem.W.keepIn K (.ref f15) = true)
    (a16 : PySem.W.nsIn K mainGlobals "_law_book" = some (some (.ref f16))) (l16 : K.lookup f16 = some ⟨oc16, od16, .func (PySem.W.fnOf "_law_book" "_law_book" (defArgs s_l_book) (defBody s_l_book) (defScope s_l_book) .none kV16 dc16 pm16 an16 cd16 ct16), sl16⟩) (c16 : PySem.W.codeIn K cd16 "_law_book" = true) (k16 : PySem.W.keepIn K (.ref f16) = true)
    (a17 : PySem.W.nsIn K mainGlobals "_law_comes" = some (some (.ref f17))) (l17 : K.lookup f17 = some ⟨oc17, od17, .func (PySem.W.fnOf "_law_comes" "_law_comes" (defArgs s_l_comes) (defBody s_l_comes) (defScope s_l_comes) .none kV17 dc17 pm17 an17 cd17 ct17), sl17⟩) (c17 : PySem.W.codeIn K cd17 "_law_comes" = true) (k17 : PySem.W.keepIn K (.ref f17) = true)
    (a18 : PySem.W.nsIn K mainGlobals "law" = some (some (.ref f18))) (l18 : K.lookup f18 = some ⟨oc18, od18, .func (PySem.W.fnOf "law" "law" (defArgs s_law) (defBody s_law) (defScope s_law) .none kV18 dc18 pm18 an18 cd18 ct18), sl18⟩) (c18 : PySem.W.codeIn K cd18 "law" = true) (k18 : PySem.W.keepIn K (.ref f18) = true)
    (z_bool : PySem.W.nsIn K mainGlobals "bool" = some none)
    (z_int : PySem.W.nsIn K mainGlobals "int" = some none)
    (z_isinstance : PySem.W.nsIn K mainGlobals "isinstance" = some none)
    (z_len : PySem.W.nsIn K mainGlobals "len" = some none)
    (z_list : PySem.W.nsIn K mainGlobals "list" = some none)
    (z_range : PySem.W.nsIn K mainGlobals "range" = some none)
    (z_reversed : PySem.W.nsIn K mainGlobals "reversed" = some none)
    (z_set : PySem.W.nsIn K mainGlobals "set" = some none)
    (z_sorted : PySem.W.nsIn K mainGlobals "sorted" = some none)
    (z_str : PySem.W.nsIn K mainGlobals "str" = some none)
    (z_sum : PySem.W.nsIn K mainGlobals "sum" = some none)
    (z_tuple : PySem.W.nsIn K mainGlobals "tuple" = some none) :
    ∃ fd : FuncData, (∀ (s : Shared) (v : Value), BindsTo s fd ⟨[v], []⟩ [("_law_script", v)]) ∧ ∀ base : Heap, K.In base → base.Ns mainGlobals mg → FnOk l.prog w K mg base (L2.CX l.prog w) (n + 20) fa fd ["_law_script"] (spLaw K) := by
  have e := hfa.symm.trans (PySem.W.mg_of X G a18)
  cases e
  exact ⟨PySem.W.fnOf "law" "law" (defArgs s_law) (defBody s_law) (defScope s_law) .none kV18 dc18 pm18 an18 cd18 ct18, fun s v => .of_eq rfl, fun base _ _ => (cal (T := txMk X G a1 l1 c1 k1 a2 l2 c2 k2 a3 l3 c3 k3 a4 l4 c4 k4 a5 l5 c5 k5 a6 l6 c6 k6 a7 l7 c7 k7 a8 l8 c8 k8 a9 l9 c9 k9 a10 l10 c10 k10 a11 l11 c11 k11 a12 l12 c12 k12 a13 l13 c13 k13 a14 l14 c14 k14 a15 l15 c15 k15 a16 l16 c16 k16 a17 l17 c17 k17 a18 l18 c18 k18 z_bool z_int z_isinstance z_len z_list z_range z_reversed z_set z_sorted z_str z_sum z_tuple) fu n).law.imp (law_sp hG)⟩
end K68

namespace K68
open PySem L2 DL
variable {fu n : Nat} {S : Sto} {F : D → Sto → Prop} {E : Exc → Sto → Prop}
theorem isiN_ss : isiN "str" "str" = true := by decide
theorem isiN_tt : isiN "tuple" "tuple" = true := by decide
theorem isiN_ii : isiN "int" "int" = true := by decide
theorem isiN_ib : isiN "int" "bool" = false := by decide
theorem isiN_bi : isiN "bool" "int" = true := by decide
theorem isiN_bb : isiN "bool" "bool" = true := by decide
theorem isiN_ts : isiN "tuple" "str" = false := by decide
theorem isiN_st : isiN "str" "tuple" = false := by decide
theorem isiN_lt : isiN "list" "tuple" = false := by decide
theorem isiN_nt : isiN "NoneType" "tuple" = false := by decide
theorem isiN_ns : isiN "NoneType" "str" = false := by decide
theorem isiN_ni : isiN "NoneType" "int" = false := by decide
theorem isiN_it : isiN "int" "tuple" = false := by decide
theorem isiN_si : isiN "str" "int" = false := by decide
theorem isiN_ti : isiN "tuple" "int" = false := by decide
theorem isiN_bt : isiN "bool" "tuple" = false := by decide
def small : List Nat := [97, 98, 99, 100, 101, 102, 103, 104, 105, 106, 107, 108, 109, 110, 111, 112, 113, 114, 115, 116, 117, 118, 119, 120, 121, 122]
theorem small_eq : (Str.ofString "abcdefghijklmnopqrstuvwxyz").cps.toList = small := by decide +kernel
def basics : List Str := ["plus", "minus", "times", "less", "same", "do", "dip", "if", "while", "repeat", "join", "wrap", "put", "part", "each"]
def nameB (z : Str) : Bool := decide (1 ≤ z.length) && decide (z.length ≤ 8) && !decide (z ∈ basics) && z.cps.toList.all fun c => decide (c ∈ small)
def IsSh (z : Str) : Prop := ∃ a b : List Nat, z = (⟨a.toArray⟩ : Str) ++ (⟨#[45]⟩ : Str) ++ (⟨b.toArray⟩ : Str) ∧ (∃ m, m ≤ 8 ∧ a = [97, 98, 99, 100, 101, 102, 103, 104].take m) ∧ b.length ≤ 12 ∧ ∀ x ∈ b, x ∈ a
theorem dash_eq : Str.ofString "-" = ⟨#[45]⟩ := by decide +kernel
theorem letters_eq : Str.ofString "abcdefgh" = ⟨#[97, 98, 99, 100, 101, 102, 103, 104]⟩ := by decide +kernel
theorem iLst_strs {l : List Str} : iLst S (.lst (l.map .str)) = some (l.map .str) := rfl
def NameP (z : Str) : Prop := 1 ≤ z.length ∧ z.length ≤ 8 ∧ z ∉ basics ∧ ∀ c ∈ z.cps.toList, c ∈ small
theorem NameP.b {z : Str} (h : NameP z) : nameB z = true := by
  obtain ⟨a, b, c, d⟩ := h
  simp only [nameB, Bool.and_eq_true, decide_eq_true_eq, Bool.not_eq_true', decide_eq_false_iff_not, List.all_eq_true]
  exact ⟨⟨⟨a, b⟩, c⟩, d⟩
def WS (z : Str) : Prop := z.length ≤ 100 ∧ (z ∈ basics ∨ NameP z ∨ IsSh z)
def Num (d : D) : Prop := ∃ i : Int, d = .tup [.str "number", .int i] ∧ 0 ≤ i ∧ i < 1000000000000
def ThG (B : Nat) (Q : Str → Prop) : Nat → D → Prop
  | 0, d => Num d
  | k + 1, d => Num d ∨ (∃ ws, d = .tup [.str "row", .tup ws] ∧ ws.length ≤ B ∧ ∀ w ∈ ws, (∃ z, w = .str z ∧ WS z ∧ Q z) ∨ ∃ t, w = .tup [.str "push", t] ∧ ThG B Q k t) ∨
      (∃ ts, d = .tup [.str "list", .tup ts] ∧ ts.length ≤ B ∧ ∀ t ∈ ts, ThG B Q k t)
def WdG (B : Nat) (Q : Str → Prop) (k : Nat) (w : D) : Prop := (∃ z, w = .str z ∧ WS z ∧ Q z) ∨ ∃ t, w = .tup [.str "push", t] ∧ ThG B Q k t
theorem ThG.num {B : Nat} {Q : Str → Prop} {d : D} (h : Num d) : ∀ k, ThG B Q k d
  | 0 => h
  | _ + 1 => .inl h
theorem tr_push {t : D} (h : tr t) : tr (.tup [.str "push", t]) := by
  have h' : t.lo 0 = true := h
  simp [DL.tr, D.lo, D.los, h']
theorem ThG.tr {B : Nat} {Q : Str → Prop} : ∀ {k : Nat} {d : D}, ThG B Q k d → tr d
  | 0, d, ⟨i, e, _⟩ => by subst e; rfl
  | k + 1, d, h => by
    rcases h with ⟨i, rfl, _⟩ | ⟨ws, rfl, _, h⟩ | ⟨ts, rfl, _, h⟩
    · rfl
    · have : D.los 0 ws = true := trs fun w hw => by
        rcases h w hw with ⟨z, rfl, _⟩ | ⟨t, rfl, q⟩
        · rfl
        · exact tr_push (ThG.tr q)
      simp [DL.tr, D.lo, D.los, this]
    · have : D.los 0 ts = true := trs fun t ht => ThG.tr (h t ht)
      simp [DL.tr, D.lo, D.los, this]
theorem WdG.tr {B k : Nat} {Q : Str → Prop} {w : D} (h : WdG B Q k w) : tr w := by
  rcases h with ⟨z, rfl, _⟩ | ⟨t, rfl, q⟩
  · rfl
  · exact tr_push q.tr
end K68

namespace K68
open PySem L2 DL
variable {fu n : Nat} {R S : Sto} {F : D → Sto → Prop} {E : Exc → Sto → Prop}
/-! the draws -/
theorem mixed_ok {x y : Int} (hS : OKS S) (hF : ∀ v : Int, F (.int v) S) : wp (den fu (n + 1) i_l_mixed [.int x, .int y] S) F E := by
  show wp (runDef false 3 (b_l_mixed fu (den fu n)) _ _) _ _
  simp only [b_l_mixed, fin_intO hS, wp_ok, wp_ret, wp_stuck, wp_bad, wp_bnd, wp_if, wp_fif, wps_ok_nx, wps_ok_rt, wps_ok_bk, wps_ok_ct, wps_ok_xc, wps_bad, wps_lft, wps_seq, wps_nil, wps_ret, wps_expr, wps_asg, wps_if, wp_run, wps_for, wps_while, wp_comp, wp_var, wp_C, wp_bin, wp_un, wp_T, wp_Tb, wp_asBl, wp_truthBl, wp_bAnd, wp_bOr, wp_bNot, wp_eIf, wp_eAnd, wp_eOr, wp_eNot, blCase_bl, wp_chain, wp_aNil, wp_aCons, wp_tup, wp_lst, wp_lstM, wp_call, wp_cl1, wp_cl2, wp_cl3, wp_cl4, wp_cl5, wp_meth, wp_isi, wp_oNone, wp_oSome, wp_sl, wp_it, wp_range1, wp_range2, wp_bYes, gEq_str, gNe_str, gEq_int, gNe_int, gEq_bl, gNe_bl, gIs_bl, gIsNot_bl, gAdd_int, gSub_int, gC_int, gI_int, gAdd_str, gAdd_tup, gAdd_lst, gNeg_int, gIx_tup, gIx_lst, gLen_tup, gLen_lst, gLen_str, gInt_int, gInt_bl, gTuple_lst, gTuple_tup, gList_lst, gList_tup, gSl_tup, gSl_lst, gSl_fl, gSl_str, srcL_tup, srcL_lst, srcL_fl, srcL_str, srcR1_int, typN, startR, List.map_cons, List.map_nil, List.length_cons, List.length_nil, Nat.reduceAdd, Nat.reduceSub, Nat.zero_add, Nat.sub_self, Nat.sub_zero, List.replicate_zero, List.replicate_succ, List.cons_append, List.nil_append, List.append_nil, List.getElem?_cons_zero, List.getElem?_cons_succ, List.set_cons_zero, List.set_cons_succ, List.set_nil, List.getElem?_nil, Option.some.injEq, exists_eq_left', exists_eq_left, exists_eq_right, reduceCtorEq, false_and, and_false, true_and, and_true, exists_false, exists_const, wipeR, Nat.zero_le, String.reduceEq, D.int.injEq, D.str.injEq, D.bl.injEq, atI_0, atI_1, atI_2, atI_3, atI_4, beq_self_eq_true, not_true_eq_false, not_false_eq_true, Int.cast_ofNat_Int, Int.reduceEq, Int.reduceLE, Int.reduceLT, Int.reduceAdd, Int.reduceSub, Int.reduceMul, Int.reduceNeg, if_true, if_false, ite_true, ite_false, Bool.false_eq_true, if_neg, if_pos, decide_eq_true_eq, Bool.not_eq_true', decide_eq_false_iff_not, eq_self_iff_true, decide_true, decide_false, Bool.not_true, Bool.not_false]
  have h3 := Int.emod_nonneg ((x % 2147483629 + 7919 * y + 1) * 48271) (show (2147483647 : Int) ≠ 0 by decide)
  have h4 := Int.emod_lt_of_pos ((x % 2147483629 + 7919 * y + 1) * 48271) (show (0 : Int) < 2147483647 by decide)
  generalize ((x % 2147483629 + 7919 * y + 1) * 48271) % 2147483647 = b at h3 h4
  have h5 := Int.emod_nonneg (b * b + 69621 * y + 7) (show (2147483587 : Int) ≠ 0 by decide)
  have h6 := Int.emod_lt_of_pos (b * b + 69621 * y + 7) (show (0 : Int) < 2147483587 by decide)
  exact ⟨cMul_l (by decide) (by decide), cMul_r (by decide) (by decide), cMul_l h3 (by omega), cMul_l (by decide) (by decide), cMul_r (by decide) (by decide), cMul_l h5 (by omega), cMul_l (by decide) (by decide), hF _⟩
theorem take_ok {m : Int} {N : Nat} (hN : 2 ≤ N) (h : DS R S) (hm : 0 < m) (hm2 : m < 18446744073709551616) (hF : ∀ (v : Int) (S' : Sto), 0 ≤ v → v < m → DS R S' → F (.int v) S') : wp (den fu N i_l_take [.ref 1, .int m] S) F E := by
  obtain ⟨N', rfl⟩ : ∃ N', N = N' + 2 := ⟨N - 2, by omega⟩
  show wp (runDef false 4 (b_l_take fu (den fu (N' + 1))) _ _) _ _
  obtain ⟨cells, a, b, hc, at0, at1, up0, up1⟩ := h.cells
  have h1 := up1 a (b + 1)
  have hl1 : (S.set 1 (.lst [.ref 0, .int a, .int (b + 1)])).length = S.length := by simp
  have st : ∀ d, wp (gSet (.ref 1) (.int 2) (.int d) S) = wp (.ok () (S.set 1 (.lst [.ref 0, .int a, .int d]))) := fun d => by
    funext F E
    exact propext (gSet_ref (j := 2) at1 (by show ixN 3 2 = some 2; decide))
  simp only [b_l_take, gIx_ref at1, wps_sub, st, wp_ok, wp_ret, wp_stuck, wp_bad, wp_bnd, wp_if, wp_fif, wps_ok_nx, wps_ok_rt, wps_ok_bk, wps_ok_ct, wps_ok_xc, wps_bad, wps_lft, wps_seq, wps_nil, wps_ret, wps_expr, wps_asg, wps_if, wp_run, wps_for, wps_while, wp_comp, wp_var, wp_C, wp_bin, wp_un, wp_T, wp_Tb, wp_asBl, wp_truthBl, wp_bAnd, wp_bOr, wp_bNot, wp_eIf, wp_eAnd, wp_eOr, wp_eNot, blCase_bl, wp_chain, wp_aNil, wp_aCons, wp_tup, wp_lst, wp_lstM, wp_call, wp_cl1, wp_cl2, wp_cl3, wp_cl4, wp_cl5, wp_meth, wp_isi, wp_oNone, wp_oSome, wp_sl, wp_it, wp_range1, wp_range2, wp_bYes, gEq_str, gNe_str, gEq_int, gNe_int, gEq_bl, gNe_bl, gIs_bl, gIsNot_bl, gAdd_int, gSub_int, gC_int, gI_int, gAdd_str, gAdd_tup, gAdd_lst, gNeg_int, gIx_tup, gIx_lst, gLen_tup, gLen_lst, gLen_str, gInt_int, gInt_bl, gTuple_lst, gTuple_tup, gList_lst, gList_tup, gSl_tup, gSl_lst, gSl_fl, gSl_str, srcL_tup, srcL_lst, srcL_fl, srcL_str, srcR1_int, typN, startR, List.map_cons, List.map_nil, List.length_cons, List.length_nil, Nat.reduceAdd, Nat.reduceSub, Nat.zero_add, Nat.sub_self, Nat.sub_zero, List.replicate_zero, List.replicate_succ, List.cons_append, List.nil_append, List.append_nil, List.getElem?_cons_zero, List.getElem?_cons_succ, List.set_cons_zero, List.set_cons_succ, List.set_nil, List.getElem?_nil, Option.some.injEq, exists_eq_left', exists_eq_left, exists_eq_right, reduceCtorEq, false_and, and_false, true_and, and_true, exists_false, exists_const, wipeR, Nat.zero_le, String.reduceEq, D.int.injEq, D.str.injEq, D.bl.injEq, atI_0, atI_1, atI_2, atI_3, atI_4, beq_self_eq_true, not_true_eq_false, not_false_eq_true, Int.cast_ofNat_Int, Int.reduceEq, Int.reduceLE, Int.reduceLT, Int.reduceAdd, Int.reduceSub, Int.reduceMul, Int.reduceNeg, if_true, if_false, ite_true, ite_false, Bool.false_eq_true, if_neg, if_pos, decide_eq_true_eq, Bool.not_eq_true', decide_eq_false_iff_not, eq_self_iff_true, decide_true, decide_false, Bool.not_true, Bool.not_false]
  have two : (2 : Nat) ≤ S.length := h.two
  obtain ⟨c1, a1, b1, hc1, at0', at1', up0', up1'⟩ := h1.cells
  have e1 : c1 = cells ∧ a1 = a ∧ b1 = b + 1 := by
    have q1 : atL (S.set 1 (.lst [.ref 0, .int a, .int (b + 1)])) 1 = some [.ref 0, .int a, .int (b + 1)] := atL_set (by omega)
    rw [q1] at at1'
    have q0 : atL (S.set 1 (.lst [.ref 0, .int a, .int (b + 1)])) 0 = atL S 0 := by unfold atL; rw [List.getElem?_set_ne (by omega)]
    rw [q0, at0] at at0'
    simp only [Option.some.injEq, List.cons.injEq, D.int.injEq, true_and, and_true] at at0' at1'
    refine ⟨?_, at1'.1.symm, at1'.2.symm⟩
    have : ∀ u v : List Int, u.map D.int = v.map D.int → u = v := fun u v h => List.map_inj_right (fun _ _ e => by cases e; rfl) |>.mp h
    exact (this _ _ at0').symm
  obtain ⟨rfl, rfl, rfl⟩ := e1
  simp only [gEq_refNil at0', wp_ok, wp_ret, wp_stuck, wp_bad, wp_bnd, wp_if, wp_fif, wps_ok_nx, wps_ok_rt, wps_ok_bk, wps_ok_ct, wps_ok_xc, wps_bad, wps_lft, wps_seq, wps_nil, wps_ret, wps_expr, wps_asg, wps_if, wp_run, wps_for, wps_while, wp_comp, wp_var, wp_C, wp_bin, wp_un, wp_T, wp_Tb, wp_asBl, wp_truthBl, wp_bAnd, wp_bOr, wp_bNot, wp_eIf, wp_eAnd, wp_eOr, wp_eNot, blCase_bl, wp_chain, wp_aNil, wp_aCons, wp_tup, wp_lst, wp_lstM, wp_call, wp_cl1, wp_cl2, wp_cl3, wp_cl4, wp_cl5, wp_meth, wp_isi, wp_oNone, wp_oSome, wp_sl, wp_it, wp_range1, wp_range2, wp_bYes, gEq_str, gNe_str, gEq_int, gNe_int, gEq_bl, gNe_bl, gIs_bl, gIsNot_bl, gAdd_int, gSub_int, gC_int, gI_int, gAdd_str, gAdd_tup, gAdd_lst, gNeg_int, gIx_tup, gIx_lst, gLen_tup, gLen_lst, gLen_str, gInt_int, gInt_bl, gTuple_lst, gTuple_tup, gList_lst, gList_tup, gSl_tup, gSl_lst, gSl_fl, gSl_str, srcL_tup, srcL_lst, srcL_fl, srcL_str, srcR1_int, typN, startR, List.map_cons, List.map_nil, List.length_cons, List.length_nil, Nat.reduceAdd, Nat.reduceSub, Nat.zero_add, Nat.sub_self, Nat.sub_zero, List.replicate_zero, List.replicate_succ, List.cons_append, List.nil_append, List.append_nil, List.getElem?_cons_zero, List.getElem?_cons_succ, List.set_cons_zero, List.set_cons_succ, List.set_nil, List.getElem?_nil, Option.some.injEq, exists_eq_left', exists_eq_left, exists_eq_right, reduceCtorEq, false_and, and_false, true_and, and_true, exists_false, exists_const, wipeR, Nat.zero_le, String.reduceEq, D.int.injEq, D.str.injEq, D.bl.injEq, atI_0, atI_1, atI_2, atI_3, atI_4, beq_self_eq_true, not_true_eq_false, not_false_eq_true, Int.cast_ofNat_Int, Int.reduceEq, Int.reduceLE, Int.reduceLT, Int.reduceAdd, Int.reduceSub, Int.reduceMul, Int.reduceNeg, if_true, if_false, ite_true, ite_false, Bool.false_eq_true, if_neg, if_pos, decide_eq_true_eq, Bool.not_eq_true', decide_eq_false_iff_not, eq_self_iff_true, decide_true, decide_false, Bool.not_true, Bool.not_false]
  by_cases hne : c1 = []
  · rw [if_pos hne]
    simp only [gIx_ref at1', wp_ok, wp_ret, wp_stuck, wp_bad, wp_bnd, wp_if, wp_fif, wps_ok_nx, wps_ok_rt, wps_ok_bk, wps_ok_ct, wps_ok_xc, wps_bad, wps_lft, wps_seq, wps_nil, wps_ret, wps_expr, wps_asg, wps_if, wp_run, wps_for, wps_while, wp_comp, wp_var, wp_C, wp_bin, wp_un, wp_T, wp_Tb, wp_asBl, wp_truthBl, wp_bAnd, wp_bOr, wp_bNot, wp_eIf, wp_eAnd, wp_eOr, wp_eNot, blCase_bl, wp_chain, wp_aNil, wp_aCons, wp_tup, wp_lst, wp_lstM, wp_call, wp_cl1, wp_cl2, wp_cl3, wp_cl4, wp_cl5, wp_meth, wp_isi, wp_oNone, wp_oSome, wp_sl, wp_it, wp_range1, wp_range2, wp_bYes, gEq_str, gNe_str, gEq_int, gNe_int, gEq_bl, gNe_bl, gIs_bl, gIsNot_bl, gAdd_int, gSub_int, gC_int, gI_int, gAdd_str, gAdd_tup, gAdd_lst, gNeg_int, gIx_tup, gIx_lst, gLen_tup, gLen_lst, gLen_str, gInt_int, gInt_bl, gTuple_lst, gTuple_tup, gList_lst, gList_tup, gSl_tup, gSl_lst, gSl_fl, gSl_str, srcL_tup, srcL_lst, srcL_fl, srcL_str, srcR1_int, typN, startR, List.map_cons, List.map_nil, List.length_cons, List.length_nil, Nat.reduceAdd, Nat.reduceSub, Nat.zero_add, Nat.sub_self, Nat.sub_zero, List.replicate_zero, List.replicate_succ, List.cons_append, List.nil_append, List.append_nil, List.getElem?_cons_zero, List.getElem?_cons_succ, List.set_cons_zero, List.set_cons_succ, List.set_nil, List.getElem?_nil, Option.some.injEq, exists_eq_left', exists_eq_left, exists_eq_right, reduceCtorEq, false_and, and_false, true_and, and_true, exists_false, exists_const, wipeR, Nat.zero_le, String.reduceEq, D.int.injEq, D.str.injEq, D.bl.injEq, atI_0, atI_1, atI_2, atI_3, atI_4, beq_self_eq_true, not_true_eq_false, not_false_eq_true, Int.cast_ofNat_Int, Int.reduceEq, Int.reduceLE, Int.reduceLT, Int.reduceAdd, Int.reduceSub, Int.reduceMul, Int.reduceNeg, if_true, if_false, ite_true, ite_false, Bool.false_eq_true, if_neg, if_pos, decide_eq_true_eq, Bool.not_eq_true', decide_eq_false_iff_not, eq_self_iff_true, decide_true, decide_false, Bool.not_true, Bool.not_false]
    refine mixed_ok h1.oks fun v => ?_
    simp only [hm, wp_ok, wp_ret, wp_stuck, wp_bad, wp_bnd, wp_if, wp_fif, wps_ok_nx, wps_ok_rt, wps_ok_bk, wps_ok_ct, wps_ok_xc, wps_bad, wps_lft, wps_seq, wps_nil, wps_ret, wps_expr, wps_asg, wps_if, wp_run, wps_for, wps_while, wp_comp, wp_var, wp_C, wp_bin, wp_un, wp_T, wp_Tb, wp_asBl, wp_truthBl, wp_bAnd, wp_bOr, wp_bNot, wp_eIf, wp_eAnd, wp_eOr, wp_eNot, blCase_bl, wp_chain, wp_aNil, wp_aCons, wp_tup, wp_lst, wp_lstM, wp_call, wp_cl1, wp_cl2, wp_cl3, wp_cl4, wp_cl5, wp_meth, wp_isi, wp_oNone, wp_oSome, wp_sl, wp_it, wp_range1, wp_range2, wp_bYes, gEq_str, gNe_str, gEq_int, gNe_int, gEq_bl, gNe_bl, gIs_bl, gIsNot_bl, gAdd_int, gSub_int, gC_int, gI_int, gAdd_str, gAdd_tup, gAdd_lst, gNeg_int, gIx_tup, gIx_lst, gLen_tup, gLen_lst, gLen_str, gInt_int, gInt_bl, gTuple_lst, gTuple_tup, gList_lst, gList_tup, gSl_tup, gSl_lst, gSl_fl, gSl_str, srcL_tup, srcL_lst, srcL_fl, srcL_str, srcR1_int, typN, startR, List.map_cons, List.map_nil, List.length_cons, List.length_nil, Nat.reduceAdd, Nat.reduceSub, Nat.zero_add, Nat.sub_self, Nat.sub_zero, List.replicate_zero, List.replicate_succ, List.cons_append, List.nil_append, List.append_nil, List.getElem?_cons_zero, List.getElem?_cons_succ, List.set_cons_zero, List.set_cons_succ, List.set_nil, List.getElem?_nil, Option.some.injEq, exists_eq_left', exists_eq_left, exists_eq_right, reduceCtorEq, false_and, and_false, true_and, and_true, exists_false, exists_const, wipeR, Nat.zero_le, String.reduceEq, D.int.injEq, D.str.injEq, D.bl.injEq, atI_0, atI_1, atI_2, atI_3, atI_4, beq_self_eq_true, not_true_eq_false, not_false_eq_true, Int.cast_ofNat_Int, Int.reduceEq, Int.reduceLE, Int.reduceLT, Int.reduceAdd, Int.reduceSub, Int.reduceMul, Int.reduceNeg, if_true, if_false, ite_true, ite_false, Bool.false_eq_true, if_neg, if_pos, decide_eq_true_eq, Bool.not_eq_true', decide_eq_false_iff_not, eq_self_iff_true, decide_true, decide_false, Bool.not_true, Bool.not_false]
    exact h1.fin_same hl1 rfl (hF _ _ (Int.emod_nonneg _ (by omega)) (Int.emod_lt_of_pos _ hm) h1)
  · rw [if_neg hne]
    obtain ⟨cs, c, rfl⟩ : ∃ cs c, c1 = cs ++ [c] := ⟨c1.dropLast, c1.getLast hne, (List.dropLast_concat_getLast hne).symm⟩
    simp only [List.length_append, List.length_singleton] at hc
    have e1 : ((cs ++ [c]).map D.int)[((cs ++ [c]).map D.int).length - 1]? = some (.int c) := by simp
    have e2 : ((cs ++ [c]).map D.int).dropLast = cs.map .int := by simp
    simp only [isTy_ref at0', gPop_ref at0', e1, e2, cPow, wp_ok, wp_ret, wp_stuck, wp_bad, wp_bnd, wp_if, wp_fif, wps_ok_nx, wps_ok_rt, wps_ok_bk, wps_ok_ct, wps_ok_xc, wps_bad, wps_lft, wps_seq, wps_nil, wps_ret, wps_expr, wps_asg, wps_if, wp_run, wps_for, wps_while, wp_comp, wp_var, wp_C, wp_bin, wp_un, wp_T, wp_Tb, wp_asBl, wp_truthBl, wp_bAnd, wp_bOr, wp_bNot, wp_eIf, wp_eAnd, wp_eOr, wp_eNot, blCase_bl, wp_chain, wp_aNil, wp_aCons, wp_tup, wp_lst, wp_lstM, wp_call, wp_cl1, wp_cl2, wp_cl3, wp_cl4, wp_cl5, wp_meth, wp_isi, wp_oNone, wp_oSome, wp_sl, wp_it, wp_range1, wp_range2, wp_bYes, gEq_str, gNe_str, gEq_int, gNe_int, gEq_bl, gNe_bl, gIs_bl, gIsNot_bl, gAdd_int, gSub_int, gC_int, gI_int, gAdd_str, gAdd_tup, gAdd_lst, gNeg_int, gIx_tup, gIx_lst, gLen_tup, gLen_lst, gLen_str, gInt_int, gInt_bl, gTuple_lst, gTuple_tup, gList_lst, gList_tup, gSl_tup, gSl_lst, gSl_fl, gSl_str, srcL_tup, srcL_lst, srcL_fl, srcL_str, srcR1_int, typN, startR, List.map_cons, List.map_nil, List.length_cons, List.length_nil, Nat.reduceAdd, Nat.reduceSub, Nat.zero_add, Nat.sub_self, Nat.sub_zero, List.replicate_zero, List.replicate_succ, List.cons_append, List.nil_append, List.append_nil, List.getElem?_cons_zero, List.getElem?_cons_succ, List.set_cons_zero, List.set_cons_succ, List.set_nil, List.getElem?_nil, Option.some.injEq, exists_eq_left', exists_eq_left, exists_eq_right, reduceCtorEq, false_and, and_false, true_and, and_true, exists_false, exists_const, wipeR, Nat.zero_le, String.reduceEq, D.int.injEq, D.str.injEq, D.bl.injEq, atI_0, atI_1, atI_2, atI_3, atI_4, beq_self_eq_true, not_true_eq_false, not_false_eq_true, Int.cast_ofNat_Int, Int.reduceEq, Int.reduceLE, Int.reduceLT, Int.reduceAdd, Int.reduceSub, Int.reduceMul, Int.reduceNeg, if_true, if_false, ite_true, ite_false, Bool.false_eq_true, if_neg, if_pos, decide_eq_true_eq, Bool.not_eq_true', decide_eq_false_iff_not, eq_self_iff_true, decide_true, decide_false, Bool.not_true, Bool.not_false]
    have h2 := up0' cs (by omega)
    generalize hS1 : S.set 1 (.lst [.ref 0, .int a1, .int (b + 1)]) = S1 at *
    obtain ⟨c3, a3, b3, hc3, at03, at13, up03, up13⟩ := h2.cells
    have q0 : atL (S1.set 0 (.lst (cs.map .int))) 0 = some (cs.map .int) := atL_set (by omega)
    have q1 : atL (S1.set 0 (.lst (cs.map .int))) 1 = some [.ref 0, .int a1, .int (b + 1)] := by
      have : atL (S1.set 0 (.lst (cs.map .int))) 1 = atL S1 1 := by unfold atL; rw [List.getElem?_set_ne (by omega)]
      rw [this]; exact at1'
    have hl2 : (S1.set 0 (.lst (cs.map .int))).length = S.length := by simp [hl1]
    refine ⟨by decide, ?_⟩
    by_cases hge : c < (10 : Int) ^ (Int.toNat 18)
    · rw [if_pos hge]
      simp only [gIx_ref q1, wp_ok, wp_ret, wp_stuck, wp_bad, wp_bnd, wp_if, wp_fif, wps_ok_nx, wps_ok_rt, wps_ok_bk, wps_ok_ct, wps_ok_xc, wps_bad, wps_lft, wps_seq, wps_nil, wps_ret, wps_expr, wps_asg, wps_if, wp_run, wps_for, wps_while, wp_comp, wp_var, wp_C, wp_bin, wp_un, wp_T, wp_Tb, wp_asBl, wp_truthBl, wp_bAnd, wp_bOr, wp_bNot, wp_eIf, wp_eAnd, wp_eOr, wp_eNot, blCase_bl, wp_chain, wp_aNil, wp_aCons, wp_tup, wp_lst, wp_lstM, wp_call, wp_cl1, wp_cl2, wp_cl3, wp_cl4, wp_cl5, wp_meth, wp_isi, wp_oNone, wp_oSome, wp_sl, wp_it, wp_range1, wp_range2, wp_bYes, gEq_str, gNe_str, gEq_int, gNe_int, gEq_bl, gNe_bl, gIs_bl, gIsNot_bl, gAdd_int, gSub_int, gC_int, gI_int, gAdd_str, gAdd_tup, gAdd_lst, gNeg_int, gIx_tup, gIx_lst, gLen_tup, gLen_lst, gLen_str, gInt_int, gInt_bl, gTuple_lst, gTuple_tup, gList_lst, gList_tup, gSl_tup, gSl_lst, gSl_fl, gSl_str, srcL_tup, srcL_lst, srcL_fl, srcL_str, srcR1_int, typN, startR, List.map_cons, List.map_nil, List.length_cons, List.length_nil, Nat.reduceAdd, Nat.reduceSub, Nat.zero_add, Nat.sub_self, Nat.sub_zero, List.replicate_zero, List.replicate_succ, List.cons_append, List.nil_append, List.append_nil, List.getElem?_cons_zero, List.getElem?_cons_succ, List.set_cons_zero, List.set_cons_succ, List.set_nil, List.getElem?_nil, Option.some.injEq, exists_eq_left', exists_eq_left, exists_eq_right, reduceCtorEq, false_and, and_false, true_and, and_true, exists_false, exists_const, wipeR, Nat.zero_le, String.reduceEq, D.int.injEq, D.str.injEq, D.bl.injEq, atI_0, atI_1, atI_2, atI_3, atI_4, beq_self_eq_true, not_true_eq_false, not_false_eq_true, Int.cast_ofNat_Int, Int.reduceEq, Int.reduceLE, Int.reduceLT, Int.reduceAdd, Int.reduceSub, Int.reduceMul, Int.reduceNeg, if_true, if_false, ite_true, ite_false, Bool.false_eq_true, if_neg, if_pos, decide_eq_true_eq, Bool.not_eq_true', decide_eq_false_iff_not, eq_self_iff_true, decide_true, decide_false, Bool.not_true, Bool.not_false]
      refine mixed_ok h2.oks fun v => ?_
      simp only [hm, wp_ok, wp_ret, wp_stuck, wp_bad, wp_bnd, wp_if, wp_fif, wps_ok_nx, wps_ok_rt, wps_ok_bk, wps_ok_ct, wps_ok_xc, wps_bad, wps_lft, wps_seq, wps_nil, wps_ret, wps_expr, wps_asg, wps_if, wp_run, wps_for, wps_while, wp_comp, wp_var, wp_C, wp_bin, wp_un, wp_T, wp_Tb, wp_asBl, wp_truthBl, wp_bAnd, wp_bOr, wp_bNot, wp_eIf, wp_eAnd, wp_eOr, wp_eNot, blCase_bl, wp_chain, wp_aNil, wp_aCons, wp_tup, wp_lst, wp_lstM, wp_call, wp_cl1, wp_cl2, wp_cl3, wp_cl4, wp_cl5, wp_meth, wp_isi, wp_oNone, wp_oSome, wp_sl, wp_it, wp_range1, wp_range2, wp_bYes, gEq_str, gNe_str, gEq_int, gNe_int, gEq_bl, gNe_bl, gIs_bl, gIsNot_bl, gAdd_int, gSub_int, gC_int, gI_int, gAdd_str, gAdd_tup, gAdd_lst, gNeg_int, gIx_tup, gIx_lst, gLen_tup, gLen_lst, gLen_str, gInt_int, gInt_bl, gTuple_lst, gTuple_tup, gList_lst, gList_tup, gSl_tup, gSl_lst, gSl_fl, gSl_str, srcL_tup, srcL_lst, srcL_fl, srcL_str, srcR1_int, typN, startR, List.map_cons, List.map_nil, List.length_cons, List.length_nil, Nat.reduceAdd, Nat.reduceSub, Nat.zero_add, Nat.sub_self, Nat.sub_zero, List.replicate_zero, List.replicate_succ, List.cons_append, List.nil_append, List.append_nil, List.getElem?_cons_zero, List.getElem?_cons_succ, List.set_cons_zero, List.set_cons_succ, List.set_nil, List.getElem?_nil, Option.some.injEq, exists_eq_left', exists_eq_left, exists_eq_right, reduceCtorEq, false_and, and_false, true_and, and_true, exists_false, exists_const, wipeR, Nat.zero_le, String.reduceEq, D.int.injEq, D.str.injEq, D.bl.injEq, atI_0, atI_1, atI_2, atI_3, atI_4, beq_self_eq_true, not_true_eq_false, not_false_eq_true, Int.cast_ofNat_Int, Int.reduceEq, Int.reduceLE, Int.reduceLT, Int.reduceAdd, Int.reduceSub, Int.reduceMul, Int.reduceNeg, if_true, if_false, ite_true, ite_false, Bool.false_eq_true, if_neg, if_pos, decide_eq_true_eq, Bool.not_eq_true', decide_eq_false_iff_not, eq_self_iff_true, decide_true, decide_false, Bool.not_true, Bool.not_false]
      exact h2.fin_same hl2 rfl (hF _ _ (Int.emod_nonneg _ (by omega)) (Int.emod_lt_of_pos _ hm) h2)
    · rw [if_neg hge]
      refine ⟨cDiv_of hm hm2, ?_⟩
      by_cases hq : 0 < c / m
      · rw [if_pos hq]
        simp only [isTy_ref q0, gAppend_ref q0, cDiv_of hm hm2, hm, wp_ok, wp_ret, wp_stuck, wp_bad, wp_bnd, wp_if, wp_fif, wps_ok_nx, wps_ok_rt, wps_ok_bk, wps_ok_ct, wps_ok_xc, wps_bad, wps_lft, wps_seq, wps_nil, wps_ret, wps_expr, wps_asg, wps_if, wp_run, wps_for, wps_while, wp_comp, wp_var, wp_C, wp_bin, wp_un, wp_T, wp_Tb, wp_asBl, wp_truthBl, wp_bAnd, wp_bOr, wp_bNot, wp_eIf, wp_eAnd, wp_eOr, wp_eNot, blCase_bl, wp_chain, wp_aNil, wp_aCons, wp_tup, wp_lst, wp_lstM, wp_call, wp_cl1, wp_cl2, wp_cl3, wp_cl4, wp_cl5, wp_meth, wp_isi, wp_oNone, wp_oSome, wp_sl, wp_it, wp_range1, wp_range2, wp_bYes, gEq_str, gNe_str, gEq_int, gNe_int, gEq_bl, gNe_bl, gIs_bl, gIsNot_bl, gAdd_int, gSub_int, gC_int, gI_int, gAdd_str, gAdd_tup, gAdd_lst, gNeg_int, gIx_tup, gIx_lst, gLen_tup, gLen_lst, gLen_str, gInt_int, gInt_bl, gTuple_lst, gTuple_tup, gList_lst, gList_tup, gSl_tup, gSl_lst, gSl_fl, gSl_str, srcL_tup, srcL_lst, srcL_fl, srcL_str, srcR1_int, typN, startR, List.map_cons, List.map_nil, List.length_cons, List.length_nil, Nat.reduceAdd, Nat.reduceSub, Nat.zero_add, Nat.sub_self, Nat.sub_zero, List.replicate_zero, List.replicate_succ, List.cons_append, List.nil_append, List.append_nil, List.getElem?_cons_zero, List.getElem?_cons_succ, List.set_cons_zero, List.set_cons_succ, List.set_nil, List.getElem?_nil, Option.some.injEq, exists_eq_left', exists_eq_left, exists_eq_right, reduceCtorEq, false_and, and_false, true_and, and_true, exists_false, exists_const, wipeR, Nat.zero_le, String.reduceEq, D.int.injEq, D.str.injEq, D.bl.injEq, atI_0, atI_1, atI_2, atI_3, atI_4, beq_self_eq_true, not_true_eq_false, not_false_eq_true, Int.cast_ofNat_Int, Int.reduceEq, Int.reduceLE, Int.reduceLT, Int.reduceAdd, Int.reduceSub, Int.reduceMul, Int.reduceNeg, if_true, if_false, ite_true, ite_false, Bool.false_eq_true, if_neg, if_pos, decide_eq_true_eq, Bool.not_eq_true', decide_eq_false_iff_not, eq_self_iff_true, decide_true, decide_false, Bool.not_true, Bool.not_false]
        refine ⟨by rw [sizeLine_eq, List.length_map]; omega, ?_⟩
        have h3 := up03 (cs ++ [c / m]) (by simp; omega)
        rw [List.map_append] at h3
        refine h3.fin_same (by simp [hl1]) rfl (hF _ _ (Int.emod_nonneg _ (by omega)) (Int.emod_lt_of_pos _ hm) h3)
      · rw [if_neg hq]
        simp only [hm, wp_ok, wp_ret, wp_stuck, wp_bad, wp_bnd, wp_if, wp_fif, wps_ok_nx, wps_ok_rt, wps_ok_bk, wps_ok_ct, wps_ok_xc, wps_bad, wps_lft, wps_seq, wps_nil, wps_ret, wps_expr, wps_asg, wps_if, wp_run, wps_for, wps_while, wp_comp, wp_var, wp_C, wp_bin, wp_un, wp_T, wp_Tb, wp_asBl, wp_truthBl, wp_bAnd, wp_bOr, wp_bNot, wp_eIf, wp_eAnd, wp_eOr, wp_eNot, blCase_bl, wp_chain, wp_aNil, wp_aCons, wp_tup, wp_lst, wp_lstM, wp_call, wp_cl1, wp_cl2, wp_cl3, wp_cl4, wp_cl5, wp_meth, wp_isi, wp_oNone, wp_oSome, wp_sl, wp_it, wp_range1, wp_range2, wp_bYes, gEq_str, gNe_str, gEq_int, gNe_int, gEq_bl, gNe_bl, gIs_bl, gIsNot_bl, gAdd_int, gSub_int, gC_int, gI_int, gAdd_str, gAdd_tup, gAdd_lst, gNeg_int, gIx_tup, gIx_lst, gLen_tup, gLen_lst, gLen_str, gInt_int, gInt_bl, gTuple_lst, gTuple_tup, gList_lst, gList_tup, gSl_tup, gSl_lst, gSl_fl, gSl_str, srcL_tup, srcL_lst, srcL_fl, srcL_str, srcR1_int, typN, startR, List.map_cons, List.map_nil, List.length_cons, List.length_nil, Nat.reduceAdd, Nat.reduceSub, Nat.zero_add, Nat.sub_self, Nat.sub_zero, List.replicate_zero, List.replicate_succ, List.cons_append, List.nil_append, List.append_nil, List.getElem?_cons_zero, List.getElem?_cons_succ, List.set_cons_zero, List.set_cons_succ, List.set_nil, List.getElem?_nil, Option.some.injEq, exists_eq_left', exists_eq_left, exists_eq_right, reduceCtorEq, false_and, and_false, true_and, and_true, exists_false, exists_const, wipeR, Nat.zero_le, String.reduceEq, D.int.injEq, D.str.injEq, D.bl.injEq, atI_0, atI_1, atI_2, atI_3, atI_4, beq_self_eq_true, not_true_eq_false, not_false_eq_true, Int.cast_ofNat_Int, Int.reduceEq, Int.reduceLE, Int.reduceLT, Int.reduceAdd, Int.reduceSub, Int.reduceMul, Int.reduceNeg, if_true, if_false, ite_true, ite_false, Bool.false_eq_true, if_neg, if_pos, decide_eq_true_eq, Bool.not_eq_true', decide_eq_false_iff_not, eq_self_iff_true, decide_true, decide_false, Bool.not_true, Bool.not_false]
        exact h2.fin_same hl2 rfl (hF _ _ (Int.emod_nonneg _ (by omega)) (Int.emod_lt_of_pos _ hm) h2)
end K68

namespace K68
open PySem L2 DL
variable {fu n : Nat} {R S : Sto} {F : D → Sto → Prop} {E : Exc → Sto → Prop}
theorem number_gen {N : Nat} (hN : 3 ≤ N) (h : DS R S) (hF : ∀ (i : Int) (S' : Sto), 0 ≤ i → i < 1000000000000 → DS R S' → F (.int i) S') : wp (den fu N i_l_number [.ref 1] S) F E := by
  obtain ⟨N', rfl⟩ : ∃ N', N = N' + 1 := ⟨N - 1, by omega⟩
  show wp (runDef false 2 (b_l_number fu (den fu N')) _ _) _ _
  simp only [b_l_number, wp_ok, wp_ret, wp_stuck, wp_bad, wp_bnd, wp_if, wp_fif, wps_ok_nx, wps_ok_rt, wps_ok_bk, wps_ok_ct, wps_ok_xc, wps_bad, wps_lft, wps_seq, wps_nil, wps_ret, wps_expr, wps_asg, wps_if, wp_run, wps_for, wps_while, wp_comp, wp_var, wp_C, wp_bin, wp_un, wp_T, wp_Tb, wp_asBl, wp_truthBl, wp_bAnd, wp_bOr, wp_bNot, wp_eIf, wp_eAnd, wp_eOr, wp_eNot, blCase_bl, wp_chain, wp_aNil, wp_aCons, wp_tup, wp_lst, wp_lstM, wp_call, wp_cl1, wp_cl2, wp_cl3, wp_cl4, wp_cl5, wp_meth, wp_isi, wp_oNone, wp_oSome, wp_sl, wp_it, wp_range1, wp_range2, wp_bYes, gEq_str, gNe_str, gEq_int, gNe_int, gEq_bl, gNe_bl, gIs_bl, gIsNot_bl, gAdd_int, gSub_int, gC_int, gI_int, gAdd_str, gAdd_tup, gAdd_lst, gNeg_int, gIx_tup, gIx_lst, gLen_tup, gLen_lst, gLen_str, gInt_int, gInt_bl, gTuple_lst, gTuple_tup, gList_lst, gList_tup, gSl_tup, gSl_lst, gSl_fl, gSl_str, srcL_tup, srcL_lst, srcL_fl, srcL_str, srcR1_int, typN, startR, List.map_cons, List.map_nil, List.length_cons, List.length_nil, Nat.reduceAdd, Nat.reduceSub, Nat.zero_add, Nat.sub_self, Nat.sub_zero, List.replicate_zero, List.replicate_succ, List.cons_append, List.nil_append, List.append_nil, List.getElem?_cons_zero, List.getElem?_cons_succ, List.set_cons_zero, List.set_cons_succ, List.set_nil, List.getElem?_nil, Option.some.injEq, exists_eq_left', exists_eq_left, exists_eq_right, reduceCtorEq, false_and, and_false, true_and, and_true, exists_false, exists_const, wipeR, Nat.zero_le, String.reduceEq, D.int.injEq, D.str.injEq, D.bl.injEq, atI_0, atI_1, atI_2, atI_3, atI_4, beq_self_eq_true, not_true_eq_false, not_false_eq_true, Int.cast_ofNat_Int, Int.reduceEq, Int.reduceLE, Int.reduceLT, Int.reduceAdd, Int.reduceSub, Int.reduceMul, Int.reduceNeg, if_true, if_false, ite_true, ite_false, Bool.false_eq_true, if_neg, if_pos, decide_eq_true_eq, Bool.not_eq_true', decide_eq_false_iff_not, eq_self_iff_true, decide_true, decide_false, Bool.not_true, Bool.not_false]
  refine take_ok (by omega) h (by decide) (by decide) fun v1 S1 h1 h1' d1 => ?_
  simp only [cPow, wp_ok, wp_ret, wp_stuck, wp_bad, wp_bnd, wp_if, wp_fif, wps_ok_nx, wps_ok_rt, wps_ok_bk, wps_ok_ct, wps_ok_xc, wps_bad, wps_lft, wps_seq, wps_nil, wps_ret, wps_expr, wps_asg, wps_if, wp_run, wps_for, wps_while, wp_comp, wp_var, wp_C, wp_bin, wp_un, wp_T, wp_Tb, wp_asBl, wp_truthBl, wp_bAnd, wp_bOr, wp_bNot, wp_eIf, wp_eAnd, wp_eOr, wp_eNot, blCase_bl, wp_chain, wp_aNil, wp_aCons, wp_tup, wp_lst, wp_lstM, wp_call, wp_cl1, wp_cl2, wp_cl3, wp_cl4, wp_cl5, wp_meth, wp_isi, wp_oNone, wp_oSome, wp_sl, wp_it, wp_range1, wp_range2, wp_bYes, gEq_str, gNe_str, gEq_int, gNe_int, gEq_bl, gNe_bl, gIs_bl, gIsNot_bl, gAdd_int, gSub_int, gC_int, gI_int, gAdd_str, gAdd_tup, gAdd_lst, gNeg_int, gIx_tup, gIx_lst, gLen_tup, gLen_lst, gLen_str, gInt_int, gInt_bl, gTuple_lst, gTuple_tup, gList_lst, gList_tup, gSl_tup, gSl_lst, gSl_fl, gSl_str, srcL_tup, srcL_lst, srcL_fl, srcL_str, srcR1_int, typN, startR, List.map_cons, List.map_nil, List.length_cons, List.length_nil, Nat.reduceAdd, Nat.reduceSub, Nat.zero_add, Nat.sub_self, Nat.sub_zero, List.replicate_zero, List.replicate_succ, List.cons_append, List.nil_append, List.append_nil, List.getElem?_cons_zero, List.getElem?_cons_succ, List.set_cons_zero, List.set_cons_succ, List.set_nil, List.getElem?_nil, Option.some.injEq, exists_eq_left', exists_eq_left, exists_eq_right, reduceCtorEq, false_and, and_false, true_and, and_true, exists_false, exists_const, wipeR, Nat.zero_le, String.reduceEq, D.int.injEq, D.str.injEq, D.bl.injEq, atI_0, atI_1, atI_2, atI_3, atI_4, beq_self_eq_true, not_true_eq_false, not_false_eq_true, Int.cast_ofNat_Int, Int.reduceEq, Int.reduceLE, Int.reduceLT, Int.reduceAdd, Int.reduceSub, Int.reduceMul, Int.reduceNeg, if_true, if_false, ite_true, ite_false, Bool.false_eq_true, if_neg, if_pos, decide_eq_true_eq, Bool.not_eq_true', decide_eq_false_iff_not, eq_self_iff_true, decide_true, decide_false, Bool.not_true, Bool.not_false]
  refine ⟨by decide, by decide, take_ok (by omega) d1 (by decide) (by decide) fun v2 S2 h2 h2' d2 => ?_⟩
  refine ⟨small_line (by decide), take_ok (by omega) d2 (by decide) (by decide) fun v3 S3 h3 h3' d3 => ?_⟩
  refine pick h3 h3' (fun d => ∃ i : Int, d = .int i ∧ 0 ≤ i ∧ i < 1000000000000) (fun d hd => ?_) fun d hd => ?_
  · simp only [List.mem_cons, List.not_mem_nil, or_false] at hd
    have hp : (10 : Int) ^ Int.toNat 12 = 1000000000000 := by decide
    rcases hd with rfl | rfl | rfl | rfl | rfl | rfl
    · exact ⟨_, rfl, by decide, by decide⟩
    · exact ⟨_, rfl, by decide, by decide⟩
    · exact ⟨_, rfl, by decide, by decide⟩
    · exact ⟨_, rfl, h1, by omega⟩
    · exact ⟨_, rfl, by omega, by omega⟩
    · exact ⟨_, rfl, h2, by omega⟩
  · obtain ⟨i, rfl, q1, q2⟩ := hd
    exact d3.fin_same (by rw [d3.len, h.len]) rfl (hF i S3 q1 q2 d3)
/-! texts joined -/
def sg (c : Nat) : Str := ⟨#[c]⟩
theorem all_sg {A : List Nat} : ∀ {ys : List D}, (∀ y ∈ ys, ∃ c ∈ A, y = .str (sg c)) → ∃ bs : List Nat, ys = (bs.map sg).map D.str ∧ (∀ c ∈ bs, c ∈ A)
  | [], _ => ⟨[], rfl, fun _ h => (List.not_mem_nil h).elim⟩
  | y :: ys, h => by
    obtain ⟨c, hc, rfl⟩ := h y List.mem_cons_self
    obtain ⟨bs, rfl, hb⟩ := all_sg (A := A) (ys := ys) fun z hz => h z (List.mem_cons_of_mem _ hz)
    exact ⟨c :: bs, rfl, fun x hx => by rcases List.mem_cons.mp hx with rfl | hx; exact hc; exact hb x hx⟩
theorem join_sg : ∀ bs : List Nat, Str.join (Str.ofString "") (bs.map sg) = ⟨bs.toArray⟩
  | [] => rfl
  | [c] => rfl
  | c :: d :: bs => by
    show sg c ++ Str.ofString "" ++ Str.join (Str.ofString "") ((d :: bs).map sg) = _
    rw [join_sg (d :: bs)]
    apply str_ext
    have e0 : (Str.ofString "").cps.toList = [] := by decide +kernel
    rw [app_toList, app_toList, e0]
    simp [sg]
theorem sum_sg (bs : List Nat) : ((bs.map sg).map (·.length)).sum = bs.length := by
  induction bs with
  | nil => rfl
  | cons c bs ih => simp only [List.map_cons, List.sum_cons, ih, List.length_cons]; show 1 + bs.length = _; omega
theorem gJoin_strs {a : Str} {ps : List Str} : wp (gJoin (.str a) [.lst (ps.map .str)] S) F E ↔ (ps.map (·.length)).sum + ps.length * a.length ≤ 16777216 ∧ F (.str (Str.join a ps)) S := by
  unfold gJoin
  simp only [show iLst S (.lst (ps.map .str)) = some (ps.map .str) from rfl, Option.bind_some, strsOf_map]
  by_cases h : (ps.map (·.length)).sum + ps.length * a.length ≤ 16777216
  · rw [if_pos h, show Txt.join a ps = Str.join a ps from StrLaws.glued_eq_join a ps]
    exact ⟨fun q => ⟨h, q⟩, fun q => q.2⟩
  · rw [if_neg h]
    exact ⟨fun q => q.elim, fun q => h q.1⟩
theorem empty_len : (Str.ofString "").length = 0 := by decide +kernel
theorem shuffle_gen {N : Nat} (hN : 3 ≤ N) (h : DS R S) (hF : ∀ (z : Str) (S' : Sto), z.length ≤ 100 → IsSh z → DS R S' → F (.str z) S') : wp (den fu N i_l_shuffle [.ref 1] S) F E := by
  obtain ⟨N', rfl⟩ : ∃ N', N = N' + 1 := ⟨N - 1, by omega⟩
  show wp (runDef false 4 (b_l_shuffle fu (den fu N')) _ _) _ _
  simp only [b_l_shuffle, wp_ok, wp_ret, wp_stuck, wp_bad, wp_bnd, wp_if, wp_fif, wps_ok_nx, wps_ok_rt, wps_ok_bk, wps_ok_ct, wps_ok_xc, wps_bad, wps_lft, wps_seq, wps_nil, wps_ret, wps_expr, wps_asg, wps_if, wp_run, wps_for, wps_while, wp_comp, wp_var, wp_C, wp_bin, wp_un, wp_T, wp_Tb, wp_asBl, wp_truthBl, wp_bAnd, wp_bOr, wp_bNot, wp_eIf, wp_eAnd, wp_eOr, wp_eNot, blCase_bl, wp_chain, wp_aNil, wp_aCons, wp_tup, wp_lst, wp_lstM, wp_call, wp_cl1, wp_cl2, wp_cl3, wp_cl4, wp_cl5, wp_meth, wp_isi, wp_oNone, wp_oSome, wp_sl, wp_it, wp_range1, wp_range2, wp_bYes, gEq_str, gNe_str, gEq_int, gNe_int, gEq_bl, gNe_bl, gIs_bl, gIsNot_bl, gAdd_int, gSub_int, gC_int, gI_int, gAdd_str, gAdd_tup, gAdd_lst, gNeg_int, gIx_tup, gIx_lst, gLen_tup, gLen_lst, gLen_str, gInt_int, gInt_bl, gTuple_lst, gTuple_tup, gList_lst, gList_tup, gSl_tup, gSl_lst, gSl_fl, gSl_str, srcL_tup, srcL_lst, srcL_fl, srcL_str, srcR1_int, typN, startR, List.map_cons, List.map_nil, List.length_cons, List.length_nil, Nat.reduceAdd, Nat.reduceSub, Nat.zero_add, Nat.sub_self, Nat.sub_zero, List.replicate_zero, List.replicate_succ, List.cons_append, List.nil_append, List.append_nil, List.getElem?_cons_zero, List.getElem?_cons_succ, List.set_cons_zero, List.set_cons_succ, List.set_nil, List.getElem?_nil, Option.some.injEq, exists_eq_left', exists_eq_left, exists_eq_right, reduceCtorEq, false_and, and_false, true_and, and_true, exists_false, exists_const, wipeR, Nat.zero_le, String.reduceEq, D.int.injEq, D.str.injEq, D.bl.injEq, atI_0, atI_1, atI_2, atI_3, atI_4, beq_self_eq_true, not_true_eq_false, not_false_eq_true, Int.cast_ofNat_Int, Int.reduceEq, Int.reduceLE, Int.reduceLT, Int.reduceAdd, Int.reduceSub, Int.reduceMul, Int.reduceNeg, if_true, if_false, ite_true, ite_false, Bool.false_eq_true, if_neg, if_pos, decide_eq_true_eq, Bool.not_eq_true', decide_eq_false_iff_not, eq_self_iff_true, decide_true, decide_false, Bool.not_true, Bool.not_false]
  refine take_ok (by omega) h (by decide) (by decide) fun v1 S1 a0 a1 d1 => ?_
  refine take_ok (by omega) d1 (by decide) (by decide) fun v2 S2 b0 b1 d2 => ?_
  refine ⟨small_line (by decide), take_ok (by omega) d2 (by decide) (by decide) fun v3 S3 c0 c1 d3 => ?_⟩
  simp only [wp_ok, wp_ret, wp_stuck, wp_bad, wp_bnd, wp_if, wp_fif, wps_ok_nx, wps_ok_rt, wps_ok_bk, wps_ok_ct, wps_ok_xc, wps_bad, wps_lft, wps_seq, wps_nil, wps_ret, wps_expr, wps_asg, wps_if, wp_run, wps_for, wps_while, wp_comp, wp_var, wp_C, wp_bin, wp_un, wp_T, wp_Tb, wp_asBl, wp_truthBl, wp_bAnd, wp_bOr, wp_bNot, wp_eIf, wp_eAnd, wp_eOr, wp_eNot, blCase_bl, wp_chain, wp_aNil, wp_aCons, wp_tup, wp_lst, wp_lstM, wp_call, wp_cl1, wp_cl2, wp_cl3, wp_cl4, wp_cl5, wp_meth, wp_isi, wp_oNone, wp_oSome, wp_sl, wp_it, wp_range1, wp_range2, wp_bYes, gEq_str, gNe_str, gEq_int, gNe_int, gEq_bl, gNe_bl, gIs_bl, gIsNot_bl, gAdd_int, gSub_int, gC_int, gI_int, gAdd_str, gAdd_tup, gAdd_lst, gNeg_int, gIx_tup, gIx_lst, gLen_tup, gLen_lst, gLen_str, gInt_int, gInt_bl, gTuple_lst, gTuple_tup, gList_lst, gList_tup, gSl_tup, gSl_lst, gSl_fl, gSl_str, srcL_tup, srcL_lst, srcL_fl, srcL_str, srcR1_int, typN, startR, List.map_cons, List.map_nil, List.length_cons, List.length_nil, Nat.reduceAdd, Nat.reduceSub, Nat.zero_add, Nat.sub_self, Nat.sub_zero, List.replicate_zero, List.replicate_succ, List.cons_append, List.nil_append, List.append_nil, List.getElem?_cons_zero, List.getElem?_cons_succ, List.set_cons_zero, List.set_cons_succ, List.set_nil, List.getElem?_nil, Option.some.injEq, exists_eq_left', exists_eq_left, exists_eq_right, reduceCtorEq, false_and, and_false, true_and, and_true, exists_false, exists_const, wipeR, Nat.zero_le, String.reduceEq, D.int.injEq, D.str.injEq, D.bl.injEq, atI_0, atI_1, atI_2, atI_3, atI_4, beq_self_eq_true, not_true_eq_false, not_false_eq_true, Int.cast_ofNat_Int, Int.reduceEq, Int.reduceLE, Int.reduceLT, Int.reduceAdd, Int.reduceSub, Int.reduceMul, Int.reduceNeg, if_true, if_false, ite_true, ite_false, Bool.false_eq_true, if_neg, if_pos, decide_eq_true_eq, Bool.not_eq_true', decide_eq_false_iff_not, eq_self_iff_true, decide_true, decide_false, Bool.not_true, Bool.not_false]
  have pk : ∀ (x y : Int) (v3 : Int) (hi : Int) (G : D → Prop), 0 ≤ x → x ≤ hi → 0 ≤ y → y ≤ hi → (∀ z : Int, 0 ≤ z → z ≤ hi → G (.int z)) → ∃ d, atI [D.int x, D.int y] (if v3 = 0 then (1 : Int) else 0) = some d ∧ G d := by
    intro x y v3 hi G hx hx2 hy hy2 hF
    by_cases hv : v3 = 0
    · rw [if_pos hv]
      exact ⟨_, atI_1, hF y hy hy2⟩
    · rw [if_neg hv]
      exact ⟨_, atI_0, hF x hx hx2⟩
  refine pk v1 v2 v3 8 _ a0 (by omega) b0 (by omega) fun w0 hw0 hw8 => ⟨w0, rfl, ?_⟩
  obtain ⟨w, rfl⟩ := Int.eq_ofNat_of_zero_le hw0
  have hw : w ≤ 8 := by omega
  have hA : (Str.ofString "abcdefgh").length ≤ sizeLine := by rw [letters_eq]; exact small_line (by decide)
  let a : List Nat := [97, 98, 99, 100, 101, 102, 103, 104].take w
  have la : a.length = w := by show ([97, 98, 99, 100, 101, 102, 103, 104].take w).length = w; simp; omega
  have cut : cutS (Str.ofString "abcdefgh") none (some ((w : Nat) : Int)) = ⟨a.toArray⟩ := by
    rw [letters_eq]
    unfold cutS
    apply str_ext
    simp only [List.toList_toArray]
    have e1 : HT.sIx (Str.length ⟨#[97, 98, 99, 100, 101, 102, 103, 104]⟩) 0 none = 0 := rfl
    have e2 : HT.sIx (Str.length ⟨#[97, 98, 99, 100, 101, 102, 103, 104]⟩) (Str.length ⟨#[97, 98, 99, 100, 101, 102, 103, 104]⟩) (some ((w : Nat) : Int)) = w := by
      rw [HT.sIx_nat]; show min w 8 = w; omega
    rw [e1, e2]; rfl
  have hL : ((⟨a.toArray⟩ : Str)).length = w := by show a.toArray.size = w; simp [la]
  simp only [hA, cut, wp_ok, wp_ret, wp_stuck, wp_bad, wp_bnd, wp_if, wp_fif, wps_ok_nx, wps_ok_rt, wps_ok_bk, wps_ok_ct, wps_ok_xc, wps_bad, wps_lft, wps_seq, wps_nil, wps_ret, wps_expr, wps_asg, wps_if, wp_run, wps_for, wps_while, wp_comp, wp_var, wp_C, wp_bin, wp_un, wp_T, wp_Tb, wp_asBl, wp_truthBl, wp_bAnd, wp_bOr, wp_bNot, wp_eIf, wp_eAnd, wp_eOr, wp_eNot, blCase_bl, wp_chain, wp_aNil, wp_aCons, wp_tup, wp_lst, wp_lstM, wp_call, wp_cl1, wp_cl2, wp_cl3, wp_cl4, wp_cl5, wp_meth, wp_isi, wp_oNone, wp_oSome, wp_sl, wp_it, wp_range1, wp_range2, wp_bYes, gEq_str, gNe_str, gEq_int, gNe_int, gEq_bl, gNe_bl, gIs_bl, gIsNot_bl, gAdd_int, gSub_int, gC_int, gI_int, gAdd_str, gAdd_tup, gAdd_lst, gNeg_int, gIx_tup, gIx_lst, gLen_tup, gLen_lst, gLen_str, gInt_int, gInt_bl, gTuple_lst, gTuple_tup, gList_lst, gList_tup, gSl_tup, gSl_lst, gSl_fl, gSl_str, srcL_tup, srcL_lst, srcL_fl, srcL_str, srcR1_int, typN, startR, List.map_cons, List.map_nil, List.length_cons, List.length_nil, Nat.reduceAdd, Nat.reduceSub, Nat.zero_add, Nat.sub_self, Nat.sub_zero, List.replicate_zero, List.replicate_succ, List.cons_append, List.nil_append, List.append_nil, List.getElem?_cons_zero, List.getElem?_cons_succ, List.set_cons_zero, List.set_cons_succ, List.set_nil, List.getElem?_nil, Option.some.injEq, exists_eq_left', exists_eq_left, exists_eq_right, reduceCtorEq, false_and, and_false, true_and, and_true, exists_false, exists_const, wipeR, Nat.zero_le, String.reduceEq, D.int.injEq, D.str.injEq, D.bl.injEq, atI_0, atI_1, atI_2, atI_3, atI_4, beq_self_eq_true, not_true_eq_false, not_false_eq_true, Int.cast_ofNat_Int, Int.reduceEq, Int.reduceLE, Int.reduceLT, Int.reduceAdd, Int.reduceSub, Int.reduceMul, Int.reduceNeg, if_true, if_false, ite_true, ite_false, Bool.false_eq_true, if_neg, if_pos, decide_eq_true_eq, Bool.not_eq_true', decide_eq_false_iff_not, eq_self_iff_true, decide_true, decide_false, Bool.not_true, Bool.not_false]
  refine take_ok (by omega) d3 (by decide) (by decide) fun v4 S4 e0 e1 d4 => ?_
  refine take_ok (by omega) d4 (by decide) (by decide) fun v5 S5 f0 f1 d5 => ?_
  refine ⟨small_line (by decide), take_ok (by omega) d5 (by decide) (by decide) fun v6 S6 g0 g1 d6 => ?_⟩
  simp only [wp_ok, wp_ret, wp_stuck, wp_bad, wp_bnd, wp_if, wp_fif, wps_ok_nx, wps_ok_rt, wps_ok_bk, wps_ok_ct, wps_ok_xc, wps_bad, wps_lft, wps_seq, wps_nil, wps_ret, wps_expr, wps_asg, wps_if, wp_run, wps_for, wps_while, wp_comp, wp_var, wp_C, wp_bin, wp_un, wp_T, wp_Tb, wp_asBl, wp_truthBl, wp_bAnd, wp_bOr, wp_bNot, wp_eIf, wp_eAnd, wp_eOr, wp_eNot, blCase_bl, wp_chain, wp_aNil, wp_aCons, wp_tup, wp_lst, wp_lstM, wp_call, wp_cl1, wp_cl2, wp_cl3, wp_cl4, wp_cl5, wp_meth, wp_isi, wp_oNone, wp_oSome, wp_sl, wp_it, wp_range1, wp_range2, wp_bYes, gEq_str, gNe_str, gEq_int, gNe_int, gEq_bl, gNe_bl, gIs_bl, gIsNot_bl, gAdd_int, gSub_int, gC_int, gI_int, gAdd_str, gAdd_tup, gAdd_lst, gNeg_int, gIx_tup, gIx_lst, gLen_tup, gLen_lst, gLen_str, gInt_int, gInt_bl, gTuple_lst, gTuple_tup, gList_lst, gList_tup, gSl_tup, gSl_lst, gSl_fl, gSl_str, srcL_tup, srcL_lst, srcL_fl, srcL_str, srcR1_int, typN, startR, List.map_cons, List.map_nil, List.length_cons, List.length_nil, Nat.reduceAdd, Nat.reduceSub, Nat.zero_add, Nat.sub_self, Nat.sub_zero, List.replicate_zero, List.replicate_succ, List.cons_append, List.nil_append, List.append_nil, List.getElem?_cons_zero, List.getElem?_cons_succ, List.set_cons_zero, List.set_cons_succ, List.set_nil, List.getElem?_nil, Option.some.injEq, exists_eq_left', exists_eq_left, exists_eq_right, reduceCtorEq, false_and, and_false, true_and, and_true, exists_false, exists_const, wipeR, Nat.zero_le, String.reduceEq, D.int.injEq, D.str.injEq, D.bl.injEq, atI_0, atI_1, atI_2, atI_3, atI_4, beq_self_eq_true, not_true_eq_false, not_false_eq_true, Int.cast_ofNat_Int, Int.reduceEq, Int.reduceLE, Int.reduceLT, Int.reduceAdd, Int.reduceSub, Int.reduceMul, Int.reduceNeg, if_true, if_false, ite_true, ite_false, Bool.false_eq_true, if_neg, if_pos, decide_eq_true_eq, Bool.not_eq_true', decide_eq_false_iff_not, eq_self_iff_true, decide_true, decide_false, Bool.not_true, Bool.not_false]
  refine pk v4 v5 v6 12 _ e0 (by omega) f0 (by omega) fun m0 hm0 hm12 => ?_
  have hem : ((⟨a.toArray⟩ : Str) = Str.ofString "") ↔ w = 0 := by
    constructor
    · intro e
      have := congrArg Str.length e
      rw [hL, empty_len] at this; exact this
    · intro e
      apply str_ext
      have e0 : (Str.ofString "").cps.toList = [] := by decide +kernel
      rw [e0]
      show a.toArray.toList = []
      simp only [List.toList_toArray]
      exact List.eq_nil_of_length_eq_zero (by omega)
  rw [gI_int]
  refine ⟨cMul_r (by split <;> decide) (by split <;> decide), ?_⟩
  have hr : 0 ≤ m0 * (if ¬ (⟨a.toArray⟩ : Str) = Str.ofString "" then (1 : Int) else 0) ∧ m0 * (if ¬ (⟨a.toArray⟩ : Str) = Str.ofString "" then (1 : Int) else 0) ≤ 12 ∧ (w = 0 → m0 * (if ¬ (⟨a.toArray⟩ : Str) = Str.ofString "" then (1 : Int) else 0) = 0) := by
    by_cases hw0 : w = 0
    · rw [if_neg (by simpa using hem.mpr hw0)]; simp
    · rw [if_pos (fun e => hw0 (hem.mp e))]; simp; exact ⟨hm0, hm12, fun e => absurd e hw0⟩
  obtain ⟨r0, r1, r2⟩ := hr
  generalize m0 * (if ¬ (⟨a.toArray⟩ : Str) = Str.ofString "" then (1 : Int) else 0) = r at r0 r1 r2
  have hD : (Str.ofString "-").length = 1 := by rw [dash_eq]; rfl
  refine ⟨small_line (by omega), rfl, ?_⟩
  rw [srcR1_int]
  refine ⟨by simp [bnd62]; omega, by rw [rangeD_len]; exact small_line (by omega), ?_⟩
  refine comp_inv (DS R) (fun y => ∃ c ∈ a, y = .str (sg c)) d6 (fun d hd S' dd => ?_) (fun ys S7 hl hy d7 => ?_)
  · have hrp : 0 < r.toNat := by
      have := List.length_pos_of_mem hd
      rw [rangeD_len] at this; exact this
    have hwp : 0 < w := by
      rcases Nat.eq_zero_or_pos w with h0 | h0
      · have := r2 h0; omega
      · exact h0
    simp only [hL, show w ≤ sizeLine from small_line (by omega), wp_ok, wp_ret, wp_stuck, wp_bad, wp_bnd, wp_if, wp_fif, wps_ok_nx, wps_ok_rt, wps_ok_bk, wps_ok_ct, wps_ok_xc, wps_bad, wps_lft, wps_seq, wps_nil, wps_ret, wps_expr, wps_asg, wps_if, wp_run, wps_for, wps_while, wp_comp, wp_var, wp_C, wp_bin, wp_un, wp_T, wp_Tb, wp_asBl, wp_truthBl, wp_bAnd, wp_bOr, wp_bNot, wp_eIf, wp_eAnd, wp_eOr, wp_eNot, blCase_bl, wp_chain, wp_aNil, wp_aCons, wp_tup, wp_lst, wp_lstM, wp_call, wp_cl1, wp_cl2, wp_cl3, wp_cl4, wp_cl5, wp_meth, wp_isi, wp_oNone, wp_oSome, wp_sl, wp_it, wp_range1, wp_range2, wp_bYes, gEq_str, gNe_str, gEq_int, gNe_int, gEq_bl, gNe_bl, gIs_bl, gIsNot_bl, gAdd_int, gSub_int, gC_int, gI_int, gAdd_str, gAdd_tup, gAdd_lst, gNeg_int, gIx_tup, gIx_lst, gLen_tup, gLen_lst, gLen_str, gInt_int, gInt_bl, gTuple_lst, gTuple_tup, gList_lst, gList_tup, gSl_tup, gSl_lst, gSl_fl, gSl_str, srcL_tup, srcL_lst, srcL_fl, srcL_str, srcR1_int, typN, startR, List.map_cons, List.map_nil, List.length_cons, List.length_nil, Nat.reduceAdd, Nat.reduceSub, Nat.zero_add, Nat.sub_self, Nat.sub_zero, List.replicate_zero, List.replicate_succ, List.cons_append, List.nil_append, List.append_nil, List.getElem?_cons_zero, List.getElem?_cons_succ, List.set_cons_zero, List.set_cons_succ, List.set_nil, List.getElem?_nil, Option.some.injEq, exists_eq_left', exists_eq_left, exists_eq_right, reduceCtorEq, false_and, and_false, true_and, and_true, exists_false, exists_const, wipeR, Nat.zero_le, String.reduceEq, D.int.injEq, D.str.injEq, D.bl.injEq, atI_0, atI_1, atI_2, atI_3, atI_4, beq_self_eq_true, not_true_eq_false, not_false_eq_true, Int.cast_ofNat_Int, Int.reduceEq, Int.reduceLE, Int.reduceLT, Int.reduceAdd, Int.reduceSub, Int.reduceMul, Int.reduceNeg, if_true, if_false, ite_true, ite_false, Bool.false_eq_true, if_neg, if_pos, decide_eq_true_eq, Bool.not_eq_true', decide_eq_false_iff_not, eq_self_iff_true, decide_true, decide_false, Bool.not_true, Bool.not_false]
    refine take_ok (by omega) dd (by omega) (by omega) fun v S' q0 q1 d' => ?_
    rw [gIx_sign]
    have hLa : (⟨a.toArray⟩ : Str).cps.toList = a := by simp
    rw [hLa]
    obtain ⟨c, hc, e⟩ := atI_mem (ds := a) q0 (by omega)
    exact ⟨small_line (by omega), c, e, ⟨c, hc, rfl⟩, d'⟩
  · rw [rangeD_len] at hl
    obtain ⟨bs, rfl, hb⟩ := all_sg hy
    have hbl : bs.length ≤ 12 := by simp at hl; omega
    rw [gJoin_strs, sum_sg, join_sg]
    refine ⟨by rw [empty_len]; simp; omega, ?_⟩
    have hR : ((⟨bs.toArray⟩ : Str)).length = bs.length := by show bs.toArray.size = _; simp
    have hAD : ((⟨a.toArray⟩ : Str) ++ Str.ofString "-").length = w + 1 := by
      rw [dash_eq]; show (a.toArray ++ #[45]).size = w + 1; simp [la]
    have hADB : ((⟨a.toArray⟩ : Str) ++ Str.ofString "-" ++ (⟨bs.toArray⟩ : Str)).length = w + 1 + bs.length := by
      rw [dash_eq]; show ((a.toArray ++ #[45]) ++ bs.toArray).size = w + 1 + bs.length; simp [la]; omega
    rw [gAdd_str]
    refine ⟨small_line (by omega), ?_⟩
    exact d7.fin_same (by rw [d7.len, h.len]) rfl (hF _ _ (by omega) ⟨a, bs, by rw [dash_eq], ⟨w, hw, rfl⟩, hbl, hb⟩ d7)
end K68

namespace K68
open PySem L2 DL
variable {fu n : Nat} {R S : Sto} {F : D → Sto → Prop} {E : Exc → Sto → Prop}
/-! names -/
def base : List Str := ["pl", "plu", "iff", "i", "dipp", "eac", "wra", "lesser", "dodo", "d", "pluss", "joi"]
theorem base_names : ∀ z ∈ base, NameP z := by
  have : ∀ z ∈ base, nameB z = true := by decide +kernel
  intro z hz
  have := this z hz
  simp only [nameB, Bool.and_eq_true, decide_eq_true_eq, Bool.not_eq_true', decide_eq_false_iff_not, List.all_eq_true] at this
  exact ⟨this.1.1.1, this.1.1.2, this.1.2, this.2⟩
theorem base_nodup : base.Nodup := by decide +kernel
theorem noxs : ∀ b ∈ basics, b.cps.toList.head? ≠ some 120 := by decide +kernel
def Names (L : List Str) : Prop := 1 ≤ L.length ∧ L.length ≤ 8 ∧ L.Nodup ∧ ∀ z ∈ L, NameP z
theorem Names.tr {L : List Str} : tr (.lst (L.map .str)) := by
  have : D.los 0 (L.map D.str) = true := los_map (fun _ => rfl) L
  exact this
theorem x_len : (Str.ofString "x").cps.toList = [120] := by decide +kernel
theorem names_gen {m : Nat} {N : Nat} (hN : 3 ≤ N) (hm : 1 ≤ m) (hm8 : m ≤ 8) (h : DS R S) (hF : ∀ (L : List Str) (S' : Sto), Names L → DS R S' → F (.lst (L.map .str)) S') : wp (den fu N i_l_names [.ref 1, .int m] S) F E := by
  obtain ⟨N', rfl⟩ : ∃ N', N = N' + 1 := ⟨N - 1, by omega⟩
  show wp (runDef false 8 (b_l_names fu (den fu N')) _ _) _ _
  simp only [b_l_names, wp_ok, wp_ret, wp_stuck, wp_bad, wp_bnd, wp_if, wp_fif, wps_ok_nx, wps_ok_rt, wps_ok_bk, wps_ok_ct, wps_ok_xc, wps_bad, wps_lft, wps_seq, wps_nil, wps_ret, wps_expr, wps_asg, wps_if, wp_run, wps_for, wps_while, wp_comp, wp_var, wp_C, wp_bin, wp_un, wp_T, wp_Tb, wp_asBl, wp_truthBl, wp_bAnd, wp_bOr, wp_bNot, wp_eIf, wp_eAnd, wp_eOr, wp_eNot, blCase_bl, wp_chain, wp_aNil, wp_aCons, wp_tup, wp_lst, wp_lstM, wp_call, wp_cl1, wp_cl2, wp_cl3, wp_cl4, wp_cl5, wp_meth, wp_isi, wp_oNone, wp_oSome, wp_sl, wp_it, wp_range1, wp_range2, wp_bYes, gEq_str, gNe_str, gEq_int, gNe_int, gEq_bl, gNe_bl, gIs_bl, gIsNot_bl, gAdd_int, gSub_int, gC_int, gI_int, gAdd_str, gAdd_tup, gAdd_lst, gNeg_int, gIx_tup, gIx_lst, gLen_tup, gLen_lst, gLen_str, gInt_int, gInt_bl, gTuple_lst, gTuple_tup, gList_lst, gList_tup, gSl_tup, gSl_lst, gSl_fl, gSl_str, srcL_tup, srcL_lst, srcL_fl, srcL_str, srcR1_int, typN, startR, List.map_cons, List.map_nil, List.length_cons, List.length_nil, Nat.reduceAdd, Nat.reduceSub, Nat.zero_add, Nat.sub_self, Nat.sub_zero, List.replicate_zero, List.replicate_succ, List.cons_append, List.nil_append, List.append_nil, List.getElem?_cons_zero, List.getElem?_cons_succ, List.set_cons_zero, List.set_cons_succ, List.set_nil, List.getElem?_nil, Option.some.injEq, exists_eq_left', exists_eq_left, exists_eq_right, reduceCtorEq, false_and, and_false, true_and, and_true, exists_false, exists_const, wipeR, Nat.zero_le, String.reduceEq, D.int.injEq, D.str.injEq, D.bl.injEq, atI_0, atI_1, atI_2, atI_3, atI_4, beq_self_eq_true, not_true_eq_false, not_false_eq_true, Int.cast_ofNat_Int, Int.reduceEq, Int.reduceLE, Int.reduceLT, Int.reduceAdd, Int.reduceSub, Int.reduceMul, Int.reduceNeg, if_true, if_false, ite_true, ite_false, Bool.false_eq_true, if_neg, if_pos, decide_eq_true_eq, Bool.not_eq_true', decide_eq_false_iff_not, eq_self_iff_true, decide_true, decide_false, Bool.not_true, Bool.not_false]
  refine ⟨small_line (by decide), ?_⟩
  refine take_ok (by omega) h (by decide) (by decide) fun v1 S1 a0 a1 d1 => ?_
  obtain ⟨v, rfl⟩ := Int.eq_ofNat_of_zero_le a0
  have hv : v ≤ 12 := by omega
  refine ⟨v, rfl, v, rfl, ?_⟩
  have e1 : cutD [D.str "pl", .str "plu", .str "iff", .str "i", .str "dipp", .str "eac", .str "wra", .str "lesser", .str "dodo", .str "d", .str "pluss", .str "joi"] (some ((v : Nat) : Int)) none = (base.map D.str).drop v := cut_drop hv
  have e2 : cutD [D.str "pl", .str "plu", .str "iff", .str "i", .str "dipp", .str "eac", .str "wra", .str "lesser", .str "dodo", .str "d", .str "pluss", .str "joi"] none (some ((v : Nat) : Int)) = (base.map D.str).take v := cut_take hv
  rw [e1, e2]
  refine ⟨small_line (by simp [base]; omega), ?_⟩
  rw [← List.map_drop, ← List.map_take, ← List.map_append]
  refine ⟨rfl, by decide, by rw [rangeD_len]; exact small_line (by decide), ?_⟩
  have hs26 : (Str.ofString "abcdefghijklmnopqrstuvwxyz").length = 26 := by
    show (Str.ofString "abcdefghijklmnopqrstuvwxyz").cps.size = 26
    rw [← Array.length_toList, small_eq]; rfl
  -- the last step
  have fin : ∀ (L : List Str) (S' : Sto), m ≤ L.length → L.Nodup → (∀ z ∈ L, NameP z) → DS R S' → wp (finD false S.length (.lst (cutD (L.map .str) none (some (m : Int)))) S') F E := by
    intro L S' hl hn hz hd
    rw [cut_take (by simpa using hl), ← List.map_take]
    refine hd.fin_same (by rw [hd.len, h.len]) Names.tr (hF _ _ ⟨?_, ?_, ?_, fun z hz' => hz z (List.mem_of_mem_take hz')⟩ hd)
    · rw [List.length_take]; omega
    · rw [List.length_take]; omega
    · exact hn.sublist (List.take_sublist _ _)
  refine comp_inv (DS R) (fun y => ∃ c ∈ small, y = .str (sg c)) d1 (fun d hd S' dd => ?_) (fun ys S7 hl hy d7 => ?_)
  · simp only [wp_ok, wp_ret, wp_stuck, wp_bad, wp_bnd, wp_if, wp_fif, wps_ok_nx, wps_ok_rt, wps_ok_bk, wps_ok_ct, wps_ok_xc, wps_bad, wps_lft, wps_seq, wps_nil, wps_ret, wps_expr, wps_asg, wps_if, wp_run, wps_for, wps_while, wp_comp, wp_var, wp_C, wp_bin, wp_un, wp_T, wp_Tb, wp_asBl, wp_truthBl, wp_bAnd, wp_bOr, wp_bNot, wp_eIf, wp_eAnd, wp_eOr, wp_eNot, blCase_bl, wp_chain, wp_aNil, wp_aCons, wp_tup, wp_lst, wp_lstM, wp_call, wp_cl1, wp_cl2, wp_cl3, wp_cl4, wp_cl5, wp_meth, wp_isi, wp_oNone, wp_oSome, wp_sl, wp_it, wp_range1, wp_range2, wp_bYes, gEq_str, gNe_str, gEq_int, gNe_int, gEq_bl, gNe_bl, gIs_bl, gIsNot_bl, gAdd_int, gSub_int, gC_int, gI_int, gAdd_str, gAdd_tup, gAdd_lst, gNeg_int, gIx_tup, gIx_lst, gLen_tup, gLen_lst, gLen_str, gInt_int, gInt_bl, gTuple_lst, gTuple_tup, gList_lst, gList_tup, gSl_tup, gSl_lst, gSl_fl, gSl_str, srcL_tup, srcL_lst, srcL_fl, srcL_str, srcR1_int, typN, startR, List.map_cons, List.map_nil, List.length_cons, List.length_nil, Nat.reduceAdd, Nat.reduceSub, Nat.zero_add, Nat.sub_self, Nat.sub_zero, List.replicate_zero, List.replicate_succ, List.cons_append, List.nil_append, List.append_nil, List.getElem?_cons_zero, List.getElem?_cons_succ, List.set_cons_zero, List.set_cons_succ, List.set_nil, List.getElem?_nil, Option.some.injEq, exists_eq_left', exists_eq_left, exists_eq_right, reduceCtorEq, false_and, and_false, true_and, and_true, exists_false, exists_const, wipeR, Nat.zero_le, String.reduceEq, D.int.injEq, D.str.injEq, D.bl.injEq, atI_0, atI_1, atI_2, atI_3, atI_4, beq_self_eq_true, not_true_eq_false, not_false_eq_true, Int.cast_ofNat_Int, Int.reduceEq, Int.reduceLE, Int.reduceLT, Int.reduceAdd, Int.reduceSub, Int.reduceMul, Int.reduceNeg, if_true, if_false, ite_true, ite_false, Bool.false_eq_true, if_neg, if_pos, decide_eq_true_eq, Bool.not_eq_true', decide_eq_false_iff_not, eq_self_iff_true, decide_true, decide_false, Bool.not_true, Bool.not_false]
    refine take_ok (by omega) dd (by decide) (by decide) fun v S' q0 q1 d' => ?_
    rw [gIx_sign, small_eq]
    obtain ⟨c, hc, e⟩ := atI_mem (ds := small) q0 (by show v < 26; omega)
    exact ⟨small_line (by rw [hs26]; decide), c, e, ⟨c, hc, rfl⟩, d'⟩
  rw [rangeD_len] at hl
  obtain ⟨bs, rfl, hb⟩ := all_sg hy
  have hbl : bs.length = 7 := by simpa using hl
  rw [gJoin_strs, sum_sg, join_sg]
  refine ⟨by rw [empty_len]; simp; omega, ?_⟩
  refine take_ok (by omega) d7 (by decide) (by decide) fun v8 S8 p0 p1 d8 => ?_
  simp only [wp_ok, wp_ret, wp_stuck, wp_bad, wp_bnd, wp_if, wp_fif, wps_ok_nx, wps_ok_rt, wps_ok_bk, wps_ok_ct, wps_ok_xc, wps_bad, wps_lft, wps_seq, wps_nil, wps_ret, wps_expr, wps_asg, wps_if, wp_run, wps_for, wps_while, wp_comp, wp_var, wp_C, wp_bin, wp_un, wp_T, wp_Tb, wp_asBl, wp_truthBl, wp_bAnd, wp_bOr, wp_bNot, wp_eIf, wp_eAnd, wp_eOr, wp_eNot, blCase_bl, wp_chain, wp_aNil, wp_aCons, wp_tup, wp_lst, wp_lstM, wp_call, wp_cl1, wp_cl2, wp_cl3, wp_cl4, wp_cl5, wp_meth, wp_isi, wp_oNone, wp_oSome, wp_sl, wp_it, wp_range1, wp_range2, wp_bYes, gEq_str, gNe_str, gEq_int, gNe_int, gEq_bl, gNe_bl, gIs_bl, gIsNot_bl, gAdd_int, gSub_int, gC_int, gI_int, gAdd_str, gAdd_tup, gAdd_lst, gNeg_int, gIx_tup, gIx_lst, gLen_tup, gLen_lst, gLen_str, gInt_int, gInt_bl, gTuple_lst, gTuple_tup, gList_lst, gList_tup, gSl_tup, gSl_lst, gSl_fl, gSl_str, srcL_tup, srcL_lst, srcL_fl, srcL_str, srcR1_int, typN, startR, List.map_cons, List.map_nil, List.length_cons, List.length_nil, Nat.reduceAdd, Nat.reduceSub, Nat.zero_add, Nat.sub_self, Nat.sub_zero, List.replicate_zero, List.replicate_succ, List.cons_append, List.nil_append, List.append_nil, List.getElem?_cons_zero, List.getElem?_cons_succ, List.set_cons_zero, List.set_cons_succ, List.set_nil, List.getElem?_nil, Option.some.injEq, exists_eq_left', exists_eq_left, exists_eq_right, reduceCtorEq, false_and, and_false, true_and, and_true, exists_false, exists_const, wipeR, Nat.zero_le, String.reduceEq, D.int.injEq, D.str.injEq, D.bl.injEq, atI_0, atI_1, atI_2, atI_3, atI_4, beq_self_eq_true, not_true_eq_false, not_false_eq_true, Int.cast_ofNat_Int, Int.reduceEq, Int.reduceLE, Int.reduceLT, Int.reduceAdd, Int.reduceSub, Int.reduceMul, Int.reduceNeg, if_true, if_false, ite_true, ite_false, Bool.false_eq_true, if_neg, if_pos, decide_eq_true_eq, Bool.not_eq_true', decide_eq_false_iff_not, eq_self_iff_true, decide_true, decide_false, Bool.not_true, Bool.not_false]
  by_cases hv8 : v8 = 0
  · rw [if_pos hv8]
    refine ⟨by decide, by rw [rangeD_len]; exact small_line (by decide), ?_⟩
    have hT : (⟨bs.toArray⟩ : Str).length = 7 := by show bs.toArray.size = 7; simp [hbl]
    refine comp_pure (fun d => match d with | .int i => .str ⟨(120 :: bs.take i.toNat).toArray⟩ | d => d) (fun d hd => ?_) ?_
    · obtain ⟨i, hi, rfl⟩ := List.mem_map.mp hd
      have hi8 : i < 8 := by simpa using hi
      have cu : cutS ⟨bs.toArray⟩ none (some ((0 : Int) + (i : Nat))) = ⟨(bs.take i).toArray⟩ := by
        rw [Int.zero_add]
        unfold cutS
        apply str_ext
        rw [HT.sIx_nat, HT.sIx_none, hT]
        simp only [List.toList_toArray, List.drop_zero, Nat.sub_zero, Nat.min_eq_left (show i ≤ 7 by omega)]
      have hcl : ((⟨(bs.take i).toArray⟩ : Str)).length ≤ 7 := by show ((bs.take i).toArray).size ≤ 7; simp; omega
      have hx1 : (Str.ofString "x").length = 1 := by show (Str.ofString "x").cps.size = 1; rw [← Array.length_toList, x_len]; rfl
      simp only [hT, cu, wp_ok, wp_ret, wp_stuck, wp_bad, wp_bnd, wp_if, wp_fif, wps_ok_nx, wps_ok_rt, wps_ok_bk, wps_ok_ct, wps_ok_xc, wps_bad, wps_lft, wps_seq, wps_nil, wps_ret, wps_expr, wps_asg, wps_if, wp_run, wps_for, wps_while, wp_comp, wp_var, wp_C, wp_bin, wp_un, wp_T, wp_Tb, wp_asBl, wp_truthBl, wp_bAnd, wp_bOr, wp_bNot, wp_eIf, wp_eAnd, wp_eOr, wp_eNot, blCase_bl, wp_chain, wp_aNil, wp_aCons, wp_tup, wp_lst, wp_lstM, wp_call, wp_cl1, wp_cl2, wp_cl3, wp_cl4, wp_cl5, wp_meth, wp_isi, wp_oNone, wp_oSome, wp_sl, wp_it, wp_range1, wp_range2, wp_bYes, gEq_str, gNe_str, gEq_int, gNe_int, gEq_bl, gNe_bl, gIs_bl, gIsNot_bl, gAdd_int, gSub_int, gC_int, gI_int, gAdd_str, gAdd_tup, gAdd_lst, gNeg_int, gIx_tup, gIx_lst, gLen_tup, gLen_lst, gLen_str, gInt_int, gInt_bl, gTuple_lst, gTuple_tup, gList_lst, gList_tup, gSl_tup, gSl_lst, gSl_fl, gSl_str, srcL_tup, srcL_lst, srcL_fl, srcL_str, srcR1_int, typN, startR, List.map_cons, List.map_nil, List.length_cons, List.length_nil, Nat.reduceAdd, Nat.reduceSub, Nat.zero_add, Nat.sub_self, Nat.sub_zero, List.replicate_zero, List.replicate_succ, List.cons_append, List.nil_append, List.append_nil, List.getElem?_cons_zero, List.getElem?_cons_succ, List.set_cons_zero, List.set_cons_succ, List.set_nil, List.getElem?_nil, Option.some.injEq, exists_eq_left', exists_eq_left, exists_eq_right, reduceCtorEq, false_and, and_false, true_and, and_true, exists_false, exists_const, wipeR, Nat.zero_le, String.reduceEq, D.int.injEq, D.str.injEq, D.bl.injEq, atI_0, atI_1, atI_2, atI_3, atI_4, beq_self_eq_true, not_true_eq_false, not_false_eq_true, Int.cast_ofNat_Int, Int.reduceEq, Int.reduceLE, Int.reduceLT, Int.reduceAdd, Int.reduceSub, Int.reduceMul, Int.reduceNeg, if_true, if_false, ite_true, ite_false, Bool.false_eq_true, if_neg, if_pos, decide_eq_true_eq, Bool.not_eq_true', decide_eq_false_iff_not, eq_self_iff_true, decide_true, decide_false, Bool.not_true, Bool.not_false]
      refine ⟨small_line (by decide), small_line (by omega), ?_⟩
      congr 1
      apply str_ext
      rw [app_toList, x_len, Int.zero_add, Int.toNat_natCast]
      simp
    · have e : ((rangeD 0 (Int.toNat 8)).map fun d => match d with | .int i => D.str ⟨(120 :: bs.take i.toNat).toArray⟩ | d => d) = ((List.range 8).map fun k => (⟨(120 :: bs.take k).toArray⟩ : Str)).map D.str := by
        simp only [rangeD, List.map_map]
        rfl
      rw [e]
      have lenk : ∀ k, k < 8 → (⟨(120 :: bs.take k).toArray⟩ : Str).length = k + 1 := fun k hk => by
        show ((120 :: bs.take k).toArray).size = k + 1
        simp; omega
      refine fin _ _ (by simpa using hm8) ?_ (fun z hz => ?_) d8
      · rw [List.nodup_iff_pairwise_ne, List.pairwise_map]
        refine List.Pairwise.imp_of_mem ?_ (List.nodup_range (n := 8))
        intro a b ha hb hab e
        have := congrArg Str.length e
        rw [lenk a (by simpa using ha), lenk b (by simpa using hb)] at this
        exact hab (by omega)
      · obtain ⟨k, hk, rfl⟩ := List.mem_map.mp hz
        have hk8 : k < 8 := by simpa using hk
        refine ⟨by rw [lenk k hk8]; omega, by rw [lenk k hk8]; omega, fun hmem => noxs _ hmem (by simp), fun c hc => ?_⟩
        simp only [List.toList_toArray, List.mem_cons] at hc
        rcases hc with rfl | hc
        · decide
        · exact hb c (List.mem_of_mem_take hc)
  · rw [if_neg hv8]
    refine fin _ _ (by simp [base]; omega) ?_ (fun z hz => ?_) d8
    · exact (List.perm_append_comm.nodup_iff).mp (by rw [List.take_append_drop]; exact base_nodup)
    · rw [List.mem_append] at hz
      rcases hz with hz | hz
      · exact base_names z (List.mem_of_mem_drop hz)
      · exact base_names z (List.mem_of_mem_take hz)
end K68

namespace K68
open PySem L2 DL
/-! the tokens of a thing's text -/
def istr (i : Int) : Str := toString i
def tokN : D → List Str
  | .tup [.str _, .int i] => [istr i]
  | _ => []
def tokT : Nat → D → List Str
  | 0, d => tokN d
  | J + 1, .tup [.str k, .tup xs] => if k = Str.ofString "row" then Str.ofString "[" :: (xs.flatMap fun w => match w with
      | .str y => [y]
      | .tup [_, t] => tokT J t
      | _ => []) ++ [Str.ofString "]"]
    else Str.ofString "{" :: (xs.flatMap (tokT J)) ++ [Str.ofString "}"]
  | _ + 1, d => tokN d
def tokW (J : Nat) (w : D) : List Str := match w with
  | .str y => [y]
  | .tup [_, t] => tokT J t
  | _ => []
theorem tokT_row {J : Nat} {xs : List D} : tokT (J + 1) (.tup [.str "row", .tup xs]) = Str.ofString "[" :: (xs.flatMap (tokW J)) ++ [Str.ofString "]"] := by
  simp only [tokT, if_true]
  rfl
theorem tokT_list {J : Nat} {xs : List D} : tokT (J + 1) (.tup [.str "list", .tup xs]) = Str.ofString "{" :: (xs.flatMap (tokT J)) ++ [Str.ofString "}"] := by
  simp only [tokT, ofString_inj, Nat.zero_le, String.reduceEq, D.int.injEq, D.str.injEq, D.bl.injEq, atI_0, atI_1, atI_2, atI_3, atI_4, beq_self_eq_true, not_true_eq_false, not_false_eq_true, Int.cast_ofNat_Int, Int.reduceEq, Int.reduceLE, Int.reduceLT, Int.reduceAdd, Int.reduceSub, Int.reduceMul, Int.reduceNeg, if_true, if_false, ite_true, ite_false, Bool.false_eq_true, if_neg, if_pos, decide_eq_true_eq, Bool.not_eq_true', decide_eq_false_iff_not, eq_self_iff_true, decide_true, decide_false, Bool.not_true, Bool.not_false]
theorem tokT_num {J : Nat} {k : Str} {i : Int} : tokT J (.tup [.str k, .int i]) = [istr i] := by cases J <;> rfl
end K68

namespace K68
open PySem L2 DL
variable {fu n l c c' : Nat} {R S : Sto} {F : D → Sto → Prop} {E : Exc → Sto → Prop}
/-! rows and things drawn, with a count of what is left at l -/
structure LS (R : Sto) (l n : Nat) (S : Sto) : Prop where
  l2 : 2 ≤ l
  ll : l < R.length
  at_ : DS (R.set l (.lst [.int (n : Nat)])) S
theorem LS.oks (h : LS R l c S) : OKS S := h.at_.oks
theorem LS.len (h : LS R l c S) : S.length = R.length := by rw [h.at_.len]; simp
theorem LS.get (h : LS R l c S) : atL S l = some [.int (c : Nat)] ∧ ∀ c' : Nat, LS R l c' (S.set l (.lst [.int (c' : Nat)])) := by
  obtain ⟨l2, ll, d⟩ := h
  refine ⟨?_, fun n' => ⟨l2, ll, ?_⟩⟩
  · unfold atL; rw [d.get l2, List.getElem?_set_self ll]
  · have := d.put (m := .lst [.int (n' : Nat)]) l2 rfl
    rwa [List.set_set] at this
theorem LS.push {m : MO} (h : LS R l c S) (hm : m.lo 0 = true) : LS (R ++ [m]) l c (S ++ [m]) := by
  obtain ⟨l2, ll, d⟩ := h
  refine ⟨l2, by simp; omega, ?_⟩
  rw [List.set_append_left _ _ ll]
  exact d.push hm
theorem LS.last {m : MO} (h : LS (R ++ [m]) l c S) (hl : l < R.length) : S[R.length]? = some m := by
  obtain ⟨l2, ll, d⟩ := h
  rw [List.set_append_left _ _ hl] at d
  have := d.last (R := R.set l (.lst [.int (c : Nat)])) (by simp; omega)
  simpa using this
theorem LS.put {m m' : MO} (h : LS (R ++ [m]) l c S) (hl : l < R.length) (hm : m'.lo 0 = true) : LS (R ++ [m']) l c (S.set R.length m') := by
  obtain ⟨l2, ll, d⟩ := h
  refine ⟨l2, by simp; omega, ?_⟩
  rw [List.set_append_left _ _ hl] at d ⊢
  have := d.put (m := m') (k := R.length) (by omega) hm
  rw [List.set_append_right _ _ (by simp)] at this
  simpa using this
theorem LS.cut {m : MO} (h : LS (R ++ [m]) l c S) (hl : l < R.length) : LS R l c (S.take R.length) := by
  obtain ⟨l2, ll, d⟩ := h
  refine ⟨l2, hl, ?_⟩
  rw [List.set_append_left _ _ hl] at d
  have := d.cut (by simp; omega)
  simpa using this
theorem LS.fin_same {S1 : Sto} {d : D} (h : LS R l c S) (hl : S.length = S1.length) (hd : tr d) (hF : F d S) : wp (finD false S1.length d S) F E := by
  exact h.at_.fin_same hl hd hF
theorem ltake {m : Int} {N : Nat} (hN : 2 ≤ N) (h : LS R l c S) (hm : 0 < m) (hm2 : m < 18446744073709551616) (hF : ∀ (v : Int) (S' : Sto), 0 ≤ v → v < m → LS R l c S' → F (.int v) S') : wp (den fu N i_l_take [.ref 1, .int m] S) F E := by
  obtain ⟨l2, ll, d⟩ := h
  exact take_ok hN d hm hm2 fun v S' a b d' => hF v S' a b ⟨l2, ll, d'⟩
/-- the texts of drawn rows -/
def QL (L : List Str) (z : Str) : Prop := z ∈ basics ∨ IsSh z ∨ z ∈ L
theorem basics_eq : Str.ofString "plus minus times less same do dip if while repeat join wrap put part each" = Str.join ⟨#[32]⟩ basics := by decide +kernel
theorem space_eq : Str.ofString " " = ⟨#[32]⟩ := by decide +kernel
theorem basics_free : ∀ p ∈ basics, (32 : Nat) ∉ p.cps.toList := by decide +kernel
theorem basics_len : ∀ p ∈ basics, p.length ≤ 100 := by decide +kernel
theorem split_basics {S : Sto} : wp (gSplit false (.str "plus minus times less same do dip if while repeat join wrap put part each") [.str " "] S) F E ↔ F (.lst (basics.map .str)) S := by
  have e : gSplit false (.str "plus minus times less same do dip if while repeat join wrap put part each") [.str " "] S = .ok (.lst (basics.map .str)) S := by
    unfold gSplit
    have sp : Txt.split (Str.ofString "plus minus times less same do dip if while repeat join wrap put part each") (Str.ofString " ") = basics := by
      rw [basics_eq, space_eq]
      exact split_join (by decide) basics_free
    simp only [sp]
    rw [if_pos ⟨by rw [space_eq]; decide, by rw [sizeLine_eq]; decide +kernel⟩]
    rfl
  rw [e]; exact Iff.rfl
section
variable {L : List Str} (hL : ∀ z ∈ L, WS z) (h0 : 1 ≤ L.length) (h8 : L.length ≤ 1000)
/-- what a drawn thing is -/
def ThOk (fu : Nat) (L : List Str) (deep J : Nat) : Prop := ∀ (R S : Sto) (l c N : Nat) (F : D → Sto → Prop) (E : Exc → Sto → Prop), 3 * deep + 4 ≤ N → LS R l c S → (∀ t S' c', ThG 6 (QL L) deep t → (tokT J t).length + 3 * c' ≤ 3 * c + 2 → LS R l c' S' → F t S') → wp (den fu N i_l_thing [.ref 1, .lst (L.map .str), .int deep, .ref l] S) F E
include hL h0 h8
theorem word_gen {deep J N : Nat} (hT : ThOk fu L deep J) (hN : 3 * deep + 5 ≤ N) (h : LS R l (c + 1) S) (hF : ∀ t S' c', WdG 6 (QL L) deep t → (tokW J t).length + 3 * c' ≤ 3 * (c + 1) → LS R l c' S' → F t S') : wp (den fu N i_l_word [.ref 1, .lst (L.map .str), .int deep, .ref l] S) F E := by
  obtain ⟨N', rfl⟩ : ∃ N', N = N' + 1 := ⟨N - 1, by omega⟩
  show wp (runDef false 6 (b_l_word fu (den fu N')) _ _) _ _
  obtain ⟨at1, up⟩ := h.get
  have d1 := up c
  have hcc : ((c + 1 : Nat) : Int) - 1 = (c : Int) := by omega
  have st : ∀ d {FU : Unit → Sto → Prop} {E : Exc → Sto → Prop}, wp (gSet (.ref l) (.int 0) d S) FU E ↔ FU () (S.set l (.lst [d])) := fun d {FU E} => gSet_ref (j := 0) at1 (by show ixN 1 0 = some 0; decide)
  simp only [b_l_word, split_basics, isTy, gIx_ref at1, wps_sub, st, hcc, wp_ok, wp_ret, wp_stuck, wp_bad, wp_bnd, wp_if, wp_fif, wps_ok_nx, wps_ok_rt, wps_ok_bk, wps_ok_ct, wps_ok_xc, wps_bad, wps_lft, wps_seq, wps_nil, wps_ret, wps_expr, wps_asg, wps_if, wp_run, wps_for, wps_while, wp_comp, wp_var, wp_C, wp_bin, wp_un, wp_T, wp_Tb, wp_asBl, wp_truthBl, wp_bAnd, wp_bOr, wp_bNot, wp_eIf, wp_eAnd, wp_eOr, wp_eNot, blCase_bl, wp_chain, wp_aNil, wp_aCons, wp_tup, wp_lst, wp_lstM, wp_call, wp_cl1, wp_cl2, wp_cl3, wp_cl4, wp_cl5, wp_meth, wp_isi, wp_oNone, wp_oSome, wp_sl, wp_it, wp_range1, wp_range2, wp_bYes, gEq_str, gNe_str, gEq_int, gNe_int, gEq_bl, gNe_bl, gIs_bl, gIsNot_bl, gAdd_int, gSub_int, gC_int, gI_int, gAdd_str, gAdd_tup, gAdd_lst, gNeg_int, gIx_tup, gIx_lst, gLen_tup, gLen_lst, gLen_str, gInt_int, gInt_bl, gTuple_lst, gTuple_tup, gList_lst, gList_tup, gSl_tup, gSl_lst, gSl_fl, gSl_str, srcL_tup, srcL_lst, srcL_fl, srcL_str, srcR1_int, typN, startR, List.map_cons, List.map_nil, List.length_cons, List.length_nil, Nat.reduceAdd, Nat.reduceSub, Nat.zero_add, Nat.sub_self, Nat.sub_zero, List.replicate_zero, List.replicate_succ, List.cons_append, List.nil_append, List.append_nil, List.getElem?_cons_zero, List.getElem?_cons_succ, List.set_cons_zero, List.set_cons_succ, List.set_nil, List.getElem?_nil, Option.some.injEq, exists_eq_left', exists_eq_left, exists_eq_right, reduceCtorEq, false_and, and_false, true_and, and_true, exists_false, exists_const, wipeR, Nat.zero_le, String.reduceEq, D.int.injEq, D.str.injEq, D.bl.injEq, atI_0, atI_1, atI_2, atI_3, atI_4, beq_self_eq_true, not_true_eq_false, not_false_eq_true, Int.cast_ofNat_Int, Int.reduceEq, Int.reduceLE, Int.reduceLT, Int.reduceAdd, Int.reduceSub, Int.reduceMul, Int.reduceNeg, if_true, if_false, ite_true, ite_false, Bool.false_eq_true, if_neg, if_pos, decide_eq_true_eq, Bool.not_eq_true', decide_eq_false_iff_not, eq_self_iff_true, decide_true, decide_false, Bool.not_true, Bool.not_false]
  refine ltake (by omega) d1 (by decide) (by decide) fun v S1 hv0 hv1 d2 => ?_
  have hl2 : S1.length = S.length := by rw [d2.len, h.len]
  by_cases h2 : v < 2
  · simp only [h2, wp_ok, wp_ret, wp_stuck, wp_bad, wp_bnd, wp_if, wp_fif, wps_ok_nx, wps_ok_rt, wps_ok_bk, wps_ok_ct, wps_ok_xc, wps_bad, wps_lft, wps_seq, wps_nil, wps_ret, wps_expr, wps_asg, wps_if, wp_run, wps_for, wps_while, wp_comp, wp_var, wp_C, wp_bin, wp_un, wp_T, wp_Tb, wp_asBl, wp_truthBl, wp_bAnd, wp_bOr, wp_bNot, wp_eIf, wp_eAnd, wp_eOr, wp_eNot, blCase_bl, wp_chain, wp_aNil, wp_aCons, wp_tup, wp_lst, wp_lstM, wp_call, wp_cl1, wp_cl2, wp_cl3, wp_cl4, wp_cl5, wp_meth, wp_isi, wp_oNone, wp_oSome, wp_sl, wp_it, wp_range1, wp_range2, wp_bYes, gEq_str, gNe_str, gEq_int, gNe_int, gEq_bl, gNe_bl, gIs_bl, gIsNot_bl, gAdd_int, gSub_int, gC_int, gI_int, gAdd_str, gAdd_tup, gAdd_lst, gNeg_int, gIx_tup, gIx_lst, gLen_tup, gLen_lst, gLen_str, gInt_int, gInt_bl, gTuple_lst, gTuple_tup, gList_lst, gList_tup, gSl_tup, gSl_lst, gSl_fl, gSl_str, srcL_tup, srcL_lst, srcL_fl, srcL_str, srcR1_int, typN, startR, List.map_cons, List.map_nil, List.length_cons, List.length_nil, Nat.reduceAdd, Nat.reduceSub, Nat.zero_add, Nat.sub_self, Nat.sub_zero, List.replicate_zero, List.replicate_succ, List.cons_append, List.nil_append, List.append_nil, List.getElem?_cons_zero, List.getElem?_cons_succ, List.set_cons_zero, List.set_cons_succ, List.set_nil, List.getElem?_nil, Option.some.injEq, exists_eq_left', exists_eq_left, exists_eq_right, reduceCtorEq, false_and, and_false, true_and, and_true, exists_false, exists_const, wipeR, Nat.zero_le, String.reduceEq, D.int.injEq, D.str.injEq, D.bl.injEq, atI_0, atI_1, atI_2, atI_3, atI_4, beq_self_eq_true, not_true_eq_false, not_false_eq_true, Int.cast_ofNat_Int, Int.reduceEq, Int.reduceLE, Int.reduceLT, Int.reduceAdd, Int.reduceSub, Int.reduceMul, Int.reduceNeg, if_true, if_false, ite_true, ite_false, Bool.false_eq_true, if_neg, if_pos, decide_eq_true_eq, Bool.not_eq_true', decide_eq_false_iff_not, eq_self_iff_true, decide_true, decide_false, Bool.not_true, Bool.not_false]
    refine ltake (by omega) d2 (by decide) (by decide) fun v2 S2 q0 q1 d3 => ?_
    refine pick (L := basics.map .str) q0 q1 (fun d => ∃ z ∈ basics, d = .str z) (fun d hd => ?_) fun d hd => ?_
    · obtain ⟨z, hz, rfl⟩ := List.mem_map.mp hd
      exact ⟨z, hz, rfl⟩
    · obtain ⟨z, hz, rfl⟩ := hd
      exact d3.fin_same (by rw [d3.len, h.len]) rfl (hF _ _ c (.inl ⟨z, rfl, ⟨basics_len z hz, .inl hz⟩, .inl hz⟩) (by show 1 + 3 * c ≤ _; omega) d3)
  · simp only [h2, wp_ok, wp_ret, wp_stuck, wp_bad, wp_bnd, wp_if, wp_fif, wps_ok_nx, wps_ok_rt, wps_ok_bk, wps_ok_ct, wps_ok_xc, wps_bad, wps_lft, wps_seq, wps_nil, wps_ret, wps_expr, wps_asg, wps_if, wp_run, wps_for, wps_while, wp_comp, wp_var, wp_C, wp_bin, wp_un, wp_T, wp_Tb, wp_asBl, wp_truthBl, wp_bAnd, wp_bOr, wp_bNot, wp_eIf, wp_eAnd, wp_eOr, wp_eNot, blCase_bl, wp_chain, wp_aNil, wp_aCons, wp_tup, wp_lst, wp_lstM, wp_call, wp_cl1, wp_cl2, wp_cl3, wp_cl4, wp_cl5, wp_meth, wp_isi, wp_oNone, wp_oSome, wp_sl, wp_it, wp_range1, wp_range2, wp_bYes, gEq_str, gNe_str, gEq_int, gNe_int, gEq_bl, gNe_bl, gIs_bl, gIsNot_bl, gAdd_int, gSub_int, gC_int, gI_int, gAdd_str, gAdd_tup, gAdd_lst, gNeg_int, gIx_tup, gIx_lst, gLen_tup, gLen_lst, gLen_str, gInt_int, gInt_bl, gTuple_lst, gTuple_tup, gList_lst, gList_tup, gSl_tup, gSl_lst, gSl_fl, gSl_str, srcL_tup, srcL_lst, srcL_fl, srcL_str, srcR1_int, typN, startR, List.map_cons, List.map_nil, List.length_cons, List.length_nil, Nat.reduceAdd, Nat.reduceSub, Nat.zero_add, Nat.sub_self, Nat.sub_zero, List.replicate_zero, List.replicate_succ, List.cons_append, List.nil_append, List.append_nil, List.getElem?_cons_zero, List.getElem?_cons_succ, List.set_cons_zero, List.set_cons_succ, List.set_nil, List.getElem?_nil, Option.some.injEq, exists_eq_left', exists_eq_left, exists_eq_right, reduceCtorEq, false_and, and_false, true_and, and_true, exists_false, exists_const, wipeR, Nat.zero_le, String.reduceEq, D.int.injEq, D.str.injEq, D.bl.injEq, atI_0, atI_1, atI_2, atI_3, atI_4, beq_self_eq_true, not_true_eq_false, not_false_eq_true, Int.cast_ofNat_Int, Int.reduceEq, Int.reduceLE, Int.reduceLT, Int.reduceAdd, Int.reduceSub, Int.reduceMul, Int.reduceNeg, if_true, if_false, ite_true, ite_false, Bool.false_eq_true, if_neg, if_pos, decide_eq_true_eq, Bool.not_eq_true', decide_eq_false_iff_not, eq_self_iff_true, decide_true, decide_false, Bool.not_true, Bool.not_false]
    by_cases h3 : v = 2
    · simp only [h3, wp_ok, wp_ret, wp_stuck, wp_bad, wp_bnd, wp_if, wp_fif, wps_ok_nx, wps_ok_rt, wps_ok_bk, wps_ok_ct, wps_ok_xc, wps_bad, wps_lft, wps_seq, wps_nil, wps_ret, wps_expr, wps_asg, wps_if, wp_run, wps_for, wps_while, wp_comp, wp_var, wp_C, wp_bin, wp_un, wp_T, wp_Tb, wp_asBl, wp_truthBl, wp_bAnd, wp_bOr, wp_bNot, wp_eIf, wp_eAnd, wp_eOr, wp_eNot, blCase_bl, wp_chain, wp_aNil, wp_aCons, wp_tup, wp_lst, wp_lstM, wp_call, wp_cl1, wp_cl2, wp_cl3, wp_cl4, wp_cl5, wp_meth, wp_isi, wp_oNone, wp_oSome, wp_sl, wp_it, wp_range1, wp_range2, wp_bYes, gEq_str, gNe_str, gEq_int, gNe_int, gEq_bl, gNe_bl, gIs_bl, gIsNot_bl, gAdd_int, gSub_int, gC_int, gI_int, gAdd_str, gAdd_tup, gAdd_lst, gNeg_int, gIx_tup, gIx_lst, gLen_tup, gLen_lst, gLen_str, gInt_int, gInt_bl, gTuple_lst, gTuple_tup, gList_lst, gList_tup, gSl_tup, gSl_lst, gSl_fl, gSl_str, srcL_tup, srcL_lst, srcL_fl, srcL_str, srcR1_int, typN, startR, List.map_cons, List.map_nil, List.length_cons, List.length_nil, Nat.reduceAdd, Nat.reduceSub, Nat.zero_add, Nat.sub_self, Nat.sub_zero, List.replicate_zero, List.replicate_succ, List.cons_append, List.nil_append, List.append_nil, List.getElem?_cons_zero, List.getElem?_cons_succ, List.set_cons_zero, List.set_cons_succ, List.set_nil, List.getElem?_nil, Option.some.injEq, exists_eq_left', exists_eq_left, exists_eq_right, reduceCtorEq, false_and, and_false, true_and, and_true, exists_false, exists_const, wipeR, Nat.zero_le, String.reduceEq, D.int.injEq, D.str.injEq, D.bl.injEq, atI_0, atI_1, atI_2, atI_3, atI_4, beq_self_eq_true, not_true_eq_false, not_false_eq_true, Int.cast_ofNat_Int, Int.reduceEq, Int.reduceLE, Int.reduceLT, Int.reduceAdd, Int.reduceSub, Int.reduceMul, Int.reduceNeg, if_true, if_false, ite_true, ite_false, Bool.false_eq_true, if_neg, if_pos, decide_eq_true_eq, Bool.not_eq_true', decide_eq_false_iff_not, eq_self_iff_true, decide_true, decide_false, Bool.not_true, Bool.not_false]
      obtain ⟨l2, ll, dd⟩ := d2
      refine shuffle_gen (by omega) dd fun z S3 hz hs d3 => ?_
      have d4 : LS R l c S3 := ⟨l2, ll, d3⟩
      exact d4.fin_same (by rw [d4.len, h.len]) rfl (hF _ _ c (.inl ⟨z, rfl, ⟨hz, .inr (.inr hs)⟩, .inr (.inl hs)⟩) (by show 1 + 3 * c ≤ _; omega) d4)
    · simp only [h3, wp_ok, wp_ret, wp_stuck, wp_bad, wp_bnd, wp_if, wp_fif, wps_ok_nx, wps_ok_rt, wps_ok_bk, wps_ok_ct, wps_ok_xc, wps_bad, wps_lft, wps_seq, wps_nil, wps_ret, wps_expr, wps_asg, wps_if, wp_run, wps_for, wps_while, wp_comp, wp_var, wp_C, wp_bin, wp_un, wp_T, wp_Tb, wp_asBl, wp_truthBl, wp_bAnd, wp_bOr, wp_bNot, wp_eIf, wp_eAnd, wp_eOr, wp_eNot, blCase_bl, wp_chain, wp_aNil, wp_aCons, wp_tup, wp_lst, wp_lstM, wp_call, wp_cl1, wp_cl2, wp_cl3, wp_cl4, wp_cl5, wp_meth, wp_isi, wp_oNone, wp_oSome, wp_sl, wp_it, wp_range1, wp_range2, wp_bYes, gEq_str, gNe_str, gEq_int, gNe_int, gEq_bl, gNe_bl, gIs_bl, gIsNot_bl, gAdd_int, gSub_int, gC_int, gI_int, gAdd_str, gAdd_tup, gAdd_lst, gNeg_int, gIx_tup, gIx_lst, gLen_tup, gLen_lst, gLen_str, gInt_int, gInt_bl, gTuple_lst, gTuple_tup, gList_lst, gList_tup, gSl_tup, gSl_lst, gSl_fl, gSl_str, srcL_tup, srcL_lst, srcL_fl, srcL_str, srcR1_int, typN, startR, List.map_cons, List.map_nil, List.length_cons, List.length_nil, Nat.reduceAdd, Nat.reduceSub, Nat.zero_add, Nat.sub_self, Nat.sub_zero, List.replicate_zero, List.replicate_succ, List.cons_append, List.nil_append, List.append_nil, List.getElem?_cons_zero, List.getElem?_cons_succ, List.set_cons_zero, List.set_cons_succ, List.set_nil, List.getElem?_nil, Option.some.injEq, exists_eq_left', exists_eq_left, exists_eq_right, reduceCtorEq, false_and, and_false, true_and, and_true, exists_false, exists_const, wipeR, Nat.zero_le, String.reduceEq, D.int.injEq, D.str.injEq, D.bl.injEq, atI_0, atI_1, atI_2, atI_3, atI_4, beq_self_eq_true, not_true_eq_false, not_false_eq_true, Int.cast_ofNat_Int, Int.reduceEq, Int.reduceLE, Int.reduceLT, Int.reduceAdd, Int.reduceSub, Int.reduceMul, Int.reduceNeg, if_true, if_false, ite_true, ite_false, Bool.false_eq_true, if_neg, if_pos, decide_eq_true_eq, Bool.not_eq_true', decide_eq_false_iff_not, eq_self_iff_true, decide_true, decide_false, Bool.not_true, Bool.not_false]
      by_cases h4 : v = 3
      · simp only [h4, List.length_map, wp_ok, wp_ret, wp_stuck, wp_bad, wp_bnd, wp_if, wp_fif, wps_ok_nx, wps_ok_rt, wps_ok_bk, wps_ok_ct, wps_ok_xc, wps_bad, wps_lft, wps_seq, wps_nil, wps_ret, wps_expr, wps_asg, wps_if, wp_run, wps_for, wps_while, wp_comp, wp_var, wp_C, wp_bin, wp_un, wp_T, wp_Tb, wp_asBl, wp_truthBl, wp_bAnd, wp_bOr, wp_bNot, wp_eIf, wp_eAnd, wp_eOr, wp_eNot, blCase_bl, wp_chain, wp_aNil, wp_aCons, wp_tup, wp_lst, wp_lstM, wp_call, wp_cl1, wp_cl2, wp_cl3, wp_cl4, wp_cl5, wp_meth, wp_isi, wp_oNone, wp_oSome, wp_sl, wp_it, wp_range1, wp_range2, wp_bYes, gEq_str, gNe_str, gEq_int, gNe_int, gEq_bl, gNe_bl, gIs_bl, gIsNot_bl, gAdd_int, gSub_int, gC_int, gI_int, gAdd_str, gAdd_tup, gAdd_lst, gNeg_int, gIx_tup, gIx_lst, gLen_tup, gLen_lst, gLen_str, gInt_int, gInt_bl, gTuple_lst, gTuple_tup, gList_lst, gList_tup, gSl_tup, gSl_lst, gSl_fl, gSl_str, srcL_tup, srcL_lst, srcL_fl, srcL_str, srcR1_int, typN, startR, List.map_cons, List.map_nil, List.length_cons, List.length_nil, Nat.reduceAdd, Nat.reduceSub, Nat.zero_add, Nat.sub_self, Nat.sub_zero, List.replicate_zero, List.replicate_succ, List.cons_append, List.nil_append, List.append_nil, List.getElem?_cons_zero, List.getElem?_cons_succ, List.set_cons_zero, List.set_cons_succ, List.set_nil, List.getElem?_nil, Option.some.injEq, exists_eq_left', exists_eq_left, exists_eq_right, reduceCtorEq, false_and, and_false, true_and, and_true, exists_false, exists_const, wipeR, Nat.zero_le, String.reduceEq, D.int.injEq, D.str.injEq, D.bl.injEq, atI_0, atI_1, atI_2, atI_3, atI_4, beq_self_eq_true, not_true_eq_false, not_false_eq_true, Int.cast_ofNat_Int, Int.reduceEq, Int.reduceLE, Int.reduceLT, Int.reduceAdd, Int.reduceSub, Int.reduceMul, Int.reduceNeg, if_true, if_false, ite_true, ite_false, Bool.false_eq_true, if_neg, if_pos, decide_eq_true_eq, Bool.not_eq_true', decide_eq_false_iff_not, eq_self_iff_true, decide_true, decide_false, Bool.not_true, Bool.not_false]
        refine ltake (by omega) d2 (by omega) (by omega) fun v2 S2 q0 q1 d3 => ?_
        refine pick (L := L.map .str) q0 (by simpa using q1) (fun d => ∃ z ∈ L, d = .str z) (fun d hd => ?_) fun d hd => ?_
        · obtain ⟨z, hz, rfl⟩ := List.mem_map.mp hd
          exact ⟨z, hz, rfl⟩
        · obtain ⟨z, hz, rfl⟩ := hd
          exact d3.fin_same (by rw [d3.len, h.len]) rfl (hF _ _ c (.inl ⟨z, rfl, hL z hz, .inr (.inr hz)⟩) (by show 1 + 3 * c ≤ _; omega) d3)
      · simp only [h4, wp_ok, wp_ret, wp_stuck, wp_bad, wp_bnd, wp_if, wp_fif, wps_ok_nx, wps_ok_rt, wps_ok_bk, wps_ok_ct, wps_ok_xc, wps_bad, wps_lft, wps_seq, wps_nil, wps_ret, wps_expr, wps_asg, wps_if, wp_run, wps_for, wps_while, wp_comp, wp_var, wp_C, wp_bin, wp_un, wp_T, wp_Tb, wp_asBl, wp_truthBl, wp_bAnd, wp_bOr, wp_bNot, wp_eIf, wp_eAnd, wp_eOr, wp_eNot, blCase_bl, wp_chain, wp_aNil, wp_aCons, wp_tup, wp_lst, wp_lstM, wp_call, wp_cl1, wp_cl2, wp_cl3, wp_cl4, wp_cl5, wp_meth, wp_isi, wp_oNone, wp_oSome, wp_sl, wp_it, wp_range1, wp_range2, wp_bYes, gEq_str, gNe_str, gEq_int, gNe_int, gEq_bl, gNe_bl, gIs_bl, gIsNot_bl, gAdd_int, gSub_int, gC_int, gI_int, gAdd_str, gAdd_tup, gAdd_lst, gNeg_int, gIx_tup, gIx_lst, gLen_tup, gLen_lst, gLen_str, gInt_int, gInt_bl, gTuple_lst, gTuple_tup, gList_lst, gList_tup, gSl_tup, gSl_lst, gSl_fl, gSl_str, srcL_tup, srcL_lst, srcL_fl, srcL_str, srcR1_int, typN, startR, List.map_cons, List.map_nil, List.length_cons, List.length_nil, Nat.reduceAdd, Nat.reduceSub, Nat.zero_add, Nat.sub_self, Nat.sub_zero, List.replicate_zero, List.replicate_succ, List.cons_append, List.nil_append, List.append_nil, List.getElem?_cons_zero, List.getElem?_cons_succ, List.set_cons_zero, List.set_cons_succ, List.set_nil, List.getElem?_nil, Option.some.injEq, exists_eq_left', exists_eq_left, exists_eq_right, reduceCtorEq, false_and, and_false, true_and, and_true, exists_false, exists_const, wipeR, Nat.zero_le, String.reduceEq, D.int.injEq, D.str.injEq, D.bl.injEq, atI_0, atI_1, atI_2, atI_3, atI_4, beq_self_eq_true, not_true_eq_false, not_false_eq_true, Int.cast_ofNat_Int, Int.reduceEq, Int.reduceLE, Int.reduceLT, Int.reduceAdd, Int.reduceSub, Int.reduceMul, Int.reduceNeg, if_true, if_false, ite_true, ite_false, Bool.false_eq_true, if_neg, if_pos, decide_eq_true_eq, Bool.not_eq_true', decide_eq_false_iff_not, eq_self_iff_true, decide_true, decide_false, Bool.not_true, Bool.not_false]
        refine hT R S1 l c N' _ _ (by omega) d2 fun t S2 c2 ht hc2 d3 => ?_
        exact ⟨small_line (by decide), d3.fin_same (by rw [d3.len, h.len]) (tr_push ht.tr) (hF _ _ c2 (.inr ⟨t, rfl, ht⟩) (by show (tokT J t).length + 3 * c2 ≤ _; omega) d3)⟩
theorem row_gen {deep J N : Nat} (hT : ThOk fu L deep J) (hN : 3 * deep + 6 ≤ N) (h : LS R l c S) (hF : ∀ ws S' c', ws.length ≤ 6 → (∀ w ∈ ws, WdG 6 (QL L) deep w) → (ws.flatMap (tokW J)).length + 3 * c' ≤ 3 * c → LS R l c' S' → F (.tup ws) S') : wp (den fu N i_l_row [.ref 1, .lst (L.map .str), .int deep, .ref l] S) F E := by
  obtain ⟨N', rfl⟩ : ∃ N', N = N' + 1 := ⟨N - 1, by omega⟩
  show wp (runDef false 6 (b_l_row fu (den fu N')) _ _) _ _
  have hSl : S.length = R.length := h.len
  have ll := h.ll
  have l2 := h.l2
  simp only [b_l_row, hSl, wp_ok, wp_ret, wp_stuck, wp_bad, wp_bnd, wp_if, wp_fif, wps_ok_nx, wps_ok_rt, wps_ok_bk, wps_ok_ct, wps_ok_xc, wps_bad, wps_lft, wps_seq, wps_nil, wps_ret, wps_expr, wps_asg, wps_if, wp_run, wps_for, wps_while, wp_comp, wp_var, wp_C, wp_bin, wp_un, wp_T, wp_Tb, wp_asBl, wp_truthBl, wp_bAnd, wp_bOr, wp_bNot, wp_eIf, wp_eAnd, wp_eOr, wp_eNot, blCase_bl, wp_chain, wp_aNil, wp_aCons, wp_tup, wp_lst, wp_lstM, wp_call, wp_cl1, wp_cl2, wp_cl3, wp_cl4, wp_cl5, wp_meth, wp_isi, wp_oNone, wp_oSome, wp_sl, wp_it, wp_range1, wp_range2, wp_bYes, gEq_str, gNe_str, gEq_int, gNe_int, gEq_bl, gNe_bl, gIs_bl, gIsNot_bl, gAdd_int, gSub_int, gC_int, gI_int, gAdd_str, gAdd_tup, gAdd_lst, gNeg_int, gIx_tup, gIx_lst, gLen_tup, gLen_lst, gLen_str, gInt_int, gInt_bl, gTuple_lst, gTuple_tup, gList_lst, gList_tup, gSl_tup, gSl_lst, gSl_fl, gSl_str, srcL_tup, srcL_lst, srcL_fl, srcL_str, srcR1_int, typN, startR, List.map_cons, List.map_nil, List.length_cons, List.length_nil, Nat.reduceAdd, Nat.reduceSub, Nat.zero_add, Nat.sub_self, Nat.sub_zero, List.replicate_zero, List.replicate_succ, List.cons_append, List.nil_append, List.append_nil, List.getElem?_cons_zero, List.getElem?_cons_succ, List.set_cons_zero, List.set_cons_succ, List.set_nil, List.getElem?_nil, Option.some.injEq, exists_eq_left', exists_eq_left, exists_eq_right, reduceCtorEq, false_and, and_false, true_and, and_true, exists_false, exists_const, wipeR, Nat.zero_le, String.reduceEq, D.int.injEq, D.str.injEq, D.bl.injEq, atI_0, atI_1, atI_2, atI_3, atI_4, beq_self_eq_true, not_true_eq_false, not_false_eq_true, Int.cast_ofNat_Int, Int.reduceEq, Int.reduceLE, Int.reduceLT, Int.reduceAdd, Int.reduceSub, Int.reduceMul, Int.reduceNeg, if_true, if_false, ite_true, ite_false, Bool.false_eq_true, if_neg, if_pos, decide_eq_true_eq, Bool.not_eq_true', decide_eq_false_iff_not, eq_self_iff_true, decide_true, decide_false, Bool.not_true, Bool.not_false]
  have d0 : LS (R ++ [.lst []]) l c (S ++ [.lst []]) := h.push rfl
  refine ⟨small_line (by decide), ltake (by omega) d0 (by decide) (by decide) fun v S1 hv0 hv1 d1 => ?_⟩
  simp only [wp_ok, wp_ret, wp_stuck, wp_bad, wp_bnd, wp_if, wp_fif, wps_ok_nx, wps_ok_rt, wps_ok_bk, wps_ok_ct, wps_ok_xc, wps_bad, wps_lft, wps_seq, wps_nil, wps_ret, wps_expr, wps_asg, wps_if, wp_run, wps_for, wps_while, wp_comp, wp_var, wp_C, wp_bin, wp_un, wp_T, wp_Tb, wp_asBl, wp_truthBl, wp_bAnd, wp_bOr, wp_bNot, wp_eIf, wp_eAnd, wp_eOr, wp_eNot, blCase_bl, wp_chain, wp_aNil, wp_aCons, wp_tup, wp_lst, wp_lstM, wp_call, wp_cl1, wp_cl2, wp_cl3, wp_cl4, wp_cl5, wp_meth, wp_isi, wp_oNone, wp_oSome, wp_sl, wp_it, wp_range1, wp_range2, wp_bYes, gEq_str, gNe_str, gEq_int, gNe_int, gEq_bl, gNe_bl, gIs_bl, gIsNot_bl, gAdd_int, gSub_int, gC_int, gI_int, gAdd_str, gAdd_tup, gAdd_lst, gNeg_int, gIx_tup, gIx_lst, gLen_tup, gLen_lst, gLen_str, gInt_int, gInt_bl, gTuple_lst, gTuple_tup, gList_lst, gList_tup, gSl_tup, gSl_lst, gSl_fl, gSl_str, srcL_tup, srcL_lst, srcL_fl, srcL_str, srcR1_int, typN, startR, List.map_cons, List.map_nil, List.length_cons, List.length_nil, Nat.reduceAdd, Nat.reduceSub, Nat.zero_add, Nat.sub_self, Nat.sub_zero, List.replicate_zero, List.replicate_succ, List.cons_append, List.nil_append, List.append_nil, List.getElem?_cons_zero, List.getElem?_cons_succ, List.set_cons_zero, List.set_cons_succ, List.set_nil, List.getElem?_nil, Option.some.injEq, exists_eq_left', exists_eq_left, exists_eq_right, reduceCtorEq, false_and, and_false, true_and, and_true, exists_false, exists_const, wipeR, Nat.zero_le, String.reduceEq, D.int.injEq, D.str.injEq, D.bl.injEq, atI_0, atI_1, atI_2, atI_3, atI_4, beq_self_eq_true, not_true_eq_false, not_false_eq_true, Int.cast_ofNat_Int, Int.reduceEq, Int.reduceLE, Int.reduceLT, Int.reduceAdd, Int.reduceSub, Int.reduceMul, Int.reduceNeg, if_true, if_false, ite_true, ite_false, Bool.false_eq_true, if_neg, if_pos, decide_eq_true_eq, Bool.not_eq_true', decide_eq_false_iff_not, eq_self_iff_true, decide_true, decide_false, Bool.not_true, Bool.not_false]
  have pk : ∃ d, atI [D.int 4, D.int 7] (if v = 7 then (1 : Int) else 0) = some d ∧ ∃ i : Int, d = .int i ∧ 0 < i ∧ i ≤ 7 := by
    by_cases hv : v = 7
    · rw [if_pos hv]; exact ⟨_, atI_1, 7, rfl, by decide, by decide⟩
    · rw [if_neg hv]; exact ⟨_, atI_0, 4, rfl, by decide, by decide⟩
  obtain ⟨d, ed, i, rfl, i0, i7⟩ := pk
  refine ⟨_, ed, ltake (by omega) d1 i0 (by omega) fun v2 S2 q0 q1 d2 => ?_⟩
  rw [srcR1_int]
  refine ⟨by simp [bnd62]; omega, ?_⟩
  have hat : ∀ {ws : List D} {S' : Sto} {c' : Nat}, LS (R ++ [.lst ws]) l c' S' → atL S' R.length = some ws := fun hd => atL_of (hd.last ll)
  refine wps_forM (fun j ρ S' => j ≤ v2.toNat → ∃ (ws : List D) (o : Option D), ρ = [some (.ref 1), some (.lst (L.map .str)), some (.int deep), some (.ref l), some (.ref R.length), o] ∧ ws.length ≤ j ∧ (∀ w ∈ ws, WdG 6 (QL L) deep w) ∧ ∃ c', (ws.flatMap (tokW J)).length + 3 * c' ≤ 3 * c ∧ LS (R ++ [.lst ws]) l c' S') (fun _ _ _ _ => trivial) ?_ ?_ (fun _ => ⟨[], none, rfl, Nat.le_refl _, fun _ h => (List.not_mem_nil h).elim, c, by simp, d2⟩)
  · intro j d ρ S' hd hI
    have hlt := (List.getElem?_eq_some_iff.mp hd).1
    rw [rangeD_len] at hlt
    obtain ⟨ws, o, rfl, hl, hw, c1, hc1, hd2⟩ := hI (by omega)
    refine ⟨_, rfl, ?_⟩
    obtain ⟨at1, up⟩ := hd2.get
    simp only [gIx_ref at1, wp_ok, wp_ret, wp_stuck, wp_bad, wp_bnd, wp_if, wp_fif, wps_ok_nx, wps_ok_rt, wps_ok_bk, wps_ok_ct, wps_ok_xc, wps_bad, wps_lft, wps_seq, wps_nil, wps_ret, wps_expr, wps_asg, wps_if, wp_run, wps_for, wps_while, wp_comp, wp_var, wp_C, wp_bin, wp_un, wp_T, wp_Tb, wp_asBl, wp_truthBl, wp_bAnd, wp_bOr, wp_bNot, wp_eIf, wp_eAnd, wp_eOr, wp_eNot, blCase_bl, wp_chain, wp_aNil, wp_aCons, wp_tup, wp_lst, wp_lstM, wp_call, wp_cl1, wp_cl2, wp_cl3, wp_cl4, wp_cl5, wp_meth, wp_isi, wp_oNone, wp_oSome, wp_sl, wp_it, wp_range1, wp_range2, wp_bYes, gEq_str, gNe_str, gEq_int, gNe_int, gEq_bl, gNe_bl, gIs_bl, gIsNot_bl, gAdd_int, gSub_int, gC_int, gI_int, gAdd_str, gAdd_tup, gAdd_lst, gNeg_int, gIx_tup, gIx_lst, gLen_tup, gLen_lst, gLen_str, gInt_int, gInt_bl, gTuple_lst, gTuple_tup, gList_lst, gList_tup, gSl_tup, gSl_lst, gSl_fl, gSl_str, srcL_tup, srcL_lst, srcL_fl, srcL_str, srcR1_int, typN, startR, List.map_cons, List.map_nil, List.length_cons, List.length_nil, Nat.reduceAdd, Nat.reduceSub, Nat.zero_add, Nat.sub_self, Nat.sub_zero, List.replicate_zero, List.replicate_succ, List.cons_append, List.nil_append, List.append_nil, List.getElem?_cons_zero, List.getElem?_cons_succ, List.set_cons_zero, List.set_cons_succ, List.set_nil, List.getElem?_nil, Option.some.injEq, exists_eq_left', exists_eq_left, exists_eq_right, reduceCtorEq, false_and, and_false, true_and, and_true, exists_false, exists_const, wipeR, Nat.zero_le, String.reduceEq, D.int.injEq, D.str.injEq, D.bl.injEq, atI_0, atI_1, atI_2, atI_3, atI_4, beq_self_eq_true, not_true_eq_false, not_false_eq_true, Int.cast_ofNat_Int, Int.reduceEq, Int.reduceLE, Int.reduceLT, Int.reduceAdd, Int.reduceSub, Int.reduceMul, Int.reduceNeg, if_true, if_false, ite_true, ite_false, Bool.false_eq_true, if_neg, if_pos, decide_eq_true_eq, Bool.not_eq_true', decide_eq_false_iff_not, eq_self_iff_true, decide_true, decide_false, Bool.not_true, Bool.not_false]
    by_cases hn : (0 : Int) < (c1 : Int)
    · obtain ⟨c2, rfl⟩ : ∃ c2, c1 = c2 + 1 := ⟨c1 - 1, by omega⟩
      simp only [hn, isTy_ref (hat hd2), wp_ok, wp_ret, wp_stuck, wp_bad, wp_bnd, wp_if, wp_fif, wps_ok_nx, wps_ok_rt, wps_ok_bk, wps_ok_ct, wps_ok_xc, wps_bad, wps_lft, wps_seq, wps_nil, wps_ret, wps_expr, wps_asg, wps_if, wp_run, wps_for, wps_while, wp_comp, wp_var, wp_C, wp_bin, wp_un, wp_T, wp_Tb, wp_asBl, wp_truthBl, wp_bAnd, wp_bOr, wp_bNot, wp_eIf, wp_eAnd, wp_eOr, wp_eNot, blCase_bl, wp_chain, wp_aNil, wp_aCons, wp_tup, wp_lst, wp_lstM, wp_call, wp_cl1, wp_cl2, wp_cl3, wp_cl4, wp_cl5, wp_meth, wp_isi, wp_oNone, wp_oSome, wp_sl, wp_it, wp_range1, wp_range2, wp_bYes, gEq_str, gNe_str, gEq_int, gNe_int, gEq_bl, gNe_bl, gIs_bl, gIsNot_bl, gAdd_int, gSub_int, gC_int, gI_int, gAdd_str, gAdd_tup, gAdd_lst, gNeg_int, gIx_tup, gIx_lst, gLen_tup, gLen_lst, gLen_str, gInt_int, gInt_bl, gTuple_lst, gTuple_tup, gList_lst, gList_tup, gSl_tup, gSl_lst, gSl_fl, gSl_str, srcL_tup, srcL_lst, srcL_fl, srcL_str, srcR1_int, typN, startR, List.map_cons, List.map_nil, List.length_cons, List.length_nil, Nat.reduceAdd, Nat.reduceSub, Nat.zero_add, Nat.sub_self, Nat.sub_zero, List.replicate_zero, List.replicate_succ, List.cons_append, List.nil_append, List.append_nil, List.getElem?_cons_zero, List.getElem?_cons_succ, List.set_cons_zero, List.set_cons_succ, List.set_nil, List.getElem?_nil, Option.some.injEq, exists_eq_left', exists_eq_left, exists_eq_right, reduceCtorEq, false_and, and_false, true_and, and_true, exists_false, exists_const, wipeR, Nat.zero_le, String.reduceEq, D.int.injEq, D.str.injEq, D.bl.injEq, atI_0, atI_1, atI_2, atI_3, atI_4, beq_self_eq_true, not_true_eq_false, not_false_eq_true, Int.cast_ofNat_Int, Int.reduceEq, Int.reduceLE, Int.reduceLT, Int.reduceAdd, Int.reduceSub, Int.reduceMul, Int.reduceNeg, if_true, if_false, ite_true, ite_false, Bool.false_eq_true, if_neg, if_pos, decide_eq_true_eq, Bool.not_eq_true', decide_eq_false_iff_not, eq_self_iff_true, decide_true, decide_false, Bool.not_true, Bool.not_false]
      refine word_gen hL h0 h8 hT (by omega) hd2 fun w S3 c3 hww hc3 hd3 => ?_
      have hd4 := hd3.put ll (m' := .lst (ws ++ [w])) (trs fun x hx => by
        rw [List.mem_append, List.mem_singleton] at hx
        rcases hx with hx | rfl
        · exact (hw x hx).tr
        · exact hww.tr)
      rw [gAppend_ref (hat hd3)]
      refine ⟨by rw [sizeLine_eq]; omega, fun _ => ⟨ws ++ [w], some d, rfl, by simp; omega, fun x hx => ?_, c3, by simp only [List.flatMap_append, List.flatMap_cons, List.flatMap_nil, List.append_nil, List.length_append]; omega, hd4⟩⟩
      rw [List.mem_append, List.mem_singleton] at hx
      rcases hx with hx | rfl
      · exact hw x hx
      · exact hww
    · rw [if_neg hn]
      exact fun _ => ⟨ws, some d, rfl, by omega, hw, c1, hc1, hd2⟩
  · intro ρ S' hI
    rw [rangeD_len] at hI
    obtain ⟨ws, o, rfl, hl, hw, c1, hc1, hd2⟩ := hI (Nat.le_refl _)
    simp only [wp_ok, wp_ret, wp_stuck, wp_bad, wp_bnd, wp_if, wp_fif, wps_ok_nx, wps_ok_rt, wps_ok_bk, wps_ok_ct, wps_ok_xc, wps_bad, wps_lft, wps_seq, wps_nil, wps_ret, wps_expr, wps_asg, wps_if, wp_run, wps_for, wps_while, wp_comp, wp_var, wp_C, wp_bin, wp_un, wp_T, wp_Tb, wp_asBl, wp_truthBl, wp_bAnd, wp_bOr, wp_bNot, wp_eIf, wp_eAnd, wp_eOr, wp_eNot, blCase_bl, wp_chain, wp_aNil, wp_aCons, wp_tup, wp_lst, wp_lstM, wp_call, wp_cl1, wp_cl2, wp_cl3, wp_cl4, wp_cl5, wp_meth, wp_isi, wp_oNone, wp_oSome, wp_sl, wp_it, wp_range1, wp_range2, wp_bYes, gEq_str, gNe_str, gEq_int, gNe_int, gEq_bl, gNe_bl, gIs_bl, gIsNot_bl, gAdd_int, gSub_int, gC_int, gI_int, gAdd_str, gAdd_tup, gAdd_lst, gNeg_int, gIx_tup, gIx_lst, gLen_tup, gLen_lst, gLen_str, gInt_int, gInt_bl, gTuple_lst, gTuple_tup, gList_lst, gList_tup, gSl_tup, gSl_lst, gSl_fl, gSl_str, srcL_tup, srcL_lst, srcL_fl, srcL_str, srcR1_int, typN, startR, List.map_cons, List.map_nil, List.length_cons, List.length_nil, Nat.reduceAdd, Nat.reduceSub, Nat.zero_add, Nat.sub_self, Nat.sub_zero, List.replicate_zero, List.replicate_succ, List.cons_append, List.nil_append, List.append_nil, List.getElem?_cons_zero, List.getElem?_cons_succ, List.set_cons_zero, List.set_cons_succ, List.set_nil, List.getElem?_nil, Option.some.injEq, exists_eq_left', exists_eq_left, exists_eq_right, reduceCtorEq, false_and, and_false, true_and, and_true, exists_false, exists_const, wipeR, Nat.zero_le, String.reduceEq, D.int.injEq, D.str.injEq, D.bl.injEq, atI_0, atI_1, atI_2, atI_3, atI_4, beq_self_eq_true, not_true_eq_false, not_false_eq_true, Int.cast_ofNat_Int, Int.reduceEq, Int.reduceLE, Int.reduceLT, Int.reduceAdd, Int.reduceSub, Int.reduceMul, Int.reduceNeg, if_true, if_false, ite_true, ite_false, Bool.false_eq_true, if_neg, if_pos, decide_eq_true_eq, Bool.not_eq_true', decide_eq_false_iff_not, eq_self_iff_true, decide_true, decide_false, Bool.not_true, Bool.not_false]
    rw [gTuple_seq (show iLst S' (.ref R.length) = some ws from hat hd2)]
    have hc := hd2.cut ll
    exact hd2.at_.fin (S1 := R) (by omega) (tr_tup fun x hx => (hw x hx).tr) (hF ws _ c1 (by omega) hw hc1 hc)
theorem stack_gen {deep J N : Nat} (hT : ThOk fu L deep J) (hN : 3 * deep + 5 ≤ N) (h : LS R l c S) (hF : ∀ ws S' c', ws.length ≤ 6 → (∀ w ∈ ws, ThG 6 (QL L) deep w) → (ws.flatMap (tokT J)).length + 3 * c' ≤ 3 * c → LS R l c' S' → F (.tup ws) S') : wp (den fu N i_l_stack [.ref 1, .lst (L.map .str), .int deep, .ref l] S) F E := by
  obtain ⟨N', rfl⟩ : ∃ N', N = N' + 1 := ⟨N - 1, by omega⟩
  show wp (runDef false 6 (b_l_stack fu (den fu N')) _ _) _ _
  have hSl : S.length = R.length := h.len
  have ll := h.ll
  have l2 := h.l2
  simp only [b_l_stack, hSl, wp_ok, wp_ret, wp_stuck, wp_bad, wp_bnd, wp_if, wp_fif, wps_ok_nx, wps_ok_rt, wps_ok_bk, wps_ok_ct, wps_ok_xc, wps_bad, wps_lft, wps_seq, wps_nil, wps_ret, wps_expr, wps_asg, wps_if, wp_run, wps_for, wps_while, wp_comp, wp_var, wp_C, wp_bin, wp_un, wp_T, wp_Tb, wp_asBl, wp_truthBl, wp_bAnd, wp_bOr, wp_bNot, wp_eIf, wp_eAnd, wp_eOr, wp_eNot, blCase_bl, wp_chain, wp_aNil, wp_aCons, wp_tup, wp_lst, wp_lstM, wp_call, wp_cl1, wp_cl2, wp_cl3, wp_cl4, wp_cl5, wp_meth, wp_isi, wp_oNone, wp_oSome, wp_sl, wp_it, wp_range1, wp_range2, wp_bYes, gEq_str, gNe_str, gEq_int, gNe_int, gEq_bl, gNe_bl, gIs_bl, gIsNot_bl, gAdd_int, gSub_int, gC_int, gI_int, gAdd_str, gAdd_tup, gAdd_lst, gNeg_int, gIx_tup, gIx_lst, gLen_tup, gLen_lst, gLen_str, gInt_int, gInt_bl, gTuple_lst, gTuple_tup, gList_lst, gList_tup, gSl_tup, gSl_lst, gSl_fl, gSl_str, srcL_tup, srcL_lst, srcL_fl, srcL_str, srcR1_int, typN, startR, List.map_cons, List.map_nil, List.length_cons, List.length_nil, Nat.reduceAdd, Nat.reduceSub, Nat.zero_add, Nat.sub_self, Nat.sub_zero, List.replicate_zero, List.replicate_succ, List.cons_append, List.nil_append, List.append_nil, List.getElem?_cons_zero, List.getElem?_cons_succ, List.set_cons_zero, List.set_cons_succ, List.set_nil, List.getElem?_nil, Option.some.injEq, exists_eq_left', exists_eq_left, exists_eq_right, reduceCtorEq, false_and, and_false, true_and, and_true, exists_false, exists_const, wipeR, Nat.zero_le, String.reduceEq, D.int.injEq, D.str.injEq, D.bl.injEq, atI_0, atI_1, atI_2, atI_3, atI_4, beq_self_eq_true, not_true_eq_false, not_false_eq_true, Int.cast_ofNat_Int, Int.reduceEq, Int.reduceLE, Int.reduceLT, Int.reduceAdd, Int.reduceSub, Int.reduceMul, Int.reduceNeg, if_true, if_false, ite_true, ite_false, Bool.false_eq_true, if_neg, if_pos, decide_eq_true_eq, Bool.not_eq_true', decide_eq_false_iff_not, eq_self_iff_true, decide_true, decide_false, Bool.not_true, Bool.not_false]
  have d0 : LS (R ++ [.lst []]) l c (S ++ [.lst []]) := h.push rfl
  refine ⟨small_line (by decide), ltake (by omega) d0 (by decide) (by decide) fun v S1 hv0 hv1 d1 => ?_⟩
  simp only [wp_ok, wp_ret, wp_stuck, wp_bad, wp_bnd, wp_if, wp_fif, wps_ok_nx, wps_ok_rt, wps_ok_bk, wps_ok_ct, wps_ok_xc, wps_bad, wps_lft, wps_seq, wps_nil, wps_ret, wps_expr, wps_asg, wps_if, wp_run, wps_for, wps_while, wp_comp, wp_var, wp_C, wp_bin, wp_un, wp_T, wp_Tb, wp_asBl, wp_truthBl, wp_bAnd, wp_bOr, wp_bNot, wp_eIf, wp_eAnd, wp_eOr, wp_eNot, blCase_bl, wp_chain, wp_aNil, wp_aCons, wp_tup, wp_lst, wp_lstM, wp_call, wp_cl1, wp_cl2, wp_cl3, wp_cl4, wp_cl5, wp_meth, wp_isi, wp_oNone, wp_oSome, wp_sl, wp_it, wp_range1, wp_range2, wp_bYes, gEq_str, gNe_str, gEq_int, gNe_int, gEq_bl, gNe_bl, gIs_bl, gIsNot_bl, gAdd_int, gSub_int, gC_int, gI_int, gAdd_str, gAdd_tup, gAdd_lst, gNeg_int, gIx_tup, gIx_lst, gLen_tup, gLen_lst, gLen_str, gInt_int, gInt_bl, gTuple_lst, gTuple_tup, gList_lst, gList_tup, gSl_tup, gSl_lst, gSl_fl, gSl_str, srcL_tup, srcL_lst, srcL_fl, srcL_str, srcR1_int, typN, startR, List.map_cons, List.map_nil, List.length_cons, List.length_nil, Nat.reduceAdd, Nat.reduceSub, Nat.zero_add, Nat.sub_self, Nat.sub_zero, List.replicate_zero, List.replicate_succ, List.cons_append, List.nil_append, List.append_nil, List.getElem?_cons_zero, List.getElem?_cons_succ, List.set_cons_zero, List.set_cons_succ, List.set_nil, List.getElem?_nil, Option.some.injEq, exists_eq_left', exists_eq_left, exists_eq_right, reduceCtorEq, false_and, and_false, true_and, and_true, exists_false, exists_const, wipeR, Nat.zero_le, String.reduceEq, D.int.injEq, D.str.injEq, D.bl.injEq, atI_0, atI_1, atI_2, atI_3, atI_4, beq_self_eq_true, not_true_eq_false, not_false_eq_true, Int.cast_ofNat_Int, Int.reduceEq, Int.reduceLE, Int.reduceLT, Int.reduceAdd, Int.reduceSub, Int.reduceMul, Int.reduceNeg, if_true, if_false, ite_true, ite_false, Bool.false_eq_true, if_neg, if_pos, decide_eq_true_eq, Bool.not_eq_true', decide_eq_false_iff_not, eq_self_iff_true, decide_true, decide_false, Bool.not_true, Bool.not_false]
  have pk : ∃ d, atI [D.int 4, D.int 7] (if v = 7 then (1 : Int) else 0) = some d ∧ ∃ i : Int, d = .int i ∧ 0 < i ∧ i ≤ 7 := by
    by_cases hv : v = 7
    · rw [if_pos hv]; exact ⟨_, atI_1, 7, rfl, by decide, by decide⟩
    · rw [if_neg hv]; exact ⟨_, atI_0, 4, rfl, by decide, by decide⟩
  obtain ⟨d, ed, i, rfl, i0, i7⟩ := pk
  refine ⟨_, ed, ltake (by omega) d1 i0 (by omega) fun v2 S2 q0 q1 d2 => ?_⟩
  rw [srcR1_int]
  refine ⟨by simp [bnd62]; omega, ?_⟩
  have hat : ∀ {ws : List D} {S' : Sto} {c' : Nat}, LS (R ++ [.lst ws]) l c' S' → atL S' R.length = some ws := fun hd => atL_of (hd.last ll)
  refine wps_forM (fun j ρ S' => j ≤ v2.toNat → ∃ (ws : List D) (o : Option D), ρ = [some (.ref 1), some (.lst (L.map .str)), some (.int deep), some (.ref l), some (.ref R.length), o] ∧ ws.length ≤ j ∧ (∀ w ∈ ws, ThG 6 (QL L) deep w) ∧ ∃ c', (ws.flatMap (tokT J)).length + 3 * c' ≤ 3 * c ∧ LS (R ++ [.lst ws]) l c' S') (fun _ _ _ _ => trivial) ?_ ?_ (fun _ => ⟨[], none, rfl, Nat.le_refl _, fun _ h => (List.not_mem_nil h).elim, c, by simp, d2⟩)
  · intro j d ρ S' hd hI
    have hlt := (List.getElem?_eq_some_iff.mp hd).1
    rw [rangeD_len] at hlt
    obtain ⟨ws, o, rfl, hl, hw, c1, hc1, hd2⟩ := hI (by omega)
    refine ⟨_, rfl, ?_⟩
    obtain ⟨at1, up⟩ := hd2.get
    simp only [gIx_ref at1, wp_ok, wp_ret, wp_stuck, wp_bad, wp_bnd, wp_if, wp_fif, wps_ok_nx, wps_ok_rt, wps_ok_bk, wps_ok_ct, wps_ok_xc, wps_bad, wps_lft, wps_seq, wps_nil, wps_ret, wps_expr, wps_asg, wps_if, wp_run, wps_for, wps_while, wp_comp, wp_var, wp_C, wp_bin, wp_un, wp_T, wp_Tb, wp_asBl, wp_truthBl, wp_bAnd, wp_bOr, wp_bNot, wp_eIf, wp_eAnd, wp_eOr, wp_eNot, blCase_bl, wp_chain, wp_aNil, wp_aCons, wp_tup, wp_lst, wp_lstM, wp_call, wp_cl1, wp_cl2, wp_cl3, wp_cl4, wp_cl5, wp_meth, wp_isi, wp_oNone, wp_oSome, wp_sl, wp_it, wp_range1, wp_range2, wp_bYes, gEq_str, gNe_str, gEq_int, gNe_int, gEq_bl, gNe_bl, gIs_bl, gIsNot_bl, gAdd_int, gSub_int, gC_int, gI_int, gAdd_str, gAdd_tup, gAdd_lst, gNeg_int, gIx_tup, gIx_lst, gLen_tup, gLen_lst, gLen_str, gInt_int, gInt_bl, gTuple_lst, gTuple_tup, gList_lst, gList_tup, gSl_tup, gSl_lst, gSl_fl, gSl_str, srcL_tup, srcL_lst, srcL_fl, srcL_str, srcR1_int, typN, startR, List.map_cons, List.map_nil, List.length_cons, List.length_nil, Nat.reduceAdd, Nat.reduceSub, Nat.zero_add, Nat.sub_self, Nat.sub_zero, List.replicate_zero, List.replicate_succ, List.cons_append, List.nil_append, List.append_nil, List.getElem?_cons_zero, List.getElem?_cons_succ, List.set_cons_zero, List.set_cons_succ, List.set_nil, List.getElem?_nil, Option.some.injEq, exists_eq_left', exists_eq_left, exists_eq_right, reduceCtorEq, false_and, and_false, true_and, and_true, exists_false, exists_const, wipeR, Nat.zero_le, String.reduceEq, D.int.injEq, D.str.injEq, D.bl.injEq, atI_0, atI_1, atI_2, atI_3, atI_4, beq_self_eq_true, not_true_eq_false, not_false_eq_true, Int.cast_ofNat_Int, Int.reduceEq, Int.reduceLE, Int.reduceLT, Int.reduceAdd, Int.reduceSub, Int.reduceMul, Int.reduceNeg, if_true, if_false, ite_true, ite_false, Bool.false_eq_true, if_neg, if_pos, decide_eq_true_eq, Bool.not_eq_true', decide_eq_false_iff_not, eq_self_iff_true, decide_true, decide_false, Bool.not_true, Bool.not_false]
    by_cases hn : (0 : Int) < (c1 : Int)
    · obtain ⟨c2, rfl⟩ : ∃ c2, c1 = c2 + 1 := ⟨c1 - 1, by omega⟩
      simp only [hn, gIx_ref at1, wps_sub, show ((c2 + 1 : Nat) : Int) - 1 = (c2 : Int) by omega, show ∀ d {FU : Unit → Sto → Prop} {E : Exc → Sto → Prop}, wp (gSet (.ref l) (.int 0) d S') FU E ↔ FU () (S'.set l (.lst [d])) from fun d {FU E} => gSet_ref (j := 0) at1 (by show ixN 1 0 = some 0; decide), wp_ok, wp_ret, wp_stuck, wp_bad, wp_bnd, wp_if, wp_fif, wps_ok_nx, wps_ok_rt, wps_ok_bk, wps_ok_ct, wps_ok_xc, wps_bad, wps_lft, wps_seq, wps_nil, wps_ret, wps_expr, wps_asg, wps_if, wp_run, wps_for, wps_while, wp_comp, wp_var, wp_C, wp_bin, wp_un, wp_T, wp_Tb, wp_asBl, wp_truthBl, wp_bAnd, wp_bOr, wp_bNot, wp_eIf, wp_eAnd, wp_eOr, wp_eNot, blCase_bl, wp_chain, wp_aNil, wp_aCons, wp_tup, wp_lst, wp_lstM, wp_call, wp_cl1, wp_cl2, wp_cl3, wp_cl4, wp_cl5, wp_meth, wp_isi, wp_oNone, wp_oSome, wp_sl, wp_it, wp_range1, wp_range2, wp_bYes, gEq_str, gNe_str, gEq_int, gNe_int, gEq_bl, gNe_bl, gIs_bl, gIsNot_bl, gAdd_int, gSub_int, gC_int, gI_int, gAdd_str, gAdd_tup, gAdd_lst, gNeg_int, gIx_tup, gIx_lst, gLen_tup, gLen_lst, gLen_str, gInt_int, gInt_bl, gTuple_lst, gTuple_tup, gList_lst, gList_tup, gSl_tup, gSl_lst, gSl_fl, gSl_str, srcL_tup, srcL_lst, srcL_fl, srcL_str, srcR1_int, typN, startR, List.map_cons, List.map_nil, List.length_cons, List.length_nil, Nat.reduceAdd, Nat.reduceSub, Nat.zero_add, Nat.sub_self, Nat.sub_zero, List.replicate_zero, List.replicate_succ, List.cons_append, List.nil_append, List.append_nil, List.getElem?_cons_zero, List.getElem?_cons_succ, List.set_cons_zero, List.set_cons_succ, List.set_nil, List.getElem?_nil, Option.some.injEq, exists_eq_left', exists_eq_left, exists_eq_right, reduceCtorEq, false_and, and_false, true_and, and_true, exists_false, exists_const, wipeR, Nat.zero_le, String.reduceEq, D.int.injEq, D.str.injEq, D.bl.injEq, atI_0, atI_1, atI_2, atI_3, atI_4, beq_self_eq_true, not_true_eq_false, not_false_eq_true, Int.cast_ofNat_Int, Int.reduceEq, Int.reduceLE, Int.reduceLT, Int.reduceAdd, Int.reduceSub, Int.reduceMul, Int.reduceNeg, if_true, if_false, ite_true, ite_false, Bool.false_eq_true, if_neg, if_pos, decide_eq_true_eq, Bool.not_eq_true', decide_eq_false_iff_not, eq_self_iff_true, decide_true, decide_false, Bool.not_true, Bool.not_false]
      have hd5 := up c2
      refine ⟨isTy_ref (hat hd5), ?_⟩
      refine hT _ _ l c2 N' _ _ (by omega) hd5 fun w S3 c3 hww hc3 hd3 => ?_
      have hd4 := hd3.put ll (m' := .lst (ws ++ [w])) (trs fun x hx => by
        rw [List.mem_append, List.mem_singleton] at hx
        rcases hx with hx | rfl
        · exact (hw x hx).tr
        · exact hww.tr)
      rw [gAppend_ref (hat hd3)]
      refine ⟨by rw [sizeLine_eq]; omega, fun _ => ⟨ws ++ [w], some d, rfl, by simp; omega, fun x hx => ?_, c3, by simp only [List.flatMap_append, List.flatMap_cons, List.flatMap_nil, List.append_nil, List.length_append]; omega, hd4⟩⟩
      rw [List.mem_append, List.mem_singleton] at hx
      rcases hx with hx | rfl
      · exact hw x hx
      · exact hww
    · rw [if_neg hn]
      exact fun _ => ⟨ws, some d, rfl, by omega, hw, c1, hc1, hd2⟩
  · intro ρ S' hI
    rw [rangeD_len] at hI
    obtain ⟨ws, o, rfl, hl, hw, c1, hc1, hd2⟩ := hI (Nat.le_refl _)
    simp only [wp_ok, wp_ret, wp_stuck, wp_bad, wp_bnd, wp_if, wp_fif, wps_ok_nx, wps_ok_rt, wps_ok_bk, wps_ok_ct, wps_ok_xc, wps_bad, wps_lft, wps_seq, wps_nil, wps_ret, wps_expr, wps_asg, wps_if, wp_run, wps_for, wps_while, wp_comp, wp_var, wp_C, wp_bin, wp_un, wp_T, wp_Tb, wp_asBl, wp_truthBl, wp_bAnd, wp_bOr, wp_bNot, wp_eIf, wp_eAnd, wp_eOr, wp_eNot, blCase_bl, wp_chain, wp_aNil, wp_aCons, wp_tup, wp_lst, wp_lstM, wp_call, wp_cl1, wp_cl2, wp_cl3, wp_cl4, wp_cl5, wp_meth, wp_isi, wp_oNone, wp_oSome, wp_sl, wp_it, wp_range1, wp_range2, wp_bYes, gEq_str, gNe_str, gEq_int, gNe_int, gEq_bl, gNe_bl, gIs_bl, gIsNot_bl, gAdd_int, gSub_int, gC_int, gI_int, gAdd_str, gAdd_tup, gAdd_lst, gNeg_int, gIx_tup, gIx_lst, gLen_tup, gLen_lst, gLen_str, gInt_int, gInt_bl, gTuple_lst, gTuple_tup, gList_lst, gList_tup, gSl_tup, gSl_lst, gSl_fl, gSl_str, srcL_tup, srcL_lst, srcL_fl, srcL_str, srcR1_int, typN, startR, List.map_cons, List.map_nil, List.length_cons, List.length_nil, Nat.reduceAdd, Nat.reduceSub, Nat.zero_add, Nat.sub_self, Nat.sub_zero, List.replicate_zero, List.replicate_succ, List.cons_append, List.nil_append, List.append_nil, List.getElem?_cons_zero, List.getElem?_cons_succ, List.set_cons_zero, List.set_cons_succ, List.set_nil, List.getElem?_nil, Option.some.injEq, exists_eq_left', exists_eq_left, exists_eq_right, reduceCtorEq, false_and, and_false, true_and, and_true, exists_false, exists_const, wipeR, Nat.zero_le, String.reduceEq, D.int.injEq, D.str.injEq, D.bl.injEq, atI_0, atI_1, atI_2, atI_3, atI_4, beq_self_eq_true, not_true_eq_false, not_false_eq_true, Int.cast_ofNat_Int, Int.reduceEq, Int.reduceLE, Int.reduceLT, Int.reduceAdd, Int.reduceSub, Int.reduceMul, Int.reduceNeg, if_true, if_false, ite_true, ite_false, Bool.false_eq_true, if_neg, if_pos, decide_eq_true_eq, Bool.not_eq_true', decide_eq_false_iff_not, eq_self_iff_true, decide_true, decide_false, Bool.not_true, Bool.not_false]
    rw [gTuple_seq (show iLst S' (.ref R.length) = some ws from hat hd2)]
    have hc := hd2.cut ll
    exact hd2.at_.fin (S1 := R) (by omega) (tr_tup fun x hx => (hw x hx).tr) (hF ws _ c1 (by omega) hw hc1 hc)
theorem thing_gen : ∀ deep J, deep ≤ J → ThOk fu L deep J := by
  intro deep
  induction deep with
  | zero =>
    intro J hJ R S l c N F E hN h hF
    obtain ⟨N', rfl⟩ : ∃ N', N = N' + 1 := ⟨N - 1, by omega⟩
    show wp (runDef false 5 (b_l_thing fu (den fu N')) _ _) _ _
    simp only [b_l_thing, wp_ok, wp_ret, wp_stuck, wp_bad, wp_bnd, wp_if, wp_fif, wps_ok_nx, wps_ok_rt, wps_ok_bk, wps_ok_ct, wps_ok_xc, wps_bad, wps_lft, wps_seq, wps_nil, wps_ret, wps_expr, wps_asg, wps_if, wp_run, wps_for, wps_while, wp_comp, wp_var, wp_C, wp_bin, wp_un, wp_T, wp_Tb, wp_asBl, wp_truthBl, wp_bAnd, wp_bOr, wp_bNot, wp_eIf, wp_eAnd, wp_eOr, wp_eNot, blCase_bl, wp_chain, wp_aNil, wp_aCons, wp_tup, wp_lst, wp_lstM, wp_call, wp_cl1, wp_cl2, wp_cl3, wp_cl4, wp_cl5, wp_meth, wp_isi, wp_oNone, wp_oSome, wp_sl, wp_it, wp_range1, wp_range2, wp_bYes, gEq_str, gNe_str, gEq_int, gNe_int, gEq_bl, gNe_bl, gIs_bl, gIsNot_bl, gAdd_int, gSub_int, gC_int, gI_int, gAdd_str, gAdd_tup, gAdd_lst, gNeg_int, gIx_tup, gIx_lst, gLen_tup, gLen_lst, gLen_str, gInt_int, gInt_bl, gTuple_lst, gTuple_tup, gList_lst, gList_tup, gSl_tup, gSl_lst, gSl_fl, gSl_str, srcL_tup, srcL_lst, srcL_fl, srcL_str, srcR1_int, typN, startR, List.map_cons, List.map_nil, List.length_cons, List.length_nil, Nat.reduceAdd, Nat.reduceSub, Nat.zero_add, Nat.sub_self, Nat.sub_zero, List.replicate_zero, List.replicate_succ, List.cons_append, List.nil_append, List.append_nil, List.getElem?_cons_zero, List.getElem?_cons_succ, List.set_cons_zero, List.set_cons_succ, List.set_nil, List.getElem?_nil, Option.some.injEq, exists_eq_left', exists_eq_left, exists_eq_right, reduceCtorEq, false_and, and_false, true_and, and_true, exists_false, exists_const, wipeR, Nat.zero_le, String.reduceEq, D.int.injEq, D.str.injEq, D.bl.injEq, atI_0, atI_1, atI_2, atI_3, atI_4, beq_self_eq_true, not_true_eq_false, not_false_eq_true, Int.cast_ofNat_Int, Int.reduceEq, Int.reduceLE, Int.reduceLT, Int.reduceAdd, Int.reduceSub, Int.reduceMul, Int.reduceNeg, if_true, if_false, ite_true, ite_false, Bool.false_eq_true, if_neg, if_pos, decide_eq_true_eq, Bool.not_eq_true', decide_eq_false_iff_not, eq_self_iff_true, decide_true, decide_false, Bool.not_true, Bool.not_false]
    refine ltake (by omega) h (by decide) (by decide) fun v S1 hv0 hv1 d1 => ?_
    obtain ⟨l2, ll, dd⟩ := d1
    refine number_gen (by omega) dd fun i S2 i0 i1 d2 => ?_
    have d3 : LS R l c S2 := ⟨l2, ll, d2⟩
    exact ⟨small_line (by decide), d3.fin_same (by rw [d3.len, h.len]) rfl (hF _ _ c ⟨i, rfl, i0, i1⟩ (by rw [tokT_num]; show 1 + 3 * c ≤ _; omega) d3)⟩
  | succ deep ih =>
    intro J hJ R S l c N F E hN h hF
    obtain ⟨J', rfl⟩ : ∃ J', J = J' + 1 := ⟨J - 1, by omega⟩
    obtain ⟨N', rfl⟩ : ∃ N', N = N' + 1 := ⟨N - 1, by omega⟩
    show wp (runDef false 5 (b_l_thing fu (den fu N')) _ _) _ _
    simp only [b_l_thing, wp_ok, wp_ret, wp_stuck, wp_bad, wp_bnd, wp_if, wp_fif, wps_ok_nx, wps_ok_rt, wps_ok_bk, wps_ok_ct, wps_ok_xc, wps_bad, wps_lft, wps_seq, wps_nil, wps_ret, wps_expr, wps_asg, wps_if, wp_run, wps_for, wps_while, wp_comp, wp_var, wp_C, wp_bin, wp_un, wp_T, wp_Tb, wp_asBl, wp_truthBl, wp_bAnd, wp_bOr, wp_bNot, wp_eIf, wp_eAnd, wp_eOr, wp_eNot, blCase_bl, wp_chain, wp_aNil, wp_aCons, wp_tup, wp_lst, wp_lstM, wp_call, wp_cl1, wp_cl2, wp_cl3, wp_cl4, wp_cl5, wp_meth, wp_isi, wp_oNone, wp_oSome, wp_sl, wp_it, wp_range1, wp_range2, wp_bYes, gEq_str, gNe_str, gEq_int, gNe_int, gEq_bl, gNe_bl, gIs_bl, gIsNot_bl, gAdd_int, gSub_int, gC_int, gI_int, gAdd_str, gAdd_tup, gAdd_lst, gNeg_int, gIx_tup, gIx_lst, gLen_tup, gLen_lst, gLen_str, gInt_int, gInt_bl, gTuple_lst, gTuple_tup, gList_lst, gList_tup, gSl_tup, gSl_lst, gSl_fl, gSl_str, srcL_tup, srcL_lst, srcL_fl, srcL_str, srcR1_int, typN, startR, List.map_cons, List.map_nil, List.length_cons, List.length_nil, Nat.reduceAdd, Nat.reduceSub, Nat.zero_add, Nat.sub_self, Nat.sub_zero, List.replicate_zero, List.replicate_succ, List.cons_append, List.nil_append, List.append_nil, List.getElem?_cons_zero, List.getElem?_cons_succ, List.set_cons_zero, List.set_cons_succ, List.set_nil, List.getElem?_nil, Option.some.injEq, exists_eq_left', exists_eq_left, exists_eq_right, reduceCtorEq, false_and, and_false, true_and, and_true, exists_false, exists_const, wipeR, Nat.zero_le, String.reduceEq, D.int.injEq, D.str.injEq, D.bl.injEq, atI_0, atI_1, atI_2, atI_3, atI_4, beq_self_eq_true, not_true_eq_false, not_false_eq_true, Int.cast_ofNat_Int, Int.reduceEq, Int.reduceLE, Int.reduceLT, Int.reduceAdd, Int.reduceSub, Int.reduceMul, Int.reduceNeg, if_true, if_false, ite_true, ite_false, Bool.false_eq_true, if_neg, if_pos, decide_eq_true_eq, Bool.not_eq_true', decide_eq_false_iff_not, eq_self_iff_true, decide_true, decide_false, Bool.not_true, Bool.not_false]
    refine ltake (by omega) h (by decide) (by decide) fun v S1 hv0 hv1 d1 => ?_
    have hne : ¬ ((deep + 1 : Nat) : Int) = 0 := by omega
    have hsub : ((deep + 1 : Nat) : Int) - 1 = (deep : Int) := by omega
    simp only [hne, wp_ok, wp_ret, wp_stuck, wp_bad, wp_bnd, wp_if, wp_fif, wps_ok_nx, wps_ok_rt, wps_ok_bk, wps_ok_ct, wps_ok_xc, wps_bad, wps_lft, wps_seq, wps_nil, wps_ret, wps_expr, wps_asg, wps_if, wp_run, wps_for, wps_while, wp_comp, wp_var, wp_C, wp_bin, wp_un, wp_T, wp_Tb, wp_asBl, wp_truthBl, wp_bAnd, wp_bOr, wp_bNot, wp_eIf, wp_eAnd, wp_eOr, wp_eNot, blCase_bl, wp_chain, wp_aNil, wp_aCons, wp_tup, wp_lst, wp_lstM, wp_call, wp_cl1, wp_cl2, wp_cl3, wp_cl4, wp_cl5, wp_meth, wp_isi, wp_oNone, wp_oSome, wp_sl, wp_it, wp_range1, wp_range2, wp_bYes, gEq_str, gNe_str, gEq_int, gNe_int, gEq_bl, gNe_bl, gIs_bl, gIsNot_bl, gAdd_int, gSub_int, gC_int, gI_int, gAdd_str, gAdd_tup, gAdd_lst, gNeg_int, gIx_tup, gIx_lst, gLen_tup, gLen_lst, gLen_str, gInt_int, gInt_bl, gTuple_lst, gTuple_tup, gList_lst, gList_tup, gSl_tup, gSl_lst, gSl_fl, gSl_str, srcL_tup, srcL_lst, srcL_fl, srcL_str, srcR1_int, typN, startR, List.map_cons, List.map_nil, List.length_cons, List.length_nil, Nat.reduceAdd, Nat.reduceSub, Nat.zero_add, Nat.sub_self, Nat.sub_zero, List.replicate_zero, List.replicate_succ, List.cons_append, List.nil_append, List.append_nil, List.getElem?_cons_zero, List.getElem?_cons_succ, List.set_cons_zero, List.set_cons_succ, List.set_nil, List.getElem?_nil, Option.some.injEq, exists_eq_left', exists_eq_left, exists_eq_right, reduceCtorEq, false_and, and_false, true_and, and_true, exists_false, exists_const, wipeR, Nat.zero_le, String.reduceEq, D.int.injEq, D.str.injEq, D.bl.injEq, atI_0, atI_1, atI_2, atI_3, atI_4, beq_self_eq_true, not_true_eq_false, not_false_eq_true, Int.cast_ofNat_Int, Int.reduceEq, Int.reduceLE, Int.reduceLT, Int.reduceAdd, Int.reduceSub, Int.reduceMul, Int.reduceNeg, if_true, if_false, ite_true, ite_false, Bool.false_eq_true, if_neg, if_pos, decide_eq_true_eq, Bool.not_eq_true', decide_eq_false_iff_not, eq_self_iff_true, decide_true, decide_false, Bool.not_true, Bool.not_false]
    by_cases h2 : v < 2
    · simp only [h2, wp_ok, wp_ret, wp_stuck, wp_bad, wp_bnd, wp_if, wp_fif, wps_ok_nx, wps_ok_rt, wps_ok_bk, wps_ok_ct, wps_ok_xc, wps_bad, wps_lft, wps_seq, wps_nil, wps_ret, wps_expr, wps_asg, wps_if, wp_run, wps_for, wps_while, wp_comp, wp_var, wp_C, wp_bin, wp_un, wp_T, wp_Tb, wp_asBl, wp_truthBl, wp_bAnd, wp_bOr, wp_bNot, wp_eIf, wp_eAnd, wp_eOr, wp_eNot, blCase_bl, wp_chain, wp_aNil, wp_aCons, wp_tup, wp_lst, wp_lstM, wp_call, wp_cl1, wp_cl2, wp_cl3, wp_cl4, wp_cl5, wp_meth, wp_isi, wp_oNone, wp_oSome, wp_sl, wp_it, wp_range1, wp_range2, wp_bYes, gEq_str, gNe_str, gEq_int, gNe_int, gEq_bl, gNe_bl, gIs_bl, gIsNot_bl, gAdd_int, gSub_int, gC_int, gI_int, gAdd_str, gAdd_tup, gAdd_lst, gNeg_int, gIx_tup, gIx_lst, gLen_tup, gLen_lst, gLen_str, gInt_int, gInt_bl, gTuple_lst, gTuple_tup, gList_lst, gList_tup, gSl_tup, gSl_lst, gSl_fl, gSl_str, srcL_tup, srcL_lst, srcL_fl, srcL_str, srcR1_int, typN, startR, List.map_cons, List.map_nil, List.length_cons, List.length_nil, Nat.reduceAdd, Nat.reduceSub, Nat.zero_add, Nat.sub_self, Nat.sub_zero, List.replicate_zero, List.replicate_succ, List.cons_append, List.nil_append, List.append_nil, List.getElem?_cons_zero, List.getElem?_cons_succ, List.set_cons_zero, List.set_cons_succ, List.set_nil, List.getElem?_nil, Option.some.injEq, exists_eq_left', exists_eq_left, exists_eq_right, reduceCtorEq, false_and, and_false, true_and, and_true, exists_false, exists_const, wipeR, Nat.zero_le, String.reduceEq, D.int.injEq, D.str.injEq, D.bl.injEq, atI_0, atI_1, atI_2, atI_3, atI_4, beq_self_eq_true, not_true_eq_false, not_false_eq_true, Int.cast_ofNat_Int, Int.reduceEq, Int.reduceLE, Int.reduceLT, Int.reduceAdd, Int.reduceSub, Int.reduceMul, Int.reduceNeg, if_true, if_false, ite_true, ite_false, Bool.false_eq_true, if_neg, if_pos, decide_eq_true_eq, Bool.not_eq_true', decide_eq_false_iff_not, eq_self_iff_true, decide_true, decide_false, Bool.not_true, Bool.not_false]
      obtain ⟨l2, ll, dd⟩ := d1
      refine number_gen (by omega) dd fun i S2 i0 i1 d2 => ?_
      have d3 : LS R l c S2 := ⟨l2, ll, d2⟩
      exact ⟨small_line (by decide), d3.fin_same (by rw [d3.len, h.len]) rfl (hF _ _ c (.inl ⟨i, rfl, i0, i1⟩) (by rw [tokT_num]; show 1 + 3 * c ≤ _; omega) d3)⟩
    · simp only [h2, wp_ok, wp_ret, wp_stuck, wp_bad, wp_bnd, wp_if, wp_fif, wps_ok_nx, wps_ok_rt, wps_ok_bk, wps_ok_ct, wps_ok_xc, wps_bad, wps_lft, wps_seq, wps_nil, wps_ret, wps_expr, wps_asg, wps_if, wp_run, wps_for, wps_while, wp_comp, wp_var, wp_C, wp_bin, wp_un, wp_T, wp_Tb, wp_asBl, wp_truthBl, wp_bAnd, wp_bOr, wp_bNot, wp_eIf, wp_eAnd, wp_eOr, wp_eNot, blCase_bl, wp_chain, wp_aNil, wp_aCons, wp_tup, wp_lst, wp_lstM, wp_call, wp_cl1, wp_cl2, wp_cl3, wp_cl4, wp_cl5, wp_meth, wp_isi, wp_oNone, wp_oSome, wp_sl, wp_it, wp_range1, wp_range2, wp_bYes, gEq_str, gNe_str, gEq_int, gNe_int, gEq_bl, gNe_bl, gIs_bl, gIsNot_bl, gAdd_int, gSub_int, gC_int, gI_int, gAdd_str, gAdd_tup, gAdd_lst, gNeg_int, gIx_tup, gIx_lst, gLen_tup, gLen_lst, gLen_str, gInt_int, gInt_bl, gTuple_lst, gTuple_tup, gList_lst, gList_tup, gSl_tup, gSl_lst, gSl_fl, gSl_str, srcL_tup, srcL_lst, srcL_fl, srcL_str, srcR1_int, typN, startR, List.map_cons, List.map_nil, List.length_cons, List.length_nil, Nat.reduceAdd, Nat.reduceSub, Nat.zero_add, Nat.sub_self, Nat.sub_zero, List.replicate_zero, List.replicate_succ, List.cons_append, List.nil_append, List.append_nil, List.getElem?_cons_zero, List.getElem?_cons_succ, List.set_cons_zero, List.set_cons_succ, List.set_nil, List.getElem?_nil, Option.some.injEq, exists_eq_left', exists_eq_left, exists_eq_right, reduceCtorEq, false_and, and_false, true_and, and_true, exists_false, exists_const, wipeR, Nat.zero_le, String.reduceEq, D.int.injEq, D.str.injEq, D.bl.injEq, atI_0, atI_1, atI_2, atI_3, atI_4, beq_self_eq_true, not_true_eq_false, not_false_eq_true, Int.cast_ofNat_Int, Int.reduceEq, Int.reduceLE, Int.reduceLT, Int.reduceAdd, Int.reduceSub, Int.reduceMul, Int.reduceNeg, if_true, if_false, ite_true, ite_false, Bool.false_eq_true, if_neg, if_pos, decide_eq_true_eq, Bool.not_eq_true', decide_eq_false_iff_not, eq_self_iff_true, decide_true, decide_false, Bool.not_true, Bool.not_false]
      by_cases h3 : v = 2
      · simp only [h3, hsub, wp_ok, wp_ret, wp_stuck, wp_bad, wp_bnd, wp_if, wp_fif, wps_ok_nx, wps_ok_rt, wps_ok_bk, wps_ok_ct, wps_ok_xc, wps_bad, wps_lft, wps_seq, wps_nil, wps_ret, wps_expr, wps_asg, wps_if, wp_run, wps_for, wps_while, wp_comp, wp_var, wp_C, wp_bin, wp_un, wp_T, wp_Tb, wp_asBl, wp_truthBl, wp_bAnd, wp_bOr, wp_bNot, wp_eIf, wp_eAnd, wp_eOr, wp_eNot, blCase_bl, wp_chain, wp_aNil, wp_aCons, wp_tup, wp_lst, wp_lstM, wp_call, wp_cl1, wp_cl2, wp_cl3, wp_cl4, wp_cl5, wp_meth, wp_isi, wp_oNone, wp_oSome, wp_sl, wp_it, wp_range1, wp_range2, wp_bYes, gEq_str, gNe_str, gEq_int, gNe_int, gEq_bl, gNe_bl, gIs_bl, gIsNot_bl, gAdd_int, gSub_int, gC_int, gI_int, gAdd_str, gAdd_tup, gAdd_lst, gNeg_int, gIx_tup, gIx_lst, gLen_tup, gLen_lst, gLen_str, gInt_int, gInt_bl, gTuple_lst, gTuple_tup, gList_lst, gList_tup, gSl_tup, gSl_lst, gSl_fl, gSl_str, srcL_tup, srcL_lst, srcL_fl, srcL_str, srcR1_int, typN, startR, List.map_cons, List.map_nil, List.length_cons, List.length_nil, Nat.reduceAdd, Nat.reduceSub, Nat.zero_add, Nat.sub_self, Nat.sub_zero, List.replicate_zero, List.replicate_succ, List.cons_append, List.nil_append, List.append_nil, List.getElem?_cons_zero, List.getElem?_cons_succ, List.set_cons_zero, List.set_cons_succ, List.set_nil, List.getElem?_nil, Option.some.injEq, exists_eq_left', exists_eq_left, exists_eq_right, reduceCtorEq, false_and, and_false, true_and, and_true, exists_false, exists_const, wipeR, Nat.zero_le, String.reduceEq, D.int.injEq, D.str.injEq, D.bl.injEq, atI_0, atI_1, atI_2, atI_3, atI_4, beq_self_eq_true, not_true_eq_false, not_false_eq_true, Int.cast_ofNat_Int, Int.reduceEq, Int.reduceLE, Int.reduceLT, Int.reduceAdd, Int.reduceSub, Int.reduceMul, Int.reduceNeg, if_true, if_false, ite_true, ite_false, Bool.false_eq_true, if_neg, if_pos, decide_eq_true_eq, Bool.not_eq_true', decide_eq_false_iff_not, eq_self_iff_true, decide_true, decide_false, Bool.not_true, Bool.not_false]
        refine row_gen hL h0 h8 (ih J' (by omega)) (by omega) d1 fun ws S2 c2 hl hw hc2 d2 => ?_
        exact ⟨small_line (by decide), d2.fin_same (by rw [d2.len, h.len]) (ThG.tr (k := deep + 1) (B := 6) (Q := QL L) (.inr (.inl ⟨ws, rfl, hl, hw⟩))) (hF _ _ c2 (.inr (.inl ⟨ws, rfl, hl, hw⟩)) (by rw [tokT_row]; simp only [List.cons_append, List.length_cons, List.length_append, List.length_nil]; omega) d2)⟩
      · simp only [h3, hsub, wp_ok, wp_ret, wp_stuck, wp_bad, wp_bnd, wp_if, wp_fif, wps_ok_nx, wps_ok_rt, wps_ok_bk, wps_ok_ct, wps_ok_xc, wps_bad, wps_lft, wps_seq, wps_nil, wps_ret, wps_expr, wps_asg, wps_if, wp_run, wps_for, wps_while, wp_comp, wp_var, wp_C, wp_bin, wp_un, wp_T, wp_Tb, wp_asBl, wp_truthBl, wp_bAnd, wp_bOr, wp_bNot, wp_eIf, wp_eAnd, wp_eOr, wp_eNot, blCase_bl, wp_chain, wp_aNil, wp_aCons, wp_tup, wp_lst, wp_lstM, wp_call, wp_cl1, wp_cl2, wp_cl3, wp_cl4, wp_cl5, wp_meth, wp_isi, wp_oNone, wp_oSome, wp_sl, wp_it, wp_range1, wp_range2, wp_bYes, gEq_str, gNe_str, gEq_int, gNe_int, gEq_bl, gNe_bl, gIs_bl, gIsNot_bl, gAdd_int, gSub_int, gC_int, gI_int, gAdd_str, gAdd_tup, gAdd_lst, gNeg_int, gIx_tup, gIx_lst, gLen_tup, gLen_lst, gLen_str, gInt_int, gInt_bl, gTuple_lst, gTuple_tup, gList_lst, gList_tup, gSl_tup, gSl_lst, gSl_fl, gSl_str, srcL_tup, srcL_lst, srcL_fl, srcL_str, srcR1_int, typN, startR, List.map_cons, List.map_nil, List.length_cons, List.length_nil, Nat.reduceAdd, Nat.reduceSub, Nat.zero_add, Nat.sub_self, Nat.sub_zero, List.replicate_zero, List.replicate_succ, List.cons_append, List.nil_append, List.append_nil, List.getElem?_cons_zero, List.getElem?_cons_succ, List.set_cons_zero, List.set_cons_succ, List.set_nil, List.getElem?_nil, Option.some.injEq, exists_eq_left', exists_eq_left, exists_eq_right, reduceCtorEq, false_and, and_false, true_and, and_true, exists_false, exists_const, wipeR, Nat.zero_le, String.reduceEq, D.int.injEq, D.str.injEq, D.bl.injEq, atI_0, atI_1, atI_2, atI_3, atI_4, beq_self_eq_true, not_true_eq_false, not_false_eq_true, Int.cast_ofNat_Int, Int.reduceEq, Int.reduceLE, Int.reduceLT, Int.reduceAdd, Int.reduceSub, Int.reduceMul, Int.reduceNeg, if_true, if_false, ite_true, ite_false, Bool.false_eq_true, if_neg, if_pos, decide_eq_true_eq, Bool.not_eq_true', decide_eq_false_iff_not, eq_self_iff_true, decide_true, decide_false, Bool.not_true, Bool.not_false]
        refine stack_gen hL h0 h8 (ih J' (by omega)) (by omega) d1 fun ws S2 c2 hl hw hc2 d2 => ?_
        exact ⟨small_line (by decide), d2.fin_same (by rw [d2.len, h.len]) (ThG.tr (k := deep + 1) (B := 6) (Q := QL L) (.inr (.inr ⟨ws, rfl, hl, hw⟩))) (hF _ _ c2 (.inr (.inr ⟨ws, rfl, hl, hw⟩)) (by rw [tokT_list]; simp only [List.cons_append, List.length_cons, List.length_append, List.length_nil]; omega) d2)⟩
end
end K68

namespace K68
open PySem L2 DL
variable {fu n l : Nat} {R S : Sto} {F : D → Sto → Prop} {E : Exc → Sto → Prop}
/-! the texts that stand in things and rows -/
def nmT : Nat → D → List Str
  | J + 1, .tup [.str k, .tup xs] => if k = Str.ofString "row" then xs.flatMap fun w => match w with
      | .str y => [y]
      | .tup [_, t] => nmT J t
      | _ => []
    else xs.flatMap (nmT J)
  | _, _ => []
def nmW (J : Nat) (w : D) : List Str := match w with
  | .str y => [y]
  | .tup [_, t] => nmT J t
  | _ => []
theorem nmT_row {J : Nat} {xs : List D} : nmT (J + 1) (.tup [.str "row", .tup xs]) = xs.flatMap (nmW J) := by
  simp only [nmT, if_true]
  rfl
theorem nmT_list {J : Nat} {xs : List D} : nmT (J + 1) (.tup [.str "list", .tup xs]) = xs.flatMap (nmT J) := by
  simp only [nmT, ofString_inj, Nat.zero_le, String.reduceEq, D.int.injEq, D.str.injEq, D.bl.injEq, atI_0, atI_1, atI_2, atI_3, atI_4, beq_self_eq_true, not_true_eq_false, not_false_eq_true, Int.cast_ofNat_Int, Int.reduceEq, Int.reduceLE, Int.reduceLT, Int.reduceAdd, Int.reduceSub, Int.reduceMul, Int.reduceNeg, if_true, if_false, ite_true, ite_false, Bool.false_eq_true, if_neg, if_pos, decide_eq_true_eq, Bool.not_eq_true', decide_eq_false_iff_not, eq_self_iff_true, decide_true, decide_false, Bool.not_true, Bool.not_false]
theorem nmT_num {J : Nat} {d : D} (h : Num d) : nmT J d = [] := by
  obtain ⟨i, rfl, _⟩ := h
  cases J <;> rfl
theorem flat_bound {α β : Type} {f : α → List β} {c : Nat} : ∀ {l : List α}, (∀ x ∈ l, (f x).length ≤ c) → (l.flatMap f).length ≤ l.length * c
  | [], _ => by simp
  | x :: l, h => by
    rw [List.flatMap_cons, List.length_append, List.length_cons, Nat.succ_mul]
    have := h x List.mem_cons_self
    have := flat_bound fun y hy => h y (List.mem_cons_of_mem _ hy)
    omega
theorem pow6 (k : Nat) : 1 ≤ 6 ^ k := Nat.pow_pos (by decide)
theorem nmT_len {Q : Str → Prop} : ∀ {k : Nat} {t : D}, ThG 6 Q k t → (nmT k t).length ≤ 6 ^ k
  | 0, t, h => by rw [nmT_num h]; exact Nat.zero_le _
  | k + 1, t, h => by
    rcases h with h | ⟨ws, rfl, hl, h⟩ | ⟨ts, rfl, hl, h⟩
    · rw [nmT_num h]; exact Nat.zero_le _
    · rw [nmT_row]
      refine Nat.le_trans (flat_bound (c := 6 ^ k) fun w hw => ?_) (by rw [Nat.pow_succ, Nat.mul_comm]; exact Nat.mul_le_mul_left _ hl)
      rcases h w hw with ⟨z, rfl, _⟩ | ⟨t, rfl, q⟩
      · exact pow6 k
      · exact nmT_len q
    · rw [nmT_list]
      exact Nat.le_trans (flat_bound (c := 6 ^ k) fun t ht => nmT_len (h t ht)) (by rw [Nat.pow_succ, Nat.mul_comm]; exact Nat.mul_le_mul_left _ hl)
theorem nmW_len {Q : Str → Prop} {k : Nat} {w : D} (h : WdG 6 Q k w) : (nmW k w).length ≤ 6 ^ k := by
  rcases h with ⟨z, rfl, _⟩ | ⟨t, rfl, q⟩
  · exact pow6 k
  · exact nmT_len q
theorem nmT_tok {Q : Str → Prop} : ∀ {k J : Nat} {t : D}, k ≤ J → ThG 6 Q k t → (nmT k t).length ≤ (tokT J t).length
  | 0, _, t, _, h => by rw [nmT_num h]; exact Nat.zero_le _
  | k + 1, 0, t, hk, _ => absurd hk (by omega)
  | k + 1, J + 1, t, hk, h => by
    have flat : ∀ (f g : D → List Str) (l : List D), (∀ x ∈ l, (f x).length ≤ (g x).length) → (l.flatMap f).length ≤ (l.flatMap g).length := by
      intro f g l
      induction l with
      | nil => intro _; simp
      | cons x l ih =>
        intro h
        simp only [List.flatMap_cons, List.length_append]
        have := h x List.mem_cons_self
        have := ih fun y hy => h y (List.mem_cons_of_mem _ hy)
        omega
    rcases h with h | ⟨ws, rfl, hl, h⟩ | ⟨ts, rfl, hl, h⟩
    · rw [nmT_num h]; exact Nat.zero_le _
    · rw [nmT_row, tokT_row]
      have := flat (nmW k) (tokW J) ws fun w hw => by
        rcases h w hw with ⟨z, rfl, _⟩ | ⟨t, rfl, q⟩
        · exact Nat.le_refl _
        · exact nmT_tok (by omega) q
      simp only [List.cons_append, List.length_cons, List.length_append, List.length_nil]
      omega
    · rw [nmT_list, tokT_list]
      have := flat (nmT k) (tokT J) ts fun t ht => nmT_tok (by omega) (h t ht)
      simp only [List.cons_append, List.length_cons, List.length_append, List.length_nil]
      omega
theorem nmW_tok {Q : Str → Prop} {k J : Nat} {w : D} (hk : k ≤ J) (h : WdG 6 Q k w) : (nmW k w).length ≤ (tokW J w).length := by
  rcases h with ⟨z, rfl, _⟩ | ⟨t, rfl, q⟩
  · exact Nat.le_refl _
  · exact nmT_tok hk q
theorem oks_push {ds : List D} (h : OKS S) (hd : D.los 0 ds = true) : OKS (S ++ [.lst ds]) := by
  unfold OKS at *
  rw [List.all_eq_true] at *
  intro m hm
  rw [List.length_append]
  rcases List.mem_append.mp hm with hm | hm
  · exact MO.lo_mono (by omega) m (h m hm)
  · rw [List.mem_singleton.mp hm]
    exact MO.lo_mono (Nat.zero_le _) (.lst ds) hd
/-- a list made here is given out as it is -/
theorem fin_free {ds : List D} (h : OKS S) (hd : D.los 0 ds = true) (hF : F (.lst ds) S) : wp (finD false S.length (.ref S.length) (S ++ [.lst ds])) F E := by
  have e : finD false S.length (.ref S.length) (S ++ [.lst ds]) = .ok (.lst ds) S := by
    unfold finD
    have h1 : atL (S ++ [.lst ds]) S.length = some ds := by unfold atL; simp
    have h2 : ¬ (D.ref S.length).lo S.length = true := by simp [D.lo]
    have h3 : D.los S.length ds = true := by
      have := D.lo_mono (Nat.zero_le S.length) (.tup ds) hd
      exact this
    rw [if_neg (by decide), List.take_left, if_pos (show S.all (MO.lo S.length) = true from h), if_neg h2]
    simp only [h1]
    rw [if_pos ⟨Nat.le_refl _, h3⟩]
  rw [e]; exact hF
theorem at_end {m : List D} : atL (S ++ [.lst m]) S.length = some m := by unfold atL; simp
theorem set_end {m m' : MO} : (S ++ [m]).set S.length m' = S ++ [m'] := by simp
theorem strs_tr (l : List Str) : D.los 0 (l.map D.str) = true := los_map (fun _ => rfl) l
theorem gExtend_lst {n : Nat} {ds es : List D} (h : atL S n = some ds) : wp (gExtend (.ref n) [.lst es] S) F E ↔ ds.length + es.length ≤ sizeLine ∧ F .non (S.set n (.lst (ds ++ es))) := by
  unfold gExtend
  simp only [h, show iTrk S (.lst es) = some es from rfl]
  by_cases hl : ds.length + es.length ≤ sizeLine
  · rw [if_pos hl]; exact ⟨fun q => ⟨hl, q⟩, fun q => q.2⟩
  · rw [if_neg hl]; exact ⟨fun q => q.elim, fun q => absurd q.1 hl⟩
theorem flat_take {α β : Type} (f : α → List β) {l : List α} {i : Nat} {x : α} (h : l[i]? = some x) : (l.take (i + 1)).flatMap f = (l.take i).flatMap f ++ f x := by
  rw [List.take_succ, h, List.flatMap_append]
  simp
theorem flat_take_le {α β : Type} (f : α → List β) (l : List α) (i : Nat) : ((l.take i).flatMap f).length ≤ (l.flatMap f).length := by
  conv => rhs; rw [← List.take_append_drop i l, List.flatMap_append, List.length_append]
  omega
def NT (fu : Nat) (Q : Str → Prop) (k : Nat) : Prop := ∀ (t : D) (N : Nat) (S : Sto) (F : D → Sto → Prop) (E : Exc → Sto → Prop), ThG 6 Q k t → 2 * k + 2 ≤ N → OKS S → F (.lst ((nmT k t).map .str)) S → wp (den fu N i_names_in_thing [t] S) F E
theorem names_in_ok {Q : Str → Prop} {k N : Nat} {ws : List D} (hT : NT fu Q k) (hk : k ≤ 4) (hl : ws.length ≤ 7) (hw : ∀ w ∈ ws, WdG 6 Q k w) (hN : 2 * k + 3 ≤ N) (hS : OKS S) (hF : F (.lst ((ws.flatMap (nmW k)).map .str)) S) : wp (den fu N i_names_in [.tup ws] S) F E := by
  obtain ⟨N', rfl⟩ : ∃ N', N = N' + 1 := ⟨N - 1, by omega⟩
  rw [show den fu (N' + 1) i_names_in = runDef false 3 (b_names_in fu (den fu N')) from rfl]
  have hlen : (ws.flatMap (nmW k)).length ≤ 10000 := by
    have h1 := flat_bound (l := ws) (f := nmW k) (c := 6 ^ 4) fun w h => Nat.le_trans (nmW_len (hw w h)) (Nat.pow_le_pow_right (by decide) hk)
    have h2 : ws.length * 6 ^ 4 ≤ 7 * 6 ^ 4 := Nat.mul_le_mul_right _ hl
    omega
  simp only [b_names_in, srcL_tup, wp_ok, wp_ret, wp_stuck, wp_bad, wp_bnd, wp_if, wp_fif, wps_ok_nx, wps_ok_rt, wps_ok_bk, wps_ok_ct, wps_ok_xc, wps_bad, wps_lft, wps_seq, wps_nil, wps_ret, wps_expr, wps_asg, wps_if, wp_run, wps_for, wps_while, wp_comp, wp_var, wp_C, wp_bin, wp_un, wp_T, wp_Tb, wp_asBl, wp_truthBl, wp_bAnd, wp_bOr, wp_bNot, wp_eIf, wp_eAnd, wp_eOr, wp_eNot, blCase_bl, wp_chain, wp_aNil, wp_aCons, wp_tup, wp_lst, wp_lstM, wp_call, wp_cl1, wp_cl2, wp_cl3, wp_cl4, wp_cl5, wp_meth, wp_isi, wp_oNone, wp_oSome, wp_sl, wp_it, wp_range1, wp_range2, wp_bYes, gEq_str, gNe_str, gEq_int, gNe_int, gEq_bl, gNe_bl, gIs_bl, gIsNot_bl, gAdd_int, gSub_int, gC_int, gI_int, gAdd_str, gAdd_tup, gAdd_lst, gNeg_int, gIx_tup, gIx_lst, gLen_tup, gLen_lst, gLen_str, gInt_int, gInt_bl, gTuple_lst, gTuple_tup, gList_lst, gList_tup, gSl_tup, gSl_lst, gSl_fl, gSl_str, srcL_tup, srcL_lst, srcL_fl, srcL_str, srcR1_int, typN, startR, List.map_cons, List.map_nil, List.length_cons, List.length_nil, Nat.reduceAdd, Nat.reduceSub, Nat.zero_add, Nat.sub_self, Nat.sub_zero, List.replicate_zero, List.replicate_succ, List.cons_append, List.nil_append, List.append_nil, List.getElem?_cons_zero, List.getElem?_cons_succ, List.set_cons_zero, List.set_cons_succ, List.set_nil, List.getElem?_nil, Option.some.injEq, exists_eq_left', exists_eq_left, exists_eq_right, reduceCtorEq, false_and, and_false, true_and, and_true, exists_false, exists_const, wipeR, Nat.zero_le, String.reduceEq, D.int.injEq, D.str.injEq, D.bl.injEq, atI_0, atI_1, atI_2, atI_3, atI_4, beq_self_eq_true, not_true_eq_false, not_false_eq_true, Int.cast_ofNat_Int, Int.reduceEq, Int.reduceLE, Int.reduceLT, Int.reduceAdd, Int.reduceSub, Int.reduceMul, Int.reduceNeg, if_true, if_false, ite_true, ite_false, Bool.false_eq_true, if_neg, if_pos, decide_eq_true_eq, Bool.not_eq_true', decide_eq_false_iff_not, eq_self_iff_true, decide_true, decide_false, Bool.not_true, Bool.not_false, wps_raise, wps_try, wps_tryAs, tryCase_t, tryCase_f, tbl_hit, suiteOf_hit, wp_eDct, wp_eDGet, wp_eDNew, wp_eDDef, wps_dput]
  refine wps_forM (fun i ρ S' => ∃ o, S' = S ++ [.lst (((ws.take i).flatMap (nmW k)).map .str)] ∧ ρ = [some (.tup ws), some (.ref S.length), o]) (fun _ _ _ _ => trivial) ?_ ?_ ⟨none, rfl, rfl⟩
  · rintro i w ρ S' hd ⟨o, rfl, rfl⟩
    refine ⟨_, rfl, ?_⟩
    have ht := flat_take (nmW k) hd
    have hle := flat_take_le (nmW k) ws i
    have hle2 := flat_take_le (nmW k) ws (i + 1)
    rw [ht, List.length_append] at hle2
    rcases hw w (List.mem_of_getElem? hd) with ⟨z, rfl, _⟩ | ⟨t, rfl, q⟩
    · simp only [isiN_ss, isTy_ref at_end, gAppend_ref at_end, set_end, wp_ok, wp_ret, wp_stuck, wp_bad, wp_bnd, wp_if, wp_fif, wps_ok_nx, wps_ok_rt, wps_ok_bk, wps_ok_ct, wps_ok_xc, wps_bad, wps_lft, wps_seq, wps_nil, wps_ret, wps_expr, wps_asg, wps_if, wp_run, wps_for, wps_while, wp_comp, wp_var, wp_C, wp_bin, wp_un, wp_T, wp_Tb, wp_asBl, wp_truthBl, wp_bAnd, wp_bOr, wp_bNot, wp_eIf, wp_eAnd, wp_eOr, wp_eNot, blCase_bl, wp_chain, wp_aNil, wp_aCons, wp_tup, wp_lst, wp_lstM, wp_call, wp_cl1, wp_cl2, wp_cl3, wp_cl4, wp_cl5, wp_meth, wp_isi, wp_oNone, wp_oSome, wp_sl, wp_it, wp_range1, wp_range2, wp_bYes, gEq_str, gNe_str, gEq_int, gNe_int, gEq_bl, gNe_bl, gIs_bl, gIsNot_bl, gAdd_int, gSub_int, gC_int, gI_int, gAdd_str, gAdd_tup, gAdd_lst, gNeg_int, gIx_tup, gIx_lst, gLen_tup, gLen_lst, gLen_str, gInt_int, gInt_bl, gTuple_lst, gTuple_tup, gList_lst, gList_tup, gSl_tup, gSl_lst, gSl_fl, gSl_str, srcL_tup, srcL_lst, srcL_fl, srcL_str, srcR1_int, typN, startR, List.map_cons, List.map_nil, List.length_cons, List.length_nil, Nat.reduceAdd, Nat.reduceSub, Nat.zero_add, Nat.sub_self, Nat.sub_zero, List.replicate_zero, List.replicate_succ, List.cons_append, List.nil_append, List.append_nil, List.getElem?_cons_zero, List.getElem?_cons_succ, List.set_cons_zero, List.set_cons_succ, List.set_nil, List.getElem?_nil, Option.some.injEq, exists_eq_left', exists_eq_left, exists_eq_right, reduceCtorEq, false_and, and_false, true_and, and_true, exists_false, exists_const, wipeR, Nat.zero_le, String.reduceEq, D.int.injEq, D.str.injEq, D.bl.injEq, atI_0, atI_1, atI_2, atI_3, atI_4, beq_self_eq_true, not_true_eq_false, not_false_eq_true, Int.cast_ofNat_Int, Int.reduceEq, Int.reduceLE, Int.reduceLT, Int.reduceAdd, Int.reduceSub, Int.reduceMul, Int.reduceNeg, if_true, if_false, ite_true, ite_false, Bool.false_eq_true, if_neg, if_pos, decide_eq_true_eq, Bool.not_eq_true', decide_eq_false_iff_not, eq_self_iff_true, decide_true, decide_false, Bool.not_true, Bool.not_false, wps_raise, wps_try, wps_tryAs, tryCase_t, tryCase_f, tbl_hit, suiteOf_hit, wp_eDct, wp_eDGet, wp_eDNew, wp_eDDef, wps_dput]
      refine ⟨by rw [sizeLine_eq, List.length_map]; omega, some (.str z), ?_, rfl⟩
      rw [ht, List.map_append]
      rfl
    · simp only [isiN_ts, isTy_ref at_end, wp_ok, wp_ret, wp_stuck, wp_bad, wp_bnd, wp_if, wp_fif, wps_ok_nx, wps_ok_rt, wps_ok_bk, wps_ok_ct, wps_ok_xc, wps_bad, wps_lft, wps_seq, wps_nil, wps_ret, wps_expr, wps_asg, wps_if, wp_run, wps_for, wps_while, wp_comp, wp_var, wp_C, wp_bin, wp_un, wp_T, wp_Tb, wp_asBl, wp_truthBl, wp_bAnd, wp_bOr, wp_bNot, wp_eIf, wp_eAnd, wp_eOr, wp_eNot, blCase_bl, wp_chain, wp_aNil, wp_aCons, wp_tup, wp_lst, wp_lstM, wp_call, wp_cl1, wp_cl2, wp_cl3, wp_cl4, wp_cl5, wp_meth, wp_isi, wp_oNone, wp_oSome, wp_sl, wp_it, wp_range1, wp_range2, wp_bYes, gEq_str, gNe_str, gEq_int, gNe_int, gEq_bl, gNe_bl, gIs_bl, gIsNot_bl, gAdd_int, gSub_int, gC_int, gI_int, gAdd_str, gAdd_tup, gAdd_lst, gNeg_int, gIx_tup, gIx_lst, gLen_tup, gLen_lst, gLen_str, gInt_int, gInt_bl, gTuple_lst, gTuple_tup, gList_lst, gList_tup, gSl_tup, gSl_lst, gSl_fl, gSl_str, srcL_tup, srcL_lst, srcL_fl, srcL_str, srcR1_int, typN, startR, List.map_cons, List.map_nil, List.length_cons, List.length_nil, Nat.reduceAdd, Nat.reduceSub, Nat.zero_add, Nat.sub_self, Nat.sub_zero, List.replicate_zero, List.replicate_succ, List.cons_append, List.nil_append, List.append_nil, List.getElem?_cons_zero, List.getElem?_cons_succ, List.set_cons_zero, List.set_cons_succ, List.set_nil, List.getElem?_nil, Option.some.injEq, exists_eq_left', exists_eq_left, exists_eq_right, reduceCtorEq, false_and, and_false, true_and, and_true, exists_false, exists_const, wipeR, Nat.zero_le, String.reduceEq, D.int.injEq, D.str.injEq, D.bl.injEq, atI_0, atI_1, atI_2, atI_3, atI_4, beq_self_eq_true, not_true_eq_false, not_false_eq_true, Int.cast_ofNat_Int, Int.reduceEq, Int.reduceLE, Int.reduceLT, Int.reduceAdd, Int.reduceSub, Int.reduceMul, Int.reduceNeg, if_true, if_false, ite_true, ite_false, Bool.false_eq_true, if_neg, if_pos, decide_eq_true_eq, Bool.not_eq_true', decide_eq_false_iff_not, eq_self_iff_true, decide_true, decide_false, Bool.not_true, Bool.not_false, wps_raise, wps_try, wps_tryAs, tryCase_t, tryCase_f, tbl_hit, suiteOf_hit, wp_eDct, wp_eDGet, wp_eDNew, wp_eDDef, wps_dput]
      refine hT t N' _ _ _ q (by omega) (oks_push hS (strs_tr _)) ?_
      simp only [gExtend_lst at_end, set_end, List.length_map, wp_ok, wp_ret, wp_stuck, wp_bad, wp_bnd, wp_if, wp_fif, wps_ok_nx, wps_ok_rt, wps_ok_bk, wps_ok_ct, wps_ok_xc, wps_bad, wps_lft, wps_seq, wps_nil, wps_ret, wps_expr, wps_asg, wps_if, wp_run, wps_for, wps_while, wp_comp, wp_var, wp_C, wp_bin, wp_un, wp_T, wp_Tb, wp_asBl, wp_truthBl, wp_bAnd, wp_bOr, wp_bNot, wp_eIf, wp_eAnd, wp_eOr, wp_eNot, blCase_bl, wp_chain, wp_aNil, wp_aCons, wp_tup, wp_lst, wp_lstM, wp_call, wp_cl1, wp_cl2, wp_cl3, wp_cl4, wp_cl5, wp_meth, wp_isi, wp_oNone, wp_oSome, wp_sl, wp_it, wp_range1, wp_range2, wp_bYes, gEq_str, gNe_str, gEq_int, gNe_int, gEq_bl, gNe_bl, gIs_bl, gIsNot_bl, gAdd_int, gSub_int, gC_int, gI_int, gAdd_str, gAdd_tup, gAdd_lst, gNeg_int, gIx_tup, gIx_lst, gLen_tup, gLen_lst, gLen_str, gInt_int, gInt_bl, gTuple_lst, gTuple_tup, gList_lst, gList_tup, gSl_tup, gSl_lst, gSl_fl, gSl_str, srcL_tup, srcL_lst, srcL_fl, srcL_str, srcR1_int, typN, startR, List.map_cons, List.map_nil, List.length_cons, List.length_nil, Nat.reduceAdd, Nat.reduceSub, Nat.zero_add, Nat.sub_self, Nat.sub_zero, List.replicate_zero, List.replicate_succ, List.cons_append, List.nil_append, List.append_nil, List.getElem?_cons_zero, List.getElem?_cons_succ, List.set_cons_zero, List.set_cons_succ, List.set_nil, List.getElem?_nil, Option.some.injEq, exists_eq_left', exists_eq_left, exists_eq_right, reduceCtorEq, false_and, and_false, true_and, and_true, exists_false, exists_const, wipeR, Nat.zero_le, String.reduceEq, D.int.injEq, D.str.injEq, D.bl.injEq, atI_0, atI_1, atI_2, atI_3, atI_4, beq_self_eq_true, not_true_eq_false, not_false_eq_true, Int.cast_ofNat_Int, Int.reduceEq, Int.reduceLE, Int.reduceLT, Int.reduceAdd, Int.reduceSub, Int.reduceMul, Int.reduceNeg, if_true, if_false, ite_true, ite_false, Bool.false_eq_true, if_neg, if_pos, decide_eq_true_eq, Bool.not_eq_true', decide_eq_false_iff_not, eq_self_iff_true, decide_true, decide_false, Bool.not_true, Bool.not_false, wps_raise, wps_try, wps_tryAs, tryCase_t, tryCase_f, tbl_hit, suiteOf_hit, wp_eDct, wp_eDGet, wp_eDNew, wp_eDDef, wps_dput]
      refine ⟨small_line ?_, some (.tup [.str "push", t]), ?_, rfl⟩
      · have : (nmW k (.tup [.str "push", t])).length = (nmT k t).length := rfl
        omega
      · rw [ht, List.map_append]
        rfl
  · rintro ρ S' ⟨o, rfl, rfl⟩
    rw [List.take_length]
    simp only [wp_ok, wp_ret, wp_stuck, wp_bad, wp_bnd, wp_if, wp_fif, wps_ok_nx, wps_ok_rt, wps_ok_bk, wps_ok_ct, wps_ok_xc, wps_bad, wps_lft, wps_seq, wps_nil, wps_ret, wps_expr, wps_asg, wps_if, wp_run, wps_for, wps_while, wp_comp, wp_var, wp_C, wp_bin, wp_un, wp_T, wp_Tb, wp_asBl, wp_truthBl, wp_bAnd, wp_bOr, wp_bNot, wp_eIf, wp_eAnd, wp_eOr, wp_eNot, blCase_bl, wp_chain, wp_aNil, wp_aCons, wp_tup, wp_lst, wp_lstM, wp_call, wp_cl1, wp_cl2, wp_cl3, wp_cl4, wp_cl5, wp_meth, wp_isi, wp_oNone, wp_oSome, wp_sl, wp_it, wp_range1, wp_range2, wp_bYes, gEq_str, gNe_str, gEq_int, gNe_int, gEq_bl, gNe_bl, gIs_bl, gIsNot_bl, gAdd_int, gSub_int, gC_int, gI_int, gAdd_str, gAdd_tup, gAdd_lst, gNeg_int, gIx_tup, gIx_lst, gLen_tup, gLen_lst, gLen_str, gInt_int, gInt_bl, gTuple_lst, gTuple_tup, gList_lst, gList_tup, gSl_tup, gSl_lst, gSl_fl, gSl_str, srcL_tup, srcL_lst, srcL_fl, srcL_str, srcR1_int, typN, startR, List.map_cons, List.map_nil, List.length_cons, List.length_nil, Nat.reduceAdd, Nat.reduceSub, Nat.zero_add, Nat.sub_self, Nat.sub_zero, List.replicate_zero, List.replicate_succ, List.cons_append, List.nil_append, List.append_nil, List.getElem?_cons_zero, List.getElem?_cons_succ, List.set_cons_zero, List.set_cons_succ, List.set_nil, List.getElem?_nil, Option.some.injEq, exists_eq_left', exists_eq_left, exists_eq_right, reduceCtorEq, false_and, and_false, true_and, and_true, exists_false, exists_const, wipeR, Nat.zero_le, String.reduceEq, D.int.injEq, D.str.injEq, D.bl.injEq, atI_0, atI_1, atI_2, atI_3, atI_4, beq_self_eq_true, not_true_eq_false, not_false_eq_true, Int.cast_ofNat_Int, Int.reduceEq, Int.reduceLE, Int.reduceLT, Int.reduceAdd, Int.reduceSub, Int.reduceMul, Int.reduceNeg, if_true, if_false, ite_true, ite_false, Bool.false_eq_true, if_neg, if_pos, decide_eq_true_eq, Bool.not_eq_true', decide_eq_false_iff_not, eq_self_iff_true, decide_true, decide_false, Bool.not_true, Bool.not_false, wps_raise, wps_try, wps_tryAs, tryCase_t, tryCase_f, tbl_hit, suiteOf_hit, wp_eDct, wp_eDGet, wp_eDNew, wp_eDDef, wps_dput]
    exact fin_free hS (strs_tr _) hF
theorem names_thing {Q : Str → Prop} : ∀ k, k ≤ 4 → NT fu Q k
  | 0, _, t, N, S, F, E, h, hN, hS, hF => by
    obtain ⟨N', rfl⟩ : ∃ N', N = N' + 1 := ⟨N - 1, by omega⟩
    show wp (runDef false 3 (b_names_in_thing fu (den fu N')) _ _) _ _
    obtain ⟨i, rfl, _⟩ := id h
    rw [nmT_num h] at hF
    simp only [b_names_in_thing, ofString_inj, wp_ok, wp_ret, wp_stuck, wp_bad, wp_bnd, wp_if, wp_fif, wps_ok_nx, wps_ok_rt, wps_ok_bk, wps_ok_ct, wps_ok_xc, wps_bad, wps_lft, wps_seq, wps_nil, wps_ret, wps_expr, wps_asg, wps_if, wp_run, wps_for, wps_while, wp_comp, wp_var, wp_C, wp_bin, wp_un, wp_T, wp_Tb, wp_asBl, wp_truthBl, wp_bAnd, wp_bOr, wp_bNot, wp_eIf, wp_eAnd, wp_eOr, wp_eNot, blCase_bl, wp_chain, wp_aNil, wp_aCons, wp_tup, wp_lst, wp_lstM, wp_call, wp_cl1, wp_cl2, wp_cl3, wp_cl4, wp_cl5, wp_meth, wp_isi, wp_oNone, wp_oSome, wp_sl, wp_it, wp_range1, wp_range2, wp_bYes, gEq_str, gNe_str, gEq_int, gNe_int, gEq_bl, gNe_bl, gIs_bl, gIsNot_bl, gAdd_int, gSub_int, gC_int, gI_int, gAdd_str, gAdd_tup, gAdd_lst, gNeg_int, gIx_tup, gIx_lst, gLen_tup, gLen_lst, gLen_str, gInt_int, gInt_bl, gTuple_lst, gTuple_tup, gList_lst, gList_tup, gSl_tup, gSl_lst, gSl_fl, gSl_str, srcL_tup, srcL_lst, srcL_fl, srcL_str, srcR1_int, typN, startR, List.map_cons, List.map_nil, List.length_cons, List.length_nil, Nat.reduceAdd, Nat.reduceSub, Nat.zero_add, Nat.sub_self, Nat.sub_zero, List.replicate_zero, List.replicate_succ, List.cons_append, List.nil_append, List.append_nil, List.getElem?_cons_zero, List.getElem?_cons_succ, List.set_cons_zero, List.set_cons_succ, List.set_nil, List.getElem?_nil, Option.some.injEq, exists_eq_left', exists_eq_left, exists_eq_right, reduceCtorEq, false_and, and_false, true_and, and_true, exists_false, exists_const, wipeR, Nat.zero_le, String.reduceEq, D.int.injEq, D.str.injEq, D.bl.injEq, atI_0, atI_1, atI_2, atI_3, atI_4, beq_self_eq_true, not_true_eq_false, not_false_eq_true, Int.cast_ofNat_Int, Int.reduceEq, Int.reduceLE, Int.reduceLT, Int.reduceAdd, Int.reduceSub, Int.reduceMul, Int.reduceNeg, if_true, if_false, ite_true, ite_false, Bool.false_eq_true, if_neg, if_pos, decide_eq_true_eq, Bool.not_eq_true', decide_eq_false_iff_not, eq_self_iff_true, decide_true, decide_false, Bool.not_true, Bool.not_false, wps_raise, wps_try, wps_tryAs, tryCase_t, tryCase_f, tbl_hit, suiteOf_hit, wp_eDct, wp_eDGet, wp_eDNew, wp_eDDef, wps_dput]
    exact fin_free hS rfl hF
  | k + 1, hk, t, N, S, F, E, h, hN, hS, hF => by
    obtain ⟨N', rfl⟩ : ∃ N', N = N' + 1 := ⟨N - 1, by omega⟩
    show wp (runDef false 3 (b_names_in_thing fu (den fu N')) _ _) _ _
    have ih := names_thing (Q := Q) k (by omega)
    rcases h with h | ⟨ws, rfl, hl, h⟩ | ⟨ts, rfl, hl, h⟩
    · obtain ⟨i, rfl, _⟩ := id h
      rw [nmT_num h] at hF
      simp only [b_names_in_thing, ofString_inj, wp_ok, wp_ret, wp_stuck, wp_bad, wp_bnd, wp_if, wp_fif, wps_ok_nx, wps_ok_rt, wps_ok_bk, wps_ok_ct, wps_ok_xc, wps_bad, wps_lft, wps_seq, wps_nil, wps_ret, wps_expr, wps_asg, wps_if, wp_run, wps_for, wps_while, wp_comp, wp_var, wp_C, wp_bin, wp_un, wp_T, wp_Tb, wp_asBl, wp_truthBl, wp_bAnd, wp_bOr, wp_bNot, wp_eIf, wp_eAnd, wp_eOr, wp_eNot, blCase_bl, wp_chain, wp_aNil, wp_aCons, wp_tup, wp_lst, wp_lstM, wp_call, wp_cl1, wp_cl2, wp_cl3, wp_cl4, wp_cl5, wp_meth, wp_isi, wp_oNone, wp_oSome, wp_sl, wp_it, wp_range1, wp_range2, wp_bYes, gEq_str, gNe_str, gEq_int, gNe_int, gEq_bl, gNe_bl, gIs_bl, gIsNot_bl, gAdd_int, gSub_int, gC_int, gI_int, gAdd_str, gAdd_tup, gAdd_lst, gNeg_int, gIx_tup, gIx_lst, gLen_tup, gLen_lst, gLen_str, gInt_int, gInt_bl, gTuple_lst, gTuple_tup, gList_lst, gList_tup, gSl_tup, gSl_lst, gSl_fl, gSl_str, srcL_tup, srcL_lst, srcL_fl, srcL_str, srcR1_int, typN, startR, List.map_cons, List.map_nil, List.length_cons, List.length_nil, Nat.reduceAdd, Nat.reduceSub, Nat.zero_add, Nat.sub_self, Nat.sub_zero, List.replicate_zero, List.replicate_succ, List.cons_append, List.nil_append, List.append_nil, List.getElem?_cons_zero, List.getElem?_cons_succ, List.set_cons_zero, List.set_cons_succ, List.set_nil, List.getElem?_nil, Option.some.injEq, exists_eq_left', exists_eq_left, exists_eq_right, reduceCtorEq, false_and, and_false, true_and, and_true, exists_false, exists_const, wipeR, Nat.zero_le, String.reduceEq, D.int.injEq, D.str.injEq, D.bl.injEq, atI_0, atI_1, atI_2, atI_3, atI_4, beq_self_eq_true, not_true_eq_false, not_false_eq_true, Int.cast_ofNat_Int, Int.reduceEq, Int.reduceLE, Int.reduceLT, Int.reduceAdd, Int.reduceSub, Int.reduceMul, Int.reduceNeg, if_true, if_false, ite_true, ite_false, Bool.false_eq_true, if_neg, if_pos, decide_eq_true_eq, Bool.not_eq_true', decide_eq_false_iff_not, eq_self_iff_true, decide_true, decide_false, Bool.not_true, Bool.not_false, wps_raise, wps_try, wps_tryAs, tryCase_t, tryCase_f, tbl_hit, suiteOf_hit, wp_eDct, wp_eDGet, wp_eDNew, wp_eDDef, wps_dput]
      exact fin_free hS rfl hF
    · rw [nmT_row] at hF
      simp only [b_names_in_thing, ofString_inj, wp_ok, wp_ret, wp_stuck, wp_bad, wp_bnd, wp_if, wp_fif, wps_ok_nx, wps_ok_rt, wps_ok_bk, wps_ok_ct, wps_ok_xc, wps_bad, wps_lft, wps_seq, wps_nil, wps_ret, wps_expr, wps_asg, wps_if, wp_run, wps_for, wps_while, wp_comp, wp_var, wp_C, wp_bin, wp_un, wp_T, wp_Tb, wp_asBl, wp_truthBl, wp_bAnd, wp_bOr, wp_bNot, wp_eIf, wp_eAnd, wp_eOr, wp_eNot, blCase_bl, wp_chain, wp_aNil, wp_aCons, wp_tup, wp_lst, wp_lstM, wp_call, wp_cl1, wp_cl2, wp_cl3, wp_cl4, wp_cl5, wp_meth, wp_isi, wp_oNone, wp_oSome, wp_sl, wp_it, wp_range1, wp_range2, wp_bYes, gEq_str, gNe_str, gEq_int, gNe_int, gEq_bl, gNe_bl, gIs_bl, gIsNot_bl, gAdd_int, gSub_int, gC_int, gI_int, gAdd_str, gAdd_tup, gAdd_lst, gNeg_int, gIx_tup, gIx_lst, gLen_tup, gLen_lst, gLen_str, gInt_int, gInt_bl, gTuple_lst, gTuple_tup, gList_lst, gList_tup, gSl_tup, gSl_lst, gSl_fl, gSl_str, srcL_tup, srcL_lst, srcL_fl, srcL_str, srcR1_int, typN, startR, List.map_cons, List.map_nil, List.length_cons, List.length_nil, Nat.reduceAdd, Nat.reduceSub, Nat.zero_add, Nat.sub_self, Nat.sub_zero, List.replicate_zero, List.replicate_succ, List.cons_append, List.nil_append, List.append_nil, List.getElem?_cons_zero, List.getElem?_cons_succ, List.set_cons_zero, List.set_cons_succ, List.set_nil, List.getElem?_nil, Option.some.injEq, exists_eq_left', exists_eq_left, exists_eq_right, reduceCtorEq, false_and, and_false, true_and, and_true, exists_false, exists_const, wipeR, Nat.zero_le, String.reduceEq, D.int.injEq, D.str.injEq, D.bl.injEq, atI_0, atI_1, atI_2, atI_3, atI_4, beq_self_eq_true, not_true_eq_false, not_false_eq_true, Int.cast_ofNat_Int, Int.reduceEq, Int.reduceLE, Int.reduceLT, Int.reduceAdd, Int.reduceSub, Int.reduceMul, Int.reduceNeg, if_true, if_false, ite_true, ite_false, Bool.false_eq_true, if_neg, if_pos, decide_eq_true_eq, Bool.not_eq_true', decide_eq_false_iff_not, eq_self_iff_true, decide_true, decide_false, Bool.not_true, Bool.not_false, wps_raise, wps_try, wps_tryAs, tryCase_t, tryCase_f, tbl_hit, suiteOf_hit, wp_eDct, wp_eDGet, wp_eDNew, wp_eDDef, wps_dput]
      refine names_in_ok ih (by omega) (by omega) h (by omega) hS ?_
      have := strs_tr (ws.flatMap (nmW k))
      exact (fin_trO hS (show tr (.lst _) from this)).mpr hF
    · rw [nmT_list] at hF
      have hlen : (ts.flatMap (nmT k)).length ≤ 10000 := by
        have h1 := flat_bound (l := ts) (f := nmT k) (c := 6 ^ 4) fun w hw => Nat.le_trans (nmT_len (h w hw)) (Nat.pow_le_pow_right (by decide) (by omega))
        have h2 : ts.length * 6 ^ 4 ≤ 6 * 6 ^ 4 := Nat.mul_le_mul_right _ hl
        omega
      simp only [b_names_in_thing, ofString_inj, srcL_tup, wp_ok, wp_ret, wp_stuck, wp_bad, wp_bnd, wp_if, wp_fif, wps_ok_nx, wps_ok_rt, wps_ok_bk, wps_ok_ct, wps_ok_xc, wps_bad, wps_lft, wps_seq, wps_nil, wps_ret, wps_expr, wps_asg, wps_if, wp_run, wps_for, wps_while, wp_comp, wp_var, wp_C, wp_bin, wp_un, wp_T, wp_Tb, wp_asBl, wp_truthBl, wp_bAnd, wp_bOr, wp_bNot, wp_eIf, wp_eAnd, wp_eOr, wp_eNot, blCase_bl, wp_chain, wp_aNil, wp_aCons, wp_tup, wp_lst, wp_lstM, wp_call, wp_cl1, wp_cl2, wp_cl3, wp_cl4, wp_cl5, wp_meth, wp_isi, wp_oNone, wp_oSome, wp_sl, wp_it, wp_range1, wp_range2, wp_bYes, gEq_str, gNe_str, gEq_int, gNe_int, gEq_bl, gNe_bl, gIs_bl, gIsNot_bl, gAdd_int, gSub_int, gC_int, gI_int, gAdd_str, gAdd_tup, gAdd_lst, gNeg_int, gIx_tup, gIx_lst, gLen_tup, gLen_lst, gLen_str, gInt_int, gInt_bl, gTuple_lst, gTuple_tup, gList_lst, gList_tup, gSl_tup, gSl_lst, gSl_fl, gSl_str, srcL_tup, srcL_lst, srcL_fl, srcL_str, srcR1_int, typN, startR, List.map_cons, List.map_nil, List.length_cons, List.length_nil, Nat.reduceAdd, Nat.reduceSub, Nat.zero_add, Nat.sub_self, Nat.sub_zero, List.replicate_zero, List.replicate_succ, List.cons_append, List.nil_append, List.append_nil, List.getElem?_cons_zero, List.getElem?_cons_succ, List.set_cons_zero, List.set_cons_succ, List.set_nil, List.getElem?_nil, Option.some.injEq, exists_eq_left', exists_eq_left, exists_eq_right, reduceCtorEq, false_and, and_false, true_and, and_true, exists_false, exists_const, wipeR, Nat.zero_le, String.reduceEq, D.int.injEq, D.str.injEq, D.bl.injEq, atI_0, atI_1, atI_2, atI_3, atI_4, beq_self_eq_true, not_true_eq_false, not_false_eq_true, Int.cast_ofNat_Int, Int.reduceEq, Int.reduceLE, Int.reduceLT, Int.reduceAdd, Int.reduceSub, Int.reduceMul, Int.reduceNeg, if_true, if_false, ite_true, ite_false, Bool.false_eq_true, if_neg, if_pos, decide_eq_true_eq, Bool.not_eq_true', decide_eq_false_iff_not, eq_self_iff_true, decide_true, decide_false, Bool.not_true, Bool.not_false, wps_raise, wps_try, wps_tryAs, tryCase_t, tryCase_f, tbl_hit, suiteOf_hit, wp_eDct, wp_eDGet, wp_eDNew, wp_eDDef, wps_dput]
      refine wps_forM (fun i ρ S' => ∃ o, S' = S ++ [.lst (((ts.take i).flatMap (nmT k)).map .str)] ∧ ρ = [some (.tup [.str "list", .tup ts]), some (.ref S.length), o]) (fun _ _ _ _ => trivial) ?_ ?_ ⟨none, rfl, rfl⟩
      · rintro i t ρ S' hd ⟨o, rfl, rfl⟩
        refine ⟨_, rfl, ?_⟩
        have ht := flat_take (nmT k) hd
        have hle2 := flat_take_le (nmT k) ts (i + 1)
        rw [ht, List.length_append] at hle2
        simp only [isTy_ref at_end, wp_ok, wp_ret, wp_stuck, wp_bad, wp_bnd, wp_if, wp_fif, wps_ok_nx, wps_ok_rt, wps_ok_bk, wps_ok_ct, wps_ok_xc, wps_bad, wps_lft, wps_seq, wps_nil, wps_ret, wps_expr, wps_asg, wps_if, wp_run, wps_for, wps_while, wp_comp, wp_var, wp_C, wp_bin, wp_un, wp_T, wp_Tb, wp_asBl, wp_truthBl, wp_bAnd, wp_bOr, wp_bNot, wp_eIf, wp_eAnd, wp_eOr, wp_eNot, blCase_bl, wp_chain, wp_aNil, wp_aCons, wp_tup, wp_lst, wp_lstM, wp_call, wp_cl1, wp_cl2, wp_cl3, wp_cl4, wp_cl5, wp_meth, wp_isi, wp_oNone, wp_oSome, wp_sl, wp_it, wp_range1, wp_range2, wp_bYes, gEq_str, gNe_str, gEq_int, gNe_int, gEq_bl, gNe_bl, gIs_bl, gIsNot_bl, gAdd_int, gSub_int, gC_int, gI_int, gAdd_str, gAdd_tup, gAdd_lst, gNeg_int, gIx_tup, gIx_lst, gLen_tup, gLen_lst, gLen_str, gInt_int, gInt_bl, gTuple_lst, gTuple_tup, gList_lst, gList_tup, gSl_tup, gSl_lst, gSl_fl, gSl_str, srcL_tup, srcL_lst, srcL_fl, srcL_str, srcR1_int, typN, startR, List.map_cons, List.map_nil, List.length_cons, List.length_nil, Nat.reduceAdd, Nat.reduceSub, Nat.zero_add, Nat.sub_self, Nat.sub_zero, List.replicate_zero, List.replicate_succ, List.cons_append, List.nil_append, List.append_nil, List.getElem?_cons_zero, List.getElem?_cons_succ, List.set_cons_zero, List.set_cons_succ, List.set_nil, List.getElem?_nil, Option.some.injEq, exists_eq_left', exists_eq_left, exists_eq_right, reduceCtorEq, false_and, and_false, true_and, and_true, exists_false, exists_const, wipeR, Nat.zero_le, String.reduceEq, D.int.injEq, D.str.injEq, D.bl.injEq, atI_0, atI_1, atI_2, atI_3, atI_4, beq_self_eq_true, not_true_eq_false, not_false_eq_true, Int.cast_ofNat_Int, Int.reduceEq, Int.reduceLE, Int.reduceLT, Int.reduceAdd, Int.reduceSub, Int.reduceMul, Int.reduceNeg, if_true, if_false, ite_true, ite_false, Bool.false_eq_true, if_neg, if_pos, decide_eq_true_eq, Bool.not_eq_true', decide_eq_false_iff_not, eq_self_iff_true, decide_true, decide_false, Bool.not_true, Bool.not_false, wps_raise, wps_try, wps_tryAs, tryCase_t, tryCase_f, tbl_hit, suiteOf_hit, wp_eDct, wp_eDGet, wp_eDNew, wp_eDDef, wps_dput]
        refine ih t N' _ _ _ (h t (List.mem_of_getElem? hd)) (by omega) (oks_push hS (strs_tr _)) ?_
        simp only [gExtend_lst at_end, set_end, List.length_map, wp_ok, wp_ret, wp_stuck, wp_bad, wp_bnd, wp_if, wp_fif, wps_ok_nx, wps_ok_rt, wps_ok_bk, wps_ok_ct, wps_ok_xc, wps_bad, wps_lft, wps_seq, wps_nil, wps_ret, wps_expr, wps_asg, wps_if, wp_run, wps_for, wps_while, wp_comp, wp_var, wp_C, wp_bin, wp_un, wp_T, wp_Tb, wp_asBl, wp_truthBl, wp_bAnd, wp_bOr, wp_bNot, wp_eIf, wp_eAnd, wp_eOr, wp_eNot, blCase_bl, wp_chain, wp_aNil, wp_aCons, wp_tup, wp_lst, wp_lstM, wp_call, wp_cl1, wp_cl2, wp_cl3, wp_cl4, wp_cl5, wp_meth, wp_isi, wp_oNone, wp_oSome, wp_sl, wp_it, wp_range1, wp_range2, wp_bYes, gEq_str, gNe_str, gEq_int, gNe_int, gEq_bl, gNe_bl, gIs_bl, gIsNot_bl, gAdd_int, gSub_int, gC_int, gI_int, gAdd_str, gAdd_tup, gAdd_lst, gNeg_int, gIx_tup, gIx_lst, gLen_tup, gLen_lst, gLen_str, gInt_int, gInt_bl, gTuple_lst, gTuple_tup, gList_lst, gList_tup, gSl_tup, gSl_lst, gSl_fl, gSl_str, srcL_tup, srcL_lst, srcL_fl, srcL_str, srcR1_int, typN, startR, List.map_cons, List.map_nil, List.length_cons, List.length_nil, Nat.reduceAdd, Nat.reduceSub, Nat.zero_add, Nat.sub_self, Nat.sub_zero, List.replicate_zero, List.replicate_succ, List.cons_append, List.nil_append, List.append_nil, List.getElem?_cons_zero, List.getElem?_cons_succ, List.set_cons_zero, List.set_cons_succ, List.set_nil, List.getElem?_nil, Option.some.injEq, exists_eq_left', exists_eq_left, exists_eq_right, reduceCtorEq, false_and, and_false, true_and, and_true, exists_false, exists_const, wipeR, Nat.zero_le, String.reduceEq, D.int.injEq, D.str.injEq, D.bl.injEq, atI_0, atI_1, atI_2, atI_3, atI_4, beq_self_eq_true, not_true_eq_false, not_false_eq_true, Int.cast_ofNat_Int, Int.reduceEq, Int.reduceLE, Int.reduceLT, Int.reduceAdd, Int.reduceSub, Int.reduceMul, Int.reduceNeg, if_true, if_false, ite_true, ite_false, Bool.false_eq_true, if_neg, if_pos, decide_eq_true_eq, Bool.not_eq_true', decide_eq_false_iff_not, eq_self_iff_true, decide_true, decide_false, Bool.not_true, Bool.not_false, wps_raise, wps_try, wps_tryAs, tryCase_t, tryCase_f, tbl_hit, suiteOf_hit, wp_eDct, wp_eDGet, wp_eDNew, wp_eDDef, wps_dput]
        refine ⟨small_line (by omega), some t, ?_, rfl⟩
        rw [ht, List.map_append]
      · rintro ρ S' ⟨o, rfl, rfl⟩
        rw [List.take_length]
        simp only [wp_ok, wp_ret, wp_stuck, wp_bad, wp_bnd, wp_if, wp_fif, wps_ok_nx, wps_ok_rt, wps_ok_bk, wps_ok_ct, wps_ok_xc, wps_bad, wps_lft, wps_seq, wps_nil, wps_ret, wps_expr, wps_asg, wps_if, wp_run, wps_for, wps_while, wp_comp, wp_var, wp_C, wp_bin, wp_un, wp_T, wp_Tb, wp_asBl, wp_truthBl, wp_bAnd, wp_bOr, wp_bNot, wp_eIf, wp_eAnd, wp_eOr, wp_eNot, blCase_bl, wp_chain, wp_aNil, wp_aCons, wp_tup, wp_lst, wp_lstM, wp_call, wp_cl1, wp_cl2, wp_cl3, wp_cl4, wp_cl5, wp_meth, wp_isi, wp_oNone, wp_oSome, wp_sl, wp_it, wp_range1, wp_range2, wp_bYes, gEq_str, gNe_str, gEq_int, gNe_int, gEq_bl, gNe_bl, gIs_bl, gIsNot_bl, gAdd_int, gSub_int, gC_int, gI_int, gAdd_str, gAdd_tup, gAdd_lst, gNeg_int, gIx_tup, gIx_lst, gLen_tup, gLen_lst, gLen_str, gInt_int, gInt_bl, gTuple_lst, gTuple_tup, gList_lst, gList_tup, gSl_tup, gSl_lst, gSl_fl, gSl_str, srcL_tup, srcL_lst, srcL_fl, srcL_str, srcR1_int, typN, startR, List.map_cons, List.map_nil, List.length_cons, List.length_nil, Nat.reduceAdd, Nat.reduceSub, Nat.zero_add, Nat.sub_self, Nat.sub_zero, List.replicate_zero, List.replicate_succ, List.cons_append, List.nil_append, List.append_nil, List.getElem?_cons_zero, List.getElem?_cons_succ, List.set_cons_zero, List.set_cons_succ, List.set_nil, List.getElem?_nil, Option.some.injEq, exists_eq_left', exists_eq_left, exists_eq_right, reduceCtorEq, false_and, and_false, true_and, and_true, exists_false, exists_const, wipeR, Nat.zero_le, String.reduceEq, D.int.injEq, D.str.injEq, D.bl.injEq, atI_0, atI_1, atI_2, atI_3, atI_4, beq_self_eq_true, not_true_eq_false, not_false_eq_true, Int.cast_ofNat_Int, Int.reduceEq, Int.reduceLE, Int.reduceLT, Int.reduceAdd, Int.reduceSub, Int.reduceMul, Int.reduceNeg, if_true, if_false, ite_true, ite_false, Bool.false_eq_true, if_neg, if_pos, decide_eq_true_eq, Bool.not_eq_true', decide_eq_false_iff_not, eq_self_iff_true, decide_true, decide_false, Bool.not_true, Bool.not_false, wps_raise, wps_try, wps_tryAs, tryCase_t, tryCase_f, tbl_hit, suiteOf_hit, wp_eDct, wp_eDGet, wp_eDNew, wp_eDDef, wps_dput]
        exact fin_free hS (strs_tr _) hF
end K68

namespace K68
open PySem L2 DL
variable {fu n l : Nat} {R S : Sto} {F : D → Sto → Prop} {E : Exc → Sto → Prop}
theorem basics_strOk : ∀ z ∈ basics, PyData.strOk z = true := by decide +kernel
theorem small_lt : ∀ c ∈ small, c < 1114112 := by decide
theorem IsSh.strOk {z : Str} (h : IsSh z) : PyData.strOk z = true := by
  obtain ⟨a, b, rfl, ⟨m, hm, ha⟩, hb, hab⟩ := h
  have h1 : ∀ x ∈ a, x < 1114112 := fun x hx => by
    rw [ha] at hx
    have := List.mem_of_mem_take hx
    simp only [List.mem_cons, List.not_mem_nil, or_false] at this
    omega
  unfold PyData.strOk
  rw [← Array.all_toList, app_toList, app_toList]
  simp only [List.all_append, Bool.and_eq_true, List.all_eq_true, decide_eq_true_eq, List.toList_toArray]
  refine ⟨⟨h1, by simp⟩, fun x hx => h1 x (hab x hx)⟩
theorem NameP.strOk {z : Str} (h : NameP z) : PyData.strOk z = true := by
  unfold PyData.strOk
  rw [← Array.all_toList]
  simp only [List.all_eq_true, decide_eq_true_eq]
  exact fun c hc => small_lt c (h.2.2.2 c hc)
theorem WS.strOk {z : Str} (h : WS z) : PyData.strOk z = true := by
  rcases h.2 with h | h | h
  · exact basics_strOk z h
  · exact h.strOk
  · exact h.strOk
theorem sOk_number : PyData.strOk (Str.ofString "number") = true := by decide +kernel
theorem sOk_row : PyData.strOk (Str.ofString "row") = true := by decide +kernel
theorem sOk_list : PyData.strOk (Str.ofString "list") = true := by decide +kernel
theorem sOk_push : PyData.strOk (Str.ofString "push") = true := by decide +kernel
theorem sh2 {m : Nat} {a b : D} (ha : Sh m a) (hb : Sh m b) : Sh (m + 1) (.tup [a, b]) := sh_tup fun d hd => by
  simp only [List.mem_cons, List.not_mem_nil, or_false] at hd
  rcases hd with rfl | rfl <;> assumption
theorem Num.sh {d : D} (h : Num d) : Sh 1 d := by obtain ⟨i, rfl, _⟩ := h; exact sh2 (sh_str sOk_number) sh_int
theorem ThG.sh {B : Nat} {Q : Str → Prop} : ∀ {j : Nat} {d : D}, ThG B Q j d → Sh (3 * j + 1) d
  | 0, d, h => Num.sh h
  | j + 1, d, h => by
    rcases h with h | ⟨ws, rfl, _, h⟩ | ⟨ts, rfl, _, h⟩
    · exact (Num.sh h).mono (by omega)
    · refine (sh2 (m := 3 * j + 1 + 1 + 1) (sh_str sOk_row) (sh_tup fun w hw => ?_)).mono (by omega)
      rcases h w hw with ⟨z, rfl, hz, _⟩ | ⟨t, rfl, q⟩
      · exact sh_str hz.strOk
      · exact sh2 (sh_str sOk_push) (ThG.sh q)
    · exact (sh2 (m := 3 * j + 1 + 1) (sh_str sOk_list) (sh_tup fun t ht => ThG.sh (h t ht))).mono (by omega)
/-! the law's own way to the texts of a row -/
theorem nmT_stab {B : Nat} {Q : Str → Prop} : ∀ {k J J' : Nat} {t : D}, k ≤ J → k ≤ J' → ThG B Q k t → nmT J t = nmT J' t
  | 0, _, _, t, _, _, h => by rw [nmT_num h, nmT_num h]
  | k + 1, J + 1, J' + 1, t, h1, h2, h => by
    rcases h with h | ⟨ws, rfl, hl, h⟩ | ⟨ts, rfl, hl, h⟩
    · rw [nmT_num h, nmT_num h]
    · rw [nmT_row, nmT_row]
      clear hl
      induction ws with
      | nil => rfl
      | cons w ws ih =>
        rw [List.flatMap_cons, List.flatMap_cons, ih fun x hx => h x (List.mem_cons_of_mem _ hx)]
        congr 1
        rcases h w List.mem_cons_self with ⟨z, rfl, _⟩ | ⟨t, rfl, q⟩
        · rfl
        · exact nmT_stab (by omega) (by omega) q
    · rw [nmT_list, nmT_list]
      clear hl
      induction ts with
      | nil => rfl
      | cons w ws ih =>
        rw [List.flatMap_cons, List.flatMap_cons, ih fun x hx => h x (List.mem_cons_of_mem _ hx), nmT_stab (J := J) (J' := J') (by omega) (by omega) (h w List.mem_cons_self)]
  | k + 1, 0, _, t, h1, _, _ => absurd h1 (by omega)
  | k + 1, _, 0, t, _, h2, _ => absurd h2 (by omega)
theorem tokT_stab {B : Nat} {Q : Str → Prop} : ∀ {k J J' : Nat} {t : D}, k ≤ J → k ≤ J' → ThG B Q k t → tokT J t = tokT J' t
  | 0, _, _, t, _, _, ⟨i, e, _⟩ => by subst e; rw [tokT_num, tokT_num]
  | k + 1, J + 1, J' + 1, t, h1, h2, h => by
    rcases h with ⟨i, rfl, _⟩ | ⟨ws, rfl, hl, h⟩ | ⟨ts, rfl, hl, h⟩
    · rw [tokT_num, tokT_num]
    · rw [tokT_row, tokT_row]
      clear hl
      have : ws.flatMap (tokW J) = ws.flatMap (tokW J') := by
        induction ws with
        | nil => rfl
        | cons w ws ih =>
          rw [List.flatMap_cons, List.flatMap_cons, ih fun x hx => h x (List.mem_cons_of_mem _ hx)]
          congr 1
          rcases h w List.mem_cons_self with ⟨z, rfl, _⟩ | ⟨t, rfl, q⟩
          · rfl
          · exact tokT_stab (by omega) (by omega) q
      rw [this]
    · rw [tokT_list, tokT_list]
      clear hl
      have : ts.flatMap (tokT J) = ts.flatMap (tokT J') := by
        induction ts with
        | nil => rfl
        | cons w ws ih =>
          rw [List.flatMap_cons, List.flatMap_cons, ih fun x hx => h x (List.mem_cons_of_mem _ hx), tokT_stab (J := J) (J' := J') (by omega) (by omega) (h w List.mem_cons_self)]
      rw [this]
  | k + 1, 0, _, t, h1, _, _ => absurd h1 (by omega)
  | k + 1, _, 0, t, _, h2, _ => absurd h2 (by omega)
def strsIn (ws : List D) : List Str := ws.filterMap fun w => match w with
  | .str y => some y
  | _ => none
def thingsIn (ws : List D) : List D := ws.filterMap fun w => match w with
  | .tup [_, t] => some t
  | _ => none
/-- the things that wait -/
def Wt (d : D) : Prop := ∃ j, j ≤ 18 ∧ ThG 7 (fun _ => True) j d
abbrev nm (d : D) : List Str := nmT 20 d
abbrev tk (d : D) : Nat := (tokT 20 d).length
theorem tk_pos {d : D} (h : Wt d) : 1 ≤ tk d := by
  obtain ⟨j, hj, h⟩ := h
  rw [tk, tokT_stab (show j ≤ 20 by omega) (show j ≤ j + 1 by omega) h]
  cases j with
  | zero => obtain ⟨i, rfl, _⟩ := h; rw [tokT_num]; exact Nat.le_refl _
  | succ j =>
    rcases h with ⟨i, rfl, _⟩ | ⟨ws, rfl, hl, h⟩ | ⟨ts, rfl, hl, h⟩
    · rw [tokT_num]; exact Nat.le_refl _
    · rw [tokT_row]; simp
    · rw [tokT_list]; simp
theorem row_parts {j : Nat} {ws : List D} (hj : j ≤ 17) (h : ∀ w ∈ ws, WdG 7 (fun _ => True) j w) : (∀ y, (ws.flatMap (nmW 19)).count y = (strsIn ws).count y + ((thingsIn ws).flatMap nm).count y) ∧ (∀ t ∈ thingsIn ws, Wt t) ∧ (strsIn ws).length + ((thingsIn ws).map tk).sum = (ws.flatMap (tokW 19)).length := by
  induction ws with
  | nil => exact ⟨fun y => rfl, fun t ht => (List.not_mem_nil ht).elim, rfl⟩
  | cons w ws ih =>
    obtain ⟨i1, i2, i3⟩ := ih fun x hx => h x (List.mem_cons_of_mem _ hx)
    rcases h w List.mem_cons_self with ⟨z, rfl, _⟩ | ⟨t, rfl, q⟩
    · have e1 : strsIn (.str z :: ws) = z :: strsIn ws := rfl
      have e2 : thingsIn (.str z :: ws) = thingsIn ws := rfl
      rw [e1, e2]
      refine ⟨fun y => ?_, i2, ?_⟩
      · rw [List.flatMap_cons, List.count_append, i1 y, List.count_cons]
        show List.count y [z] + _ = _
        rw [List.count_cons, List.count_nil]
        omega
      · rw [List.flatMap_cons, List.length_append, List.length_cons]
        show _ = 1 + _
        omega
    · have e1 : strsIn (.tup [.str "push", t] :: ws) = strsIn ws := rfl
      have e2 : thingsIn (.tup [.str "push", t] :: ws) = t :: thingsIn ws := rfl
      rw [e1, e2]
      refine ⟨fun y => ?_, fun x hx => ?_, ?_⟩
      · rw [List.flatMap_cons, List.count_append, i1 y, List.flatMap_cons, List.count_append]
        have : nmW 19 (.tup [.str "push", t]) = nm t := nmT_stab (by omega) (by omega) q
        rw [this]
        omega
      · rcases List.mem_cons.mp hx with rfl | hx
        · exact ⟨j, by omega, q⟩
        · exact i2 x hx
      · rw [List.flatMap_cons, List.length_append, List.map_cons, List.sum_cons]
        have : tokW 19 (.tup [.str "push", t]) = tokT 20 t := tokT_stab (by omega) (by omega) q
        rw [this]
        show _ + (tk t + _) = tk t + _
        omega
theorem list_parts {j : Nat} {ts : List D} (hj : j ≤ 17) (h : ∀ t ∈ ts, ThG 7 (fun _ => True) j t) : ts.flatMap (nmT 19) = ts.flatMap nm ∧ (∀ t ∈ ts, Wt t) ∧ (ts.map tk).sum = (ts.flatMap (tokT 19)).length := by
  induction ts with
  | nil => exact ⟨rfl, fun t ht => (List.not_mem_nil ht).elim, rfl⟩
  | cons t ts ih =>
    obtain ⟨i1, i2, i3⟩ := ih fun x hx => h x (List.mem_cons_of_mem _ hx)
    have q := h t List.mem_cons_self
    refine ⟨?_, fun x hx => ?_, ?_⟩
    · rw [List.flatMap_cons, List.flatMap_cons, i1, nmT_stab (J := 19) (J' := 20) (by omega) (by omega) q]
    · rcases List.mem_cons.mp hx with rfl | hx
      · exact ⟨j, by omega, q⟩
      · exact i2 x hx
    · rw [List.map_cons, List.sum_cons, i3, List.flatMap_cons, List.length_append, tokT_stab (J := 19) (J' := 20) (by omega) (by omega) q]
/-- a comprehension that picks -/
theorem comp_pick {all : List D} {i : Nat} {test : EvB} {el : EvD} {ρ : Rho} {FF : List D → Sto → Prop} (g : D → Option D)
    (h : ∀ d ∈ all, ∃ b : Bool, (∀ {F : Bool → Sto → Prop} {E}, wp (test (ρ.set i (some d)) S) F E ↔ F b S) ∧ (if b = true then ∃ y, g d = some y ∧ (∀ {F : D → Sto → Prop} {E}, wp (el (ρ.set i (some d)) S) F E ↔ F y S) else g d = none)) (hF : FF (all.filterMap g) S) :
    wp (compM none all (gN i) test el ρ all S) FF nx := by
  refine wp_compM (fun k ys S' => S' = S ∧ ys = (all.take k).filterMap g) (fun _ _ _ _ => trivial) (fun k d ys S' hd hk => ?_) (fun ys S' hk => ?_) ⟨rfl, rfl⟩
  · obtain ⟨rfl, rfl⟩ := hk
    refine ⟨_, rfl, ?_⟩
    obtain ⟨b, h1, h2⟩ := h d (List.mem_of_getElem? hd)
    rw [h1]
    have e : all.take (k + 1) = all.take k ++ [d] := by rw [List.take_succ, hd]; rfl
    cases b with
    | true =>
      rw [if_pos rfl] at h2 ⊢
      obtain ⟨y, h3, h4⟩ := h2
      rw [h4]
      refine ⟨rfl, ?_⟩
      rw [e, List.filterMap_append]
      simp [h3]
    | false =>
      rw [if_neg Bool.false_ne_true] at h2 ⊢
      refine ⟨rfl, ?_⟩
      rw [e, List.filterMap_append]
      simp [h2]
  · obtain ⟨rfl, rfl⟩ := hk
    rw [List.take_length]; exact hF
theorem Wt.sh {d : D} (h : Wt d) : Sh 60 d := by
  obtain ⟨j, hj, h⟩ := h
  exact h.sh.mono (by omega)
theorem Wt.tr {d : D} (h : Wt d) : DL.tr d := by
  obtain ⟨j, hj, h⟩ := h
  exact ThG.tr h
theorem gTp2 {t : TgL} {a b : D} {ρ : Rho} : gTp 2 t (.tup [a, b]) ρ = t [a, b] ρ := rfl
def pick1 (d : D) : Option D := match d with
  | .str y => some (.str y)
  | _ => none
def pick2 (d : D) : Option D := match d with
  | .tup [_, t] => some t
  | _ => none
theorem pick1_eq (xs : List D) : xs.filterMap pick1 = (strsIn xs).map .str := by
  unfold strsIn
  rw [List.map_filterMap]
  congr 1
  funext d
  cases d <;> rfl
theorem tk_sum {W : List D} (h : ∀ t ∈ W, Wt t) : W.length ≤ (W.map tk).sum := by
  induction W with
  | nil => exact Nat.le_refl _
  | cons x W ih =>
    have := ih fun t ht => h t (List.mem_cons_of_mem _ ht)
    have := tk_pos (h x List.mem_cons_self)
    simp only [List.map_cons, List.sum_cons, List.length_cons]
    omega
theorem named_ok {N : Nat} {ws : List D} (hfu : 1000 ≤ fu) (hl : ws.length ≤ 7) (hw : ∀ w ∈ ws, WdG 7 (fun _ => True) 4 w) (ht : (ws.flatMap (tokW 19)).length ≤ 200) (hN : 1 ≤ N) (hS : OKS S) (hF : ∀ l : List Str, (∀ y, l.count y = (ws.flatMap (nmW 19)).count y) → F (.lst (l.map .str)) S) : wp (den fu N i_l_named [.tup ws] S) F E := by
  obtain ⟨N', rfl⟩ : ∃ N', N = N' + 1 := ⟨N - 1, by omega⟩
  show wp (runDef false 6 (b_l_named fu (den fu N')) _ _) _ _
  simp only [b_l_named, wp_ok, wp_ret, wp_stuck, wp_bad, wp_bnd, wp_if, wp_fif, wps_ok_nx, wps_ok_rt, wps_ok_bk, wps_ok_ct, wps_ok_xc, wps_bad, wps_lft, wps_seq, wps_nil, wps_ret, wps_expr, wps_asg, wps_if, wp_run, wps_for, wps_while, wp_comp, wp_var, wp_C, wp_bin, wp_un, wp_T, wp_Tb, wp_asBl, wp_truthBl, wp_bAnd, wp_bOr, wp_bNot, wp_eIf, wp_eAnd, wp_eOr, wp_eNot, blCase_bl, wp_chain, wp_aNil, wp_aCons, wp_tup, wp_lst, wp_lstM, wp_call, wp_cl1, wp_cl2, wp_cl3, wp_cl4, wp_cl5, wp_meth, wp_isi, wp_oNone, wp_oSome, wp_sl, wp_it, wp_range1, wp_range2, wp_bYes, gEq_str, gNe_str, gEq_int, gNe_int, gEq_bl, gNe_bl, gIs_bl, gIsNot_bl, gAdd_int, gSub_int, gC_int, gI_int, gAdd_str, gAdd_tup, gAdd_lst, gNeg_int, gIx_tup, gIx_lst, gLen_tup, gLen_lst, gLen_str, gInt_int, gInt_bl, gTuple_lst, gTuple_tup, gList_lst, gList_tup, gSl_tup, gSl_lst, gSl_fl, gSl_str, srcL_tup, srcL_lst, srcL_fl, srcL_str, srcR1_int, typN, startR, List.map_cons, List.map_nil, List.length_cons, List.length_nil, Nat.reduceAdd, Nat.reduceSub, Nat.zero_add, Nat.sub_self, Nat.sub_zero, List.replicate_zero, List.replicate_succ, List.cons_append, List.nil_append, List.append_nil, List.getElem?_cons_zero, List.getElem?_cons_succ, List.set_cons_zero, List.set_cons_succ, List.set_nil, List.getElem?_nil, Option.some.injEq, exists_eq_left', exists_eq_left, exists_eq_right, reduceCtorEq, false_and, and_false, true_and, and_true, exists_false, exists_const, wipeR, Nat.zero_le, String.reduceEq, D.int.injEq, D.str.injEq, D.bl.injEq, atI_0, atI_1, atI_2, atI_3, atI_4, beq_self_eq_true, not_true_eq_false, not_false_eq_true, Int.cast_ofNat_Int, Int.reduceEq, Int.reduceLE, Int.reduceLT, Int.reduceAdd, Int.reduceSub, Int.reduceMul, Int.reduceNeg, if_true, if_false, ite_true, ite_false, Bool.false_eq_true, if_neg, if_pos, decide_eq_true_eq, Bool.not_eq_true', decide_eq_false_iff_not, eq_self_iff_true, decide_true, decide_false, Bool.not_true, Bool.not_false, wps_raise, wps_try, wps_tryAs, tryCase_t, tryCase_f, tbl_hit, suiteOf_hit, wp_eDct, wp_eDGet, wp_eDNew, wp_eDDef, wps_dput]
  refine ⟨by decide, by decide, ?_⟩
  refine wps_whileM (fun m ρ S' => m ≤ 210 ∧ ∃ (G : Sto) (k : Nat) (fs : List Str) (W : List D) (o3 o4 o5 : Option D), S' = S ++ G ∧ S.length ≤ k ∧ atL S' k = some W ∧ ρ = [some (.tup ws), some (.lst (fs.map .str)), some (.ref k), o3, o4, o5] ∧ (∀ t ∈ W, Wt t) ∧ (W.map tk).sum ≤ m ∧ fs.length + (W.map tk).sum ≤ 205 ∧ (∀ y, fs.count y + (W.flatMap nm).count y = (ws.flatMap (nmW 19)).count y)) ?_ 210 (by omega) ?_
  · rintro m ρ S' ⟨hm210, G, k, fs, W, o3, o4, o5, rfl, hk, hat, rfl, hW, hm, hs, hc⟩
    refine ⟨by omega, ?_⟩
    simp only [gNe_refNil hat fun d hd => (hW d hd).sh, wp_ok, wp_ret, wp_stuck, wp_bad, wp_bnd, wp_if, wp_fif, wps_ok_nx, wps_ok_rt, wps_ok_bk, wps_ok_ct, wps_ok_xc, wps_bad, wps_lft, wps_seq, wps_nil, wps_ret, wps_expr, wps_asg, wps_if, wp_run, wps_for, wps_while, wp_comp, wp_var, wp_C, wp_bin, wp_un, wp_T, wp_Tb, wp_asBl, wp_truthBl, wp_bAnd, wp_bOr, wp_bNot, wp_eIf, wp_eAnd, wp_eOr, wp_eNot, blCase_bl, wp_chain, wp_aNil, wp_aCons, wp_tup, wp_lst, wp_lstM, wp_call, wp_cl1, wp_cl2, wp_cl3, wp_cl4, wp_cl5, wp_meth, wp_isi, wp_oNone, wp_oSome, wp_sl, wp_it, wp_range1, wp_range2, wp_bYes, gEq_str, gNe_str, gEq_int, gNe_int, gEq_bl, gNe_bl, gIs_bl, gIsNot_bl, gAdd_int, gSub_int, gC_int, gI_int, gAdd_str, gAdd_tup, gAdd_lst, gNeg_int, gIx_tup, gIx_lst, gLen_tup, gLen_lst, gLen_str, gInt_int, gInt_bl, gTuple_lst, gTuple_tup, gList_lst, gList_tup, gSl_tup, gSl_lst, gSl_fl, gSl_str, srcL_tup, srcL_lst, srcL_fl, srcL_str, srcR1_int, typN, startR, List.map_cons, List.map_nil, List.length_cons, List.length_nil, Nat.reduceAdd, Nat.reduceSub, Nat.zero_add, Nat.sub_self, Nat.sub_zero, List.replicate_zero, List.replicate_succ, List.cons_append, List.nil_append, List.append_nil, List.getElem?_cons_zero, List.getElem?_cons_succ, List.set_cons_zero, List.set_cons_succ, List.set_nil, List.getElem?_nil, Option.some.injEq, exists_eq_left', exists_eq_left, exists_eq_right, reduceCtorEq, false_and, and_false, true_and, and_true, exists_false, exists_const, wipeR, Nat.zero_le, String.reduceEq, D.int.injEq, D.str.injEq, D.bl.injEq, atI_0, atI_1, atI_2, atI_3, atI_4, beq_self_eq_true, not_true_eq_false, not_false_eq_true, Int.cast_ofNat_Int, Int.reduceEq, Int.reduceLE, Int.reduceLT, Int.reduceAdd, Int.reduceSub, Int.reduceMul, Int.reduceNeg, if_true, if_false, ite_true, ite_false, Bool.false_eq_true, if_neg, if_pos, decide_eq_true_eq, Bool.not_eq_true', decide_eq_false_iff_not, eq_self_iff_true, decide_true, decide_false, Bool.not_true, Bool.not_false, wps_raise, wps_try, wps_tryAs, tryCase_t, tryCase_f, tbl_hit, suiteOf_hit, wp_eDct, wp_eDGet, wp_eDNew, wp_eDDef, wps_dput]
    rcases List.eq_nil_or_concat W with rfl | ⟨W0, d, rfl⟩
    · simp only [wp_ok, wp_ret, wp_stuck, wp_bad, wp_bnd, wp_if, wp_fif, wps_ok_nx, wps_ok_rt, wps_ok_bk, wps_ok_ct, wps_ok_xc, wps_bad, wps_lft, wps_seq, wps_nil, wps_ret, wps_expr, wps_asg, wps_if, wp_run, wps_for, wps_while, wp_comp, wp_var, wp_C, wp_bin, wp_un, wp_T, wp_Tb, wp_asBl, wp_truthBl, wp_bAnd, wp_bOr, wp_bNot, wp_eIf, wp_eAnd, wp_eOr, wp_eNot, blCase_bl, wp_chain, wp_aNil, wp_aCons, wp_tup, wp_lst, wp_lstM, wp_call, wp_cl1, wp_cl2, wp_cl3, wp_cl4, wp_cl5, wp_meth, wp_isi, wp_oNone, wp_oSome, wp_sl, wp_it, wp_range1, wp_range2, wp_bYes, gEq_str, gNe_str, gEq_int, gNe_int, gEq_bl, gNe_bl, gIs_bl, gIsNot_bl, gAdd_int, gSub_int, gC_int, gI_int, gAdd_str, gAdd_tup, gAdd_lst, gNeg_int, gIx_tup, gIx_lst, gLen_tup, gLen_lst, gLen_str, gInt_int, gInt_bl, gTuple_lst, gTuple_tup, gList_lst, gList_tup, gSl_tup, gSl_lst, gSl_fl, gSl_str, srcL_tup, srcL_lst, srcL_fl, srcL_str, srcR1_int, typN, startR, List.map_cons, List.map_nil, List.length_cons, List.length_nil, Nat.reduceAdd, Nat.reduceSub, Nat.zero_add, Nat.sub_self, Nat.sub_zero, List.replicate_zero, List.replicate_succ, List.cons_append, List.nil_append, List.append_nil, List.getElem?_cons_zero, List.getElem?_cons_succ, List.set_cons_zero, List.set_cons_succ, List.set_nil, List.getElem?_nil, Option.some.injEq, exists_eq_left', exists_eq_left, exists_eq_right, reduceCtorEq, false_and, and_false, true_and, and_true, exists_false, exists_const, wipeR, Nat.zero_le, String.reduceEq, D.int.injEq, D.str.injEq, D.bl.injEq, atI_0, atI_1, atI_2, atI_3, atI_4, beq_self_eq_true, not_true_eq_false, not_false_eq_true, Int.cast_ofNat_Int, Int.reduceEq, Int.reduceLE, Int.reduceLT, Int.reduceAdd, Int.reduceSub, Int.reduceMul, Int.reduceNeg, if_true, if_false, ite_true, ite_false, Bool.false_eq_true, if_neg, if_pos, decide_eq_true_eq, Bool.not_eq_true', decide_eq_false_iff_not, eq_self_iff_true, decide_true, decide_false, Bool.not_true, Bool.not_false, wps_raise, wps_try, wps_tryAs, tryCase_t, tryCase_f, tbl_hit, suiteOf_hit, wp_eDct, wp_eDGet, wp_eDNew, wp_eDDef, wps_dput]
      refine wp_fin (by rw [List.take_left]; exact hS) (los_map (fun _ => rfl) fs |> fun h => D.lo_mono (Nat.zero_le _) (.lst (fs.map .str)) h) ?_
      rw [List.take_left]
      exact hF fs fun y => by have := hc y; simpa using this
    · rw [List.concat_eq_append] at hat hW hm hs hc ⊢
      have hne : ¬ (W0 ++ [d] = []) := by simp
      simp only [hne, wps_asgTp, isTy_ref hat, gPop_ref hat, List.dropLast_concat, wp_ok, wp_ret, wp_stuck, wp_bad, wp_bnd, wp_if, wp_fif, wps_ok_nx, wps_ok_rt, wps_ok_bk, wps_ok_ct, wps_ok_xc, wps_bad, wps_lft, wps_seq, wps_nil, wps_ret, wps_expr, wps_asg, wps_if, wp_run, wps_for, wps_while, wp_comp, wp_var, wp_C, wp_bin, wp_un, wp_T, wp_Tb, wp_asBl, wp_truthBl, wp_bAnd, wp_bOr, wp_bNot, wp_eIf, wp_eAnd, wp_eOr, wp_eNot, blCase_bl, wp_chain, wp_aNil, wp_aCons, wp_tup, wp_lst, wp_lstM, wp_call, wp_cl1, wp_cl2, wp_cl3, wp_cl4, wp_cl5, wp_meth, wp_isi, wp_oNone, wp_oSome, wp_sl, wp_it, wp_range1, wp_range2, wp_bYes, gEq_str, gNe_str, gEq_int, gNe_int, gEq_bl, gNe_bl, gIs_bl, gIsNot_bl, gAdd_int, gSub_int, gC_int, gI_int, gAdd_str, gAdd_tup, gAdd_lst, gNeg_int, gIx_tup, gIx_lst, gLen_tup, gLen_lst, gLen_str, gInt_int, gInt_bl, gTuple_lst, gTuple_tup, gList_lst, gList_tup, gSl_tup, gSl_lst, gSl_fl, gSl_str, srcL_tup, srcL_lst, srcL_fl, srcL_str, srcR1_int, typN, startR, List.map_cons, List.map_nil, List.length_cons, List.length_nil, Nat.reduceAdd, Nat.reduceSub, Nat.zero_add, Nat.sub_self, Nat.sub_zero, List.replicate_zero, List.replicate_succ, List.cons_append, List.nil_append, List.append_nil, List.getElem?_cons_zero, List.getElem?_cons_succ, List.set_cons_zero, List.set_cons_succ, List.set_nil, List.getElem?_nil, Option.some.injEq, exists_eq_left', exists_eq_left, exists_eq_right, reduceCtorEq, false_and, and_false, true_and, and_true, exists_false, exists_const, wipeR, Nat.zero_le, String.reduceEq, D.int.injEq, D.str.injEq, D.bl.injEq, atI_0, atI_1, atI_2, atI_3, atI_4, beq_self_eq_true, not_true_eq_false, not_false_eq_true, Int.cast_ofNat_Int, Int.reduceEq, Int.reduceLE, Int.reduceLT, Int.reduceAdd, Int.reduceSub, Int.reduceMul, Int.reduceNeg, if_true, if_false, ite_true, ite_false, Bool.false_eq_true, if_neg, if_pos, decide_eq_true_eq, Bool.not_eq_true', decide_eq_false_iff_not, eq_self_iff_true, decide_true, decide_false, Bool.not_true, Bool.not_false, wps_raise, wps_try, wps_tryAs, tryCase_t, tryCase_f, tbl_hit, suiteOf_hit, wp_eDct, wp_eDGet, wp_eDNew, wp_eDDef, wps_dput]
      have hk2 : k < (S ++ G).length := by
        unfold atL at hat
        split at hat
        · rename_i e; exact (List.getElem?_eq_some_iff.mp e).1
        · cases hat
      have set : (S ++ G).set k (.lst W0) = S ++ G.set (k - S.length) (.lst W0) := List.set_append_right _ _ hk
      have hat2 : atL (S ++ G.set (k - S.length) (.lst W0)) k = some W0 := by
        rw [← set]
        unfold atL
        rw [List.getElem?_set_self hk2]
      refine ⟨d, by simp, ?_⟩
      rw [set]
      have hd := hW d (by simp)
      have hW0 : ∀ t ∈ W0, Wt t := fun t h => hW t (by simp [h])
      have hp := tk_pos hd
      rw [List.map_append, List.sum_append] at hm hs
      simp only [List.map_cons, List.map_nil, List.sum_cons, List.sum_nil, Nat.add_zero] at hm hs
      have hc2 : ∀ y, fs.count y + (W0.flatMap nm).count y + (nm d).count y = (ws.flatMap (nmW 19)).count y := fun y => by
        have := hc y
        rw [List.flatMap_append, List.count_append] at this
        simp only [List.flatMap_cons, List.flatMap_nil, List.append_nil] at this
        omega
      -- one that holds nothing
      have leaf : ∀ i : Int, d = .tup [.str "number", .int i] → nm d = [] := fun i e => by subst e; rfl
      have key : (∃ i : Int, d = .tup [.str "number", .int i]) ∨ (∃ xs, d = .tup [.str "row", .tup xs] ∧ nm d = xs.flatMap (nmW 19) ∧ (∀ y, (xs.flatMap (nmW 19)).count y = (strsIn xs).count y + ((thingsIn xs).flatMap nm).count y) ∧ (∀ t ∈ thingsIn xs, Wt t) ∧ (strsIn xs).length + ((thingsIn xs).map tk).sum + 2 = tk d ∧ xs.length ≤ 7 ∧ ∃ j, ∀ w ∈ xs, WdG 7 (fun _ => True) j w) ∨
          (∃ xs, d = .tup [.str "list", .tup xs] ∧ nm d = xs.flatMap nm ∧ (∀ t ∈ xs, Wt t) ∧ (xs.map tk).sum + 2 = tk d ∧ xs.length ≤ 7) := by
        obtain ⟨j, hj, hd'⟩ := id hd
        cases j with
        | zero => obtain ⟨i, rfl, _⟩ := hd'; exact .inl ⟨i, rfl⟩
        | succ j =>
          rcases hd' with ⟨i, rfl, _⟩ | ⟨xs, rfl, hl, h⟩ | ⟨xs, rfl, hl, h⟩
          · exact .inl ⟨i, rfl⟩
          · obtain ⟨r1, r2, r3⟩ := row_parts (by omega) h
            refine .inr (.inl ⟨xs, rfl, nmT_row, r1, r2, ?_, hl, j, h⟩)
            rw [r3, tk, tokT_row]; simp
          · obtain ⟨r1, r2, r3⟩ := list_parts (by omega) h
            refine .inr (.inr ⟨xs, rfl, by rw [← r1]; exact nmT_list, r2, ?_, hl⟩)
            rw [r3, tk, tokT_list]; simp
      have hat3 : ∀ V : List D, atL ((S ++ G.set (k - S.length) (.lst W0)) ++ [.lst V]) (S ++ G.set (k - S.length) (.lst W0)).length = some V := fun V => at_end
      have hle3 : S.length ≤ (S ++ G.set (k - S.length) (.lst W0)).length := by simp
      rcases key with ⟨i, rfl⟩ | ⟨xs, rfl, n1, n2, n3, n4, n5, j, n6⟩ | ⟨xs, rfl, n1, n2, n3, n4⟩
      · simp only [gTp2, gNs_cons, gN0_nil, ofString_inj, wp_ok, wp_ret, wp_stuck, wp_bad, wp_bnd, wp_if, wp_fif, wps_ok_nx, wps_ok_rt, wps_ok_bk, wps_ok_ct, wps_ok_xc, wps_bad, wps_lft, wps_seq, wps_nil, wps_ret, wps_expr, wps_asg, wps_if, wp_run, wps_for, wps_while, wp_comp, wp_var, wp_C, wp_bin, wp_un, wp_T, wp_Tb, wp_asBl, wp_truthBl, wp_bAnd, wp_bOr, wp_bNot, wp_eIf, wp_eAnd, wp_eOr, wp_eNot, blCase_bl, wp_chain, wp_aNil, wp_aCons, wp_tup, wp_lst, wp_lstM, wp_call, wp_cl1, wp_cl2, wp_cl3, wp_cl4, wp_cl5, wp_meth, wp_isi, wp_oNone, wp_oSome, wp_sl, wp_it, wp_range1, wp_range2, wp_bYes, gEq_str, gNe_str, gEq_int, gNe_int, gEq_bl, gNe_bl, gIs_bl, gIsNot_bl, gAdd_int, gSub_int, gC_int, gI_int, gAdd_str, gAdd_tup, gAdd_lst, gNeg_int, gIx_tup, gIx_lst, gLen_tup, gLen_lst, gLen_str, gInt_int, gInt_bl, gTuple_lst, gTuple_tup, gList_lst, gList_tup, gSl_tup, gSl_lst, gSl_fl, gSl_str, srcL_tup, srcL_lst, srcL_fl, srcL_str, srcR1_int, typN, startR, List.map_cons, List.map_nil, List.length_cons, List.length_nil, Nat.reduceAdd, Nat.reduceSub, Nat.zero_add, Nat.sub_self, Nat.sub_zero, List.replicate_zero, List.replicate_succ, List.cons_append, List.nil_append, List.append_nil, List.getElem?_cons_zero, List.getElem?_cons_succ, List.set_cons_zero, List.set_cons_succ, List.set_nil, List.getElem?_nil, Option.some.injEq, exists_eq_left', exists_eq_left, exists_eq_right, reduceCtorEq, false_and, and_false, true_and, and_true, exists_false, exists_const, wipeR, Nat.zero_le, String.reduceEq, D.int.injEq, D.str.injEq, D.bl.injEq, atI_0, atI_1, atI_2, atI_3, atI_4, beq_self_eq_true, not_true_eq_false, not_false_eq_true, Int.cast_ofNat_Int, Int.reduceEq, Int.reduceLE, Int.reduceLT, Int.reduceAdd, Int.reduceSub, Int.reduceMul, Int.reduceNeg, if_true, if_false, ite_true, ite_false, Bool.false_eq_true, if_neg, if_pos, decide_eq_true_eq, Bool.not_eq_true', decide_eq_false_iff_not, eq_self_iff_true, decide_true, decide_false, Bool.not_true, Bool.not_false, wps_raise, wps_try, wps_tryAs, tryCase_t, tryCase_f, tbl_hit, suiteOf_hit, wp_eDct, wp_eDGet, wp_eDNew, wp_eDDef, wps_dput]
        refine ⟨m - 1, by omega, by omega, _, k, fs, W0, _, _, _, rfl, hk, hat2, rfl, hW0, by omega, by omega, fun y => ?_⟩
        have := hc2 y
        rw [leaf i rfl] at this
        simpa using this
      · simp only [gTp2, gNs_cons, gN0_nil, ofString_inj, wp_ok, wp_ret, wp_stuck, wp_bad, wp_bnd, wp_if, wp_fif, wps_ok_nx, wps_ok_rt, wps_ok_bk, wps_ok_ct, wps_ok_xc, wps_bad, wps_lft, wps_seq, wps_nil, wps_ret, wps_expr, wps_asg, wps_if, wp_run, wps_for, wps_while, wp_comp, wp_var, wp_C, wp_bin, wp_un, wp_T, wp_Tb, wp_asBl, wp_truthBl, wp_bAnd, wp_bOr, wp_bNot, wp_eIf, wp_eAnd, wp_eOr, wp_eNot, blCase_bl, wp_chain, wp_aNil, wp_aCons, wp_tup, wp_lst, wp_lstM, wp_call, wp_cl1, wp_cl2, wp_cl3, wp_cl4, wp_cl5, wp_meth, wp_isi, wp_oNone, wp_oSome, wp_sl, wp_it, wp_range1, wp_range2, wp_bYes, gEq_str, gNe_str, gEq_int, gNe_int, gEq_bl, gNe_bl, gIs_bl, gIsNot_bl, gAdd_int, gSub_int, gC_int, gI_int, gAdd_str, gAdd_tup, gAdd_lst, gNeg_int, gIx_tup, gIx_lst, gLen_tup, gLen_lst, gLen_str, gInt_int, gInt_bl, gTuple_lst, gTuple_tup, gList_lst, gList_tup, gSl_tup, gSl_lst, gSl_fl, gSl_str, srcL_tup, srcL_lst, srcL_fl, srcL_str, srcR1_int, typN, startR, List.map_cons, List.map_nil, List.length_cons, List.length_nil, Nat.reduceAdd, Nat.reduceSub, Nat.zero_add, Nat.sub_self, Nat.sub_zero, List.replicate_zero, List.replicate_succ, List.cons_append, List.nil_append, List.append_nil, List.getElem?_cons_zero, List.getElem?_cons_succ, List.set_cons_zero, List.set_cons_succ, List.set_nil, List.getElem?_nil, Option.some.injEq, exists_eq_left', exists_eq_left, exists_eq_right, reduceCtorEq, false_and, and_false, true_and, and_true, exists_false, exists_const, wipeR, Nat.zero_le, String.reduceEq, D.int.injEq, D.str.injEq, D.bl.injEq, atI_0, atI_1, atI_2, atI_3, atI_4, beq_self_eq_true, not_true_eq_false, not_false_eq_true, Int.cast_ofNat_Int, Int.reduceEq, Int.reduceLE, Int.reduceLT, Int.reduceAdd, Int.reduceSub, Int.reduceMul, Int.reduceNeg, if_true, if_false, ite_true, ite_false, Bool.false_eq_true, if_neg, if_pos, decide_eq_true_eq, Bool.not_eq_true', decide_eq_false_iff_not, eq_self_iff_true, decide_true, decide_false, Bool.not_true, Bool.not_false, wps_raise, wps_try, wps_tryAs, tryCase_t, tryCase_f, tbl_hit, suiteOf_hit, wp_eDct, wp_eDGet, wp_eDNew, wp_eDDef, wps_dput]
        have hlen := tk_sum hW0
        refine ⟨small_line (by omega), comp_pick pick1 (fun d hd => ?_) ?_⟩
        · rcases n6 d hd with ⟨z, rfl, _⟩ | ⟨t, rfl, q⟩
          · refine ⟨true, fun {F E} => by simp only [isiN_ss, wp_ok, wp_ret, wp_stuck, wp_bad, wp_bnd, wp_if, wp_fif, wps_ok_nx, wps_ok_rt, wps_ok_bk, wps_ok_ct, wps_ok_xc, wps_bad, wps_lft, wps_seq, wps_nil, wps_ret, wps_expr, wps_asg, wps_if, wp_run, wps_for, wps_while, wp_comp, wp_var, wp_C, wp_bin, wp_un, wp_T, wp_Tb, wp_asBl, wp_truthBl, wp_bAnd, wp_bOr, wp_bNot, wp_eIf, wp_eAnd, wp_eOr, wp_eNot, blCase_bl, wp_chain, wp_aNil, wp_aCons, wp_tup, wp_lst, wp_lstM, wp_call, wp_cl1, wp_cl2, wp_cl3, wp_cl4, wp_cl5, wp_meth, wp_isi, wp_oNone, wp_oSome, wp_sl, wp_it, wp_range1, wp_range2, wp_bYes, gEq_str, gNe_str, gEq_int, gNe_int, gEq_bl, gNe_bl, gIs_bl, gIsNot_bl, gAdd_int, gSub_int, gC_int, gI_int, gAdd_str, gAdd_tup, gAdd_lst, gNeg_int, gIx_tup, gIx_lst, gLen_tup, gLen_lst, gLen_str, gInt_int, gInt_bl, gTuple_lst, gTuple_tup, gList_lst, gList_tup, gSl_tup, gSl_lst, gSl_fl, gSl_str, srcL_tup, srcL_lst, srcL_fl, srcL_str, srcR1_int, typN, startR, List.map_cons, List.map_nil, List.length_cons, List.length_nil, Nat.reduceAdd, Nat.reduceSub, Nat.zero_add, Nat.sub_self, Nat.sub_zero, List.replicate_zero, List.replicate_succ, List.cons_append, List.nil_append, List.append_nil, List.getElem?_cons_zero, List.getElem?_cons_succ, List.set_cons_zero, List.set_cons_succ, List.set_nil, List.getElem?_nil, Option.some.injEq, exists_eq_left', exists_eq_left, exists_eq_right, reduceCtorEq, false_and, and_false, true_and, and_true, exists_false, exists_const, wipeR, Nat.zero_le, String.reduceEq, D.int.injEq, D.str.injEq, D.bl.injEq, atI_0, atI_1, atI_2, atI_3, atI_4, beq_self_eq_true, not_true_eq_false, not_false_eq_true, Int.cast_ofNat_Int, Int.reduceEq, Int.reduceLE, Int.reduceLT, Int.reduceAdd, Int.reduceSub, Int.reduceMul, Int.reduceNeg, if_true, if_false, ite_true, ite_false, Bool.false_eq_true, if_neg, if_pos, decide_eq_true_eq, Bool.not_eq_true', decide_eq_false_iff_not, eq_self_iff_true, decide_true, decide_false, Bool.not_true, Bool.not_false, wps_raise, wps_try, wps_tryAs, tryCase_t, tryCase_f, tbl_hit, suiteOf_hit, wp_eDct, wp_eDGet, wp_eDNew, wp_eDDef, wps_dput], ?_⟩
            rw [if_pos rfl]
            exact ⟨.str z, rfl, fun {F E} => by simp only [wp_ok, wp_ret, wp_stuck, wp_bad, wp_bnd, wp_if, wp_fif, wps_ok_nx, wps_ok_rt, wps_ok_bk, wps_ok_ct, wps_ok_xc, wps_bad, wps_lft, wps_seq, wps_nil, wps_ret, wps_expr, wps_asg, wps_if, wp_run, wps_for, wps_while, wp_comp, wp_var, wp_C, wp_bin, wp_un, wp_T, wp_Tb, wp_asBl, wp_truthBl, wp_bAnd, wp_bOr, wp_bNot, wp_eIf, wp_eAnd, wp_eOr, wp_eNot, blCase_bl, wp_chain, wp_aNil, wp_aCons, wp_tup, wp_lst, wp_lstM, wp_call, wp_cl1, wp_cl2, wp_cl3, wp_cl4, wp_cl5, wp_meth, wp_isi, wp_oNone, wp_oSome, wp_sl, wp_it, wp_range1, wp_range2, wp_bYes, gEq_str, gNe_str, gEq_int, gNe_int, gEq_bl, gNe_bl, gIs_bl, gIsNot_bl, gAdd_int, gSub_int, gC_int, gI_int, gAdd_str, gAdd_tup, gAdd_lst, gNeg_int, gIx_tup, gIx_lst, gLen_tup, gLen_lst, gLen_str, gInt_int, gInt_bl, gTuple_lst, gTuple_tup, gList_lst, gList_tup, gSl_tup, gSl_lst, gSl_fl, gSl_str, srcL_tup, srcL_lst, srcL_fl, srcL_str, srcR1_int, typN, startR, List.map_cons, List.map_nil, List.length_cons, List.length_nil, Nat.reduceAdd, Nat.reduceSub, Nat.zero_add, Nat.sub_self, Nat.sub_zero, List.replicate_zero, List.replicate_succ, List.cons_append, List.nil_append, List.append_nil, List.getElem?_cons_zero, List.getElem?_cons_succ, List.set_cons_zero, List.set_cons_succ, List.set_nil, List.getElem?_nil, Option.some.injEq, exists_eq_left', exists_eq_left, exists_eq_right, reduceCtorEq, false_and, and_false, true_and, and_true, exists_false, exists_const, wipeR, Nat.zero_le, String.reduceEq, D.int.injEq, D.str.injEq, D.bl.injEq, atI_0, atI_1, atI_2, atI_3, atI_4, beq_self_eq_true, not_true_eq_false, not_false_eq_true, Int.cast_ofNat_Int, Int.reduceEq, Int.reduceLE, Int.reduceLT, Int.reduceAdd, Int.reduceSub, Int.reduceMul, Int.reduceNeg, if_true, if_false, ite_true, ite_false, Bool.false_eq_true, if_neg, if_pos, decide_eq_true_eq, Bool.not_eq_true', decide_eq_false_iff_not, eq_self_iff_true, decide_true, decide_false, Bool.not_true, Bool.not_false, wps_raise, wps_try, wps_tryAs, tryCase_t, tryCase_f, tbl_hit, suiteOf_hit, wp_eDct, wp_eDGet, wp_eDNew, wp_eDDef, wps_dput]⟩
          · refine ⟨false, fun {F E} => by simp only [isiN_ts, wp_ok, wp_ret, wp_stuck, wp_bad, wp_bnd, wp_if, wp_fif, wps_ok_nx, wps_ok_rt, wps_ok_bk, wps_ok_ct, wps_ok_xc, wps_bad, wps_lft, wps_seq, wps_nil, wps_ret, wps_expr, wps_asg, wps_if, wp_run, wps_for, wps_while, wp_comp, wp_var, wp_C, wp_bin, wp_un, wp_T, wp_Tb, wp_asBl, wp_truthBl, wp_bAnd, wp_bOr, wp_bNot, wp_eIf, wp_eAnd, wp_eOr, wp_eNot, blCase_bl, wp_chain, wp_aNil, wp_aCons, wp_tup, wp_lst, wp_lstM, wp_call, wp_cl1, wp_cl2, wp_cl3, wp_cl4, wp_cl5, wp_meth, wp_isi, wp_oNone, wp_oSome, wp_sl, wp_it, wp_range1, wp_range2, wp_bYes, gEq_str, gNe_str, gEq_int, gNe_int, gEq_bl, gNe_bl, gIs_bl, gIsNot_bl, gAdd_int, gSub_int, gC_int, gI_int, gAdd_str, gAdd_tup, gAdd_lst, gNeg_int, gIx_tup, gIx_lst, gLen_tup, gLen_lst, gLen_str, gInt_int, gInt_bl, gTuple_lst, gTuple_tup, gList_lst, gList_tup, gSl_tup, gSl_lst, gSl_fl, gSl_str, srcL_tup, srcL_lst, srcL_fl, srcL_str, srcR1_int, typN, startR, List.map_cons, List.map_nil, List.length_cons, List.length_nil, Nat.reduceAdd, Nat.reduceSub, Nat.zero_add, Nat.sub_self, Nat.sub_zero, List.replicate_zero, List.replicate_succ, List.cons_append, List.nil_append, List.append_nil, List.getElem?_cons_zero, List.getElem?_cons_succ, List.set_cons_zero, List.set_cons_succ, List.set_nil, List.getElem?_nil, Option.some.injEq, exists_eq_left', exists_eq_left, exists_eq_right, reduceCtorEq, false_and, and_false, true_and, and_true, exists_false, exists_const, wipeR, Nat.zero_le, String.reduceEq, D.int.injEq, D.str.injEq, D.bl.injEq, atI_0, atI_1, atI_2, atI_3, atI_4, beq_self_eq_true, not_true_eq_false, not_false_eq_true, Int.cast_ofNat_Int, Int.reduceEq, Int.reduceLE, Int.reduceLT, Int.reduceAdd, Int.reduceSub, Int.reduceMul, Int.reduceNeg, if_true, if_false, ite_true, ite_false, Bool.false_eq_true, if_neg, if_pos, decide_eq_true_eq, Bool.not_eq_true', decide_eq_false_iff_not, eq_self_iff_true, decide_true, decide_false, Bool.not_true, Bool.not_false, wps_raise, wps_try, wps_tryAs, tryCase_t, tryCase_f, tbl_hit, suiteOf_hit, wp_eDct, wp_eDGet, wp_eDNew, wp_eDDef, wps_dput], ?_⟩
            rw [if_neg Bool.false_ne_true]; rfl
        rw [pick1_eq]
        refine ⟨small_line (by simp only [List.length_map]; omega), small_line (by omega), comp_pick pick2 (fun d hd => ?_) ?_⟩
        · rcases n6 d hd with ⟨z, rfl, _⟩ | ⟨t, rfl, q⟩
          · refine ⟨false, fun {F E} => by simp only [isiN_st, wp_ok, wp_ret, wp_stuck, wp_bad, wp_bnd, wp_if, wp_fif, wps_ok_nx, wps_ok_rt, wps_ok_bk, wps_ok_ct, wps_ok_xc, wps_bad, wps_lft, wps_seq, wps_nil, wps_ret, wps_expr, wps_asg, wps_if, wp_run, wps_for, wps_while, wp_comp, wp_var, wp_C, wp_bin, wp_un, wp_T, wp_Tb, wp_asBl, wp_truthBl, wp_bAnd, wp_bOr, wp_bNot, wp_eIf, wp_eAnd, wp_eOr, wp_eNot, blCase_bl, wp_chain, wp_aNil, wp_aCons, wp_tup, wp_lst, wp_lstM, wp_call, wp_cl1, wp_cl2, wp_cl3, wp_cl4, wp_cl5, wp_meth, wp_isi, wp_oNone, wp_oSome, wp_sl, wp_it, wp_range1, wp_range2, wp_bYes, gEq_str, gNe_str, gEq_int, gNe_int, gEq_bl, gNe_bl, gIs_bl, gIsNot_bl, gAdd_int, gSub_int, gC_int, gI_int, gAdd_str, gAdd_tup, gAdd_lst, gNeg_int, gIx_tup, gIx_lst, gLen_tup, gLen_lst, gLen_str, gInt_int, gInt_bl, gTuple_lst, gTuple_tup, gList_lst, gList_tup, gSl_tup, gSl_lst, gSl_fl, gSl_str, srcL_tup, srcL_lst, srcL_fl, srcL_str, srcR1_int, typN, startR, List.map_cons, List.map_nil, List.length_cons, List.length_nil, Nat.reduceAdd, Nat.reduceSub, Nat.zero_add, Nat.sub_self, Nat.sub_zero, List.replicate_zero, List.replicate_succ, List.cons_append, List.nil_append, List.append_nil, List.getElem?_cons_zero, List.getElem?_cons_succ, List.set_cons_zero, List.set_cons_succ, List.set_nil, List.getElem?_nil, Option.some.injEq, exists_eq_left', exists_eq_left, exists_eq_right, reduceCtorEq, false_and, and_false, true_and, and_true, exists_false, exists_const, wipeR, Nat.zero_le, String.reduceEq, D.int.injEq, D.str.injEq, D.bl.injEq, atI_0, atI_1, atI_2, atI_3, atI_4, beq_self_eq_true, not_true_eq_false, not_false_eq_true, Int.cast_ofNat_Int, Int.reduceEq, Int.reduceLE, Int.reduceLT, Int.reduceAdd, Int.reduceSub, Int.reduceMul, Int.reduceNeg, if_true, if_false, ite_true, ite_false, Bool.false_eq_true, if_neg, if_pos, decide_eq_true_eq, Bool.not_eq_true', decide_eq_false_iff_not, eq_self_iff_true, decide_true, decide_false, Bool.not_true, Bool.not_false, wps_raise, wps_try, wps_tryAs, tryCase_t, tryCase_f, tbl_hit, suiteOf_hit, wp_eDct, wp_eDGet, wp_eDNew, wp_eDDef, wps_dput], ?_⟩
            rw [if_neg Bool.false_ne_true]; rfl
          · refine ⟨true, fun {F E} => by simp only [isiN_tt, wp_ok, wp_ret, wp_stuck, wp_bad, wp_bnd, wp_if, wp_fif, wps_ok_nx, wps_ok_rt, wps_ok_bk, wps_ok_ct, wps_ok_xc, wps_bad, wps_lft, wps_seq, wps_nil, wps_ret, wps_expr, wps_asg, wps_if, wp_run, wps_for, wps_while, wp_comp, wp_var, wp_C, wp_bin, wp_un, wp_T, wp_Tb, wp_asBl, wp_truthBl, wp_bAnd, wp_bOr, wp_bNot, wp_eIf, wp_eAnd, wp_eOr, wp_eNot, blCase_bl, wp_chain, wp_aNil, wp_aCons, wp_tup, wp_lst, wp_lstM, wp_call, wp_cl1, wp_cl2, wp_cl3, wp_cl4, wp_cl5, wp_meth, wp_isi, wp_oNone, wp_oSome, wp_sl, wp_it, wp_range1, wp_range2, wp_bYes, gEq_str, gNe_str, gEq_int, gNe_int, gEq_bl, gNe_bl, gIs_bl, gIsNot_bl, gAdd_int, gSub_int, gC_int, gI_int, gAdd_str, gAdd_tup, gAdd_lst, gNeg_int, gIx_tup, gIx_lst, gLen_tup, gLen_lst, gLen_str, gInt_int, gInt_bl, gTuple_lst, gTuple_tup, gList_lst, gList_tup, gSl_tup, gSl_lst, gSl_fl, gSl_str, srcL_tup, srcL_lst, srcL_fl, srcL_str, srcR1_int, typN, startR, List.map_cons, List.map_nil, List.length_cons, List.length_nil, Nat.reduceAdd, Nat.reduceSub, Nat.zero_add, Nat.sub_self, Nat.sub_zero, List.replicate_zero, List.replicate_succ, List.cons_append, List.nil_append, List.append_nil, List.getElem?_cons_zero, List.getElem?_cons_succ, List.set_cons_zero, List.set_cons_succ, List.set_nil, List.getElem?_nil, Option.some.injEq, exists_eq_left', exists_eq_left, exists_eq_right, reduceCtorEq, false_and, and_false, true_and, and_true, exists_false, exists_const, wipeR, Nat.zero_le, String.reduceEq, D.int.injEq, D.str.injEq, D.bl.injEq, atI_0, atI_1, atI_2, atI_3, atI_4, beq_self_eq_true, not_true_eq_false, not_false_eq_true, Int.cast_ofNat_Int, Int.reduceEq, Int.reduceLE, Int.reduceLT, Int.reduceAdd, Int.reduceSub, Int.reduceMul, Int.reduceNeg, if_true, if_false, ite_true, ite_false, Bool.false_eq_true, if_neg, if_pos, decide_eq_true_eq, Bool.not_eq_true', decide_eq_false_iff_not, eq_self_iff_true, decide_true, decide_false, Bool.not_true, Bool.not_false, wps_raise, wps_try, wps_tryAs, tryCase_t, tryCase_f, tbl_hit, suiteOf_hit, wp_eDct, wp_eDGet, wp_eDNew, wp_eDDef, wps_dput], ?_⟩
            rw [if_pos rfl]
            exact ⟨t, rfl, fun {F E} => by simp only [wp_ok, wp_ret, wp_stuck, wp_bad, wp_bnd, wp_if, wp_fif, wps_ok_nx, wps_ok_rt, wps_ok_bk, wps_ok_ct, wps_ok_xc, wps_bad, wps_lft, wps_seq, wps_nil, wps_ret, wps_expr, wps_asg, wps_if, wp_run, wps_for, wps_while, wp_comp, wp_var, wp_C, wp_bin, wp_un, wp_T, wp_Tb, wp_asBl, wp_truthBl, wp_bAnd, wp_bOr, wp_bNot, wp_eIf, wp_eAnd, wp_eOr, wp_eNot, blCase_bl, wp_chain, wp_aNil, wp_aCons, wp_tup, wp_lst, wp_lstM, wp_call, wp_cl1, wp_cl2, wp_cl3, wp_cl4, wp_cl5, wp_meth, wp_isi, wp_oNone, wp_oSome, wp_sl, wp_it, wp_range1, wp_range2, wp_bYes, gEq_str, gNe_str, gEq_int, gNe_int, gEq_bl, gNe_bl, gIs_bl, gIsNot_bl, gAdd_int, gSub_int, gC_int, gI_int, gAdd_str, gAdd_tup, gAdd_lst, gNeg_int, gIx_tup, gIx_lst, gLen_tup, gLen_lst, gLen_str, gInt_int, gInt_bl, gTuple_lst, gTuple_tup, gList_lst, gList_tup, gSl_tup, gSl_lst, gSl_fl, gSl_str, srcL_tup, srcL_lst, srcL_fl, srcL_str, srcR1_int, typN, startR, List.map_cons, List.map_nil, List.length_cons, List.length_nil, Nat.reduceAdd, Nat.reduceSub, Nat.zero_add, Nat.sub_self, Nat.sub_zero, List.replicate_zero, List.replicate_succ, List.cons_append, List.nil_append, List.append_nil, List.getElem?_cons_zero, List.getElem?_cons_succ, List.set_cons_zero, List.set_cons_succ, List.set_nil, List.getElem?_nil, Option.some.injEq, exists_eq_left', exists_eq_left, exists_eq_right, reduceCtorEq, false_and, and_false, true_and, and_true, exists_false, exists_const, wipeR, Nat.zero_le, String.reduceEq, D.int.injEq, D.str.injEq, D.bl.injEq, atI_0, atI_1, atI_2, atI_3, atI_4, beq_self_eq_true, not_true_eq_false, not_false_eq_true, Int.cast_ofNat_Int, Int.reduceEq, Int.reduceLE, Int.reduceLT, Int.reduceAdd, Int.reduceSub, Int.reduceMul, Int.reduceNeg, if_true, if_false, ite_true, ite_false, Bool.false_eq_true, if_neg, if_pos, decide_eq_true_eq, Bool.not_eq_true', decide_eq_false_iff_not, eq_self_iff_true, decide_true, decide_false, Bool.not_true, Bool.not_false, wps_raise, wps_try, wps_tryAs, tryCase_t, tryCase_f, tbl_hit, suiteOf_hit, wp_eDct, wp_eDGet, wp_eDNew, wp_eDDef, wps_dput]⟩
        have hlen2 := tk_sum n3
        rw [show xs.filterMap pick2 = thingsIn xs from rfl, gAddM_seq (show iTrk _ (.ref k) = some W0 from hat2) (show iTrk _ (.lst (thingsIn xs)) = some (thingsIn xs) from rfl)]
        refine ⟨small_line (by omega), m - 1, by omega, by omega, G.set (k - S.length) (.lst W0) ++ [.lst (W0 ++ thingsIn xs)], _, fs ++ strsIn xs, W0 ++ thingsIn xs, _, _, _, by rw [List.append_assoc], hle3, hat3 _, by rw [List.map_append], fun t ht => ?_, ?_, ?_, fun y => ?_⟩
        · rcases List.mem_append.mp ht with h | h
          · exact hW0 t h
          · exact n3 t h
        · rw [List.map_append, List.sum_append]; omega
        · rw [List.map_append, List.sum_append, List.length_append]; omega
        · have := hc2 y
          have := n2 y
          rw [n1] at *
          rw [List.flatMap_append, List.count_append, List.count_append]
          omega
      · simp only [gTp2, gNs_cons, gN0_nil, ofString_inj, wp_ok, wp_ret, wp_stuck, wp_bad, wp_bnd, wp_if, wp_fif, wps_ok_nx, wps_ok_rt, wps_ok_bk, wps_ok_ct, wps_ok_xc, wps_bad, wps_lft, wps_seq, wps_nil, wps_ret, wps_expr, wps_asg, wps_if, wp_run, wps_for, wps_while, wp_comp, wp_var, wp_C, wp_bin, wp_un, wp_T, wp_Tb, wp_asBl, wp_truthBl, wp_bAnd, wp_bOr, wp_bNot, wp_eIf, wp_eAnd, wp_eOr, wp_eNot, blCase_bl, wp_chain, wp_aNil, wp_aCons, wp_tup, wp_lst, wp_lstM, wp_call, wp_cl1, wp_cl2, wp_cl3, wp_cl4, wp_cl5, wp_meth, wp_isi, wp_oNone, wp_oSome, wp_sl, wp_it, wp_range1, wp_range2, wp_bYes, gEq_str, gNe_str, gEq_int, gNe_int, gEq_bl, gNe_bl, gIs_bl, gIsNot_bl, gAdd_int, gSub_int, gC_int, gI_int, gAdd_str, gAdd_tup, gAdd_lst, gNeg_int, gIx_tup, gIx_lst, gLen_tup, gLen_lst, gLen_str, gInt_int, gInt_bl, gTuple_lst, gTuple_tup, gList_lst, gList_tup, gSl_tup, gSl_lst, gSl_fl, gSl_str, srcL_tup, srcL_lst, srcL_fl, srcL_str, srcR1_int, typN, startR, List.map_cons, List.map_nil, List.length_cons, List.length_nil, Nat.reduceAdd, Nat.reduceSub, Nat.zero_add, Nat.sub_self, Nat.sub_zero, List.replicate_zero, List.replicate_succ, List.cons_append, List.nil_append, List.append_nil, List.getElem?_cons_zero, List.getElem?_cons_succ, List.set_cons_zero, List.set_cons_succ, List.set_nil, List.getElem?_nil, Option.some.injEq, exists_eq_left', exists_eq_left, exists_eq_right, reduceCtorEq, false_and, and_false, true_and, and_true, exists_false, exists_const, wipeR, Nat.zero_le, String.reduceEq, D.int.injEq, D.str.injEq, D.bl.injEq, atI_0, atI_1, atI_2, atI_3, atI_4, beq_self_eq_true, not_true_eq_false, not_false_eq_true, Int.cast_ofNat_Int, Int.reduceEq, Int.reduceLE, Int.reduceLT, Int.reduceAdd, Int.reduceSub, Int.reduceMul, Int.reduceNeg, if_true, if_false, ite_true, ite_false, Bool.false_eq_true, if_neg, if_pos, decide_eq_true_eq, Bool.not_eq_true', decide_eq_false_iff_not, eq_self_iff_true, decide_true, decide_false, Bool.not_true, Bool.not_false, wps_raise, wps_try, wps_tryAs, tryCase_t, tryCase_f, tbl_hit, suiteOf_hit, wp_eDct, wp_eDGet, wp_eDNew, wp_eDDef, wps_dput]
        rw [gAddM_seq (show iTrk _ (.ref k) = some W0 from hat2) (show iTrk _ (.lst xs) = some xs from rfl)]
        have := tk_sum hW0
        have := tk_sum n2
        refine ⟨small_line (by omega), m - 1, by omega, by omega, G.set (k - S.length) (.lst W0) ++ [.lst (W0 ++ xs)], _, fs, W0 ++ xs, _, _, _, by rw [List.append_assoc], hle3, hat3 _, rfl, fun t ht => ?_, ?_, ?_, fun y => ?_⟩
        · rcases List.mem_append.mp ht with h | h
          · exact hW0 t h
          · exact n2 t h
        · rw [List.map_append, List.sum_append]; omega
        · rw [List.map_append, List.sum_append]; omega
        · have := hc2 y
          rw [n1] at this
          rw [List.flatMap_append, List.count_append]
          omega
  · have hrow : Wt (.tup [.str "row", .tup ws]) := ⟨5, by decide, .inr (.inl ⟨ws, rfl, hl, hw⟩)⟩
    have htk : tk (.tup [.str "row", .tup ws]) = (ws.flatMap (tokW 19)).length + 2 := by rw [tk, tokT_row]; simp
    refine ⟨by omega, [.lst [.tup [.str "row", .tup ws]]], S.length, [], _, none, none, none, rfl, Nat.le_refl _, at_end, rfl, fun t h => ?_, ?_, ?_, fun y => ?_⟩
    · rw [List.mem_singleton.mp h]; exact hrow
    · simp only [List.map_cons, List.map_nil, List.sum_cons, List.sum_nil]; omega
    · simp only [List.map_cons, List.map_nil, List.sum_cons, List.sum_nil, List.length_nil]; omega
    · simp only [List.flatMap_cons, List.flatMap_nil, List.append_nil, List.count_nil, Nat.zero_add]
      show (nmT 20 _).count y = _
      rw [nmT_row]
end K68

namespace K68
open PySem L2 DL
/-! what comes to what -/
def rb (Ed : Str → List Str) (y : Str) : Nat → Str → Bool
  | 0, _ => false
  | t + 1, x => (Ed x).any fun w => decide (w = y) || rb Ed y t w
section
variable {Ed : Str → List Str} {ns : List Str} {x y z w : Str}
theorem rb_succ {t : Nat} : rb Ed y (t + 1) x = true ↔ ∃ w ∈ Ed x, w = y ∨ rb Ed y t w = true := by
  show ((Ed x).any fun w => decide (w = y) || rb Ed y t w) = true ↔ _
  rw [List.any_eq_true]
  constructor
  · rintro ⟨w, hw, h⟩
    rw [Bool.or_eq_true, decide_eq_true_eq] at h
    exact ⟨w, hw, h⟩
  · rintro ⟨w, hw, h⟩
    exact ⟨w, hw, by rw [Bool.or_eq_true, decide_eq_true_eq]; exact h⟩
theorem rb_mono : ∀ {t : Nat} {x : Str}, rb Ed y t x = true → rb Ed y (t + 1) x = true
  | 0, _, h => by cases h
  | t + 1, x, h => by
    rw [rb_succ] at h ⊢
    obtain ⟨w, hw, h⟩ := h
    exact ⟨w, hw, h.imp id rb_mono⟩
theorem rb_le {t s : Nat} (h : t ≤ s) {x : Str} (q : rb Ed y t x = true) : rb Ed y s x = true := by
  obtain ⟨k, rfl⟩ := Nat.exists_eq_add_of_le h
  induction k with
  | zero => exact q
  | succ k ih => exact rb_mono (ih (by omega))
theorem rb_trans {s : Nat} (h : rb Ed y s w = true) : ∀ {t : Nat} {x : Str}, rb Ed w t x = true → rb Ed y (t + s) x = true
  | 0, _, q => by cases q
  | t + 1, x, q => by
    rw [rb_succ] at q
    obtain ⟨v, hv, q⟩ := q
    rw [show t + 1 + s = (t + s) + 1 by omega, rb_succ]
    refine ⟨v, hv, .inr ?_⟩
    rcases q with rfl | q
    · exact rb_le (by omega) h
    · exact rb_trans h q
theorem filter_same {p q : Str → Bool} : ∀ {l : List Str}, (∀ x ∈ l, p x = true → q x = true) → (l.filter q).length ≤ (l.filter p).length → ∀ x ∈ l, q x = true → p x = true
  | [], _, _, x, hx, _ => (List.not_mem_nil hx).elim
  | a :: l, h, hl, x, hx, hq => by
    have mono : ∀ l : List Str, (∀ x ∈ l, p x = true → q x = true) → (l.filter p).length ≤ (l.filter q).length := by
      intro l
      induction l with
      | nil => intro _; exact Nat.le_refl _
      | cons b l ih =>
        intro h
        have i := ih fun x hx => h x (List.mem_cons_of_mem _ hx)
        by_cases hp : p b = true
        · rw [List.filter_cons_of_pos hp, List.filter_cons_of_pos (h b List.mem_cons_self hp)]
          simpa using i
        · rw [List.filter_cons_of_neg hp]
          by_cases hqb : q b = true
          · rw [List.filter_cons_of_pos hqb, List.length_cons]; omega
          · rw [List.filter_cons_of_neg hqb]; exact i
    have h' : ∀ x ∈ l, p x = true → q x = true := fun x hx => h x (List.mem_cons_of_mem _ hx)
    have m := mono l h'
    by_cases hp : p a = true
    · rw [List.filter_cons_of_pos hp, List.filter_cons_of_pos (h a List.mem_cons_self hp), List.length_cons, List.length_cons] at hl
      rcases List.mem_cons.mp hx with rfl | hx
      · exact hp
      · exact filter_same h' (by omega) x hx hq
    · rw [List.filter_cons_of_neg hp] at hl
      by_cases hqa : q a = true
      · rw [List.filter_cons_of_pos hqa, List.length_cons] at hl
        omega
      · rw [List.filter_cons_of_neg hqa] at hl
        rcases List.mem_cons.mp hx with rfl | hx
        · exact absurd hq hqa
        · exact filter_same h' hl x hx hq
theorem rb_stab (hE : ∀ z, z ∉ ns → Ed z = []) {k : Nat} {x : Str} (h : rb Ed y (ns.length + 1 + k) x = true) : rb Ed y (ns.length + 1) x = true := by
  have key : ∀ t, t ≤ (ns.filter (rb Ed y t)).length ∨ ∀ k x, rb Ed y (t + k) x = rb Ed y t x := by
    intro t
    induction t with
    | zero => exact .inl (Nat.zero_le _)
    | succ t ih =>
      rcases ih with ih | ih
      · by_cases hc : (ns.filter (rb Ed y (t + 1))).length ≤ (ns.filter (rb Ed y t)).length
        · right
          have s1 : ∀ x, rb Ed y (t + 1) x = rb Ed y t x := fun x => by
            by_cases hx : x ∈ ns
            · rw [Bool.eq_iff_iff]
              exact ⟨filter_same (fun x _ => rb_mono) hc x hx, rb_mono⟩
            · have e0 : Ed x = [] := hE x hx
              have z : ∀ t, rb Ed y t x = false := fun t => by
                cases t with
                | zero => rfl
                | succ t => show (Ed x).any _ = false; rw [e0]; rfl
              rw [z, z]
          have s2 : ∀ k x, rb Ed y (t + k) x = rb Ed y t x := fun k => by
            induction k with
            | zero => intro x; rfl
            | succ k ihk =>
              intro x
              have f : rb Ed y (t + k) = rb Ed y t := funext ihk
              show ((Ed x).any fun w => decide (w = y) || rb Ed y (t + k) w) = _
              rw [f]
              exact s1 x
          intro k x
          rw [show t + 1 + k = t + (1 + k) by omega, s2, s2]
        · exact .inl (by omega)
      · right
        intro k x
        rw [show t + 1 + k = t + (1 + k) by omega, ih, ih]
  rcases key (ns.length + 1) with q | q
  · have := List.length_filter_le (rb Ed y (ns.length + 1)) ns
    omega
  · rwa [q] at h
/-- a closed lot without the name: the name doesn't come to itself -/
theorem rb_closed {Kn : Str → Prop} (hc : ∀ z, Kn z → ∀ w ∈ Ed z, w ≠ y ∧ Kn w) : ∀ {t : Nat} {x : Str}, Kn x → rb Ed y t x = false
  | 0, _, _ => rfl
  | t + 1, x, hx => by
    cases h : rb Ed y (t + 1) x with
    | false => rfl
    | true =>
      rw [rb_succ] at h
      obtain ⟨w, hw, h⟩ := h
      obtain ⟨n1, n2⟩ := hc x hx w hw
      rcases h with h | h
      · exact absurd h n1
      · rw [rb_closed hc n2] at h; cases h
end
end K68

namespace K68
open PySem L2 DL
variable {fu n l : Nat} {R S : Sto} {F : D → Sto → Prop} {E : Exc → Sto → Prop}
/-! the program's way -/
def entD (p : Str × List D) : D := .tup [.str p.1, .non, .tup p.2]
def bookD (Bk : List (Str × List D)) : D := .tup (Bk.map entD)
def rowOf (Bk : List (Str × List D)) (z : Str) : Option (List D) := (Bk.find? fun p => decide (p.1 = z)).map (·.2)
def Ed (Bk : List (Str × List D)) (z : Str) : List Str := match rowOf Bk z with
  | some ws => ws.flatMap (nmW 19)
  | none => []
def RowOk (ws : List D) : Prop := ws.length ≤ 7 ∧ (∀ w ∈ ws, WdG 6 (fun _ => True) 4 w) ∧ (ws.flatMap (tokW 19)).length ≤ 95
structure BookOk (Bk : List (Str × List D)) : Prop where
  len : Bk.length ≤ 8
  nd : (Bk.map (·.1)).Nodup
  row : ∀ p ∈ Bk, RowOk p.2
theorem RowOk.tr {ws : List D} (h : RowOk ws) : DL.tr (.tup ws) := tr_tup fun w hw => (h.2.1 w hw).tr
theorem rowOf_mem {Bk : List (Str × List D)} {z : Str} {ws : List D} (h : rowOf Bk z = some ws) : (z, ws) ∈ Bk := by
  unfold rowOf at h
  rw [Option.map_eq_some_iff] at h
  obtain ⟨p, hp, rfl⟩ := h
  have := List.find?_some hp
  simp only [decide_eq_true_eq] at this
  subst this
  exact List.mem_of_find?_eq_some hp
theorem row_told_ok {Bk : List (Str × List D)} {z : Str} {N : Nat} (hB : BookOk Bk) (hN : 1 ≤ N) (hS : OKS S) (h1 : ∀ ws, rowOf Bk z = some ws → F (.tup ws) S) (h2 : rowOf Bk z = none → F .non S) : wp (den fu N i_row_told [.str z, bookD Bk] S) F E := by
  obtain ⟨N', rfl⟩ : ∃ N', N = N' + 1 := ⟨N - 1, by omega⟩
  show wp (runDef false 5 (b_row_told fu (den fu N')) _ _) _ _
  simp only [b_row_told, bookD, srcL_tup, wp_ok, wp_ret, wp_stuck, wp_bad, wp_bnd, wp_if, wp_fif, wps_ok_nx, wps_ok_rt, wps_ok_bk, wps_ok_ct, wps_ok_xc, wps_bad, wps_lft, wps_seq, wps_nil, wps_ret, wps_expr, wps_asg, wps_if, wp_run, wps_for, wps_while, wp_comp, wp_var, wp_C, wp_bin, wp_un, wp_T, wp_Tb, wp_asBl, wp_truthBl, wp_bAnd, wp_bOr, wp_bNot, wp_eIf, wp_eAnd, wp_eOr, wp_eNot, blCase_bl, wp_chain, wp_aNil, wp_aCons, wp_tup, wp_lst, wp_lstM, wp_call, wp_cl1, wp_cl2, wp_cl3, wp_cl4, wp_cl5, wp_meth, wp_isi, wp_oNone, wp_oSome, wp_sl, wp_it, wp_range1, wp_range2, wp_bYes, gEq_str, gNe_str, gEq_int, gNe_int, gEq_bl, gNe_bl, gIs_bl, gIsNot_bl, gAdd_int, gSub_int, gC_int, gI_int, gAdd_str, gAdd_tup, gAdd_lst, gNeg_int, gIx_tup, gIx_lst, gLen_tup, gLen_lst, gLen_str, gInt_int, gInt_bl, gTuple_lst, gTuple_tup, gList_lst, gList_tup, gSl_tup, gSl_lst, gSl_fl, gSl_str, srcL_tup, srcL_lst, srcL_fl, srcL_str, srcR1_int, typN, startR, List.map_cons, List.map_nil, List.length_cons, List.length_nil, Nat.reduceAdd, Nat.reduceSub, Nat.zero_add, Nat.sub_self, Nat.sub_zero, List.replicate_zero, List.replicate_succ, List.cons_append, List.nil_append, List.append_nil, List.getElem?_cons_zero, List.getElem?_cons_succ, List.set_cons_zero, List.set_cons_succ, List.set_nil, List.getElem?_nil, Option.some.injEq, exists_eq_left', exists_eq_left, exists_eq_right, reduceCtorEq, false_and, and_false, true_and, and_true, exists_false, exists_const, wipeR, Nat.zero_le, String.reduceEq, D.int.injEq, D.str.injEq, D.bl.injEq, atI_0, atI_1, atI_2, atI_3, atI_4, beq_self_eq_true, not_true_eq_false, not_false_eq_true, Int.cast_ofNat_Int, Int.reduceEq, Int.reduceLE, Int.reduceLT, Int.reduceAdd, Int.reduceSub, Int.reduceMul, Int.reduceNeg, if_true, if_false, ite_true, ite_false, Bool.false_eq_true, if_neg, if_pos, decide_eq_true_eq, Bool.not_eq_true', decide_eq_false_iff_not, eq_self_iff_true, decide_true, decide_false, Bool.not_true, Bool.not_false, wps_raise, wps_try, wps_tryAs, tryCase_t, tryCase_f, tbl_hit, suiteOf_hit, wp_eDct, wp_eDGet, wp_eDNew, wp_eDDef, wps_dput]
  refine wps_forM (fun i ρ S' => S' = S ∧ (∀ p ∈ Bk.take i, p.1 ≠ z) ∧ ∃ o2 o3 o4, ρ = [some (.str z), some (.tup (Bk.map entD)), o2, o3, o4]) (fun _ _ _ _ => trivial) ?_ ?_ ⟨rfl, fun p h => (List.not_mem_nil h).elim, none, none, none, rfl⟩
  · rintro i d ρ S' hd ⟨rfl, hp, o2, o3, o4, rfl⟩
    rw [List.getElem?_map, Option.map_eq_some_iff] at hd
    obtain ⟨p, hpi, rfl⟩ := hd
    refine ⟨_, rfl, ?_⟩
    simp only [wp_ok, wp_ret, wp_stuck, wp_bad, wp_bnd, wp_if, wp_fif, wps_ok_nx, wps_ok_rt, wps_ok_bk, wps_ok_ct, wps_ok_xc, wps_bad, wps_lft, wps_seq, wps_nil, wps_ret, wps_expr, wps_asg, wps_if, wp_run, wps_for, wps_while, wp_comp, wp_var, wp_C, wp_bin, wp_un, wp_T, wp_Tb, wp_asBl, wp_truthBl, wp_bAnd, wp_bOr, wp_bNot, wp_eIf, wp_eAnd, wp_eOr, wp_eNot, blCase_bl, wp_chain, wp_aNil, wp_aCons, wp_tup, wp_lst, wp_lstM, wp_call, wp_cl1, wp_cl2, wp_cl3, wp_cl4, wp_cl5, wp_meth, wp_isi, wp_oNone, wp_oSome, wp_sl, wp_it, wp_range1, wp_range2, wp_bYes, gEq_str, gNe_str, gEq_int, gNe_int, gEq_bl, gNe_bl, gIs_bl, gIsNot_bl, gAdd_int, gSub_int, gC_int, gI_int, gAdd_str, gAdd_tup, gAdd_lst, gNeg_int, gIx_tup, gIx_lst, gLen_tup, gLen_lst, gLen_str, gInt_int, gInt_bl, gTuple_lst, gTuple_tup, gList_lst, gList_tup, gSl_tup, gSl_lst, gSl_fl, gSl_str, srcL_tup, srcL_lst, srcL_fl, srcL_str, srcR1_int, typN, startR, List.map_cons, List.map_nil, List.length_cons, List.length_nil, Nat.reduceAdd, Nat.reduceSub, Nat.zero_add, Nat.sub_self, Nat.sub_zero, List.replicate_zero, List.replicate_succ, List.cons_append, List.nil_append, List.append_nil, List.getElem?_cons_zero, List.getElem?_cons_succ, List.set_cons_zero, List.set_cons_succ, List.set_nil, List.getElem?_nil, Option.some.injEq, exists_eq_left', exists_eq_left, exists_eq_right, reduceCtorEq, false_and, and_false, true_and, and_true, exists_false, exists_const, wipeR, Nat.zero_le, String.reduceEq, D.int.injEq, D.str.injEq, D.bl.injEq, atI_0, atI_1, atI_2, atI_3, atI_4, beq_self_eq_true, not_true_eq_false, not_false_eq_true, Int.cast_ofNat_Int, Int.reduceEq, Int.reduceLE, Int.reduceLT, Int.reduceAdd, Int.reduceSub, Int.reduceMul, Int.reduceNeg, if_true, if_false, ite_true, ite_false, Bool.false_eq_true, if_neg, if_pos, decide_eq_true_eq, Bool.not_eq_true', decide_eq_false_iff_not, eq_self_iff_true, decide_true, decide_false, Bool.not_true, Bool.not_false, wps_raise, wps_try, wps_tryAs, tryCase_t, tryCase_f, tbl_hit, suiteOf_hit, wp_eDct, wp_eDGet, wp_eDNew, wp_eDDef, wps_dput]
    by_cases hz : p.1 = z
    · have hf : rowOf Bk z = some p.2 := by
        unfold rowOf
        rw [List.find?_eq_some_iff_getElem.mpr ⟨by simpa using hz, i, (List.getElem?_eq_some_iff.mp hpi).1, (List.getElem?_eq_some_iff.mp hpi).2, fun j hj => ?_⟩]
        · rfl
        · have hjl : j < Bk.length := by have := (List.getElem?_eq_some_iff.mp hpi).1; omega
          have := hp Bk[j] (List.mem_iff_getElem?.mpr ⟨j, by rw [List.getElem?_take, if_pos hj, List.getElem?_eq_getElem hjl]⟩)
          simpa using this
      simp only [hz, wp_ok, wp_ret, wp_stuck, wp_bad, wp_bnd, wp_if, wp_fif, wps_ok_nx, wps_ok_rt, wps_ok_bk, wps_ok_ct, wps_ok_xc, wps_bad, wps_lft, wps_seq, wps_nil, wps_ret, wps_expr, wps_asg, wps_if, wp_run, wps_for, wps_while, wp_comp, wp_var, wp_C, wp_bin, wp_un, wp_T, wp_Tb, wp_asBl, wp_truthBl, wp_bAnd, wp_bOr, wp_bNot, wp_eIf, wp_eAnd, wp_eOr, wp_eNot, blCase_bl, wp_chain, wp_aNil, wp_aCons, wp_tup, wp_lst, wp_lstM, wp_call, wp_cl1, wp_cl2, wp_cl3, wp_cl4, wp_cl5, wp_meth, wp_isi, wp_oNone, wp_oSome, wp_sl, wp_it, wp_range1, wp_range2, wp_bYes, gEq_str, gNe_str, gEq_int, gNe_int, gEq_bl, gNe_bl, gIs_bl, gIsNot_bl, gAdd_int, gSub_int, gC_int, gI_int, gAdd_str, gAdd_tup, gAdd_lst, gNeg_int, gIx_tup, gIx_lst, gLen_tup, gLen_lst, gLen_str, gInt_int, gInt_bl, gTuple_lst, gTuple_tup, gList_lst, gList_tup, gSl_tup, gSl_lst, gSl_fl, gSl_str, srcL_tup, srcL_lst, srcL_fl, srcL_str, srcR1_int, typN, startR, List.map_cons, List.map_nil, List.length_cons, List.length_nil, Nat.reduceAdd, Nat.reduceSub, Nat.zero_add, Nat.sub_self, Nat.sub_zero, List.replicate_zero, List.replicate_succ, List.cons_append, List.nil_append, List.append_nil, List.getElem?_cons_zero, List.getElem?_cons_succ, List.set_cons_zero, List.set_cons_succ, List.set_nil, List.getElem?_nil, Option.some.injEq, exists_eq_left', exists_eq_left, exists_eq_right, reduceCtorEq, false_and, and_false, true_and, and_true, exists_false, exists_const, wipeR, Nat.zero_le, String.reduceEq, D.int.injEq, D.str.injEq, D.bl.injEq, atI_0, atI_1, atI_2, atI_3, atI_4, beq_self_eq_true, not_true_eq_false, not_false_eq_true, Int.cast_ofNat_Int, Int.reduceEq, Int.reduceLE, Int.reduceLT, Int.reduceAdd, Int.reduceSub, Int.reduceMul, Int.reduceNeg, if_true, if_false, ite_true, ite_false, Bool.false_eq_true, if_neg, if_pos, decide_eq_true_eq, Bool.not_eq_true', decide_eq_false_iff_not, eq_self_iff_true, decide_true, decide_false, Bool.not_true, Bool.not_false, wps_raise, wps_try, wps_tryAs, tryCase_t, tryCase_f, tbl_hit, suiteOf_hit, wp_eDct, wp_eDGet, wp_eDNew, wp_eDDef, wps_dput]
      exact (fin_trO hS (hB.row p (List.mem_of_getElem? hpi)).tr).mpr (h1 _ hf)
    · simp only [hz, wp_ok, wp_ret, wp_stuck, wp_bad, wp_bnd, wp_if, wp_fif, wps_ok_nx, wps_ok_rt, wps_ok_bk, wps_ok_ct, wps_ok_xc, wps_bad, wps_lft, wps_seq, wps_nil, wps_ret, wps_expr, wps_asg, wps_if, wp_run, wps_for, wps_while, wp_comp, wp_var, wp_C, wp_bin, wp_un, wp_T, wp_Tb, wp_asBl, wp_truthBl, wp_bAnd, wp_bOr, wp_bNot, wp_eIf, wp_eAnd, wp_eOr, wp_eNot, blCase_bl, wp_chain, wp_aNil, wp_aCons, wp_tup, wp_lst, wp_lstM, wp_call, wp_cl1, wp_cl2, wp_cl3, wp_cl4, wp_cl5, wp_meth, wp_isi, wp_oNone, wp_oSome, wp_sl, wp_it, wp_range1, wp_range2, wp_bYes, gEq_str, gNe_str, gEq_int, gNe_int, gEq_bl, gNe_bl, gIs_bl, gIsNot_bl, gAdd_int, gSub_int, gC_int, gI_int, gAdd_str, gAdd_tup, gAdd_lst, gNeg_int, gIx_tup, gIx_lst, gLen_tup, gLen_lst, gLen_str, gInt_int, gInt_bl, gTuple_lst, gTuple_tup, gList_lst, gList_tup, gSl_tup, gSl_lst, gSl_fl, gSl_str, srcL_tup, srcL_lst, srcL_fl, srcL_str, srcR1_int, typN, startR, List.map_cons, List.map_nil, List.length_cons, List.length_nil, Nat.reduceAdd, Nat.reduceSub, Nat.zero_add, Nat.sub_self, Nat.sub_zero, List.replicate_zero, List.replicate_succ, List.cons_append, List.nil_append, List.append_nil, List.getElem?_cons_zero, List.getElem?_cons_succ, List.set_cons_zero, List.set_cons_succ, List.set_nil, List.getElem?_nil, Option.some.injEq, exists_eq_left', exists_eq_left, exists_eq_right, reduceCtorEq, false_and, and_false, true_and, and_true, exists_false, exists_const, wipeR, Nat.zero_le, String.reduceEq, D.int.injEq, D.str.injEq, D.bl.injEq, atI_0, atI_1, atI_2, atI_3, atI_4, beq_self_eq_true, not_true_eq_false, not_false_eq_true, Int.cast_ofNat_Int, Int.reduceEq, Int.reduceLE, Int.reduceLT, Int.reduceAdd, Int.reduceSub, Int.reduceMul, Int.reduceNeg, if_true, if_false, ite_true, ite_false, Bool.false_eq_true, if_neg, if_pos, decide_eq_true_eq, Bool.not_eq_true', decide_eq_false_iff_not, eq_self_iff_true, decide_true, decide_false, Bool.not_true, Bool.not_false, wps_raise, wps_try, wps_tryAs, tryCase_t, tryCase_f, tbl_hit, suiteOf_hit, wp_eDct, wp_eDGet, wp_eDNew, wp_eDDef, wps_dput]
      refine ⟨fun q hq => ?_, _, _, _, rfl⟩
      rw [List.take_succ, hpi, List.mem_append] at hq
      rcases hq with hq | hq
      · exact hp q hq
      · simp at hq; rw [hq]; exact hz
  · rintro ρ S' ⟨rfl, hp, o2, o3, o4, rfl⟩
    rw [List.length_map, List.take_length] at hp
    have hf : rowOf Bk z = none := by
      unfold rowOf
      rw [List.find?_eq_none.mpr fun p h => by simpa using hp p h]; rfl
    exact (fin_trO hS rfl).mpr (h2 hf)
theorem nmW_stab {Q : Str → Prop} {w : D} (h : WdG 6 Q 4 w) : nmW 4 w = nmW 19 w := by
  rcases h with ⟨z, rfl, _⟩ | ⟨t, rfl, q⟩
  · rfl
  · exact nmT_stab (by decide) (by decide) q
theorem nm_row {ws : List D} (h : ∀ w ∈ ws, WdG 6 (fun _ => True) 4 w) : ws.flatMap (nmW 4) = ws.flatMap (nmW 19) := by
  induction ws with
  | nil => rfl
  | cons w ws ih => rw [List.flatMap_cons, List.flatMap_cons, ih fun x hx => h x (List.mem_cons_of_mem _ hx), nmW_stab (h w List.mem_cons_self)]
theorem RowOk.names {ws : List D} (h : RowOk ws) : (ws.flatMap (nmW 19)).length ≤ 95 := by
  refine Nat.le_trans ?_ h.2.2
  have hw := h.2.1
  clear h
  induction ws with
  | nil => exact Nat.le_refl _
  | cons w ws ih =>
    have i := ih fun x hx => hw x (List.mem_cons_of_mem _ hx)
    have := hw w List.mem_cons_self
    have e : (nmW 19 w).length ≤ (tokW 19 w).length := by
      rw [← nmW_stab this]
      exact nmW_tok (by decide) this
    simp only [List.flatMap_cons, List.length_append]
    omega
/-- all the texts -/
def U (Bk : List (Str × List D)) : List Str := Bk.flatMap fun p => p.2.flatMap (nmW 19)
theorem U_len {Bk : List (Str × List D)} (h : BookOk Bk) : (U Bk).length ≤ 760 := by
  have h1 := flat_bound (l := Bk) (f := fun p => p.2.flatMap (nmW 19)) (c := 95) fun p hp => (h.row p hp).names
  have h2 : Bk.length * 95 ≤ 8 * 95 := Nat.mul_le_mul_right _ h.len
  unfold U
  omega
theorem Ed_U {Bk : List (Str × List D)} {z w : Str} (h : w ∈ Ed Bk z) : w ∈ U Bk := by
  unfold Ed at h
  split at h
  · rename_i ws e
    exact List.mem_flatMap.mpr ⟨(z, ws), rowOf_mem e, h⟩
  · exact (List.not_mem_nil h).elim
theorem nodup_len {l D : List Str} (h : l.Nodup) (hs : ∀ x ∈ l, x ∈ D) : l.length ≤ D.length := by
  induction l generalizing D with
  | nil => exact Nat.zero_le _
  | cons a l ih =>
    obtain ⟨h1, h2⟩ := List.nodup_cons.mp h
    have ha := hs a List.mem_cons_self
    have := ih (D := D.erase a) h2 fun x hx => by
      have hxa : x ≠ a := fun e => h1 (e ▸ hx)
      exact (List.mem_erase_of_ne hxa).mpr (hs x (List.mem_cons_of_mem _ hx))
    rw [List.length_erase_of_mem ha] at this
    have := List.length_pos_of_mem ha
    simp only [List.length_cons]
    omega
def kD (ks : List Str) : List (Key × D) := ks.map fun z => (Sum.inr z, .bl true)
theorem getK_kD (ks : List Str) (w : Str) : (getK (kD ks) (.inr w)).isSome = decide (w ∈ ks) := by
  unfold kD
  induction ks with
  | nil => rfl
  | cons a ks ih =>
    by_cases h : a = w
    · subst h; simp [getK]
    · have : getK ((Sum.inr a, D.bl true) :: ks.map fun z => ((Sum.inr z : Key), D.bl true)) (.inr w) = getK (ks.map fun z => ((Sum.inr z : Key), D.bl true)) (.inr w) := by
        simp [getK, h]
      rw [List.map_cons, this, ih]
      have : w ≠ a := fun e => h e.symm
      simp [this]
theorem setK_kD {ks : List Str} {w : Str} (h : w ∉ ks) : setK (kD ks) (.inr w) (.bl true) = kD (ks ++ [w]) := by
  unfold setK
  have : ((kD ks).any fun kv => decide (kv.1 = Sum.inr w)) = false := by
    unfold kD
    rw [List.any_eq_false]
    intro p hp
    obtain ⟨z, hz, rfl⟩ := List.mem_map.mp hp
    simp only [decide_eq_true_eq, Sum.inr.injEq]
    rintro rfl
    exact h hz
  rw [this, if_neg Bool.false_ne_true]
  unfold kD
  rw [List.map_append]; rfl
section
variable {a b a' : MO}
theorem two_0 : (S ++ [a, b])[S.length]? = some a := by simp
theorem two_1 : (S ++ [a, b])[S.length + 1]? = some b := by simp
theorem two_s0 : (S ++ [a, b]).set S.length a' = S ++ [a', b] := by simp
theorem two_s1 : (S ++ [a, b]).set (S.length + 1) a' = S ++ [a, a'] := by
  rw [List.set_append_right _ _ (by omega)]; simp
theorem two_take : (S ++ [a, b]).take S.length = S := by simp
end
theorem two_L {a : MO} {l : List D} : atL (S ++ [a, .lst l]) (S.length + 1) = some l := by unfold atL; rw [two_1]
theorem len_one {a : MO} : (S ++ [a]).length = S.length + 1 := by simp
theorem app_one {a b : MO} : S ++ [a] ++ [b] = S ++ [a, b] := by simp
theorem kD_lo (ks : List Str) : (MO.dct (kD ks)).lo 0 = true := by
  show loK 0 (kD ks) = true
  induction ks with
  | nil => rfl
  | cons a ks ih =>
    show (D.lo 0 (.bl true) && loK 0 (kD ks)) = true
    rw [ih]; rfl
theorem oks_two {ks W : List Str} (h : OKS S) : OKS (S ++ [.dct (kD ks), .lst (W.map .str)]) := by
  unfold OKS at *
  rw [List.all_eq_true] at *
  intro m hm
  rw [List.length_append]
  rcases List.mem_append.mp hm with hm | hm
  · exact MO.lo_mono (by omega) m (h m hm)
  · simp only [List.mem_cons, List.not_mem_nil, or_false] at hm
    rcases hm with rfl | rfl
    · exact MO.lo_mono (Nat.zero_le _) _ (kD_lo ks)
    · exact MO.lo_mono (Nat.zero_le _) (.lst (W.map .str)) (strs_tr W)
theorem fin_two {ks W : List Str} {b : Bool} (h : OKS S) (hF : F (.bl b) S) : wp (finD false S.length (.bl b) (S ++ [.dct (kD ks), .lst (W.map .str)])) F E := by
  refine wp_fin (by rw [two_take]; exact h) rfl ?_
  rw [two_take]; exact hF
theorem sh_strs {W : List Str} {Ok : Str → Prop} (h : ∀ z ∈ W, PyData.strOk z = true) : ∀ d ∈ W.map D.str, Sh 0 d := fun d hd => by
  obtain ⟨z, hz, rfl⟩ := List.mem_map.mp hd
  exact sh_str (h z hz)
theorem gIsNot_tup {ds : List D} : wp (gIsNot (.tup ds) .non S) F E ↔ F (.bl true) S := Iff.rfl
theorem gIsNot_non : wp (gIsNot .non .non S) F E ↔ F (.bl false) S := Iff.rfl
theorem nm_strOk {Q : Str → Prop} : ∀ {k : Nat} {t : D}, ThG 6 Q k t → ∀ z ∈ nmT k t, PyData.strOk z = true
  | 0, t, h, z, hz => by rw [nmT_num h] at hz; exact (List.not_mem_nil hz).elim
  | k + 1, t, h, z, hz => by
    rcases h with h | ⟨ws, rfl, hl, h⟩ | ⟨ts, rfl, hl, h⟩
    · rw [nmT_num h] at hz; exact (List.not_mem_nil hz).elim
    · rw [nmT_row] at hz
      obtain ⟨w, hw, hz⟩ := List.mem_flatMap.mp hz
      rcases h w hw with ⟨y, rfl, q, _⟩ | ⟨t, rfl, q⟩
      · rw [List.mem_singleton.mp hz]; exact q.strOk
      · exact nm_strOk q z hz
    · rw [nmT_list] at hz
      obtain ⟨w, hw, hz⟩ := List.mem_flatMap.mp hz
      exact nm_strOk (h w hw) z hz
theorem Ed_strOk {Bk : List (Str × List D)} {z w : Str} (hB : BookOk Bk) (h : w ∈ Ed Bk z) : PyData.strOk w = true := by
  unfold Ed at h
  split at h
  · rename_i ws e
    have hr := hB.row _ (rowOf_mem e)
    rw [← nm_row hr.2.1] at h
    obtain ⟨x, hx, h⟩ := List.mem_flatMap.mp h
    rcases hr.2.1 x hx with ⟨y, rfl, q, _⟩ | ⟨t, rfl, q⟩
    · rw [List.mem_singleton.mp h]; exact q.strOk
    · exact nm_strOk q w h
  · exact (List.not_mem_nil h).elim
theorem comes_ok {Bk : List (Str × List D)} {z : Str} {N : Nat} (hfu : 1000 ≤ fu) (hB : BookOk Bk) (hz : PyData.strOk z = true) (hN : 15 ≤ N) (hS : OKS S) (h1 : (∃ t, rb (Ed Bk) z t z = true) → F (.bl true) S) (h2 : (∀ t, rb (Ed Bk) z t z = false) → F (.bl false) S) : wp (den fu N i_comes_to_itself [.str z, bookD Bk] S) F E := by
  obtain ⟨N', rfl⟩ : ∃ N', N = N' + 1 := ⟨N - 1, by omega⟩
  show wp (runDef false 6 (b_comes_to_itself fu (den fu N')) _ _) _ _
  have hU := U_len hB
  simp only [b_comes_to_itself, len_one, app_one, wp_ok, wp_ret, wp_stuck, wp_bad, wp_bnd, wp_if, wp_fif, wps_ok_nx, wps_ok_rt, wps_ok_bk, wps_ok_ct, wps_ok_xc, wps_bad, wps_lft, wps_seq, wps_nil, wps_ret, wps_expr, wps_asg, wps_if, wp_run, wps_for, wps_while, wp_comp, wp_var, wp_C, wp_bin, wp_un, wp_T, wp_Tb, wp_asBl, wp_truthBl, wp_bAnd, wp_bOr, wp_bNot, wp_eIf, wp_eAnd, wp_eOr, wp_eNot, blCase_bl, wp_chain, wp_aNil, wp_aCons, wp_tup, wp_lst, wp_lstM, wp_call, wp_cl1, wp_cl2, wp_cl3, wp_cl4, wp_cl5, wp_meth, wp_isi, wp_oNone, wp_oSome, wp_sl, wp_it, wp_range1, wp_range2, wp_bYes, gEq_str, gNe_str, gEq_int, gNe_int, gEq_bl, gNe_bl, gIs_bl, gIsNot_bl, gAdd_int, gSub_int, gC_int, gI_int, gAdd_str, gAdd_tup, gAdd_lst, gNeg_int, gIx_tup, gIx_lst, gLen_tup, gLen_lst, gLen_str, gInt_int, gInt_bl, gTuple_lst, gTuple_tup, gList_lst, gList_tup, gSl_tup, gSl_lst, gSl_fl, gSl_str, srcL_tup, srcL_lst, srcL_fl, srcL_str, srcR1_int, typN, startR, List.map_cons, List.map_nil, List.length_cons, List.length_nil, Nat.reduceAdd, Nat.reduceSub, Nat.zero_add, Nat.sub_self, Nat.sub_zero, List.replicate_zero, List.replicate_succ, List.cons_append, List.nil_append, List.append_nil, List.getElem?_cons_zero, List.getElem?_cons_succ, List.set_cons_zero, List.set_cons_succ, List.set_nil, List.getElem?_nil, Option.some.injEq, exists_eq_left', exists_eq_left, exists_eq_right, reduceCtorEq, false_and, and_false, true_and, and_true, exists_false, exists_const, wipeR, Nat.zero_le, String.reduceEq, D.int.injEq, D.str.injEq, D.bl.injEq, atI_0, atI_1, atI_2, atI_3, atI_4, beq_self_eq_true, not_true_eq_false, not_false_eq_true, Int.cast_ofNat_Int, Int.reduceEq, Int.reduceLE, Int.reduceLT, Int.reduceAdd, Int.reduceSub, Int.reduceMul, Int.reduceNeg, if_true, if_false, ite_true, ite_false, Bool.false_eq_true, if_neg, if_pos, decide_eq_true_eq, Bool.not_eq_true', decide_eq_false_iff_not, eq_self_iff_true, decide_true, decide_false, Bool.not_true, Bool.not_false, wps_raise, wps_try, wps_tryAs, tryCase_t, tryCase_f, tbl_hit, suiteOf_hit, wp_eDct, wp_eDGet, wp_eDNew, wp_eDDef, wps_dput]
  refine ⟨by decide, ?_⟩
  refine wps_whileM (fun m ρ S' => m ≤ 761 ∧ ∃ (ks W : List Str) (o4 o5 : Option D), S' = S ++ [.dct (kD ks), .lst (W.map .str)] ∧ ρ = [some (.str z), some (bookD Bk), some (.ref S.length), some (.ref (S.length + 1)), o4, o5] ∧
    ks.Nodup ∧ (∀ w ∈ ks, w ∈ U Bk ∧ PyData.strOk w = true ∧ ∃ t, rb (Ed Bk) w t z = true) ∧ (∀ w ∈ W, w = z ∨ w ∈ ks) ∧ (∀ w, (w = z ∨ w ∈ ks) → w ∉ W → ∀ v ∈ Ed Bk w, v ≠ z ∧ v ∈ ks) ∧ W.length + ((U Bk).length - ks.length) ≤ m) ?_ 761 (by omega) ?_
  · rintro m ρ S' ⟨hm, ks, W, o4, o5, rfl, rfl, hnd, hks, hW, hcl, hms⟩
    have hkl := nodup_len hnd fun x hx => (hks x hx).1
    have hWs : ∀ w ∈ W, PyData.strOk w = true := fun w hw => by
      rcases hW w hw with rfl | h
      · exact hz
      · exact (hks w h).2.1
    refine ⟨by omega, ?_⟩
    simp only [gNe_refNil two_L (sh_strs (Ok := fun _ => True) hWs), wp_ok, wp_ret, wp_stuck, wp_bad, wp_bnd, wp_if, wp_fif, wps_ok_nx, wps_ok_rt, wps_ok_bk, wps_ok_ct, wps_ok_xc, wps_bad, wps_lft, wps_seq, wps_nil, wps_ret, wps_expr, wps_asg, wps_if, wp_run, wps_for, wps_while, wp_comp, wp_var, wp_C, wp_bin, wp_un, wp_T, wp_Tb, wp_asBl, wp_truthBl, wp_bAnd, wp_bOr, wp_bNot, wp_eIf, wp_eAnd, wp_eOr, wp_eNot, blCase_bl, wp_chain, wp_aNil, wp_aCons, wp_tup, wp_lst, wp_lstM, wp_call, wp_cl1, wp_cl2, wp_cl3, wp_cl4, wp_cl5, wp_meth, wp_isi, wp_oNone, wp_oSome, wp_sl, wp_it, wp_range1, wp_range2, wp_bYes, gEq_str, gNe_str, gEq_int, gNe_int, gEq_bl, gNe_bl, gIs_bl, gIsNot_bl, gAdd_int, gSub_int, gC_int, gI_int, gAdd_str, gAdd_tup, gAdd_lst, gNeg_int, gIx_tup, gIx_lst, gLen_tup, gLen_lst, gLen_str, gInt_int, gInt_bl, gTuple_lst, gTuple_tup, gList_lst, gList_tup, gSl_tup, gSl_lst, gSl_fl, gSl_str, srcL_tup, srcL_lst, srcL_fl, srcL_str, srcR1_int, typN, startR, List.map_cons, List.map_nil, List.length_cons, List.length_nil, Nat.reduceAdd, Nat.reduceSub, Nat.zero_add, Nat.sub_self, Nat.sub_zero, List.replicate_zero, List.replicate_succ, List.cons_append, List.nil_append, List.append_nil, List.getElem?_cons_zero, List.getElem?_cons_succ, List.set_cons_zero, List.set_cons_succ, List.set_nil, List.getElem?_nil, Option.some.injEq, exists_eq_left', exists_eq_left, exists_eq_right, reduceCtorEq, false_and, and_false, true_and, and_true, exists_false, exists_const, wipeR, Nat.zero_le, String.reduceEq, D.int.injEq, D.str.injEq, D.bl.injEq, atI_0, atI_1, atI_2, atI_3, atI_4, beq_self_eq_true, not_true_eq_false, not_false_eq_true, Int.cast_ofNat_Int, Int.reduceEq, Int.reduceLE, Int.reduceLT, Int.reduceAdd, Int.reduceSub, Int.reduceMul, Int.reduceNeg, if_true, if_false, ite_true, ite_false, Bool.false_eq_true, if_neg, if_pos, decide_eq_true_eq, Bool.not_eq_true', decide_eq_false_iff_not, eq_self_iff_true, decide_true, decide_false, Bool.not_true, Bool.not_false, wps_raise, wps_try, wps_tryAs, tryCase_t, tryCase_f, tbl_hit, suiteOf_hit, wp_eDct, wp_eDGet, wp_eDNew, wp_eDDef, wps_dput]
    rcases List.eq_nil_or_concat W with rfl | ⟨W0, d, rfl⟩
    · simp only [List.map_nil, wp_ok, wp_ret, wp_stuck, wp_bad, wp_bnd, wp_if, wp_fif, wps_ok_nx, wps_ok_rt, wps_ok_bk, wps_ok_ct, wps_ok_xc, wps_bad, wps_lft, wps_seq, wps_nil, wps_ret, wps_expr, wps_asg, wps_if, wp_run, wps_for, wps_while, wp_comp, wp_var, wp_C, wp_bin, wp_un, wp_T, wp_Tb, wp_asBl, wp_truthBl, wp_bAnd, wp_bOr, wp_bNot, wp_eIf, wp_eAnd, wp_eOr, wp_eNot, blCase_bl, wp_chain, wp_aNil, wp_aCons, wp_tup, wp_lst, wp_lstM, wp_call, wp_cl1, wp_cl2, wp_cl3, wp_cl4, wp_cl5, wp_meth, wp_isi, wp_oNone, wp_oSome, wp_sl, wp_it, wp_range1, wp_range2, wp_bYes, gEq_str, gNe_str, gEq_int, gNe_int, gEq_bl, gNe_bl, gIs_bl, gIsNot_bl, gAdd_int, gSub_int, gC_int, gI_int, gAdd_str, gAdd_tup, gAdd_lst, gNeg_int, gIx_tup, gIx_lst, gLen_tup, gLen_lst, gLen_str, gInt_int, gInt_bl, gTuple_lst, gTuple_tup, gList_lst, gList_tup, gSl_tup, gSl_lst, gSl_fl, gSl_str, srcL_tup, srcL_lst, srcL_fl, srcL_str, srcR1_int, typN, startR, List.map_cons, List.map_nil, List.length_cons, List.length_nil, Nat.reduceAdd, Nat.reduceSub, Nat.zero_add, Nat.sub_self, Nat.sub_zero, List.replicate_zero, List.replicate_succ, List.cons_append, List.nil_append, List.append_nil, List.getElem?_cons_zero, List.getElem?_cons_succ, List.set_cons_zero, List.set_cons_succ, List.set_nil, List.getElem?_nil, Option.some.injEq, exists_eq_left', exists_eq_left, exists_eq_right, reduceCtorEq, false_and, and_false, true_and, and_true, exists_false, exists_const, wipeR, Nat.zero_le, String.reduceEq, D.int.injEq, D.str.injEq, D.bl.injEq, atI_0, atI_1, atI_2, atI_3, atI_4, beq_self_eq_true, not_true_eq_false, not_false_eq_true, Int.cast_ofNat_Int, Int.reduceEq, Int.reduceLE, Int.reduceLT, Int.reduceAdd, Int.reduceSub, Int.reduceMul, Int.reduceNeg, if_true, if_false, ite_true, ite_false, Bool.false_eq_true, if_neg, if_pos, decide_eq_true_eq, Bool.not_eq_true', decide_eq_false_iff_not, eq_self_iff_true, decide_true, decide_false, Bool.not_true, Bool.not_false, wps_raise, wps_try, wps_tryAs, tryCase_t, tryCase_f, tbl_hit, suiteOf_hit, wp_eDct, wp_eDGet, wp_eDNew, wp_eDDef, wps_dput]
      refine fin_two (W := []) hS (h2 fun t => ?_)
      exact rb_closed (Kn := fun w => w = z ∨ w ∈ ks) (fun w hw v hv => by
        obtain ⟨a, b⟩ := hcl w hw List.not_mem_nil v hv
        exact ⟨a, .inr b⟩) (.inl rfl)
    · rw [List.concat_eq_append] at *
      have hne : ¬ ((W0 ++ [d]).map D.str = []) := by simp
      simp only [hne, isTy_ref two_L, gPop_ref two_L, two_s1, wp_ok, wp_ret, wp_stuck, wp_bad, wp_bnd, wp_if, wp_fif, wps_ok_nx, wps_ok_rt, wps_ok_bk, wps_ok_ct, wps_ok_xc, wps_bad, wps_lft, wps_seq, wps_nil, wps_ret, wps_expr, wps_asg, wps_if, wp_run, wps_for, wps_while, wp_comp, wp_var, wp_C, wp_bin, wp_un, wp_T, wp_Tb, wp_asBl, wp_truthBl, wp_bAnd, wp_bOr, wp_bNot, wp_eIf, wp_eAnd, wp_eOr, wp_eNot, blCase_bl, wp_chain, wp_aNil, wp_aCons, wp_tup, wp_lst, wp_lstM, wp_call, wp_cl1, wp_cl2, wp_cl3, wp_cl4, wp_cl5, wp_meth, wp_isi, wp_oNone, wp_oSome, wp_sl, wp_it, wp_range1, wp_range2, wp_bYes, gEq_str, gNe_str, gEq_int, gNe_int, gEq_bl, gNe_bl, gIs_bl, gIsNot_bl, gAdd_int, gSub_int, gC_int, gI_int, gAdd_str, gAdd_tup, gAdd_lst, gNeg_int, gIx_tup, gIx_lst, gLen_tup, gLen_lst, gLen_str, gInt_int, gInt_bl, gTuple_lst, gTuple_tup, gList_lst, gList_tup, gSl_tup, gSl_lst, gSl_fl, gSl_str, srcL_tup, srcL_lst, srcL_fl, srcL_str, srcR1_int, typN, startR, List.map_cons, List.map_nil, List.length_cons, List.length_nil, Nat.reduceAdd, Nat.reduceSub, Nat.zero_add, Nat.sub_self, Nat.sub_zero, List.replicate_zero, List.replicate_succ, List.cons_append, List.nil_append, List.append_nil, List.getElem?_cons_zero, List.getElem?_cons_succ, List.set_cons_zero, List.set_cons_succ, List.set_nil, List.getElem?_nil, Option.some.injEq, exists_eq_left', exists_eq_left, exists_eq_right, reduceCtorEq, false_and, and_false, true_and, and_true, exists_false, exists_const, wipeR, Nat.zero_le, String.reduceEq, D.int.injEq, D.str.injEq, D.bl.injEq, atI_0, atI_1, atI_2, atI_3, atI_4, beq_self_eq_true, not_true_eq_false, not_false_eq_true, Int.cast_ofNat_Int, Int.reduceEq, Int.reduceLE, Int.reduceLT, Int.reduceAdd, Int.reduceSub, Int.reduceMul, Int.reduceNeg, if_true, if_false, ite_true, ite_false, Bool.false_eq_true, if_neg, if_pos, decide_eq_true_eq, Bool.not_eq_true', decide_eq_false_iff_not, eq_self_iff_true, decide_true, decide_false, Bool.not_true, Bool.not_false, wps_raise, wps_try, wps_tryAs, tryCase_t, tryCase_f, tbl_hit, suiteOf_hit, wp_eDct, wp_eDGet, wp_eDNew, wp_eDDef, wps_dput]
      have hlast : ((W0 ++ [d]).map D.str)[((W0 ++ [d]).map D.str).length - 1]? = some (.str d) := by simp
      have hdrop : ((W0 ++ [d]).map D.str).dropLast = W0.map D.str := by simp
      rw [hdrop]
      refine ⟨_, hlast, ?_⟩
      have hd := hW d (by simp)
      have hW0 : ∀ w ∈ W0, w = z ∨ w ∈ ks := fun w h => hW w (by simp [h])
      have hcl0 : ∀ w, (w = z ∨ w ∈ ks) → w ∉ W0 → w ≠ d → ∀ v ∈ Ed Bk w, v ≠ z ∧ v ∈ ks := fun w a b c => hcl w a (by simp [b, c])
      have hdr : ∀ v ∈ Ed Bk d, ∃ t, rb (Ed Bk) v t z = true := fun v hv => by
        have hq : rb (Ed Bk) v 1 d = true := by rw [rb_succ]; exact ⟨v, hv, .inl rfl⟩
        rcases hd with h | h
        · rw [h] at hq; exact ⟨1, hq⟩
        · obtain ⟨t, ht⟩ := (hks d h).2.2
          exact ⟨_, rb_trans hq ht⟩
      simp only [List.length_append, List.length_cons, List.length_nil] at hms
      refine row_told_ok hB (by omega) (oks_two hS) (fun ws hws => ?_) fun hws => ?_
      · have hr := hB.row _ (rowOf_mem hws)
        have hEd : Ed Bk d = ws.flatMap (nmW 19) := by unfold Ed; rw [hws]
        simp only [gIsNot_tup, wp_ok, wp_ret, wp_stuck, wp_bad, wp_bnd, wp_if, wp_fif, wps_ok_nx, wps_ok_rt, wps_ok_bk, wps_ok_ct, wps_ok_xc, wps_bad, wps_lft, wps_seq, wps_nil, wps_ret, wps_expr, wps_asg, wps_if, wp_run, wps_for, wps_while, wp_comp, wp_var, wp_C, wp_bin, wp_un, wp_T, wp_Tb, wp_asBl, wp_truthBl, wp_bAnd, wp_bOr, wp_bNot, wp_eIf, wp_eAnd, wp_eOr, wp_eNot, blCase_bl, wp_chain, wp_aNil, wp_aCons, wp_tup, wp_lst, wp_lstM, wp_call, wp_cl1, wp_cl2, wp_cl3, wp_cl4, wp_cl5, wp_meth, wp_isi, wp_oNone, wp_oSome, wp_sl, wp_it, wp_range1, wp_range2, wp_bYes, gEq_str, gNe_str, gEq_int, gNe_int, gEq_bl, gNe_bl, gIs_bl, gIsNot_bl, gAdd_int, gSub_int, gC_int, gI_int, gAdd_str, gAdd_tup, gAdd_lst, gNeg_int, gIx_tup, gIx_lst, gLen_tup, gLen_lst, gLen_str, gInt_int, gInt_bl, gTuple_lst, gTuple_tup, gList_lst, gList_tup, gSl_tup, gSl_lst, gSl_fl, gSl_str, srcL_tup, srcL_lst, srcL_fl, srcL_str, srcR1_int, typN, startR, List.map_cons, List.map_nil, List.length_cons, List.length_nil, Nat.reduceAdd, Nat.reduceSub, Nat.zero_add, Nat.sub_self, Nat.sub_zero, List.replicate_zero, List.replicate_succ, List.cons_append, List.nil_append, List.append_nil, List.getElem?_cons_zero, List.getElem?_cons_succ, List.set_cons_zero, List.set_cons_succ, List.set_nil, List.getElem?_nil, Option.some.injEq, exists_eq_left', exists_eq_left, exists_eq_right, reduceCtorEq, false_and, and_false, true_and, and_true, exists_false, exists_const, wipeR, Nat.zero_le, String.reduceEq, D.int.injEq, D.str.injEq, D.bl.injEq, atI_0, atI_1, atI_2, atI_3, atI_4, beq_self_eq_true, not_true_eq_false, not_false_eq_true, Int.cast_ofNat_Int, Int.reduceEq, Int.reduceLE, Int.reduceLT, Int.reduceAdd, Int.reduceSub, Int.reduceMul, Int.reduceNeg, if_true, if_false, ite_true, ite_false, Bool.false_eq_true, if_neg, if_pos, decide_eq_true_eq, Bool.not_eq_true', decide_eq_false_iff_not, eq_self_iff_true, decide_true, decide_false, Bool.not_true, Bool.not_false, wps_raise, wps_try, wps_tryAs, tryCase_t, tryCase_f, tbl_hit, suiteOf_hit, wp_eDct, wp_eDGet, wp_eDNew, wp_eDDef, wps_dput]
        refine names_in_ok (Q := fun _ => True) (k := 4) (names_thing 4 (by decide)) (by decide) hr.1 hr.2.1 (by omega) (oks_two hS) ?_
        rw [nm_row hr.2.1, ← hEd, srcL_lst]
        refine wps_forM (fun i ρ S' => ∃ (ks W : List Str) (o5 : Option D), S' = S ++ [.dct (kD ks), .lst (W.map .str)] ∧ ρ = [some (.str z), some (bookD Bk), some (.ref S.length), some (.ref (S.length + 1)), some (.tup ws), o5] ∧
          ks.Nodup ∧ (∀ w ∈ ks, w ∈ U Bk ∧ PyData.strOk w = true ∧ ∃ t, rb (Ed Bk) w t z = true) ∧ (∀ w ∈ W, w = z ∨ w ∈ ks) ∧ (d = z ∨ d ∈ ks) ∧ (∀ w, (w = z ∨ w ∈ ks) → w ∉ W → w ≠ d → ∀ v ∈ Ed Bk w, v ≠ z ∧ v ∈ ks) ∧ (∀ v ∈ (Ed Bk d).take i, v ≠ z ∧ v ∈ ks) ∧ W.length + ((U Bk).length - ks.length) + 1 ≤ m) (fun _ _ _ _ => trivial) ?_ ?_ ?_
        · rintro i x ρ S' hx ⟨ks, W, o5, rfl, rfl, hnd, hks, hW, hd, hcl, htk, hms⟩
          rw [List.getElem?_map, Option.map_eq_some_iff] at hx
          obtain ⟨v, hv, rfl⟩ := hx
          have hvE : v ∈ Ed Bk d := List.mem_of_getElem? hv
          have hkl := nodup_len hnd fun x hx => (hks x hx).1
          refine ⟨_, rfl, ?_⟩
          simp only [wp_ok, wp_ret, wp_stuck, wp_bad, wp_bnd, wp_if, wp_fif, wps_ok_nx, wps_ok_rt, wps_ok_bk, wps_ok_ct, wps_ok_xc, wps_bad, wps_lft, wps_seq, wps_nil, wps_ret, wps_expr, wps_asg, wps_if, wp_run, wps_for, wps_while, wp_comp, wp_var, wp_C, wp_bin, wp_un, wp_T, wp_Tb, wp_asBl, wp_truthBl, wp_bAnd, wp_bOr, wp_bNot, wp_eIf, wp_eAnd, wp_eOr, wp_eNot, blCase_bl, wp_chain, wp_aNil, wp_aCons, wp_tup, wp_lst, wp_lstM, wp_call, wp_cl1, wp_cl2, wp_cl3, wp_cl4, wp_cl5, wp_meth, wp_isi, wp_oNone, wp_oSome, wp_sl, wp_it, wp_range1, wp_range2, wp_bYes, gEq_str, gNe_str, gEq_int, gNe_int, gEq_bl, gNe_bl, gIs_bl, gIsNot_bl, gAdd_int, gSub_int, gC_int, gI_int, gAdd_str, gAdd_tup, gAdd_lst, gNeg_int, gIx_tup, gIx_lst, gLen_tup, gLen_lst, gLen_str, gInt_int, gInt_bl, gTuple_lst, gTuple_tup, gList_lst, gList_tup, gSl_tup, gSl_lst, gSl_fl, gSl_str, srcL_tup, srcL_lst, srcL_fl, srcL_str, srcR1_int, typN, startR, List.map_cons, List.map_nil, List.length_cons, List.length_nil, Nat.reduceAdd, Nat.reduceSub, Nat.zero_add, Nat.sub_self, Nat.sub_zero, List.replicate_zero, List.replicate_succ, List.cons_append, List.nil_append, List.append_nil, List.getElem?_cons_zero, List.getElem?_cons_succ, List.set_cons_zero, List.set_cons_succ, List.set_nil, List.getElem?_nil, Option.some.injEq, exists_eq_left', exists_eq_left, exists_eq_right, reduceCtorEq, false_and, and_false, true_and, and_true, exists_false, exists_const, wipeR, Nat.zero_le, String.reduceEq, D.int.injEq, D.str.injEq, D.bl.injEq, atI_0, atI_1, atI_2, atI_3, atI_4, beq_self_eq_true, not_true_eq_false, not_false_eq_true, Int.cast_ofNat_Int, Int.reduceEq, Int.reduceLE, Int.reduceLT, Int.reduceAdd, Int.reduceSub, Int.reduceMul, Int.reduceNeg, if_true, if_false, ite_true, ite_false, Bool.false_eq_true, if_neg, if_pos, decide_eq_true_eq, Bool.not_eq_true', decide_eq_false_iff_not, eq_self_iff_true, decide_true, decide_false, Bool.not_true, Bool.not_false, wps_raise, wps_try, wps_tryAs, tryCase_t, tryCase_f, tbl_hit, suiteOf_hit, wp_eDct, wp_eDGet, wp_eDNew, wp_eDDef, wps_dput]
          by_cases hvz : v = z
          · simp only [hvz, wp_ok, wp_ret, wp_stuck, wp_bad, wp_bnd, wp_if, wp_fif, wps_ok_nx, wps_ok_rt, wps_ok_bk, wps_ok_ct, wps_ok_xc, wps_bad, wps_lft, wps_seq, wps_nil, wps_ret, wps_expr, wps_asg, wps_if, wp_run, wps_for, wps_while, wp_comp, wp_var, wp_C, wp_bin, wp_un, wp_T, wp_Tb, wp_asBl, wp_truthBl, wp_bAnd, wp_bOr, wp_bNot, wp_eIf, wp_eAnd, wp_eOr, wp_eNot, blCase_bl, wp_chain, wp_aNil, wp_aCons, wp_tup, wp_lst, wp_lstM, wp_call, wp_cl1, wp_cl2, wp_cl3, wp_cl4, wp_cl5, wp_meth, wp_isi, wp_oNone, wp_oSome, wp_sl, wp_it, wp_range1, wp_range2, wp_bYes, gEq_str, gNe_str, gEq_int, gNe_int, gEq_bl, gNe_bl, gIs_bl, gIsNot_bl, gAdd_int, gSub_int, gC_int, gI_int, gAdd_str, gAdd_tup, gAdd_lst, gNeg_int, gIx_tup, gIx_lst, gLen_tup, gLen_lst, gLen_str, gInt_int, gInt_bl, gTuple_lst, gTuple_tup, gList_lst, gList_tup, gSl_tup, gSl_lst, gSl_fl, gSl_str, srcL_tup, srcL_lst, srcL_fl, srcL_str, srcR1_int, typN, startR, List.map_cons, List.map_nil, List.length_cons, List.length_nil, Nat.reduceAdd, Nat.reduceSub, Nat.zero_add, Nat.sub_self, Nat.sub_zero, List.replicate_zero, List.replicate_succ, List.cons_append, List.nil_append, List.append_nil, List.getElem?_cons_zero, List.getElem?_cons_succ, List.set_cons_zero, List.set_cons_succ, List.set_nil, List.getElem?_nil, Option.some.injEq, exists_eq_left', exists_eq_left, exists_eq_right, reduceCtorEq, false_and, and_false, true_and, and_true, exists_false, exists_const, wipeR, Nat.zero_le, String.reduceEq, D.int.injEq, D.str.injEq, D.bl.injEq, atI_0, atI_1, atI_2, atI_3, atI_4, beq_self_eq_true, not_true_eq_false, not_false_eq_true, Int.cast_ofNat_Int, Int.reduceEq, Int.reduceLE, Int.reduceLT, Int.reduceAdd, Int.reduceSub, Int.reduceMul, Int.reduceNeg, if_true, if_false, ite_true, ite_false, Bool.false_eq_true, if_neg, if_pos, decide_eq_true_eq, Bool.not_eq_true', decide_eq_false_iff_not, eq_self_iff_true, decide_true, decide_false, Bool.not_true, Bool.not_false, wps_raise, wps_try, wps_tryAs, tryCase_t, tryCase_f, tbl_hit, suiteOf_hit, wp_eDct, wp_eDGet, wp_eDNew, wp_eDDef, wps_dput]
            refine fin_two hS (h1 ?_)
            obtain ⟨t, ht⟩ := hdr v hvE
            rw [hvz] at ht
            exact ⟨t, ht⟩
          · simp only [hvz, gDIn_of (atD_ref two_0) (show keyD (.str v) = some (.inr v) from rfl), getK_kD, wp_ok, wp_ret, wp_stuck, wp_bad, wp_bnd, wp_if, wp_fif, wps_ok_nx, wps_ok_rt, wps_ok_bk, wps_ok_ct, wps_ok_xc, wps_bad, wps_lft, wps_seq, wps_nil, wps_ret, wps_expr, wps_asg, wps_if, wp_run, wps_for, wps_while, wp_comp, wp_var, wp_C, wp_bin, wp_un, wp_T, wp_Tb, wp_asBl, wp_truthBl, wp_bAnd, wp_bOr, wp_bNot, wp_eIf, wp_eAnd, wp_eOr, wp_eNot, blCase_bl, wp_chain, wp_aNil, wp_aCons, wp_tup, wp_lst, wp_lstM, wp_call, wp_cl1, wp_cl2, wp_cl3, wp_cl4, wp_cl5, wp_meth, wp_isi, wp_oNone, wp_oSome, wp_sl, wp_it, wp_range1, wp_range2, wp_bYes, gEq_str, gNe_str, gEq_int, gNe_int, gEq_bl, gNe_bl, gIs_bl, gIsNot_bl, gAdd_int, gSub_int, gC_int, gI_int, gAdd_str, gAdd_tup, gAdd_lst, gNeg_int, gIx_tup, gIx_lst, gLen_tup, gLen_lst, gLen_str, gInt_int, gInt_bl, gTuple_lst, gTuple_tup, gList_lst, gList_tup, gSl_tup, gSl_lst, gSl_fl, gSl_str, srcL_tup, srcL_lst, srcL_fl, srcL_str, srcR1_int, typN, startR, List.map_cons, List.map_nil, List.length_cons, List.length_nil, Nat.reduceAdd, Nat.reduceSub, Nat.zero_add, Nat.sub_self, Nat.sub_zero, List.replicate_zero, List.replicate_succ, List.cons_append, List.nil_append, List.append_nil, List.getElem?_cons_zero, List.getElem?_cons_succ, List.set_cons_zero, List.set_cons_succ, List.set_nil, List.getElem?_nil, Option.some.injEq, exists_eq_left', exists_eq_left, exists_eq_right, reduceCtorEq, false_and, and_false, true_and, and_true, exists_false, exists_const, wipeR, Nat.zero_le, String.reduceEq, D.int.injEq, D.str.injEq, D.bl.injEq, atI_0, atI_1, atI_2, atI_3, atI_4, beq_self_eq_true, not_true_eq_false, not_false_eq_true, Int.cast_ofNat_Int, Int.reduceEq, Int.reduceLE, Int.reduceLT, Int.reduceAdd, Int.reduceSub, Int.reduceMul, Int.reduceNeg, if_true, if_false, ite_true, ite_false, Bool.false_eq_true, if_neg, if_pos, decide_eq_true_eq, Bool.not_eq_true', decide_eq_false_iff_not, eq_self_iff_true, decide_true, decide_false, Bool.not_true, Bool.not_false, wps_raise, wps_try, wps_tryAs, tryCase_t, tryCase_f, tbl_hit, suiteOf_hit, wp_eDct, wp_eDGet, wp_eDNew, wp_eDDef, wps_dput]
            have htake : ∀ ks' : List Str, (∀ w ∈ ks, w ∈ ks') → v ∈ ks' → ∀ u ∈ (Ed Bk d).take (i + 1), u ≠ z ∧ u ∈ ks' := fun ks' a b u hu => by
              rw [List.take_succ, hv, List.mem_append] at hu
              rcases hu with hu | hu
              · obtain ⟨q1, q2⟩ := htk u hu
                exact ⟨q1, a u q2⟩
              · simp at hu
                subst hu
                exact ⟨hvz, b⟩
            by_cases hvk : v ∈ ks
            · simp only [hvk, wp_ok, wp_ret, wp_stuck, wp_bad, wp_bnd, wp_if, wp_fif, wps_ok_nx, wps_ok_rt, wps_ok_bk, wps_ok_ct, wps_ok_xc, wps_bad, wps_lft, wps_seq, wps_nil, wps_ret, wps_expr, wps_asg, wps_if, wp_run, wps_for, wps_while, wp_comp, wp_var, wp_C, wp_bin, wp_un, wp_T, wp_Tb, wp_asBl, wp_truthBl, wp_bAnd, wp_bOr, wp_bNot, wp_eIf, wp_eAnd, wp_eOr, wp_eNot, blCase_bl, wp_chain, wp_aNil, wp_aCons, wp_tup, wp_lst, wp_lstM, wp_call, wp_cl1, wp_cl2, wp_cl3, wp_cl4, wp_cl5, wp_meth, wp_isi, wp_oNone, wp_oSome, wp_sl, wp_it, wp_range1, wp_range2, wp_bYes, gEq_str, gNe_str, gEq_int, gNe_int, gEq_bl, gNe_bl, gIs_bl, gIsNot_bl, gAdd_int, gSub_int, gC_int, gI_int, gAdd_str, gAdd_tup, gAdd_lst, gNeg_int, gIx_tup, gIx_lst, gLen_tup, gLen_lst, gLen_str, gInt_int, gInt_bl, gTuple_lst, gTuple_tup, gList_lst, gList_tup, gSl_tup, gSl_lst, gSl_fl, gSl_str, srcL_tup, srcL_lst, srcL_fl, srcL_str, srcR1_int, typN, startR, List.map_cons, List.map_nil, List.length_cons, List.length_nil, Nat.reduceAdd, Nat.reduceSub, Nat.zero_add, Nat.sub_self, Nat.sub_zero, List.replicate_zero, List.replicate_succ, List.cons_append, List.nil_append, List.append_nil, List.getElem?_cons_zero, List.getElem?_cons_succ, List.set_cons_zero, List.set_cons_succ, List.set_nil, List.getElem?_nil, Option.some.injEq, exists_eq_left', exists_eq_left, exists_eq_right, reduceCtorEq, false_and, and_false, true_and, and_true, exists_false, exists_const, wipeR, Nat.zero_le, String.reduceEq, D.int.injEq, D.str.injEq, D.bl.injEq, atI_0, atI_1, atI_2, atI_3, atI_4, beq_self_eq_true, not_true_eq_false, not_false_eq_true, Int.cast_ofNat_Int, Int.reduceEq, Int.reduceLE, Int.reduceLT, Int.reduceAdd, Int.reduceSub, Int.reduceMul, Int.reduceNeg, if_true, if_false, ite_true, ite_false, Bool.false_eq_true, if_neg, if_pos, decide_eq_true_eq, Bool.not_eq_true', decide_eq_false_iff_not, eq_self_iff_true, decide_true, decide_false, Bool.not_true, Bool.not_false, wps_raise, wps_try, wps_tryAs, tryCase_t, tryCase_f, tbl_hit, suiteOf_hit, wp_eDct, wp_eDGet, wp_eDNew, wp_eDDef, wps_dput]
              exact ⟨ks, W, _, rfl, rfl, hnd, hks, hW, hd, hcl, htake ks (fun w h => h) hvk, hms⟩
            · simp only [hvk, gDPut_of two_0 (show keyD (.str v) = some (.inr v) from rfl), setK_kD hvk, two_s0, isTy_ref two_L, gAppend_ref two_L, two_s1, wp_ok, wp_ret, wp_stuck, wp_bad, wp_bnd, wp_if, wp_fif, wps_ok_nx, wps_ok_rt, wps_ok_bk, wps_ok_ct, wps_ok_xc, wps_bad, wps_lft, wps_seq, wps_nil, wps_ret, wps_expr, wps_asg, wps_if, wp_run, wps_for, wps_while, wp_comp, wp_var, wp_C, wp_bin, wp_un, wp_T, wp_Tb, wp_asBl, wp_truthBl, wp_bAnd, wp_bOr, wp_bNot, wp_eIf, wp_eAnd, wp_eOr, wp_eNot, blCase_bl, wp_chain, wp_aNil, wp_aCons, wp_tup, wp_lst, wp_lstM, wp_call, wp_cl1, wp_cl2, wp_cl3, wp_cl4, wp_cl5, wp_meth, wp_isi, wp_oNone, wp_oSome, wp_sl, wp_it, wp_range1, wp_range2, wp_bYes, gEq_str, gNe_str, gEq_int, gNe_int, gEq_bl, gNe_bl, gIs_bl, gIsNot_bl, gAdd_int, gSub_int, gC_int, gI_int, gAdd_str, gAdd_tup, gAdd_lst, gNeg_int, gIx_tup, gIx_lst, gLen_tup, gLen_lst, gLen_str, gInt_int, gInt_bl, gTuple_lst, gTuple_tup, gList_lst, gList_tup, gSl_tup, gSl_lst, gSl_fl, gSl_str, srcL_tup, srcL_lst, srcL_fl, srcL_str, srcR1_int, typN, startR, List.map_cons, List.map_nil, List.length_cons, List.length_nil, Nat.reduceAdd, Nat.reduceSub, Nat.zero_add, Nat.sub_self, Nat.sub_zero, List.replicate_zero, List.replicate_succ, List.cons_append, List.nil_append, List.append_nil, List.getElem?_cons_zero, List.getElem?_cons_succ, List.set_cons_zero, List.set_cons_succ, List.set_nil, List.getElem?_nil, Option.some.injEq, exists_eq_left', exists_eq_left, exists_eq_right, reduceCtorEq, false_and, and_false, true_and, and_true, exists_false, exists_const, wipeR, Nat.zero_le, String.reduceEq, D.int.injEq, D.str.injEq, D.bl.injEq, atI_0, atI_1, atI_2, atI_3, atI_4, beq_self_eq_true, not_true_eq_false, not_false_eq_true, Int.cast_ofNat_Int, Int.reduceEq, Int.reduceLE, Int.reduceLT, Int.reduceAdd, Int.reduceSub, Int.reduceMul, Int.reduceNeg, if_true, if_false, ite_true, ite_false, Bool.false_eq_true, if_neg, if_pos, decide_eq_true_eq, Bool.not_eq_true', decide_eq_false_iff_not, eq_self_iff_true, decide_true, decide_false, Bool.not_true, Bool.not_false, wps_raise, wps_try, wps_tryAs, tryCase_t, tryCase_f, tbl_hit, suiteOf_hit, wp_eDct, wp_eDGet, wp_eDNew, wp_eDDef, wps_dput]
              have hvU := Ed_U hvE
              have hkl2 := nodup_len (l := v :: ks) (D := U Bk) (List.nodup_cons.mpr ⟨hvk, hnd⟩) fun x hx => by
                rcases List.mem_cons.mp hx with rfl | hx
                · exact hvU
                · exact (hks x hx).1
              simp only [List.length_cons] at hkl2
              refine ⟨by unfold kD; rw [List.length_map]; omega, by rw [sizeLine_eq, List.length_map]; omega, ks ++ [v], W ++ [v], _, by rw [List.map_append]; rfl, rfl, ?_, ?_, ?_, ?_, ?_, htake _ (fun w h => by simp [h]) (by simp), by simp only [List.length_append, List.length_cons, List.length_nil]; omega⟩
              · rw [List.nodup_append]
                exact ⟨hnd, by simp, fun a ha b hb e => hvk (by rw [List.mem_singleton.mp hb] at e; rw [← e]; exact ha)⟩
              · intro w hw
                rcases List.mem_append.mp hw with hw | hw
                · exact hks w hw
                · rw [List.mem_singleton.mp hw]
                  exact ⟨hvU, Ed_strOk hB hvE, hdr v hvE⟩
              · intro w hw
                rcases List.mem_append.mp hw with hw | hw
                · exact (hW w hw).imp id fun h => by simp [h]
                · rw [List.mem_singleton.mp hw]; exact .inr (by simp)
              · exact hd.imp id fun h => by simp [h]
              · intro w hw hnW hne u hu
                have hwv : w ≠ v := fun e => hnW (by simp [e])
                have hw' : w = z ∨ w ∈ ks := hw.imp id fun h => by
                  rcases List.mem_append.mp h with h | h
                  · exact h
                  · exact absurd (List.mem_singleton.mp h) hwv
                obtain ⟨q1, q2⟩ := hcl w hw' (fun h => hnW (by simp [h])) hne u hu
                exact ⟨q1, by simp [q2]⟩
        · rintro ρ S' ⟨ks, W, o5, rfl, rfl, hnd, hks, hW, hd, hcl, htk, hms⟩
          rw [List.length_map, List.take_length] at htk
          refine ⟨m - 1, by omega, by omega, ks, W, _, _, rfl, rfl, hnd, hks, hW, fun w hw hnW => ?_, by omega⟩
          by_cases hwd : w = d
          · rw [hwd]; exact htk
          · exact hcl w hw hnW hwd
        · exact ⟨ks, W0, _, rfl, rfl, hnd, hks, hW0, hd, hcl0, fun v h => (List.not_mem_nil h).elim, by omega⟩
      · have hEd : Ed Bk d = [] := by unfold Ed; rw [hws]
        simp only [gIsNot_non, wp_ok, wp_ret, wp_stuck, wp_bad, wp_bnd, wp_if, wp_fif, wps_ok_nx, wps_ok_rt, wps_ok_bk, wps_ok_ct, wps_ok_xc, wps_bad, wps_lft, wps_seq, wps_nil, wps_ret, wps_expr, wps_asg, wps_if, wp_run, wps_for, wps_while, wp_comp, wp_var, wp_C, wp_bin, wp_un, wp_T, wp_Tb, wp_asBl, wp_truthBl, wp_bAnd, wp_bOr, wp_bNot, wp_eIf, wp_eAnd, wp_eOr, wp_eNot, blCase_bl, wp_chain, wp_aNil, wp_aCons, wp_tup, wp_lst, wp_lstM, wp_call, wp_cl1, wp_cl2, wp_cl3, wp_cl4, wp_cl5, wp_meth, wp_isi, wp_oNone, wp_oSome, wp_sl, wp_it, wp_range1, wp_range2, wp_bYes, gEq_str, gNe_str, gEq_int, gNe_int, gEq_bl, gNe_bl, gIs_bl, gIsNot_bl, gAdd_int, gSub_int, gC_int, gI_int, gAdd_str, gAdd_tup, gAdd_lst, gNeg_int, gIx_tup, gIx_lst, gLen_tup, gLen_lst, gLen_str, gInt_int, gInt_bl, gTuple_lst, gTuple_tup, gList_lst, gList_tup, gSl_tup, gSl_lst, gSl_fl, gSl_str, srcL_tup, srcL_lst, srcL_fl, srcL_str, srcR1_int, typN, startR, List.map_cons, List.map_nil, List.length_cons, List.length_nil, Nat.reduceAdd, Nat.reduceSub, Nat.zero_add, Nat.sub_self, Nat.sub_zero, List.replicate_zero, List.replicate_succ, List.cons_append, List.nil_append, List.append_nil, List.getElem?_cons_zero, List.getElem?_cons_succ, List.set_cons_zero, List.set_cons_succ, List.set_nil, List.getElem?_nil, Option.some.injEq, exists_eq_left', exists_eq_left, exists_eq_right, reduceCtorEq, false_and, and_false, true_and, and_true, exists_false, exists_const, wipeR, Nat.zero_le, String.reduceEq, D.int.injEq, D.str.injEq, D.bl.injEq, atI_0, atI_1, atI_2, atI_3, atI_4, beq_self_eq_true, not_true_eq_false, not_false_eq_true, Int.cast_ofNat_Int, Int.reduceEq, Int.reduceLE, Int.reduceLT, Int.reduceAdd, Int.reduceSub, Int.reduceMul, Int.reduceNeg, if_true, if_false, ite_true, ite_false, Bool.false_eq_true, if_neg, if_pos, decide_eq_true_eq, Bool.not_eq_true', decide_eq_false_iff_not, eq_self_iff_true, decide_true, decide_false, Bool.not_true, Bool.not_false, wps_raise, wps_try, wps_tryAs, tryCase_t, tryCase_f, tbl_hit, suiteOf_hit, wp_eDct, wp_eDGet, wp_eDNew, wp_eDDef, wps_dput]
        refine ⟨m - 1, by omega, by omega, ks, W0, _, _, rfl, rfl, hnd, hks, hW0, fun w hw hnW => ?_, by omega⟩
        by_cases hwd : w = d
        · rw [hwd, hEd]; exact fun v h => (List.not_mem_nil h).elim
        · exact hcl0 w hw hnW hwd
  · refine ⟨by omega, [], [z], none, none, rfl, rfl, List.nodup_nil, fun w h => (List.not_mem_nil h).elim, fun w h => .inl (List.mem_singleton.mp h), fun w hw hn => ?_, by simp; omega⟩
    rcases hw with rfl | hw
    · exact absurd (by simp) hn
    · exact (List.not_mem_nil hw).elim
end K68

namespace K68
open PySem L2 DL
variable {fu n l : Nat} {R S : Sto} {F : D → Sto → Prop} {E : Exc → Sto → Prop}
/-! the law's way -/
theorem mem_ddS {L : List Str} {z x : Str} : x ∈ ddS L z ↔ x ∈ L ∨ x = z := by
  unfold ddS
  split
  · rename_i h
    exact ⟨.inl, fun q => q.elim id fun e => e ▸ h⟩
  · simp
theorem nodup_ddS {L : List Str} {z : Str} (h : L.Nodup) : (ddS L z).Nodup := by
  unfold ddS
  split
  · exact h
  · rename_i hz
    rw [List.nodup_append]
    exact ⟨h, by simp, fun a ha b hb e => hz (by rw [List.mem_singleton.mp hb] at e; rw [← e]; exact ha)⟩
theorem dedup_facts (zs : List Str) : (dedup zs).Nodup ∧ ∀ x, x ∈ dedup zs ↔ x ∈ zs := by
  have key : ∀ (b L : List Str), L.Nodup → (b.foldl ddS L).Nodup ∧ ∀ x, x ∈ b.foldl ddS L ↔ x ∈ L ∨ x ∈ b := by
    intro b
    induction b with
    | nil => intro L h; exact ⟨h, fun x => by simp⟩
    | cons a b ih =>
      intro L h
      obtain ⟨i1, i2⟩ := ih (ddS L a) (nodup_ddS h)
      refine ⟨i1, fun x => ?_⟩
      rw [List.foldl_cons, i2, mem_ddS, List.mem_cons]
      exact or_assoc
  obtain ⟨k1, k2⟩ := key zs [] List.nodup_nil
  exact ⟨k1, fun x => by unfold dedup; rw [k2]; simp⟩
theorem mem_sortT {L : List Str} {x : Str} : x ∈ sortT L ↔ x ∈ L := by unfold sortT; exact List.mem_mergeSort
theorem len_sortT {L : List Str} : (sortT L).length = L.length := by unfold sortT; exact List.length_mergeSort _
def up (f : Str → List Str) (z : Str) (l : List Str) : Str → List Str := fun x => if x = z then l else f x
def fD (ns : List Str) (f : Str → List Str) : List (Key × D) := ns.map fun z => (Sum.inr z, .lst ((f z).map .str))
theorem getK_fD (f : Str → List Str) (w : Str) : ∀ ns : List Str, getK (fD ns f) (.inr w) = if w ∈ ns then some (.lst ((f w).map .str)) else none
  | [] => rfl
  | a :: ns => by
    by_cases h : a = w
    · subst h; simp [getK, fD]
    · have e : getK (fD (a :: ns) f) (.inr w) = getK (fD ns f) (.inr w) := by simp [getK, fD, h]
      rw [e, getK_fD f w ns]
      have : w ≠ a := fun e => h e.symm
      simp [this]
theorem fD_up {ns : List Str} {f : Str → List Str} {z : Str} {l : List Str} (h : z ∉ ns) : fD ns (up f z l) = fD ns f := by
  unfold fD
  refine List.map_congr_left fun x hx => ?_
  have : x ≠ z := fun e => h (e ▸ hx)
  simp [up, this]
theorem any_fD {ns : List Str} {f : Str → List Str} {z : Str} : ((fD ns f).any fun kv => decide (kv.1 = Sum.inr z)) = decide (z ∈ ns) := by
  unfold fD
  induction ns with
  | nil => rfl
  | cons a ns ih =>
    rw [List.map_cons, List.any_cons, ih]
    by_cases h : a = z
    · subst h; simp
    · have : z ≠ a := fun e => h e.symm
      simp [h, this]
theorem setK_new {ns : List Str} {f : Str → List Str} {z : Str} {l : List Str} (h : z ∉ ns) : setK (fD ns f) (.inr z) (.lst (l.map .str)) = fD (ns ++ [z]) (up f z l) := by
  unfold setK
  rw [any_fD, decide_eq_false h, if_neg Bool.false_ne_true]
  have : fD (ns ++ [z]) (up f z l) = fD ns (up f z l) ++ fD [z] (up f z l) := by unfold fD; rw [List.map_append]
  rw [this, fD_up h]
  simp [fD, up]
theorem setK_old {ns : List Str} {f : Str → List Str} {z : Str} {l : List Str} (h : z ∈ ns) : setK (fD ns f) (.inr z) (.lst (l.map .str)) = fD ns (up f z l) := by
  unfold setK
  rw [any_fD, decide_eq_true h, if_pos rfl]
  unfold fD
  rw [List.map_map]
  refine List.map_congr_left fun x hx => ?_
  by_cases e : x = z
  · subst e; simp [up]
  · simp [up, e]
theorem rowOf_at {Bk : List (Str × List D)} (hn : (Bk.map (·.1)).Nodup) {i : Nat} {z : Str} {ws : List D} (h : Bk[i]? = some (z, ws)) : rowOf Bk z = some ws := by
  have hil := (List.getElem?_eq_some_iff.mp h).1
  have hie := (List.getElem?_eq_some_iff.mp h).2
  unfold rowOf
  rw [List.find?_eq_some_iff_getElem.mpr ⟨by simp, i, hil, hie, fun j hj => ?_⟩]
  · rfl
  · have hjl : j < Bk.length := by omega
    have : (Bk.map (·.1))[j]'(by rw [List.length_map]; omega) ≠ (Bk.map (·.1))[i]'(by rw [List.length_map]; omega) := fun e => by
      have := (List.getElem_inj hn).mp e
      omega
    simp only [List.getElem_map, hie] at this
    simpa using this
theorem fD_lo (ns : List Str) (f : Str → List Str) : (MO.dct (fD ns f)).lo 0 = true := by
  show loK 0 (fD ns f) = true
  induction ns with
  | nil => rfl
  | cons a ns ih =>
    show (D.lo 0 (.lst ((f a).map .str)) && loK 0 (fD ns f)) = true
    rw [ih, show D.lo 0 (.lst ((f a).map .str)) = true from strs_tr _]; rfl
theorem oks_one {m : MO} (h : OKS S) (hm : m.lo 0 = true) : OKS (S ++ [m]) := by
  unfold OKS at *
  rw [List.all_eq_true] at *
  intro x hx
  rw [List.length_append]
  rcases List.mem_append.mp hx with hx | hx
  · exact MO.lo_mono (by omega) x (h x hx)
  · rw [List.mem_singleton.mp hx]
    exact MO.lo_mono (Nat.zero_le _) m hm
theorem one_0 {a : MO} : (S ++ [a])[S.length]? = some a := by simp
theorem wd7 {Q : Str → Prop} : ∀ {k : Nat} {t : D}, ThG 6 Q k t → ThG 7 (fun _ => True) k t
  | 0, _, h => h
  | k + 1, t, h => by
    rcases h with h | ⟨ws, e, hl, h⟩ | ⟨ts, e, hl, h⟩
    · exact .inl h
    · refine .inr (.inl ⟨ws, e, by omega, fun w hw => ?_⟩)
      rcases h w hw with ⟨z, a, b, _⟩ | ⟨t, a, q⟩
      · exact .inl ⟨z, a, b, trivial⟩
      · exact .inr ⟨t, a, wd7 q⟩
    · exact .inr (.inr ⟨ts, e, by omega, fun t ht => wd7 (h t ht)⟩)
theorem wdW7 {Q : Str → Prop} {k : Nat} {w : D} (h : WdG 6 Q k w) : WdG 7 (fun _ => True) k w := by
  rcases h with ⟨z, a, b, _⟩ | ⟨t, a, q⟩
  · exact .inl ⟨z, a, b, trivial⟩
  · exact .inr ⟨t, a, wd7 q⟩
/-- what is known of the names behind t turns -/
def Kn (Bk : List (Str × List D)) (t : Nat) (f : Str → List Str) : Prop := ∀ z ∈ Bk.map (·.1), (f z).length ≤ 760 ∧ (∀ y ∈ f z, y ∈ U Bk ∧ ∃ s, rb (Ed Bk) y s z = true) ∧ ∀ y, rb (Ed Bk) y (t + 1) z = true → y ∈ f z
/-- one name more -/
def more (ns : List Str) (f : Str → List Str) (w : Str) : List Str := w :: (if w ∈ ns then f w else [])
theorem Kn.more_len {Bk : List (Str × List D)} {t : Nat} {f : Str → List Str} (h : Kn Bk t f) (w : Str) : (more (Bk.map (·.1)) f w).length ≤ 761 := by
  unfold more
  split
  · rename_i hw
    have := (h w hw).1
    simp only [List.length_cons]; omega
  · simp
theorem Kn.step {Bk : List (Str × List D)} {t : Nat} {f : Str → List Str} (h : Kn Bk t f) {z : Str} (hz : z ∈ Bk.map (·.1)) :
    (∀ y ∈ (f z).flatMap (more (Bk.map (·.1)) f), y ∈ U Bk ∧ ∃ s, rb (Ed Bk) y s z = true) ∧ (∀ y, rb (Ed Bk) y (t + 2) z = true → y ∈ (f z).flatMap (more (Bk.map (·.1)) f)) := by
  obtain ⟨h1, h2, h3⟩ := h z hz
  constructor
  · intro y hy
    obtain ⟨w, hw, hy⟩ := List.mem_flatMap.mp hy
    obtain ⟨q1, s, q2⟩ := h2 w hw
    unfold more at hy
    rcases List.mem_cons.mp hy with rfl | hy
    · exact ⟨q1, s, q2⟩
    · split at hy
      · rename_i hwn
        obtain ⟨r1, s2, r2⟩ := (h w hwn).2.1 y hy
        exact ⟨r1, _, rb_trans r2 q2⟩
      · exact (List.not_mem_nil hy).elim
  · intro y hy
    rw [rb_succ] at hy
    obtain ⟨w, hw, hy⟩ := hy
    have hwf : w ∈ f z := h3 w (rb_le (t := 1) (by omega) (by rw [rb_succ]; exact ⟨w, hw, .inl rfl⟩))
    refine List.mem_flatMap.mpr ⟨w, hwf, ?_⟩
    unfold more
    rcases hy with rfl | hy
    · exact List.mem_cons_self
    · have hwn : w ∈ Bk.map (·.1) := by
        rw [rb_succ] at hy
        obtain ⟨v, hv, _⟩ := hy
        unfold Ed at hv
        split at hv
        · rename_i ws e
          exact List.mem_map.mpr ⟨(w, ws), rowOf_mem e, rfl⟩
        · exact (List.not_mem_nil hv).elim
      rw [if_pos hwn]
      exact List.mem_cons_of_mem _ ((h w hwn).2.2 y hy)
theorem comes_law {Bk : List (Str × List D)} {N : Nat} (hfu : 1000 ≤ fu) (hB : BookOk Bk) (hN : 3 ≤ N) (hS : OKS S) (hF : ∀ f, Kn Bk Bk.length f → F (.ref S.length) (S ++ [.dct (fD (Bk.map (·.1)) f)])) : wp (den fu N i_l_comes [bookD Bk] S) F E := by
  obtain ⟨N', rfl⟩ : ∃ N', N = N' + 1 := ⟨N - 1, by omega⟩
  show wp (runDef true 8 (b_l_comes fu (den fu N')) _ _) _ _
  have hU := U_len hB
  simp only [b_l_comes, bookD, srcL_tup, wp_ok, wp_ret, wp_stuck, wp_bad, wp_bnd, wp_if, wp_fif, wps_ok_nx, wps_ok_rt, wps_ok_bk, wps_ok_ct, wps_ok_xc, wps_bad, wps_lft, wps_seq, wps_nil, wps_ret, wps_expr, wps_asg, wps_if, wp_run, wps_for, wps_while, wp_comp, wp_var, wp_C, wp_bin, wp_un, wp_T, wp_Tb, wp_asBl, wp_truthBl, wp_bAnd, wp_bOr, wp_bNot, wp_eIf, wp_eAnd, wp_eOr, wp_eNot, blCase_bl, wp_chain, wp_aNil, wp_aCons, wp_tup, wp_lst, wp_lstM, wp_call, wp_cl1, wp_cl2, wp_cl3, wp_cl4, wp_cl5, wp_meth, wp_isi, wp_oNone, wp_oSome, wp_sl, wp_it, wp_range1, wp_range2, wp_bYes, gEq_str, gNe_str, gEq_int, gNe_int, gEq_bl, gNe_bl, gIs_bl, gIsNot_bl, gAdd_int, gSub_int, gC_int, gI_int, gAdd_str, gAdd_tup, gAdd_lst, gNeg_int, gIx_tup, gIx_lst, gLen_tup, gLen_lst, gLen_str, gInt_int, gInt_bl, gTuple_lst, gTuple_tup, gList_lst, gList_tup, gSl_tup, gSl_lst, gSl_fl, gSl_str, srcL_tup, srcL_lst, srcL_fl, srcL_str, srcR1_int, typN, startR, List.map_cons, List.map_nil, List.length_cons, List.length_nil, Nat.reduceAdd, Nat.reduceSub, Nat.zero_add, Nat.sub_self, Nat.sub_zero, List.replicate_zero, List.replicate_succ, List.cons_append, List.nil_append, List.append_nil, List.getElem?_cons_zero, List.getElem?_cons_succ, List.set_cons_zero, List.set_cons_succ, List.set_nil, List.getElem?_nil, Option.some.injEq, exists_eq_left', exists_eq_left, exists_eq_right, reduceCtorEq, false_and, and_false, true_and, and_true, exists_false, exists_const, wipeR, Nat.zero_le, String.reduceEq, D.int.injEq, D.str.injEq, D.bl.injEq, atI_0, atI_1, atI_2, atI_3, atI_4, beq_self_eq_true, not_true_eq_false, not_false_eq_true, Int.cast_ofNat_Int, Int.reduceEq, Int.reduceLE, Int.reduceLT, Int.reduceAdd, Int.reduceSub, Int.reduceMul, Int.reduceNeg, if_true, if_false, ite_true, ite_false, Bool.false_eq_true, if_neg, if_pos, decide_eq_true_eq, Bool.not_eq_true', decide_eq_false_iff_not, eq_self_iff_true, decide_true, decide_false, Bool.not_true, Bool.not_false, wps_raise, wps_try, wps_tryAs, tryCase_t, tryCase_f, tbl_hit, suiteOf_hit, wp_eDct, wp_eDGet, wp_eDNew, wp_eDDef, wps_dput]
  refine wps_forM (fun i ρ S' => ∃ f o3 o4 o5 o7, S' = S ++ [.dct (fD ((Bk.map (·.1)).take i) f)] ∧ ρ = [some (.tup (Bk.map entD)), some (.ref S.length), none, o3, o4, o5, none, o7] ∧ ∀ z ∈ (Bk.map (·.1)).take i, ∀ y, (f z).count y = (Ed Bk z).count y) (fun _ _ _ _ => trivial) ?_ ?_ ⟨fun _ => [], none, none, none, none, rfl, rfl, fun z h => (List.not_mem_nil h).elim⟩
  · rintro i d ρ S' hd ⟨f, o3, o4, o5, o7, rfl, rfl, hf⟩
    rw [List.getElem?_map, Option.map_eq_some_iff] at hd
    obtain ⟨⟨z, ws⟩, hp, rfl⟩ := hd
    refine ⟨_, rfl, ?_⟩
    simp only [wp_ok, wp_ret, wp_stuck, wp_bad, wp_bnd, wp_if, wp_fif, wps_ok_nx, wps_ok_rt, wps_ok_bk, wps_ok_ct, wps_ok_xc, wps_bad, wps_lft, wps_seq, wps_nil, wps_ret, wps_expr, wps_asg, wps_if, wp_run, wps_for, wps_while, wp_comp, wp_var, wp_C, wp_bin, wp_un, wp_T, wp_Tb, wp_asBl, wp_truthBl, wp_bAnd, wp_bOr, wp_bNot, wp_eIf, wp_eAnd, wp_eOr, wp_eNot, blCase_bl, wp_chain, wp_aNil, wp_aCons, wp_tup, wp_lst, wp_lstM, wp_call, wp_cl1, wp_cl2, wp_cl3, wp_cl4, wp_cl5, wp_meth, wp_isi, wp_oNone, wp_oSome, wp_sl, wp_it, wp_range1, wp_range2, wp_bYes, gEq_str, gNe_str, gEq_int, gNe_int, gEq_bl, gNe_bl, gIs_bl, gIsNot_bl, gAdd_int, gSub_int, gC_int, gI_int, gAdd_str, gAdd_tup, gAdd_lst, gNeg_int, gIx_tup, gIx_lst, gLen_tup, gLen_lst, gLen_str, gInt_int, gInt_bl, gTuple_lst, gTuple_tup, gList_lst, gList_tup, gSl_tup, gSl_lst, gSl_fl, gSl_str, srcL_tup, srcL_lst, srcL_fl, srcL_str, srcR1_int, typN, startR, List.map_cons, List.map_nil, List.length_cons, List.length_nil, Nat.reduceAdd, Nat.reduceSub, Nat.zero_add, Nat.sub_self, Nat.sub_zero, List.replicate_zero, List.replicate_succ, List.cons_append, List.nil_append, List.append_nil, List.getElem?_cons_zero, List.getElem?_cons_succ, List.set_cons_zero, List.set_cons_succ, List.set_nil, List.getElem?_nil, Option.some.injEq, exists_eq_left', exists_eq_left, exists_eq_right, reduceCtorEq, false_and, and_false, true_and, and_true, exists_false, exists_const, wipeR, Nat.zero_le, String.reduceEq, D.int.injEq, D.str.injEq, D.bl.injEq, atI_0, atI_1, atI_2, atI_3, atI_4, beq_self_eq_true, not_true_eq_false, not_false_eq_true, Int.cast_ofNat_Int, Int.reduceEq, Int.reduceLE, Int.reduceLT, Int.reduceAdd, Int.reduceSub, Int.reduceMul, Int.reduceNeg, if_true, if_false, ite_true, ite_false, Bool.false_eq_true, if_neg, if_pos, decide_eq_true_eq, Bool.not_eq_true', decide_eq_false_iff_not, eq_self_iff_true, decide_true, decide_false, Bool.not_true, Bool.not_false, wps_raise, wps_try, wps_tryAs, tryCase_t, tryCase_f, tbl_hit, suiteOf_hit, wp_eDct, wp_eDGet, wp_eDNew, wp_eDDef, wps_dput]
    have hzi : (Bk.map (·.1))[i]? = some z := by rw [List.getElem?_map, hp]; rfl
    have htk : (Bk.map (·.1)).take (i + 1) = (Bk.map (·.1)).take i ++ [z] := by rw [List.take_succ, hzi]; rfl
    have hzn : z ∉ (Bk.map (·.1)).take i := fun h => by
      have hnd := hB.nd
      rw [← List.take_append_drop (i + 1) (Bk.map (·.1)), htk] at hnd
      have := (List.nodup_append.mp (List.nodup_append.mp hnd).1).2.2 z h z (by simp)
      exact this rfl
    have hr : RowOk ws := hB.row _ (List.mem_of_getElem? hp)
    have hEd : Ed Bk z = ws.flatMap (nmW 19) := by unfold Ed; rw [rowOf_at hB.nd hp]
    refine named_ok hfu hr.1 (fun w hw => wdW7 (hr.2.1 w hw)) (by have := hr.2.2; omega) (by omega) (oks_one hS (fD_lo _ _)) fun l hl => ?_
    rw [← hEd] at hl
    have hll : l.length ≤ 95 := by
      have h1 : l.Perm (Ed Bk z) := List.perm_iff_count.mpr hl
      rw [h1.length_eq, hEd]; exact hr.names
    simp only [srcL_lst]
    refine ⟨by rw [List.length_map]; exact small_line (by omega), comp_pick some (fun d hd => ⟨true, fun {F E} => by rw [wp_bYes], ?_⟩) ?_⟩
    · rw [if_pos rfl]
      exact ⟨d, rfl, fun {F E} => by simp only [wp_ok, wp_ret, wp_stuck, wp_bad, wp_bnd, wp_if, wp_fif, wps_ok_nx, wps_ok_rt, wps_ok_bk, wps_ok_ct, wps_ok_xc, wps_bad, wps_lft, wps_seq, wps_nil, wps_ret, wps_expr, wps_asg, wps_if, wp_run, wps_for, wps_while, wp_comp, wp_var, wp_C, wp_bin, wp_un, wp_T, wp_Tb, wp_asBl, wp_truthBl, wp_bAnd, wp_bOr, wp_bNot, wp_eIf, wp_eAnd, wp_eOr, wp_eNot, blCase_bl, wp_chain, wp_aNil, wp_aCons, wp_tup, wp_lst, wp_lstM, wp_call, wp_cl1, wp_cl2, wp_cl3, wp_cl4, wp_cl5, wp_meth, wp_isi, wp_oNone, wp_oSome, wp_sl, wp_it, wp_range1, wp_range2, wp_bYes, gEq_str, gNe_str, gEq_int, gNe_int, gEq_bl, gNe_bl, gIs_bl, gIsNot_bl, gAdd_int, gSub_int, gC_int, gI_int, gAdd_str, gAdd_tup, gAdd_lst, gNeg_int, gIx_tup, gIx_lst, gLen_tup, gLen_lst, gLen_str, gInt_int, gInt_bl, gTuple_lst, gTuple_tup, gList_lst, gList_tup, gSl_tup, gSl_lst, gSl_fl, gSl_str, srcL_tup, srcL_lst, srcL_fl, srcL_str, srcR1_int, typN, startR, List.map_cons, List.map_nil, List.length_cons, List.length_nil, Nat.reduceAdd, Nat.reduceSub, Nat.zero_add, Nat.sub_self, Nat.sub_zero, List.replicate_zero, List.replicate_succ, List.cons_append, List.nil_append, List.append_nil, List.getElem?_cons_zero, List.getElem?_cons_succ, List.set_cons_zero, List.set_cons_succ, List.set_nil, List.getElem?_nil, Option.some.injEq, exists_eq_left', exists_eq_left, exists_eq_right, reduceCtorEq, false_and, and_false, true_and, and_true, exists_false, exists_const, wipeR, Nat.zero_le, String.reduceEq, D.int.injEq, D.str.injEq, D.bl.injEq, atI_0, atI_1, atI_2, atI_3, atI_4, beq_self_eq_true, not_true_eq_false, not_false_eq_true, Int.cast_ofNat_Int, Int.reduceEq, Int.reduceLE, Int.reduceLT, Int.reduceAdd, Int.reduceSub, Int.reduceMul, Int.reduceNeg, if_true, if_false, ite_true, ite_false, Bool.false_eq_true, if_neg, if_pos, decide_eq_true_eq, Bool.not_eq_true', decide_eq_false_iff_not, eq_self_iff_true, decide_true, decide_false, Bool.not_true, Bool.not_false, wps_raise, wps_try, wps_tryAs, tryCase_t, tryCase_f, tbl_hit, suiteOf_hit, wp_eDct, wp_eDGet, wp_eDNew, wp_eDDef, wps_dput]⟩
    rw [List.filterMap_some, gDPut_of one_0 (show keyD (.str z) = some (.inr z) from rfl), setK_new hzn, set_end]
    refine ⟨by unfold fD; rw [List.length_map, List.length_take]; have := hB.len; simp only [List.length_map]; omega, up f z l, _, _, _, _, by rw [htk], rfl, fun x hx y => ?_⟩
    rw [htk, List.mem_append] at hx
    by_cases hxz : x = z
    · subst hxz
      simp only [up, if_true]
      exact hl y
    · simp only [up, hxz, if_false]
      rcases hx with hx | hx
      · exact hf x hx y
      · exact absurd (List.mem_singleton.mp hx) hxz
  · rintro ρ S' ⟨f, o3, o4, o5, o7, rfl, rfl, hf⟩
    rw [List.length_map, List.take_of_length_le (by simp)] at hf ⊢
    simp only [wp_ok, wp_ret, wp_stuck, wp_bad, wp_bnd, wp_if, wp_fif, wps_ok_nx, wps_ok_rt, wps_ok_bk, wps_ok_ct, wps_ok_xc, wps_bad, wps_lft, wps_seq, wps_nil, wps_ret, wps_expr, wps_asg, wps_if, wp_run, wps_for, wps_while, wp_comp, wp_var, wp_C, wp_bin, wp_un, wp_T, wp_Tb, wp_asBl, wp_truthBl, wp_bAnd, wp_bOr, wp_bNot, wp_eIf, wp_eAnd, wp_eOr, wp_eNot, blCase_bl, wp_chain, wp_aNil, wp_aCons, wp_tup, wp_lst, wp_lstM, wp_call, wp_cl1, wp_cl2, wp_cl3, wp_cl4, wp_cl5, wp_meth, wp_isi, wp_oNone, wp_oSome, wp_sl, wp_it, wp_range1, wp_range2, wp_bYes, gEq_str, gNe_str, gEq_int, gNe_int, gEq_bl, gNe_bl, gIs_bl, gIsNot_bl, gAdd_int, gSub_int, gC_int, gI_int, gAdd_str, gAdd_tup, gAdd_lst, gNeg_int, gIx_tup, gIx_lst, gLen_tup, gLen_lst, gLen_str, gInt_int, gInt_bl, gTuple_lst, gTuple_tup, gList_lst, gList_tup, gSl_tup, gSl_lst, gSl_fl, gSl_str, srcL_tup, srcL_lst, srcL_fl, srcL_str, srcR1_int, typN, startR, List.map_cons, List.map_nil, List.length_cons, List.length_nil, Nat.reduceAdd, Nat.reduceSub, Nat.zero_add, Nat.sub_self, Nat.sub_zero, List.replicate_zero, List.replicate_succ, List.cons_append, List.nil_append, List.append_nil, List.getElem?_cons_zero, List.getElem?_cons_succ, List.set_cons_zero, List.set_cons_succ, List.set_nil, List.getElem?_nil, Option.some.injEq, exists_eq_left', exists_eq_left, exists_eq_right, reduceCtorEq, false_and, and_false, true_and, and_true, exists_false, exists_const, wipeR, Nat.zero_le, String.reduceEq, D.int.injEq, D.str.injEq, D.bl.injEq, atI_0, atI_1, atI_2, atI_3, atI_4, beq_self_eq_true, not_true_eq_false, not_false_eq_true, Int.cast_ofNat_Int, Int.reduceEq, Int.reduceLE, Int.reduceLT, Int.reduceAdd, Int.reduceSub, Int.reduceMul, Int.reduceNeg, if_true, if_false, ite_true, ite_false, Bool.false_eq_true, if_neg, if_pos, decide_eq_true_eq, Bool.not_eq_true', decide_eq_false_iff_not, eq_self_iff_true, decide_true, decide_false, Bool.not_true, Bool.not_false, wps_raise, wps_try, wps_tryAs, tryCase_t, tryCase_f, tbl_hit, suiteOf_hit, wp_eDct, wp_eDGet, wp_eDNew, wp_eDDef, wps_dput]
    have k0 : Kn Bk 0 f := fun z hz => by
      have hp : (f z).Perm (Ed Bk z) := List.perm_iff_count.mpr (hf z hz)
      obtain ⟨⟨z', ws⟩, hm, rfl⟩ := List.mem_map.mp hz
      obtain ⟨i, hi⟩ := List.mem_iff_getElem?.mp hm
      have hEd : Ed Bk z' = ws.flatMap (nmW 19) := by unfold Ed; rw [rowOf_at hB.nd hi]
      refine ⟨?_, fun y hy => ⟨Ed_U (hp.mem_iff.mp hy), 1, ?_⟩, fun y hy => ?_⟩
      · have := (hB.row _ hm).names
        rw [hp.length_eq]
        simp only at this
        rw [hEd]; omega
      · rw [rb_succ]; exact ⟨y, hp.mem_iff.mp hy, .inl rfl⟩
      · rw [rb_succ] at hy
        obtain ⟨w, hw, h | h⟩ := hy
        · subst h; exact hp.mem_iff.mpr hw
        · cases h
    refine ⟨by unfold bnd62; rw [List.length_map]; have := hB.len; exact decide_eq_true (by omega), ?_⟩
    rw [List.length_map, Int.toNat_natCast]
    refine wps_forM (fun t ρ S' => ∃ f o2 o3 o4 o5 o6 o7, S' = S ++ [.dct (fD (Bk.map (·.1)) f)] ∧ ρ = [some (.tup (Bk.map entD)), some (.ref S.length), o2, o3, o4, o5, o6, o7] ∧ Kn Bk t f) (fun _ _ _ _ => trivial) ?_ ?_ ⟨f, _, _, _, _, _, _, rfl, rfl, k0⟩
    · rintro t d ρ S' hd ⟨f, o2, o3, o4, o5, o6, o7, rfl, rfl, hk⟩
      refine ⟨_, rfl, ?_⟩
      simp only [gListK_of (atD_ref one_0), srcL_lst, wp_ok, wp_ret, wp_stuck, wp_bad, wp_bnd, wp_if, wp_fif, wps_ok_nx, wps_ok_rt, wps_ok_bk, wps_ok_ct, wps_ok_xc, wps_bad, wps_lft, wps_seq, wps_nil, wps_ret, wps_expr, wps_asg, wps_if, wp_run, wps_for, wps_while, wp_comp, wp_var, wp_C, wp_bin, wp_un, wp_T, wp_Tb, wp_asBl, wp_truthBl, wp_bAnd, wp_bOr, wp_bNot, wp_eIf, wp_eAnd, wp_eOr, wp_eNot, blCase_bl, wp_chain, wp_aNil, wp_aCons, wp_tup, wp_lst, wp_lstM, wp_call, wp_cl1, wp_cl2, wp_cl3, wp_cl4, wp_cl5, wp_meth, wp_isi, wp_oNone, wp_oSome, wp_sl, wp_it, wp_range1, wp_range2, wp_bYes, gEq_str, gNe_str, gEq_int, gNe_int, gEq_bl, gNe_bl, gIs_bl, gIsNot_bl, gAdd_int, gSub_int, gC_int, gI_int, gAdd_str, gAdd_tup, gAdd_lst, gNeg_int, gIx_tup, gIx_lst, gLen_tup, gLen_lst, gLen_str, gInt_int, gInt_bl, gTuple_lst, gTuple_tup, gList_lst, gList_tup, gSl_tup, gSl_lst, gSl_fl, gSl_str, srcL_tup, srcL_lst, srcL_fl, srcL_str, srcR1_int, typN, startR, List.map_cons, List.map_nil, List.length_cons, List.length_nil, Nat.reduceAdd, Nat.reduceSub, Nat.zero_add, Nat.sub_self, Nat.sub_zero, List.replicate_zero, List.replicate_succ, List.cons_append, List.nil_append, List.append_nil, List.getElem?_cons_zero, List.getElem?_cons_succ, List.set_cons_zero, List.set_cons_succ, List.set_nil, List.getElem?_nil, Option.some.injEq, exists_eq_left', exists_eq_left, exists_eq_right, reduceCtorEq, false_and, and_false, true_and, and_true, exists_false, exists_const, wipeR, Nat.zero_le, String.reduceEq, D.int.injEq, D.str.injEq, D.bl.injEq, atI_0, atI_1, atI_2, atI_3, atI_4, beq_self_eq_true, not_true_eq_false, not_false_eq_true, Int.cast_ofNat_Int, Int.reduceEq, Int.reduceLE, Int.reduceLT, Int.reduceAdd, Int.reduceSub, Int.reduceMul, Int.reduceNeg, if_true, if_false, ite_true, ite_false, Bool.false_eq_true, if_neg, if_pos, decide_eq_true_eq, Bool.not_eq_true', decide_eq_false_iff_not, eq_self_iff_true, decide_true, decide_false, Bool.not_true, Bool.not_false, wps_raise, wps_try, wps_tryAs, tryCase_t, tryCase_f, tbl_hit, suiteOf_hit, wp_eDct, wp_eDGet, wp_eDNew, wp_eDDef, wps_dput]
      have hkeys : (fD (Bk.map (·.1)) f).map (fun kv => ofKey kv.1) = (Bk.map (·.1)).map .str := by
        unfold fD
        rw [List.map_map]; rfl
      rw [hkeys]
      refine wps_forM (fun i ρ S' => ∃ f o3 o6 o7, S' = S ++ [.dct (fD (Bk.map (·.1)) f)] ∧ ρ = [some (.tup (Bk.map entD)), some (.ref S.length), some d, o3, o4, o5, o6, o7] ∧ Kn Bk t f ∧ ∀ z ∈ (Bk.map (·.1)).take i, ∀ y, rb (Ed Bk) y (t + 2) z = true → y ∈ f z) (fun _ _ _ _ => trivial) ?_ ?_ ⟨f, _, _, _, rfl, rfl, hk, fun z h => (List.not_mem_nil h).elim⟩
      · rintro i d2 ρ S' hd2 ⟨f, o3, o6, o7, rfl, rfl, hk, hi⟩
        rw [List.getElem?_map, Option.map_eq_some_iff] at hd2
        obtain ⟨z, hz, rfl⟩ := hd2
        have hzm : z ∈ Bk.map (·.1) := List.mem_of_getElem? hz
        refine ⟨_, rfl, ?_⟩
        have hget : getK (fD (Bk.map (·.1)) f) (.inr z) = some (.lst ((f z).map .str)) := by rw [getK_fD, if_pos hzm]
        simp only [gDGet_of (atD_ref one_0) (show keyD (.str z) = some (.inr z) from rfl) hget, srcL_lst, wp_ok, wp_ret, wp_stuck, wp_bad, wp_bnd, wp_if, wp_fif, wps_ok_nx, wps_ok_rt, wps_ok_bk, wps_ok_ct, wps_ok_xc, wps_bad, wps_lft, wps_seq, wps_nil, wps_ret, wps_expr, wps_asg, wps_if, wp_run, wps_for, wps_while, wp_comp, wp_var, wp_C, wp_bin, wp_un, wp_T, wp_Tb, wp_asBl, wp_truthBl, wp_bAnd, wp_bOr, wp_bNot, wp_eIf, wp_eAnd, wp_eOr, wp_eNot, blCase_bl, wp_chain, wp_aNil, wp_aCons, wp_tup, wp_lst, wp_lstM, wp_call, wp_cl1, wp_cl2, wp_cl3, wp_cl4, wp_cl5, wp_meth, wp_isi, wp_oNone, wp_oSome, wp_sl, wp_it, wp_range1, wp_range2, wp_bYes, gEq_str, gNe_str, gEq_int, gNe_int, gEq_bl, gNe_bl, gIs_bl, gIsNot_bl, gAdd_int, gSub_int, gC_int, gI_int, gAdd_str, gAdd_tup, gAdd_lst, gNeg_int, gIx_tup, gIx_lst, gLen_tup, gLen_lst, gLen_str, gInt_int, gInt_bl, gTuple_lst, gTuple_tup, gList_lst, gList_tup, gSl_tup, gSl_lst, gSl_fl, gSl_str, srcL_tup, srcL_lst, srcL_fl, srcL_str, srcR1_int, typN, startR, List.map_cons, List.map_nil, List.length_cons, List.length_nil, Nat.reduceAdd, Nat.reduceSub, Nat.zero_add, Nat.sub_self, Nat.sub_zero, List.replicate_zero, List.replicate_succ, List.cons_append, List.nil_append, List.append_nil, List.getElem?_cons_zero, List.getElem?_cons_succ, List.set_cons_zero, List.set_cons_succ, List.set_nil, List.getElem?_nil, Option.some.injEq, exists_eq_left', exists_eq_left, exists_eq_right, reduceCtorEq, false_and, and_false, true_and, and_true, exists_false, exists_const, wipeR, Nat.zero_le, String.reduceEq, D.int.injEq, D.str.injEq, D.bl.injEq, atI_0, atI_1, atI_2, atI_3, atI_4, beq_self_eq_true, not_true_eq_false, not_false_eq_true, Int.cast_ofNat_Int, Int.reduceEq, Int.reduceLE, Int.reduceLT, Int.reduceAdd, Int.reduceSub, Int.reduceMul, Int.reduceNeg, if_true, if_false, ite_true, ite_false, Bool.false_eq_true, if_neg, if_pos, decide_eq_true_eq, Bool.not_eq_true', decide_eq_false_iff_not, eq_self_iff_true, decide_true, decide_false, Bool.not_true, Bool.not_false, wps_raise, wps_try, wps_tryAs, tryCase_t, tryCase_f, tbl_hit, suiteOf_hit, wp_eDct, wp_eDGet, wp_eDNew, wp_eDDef, wps_dput]
        obtain ⟨s1, s2⟩ := hk.step hzm
        have hfz := (hk z hzm).1
        refine wps_forM (fun k ρ S' => ∃ o7, S' = S ++ [.dct (fD (Bk.map (·.1)) f)] ∧ ρ = [some (.tup (Bk.map entD)), some (.ref S.length), some d, some (.str z), o4, o5, some (.lst ((((f z).take k).flatMap (more (Bk.map (·.1)) f)).map .str)), o7]) (fun _ _ _ _ => trivial) ?_ ?_ ⟨_, rfl, rfl⟩
        · rintro k d3 ρ S' hd3 ⟨o7, rfl, rfl⟩
          rw [List.getElem?_map, Option.map_eq_some_iff] at hd3
          obtain ⟨w, hw, rfl⟩ := hd3
          refine ⟨_, rfl, ?_⟩
          have hgw : (getK (fD (Bk.map (·.1)) f) (.inr w)).getD (.lst []) = .lst ((if w ∈ Bk.map (·.1) then f w else []).map .str) := by
            rw [getK_fD]
            split <;> rfl
          have hm1 := hk.more_len w
          have hm2 := flat_bound (l := (f z).take k) (c := 761) fun x _ => hk.more_len x
          have hm3 : ((f z).take k).length * 761 ≤ 760 * 761 := Nat.mul_le_mul_right _ (by rw [List.length_take]; omega)
          unfold more at hm1
          rw [List.length_cons] at hm1
          simp only [atD_ref one_0, gDDef_of (atD_ref one_0) (show keyD (.str w) = some (.inr w) from rfl), hgw, List.length_map, List.length_append, wp_ok, wp_ret, wp_stuck, wp_bad, wp_bnd, wp_if, wp_fif, wps_ok_nx, wps_ok_rt, wps_ok_bk, wps_ok_ct, wps_ok_xc, wps_bad, wps_lft, wps_seq, wps_nil, wps_ret, wps_expr, wps_asg, wps_if, wp_run, wps_for, wps_while, wp_comp, wp_var, wp_C, wp_bin, wp_un, wp_T, wp_Tb, wp_asBl, wp_truthBl, wp_bAnd, wp_bOr, wp_bNot, wp_eIf, wp_eAnd, wp_eOr, wp_eNot, blCase_bl, wp_chain, wp_aNil, wp_aCons, wp_tup, wp_lst, wp_lstM, wp_call, wp_cl1, wp_cl2, wp_cl3, wp_cl4, wp_cl5, wp_meth, wp_isi, wp_oNone, wp_oSome, wp_sl, wp_it, wp_range1, wp_range2, wp_bYes, gEq_str, gNe_str, gEq_int, gNe_int, gEq_bl, gNe_bl, gIs_bl, gIsNot_bl, gAdd_int, gSub_int, gC_int, gI_int, gAdd_str, gAdd_tup, gAdd_lst, gNeg_int, gIx_tup, gIx_lst, gLen_tup, gLen_lst, gLen_str, gInt_int, gInt_bl, gTuple_lst, gTuple_tup, gList_lst, gList_tup, gSl_tup, gSl_lst, gSl_fl, gSl_str, srcL_tup, srcL_lst, srcL_fl, srcL_str, srcR1_int, typN, startR, List.map_cons, List.map_nil, List.length_cons, List.length_nil, Nat.reduceAdd, Nat.reduceSub, Nat.zero_add, Nat.sub_self, Nat.sub_zero, List.replicate_zero, List.replicate_succ, List.cons_append, List.nil_append, List.append_nil, List.getElem?_cons_zero, List.getElem?_cons_succ, List.set_cons_zero, List.set_cons_succ, List.set_nil, List.getElem?_nil, Option.some.injEq, exists_eq_left', exists_eq_left, exists_eq_right, reduceCtorEq, false_and, and_false, true_and, and_true, exists_false, exists_const, wipeR, Nat.zero_le, String.reduceEq, D.int.injEq, D.str.injEq, D.bl.injEq, atI_0, atI_1, atI_2, atI_3, atI_4, beq_self_eq_true, not_true_eq_false, not_false_eq_true, Int.cast_ofNat_Int, Int.reduceEq, Int.reduceLE, Int.reduceLT, Int.reduceAdd, Int.reduceSub, Int.reduceMul, Int.reduceNeg, if_true, if_false, ite_true, ite_false, Bool.false_eq_true, if_neg, if_pos, decide_eq_true_eq, Bool.not_eq_true', decide_eq_false_iff_not, eq_self_iff_true, decide_true, decide_false, Bool.not_true, Bool.not_false, wps_raise, wps_try, wps_tryAs, tryCase_t, tryCase_f, tbl_hit, suiteOf_hit, wp_eDct, wp_eDGet, wp_eDNew, wp_eDDef, wps_dput]
          refine ⟨small_line (by omega), small_line (by omega), ⟨_, rfl⟩, small_line (by omega), some (.str w), ?_⟩
          rw [flat_take _ hw, List.map_append]
          unfold more
          simp
        · rintro ρ S' ⟨o7, rfl, rfl⟩
          rw [List.length_map, List.take_length]
          obtain ⟨u1, u2⟩ := dedup_facts ((f z).flatMap (more (Bk.map (·.1)) f))
          have hdl : (dedup ((f z).flatMap (more (Bk.map (·.1)) f))).length ≤ 760 := Nat.le_trans (nodup_len u1 fun x hx => (s1 x ((u2 x).mp hx)).1) hU
          have gs : ∀ {S : Sto} {F E}, wp (gSortSet (.lst (((f z).flatMap (more (Bk.map (·.1)) f)).map .str)) S) F E ↔ F (.lst ((sortT (dedup ((f z).flatMap (more (Bk.map (·.1)) f)))).map .str)) S := fun {S F E} => by
            unfold gSortSet
            simp only [show iSeq S (.lst (((f z).flatMap (more (Bk.map (·.1)) f)).map .str)) = some (((f z).flatMap (more (Bk.map (·.1)) f)).map .str) from rfl, Option.bind_some, strsOf_map]
            rw [if_pos (by unfold PySem.scanBound; omega)]
            exact Iff.rfl
          simp only [gs, gDPut_of one_0 (show keyD (.str z) = some (.inr z) from rfl), setK_old hzm, set_end, wp_ok, wp_ret, wp_stuck, wp_bad, wp_bnd, wp_if, wp_fif, wps_ok_nx, wps_ok_rt, wps_ok_bk, wps_ok_ct, wps_ok_xc, wps_bad, wps_lft, wps_seq, wps_nil, wps_ret, wps_expr, wps_asg, wps_if, wp_run, wps_for, wps_while, wp_comp, wp_var, wp_C, wp_bin, wp_un, wp_T, wp_Tb, wp_asBl, wp_truthBl, wp_bAnd, wp_bOr, wp_bNot, wp_eIf, wp_eAnd, wp_eOr, wp_eNot, blCase_bl, wp_chain, wp_aNil, wp_aCons, wp_tup, wp_lst, wp_lstM, wp_call, wp_cl1, wp_cl2, wp_cl3, wp_cl4, wp_cl5, wp_meth, wp_isi, wp_oNone, wp_oSome, wp_sl, wp_it, wp_range1, wp_range2, wp_bYes, gEq_str, gNe_str, gEq_int, gNe_int, gEq_bl, gNe_bl, gIs_bl, gIsNot_bl, gAdd_int, gSub_int, gC_int, gI_int, gAdd_str, gAdd_tup, gAdd_lst, gNeg_int, gIx_tup, gIx_lst, gLen_tup, gLen_lst, gLen_str, gInt_int, gInt_bl, gTuple_lst, gTuple_tup, gList_lst, gList_tup, gSl_tup, gSl_lst, gSl_fl, gSl_str, srcL_tup, srcL_lst, srcL_fl, srcL_str, srcR1_int, typN, startR, List.map_cons, List.map_nil, List.length_cons, List.length_nil, Nat.reduceAdd, Nat.reduceSub, Nat.zero_add, Nat.sub_self, Nat.sub_zero, List.replicate_zero, List.replicate_succ, List.cons_append, List.nil_append, List.append_nil, List.getElem?_cons_zero, List.getElem?_cons_succ, List.set_cons_zero, List.set_cons_succ, List.set_nil, List.getElem?_nil, Option.some.injEq, exists_eq_left', exists_eq_left, exists_eq_right, reduceCtorEq, false_and, and_false, true_and, and_true, exists_false, exists_const, wipeR, Nat.zero_le, String.reduceEq, D.int.injEq, D.str.injEq, D.bl.injEq, atI_0, atI_1, atI_2, atI_3, atI_4, beq_self_eq_true, not_true_eq_false, not_false_eq_true, Int.cast_ofNat_Int, Int.reduceEq, Int.reduceLE, Int.reduceLT, Int.reduceAdd, Int.reduceSub, Int.reduceMul, Int.reduceNeg, if_true, if_false, ite_true, ite_false, Bool.false_eq_true, if_neg, if_pos, decide_eq_true_eq, Bool.not_eq_true', decide_eq_false_iff_not, eq_self_iff_true, decide_true, decide_false, Bool.not_true, Bool.not_false, wps_raise, wps_try, wps_tryAs, tryCase_t, tryCase_f, tbl_hit, suiteOf_hit, wp_eDct, wp_eDGet, wp_eDNew, wp_eDDef, wps_dput]
          have hup : Kn Bk t (up f z (sortT (dedup ((f z).flatMap (more (Bk.map (·.1)) f))))) := fun x hx => by
            by_cases hxz : x = z
            · subst hxz
              simp only [up, if_true]
              refine ⟨by rw [len_sortT]; exact hdl, fun y hy => ?_, fun y hy => ?_⟩
              · rw [mem_sortT, u2] at hy
                exact s1 y hy
              · rw [mem_sortT, u2]
                exact s2 y (rb_mono hy)
            · simp only [up, hxz, if_false]
              exact hk x hx
          refine ⟨by unfold fD; rw [List.length_map, List.length_map]; have := hB.len; omega, _, _, _, _, rfl, rfl, hup, fun x hx y hy => ?_⟩
          rw [List.take_succ, hz, List.mem_append] at hx
          by_cases hxz : x = z
          · subst hxz
            simp only [up, if_true]
            rw [mem_sortT, u2]
            exact s2 y hy
          · simp only [up, hxz, if_false]
            rcases hx with hx | hx
            · exact hi x hx y hy
            · exact absurd (by simpa using hx) hxz
      · rintro ρ S' ⟨f, o3, o6, o7, rfl, rfl, hk, hi⟩
        rw [List.length_map, List.take_length] at hi
        exact ⟨f, _, _, _, _, _, _, rfl, rfl, fun z hz => ⟨(hk z hz).1, (hk z hz).2.1, hi z hz⟩⟩
    · rintro ρ S' ⟨f, o2, o3, o4, o5, o6, o7, rfl, rfl, hk⟩
      rw [rangeD_len] at hk
      simp only [wp_ok, wp_ret, wp_stuck, wp_bad, wp_bnd, wp_if, wp_fif, wps_ok_nx, wps_ok_rt, wps_ok_bk, wps_ok_ct, wps_ok_xc, wps_bad, wps_lft, wps_seq, wps_nil, wps_ret, wps_expr, wps_asg, wps_if, wp_run, wps_for, wps_while, wp_comp, wp_var, wp_C, wp_bin, wp_un, wp_T, wp_Tb, wp_asBl, wp_truthBl, wp_bAnd, wp_bOr, wp_bNot, wp_eIf, wp_eAnd, wp_eOr, wp_eNot, blCase_bl, wp_chain, wp_aNil, wp_aCons, wp_tup, wp_lst, wp_lstM, wp_call, wp_cl1, wp_cl2, wp_cl3, wp_cl4, wp_cl5, wp_meth, wp_isi, wp_oNone, wp_oSome, wp_sl, wp_it, wp_range1, wp_range2, wp_bYes, gEq_str, gNe_str, gEq_int, gNe_int, gEq_bl, gNe_bl, gIs_bl, gIsNot_bl, gAdd_int, gSub_int, gC_int, gI_int, gAdd_str, gAdd_tup, gAdd_lst, gNeg_int, gIx_tup, gIx_lst, gLen_tup, gLen_lst, gLen_str, gInt_int, gInt_bl, gTuple_lst, gTuple_tup, gList_lst, gList_tup, gSl_tup, gSl_lst, gSl_fl, gSl_str, srcL_tup, srcL_lst, srcL_fl, srcL_str, srcR1_int, typN, startR, List.map_cons, List.map_nil, List.length_cons, List.length_nil, Nat.reduceAdd, Nat.reduceSub, Nat.zero_add, Nat.sub_self, Nat.sub_zero, List.replicate_zero, List.replicate_succ, List.cons_append, List.nil_append, List.append_nil, List.getElem?_cons_zero, List.getElem?_cons_succ, List.set_cons_zero, List.set_cons_succ, List.set_nil, List.getElem?_nil, Option.some.injEq, exists_eq_left', exists_eq_left, exists_eq_right, reduceCtorEq, false_and, and_false, true_and, and_true, exists_false, exists_const, wipeR, Nat.zero_le, String.reduceEq, D.int.injEq, D.str.injEq, D.bl.injEq, atI_0, atI_1, atI_2, atI_3, atI_4, beq_self_eq_true, not_true_eq_false, not_false_eq_true, Int.cast_ofNat_Int, Int.reduceEq, Int.reduceLE, Int.reduceLT, Int.reduceAdd, Int.reduceSub, Int.reduceMul, Int.reduceNeg, if_true, if_false, ite_true, ite_false, Bool.false_eq_true, if_neg, if_pos, decide_eq_true_eq, Bool.not_eq_true', decide_eq_false_iff_not, eq_self_iff_true, decide_true, decide_false, Bool.not_true, Bool.not_false, wps_raise, wps_try, wps_tryAs, tryCase_t, tryCase_f, tbl_hit, suiteOf_hit, wp_eDct, wp_eDGet, wp_eDNew, wp_eDDef, wps_dput]
      exact hF f hk
end K68

namespace K68
open PySem L2 DL
variable {fu n l : Nat} {R S : Sto} {F : D → Sto → Prop} {E : Exc → Sto → Prop}
/-! the law -/
theorem cut63 {ns : List Int} (h : ns.length ≤ 63) : cutD (ns.map D.int) none (some 63) = ns.map D.int := by
  have e : cutD (ns.map D.int) none (some ((63 : Nat) : Int)) = (ns.map D.int).take 63 := by
    unfold cutD
    rw [HT.sIx_nat, HT.sIx_none, List.length_map, Nat.min_eq_right h]; simp
    omega
  have e2 : (ns.map D.int).take 63 = ns.map D.int := List.take_of_length_le (by simpa using h)
  rw [e2] at e; exact e
theorem deck_ok {ns : List Int} {N : Nat} (hN : 1 ≤ N) (hl : ns.length ≤ 63) (hF : ∀ S0, DS S0 S0 → F (.ref 1) S0) : wp (den fu N i_l_deck [.fl (ns.map .int)] []) F E := by
  obtain ⟨N', rfl⟩ : ∃ N', N = N' + 1 := ⟨N - 1, by omega⟩
  show wp (runDef true 1 (b_l_deck fu (den fu N')) _ _) _ _
  have gs : ∀ {S : Sto} {F E}, wp (gSum [.lst (ns.map .int)] S) F E ↔ F (.int ns.sum) S := fun {S F E} => by
    have e : gSum [.lst (ns.map .int)] S = .ok (.int ns.sum) S := by
      unfold gSum
      simp only [show iSeq S (.lst (ns.map .int)) = some (ns.map .int) from rfl, Option.bind_some, intsOf_map]
    rw [e]; exact Iff.rfl
  have gr : ∀ {F E}, wp (gRev true (.lst (ns.map .int)) []) F E ↔ F (.ref 0) [.lst (ns.map .int).reverse] := fun {F E} => Iff.rfl
  simp only [b_l_deck, cut63 hl, gs, gr, wp_ok, wp_ret, wp_stuck, wp_bad, wp_bnd, wp_if, wp_fif, wps_ok_nx, wps_ok_rt, wps_ok_bk, wps_ok_ct, wps_ok_xc, wps_bad, wps_lft, wps_seq, wps_nil, wps_ret, wps_expr, wps_asg, wps_if, wp_run, wps_for, wps_while, wp_comp, wp_var, wp_C, wp_bin, wp_un, wp_T, wp_Tb, wp_asBl, wp_truthBl, wp_bAnd, wp_bOr, wp_bNot, wp_eIf, wp_eAnd, wp_eOr, wp_eNot, blCase_bl, wp_chain, wp_aNil, wp_aCons, wp_tup, wp_lst, wp_lstM, wp_call, wp_cl1, wp_cl2, wp_cl3, wp_cl4, wp_cl5, wp_meth, wp_isi, wp_oNone, wp_oSome, wp_sl, wp_it, wp_range1, wp_range2, wp_bYes, gEq_str, gNe_str, gEq_int, gNe_int, gEq_bl, gNe_bl, gIs_bl, gIsNot_bl, gAdd_int, gSub_int, gC_int, gI_int, gAdd_str, gAdd_tup, gAdd_lst, gNeg_int, gIx_tup, gIx_lst, gLen_tup, gLen_lst, gLen_str, gInt_int, gInt_bl, gTuple_lst, gTuple_tup, gList_lst, gList_tup, gSl_tup, gSl_lst, gSl_fl, gSl_str, srcL_tup, srcL_lst, srcL_fl, srcL_str, srcR1_int, typN, startR, List.map_cons, List.map_nil, List.length_cons, List.length_nil, Nat.reduceAdd, Nat.reduceSub, Nat.zero_add, Nat.sub_self, Nat.sub_zero, List.replicate_zero, List.replicate_succ, List.cons_append, List.nil_append, List.append_nil, List.getElem?_cons_zero, List.getElem?_cons_succ, List.set_cons_zero, List.set_cons_succ, List.set_nil, List.getElem?_nil, Option.some.injEq, exists_eq_left', exists_eq_left, exists_eq_right, reduceCtorEq, false_and, and_false, true_and, and_true, exists_false, exists_const, wipeR, Nat.zero_le, String.reduceEq, D.int.injEq, D.str.injEq, D.bl.injEq, atI_0, atI_1, atI_2, atI_3, atI_4, beq_self_eq_true, not_true_eq_false, not_false_eq_true, Int.cast_ofNat_Int, Int.reduceEq, Int.reduceLE, Int.reduceLT, Int.reduceAdd, Int.reduceSub, Int.reduceMul, Int.reduceNeg, if_true, if_false, ite_true, ite_false, Bool.false_eq_true, if_neg, if_pos, decide_eq_true_eq, Bool.not_eq_true', decide_eq_false_iff_not, eq_self_iff_true, decide_true, decide_false, Bool.not_true, Bool.not_false]
  refine ⟨small_line (by decide), ?_⟩
  rw [← List.map_reverse]
  refine hF _ ⟨⟨by simp, fun i m hi hm => ?_⟩, ns.reverse, _, _, by simp; omega, rfl⟩
  have := (List.getElem?_eq_some_iff.mp hm).1
  simp at this; omega
theorem DS.drawer {c : Nat} (h : DS R S) : LS (R ++ [.lst [.int (c : Nat)]]) S.length c (S ++ [.lst [.int (c : Nat)]]) := by
  have hl := h.len
  refine ⟨h.two, by simp [hl], ?_⟩
  have : (R ++ [MO.lst [.int (c : Nat)]]).set S.length (.lst [.int (c : Nat)]) = R ++ [.lst [.int (c : Nat)]] := by
    rw [hl, List.set_append_right _ _ (Nat.le_refl _)]; simp
  rw [this]; exact h.push rfl
theorem NameP.ws {z : Str} (h : NameP z) : WS z := ⟨by have := h.2.1; omega, .inr (.inl h)⟩
theorem ThG.any {B : Nat} {Q : Str → Prop} : ∀ {k : Nat} {t : D}, ThG B Q k t → ThG B (fun _ => True) k t
  | 0, _, h => h
  | k + 1, t, h => by
    rcases h with h | ⟨ws, e, hl, h⟩ | ⟨ts, e, hl, h⟩
    · exact .inl h
    · refine .inr (.inl ⟨ws, e, hl, fun w hw => ?_⟩)
      rcases h w hw with ⟨z, a, b, _⟩ | ⟨t, a, q⟩
      · exact .inl ⟨z, a, b, trivial⟩
      · exact .inr ⟨t, a, ThG.any q⟩
    · exact .inr (.inr ⟨ts, e, hl, fun t ht => ThG.any (h t ht)⟩)
theorem WdG.any {B k : Nat} {Q : Str → Prop} {w : D} (h : WdG B Q k w) : WdG B (fun _ => True) k w := by
  rcases h with ⟨z, a, b, _⟩ | ⟨t, a, q⟩
  · exact .inl ⟨z, a, b, trivial⟩
  · exact .inr ⟨t, a, q.any⟩
theorem row_draw {L : List Str} {deep c N : Nat} (hL : ∀ z ∈ L, WS z) (hL1 : 1 ≤ L.length) (hL2 : L.length ≤ 1000) (hd : deep ≤ 4) (hN : 20 ≤ N) (h : DS R S) (hF : ∀ ws S' c', ws.length ≤ 6 → (∀ w ∈ ws, WdG 6 (QL L) deep w) → (ws.flatMap (tokW 19)).length ≤ 3 * c → DS (R ++ [.lst [.int ((c' : Nat) : Int)]]) S' → F (.tup ws) S') :
    wp (den fu N i_l_row [.ref 1, .lst (L.map .str), .int deep, .ref S.length] (S ++ [.lst [.int (c : Nat)]])) F E := by
  refine row_gen hL hL1 hL2 (thing_gen hL hL1 hL2 deep 19 (by omega)) (by omega) (DS.drawer h) fun ws S' c' h1 h2 h3 h4 => ?_
  refine hF ws S' c' h1 h2 (by omega) ?_
  have := h4.at_
  rw [h.len, List.set_append_right _ _ (Nat.le_refl _), Nat.sub_self] at this
  exact this
theorem a_sh : IsSh (Str.ofString "a-") := ⟨[97], [], by decide +kernel, ⟨1, by decide, rfl⟩, by decide, by decide⟩
theorem a_ws : WS (Str.ofString "a-") := ⟨by decide +kernel, .inr (.inr a_sh)⟩
theorem gSl_ref {n : Nat} {ds : List D} {lo hi : Option Int} (h : atL S n = some ds) : wp (gSl false (.ref n) lo hi S) F E ↔ F (.lst (cutD ds lo hi)) S := by
  unfold gSl
  simp only [show iSeq S (.ref n) = some ds from h]
  exact Iff.rfl
theorem ent_tr {p : Str × List D} (h : RowOk p.2) : DL.tr (entD p) := tr_tup fun d hd => by
  simp only [List.mem_cons, List.not_mem_nil, or_false] at hd
  rcases hd with rfl | rfl | rfl
  · rfl
  · rfl
  · exact h.tr
theorem ents_tr {Bk : List (Str × List D)} (h : ∀ p ∈ Bk, RowOk p.2) : D.los 0 (Bk.map entD) = true := trs fun d hd => by
  obtain ⟨p, hp, rfl⟩ := List.mem_map.mp hd
  exact ent_tr (h p hp)
theorem book_gen {L : List Str} {N : Nat} (hL : Names L) (hN : 25 ≤ N) (h : DS R S) (hF : ∀ Bk S', BookOk Bk → DS R S' → F (bookD Bk) S') : wp (den fu N i_l_book [.ref 1, .lst (L.map .str)] S) F E := by
  obtain ⟨N', rfl⟩ : ∃ N', N = N' + 1 := ⟨N - 1, by omega⟩
  show wp (runDef false 8 (b_l_book fu (den fu N')) _ _) _ _
  have hSl : S.length = R.length := h.len
  have l1 := hL.1
  have l8 := hL.2.1
  have r2 : 2 ≤ R.length := by have := h.two; omega
  simp only [b_l_book, hSl, wp_ok, wp_ret, wp_stuck, wp_bad, wp_bnd, wp_if, wp_fif, wps_ok_nx, wps_ok_rt, wps_ok_bk, wps_ok_ct, wps_ok_xc, wps_bad, wps_lft, wps_seq, wps_nil, wps_ret, wps_expr, wps_asg, wps_if, wp_run, wps_for, wps_while, wp_comp, wp_var, wp_C, wp_bin, wp_un, wp_T, wp_Tb, wp_asBl, wp_truthBl, wp_bAnd, wp_bOr, wp_bNot, wp_eIf, wp_eAnd, wp_eOr, wp_eNot, blCase_bl, wp_chain, wp_aNil, wp_aCons, wp_tup, wp_lst, wp_lstM, wp_call, wp_cl1, wp_cl2, wp_cl3, wp_cl4, wp_cl5, wp_meth, wp_isi, wp_oNone, wp_oSome, wp_sl, wp_it, wp_range1, wp_range2, wp_bYes, gEq_str, gNe_str, gEq_int, gNe_int, gEq_bl, gNe_bl, gIs_bl, gIsNot_bl, gAdd_int, gSub_int, gC_int, gI_int, gAdd_str, gAdd_tup, gAdd_lst, gNeg_int, gIx_tup, gIx_lst, gLen_tup, gLen_lst, gLen_str, gInt_int, gInt_bl, gTuple_lst, gTuple_tup, gList_lst, gList_tup, gSl_tup, gSl_lst, gSl_fl, gSl_str, srcL_tup, srcL_lst, srcL_fl, srcL_str, srcR1_int, typN, startR, List.map_cons, List.map_nil, List.length_cons, List.length_nil, Nat.reduceAdd, Nat.reduceSub, Nat.zero_add, Nat.sub_self, Nat.sub_zero, List.replicate_zero, List.replicate_succ, List.cons_append, List.nil_append, List.append_nil, List.getElem?_cons_zero, List.getElem?_cons_succ, List.set_cons_zero, List.set_cons_succ, List.set_nil, List.getElem?_nil, Option.some.injEq, exists_eq_left', exists_eq_left, exists_eq_right, reduceCtorEq, false_and, and_false, true_and, and_true, exists_false, exists_const, wipeR, Nat.zero_le, String.reduceEq, D.int.injEq, D.str.injEq, D.bl.injEq, atI_0, atI_1, atI_2, atI_3, atI_4, beq_self_eq_true, not_true_eq_false, not_false_eq_true, Int.cast_ofNat_Int, Int.reduceEq, Int.reduceLE, Int.reduceLT, Int.reduceAdd, Int.reduceSub, Int.reduceMul, Int.reduceNeg, if_true, if_false, ite_true, ite_false, Bool.false_eq_true, if_neg, if_pos, decide_eq_true_eq, Bool.not_eq_true', decide_eq_false_iff_not, eq_self_iff_true, decide_true, decide_false, Bool.not_true, Bool.not_false, wps_raise, wps_try, wps_tryAs, tryCase_t, tryCase_f, tbl_hit, suiteOf_hit, wp_eDct, wp_eDGet, wp_eDNew, wp_eDDef, wps_dput]
  refine take_ok (by omega) h (by decide) (by decide) fun v S1 a0 a1 d1 => ?_
  have hat : ∀ {Bk : List (Str × List D)} {G S' : Sto}, DS (R ++ .lst (Bk.map entD) :: G) S' → atL S' R.length = some (Bk.map entD) := fun hd => atL_of (hd.last r2)
  have d2 : DS (R ++ [.lst []]) (S1 ++ [.lst []]) := d1.push rfl
  have e1 : S1.length = R.length := d1.len
  simp only [e1, List.length_map, wp_ok, wp_ret, wp_stuck, wp_bad, wp_bnd, wp_if, wp_fif, wps_ok_nx, wps_ok_rt, wps_ok_bk, wps_ok_ct, wps_ok_xc, wps_bad, wps_lft, wps_seq, wps_nil, wps_ret, wps_expr, wps_asg, wps_if, wp_run, wps_for, wps_while, wp_comp, wp_var, wp_C, wp_bin, wp_un, wp_T, wp_Tb, wp_asBl, wp_truthBl, wp_bAnd, wp_bOr, wp_bNot, wp_eIf, wp_eAnd, wp_eOr, wp_eNot, blCase_bl, wp_chain, wp_aNil, wp_aCons, wp_tup, wp_lst, wp_lstM, wp_call, wp_cl1, wp_cl2, wp_cl3, wp_cl4, wp_cl5, wp_meth, wp_isi, wp_oNone, wp_oSome, wp_sl, wp_it, wp_range1, wp_range2, wp_bYes, gEq_str, gNe_str, gEq_int, gNe_int, gEq_bl, gNe_bl, gIs_bl, gIsNot_bl, gAdd_int, gSub_int, gC_int, gI_int, gAdd_str, gAdd_tup, gAdd_lst, gNeg_int, gIx_tup, gIx_lst, gLen_tup, gLen_lst, gLen_str, gInt_int, gInt_bl, gTuple_lst, gTuple_tup, gList_lst, gList_tup, gSl_tup, gSl_lst, gSl_fl, gSl_str, srcL_tup, srcL_lst, srcL_fl, srcL_str, srcR1_int, typN, startR, List.map_cons, List.map_nil, List.length_cons, List.length_nil, Nat.reduceAdd, Nat.reduceSub, Nat.zero_add, Nat.sub_self, Nat.sub_zero, List.replicate_zero, List.replicate_succ, List.cons_append, List.nil_append, List.append_nil, List.getElem?_cons_zero, List.getElem?_cons_succ, List.set_cons_zero, List.set_cons_succ, List.set_nil, List.getElem?_nil, Option.some.injEq, exists_eq_left', exists_eq_left, exists_eq_right, reduceCtorEq, false_and, and_false, true_and, and_true, exists_false, exists_const, wipeR, Nat.zero_le, String.reduceEq, D.int.injEq, D.str.injEq, D.bl.injEq, atI_0, atI_1, atI_2, atI_3, atI_4, beq_self_eq_true, not_true_eq_false, not_false_eq_true, Int.cast_ofNat_Int, Int.reduceEq, Int.reduceLE, Int.reduceLT, Int.reduceAdd, Int.reduceSub, Int.reduceMul, Int.reduceNeg, if_true, if_false, ite_true, ite_false, Bool.false_eq_true, if_neg, if_pos, decide_eq_true_eq, Bool.not_eq_true', decide_eq_false_iff_not, eq_self_iff_true, decide_true, decide_false, Bool.not_true, Bool.not_false, wps_raise, wps_try, wps_tryAs, tryCase_t, tryCase_f, tbl_hit, suiteOf_hit, wp_eDct, wp_eDGet, wp_eDNew, wp_eDDef, wps_dput]
  refine ⟨by unfold bnd62; exact decide_eq_true (by omega), ?_⟩
  rw [Int.toNat_natCast]
  refine wps_forM (fun i ρ S' => i ≤ L.length → ∃ (Bk : List (Str × List D)) (G : Sto) (o4 o6 o7 : Option D), DS (R ++ .lst (Bk.map entD) :: G) S' ∧ Bk.map (·.1) = L.take i ∧ (∀ p ∈ Bk, RowOk p.2) ∧ ρ = [some (.ref 1), some (.lst (L.map .str)), some (.int v), some (.ref R.length), o4, none, o6, o7]) (fun _ _ _ _ => trivial) ?_ ?_ (fun _ => ⟨[], [], none, none, none, d2, rfl, fun p h => (List.not_mem_nil h).elim, rfl⟩)
  · intro i d ρ S' hd hI
    have hi : i < L.length := by
      have := (List.getElem?_eq_some_iff.mp hd).1
      rwa [rangeD_len] at this
    obtain ⟨Bk, G, o4, o6, o7, hdS, hfst, hrows, rfl⟩ := hI (by omega)
    obtain rfl : d = .int (i : Nat) := by
      unfold rangeD at hd
      rw [List.getElem?_map, List.getElem?_range hi] at hd
      simpa using hd.symm
    refine ⟨_, rfl, ?_⟩
    have ec : cutD (L.map D.str) none (some ((i : Nat) : Int)) = (L.take i).map .str := by rw [cut_take (by rw [List.length_map]; omega), List.map_take]
    have hg : L[i]? = some L[i] := List.getElem?_eq_getElem hi
    have hix : atI (L.map D.str) ((i : Nat) : Int) = some (.str L[i]) := atI_nat (by rw [List.getElem?_map, hg]; rfl)
    have hbl : Bk.length = i := by
      have := congrArg List.length hfst
      rw [List.length_map, List.length_take] at this; omega
    have tail : ∀ (x6 : Option D) (ws : List D) (S3 G : Sto), RowOk ws → DS (R ++ .lst (Bk.map entD) :: G) S3 → (isTy S3 "list" (.ref R.length) = true ∧ 3 ≤ sizeLine ∧ wp (gAppend (.ref R.length) [.tup [.str L[i], .non, .tup ws]] S3)
        (fun _ S' => i + 1 ≤ L.length → ∃ (Bk : List (Str × List D)) (G : Sto) (o4 o6 o7 : Option D), DS (R ++ .lst (Bk.map entD) :: G) S' ∧ Bk.map (·.1) = L.take (i + 1) ∧ (∀ p ∈ Bk, RowOk p.2) ∧ [some (.ref 1), some (.lst (L.map .str)), some (.int v), some (.ref R.length), some (.int (i : Nat)), none, x6, some (.tup ws)] = [some (.ref 1), some (.lst (L.map .str)), some (.int v), some (.ref R.length), o4, none, o6, o7]) (fun e S' => E e S')) := by
      intro x6 ws S3 G hws d3
      have hp := d3.put (k := R.length) (m := .lst ((Bk ++ [(L[i], ws)]).map entD)) r2 (ents_tr fun p hp => by
        rcases List.mem_append.mp hp with hp | hp
        · exact hrows p hp
        · rw [List.mem_singleton.mp hp]; exact hws)
      rw [List.set_append_right _ _ (Nat.le_refl _), Nat.sub_self, List.set_cons_zero] at hp
      rw [gAppend_ref (hat d3)]
      refine ⟨isTy_ref (hat d3), small_line (by decide), by rw [sizeLine_eq, List.length_map]; omega, fun _ => ⟨Bk ++ [(L[i], ws)], G, _, _, _, ?_, ?_, fun p hp => ?_, rfl⟩⟩
      · rw [show Bk.map entD ++ [D.tup [.str L[i], .non, .tup ws]] = (Bk ++ [(L[i], ws)]).map entD by rw [List.map_append]; rfl]
        exact hp
      · rw [List.map_append, hfst, List.take_succ, hg]; rfl
      · rcases List.mem_append.mp hp with hp | hp
        · exact hrows p hp
        · rw [List.mem_singleton.mp hp]; exact hws
    have rok : ∀ {ws : List D} {Q : Str → Prop}, ws.length ≤ 6 → (∀ w ∈ ws, WdG 6 Q 4 w) → (ws.flatMap (tokW 19)).length ≤ 3 * 30 → RowOk ws := fun w1 w2 w3 => ⟨by omega, fun w hw => (w2 w hw).any, by omega⟩
    simp only [hix, ec, List.length_map, wp_ok, wp_ret, wp_stuck, wp_bad, wp_bnd, wp_if, wp_fif, wps_ok_nx, wps_ok_rt, wps_ok_bk, wps_ok_ct, wps_ok_xc, wps_bad, wps_lft, wps_seq, wps_nil, wps_ret, wps_expr, wps_asg, wps_if, wp_run, wps_for, wps_while, wp_comp, wp_var, wp_C, wp_bin, wp_un, wp_T, wp_Tb, wp_asBl, wp_truthBl, wp_bAnd, wp_bOr, wp_bNot, wp_eIf, wp_eAnd, wp_eOr, wp_eNot, blCase_bl, wp_chain, wp_aNil, wp_aCons, wp_tup, wp_lst, wp_lstM, wp_call, wp_cl1, wp_cl2, wp_cl3, wp_cl4, wp_cl5, wp_meth, wp_isi, wp_oNone, wp_oSome, wp_sl, wp_it, wp_range1, wp_range2, wp_bYes, gEq_str, gNe_str, gEq_int, gNe_int, gEq_bl, gNe_bl, gIs_bl, gIsNot_bl, gAdd_int, gSub_int, gC_int, gI_int, gAdd_str, gAdd_tup, gAdd_lst, gNeg_int, gIx_tup, gIx_lst, gLen_tup, gLen_lst, gLen_str, gInt_int, gInt_bl, gTuple_lst, gTuple_tup, gList_lst, gList_tup, gSl_tup, gSl_lst, gSl_fl, gSl_str, srcL_tup, srcL_lst, srcL_fl, srcL_str, srcR1_int, typN, startR, List.map_cons, List.map_nil, List.length_cons, List.length_nil, Nat.reduceAdd, Nat.reduceSub, Nat.zero_add, Nat.sub_self, Nat.sub_zero, List.replicate_zero, List.replicate_succ, List.cons_append, List.nil_append, List.append_nil, List.getElem?_cons_zero, List.getElem?_cons_succ, List.set_cons_zero, List.set_cons_succ, List.set_nil, List.getElem?_nil, Option.some.injEq, exists_eq_left', exists_eq_left, exists_eq_right, reduceCtorEq, false_and, and_false, true_and, and_true, exists_false, exists_const, wipeR, Nat.zero_le, String.reduceEq, D.int.injEq, D.str.injEq, D.bl.injEq, atI_0, atI_1, atI_2, atI_3, atI_4, beq_self_eq_true, not_true_eq_false, not_false_eq_true, Int.cast_ofNat_Int, Int.reduceEq, Int.reduceLE, Int.reduceLT, Int.reduceAdd, Int.reduceSub, Int.reduceMul, Int.reduceNeg, if_true, if_false, ite_true, ite_false, Bool.false_eq_true, if_neg, if_pos, decide_eq_true_eq, Bool.not_eq_true', decide_eq_false_iff_not, eq_self_iff_true, decide_true, decide_false, Bool.not_true, Bool.not_false, wps_raise, wps_try, wps_tryAs, tryCase_t, tryCase_f, tbl_hit, suiteOf_hit, wp_eDct, wp_eDGet, wp_eDNew, wp_eDDef, wps_dput]
    by_cases h0 : v = 0
    · simp only [h0, wp_ok, wp_ret, wp_stuck, wp_bad, wp_bnd, wp_if, wp_fif, wps_ok_nx, wps_ok_rt, wps_ok_bk, wps_ok_ct, wps_ok_xc, wps_bad, wps_lft, wps_seq, wps_nil, wps_ret, wps_expr, wps_asg, wps_if, wp_run, wps_for, wps_while, wp_comp, wp_var, wp_C, wp_bin, wp_un, wp_T, wp_Tb, wp_asBl, wp_truthBl, wp_bAnd, wp_bOr, wp_bNot, wp_eIf, wp_eAnd, wp_eOr, wp_eNot, blCase_bl, wp_chain, wp_aNil, wp_aCons, wp_tup, wp_lst, wp_lstM, wp_call, wp_cl1, wp_cl2, wp_cl3, wp_cl4, wp_cl5, wp_meth, wp_isi, wp_oNone, wp_oSome, wp_sl, wp_it, wp_range1, wp_range2, wp_bYes, gEq_str, gNe_str, gEq_int, gNe_int, gEq_bl, gNe_bl, gIs_bl, gIsNot_bl, gAdd_int, gSub_int, gC_int, gI_int, gAdd_str, gAdd_tup, gAdd_lst, gNeg_int, gIx_tup, gIx_lst, gLen_tup, gLen_lst, gLen_str, gInt_int, gInt_bl, gTuple_lst, gTuple_tup, gList_lst, gList_tup, gSl_tup, gSl_lst, gSl_fl, gSl_str, srcL_tup, srcL_lst, srcL_fl, srcL_str, srcR1_int, typN, startR, List.map_cons, List.map_nil, List.length_cons, List.length_nil, Nat.reduceAdd, Nat.reduceSub, Nat.zero_add, Nat.sub_self, Nat.sub_zero, List.replicate_zero, List.replicate_succ, List.cons_append, List.nil_append, List.append_nil, List.getElem?_cons_zero, List.getElem?_cons_succ, List.set_cons_zero, List.set_cons_succ, List.set_nil, List.getElem?_nil, Option.some.injEq, exists_eq_left', exists_eq_left, exists_eq_right, reduceCtorEq, false_and, and_false, true_and, and_true, exists_false, exists_const, wipeR, Nat.zero_le, String.reduceEq, D.int.injEq, D.str.injEq, D.bl.injEq, atI_0, atI_1, atI_2, atI_3, atI_4, beq_self_eq_true, not_true_eq_false, not_false_eq_true, Int.cast_ofNat_Int, Int.reduceEq, Int.reduceLE, Int.reduceLT, Int.reduceAdd, Int.reduceSub, Int.reduceMul, Int.reduceNeg, if_true, if_false, ite_true, ite_false, Bool.false_eq_true, if_neg, if_pos, decide_eq_true_eq, Bool.not_eq_true', decide_eq_false_iff_not, eq_self_iff_true, decide_true, decide_false, Bool.not_true, Bool.not_false, wps_raise, wps_try, wps_tryAs, tryCase_t, tryCase_f, tbl_hit, suiteOf_hit, wp_eDct, wp_eDGet, wp_eDNew, wp_eDDef, wps_dput]
      refine ⟨small_line (by decide), small_line (by simp; omega), small_line (by decide), ?_⟩
      rw [show (L.take i).map D.str ++ [D.str (Str.ofString "a-")] = (L.take i ++ [Str.ofString "a-"]).map D.str by simp]
      refine row_draw (c := 30) (fun z hz => ?_) (by simp) (by simp; omega) (by decide) (by omega) hdS fun ws S4 c' w1 w2 w3 d4 => ?_
      · rcases List.mem_append.mp hz with hz | hz
        · exact (hL.2.2.2 z (List.mem_of_mem_take hz)).ws
        · rw [List.mem_singleton.mp hz]; exact a_ws
      · rw [List.append_assoc, List.cons_append] at d4
        rw [h0] at tail
        exact tail _ ws S4 _ (rok w1 w2 w3) d4
    · simp only [h0, wp_ok, wp_ret, wp_stuck, wp_bad, wp_bnd, wp_if, wp_fif, wps_ok_nx, wps_ok_rt, wps_ok_bk, wps_ok_ct, wps_ok_xc, wps_bad, wps_lft, wps_seq, wps_nil, wps_ret, wps_expr, wps_asg, wps_if, wp_run, wps_for, wps_while, wp_comp, wp_var, wp_C, wp_bin, wp_un, wp_T, wp_Tb, wp_asBl, wp_truthBl, wp_bAnd, wp_bOr, wp_bNot, wp_eIf, wp_eAnd, wp_eOr, wp_eNot, blCase_bl, wp_chain, wp_aNil, wp_aCons, wp_tup, wp_lst, wp_lstM, wp_call, wp_cl1, wp_cl2, wp_cl3, wp_cl4, wp_cl5, wp_meth, wp_isi, wp_oNone, wp_oSome, wp_sl, wp_it, wp_range1, wp_range2, wp_bYes, gEq_str, gNe_str, gEq_int, gNe_int, gEq_bl, gNe_bl, gIs_bl, gIsNot_bl, gAdd_int, gSub_int, gC_int, gI_int, gAdd_str, gAdd_tup, gAdd_lst, gNeg_int, gIx_tup, gIx_lst, gLen_tup, gLen_lst, gLen_str, gInt_int, gInt_bl, gTuple_lst, gTuple_tup, gList_lst, gList_tup, gSl_tup, gSl_lst, gSl_fl, gSl_str, srcL_tup, srcL_lst, srcL_fl, srcL_str, srcR1_int, typN, startR, List.map_cons, List.map_nil, List.length_cons, List.length_nil, Nat.reduceAdd, Nat.reduceSub, Nat.zero_add, Nat.sub_self, Nat.sub_zero, List.replicate_zero, List.replicate_succ, List.cons_append, List.nil_append, List.append_nil, List.getElem?_cons_zero, List.getElem?_cons_succ, List.set_cons_zero, List.set_cons_succ, List.set_nil, List.getElem?_nil, Option.some.injEq, exists_eq_left', exists_eq_left, exists_eq_right, reduceCtorEq, false_and, and_false, true_and, and_true, exists_false, exists_const, wipeR, Nat.zero_le, String.reduceEq, D.int.injEq, D.str.injEq, D.bl.injEq, atI_0, atI_1, atI_2, atI_3, atI_4, beq_self_eq_true, not_true_eq_false, not_false_eq_true, Int.cast_ofNat_Int, Int.reduceEq, Int.reduceLE, Int.reduceLT, Int.reduceAdd, Int.reduceSub, Int.reduceMul, Int.reduceNeg, if_true, if_false, ite_true, ite_false, Bool.false_eq_true, if_neg, if_pos, decide_eq_true_eq, Bool.not_eq_true', decide_eq_false_iff_not, eq_self_iff_true, decide_true, decide_false, Bool.not_true, Bool.not_false, wps_raise, wps_try, wps_tryAs, tryCase_t, tryCase_f, tbl_hit, suiteOf_hit, wp_eDct, wp_eDGet, wp_eDNew, wp_eDDef, wps_dput]
      refine ⟨small_line (by decide), ?_⟩
      refine row_draw (c := 30) (fun z hz => (hL.2.2.2 z hz).ws) l1 (by omega) (by decide) (by omega) hdS fun ws S4 c' w1 w2 w3 d4 => ?_
      rw [List.append_assoc, List.cons_append] at d4
      by_cases h1 : v = 1
      · rw [if_pos h1]
        by_cases h7 : ((i : Nat) : Int) < 7
        · rw [if_pos h7]
          have hml : (i + 1) % L.length < L.length := Nat.mod_lt _ (by omega)
          have hg2 : L[(i + 1) % L.length]? = some L[(i + 1) % L.length] := List.getElem?_eq_getElem hml
          have hix2 : atI (L.map D.str) ((((i : Nat) : Int) + 1) % (L.length : Int)) = some (.str L[(i + 1) % L.length]) := by
            rw [show ((i : Nat) : Int) + 1 = ((i + 1 : Nat) : Int) by omega, ← Int.natCast_emod]
            exact atI_nat (by rw [List.getElem?_map, hg2]; rfl)
          have hw : WS L[(i + 1) % L.length] := (hL.2.2.2 _ (List.getElem_mem hml)).ws
          have r2 : RowOk (ws ++ [.tup [.str "push", .tup [.str "row", .tup [.str L[(i + 1) % L.length]]]]]) := by
            refine ⟨by simp; omega, fun w hw' => ?_, ?_⟩
            · rcases List.mem_append.mp hw' with q | q
              · exact (w2 w q).any
              · rw [List.mem_singleton.mp q]
                exact .inr ⟨_, rfl, .inr (.inl ⟨_, rfl, by simp, fun x hx => .inl ⟨_, List.mem_singleton.mp hx, hw, trivial⟩⟩)⟩
            · rw [List.flatMap_append, List.length_append]
              have : ([D.tup [.str "push", .tup [.str "row", .tup [.str L[(i + 1) % L.length]]]]].flatMap (tokW 19)).length = 3 := by
                simp only [List.flatMap_cons, List.flatMap_nil, List.append_nil]
                show (tokT 19 _).length = 3
                rw [tokT_row]; rfl
              omega
          rw [hix2]
          refine ⟨by omega, _, rfl, sl (by decide), sl (by decide), sl (by decide), sl (by decide), ?_⟩
          rw [gAdd_tup]
          exact ⟨by rw [sizeLine_eq]; simp; omega, tail _ _ S4 _ r2 d4⟩
        · rw [if_neg h7]
          exact tail _ ws S4 _ (rok w1 w2 w3) d4
      · rw [if_neg h1]
        exact tail _ ws S4 _ (rok w1 w2 w3) d4
  · intro ρ S' hI
    rw [rangeD_len] at hI
    obtain ⟨Bk, G, o4, o6, o7, hdS, hfst, hrows, rfl⟩ := hI (Nat.le_refl _)
    rw [List.take_length] at hfst
    have hbl : Bk.length = L.length := by rw [← hfst, List.length_map]
    simp only [gLen_seq (show iLst _ (.ref R.length) = some (Bk.map entD) from hat hdS), List.length_map, wp_ok, wp_ret, wp_stuck, wp_bad, wp_bnd, wp_if, wp_fif, wps_ok_nx, wps_ok_rt, wps_ok_bk, wps_ok_ct, wps_ok_xc, wps_bad, wps_lft, wps_seq, wps_nil, wps_ret, wps_expr, wps_asg, wps_if, wp_run, wps_for, wps_while, wp_comp, wp_var, wp_C, wp_bin, wp_un, wp_T, wp_Tb, wp_asBl, wp_truthBl, wp_bAnd, wp_bOr, wp_bNot, wp_eIf, wp_eAnd, wp_eOr, wp_eNot, blCase_bl, wp_chain, wp_aNil, wp_aCons, wp_tup, wp_lst, wp_lstM, wp_call, wp_cl1, wp_cl2, wp_cl3, wp_cl4, wp_cl5, wp_meth, wp_isi, wp_oNone, wp_oSome, wp_sl, wp_it, wp_range1, wp_range2, wp_bYes, gEq_str, gNe_str, gEq_int, gNe_int, gEq_bl, gNe_bl, gIs_bl, gIsNot_bl, gAdd_int, gSub_int, gC_int, gI_int, gAdd_str, gAdd_tup, gAdd_lst, gNeg_int, gIx_tup, gIx_lst, gLen_tup, gLen_lst, gLen_str, gInt_int, gInt_bl, gTuple_lst, gTuple_tup, gList_lst, gList_tup, gSl_tup, gSl_lst, gSl_fl, gSl_str, srcL_tup, srcL_lst, srcL_fl, srcL_str, srcR1_int, typN, startR, List.map_cons, List.map_nil, List.length_cons, List.length_nil, Nat.reduceAdd, Nat.reduceSub, Nat.zero_add, Nat.sub_self, Nat.sub_zero, List.replicate_zero, List.replicate_succ, List.cons_append, List.nil_append, List.append_nil, List.getElem?_cons_zero, List.getElem?_cons_succ, List.set_cons_zero, List.set_cons_succ, List.set_nil, List.getElem?_nil, Option.some.injEq, exists_eq_left', exists_eq_left, exists_eq_right, reduceCtorEq, false_and, and_false, true_and, and_true, exists_false, exists_const, wipeR, Nat.zero_le, String.reduceEq, D.int.injEq, D.str.injEq, D.bl.injEq, atI_0, atI_1, atI_2, atI_3, atI_4, beq_self_eq_true, not_true_eq_false, not_false_eq_true, Int.cast_ofNat_Int, Int.reduceEq, Int.reduceLE, Int.reduceLT, Int.reduceAdd, Int.reduceSub, Int.reduceMul, Int.reduceNeg, if_true, if_false, ite_true, ite_false, Bool.false_eq_true, if_neg, if_pos, decide_eq_true_eq, Bool.not_eq_true', decide_eq_false_iff_not, eq_self_iff_true, decide_true, decide_false, Bool.not_true, Bool.not_false, wps_raise, wps_try, wps_tryAs, tryCase_t, tryCase_f, tbl_hit, suiteOf_hit, wp_eDct, wp_eDGet, wp_eDNew, wp_eDDef, wps_dput]
    refine take_ok (by omega) hdS (by omega) (by omega) fun u S2 u0 u1 d2 => ?_
    obtain ⟨u, rfl⟩ := Int.eq_ofNat_of_zero_le u0
    simp only [gSl_ref (hat d2), cut_drop (ds := Bk.map entD) (a := u) (by rw [List.length_map]; omega), cut_take (ds := Bk.map entD) (a := u) (by rw [List.length_map]; omega), wp_ok, wp_ret, wp_stuck, wp_bad, wp_bnd, wp_if, wp_fif, wps_ok_nx, wps_ok_rt, wps_ok_bk, wps_ok_ct, wps_ok_xc, wps_bad, wps_lft, wps_seq, wps_nil, wps_ret, wps_expr, wps_asg, wps_if, wp_run, wps_for, wps_while, wp_comp, wp_var, wp_C, wp_bin, wp_un, wp_T, wp_Tb, wp_asBl, wp_truthBl, wp_bAnd, wp_bOr, wp_bNot, wp_eIf, wp_eAnd, wp_eOr, wp_eNot, blCase_bl, wp_chain, wp_aNil, wp_aCons, wp_tup, wp_lst, wp_lstM, wp_call, wp_cl1, wp_cl2, wp_cl3, wp_cl4, wp_cl5, wp_meth, wp_isi, wp_oNone, wp_oSome, wp_sl, wp_it, wp_range1, wp_range2, wp_bYes, gEq_str, gNe_str, gEq_int, gNe_int, gEq_bl, gNe_bl, gIs_bl, gIsNot_bl, gAdd_int, gSub_int, gC_int, gI_int, gAdd_str, gAdd_tup, gAdd_lst, gNeg_int, gIx_tup, gIx_lst, gLen_tup, gLen_lst, gLen_str, gInt_int, gInt_bl, gTuple_lst, gTuple_tup, gList_lst, gList_tup, gSl_tup, gSl_lst, gSl_fl, gSl_str, srcL_tup, srcL_lst, srcL_fl, srcL_str, srcR1_int, typN, startR, List.map_cons, List.map_nil, List.length_cons, List.length_nil, Nat.reduceAdd, Nat.reduceSub, Nat.zero_add, Nat.sub_self, Nat.sub_zero, List.replicate_zero, List.replicate_succ, List.cons_append, List.nil_append, List.append_nil, List.getElem?_cons_zero, List.getElem?_cons_succ, List.set_cons_zero, List.set_cons_succ, List.set_nil, List.getElem?_nil, Option.some.injEq, exists_eq_left', exists_eq_left, exists_eq_right, reduceCtorEq, false_and, and_false, true_and, and_true, exists_false, exists_const, wipeR, Nat.zero_le, String.reduceEq, D.int.injEq, D.str.injEq, D.bl.injEq, atI_0, atI_1, atI_2, atI_3, atI_4, beq_self_eq_true, not_true_eq_false, not_false_eq_true, Int.cast_ofNat_Int, Int.reduceEq, Int.reduceLE, Int.reduceLT, Int.reduceAdd, Int.reduceSub, Int.reduceMul, Int.reduceNeg, if_true, if_false, ite_true, ite_false, Bool.false_eq_true, if_neg, if_pos, decide_eq_true_eq, Bool.not_eq_true', decide_eq_false_iff_not, eq_self_iff_true, decide_true, decide_false, Bool.not_true, Bool.not_false, wps_raise, wps_try, wps_tryAs, tryCase_t, tryCase_f, tbl_hit, suiteOf_hit, wp_eDct, wp_eDGet, wp_eDNew, wp_eDDef, wps_dput]
    have hok : BookOk (Bk.drop u ++ Bk.take u) := by
      refine ⟨by simp; omega, ?_, fun p hp => ?_⟩
      · have h1 : (Bk.drop u ++ Bk.take u).Perm Bk := by
          refine List.perm_append_comm.trans ?_
          rw [List.take_append_drop]
        rw [(h1.map (·.1)).nodup_iff, hfst]
        exact hL.2.2.1
      · rcases List.mem_append.mp hp with hp | hp
        · exact hrows p (List.mem_of_mem_drop hp)
        · exact hrows p (List.mem_of_mem_take hp)
    refine ⟨small_line (by simp; omega), ?_⟩
    have eb : D.tup ((Bk.map entD).drop u ++ (Bk.map entD).take u) = bookD (Bk.drop u ++ Bk.take u) := by
      unfold bookD
      rw [List.map_append, List.map_drop, List.map_take]
    rw [eb]
    have hc := d2.cut (G := .lst (Bk.map entD) :: G) r2
    exact d2.fin (S1 := R) r2 (tr_tup fun d hd => by
      obtain ⟨p, hp, rfl⟩ := List.mem_map.mp hd
      exact ent_tr (hok.row p hp)) (hF _ _ hok hc)
theorem law_ok (ns : List Int) (hl : ns.length ≤ 63) : wp (den 1000 100 i_law [.fl (ns.map .int)] []) (fun d _ => d = .bl true) (fun _ _ => False) := by
  show wp (runDef false 8 (b_law 1000 (den 1000 99)) _ _) _ _
  simp only [b_law, wp_ok, wp_ret, wp_stuck, wp_bad, wp_bnd, wp_if, wp_fif, wps_ok_nx, wps_ok_rt, wps_ok_bk, wps_ok_ct, wps_ok_xc, wps_bad, wps_lft, wps_seq, wps_nil, wps_ret, wps_expr, wps_asg, wps_if, wp_run, wps_for, wps_while, wp_comp, wp_var, wp_C, wp_bin, wp_un, wp_T, wp_Tb, wp_asBl, wp_truthBl, wp_bAnd, wp_bOr, wp_bNot, wp_eIf, wp_eAnd, wp_eOr, wp_eNot, blCase_bl, wp_chain, wp_aNil, wp_aCons, wp_tup, wp_lst, wp_lstM, wp_call, wp_cl1, wp_cl2, wp_cl3, wp_cl4, wp_cl5, wp_meth, wp_isi, wp_oNone, wp_oSome, wp_sl, wp_it, wp_range1, wp_range2, wp_bYes, gEq_str, gNe_str, gEq_int, gNe_int, gEq_bl, gNe_bl, gIs_bl, gIsNot_bl, gAdd_int, gSub_int, gC_int, gI_int, gAdd_str, gAdd_tup, gAdd_lst, gNeg_int, gIx_tup, gIx_lst, gLen_tup, gLen_lst, gLen_str, gInt_int, gInt_bl, gTuple_lst, gTuple_tup, gList_lst, gList_tup, gSl_tup, gSl_lst, gSl_fl, gSl_str, srcL_tup, srcL_lst, srcL_fl, srcL_str, srcR1_int, typN, startR, List.map_cons, List.map_nil, List.length_cons, List.length_nil, Nat.reduceAdd, Nat.reduceSub, Nat.zero_add, Nat.sub_self, Nat.sub_zero, List.replicate_zero, List.replicate_succ, List.cons_append, List.nil_append, List.append_nil, List.getElem?_cons_zero, List.getElem?_cons_succ, List.set_cons_zero, List.set_cons_succ, List.set_nil, List.getElem?_nil, Option.some.injEq, exists_eq_left', exists_eq_left, exists_eq_right, reduceCtorEq, false_and, and_false, true_and, and_true, exists_false, exists_const, wipeR, Nat.zero_le, String.reduceEq, D.int.injEq, D.str.injEq, D.bl.injEq, atI_0, atI_1, atI_2, atI_3, atI_4, beq_self_eq_true, not_true_eq_false, not_false_eq_true, Int.cast_ofNat_Int, Int.reduceEq, Int.reduceLE, Int.reduceLT, Int.reduceAdd, Int.reduceSub, Int.reduceMul, Int.reduceNeg, if_true, if_false, ite_true, ite_false, Bool.false_eq_true, if_neg, if_pos, decide_eq_true_eq, Bool.not_eq_true', decide_eq_false_iff_not, eq_self_iff_true, decide_true, decide_false, Bool.not_true, Bool.not_false, wps_raise, wps_try, wps_tryAs, tryCase_t, tryCase_f, tbl_hit, suiteOf_hit, wp_eDct, wp_eDGet, wp_eDNew, wp_eDDef, wps_dput]
  refine deck_ok (by decide) hl fun S0 d0 => ?_
  refine ⟨by decide, ?_⟩
  refine wps_forM (fun i ρ S' => ∃ R o2 o3 o4 o5 o6 o7, DS R S' ∧ ρ = [some (.fl (ns.map .int)), some (.ref 1), o2, o3, o4, o5, o6, o7]) (fun _ _ _ _ => trivial) ?_ ?_ ⟨_, _, _, _, _, _, _, d0, rfl⟩
  · rintro i d ρ S1 hd ⟨R, o2, o3, o4, o5, o6, o7, d1, rfl⟩
    refine ⟨_, rfl, ?_⟩
    simp only [wp_ok, wp_ret, wp_stuck, wp_bad, wp_bnd, wp_if, wp_fif, wps_ok_nx, wps_ok_rt, wps_ok_bk, wps_ok_ct, wps_ok_xc, wps_bad, wps_lft, wps_seq, wps_nil, wps_ret, wps_expr, wps_asg, wps_if, wp_run, wps_for, wps_while, wp_comp, wp_var, wp_C, wp_bin, wp_un, wp_T, wp_Tb, wp_asBl, wp_truthBl, wp_bAnd, wp_bOr, wp_bNot, wp_eIf, wp_eAnd, wp_eOr, wp_eNot, blCase_bl, wp_chain, wp_aNil, wp_aCons, wp_tup, wp_lst, wp_lstM, wp_call, wp_cl1, wp_cl2, wp_cl3, wp_cl4, wp_cl5, wp_meth, wp_isi, wp_oNone, wp_oSome, wp_sl, wp_it, wp_range1, wp_range2, wp_bYes, gEq_str, gNe_str, gEq_int, gNe_int, gEq_bl, gNe_bl, gIs_bl, gIsNot_bl, gAdd_int, gSub_int, gC_int, gI_int, gAdd_str, gAdd_tup, gAdd_lst, gNeg_int, gIx_tup, gIx_lst, gLen_tup, gLen_lst, gLen_str, gInt_int, gInt_bl, gTuple_lst, gTuple_tup, gList_lst, gList_tup, gSl_tup, gSl_lst, gSl_fl, gSl_str, srcL_tup, srcL_lst, srcL_fl, srcL_str, srcR1_int, typN, startR, List.map_cons, List.map_nil, List.length_cons, List.length_nil, Nat.reduceAdd, Nat.reduceSub, Nat.zero_add, Nat.sub_self, Nat.sub_zero, List.replicate_zero, List.replicate_succ, List.cons_append, List.nil_append, List.append_nil, List.getElem?_cons_zero, List.getElem?_cons_succ, List.set_cons_zero, List.set_cons_succ, List.set_nil, List.getElem?_nil, Option.some.injEq, exists_eq_left', exists_eq_left, exists_eq_right, reduceCtorEq, false_and, and_false, true_and, and_true, exists_false, exists_const, wipeR, Nat.zero_le, String.reduceEq, D.int.injEq, D.str.injEq, D.bl.injEq, atI_0, atI_1, atI_2, atI_3, atI_4, beq_self_eq_true, not_true_eq_false, not_false_eq_true, Int.cast_ofNat_Int, Int.reduceEq, Int.reduceLE, Int.reduceLT, Int.reduceAdd, Int.reduceSub, Int.reduceMul, Int.reduceNeg, if_true, if_false, ite_true, ite_false, Bool.false_eq_true, if_neg, if_pos, decide_eq_true_eq, Bool.not_eq_true', decide_eq_false_iff_not, eq_self_iff_true, decide_true, decide_false, Bool.not_true, Bool.not_false, wps_raise, wps_try, wps_tryAs, tryCase_t, tryCase_f, tbl_hit, suiteOf_hit, wp_eDct, wp_eDGet, wp_eDNew, wp_eDDef, wps_dput]
    refine take_ok (by decide) d1 (by decide) (by decide) fun v S2 a0 a1 d2 => ?_
    obtain ⟨v, rfl⟩ := Int.eq_ofNat_of_zero_le a0
    rw [gAdd_int, show (1 : Int) + (v : Nat) = ((1 + v : Nat) : Int) by omega]
    refine names_gen (by decide) (by omega) (by omega) d2 fun L S3 hL d3 => ?_
    refine book_gen hL (by decide) d3 fun Bk S4 hB d4 => ?_
    have hBt : bookD Bk = bookD Bk := rfl
    refine comes_law (by decide) hB (by decide) d4.oks fun f hf => ?_
    have d5 : DS (R ++ [.dct (fD (Bk.map (·.1)) f)]) (S4 ++ [.dct (fD (Bk.map (·.1)) f)]) := d4.push (fD_lo _ _)
    have hl8 := hL.2.1
    simp only [wp_ok, wp_ret, wp_stuck, wp_bad, wp_bnd, wp_if, wp_fif, wps_ok_nx, wps_ok_rt, wps_ok_bk, wps_ok_ct, wps_ok_xc, wps_bad, wps_lft, wps_seq, wps_nil, wps_ret, wps_expr, wps_asg, wps_if, wp_run, wps_for, wps_while, wp_comp, wp_var, wp_C, wp_bin, wp_un, wp_T, wp_Tb, wp_asBl, wp_truthBl, wp_bAnd, wp_bOr, wp_bNot, wp_eIf, wp_eAnd, wp_eOr, wp_eNot, blCase_bl, wp_chain, wp_aNil, wp_aCons, wp_tup, wp_lst, wp_lstM, wp_call, wp_cl1, wp_cl2, wp_cl3, wp_cl4, wp_cl5, wp_meth, wp_isi, wp_oNone, wp_oSome, wp_sl, wp_it, wp_range1, wp_range2, wp_bYes, gEq_str, gNe_str, gEq_int, gNe_int, gEq_bl, gNe_bl, gIs_bl, gIsNot_bl, gAdd_int, gSub_int, gC_int, gI_int, gAdd_str, gAdd_tup, gAdd_lst, gNeg_int, gIx_tup, gIx_lst, gLen_tup, gLen_lst, gLen_str, gInt_int, gInt_bl, gTuple_lst, gTuple_tup, gList_lst, gList_tup, gSl_tup, gSl_lst, gSl_fl, gSl_str, srcL_tup, srcL_lst, srcL_fl, srcL_str, srcR1_int, typN, startR, List.map_cons, List.map_nil, List.length_cons, List.length_nil, Nat.reduceAdd, Nat.reduceSub, Nat.zero_add, Nat.sub_self, Nat.sub_zero, List.replicate_zero, List.replicate_succ, List.cons_append, List.nil_append, List.append_nil, List.getElem?_cons_zero, List.getElem?_cons_succ, List.set_cons_zero, List.set_cons_succ, List.set_nil, List.getElem?_nil, Option.some.injEq, exists_eq_left', exists_eq_left, exists_eq_right, reduceCtorEq, false_and, and_false, true_and, and_true, exists_false, exists_const, wipeR, Nat.zero_le, String.reduceEq, D.int.injEq, D.str.injEq, D.bl.injEq, atI_0, atI_1, atI_2, atI_3, atI_4, beq_self_eq_true, not_true_eq_false, not_false_eq_true, Int.cast_ofNat_Int, Int.reduceEq, Int.reduceLE, Int.reduceLT, Int.reduceAdd, Int.reduceSub, Int.reduceMul, Int.reduceNeg, if_true, if_false, ite_true, ite_false, Bool.false_eq_true, if_neg, if_pos, decide_eq_true_eq, Bool.not_eq_true', decide_eq_false_iff_not, eq_self_iff_true, decide_true, decide_false, Bool.not_true, Bool.not_false, wps_raise, wps_try, wps_tryAs, tryCase_t, tryCase_f, tbl_hit, suiteOf_hit, wp_eDct, wp_eDGet, wp_eDNew, wp_eDDef, wps_dput]
    refine ⟨small_line (by decide), by rw [sizeLine_eq, List.length_map]; omega, ?_⟩
    rw [show L.map D.str ++ [D.str (Str.ofString "stranger")] = (L ++ [Str.ofString "stranger"]).map D.str by simp]
    refine wps_forM (fun k ρ S' => S' = S4 ++ [.dct (fD (Bk.map (·.1)) f)] ∧ ∃ o6 o7, ρ = [some (.fl (ns.map .int)), some (.ref 1), some d, some (.lst (L.map .str)), some (bookD Bk), some (.ref S4.length), o6, o7]) (fun _ _ _ _ => trivial) ?_ ?_ ⟨rfl, _, _, rfl⟩
    · rintro k x ρ S5 hx ⟨rfl, o6, o7, rfl⟩
      rw [List.getElem?_map, Option.map_eq_some_iff] at hx
      obtain ⟨z, hz, rfl⟩ := hx
      refine ⟨_, rfl, ?_⟩
      have hzs : PyData.strOk z = true := by
        rcases List.mem_append.mp (List.mem_of_getElem? hz) with h | h
        · exact (hL.2.2.2 z h).strOk
        · rw [List.mem_singleton.mp h]; decide +kernel
      have due : ∀ {F : D → Sto → Prop} {E}, wp (gIn (.str z) ((getK (fD (Bk.map (·.1)) f) (.inr z)).getD (.lst [])) (S4 ++ [.dct (fD (Bk.map (·.1)) f)])) F E ↔ F (.bl (decide (z ∈ (if z ∈ Bk.map (·.1) then f z else [])))) (S4 ++ [.dct (fD (Bk.map (·.1)) f)]) := fun {F E} => by
        rw [getK_fD]
        have : (if z ∈ Bk.map (·.1) then some (D.lst ((f z).map .str)) else none).getD (.lst []) = .lst ((if z ∈ Bk.map (·.1) then f z else []).map .str) := by split <;> rfl
        rw [this]
        exact gIn_strs rfl
      have same : ∀ b : Bool, (b = true ↔ ∃ t, rb (Ed Bk) z t z = true) → decide (z ∈ (if z ∈ Bk.map (·.1) then f z else [])) = b := fun b hb => by
        rw [Bool.eq_iff_iff, decide_eq_true_eq, hb]
        by_cases hzn : z ∈ Bk.map (·.1)
        · rw [if_pos hzn]
          obtain ⟨k1, k2, k3⟩ := hf z hzn
          constructor
          · intro h; exact (k2 z h).2
          · rintro ⟨t, ht⟩
            have := rb_stab (ns := Bk.map (·.1)) (Ed := Ed Bk) (fun y hy => by
              unfold Ed
              cases h : rowOf Bk y with
              | none => rfl
              | some ws => exact absurd (List.mem_map.mpr ⟨(y, ws), rowOf_mem h, rfl⟩) hy) (k := t) (rb_le (by omega) ht)
            rw [List.length_map] at this
            exact k3 z this
        · rw [if_neg hzn]
          constructor
          · intro h; exact (List.not_mem_nil h).elim
          · rintro ⟨t, ht⟩
            exfalso
            cases t with
            | zero => cases ht
            | succ t =>
              rw [rb_succ] at ht
              obtain ⟨w, hw, _⟩ := ht
              unfold Ed at hw
              cases h : rowOf Bk z with
              | none => rw [h] at hw; exact (List.not_mem_nil hw).elim
              | some ws => exact hzn (List.mem_map.mpr ⟨(z, ws), rowOf_mem h, rfl⟩)
      simp only [wp_ok, wp_ret, wp_stuck, wp_bad, wp_bnd, wp_if, wp_fif, wps_ok_nx, wps_ok_rt, wps_ok_bk, wps_ok_ct, wps_ok_xc, wps_bad, wps_lft, wps_seq, wps_nil, wps_ret, wps_expr, wps_asg, wps_if, wp_run, wps_for, wps_while, wp_comp, wp_var, wp_C, wp_bin, wp_un, wp_T, wp_Tb, wp_asBl, wp_truthBl, wp_bAnd, wp_bOr, wp_bNot, wp_eIf, wp_eAnd, wp_eOr, wp_eNot, blCase_bl, wp_chain, wp_aNil, wp_aCons, wp_tup, wp_lst, wp_lstM, wp_call, wp_cl1, wp_cl2, wp_cl3, wp_cl4, wp_cl5, wp_meth, wp_isi, wp_oNone, wp_oSome, wp_sl, wp_it, wp_range1, wp_range2, wp_bYes, gEq_str, gNe_str, gEq_int, gNe_int, gEq_bl, gNe_bl, gIs_bl, gIsNot_bl, gAdd_int, gSub_int, gC_int, gI_int, gAdd_str, gAdd_tup, gAdd_lst, gNeg_int, gIx_tup, gIx_lst, gLen_tup, gLen_lst, gLen_str, gInt_int, gInt_bl, gTuple_lst, gTuple_tup, gList_lst, gList_tup, gSl_tup, gSl_lst, gSl_fl, gSl_str, srcL_tup, srcL_lst, srcL_fl, srcL_str, srcR1_int, typN, startR, List.map_cons, List.map_nil, List.length_cons, List.length_nil, Nat.reduceAdd, Nat.reduceSub, Nat.zero_add, Nat.sub_self, Nat.sub_zero, List.replicate_zero, List.replicate_succ, List.cons_append, List.nil_append, List.append_nil, List.getElem?_cons_zero, List.getElem?_cons_succ, List.set_cons_zero, List.set_cons_succ, List.set_nil, List.getElem?_nil, Option.some.injEq, exists_eq_left', exists_eq_left, exists_eq_right, reduceCtorEq, false_and, and_false, true_and, and_true, exists_false, exists_const, wipeR, Nat.zero_le, String.reduceEq, D.int.injEq, D.str.injEq, D.bl.injEq, atI_0, atI_1, atI_2, atI_3, atI_4, beq_self_eq_true, not_true_eq_false, not_false_eq_true, Int.cast_ofNat_Int, Int.reduceEq, Int.reduceLE, Int.reduceLT, Int.reduceAdd, Int.reduceSub, Int.reduceMul, Int.reduceNeg, if_true, if_false, ite_true, ite_false, Bool.false_eq_true, if_neg, if_pos, decide_eq_true_eq, Bool.not_eq_true', decide_eq_false_iff_not, eq_self_iff_true, decide_true, decide_false, Bool.not_true, Bool.not_false, wps_raise, wps_try, wps_tryAs, tryCase_t, tryCase_f, tbl_hit, suiteOf_hit, wp_eDct, wp_eDGet, wp_eDNew, wp_eDDef, wps_dput]
      refine comes_ok (by decide) hB hzs (by decide) d5.oks (fun h => ?_) fun h => ?_
      · have e := same true ⟨fun _ => h, fun _ => rfl⟩
        simp only [isiN_bb, atD_ref one_0, gDDef_of (atD_ref one_0) (show keyD (.str z) = some (.inr z) from rfl), due, e, wp_ok, wp_ret, wp_stuck, wp_bad, wp_bnd, wp_if, wp_fif, wps_ok_nx, wps_ok_rt, wps_ok_bk, wps_ok_ct, wps_ok_xc, wps_bad, wps_lft, wps_seq, wps_nil, wps_ret, wps_expr, wps_asg, wps_if, wp_run, wps_for, wps_while, wp_comp, wp_var, wp_C, wp_bin, wp_un, wp_T, wp_Tb, wp_asBl, wp_truthBl, wp_bAnd, wp_bOr, wp_bNot, wp_eIf, wp_eAnd, wp_eOr, wp_eNot, blCase_bl, wp_chain, wp_aNil, wp_aCons, wp_tup, wp_lst, wp_lstM, wp_call, wp_cl1, wp_cl2, wp_cl3, wp_cl4, wp_cl5, wp_meth, wp_isi, wp_oNone, wp_oSome, wp_sl, wp_it, wp_range1, wp_range2, wp_bYes, gEq_str, gNe_str, gEq_int, gNe_int, gEq_bl, gNe_bl, gIs_bl, gIsNot_bl, gAdd_int, gSub_int, gC_int, gI_int, gAdd_str, gAdd_tup, gAdd_lst, gNeg_int, gIx_tup, gIx_lst, gLen_tup, gLen_lst, gLen_str, gInt_int, gInt_bl, gTuple_lst, gTuple_tup, gList_lst, gList_tup, gSl_tup, gSl_lst, gSl_fl, gSl_str, srcL_tup, srcL_lst, srcL_fl, srcL_str, srcR1_int, typN, startR, List.map_cons, List.map_nil, List.length_cons, List.length_nil, Nat.reduceAdd, Nat.reduceSub, Nat.zero_add, Nat.sub_self, Nat.sub_zero, List.replicate_zero, List.replicate_succ, List.cons_append, List.nil_append, List.append_nil, List.getElem?_cons_zero, List.getElem?_cons_succ, List.set_cons_zero, List.set_cons_succ, List.set_nil, List.getElem?_nil, Option.some.injEq, exists_eq_left', exists_eq_left, exists_eq_right, reduceCtorEq, false_and, and_false, true_and, and_true, exists_false, exists_const, wipeR, Nat.zero_le, String.reduceEq, D.int.injEq, D.str.injEq, D.bl.injEq, atI_0, atI_1, atI_2, atI_3, atI_4, beq_self_eq_true, not_true_eq_false, not_false_eq_true, Int.cast_ofNat_Int, Int.reduceEq, Int.reduceLE, Int.reduceLT, Int.reduceAdd, Int.reduceSub, Int.reduceMul, Int.reduceNeg, if_true, if_false, ite_true, ite_false, Bool.false_eq_true, if_neg, if_pos, decide_eq_true_eq, Bool.not_eq_true', decide_eq_false_iff_not, eq_self_iff_true, decide_true, decide_false, Bool.not_true, Bool.not_false, wps_raise, wps_try, wps_tryAs, tryCase_t, tryCase_f, tbl_hit, suiteOf_hit, wp_eDct, wp_eDGet, wp_eDNew, wp_eDDef, wps_dput]
        exact ⟨⟨_, rfl⟩, _, _, rfl⟩
      · have e := same false ⟨(fun q => by cases q), (fun ⟨t, ht⟩ => by rw [h t] at ht; cases ht)⟩
        simp only [isiN_bb, atD_ref one_0, gDDef_of (atD_ref one_0) (show keyD (.str z) = some (.inr z) from rfl), due, e, wp_ok, wp_ret, wp_stuck, wp_bad, wp_bnd, wp_if, wp_fif, wps_ok_nx, wps_ok_rt, wps_ok_bk, wps_ok_ct, wps_ok_xc, wps_bad, wps_lft, wps_seq, wps_nil, wps_ret, wps_expr, wps_asg, wps_if, wp_run, wps_for, wps_while, wp_comp, wp_var, wp_C, wp_bin, wp_un, wp_T, wp_Tb, wp_asBl, wp_truthBl, wp_bAnd, wp_bOr, wp_bNot, wp_eIf, wp_eAnd, wp_eOr, wp_eNot, blCase_bl, wp_chain, wp_aNil, wp_aCons, wp_tup, wp_lst, wp_lstM, wp_call, wp_cl1, wp_cl2, wp_cl3, wp_cl4, wp_cl5, wp_meth, wp_isi, wp_oNone, wp_oSome, wp_sl, wp_it, wp_range1, wp_range2, wp_bYes, gEq_str, gNe_str, gEq_int, gNe_int, gEq_bl, gNe_bl, gIs_bl, gIsNot_bl, gAdd_int, gSub_int, gC_int, gI_int, gAdd_str, gAdd_tup, gAdd_lst, gNeg_int, gIx_tup, gIx_lst, gLen_tup, gLen_lst, gLen_str, gInt_int, gInt_bl, gTuple_lst, gTuple_tup, gList_lst, gList_tup, gSl_tup, gSl_lst, gSl_fl, gSl_str, srcL_tup, srcL_lst, srcL_fl, srcL_str, srcR1_int, typN, startR, List.map_cons, List.map_nil, List.length_cons, List.length_nil, Nat.reduceAdd, Nat.reduceSub, Nat.zero_add, Nat.sub_self, Nat.sub_zero, List.replicate_zero, List.replicate_succ, List.cons_append, List.nil_append, List.append_nil, List.getElem?_cons_zero, List.getElem?_cons_succ, List.set_cons_zero, List.set_cons_succ, List.set_nil, List.getElem?_nil, Option.some.injEq, exists_eq_left', exists_eq_left, exists_eq_right, reduceCtorEq, false_and, and_false, true_and, and_true, exists_false, exists_const, wipeR, Nat.zero_le, String.reduceEq, D.int.injEq, D.str.injEq, D.bl.injEq, atI_0, atI_1, atI_2, atI_3, atI_4, beq_self_eq_true, not_true_eq_false, not_false_eq_true, Int.cast_ofNat_Int, Int.reduceEq, Int.reduceLE, Int.reduceLT, Int.reduceAdd, Int.reduceSub, Int.reduceMul, Int.reduceNeg, if_true, if_false, ite_true, ite_false, Bool.false_eq_true, if_neg, if_pos, decide_eq_true_eq, Bool.not_eq_true', decide_eq_false_iff_not, eq_self_iff_true, decide_true, decide_false, Bool.not_true, Bool.not_false, wps_raise, wps_try, wps_tryAs, tryCase_t, tryCase_f, tbl_hit, suiteOf_hit, wp_eDct, wp_eDGet, wp_eDNew, wp_eDDef, wps_dput]
        exact ⟨⟨_, rfl⟩, _, _, rfl⟩
    · rintro ρ S5 ⟨rfl, o6, o7, rfl⟩
      exact ⟨_, _, _, _, _, _, _, d5, rfl⟩
  · rintro ρ S1 ⟨R, o2, o3, o4, o5, o6, o7, d1, rfl⟩
    exact wp_fin rfl rfl rfl
def FU : Nat := 1000
def NN : Nat := 100
theorem main (ns : List Int) (hl : ns.length ≤ 63) : ∃ S', den FU NN i_law [.fl (ns.map .int)] [] = .ok (.bl true) S' := by
  have := law_ok ns hl
  show ∃ S', den 1000 100 i_law [.fl (ns.map .int)] [] = .ok (.bl true) S'
  cases h : den 1000 100 i_law [.fl (ns.map .int)] [] with
  | ok d S' => rw [h] at this; have e : d = .bl true := this; subst e; exact ⟨S', rfl⟩
  | ex e S' => rw [h] at this; exact this.elim
  | bad => rw [h] at this; exact this.elim
end K68

open PySem PySem.W PyProof.Rows in
set_option maxRecDepth 100000 in
set_option maxHeartbeats 0 in
theorem PySem.Challenge.cw_takeleave_k68_words_that_come_to_themsel_holds : PySem.Challenge.rw_takeleave_k68_words_that_come_to_themsel.Holds := by
  w_on; o_law; k_head; (case hw => w_witness2)
  k_fill
  refine L2.walk_of (l := PySem.Challenge.rw_takeleave_k68_words_that_come_to_themsel) (n := 63) (k := K68.NN + 20) (x := "_law_script") (CX := fun w => L2.CX PySem.Challenge.rw_takeleave_k68_words_that_come_to_themsel.prog w) (sp := fun w => K68.spLaw _) rfl (by decide) rfl ⟨rfl, by decide, by decide⟩ (fun w h Y => PySem.W.kIn_of Y) ?F (fun _ _ a ns hl hO hS => ⟨a, ns, rfl, hO, hS, hl, fun _ => rfl⟩) (fun w H s e s' h => by obtain ⟨_, _, _, _, _, _, _, _, _, _, _, _, z⟩ := h; exact z)
  case F =>
    intro w mg fa h KX G hmg
    refine' K68.all_mk K68.FU K68.NN K68.main KX G hmg ?a1 ?l1 ?c1 ?k1 ?a2 ?l2 ?c2 ?k2 ?a3 ?l3 ?c3 ?k3 ?a4 ?l4 ?c4 ?k4 ?a5 ?l5 ?c5 ?k5 ?a6 ?l6 ?c6 ?k6 ?a7 ?l7 ?c7 ?k7 ?a8 ?l8 ?c8 ?k8 ?a9 ?l9 ?c9 ?k9 ?a10 ?l10 ?c10 ?k10 ?a11 ?l11 ?c11 ?k11 ?a12 ?l12 ?c12 ?k12 ?a13 ?l13 ?c13 ?k13 ?a14 ?l14 ?c14 ?k14 ?a15 ?l15 ?c15 ?k15 ?a16 ?l16 ?c16 ?k16 ?a17 ?l17 ?c17 ?k17 ?a18 ?l18 ?c18 ?k18 ?z_bool ?z_int ?z_isinstance ?z_len ?z_list ?z_range ?z_reversed ?z_set ?z_sorted ?z_str ?z_sum ?z_tuple
    (case a1 => k_is)
    (case l1 => k_is)
    (case c1 => k_is)
    (case k1 => k_is)
    (case a2 => k_is)
    (case l2 => k_is)
    (case c2 => k_is)
    (case k2 => k_is)
    (case a3 => k_is)
    (case l3 => k_is)
    (case c3 => k_is)
    (case k3 => k_is)
    (case a4 => k_is)
    (case l4 => k_is)
    (case c4 => k_is)
    (case k4 => k_is)
    (case a5 => k_is)
    (case l5 => k_is)
    (case c5 => k_is)
    (case k5 => k_is)
    (case a6 => k_is)
    (case l6 => k_is)
    (case c6 => k_is)
    (case k6 => k_is)
    (case a7 => k_is)
    (case l7 => k_is)
    (case c7 => k_is)
    (case k7 => k_is)
    (case a8 => k_is)
    (case l8 => k_is)
    (case c8 => k_is)
    (case k8 => k_is)
    (case a9 => k_is)
    (case l9 => k_is)
    (case c9 => k_is)
    (case k9 => k_is)
    (case a10 => k_is)
    (case l10 => k_is)
    (case c10 => k_is)
    (case k10 => k_is)
    (case a11 => k_is)
    (case l11 => k_is)
    (case c11 => k_is)
    (case k11 => k_is)
    (case a12 => k_is)
    (case l12 => k_is)
    (case c12 => k_is)
    (case k12 => k_is)
    (case a13 => k_is)
    (case l13 => k_is)
    (case c13 => k_is)
    (case k13 => k_is)
    (case a14 => k_is)
    (case l14 => k_is)
    (case c14 => k_is)
    (case k14 => k_is)
    (case a15 => k_is)
    (case l15 => k_is)
    (case c15 => k_is)
    (case k15 => k_is)
    (case a16 => k_is)
    (case l16 => k_is)
    (case c16 => k_is)
    (case k16 => k_is)
    (case a17 => k_is)
    (case l17 => k_is)
    (case c17 => k_is)
    (case k17 => k_is)
    (case a18 => k_is)
    (case l18 => k_is)
    (case c18 => k_is)
    (case k18 => k_is)
    (case z_bool => k_is)
    (case z_int => k_is)
    (case z_isinstance => k_is)
    (case z_len => k_is)
    (case z_list => k_is)
    (case z_range => k_is)
    (case z_reversed => k_is)
    (case z_set => k_is)
    (case z_sorted => k_is)
    (case z_str => k_is)
    (case z_sum => k_is)
    (case z_tuple => k_is)
