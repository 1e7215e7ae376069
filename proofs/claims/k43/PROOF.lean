import PyProof.Rows.All
import PySem.Challenge.RW_tossplans_k43_worths_at_bends
import Wide.All
import OpenK.AllK
import Wide.FinOn
import HandS.ForMost
import HandS.Wide
import HandS.Gcd
import HandS.Evl
import HandS.Walk
import HandS.Zip
import HandS.Lambda
import HandS.TupAny
import HandS.TupLe
import HandS.IsInst
import HandS.SortKw
import HandS.SortInts
import HandS.Conv
import KE.KMathGC
import PyProof.ReprRoads
import HandS.Deep
import HandS.WideBits
import HandS.Style
import HandS.ForExc
import HandS.Defaults
import KE.GoesEnum
set_option Elab.async false
set_option linter.all false
set_option maxRecDepth 100000
set_option maxHeartbeats 4000000
namespace Tp
open PySem PySem.Spec PyProof.Rows L2
open Evl (Ex)

/-! ### data -/
inductive Sh where
  | tup | lst | fz | dk (ks : List Key) | dt (ks : List (List Key))
  deriving DecidableEq
inductive Ty where
  | none | bool | int | str | tuple | list | dict
  deriving DecidableEq
def Ty.name : Ty → String
  | .none => "NoneType"
  | .bool => "bool"
  | .int => "int"
  | .str => "str"
  | .tuple => "tuple"
  | .list => "list"
  | .dict => "dict"
inductive D where
  | non | bl (b : Bool) | int (i : Int) | str (s : Str) | ty (t : Ty) | fn (a : Addr) | ob (sh : Sh) (xs : List D)
abbrev D.tup (xs : List D) : D := D.ob .tup xs
abbrev D.lst (xs : List D) : D := D.ob .lst xs

def hoOf : Sh → List V → HO
  | .tup, vs => .tup vs
  | .lst, vs => .lst vs
  | .fz, vs => .lst vs
  | .dk ks, vs => .dK (ks.zip vs)
  | .dt ks, vs => .dT (ks.zip vs)
/-- an object of this shape that may be read at p -/
def Sq (K : PySem.W.Frag) (H : Hp) (p : Addr) : Sh → List V → Prop
  | .tup, vs => SqT K H p vs
  | .lst, vs => H p = some (.lst vs)
  | .fz, vs => SqL K H p vs
  | .dk ks, vs => H p = some (.dK (ks.zip vs))
  | .dt ks, vs => H p = some (.dT (ks.zip vs))
mutual
def Rep (K : PySem.W.Frag) (H : Hp) : D → V → Prop
  | .non, v => v = .non
  | .bl b, v => v = .bl b
  | .int i, v => v = .int i
  | .str s, v => v = .str s
  | .ty t, v => v = .ty t.name
  | .fn a, v => v = .ref a
  | .ob sh xs, v => ∃ p vs, v = .ref p ∧ Sq K H p sh vs ∧ Reps K H xs vs
def Reps (K : PySem.W.Frag) (H : Hp) : List D → List V → Prop
  | [], vs => vs = []
  | d :: ds, vs => ∃ v r, vs = v :: r ∧ Rep K H d v ∧ Reps K H ds r
end
section
variable {K : PySem.W.Frag} {H H' : Hp} {p : Addr} {sh : Sh} {vs : List V} {d : D} {ds : List D} {v : V}
theorem Sq.mono (e : Ex H H') (h : Sq K H p sh vs) : Sq K H' p sh vs := by
  cases sh with
  | tup => exact Evl.ex_t e h
  | lst => exact e _ _ h
  | fz => exact Evl.ex_l e h
  | dk ks => exact e _ _ h
  | dt ks => exact e _ _ h
theorem Sq.of (h : H p = some (hoOf sh vs)) : Sq K H p sh vs := by
  cases sh with
  | tup => exact .inl (.inl h)
  | lst => exact h
  | fz => exact .inl (.inl h)
  | dk ks => exact h
  | dt ks => exact h
/-- a list, written or not -/
def isL : Sh → Bool
  | .lst => true
  | .fz => true
  | _ => false
theorem Sq.L (h : Sq K H p sh vs) (l : isL sh = true) : SqL K H p vs := by
  cases sh with
  | lst => exact .inl (.inl h)
  | fz => exact h
  | _ => cases l
mutual
theorem Rep.mono (e : Ex H H') : ∀ {d : D} {v : V}, Rep K H d v → Rep K H' d v
  | .non, _, h => h
  | .bl _, _, h => h
  | .int _, _, h => h
  | .str _, _, h => h
  | .ty _, _, h => h
  | .fn _, _, h => h
  | .ob sh xs, v, h => by
    unfold Rep at h ⊢
    obtain ⟨p, vs, e1, e2, e3⟩ := h
    exact ⟨p, vs, e1, e2.mono e, Reps.mono e e3⟩
theorem Reps.mono (e : Ex H H') : ∀ {ds : List D} {vs : List V}, Reps K H ds vs → Reps K H' ds vs
  | [], _, h => h
  | d :: ds, vs, h => by
    unfold Reps at h ⊢
    obtain ⟨v, r, e1, e2, e3⟩ := h
    exact ⟨v, r, e1, Rep.mono e e2, Reps.mono e e3⟩
end
theorem Reps.nil_iff : Reps K H [] vs ↔ vs = [] := by unfold Reps; exact Iff.rfl
theorem Reps.nil : Reps K H [] [] := by unfold Reps; rfl
theorem Reps.cons {r : List V} (h : Rep K H d v) (t : Reps K H ds r) : Reps K H (d :: ds) (v :: r) := by
  unfold Reps; exact ⟨v, r, rfl, h, t⟩
theorem Reps.inv (h : Reps K H (d :: ds) vs) : ∃ v r, vs = v :: r ∧ Rep K H d v ∧ Reps K H ds r := by
  unfold Reps at h; exact h
theorem Reps.length : ∀ {ds : List D} {vs : List V}, Reps K H ds vs → vs.length = ds.length
  | [], _, h => by rw [Reps.nil_iff.mp h]; rfl
  | d :: ds, vs, h => by
    obtain ⟨v, r, rfl, _, t⟩ := h.inv
    rw [List.length_cons, List.length_cons, Reps.length t]
theorem Reps.get : ∀ {ds : List D} {vs : List V} {i : Nat} {d : D}, Reps K H ds vs → ds[i]? = some d → ∃ v, vs[i]? = some v ∧ Rep K H d v
  | [], _, _, _, _, h => by simp at h
  | d :: ds, vs, i, x, h, g => by
    obtain ⟨v, r, rfl, rv, t⟩ := h.inv
    cases i with
    | zero => simp at g; subst g; exact ⟨v, rfl, rv⟩
    | succ i =>
      obtain ⟨u, e1, e2⟩ := Reps.get (i := i) t (by simpa using g)
      exact ⟨u, by simpa using e1, e2⟩
theorem Reps.append : ∀ {ds es : List D} {vs us : List V}, Reps K H ds vs → Reps K H es us → Reps K H (ds ++ es) (vs ++ us)
  | [], _, _, _, h, h2 => by rw [Reps.nil_iff.mp h]; exact h2
  | d :: ds, es, vs, us, h, h2 => by
    obtain ⟨v, r, rfl, rv, t⟩ := h.inv
    exact .cons rv (Reps.append t h2)
theorem Reps.take : ∀ {ds : List D} {vs : List V} (n : Nat), Reps K H ds vs → Reps K H (ds.take n) (vs.take n)
  | _, _, 0, _ => by simpa using Reps.nil
  | [], _, n + 1, h => by rw [Reps.nil_iff.mp h]; simpa using Reps.nil
  | d :: ds, vs, n + 1, h => by
    obtain ⟨v, r, rfl, rv, t⟩ := h.inv
    exact .cons rv (Reps.take n t)
theorem Reps.drop : ∀ {ds : List D} {vs : List V} (n : Nat), Reps K H ds vs → Reps K H (ds.drop n) (vs.drop n)
  | _, _, 0, h => by simpa using h
  | [], _, n + 1, h => by rw [Reps.nil_iff.mp h]; simpa using Reps.nil
  | d :: ds, vs, n + 1, h => by
    obtain ⟨v, r, rfl, rv, t⟩ := h.inv
    exact Reps.drop n t
theorem Reps.set : ∀ {ds : List D} {vs : List V} {d : D} {v : V} (i : Nat), Reps K H ds vs → Rep K H d v → Reps K H (ds.set i d) (vs.set i v)
  | [], _, _, _, i, h, _ => by rw [Reps.nil_iff.mp h]; simpa using Reps.nil
  | d :: ds, vs, x, y, i, h, h2 => by
    obtain ⟨v, r, rfl, rv, t⟩ := h.inv
    cases i with
    | zero => exact .cons h2 t
    | succ i => exact .cons rv (Reps.set i t h2)
theorem Reps.reverse {ds : List D} {vs : List V} (h : Reps K H ds vs) : Reps K H ds.reverse vs.reverse := by
  induction ds generalizing vs with
  | nil => rw [Reps.nil_iff.mp h]; simpa using Reps.nil
  | cons d ds ih =>
    obtain ⟨v, r, rfl, rv, t⟩ := h.inv
    rw [List.reverse_cons, List.reverse_cons]
    exact (ih t).append (.cons rv .nil)
theorem Reps.ints : ∀ (l : List Int), Reps K H (l.map D.int) (l.map V.int)
  | [] => .nil
  | i :: l => .cons (by unfold Rep; rfl) (Reps.ints l)
end

/-! ### slots, results, outcomes -/
inductive Sl where
  | un | st (d : D) | ow (sh : Sh) (xs : List D)
inductive Out (α : Type) where
  | ok (a : α) | err (c : String) (p : Option D) | stuck
def Out.bind {α β : Type} : Out α → (α → Out β) → Out β
  | .ok a, f => f a
  | .err c p, _ => .err c p
  | .stuck, _ => .stuck
instance : Monad Out where
  pure := .ok
  bind := Out.bind
@[simp] theorem out_ok_bind {α β : Type} (a : α) (f : α → Out β) : (Out.ok a >>= f) = f a := rfl
@[simp] theorem out_err_bind {α β : Type} (c : String) (p : Option D) (f : α → Out β) : ((Out.err c p : Out α) >>= f) = .err c p := rfl
@[simp] theorem out_stuck_bind {α β : Type} (f : α → Out β) : ((Out.stuck : Out α) >>= f) = .stuck := rfl
@[simp] theorem out_pure {α : Type} (a : α) : (pure a : Out α) = .ok a := rfl
def ofO {α : Type} : Option α → Out α
  | some a => .ok a
  | none => .stuck
@[simp] theorem ofO_some {α : Type} (a : α) : ofO (some a) = .ok a := rfl
@[simp] theorem ofO_none {α : Type} : ofO (none : Option α) = .stuck := rfl
/-- what an expression gives: data, a new list of its own, the list that a slot owns -/
inductive R where
  | d (d : D) | ow (sh : Sh) (xs : List D) | vw (i : Nat)

/-- the ground of a def's run: the objects it was lent, what was stable and what was there at its entry -/
structure Gr where
  K : PySem.W.Frag
  B : List (Nat × Addr)
  S0 : Hp
  H0 : Hp
def Gr.has (Γ : Gr) (q : Addr) : Prop := ∃ i, (i, q) ∈ Γ.B

/-! tables of code objects: they grow -/
/-- what stays of an object that was there -/
def Kp (o u : HO) : Prop := u = o ∨ ∃ ps more : Array Value, o = .tbl ps ∧ u = .tbl (ps ++ more)
theorem Kp.refl (o : HO) : Kp o o := .inl rfl
theorem Kp.trans {o u v : HO} (a : Kp o u) (b : Kp u v) : Kp o v := by
  rcases a with rfl | ⟨ps, m, rfl, rfl⟩
  · exact b
  · rcases b with rfl | ⟨qs, n, e, rfl⟩
    · exact .inr ⟨ps, m, rfl, rfl⟩
    · cases e
      exact .inr ⟨ps, m ++ n, rfl, by rw [Array.append_assoc]⟩
theorem Kp.eq {o u : HO} (a : Kp o u) (h : ∀ ps, o ≠ .tbl ps) : u = o := by
  rcases a with a | ⟨ps, m, e, _⟩
  · exact a
  · exact absurd e (h ps)
theorem hoOf_tbl {sh : Sh} {vs : List V} (ps : Array Value) : hoOf sh vs ≠ .tbl ps := by cases sh <;> (intro z; cases z)
theorem hoOf_ext {sh : Sh} {vs : List V} (f : Heap → Prop) : hoOf sh vs ≠ .ext f := by cases sh <;> (intro z; cases z)
/-- does this body end by a call that is handed a lambda -/
def isLam : Expr → Bool
  | .Lambda .. => true
  | _ => false
def makesLam : List Stmt → Bool
  | [.Return (some (.Call (.Name _ _) [_, e] [] _)) _] => isLam e
  | _ => false
def lamName (x : Str) : Str := (envOfC x { kind := .function, names := [], isGenerator := false, isCoroutine := false, more := [] } 0 0 .none).qual ++ "<lambda>"
/-- the tables of the defs that make a lambda -/
def lamTab (K : PySem.W.Frag) (q : Addr × Obj) : Option (Addr × Str) := match q.2.data with
  | .func fd => (match fd.body with
    | .stmts body => if makesLam body = true ∧ fd.name = fd.qualname then (PySem.W.tabIn K fd.name).map fun cp => (cp.2, lamName fd.name) else none
    | _ => none)
  | _ => none
def lamTabs (K : PySem.W.Frag) : List (Addr × Str) := List.filterMap (lamTab K) K
/-- the table at P: each code object that it tells bears the name q, and stays -/
def TabF (H : Hp) (P : Addr) (q : Str) : Prop := ∃ ps : Array Value, H P = some (.tbl ps) ∧ TriplesOk ps.toList ∧ ∀ (pos : Pos) (cv : Value), codeAmong pos ps.toList = some cv → ∃ c oc, cv = .ref c ∧ H c = some (.frz oc (LamX.CodeO c q))
def TabsF (T : List (Addr × Str)) (H : Hp) : Prop := ∀ p ∈ T, TabF H p.1 p.2
theorem TabsF.ext {H H' : Hp} {T : List (Addr × Str)} (t : TabsF T H) (e : Ex H H') : TabsF T H' := fun p hp => by
  obtain ⟨ps, h1, h2, h3⟩ := t p hp
  refine ⟨ps, e _ _ h1, h2, fun pos cv hc => ?_⟩
  obtain ⟨c, oc, e1, e2⟩ := h3 pos cv hc
  exact ⟨c, oc, e1, e _ _ e2⟩
theorem TabF.nil {H : Hp} {P : Addr} {q : Str} (h : H P = some (.tbl #[])) : TabF H P q := ⟨#[], h, True.intro, fun pos cv hc => by
  have z : codeAmong pos [] = some cv := hc
  simp [codeAmong] at z⟩
theorem hoOf_frz {sh : Sh} {vs : List V} (o : Obj) (u : HO) : hoOf sh vs ≠ .frz o u := by cases sh <;> (intro z; cases z)
structure Old (Γ : Gr) (S H : Hp) : Prop where
  ex : ∀ q o, ¬ Γ.has q → Γ.H0 q = some o → ∃ u, H q = some u ∧ Kp o u
  tb : TabsF (lamTabs Γ.K) H
  nt : ∀ q ps, S q ≠ some (.tbl ps)
structure StOk (Γ : Gr) (S H : Hp) (σ : L2.St) (ρ : List Sl) : Prop where
  old : Old Γ S H
  st : Ex Γ.S0 S
  nw : ∀ q, ¬ Γ.has q → Γ.H0 q ≠ none → S q = Γ.S0 q
  le : Ex S H
  bb : ∀ q, Γ.has q → S q = none
  al : ∀ q, Γ.has q → H q ≠ none
  len : ρ.length = σ.length
  sd : ∀ (i : Nat) d, ρ[i]? = some (.st d) → ∃ v, σ[i]? = some (some v) ∧ Rep Γ.K S d v
  so : ∀ (i : Nat) sh xs, ρ[i]? = some (.ow sh xs) → ∃ p vs, σ[i]? = some (some (.ref p)) ∧ S p = none ∧ H p = some (hoOf sh vs) ∧ Reps Γ.K S xs vs ∧ (Γ.has p ∨ Γ.H0 p = none) ∧ sh ≠ .tup
  ne : ∀ (i j : Nat) p sh xs sh' xs', ρ[i]? = some (.ow sh xs) → ρ[j]? = some (.ow sh' xs') → σ[i]? = some (some (.ref p)) → σ[j]? = some (some (.ref p)) → i = j
  io : ∀ (i : Nat) q sh xs, (i, q) ∈ Γ.B → ρ[i]? = some (.ow sh xs) → σ[i]? = some (some (.ref q))
  io1 : ∀ (i : Nat) q sh xs, ρ[i]? = some (.ow sh xs) → σ[i]? = some (some (.ref q)) → Γ.has q → (i, q) ∈ Γ.B

def RepR (Γ : Gr) (S H : Hp) (σ : L2.St) (ρ : List Sl) : R → V → Prop
  | .d d, v => Rep Γ.K S d v
  | .ow sh xs, v => ∃ p vs, v = .ref p ∧ S p = none ∧ H p = some (hoOf sh vs) ∧ Reps Γ.K S xs vs ∧ ¬ Γ.has p ∧ Γ.H0 p = none ∧ sh ≠ .tup ∧ ∀ (i : Nat) sh' xs', ρ[i]? = some (.ow sh' xs') → σ[i]? ≠ some (some (.ref p))
  | .vw i, v => σ[i]? = some (some v)
/-- the object at hand, its items stable -/
def RepW (K : PySem.W.Frag) (S H : Hp) : D → V → Prop
  | .ob .tup xs, v => Rep K S (.ob .tup xs) v
  | .ob sh xs, v => ∃ p vs, v = .ref p ∧ Sq K H p sh vs ∧ Reps K S xs vs
  | d, v => Rep K S d v

section
variable {Γ : Gr} {S H S' H' : Hp} {σ : L2.St} {ρ : List Sl} {p : Addr} {o : HO} {v : V} {d : D} {sh : Sh} {xs : List D} {vs : List V}
theorem StOk.none_of (h : StOk Γ S H σ ρ) (n : H p = none) : S p = none ∧ ¬ Γ.has p ∧ Γ.H0 p = none := by
  refine ⟨Evl.fresh_back h.le n, fun b => h.al p b n, ?_⟩
  cases e : Γ.H0 p with
  | none => rfl
  | some o =>
    by_cases b : Γ.has p
    · exact absurd n (h.al p b)
    · obtain ⟨u, e1, _⟩ := h.old.ex p o b e
      rw [e1] at n; cases n
/-- tables and code objects are no lists -/
theorem tabs_chg {T : List (Addr × Str)} {u : HO} (t : TabsF T H) (e : H p = some u) (h1 : ∀ ps, u ≠ .tbl ps) (h2 : ∀ o f, u ≠ .frz o f) : TabsF T (upd H p o) := fun q hq => by
  obtain ⟨ps, a, b, c⟩ := t q hq
  have n1 : q.1 ≠ p := fun z => by rw [z, e] at a; exact h1 ps (Option.some.inj a)
  refine ⟨ps, by rw [upd_ne n1]; exact a, b, fun pos cv hc => ?_⟩
  obtain ⟨c', oc, e1, e2⟩ := c pos cv hc
  have n2 : c' ≠ p := fun z => by rw [z, e] at e2; exact h2 _ _ (Option.some.inj e2)
  exact ⟨c', oc, e1, by rw [upd_ne n2]; exact e2⟩
/-- a new object that stays as it is -/
theorem StOk.new (h : StOk Γ S H σ ρ) (n : H p = none) (no : ∀ ps, o ≠ .tbl ps := by first | exact hoOf_tbl | (intro _ z; cases z)) : StOk Γ (upd S p o) (upd H p o) σ ρ := by
  obtain ⟨n1, n2, n3⟩ := h.none_of n
  refine ⟨⟨fun q u b e => ?_, h.old.tb.ext (Ex.new n), fun q ps z => ?_⟩, h.st.trans (Ex.new n1), fun q b e => ?_, fun q u e => ?_, fun q b => ?_, fun q b => ?_, h.len, fun i d e => ?_, fun i sh xs e => ?_, h.ne, h.io, h.io1⟩
  · obtain ⟨u', e1, k⟩ := h.old.ex q u b e
    exact ⟨u', by rw [upd_ne (ne_of_none e1 n)]; exact e1, k⟩
  · by_cases y : q = p
    · subst y; rw [upd_same] at z; exact no ps (Option.some.inj z)
    · rw [upd_ne y] at z; exact h.old.nt q ps z
  · have : q ≠ p := fun z => by rw [z] at e; exact e n3
    rw [upd_ne this]; exact h.nw q b e
  · by_cases z : q = p
    · subst z; rw [upd_same] at e ⊢; exact e
    · rw [upd_ne z] at e ⊢; exact h.le q u e
  · have : q ≠ p := fun z => n2 (z ▸ b)
    rw [upd_ne this]; exact h.bb q b
  · have : q ≠ p := fun z => n2 (z ▸ b)
    rw [upd_ne this]; exact h.al q b
  · obtain ⟨v, e1, e2⟩ := h.sd i d e
    exact ⟨v, e1, e2.mono (Ex.new n1)⟩
  · obtain ⟨q, vs, e1, e2, e3, e4, e5⟩ := h.so i sh xs e
    have : q ≠ p := ne_of_none e3 n
    exact ⟨q, vs, e1, by rw [upd_ne this]; exact e2, by rw [upd_ne this]; exact e3, e4.mono (Ex.new n1), e5⟩
/-- the heap grows, nothing else -/
theorem StOk.grow (h : StOk Γ S H σ ρ) (e : Ex H H') : StOk Γ S H' σ ρ :=
  ⟨⟨fun q u b k => by obtain ⟨u', e1, k1⟩ := h.old.ex q u b k; exact ⟨u', e q u' e1, k1⟩, h.old.tb.ext e, h.old.nt⟩, h.st, h.nw, h.le.trans e, h.bb, fun q b z => h.al q b (Evl.fresh_back e z), h.len, h.sd, fun i sh xs k => by
    obtain ⟨q, vs, e1, e2, e3, e4, e5⟩ := h.so i sh xs k
    exact ⟨q, vs, e1, e2, e q _ e3, e4, e5⟩, h.ne, h.io, h.io1⟩
/-- a new object of one's own -/
theorem StOk.newOwn (h : StOk Γ S H σ ρ) (n : H p = none) (hr : Reps Γ.K S xs vs) (hs : sh ≠ .tup) : StOk Γ S (upd H p (hoOf sh vs)) σ ρ ∧ RepR Γ S (upd H p (hoOf sh vs)) σ ρ (.ow sh xs) (.ref p) := by
  obtain ⟨n1, n2, n3⟩ := h.none_of n
  refine ⟨h.grow (Ex.new n), p, vs, rfl, n1, upd_same, hr, n2, n3, hs, fun i sh' xs' e z => ?_⟩
  obtain ⟨q, us, e1, e2, e3, e4, e5⟩ := h.so i sh' xs' e
  rw [e1] at z
  have : q = p := by injection z with z; injection z with z; injection z with z
  subst this
  rw [e3] at n; cases n
/-- one's own, now stable -/
theorem StOk.demote (h : StOk Γ S H σ ρ) (r : RepR Γ S H σ ρ (.ow sh xs) v) : ∃ S', Ex S S' ∧ StOk Γ S' H σ ρ ∧ Rep Γ.K S' (.ob sh xs) v := by
  obtain ⟨p, vs, rfl, n1, hp, hr, n2, n3, _, n4⟩ := r
  have x := Ex.new (o := hoOf sh vs) n1
  refine ⟨upd S p (hoOf sh vs), x, ⟨⟨h.old.ex, h.old.tb, fun q ps z => ?_⟩, h.st.trans x, fun q b e => ?_, fun q u e => ?_, fun q b => ?_, h.al, h.len, fun i d e => ?_, fun i sh xs e => ?_, h.ne, h.io, h.io1⟩, ?_⟩
  · by_cases y : q = p
    · subst y; rw [upd_same] at z; exact hoOf_tbl ps (Option.some.inj z)
    · rw [upd_ne y] at z; exact h.old.nt q ps z
  · have : q ≠ p := fun z => by rw [z] at e; exact e n3
    rw [upd_ne this]; exact h.nw q b e
  · by_cases z : q = p
    · subst z; rw [upd_same] at e; rw [← e]; exact hp
    · rw [upd_ne z] at e; exact h.le q u e
  · have : q ≠ p := fun z => n2 (z ▸ b)
    rw [upd_ne this]; exact h.bb q b
  · obtain ⟨v, e1, e2⟩ := h.sd i d e
    exact ⟨v, e1, e2.mono x⟩
  · obtain ⟨q, us, e1, e2, e3, e4, e5⟩ := h.so i sh xs e
    have : q ≠ p := fun z => n4 i sh xs e (z ▸ e1)
    exact ⟨q, us, e1, by rw [upd_ne this]; exact e2, e3, e4.mono x, e5⟩
  · unfold Rep; exact ⟨p, vs, rfl, Sq.of upd_same, hr.mono x⟩
theorem RepW.of (h : StOk Γ S H σ ρ) (r : Rep Γ.K S d v) : RepW Γ.K S H d v := by
  cases d with
  | ob sh xs =>
    cases sh with
    | tup => exact r
    | _ =>
      unfold Rep at r
      obtain ⟨p, vs, e1, e2, e3⟩ := r
      exact ⟨p, vs, e1, e2.mono h.le, e3⟩
  | _ => exact r
/-- what a slot's own list is -/
theorem RepW.slot (h : StOk Γ S H σ ρ) {i : Nat} (e : ρ[i]? = some (.ow sh xs)) (r : σ[i]? = some (some v)) : RepW Γ.K S H (.ob sh xs) v := by
  obtain ⟨p, vs, e1, e2, e3, e4, e5, e6⟩ := h.so i sh xs e
  rw [e1] at r
  have : V.ref p = v := by injection r with r; injection r with r
  cases sh with
  | tup => exact absurd rfl e6
  | _ => exact ⟨p, vs, this.symm, Sq.of e3, e4⟩
end
def Sl.val : Sl → Out D
  | .st d => .ok d
  | .ow sh xs => .ok (.ob sh xs)
  | .un => .stuck
def R.val (ρ : List Sl) : R → Out D
  | .d x => .ok x
  | .ow sh xs => .ok (.ob sh xs)
  | .vw i => match ρ[i]? with
    | some (.ow sh xs) => .ok (.ob sh xs)
    | _ => .stuck
/-- handed on: one's own is one's own no more -/
def R.hand : R → R
  | .ow sh xs => .d (.ob sh xs)
  | r => r
theorem R.val_hand (ρ : List Sl) (r : R) : r.hand.val ρ = r.val ρ := by cases r <;> rfl
section
variable {Γ : Gr} {S H S' H' : Hp} {σ : L2.St} {ρ ρ' : List Sl} {r : R} {v : V} {d : D}
theorem RepR.hand (h : StOk Γ S H σ ρ) (k : RepR Γ S H σ ρ r v) : ∃ S', Ex S S' ∧ StOk Γ S' H σ ρ ∧ RepR Γ S' H σ ρ r.hand v := by
  cases r with
  | d d => exact ⟨S, Ex.refl S, h, k⟩
  | vw i => exact ⟨S, Ex.refl S, h, k⟩
  | ow sh xs => exact h.demote k
/-- a handed result, later -/
theorem RepR.later (e : Ex S S') (k : RepR Γ S H σ ρ r.hand v) : RepR Γ S' H' σ ρ' r.hand v := by
  cases r with
  | d d => exact Rep.mono e k
  | vw i => exact k
  | ow sh xs => exact Rep.mono e k
theorem RepR.w (h : StOk Γ S H σ ρ) (k : RepR Γ S H σ ρ r.hand v) (e : r.hand.val ρ = .ok d) : RepW Γ.K S H d v := by
  cases r with
  | d d' =>
    have e : Out.ok d' = Out.ok d := e
    injection e with e; subst e; exact RepW.of h k
  | ow sh xs =>
    have e : Out.ok (D.ob sh xs) = Out.ok d := e
    injection e with e; subst e; exact RepW.of h k
  | vw i =>
    have e : (match ρ[i]? with | some (.ow sh xs) => Out.ok (D.ob sh xs) | _ => .stuck) = Out.ok d := e
    have k : σ[i]? = some (some v) := k
    cases q : ρ[i]? with
    | none => rw [q] at e; cases e
    | some s =>
      rw [q] at e
      cases s with
      | un => cases e
      | st d => cases e
      | ow sh xs => injection e with e; subst e; exact RepW.slot h q k
end
end Tp
set_option Elab.async false
set_option linter.all false
set_option maxRecDepth 100000
set_option maxHeartbeats 4000000
namespace Tp
open PySem PySem.Spec PyProof.Rows L2
open Evl (Ex)
/-! ### a lambda is made -/
section
variable {X : Cx} {pins : List (Addr × Obj)} {σ : L2.St} {H : Hp} {s : Shared}
/-- a table written, a new code object told -/
theorem inv_tabF {P c : Addr} {q : Str} {ps ws : Array Value} {g : Heap} {tk : Nat} {oc : Obj} (I : Inv X pins σ H s) (tP : H P = some (.tbl ps)) (old : ∀ b o, b ≠ P → s.heap.get? b = some o → g.get? b = some o)
    (new : g.get? P = some { cls := .none, data := .fields (ps ++ ws) }) (high : s.heap.objs.size ≤ c) (gc : g.get? c = some oc) (nmd : ∃ (fs : Array Value) (t : Tok), oc.data = .fields fs ∧ fs[1]? = some (.str q t)) :
    Inv X pins σ (upd (upd H P (.tbl (ps ++ ws))) c (.frz oc (LamX.CodeO c q))) { s with heap := g, toks := tk } := by
  have hc0 : H c = none := I.hok.fresh high
  have cP : P ≠ c := ne_of_none tP hc0
  have off : ∀ b, b ≠ P → b ≠ c → upd (upd H P (.tbl (ps ++ ws))) c (.frz oc (LamX.CodeO c q)) b = H b := fun b h1 h2 => by rw [upd_ne h2, upd_ne h1]
  have onP : upd (upd H P (.tbl (ps ++ ws))) c (.frz oc (LamX.CodeO c q)) P = some (.tbl (ps ++ ws)) := by rw [upd_ne cP, upd_same]
  have notP : ∀ b u, H b = some u → (∀ qs, u ≠ .tbl qs) → b ≠ P := by
    intro b u e n z
    rw [z, tP] at e
    exact n ps (Option.some.inj e).symm
  have notC : ∀ b u, H b = some u → b ≠ c := fun b u e => ne_of_none e hc0
  have low : ∀ b o, s.heap.get? b = some o → b ≠ c := by
    intro b o e z
    subst z
    exact absurd (Heap.lt_size e) (Nat.not_lt.mpr high)
  have unP : ∀ b, H b = none → b ≠ P := fun b e z => by rw [z, tP] at e; cases e
  refine I.step (g' := s.gens) (d' := s.drawn) (ch := []) (fun b z => by cases z) (fun b o _ _ _ e n => old b o (unP b n) e) (fun b o _ _ _ e n => ⟨o.slots, old b o (unP b n) e⟩) (fun b o _ e n => ?_) (fun b o _ e => ?_) (fun b xs e => ?_) (fun b o u e => ?_) (fun b qs e => ?_) (fun m z => ?_) (fun b u e => ?_) I.bare
  · rw [off b (unP b n) (low b o e)]; exact n
  · by_cases z : b = P
    · subst z; exact ⟨_, new⟩
    · exact ⟨o, old b o z e⟩
  · rw [off b (notP b _ e (fun _ z => by cases z)) (notC b _ e)]; exact e
  · rw [off b (notP b _ e (fun _ z => by cases z)) (notC b _ e)]; exact e
  · by_cases z : b = P
    · subst z
      rw [tP] at e
      cases e
      exact ⟨ws, onP⟩
    · exact ⟨#[], by rw [off b z (notC b _ e), e]; simp⟩
  · obtain ⟨ob, es, ep, ho, r⟩ := z
    exact ⟨ob, es, ep, old _ ob (unP _ I.free) ho, r⟩
  · by_cases z : b = c
    · subst z
      rw [upd_same] at e
      cases e
      obtain ⟨fs, t, e1, e2⟩ := nmd
      exact ⟨gc, ⟨oc, fs, t, gc, e1, e2⟩, ⟨oc, gc⟩, fun h1 h2 ⟨o1, f1, t1, a1, a2, a3⟩ st => ⟨o1, f1, t1, st o1 a1, a2, a3⟩⟩
    · by_cases z2 : b = P
      · subst z2
        rw [onP] at e
        cases e
        exact new
      · rw [off b z2 z] at e
        have keep2 : ∀ d v, (d = b ∨ H d = some v ∧ ∀ qs, v ≠ .tbl qs) → d ≠ P := by
          rintro d v (y | ⟨y, n⟩)
          · rw [y]; exact z2
          · exact notP d v y n
        refine (I.hok b u e).stay (fun d v hd y => old d v ?_ y) (fun d y => ?_) fun d xs y => ?_
        · rcases hd with y | y
          · rw [y]; exact z2
          · exact notP d _ y (fun _ w => by cases w)
        · rw [off d (notP d _ y (fun _ w => by cases w)) (notC d _ y)]; exact y
        · rw [off d (notP d _ y (fun _ w => by cases w)) (notC d _ y)]; exact y
/-- all but the tables stay -/
def ExF (H H' : Hp) : Prop := ∀ b o, H b = some o → (∀ ps, o ≠ .tbl ps) → H' b = some o
structure MadeF (X : Cx) (f c' : Addr) (q : Str) (params : Arguments) (body : Expr) (scope : Scope) (H H1 : Hp) (s1 : Shared) : Prop where
  ex : ∀ b o, H b = some o → ∃ u, H1 b = some u ∧ Kp o u
  fn : ∃ (pm ctv : Value), s1.heap.get? f = some (PySem.W.kla_obj "<lambda>" q params body scope (cloFrom X.env.cells scope.names []) pm c' ctv)
  un : H1 f = none
  fr : f ∉ frs X.stack
  co : ∃ oc, H1 c' = some (.frz oc (LamX.CodeO c' q))
theorem lam_makeF {T : List (Addr × Str)} {c P : Addr} {params : Arguments} {body : Expr} {scope : Scope} {pos : Pos} {E Q : Value → Shared → Prop} (I : Inv X pins σ H s) (TB : LamX.TabB X.base X.mg c P) (hcode : X.env.code = .ref c)
    (hm : (P, X.env.qual ++ "<lambda>") ∈ T) (hu : ∀ p ∈ T, p.1 = P → p.2 = X.env.qual ++ "<lambda>") (hT : TabsF T H) (hdef : defaultsOf params X.env = ([], [])) (hfree : ∀ y ∈ scope.names, y.2 = .free → ∃ c, X.env.cells.lookup y.1 = some c)
    (h : ∀ (f c' : Addr) (H1 : Hp) (s1 : Shared), Inv X pins σ H1 s1 → TabsF T H1 → MadeF X f c' (X.env.qual ++ "<lambda>") params body scope H H1 s1 → Q (.ref f) s1) :
    wpAny (model X.prog X.w) X.A (eval (.Lambda params body scope pos) X.env) Q E s := by
  obtain ⟨ps, tP, trip, ent⟩ := hT _ hm
  refine PySem.W.kla_eval hdef ?_
  have bm : s.heap.BuiltinsAt X.mg P := TB.bm.keeps I.bk
  have gP : s.heap.get? P = some { cls := .none, data := .fields ps } := I.hok P _ tP
  have noF : ∀ f, s.heap.objs.size ≤ f → f ∉ frs X.stack := by
    intro f le z
    rcases List.mem_cons.mp (I.stkSub _ z) with y | y
    · have lt := I.lt
      rw [← y] at lt
      exact absurd lt (Nat.not_lt.mpr le)
    · exact I.nofs le y
  cases found : codeAmong pos ps.toList with
  | none =>
    refine PySem.W.kla_makeFunction (mg := X.mg) (c := c) (P := P) (ps := ps) (closure_ok hfree) I.ok.glob (I.mod.glob.keeps I.bk) hcode (TB.code.keeps I.bk) gP trip found TB.gP bm fun c' ctv g tk ext ge lt rec tab => ?_
    obtain ⟨c2, oc, fs, t, e2, hoc, hd, hv⟩ := rec
    cases e2
    have sz : s.heap.objs.size ≤ g.objs.size := Nat.le_trans ge (Nat.le_of_lt lt)
    have cN : H c' = none := I.hok.fresh ge
    have J := inv_tabF (tk := tk) (ws := #[rawInt pos.line, rawInt pos.col, .ref c']) (g := g.push (PySem.W.kla_obj "<lambda>" (X.env.qual ++ "<lambda>") params body scope (cloFrom X.env.cells scope.names []) ((X.mg "__name__").getD .none) c' ctv)) I tP
      (fun b o ne e => Heap.get?_push_of_some _ (ext b o ne e)) (Heap.get?_push_of_some _ tab) ge (Heap.get?_push_of_some _ hoc) ⟨fs, t, hd, hv⟩
    have grow : ∀ b o, H b = some o → ∃ u, upd (upd H P (.tbl (ps ++ #[rawInt pos.line, rawInt pos.col, .ref c']))) c' (.frz oc (LamX.CodeO c' (X.env.qual ++ "<lambda>"))) b = some u ∧ Kp o u := by
      intro b o e
      by_cases y : b = P
      · subst y
        rw [tP] at e
        cases e
        exact ⟨_, by rw [upd_ne (ne_of_none tP cN), upd_same], .inr ⟨ps, _, rfl, rfl⟩⟩
      · exact ⟨o, by rw [upd_ne (ne_of_none e cN), upd_ne y]; exact e, Kp.refl o⟩
    have arr : (ps ++ #[rawInt pos.line, rawInt pos.col, .ref c']).toList = ps.toList ++ [rawInt pos.line, rawInt pos.col, .ref c'] := by simp
    have stay : ∀ b o, H b = some o → (∀ qs, o ≠ .tbl qs) → upd (upd H P (.tbl (ps ++ #[rawInt pos.line, rawInt pos.col, .ref c']))) c' (.frz oc (LamX.CodeO c' (X.env.qual ++ "<lambda>"))) b = some o := by
      intro b o e n
      obtain ⟨u, e1, k⟩ := grow b o e
      rw [e1, k.eq n]
    refine h g.objs.size c' _ _ J (fun p hp => ?_) ⟨grow, ⟨_, _, Heap.get?_push_size _ rfl⟩, ?_, noF _ sz, ⟨oc, upd_same⟩⟩
    · by_cases y : p.1 = P
      · rw [hu p hp y, y]
        refine ⟨_, by rw [upd_ne (ne_of_none tP cN), upd_same], by rw [arr]; exact PySem.TriplesOk_snoc _ _ _ _ trip, fun p' cv hcv => ?_⟩
        rw [arr] at hcv
        rcases LamX.among_app _ trip hcv with z | z
        · obtain ⟨c0, o0, e1, e2⟩ := ent p' cv z
          exact ⟨c0, o0, e1, stay _ _ e2 (fun _ w => by cases w)⟩
        · exact ⟨c', oc, z, upd_same⟩
      · obtain ⟨qs, a1, a2, a3⟩ := hT p hp
        refine ⟨qs, by rw [upd_ne (ne_of_none a1 cN), upd_ne y]; exact a1, a2, fun p' cv hcv => ?_⟩
        obtain ⟨c0, o0, e1, e2⟩ := a3 p' cv hcv
        exact ⟨c0, o0, e1, stay _ _ e2 (fun _ w => by cases w)⟩
    · have n1 : g.objs.size ≠ c' := Nat.ne_of_gt lt
      have n2 : g.objs.size ≠ P := Nat.ne_of_gt (Nat.lt_of_lt_of_le (Heap.lt_size gP) sz)
      rw [upd_ne n1, upd_ne n2]
      exact I.hok.fresh sz
  | some cv =>
    obtain ⟨c', oc, e, hco⟩ := ent pos cv found
    subst e
    refine PySem.W.kla_makeFunctionHit (mg := X.mg) (c := c) (P := P) (ps := ps) (closure_ok hfree) I.ok.glob (I.mod.glob.keeps I.bk) hcode (TB.code.keeps I.bk) gP trip found bm fun ctv g tk ext sz => ?_
    have J : Inv X pins σ H { s with heap := g.push (PySem.W.kla_obj "<lambda>" (X.env.qual ++ "<lambda>") params body scope (cloFrom X.env.cells scope.names []) ((X.mg "__name__").getD .none) c' ctv), toks := tk } := I.kept fun b o e => Heap.get?_push_of_some _ (ext b o e)
    exact h g.objs.size c' H _ J hT ⟨fun b o e => ⟨o, e, Kp.refl o⟩, ⟨_, _, Heap.get?_push_size _ rfl⟩, I.hok.fresh sz, noF _ sz, ⟨oc, hco⟩⟩
end
end Tp
set_option Elab.async false
set_option linter.all false
set_option maxRecDepth 100000
set_option maxHeartbeats 4000000
namespace Tp
open PySem PySem.Spec PyProof.Rows L2
open Evl (Ex)

abbrev M (α : Type) := List Sl → Out (α × List Sl)

/-! ### readings by data -/
section
variable (Γ : Gr)
/-- what is wanted behind a result -/
def Fin (S H : Hp) (σ : L2.St) (ρ : List Sl) (r : R) (Q : VK) : Prop := ∀ v S' H', Ex S S' → StOk Γ S' H' σ ρ → RepR Γ S' H' σ ρ r v → Q v H'
def goR (S : Hp) (σ : L2.St) (Q : VK) : Out (R × List Sl) → Prop
  | .ok (r, ρ') => ∀ v S' H', Ex S S' → StOk Γ S' H' σ ρ' → RepR Γ S' H' σ ρ' r v → Q v H'
  | _ => False

def goB (S : Hp) (σ : L2.St) (Q : Bool → Hp → Prop) : Out (Bool × List Sl) → Prop
  | .ok (b, ρ') => ∀ S' H', Ex S S' → StOk Γ S' H' σ ρ' → Q b H'
  | _ => False

/-- handed results -/
def RepRs (S H : Hp) (σ : L2.St) (ρ : List Sl) : List R → List V → Prop
  | [], vs => vs = []
  | r :: rs, vs => ∃ v us, vs = v :: us ∧ (r = r.hand ∧ RepR Γ S H σ ρ r v) ∧ RepRs S H σ ρ rs us
def goA (S : Hp) (σ : L2.St) (Q : List V → Hp → Prop) : Out (List R × List Sl) → Prop
  | .ok (rs, ρ') => ∀ vs S' H', Ex S S' → StOk Γ S' H' σ ρ' → RepRs Γ S' H' σ ρ' rs vs → Q vs H'
  | _ => False
end
/-- all that is lent is lent at the slot io -/
def Lent (Γ : Gr) (io : Option Nat) : Prop := ∀ i q, (i, q) ∈ Γ.B → io = some i
def tR (K : PySem.W.Frag) (io : Option Nat) (m : M R) : TE := fun σ H Q => ∃ Γ : Gr, Γ.K = K ∧ Lent Γ io ∧ ∃ S ρ, StOk Γ S H σ ρ ∧ goR Γ S σ Q (m ρ)
def tBo (K : PySem.W.Frag) (io : Option Nat) (m : M Bool) : TT := fun σ H Q => ∃ Γ : Gr, Γ.K = K ∧ Lent Γ io ∧ ∃ S ρ, StOk Γ S H σ ρ ∧ goB Γ S σ Q (m ρ)
def tAr (K : PySem.W.Frag) (io : Option Nat) (m : M (List R)) : TA := fun σ H Q => ∃ Γ : Gr, Γ.K = K ∧ Lent Γ io ∧ ∃ S ρ, StOk Γ S H σ ρ ∧ goA Γ S σ Q (m ρ)
section
variable {Γ : Gr} {S S' H H' : Hp} {σ : L2.St} {ρ ρ' : List Sl} {Q Q' : VK} {r : R} {v : V}
theorem Fin.here (h : Fin Γ S H σ ρ r Q) (k : StOk Γ S H σ ρ) (q : RepR Γ S H σ ρ r v) : Q v H := h v S H (Ex.refl S) k q
theorem Fin.newTup {ds : List D} {vs : List V} {p : Addr} (h : Fin Γ S H σ ρ (.d (.tup ds)) Q) (k : StOk Γ S H σ ρ) (q : Reps Γ.K S ds vs) (n : H p = none) : Q (.ref p) (upd H p (.tup vs)) := by
  have n1 := (k.none_of n).1
  refine h _ _ _ (Ex.new n1) (k.new (o := .tup vs) n) ?_
  show Rep Γ.K (upd S p (.tup vs)) (.ob .tup ds) (.ref p)
  unfold Rep; exact ⟨p, vs, rfl, Sq.of (sh := .tup) upd_same, q.mono (Ex.new n1)⟩
theorem Fin.newOwn {sh : Sh} {ds : List D} {vs : List V} {p : Addr} (h : Fin Γ S H σ ρ (.ow sh ds) Q) (k : StOk Γ S H σ ρ) (q : Reps Γ.K S ds vs) (n : H p = none) (hs : sh ≠ .tup) : Q (.ref p) (upd H p (hoOf sh vs)) :=
  let ⟨a, b⟩ := k.newOwn (sh := sh) n q hs
  h _ _ _ (Ex.refl S) a b
theorem goR_of {o : Out (R × List Sl)} (g : goR Γ S σ Q o) (e : Ex S S') : goR Γ S' σ Q o := by
  cases o with
  | ok y => intro v S2 H' e' st' rr'; exact g v S2 H' (e.trans e') st' rr'
  | err c p => exact g
  | stuck => exact g
theorem goB_of {o : Out (Bool × List Sl)} {Q : Bool → Hp → Prop} (g : goB Γ S σ Q o) (e : Ex S S') : goB Γ S' σ Q o := by
  cases o with
  | ok y => intro S2 H' e' st'; exact g S2 H' (e.trans e') st'
  | err c p => exact g
  | stuck => exact g
theorem goA_of {o : Out (List R × List Sl)} {Q : List V → Hp → Prop} (g : goA Γ S σ Q o) (e : Ex S S') : goA Γ S' σ Q o := by
  cases o with
  | ok y => intro v S2 H' e' st' rr'; exact g v S2 H' (e.trans e') st' rr'
  | err c p => exact g
  | stuck => exact g
end

/-! ### operators by data -/
def opM (g : D → D → Out R) (ma mb : M R) : M R := fun ρ => (ma ρ).bind fun x => (mb x.2).bind fun y => (x.1.hand.val y.2).bind fun a => (y.1.hand.val y.2).bind fun b => (g a b).bind fun r => .ok (r, y.2)
def rO (K : PySem.W.Frag) (g : D → D → Out R) : R2 := fun x y H Q => ∃ (Γ : Gr) (S : Hp) (σ : L2.St) (ρ : List Sl) (a b : D) (r : R), Γ.K = K ∧ StOk Γ S H σ ρ ∧ RepW K S H a x ∧ RepW K S H b y ∧ g a b = .ok r ∧ Fin Γ S H σ ρ r Q
theorem bind_ok {α β : Type} {o : Out α} {f : α → Out β} {P : Out β → Prop} (h : P (o.bind f)) (he : ∀ c p, ¬ P (.err c p)) (hs : ¬ P .stuck) : ∃ a, o = .ok a ∧ P (f a) := by
  cases o with
  | ok a => exact ⟨a, rfl, h⟩
  | err c p => exact absurd h (he c p)
  | stuck => exact absurd h hs
theorem goR_bind {Γ : Gr} {S : Hp} {σ : L2.St} {Q : VK} {α : Type} {o : Out α} {f : α → Out (R × List Sl)} (h : goR Γ S σ Q (o.bind f)) : ∃ a, o = .ok a ∧ goR Γ S σ Q (f a) :=
  bind_ok (P := goR Γ S σ Q) h (fun _ _ z => z) id
theorem goB_bind {Γ : Gr} {S : Hp} {σ : L2.St} {Q : Bool → Hp → Prop} {α : Type} {o : Out α} {f : α → Out (Bool × List Sl)} (h : goB Γ S σ Q (o.bind f)) : ∃ a, o = .ok a ∧ goB Γ S σ Q (f a) :=
  bind_ok (P := goB Γ S σ Q) h (fun _ _ z => z) id
theorem goA_bind {Γ : Gr} {S : Hp} {σ : L2.St} {Q : List V → Hp → Prop} {α : Type} {o : Out α} {f : α → Out (List R × List Sl)} (h : goA Γ S σ Q (o.bind f)) : ∃ a, o = .ok a ∧ goA Γ S σ Q (f a) :=
  bind_ok (P := goA Γ S σ Q) h (fun _ _ z => z) id
section
variable {Γ : Gr} {S S' H H' : Hp} {σ : L2.St} {ρ ρ' : List Sl} {Q Q' : VK} {r : R} {v : V}
/-- the first part of several: its value comes, handed -/
theorem tR_first {io : Option Nat} {m : M R} {S : Hp} {ρ : List Sl} {x : R × List Sl} (hL : Lent Γ io) (st : StOk Γ S H σ ρ) (e : m ρ = .ok x)
    (k : ∀ v S1 H1, Ex S S1 → StOk Γ S1 H1 σ x.2 → RepR Γ S1 H1 σ x.2 x.1.hand v → Q v H1) : tR Γ.K io m σ H Q := by
  refine ⟨Γ, rfl, hL, S, ρ, st, ?_⟩
  rw [e]
  obtain ⟨r, ρ1⟩ := x
  intro v S1 H1 e1 st1 rr
  obtain ⟨S2, e2, st2, rr2⟩ := rr.hand st1
  exact k v S2 H1 (e1.trans e2) st2 rr2
theorem tR_op {K : PySem.W.Frag} {io : Option Nat} {g : D → D → Out R} {ma mb : M R} (h : tR K io (opM g ma mb) σ H Q) : tOp (rO K g) (tR K io ma) (tR K io mb) σ H Q := by
  obtain ⟨Γ, rfl, hL, S, ρ, st, q⟩ := h
  obtain ⟨x, e1, q⟩ := goR_bind q
  obtain ⟨y, e2, q⟩ := goR_bind q
  obtain ⟨a, e3, q⟩ := goR_bind q
  obtain ⟨b, e4, q⟩ := goR_bind q
  obtain ⟨r, e5, q⟩ := goR_bind q
  refine tR_first hL st e1 fun v S1 H1 x1 st1 r1 => ?_
  refine tR_first hL st1 e2 fun u S2 H2 x2 st2 r2 => ?_
  have q2 := goR_of q (x1.trans x2)
  refine ⟨Γ, S2, σ, y.2, a, b, r, rfl, st2, RepR.w st2 (r1.later x2) e3, RepR.w st2 r2 e4, e5, q2⟩
end
def unM (g : D → Out R) (ma : M R) : M R := fun ρ => (ma ρ).bind fun x => (x.1.hand.val x.2).bind fun a => (g a).bind fun r => .ok (r, x.2)
def rU1 (K : PySem.W.Frag) (g : D → Out R) : V → Hp → VK → Prop := fun x H Q => ∃ (Γ : Gr) (S : Hp) (σ : L2.St) (ρ : List Sl) (a : D) (r : R), Γ.K = K ∧ StOk Γ S H σ ρ ∧ RepW K S H a x ∧ g a = .ok r ∧ Fin Γ S H σ ρ r Q
theorem tR_un {K : PySem.W.Frag} {io : Option Nat} {H : Hp} {σ : L2.St} {Q : VK} {g : D → Out R} {ma : M R} (h : tR K io (unM g ma) σ H Q) : tUn (rU1 K g) (tR K io ma) σ H Q := by
  obtain ⟨Γ, rfl, hL, S, ρ, st, q⟩ := h
  obtain ⟨x, e1, q⟩ := goR_bind q
  obtain ⟨a, e3, q⟩ := goR_bind q
  obtain ⟨r, e5, q⟩ := goR_bind q
  refine tR_first hL st e1 fun v S1 H1 x1 st1 r1 => ?_
  exact ⟨Γ, S1, σ, x.2, a, r, rfl, st1, RepR.w st1 r1 e3, e5, goR_of q x1⟩
/-! ### arguments -/
def nilM : M (List R) := fun ρ => .ok ([], ρ)
def consM (ma : M R) (mr : M (List R)) : M (List R) := fun ρ => (ma ρ).bind fun x => (mr x.2).bind fun y => .ok (x.1.hand :: y.1, y.2)
theorem RepRs.later {Γ : Gr} {S S' H H' : Hp} {σ : L2.St} {ρ ρ' : List Sl} (e : Ex S S') : ∀ {rs : List R} {vs : List V}, RepRs Γ S H σ ρ rs vs → RepRs Γ S' H' σ ρ' rs vs
  | [], _, h => h
  | r :: rs, vs, h => by
    obtain ⟨v, us, e1, ⟨e2, e3⟩, e4⟩ := h
    rw [e2] at e3
    exact ⟨v, us, e1, ⟨e2, by rw [e2]; exact e3.later e⟩, RepRs.later e e4⟩
theorem tA_nil {K : PySem.W.Frag} {io : Option Nat} {H : Hp} {σ : L2.St} {Q : List V → Hp → Prop} (h : tAr K io nilM σ H Q) : tNil σ H Q := by
  obtain ⟨Γ, rfl, hL, S, ρ, st, q⟩ := h
  exact q [] S H (Ex.refl S) st rfl
theorem hand_hand (r : R) : r.hand = r.hand.hand := by cases r <;> rfl
theorem tA_cons {K : PySem.W.Frag} {io : Option Nat} {H : Hp} {σ : L2.St} {Q : List V → Hp → Prop} {ma : M R} {mr : M (List R)} (h : tAr K io (consM ma mr) σ H Q) : tCons (tR K io ma) (tAr K io mr) σ H Q := by
  obtain ⟨Γ, rfl, hL, S, ρ, st, q⟩ := h
  obtain ⟨x, e1, q⟩ := goA_bind q
  obtain ⟨y, e2, q⟩ := goA_bind q
  refine tR_first hL st e1 fun v S1 H1 x1 st1 r1 => ?_
  refine ⟨Γ, rfl, hL, S1, x.2, st1, ?_⟩
  rw [e2]
  obtain ⟨rs, ρ2⟩ := y
  intro vs S2 H2 x2 st2 r2
  refine q (v :: vs) S2 H2 (x1.trans x2) st2 ⟨v, vs, rfl, ⟨hand_hand _, r1.later x2⟩, r2⟩
/-- the values at the end -/
def valsOf (ρ : List Sl) : List R → Out (List D)
  | [] => .ok []
  | r :: rs => (r.val ρ).bind fun d => (valsOf ρ rs).bind fun ds => .ok (d :: ds)
def RepWs (K : PySem.W.Frag) (S H : Hp) : List D → List V → Prop
  | [], vs => vs = []
  | d :: ds, vs => ∃ v us, vs = v :: us ∧ RepW K S H d v ∧ RepWs K S H ds us
theorem RepRs.ws {Γ : Gr} {S H : Hp} {σ : L2.St} {ρ : List Sl} (st : StOk Γ S H σ ρ) : ∀ {rs : List R} {vs : List V} {ds : List D}, RepRs Γ S H σ ρ rs vs → valsOf ρ rs = .ok ds → RepWs Γ.K S H ds vs
  | [], vs, ds, h, e => by
    have e : Out.ok [] = Out.ok ds := e
    injection e with e; subst e; exact h
  | r :: rs, vs, ds, h, e => by
    obtain ⟨v, us, rfl, ⟨e2, e3⟩, e4⟩ := h
    obtain ⟨d, x1, e⟩ := bind_ok (P := fun o => o = .ok ds) e (fun _ _ z => by cases z) (fun z => by cases z)
    obtain ⟨ds', x2, e⟩ := bind_ok (P := fun o => o = .ok ds) e (fun _ _ z => by cases z) (fun z => by cases z)
    injection e with e; subst e
    rw [e2] at e3 x1
    exact ⟨v, us, rfl, RepR.w st e3 x1, RepRs.ws st e4 x2⟩
/-- a built-in over its arguments -/
def biM (g : List D → Out R) (ma : M (List R)) : M R := fun ρ => (ma ρ).bind fun x => (valsOf x.2 x.1).bind fun ds => (g ds).bind fun r => .ok (r, x.2)
def rB (K : PySem.W.Frag) (g : List D → Out R) : List V → Hp → VK → Prop := fun vs H Q => ∃ (Γ : Gr) (S : Hp) (σ : L2.St) (ρ : List Sl) (ds : List D) (r : R), Γ.K = K ∧ StOk Γ S H σ ρ ∧ RepWs K S H ds vs ∧ g ds = .ok r ∧ Fin Γ S H σ ρ r Q
theorem tR_bi {K : PySem.W.Frag} {io : Option Nat} {H : Hp} {σ : L2.St} {Q : VK} {g : List D → Out R} {ma : M (List R)} (h : tR K io (biM g ma) σ H Q) : tCB (rB K g) (tAr K io ma) σ H Q := by
  obtain ⟨Γ, rfl, hL, S, ρ, st, q⟩ := h
  obtain ⟨x, e1, q⟩ := goR_bind q
  obtain ⟨ds, e3, q⟩ := goR_bind q
  obtain ⟨r, e5, q⟩ := goR_bind q
  refine ⟨Γ, rfl, hL, S, ρ, st, ?_⟩
  rw [e1]
  obtain ⟨rs, ρ2⟩ := x
  intro vs S2 H2 x2 st2 r2
  exact ⟨Γ, S2, σ, ρ2, ds, r, rfl, st2, r2.ws st2 e3, e5, goR_of q x2⟩
/-- a weaker reading -/
theorem pe_imp {X : Cx} {e : Expr} {t u : TE} (h : PE X e t) (i : ∀ σ H Q, u σ H Q → t σ H Q) : PE X e u := ⟨fun pins s σ H Q I q => h.run pins s σ H Q I (i σ H Q q)⟩
theorem pt_imp {X : Cx} {e : Expr} {t u : TT} (h : PT X e t) (i : ∀ σ H Q, u σ H Q → t σ H Q) : PT X e u := ⟨fun pins s σ H Q I q => h.run pins s σ H Q I (i σ H Q q)⟩
theorem pw_imp {X : Cx} {e : Expr} {t u : TT} (h : PW X e t) (i : ∀ σ H Q, u σ H Q → t σ H Q) : PW X e u := ⟨fun w pins s σ H Q I q => h.run w pins s σ H Q I (i σ H Q q)⟩
theorem pa_imp {X : Cx} {e : List Expr} {t u : TA} (h : PA X e t) (i : ∀ σ H Q, u σ H Q → t σ H Q) : PA X e u := ⟨fun w pins s σ H Q I q => h.run w pins s σ H Q I (i σ H Q q)⟩
theorem ps_imp {X : Cx} {e : Stmt} {t u : TS} (h : PS X e t) (i : ∀ D σ H, u D σ H → t D σ H) : PS X e u := ⟨fun pins s σ H D I q => h.run pins s σ H D I (i D σ H q)⟩
theorem pss_imp {X : Cx} {e : List Stmt} {t u : TS} (h : PSs X e t) (i : ∀ D σ H, u D σ H → t D σ H) : PSs X e u := ⟨fun pins s σ H D I q => h.run pins s σ H D I (i D σ H q)⟩
theorem pg_imp {X : Cx} {e : Expr} {t u : TG} (h : PG X e t) (i : ∀ v σ H Q, u v σ H Q → t v σ H Q) : PG X e u := ⟨fun pins s σ H v w Q I r q => h.run pins s σ H v w Q I r (i v σ H Q q)⟩
theorem opr_imp {X : Cx} {f : Value → Value → Sem Value} {r r' : R2} (h : OpR X f r) (i : ∀ x y H Q, r' x y H Q → r x y H Q) : OpR X f r' := fun pins s σ H x y v u Q I rx ry q => h pins s σ H x y v u Q I rx ry (i x y H Q q)
theorem unr_imp {X : Cx} {f : Value → Sem Value} {r r' : V → Hp → VK → Prop} (h : UnR X f r) (i : ∀ x H Q, r' x H Q → r x H Q) : UnR X f r' := fun pins s σ H x v Q I rx q => h pins s σ H x v Q I rx (i x H Q q)
theorem callr_imp {X : Cx} {f : Value} {r r' : List V → Hp → VK → Prop} (h : CallR X f r) (i : ∀ x H Q, r' x H Q → r x H Q) : CallR X f r' := fun pins s σ H x v Q I rx q => h pins s σ H x v Q I rx (i x H Q q)
/-- two rules for one operator, by the data -/
theorem opr_both {X : Cx} {f : Value → Value → Sem Value} {r r1 r2 : R2} (h1 : OpR X f r1) (h2 : OpR X f r2) (i : ∀ x y H Q, r x y H Q → r1 x y H Q ∨ r2 x y H Q) : OpR X f r := fun pins s σ H x y v u Q I rx ry q =>
  (i x y H Q q).elim (h1 pins s σ H x y v u Q I rx ry) (h2 pins s σ H x y v u Q I rx ry)
theorem callr_both {X : Cx} {f : Value} {r r1 r2 : List V → Hp → VK → Prop} (h1 : CallR X f r1) (h2 : CallR X f r2) (i : ∀ x H Q, r x H Q → r1 x H Q ∨ r2 x H Q) : CallR X f r := fun pins s σ H x v Q I rx q =>
  (i x H Q q).elim (h1 pins s σ H x v Q I rx) (h2 pins s σ H x v Q I rx)
end Tp
set_option Elab.async false
set_option linter.all false
set_option maxRecDepth 100000
set_option maxHeartbeats 4000000
namespace Tp
open PySem PySem.Spec PyProof.Rows L2
open Evl (Ex)

/-! ### ints -/
def big : Nat := 2 ^ 4000
theorem big_of {n : Nat} (h : n ≤ 10 ^ 1000) : n < big := Nat.lt_of_le_of_lt h (by unfold big; decide +kernel)
theorem big_log {n : Nat} (h : n < big) : n.log2 < 4001 := by
  by_cases z : n = 0
  · subst z; decide
  · exact (Nat.log2_lt z).mpr (Nat.lt_trans h (by unfold big; decide +kernel))
def intOp : Operator → Int → Int → Out Int
  | .Add, i, j => .ok (i + j)
  | .Sub, i, j => .ok (i - j)
  | .Mult, i, j => if i.natAbs < big ∧ j.natAbs < big then .ok (i * j) else .stuck
  | .FloorDiv, i, j => if 0 < j ∧ j.natAbs < big then .ok (i / j) else .stuck
  | .Mod, i, j => if 0 < j then .ok (i % j) else .stuck
  | .Pow, i, j => if 0 ≤ j ∧ j ≤ 1000000 ∧ i.natAbs < 2 ^ 64 then .ok (i ^ j.toNat) else .stuck
  | .LShift, i, j => if 0 ≤ j ∧ j ≤ 1000000 ∧ i.natAbs < 2 ^ 64 then .ok (i * 2 ^ j.toNat) else .stuck
  | .RShift, i, j => if 0 ≤ j then .ok (i / 2 ^ j.toNat) else .stuck
  | .BitAnd, i, j => .ok (Builtin.bitAnd i j)
  | .BitOr, i, j => .ok (Builtin.bitOr i j)
  | .BitXor, i, j => .ok (Builtin.bitXor i j)
  | _, _, _ => .stuck
theorem ite_ok {α : Type} {c : Prop} [Decidable c] {a b : α} (h : (if c then Out.ok a else .stuck) = .ok b) : c ∧ a = b := by
  by_cases z : c
  · rw [if_pos z] at h; injection h with h; exact ⟨z, h⟩
  · rw [if_neg z] at h; cases h
/-- the ints' rule of an operator, by data -/
def gInt (op : Operator) : D → D → Out R
  | .int i, .int j => (intOp op i j).bind fun k => .ok (.d (.int k))
  | _, _ => .stuck
theorem repW_int {K : PySem.W.Frag} {S H : Hp} {i : Int} {v : V} (h : RepW K S H (.int i) v) : v = .int i := by
  have h : Rep K S (.int i) v := h
  unfold Rep at h; exact h
theorem repW_str {K : PySem.W.Frag} {S H : Hp} {i : Str} {v : V} (h : RepW K S H (.str i) v) : v = .str i := by
  have h : Rep K S (.str i) v := h
  unfold Rep at h; exact h
theorem repW_bl {K : PySem.W.Frag} {S H : Hp} {i : Bool} {v : V} (h : RepW K S H (.bl i) v) : v = .bl i := by
  have h : Rep K S (.bl i) v := h
  unfold Rep at h; exact h
theorem repW_non {K : PySem.W.Frag} {S H : Hp} {v : V} (h : RepW K S H .non v) : v = .non := by
  have h : Rep K S .non v := h
  unfold Rep at h; exact h
theorem repW_ty {K : PySem.W.Frag} {S H : Hp} {v : V} {t : Ty} (h : RepW K S H (.ty t) v) : v = .ty t.name := by
  have h : Rep K S (.ty t) v := h
  unfold Rep at h; exact h
section
variable {Γ : Gr} {S H : Hp} {σ : L2.St} {ρ : List Sl} {Q : VK}
theorem Fin.int {i : Int} (h : Fin Γ S H σ ρ (.d (.int i)) Q) (k : StOk Γ S H σ ρ) : Q (.int i) H := h.here k (show Rep Γ.K S (.int i) (.int i) by unfold Rep; rfl)
theorem Fin.bl {i : Bool} (h : Fin Γ S H σ ρ (.d (.bl i)) Q) (k : StOk Γ S H σ ρ) : Q (.bl i) H := h.here k (show Rep Γ.K S (.bl i) (.bl i) by unfold Rep; rfl)
theorem Fin.str {i : Str} (h : Fin Γ S H σ ρ (.d (.str i)) Q) (k : StOk Γ S H σ ρ) : Q (.str i) H := h.here k (show Rep Γ.K S (.str i) (.str i) by unfold Rep; rfl)
theorem Fin.non (h : Fin Γ S H σ ρ (.d .non) Q) (k : StOk Γ S H σ ρ) : Q .non H := h.here k (show Rep Γ.K S .non .non by unfold Rep; rfl)
end
section
variable {X : Cx}
theorem rI0_of {op : Operator} {K : PySem.W.Frag} {g : Int → Int → Int} (hg : ∀ i j k, intOp op i j = .ok k → k = g i j) {x y : V} {H : Hp} {Q : VK} (h : rO K (gInt op) x y H Q) : rI0 (fun i j => .int (g i j)) x y H Q := by
  obtain ⟨Γ, S, σ, ρ, a, b, r, rfl, st, ra, rb, e, f⟩ := h
  cases a <;> try (cases e; done)
  cases b <;> try (cases e; done)
  rename_i i j
  obtain ⟨k, e1, e2⟩ := bind_ok (P := fun o => o = .ok r) e (fun _ _ z => by cases z) (fun z => by cases z)
  injection e2 with e2; subst e2
  have := hg i j k e1
  subst this
  exact ⟨i, j, repW_int ra, repW_int rb, f.int st⟩
theorem rI_of {op : Operator} {K : PySem.W.Frag} {C : Int → Int → Prop} {g : Int → Int → Int} (hg : ∀ i j k, intOp op i j = .ok k → C i j ∧ k = g i j) {x y : V} {H : Hp} {Q : VK} (h : rO K (gInt op) x y H Q) : rI C (fun i j => .int (g i j)) x y H Q := by
  obtain ⟨Γ, S, σ, ρ, a, b, r, rfl, st, ra, rb, e, f⟩ := h
  cases a <;> try (cases e; done)
  cases b <;> try (cases e; done)
  rename_i i j
  obtain ⟨k, e1, e2⟩ := bind_ok (P := fun o => o = .ok r) e (fun _ _ z => by cases z) (fun z => by cases z)
  injection e2 with e2; subst e2
  obtain ⟨c, this⟩ := hg i j k e1
  subst this
  exact ⟨i, j, repW_int ra, repW_int rb, c, f.int st⟩
theorem ok_inj {α : Type} {a b : α} (h : Out.ok a = Out.ok b) : a = b := by injection h
theorem opr_int (op : Operator) : OpR X (binaryOp op) (rO X.K (gInt op)) := by
  cases op with
  | Add => exact opr_imp op_add fun x y H Q h => rI0_of (op := .Add) (fun i j k e => (ok_inj (show Out.ok _ = Out.ok k from e)).symm) h
  | Sub => exact opr_imp op_sub fun x y H Q h => rI0_of (op := .Sub) (fun i j k e => (ok_inj (show Out.ok _ = Out.ok k from e)).symm) h
  | BitAnd => exact opr_imp op_and fun x y H Q h => rI0_of (op := .BitAnd) (fun i j k e => (ok_inj (show Out.ok _ = Out.ok k from e)).symm) h
  | BitOr => exact opr_imp op_or fun x y H Q h => rI0_of (op := .BitOr) (fun i j k e => (ok_inj (show Out.ok _ = Out.ok k from e)).symm) h
  | BitXor => exact opr_imp op_xor fun x y H Q h => rI0_of (op := .BitXor) (fun i j k e => (ok_inj (show Out.ok _ = Out.ok k from e)).symm) h
  | Mult => exact opr_imp op_mulW fun x y H Q h => rI_of (op := .Mult) (fun i j k e => by
      obtain ⟨⟨c1, c2⟩, e⟩ := ite_ok (show (if _ then Out.ok _ else .stuck) = Out.ok k from e)
      have := big_log c1
      have := big_log c2
      exact ⟨by unfold CMulW; omega, e.symm⟩) h
  | FloorDiv => exact opr_imp op_fdivW fun x y H Q h => rI_of (op := .FloorDiv) (fun i j k e => by
      obtain ⟨⟨c1, c2⟩, e⟩ := ite_ok (show (if _ then Out.ok _ else .stuck) = Out.ok k from e)
      have := big_log c2
      exact ⟨⟨c1, by omega⟩, e.symm⟩) h
  | Mod => exact opr_imp op_mod fun x y H Q h => rI_of (op := .Mod) (fun i j k e => by
      obtain ⟨c, e'⟩ := ite_ok (show (if _ then Out.ok _ else .stuck) = Out.ok k from e)
      exact ⟨c, e'.symm⟩) h
  | Pow => exact opr_imp op_pow fun x y H Q h => rI_of (op := .Pow) (fun i j k e => by
      obtain ⟨c, e'⟩ := ite_ok (show (if _ then Out.ok _ else .stuck) = Out.ok k from e)
      exact ⟨c, e'.symm⟩) h
  | LShift => exact opr_imp op_shl fun x y H Q h => rI_of (op := .LShift) (fun i j k e => by
      obtain ⟨c, e'⟩ := ite_ok (show (if _ then Out.ok _ else .stuck) = Out.ok k from e)
      exact ⟨c, e'.symm⟩) h
  | RShift => exact opr_imp op_shr fun x y H Q h => rI_of (op := .RShift) (fun i j k e => by
      obtain ⟨c, e'⟩ := ite_ok (show (if _ then Out.ok _ else .stuck) = Out.ok k from e)
      exact ⟨c, e'.symm⟩) h
  | _ =>
    intro pins s σ H x y v u Q I rx ry q
    obtain ⟨Γ, S, σ', ρ, a, b, r, _, st, ra, rb, e, f⟩ := q
    cases a <;> try (cases e; done)
    all_goals (cases b <;> try (cases e; done))
/-! ### the other kinds of + and * -/
def binop (op : Operator) : D → D → Out R
  | .ob .tup xs, .ob .tup ys => if op = .Add ∧ xs.length + ys.length ≤ sizeLine then .ok (.d (.tup (xs ++ ys))) else .stuck
  | .ob .lst xs, .ob .lst ys => if op = .Add ∧ xs.length + ys.length ≤ sizeLine then .ok (.ow .lst (xs ++ ys)) else .stuck
  | .ob .lst xs, .int k => if op = .Mult ∧ -(2 ^ 63) ≤ k ∧ k < 2 ^ 63 ∧ xs.length * k.toNat ≤ sizeLine then .ok (.ow .lst (List.replicate k.toNat xs).flatten) else .stuck
  | .str x, .str y => if op = .Add ∧ x.length + y.length ≤ sizeLine then .ok (.d (.str (x ++ y))) else .stuck
  | .int i, .int j => gInt op (.int i) (.int j)
  | _, _ => .stuck
theorem Reps.flat {K : PySem.W.Frag} {H : Hp} {ds : List D} {vs : List V} (h : Reps K H ds vs) : ∀ n, Reps K H (List.replicate n ds).flatten (List.replicate n vs).flatten
  | 0 => .nil
  | n + 1 => by
    rw [List.replicate_succ, List.replicate_succ, List.flatten_cons, List.flatten_cons]
    exact h.append (Reps.flat h n)
theorem repW_tup {K : PySem.W.Frag} {S H : Hp} {xs : List D} {v : V} (h : RepW K S H (.ob .tup xs) v) : Rep K S (.ob .tup xs) v := h
theorem repW_lst {K : PySem.W.Frag} {S H : Hp} {xs : List D} {v : V} (h : RepW K S H (.ob .lst xs) v) : ∃ p vs, v = .ref p ∧ H p = some (.lst vs) ∧ Reps K S xs vs := h
theorem repW_ob {Γ : Gr} {S H : Hp} {σ : L2.St} {ρ : List Sl} {sh : Sh} {xs : List D} {v : V} (st : StOk Γ S H σ ρ) (h : RepW Γ.K S H (.ob sh xs) v) : ∃ p vs, v = .ref p ∧ Sq Γ.K H p sh vs ∧ Reps Γ.K S xs vs := by
  cases sh with
  | tup =>
    have h := repW_tup h
    unfold Rep at h
    obtain ⟨p, vs, e1, e2, e3⟩ := h
    exact ⟨p, vs, e1, e2.mono st.le, e3⟩
  | _ => exact h
end
theorem Reps.eq_nil {K : PySem.W.Frag} {H : Hp} {ds : List D} {vs : List V} (h : Reps K H ds vs) : vs = [] ↔ ds = [] := by
  have e := h.length
  constructor
  · intro z; subst z; cases ds with
    | nil => rfl
    | cons a b => simp at e
  · intro z; subst z; cases vs with
    | nil => rfl
    | cons a b => simp at e
section
variable {X : Cx}
theorem opr_bin (op : Operator) : OpR X (binaryOp op) (rO X.K (binop op)) := by
  intro pins s σ' H x y v u Q I rx ry q
  obtain ⟨Γ, S, σ, ρ, a, b, r, hk, st, ra, rb, e, f⟩ := q
  rw [← hk] at ra rb
  unfold binop at e
  split at e
  · obtain ⟨⟨c1, c2⟩, e'⟩ := ite_ok e
    clear e
    subst c1; subst e'
    have ra2 := repW_tup ra
    have rb2 := repW_tup rb
    unfold Rep at ra2 rb2
    obtain ⟨p, vs, e1, e2, e3⟩ := ra2
    obtain ⟨p', vs', e1', e2', e3'⟩ := rb2
    have l1 := e3.length
    have l2 := e3'.length
    refine op_catA pins s σ' H x y v u Q I rx ry ⟨p, p', vs, vs', e1, e1', hk ▸ e2.mono st.le, hk ▸ e2'.mono st.le, by omega, fun z => ?_, fun _ z => ?_, fun _ _ p n => f.newTup st (e3.append e3') n⟩
    · rw [(e3.eq_nil).mp z, List.nil_append] at f
      subst e1'
      exact f.here st rb
    · rw [(e3'.eq_nil).mp z, List.append_nil] at f
      subst e1
      exact f.here st ra
  · obtain ⟨⟨c1, c2⟩, e'⟩ := ite_ok e
    clear e
    subst c1; subst e'
    obtain ⟨p, vs, e1, e2, e3⟩ := repW_lst ra
    obtain ⟨p', vs', e1', e2', e3'⟩ := repW_lst rb
    have l1 := e3.length
    have l2 := e3'.length
    exact op_cat pins s σ' H x y v u Q I rx ry ⟨p, p', vs, vs', e1, e1', e2, e2', by omega, fun p n => f.newOwn (sh := .lst) st (e3.append e3') n (by decide)⟩
  · obtain ⟨⟨c1, c2, c3, c4⟩, e'⟩ := ite_ok e
    clear e
    subst c1; subst e'
    obtain ⟨p, vs, e1, e2, e3⟩ := repW_lst ra
    have l1 := e3.length
    exact op_rep pins s σ' H x y v u Q I rx ry ⟨p, _, vs, e1, repW_int rb, e2, c2, c3, by rw [l1]; exact c4, fun p n => f.newOwn (sh := .lst) st (e3.flat _) n (by decide)⟩
  · obtain ⟨⟨c1, c2⟩, e'⟩ := ite_ok e
    clear e
    subst c1; subst e'
    exact op_add_str pins s σ' H x y v u Q I rx ry ⟨_, _, repW_str ra, repW_str rb, c2, f.str st⟩
  · exact opr_int op pins s σ' H x y v u Q I rx ry ⟨Γ, S, σ, ρ, _, _, r, hk, st, hk ▸ ra, hk ▸ rb, e, f⟩
  · cases e
end
end Tp
set_option Elab.async false
set_option linter.all false
set_option maxRecDepth 100000
set_option maxHeartbeats 4000000
namespace Tp
open PySem PySem.Spec PyProof.Rows L2
open Evl (Ex)

/-! ### data as PyData -/
mutual
def pyOf : D → Option PyData
  | .non => some .none
  | .bl b => some (.bool b)
  | .int i => some (.int i)
  | .str s => some (.str s)
  | .ob .tup xs => (pysOf xs).map .tuple
  | .ob .lst xs => (pysOf xs).map .list
  | .ob .fz xs => (pysOf xs).map .list
  | _ => none
def pysOf : List D → Option (List PyData)
  | [] => some []
  | d :: ds => (pyOf d).bind fun p => (pysOf ds).bind fun ps => some (p :: ps)
end
section
variable {K : PySem.W.Frag} {H : Hp}
mutual
theorem Rep.dp : ∀ {d : D} {v : V} {p : PyData}, Rep K H d v → pyOf d = some p → Dp K H v p
  | .non, v, p, h, e => by unfold Rep at h; unfold pyOf at e; cases e; subst h; exact .non
  | .bl b, v, p, h, e => by unfold Rep at h; unfold pyOf at e; cases e; subst h; exact .bl b
  | .int b, v, p, h, e => by unfold Rep at h; unfold pyOf at e; cases e; subst h; exact .int b
  | .str b, v, p, h, e => by unfold Rep at h; unfold pyOf at e; cases e; subst h; exact .str b
  | .ty b, v, p, h, e => by unfold pyOf at e; cases e
  | .ob .tup xs, v, p, h, e => by
    unfold Rep at h
    obtain ⟨a, vs, rfl, e2, e3⟩ := h
    unfold pyOf at e
    cases q : pysOf xs with
    | none => rw [q] at e; cases e
    | some ps => rw [q] at e; cases e; exact .tup e2 (Reps.dp e3 q)
  | .ob .lst xs, v, p, h, e => by
    unfold Rep at h
    obtain ⟨a, vs, rfl, e2, e3⟩ := h
    unfold pyOf at e
    cases q : pysOf xs with
    | none => rw [q] at e; cases e
    | some ps => rw [q] at e; cases e; exact .lst (e2.L rfl) (Reps.dp e3 q)
  | .ob .fz xs, v, p, h, e => by
    unfold Rep at h
    obtain ⟨a, vs, rfl, e2, e3⟩ := h
    unfold pyOf at e
    cases q : pysOf xs with
    | none => rw [q] at e; cases e
    | some ps => rw [q] at e; cases e; exact .lst (e2.L rfl) (Reps.dp e3 q)
  | .ob (.dk _) xs, v, p, h, e => by unfold pyOf at e; cases e
  | .ob (.dt _) xs, v, p, h, e => by unfold pyOf at e; cases e
theorem Reps.dp : ∀ {ds : List D} {vs : List V} {ps : List PyData}, Reps K H ds vs → pysOf ds = some ps → DpAll K H vs ps
  | [], vs, ps, h, e => by unfold pysOf at e; cases e; rw [Reps.nil_iff.mp h]; exact .nil
  | d :: ds, vs, ps, h, e => by
    obtain ⟨v, r, rfl, h1, h2⟩ := h.inv
    unfold pysOf at e
    cases q : pyOf d with
    | none => rw [q] at e; cases e
    | some p =>
      rw [q] at e
      cases q2 : pysOf ds with
      | none => rw [q2] at e; cases e
      | some ps' => rw [q2] at e; cases e; exact .cons (Rep.dp h1 q) (Reps.dp h2 q2)
end
end
theorem RepW.dp {Γ : Gr} {S H : Hp} {σ : L2.St} {ρ : List Sl} {d : D} {v : V} {p : PyData} (st : StOk Γ S H σ ρ) (h : RepW Γ.K S H d v) (e : pyOf d = some p) : Dp Γ.K H v p := by
  cases d with
  | ob sh xs =>
    obtain ⟨a, vs, e1, e2, e3⟩ := repW_ob st h
    exact Rep.dp (show Rep Γ.K H (.ob sh xs) v by unfold Rep; exact ⟨a, vs, e1, e2, e3.mono st.le⟩) e
  | _ => exact Rep.dp (show Rep Γ.K H _ v from Rep.mono st.le h) e
/-! ### comparisons -/
def scalEq : D → D → Option Bool
  | .non, .non => some true
  | .non, .int _ => some false
  | .int _, .non => some false
  | .non, .bl _ => some false
  | .bl _, .non => some false
  | .non, .str _ => some false
  | .str _, .non => some false
  | .int i, .int j => some (decide (i = j))
  | .bl i, .bl j => some (decide (i = j))
  | .str i, .str j => some (decide (i = j))
  | .int _, .str _ => some false
  | .str _, .int _ => some false
  | .bl _, .str _ => some false
  | .str _, .bl _ => some false
  | _, _ => none
def pyEq (a b : D) : Out Bool := (ofO (pyOf a)).bind fun x => (ofO (pyOf b)).bind fun y => if SeqAt.shaped x = true ∧ SeqAt.shaped y = true then .ok (x.eqv y) else .stuck
def eqD (a b : D) : Out Bool := match scalEq a b with
  | some r => .ok r
  | none => pyEq a b
def flatD : D → Bool
  | .non => true
  | .bl _ => true
  | .int _ => true
  | .str _ => true
  | _ => false
def eqF : D → D → Bool
  | .non, .non => true
  | .bl a, .bl b => a == b
  | .bl a, .int b => (if a then 1 else 0) == b
  | .int a, .bl b => a == (if b then 1 else 0)
  | .int a, .int b => a == b
  | .str a, .str b => a == b
  | _, _ => false
def inD (x : D) : D → Out Bool
  | .ob sh ys => if isL sh = true ∨ sh = .tup then (if flatD x = true ∧ ys.all flatD = true then .ok (ys.any fun y => eqF y x) else
      (ofO (pyOf x)).bind fun d => (ofO (pysOf ys)).bind fun ds => if SeqAt.shaped d = true ∧ SeqAt.shaped (.list ds) = true then .ok (ds.any fun z => z.eqv d) else .stuck) else .stuck
  | _ => .stuck
def cmpop : CmpOp → D → D → Out Bool
  | .Lt, .int i, .int j => .ok (decide (i < j))
  | .LtE, .int i, .int j => .ok (decide (i ≤ j))
  | .Gt, .int i, .int j => .ok (decide (j < i))
  | .GtE, .int i, .int j => .ok (decide (j ≤ i))
  | .Eq, a, b => eqD a b
  | .NotEq, a, b => (eqD a b).bind fun r => .ok (!r)
  | .Is, .non, .non => .ok true
  | .Is, .ob _ _, .non => .ok false
  | .Is, .int _, .non => .ok false
  | .Is, .bl _, .non => .ok false
  | .Is, .str _, .non => .ok false
  | .IsNot, .non, .non => .ok false
  | .IsNot, .ob _ _, .non => .ok true
  | .IsNot, .int _, .non => .ok true
  | .IsNot, .bl _, .non => .ok true
  | .IsNot, .str _, .non => .ok true
  | .Is, .bl a, .bl b => .ok (decide (a = b))
  | .IsNot, .bl a, .bl b => .ok (!decide (a = b))
  | .In, a, b => inD a b
  | .NotIn, a, b => (inD a b).bind fun r => .ok (!r)
  | _, _, _ => .stuck
def gB (g : D → D → Out Bool) (a b : D) : Out R := (g a b).bind fun r => .ok (.d (.bl r))
theorem ob_bind {α β : Type} {o : Out α} {f : α → Out β} {b : β} (h : o.bind f = .ok b) : ∃ a, o = .ok a ∧ f a = .ok b :=
  bind_ok (P := fun o => o = .ok b) h (fun _ _ z => by cases z) (fun z => by cases z)
theorem ofO_ok {α : Type} {o : Option α} {a : α} (h : ofO o = .ok a) : o = some a := by
  cases o with
  | none => cases h
  | some b => injection h with h; rw [h]
section
variable {X : Cx}
/-- scalars' == -/
theorem scalEq_ok {K : PySem.W.Frag} {S H : Hp} {a b : D} {x y : V} {r : Bool} (ra : RepW K S H a x) (rb : RepW K S H b y) (e : scalEq a b = some r) : scal x y = true ∧ decide (x = y) = r := by
  cases a <;> cases b <;> first | (cases e; done) | skip
  all_goals (first | rw [repW_non ra] | rw [repW_int ra] | rw [repW_bl ra] | rw [repW_str ra])
  all_goals (first | rw [repW_non rb] | rw [repW_int rb] | rw [repW_bl rb] | rw [repW_str rb])
  all_goals (refine ⟨rfl, ?_⟩)
  all_goals (have e := Option.some.inj e; rw [← e])
  all_goals (first | rfl | simp)
theorem opr_eq (hu : X.A.units + 64 < cLine) : OpR X (compareOp .Eq) (rO X.K (gB eqD)) := by
  intro pins s σ' H x y v u Q I rx ry q
  obtain ⟨Γ, S, σ, ρ, a, b, r, hk, st, ra, rb, e, f⟩ := q
  obtain ⟨k, e1, e2⟩ := ob_bind e
  cases e2
  unfold eqD at e1
  cases q : scalEq a b with
  | some r =>
    rw [q] at e1
    cases e1
    obtain ⟨z1, z2⟩ := scalEq_ok ra rb q
    exact op_eq pins s σ' H x y v u Q I rx ry ⟨z1, by rw [z2]; exact f.bl st⟩
  | none =>
    rw [q] at e1
    obtain ⟨p1, y1, e1⟩ := ob_bind e1
    obtain ⟨p2, y2, e1⟩ := ob_bind e1
    obtain ⟨⟨c1, c2⟩, e3⟩ := ite_ok e1
    subst e3
    rw [← hk] at ra rb
    exact op_eqD hu pins s σ' H x y v u Q I rx ry ⟨p1, p2, hk ▸ ra.dp st (ofO_ok y1), hk ▸ rb.dp st (ofO_ok y2), c1, c2, f.bl st⟩
theorem opr_ne (hu : X.A.units + 64 < cLine) : OpR X (compareOp .NotEq) (rO X.K (gB fun a b => (eqD a b).bind fun r => .ok (!r))) := by
  intro pins s σ' H x y v u Q I rx ry q
  obtain ⟨Γ, S, σ, ρ, a, b, r, hk, st, ra, rb, e, f⟩ := q
  obtain ⟨k, e1, e2⟩ := ob_bind e
  cases e2
  obtain ⟨k', e6, e2⟩ := ob_bind e1
  cases e2
  clear e1
  unfold eqD at e6
  cases q : scalEq a b with
  | some r =>
    rw [q] at e6
    cases e6
    obtain ⟨z1, z2⟩ := scalEq_ok ra rb q
    exact op_ne pins s σ' H x y v u Q I rx ry ⟨z1, by rw [z2]; exact f.bl st⟩
  | none =>
    rw [q] at e6
    obtain ⟨p1, y1, e6⟩ := ob_bind e6
    obtain ⟨p2, y2, e6⟩ := ob_bind e6
    obtain ⟨⟨c1, c2⟩, e3⟩ := ite_ok e6
    subst e3
    rw [← hk] at ra rb
    exact op_neD hu pins s σ' H x y v u Q I rx ry ⟨p1, p2, hk ▸ ra.dp st (ofO_ok y1), hk ▸ rb.dp st (ofO_ok y2), c1, c2, f.bl st⟩
theorem flat_ok {K : PySem.W.Frag} {S : Hp} {d : D} {v : V} (h : Rep K S d v) (f : flatD d = true) : flatV v = true := by
  cases d <;> first | (cases f; done) | (unfold Rep at h; rw [h]; rfl)
theorem flats_ok {K : PySem.W.Frag} {S : Hp} : ∀ {ds : List D} {vs : List V}, Reps K S ds vs → ds.all flatD = true → vs.all flatV = true
  | [], vs, h, _ => by rw [Reps.nil_iff.mp h]; rfl
  | d :: ds, vs, h, f => by
    obtain ⟨v, r, rfl, h1, h2⟩ := h.inv
    rw [List.all_cons, Bool.and_eq_true] at f ⊢
    exact ⟨flat_ok h1 f.1, flats_ok h2 f.2⟩
theorem eqF_ok {K : PySem.W.Frag} {S : Hp} {a b : D} {x y : V} (ha : Rep K S a x) (hb : Rep K S b y) (fa : flatD a = true) (fb : flatD b = true) : eqV x y = eqF a b := by
  cases a <;> first | (cases fa; done) | skip
  all_goals (cases b <;> first | (cases fb; done) | skip)
  all_goals (unfold Rep at ha hb; rw [ha, hb]; rfl)
theorem inF_ok {K : PySem.W.Frag} {S : Hp} {x : D} {u : V} (hx : Rep K S x u) (fx : flatD x = true) : ∀ {ds : List D} {vs : List V}, Reps K S ds vs → ds.all flatD = true → inV u vs = ds.any fun y => eqF y x
  | [], vs, h, _ => by rw [Reps.nil_iff.mp h]; rfl
  | d :: ds, vs, h, f => by
    obtain ⟨v, r, rfl, h1, h2⟩ := h.inv
    rw [List.all_cons, Bool.and_eq_true] at f
    have ih := inF_ok hx fx h2 f.2
    unfold inV at ih ⊢
    rw [List.any_cons, List.any_cons, ih, eqF_ok h1 hx f.1 fx]
theorem repW_flat {K : PySem.W.Frag} {S H : Hp} {d : D} {v : V} (h : RepW K S H d v) (f : flatD d = true) : Rep K S d v := by
  cases d <;> first | (cases f; done) | exact h
theorem in_cases {Γ : Gr} {S H : Hp} {σ : L2.St} {ρ : List Sl} {a b : D} {x y : V} {k : Bool} (st : StOk Γ S H σ ρ) (ra : RepW Γ.K S H a x) (rb : RepW Γ.K S H b y) (e : inD a b = .ok k) :
    (∃ p xs, y = .ref p ∧ (SqL Γ.K H p xs ∨ SqT Γ.K H p xs) ∧ flatV x = true ∧ xs.all flatV = true ∧ inV x xs = k) ∨
    (∃ d ds, Dp Γ.K H x d ∧ (Dp Γ.K H y (.list ds) ∨ Dp Γ.K H y (.tuple ds)) ∧ SeqAt.shaped d = true ∧ SeqAt.shaped (.list ds) = true ∧ (ds.any fun z => z.eqv d) = k) := by
  unfold inD at e
  split at e <;> try (cases e; done)
  rename_i sh ys
  split at e <;> try (cases e; done)
  rename_i hs
  obtain ⟨p, vs, rfl, e2, e3⟩ := repW_ob st rb
  split at e
  · rename_i hf
    cases e
    refine .inl ⟨p, vs, rfl, ?_, flat_ok (repW_flat ra hf.1) hf.1, flats_ok e3 hf.2, inF_ok (repW_flat ra hf.1) hf.1 e3 hf.2⟩
    rcases hs with hs | hs
    · exact .inl (e2.L hs)
    · subst hs; exact .inr e2
  · obtain ⟨p1, y1, e⟩ := ob_bind e
    obtain ⟨p2, y2, e⟩ := ob_bind e
    obtain ⟨⟨c1, c2⟩, e4⟩ := ite_ok e
    refine .inr ⟨p1, p2, ra.dp st (ofO_ok y1), ?_, c1, c2, e4⟩
    rcases hs with hl | hl
    · exact .inl (.lst (e2.L hl) (Reps.dp (e3.mono st.le) (ofO_ok y2)))
    · subst hl
      exact .inr (.tup e2 (Reps.dp (e3.mono st.le) (ofO_ok y2)))
def rInT (K : PySem.W.Frag) : V → V → Hp → VK → Prop := fun x y H Q => ∃ d ds, Dp K H x d ∧ Dp K H y (.tuple ds) ∧ SeqAt.shaped d = true ∧ SeqAt.shaped (.list ds) = true ∧ Q (.bl (ds.any fun z => z.eqv d)) H
def rNotInT (K : PySem.W.Frag) : V → V → Hp → VK → Prop := fun x y H Q => ∃ d ds, Dp K H x d ∧ Dp K H y (.tuple ds) ∧ SeqAt.shaped d = true ∧ SeqAt.shaped (.list ds) = true ∧ Q (.bl (!(ds.any fun z => z.eqv d))) H
theorem op_inT (hu : X.A.units + 65 < cLine) : OpR X (compareOp .In) (rInT X.K) := by
  intro pins s σ H x y v u Q I rx ry h
  obtain ⟨d, ds, hd, he, sd, se, q⟩ := h
  obtain ⟨as, r1⟩ := Dp.reads I d x v hd rx
  obtain ⟨bs, r2⟩ := Dp.reads I (.tuple ds) y u he ry
  exact SeqAt.in_tuple_reads r2 r1 (SeqAt.canLay_of_shaped se) (SeqAt.canLay_of_shaped sd) (room_in_shaped sd hu) ⟨.bl _, H, I, rfl, q⟩
theorem op_notInT (hu : X.A.units + 65 < cLine) : OpR X (compareOp .NotIn) (rNotInT X.K) := by
  intro pins s σ H x y v u Q I rx ry h
  obtain ⟨d, ds, hd, he, sd, se, q⟩ := h
  obtain ⟨as, r1⟩ := Dp.reads I d x v hd rx
  obtain ⟨bs, r2⟩ := Dp.reads I (.tuple ds) y u he ry
  exact SeqAt.notIn_tuple_reads r2 r1 (SeqAt.canLay_of_shaped se) (SeqAt.canLay_of_shaped sd) (room_in_shaped sd hu) ⟨.bl _, H, I, rfl, q⟩
theorem opr_in (hu : X.A.units + 65 < cLine) : OpR X (compareOp .In) (rO X.K (gB inD)) := by
  intro pins s σ' H x y v u Q I rx ry q
  obtain ⟨Γ, S, σ, ρ, a, b, r, hk, st, ra, rb, e, f⟩ := q
  obtain ⟨k, e1, e2⟩ := ob_bind e
  cases e2
  rw [← hk] at ra rb
  rcases in_cases st ra rb e1 with ⟨p, xs, z1, z2, z3, z4, z5⟩ | ⟨d, ds, z1, z2, z3, z4, z5⟩
  · exact op_in_seq pins s σ' H x y v u Q I rx ry ⟨p, xs, z1, hk ▸ z2, z3, z4, by simp only [Bool.false_eq_true, if_false]; rw [z5]; exact f.bl st⟩
  · rcases z2 with z2 | z2
    · exact op_inD hu pins s σ' H x y v u Q I rx ry ⟨d, ds, hk ▸ z1, hk ▸ z2, z3, z4, by rw [z5]; exact f.bl st⟩
    · exact op_inT hu pins s σ' H x y v u Q I rx ry ⟨d, ds, hk ▸ z1, hk ▸ z2, z3, z4, by rw [z5]; exact f.bl st⟩
theorem opr_notIn (hu : X.A.units + 65 < cLine) : OpR X (compareOp .NotIn) (rO X.K (gB fun a b => (inD a b).bind fun r => .ok (!r))) := by
  intro pins s σ' H x y v u Q I rx ry q
  obtain ⟨Γ, S, σ, ρ, a, b, r, hk, st, ra, rb, e, f⟩ := q
  obtain ⟨k, e1, e2⟩ := ob_bind e
  cases e2
  obtain ⟨k', e6, e2⟩ := ob_bind e1
  cases e2
  rw [← hk] at ra rb
  rcases in_cases st ra rb e6 with ⟨p, xs, z1, z2, z3, z4, z5⟩ | ⟨d, ds, z1, z2, z3, z4, z5⟩
  · exact op_notIn_seq pins s σ' H x y v u Q I rx ry ⟨p, xs, z1, hk ▸ z2, z3, z4, by simp only [if_true]; rw [z5]; exact f.bl st⟩
  · rcases z2 with z2 | z2
    · exact op_notInD hu pins s σ' H x y v u Q I rx ry ⟨d, ds, hk ▸ z1, hk ▸ z2, z3, z4, by rw [z5]; exact f.bl st⟩
    · exact op_notInT hu pins s σ' H x y v u Q I rx ry ⟨d, ds, hk ▸ z1, hk ▸ z2, z3, z4, by rw [z5]; exact f.bl st⟩
theorem opr_cmp (op : CmpOp) (hu : X.A.units + 65 < cLine) : OpR X (compareOp op) (rO X.K (gB (cmpop op))) := by
  intro pins s σ' H x y v u Q I rx ry q
  have q0 := q
  obtain ⟨Γ, S, σ, ρ, a, b, r, hk, st, ra, rb, e, f⟩ := q
  obtain ⟨k, e1, e2⟩ := ob_bind e
  cases e2
  rw [← hk] at ra rb
  unfold cmpop at e1
  split at e1
  · cases e1; exact op_lt pins s σ' H x y v u Q I rx ry ⟨_, _, repW_int ra, repW_int rb, f.bl st⟩
  · cases e1; exact op_le pins s σ' H x y v u Q I rx ry ⟨_, _, repW_int ra, repW_int rb, f.bl st⟩
  · cases e1; exact op_gt pins s σ' H x y v u Q I rx ry ⟨_, _, repW_int ra, repW_int rb, f.bl st⟩
  · cases e1; exact op_ge pins s σ' H x y v u Q I rx ry ⟨_, _, repW_int ra, repW_int rb, f.bl st⟩
  · exact opr_eq (by omega) pins s σ' H x y v u Q I rx ry q0
  · exact opr_ne (by omega) pins s σ' H x y v u Q I rx ry q0
  · cases e1; exact op_isN pins s σ' H x y v u Q I rx ry ⟨repW_non rb, by rw [repW_non ra]; exact f.bl st⟩
  · cases e1
    obtain ⟨p, vs, z, _, _⟩ := repW_ob st ra
    exact op_isN pins s σ' H x y v u Q I rx ry ⟨repW_non rb, by rw [z]; exact f.bl st⟩
  · cases e1; exact op_isN pins s σ' H x y v u Q I rx ry ⟨repW_non rb, by rw [repW_int ra]; exact f.bl st⟩
  · cases e1; exact op_isN pins s σ' H x y v u Q I rx ry ⟨repW_non rb, by rw [repW_bl ra]; exact f.bl st⟩
  · cases e1; exact op_isN pins s σ' H x y v u Q I rx ry ⟨repW_non rb, by rw [repW_str ra]; exact f.bl st⟩
  · cases e1; exact op_notN pins s σ' H x y v u Q I rx ry ⟨repW_non rb, by rw [repW_non ra]; exact f.bl st⟩
  · cases e1
    obtain ⟨p, vs, z, _, _⟩ := repW_ob st ra
    exact op_notN pins s σ' H x y v u Q I rx ry ⟨repW_non rb, by rw [z]; exact f.bl st⟩
  · cases e1; exact op_notN pins s σ' H x y v u Q I rx ry ⟨repW_non rb, by rw [repW_int ra]; exact f.bl st⟩
  · cases e1; exact op_notN pins s σ' H x y v u Q I rx ry ⟨repW_non rb, by rw [repW_bl ra]; exact f.bl st⟩
  · cases e1; exact op_notN pins s σ' H x y v u Q I rx ry ⟨repW_non rb, by rw [repW_str ra]; exact f.bl st⟩
  · cases e1; exact op_is_bl pins s σ' H x y v u Q I rx ry ⟨_, _, repW_bl ra, repW_bl rb, f.bl st⟩
  · cases e1; exact op_isnot_bl pins s σ' H x y v u Q I rx ry ⟨_, _, repW_bl ra, repW_bl rb, f.bl st⟩
  · exact opr_in hu pins s σ' H x y v u Q I rx ry q0
  · exact opr_notIn hu pins s σ' H x y v u Q I rx ry q0
  · cases e1
end
/-! ### truth -/
def truthD : D → Out Bool
  | .non => .ok false
  | .bl b => .ok b
  | .int i => .ok (i != 0)
  | .ob .tup xs => .ok (!xs.isEmpty)
  | .ob .lst xs => .ok (!xs.isEmpty)
  | .ob .fz xs => .ok (!xs.isEmpty)
  | .ob (.dk ks) xs => .ok (!(ks.zip xs).isEmpty)
  | .str s => if s.length ≤ sizeLine then .ok ((s.length : Int) != 0) else .stuck
  | _ => .stuck
theorem Reps.isEmpty {K : PySem.W.Frag} {S : Hp} {ds : List D} {vs : List V} (h : Reps K S ds vs) : ds.isEmpty = vs.isEmpty := by
  cases ds with
  | nil => rw [Reps.nil_iff.mp h]; rfl
  | cons d ds => obtain ⟨v, r, rfl, _, _⟩ := h.inv; rfl
theorem truth_ok {Γ : Gr} {S H : Hp} {σ : L2.St} {ρ : List Sl} {d : D} {v : V} {b : Bool} (st : StOk Γ S H σ ρ) (h : RepW Γ.K S H d v) (e : truthD d = .ok b) : TruV Γ.K v H b := by
  unfold truthD at e
  split at e
  · cases e; rw [repW_non h]; rfl
  · cases e; rw [repW_bl h]; rfl
  · cases e; rw [repW_int h]; rfl
  · cases e
    obtain ⟨p, vs, rfl, e2, e3⟩ := repW_ob st h
    exact .inr (.inl ⟨vs, e2, by rw [e3.isEmpty]⟩)
  · cases e
    obtain ⟨p, vs, rfl, e2, e3⟩ := repW_ob st h
    exact .inl ⟨vs, e2.L rfl, by rw [e3.isEmpty]⟩
  · cases e
    obtain ⟨p, vs, rfl, e2, e3⟩ := repW_ob st h
    exact .inl ⟨vs, e2.L rfl, by rw [e3.isEmpty]⟩
  · cases e
    rename_i ks xs
    obtain ⟨p, vs, rfl, e2, e3⟩ := repW_ob st h
    refine .inr (.inr ⟨_, e2, ?_⟩)
    have : (ks.zip xs).isEmpty = (ks.zip vs).isEmpty := by
      cases ks with
      | nil => rfl
      | cons k ks =>
        cases xs with
        | nil => rw [Reps.nil_iff.mp e3]; rfl
        | cons x xs => obtain ⟨v, r, rfl, _, _⟩ := e3.inv; rfl
    rw [this]
  · obtain ⟨c, e⟩ := ite_ok e
    rw [repW_str h]
    exact ⟨c, e.symm⟩
  · cases e
end Tp
set_option Elab.async false
set_option linter.all false
set_option maxRecDepth 100000
set_option maxHeartbeats 4000000
namespace Tp
open PySem PySem.Spec PyProof.Rows L2
open Evl (Ex)

/-! ### a[i], a[i:j] -/
def ixD : D → D → Out R
  | .ob sh xs, .int i => if isL sh = true ∨ sh = .tup then (ofO (atI xs i)).bind fun d => .ok (.d d) else .stuck
  | .str z, .int i => if z.length ≤ sizeLine then (ofO (atI z.cps.toList i)).bind fun c => .ok (.d (.str ⟨#[c]⟩)) else .stuck
  | _, _ => .stuck
theorem Reps.atI {K : PySem.W.Frag} {S : Hp} {ds : List D} {vs : List V} {i : Int} {d : D} (h : Reps K S ds vs) (e : atI ds i = some d) : ∃ v, L2.atI vs i = some v ∧ Rep K S d v := by
  unfold L2.atI at e ⊢
  rw [h.length]
  cases q : ixN ds.length i with
  | none => rw [q] at e; cases e
  | some j =>
    rw [q] at e
    exact h.get (i := j) e
section
variable {X : Cx}
theorem ixr_D : IxR X (rO X.K ixD) := by
  intro value slice pins s σ' H x y v u Q I rx ry q hs
  obtain ⟨Γ, S, σ, ρ, a, b, r, hk, st, ra, rb, e, f⟩ := q
  rw [← hk] at ra rb
  unfold ixD at e
  split at e
  · rename_i sh xs i
    split at e <;> try (cases e; done)
    rename_i hsh
    obtain ⟨d, e1, e2⟩ := ob_bind e
    cases e2
    obtain ⟨p, vs, z, e4, e5⟩ := repW_ob st ra
    obtain ⟨w, e6, e7⟩ := e5.atI (ofO_ok e1)
    rcases hsh with hsh | hsh
    · exact ix_list value slice pins s σ' H x y v u Q I rx ry ⟨p, vs, i, w, z, repW_int rb, hk ▸ e4.L hsh, e6, f.here st e7⟩ hs
    · subst hsh
      exact ix_tup value slice pins s σ' H x y v u Q I rx ry ⟨p, vs, i, w, z, repW_int rb, hk ▸ e4, e6, f.here st e7⟩ hs
  · rename_i z i
    obtain ⟨c, e⟩ : z.length ≤ sizeLine ∧ ((ofO (atI z.cps.toList i)).bind fun c => .ok (.d (.str ⟨#[c]⟩))) = Out.ok r := by
      split at e
      · exact ⟨by assumption, e⟩
      · cases e
    obtain ⟨d, e1, e2⟩ := ob_bind e
    cases e2
    exact ix_str value slice pins s σ' H x y v u Q I rx ry ⟨z, i, d, repW_str ra, repW_int rb, c, ofO_ok e1, f.str st⟩ hs
  · cases e
def cutL {α : Type} (xs : List α) (lo hi : Option Int) : List α := (xs.drop (HT.sIx xs.length 0 lo)).take (HT.sIx xs.length xs.length hi - HT.sIx xs.length 0 lo)
theorem Reps.cut {K : PySem.W.Frag} {S : Hp} {ds : List D} {vs : List V} (h : Reps K S ds vs) (lo hi : Option Int) : Reps K S (cutL ds lo hi) (cutV vs lo hi) := by
  unfold cutL cutV
  rw [h.length]
  exact (h.drop _).take _
def slD : D → Option Int → Option Int → Out R
  | .ob .lst xs, lo, hi => .ok (.ow .lst (cutL xs lo hi))
  | .ob .fz xs, lo, hi => .ok (.ow .lst (cutL xs lo hi))
  | .ob .tup xs, lo, hi => .ok (.d (.tup (cutL xs lo hi)))
  | .str z, lo, hi => if z.length ≤ sizeLine then .ok (.d (.str (cutS z lo hi))) else .stuck
  | _, _, _ => .stuck
def rSl (K : PySem.W.Frag) : V → Option Int → Option Int → Hp → VK → Prop := fun x lo hi H Q => ∃ (Γ : Gr) (S : Hp) (σ : L2.St) (ρ : List Sl) (a : D) (r : R), Γ.K = K ∧ StOk Γ S H σ ρ ∧ RepW K S H a x ∧ slD a lo hi = .ok r ∧ Fin Γ S H σ ρ r Q
theorem cut_whole {α : Type} (xs : List α) (lo hi : Option Int) (h : HT.sIx xs.length 0 lo = 0 ∧ HT.sIx xs.length xs.length hi = xs.length) : cutL xs lo hi = xs := by
  unfold cutL
  rw [h.1, h.2, List.drop_zero, Nat.sub_zero, List.take_length]
theorem slr_D : SlR X (rSl X.K) := by
  intro pins s σ' H x v vl vu lo hi sl Q I rx hs pl pu q
  obtain ⟨Γ, S, σ, ρ, a, r, hk, st, ra, e, f⟩ := q
  rw [← hk] at ra
  unfold slD at e
  split at e
  · cases e
    obtain ⟨p, vs, z, e4, e5⟩ := repW_ob st ra
    exact sl_list pins s σ' H x v vl vu lo hi sl Q I rx hs pl pu ⟨p, vs, z, hk ▸ e4.L rfl, fun p n => f.newOwn (sh := .lst) st (e5.cut lo hi) n (by decide)⟩
  · cases e
    obtain ⟨p, vs, z, e4, e5⟩ := repW_ob st ra
    exact sl_list pins s σ' H x v vl vu lo hi sl Q I rx hs pl pu ⟨p, vs, z, hk ▸ e4.L rfl, fun p n => f.newOwn (sh := .lst) st (e5.cut lo hi) n (by decide)⟩
  · cases e
    rename_i xs
    have ra' := repW_tup ra
    obtain ⟨p, vs, z, e4, e5⟩ := repW_ob st ra
    refine sl_tupA pins s σ' H x v vl vu lo hi sl Q I rx hs pl pu ⟨p, vs, z, hk ▸ e4, fun w => ?_, fun _ p n => f.newTup st (e5.cut lo hi) n⟩
    rw [e5.length] at w
    rw [cut_whole xs lo hi w] at f
    subst z
    exact f.here st ra'
  · obtain ⟨c, e'⟩ := ite_ok e
    subst e'
    exact sl_str pins s σ' H x v vl vu lo hi sl Q I rx hs pl pu ⟨_, repW_str ra, c, f.str st⟩
  · cases e
end
/-! ### built-ins -/
def intsOf : List D → Option (List Int)
  | [] => some []
  | .int i :: r => (intsOf r).map (i :: ·)
  | _ => none
def boolsOf : List D → Option (List Bool)
  | [] => some []
  | .bl i :: r => (boolsOf r).map (i :: ·)
  | _ => none
theorem intsOf_ok {K : PySem.W.Frag} {S : Hp} : ∀ {ds : List D} {vs : List V} {ns : List Int}, Reps K S ds vs → intsOf ds = some ns → vs = ns.map V.int
  | [], vs, ns, h, e => by unfold intsOf at e; cases e; rw [Reps.nil_iff.mp h]; rfl
  | d :: ds, vs, ns, h, e => by
    obtain ⟨v, r, rfl, h1, h2⟩ := h.inv
    cases d <;> try (cases e; done)
    unfold intsOf at e
    cases q : intsOf ds with
    | none => rw [q] at e; cases e
    | some ms =>
      rw [q] at e
      cases e
      unfold Rep at h1
      rw [h1, intsOf_ok h2 q]
      rfl
theorem boolsOf_ok {K : PySem.W.Frag} {S : Hp} : ∀ {ds : List D} {vs : List V} {ns : List Bool}, Reps K S ds vs → boolsOf ds = some ns → vs = ns.map V.bl
  | [], vs, ns, h, e => by unfold boolsOf at e; cases e; rw [Reps.nil_iff.mp h]; rfl
  | d :: ds, vs, ns, h, e => by
    obtain ⟨v, r, rfl, h1, h2⟩ := h.inv
    cases d <;> try (cases e; done)
    unfold boolsOf at e
    cases q : boolsOf ds with
    | none => rw [q] at e; cases e
    | some ms =>
      rw [q] at e
      cases e
      unfold Rep at h1
      rw [h1, boolsOf_ok h2 q]
      rfl
def maxL : List Int → Option Int
  | [] => none
  | x :: r => some (r.foldl (fun a b => if b > a then b else a) x)
def minL : List Int → Option Int
  | [] => none
  | x :: r => some (r.foldl (fun a b => if b < a then b else a) x)
theorem maxF : ∀ (r : List Int) (x : Int), (r.foldl (fun a b => if b > a then b else a) x ∈ x :: r) ∧ ∀ y ∈ x :: r, y ≤ r.foldl (fun a b => if b > a then b else a) x
  | [], x => ⟨by simp, by simp⟩
  | z :: r, x => by
    rw [List.foldl_cons]
    obtain ⟨h1, h2⟩ := maxF r (if z > x then z else x)
    refine ⟨?_, fun y hy => ?_⟩
    · rcases List.mem_cons.mp h1 with e | e
      · rw [e]; split <;> simp
      · simp [e]
    · have hz := h2 (if z > x then z else x) (by simp)
      have g1 : x ≤ (if z > x then z else x) := by split <;> omega
      have g2 : z ≤ (if z > x then z else x) := by split <;> omega
      rcases List.mem_cons.mp hy with e | e
      · rw [e]; exact Int.le_trans g1 hz
      · rcases List.mem_cons.mp e with e | e
        · rw [e]; exact Int.le_trans g2 hz
        · exact h2 y (by simp [e])
theorem minF : ∀ (r : List Int) (x : Int), (r.foldl (fun a b => if b < a then b else a) x ∈ x :: r) ∧ ∀ y ∈ x :: r, r.foldl (fun a b => if b < a then b else a) x ≤ y
  | [], x => ⟨by simp, by simp⟩
  | z :: r, x => by
    rw [List.foldl_cons]
    obtain ⟨h1, h2⟩ := minF r (if z < x then z else x)
    refine ⟨?_, fun y hy => ?_⟩
    · rcases List.mem_cons.mp h1 with e | e
      · rw [e]; split <;> simp
      · simp [e]
    · have hz := h2 (if z < x then z else x) (by simp)
      have g1 : (if z < x then z else x) ≤ x := by split <;> omega
      have g2 : (if z < x then z else x) ≤ z := by split <;> omega
      rcases List.mem_cons.mp hy with e | e
      · rw [e]; exact Int.le_trans hz g1
      · rcases List.mem_cons.mp e with e | e
        · rw [e]; exact Int.le_trans hz g2
        · exact h2 y (by simp [e])
theorem maxL_ok {ns : List Int} {k m : Int} (e : maxL ns = some k) (hm : m ∈ ns) (hy : ∀ y ∈ ns, y ≤ m) : m = k := by
  cases ns with
  | nil => cases e
  | cons x r =>
    cases e
    obtain ⟨h1, h2⟩ := maxF r x
    have a := hy _ h1
    have b := h2 m hm
    omega
theorem minL_ok {ns : List Int} {k m : Int} (e : minL ns = some k) (hm : m ∈ ns) (hy : ∀ y ∈ ns, m ≤ y) : m = k := by
  cases ns with
  | nil => cases e
  | cons x r =>
    cases e
    obtain ⟨h1, h2⟩ := minF r x
    have a := hy _ h1
    have b := h2 m hm
    omega
/-! repr -/
mutual
def okR : PyData → Bool
  | .none => true
  | .bool _ => true
  | .int i => decide (i.natAbs < 10 ^ 500)
  | .str x => x.cps.toList.all fun c => decide (c < 16 ^ 8)
  | .list xs => okRs xs
  | .tuple xs => okRs xs
  | .dict _ => false
def okRs : List PyData → Bool
  | [] => true
  | x :: xs => okR x && okRs xs
end
theorem int_ok {i : Int} (h : i.natAbs < 10 ^ 500) : i.natAbs.log2 < 1920 ∧ (PyData.shown (.int i)).length ≤ 501 := by
  constructor
  · by_cases z : i.natAbs = 0
    · rw [z]; decide
    · exact (Nat.log2_lt z).mpr (Nat.lt_trans h (by decide +kernel))
  · have e := int_text_length_le10 (k := 500) (by decide) h
    show (Str.ofString (toString i)).length ≤ 501
    rw [PySem.ofString_length]; exact e
mutual
theorem okR_ok : ∀ {p : PyData}, okR p = true → p.showable = true ∧ p.leavesShort 501 = true ∧ p.hasDict = false
  | .none, _ => ⟨rfl, rfl, rfl⟩
  | .bool _, _ => ⟨rfl, rfl, rfl⟩
  | .int i, h => by
    unfold okR at h
    have h := int_ok (of_decide_eq_true h)
    exact ⟨by simp only [PyData.showable]; exact decide_eq_true h.1, by simp only [PyData.leavesShort]; exact decide_eq_true h.2, rfl⟩
  | .str x, h => by
    unfold okR at h
    exact ⟨rfl, by simp only [PyData.leavesShort]; exact h, rfl⟩
  | .list xs, h => by
    unfold okR at h
    obtain ⟨a, b, c⟩ := okRs_ok h
    exact ⟨by simp only [PyData.showable]; exact a, by simp only [PyData.leavesShort]; exact b, by simp only [PyData.hasDict]; exact c⟩
  | .tuple xs, h => by
    unfold okR at h
    obtain ⟨a, b, c⟩ := okRs_ok h
    exact ⟨by simp only [PyData.showable]; exact a, by simp only [PyData.leavesShort]; exact b, by simp only [PyData.hasDict]; exact c⟩
  | .dict xs, h => by unfold okR at h; cases h
theorem okRs_ok : ∀ {p : List PyData}, okRs p = true → PyData.showableAll p = true ∧ PyData.leavesShortAll 501 p = true ∧ PyData.hasDictAll p = false
  | [], _ => ⟨rfl, rfl, rfl⟩
  | x :: xs, h => by
    unfold okRs at h
    rw [Bool.and_eq_true] at h
    obtain ⟨a, b, c⟩ := okR_ok h.1
    obtain ⟨a', b', c'⟩ := okRs_ok h.2
    exact ⟨by simp only [PyData.showableAll, a, a', Bool.and_self], by simp only [PyData.leavesShortAll, b, b', Bool.and_self], by simp only [PyData.hasDictAll, c, c', Bool.or_self]⟩
end
theorem shown_ok {p : PyData} (h : okR p = true) (w : p.weight ≤ 30000) : p.shown.length ≤ sizeLine := by
  have := PyData.shown_le 501 (by decide) p (okR_ok h).2.1
  have e : sizeLine = 16777216 := by decide
  rw [e]
  have : (501 + 2) * p.weight + 501 ≤ 503 * 30000 + 501 := by omega
  omega
section
variable {X : Cx} {pins : List (Addr × Obj)} {σ : L2.St} {H : Hp} {s : Shared}
mutual
theorem reads_of (I : L2.Inv X pins σ H s) : ∀ {p : PyData} {v : V} {u : Value}, Dp X.K H v p → RelV v u → ∃ as, Reads s.heap u p as
  | .none, _, _, .non, r => by cases r; exact ⟨_, .none⟩
  | .bool b, _, _, .bl _, r => by cases r; exact ⟨_, .bool b⟩
  | .int b, _, _, .int _, r => by obtain ⟨t, rfl⟩ := r; exact ⟨_, .int b t⟩
  | .str b, _, _, .str _, r => by obtain ⟨t, rfl⟩ := r; exact ⟨_, .str b t⟩
  | .list ds, _, _, .lst h1 h2, r => by
    cases r
    obtain ⟨its, rv, ⟨o, n, g, c, dd, da⟩, _⟩ := I.list h1
    obtain ⟨as, h⟩ := reads_all I h2 rv
    exact ⟨_, .list g c da (by simpa using h)⟩
  | .tuple ds, _, _, .tup h1 h2, r => by
    cases r
    obtain ⟨its, rv, ⟨o, g, c, n, da⟩, _⟩ := I.tuple h1
    obtain ⟨as, h⟩ := reads_all I h2 rv
    exact ⟨_, .tuple g c da (by simpa using h)⟩
theorem reads_all (I : L2.Inv X pins σ H s) : ∀ {ps : List PyData} {vs : List V} {us : List Value}, DpAll X.K H vs ps → Vals vs us → ∃ as, ReadsAll s.heap us ps as
  | [], _, _, .nil, .nil => ⟨_, .nil⟩
  | p :: ps, _, _, .cons h1 h2, .cons r1 r2 => by
    obtain ⟨as, a⟩ := reads_of I h1 r1
    obtain ⟨bs, b⟩ := reads_all I h2 r2
    exact ⟨_, .cons a b⟩
end
end
end Tp
set_option Elab.async false
set_option linter.all false
set_option maxRecDepth 100000
set_option maxHeartbeats 4000000
namespace Tp
open PySem PySem.Spec PyProof.Rows L2
open Evl (Ex)
/-! ### xs[::-1], of lists and tuples -/
section
variable {prog : Program} {w : World} {A : Around} {E : Value → Shared → Prop} {s : Shared}
theorem rev_places (n : Nat) : Builtin.Slice.slicePlaces ((n : Int) - 1) (-1) (-1) = n := by
  unfold Builtin.Slice.slicePlaces
  rw [if_neg (by decide)]
  split
  · have : (n : Int) - 1 - -1 - 1 = n - 1 := by omega
    rw [this]
    have : - -(1 : Int) = 1 := by decide
    rw [this, Int.ediv_one]
    omega
  · omega
theorem rev_applied {sl : Addr} {vl vu vs : Value} {n : Nat} {Q : Int × Int × Nat → Shared → Prop} (hs : s.heap.IsSliceOf sl vl vu vs) (pl : IsPart vl none) (pu : IsPart vu none) (ps : IsPart vs (some (-1)))
    (h : Q ((n : Int) - 1, -1, n) s) : wpAny (model prog w) A (Builtin.Slice.sliceApplied (.ref sl) (pure (n : Int))) Q E s := by
  obtain ⟨os, hos, hcs, hds⟩ := id hs
  unfold Builtin.Slice.sliceApplied Builtin.Slice.sliceFields
  refine wpAny_bind (wpAny_bind (wpAny_field hos hds (x := vl) rfl (wpAny_bind (wpAny_field hos hds (x := vu) rfl (wpAny_bind (wpAny_field hos hds (x := vs) rfl (wpAny_pure ?_)))))))
  refine wpAny_bind (HT.slicePart_ ps ?_)
  show wpAny _ _ (if ((-1 : Int) == 0) = true then _ else _) _ _ s
  rw [if_neg (by decide)]
  refine wpAny_bind (HT.slicePart_ pl (wpAny_bind (HT.slicePart_ pu (wpAny_bind (wpAny_pure ?_)))))
  show wpAny _ _ (pure ((n : Int) - 1, (-1 : Int), Builtin.Slice.slicePlaces ((n : Int) - 1) (-1) (-1))) _ _ s
  rw [rev_places]
  exact wpAny_pure h
theorem fm_congr {α β : Type} {f g : α → Option β} : ∀ {l : List α}, (∀ k ∈ l, f k = g k) → l.filterMap f = l.filterMap g
  | [], _ => rfl
  | a :: l, h => by
    rw [List.filterMap_cons, List.filterMap_cons, h a List.mem_cons_self, fm_congr fun k hk => h k (List.mem_cons_of_mem _ hk)]
theorem rev_pick (xs : Array Value) : ((List.range xs.size).filterMap fun (k : Nat) => xs[((xs.size : Int) - 1 + (k : Int) * (-1)).toNat]?).toArray = xs.toList.reverse.toArray := by
  congr 1
  have e : ((List.range xs.size).filterMap fun (k : Nat) => xs[((xs.size : Int) - 1 + (k : Int) * (-1)).toNat]?) = ((List.range xs.size).map (fun k => xs.size - 1 - k)).filterMap (xs[·]?) := by
    rw [List.filterMap_map]
    refine fm_congr fun k hk => ?_
    have : ((xs.size : Int) - 1 + (k : Int) * (-1)).toNat = xs.size - 1 - k := by
      have := List.mem_range.mp hk
      omega
    show xs[_]? = xs[_]?
    rw [this]
  rw [e, PySem.W.krv_range, List.filterMap_reverse, PySem.W.krv_all]
theorem getItem_tuple_rev {t sl : Addr} {items : Array Value} {vl vu vs : Value} {Q : Value → Shared → Prop} (ht : IsTup s.heap t items) (hs : s.heap.IsSliceOf sl vl vu vs) (pl : IsPart vl none) (pu : IsPart vu none) (ps : IsPart vs (some (-1)))
    (h : Q (.ref s.heap.objs.size) { s with heap := s.heap.push { cls := .type "tuple", data := .seq items.toList.reverse.toArray } }) (hsz : items.size ≤ sizeLine) : wpAny (model prog w) A (getItem (.ref t) (.ref sl)) Q E s := by
  have htake : sizeOk (.seq items.toList.reverse.toArray) := by
    show items.toList.reverse.toArray.size ≤ sizeLine
    rw [List.size_toArray, List.length_reverse, Array.length_toList]
    exact hsz
  obtain ⟨os, hos, hcs, hds⟩ := id hs
  have hTs : s.TypeIs (.ref sl) "slice" := ⟨os, hos, hcs⟩
  unfold getItem
  try with_reducible refine wpAny_holding ?_
  first | refine wpAny_bind (wpAny_pure ?_) | skip
  refine wpAny_bind (wpAny_sequenceKey ht.typeIs (by decide) ?_)
  refine wpAny_bind (wpAny_callSpecial?_slot (name := Str.ofString "__getitem__") ht.typeIs PyProof.Rows.slot_tuple_getitem
    (wpAny_call_entry PyProof.Rows.slot_tuple_getitem ht.typeIs entry_tuple_getitem ?_ (args_tuple_getitem _ _)))
  show wpAny _ _ (Builtin.Tuple.tupleItemsOf (.ref t) >>= _) _ _ s
  refine wpAny_bind (tupleItemsOf_ ht ?_)
  refine wpAny_bind (wpAny_typeOf hTs ?_)
  rw [if_pos (by decide)]
  refine wpAny_bind (rev_applied hs pl pu ps ?_)
  have hno : ¬ (((((items.size : Nat) : Int) - 1) == 0 && (-1 : Int) == 1 && items.size == items.size) = true) := by
    intro q
    rw [Bool.and_eq_true, Bool.and_eq_true] at q
    have := eq_of_beq q.1.2
    omega
  show wpAny _ _ (if ((((items.size : Nat) : Int) - 1) == 0 && (-1 : Int) == 1 && items.size == items.size) = true then _ else _) _ _ s
  rw [if_neg hno, rev_pick]
  first
    | exact wpAny_bind (m := Builtin.Tuple.tupleExact _) (wpAny_newObj_type (wpAny_pure ⟨_, rfl, wpAny_pure h⟩) htake)
    | exact wpAny_bind (m := Builtin.Tuple.tupleExact _) (wpAny_newObj_type (wpAny_bind (wpAny_pure (wpAny_pure ⟨_, rfl, wpAny_pure h⟩))) htake)
    | exact wpAny_bind (wpAny_bind (m := Builtin.Tuple.tupleExact _) (wpAny_newObj_type (wpAny_pure (wpAny_pure ⟨_, rfl, wpAny_pure h⟩)) htake))
    | exact wpAny_bind (wpAny_bind (m := Builtin.Tuple.tupleExact _) (wpAny_newObj_type (wpAny_pure ⟨_, rfl, wpAny_pure h⟩) htake))
end
def revD : D → Out R
  | .ob .lst xs => .ok (.ow .lst xs.reverse)
  | .ob .fz xs => .ok (.ow .lst xs.reverse)
  | .ob .tup xs => .ok (.d (.tup xs.reverse))
  | _ => .stuck
theorem pe_revA {X : Cx} {e : Expr} {te : TE} {k : Nat} {p1 p2 p3 pos : Pos} (he : PE X e te) : PE X (.Subscript e (.Slice none none (some (.UnaryOp .USub (.Constant (.int 1) k p1) p2)) p3) pos) (tUn (rU1 X.K revD) te) := by
  refine ⟨fun pins s σ H Q I h => ?_⟩
  refine Subscript_ (thn (he.run pins s σ H _ I h) fun v s1 ⟨x, H1, I1, r1, q1⟩ => ?_)
  obtain ⟨Γ, S, σ2, ρ, a, r, hk, st, ra, e', f⟩ := q1
  rw [← hk] at ra
  have hst : PO X (some (.UnaryOp .USub (.Constant (.int 1) k p1) p2)) (tPart (tUn (rU fun i => .int (-i)) (tC (.int 1)))) := po_some (pe_un un_neg pe_int)
  refine wpAny_Slice (thn (po_none.run pins s1 σ H1 (fun o H2 => o = none ∧ H2 = H1) I1 ⟨rfl, rfl⟩) fun vl s2 ⟨l, H2, I2, pl, el, e2⟩ => ?_)
  subst el e2
  refine thn (po_none.run pins s2 σ H2 (fun o H3 => o = none ∧ H3 = H2) I2 ⟨rfl, rfl⟩) fun vu s3 ⟨u, H3, I3, pu, eu, e3⟩ => ?_
  subst eu e3
  refine thn (hst.run pins s3 σ H3 (fun o H4 => o = some (-1) ∧ H4 = H3) I3 ⟨1, rfl, -1, rfl, rfl, rfl⟩) fun vs s4 ⟨o, H4, I4, ps, eo, e4⟩ => ?_
  subst eo e4
  have I5 : Inv X pins σ H4 { s4 with heap := s4.heap.push { cls := .type "slice", data := .fields #[vl, vu, vs] } } := I4.kept (t' := s4.toks) fun b ob q => Heap.get?_push_of_some _ q
  have lst : ∀ (sh : Sh) (xs : List D), isL sh = true → a = .ob sh xs → revD a = .ok (.ow .lst xs.reverse) → wpAny (model X.prog X.w) X.A (subscriptTail e (.Slice none none (some (.UnaryOp .USub (.Constant (.int 1) k p1) p2)) p3) v (.ref s4.heap.objs.size)) (EP X pins σ Q) X.xe { s4 with heap := s4.heap.push { cls := .type "slice", data := .fields #[vl, vu, vs] } } := by
    intro sh xs hL ea er
    subst ea
    rw [er] at e'
    cases e'
    obtain ⟨p, ws, z, e5, e6⟩ := repW_ob st ra
    subst z
    cases r1
    have hx : SqL X.K H4 p ws := hk ▸ e5.L hL
    obtain ⟨its, r, ht, hz⟩ := I5.list hx
    have hlen := r.length
    refine tail_any (ops := [.ref p, .ref s4.heap.objs.size]) ht.isList.typeIs (PySem.slot_list_getitem.lookup) ?_ (by with_unfolding_all rfl)
    refine wpAny_getItem_list_slice ht.isList (Heap.IsSliceOf.new _ vl vu vs) pl pu ps (by decide) ?_ (by rw [List.size_toArray]; omega)
    rw [PySem.W.krv_pick]
    refine ⟨.ref _, _, I5.laid (t' := s4.toks) (o := .lst ws.reverse) (fun b ob q => Heap.get?_push_of_some _ q) (Nat.le_refl _) ?_, rfl, f.newOwn (sh := .lst) st e6.reverse (I5.hok.fresh (Nat.le_refl _)) (by decide)⟩
    exact ⟨by rw [List.length_reverse]; exact hz, _, 0, r.reverse, Heap.get?_push_size _ rfl⟩
  show wpAny (model X.prog X.w) X.A (subscriptTail e (.Slice none none (some (.UnaryOp .USub (.Constant (.int 1) k p1) p2)) p3) v (.ref s4.heap.objs.size)) (EP X pins σ Q) X.xe { s4 with heap := s4.heap.push { cls := .type "slice", data := .fields #[vl, vu, vs] } }
  have e0 := e'
  unfold revD at e0
  split at e0
  · exact lst .lst _ rfl rfl rfl
  · exact lst .fz _ rfl rfl rfl
  · cases e0
    obtain ⟨p, ws, z, e5, e6⟩ := repW_ob st ra
    subst z
    cases r1
    have hx : SqT X.K H4 p ws := hk ▸ e5
    obtain ⟨its, r, ht, hz⟩ := I5.tuple hx
    have hlen : its.toArray.size = ws.length := by rw [List.size_toArray]; exact r.length.symm
    refine tail_any (ops := [.ref p, .ref s4.heap.objs.size]) ht.typeIs PyProof.Rows.slot_tuple_getitem.lookup ?_ (by with_unfolding_all rfl)
    refine getItem_tuple_rev ht (Heap.IsSliceOf.new _ vl vu vs) pl pu ps ?_ (by rw [hlen]; exact hz)
    refine ⟨.ref _, _, I5.laid (t' := s4.toks) (o := .tup ws.reverse) (fun b ob q => Heap.get?_push_of_some _ q) (Nat.le_refl _) ?_, rfl, f.newTup st e6.reverse (I5.hok.fresh (Nat.le_refl _))⟩
    exact ⟨by rw [List.length_reverse]; exact hz, _, r.reverse, IsTup.new _ _⟩
  · cases e0
end Tp
set_option Elab.async false
set_option linter.all false
set_option maxRecDepth 100000
set_option maxHeartbeats 4000000
namespace Tp
open PySem PySem.Spec PyProof.Rows L2
open Evl (Ex)

theorem repWs_nil {K : PySem.W.Frag} {S H : Hp} {vs : List V} (h : RepWs K S H [] vs) : vs = [] := h
theorem repWs1 {K : PySem.W.Frag} {S H : Hp} {a : D} {vs : List V} (h : RepWs K S H [a] vs) : ∃ v, vs = [v] ∧ RepW K S H a v := by
  obtain ⟨v, us, rfl, h1, h2⟩ := h
  rw [repWs_nil h2]; exact ⟨v, rfl, h1⟩
theorem repWs2 {K : PySem.W.Frag} {S H : Hp} {a b : D} {vs : List V} (h : RepWs K S H [a, b] vs) : ∃ v w, vs = [v, w] ∧ RepW K S H a v ∧ RepW K S H b w := by
  obtain ⟨v, us, rfl, h1, h2⟩ := h
  obtain ⟨w, rfl, h3⟩ := repWs1 h2
  exact ⟨v, w, rfl, h1, h3⟩
/-- what a type's name is -/
def tyD : D → Option Ty
  | .non => some .none
  | .bl _ => some .bool
  | .int _ => some .int
  | .str _ => some .str
  | .ob .tup _ => some .tuple
  | .ob .lst _ => some .list
  | _ => none
def instT : Ty → Ty → Bool
  | .none, .none => true
  | .bool, .bool => true
  | .bool, .int => true
  | .int, .int => true
  | .str, .str => true
  | .tuple, .tuple => true
  | .list, .list => true
  | .dict, .dict => true
  | _, _ => false
theorem kit_inst (a b : Ty) : kitB a.name b.name = some (instT a b) := by cases a <;> cases b <;> decide +kernel
def combI (a b : Int) : Int := PySem.W.mcComb a b
def reprD (d : D) : Out Str := (ofO (pyOf d)).bind fun p => if okR p = true ∧ p.weight ≤ 30000 ∧ p.depth ≤ 60 then .ok p.shown else .stuck
inductive Bi where
  | len | abs | max | min | sum | divmod | comb | gcd | repr | int | isinstance | all | any | list | tuple | sorted
  deriving DecidableEq
def dI (i : Int) : Out R := .ok (.d (.int i))
def dB (i : Bool) : Out R := .ok (.d (.bl i))
def lenD : D → Out R
  | .str s => if s.length ≤ sizeLine then dI s.length else .stuck
  | .ob sh xs => if isL sh = true ∨ sh = .tup then dI xs.length else .stuck
  | _ => .stuck
def listD : D → Out R
  | .ob sh xs => if isL sh = true ∨ sh = .tup then .ok (.ow .lst xs) else .stuck
  | _ => .stuck
def tupleD : D → Out R
  | .ob .lst xs => .ok (.d (.tup xs))
  | .ob .fz xs => .ok (.d (.tup xs))
  | .ob .tup xs => .ok (.d (.tup xs))
  | _ => .stuck
def lstOf : D → Option (List D)
  | .ob .lst xs => some xs
  | .ob .fz xs => some xs
  | _ => none
def biD : Bi → List D → Out R
  | .len, [d] => lenD d
  | .abs, [.int i] => dI (if i < 0 then -i else i)
  | .max, [.int i, .int j] => dI (if j > i then j else i)
  | .min, [.int i, .int j] => dI (if j < i then j else i)
  | .max, [d] => (ofO (lstOf d)).bind fun xs => (ofO (intsOf xs)).bind fun ns => (ofO (maxL ns)).bind fun m => dI m
  | .min, [d] => (ofO (lstOf d)).bind fun xs => (ofO (intsOf xs)).bind fun ns => (ofO (minL ns)).bind fun m => dI m
  | .sum, [d] => (ofO (lstOf d)).bind fun xs => (ofO (intsOf xs)).bind fun ns => dI ns.sum
  | .all, [d] => (ofO (lstOf d)).bind fun xs => (ofO (boolsOf xs)).bind fun ns => dB (ns.all id)
  | .any, [d] => (ofO (lstOf d)).bind fun xs => (ofO (boolsOf xs)).bind fun ns => dB (ns.any id)
  | .sorted, [d] => (ofO (lstOf d)).bind fun xs => (ofO (intsOf xs)).bind fun ns => .ok (.ow .lst ((ns.mergeSort (fun a b => decide (a ≤ b))).map D.int))
  | .divmod, [.int i, .int j] => if 0 < j ∧ j < 1073741824 then .ok (.d (.tup [.int (i / j), .int (i % j)])) else .stuck
  | .comb, [.int i, .int j] => if 0 ≤ i ∧ 0 ≤ j ∧ i ≤ 18000 then dI (combI i j) else .stuck
  | .gcd, [.int i, .int j] => dI (Nat.gcd i.natAbs j.natAbs : Nat)
  | .repr, [d] => (reprD d).bind fun s => .ok (.d (.str s))
  | .int, [.int i] => dI i
  | .int, [.bl i] => dI (if i then 1 else 0)
  | .isinstance, [d, .ty t] => (ofO (tyD d)).bind fun a => dB (instT a t)
  | .list, [d] => listD d
  | .tuple, [d] => tupleD d
  | _, _ => .stuck
def Bi.val : Bi → Value
  | .len => .builtin "len"
  | .abs => .builtin "abs"
  | .max => .builtin "max"
  | .min => .builtin "min"
  | .sum => .builtin "sum"
  | .divmod => .builtin "divmod"
  | .comb => .builtin "math.comb"
  | .gcd => .builtin "math.gcd"
  | .repr => .builtin "repr"
  | .int => .type "int"
  | .isinstance => .builtin "isinstance"
  | .all => .builtin "all"
  | .any => .builtin "any"
  | .list => .type "list"
  | .tuple => .type "tuple"
  | .sorted => .builtin "sorted"
theorem lstOf_ok {Γ : Gr} {S H : Hp} {σ : L2.St} {ρ : List Sl} {d : D} {v : V} {xs : List D} (st : StOk Γ S H σ ρ) (h : RepW Γ.K S H d v) (e : lstOf d = some xs) : ∃ p vs, v = .ref p ∧ SqL Γ.K H p vs ∧ Reps Γ.K S xs vs := by
  unfold lstOf at e
  split at e
  · cases e
    obtain ⟨p, vs, e1, e2, e3⟩ := repW_ob st h
    exact ⟨p, vs, e1, e2.L rfl, e3⟩
  · cases e
    obtain ⟨p, vs, e1, e2, e3⟩ := repW_ob st h
    exact ⟨p, vs, e1, e2.L rfl, e3⟩
  · cases e
theorem tyX_of {Γ : Gr} {S H : Hp} {σ : L2.St} {ρ : List Sl} {d : D} {v : V} {t : Ty} (st : StOk Γ S H σ ρ) (h : RepW Γ.K S H d v) (e : tyD d = some t) : TyX Γ.K H v (.type t.name) := by
  unfold tyD at e
  split at e
  · cases e; rw [repW_non h]; exact .base .non
  · cases e; rw [repW_bl h]; exact .base (.bl _)
  · cases e; rw [repW_int h]; exact .base (.int _)
  · cases e; rw [repW_str h]; exact .base (.str _)
  · cases e
    obtain ⟨p, vs, rfl, e2, e3⟩ := repW_ob st h
    rcases e2 with (e2 | ⟨o, e2⟩) | ⟨o, its, n, e2, e4, _⟩
    · exact .base (.tup e2)
    · exact .fTuple e2
    · exact .kTuple e2 e4
  · cases e
    obtain ⟨p, vs, rfl, e2, e3⟩ := repW_ob st h
    exact .base (.lst e2)
  · cases e
section
variable {X : Cx}
theorem call_comb : CallR X (.builtin "math.comb") (fun xs H Q => ∃ i j, xs = [.int i, .int j] ∧ (0 ≤ i ∧ 0 ≤ j ∧ i ≤ 18000) ∧ Q (.int (combI i j)) H) := by
  intro pins s σ H xs us Q I r h
  obtain ⟨i, j, rfl, ⟨h1, h2, h3⟩, q⟩ := h
  obtain ⟨u, w, rfl, ⟨t, rfl⟩, ⟨t', rfl⟩⟩ := vals2 r
  exact PySem.W.mc_comb h1 h2 (by omega) (.inr h3) fun _ => ⟨.int _, H, I.tok _, ⟨_, rfl⟩, q⟩
theorem call_reprD (hu : X.A.units + 62 < cLine) (hg : X.A.guards = some []) : CallR X (.builtin "repr") (fun xs H Q => ∃ x p, xs = [x] ∧ Dp X.K H x p ∧ (okR p = true ∧ p.weight ≤ 30000 ∧ p.depth ≤ 60) ∧ Q (.str p.shown) H) := by
  intro pins s σ H xs us Q I r h
  obtain ⟨x, p, rfl, hd, ⟨h1, h2, h3⟩, q⟩ := h
  obtain ⟨u, rfl, rx⟩ := vals1 r
  have sh := shown_ok h1 h2
  cases hd with
  | non => cases rx; exact PySem.P.repr_of_none ⟨.str _, H, I.tok _, ⟨_, rfl⟩, q⟩
  | bl b => cases rx; exact PySem.P.repr_of_bool ⟨.str _, H, I.tok _, ⟨_, by rw [PyData.shown_bool]⟩, q⟩
  | int i =>
    obtain ⟨t, rfl⟩ := rx
    unfold okR at h1
    exact PySem.P.repr_of_int (int_ok (of_decide_eq_true h1)).1 ⟨.str _, H, I.tok _, ⟨_, rfl⟩, q⟩
  | str z =>
    obtain ⟨t, rfl⟩ := rx
    exact PySem.P.repr_of_str ⟨.str _, H, I.tok _, ⟨_, by rw [PyData.shown_str]⟩, q⟩ (by rw [← PyData.shown_str]; exact sh)
  | lst a b =>
    obtain ⟨as, rd⟩ := reads_of I (Dp.lst a b) rx
    cases rx
    exact repr_of_reads' rd (okR_ok h1).1 (fun z => by rw [(okR_ok h1).2.2] at z; cases z) hg (by omega) (fun _ _ h => h) (fun h' u tk hk => ⟨.str _, H, I.kept (t' := tk) hk, ⟨_, rfl⟩, q⟩) sh
  | tup a b =>
    obtain ⟨as, rd⟩ := reads_of I (Dp.tup a b) rx
    cases rx
    exact repr_of_reads' rd (okR_ok h1).1 (fun z => by rw [(okR_ok h1).2.2] at z; cases z) hg (by omega) (fun _ _ h => h) (fun h' u tk hk => ⟨.str _, H, I.kept (t' := tk) hk, ⟨_, rfl⟩, q⟩) sh
theorem sorted_eq {ns ms : List Int} (h : ms.Perm ns) (p : ms.Pairwise (· ≤ ·)) : ms = ns.mergeSort (fun a b => decide (a ≤ b)) := by
  refine List.Perm.eq_of_pairwise (le := (· ≤ ·)) (fun a b _ _ h1 h2 => Int.le_antisymm h1 h2) p ?_ (h.trans (List.mergeSort_perm _ _).symm)
  have := List.pairwise_mergeSort (le := fun a b : Int => decide (a ≤ b)) (by intro a b c; simp; omega) (by intro a b; simp; omega) ns
  exact this.imp fun h => of_decide_eq_true h
theorem calr_bi (hc : X.calm = true) (hu : X.A.units + 65 < cLine) (hg : X.A.guards = some []) (b : Bi) : CallR X b.val (rB X.K (biD b)) := by
  intro pins s σ' H xs us Q I rv q
  obtain ⟨Γ, S, σ, ρ, ds, r, hk, st, ra, e, f⟩ := q
  rw [← hk] at ra
  unfold biD at e
  split at e
  · -- len
    obtain ⟨x, rfl, rx⟩ := repWs1 ra
    refine call_len pins s σ' H _ us Q I rv ?_
    unfold lenD at e
    split at e
    · obtain ⟨c, e⟩ := ite_ok e
      cases e
      rw [repW_str rx]
      exact ⟨_, _, rfl, ⟨c, rfl⟩, f.int st⟩
    · obtain ⟨c, e⟩ := ite_ok e
      cases e
      obtain ⟨p, vs, rfl, e2, e3⟩ := repW_ob st rx
      rw [← e3.length] at f
      rcases c with c | c
      · exact ⟨_, _, rfl, hk ▸ .inl ⟨vs, e2.L c, rfl⟩, f.int st⟩
      · subst c; exact ⟨_, _, rfl, hk ▸ .inr ⟨vs, e2, rfl⟩, f.int st⟩
    · cases e
  · cases e
    obtain ⟨x, rfl, rx⟩ := repWs1 ra
    exact call_abs pins s σ' H _ us Q I rv ⟨_, by rw [repW_int rx], f.int st⟩
  · cases e
    obtain ⟨x, y, rfl, rx, ry⟩ := repWs2 ra
    exact call_max2 hc pins s σ' H _ us Q I rv ⟨_, _, by rw [repW_int rx, repW_int ry], f.int st⟩
  · cases e
    obtain ⟨x, y, rfl, rx, ry⟩ := repWs2 ra
    exact call_min2 hc pins s σ' H _ us Q I rv ⟨_, _, by rw [repW_int rx, repW_int ry], f.int st⟩
  · obtain ⟨zs, e1, e⟩ := ob_bind e
    obtain ⟨ns, e2, e⟩ := ob_bind e
    obtain ⟨m, e3, e⟩ := ob_bind e
    cases e
    obtain ⟨x, rfl, rx⟩ := repWs1 ra
    obtain ⟨p, vs, rfl, l1, l2⟩ := lstOf_ok st rx (ofO_ok e1)
    have := intsOf_ok l2 (ofO_ok e2)
    subst this
    refine cr_max hc pins s σ' H _ us Q I rv ⟨p, ns, rfl, hk ▸ l1, ?_, fun m' h1 h2 => ?_⟩
    · cases ns with
      | nil => cases e3
      | cons a b => simp
    · rw [maxL_ok (ofO_ok e3) h1 h2]; exact f.int st
  · obtain ⟨zs, e1, e⟩ := ob_bind e
    obtain ⟨ns, e2, e⟩ := ob_bind e
    obtain ⟨m, e3, e⟩ := ob_bind e
    cases e
    obtain ⟨x, rfl, rx⟩ := repWs1 ra
    obtain ⟨p, vs, rfl, l1, l2⟩ := lstOf_ok st rx (ofO_ok e1)
    have := intsOf_ok l2 (ofO_ok e2)
    subst this
    refine cr_min hc pins s σ' H _ us Q I rv ⟨p, ns, rfl, hk ▸ l1, ?_, fun m' h1 h2 => ?_⟩
    · cases ns with
      | nil => cases e3
      | cons a b => simp
    · rw [minL_ok (ofO_ok e3) h1 h2]; exact f.int st
  · obtain ⟨zs, e1, e⟩ := ob_bind e
    obtain ⟨ns, e2, e⟩ := ob_bind e
    cases e
    obtain ⟨x, rfl, rx⟩ := repWs1 ra
    obtain ⟨p, vs, rfl, l1, l2⟩ := lstOf_ok st rx (ofO_ok e1)
    have := intsOf_ok l2 (ofO_ok e2)
    subst this
    exact cr_sum hc pins s σ' H _ us Q I rv ⟨p, ns, rfl, hk ▸ l1, f.int st⟩
  · obtain ⟨zs, e1, e⟩ := ob_bind e
    obtain ⟨ns, e2, e⟩ := ob_bind e
    cases e
    obtain ⟨x, rfl, rx⟩ := repWs1 ra
    obtain ⟨p, vs, rfl, l1, l2⟩ := lstOf_ok st rx (ofO_ok e1)
    have := boolsOf_ok l2 (ofO_ok e2)
    subst this
    exact cr_all hc pins s σ' H _ us Q I rv ⟨p, ns, rfl, hk ▸ l1, f.bl st⟩
  · obtain ⟨zs, e1, e⟩ := ob_bind e
    obtain ⟨ns, e2, e⟩ := ob_bind e
    cases e
    obtain ⟨x, rfl, rx⟩ := repWs1 ra
    obtain ⟨p, vs, rfl, l1, l2⟩ := lstOf_ok st rx (ofO_ok e1)
    have := boolsOf_ok l2 (ofO_ok e2)
    subst this
    exact cr_any hc pins s σ' H _ us Q I rv ⟨p, ns, rfl, hk ▸ l1, f.bl st⟩
  · obtain ⟨zs, e1, e⟩ := ob_bind e
    obtain ⟨ns, e2, e⟩ := ob_bind e
    cases e
    obtain ⟨x, rfl, rx⟩ := repWs1 ra
    obtain ⟨p, vs, rfl, l1, l2⟩ := lstOf_ok st rx (ofO_ok e1)
    have := intsOf_ok l2 (ofO_ok e2)
    subst this
    refine cr_sortedI pins s σ' H _ us Q I rv ⟨p, ns, rfl, hk ▸ l1, fun ms p h1 h2 n => ?_⟩
    rw [sorted_eq h1 h2]
    exact f.newOwn (sh := .lst) st (Reps.ints _) n (by decide)
  · obtain ⟨c, e'⟩ := ite_ok e
    subst e'
    obtain ⟨x, y, rfl, rx, ry⟩ := repWs2 ra
    exact call_divmod pins s σ' H _ us Q I rv ⟨_, _, by rw [repW_int rx, repW_int ry], c, fun p n => f.newTup st (Reps.ints [_, _]) n⟩
  · obtain ⟨c, e'⟩ := ite_ok e
    cases e'
    obtain ⟨x, y, rfl, rx, ry⟩ := repWs2 ra
    exact call_comb pins s σ' H _ us Q I rv ⟨_, _, by rw [repW_int rx, repW_int ry], c, f.int st⟩
  · cases e
    obtain ⟨x, y, rfl, rx, ry⟩ := repWs2 ra
    exact cr_gcd pins s σ' H _ us Q I rv ⟨_, _, by rw [repW_int rx, repW_int ry], f.int st⟩
  · obtain ⟨z, e1, e⟩ := ob_bind e
    cases e
    obtain ⟨p, e2, e⟩ := ob_bind e1
    obtain ⟨c, e⟩ := ite_ok e
    subst e
    obtain ⟨x, rfl, rx⟩ := repWs1 ra
    exact call_reprD (by omega) hg pins s σ' H _ us Q I rv ⟨x, p, rfl, hk ▸ rx.dp st (ofO_ok e2), c, f.str st⟩
  · cases e
    obtain ⟨x, rfl, rx⟩ := repWs1 ra
    exact call_int1 pins s σ' H _ us Q I rv (.inl ⟨_, by rw [repW_int rx], f.int st⟩)
  · cases e
    obtain ⟨x, rfl, rx⟩ := repWs1 ra
    exact call_int1 pins s σ' H _ us Q I rv (.inr ⟨_, by rw [repW_bl rx], f.int st⟩)
  · obtain ⟨a, e1, e⟩ := ob_bind e
    cases e
    obtain ⟨x, y, rfl, rx, ry⟩ := repWs2 ra
    rw [repW_ty ry] at rv
    refine call_isi pins s σ' H _ us Q I rv ⟨_, _, _, _, _, rfl, .ty _, hk ▸ tyX_of st rx (ofO_ok e1), kit_ty (kit_inst _ _), f.bl st⟩
  · obtain ⟨x, rfl, rx⟩ := repWs1 ra
    unfold listD at e
    split at e
    · obtain ⟨c, e⟩ := ite_ok e
      subst e
      obtain ⟨p, vs, rfl, e2, e3⟩ := repW_ob st rx
      refine call_list_of pins s σ' H _ us Q I rv ⟨p, vs, rfl, ?_, fun p n => f.newOwn (sh := .lst) st e3 n (by decide)⟩
      rcases c with c | c
      · exact hk ▸ .inl (e2.L c)
      · subst c; exact hk ▸ .inr e2
    · cases e
  · obtain ⟨x, rfl, rx⟩ := repWs1 ra
    unfold tupleD at e
    split at e
    · cases e
      obtain ⟨p, vs, rfl, e2, e3⟩ := repW_ob st rx
      exact call_tuple_of pins s σ' H _ us Q I rv ⟨p, vs, rfl, .inl ⟨hk ▸ e2.L rfl, fun p n => f.newTup st e3 n⟩⟩
    · cases e
      obtain ⟨p, vs, rfl, e2, e3⟩ := repW_ob st rx
      exact call_tuple_of pins s σ' H _ us Q I rv ⟨p, vs, rfl, .inl ⟨hk ▸ e2.L rfl, fun p n => f.newTup st e3 n⟩⟩
    · cases e
      have rx' := repW_tup rx
      obtain ⟨p, vs, rfl, e2, e3⟩ := repW_ob st rx
      exact call_tuple_of pins s σ' H _ us Q I rv ⟨p, vs, rfl, .inr ⟨hk ▸ e2, f.here st rx'⟩⟩
    · cases e
  · cases e
end
end Tp
set_option Elab.async false
set_option linter.all false
set_option maxRecDepth 100000
set_option maxHeartbeats 4000000
namespace Tp
open PySem PySem.Spec PyProof.Rows L2
open Evl (Ex)

/-! ### a def's promise, where nothing is being shown as text -/
structure FnG (P : Program) (w : World) (K : PySem.W.Frag) (mg : Str → Option Value) (base : Heap) (k : Nat) (f : Addr) (fd : FuncData) (ps : List Str) (sp : Sp) : Prop where
  many : ∀ vs H Q E, sp vs H Q E → vs.length = ps.length
  goes : ∀ (A : Around) (out : List Env) (s : Shared) (H : Hp) (ar : Args) (us : List Value) (vs : List V) (Q : VK) (E : XK), Room k A → A.guards = some [] → Env0 P w K mg base A out s H → BindsTo s fd ar (ps.zip us) → Vals vs us → sp vs H Q E →
    codeAny (model P w) A (.call (.ref f) ar) (CR (L2.CX P w) out P w H s Q E) s
theorem FnG.up {P : Program} {w : World} {K : PySem.W.Frag} {mg : Str → Option Value} {base : Heap} {j k : Nat} {f : Addr} {fd : FuncData} {ps : List Str} {sp : Sp} (F : FnG P w K mg base j f fd ps sp) (h : j ≤ k) : FnG P w K mg base k f fd ps sp :=
  ⟨F.many, fun A out s H ar us vs Q E hr => F.goes A out s H ar us vs Q E (hr.mono h)⟩
theorem FnG.weak {P : Program} {w : World} {K : PySem.W.Frag} {mg : Str → Option Value} {base : Heap} {k : Nat} {f : Addr} {fd : FuncData} {ps : List Str} {sp sp' : Sp} (F : FnG P w K mg base k f fd ps sp) (h : ∀ vs H Q E, sp' vs H Q E → sp vs H Q E) : FnG P w K mg base k f fd ps sp' :=
  ⟨fun vs H Q E q => F.many vs H Q E (h _ _ _ _ q), fun A out s H ar us vs Q E hr hg he hb hv hs => F.goes A out s H ar us vs Q E hr hg he hb hv (h _ _ _ _ hs)⟩
section
variable {X : Cx} {k : Nat} {f : Addr} {fd : FuncData} {ps ks : List Str} {sp : Sp} {x : Str} {ds : List Value} {dvs : List V} {E : XK} {t tk : TA} {e : Expr} {es : List Expr} {p pos : Pos} {kws : List Keyword}
theorem goG {pins : List (Addr × Obj)} {σ : L2.St} {H : Hp} {s : Shared} {Q : VK} {ar : Args} {us : List Value} {vs : List V} (F : FnG X.prog X.w X.K X.mg X.base k f fd ps sp) (hr : Room k X.A) (hg : X.A.guards = some []) (hx : Passes (L2.CX X.prog X.w) X E)
    (I : L2.Inv X pins σ H s) (hb : us.length = ps.length → BindsTo s fd ar (ps.zip us)) (r : Vals vs us) (h : sp vs H Q E) : wpAny (model X.prog X.w) X.A (call (.ref f) ar.pos ar.kw) (EP X pins σ Q) X.xe s := by
  refine wpAny_call (codeAny_mono (F.goes X.A X.stack s H ar us vs Q E hr hg I.env0 (hb ?_) r h) fun r s' hq => ?_)
  · have e1 := F.many _ _ _ _ h
    have e2 := r.length
    omega
  · cases r with
    | error e => exact hx pins σ H s e s' I hq
    | ok fl => cases fl with
      | ret u => exact I.after hq
      | next => cases hq
      | brk => cases hq
      | cont => cases hq
theorem pe_callG (F : FnG X.prog X.w X.K X.mg X.base k f fd ps sp) (hr : Room k X.A) (hgd : X.A.guards = some []) (hg : Gl X x) (hm : X.mg x = some (.ref f)) (hk : PySem.W.keepIn X.K (.ref f) = true) (hb : Binds X.K fd ps ds) (hd : Vals dvs ds) (hx : Passes (L2.CX X.prog X.w) X E)
    (ha : PA X (e :: es) t) (hdb : (x == ("__debug__" : Str)) = false) (he : starEach (e :: es) X.env = (false, eval e X.env) :: starEach es X.env) (hpl : (backTo pos (starEach es X.env)).any (·.1) = false) :
    PE X (.Call (.Name x p) (e :: es) [] pos) (tCall sp dvs E t) := by
  constructor
  intro pins s σ H Q I h
  apply wpAny_Call_Name_kw
  apply ld_glob I hg hm (hd := hdb)
  refine PySem.W.callWith_K (h₀ := X.base) I.ok.mod.kin hk (thn (ha.run pos pins s σ H _ I h) ?_) he hpl
  rintro us s1 ⟨vs, H1, I1, r, q⟩
  refine ⟨I1.kIn, ?_⟩
  have r2 : Vals (vs ++ dvs) (us ++ ds) := r.append hd
  exact goG (ar := ⟨us, []⟩) F hr hgd hx I1 (fun hl => hb s1 us I1.kIn hl) r2 q
theorem pe_callG0 (F : FnG X.prog X.w X.K X.mg X.base k f fd ps sp) (hr : Room k X.A) (hgd : X.A.guards = some []) (hg : Gl X x) (hm : X.mg x = some (.ref f)) (hk : PySem.W.keepIn X.K (.ref f) = true) (hb : Binds X.K fd ps ds) (hd : Vals dvs ds) (hx : Passes (L2.CX X.prog X.w) X E)
    (hdb : (x == ("__debug__" : Str)) = false) : PE X (.Call (.Name x p) [] [] pos) (tCall sp dvs E tNil) := by
  constructor
  intro pins s σ H Q I h
  apply wpAny_Call_Name_kw
  apply ld_glob I hg hm (hd := hdb)
  have r2 : Vals ([] ++ dvs) ([] ++ ds) := Vals.append .nil hd
  exact PySem.W.callWith_K0 I.kIn hk (goG (ar := ⟨[], []⟩) F hr hgd hx I (fun hl => hb s [] I.kIn hl) r2 h)
end
/-- a def, whatever its defaults -/
structure FunA (K : PySem.W.Frag) (x qual : Str) (st : Stmt) (f : Addr) (fd : FuncData) : Prop where
  ex : ∃ (oc : Value) (od : Option Addr) (dV kV doc pm : Value) (an : Option Addr) (cdv ct : Value) (osl : Array (Option Value)),
    fd = PySem.W.fnOf x qual (defArgs st) (defBody st) (defScope st) dV kV doc pm an cdv ct ∧ K.lookup f = some ⟨oc, od, .func fd, osl⟩ ∧ PySem.W.codeIn K cdv qual = true
theorem funA {K : PySem.W.Frag} {x qual : Str} {st : Stmt} {f : Addr} {fd : FuncData} (F : Fun K x qual st f fd) : FunA K x qual st f fd := by
  obtain ⟨oc, od, kV, doc, pm, an, cdv, ct, osl, h1, h2, h3⟩ := F.ex
  exact ⟨oc, od, .none, kV, doc, pm, an, cdv, ct, osl, h1, h2, h3⟩
abbrev FunQ (K : PySem.W.Frag) (x qual : Str) (st : Stmt) (dvs : List V) (f : Addr) (fd : FuncData) : Prop := FunD K x qual (defArgs st) (defBody st) (defScope st) dvs [] f fd
theorem funD {K : PySem.W.Frag} {x qual : Str} {st : Stmt} {dvs : List V} {f : Addr} {fd : FuncData} (F : FunQ K x qual st dvs f fd) : FunA K x qual st f fd := by
  obtain ⟨oc, od, dV, kV, doc, pm, an, cdv, ct, osl, h1, h2, h3, _⟩ := F.ex
  exact ⟨oc, od, dV, kV, doc, pm, an, cdv, ct, osl, h1, h2, h3⟩
theorem funQ_mk {K : PySem.W.Frag} {x qual : Str} {st : Stmt} {dvs : List V} {f T : Addr} {oc kV doc pm cdv ct : Value} {od an : Option Addr} {osl : Array (Option Value)} {o : Obj} {its : List Value} {n : Nat}
    (l : K.lookup f = some ⟨oc, od, .func (PySem.W.fnOf x qual (defArgs st) (defBody st) (defScope st) (.ref T) kV doc pm an cdv ct), osl⟩) (c : PySem.W.codeIn K cdv qual = true) (k : PySem.W.keepIn K (.ref f) = true) (t : K.lookup T = some o) (d : o.data = .seq its.toArray n) (hv : Vals dvs its) (hd : dvs ≠ []) :
    FunQ K x qual st dvs f (PySem.W.fnOf x qual (defArgs st) (defBody st) (defScope st) (.ref T) kV doc pm an cdv ct) :=
  ⟨⟨oc, od, .ref T, kV, doc, pm, an, cdv, ct, osl, rfl, l, c, .inr ⟨hd, T, o, its, n, rfl, t, d, hv⟩, .inl rfl⟩, k⟩
/-- the rule for a def -/
theorem fn_ofG {P : Program} {w : World} {K : PySem.W.Frag} {mg : Str → Option Value} {base : Heap} {k : Nat} {f : Addr} {fd : FuncData} {x qual : Str} {st : Stmt} {N ps : List Str} {sp : Sp} (F : FunA K x qual st f fd) (S : FnScope N ps (defScope st))
    (len : ∀ vs H Q E, sp vs H Q E → vs.length = ps.length)
    (hbody : ∀ (cdv : Value) (A : Around) (out : List Env) (s : Shared) (H : Hp) (vs : List V) (Q : VK) (E : XK), Room k (A.deeper (envOfC qual (defScope st) s.heap.objs.size f cdv)) → A.guards = some [] → sp vs H Q E →
      ∃ t, PSs (cxOf (L2.CX P w) P w K mg base N qual (defScope st) f cdv A out s H E) (defBody st) t ∧ t { nx := fun _ H' => Q .non H', rt := Q } (start N vs) H) : FnG P w K mg base (k + 1) f fd ps sp := by
  have all : ∀ (A : Around), A.guards = some [] → ∀ (out : List Env) (s : Shared) (H : Hp) (ar : Args) (us : List Value) (vs : List V) (Q : VK) (E : XK), Room (k + 1) A → Env0 P w K mg base A out s H → BindsTo s fd ar (ps.zip us) → Vals vs us → sp vs H Q E →
      codeAny (model P w) A (.call (.ref f) ar) (CR (L2.CX P w) out P w H s Q E) s := by
    intro A hg out s H ar us vs Q E hr he hb hv hs
    -- the promise at this around alone
    let sp' : Sp := fun vs' H' Q' E' => (vs' = vs ∧ H' = H ∧ Q' = Q ∧ E' = E)
    obtain ⟨oc, od, dV, kV, doc, pm, an, cdv, ct, osl, rfl, lk, hcd⟩ := F.ex
    have hl := len _ _ _ _ hs
    have KX : K.In s.heap := he.mod.kin.keeps fun b o e => (he.bs b o e).1
    have lim : s.heap.NoLimit := he.mod.nolimit.keeps fun b o e => (he.bs b o e).1
    have hkind : ∀ y ∈ ps.zip us, (defScope st).names.lookup y.1 = some .local ∨ ((defScope st).names.lookup y.1 = some .cell ∧ ((cellsFrom (s.heap.objs.size + 1) (defScope st).names []).lookup y.1).isSome = true) := by
      rintro ⟨n, v⟩ hy
      exact (S.par n (List.of_mem_zip hy).1).imp id fun q => ⟨q, PySem.W.cellsFrom_some _ _ _ (.inl q)⟩
    apply codeAny_call_function hr.depth (KX _ _ lk) rfl S.co S.gen rfl (PySem.W.codeRec_of KX hcd)
    apply hb
    apply wpAny_newFunctionEnv_cells S.kind hkind
    intro env henv s1 x
    subst henv
    refine ⟨lim.keeps x.toInCall.keep, codeAny_func ?_⟩
    obtain ⟨t, ht, hq⟩ := hbody cdv A out s H vs Q E (hr.deeper _) hg hs
    have I : L2.Inv (cxOf (L2.CX P w) P w K mg base N qual (defScope st) f cdv A out s H E) [] (start N vs) H s1 := inv_start S hr.hd he hl hv x
    have fin : ∀ {σ' : L2.St} {H' : Hp} {v : V} {u : Value} {s' : Shared}, L2.Inv (cxOf (L2.CX P w) P w K mg base N qual (defScope st) f cdv A out s H E) [] σ' H' s' → RelV v u → Q v H' → CE out P w H s Q u s' := by
      intro σ' H' v u s' J rv q
      exact ⟨v, H', J.os, J.bare, J.base, J.hok, rv, q⟩
    refine wpAny_mono (ht.run [] s1 (start N vs) H _ I hq) ?_ (fun e s' hs => hs)
    intro fl s' hs'
    cases fl with
    | ret u => obtain ⟨v, σ', H', J, rv, q⟩ := hs'; exact fin J rv q
    | next => obtain ⟨σ', H', J, q⟩ := hs'; exact fin (v := .non) J rfl q
    | brk => obtain ⟨σ', H', J, q⟩ := hs'; exact q.elim
    | cont => obtain ⟨σ', H', J, q⟩ := hs'; exact q.elim
  exact ⟨len, fun A out s H ar us vs Q E hr hg he hb hv hs => all A hg out s H ar us vs Q E hr he hb hv hs⟩

/-! ### promises by data -/
def goF (Γ : Gr) (vs : List V) (Q : VK) : Out (R × List Sl) → Prop
  | .ok (r, outs) => ∀ v S' H', StOk Γ S' H' (vs.map some) outs → RepR Γ S' H' (vs.map some) outs r v → Q v H'
  | _ => False
def ioB (io : Option Nat) (vs : List V) : List (Nat × Addr) := match io with
  | none => []
  | some k => match vs[k]? with
    | some (.ref p) => [(k, p)]
    | _ => []
def spF (K : PySem.W.Frag) (io : Option Nat) (n : Nat) (g : List Sl → Out (R × List Sl)) : Sp := fun vs H Q _ => ∃ S as, vs.length = n ∧ StOk ⟨K, ioB io vs, S, H⟩ S H (vs.map some) as ∧ goF ⟨K, ioB io vs, S, H⟩ vs Q (g as)
structure Cal where
  name : Str
  io : Option Nat
  n : Nat
  ds : List D
  fn : List Sl → Out (R × List Sl)
def slOf (io : Option Nat) (ρ : List Sl) (k : Nat) : R → Out Sl
  | .vw i => if io = some k then (match ρ[i]? with
    | some (.ow sh xs) => .ok (.ow sh xs)
    | _ => .stuck) else .stuck
  | .d x => if io = some k then .stuck else .ok (.st x)
  | _ => .stuck
def slsOf (io : Option Nat) (ρ : List Sl) : Nat → List R → Out (List Sl)
  | _, [] => .ok []
  | k, r :: rs => (slOf io ρ k r).bind fun s => (slsOf io ρ (k + 1) rs).bind fun ss => .ok (s :: ss)
/-- the caller's slots behind a call -/
def backS (io : Option Nat) (rs : List R) (outs ρ : List Sl) : Out (List Sl) := match io with
  | none => .ok ρ
  | some k => match rs[k]?, outs[k]? with
    | some (.vw i), some (.ow sh xs) => .ok (ρ.set i (.ow sh xs))
    | _, _ => .stuck
end Tp
set_option Elab.async false
set_option linter.all false
set_option maxRecDepth 100000
set_option maxHeartbeats 4000000
namespace Tp
open PySem PySem.Spec PyProof.Rows L2
open Evl (Ex)
/-! ### a lambda is called -/
/-- a lambda without captured names, called: its body in its own context -/
theorem lam_goes {P : Program} {w : World} {K : PySem.W.Frag} {mg : Str → Option Value} {base : Heap} {N ps : List Str} {q : Str} {scope : Scope} {f c' : Addr} {pm ctv : Value} {params : Arguments} {body : Expr} {tb : TE} {A : Around} {out : List Env} {s : Shared} {H : Hp} {us : List Value} {vs : List V} {Q : VK} {E : XK} {k : Nat}
    (S : FnScope N ps scope) (fo : s.heap.get? f = some (PySem.W.kla_obj "<lambda>" q params body scope [] pm c' ctv)) (co : ∃ (oc : Obj) (fs : Array Value) (t : Tok), s.heap.get? c' = some oc ∧ oc.data = .fields fs ∧ fs[1]? = some (.str q t))
    (rm : Room (k + 1) A) (he : Env0 P w K mg base A out s H) (hb : BindsTo s (PySem.W.kla_fn "<lambda>" q params body scope [] pm (.ref c') ctv) ⟨us, []⟩ (ps.zip us)) (rv : Vals vs us) (len : vs.length = ps.length)
    (hbody : Room k (A.deeper (envOfC q scope s.heap.objs.size f (.ref c'))) → PE (cxOf (L2.CX P w) P w K mg base N q scope f (.ref c') A out s H E) body tb) (ht : tb (start N vs) H Q) :
    codeAny (model P w) A (.call (.ref f) ⟨us, []⟩) (CR (L2.CX P w) out P w H s Q E) s := by
  obtain ⟨oc, fs, t, c1, c2, c3⟩ := co
  have lim : s.heap.NoLimit := he.mod.nolimit.keeps fun b o e => (he.bs b o e).1
  have kinds : ∀ y ∈ ps.zip us, scope.names.lookup y.1 = some .local ∨ (scope.names.lookup y.1 = some .cell ∧ ((cellsFrom (s.heap.objs.size + 1) scope.names []).lookup y.1).isSome = true) := by
    rintro ⟨n, v⟩ hy
    rcases S.par n (List.of_mem_zip hy).1 with z | z
    · exact .inl z
    · exact .inr ⟨z, PySem.W.cellsFrom_some _ _ _ (.inl z)⟩
  refine PySem.W.kla_callFunE rm.depth fo rfl S.co S.gen rfl ⟨c', oc, fs, t, rfl, c1, c2, c3⟩ ?_
  apply hb
  apply wpAny_newFunctionEnv_cells S.kind kinds
  intro env eq s1 x
  subst eq
  refine ⟨lim.keeps x.toInCall.keep, PySem.W.kla_codeExpr ?_⟩
  have J : L2.Inv (cxOf (L2.CX P w) P w K mg base N q scope f (.ref c') A out s H E) [] (start N vs) H s1 := inv_start S rm.hd he len rv x
  refine wpAny_mono ((hbody (rm.deeper _)).run [] s1 (start N vs) H Q J ht) (fun v s2 hq => ?_) (fun e s2 hq => hq)
  obtain ⟨v2, H2, J2, r2, q2⟩ := hq
  exact ⟨v2, H2, J2.os, J2.bare, J2.base, J2.hok, r2, q2⟩
end Tp
set_option Elab.async false
set_option linter.all false
set_option maxRecDepth 100000
set_option maxHeartbeats 4000000
namespace Tp
open PySem PySem.Spec PyProof.Rows L2
open Evl (Ex)

theorem has1 {K : PySem.W.Frag} {S H : Hp} {k : Nat} {p q : Addr} : (Gr.mk K [(k, p)] S H).has q ↔ q = p := by
  unfold Gr.has
  simp
theorem has0 {K : PySem.W.Frag} {S H : Hp} {q : Addr} : ¬ (Gr.mk K [] S H).has q := by
  unfold Gr.has
  simp
/-- the slots of a def's arguments -/
theorem slsOf_get {io : Option Nat} {ρ : List Sl} : ∀ {rs : List R} {as : List Sl} {k : Nat}, slsOf io ρ k rs = .ok as → as.length = rs.length ∧ ∀ (j : Nat) s, as[j]? = some s → ∃ r, rs[j]? = some r ∧ slOf io ρ (k + j) r = .ok s
  | [], as, k, h => by
    have h : Out.ok [] = Out.ok as := h
    cases h
    exact ⟨rfl, fun j s e => by simp at e⟩
  | r :: rs, as, k, h => by
    obtain ⟨s, h1, h⟩ := ob_bind h
    obtain ⟨ss, h2, h⟩ := ob_bind h
    cases h
    obtain ⟨l, g⟩ := slsOf_get h2
    refine ⟨by simp [l], fun j s' e => ?_⟩
    cases j with
    | zero => simp at e; subst e; exact ⟨r, rfl, h1⟩
    | succ j =>
      obtain ⟨r', e1, e2⟩ := g j s' (by simpa using e)
      exact ⟨r', by simpa using e1, by rw [show k + (j + 1) = k + 1 + j by omega]; exact e2⟩
theorem repRs_get {Γ : Gr} {S H : Hp} {σ : L2.St} {ρ : List Sl} : ∀ {rs : List R} {vs : List V}, RepRs Γ S H σ ρ rs vs → vs.length = rs.length ∧ ∀ (j : Nat) r, rs[j]? = some r → ∃ v, vs[j]? = some v ∧ RepR Γ S H σ ρ r v
  | [], vs, h => by
    have h : vs = [] := h
    subst h
    exact ⟨rfl, fun j r e => by simp at e⟩
  | r :: rs, vs, h => by
    obtain ⟨v, us, rfl, ⟨_, h1⟩, h2⟩ := h
    obtain ⟨l, g⟩ := repRs_get h2
    refine ⟨by simp [l], fun j r' e => ?_⟩
    cases j with
    | zero => simp at e; subst e; exact ⟨v, rfl, h1⟩
    | succ j =>
      obtain ⟨w, e1, e2⟩ := g j r' (by simpa using e)
      exact ⟨w, by simpa using e1, e2⟩
theorem slOf_st {io : Option Nat} {ρ : List Sl} {k : Nat} {r : R} {d : D} (h : slOf io ρ k r = .ok (.st d)) : r = .d d := by
  unfold slOf at h
  split at h
  · split at h
    · split at h <;> cases h
    · cases h
  · split at h
    · cases h
    · cases h; rfl
  · cases h
theorem slOf_ow {io : Option Nat} {ρ : List Sl} {k : Nat} {r : R} {sh : Sh} {xs : List D} (h : slOf io ρ k r = .ok (.ow sh xs)) : io = some k ∧ ∃ i : Nat, r = .vw i ∧ ρ[i]? = some (.ow sh xs) := by
  unfold slOf at h
  split at h
  · split at h
    · rename_i i hio
      split at h
      · rename_i q; cases h; exact ⟨hio, i, rfl, q⟩
      · cases h
    · cases h
  · split at h <;> cases h
  · cases h
theorem slOf_un {io : Option Nat} {ρ : List Sl} {k : Nat} {r : R} (h : slOf io ρ k r = .ok .un) : False := by
  unfold slOf at h
  split at h
  · split at h
    · split at h <;> cases h
    · cases h
  · split at h <;> cases h
  · cases h
theorem slOf_io {io : Option Nat} {ρ : List Sl} {k : Nat} {r : R} {s : Sl} (h : slOf io ρ k r = .ok s) (e : io = some k) : ∃ sh xs, s = .ow sh xs := by
  cases s with
  | un => exact (slOf_un h).elim
  | st d =>
    have := slOf_st h
    subst this
    have h : (if io = some k then Out.stuck else Out.ok (Sl.st d)) = Out.ok (Sl.st d) := h
    rw [if_pos e] at h
    cases h
  | ow sh xs => exact ⟨sh, xs, rfl⟩
/-- atoms: their own value in any heap -/
def atomV : D → Option V
  | .non => some .non
  | .bl b => some (.bl b)
  | .int i => some (.int i)
  | .str s => some (.str s)
  | _ => none
theorem atom_rep {K : PySem.W.Frag} {H : Hp} {d : D} {v : V} (h : atomV d = some v) : Rep K H d v := by
  cases d <;> (unfold atomV at h; first | (cases h; done) | (cases h; unfold Rep; rfl))
def atomsV : List D → Option (List V)
  | [] => some []
  | d :: ds => (atomV d).bind fun v => (atomsV ds).map (v :: ·)
theorem atoms_reps {K : PySem.W.Frag} {H : Hp} : ∀ {ds : List D} {vs : List V}, atomsV ds = some vs → Reps K H ds vs
  | [], vs, h => by unfold atomsV at h; cases h; exact .nil
  | d :: ds, vs, h => by
    unfold atomsV at h
    cases q : atomV d with
    | none => rw [q] at h; cases h
    | some v =>
      rw [q] at h
      cases q2 : atomsV ds with
      | none => rw [q2] at h; cases h
      | some us => rw [q2] at h; cases h; exact .cons (atom_rep q) (atoms_reps q2)
theorem get_app {α : Type} {a b : List α} {j : Nat} {x : α} (h : (a ++ b)[j]? = some x) : (j < a.length ∧ a[j]? = some x) ∨ (a.length ≤ j ∧ b[j - a.length]? = some x) := by
  by_cases hj : j < a.length
  · rw [List.getElem?_append_left hj] at h; exact .inl ⟨hj, h⟩
  · rw [List.getElem?_append_right (by omega)] at h; exact .inr ⟨by omega, h⟩
section
variable {Γ : Gr} {S H : Hp} {σ : L2.St} {ρ : List Sl}
/-- into a call -/
theorem StOk.into {io : Option Nat} {rs : List R} {as : List Sl} {vs dvs : List V} {ds : List D} (st : StOk Γ S H σ ρ) (hr : RepRs Γ S H σ ρ rs vs) (ha : slsOf io ρ 0 rs = .ok as) (hd : atomsV ds = some dvs) :
    StOk ⟨Γ.K, ioB io (vs ++ dvs), S, H⟩ S H ((vs ++ dvs).map some) (as ++ ds.map Sl.st) := by
  obtain ⟨l1, g1⟩ := slsOf_get ha
  obtain ⟨l2, g2⟩ := repRs_get hr
  have l3 := (atoms_reps (K := Γ.K) (H := S) hd).length
  -- the slot that is lent
  have own : ∀ (j : Nat) sh xs, (as ++ ds.map Sl.st)[j]? = some (.ow sh xs) → io = some j ∧ ∃ (i : Nat) (p : Addr) (vs' : List V), ρ[i]? = some (.ow sh xs) ∧ σ[i]? = some (some (.ref p)) ∧ (vs ++ dvs)[j]? = some (.ref p) ∧ S p = none ∧ H p = some (hoOf sh vs') ∧ Reps Γ.K S xs vs' ∧ sh ≠ .tup := by
    intro j sh xs e
    rcases get_app e with ⟨hj, e⟩ | ⟨hj, e⟩
    · obtain ⟨r, e1, e2⟩ := g1 j _ e
      rw [Nat.zero_add] at e2
      obtain ⟨e3, i, rfl, e4⟩ := slOf_ow e2
      obtain ⟨v, e5, e6⟩ := g2 j _ e1
      obtain ⟨p, vs', q1, q2, q3, q4, q5, q6⟩ := st.so i sh xs e4
      have e6 : σ[i]? = some (some v) := e6
      rw [q1] at e6
      have : v = .ref p := by injection e6 with e6; injection e6 with e6; exact e6.symm
      subst this
      refine ⟨e3, i, p, vs', e4, q1, ?_, q2, q3, q4, q6⟩
      rw [List.getElem?_append_left (by omega)]; exact e5
    · rw [List.getElem?_map] at e
      cases q : ds[j - as.length]? with
      | none => rw [q] at e; cases e
      | some d => rw [q] at e; cases e
  have hB : ∀ (i : Nat) q, (i, q) ∈ ioB io (vs ++ dvs) ↔ io = some i ∧ (vs ++ dvs)[i]? = some (.ref q) := by
    intro i q
    cases io with
    | none => simp [ioB]
    | some k =>
      show (i, q) ∈ (match (vs ++ dvs)[k]? with | some (.ref p) => [(k, p)] | _ => []) ↔ _
      constructor
      · intro h
        split at h
        · rename_i p hp
          simp at h
          obtain ⟨rfl, rfl⟩ := h
          exact ⟨rfl, hp⟩
        · cases h
      · rintro ⟨h1, h2⟩
        cases h1
        rw [h2]
        simp
  have hown : ∀ q, (Gr.mk Γ.K (ioB io (vs ++ dvs)) S H).has q → S q = none ∧ H q ≠ none := by
    rintro q ⟨i, hi⟩
    obtain ⟨e1, e2⟩ := (hB i q).mp hi
    have hlen : i < (vs ++ dvs).length := (List.getElem?_eq_some_iff.mp e2).1
    by_cases hi : i < as.length
    · obtain ⟨r, e3, e4⟩ := g1 i _ (List.getElem?_eq_getElem hi)
      rw [Nat.zero_add] at e4
      obtain ⟨sh, xs, e5⟩ := slOf_io e4 e1
      have e6 : (as ++ ds.map Sl.st)[i]? = some (.ow sh xs) := by
        rw [List.getElem?_append_left hi, List.getElem?_eq_getElem hi, e5]
      obtain ⟨_, _, p, vs', _, _, q1, q2, q3, _⟩ := own i sh xs e6
      rw [e2] at q1
      have : q = p := by injection q1 with q1; injection q1
      subst this
      exact ⟨q2, by rw [q3]; simp⟩
    · rw [List.getElem?_append_right (by omega)] at e2
      obtain ⟨d, hd2⟩ : ∃ d, ds[i - vs.length]? = some d := by
        have : i - vs.length < ds.length := by rw [← l3]; exact (List.getElem?_eq_some_iff.mp e2).1
        exact ⟨_, List.getElem?_eq_getElem this⟩
      -- an atom is no object
      exfalso
      have : ∀ (ds : List D) (dvs : List V), atomsV ds = some dvs → ∀ (j : Nat) p, dvs[j]? ≠ some (.ref p) := by
        intro ds
        induction ds with
        | nil => intro dvs h j p; unfold atomsV at h; cases h; simp
        | cons d ds ih =>
          intro dvs h j p
          unfold atomsV at h
          cases q : atomV d with
          | none => rw [q] at h; cases h
          | some v =>
            rw [q] at h
            cases q2 : atomsV ds with
            | none => rw [q2] at h; cases h
            | some us =>
              rw [q2] at h; cases h
              cases j with
              | zero => simp; intro z; subst z; cases d <;> cases q
              | succ j => simpa using ih us q2 j p
      exact this ds dvs hd _ _ e2
  refine ⟨⟨fun q o _ h => ⟨o, h, Kp.refl o⟩, st.old.tb, st.old.nt⟩, Ex.refl S, fun _ _ _ => rfl, st.le, fun q h => (hown q h).1, fun q h => (hown q h).2, by simp [l1, l2, l3], ?_, ?_, ?_, ?_, ?_⟩
  · intro j d e
    rcases get_app e with ⟨hj, e⟩ | ⟨hj, e⟩
    · obtain ⟨r, e1, e2⟩ := g1 j _ e
      have := slOf_st e2
      subst this
      obtain ⟨v, e5, e6⟩ := g2 j _ e1
      refine ⟨v, ?_, e6⟩
      rw [List.getElem?_map, List.getElem?_append_left (by omega), e5]; rfl
    · rw [List.getElem?_map] at e
      cases q : ds[j - as.length]? with
      | none => rw [q] at e; cases e
      | some d' =>
        rw [q] at e
        cases e
        obtain ⟨v, e1, e2⟩ := (atoms_reps (K := Γ.K) (H := S) hd).get q
        refine ⟨v, ?_, e2⟩
        rw [List.getElem?_map, List.getElem?_append_right (by omega), show vs.length = as.length by omega, e1]; rfl
  · intro j sh xs e
    obtain ⟨e1, i, p, vs', _, _, q1, q2, q3, q4, q5⟩ := own j sh xs e
    exact ⟨p, vs', by rw [List.getElem?_map, q1]; rfl, q2, q3, q4, .inl ⟨j, (hB j p).mpr ⟨e1, q1⟩⟩, q5⟩
  · intro i j p sh xs sh' xs' e1 e2 _ _
    have a := (own i _ _ e1).1
    have b := (own j _ _ e2).1
    rw [a] at b
    injection b
  · intro i q sh xs h e
    rw [List.getElem?_map, ((hB i q).mp h).2, Option.map_some]
  · intro i q sh xs e1 e2 _
    refine (hB i q).mpr ⟨(own i _ _ e1).1, ?_⟩
    rw [List.getElem?_map] at e2
    cases z : (vs ++ dvs)[i]? with
    | none => rw [z] at e2; cases e2
    | some w => rw [z, Option.map_some] at e2; exact Option.some.inj e2
/-- out of a call -/
theorem StOk.back {io : Option Nat} {rs : List R} {as outs : List Sl} {vs dvs : List V} {S' H' : Hp} {ρ' : List Sl} {r : R} {v : V} (st : StOk Γ S H σ ρ) (hr : RepRs Γ S H σ ρ rs vs) (ha : slsOf io ρ 0 rs = .ok as)
    (st' : StOk ⟨Γ.K, ioB io (vs ++ dvs), S, H⟩ S' H' ((vs ++ dvs).map some) outs) (hv : RepR ⟨Γ.K, ioB io (vs ++ dvs), S, H⟩ S' H' ((vs ++ dvs).map some) outs r v) (hb : backS io rs outs ρ = .ok ρ') (hnv : ∀ i, r ≠ .vw i) :
    StOk Γ S' H' σ ρ' ∧ RepR Γ S' H' σ ρ' r v := by
  obtain ⟨l1, g1⟩ := slsOf_get ha
  obtain ⟨l2, g2⟩ := repRs_get hr
  -- what was lent: the slot i, its address p
  have lent : (io = none ∧ ρ' = ρ) ∨ ∃ (k i : Nat) (p : Addr) (sh : Sh) (xs : List D) (sh0 : Sh) (xs0 : List D), io = some k ∧ ρ' = ρ.set i (.ow sh xs) ∧ ρ[i]? = some (.ow sh0 xs0) ∧ σ[i]? = some (some (.ref p)) ∧ (vs ++ dvs)[k]? = some (.ref p) ∧ outs[k]? = some (.ow sh xs) := by
    cases io with
    | none =>
      have hb : Out.ok ρ = Out.ok ρ' := hb
      cases hb
      exact .inl ⟨rfl, rfl⟩
    | some k =>
      have hb : (match rs[k]?, outs[k]? with
        | some (.vw i), some (.ow sh xs) => Out.ok (ρ.set i (.ow sh xs))
        | _, _ => .stuck) = .ok ρ' := hb
      split at hb
      · rename_i i sh xs h1 h2
        cases hb
        obtain ⟨v, e5, e6⟩ := g2 k _ h1
        have hk : k < as.length := by rw [l1]; exact (List.getElem?_eq_some_iff.mp h1).1
        obtain ⟨r', q1, q2⟩ := g1 k _ (List.getElem?_eq_getElem hk)
        rw [Nat.zero_add] at q2
        obtain ⟨sh0, xs0, q3⟩ := slOf_io q2 rfl
        rw [q3] at q2
        obtain ⟨_, i', q4, q5⟩ := slOf_ow q2
        rw [q4] at q1
        rw [h1] at q1
        have : i = i' := by injection q1 with q1; injection q1
        subst this
        obtain ⟨p, vs', z1, _⟩ := st.so i sh0 xs0 q5
        have e6 : σ[i]? = some (some v) := e6
        rw [z1] at e6
        have : v = .ref p := by injection e6 with e6; injection e6 with e6; exact e6.symm
        subst this
        exact .inr ⟨k, i, p, sh, xs, sh0, xs0, rfl, rfl, q5, z1, by rw [List.getElem?_append_left (by omega)]; exact e5, h2⟩
      · cases hb
  have hasp : ∀ q, (Gr.mk Γ.K (ioB io (vs ++ dvs)) S H).has q → ∃ (k i : Nat) (sh0 : Sh) (xs0 : List D), io = some k ∧ ρ[i]? = some (.ow sh0 xs0) ∧ σ[i]? = some (some (.ref q)) := by
    rintro q ⟨j, hj⟩
    rcases lent with ⟨e, _⟩ | ⟨k, i, p, sh, xs, sh0, xs0, e1, e2, e3, e4, e5, e6⟩
    · subst e; cases hj
    · subst e1
      have hj : (j, q) ∈ (match (vs ++ dvs)[k]? with | some (.ref p) => [(k, p)] | _ => []) := hj
      rw [e5] at hj
      simp at hj
      obtain ⟨_, rfl⟩ := hj
      exact ⟨k, i, sh0, xs0, rfl, e3, e4⟩
  have ne0 : ∀ q, ¬ Γ.has q → Γ.H0 q ≠ none → H q ≠ none ∧ ¬ (Gr.mk Γ.K (ioB io (vs ++ dvs)) S H).has q := by
    intro q b e
    refine ⟨fun z => ?_, fun z => ?_⟩
    · cases h : Γ.H0 q with
      | none => exact e h
      | some o => obtain ⟨u, e1, _⟩ := st.old.ex q o b h; rw [e1] at z; cases z
    · obtain ⟨_, i, sh0, xs0, _, q1, q2⟩ := hasp q z
      obtain ⟨p, _, z1, _, _, _, z2, _⟩ := st.so i sh0 xs0 q1
      rw [q2] at z1
      have : q = p := by injection z1 with z1; injection z1 with z1; injection z1
      subst this
      rcases z2 with z2 | z2
      · exact b z2
      · exact e z2
  have len' : ρ'.length = ρ.length := by
    rcases lent with ⟨_, e⟩ | ⟨_, _, _, _, _, _, _, _, e, _⟩
    · rw [e]
    · rw [e, List.length_set]
  have owb : ∀ (j : Nat) sh xs, ρ'[j]? = some (.ow sh xs) → ∃ sh xs, ρ[j]? = some (.ow sh xs) := by
    intro j sh xs e
    rcases lent with ⟨_, e'⟩ | ⟨_, i, _, _, _, sh0, xs0, _, e', e3, _⟩
    · rw [e'] at e; exact ⟨_, _, e⟩
    · by_cases hj : i = j
      · subst hj; exact ⟨_, _, e3⟩
      · rw [e', List.getElem?_set_ne hj] at e; exact ⟨_, _, e⟩
  have stx : StOk Γ S' H' σ ρ' := by
    refine ⟨⟨fun q o b e => ?_, st'.old.tb, st'.old.nt⟩, st.st.trans st'.st, fun q b e => ?_, st'.le, fun q b => ?_, fun q b => ?_, by rw [len']; exact st.len, fun j d e => ?_, fun j sh xs e => ?_, fun i j p sh xs sh' xs' e1 e2 => ?_, fun i q sh xs h e => ?_, fun i q sh xs e => ?_⟩
    · obtain ⟨u, e1, k1⟩ := st.old.ex q o b e
      obtain ⟨u2, e2, k2⟩ := st'.old.ex q u (ne0 q b (by rw [e]; simp)).2 e1
      exact ⟨u2, e2, k1.trans k2⟩
    · obtain ⟨a, c⟩ := ne0 q b e
      exact (st'.nw q c a).trans (st.nw q b e)
    · by_cases c : (Gr.mk Γ.K (ioB io (vs ++ dvs)) S H).has q
      · exact st'.bb q c
      · exact (st'.nw q c (st.al q b)).trans (st.bb q b)
    · by_cases c : (Gr.mk Γ.K (ioB io (vs ++ dvs)) S H).has q
      · exact st'.al q c
      · cases h : H q with
        | none => exact absurd h (st.al q b)
        | some o => obtain ⟨u, e1, _⟩ := st'.old.ex q o c h; rw [e1]; simp
    · have e' : ρ[j]? = some (.st d) := by
        rcases lent with ⟨_, e'⟩ | ⟨_, i, _, _, _, sh0, xs0, _, e', e3, _⟩
        · rw [e'] at e; exact e
        · by_cases hj : i = j
          · subst hj
            rw [e', List.getElem?_set_self (List.getElem?_eq_some_iff.mp e3).1] at e
            cases e
          · rw [e', List.getElem?_set_ne hj] at e; exact e
      obtain ⟨v, a, b⟩ := st.sd j d e'
      exact ⟨v, a, b.mono st'.st⟩
    · have key : (∃ k i p sh0 xs0, io = some k ∧ j = i ∧ ρ[i]? = some (.ow sh0 xs0) ∧ σ[i]? = some (some (.ref p)) ∧ (vs ++ dvs)[k]? = some (.ref p) ∧ outs[k]? = some (.ow sh xs)) ∨ (ρ[j]? = some (.ow sh xs) ∧ ∀ q, (Gr.mk Γ.K (ioB io (vs ++ dvs)) S H).has q → σ[j]? ≠ some (some (.ref q))) := by
        rcases lent with ⟨e0, e'⟩ | ⟨k, i, p, sh1, xs1, sh0, xs0, e1, e', e3, e4, e5, e6⟩
        · rw [e'] at e
          refine .inr ⟨e, fun q hq => ?_⟩
          obtain ⟨k, _, _, _, z, _⟩ := hasp q hq
          rw [e0] at z; cases z
        · by_cases hj : i = j
          · subst hj
            rw [e', List.getElem?_set_self (List.getElem?_eq_some_iff.mp e3).1] at e
            cases e
            exact .inl ⟨k, i, p, sh0, xs0, e1, rfl, e3, e4, e5, e6⟩
          · rw [e', List.getElem?_set_ne hj] at e
            refine .inr ⟨e, fun q hq z => ?_⟩
            have hp : q = p := by
              obtain ⟨m, hm⟩ := hq
              subst e1
              have hm : (m, q) ∈ (match (vs ++ dvs)[k]? with | some (.ref p) => [(k, p)] | _ => []) := hm
              rw [e5] at hm
              simp at hm
              exact hm.2
            subst hp
            exact hj (st.ne i j q _ _ _ _ e3 e e4 z)
      rcases key with ⟨k, i, p, sh0, xs0, _, rfl, e3, e4, e5, e6⟩ | ⟨e', nn⟩
      · obtain ⟨p', vs', z1, z2, z3, z4, z5, z6⟩ := st'.so k sh xs e6
        rw [List.getElem?_map, e5] at z1
        have : p = p' := by injection z1 with z1; injection z1 with z1; injection z1
        subst this
        obtain ⟨p2, _, y1, _, _, _, y5, _⟩ := st.so j sh0 xs0 e3
        rw [e4] at y1
        have : p = p2 := by injection y1 with y1; injection y1 with y1; injection y1
        subst this
        exact ⟨p, vs', e4, z2, z3, z4, y5, z6⟩
      · obtain ⟨p, vs', z1, z2, z3, z4, z5, z6⟩ := st.so j sh xs e'
        have c : ¬ (Gr.mk Γ.K (ioB io (vs ++ dvs)) S H).has p := fun h => nn p h z1
        exact ⟨p, vs', z1, (st'.nw p c (by show H p ≠ none; rw [z3]; simp)).trans z2, (by obtain ⟨u, y1, y2⟩ := st'.old.ex p _ c z3; rw [y1, y2.eq hoOf_tbl]), z4.mono st'.st, z5, z6⟩
    · obtain ⟨_, _, a⟩ := owb i _ _ e1
      obtain ⟨_, _, b⟩ := owb j _ _ e2
      exact st.ne i j p _ _ _ _ a b
    · obtain ⟨_, _, a⟩ := owb i _ _ e
      exact st.io i q _ _ h a
    · obtain ⟨_, _, a⟩ := owb i _ _ e
      exact st.io1 i q _ _ a
  refine ⟨stx, ?_⟩
  cases r with
  | d d => exact hv
  | vw i => exact absurd rfl (hnv i)
  | ow sh xs =>
    obtain ⟨p, vs', e1, e2, e3, e4, e5, e6, e7, e8⟩ := hv
    have e6 : H p = none := e6
    obtain ⟨_, f1, f2⟩ := st.none_of e6
    refine ⟨p, vs', e1, e2, e3, e4, f1, f2, e7, fun j sh' xs' h z => ?_⟩
    obtain ⟨_, _, a⟩ := owb j _ _ h
    obtain ⟨q, _, y1, _, y3, _⟩ := st.so j _ _ a
    rw [z] at y1
    have : p = q := by injection y1 with y1; injection y1 with y1; injection y1
    subst this
    rw [e6] at y3; cases y3
end
/-- a call -/
def noVw : R → Bool
  | .vw _ => false
  | _ => true
/-- the call's answer: no slot's list -/
def callM (c : Cal) (ma : M (List R)) : M R := fun ρ => (ma ρ).bind fun x => (slsOf c.io x.2 0 x.1).bind fun as => (c.fn (as ++ c.ds.map Sl.st)).bind fun y => if noVw y.1 = true then (backS c.io x.1 y.2 x.2).bind fun ρ' => .ok (y.1, ρ') else .stuck
theorem tR_call {K : PySem.W.Frag} {io : Option Nat} {H : Hp} {σ : L2.St} {Q : VK} {c : Cal} {ma : M (List R)} {dvs : List V} (hn : ∀ ρ x, ma ρ = .ok x → x.1.length + dvs.length = c.n) (hd : atomsV c.ds = some dvs) (h : tR K io (callM c ma) σ H Q) : tCall (spF K c.io c.n c.fn) dvs E0 (tAr K io ma) σ H Q := by
  obtain ⟨Γ, rfl, hL, S, ρ, st, q⟩ := h
  obtain ⟨x, e1, q⟩ := goR_bind q
  obtain ⟨as, e2, q⟩ := goR_bind q
  obtain ⟨y, e3, q⟩ := goR_bind q
  refine ⟨Γ, rfl, hL, S, ρ, st, ?_⟩
  have hnx := hn ρ x e1
  rw [e1]
  obtain ⟨rs, ρ2⟩ := x
  intro vs S2 H2 x2 st2 r2
  have q := goR_of q x2
  refine ⟨S2, as ++ c.ds.map Sl.st, ?_, st2.into r2 e2 hd, ?_⟩
  · rw [List.length_append, (repRs_get r2).1]; exact hnx
  · rw [e3]
    obtain ⟨r, outs⟩ := y
    intro v S' H' st' hv
    split at q
    · rename_i hnv
      obtain ⟨ρ', e4, q⟩ := goR_bind q
      obtain ⟨a, b⟩ := st2.back r2 e2 st' hv e4 (fun i z => by rw [show r = .vw i from z] at hnv; cases hnv)
      exact q v S' H' st'.st a b
    · exact q.elim
end Tp
set_option Elab.async false
set_option linter.all false
set_option maxRecDepth 100000
set_option maxHeartbeats 4000000
namespace Tp
open PySem PySem.Spec PyProof.Rows L2
open Evl (Ex)

section
variable {Γ : Gr} {S H S' H' : Hp} {σ : L2.St} {ρ ρ' : List Sl} {r : R} {v : V} {io : Option Nat}
theorem set_get {α : Type} {l : List α} {i j : Nat} {a b : α} (h : (l.set i a)[j]? = some b) : (i = j ∧ j < l.length ∧ a = b) ∨ (i ≠ j ∧ l[j]? = some b) := by
  by_cases e : i = j
  · subst e
    by_cases hi : i < l.length
    · rw [List.getElem?_set_self hi] at h; injection h with h; exact .inl ⟨rfl, hi, h⟩
    · rw [List.getElem?_eq_none (by simpa using hi)] at h; cases h
  · rw [List.getElem?_set_ne e] at h; exact .inr ⟨e, h⟩
/-- a slot forgotten -/
theorem StOk.drop (st : StOk Γ S H σ ρ) (i : Nat) : StOk Γ S H σ (ρ.set i .un) := by
  refine ⟨st.old, st.st, st.nw, st.le, st.bb, st.al, by rw [List.length_set]; exact st.len, fun j d e => ?_, fun j sh xs e => ?_, fun j k p sh xs sh' xs' e1 e2 => ?_, fun j q sh xs h e => ?_, fun j q sh xs e => ?_⟩
  · rcases set_get e with ⟨_, _, z⟩ | ⟨_, e⟩
    · cases z
    · exact st.sd j d e
  · rcases set_get e with ⟨_, _, z⟩ | ⟨_, e⟩
    · cases z
    · exact st.so j sh xs e
  · rcases set_get e1 with ⟨_, _, z⟩ | ⟨_, e1⟩
    · cases z
    · rcases set_get e2 with ⟨_, _, z⟩ | ⟨_, e2⟩
      · cases z
      · exact st.ne j k p _ _ _ _ e1 e2
  · rcases set_get e with ⟨_, _, z⟩ | ⟨_, e⟩
    · cases z
    · exact st.io j q _ _ h e
  · rcases set_get e with ⟨_, _, z⟩ | ⟨_, e⟩
    · cases z
    · exact st.io1 j q _ _ e
/-- a forgotten slot may hold anything -/
theorem StOk.reslot (st : StOk Γ S H σ ρ) {σ' : L2.St} (hl : σ'.length = σ.length) (h : ∀ (j : Nat) (s : Sl), ρ[j]? = some s → s ≠ Sl.un → σ'[j]? = σ[j]?) : StOk Γ S H σ' ρ := by
  refine ⟨st.old, st.st, st.nw, st.le, st.bb, st.al, by rw [hl]; exact st.len, fun j d e => ?_, fun j sh xs e => ?_, fun j k p sh xs sh' xs' e1 e2 => ?_, fun j q sh xs hh e => ?_, fun j q sh xs e => ?_⟩
  · rw [h j _ e (by simp)]; exact st.sd j d e
  · rw [h j _ e (by simp)]; exact st.so j sh xs e
  · rw [h j _ e1 (by simp), h k _ e2 (by simp)]; exact st.ne j k p _ _ _ _ e1 e2
  · rw [h j _ e (by simp)]; exact st.io j q _ _ hh e
  · rw [h j _ e (by simp)]; exact st.io1 j q _ _ e
/-- x = a value -/
theorem StOk.setD (st : StOk Γ S H σ ρ) {d : D} (hv : Rep Γ.K S d v) (i : Nat) (hi : i < ρ.length) : StOk Γ S H (σ.set i (some v)) (ρ.set i (.st d)) := by
  have hj : ∀ {j : Nat}, i ≠ j → (σ.set i (some v))[j]? = σ[j]? := fun h => List.getElem?_set_ne h
  refine ⟨st.old, st.st, st.nw, st.le, st.bb, st.al, by rw [List.length_set, List.length_set]; exact st.len, fun j d e => ?_, fun j sh xs e => ?_, fun j k p sh xs sh' xs' e1 e2 => ?_, fun j q sh xs h e => ?_, fun j q sh xs e => ?_⟩
  · rcases set_get e with ⟨z1, z2, z⟩ | ⟨z, e⟩
    · subst z1; cases z
      exact ⟨v, List.getElem?_set_self (by rw [← st.len]; exact hi), hv⟩
    · rw [hj z]; exact st.sd j d e
  · rcases set_get e with ⟨_, _, z⟩ | ⟨z, e⟩
    · cases z
    · rw [hj z]; exact st.so j sh xs e
  · rcases set_get e1 with ⟨_, _, z⟩ | ⟨z1, e1⟩
    · cases z
    · rcases set_get e2 with ⟨_, _, z⟩ | ⟨z2, e2⟩
      · cases z
      · rw [hj z1, hj z2]; exact st.ne j k p _ _ _ _ e1 e2
  · rcases set_get e with ⟨_, _, z⟩ | ⟨z, e⟩
    · cases z
    · rw [hj z]; exact st.io j q _ _ h e
  · rcases set_get e with ⟨_, _, z⟩ | ⟨z, e⟩
    · cases z
    · rw [hj z]; exact st.io1 j q _ _ e
/-- x = a list of one's own -/
theorem StOk.setO (st : StOk Γ S H σ ρ) {sh : Sh} {xs : List D} (hv : RepR Γ S H σ ρ (.ow sh xs) v) (i : Nat) (hi : i < ρ.length) (hL : Lent Γ io) (hio : io ≠ some i) : StOk Γ S H (σ.set i (some v)) (ρ.set i (.ow sh xs)) := by
  obtain ⟨p, vs, rfl, p1, p2, p3, p4, p5, p6, p7⟩ := hv
  have hj : ∀ {j : Nat}, i ≠ j → (σ.set i (some (V.ref p)))[j]? = σ[j]? := fun h => List.getElem?_set_ne h
  have hii : (σ.set i (some (V.ref p)))[i]? = some (some (.ref p)) := List.getElem?_set_self (by rw [← st.len]; exact hi)
  refine ⟨st.old, st.st, st.nw, st.le, st.bb, st.al, by rw [List.length_set, List.length_set]; exact st.len, fun j d e => ?_, fun j sh xs e => ?_, fun j k p sh xs sh' xs' e1 e2 h1 h2 => ?_, fun j q sh xs h e => ?_, fun j q sh xs e h1 h2 => ?_⟩
  · rcases set_get e with ⟨_, _, z⟩ | ⟨z, e⟩
    · cases z
    · rw [hj z]; exact st.sd j d e
  · rcases set_get e with ⟨z1, _, z⟩ | ⟨z, e⟩
    · subst z1; cases z
      exact ⟨p, vs, hii, p1, p2, p3, .inr p5, p6⟩
    · rw [hj z]; exact st.so j sh xs e
  · rcases set_get e1 with ⟨z1, _, _⟩ | ⟨z1, e1⟩
    · rcases set_get e2 with ⟨z2, _, _⟩ | ⟨z2, e2⟩
      · omega
      · rw [hj z2] at h2
        subst z1
        rw [hii] at h1
        injection h1 with h1; injection h1 with h1; injection h1 with h1
        subst h1
        exact absurd h2 (p7 k _ _ e2)
    · rcases set_get e2 with ⟨z2, _, _⟩ | ⟨z2, e2⟩
      · rw [hj z1] at h1
        subst z2
        rw [hii] at h2
        injection h2 with h2; injection h2 with h2; injection h2 with h2
        subst h2
        exact absurd h1 (p7 j _ _ e1)
      · rw [hj z1] at h1; rw [hj z2] at h2; exact st.ne j k _ _ _ _ _ e1 e2 h1 h2
  · rcases set_get e with ⟨z1, _, _⟩ | ⟨z, e⟩
    · subst z1; exact absurd (hL _ _ h) hio
    · rw [hj z]; exact st.io j q _ _ h e
  · rcases set_get e with ⟨z1, _, _⟩ | ⟨z, e⟩
    · subst z1
      rw [hii] at h1
      injection h1 with h1; injection h1 with h1; injection h1 with h1
      subst h1
      exact absurd h2 p4
    · rw [hj z] at h1; exact st.io1 j q _ _ e h1 h2
/-- one's own list, changed -/
theorem StOk.change (st : StOk Γ S H σ ρ) {i : Nat} {p : Addr} {sh sh' : Sh} {xs xs' : List D} {vs' : List V} (e : ρ[i]? = some (.ow sh xs)) (hp : σ[i]? = some (some (.ref p))) (hr : Reps Γ.K S xs' vs') (hs : sh' ≠ .tup) :
    StOk Γ S (upd H p (hoOf sh' vs')) σ (ρ.set i (.ow sh' xs')) := by
  obtain ⟨q, vs, q1, q2, q3, q4, q5, q6⟩ := st.so i sh xs e
  rw [hp] at q1
  injection q1 with q1; injection q1 with q1; injection q1 with q1
  subst q1
  have hi := (List.getElem?_eq_some_iff.mp e).1
  have old : ∀ (j : Nat) s' t, (ρ.set i (.ow sh' xs'))[j]? = some (.ow s' t) → ∃ s' t, ρ[j]? = some (.ow s' t) := fun j s' t h => by
    rcases set_get h with ⟨z, _, _⟩ | ⟨_, h⟩
    · subst z; exact ⟨_, _, e⟩
    · exact ⟨_, _, h⟩
  refine ⟨⟨fun q o b k => ?_, tabs_chg st.old.tb q3 hoOf_tbl hoOf_frz, st.old.nt⟩, st.st, st.nw, fun q o k => ?_, st.bb, fun q b => ?_, by rw [List.length_set]; exact st.len, fun j d k => ?_, fun j s' t k => ?_, fun j k p sh xs sh' xs' e1 e2 h1 h2 => ?_, fun j q s' t h k => ?_, fun j q s' t k h1 h2 => ?_⟩
  · have : q ≠ p := fun z => by
      subst z
      rcases q5 with q5 | q5
      · exact b q5
      · rw [q5] at k; cases k
    obtain ⟨u, e1, k1⟩ := st.old.ex q o b k
    exact ⟨u, by rw [upd_ne this]; exact e1, k1⟩
  · have : q ≠ p := fun z => by subst z; rw [q2] at k; cases k
    rw [upd_ne this]; exact st.le q o k
  · by_cases z : q = p
    · subst z; rw [upd_same]; simp
    · rw [upd_ne z]; exact st.al q b
  · rcases set_get k with ⟨_, _, z⟩ | ⟨_, k⟩
    · cases z
    · exact st.sd j d k
  · rcases set_get k with ⟨z, _, w⟩ | ⟨z, k⟩
    · subst z; cases w
      exact ⟨p, vs', hp, q2, upd_same, hr, q5, hs⟩
    · obtain ⟨a, ws, a1, a2, a3, a4, a5, a6⟩ := st.so j s' t k
      have : a ≠ p := fun y => by subst y; exact z (st.ne i j a _ _ _ _ e k hp a1)
      exact ⟨a, ws, a1, a2, by rw [upd_ne this]; exact a3, a4, a5, a6⟩
  · obtain ⟨_, _, e1⟩ := old j _ _ e1
    obtain ⟨_, _, e2⟩ := old k _ _ e2
    exact st.ne j k _ _ _ _ _ e1 e2 h1 h2
  · obtain ⟨_, _, k⟩ := old j _ _ k
    exact st.io j q _ _ h k
  · obtain ⟨_, _, k⟩ := old j _ _ k
    exact st.io1 j q _ _ k h1 h2
/-- one's own list, given away: no slot's any more -/
theorem StOk.give (st : StOk Γ S H σ ρ) {i : Nat} {sh : Sh} {xs : List D} (e : ρ[i]? = some (.ow sh xs)) (hv : σ[i]? = some (some v)) (hL : Lent Γ io) (hio : io ≠ some i) : RepR Γ S H σ (ρ.set i .un) (.ow sh xs) v := by
  obtain ⟨q, vs, q1, q2, q3, q4, q5, q6⟩ := st.so i sh xs e
  rw [hv] at q1
  injection q1 with q1; injection q1 with q1
  subst q1
  have nh : ¬ Γ.has q := fun h => hio (hL _ _ (st.io1 i q _ _ e hv h))
  refine ⟨q, vs, rfl, q2, q3, q4, nh, q5.resolve_left nh, q6, fun j sh' xs' k z => ?_⟩
  rcases set_get k with ⟨_, _, w⟩ | ⟨w, k⟩
  · cases w
  · exact w (st.ne i j q _ _ _ _ e k hv z)
/-- one's own list, from now on as it is -/
theorem StOk.freeze (st : StOk Γ S H σ ρ) {i : Nat} {sh : Sh} {xs : List D} (e : ρ[i]? = some (.ow sh xs)) (hv : σ[i]? = some (some v)) (hL : Lent Γ io) (hio : io ≠ some i) :
    ∃ S', Ex S S' ∧ StOk Γ S' H σ (ρ.set i (.st (.ob sh xs))) ∧ Rep Γ.K S' (.ob sh xs) v := by
  obtain ⟨S', x, st', rv⟩ := (st.drop i).demote (st.give e hv hL hio)
  refine ⟨S', x, ?_, rv⟩
  have hi := (List.getElem?_eq_some_iff.mp e).1
  have := st'.setD rv i (by rw [List.length_set]; exact hi)
  rw [List.set_set] at this
  have e2 : σ.set i (some v) = σ := by
    apply List.ext_getElem?
    intro j
    by_cases hj : i = j
    · subst hj; rw [List.getElem?_set_self (by rw [← st.len]; exact hi), hv]
    · rw [List.getElem?_set_ne hj]
  rw [e2] at this
  exact this
end
/-! ### targets -/
abbrev GM := R → List Sl → Out (List Sl)
def goT (Γ : Gr) (S : Hp) (σ : L2.St) (ws : List Nat) (Q : L2.St → Hp → Prop) : Out (List Sl) → Prop
  | .ok ρ' => ∀ S' H' σ', Ex S S' → StOk Γ S' H' σ' ρ' → σ'.length = σ.length → (∀ j, j ∉ ws → σ'[j]? = σ[j]?) → Q σ' H'
  | _ => False
def tTg (K : PySem.W.Frag) (io : Option Nat) (ws : List Nat) (g : GM) : TG := fun v σ H Q => ∃ Γ : Gr, Γ.K = K ∧ Lent Γ io ∧ ∃ S ρ r, StOk Γ S H σ ρ ∧ RepR Γ S H σ ρ r v ∧ goT Γ S σ ws Q (g r ρ)
theorem goT_bind {Γ : Gr} {S : Hp} {σ : L2.St} {ws : List Nat} {Q : L2.St → Hp → Prop} {α : Type} {o : Out α} {f : α → Out (List Sl)} (h : goT Γ S σ ws Q (o.bind f)) : ∃ a, o = .ok a ∧ goT Γ S σ ws Q (f a) :=
  bind_ok (P := goT Γ S σ ws Q) h (fun _ _ z => z) id
def gNm (io : Option Nat) (i : Nat) : GM
  | .d x, ρ => if i < ρ.length then .ok (ρ.set i (.st x)) else .stuck
  | .ow sh xs, ρ => if i < ρ.length ∧ io ≠ some i then .ok (ρ.set i (.ow sh xs)) else .stuck
  | .vw _, _ => .stuck
/-- a name that is not to own: a new list is as it is from now on -/
def gNs (i : Nat) : GM
  | .d x, ρ => if i < ρ.length then .ok (ρ.set i (.st x)) else .stuck
  | .ow sh xs, ρ => if i < ρ.length then .ok (ρ.set i (.st (.ob sh xs))) else .stuck
  | .vw _, _ => .stuck
theorem set_out {σ : L2.St} {i : Nat} {v : V} : ∀ j, j ∉ [i] → (σ.set i (some v))[j]? = σ[j]? := fun j h => List.getElem?_set_ne (by simp at h; omega)
theorem tG_nm {K : PySem.W.Frag} {io : Option Nat} {i : Nat} {v : V} {σ : L2.St} {H : Hp} {Q : L2.St → Hp → Prop} (h : tTg K io [i] (gNm io i) v σ H Q) : gName i v σ H Q := by
  obtain ⟨Γ, rfl, hL, S, ρ, r, st, rv, q⟩ := h
  cases r with
  | vw j => exact q.elim
  | d d =>
    have q : goT Γ S σ [i] Q (if i < ρ.length then .ok (ρ.set i (.st d)) else .stuck) := q
    split at q
    · rename_i hi
      exact q S H _ (Ex.refl S) (st.setD rv i hi) (by simp) set_out
    · exact q.elim
  | ow sh xs =>
    have q : goT Γ S σ [i] Q (if i < ρ.length ∧ io ≠ some i then .ok (ρ.set i (.ow sh xs)) else .stuck) := q
    split at q
    · rename_i hi
      exact q S H _ (Ex.refl S) (st.setO rv i hi.1 hL hi.2) (by simp) set_out
    · exact q.elim
theorem tG_ns {K : PySem.W.Frag} {io : Option Nat} {i : Nat} {v : V} {σ : L2.St} {H : Hp} {Q : L2.St → Hp → Prop} (h : tTg K io [i] (gNs i) v σ H Q) : gName i v σ H Q := by
  obtain ⟨Γ, rfl, hL, S, ρ, r, st, rv, q⟩ := h
  cases r with
  | vw j => exact q.elim
  | d d =>
    have q : goT Γ S σ [i] Q (if i < ρ.length then .ok (ρ.set i (.st d)) else .stuck) := q
    split at q
    · rename_i hi
      exact q S H _ (Ex.refl S) (st.setD rv i hi) (by simp) set_out
    · exact q.elim
  | ow sh xs =>
    have q : goT Γ S σ [i] Q (if i < ρ.length then .ok (ρ.set i (.st (.ob sh xs))) else .stuck) := q
    split at q
    · rename_i hi
      obtain ⟨S', x, st', rv'⟩ := st.demote rv
      exact q S' H _ x (st'.setD rv' i hi) (by simp) set_out
    · exact q.elim
/-- a slot's name, read -/
def varM (i : Nat) : M R := fun ρ => match ρ[i]? with
  | some (.st d) => .ok (.d d, ρ)
  | some (.ow _ _) => .ok (.vw i, ρ)
  | _ => .stuck
theorem tR_var {K : PySem.W.Frag} {io : Option Nat} {i : Nat} {σ : L2.St} {H : Hp} {Q : VK} (h : tR K io (varM i) σ H Q) : tVar i σ H Q := by
  obtain ⟨Γ, rfl, hL, S, ρ, st, q⟩ := h
  unfold varM at q
  split at q
  · rename_i d e
    obtain ⟨v, e1, e2⟩ := st.sd i d e
    exact ⟨v, e1, q v S H (Ex.refl S) st e2⟩
  · rename_i sh xs e
    obtain ⟨p, vs, e1, _⟩ := st.so i sh xs e
    exact ⟨_, e1, q _ S H (Ex.refl S) st e1⟩
  · exact q.elim
/-- x[k] = v -/
def gSubM (i : Nat) (mk : M R) : GM
  | .d x, ρ => match ρ[i]? with
    | some (.ow _ _) => (mk ρ).bind fun y => (y.1.hand.val y.2).bind fun k => match y.2[i]?, k with
      | some (.ow .lst xs), .int n => (ofO (ixN xs.length n)).bind fun j => .ok (y.2.set i (.ow .lst (xs.set j x)))
      | _, _ => .stuck
    | _ => .stuck
  | _, _ => .stuck
theorem tG_sub {K : PySem.W.Frag} {io : Option Nat} {i : Nat} {mk : M R} {v : V} {σ : L2.St} {H : Hp} {Q : L2.St → Hp → Prop} (h : tTg K io [] (gSubM i mk) v σ H Q) : gSub (tR K io (varM i)) (tR K io mk) rSetL v σ H Q := by
  obtain ⟨Γ, rfl, hL, S, ρ, r, st, rv, q⟩ := h
  cases r with
  | vw j => exact q.elim
  | ow sh xs => exact q.elim
  | d x =>
    simp only [gSubM] at q
    split at q
    · rename_i sh xs e
      obtain ⟨y, e1, q⟩ := goT_bind q
      obtain ⟨k, e2, q⟩ := goT_bind q
      split at q
      · rename_i ys n e3
        obtain ⟨j, e4, q⟩ := goT_bind q
        obtain ⟨p, vs, e5, _⟩ := st.so i sh xs e
        refine ⟨Γ, rfl, hL, S, ρ, st, ?_⟩
        unfold varM
        rw [e]
        intro o S1 H1 x1 st1 ro
        have ro : σ[i]? = some (some o) := ro
        rw [e5] at ro
        injection ro with ro; injection ro with ro
        subst ro
        refine tR_first hL st1 e1 fun u S2 H2 x2 st2 r2 => ?_
        obtain ⟨p', vs', z1, z2, z3, z4, z5, z6⟩ := st2.so i .lst ys e3
        have hp := z1
        rw [e5] at z1
        injection z1 with z1; injection z1 with z1; injection z1 with z1
        subst z1
        have hk := repW_int (RepR.w st2 r2 e2)
        refine ⟨p, vs', n, j, rfl, hk, z3, by rw [z4.length]; exact ofO_ok e4, ?_⟩
        exact q S2 _ σ (x1.trans x2) (st2.change (sh' := .lst) e3 hp (z4.set j ((Rep.mono (x1.trans x2) rv))) (by decide)) rfl (fun _ _ => rfl)
      · exact q.elim
    · exact q.elim
/-- (a, b, ..) = a tuple -/
def gsM : List GM → List D → List Sl → Out (List Sl)
  | [], [], ρ => .ok ρ
  | g :: gs, d :: ds, ρ => (g (.d d) ρ).bind fun ρ' => gsM gs ds ρ'
  | _, _, _ => .stuck
def gTupM (gs : List GM) : GM
  | .d (.ob .tup ds), ρ => gsM gs ds ρ
  | _, _ => .stuck
def tTgs (K : PySem.W.Frag) (io : Option Nat) (ws : List Nat) (gs : List GM) : TGs := fun vs σ H Q => ∃ Γ : Gr, Γ.K = K ∧ Lent Γ io ∧ ∃ S ρ ds, StOk Γ S H σ ρ ∧ Reps Γ.K S ds vs ∧ goT Γ S σ ws Q (gsM gs ds ρ)
theorem tGs_nil {K : PySem.W.Frag} {io : Option Nat} {ws : List Nat} {vs : List V} {σ : L2.St} {H : Hp} {Q : L2.St → Hp → Prop} (h : tTgs K io ws [] vs σ H Q) : gNil vs σ H Q := by
  obtain ⟨Γ, rfl, hL, S, ρ, ds, st, rv, q⟩ := h
  cases ds with
  | nil => exact ⟨Reps.nil_iff.mp rv, q S H σ (Ex.refl S) st rfl (fun _ _ => rfl)⟩
  | cons d ds => exact q.elim
theorem tGs_cons {K : PySem.W.Frag} {io : Option Nat} {w1 w2 : List Nat} {g : GM} {gs : List GM} {vs : List V} {σ : L2.St} {H : Hp} {Q : L2.St → Hp → Prop} (h : tTgs K io (w1 ++ w2) (g :: gs) vs σ H Q) : gCons (tTg K io w1 g) (tTgs K io w2 gs) vs σ H Q := by
  obtain ⟨Γ, rfl, hL, S, ρ, ds, st, rv, q⟩ := h
  cases ds with
  | nil => exact q.elim
  | cons d ds =>
    obtain ⟨v, us, rfl, r1, r2⟩ := rv.inv
    have q : goT Γ S σ (w1 ++ w2) Q ((g (.d d) ρ).bind fun ρ' => gsM gs ds ρ') := q
    obtain ⟨ρ1, e1, q⟩ := goT_bind q
    refine ⟨v, us, rfl, Γ, rfl, hL, S, ρ, .d d, st, r1, ?_⟩
    rw [e1]
    intro S1 H1 σ1 x1 st1 l1 k1
    refine ⟨Γ, rfl, hL, S1, ρ1, ds, st1, r2.mono x1, ?_⟩
    revert q
    cases gsM gs ds ρ1 with
    | ok ρ2 =>
      intro q S2 H2 σ2 x2 st2 l2 k2
      refine q S2 H2 σ2 (x1.trans x2) st2 (l2.trans l1) fun j hj => ?_
      rw [List.mem_append, not_or] at hj
      rw [k2 j hj.2, k1 j hj.1]
    | err c p => exact id
    | stuck => exact id
theorem gsM_len : ∀ {gs : List GM} {ds : List D} {ρ ρ' : List Sl}, gsM gs ds ρ = .ok ρ' → ds.length = gs.length
  | [], [], _, _, _ => rfl
  | [], _ :: _, _, _, h => by cases h
  | _ :: _, [], _, _, h => by cases h
  | g :: gs, d :: ds, ρ, ρ', h => by
    obtain ⟨ρ1, e1, q⟩ := ob_bind h
    rw [List.length_cons, List.length_cons, gsM_len q]
theorem tG_tup {K : PySem.W.Frag} {io : Option Nat} {ws : List Nat} {gs : List GM} {v : V} {σ : L2.St} {H : Hp} {Q : L2.St → Hp → Prop} (h : tTg K io ws (gTupM gs) v σ H Q) : gTup K gs.length (tTgs K io ws gs) v σ H Q := by
  obtain ⟨Γ, rfl, hL, S, ρ, r, st, rv, q⟩ := h
  unfold gTupM at q
  split at q
  · rename_i ds
    have rv : Rep Γ.K S (.ob .tup ds) v := rv
    unfold Rep at rv
    obtain ⟨p, vs, rfl, e2, e3⟩ := rv
    refine ⟨p, vs, rfl, Sq.mono (sh := .tup) st.le e2, ?_, Γ, rfl, hL, S, ρ, ds, st, e3, q⟩
    rw [e3.length]
    revert q
    cases e : gsM gs ds ρ with
    | ok ρ' => intro _; exact gsM_len e
    | err c p => exact fun z => z.elim
    | stuck => exact fun z => z.elim
  · exact q.elim
end Tp
set_option Elab.async false
set_option linter.all false
set_option maxRecDepth 100000
set_option maxHeartbeats 4000000
namespace Tp
open PySem PySem.Spec PyProof.Rows L2
open Sem (wp)
/-! ### enumerate of a tuple -/
def tupIt (t : Addr) : Obj := { cls := .type "tuple_iterator", data := .fields #[.ref t, .int 0 0] }
def enumOn (i : Addr) : Obj := { cls := .type "enumerate", data := .fields #[.none, .bool false, .ref i, rawInt 0, .none, .none] }
theorem made_enumT (t : Addr) (ts : Array Value) :
    Meets (Builtin.«enumerate.__new__» ⟨[.type "enumerate", .ref t], []⟩) (fun _ R s' => s'.heap.IsTuple t ts ∧ R (.ok (.ret (.ref (s'.heap.push (tupIt t)).objs.size))) { s' with heap := (s'.heap.push (tupIt t)).push (enumOn s'.heap.objs.size) }) :=
  .of_wp fun P w A' R' s' hh => by
    obtain ⟨hp, gs, dr, tk, os⟩ := s'
    obtain ⟨ht, hR⟩ := hh
    have hs2 := sub_enumerate
    have st : ∀ {A2 : Around} {E2 : Value → Shared → Prop} {Q2 : Value → Shared → Prop}, Q2 (.ref hp.objs.size) ⟨hp.push (tupIt t), gs, dr, tk, os⟩ → wpAny (model P w) A2 (pyIter (.ref t)) Q2 E2 ⟨hp, gs, dr, tk, os⟩ := fun q => wpAny_pyIter_tuple (s := ⟨hp, gs, dr, tk, os⟩) ht q
    wp_walk using st
    refine wpAny_stack_any fun st' => wpAny_pure ?_
    split
    · rename_i cc _ _ _ _ _
      cases (cc == Value.type "enumerate")
      · wp_walk using st
        exact ⟨_, rfl, hR⟩
      · wp_walk using st
        exact ⟨_, rfl, hR⟩
    · wp_walk using st
      exact ⟨_, rfl, hR⟩
theorem call_enumT {P : Program} {w : World} {A : Around} {E : Value → Shared → Prop} {s : Shared} {t : Addr} {ts : Array Value} {Q : Value → Shared → Prop} (ht : s.heap.IsTuple t ts)
    (q : ∀ h2, IsEnum h2 (s.heap.objs.size + 1) s.heap.objs.size 0 .none → h2.IsTupleIter s.heap.objs.size t 0 → (∀ b o, s.heap.get? b = some o → h2.get? b = some o) → Q (.ref (s.heap.objs.size + 1)) { s with heap := h2 }) :
    wpAny (model P w) A (call (.type "enumerate") [.ref t]) Q E s := by
  refine callType_new F.called_enumerate (by decide) (F.typeCall_enumerate_1 _) (F.newCall_enumerate_1 _) (fun ob => F.args_object_init_2 ob _) F.entry_enumerate_new (made_enumT t ts) ⟨ht, ?_⟩
  have sz : (s.heap.push (tupIt t)).objs.size = s.heap.objs.size + 1 := Heap.size_push ..
  show _ ∧ _
  rw [sz]
  have en : IsEnum ((s.heap.push (tupIt t)).push (enumOn s.heap.objs.size)) (s.heap.objs.size + 1) s.heap.objs.size 0 .none := by
    have z := Heap.get?_push_size (s.heap.push (tupIt t)) (o := enumOn s.heap.objs.size) rfl
    rw [sz] at z
    exact z
  exact ⟨⟨_, en, rfl⟩, q _ en ⟨_, Heap.get?_push_of_some _ (Heap.get?_push_size _ rfl), rfl, rfl⟩ fun b o z => Heap.get?_push_of_some _ (Heap.get?_push_of_some _ z)⟩
/-- at its end -/
theorem draws_end {P : Program} {w : World} {A : Around} (hh : A.handled = none) (it t : Addr) (ts : Array Value) (i : Nat) (hx : ts[i]? = none) : Draws P w A it [it, t] i (fun _ _ => True) (fun j h => j = i ∧ h.IsTupleIter it t i ∧ h.IsTuple t ts) where
  live := fun _ _ st => let ⟨o, ho, _⟩ := st.2.1; ⟨o, ho⟩
  frame := fun _ _ _ st hk => ⟨st.1, st.2.1.at fun o e => hk it (by simp) o e, st.2.2.at fun o e => hk t (by simp) o e⟩
  item := fun j s Q E lt st hQ => absurd st.1 (Nat.ne_of_lt lt)
  done := fun s Q E st hE => wpAny_nextOf_tuple_end hh st.2.1 st.2.2 hx hE
/-- the tuple at a, each item in a new pair -/
def IteT (K : PySem.W.Frag) (a : Addr) : It :=
  ⟨fun i H => ∃ (xs : List V) (x : V), SqT K H a xs ∧ xs[i]? = some x, fun i H v H' => ∃ N x, v = .ref N ∧ H N = none ∧ H' = upd H N (.tup [.int (i : Nat), x]) ∧ ∀ xs, SqT K H a xs → xs[i]? = some x, fun i H => ∃ xs : List V, SqT K H a xs ∧ xs.length ≤ i⟩
theorem turn_enumT {P : Program} {w : World} {K : PySem.W.Frag} {elts : List Expr} {kk : Nat} {tpos : Pos} (a e it : Addr) :
    Turn P w K (.Tuple elts kk tpos) (IteT K a) [e, it] e (fun i h => (∃ o, IsEnum h e it ((i : Nat) : Int) o) ∧ h.IsTupleIter it a i ∧ e ≠ it ∧ a ≠ it ∧ e ≠ a) where
  mem := by simp
  obj := fun i h st b hb => by
    obtain ⟨⟨o1, he⟩, ⟨o2, ho, hc, hd⟩, _⟩ := st
    have e3 : b = e ∨ b = it := by simpa using hb
    rcases e3 with z | z
    · rw [z]; exact ⟨_, he, fun v q => nomatch q⟩
    · rw [z]; exact ⟨o2, ho, fun v q => by rw [hd] at q; cases q⟩
  keep := fun i h h' st k => let ⟨⟨o1, he⟩, hi, ne⟩ := st; ⟨⟨o1, k e (by simp) _ he⟩, hi.at fun o q => k it (by simp) o q, ne⟩
  item := by
    intro X hP hw hK hc i pins s σ H E I hf st hg
    subst hP hw hK
    obtain ⟨⟨o1, he⟩, hit, hne, hai, hea⟩ := st
    obtain ⟨xs, x, hq, hx⟩ := hg
    obtain ⟨its, rv, p, hz⟩ := I.tuple hq
    have pt : s.heap.IsTuple a its.toArray := p
    obtain ⟨u, hu, ru⟩ := rv.get hx
    have lt1 : e < s.heap.objs.size := Heap.lt_size he
    have lt2 : it < s.heap.objs.size := by obtain ⟨_, q, _⟩ := hit; exact Heap.lt_size q
    have ix : its.toArray[i]? = some u := by simpa using hu
    have len : i < its.toArray.size := (Array.getElem?_eq_some_iff.mp ix).1
    refine wpAny_pyNext_enum_itemD (Draws.tuple (A := X.A.in1) (I.ok.hd hc) it a hai its.toArray) he ⟨hit, pt⟩ len hne (by simp [hne, hea]) fun y h1 tk hy ho hst hT hsz hk => ?_
    rw [ix] at hy
    cases hy
    refine ⟨_, rfl, wpAny_letOwnedTupleGo_enum (s := { s with heap := h1, toks := tk + 1 }) ho fun h2 he2 sb => ?_⟩
    have hT2 : h2.get? s.heap.objs.size = some { cls := .type "tuple", data := .seq #[.int i tk, u] } := (sb.2 _ (Nat.ne_of_gt lt1)).trans hT
    have fresh : ObjOk X.prog X.w (upd H s.heap.objs.size (.tup [.int (i : Nat), x])) h2 s.heap.objs.size (.tup [.int (i : Nat), x]) :=
      ⟨by show 2 ≤ sizeLine; decide, [.int i tk, u], .cons ⟨_, rfl⟩ (.cons ru .nil), ⟨_, hT2, rfl, _, rfl⟩⟩
    have J : Inv X pins σ (upd H s.heap.objs.size (.tup [.int (i : Nat), x])) { s with heap := h2, toks := tk + 1 } :=
      I.turnedNew (ch := [e, it]) (fun b ob hb q => (sb.2 b (fun z => hb (by simp [z]))).trans (hk b ob (fun z => hb (by simp [z])) (fun z => hb (by simp [z])) q)) hf (Nat.le_refl _) fresh
    refine ⟨.ref s.heap.objs.size, _, J, rfl, ⟨_, x, rfl, I.hok.fresh (Nat.le_refl _), rfl, fun ys hy => by rw [I.tuple_inj hy hq]; exact hx⟩, ⟨⟨u, ?_⟩, hst.1.at fun o q => (sb.2 it (Ne.symm hne)).trans q, hne, hai, hea⟩, fun b hb => ?_⟩
    · have z : ((i + 1 : Nat) : Int) = (i : Int) + 1 := by omega
      rw [z]; exact he2
    · have lb : b < s.heap.objs.size := by
        have z : b = e ∨ b = it := by simpa using hb
        rcases z with z | z
        · rw [z]; exact lt1
        · rw [z]; exact lt2
      rw [upd_ne (Nat.ne_of_lt lb)]
      exact (hf b hb).1
  done := by
    intro X hP hw hK hc i pins s σ H E I hf st hg
    subst hP hw hK
    obtain ⟨⟨o1, he⟩, hit, hne, hai, hea⟩ := st
    obtain ⟨xs, hq, hx⟩ := hg
    obtain ⟨its, rv, p, hz⟩ := I.tuple hq
    obtain ⟨f0, f1, f2, f3, f4, f5⟩ := hf it (by simp)
    have pt : s.heap.IsTuple a its.toArray := p
    have lv := rv.length
    have no : its.toArray[i]? = none := by simp; omega
    exact wpAny_pyNext_enum_endD (draws_end (A := X.A.in1) (I.ok.hd hc) it a its.toArray i no) he ⟨rfl, hit, pt⟩ fun h1 eb => ⟨rfl, I.turned (t' := s.toks) (fun b o hb q => eb b o hb q) f0 f1 f3 f4 f5⟩
  self := fun A i s Q E st h => let ⟨⟨_, he⟩, _⟩ := st; wpAny_pyIter_enum he h
/-- enumerate(a list or a tuple) -/
def iEnum2 (K : PySem.W.Frag) (ta : TA) : TI := fun σ H R => ta σ H fun vs H1 => ∃ a xs, vs = [.ref a] ∧ ((SqL K H1 a xs ∧ R (Ite K a) H1) ∨ (SqT K H1 a xs ∧ R (IteT K a) H1))
theorem pi_enum2 {X : Cx} {e : Expr} {ta : TA} {p pos tpos : Pos} {elts : List Expr} {kk : Nat} (hg : Gl X "enumerate") (hm : X.mg "enumerate" = none) (ha : PA X [e] ta) (hs : starEach [e] X.env = [(false, eval e X.env)] := by rfl) :
    PI X (.Tuple elts kk tpos) (.Call (.Name "enumerate" p) [e] [] pos) (iEnum2 X.K ta) := by
  refine ⟨fun pins s σ H R I h => ?_⟩
  refine Call_ (ld_blt I hg hm boot_enumerate (PyProof.Rows.callWith_type1 (thn (ha.run pos pins s σ H _ I h) fun us s1 ⟨vs, H1, I1, r1, q1⟩ => ?_) hs rfl))
  obtain ⟨a, xs, ex, q⟩ := q1
  subst ex
  cases r1 with
  | cons r rr =>
    cases rr
    cases r
    rcases q with ⟨hq, q⟩ | ⟨hq, q⟩
    · obtain ⟨its, rv, p', hz⟩ := I1.list hq
      refine call_enumerate_list p'.isList fun h2 he hit hsz hk => wpAny_pyIter_enum he ?_
      have J : Inv X pins σ H1 { s1 with heap := h2 } := I1.kept (t' := s1.toks) hk
      refine ⟨s1.heap.objs.size + 1, [s1.heap.objs.size + 1, s1.heap.objs.size], _, _, H1, rfl, J, turn_enum a (s1.heap.objs.size + 1) s1.heap.objs.size, ⟨⟨.none, he⟩, hit, Nat.succ_ne_self _⟩, fun b hb => ?_, q⟩
      have z : b = s1.heap.objs.size + 1 ∨ b = s1.heap.objs.size := by simpa using hb
      have le : s1.heap.objs.size ≤ b := by
        rcases z with z | z
        · rw [z]; exact Nat.le_add_right _ _
        · rw [z]; exact Nat.le_refl _
      exact I1.fpOk le (I1.hok.fresh le)
    · obtain ⟨its, rv, p', hz⟩ := I1.tuple hq
      have pt : s1.heap.IsTuple a its.toArray := p'
      have la : a < s1.heap.objs.size := by obtain ⟨o, e1, _⟩ := pt; exact Heap.lt_size e1
      refine call_enumT pt fun h2 he hit hk => wpAny_pyIter_enum he ?_
      have J : Inv X pins σ H1 { s1 with heap := h2 } := I1.kept (t' := s1.toks) hk
      refine ⟨s1.heap.objs.size + 1, [s1.heap.objs.size + 1, s1.heap.objs.size], _, _, H1, rfl, J, turn_enumT a (s1.heap.objs.size + 1) s1.heap.objs.size, ⟨⟨.none, he⟩, hit, Nat.succ_ne_self _, Nat.ne_of_lt la, Nat.ne_of_gt (Nat.lt_succ_of_lt la)⟩, fun b hb => ?_, q⟩
      have z : b = s1.heap.objs.size + 1 ∨ b = s1.heap.objs.size := by simpa using hb
      have le : s1.heap.objs.size ≤ b := by
        rcases z with z | z
        · rw [z]; exact Nat.le_add_right _ _
        · rw [z]; exact Nat.le_refl _
      exact I1.fpOk le (I1.hok.fresh le)
theorem walk_enumT {K : PySem.W.Frag} {a : Addr} {xs : List V} : Walk (IteT K a) xs.length (fun H => SqT K H a xs) (YPair (fun i => some (.int (i : Nat))) (fun i => xs[i]?)) := by
  refine ⟨fun i _ hi q => ⟨xs, xs[i], q, by simp [hi]⟩, fun _ q => ⟨xs, q, Nat.le_refl _⟩, fun i H v H' _ q y => ?_⟩
  obtain ⟨N, x, h1, h2, h3, h4⟩ := y
  exact ⟨N, .int (i : Nat), x, h1, h2, h3, rfl, h4 xs q⟩
end Tp
set_option Elab.async false
set_option linter.all false
set_option maxRecDepth 100000
set_option maxHeartbeats 4000000
namespace Tp
open PySem PySem.Spec PyProof.Rows L2
open Evl (Ex)

/-! ### statements -/
inductive Fl where
  | nx (ρ : List Sl) | rt (r : R) (ρ : List Sl) | bk (ρ : List Sl) | ct (ρ : List Sl)
abbrev SM := List Sl → Out Fl
def goS (Γ : Gr) (S : Hp) (D : Ends) : Out Fl → Prop
  | .ok (.nx ρ) => ∀ S' H σ, Ex S S' → StOk Γ S' H σ ρ → D.nx σ H
  | .ok (.bk ρ) => ∀ S' H σ, Ex S S' → StOk Γ S' H σ ρ → D.bk σ H
  | .ok (.ct ρ) => ∀ S' H σ, Ex S S' → StOk Γ S' H σ ρ → D.ct σ H
  | .ok (.rt r ρ) => ∀ S' H σ v, Ex S S' → StOk Γ S' H σ ρ → RepR Γ S' H σ ρ r v → D.rt v H
  | _ => False
def tSm (K : PySem.W.Frag) (io : Option Nat) (m : SM) : TS := fun D σ H => ∃ Γ : Gr, Γ.K = K ∧ Lent Γ io ∧ ∃ S ρ, StOk Γ S H σ ρ ∧ goS Γ S D (m ρ)
section
variable {Γ : Gr} {S S' H H' : Hp} {σ : L2.St} {ρ ρ' : List Sl} {D : Ends} {io : Option Nat} {K : PySem.W.Frag}
theorem goS_of {o : Out Fl} (g : goS Γ S D o) (e : Ex S S') : goS Γ S' D o := by
  cases o with
  | ok f =>
    cases f with
    | nx ρ => intro S2 H σ x; exact g S2 H σ (e.trans x)
    | bk ρ => intro S2 H σ x; exact g S2 H σ (e.trans x)
    | ct ρ => intro S2 H σ x; exact g S2 H σ (e.trans x)
    | rt r ρ => intro S2 H σ v x; exact g S2 H σ v (e.trans x)
  | err c p => exact g
  | stuck => exact g
theorem goS_bind {α : Type} {o : Out α} {f : α → Out Fl} (h : goS Γ S D (o.bind f)) : ∃ a, o = .ok a ∧ goS Γ S D (f a) :=
  bind_ok (P := goS Γ S D) h (fun _ _ z => z) id
def nxM : SM := fun ρ => .ok (.nx ρ)
def seqM (m n : SM) : SM := fun ρ => (m ρ).bind fun f => match f with
  | .nx ρ' => n ρ'
  | f => .ok f
theorem tS_nx (h : tSm K io nxM D σ H) : tNext D σ H := by
  obtain ⟨Γ, rfl, hL, S, ρ, st, q⟩ := h
  exact q S H σ (Ex.refl S) st
theorem tS_seq {m n : SM} (h : tSm K io (seqM m n) D σ H) : tSeq (tSm K io m) (tSm K io n) D σ H := by
  obtain ⟨Γ, rfl, hL, S, ρ, st, q⟩ := h
  refine ⟨Γ, rfl, hL, S, ρ, st, ?_⟩
  obtain ⟨f, e, q⟩ := goS_bind q
  rw [e]
  cases f with
  | nx ρ' => intro S' H' σ' x st'; exact ⟨Γ, rfl, hL, S', ρ', st', goS_of q x⟩
  | bk ρ' => exact q
  | ct ρ' => exact q
  | rt r ρ' => exact q
/-- what a statement does to the slots alone (a ghost: no statement of the text) -/
def frzM (io : Option Nat) (i : Nat) : SM := fun ρ => match ρ[i]? with
  | some (.ow sh xs) => if io = some i then .stuck else .ok (.nx (ρ.set i (.st (.ob sh xs))))
  | _ => .stuck
theorem tS_frz {i : Nat} {m : SM} (h : tSm K io (seqM (frzM io i) m) D σ H) : tSm K io m D σ H := by
  obtain ⟨Γ, rfl, hL, S, ρ, st, q⟩ := h
  obtain ⟨f, e, q⟩ := goS_bind q
  unfold frzM at e
  split at e
  · rename_i sh xs e1
    split at e
    · cases e
    · rename_i hio
      cases e
      obtain ⟨p, vs, e2, _⟩ := st.so i sh xs e1
      obtain ⟨S', x, st', _⟩ := st.freeze e1 e2 hL hio
      exact ⟨Γ, rfl, hL, S', _, st', goS_of q x⟩
  · cases e
/-- target = value -/
def asgM (me : M R) (g : GM) : SM := fun ρ => (me ρ).bind fun x => (g x.1 x.2).bind fun ρ' => .ok (.nx ρ')
theorem tS_asg {me : M R} {g : GM} {ws : List Nat} (h : tSm K io (asgM me g) D σ H) : tAsg (tR K io me) (tTg K io ws g) D σ H := by
  obtain ⟨Γ, rfl, hL, S, ρ, st, q0⟩ := h
  obtain ⟨⟨r, ρ1⟩, e1, q1⟩ := goS_bind q0
  obtain ⟨ρ', e2, q⟩ := goS_bind q1
  refine ⟨Γ, rfl, hL, S, ρ, st, ?_⟩
  rw [e1]
  intro v S1 H1 x1 st1 rv
  refine ⟨Γ, rfl, hL, S1, ρ1, r, st1, rv, ?_⟩
  rw [e2]
  intro S2 H2 σ2 x2 st2 _ _
  exact q S2 H2 σ2 (x1.trans x2) st2
def dropM (me : M R) : SM := fun ρ => (me ρ).bind fun x => .ok (.nx x.2)
theorem tS_drop {me : M R} (h : tSm K io (dropM me) D σ H) : tDrop (tR K io me) D σ H := by
  obtain ⟨Γ, rfl, hL, S, ρ, st, q⟩ := h
  obtain ⟨x, e1, q⟩ := goS_bind q
  refine ⟨Γ, rfl, hL, S, ρ, st, ?_⟩
  rw [e1]
  obtain ⟨r, ρ1⟩ := x
  intro v S1 H1 x1 st1 rv
  exact q S1 H1 σ x1 st1
def retM (io : Option Nat) (me : M R) : SM := fun ρ => (me ρ).bind fun x => match x.1 with
  | .vw i => if io = some i then .stuck else (match x.2[i]? with
    | some (.ow sh xs) => .ok (.rt (.ow sh xs) (x.2.set i .un))
    | _ => .stuck)
  | r => .ok (.rt r x.2)
theorem tS_ret {me : M R} (h : tSm K io (retM io me) D σ H) : tRet (tR K io me) D σ H := by
  obtain ⟨Γ, rfl, hL, S, ρ, st, q⟩ := h
  obtain ⟨x, e1, q⟩ := goS_bind q
  refine ⟨Γ, rfl, hL, S, ρ, st, ?_⟩
  rw [e1]
  obtain ⟨r, ρ1⟩ := x
  intro v S1 H1 x1 st1 rv
  cases r with
  | d d => exact q S1 H1 σ v x1 st1 rv
  | ow sh xs => exact q S1 H1 σ v x1 st1 rv
  | vw i =>
    simp only at q
    split at q
    · exact q.elim
    · rename_i hio
      split at q
      · rename_i sh xs e
        exact q S1 H1 σ v x1 (st1.drop i) (st1.give e rv hL hio)
      · exact q.elim
def retNM : SM := fun ρ => .ok (.rt (.d .non) ρ)
theorem tS_retN (h : tSm K io retNM D σ H) : tRetN D σ H := by
  obtain ⟨Γ, rfl, hL, S, ρ, st, q⟩ := h
  exact q S H σ .non (Ex.refl S) st (show Rep Γ.K S .non .non by unfold Rep; rfl)
def ifM (c : M Bool) (m n : SM) : SM := fun ρ => (c ρ).bind fun x => if x.1 = true then m x.2 else n x.2
theorem tS_if {c : M Bool} {m n : SM} (h : tSm K io (ifM c m n) D σ H) : tIfS (tBo K io c) (tSm K io m) (tSm K io n) D σ H := by
  obtain ⟨Γ, rfl, hL, S, ρ, st, q⟩ := h
  obtain ⟨x, e1, q⟩ := goS_bind q
  refine ⟨Γ, rfl, hL, S, ρ, st, ?_⟩
  rw [e1]
  obtain ⟨b, ρ1⟩ := x
  intro S1 H1 x1 st1
  cases b with
  | true => exact ⟨Γ, rfl, hL, S1, ρ1, st1, goS_of q x1⟩
  | false => exact ⟨Γ, rfl, hL, S1, ρ1, st1, goS_of q x1⟩
def bkM : SM := fun ρ => .ok (.bk ρ)
def ctM : SM := fun ρ => .ok (.ct ρ)
theorem tS_bk (h : tSm K io bkM D σ H) : tBreak D σ H := by
  obtain ⟨Γ, rfl, hL, S, ρ, st, q⟩ := h
  exact q S H σ (Ex.refl S) st
theorem tS_ct (h : tSm K io ctM D σ H) : tCont D σ H := by
  obtain ⟨Γ, rfl, hL, S, ρ, st, q⟩ := h
  exact q S H σ (Ex.refl S) st
/-! while -/
def whileF (c : M Bool) (m : SM) : Nat → SM
  | 0, _ => .stuck
  | n + 1, ρ => (c ρ).bind fun x => if x.1 = true then (m x.2).bind (fun f => match f with
    | .nx ρ' => whileF c m n ρ'
    | .ct ρ' => whileF c m n ρ'
    | .bk ρ' => .ok (.nx ρ')
    | .rt r ρ' => .ok (.rt r ρ')) else .ok (.nx x.2)
theorem tS_while {c : M Bool} {m : SM} {W : Nat} (h : tSm K io (whileF c m W) D σ H) : tWhile (tBo K io c) (tSm K io m) D σ H := by
  obtain ⟨Γ, rfl, hL, S, ρ, st, q⟩ := h
  refine ⟨fun n σ' H' => ∃ S' ρ', StOk Γ S' H' σ' ρ' ∧ goS Γ S' D (whileF c m n ρ'), ⟨W, S, ρ, st, q⟩, ?_⟩
  rintro n σ1 H1 ⟨S1, ρ1, st1, q1⟩
  cases n with
  | zero => exact q1.elim
  | succ n =>
    have q1 : goS Γ S1 D ((c ρ1).bind fun x => if x.1 = true then (m x.2).bind (fun f => match f with
      | .nx ρ' => whileF c m n ρ'
      | .ct ρ' => whileF c m n ρ'
      | .bk ρ' => .ok (.nx ρ')
      | .rt r ρ' => .ok (.rt r ρ')) else .ok (.nx x.2)) := q1
    obtain ⟨x, e1, q1⟩ := goS_bind q1
    refine ⟨Γ, rfl, hL, S1, ρ1, st1, ?_⟩
    rw [e1]
    obtain ⟨b, ρ2⟩ := x
    intro S2 H2 x2 st2
    cases b with
    | false => exact q1 S2 H2 σ1 x2 st2
    | true =>
      obtain ⟨f, e2, q2⟩ := goS_bind (goS_of q1 x2)
      rw [if_pos rfl]
      refine ⟨fun σ' H' => ∃ S' ρ', StOk Γ S' H' σ' ρ' ∧ goS Γ S' D (whileF c m n ρ'), fun σ' H' w => ⟨n, Nat.lt_succ_self n, w⟩, Γ, rfl, hL, S2, ρ2, st2, ?_⟩
      rw [e2]
      cases f with
      | nx ρ' => intro S3 H3 σ3 x3 st3; exact ⟨S3, ρ', st3, goS_of q2 x3⟩
      | ct ρ' => intro S3 H3 σ3 x3 st3; exact ⟨S3, ρ', st3, goS_of q2 x3⟩
      | bk ρ' => exact q2
      | rt r ρ' => exact q2
/-! what is walked -/
/-- the walk J gives the items ds, now and later, while S1 stands -/
structure WalkD (K : PySem.W.Frag) (S1 : Hp) (ds : List Tp.D) (J : It) : Prop where
  ex : ∃ (G : Hp → Prop) (Y : Nat → Hp → V → Hp → Prop), Walk J ds.length G Y ∧ (∀ S2 H2, Ex S1 S2 → Ex S2 H2 → G H2) ∧
    (∀ (i : Nat) H2 x H3 S2, i < ds.length → Ex S1 S2 → Ex S2 H2 → Y i H2 x H3 → Ex H2 H3 ∧ ∀ (Γ2 : Gr) σ2 ρ2, Γ2.K = K → StOk Γ2 S2 H2 σ2 ρ2 → ∃ S3 d, Ex S2 S3 ∧ StOk Γ2 S3 H3 σ2 ρ2 ∧ ds[i]? = some d ∧ Rep K S3 d x)
def goI (Γ : Gr) (S : Hp) (σ : L2.St) (R : It → Hp → Prop) : Out (List Tp.D × List Sl) → Prop
  | .ok (ds, ρ') => ∀ J S1 H1, Ex S S1 → StOk Γ S1 H1 σ ρ' → WalkD Γ.K S1 ds J → R J H1
  | _ => False
def tIt (K : PySem.W.Frag) (io : Option Nat) (m : M (List Tp.D)) : TI := fun σ H R => ∃ Γ : Gr, Γ.K = K ∧ Lent Γ io ∧ ∃ S ρ, StOk Γ S H σ ρ ∧ goI Γ S σ R (m ρ)
theorem goI_bind {R : It → Hp → Prop} {α : Type} {o : Out α} {f : α → Out (List Tp.D × List Sl)} (h : goI Γ S σ R (o.bind f)) : ∃ a, o = .ok a ∧ goI Γ S σ R (f a) :=
  bind_ok (P := goI Γ S σ R) h (fun _ _ z => z) id
def forF (g : GM) (m : SM) : List Tp.D → SM
  | [], ρ => .ok (.nx ρ)
  | d :: ds, ρ => (g (.d d) ρ).bind fun ρ1 => (m ρ1).bind fun f => match f with
    | .nx ρ' => forF g m ds ρ'
    | .ct ρ' => forF g m ds ρ'
    | .bk ρ' => .ok (.nx ρ')
    | .rt r ρ' => .ok (.rt r ρ')
def forM (mi : M (List Tp.D)) (g : GM) (m : SM) : SM := fun ρ => (mi ρ).bind fun x => forF g m x.1 x.2
theorem drop_cons {α : Type} {l : List α} {i : Nat} {a : α} (h : l[i]? = some a) : l.drop i = a :: l.drop (i + 1) := by
  obtain ⟨hi, e⟩ := List.getElem?_eq_some_iff.mp h
  rw [List.drop_eq_getElem_cons hi, e]
theorem tS_for {mi : M (List Tp.D)} {g : GM} {ws : List Nat} {m : SM} (h : tSm K io (forM mi g m) D σ H) : tFor (tIt K io mi) (tTg K io ws g) (tSm K io m) D σ H := by
  obtain ⟨Γ, rfl, hL, S, ρ, st, q⟩ := h
  obtain ⟨x, e1, q⟩ := goS_bind q
  refine ⟨Γ, rfl, hL, S, ρ, st, ?_⟩
  rw [e1]
  obtain ⟨ds, ρ1⟩ := x
  rintro J S1 H1 x1 st1 ⟨G, Y, w, hG, hY⟩
  refine for_it w (fun i σ' H' => ∃ S' ρ', Ex S1 S' ∧ StOk Γ S' H' σ' ρ' ∧ goS Γ S' D (forF g m (ds.drop i) ρ')) ⟨S1, ρ1, Ex.refl S1, st1, goS_of q x1⟩ (fun i σ' H' _ ⟨S', ρ', x, s', _⟩ => hG S' H' x s'.le) (fun i x σ' H' H'' hi ⟨S', ρ', x', s', q'⟩ y => ?_) (fun σ' H' ⟨S', ρ', x', s', q'⟩ => ?_)
  · obtain ⟨_, k⟩ := hY i H' x H'' S' hi x' s'.le y
    obtain ⟨S3, d, x3, s3, ed, rv⟩ := k Γ σ' ρ' rfl s'
    rw [drop_cons ed] at q'
    have q' : goS Γ S' D ((g (.d d) ρ').bind fun ρ1 => (m ρ1).bind fun f => match f with
      | .nx ρ' => forF g m (ds.drop (i + 1)) ρ'
      | .ct ρ' => forF g m (ds.drop (i + 1)) ρ'
      | .bk ρ' => .ok (.nx ρ')
      | .rt r ρ' => .ok (.rt r ρ')) := q'
    obtain ⟨ρ2, e2, q2⟩ := goS_bind q'
    obtain ⟨f, e3, q3⟩ := goS_bind q2
    refine ⟨Γ, rfl, hL, S3, ρ', .d d, s3, rv, ?_⟩
    rw [e2]
    intro S4 H4 σ4 x4 st4 _ _
    refine ⟨Γ, rfl, hL, S4, ρ2, st4, ?_⟩
    rw [e3]
    have q4 := goS_of q3 (x3.trans x4)
    cases f with
    | nx ρ5 => intro S5 H5 σ5 x5 st5; exact ⟨S5, ρ5, ((x'.trans x3).trans x4).trans x5, st5, goS_of q4 x5⟩
    | ct ρ5 => intro S5 H5 σ5 x5 st5; exact ⟨S5, ρ5, ((x'.trans x3).trans x4).trans x5, st5, goS_of q4 x5⟩
    | bk ρ5 => exact q4
    | rt r ρ5 => exact q4
  · rw [List.drop_length] at q'
    exact q' S' H' σ' (Ex.refl S') s'
end
/-! ### the walks -/
/-- over a list or tuple; a list of one's own is from now on as it is -/
def itM (io : Option Nat) (me : M R) : M (List Tp.D) := fun ρ => (me ρ).bind fun x => match x.1.hand with
  | .d (.ob sh xs) => if isL sh = true ∨ sh = .tup then .ok (xs, x.2) else .stuck
  | .vw i => if io = some i then .stuck else (match x.2[i]? with
    | some (.ow .lst xs) => .ok (xs, x.2.set i (.st (.ob .lst xs)))
    | _ => .stuck)
  | _ => .stuck
section
variable {Γ : Gr} {S S' H H' : Hp} {σ : L2.St} {ρ ρ' : List Sl} {io : Option Nat} {K : PySem.W.Frag}
theorem walkD_list {p : Addr} {vs : List V} {ds : List Tp.D} (h : SqL Γ.K S p vs) (r : Reps Γ.K S ds vs) : WalkD Γ.K S ds (Itl Γ.K p) := by
  refine ⟨fun H => SqL Γ.K H p vs, YAt vs, r.length ▸ walk_list, fun S2 H2 x le => Evl.ex_l (x.trans le) h, fun i H2 x H3 S2 hi e1 e2 y => ?_⟩
  obtain ⟨rfl, y⟩ := y
  refine ⟨Ex.refl _, fun Γ2 σ2 ρ2 _ st => ?_⟩
  obtain ⟨v, z1, z2⟩ := (r.mono e1).get (List.getElem?_eq_getElem hi)
  rw [y] at z1
  cases z1
  exact ⟨S2, _, Ex.refl S2, st, List.getElem?_eq_getElem hi, z2⟩
theorem walkD_tup {p : Addr} {vs : List V} {ds : List Tp.D} (h : SqT Γ.K S p vs) (r : Reps Γ.K S ds vs) : WalkD Γ.K S ds (Itt Γ.K p) := by
  refine ⟨fun H => SqT Γ.K H p vs, YAt vs, r.length ▸ walk_tup, fun S2 H2 x le => Evl.ex_t (x.trans le) h, fun i H2 x H3 S2 hi e1 e2 y => ?_⟩
  obtain ⟨rfl, y⟩ := y
  refine ⟨Ex.refl _, fun Γ2 σ2 ρ2 _ st => ?_⟩
  obtain ⟨v, z1, z2⟩ := (r.mono e1).get (List.getElem?_eq_getElem hi)
  rw [y] at z1
  cases z1
  exact ⟨S2, _, Ex.refl S2, st, List.getElem?_eq_getElem hi, z2⟩
theorem tI_it {me : M R} {R' : It → Hp → Prop} (h : tIt K io (itM io me) σ H R') : iList K (tR K io me) σ H R' ∨ iTup K (tR K io me) σ H R' := by
  obtain ⟨Γ, rfl, hL, S, ρ, st, q⟩ := h
  obtain ⟨x, e1, q⟩ := goI_bind q
  split at q
  · rename_i sh xs hx
    split at q
    · rename_i hsh
      by_cases hl : isL sh = true
      · refine .inl (tR_first hL st e1 fun v S1 H1 x1 st1 r1 => ?_)
        rw [hx] at r1
        have r1 : Rep Γ.K S1 (.ob sh xs) v := r1
        unfold Rep at r1
        obtain ⟨p, vs, rfl, z2, z3⟩ := r1
        exact ⟨p, rfl, ⟨vs, (z2.mono st1.le).L hl⟩, q _ S1 H1 x1 st1 (walkD_list (z2.L hl) z3)⟩
      · have := hsh.resolve_left hl
        subst this
        refine .inr (tR_first hL st e1 fun v S1 H1 x1 st1 r1 => ?_)
        rw [hx] at r1
        have r1 : Rep Γ.K S1 (.ob .tup xs) v := r1
        unfold Rep at r1
        obtain ⟨p, vs, rfl, z2, z3⟩ := r1
        exact ⟨p, rfl, ⟨vs, Sq.mono (sh := .tup) st1.le z2⟩, q _ S1 H1 x1 st1 (walkD_tup z2 z3)⟩
    · exact q.elim
  · rename_i i hx
    split at q
    · exact q.elim
    · rename_i hio
      split at q
      · rename_i xs e
        refine .inl (tR_first hL st e1 fun v S1 H1 x1 st1 r1 => ?_)
        rw [hx] at r1
        obtain ⟨S2, x2, st2, r2⟩ := st1.freeze e r1 hL hio
        unfold Rep at r2
        obtain ⟨p, vs, rfl, z2, z3⟩ := r2
        exact ⟨p, rfl, ⟨vs, (z2.mono st2.le).L rfl⟩, q _ S2 H1 (x1.trans x2) st2 (walkD_list (z2.L rfl) z3)⟩
      · exact q.elim
  · exact q.elim
/-- range(b), range(a, b) -/
def rngL (a b : Int) : List Tp.D := (List.range (b - a).toNat).map fun i => .int (a + (i : Nat))
def rngM (ma : M (List R)) : M (List Tp.D) := fun ρ => (ma ρ).bind fun x => (valsOf x.2 x.1).bind fun ds => match ds with
  | [.int b] => if -(2 ^ 62) ≤ b ∧ b < 2 ^ 62 then .ok (rngL 0 b, x.2) else .stuck
  | [.int a, .int b] => if -(2 ^ 62) ≤ a ∧ a < 2 ^ 62 ∧ -(2 ^ 62) ≤ b ∧ b < 2 ^ 62 then .ok (rngL a b, x.2) else .stuck
  | _ => .stuck
theorem walkD_rng {lo hi : Int} : WalkD K S (rngL lo hi) (Itr lo (hi - lo).toNat) := by
  have hl : (rngL lo hi).length = (hi - lo).toNat := by unfold rngL; simp
  refine ⟨fun _ => True, YFn fun i => .int (lo + i), hl ▸ walk_range, fun _ _ _ _ => trivial, fun i H2 x H3 S2 hi e1 e2 y => ?_⟩
  obtain ⟨rfl, rfl⟩ := y
  refine ⟨Ex.refl _, fun Γ2 σ2 ρ2 _ st => ⟨S2, .int (lo + i), Ex.refl S2, st, ?_, by unfold Rep; rfl⟩⟩
  unfold rngL
  rw [List.getElem?_map, List.getElem?_range (by rw [← hl]; exact hi), Option.map_some]
theorem tI_rng {ma : M (List R)} {R' : It → Hp → Prop} (h : tIt K io (rngM ma) σ H R') : iRng1 (tAr K io ma) σ H R' ∨ iRng2 (tAr K io ma) σ H R' := by
  obtain ⟨Γ, rfl, hL, S, ρ, st, q0⟩ := h
  obtain ⟨⟨rs, ρ2⟩, e1, q1⟩ := goI_bind q0
  obtain ⟨ds, e2, q⟩ := goI_bind q1
  split at q
  · rename_i b
    split at q
    · rename_i hb
      refine .inl ⟨Γ, rfl, hL, S, ρ, st, ?_⟩
      rw [e1]
      intro vs S2 H2 x2 st2 r2
      obtain ⟨v, rfl, rv⟩ := repWs1 (r2.ws st2 e2)
      rw [repW_int rv]
      refine ⟨b, rfl, hb.1, hb.2, ?_⟩
      have := q _ S2 H2 x2 st2 walkD_rng
      rw [Int.sub_zero] at this
      exact this
    · exact q.elim
  · rename_i a b
    split at q
    · rename_i hb
      refine .inr ⟨Γ, rfl, hL, S, ρ, st, ?_⟩
      rw [e1]
      intro vs S2 H2 x2 st2 r2
      obtain ⟨v, w, rfl, rv, rw'⟩ := repWs2 (r2.ws st2 e2)
      rw [repW_int rv, repW_int rw']
      exact ⟨a, b, rfl, hb, q _ S2 H2 x2 st2 walkD_rng⟩
    · exact q.elim
  · exact q.elim
/-- pairs made at each turn -/
theorem walkD_pair {J : It} {G : Hp → Prop} {f g : Nat → Option V} {n : Nat} {ds : List Tp.D} (hl : ds.length = n) (w : Walk J n G (YPair f g)) (hG : ∀ S2 H2, Ex S S2 → Ex S2 H2 → G H2)
    (hd : ∀ (i : Nat) x y, i < n → f i = some x → g i = some y → ∃ d e, ds[i]? = some (.tup [d, e]) ∧ Rep Γ.K S d x ∧ Rep Γ.K S e y) : WalkD Γ.K S ds J := by
  refine ⟨G, YPair f g, hl ▸ w, hG, fun i H2 x H3 S2 hi e1 e2 y => ?_⟩
  obtain ⟨T, a, b, rfl, nT, rfl, fa, gb⟩ := y
  obtain ⟨d, e, ed, ra, rb⟩ := hd i a b (hl ▸ hi) fa gb
  refine ⟨Ex.new nT, fun Γ2 σ2 ρ2 _ st => ?_⟩
  have nS := (st.none_of nT).1
  refine ⟨upd S2 T (.tup [a, b]), .tup [d, e], Ex.new nS, st.new nT, ed, ?_⟩
  show Rep Γ.K _ (.ob .tup [d, e]) _
  unfold Rep
  exact ⟨T, [a, b], rfl, Sq.of (sh := .tup) upd_same, (Reps.cons (ra.mono e1) (.cons (rb.mono e1) .nil)).mono (Ex.new nS)⟩
def enumL : Nat → List Tp.D → List Tp.D
  | _, [] => []
  | i, d :: ds => .tup [.int (i : Nat), d] :: enumL (i + 1) ds
theorem enumL_len : ∀ (i : Nat) (ds : List Tp.D), (enumL i ds).length = ds.length
  | _, [] => rfl
  | i, d :: ds => by unfold enumL; rw [List.length_cons, List.length_cons, enumL_len]
theorem enumL_get : ∀ (k i : Nat) (ds : List Tp.D) d, ds[i]? = some d → (enumL k ds)[i]? = some (.tup [.int ((k + i : Nat) : Int), d])
  | _, _, [], _, h => by simp at h
  | k, 0, d :: ds, x, h => by simp at h; subst h; rfl
  | k, i + 1, d :: ds, x, h => by
    unfold enumL
    rw [List.getElem?_cons_succ, enumL_get (k + 1) i ds x (by simpa using h), show k + 1 + i = k + (i + 1) by omega]
/-- enumerate(a list) -/
def enumM (ma : M (List R)) : M (List Tp.D) := fun ρ => (ma ρ).bind fun x => match x.1 with
  | [.d (.ob sh xs)] => if isL sh = true ∨ sh = .tup then .ok (enumL 0 xs, x.2) else .stuck
  | _ => .stuck
theorem tI_enum {ma : M (List R)} {R' : It → Hp → Prop} (h : tIt K io (enumM ma) σ H R') : iEnum2 K (tAr K io ma) σ H R' := by
  obtain ⟨Γ, rfl, hL, S, ρ, st, q0⟩ := h
  obtain ⟨⟨rs, ρ2⟩, e1, q⟩ := goI_bind q0
  simp only at q
  split at q
  · rename_i sh xs
    split at q
    · rename_i hs
      refine ⟨Γ, rfl, hL, S, ρ, st, ?_⟩
      rw [e1]
      intro vs S2 H2 x2 st2 r2
      obtain ⟨v, us, rfl, ⟨_, rv⟩, hn⟩ := r2
      have hn : us = [] := hn
      subst hn
      have rv : Rep Γ.K S2 (.ob sh xs) v := rv
      unfold Rep at rv
      obtain ⟨p, ws, rfl, z2, z3⟩ := rv
      have pair : ∀ (i : Nat) x y, i < ws.length → (some (V.int (i : Nat)) : Option V) = some x → ws[i]? = some y → ∃ d e, (enumL 0 xs)[i]? = some (.tup [d, e]) ∧ Rep Γ.K S2 d x ∧ Rep Γ.K S2 e y := by
        intro i x y hi ex ey
        cases ex
        have hi' : i < xs.length := by rw [← z3.length]; exact hi
        obtain ⟨w, a, b⟩ := z3.get (List.getElem?_eq_getElem hi')
        rw [ey] at a
        cases a
        exact ⟨.int (i : Nat), xs[i], by rw [enumL_get 0 i xs _ (List.getElem?_eq_getElem hi'), Nat.zero_add], by unfold Rep; rfl, b⟩
      refine ⟨p, ws, rfl, ?_⟩
      rcases hs with hs | hs
      · exact .inl ⟨(z2.mono st2.le).L hs, q _ S2 H2 x2 st2 (walkD_pair (n := ws.length) (by rw [enumL_len, z3.length]) walk_enum (fun S3 H3 a b => Evl.ex_l (a.trans b) (z2.L hs)) pair)⟩
      · subst hs
        have z4 : SqT Γ.K S2 p ws := z2
        exact .inr ⟨Evl.ex_t st2.le z4, q _ S2 H2 x2 st2 (walkD_pair (n := ws.length) (by rw [enumL_len, z3.length]) walk_enumT (fun S3 H3 a b => Evl.ex_t (a.trans b) z4) pair)⟩
    · exact q.elim
  · exact q.elim
def zipL : List Tp.D → List Tp.D → List Tp.D
  | a :: as, b :: bs => .tup [a, b] :: zipL as bs
  | _, _ => []
theorem zipL_len : ∀ (as bs : List Tp.D), (zipL as bs).length = min as.length bs.length
  | a :: as, b :: bs => by unfold zipL; rw [List.length_cons, zipL_len, List.length_cons, List.length_cons]; omega
  | [], _ => by unfold zipL; simp
  | _ :: _, [] => by unfold zipL; simp
theorem zipL_get : ∀ (i : Nat) (as bs : List Tp.D) a b, as[i]? = some a → bs[i]? = some b → (zipL as bs)[i]? = some (.tup [a, b])
  | _, [], _, _, _, h, _ => by simp at h
  | _, _ :: _, [], _, _, _, h => by simp at h
  | 0, a :: as, b :: bs, x, y, h, h' => by simp at h h'; subst h; subst h'; rfl
  | i + 1, a :: as, b :: bs, x, y, h, h' => by unfold zipL; rw [List.getElem?_cons_succ]; exact zipL_get i as bs x y (by simpa using h) (by simpa using h')
/-- zip of two lists, of two tuples -/
def zipM (ma : M (List R)) : M (List Tp.D) := fun ρ => (ma ρ).bind fun x => match x.1 with
  | [.d (.ob sh xs), .d (.ob sh' ys)] => if (isL sh = true ∧ isL sh' = true) ∨ (sh = .tup ∧ sh' = .tup) then .ok (zipL xs ys, x.2) else .stuck
  | _ => .stuck
end
end Tp
set_option Elab.async false
set_option linter.all false
set_option maxRecDepth 100000
set_option maxHeartbeats 4000000
namespace Tp
open PySem PySem.Spec PyProof.Rows L2
open Evl (Ex)

section
variable {Γ : Gr} {S S' H H' : Hp} {σ : L2.St} {ρ ρ' : List Sl} {io : Option Nat} {K : PySem.W.Frag}
theorem walk_zipT {K : PySem.W.Frag} {a b : Addr} {xs ys : List V} {n : Nat} (hn : n = min xs.length ys.length) : Walk (RZ.ItzT K a b) n (fun H => SqT K H a xs ∧ SqT K H b ys) (YPair (fun i => xs[i]?) (fun i => ys[i]?)) := by
  subst hn
  constructor
  · intro i H hi q
    exact ⟨xs, ys, xs[i]'(by omega), ys[i]'(by omega), q.1, q.2, List.getElem?_eq_getElem _, List.getElem?_eq_getElem _⟩
  · intro H q
    exact ⟨xs, ys, q.1, q.2, by omega⟩
  · rintro i H v H' _ q ⟨T, x, z, h1, h2, h3, h4, h5⟩
    exact ⟨T, x, z, h1, h2, h3, h4 xs q.1, h5 ys q.2⟩
theorem zip_items {xs ys : List Tp.D} {vs ws : List V} (h1 : Reps K S xs vs) (h2 : Reps K S ys ws) (i : Nat) (x y : V) (_ : i < min vs.length ws.length) (ex : vs[i]? = some x) (ey : ws[i]? = some y) :
    ∃ d e, (zipL xs ys)[i]? = some (.tup [d, e]) ∧ Rep K S d x ∧ Rep K S e y := by
  have l1 := h1.length
  have l2 := h2.length
  have i1 : i < xs.length := by omega
  have i2 : i < ys.length := by omega
  obtain ⟨u, a, b⟩ := h1.get (List.getElem?_eq_getElem i1)
  obtain ⟨w, c, d⟩ := h2.get (List.getElem?_eq_getElem i2)
  rw [ex] at a; cases a
  rw [ey] at c; cases c
  exact ⟨_, _, zipL_get i xs ys _ _ (List.getElem?_eq_getElem i1) (List.getElem?_eq_getElem i2), b, d⟩
theorem tI_zip {ma : M (List R)} {R' : It → Hp → Prop} (h : tIt K io (zipM ma) σ H R') : RZ.iZipA K (tAr K io ma) σ H R' := by
  obtain ⟨Γ, rfl, hL, S, ρ, st, q0⟩ := h
  obtain ⟨⟨rs, ρ2⟩, e1, q⟩ := goI_bind q0
  simp only at q
  split at q
  · rename_i sh xs sh' ys
    split at q
    · rename_i hs
      refine ⟨Γ, rfl, hL, S, ρ, st, ?_⟩
      rw [e1]
      intro vs S2 H2 x2 st2 r2
      obtain ⟨v, us, rfl, ⟨_, rv⟩, w, us', rfl, ⟨_, rw'⟩, hn⟩ := r2
      have hn : us' = [] := hn
      subst hn
      have rv : Rep Γ.K S2 (.ob sh xs) v := rv
      have rw' : Rep Γ.K S2 (.ob sh' ys) w := rw'
      unfold Rep at rv rw'
      obtain ⟨p, ws, rfl, z2, z3⟩ := rv
      obtain ⟨p', ws', rfl, z2', z3'⟩ := rw'
      refine ⟨p, p', ws, ws', rfl, ?_⟩
      have len : (zipL xs ys).length = min ws.length ws'.length := by rw [zipL_len, z3.length, z3'.length]
      rcases hs with ⟨a, b⟩ | ⟨a, b⟩
      · exact .inl ⟨(z2.mono st2.le).L a, (z2'.mono st2.le).L b, q _ S2 H2 x2 st2 (walkD_pair len (walk_zip rfl) (fun S3 H3 a' b' => ⟨Evl.ex_l (a'.trans b') (z2.L a), Evl.ex_l (a'.trans b') (z2'.L b)⟩) (zip_items z3 z3'))⟩
      · subst a; subst b
        exact .inr ⟨Sq.mono (sh := .tup) st2.le z2, Sq.mono (sh := .tup) st2.le z2', q _ S2 H2 x2 st2 (walkD_pair len (walk_zipT rfl) (fun S3 H3 a' b' => ⟨Evl.ex_t (a'.trans b') z2, Evl.ex_t (a'.trans b') z2'⟩) (zip_items z3 z3'))⟩
    · exact q.elim
  · exact q.elim
/-! ### comprehensions -/
def wipeS (ρ : List Sl) : List Nat → List Sl
  | [] => ρ
  | v :: vs => (wipeS ρ vs).set v .un
theorem wipe_get (vs : List Nat) (σ : L2.St) (j : Nat) (h : j ∉ vs) : (wipe σ vs)[j]? = σ[j]? := by
  induction vs with
  | nil => rfl
  | cons v vs ih =>
    simp only [List.mem_cons, not_or] at h
    show ((wipe σ vs).set v none)[j]? = _
    rw [List.getElem?_set_ne (fun z => h.1 z.symm)]
    exact ih h.2
theorem wipeS_get (vs : List Nat) (ρ : List Sl) (j : Nat) (h : j ∉ vs) : (wipeS ρ vs)[j]? = ρ[j]? := by
  induction vs with
  | nil => rfl
  | cons v vs ih =>
    simp only [List.mem_cons, not_or] at h
    show ((wipeS ρ vs).set v .un)[j]? = _
    rw [List.getElem?_set_ne (fun z => h.1 z.symm)]
    exact ih h.2
theorem wipeS_un (vs : List Nat) (ρ : List Sl) (j : Nat) (s : Sl) (h : j ∈ vs) (e : (wipeS ρ vs)[j]? = some s) : s = .un := by
  induction vs with
  | nil => cases h
  | cons v vs ih =>
    have e : ((wipeS ρ vs).set v .un)[j]? = some s := e
    rcases set_get e with ⟨_, _, z⟩ | ⟨z, e⟩
    · exact z.symm
    · rcases List.mem_cons.mp h with y | y
      · exact absurd y.symm z
      · exact ih y e
theorem wipeS_length (ρ : List Sl) : ∀ vs : List Nat, (wipeS ρ vs).length = ρ.length
  | [] => rfl
  | v :: vs => by unfold wipeS; rw [List.length_set, wipeS_length ρ vs]
theorem StOk.wipe (st : StOk Γ S H σ ρ) (vs : List Nat) : StOk Γ S H (wipe σ vs) (wipeS ρ vs) := by
  have h : StOk Γ S H σ (wipeS ρ vs) := by
    induction vs with
    | nil => exact st
    | cons v vs ih => exact ih.drop v
  refine h.reslot (wipe_length σ vs) fun j s e hs => ?_
  by_cases hj : j ∈ vs
  · exact absurd (wipeS_un vs ρ j s hj e) hs
  · exact wipe_get vs σ j hj
theorem wipe_same {σ σ' : L2.St} {vs : List Nat} (hl : σ'.length = σ.length) (h : ∀ j, j ∉ vs → σ'[j]? = σ[j]?) : L2.wipe σ' vs = L2.wipe σ vs := by
  apply List.ext_getElem?
  intro j
  by_cases hj : j ∈ vs
  · have key : ∀ (τ : L2.St), (L2.wipe τ vs)[j]? = if j < τ.length then some none else none := by
      intro τ
      clear h hl
      induction vs with
      | nil => cases hj
      | cons v vs ih =>
        show ((L2.wipe τ vs).set v none)[j]? = _
        by_cases e : v = j
        · subst e
          by_cases hi : v < τ.length
          · rw [if_pos hi, List.getElem?_set_self (by rw [wipe_length]; exact hi)]
          · rw [if_neg hi, List.getElem?_eq_none (by rw [List.length_set, wipe_length]; omega)]
        · rw [List.getElem?_set_ne e]
          exact ih (by rcases List.mem_cons.mp hj with y | y; exact absurd y.symm e; exact y)
    rw [key, key, hl]
  · rw [wipe_get vs _ j hj, wipe_get vs _ j hj, h j hj]
/-- the slots behind a comprehension -/
def backC (vs : List Nat) (ρ1 ρb : List Sl) : List Sl := (List.range ρ1.length).map fun j => if j ∈ vs then ρ1.getD j .un else ρb.getD j .un
theorem backC_get (vs : List Nat) (ρ1 ρb : List Sl) (hl : ρb.length = ρ1.length) (j : Nat) : (backC vs ρ1 ρb)[j]? = if j ∈ vs then ρ1[j]? else ρb[j]? := by
  unfold backC
  rw [List.getElem?_map]
  by_cases hj : j < ρ1.length
  · rw [List.getElem?_range hj, Option.map_some]
    split
    · rw [List.getD_eq_getElem?_getD, List.getElem?_eq_getElem hj]; rfl
    · rw [List.getD_eq_getElem?_getD, List.getElem?_eq_getElem (by omega)]; rfl
  · rw [List.getElem?_eq_none (by simpa using hj)]
    split
    · rw [List.getElem?_eq_none (by omega)]; rfl
    · rw [List.getElem?_eq_none (by omega)]; rfl
def noOwn (ρ : List Sl) (vs : List Nat) : Bool := vs.all fun i => match ρ[i]? with
  | some (.ow _ _) => false
  | _ => true
theorem noOwn_ok {ρ : List Sl} {vs : List Nat} (h : noOwn ρ vs = true) {i : Nat} (hi : i ∈ vs) {sh xs} : ρ[i]? ≠ some (.ow sh xs) := by
  intro e
  unfold noOwn at h
  have := List.all_eq_true.mp h i hi
  rw [e] at this
  cases this
theorem StOk.unwipe {S1 H1 : Hp} {ρ1 ρb : List Sl} {vs : List Nat} (st1 : StOk Γ S1 H1 σ ρ1) (x : Ex S1 S) (st : StOk Γ S H (L2.wipe σ vs) ρb) (hn : noOwn ρ1 vs = true) : StOk Γ S H σ (backC vs ρ1 ρb) := by
  have hl : ρb.length = ρ1.length := by rw [st.len, wipe_length, st1.len]
  have ow : ∀ (j : Nat) sh xs, (backC vs ρ1 ρb)[j]? = some (.ow sh xs) → ρb[j]? = some (.ow sh xs) ∧ (L2.wipe σ vs)[j]? = σ[j]? := by
    intro j sh xs e
    rw [backC_get vs ρ1 ρb hl] at e
    split at e
    · rename_i hj; exact absurd e (noOwn_ok hn hj)
    · rename_i hj; exact ⟨e, wipe_get vs σ j hj⟩
  refine ⟨st.old, st.st, st.nw, st.le, st.bb, st.al, ?_, fun j d e => ?_, fun j sh xs e => ?_, fun j k p sh xs sh' xs' e1 e2 h1 h2 => ?_, fun j q sh xs h e => ?_, fun j q sh xs e h => ?_⟩
  · unfold backC; rw [List.length_map, List.length_range]; exact st1.len
  · rw [backC_get vs ρ1 ρb hl] at e
    split at e
    · obtain ⟨v, a, b⟩ := st1.sd j d e; exact ⟨v, a, b.mono x⟩
    · rename_i hj
      obtain ⟨v, a, b⟩ := st.sd j d e
      exact ⟨v, by rw [← wipe_get vs σ j hj]; exact a, b⟩
  · obtain ⟨a, b⟩ := ow j sh xs e
    rw [← b]; exact st.so j sh xs a
  · obtain ⟨a, b⟩ := ow j _ _ e1
    obtain ⟨c, d⟩ := ow k _ _ e2
    rw [← b] at h1; rw [← d] at h2
    exact st.ne j k p _ _ _ _ a c h1 h2
  · obtain ⟨a, b⟩ := ow j _ _ e
    rw [← b]; exact st.io j q _ _ h a
  · obtain ⟨a, b⟩ := ow j _ _ e
    rw [← b] at h
    exact st.io1 j q _ _ a h
/-- an object on the side, kept -/
def Gr.pin (Γ : Gr) (a : Addr) (o : HO) : Gr := { Γ with H0 := upd Γ.H0 a o }
structure Side (Γ : Gr) (S H : Hp) (σ : L2.St) (ρ : List Sl) (a : Addr) : Prop where
  s : S a = none
  b : ¬ Γ.has a
  h : Γ.H0 a = none
  s0 : Γ.S0 a = none
  o : ∀ (i : Nat) sh xs, ρ[i]? = some (.ow sh xs) → σ[i]? ≠ some (some (.ref a))
theorem StOk.pin {a : Addr} {o : HO} (st : StOk Γ S H σ ρ) (k : Side Γ S H σ ρ a) (e : H a = some o) : StOk (Γ.pin a o) S H σ ρ := by
  refine ⟨⟨fun q u b z => ?_, st.old.tb, st.old.nt⟩, st.st, fun q b z => ?_, st.le, st.bb, st.al, st.len, st.sd, fun i sh xs z => ?_, st.ne, st.io, st.io1⟩
  · by_cases y : q = a
    · subst y
      have z : upd Γ.H0 q o q = some u := z
      rw [upd_same] at z
      have z := Option.some.inj z
      subst z
      exact ⟨_, e, Kp.refl _⟩
    · have z : upd Γ.H0 a o q = some u := z
      rw [upd_ne y] at z; exact st.old.ex q u b z
  · by_cases y : q = a
    · subst y; exact k.s.trans k.s0.symm
    · have z : upd Γ.H0 a o q ≠ none := z
      rw [upd_ne y] at z; exact st.nw q b z
  · obtain ⟨p, vs, z1, z2, z3, z4, z5, z6⟩ := st.so i sh xs z
    refine ⟨p, vs, z1, z2, z3, z4, ?_, z6⟩
    have y : p ≠ a := fun y => k.o i sh xs z (y ▸ z1)
    show Γ.has p ∨ upd Γ.H0 a o p = none
    rw [upd_ne y]; exact z5
theorem StOk.unpin {a : Addr} {o : HO} (st : StOk (Γ.pin a o) S H σ ρ) (hb : ¬ Γ.has a) (hh : Γ.H0 a = none) (hs : Γ.S0 a = none) (no : ∀ ps, o ≠ .tbl ps := by first | exact hoOf_tbl | (intro _ z; cases z)) : StOk Γ S H σ ρ ∧ H a = some o ∧ Side Γ S H σ ρ a := by
  have ha : (Γ.pin a o).H0 a = some o := upd_same
  have hne : ∀ q, q ≠ a → (Γ.pin a o).H0 q = Γ.H0 q := fun q h => upd_ne h
  have sa : S a = none := by
    have := st.nw a hb (by rw [ha]; simp)
    rw [this]; exact hs
  have hoa : H a = some o := by obtain ⟨u, y1, y2⟩ := st.old.ex a o hb ha; rw [y1, y2.eq no]
  refine ⟨⟨⟨fun q u b z => ?_, st.old.tb, st.old.nt⟩, st.st, fun q b z => ?_, st.le, st.bb, st.al, st.len, st.sd, fun i sh xs z => ?_, st.ne, st.io, st.io1⟩, hoa, sa, hb, hh, hs, fun i sh xs z y => ?_⟩
  · have : q ≠ a := fun y => by rw [y, hh] at z; cases z
    exact st.old.ex q u b (by rw [hne q this]; exact z)
  · have : q ≠ a := fun y => z (y ▸ hh)
    exact st.nw q b (by rw [hne q this]; exact z)
  · obtain ⟨p, vs, z1, z2, z3, z4, z5, z6⟩ := st.so i sh xs z
    refine ⟨p, vs, z1, z2, z3, z4, ?_, z6⟩
    rcases z5 with z5 | z5
    · exact .inl z5
    · have : p ≠ a := fun y => by rw [y, ha] at z5; cases z5
      rw [hne p this] at z5; exact .inr z5
  · obtain ⟨p, vs, z1, z2, z3, z4, z5, z6⟩ := st.so i sh xs z
    rw [y] at z1
    have : a = p := by injection z1 with z1; injection z1 with z1; injection z1
    subst this
    rcases z5 with z5 | z5
    · exact hb z5
    · rw [ha] at z5; cases z5
/-- an object on the side, changed -/
theorem StOk.side {a : Addr} {o : HO} (st : StOk Γ S H σ ρ) (k : Side Γ S H σ ρ a) (ha : H a = none ∨ ∃ vs0, H a = some (.lst vs0)) : StOk Γ S (upd H a o) σ ρ := by
  refine ⟨⟨fun q u b z => ?_, (ha.elim (fun n => st.old.tb.ext (Ex.new n)) fun ⟨_, e⟩ => tabs_chg st.old.tb e (fun _ z => by cases z) (fun _ _ z => by cases z)), st.old.nt⟩, st.st, st.nw, fun q u z => ?_, st.bb, fun q b => ?_, st.len, st.sd, fun i sh xs z => ?_, st.ne, st.io, st.io1⟩
  · have : q ≠ a := fun y => by rw [y, k.h] at z; cases z
    obtain ⟨u2, e1, k1⟩ := st.old.ex q u b z
    exact ⟨u2, by rw [upd_ne this]; exact e1, k1⟩
  · have : q ≠ a := fun y => by rw [y, k.s] at z; cases z
    rw [upd_ne this]; exact st.le q u z
  · have : q ≠ a := fun y => k.b (y ▸ b)
    rw [upd_ne this]; exact st.al q b
  · obtain ⟨p, vs, z1, z2, z3, z4, z5, z6⟩ := st.so i sh xs z
    have y : p ≠ a := fun y => k.o i sh xs z (y ▸ z1)
    exact ⟨p, vs, z1, z2, by rw [upd_ne y]; exact z3, z4, z5, z6⟩
theorem Side.re {a : Addr} {o : HO} (k : Side Γ S H σ ρ a) : Side Γ S H' σ ρ a := ⟨k.s, k.b, k.h, k.s0, k.o⟩
/-- [e for x in it if t] -/
def compF (vs : List Nat) (g : GM) (mt : M Bool) (me : M R) : List Tp.D → List Sl → Out (List Tp.D × List Sl)
  | [], ρ => .ok ([], ρ)
  | d :: ds, ρ => (g (.d d) ρ).bind fun ρ2 => (mt ρ2).bind fun x => if x.1 = true then (me x.2).bind (fun y => match y.1.hand with
      | .d e => (compF vs g mt me ds (wipeS y.2 vs)).bind fun z => .ok (e :: z.1, z.2)
      | _ => .stuck) else compF vs g mt me ds (wipeS x.2 vs)
def compM (vs : List Nat) (mi : M (List Tp.D)) (g : GM) (mt : M Bool) (me : M R) : M R := fun ρ => (mi ρ).bind fun x => if noOwn x.2 vs = true then (compF vs g mt me x.1 (wipeS x.2 vs)).bind (fun z => if z.1.length ≤ sizeLine then .ok (.ow .lst z.1, backC vs x.2 z.2) else .stuck) else .stuck
def yesM : M Bool := fun ρ => .ok (true, ρ)
theorem tB_yes {Q : Bool → Hp → Prop} (h : tBo K io yesM σ H Q) : tYes σ H Q := by
  obtain ⟨Γ, rfl, hL, S, ρ, st, q⟩ := h
  exact q S H (Ex.refl S) st
theorem tR_comp {vs ws : List Nat} (hw : ∀ j ∈ ws, j ∈ vs) {mi : M (List Tp.D)} {g : GM} {mt : M Bool} {me : M R} {Q : VK} (h : tR K io (compM vs mi g mt me) σ H Q) : tLc (tIt K io mi) (tTg K io ws g) (tBo K io mt) (tR K io me) vs σ H Q := by
  obtain ⟨Γ, rfl, hL, S, ρ, st, q0⟩ := h
  obtain ⟨⟨ds, ρ1⟩, e1, q1⟩ := goR_bind q0
  refine ⟨Γ, rfl, hL, S, ρ, st, ?_⟩
  rw [e1]
  rintro J S1 H1 x1 st1 ⟨G, Y, w, hG, hY⟩ A hA
  have q1 : goR Γ S σ Q (if noOwn ρ1 vs = true then (compF vs g mt me ds (wipeS ρ1 vs)).bind (fun z => if z.1.length ≤ sizeLine then .ok (.ow .lst z.1, backC vs ρ1 z.2) else .stuck) else .stuck) := q1
  split at q1
  rotate_left
  · exact q1.elim
  rename_i hn
  obtain ⟨⟨tot, ρe⟩, e2, q2⟩ := goR_bind q1
  have q2 : goR Γ S σ Q (if tot.length ≤ sizeLine then .ok (.ow .lst tot, backC vs ρ1 ρe) else .stuck) := q2
  split at q2
  rotate_left
  · exact q2.elim
  rename_i hz
  obtain ⟨a1, a2, a3⟩ := st1.none_of hA
  have a4 : Γ.S0 A = none := by
    cases z : Γ.S0 A with
    | none => rfl
    | some o => rw [st1.st A o z] at a1; cases a1
  have side0 : ∀ {S' H' σ' ρ'}, StOk Γ S' H' σ' ρ' → H' A = none → Side Γ S' H' σ' ρ' A := by
    intro S' H' σ' ρ' st' n
    refine ⟨(st'.none_of n).1, a2, a3, a4, fun i sh xs e z => ?_⟩
    obtain ⟨p, _, z1, _, z3, _⟩ := st'.so i sh xs e
    rw [z] at z1
    have : A = p := by injection z1 with z1; injection z1 with z1; injection z1
    subst this
    rw [n] at z3; cases z3
  have stw := st1.wipe vs
  refine lc_it w (fun i H' => ∃ S' ρb acc vacc rest, Ex S1 S' ∧ StOk Γ S' H' (L2.wipe σ vs) ρb ∧ Side Γ S' H' (L2.wipe σ vs) ρb A ∧ H' A = some (.lst vacc) ∧ Reps Γ.K S' acc vacc ∧ compF vs g mt me (ds.drop i) ρb = .ok (rest, ρe) ∧ acc ++ rest = tot) ?_ ?_ ?_ ?_
  · exact ⟨S1, wipeS ρ1 vs, [], [], tot, Ex.refl S1, stw.side (side0 stw hA) (.inl hA), (side0 stw hA).re (o := .lst []), upd_same, .nil, e2, rfl⟩
  · rintro i H' _ ⟨S', ρb, acc, vacc, rest, x, s, _⟩
    exact hG S' H' x s.le
  · rintro i x H' H'' hi ⟨S', ρb, acc, vacc, rest, x', s, sd, hv, ra, ec, et⟩ y
    obtain ⟨ex, k⟩ := hY i H' x H'' S' hi x' s.le y
    obtain ⟨S3, d, x3, s3p, ed, rv⟩ := k (Γ.pin A (.lst vacc)) _ ρb rfl (s.pin sd hv)
    rw [drop_cons ed] at ec
    obtain ⟨ρ2, f1, ec1⟩ := ob_bind (show (g (.d d) ρb).bind _ = _ from ec)
    obtain ⟨⟨b, ρ3⟩, f2, ec2⟩ := ob_bind ec1
    refine ⟨Γ.pin A (.lst vacc), rfl, hL, S3, ρb, .d d, s3p, rv, ?_⟩
    rw [f1]
    intro S4 H4 σ4 x4 s4 l4 k4
    refine ⟨?_, ?_⟩
    · rw [wipe_same (σ := L2.wipe σ vs) l4 (fun j hj => k4 j (fun z => hj (hw j z)))]
      apply List.ext_getElem?
      intro j
      by_cases hj : j ∈ vs
      · have key : ∀ (vs : List Nat) (τ : L2.St), j ∈ vs → (L2.wipe τ vs)[j]? = if j < τ.length then some none else none := by
          intro vs τ hj
          induction vs with
          | nil => cases hj
          | cons v vs ih =>
            show ((L2.wipe τ vs).set v none)[j]? = _
            by_cases e : v = j
            · subst e
              by_cases hi : v < τ.length
              · rw [if_pos hi, List.getElem?_set_self (by rw [wipe_length]; exact hi)]
              · rw [if_neg hi, List.getElem?_eq_none (by rw [List.length_set, wipe_length]; omega)]
            · rw [List.getElem?_set_ne e]
              exact ih (by rcases List.mem_cons.mp hj with y | y; exact absurd y.symm e; exact y)
        rw [key vs _ hj, key vs _ hj, wipe_length]
      · rw [wipe_get vs _ j hj]
    · refine ⟨Γ.pin A (.lst vacc), rfl, hL, S4, ρ2, s4, ?_⟩
      rw [f2]
      intro S5 H5 x5 s5
      have wl : ∀ j, j ∉ vs → σ4[j]? = (L2.wipe σ vs)[j]? := fun j hj => k4 j (fun z => hj (hw j z))
      have wipe4 : L2.wipe σ4 vs = L2.wipe σ vs := by
        apply List.ext_getElem?
        intro j
        by_cases hj : j ∈ vs
        · have key : ∀ (vs : List Nat) (τ : L2.St), j ∈ vs → (L2.wipe τ vs)[j]? = if j < τ.length then some none else none := by
            intro vs τ hj
            induction vs with
            | nil => cases hj
            | cons v vs ih =>
              show ((L2.wipe τ vs).set v none)[j]? = _
              by_cases e : v = j
              · subst e
                by_cases hi : v < τ.length
                · rw [if_pos hi, List.getElem?_set_self (by rw [wipe_length]; exact hi)]
                · rw [if_neg hi, List.getElem?_eq_none (by rw [List.length_set, wipe_length]; omega)]
              · rw [List.getElem?_set_ne e]
                exact ih (by rcases List.mem_cons.mp hj with y | y; exact absurd y.symm e; exact y)
          rw [key vs _ hj, key vs _ hj, l4, wipe_length]
        · rw [wipe_get vs _ j hj, wl j hj]
      cases b with
      | false =>
        obtain ⟨s5', v5, sd5⟩ := s5.unpin a2 a3 a4
        have s6 := s5'.wipe vs
        rw [wipe4] at s6
        refine ⟨S5, wipeS ρ3 vs, acc, vacc, rest, ((x'.trans x3).trans x4).trans x5, s6, ⟨sd5.s, a2, a3, a4, fun j sh xs e z => ?_⟩, v5, ra.mono ((x3.trans x4).trans x5), ec2, et⟩
        by_cases hj : j ∈ vs
        · cases wipeS_un vs ρ3 j _ hj e
        · rw [wipeS_get vs ρ3 j hj] at e
          rw [← wipe4, wipe_get vs _ j hj] at z
          exact sd5.o j _ _ e z
      | true =>
        rw [if_pos rfl]
        obtain ⟨⟨r, ρ4⟩, f3, ec3⟩ := ob_bind (show (me ρ3).bind _ = _ from ec2)
        refine tR_first (Γ := Γ.pin A (.lst vacc)) hL s5 f3 fun v S6 H6 x6 s6 r6 => ?_
        simp only at ec3
        split at ec3
        · rename_i e he
          obtain ⟨⟨rest', ρ5⟩, f4, ec4⟩ := ob_bind ec3
          cases ec4
          obtain ⟨s6', v6, sd6⟩ := s6.unpin a2 a3 a4
          have s7 := s6'.wipe vs
          rw [wipe4] at s7
          have sd7 : Side Γ S6 H6 (L2.wipe σ vs) (wipeS ρ4 vs) A := ⟨sd6.s, a2, a3, a4, fun j sh xs e z => by
            by_cases hj : j ∈ vs
            · cases wipeS_un vs ρ4 j _ hj e
            · rw [wipeS_get vs ρ4 j hj] at e
              rw [← wipe4, wipe_get vs _ j hj] at z
              exact sd6.o j _ _ e z⟩
          have xx := ((x3.trans x4).trans x5).trans x6
          have la := ra.length
          have lt : acc.length + (rest'.length + 1) = tot.length := by rw [← et, List.length_append, List.length_cons]
          refine ⟨vacc, v6, by rw [la]; omega, S6, wipeS ρ4 vs, acc ++ [e], vacc ++ [v], rest', x'.trans xx, s7.side sd7 (.inr ⟨_, v6⟩), sd7.re (o := .lst []), upd_same, (ra.mono xx).append (.cons ?_ .nil), f4, by rw [← et]; simp⟩
          rw [he] at r6
          exact r6
        · cases ec3
  · rintro H' ⟨S', ρb, acc, vacc, rest, x, s, sd, hv, ra, ec, et⟩
    rw [List.drop_length] at ec
    cases ec
    rw [List.append_nil] at et
    subst et
    refine q2 (.ref A) S' H' (x1.trans x) (st1.unwipe x s hn) ⟨A, vacc, rfl, sd.s, hv, ra, a2, a3, by decide, fun i sh xs e z => ?_⟩
    rw [backC_get vs ρ1 _ (s.len.trans (by rw [wipe_length, st1.len]))] at e
    split at e
    · rename_i hj; exact noOwn_ok hn hj e
    · rename_i hj
      rw [← wipe_get vs σ i hj] at z
      exact sd.o i _ _ e z
end
end Tp
set_option Elab.async false
set_option linter.all false
set_option maxRecDepth 100000
set_option maxHeartbeats 4000000
namespace Tp
open PySem PySem.Spec PyProof.Rows L2
open Evl (Ex)

/-! ### several values at once, lists of one's own among them -/
def rawM : List (M R) → M (List R)
  | [] => fun ρ => .ok ([], ρ)
  | m :: ms => fun ρ => (m ρ).bind fun x => (rawM ms x.2).bind fun y => .ok (x.1 :: y.1, y.2)
def addrOf : R → V → Addr → Prop
  | .ow _ _, v, p => v = .ref p
  | _, _, _ => False
def RawRs (Γ : Gr) (S H : Hp) (σ : L2.St) (ρ : List Sl) : List R → List V → Prop
  | [], vs => vs = []
  | r :: rs, vs => ∃ v us, vs = v :: us ∧ RepR Γ S H σ ρ r v ∧ RawRs Γ S H σ ρ rs us ∧ ∀ p, addrOf r v p → ∀ (j : Nat) r' v', rs[j]? = some r' → us[j]? = some v' → ¬ addrOf r' v' p
def goW (Γ : Gr) (S : Hp) (σ : L2.St) (Q : List V → Hp → Prop) : Out (List R × List Sl) → Prop
  | .ok (rs, ρ') => ∀ vs S' H', Ex S S' → StOk Γ S' H' σ ρ' → RawRs Γ S' H' σ ρ' rs vs → Q vs H'
  | _ => False
def tRaw (K : PySem.W.Frag) (io : Option Nat) (ms : List (M R)) : TA := fun σ H Q => ∃ Γ : Gr, Γ.K = K ∧ Lent Γ io ∧ ∃ S ρ, StOk Γ S H σ ρ ∧ goW Γ S σ Q (rawM ms ρ)
theorem goW_bind {Γ : Gr} {S : Hp} {σ : L2.St} {Q : List V → Hp → Prop} {α : Type} {o : Out α} {f : α → Out (List R × List Sl)} (h : goW Γ S σ Q (o.bind f)) : ∃ a, o = .ok a ∧ goW Γ S σ Q (f a) :=
  bind_ok (P := goW Γ S σ Q) h (fun _ _ z => z) id
theorem goW_of {Γ : Gr} {S S' : Hp} {σ : L2.St} {o : Out (List R × List Sl)} {Q : List V → Hp → Prop} (g : goW Γ S σ Q o) (e : Ex S S') : goW Γ S' σ Q o := by
  cases o with
  | ok y => intro v S2 H' e' st' rr'; exact g v S2 H' (e.trans e') st' rr'
  | err c p => exact g
  | stuck => exact g
theorem rawM_vw_free {Γ : Gr} {S H : Hp} {σ : L2.St} {ρ : List Sl} {i : Nat} {v : V} : RepR Γ S H σ ρ (.vw i) v → σ[i]? = some (some v) := id
theorem RawRs.unpin {Γ : Gr} {S H : Hp} {σ : L2.St} {ρ : List Sl} {a : Addr} {o : HO} : ∀ {rs : List R} {vs : List V}, RawRs (Γ.pin a o) S H σ ρ rs vs → RawRs Γ S H σ ρ rs vs ∧ ∀ (j : Nat) r v, rs[j]? = some r → vs[j]? = some v → ¬ addrOf r v a
  | [], vs, h => ⟨h, fun j r v e => by simp at e⟩
  | r :: rs, vs, h => by
    obtain ⟨v, us, rfl, h1, h2, h3⟩ := h
    obtain ⟨k1, k2⟩ := RawRs.unpin h2
    have key : RepR Γ S H σ ρ r v ∧ ¬ addrOf r v a := by
      cases r with
      | d d => exact ⟨h1, id⟩
      | vw i => exact ⟨h1, id⟩
      | ow sh xs =>
        obtain ⟨p, vs', e1, e2, e3, e4, e5, e6, e7, e8⟩ := h1
        have e6 : upd Γ.H0 a o p = none := e6
        have ne : p ≠ a := fun z => by rw [z, upd_same] at e6; cases e6
        rw [upd_ne ne] at e6
        exact ⟨⟨p, vs', e1, e2, e3, e4, e5, e6, e7, e8⟩, fun z => by
          have z : v = .ref a := z
          rw [e1] at z
          injection z with z
          exact ne z⟩
    refine ⟨⟨v, us, rfl, key.1, k1, h3⟩, fun j r' v' e1 e2 => ?_⟩
    cases j with
    | zero => simp at e1 e2; subst e1; subst e2; exact key.2
    | succ j => exact k2 j r' v' (by simpa using e1) (by simpa using e2)
theorem tW_nil {K : PySem.W.Frag} {io : Option Nat} {σ : L2.St} {H : Hp} {Q : List V → Hp → Prop} (h : tRaw K io [] σ H Q) : tNil σ H Q := by
  obtain ⟨Γ, rfl, hL, S, ρ, st, q⟩ := h
  exact q [] S H (Ex.refl S) st rfl
theorem tW_cons {K : PySem.W.Frag} {io : Option Nat} {σ : L2.St} {H : Hp} {Q : List V → Hp → Prop} {m : M R} {ms : List (M R)} (h : tRaw K io (m :: ms) σ H Q) : tCons (tR K io m) (tRaw K io ms) σ H Q := by
  obtain ⟨Γ, rfl, hL, S, ρ, st, q0⟩ := h
  obtain ⟨⟨r, ρ1⟩, e1, q1⟩ := goW_bind q0
  obtain ⟨⟨rs, ρ2⟩, e2, q⟩ := goW_bind q1
  refine ⟨Γ, rfl, hL, S, ρ, st, ?_⟩
  rw [e1]
  intro v S1 H1 x1 st1 rv
  have plain : (∀ S' H' ρ', Ex S1 S' → StOk Γ S' H' σ ρ' → RepR Γ S' H' σ ρ' r v) → (∀ p, ¬ addrOf r v p) → tRaw Γ.K io ms σ H1 fun us H2 => Q (v :: us) H2 := by
    intro keep na
    refine ⟨Γ, rfl, hL, S1, ρ1, st1, ?_⟩
    rw [e2]
    intro us S2 H2 x2 st2 r2
    exact q (v :: us) S2 H2 (x1.trans x2) st2 ⟨v, us, rfl, keep S2 H2 _ x2 st2, r2, fun p a => absurd a (na p)⟩
  cases r with
  | d d => exact plain (fun S' H' ρ' x _ => Rep.mono x rv) fun _ => id
  | vw i => exact plain (fun S' H' ρ' x _ => rv) fun _ => id
  | ow sh xs =>
    obtain ⟨p, vs, rfl, p1, p2, p3, p4, p5, p6, p7⟩ := rv
    have s0 : Γ.S0 p = none := by
      cases z : Γ.S0 p with
      | none => rfl
      | some o => rw [st1.st p o z] at p1; cases p1
    refine ⟨Γ.pin p (hoOf sh vs), rfl, hL, S1, ρ1, st1.pin ⟨p1, p4, p5, s0, p7⟩ p2, ?_⟩
    rw [e2]
    intro us S2 H2 x2 st2 r2
    obtain ⟨st2', h2, sd⟩ := st2.unpin p4 p5 s0
    obtain ⟨r2', ne⟩ := r2.unpin
    refine q (.ref p :: us) S2 H2 (x1.trans x2) st2' ⟨.ref p, us, rfl, ⟨p, vs, rfl, sd.s, h2, p3.mono x2, p4, p5, p6, sd.o⟩, r2', fun p' a j r' v' e1 e2 => ?_⟩
    have a : V.ref p = .ref p' := a
    injection a with a
    subst a
    exact ne j r' v' e1 e2
/-- the names of a row take the values of a row -/
def setAll (io : Option Nat) : List (Nat × Bool) → List R → List Sl → Out (List Sl)
  | [], [], ρ => .ok ρ
  | (i, b) :: ns, r :: rs, ρ => ((if b = true then gNm io i else gNs i) r ρ).bind fun ρ' => setAll io ns rs ρ'
  | _, _, _ => .stuck
def setsV (σ : L2.St) : List (Nat × Bool) → List V → L2.St
  | (i, _) :: ns, v :: vs => setsV (σ.set i (some v)) ns vs
  | _, _ => σ
theorem RawRs.move {Γ : Gr} {S S' H : Hp} {σ σ' : L2.St} {ρ ρ' : List Sl} (x : Ex S S') (hs : ∀ p, S p = none → (∀ sh xs (i : Nat), ρ[i]? = some (.ow sh xs) → σ[i]? ≠ some (some (.ref p))) → (S' p = none ∧ ∀ sh xs (i : Nat), ρ'[i]? = some (.ow sh xs) → σ'[i]? ≠ some (some (.ref p))) ∨ False)
    : ∀ {rs : List R} {vs : List V}, (∀ i, .vw i ∉ rs) → RawRs Γ S H σ ρ rs vs → RawRs Γ S' H σ' ρ' rs vs
  | [], vs, _, h => h
  | r :: rs, vs, nv, h => by
    obtain ⟨v, us, rfl, h1, h2, h3⟩ := h
    refine ⟨v, us, rfl, ?_, RawRs.move x hs (fun i z => nv i (List.mem_cons_of_mem _ z)) h2, h3⟩
    cases r with
    | d d => exact Rep.mono x h1
    | vw i => exact absurd List.mem_cons_self (nv i)
    | ow sh xs =>
      obtain ⟨p, vs', e1, e2, e3, e4, e5, e6, e7, e8⟩ := h1
      rcases hs p e2 (fun sh xs i a => e8 i sh xs a) with ⟨a, b⟩ | z
      · exact ⟨p, vs', e1, a, e3, e4.mono x, e5, e6, e7, fun i sh xs c => b sh xs i c⟩
      · exact z.elim
theorem setAll_vw {io : Option Nat} : ∀ {ns : List (Nat × Bool)} {rs : List R} {ρ ρ' : List Sl}, setAll io ns rs ρ = .ok ρ' → ∀ i, .vw i ∉ rs
  | [], [], _, _, _, i => by simp
  | [], _ :: _, _, _, h, _ => by cases h
  | _ :: _, [], _, _, h, _ => by cases h
  | (j, b) :: ns, r :: rs, ρ, ρ', h, i => by
    obtain ⟨ρ1, e1, e2⟩ := ob_bind (show ((if b = true then gNm io j else gNs j) r ρ).bind _ = _ from h)
    intro z
    rcases List.mem_cons.mp z with z | z
    · subst z
      cases b <;> cases e1
    · exact setAll_vw e2 i z
theorem setAll_ok {Γ : Gr} {io : Option Nat} (hL : Lent Γ io) : ∀ {ns : List (Nat × Bool)} {rs : List R} {vs : List V} {S H : Hp} {σ : L2.St} {ρ ρ' : List Sl}, StOk Γ S H σ ρ → RawRs Γ S H σ ρ rs vs → setAll io ns rs ρ = .ok ρ' → ∃ S', Ex S S' ∧ StOk Γ S' H (setsV σ ns vs) ρ'
  | [], [], vs, S, H, σ, ρ, ρ', st, h, e => by
    have e : Out.ok ρ = Out.ok ρ' := e
    cases e
    exact ⟨S, Ex.refl S, st⟩
  | [], _ :: _, _, _, _, _, _, _, _, _, e => by cases e
  | _ :: _, [], _, _, _, _, _, _, _, _, e => by cases e
  | (i, b) :: ns, r :: rs, vs, S, H, σ, ρ, ρ', st, h, e => by
    obtain ⟨v, us, rfl, h1, h2, h3⟩ := h
    obtain ⟨ρ1, e1, e2⟩ := ob_bind (show ((if b = true then gNm io i else gNs i) r ρ).bind _ = _ from e)
    have nv := setAll_vw e2
    -- one step
    have step : ∃ S1, Ex S S1 ∧ StOk Γ S1 H (σ.set i (some v)) ρ1 ∧ RawRs Γ S1 H (σ.set i (some v)) ρ1 rs us := by
      have owd : ∀ d, ∀ p, S p = none → (∀ sh xs (j : Nat), ρ[j]? = some (.ow sh xs) → σ[j]? ≠ some (some (.ref p))) → ∀ sh xs (j : Nat), (ρ.set i (.st d))[j]? = some (.ow sh xs) → (σ.set i (some v))[j]? ≠ some (some (.ref p)) := by
        intro d p _ k sh xs j z
        rcases set_get z with ⟨_, _, w⟩ | ⟨w, z⟩
        · cases w
        · rw [List.getElem?_set_ne w]; exact k sh xs j z
      cases r with
      | vw j => cases b <;> cases e1
      | d d =>
        have e1 : ρ.set i (.st d) = ρ1 ∧ i < ρ.length := by
          cases b
          · have e1 : (if i < ρ.length then Out.ok (ρ.set i (.st d)) else .stuck) = .ok ρ1 := e1
            obtain ⟨c, e1⟩ := ite_ok e1; exact ⟨e1, c⟩
          · have e1 : (if i < ρ.length then Out.ok (ρ.set i (.st d)) else .stuck) = .ok ρ1 := e1
            obtain ⟨c, e1⟩ := ite_ok e1; exact ⟨e1, c⟩
        obtain ⟨rfl, c⟩ := e1
        exact ⟨S, Ex.refl S, st.setD h1 i c, h2.move (Ex.refl S) (fun p a k => .inl ⟨a, owd d p a k⟩) nv⟩
      | ow sh xs =>
        have hne : ∀ p, addrOf (.ow sh xs) v p → ∀ (j : Nat) r' v', rs[j]? = some r' → us[j]? = some v' → ¬ addrOf r' v' p := h3
        obtain ⟨p, vs', rfl, p1, p2, p3, p4, p5, p6, p7⟩ := id h1
        have hne := hne p rfl
        cases b with
        | true =>
          have e1 : (if i < ρ.length ∧ io ≠ some i then Out.ok (ρ.set i (.ow sh xs)) else .stuck) = .ok ρ1 := e1
          obtain ⟨c, rfl⟩ := ite_ok e1
          refine ⟨S, Ex.refl S, st.setO h1 i c.1 hL c.2, ?_⟩
          -- the others stand apart
          have mv : ∀ {rs : List R} {us : List V}, (∀ i, .vw i ∉ rs) → (∀ (j : Nat) r' v', rs[j]? = some r' → us[j]? = some v' → ¬ addrOf r' v' p) → RawRs Γ S H σ ρ rs us → RawRs Γ S H (σ.set i (some (.ref p))) (ρ.set i (.ow sh xs)) rs us := by
            intro rs
            induction rs with
            | nil => intro us _ _ h; exact h
            | cons r rs ih =>
              intro us nv hne h
              obtain ⟨w, ws, rfl, k1, k2, k3⟩ := h
              refine ⟨w, ws, rfl, ?_, ih (fun i z => nv i (List.mem_cons_of_mem _ z)) (fun j r' v' a b => hne (j + 1) r' v' (by simpa using a) (by simpa using b)) k2, k3⟩
              cases r with
              | d d => exact k1
              | vw i => exact absurd List.mem_cons_self (nv i)
              | ow sh' xs' =>
                obtain ⟨q, vq, rfl, q1, q2, q3, q4, q5, q6, q7⟩ := k1
                have nq : q ≠ p := fun z => hne 0 _ _ rfl rfl (show V.ref q = .ref p by rw [z])
                refine ⟨q, vq, rfl, q1, q2, q3, q4, q5, q6, fun j s t z => ?_⟩
                rcases set_get z with ⟨w1, w2, w⟩ | ⟨w, z⟩
                · subst w1
                  rw [List.getElem?_set_self (by rw [← st.len]; exact c.1)]
                  intro y
                  injection y with y; injection y with y; injection y with y
                  exact nq y.symm
                · rw [List.getElem?_set_ne w]; exact q7 j s t z
          exact mv nv hne h2
        | false =>
          have e1 : (if i < ρ.length then Out.ok (ρ.set i (.st (.ob sh xs))) else .stuck) = .ok ρ1 := e1
          obtain ⟨c, rfl⟩ := ite_ok e1
          have x := Ex.new (o := hoOf sh vs') p1
          have dm : ∃ S', S' = upd S p (hoOf sh vs') ∧ Ex S S' ∧ StOk Γ S' H σ ρ ∧ Rep Γ.K S' (.ob sh xs) (.ref p) := by
            refine ⟨_, rfl, x, ⟨⟨st.old.ex, st.old.tb, fun q ps z => ?_⟩, st.st.trans x, fun q b e => ?_, fun q u e => ?_, fun q b => ?_, st.al, st.len, fun i d e => ?_, fun i sh xs e => ?_, st.ne, st.io, st.io1⟩, ?_⟩
            · by_cases y : q = p
              · subst y; rw [upd_same] at z; exact hoOf_tbl ps (Option.some.inj z)
              · rw [upd_ne y] at z; exact st.old.nt q ps z
            · have : q ≠ p := fun z => by rw [z] at e; exact e p5
              rw [upd_ne this]; exact st.nw q b e
            · by_cases z : q = p
              · subst z; rw [upd_same] at e; rw [← e]; exact p2
              · rw [upd_ne z] at e; exact st.le q u e
            · have : q ≠ p := fun z => p4 (z ▸ b)
              rw [upd_ne this]; exact st.bb q b
            · obtain ⟨v, e1, e2⟩ := st.sd i d e
              exact ⟨v, e1, e2.mono x⟩
            · obtain ⟨q, us, e1, e2, e3, e4, e5⟩ := st.so i sh xs e
              have : q ≠ p := fun z => p7 i sh xs e (z ▸ e1)
              exact ⟨q, us, e1, by rw [upd_ne this]; exact e2, e3, e4.mono x, e5⟩
            · unfold Rep; exact ⟨p, vs', rfl, Sq.of upd_same, p3.mono x⟩
          obtain ⟨S', hS', xx, st', rv'⟩ := dm
          refine ⟨S', xx, st'.setD rv' i c, ?_⟩
          have mv : ∀ {rs : List R} {us : List V}, (∀ i, .vw i ∉ rs) → (∀ (j : Nat) r' v', rs[j]? = some r' → us[j]? = some v' → ¬ addrOf r' v' p) → RawRs Γ S H σ ρ rs us → RawRs Γ S' H (σ.set i (some (.ref p))) (ρ.set i (.st (.ob sh xs))) rs us := by
            intro rs
            induction rs with
            | nil => intro us _ _ h; exact h
            | cons r rs ih =>
              intro us nv hne h
              obtain ⟨w, ws, rfl, k1, k2, k3⟩ := h
              refine ⟨w, ws, rfl, ?_, ih (fun i z => nv i (List.mem_cons_of_mem _ z)) (fun j r' v' a b => hne (j + 1) r' v' (by simpa using a) (by simpa using b)) k2, k3⟩
              cases r with
              | d d => exact Rep.mono xx k1
              | vw i => exact absurd List.mem_cons_self (nv i)
              | ow sh' xs' =>
                obtain ⟨q, vq, rfl, q1, q2, q3, q4, q5, q6, q7⟩ := k1
                have nq : q ≠ p := fun z => hne 0 _ _ rfl rfl (show V.ref q = .ref p by rw [z])
                refine ⟨q, vq, rfl, by rw [hS', upd_ne nq]; exact q1, q2, q3.mono xx, q4, q5, q6, fun j s t z => ?_⟩
                rcases set_get z with ⟨w1, w2, w⟩ | ⟨w, z⟩
                · cases w
                · rw [List.getElem?_set_ne w]; exact q7 j s t z
          exact mv nv hne h2
    obtain ⟨S1, x1, st1, r1⟩ := step
    obtain ⟨S2, x2, st2⟩ := setAll_ok hL st1 r1 e2
    exact ⟨S2, x1.trans x2, st2⟩
def parM (io : Option Nat) (ns : List (Nat × Bool)) (ms : List (M R)) : SM := fun ρ => (rawM ms ρ).bind fun x => (setAll io ns x.1 x.2).bind fun ρ' => .ok (.nx ρ')
theorem tS_par {K : PySem.W.Frag} {io : Option Nat} {ns : List (Nat × Bool)} {ms : List (M R)} {D : Ends} {σ : L2.St} {H : Hp} (h : tSm K io (parM io ns ms) D σ H) : tRaw K io ms σ H fun vs H1 => D.nx (setsV σ ns vs) H1 := by
  obtain ⟨Γ, rfl, hL, S, ρ, st, q0⟩ := h
  obtain ⟨⟨rs, ρ1⟩, e1, q1⟩ := goS_bind q0
  obtain ⟨ρ', e2, q⟩ := goS_bind q1
  refine ⟨Γ, rfl, hL, S, ρ, st, ?_⟩
  rw [e1]
  intro vs S1 H1 x1 st1 r1
  obtain ⟨S2, x2, st2⟩ := setAll_ok hL st1 r1 e2
  exact q S2 H1 _ (x1.trans x2) st2
end Tp
set_option Elab.async false
set_option linter.all false
set_option maxRecDepth 100000
set_option maxHeartbeats 4000000
namespace Tp
open PySem PySem.Spec PyProof.Rows L2
open Evl (Ex)

/-! ### the inner form of a def -/
inductive E where
  | v (i : Nat) | k (d : D) | g (n : Nat) | ty (t : Ty) | neg (a : E) | bin (op : Operator) (a b : E) | cmp (op : CmpOp) (a b : E) | chn (op op' : CmpOp) (a b c : E)
  | and (a b : E) | or (a b : E) | not (a : E) | ife (t a b : E) | tup (as : E) | lst (as : E) | nil | cons (a r : E) | ix (a b : E) | sl (a lo hi : E)
  | call (j : Nat) (as : E) | callk (j : Nat) (as ks : E) | bi (b : Bi) (as : E) | lc (vs : List Nat) (tg : List Nat) (tt : Bool) (it t e : E) | app (i : Nat) (a : E) | pop (i : Nat) | ext (i : Nat) (a : E)
  | hole | fw (a : E) | rev (a : E)
  | tr (a : E) | one (a : E) | pt (a : E) | it (a : E) | rng (as : E) | enm (as : E) | zip (as : E)
structure KCal where
  c : Cal
  np : Nat
  names : List Str
  perm : List Nat
/-- a lambda that is handed to first_wrong: how its text is looked at, what it tells of an item and the row ahead of it -/
structure Fw where
  chk : Expr → Bool
  fn : List Sl → Out (R × List Sl)
structure Cfg where
  io : Option Nat
  C : List Cal
  KC : List KCal
  G : List (Str × D)
  bis : List Bi
  tys : List Ty
  its : Bool
  hole : Option (M R) := none
  fw : Option Fw := none
/-- no lambda, none that is called -/
def plainC (c : Cfg) : Bool := c.hole.isNone && c.fw.isNone
/-- the first item that is not as it should be -/
def fwF (g : List Sl → Out (R × List Sl)) (all : List D) : List D → Nat → Out D
  | [], _ => .ok .non
  | d :: ds, i => (g [.st d, .st (.tup (cutL all none (some (i : Int))))]).bind fun y => match y.1 with
    | .d (.bl b) => if b = true then fwF g all ds (i + 1) else .ok (.int (i : Nat))
    | _ => .stuck
def fwM (g : List Sl → Out (R × List Sl)) (ma : M R) : M R := fun ρ => (ma ρ).bind fun x => match x.1.hand with
  | .d (.ob .tup ds) => if ds.length ≤ 10000 then (fwF g ds ds 0).bind fun r => .ok (.d r, x.2) else .stuck
  | _ => .stuck
/-- is_right(each, value[:index]) -/
def isHole : Expr → Bool
  | .Call (.Name f _) [.Name e _, .Subscript (.Name v _) (.Slice none (some (.Name i _)) none _) _] [] _ => decide (f = "is_right") && (decide (e = "each") && (decide (v = "value") && decide (i = "index")))
  | _ => false
def dFw : Expr → Option (Str × Expr × Expr)
  | .Call (.Name f _) [x, l] [] _ => some (f, x, l)
  | _ => none
def stkM {α : Type} : M α := fun _ => .stuck
def dM (d : D) : M R := fun ρ => .ok (.d d, ρ)
def negD : D → Out R
  | .int i => .ok (.d (.int (-i)))
  | _ => .stuck
def boolD : D → Out Bool
  | .bl b => .ok b
  | _ => .stuck
def chnM (g g' : D → D → Out Bool) (ma mb mc : M R) : M R := fun ρ => (ma ρ).bind fun x => (mb x.2).bind fun y => (x.1.hand.val y.2).bind fun a => (y.1.hand.val y.2).bind fun b => (g a b).bind fun r => if r = true then
  (mc y.2).bind fun z => (y.1.hand.val z.2).bind fun b' => (z.1.hand.val z.2).bind fun c => (g' b' c).bind fun r' => .ok (.d (.bl r'), z.2) else .ok (.d (.bl false), y.2)
def andM (ma mb : M R) : M R := fun ρ => (ma ρ).bind fun x => (x.1.val x.2).bind fun d => (boolD d).bind fun b => if b = true then mb x.2 else .ok (.d (.bl false), x.2)
def orM (ma mb : M R) : M R := fun ρ => (ma ρ).bind fun x => (x.1.val x.2).bind fun d => (boolD d).bind fun b => if b = true then .ok (.d (.bl true), x.2) else mb x.2
def notD (d : D) : Out R := (boolD d).bind fun b => .ok (.d (.bl (!b)))
def ifeM (t : M Bool) (ma mb : M R) : M R := fun ρ => (t ρ).bind fun x => if x.1 = true then ma x.2 else mb x.2
def tupM (ma : M (List R)) : M R := fun ρ => (ma ρ).bind fun x => (stable x.1).bind fun ds => if ds.length ≤ sizeLine then .ok (.d (.tup ds), x.2) else .stuck
where stable : List R → Out (List D)
  | [] => .ok []
  | .d d :: rs => (stable rs).bind fun ds => .ok (d :: ds)
  | _ => .stuck
def lstM (ma : M (List R)) : M R := fun ρ => (ma ρ).bind fun x => (tupM.stable x.1).bind fun ds => if ds.length ≤ sizeLine then .ok (.ow .lst ds, x.2) else .stuck
def partM (m : M R) : M (Option Int) := fun ρ => (m ρ).bind fun x => (x.1.val x.2).bind fun d => match d with
  | .int i => .ok (some i, x.2)
  | _ => .stuck
def noPart : M (Option Int) := fun ρ => .ok (none, ρ)
def slM (ma : M R) (ml mh : M (Option Int)) : M R := fun ρ => (ma ρ).bind fun x => (ml x.2).bind fun l => (mh l.2).bind fun h => (x.1.hand.val h.2).bind fun d => (slD d l.1 h.1).bind fun r => .ok (r, h.2)
def appM (i : Nat) (ma : M R) : M R := fun ρ => match ρ[i]? with
  | some (.ow .lst _) => (ma ρ).bind fun y => match y.1.hand, y.2[i]? with
    | .d x, some (.ow .lst xs) => if xs.length < sizeLine then .ok (.d .non, y.2.set i (.ow .lst (xs ++ [x]))) else .stuck
    | _, _ => .stuck
  | _ => .stuck
def extM (i : Nat) (ma : M R) : M R := fun ρ => match ρ[i]? with
  | some (.ow .lst _) => (ma ρ).bind fun y => match y.1.hand, y.2[i]? with
    | .d (.ob .lst ys), some (.ow .lst xs) => if xs.length + ys.length ≤ sizeLine then .ok (.d .non, y.2.set i (.ow .lst (xs ++ ys))) else .stuck
    | _, _ => .stuck
  | _ => .stuck
def popM (i : Nat) : M R := fun ρ => match ρ[i]? with
  | some (.ow .lst xs) => (ofO xs[xs.length - 1]?).bind fun d => .ok (.d d, ρ.set i (.ow .lst xs.dropLast))
  | _ => .stuck
def appendM (ma mb : M (List R)) : M (List R) := fun ρ => (ma ρ).bind fun x => (mb x.2).bind fun y => .ok (x.1 ++ y.1, y.2)
def permL {α : Type} (l : List α) : List Nat → Option (List α)
  | [] => some []
  | i :: is => l[i]?.bind fun a => (permL l is).bind fun r => some (a :: r)
def permM (p : List Nat) (ma : M (List R)) : M (List R) := fun ρ => (ma ρ).bind fun x => (ofO (permL x.1 p)).bind fun rs => .ok (rs, x.2)
def tgNm (tg : List Nat) (tt : Bool) : GM := if tt = true then gTupM (tg.map gNs) else match tg with
  | [i] => gNs i
  | _ => fun _ _ => .stuck
def truM (ma : M R) : M Bool := fun ρ => (ma ρ).bind fun x => (x.1.hand.val x.2).bind fun d => (truthD d).bind fun b => .ok (b, x.2)
def andB (ma mb : M Bool) : M Bool := fun ρ => (ma ρ).bind fun x => if x.1 = true then mb x.2 else .ok (false, x.2)
def orB (ma mb : M Bool) : M Bool := fun ρ => (ma ρ).bind fun x => if x.1 = true then .ok (true, x.2) else mb x.2
def notB (ma : M Bool) : M Bool := fun ρ => (ma ρ).bind fun x => .ok (!x.1, x.2)
section
variable (c : Cfg)
mutual
def evE : E → M R
  | .v i => varM i
  | .k d => dM d
  | .g n => match c.G[n]? with
    | some p => dM p.2
    | none => stkM
  | .ty t => dM (.ty t)
  | .neg a => unM negD (evE a)
  | .bin op a b => opM (binop op) (evE a) (evE b)
  | .cmp op a b => opM (gB (cmpop op)) (evE a) (evE b)
  | .chn op op' a b d => chnM (cmpop op) (cmpop op') (evE a) (evE b) (evE d)
  | .and a b => andM (evE a) (evE b)
  | .or a b => orM (evE a) (evE b)
  | .not a => unM notD (evE a)
  | .one a => evE a
  | .ife t a b => ifeM (evB t) (evE a) (evE b)
  | .tup as => tupM (evA as)
  | .lst as => lstM (evA as)
  | .ix a b => opM ixD (evE a) (evE b)
  | .sl a lo hi => slM (evE a) (evO lo) (evO hi)
  | .call j as => match c.C[j]? with
    | some k => callM k (evA as)
    | none => stkM
  | .callk j as ks => match c.KC[j]? with
    | some k => callM k.c (permM k.perm (appendM (evA as) (evA ks)))
    | none => stkM
  | .bi b as => biM (biD b) (evA as)
  | .lc vs tg tt it t e => compM vs (evI it) (tgNm tg tt) (evT t) (evE e)
  | .app i a => appM i (evE a)
  | .ext i a => extM i (evE a)
  | .pop i => popM i
  | .hole => match c.hole with
    | some m => m
    | none => stkM
  | .fw a => match c.fw with
    | some w => fwM w.fn (evE a)
    | none => stkM
  | .rev a => unM revD (evE a)
  | _ => stkM
def evA : E → M (List R)
  | .nil => nilM
  | .cons a r => consM (evE a) (evA r)
  | _ => stkM
def evO : E → M (Option Int)
  | .nil => noPart
  | .pt a => partM (evE a)
  | _ => stkM
def evB : E → M Bool
  | .and a b => andB (evB a) (evB b)
  | .or a b => orB (evB a) (evB b)
  | .not a => notB (evB a)
  | .tr a => truM (evE a)
  | .one a => evB a
  | _ => stkM
def evT : E → M Bool
  | .nil => yesM
  | .cons a _ => evB a
  | _ => stkM
def evI : E → M (List D)
  | .it a => itM c.io (evE a)
  | .rng as => rngM (evA as)
  | .enm as => enumM (evA as)
  | .zip as => zipM (evA as)
  | _ => stkM
end
end
/-! ### the text against the inner form -/
def visS (sc : Scope) (x : Str) : Bool := decide (sc.names.lookup x = some .local) || (decide (sc.names.lookup x = some .cell) || decide (sc.names.lookup x = some .free))
def locS (sc : Scope) (x : Str) : Bool := decide (sc.names.lookup x = some .local) || decide (sc.names.lookup x = some .cell)
def glS (sc : Scope) (x : Str) : Bool := decide (sc.names.lookup x = some .globalImplicit)
def okNm (x : Str) : Bool := !(x == ("__debug__" : Str)) && !(x == ("__classdict__" : Str)) && decide (x ≠ ("__name__" : Str))
def Bi.name : Bi → Str
  | .len => "len"
  | .abs => "abs"
  | .max => "max"
  | .min => "min"
  | .sum => "sum"
  | .divmod => "divmod"
  | .comb => "comb"
  | .gcd => "gcd"
  | .repr => "repr"
  | .int => "int"
  | .isinstance => "isinstance"
  | .all => "all"
  | .any => "any"
  | .list => "list"
  | .tuple => "tuple"
  | .sorted => "sorted"
def lenE : E → Nat
  | .cons _ r => lenE r + 1
  | _ => 0
def plainE : Expr → Bool
  | .Name .. => true
  | .Constant .. => true
  | .BinOp .. => true
  | .UnaryOp .. => true
  | .BoolOp .. => true
  | .Compare .. => true
  | .Call .. => true
  | .IfExp .. => true
  | .Tuple .. => true
  | .List .. => true
  | .Subscript .. => true
  | .ListComp .. => true
  | _ => false
/-- its truth is its value's, or it is a comparison -/
def truOk : Expr → Bool
  | .Name .. => true
  | .Constant .. => true
  | .BinOp .. => true
  | .UnaryOp .USub _ _ => true
  | .Compare .. => true
  | .Call .. => true
  | .Tuple .. => true
  | .List .. => true
  | .Subscript .. => true
  | .ListComp .. => true
  | _ => false
def chkNm (N : List Str) (sc : Scope) (i : Nat) : Expr → Bool
  | .Name x _ => decide (N[i]? = some x) && locS sc x
  | _ => false
def chkNms (N : List Str) (sc : Scope) : List Nat → List Expr → Bool
  | [], [] => true
  | i :: is, x :: xs => chkNm N sc i x && chkNms N sc is xs
  | _, _ => false
def chkTg (N : List Str) (sc : Scope) (tg : List Nat) (tt : Bool) : Expr → Bool
  | .Tuple xs _ _ => tt && chkNms N sc tg xs
  | x => !tt && (match tg with
    | [i] => chkNm N sc i x
    | _ => false)
def kwE : List Keyword → List Expr
  | [] => []
  | k :: ks => k.value :: kwE ks
def kwN : List Keyword → Option (List Str)
  | [] => some []
  | k :: ks => k.arg.bind fun a => (kwN ks).bind fun r => some (a :: r)
/-! taking a text apart -/
def dName : Expr → Option Str
  | .Name x _ => some x
  | _ => none
def dConst : Expr → Option Const
  | .Constant k _ _ => some k
  | _ => none
def dBin : Expr → Option (Expr × Operator × Expr)
  | .BinOp x op y _ => some (x, op, y)
  | _ => none
def dNeg : Expr → Option Expr
  | .UnaryOp .USub x _ => some x
  | _ => none
def dNot : Expr → Option Expr
  | .UnaryOp .Not x _ => some x
  | _ => none
def dCmp1 : Expr → Option (Expr × CmpOp × Expr)
  | .Compare x [op] [y] _ => some (x, op, y)
  | _ => none
def dCmp2 : Expr → Option (Expr × CmpOp × Expr × CmpOp × Expr)
  | .Compare x [p, q] [y, z] _ => some (x, p, y, q, z)
  | _ => none
/-- the first of several, the rest as a text -/
def dAnd : Expr → Option (Expr × Expr)
  | .BoolOp .And (x :: y :: rest) p => some (x, .BoolOp .And (y :: rest) p)
  | _ => none
def dOr : Expr → Option (Expr × Expr)
  | .BoolOp .Or (x :: y :: rest) p => some (x, .BoolOp .Or (y :: rest) p)
  | _ => none
def dOne : Expr → Option Expr
  | .BoolOp _ [x] _ => some x
  | _ => none
def dIf : Expr → Option (Expr × Expr × Expr)
  | .IfExp x y z _ => some (x, y, z)
  | _ => none
def dTup : Expr → Option (List Expr)
  | .Tuple xs _ _ => some xs
  | _ => none
def dLst : Expr → Option (List Expr)
  | .List xs _ => some xs
  | _ => none
def dIx : Expr → Option (Expr × Expr)
  | .Subscript x y _ => some (x, y)
  | _ => none
def dSlice : Expr → Option (Option Expr × Option Expr)
  | .Slice l h .none _ => some (l, h)
  | _ => none
def dRev : Expr → Option (Expr × Int)
  | .Subscript x (.Slice .none .none (some (.UnaryOp .USub (.Constant (.int i) _ _) _)) _) _ => some (x, i)
  | _ => none
def dCall : Expr → Option (Expr × List Expr × List Keyword)
  | .Call f xs ks _ => some (f, xs, ks)
  | _ => none
def dAttr : Expr → Option (Expr × Str)
  | .Attribute x m _ => some (x, m)
  | _ => none
def dLc : Expr → Option (Expr × List Comprehension × Scope)
  | .ListComp e gs sc _ => some (e, gs, sc)
  | _ => none
def dNamed (e : Expr) : Option (Str × List Expr × List Keyword) := (dCall e).bind fun t => (dName t.1).bind fun x => some (x, t.2.1, t.2.2)
/-- a method is named on the line that its call begins on -/
def mLine : Expr → Bool
  | .Call (.Attribute _ _ r) _ _ q => r.endLine == q.line
  | _ => false
def dMeth (e : Expr) : Option (Str × Str × List Expr) := (dCall e).bind fun t => (dAttr t.1).bind fun u => (dName u.1).bind fun x => if (t.2.2.isEmpty && mLine e) = true then some (x, u.2, t.2.1) else none
def noKw (ks : List Keyword) : Bool := ks.isEmpty
def oAll {α : Type} (o : Option α) (p : α → Bool) : Bool := match o with
  | some a => p a
  | none => false
def chkK : D → Const → Bool
  | .int i, .int j => decide (i = j)
  | .str i, .str j => decide (i = j)
  | .bl i, .bool j => decide (i = j)
  | .non, .none => true
  | _, _ => false
def one? {α : Type} : List α → Option α
  | [a] => some a
  | _ => none
def isOne {α : Type} : List α → Bool
  | [_] => true
  | _ => false
def isTwo {α : Type} : List α → Bool
  | [_, _] => true
  | _ => false
section
variable (N : List Str) (c : Cfg)
def chkVar (sc : Scope) (i : Nat) (x : Str) : Bool := decide (N[i]? = some x) && (visS sc x && okNm x)
mutual
def chkE (sc : Scope) : E → Expr → Bool
  | .v i, e => oAll (dName e) fun x => chkVar N sc i x
  | .k d, e => oAll (dConst e) fun k => chkK d k
  | .g n, e => oAll (dName e) fun x => oAll c.G[n]? (fun p => decide (p.1 = x)) && (glS sc x && okNm x)
  | .ty t, e => oAll (dName e) fun x => decide (x = Str.ofString t.name) && (decide (t ∈ c.tys) && (glS sc x && okNm x))
  | .neg a, e => oAll (dNeg e) fun x => chkE sc a x
  | .bin op a b, e => oAll (dBin e) fun t => decide (op = t.2.1) && (chkE sc a t.1 && chkE sc b t.2.2)
  | .cmp op a b, e => oAll (dCmp1 e) fun t => decide (op = t.2.1) && (chkE sc a t.1 && chkE sc b t.2.2)
  | .chn o1 o2 a b d, e => oAll (dCmp2 e) fun t => (decide (o1 = t.2.1) && decide (o2 = t.2.2.2.1)) && (chkE sc a t.1 && (chkE sc b t.2.2.1 && chkE sc d t.2.2.2.2))
  | .and a b, e => oAll (dAnd e) fun t => chkE sc a t.1 && chkE sc b t.2
  | .or a b, e => oAll (dOr e) fun t => chkE sc a t.1 && chkE sc b t.2
  | .one a, e => oAll (dOne e) fun x => chkE sc a x
  | .not a, e => oAll (dNot e) fun x => chkE sc a x
  | .ife t a b, e => oAll (dIf e) fun u => chkB sc t u.1 && (chkE sc a u.2.1 && chkE sc b u.2.2)
  | .tup as, e => oAll (dTup e) fun xs => chkA sc as xs
  | .lst as, e => oAll (dLst e) fun xs => chkA sc as xs
  | .ix a b, e => oAll (dIx e) fun t => chkE sc a t.1 && chkE sc b t.2
  | .sl a lo hi, e => oAll (dIx e) fun t => oAll (dSlice t.2) fun u => chkE sc a t.1 && (chkO sc lo u.1 && chkO sc hi u.2)
  | .call j as, e => oAll (dNamed e) fun t => oAll c.C[j]? (fun k => decide (k.name = t.1) && decide (lenE as + k.ds.length = k.n)) && ((noKw t.2.2 && (glS sc t.1 && okNm t.1)) && chkA sc as t.2.1)
  | .callk j as ks, e => oAll (dNamed e) fun t => oAll c.KC[j]? (fun k => (decide (k.c.name = t.1) && decide (k.c.ds.length = 0)) && (decide (lenE as = k.np) && (decide (kwN t.2.2 = some k.names) && decide (k.perm.length = k.c.n)))) && ((glS sc t.1 && okNm t.1) && (chkA sc as t.2.1 && chkA sc ks (kwE t.2.2)))
  | .bi b as, e => oAll (dNamed e) fun t => (decide (t.1 = b.name) && decide (b ∈ c.bis)) && ((noKw t.2.2 && (!t.2.1.isEmpty && (glS sc t.1 && okNm t.1))) && chkA sc as t.2.1)
  | .lc vs tg tt it t el, e => oAll (dLc e) fun u => oAll (one? u.2.1) fun g => ((plainC c && blkC N sc u.2.2 (vs.map fun i => (N.getD i "", i))) && (decide (g.is_async = 0) && (decide (∀ j ∈ tg, j ∈ vs) && chkTg N u.2.2 tg tt g.target))) && (chkI sc g.target it g.iter && (chkE (relS u.2.2 sc) el u.1 && chkT (relS u.2.2 sc) t g.ifs))
  | .hole, e => isHole e
  | .rev a, e => oAll (dRev e) fun t => decide (t.2 = 1) && chkE sc a t.1
  | .fw a, e => oAll (dFw e) fun t => oAll c.fw (fun w => w.chk t.2.2) && ((decide (t.1 = "first_wrong") && glS sc t.1) && chkE sc a t.2.1)
  | .app i a, e => oAll (dMeth e) fun t => (chkVar N sc i t.1 && decide (t.2.1 = "append")) && oAll (one? t.2.2) fun y => chkE sc a y
  | .ext i a, e => oAll (dMeth e) fun t => (chkVar N sc i t.1 && decide (t.2.1 = "extend")) && oAll (one? t.2.2) fun y => chkE sc a y
  | .pop i, e => oAll (dMeth e) fun t => (chkVar N sc i t.1 && decide (t.2.1 = "pop")) && t.2.2.isEmpty
  | _, _ => false
def chkA (sc : Scope) : E → List Expr → Bool
  | .nil, xs => xs.isEmpty
  | .cons a r, xs => oAll xs.head? fun x => chkE sc a x && chkA sc r xs.tail
  | _, _ => false
def chkO (sc : Scope) : E → Option Expr → Bool
  | .nil, x => x.isNone
  | .pt a, x => oAll x fun e => chkE sc a e
  | _, _ => false
def chkB (sc : Scope) : E → Expr → Bool
  | .and a b, e => oAll (dAnd e) fun t => chkB sc a t.1 && chkB sc b t.2
  | .or a b, e => oAll (dOr e) fun t => chkB sc a t.1 && chkB sc b t.2
  | .one a, e => oAll (dOne e) fun x => chkB sc a x
  | .not a, e => oAll (dNot e) fun x => chkB sc a x
  | .tr a, e => truOk e && chkE sc a e
  | _, _ => false
def chkT (sc : Scope) : E → List Expr → Bool
  | .nil, xs => xs.isEmpty
  | .cons a _, xs => oAll (one? xs) fun x => chkB sc a x
  | _, _ => false
def chkI (sc : Scope) (tg : Expr) : E → Expr → Bool
  | .it a, e => chkE sc a e
  | .rng as, e => oAll (dNamed e) fun t => (decide (t.1 = "range") && (c.its && (noKw t.2.2 && glS sc t.1))) && ((isOne t.2.1 || isTwo t.2.1) && chkA sc as t.2.1)
  | .enm as, e => oAll (dTup tg) fun _ => oAll (dNamed e) fun t => (decide (t.1 = "enumerate") && (c.its && (noKw t.2.2 && glS sc t.1))) && (isOne t.2.1 && chkA sc as t.2.1)
  | .zip as, e => oAll (dTup tg) fun _ => oAll (dNamed e) fun t => (decide (t.1 = "zip") && (c.its && (noKw t.2.2 && glS sc t.1))) && (isTwo t.2.1 && chkA sc as t.2.1)
  | _, _ => false
end
end
theorem oAll_ok {α : Type} {o : Option α} {p : α → Bool} (h : oAll o p = true) : ∃ a, o = some a ∧ p a = true := by
  cases o with
  | none => cases h
  | some a => exact ⟨a, rfl, h⟩
theorem dName_ok {e : Expr} {x : Str} (h : dName e = some x) : ∃ p, e = .Name x p := by
  unfold dName at h; split at h <;> first | (cases h; done) | (cases h; exact ⟨_, rfl⟩)
theorem dConst_ok {e : Expr} {x : Const} (h : dConst e = some x) : ∃ j p, e = .Constant x j p := by
  unfold dConst at h; split at h <;> first | (cases h; done) | (cases h; exact ⟨_, _, rfl⟩)
theorem dBin_ok {e : Expr} {t : Expr × Operator × Expr} (h : dBin e = some t) : ∃ p, e = .BinOp t.1 t.2.1 t.2.2 p := by
  unfold dBin at h; split at h <;> first | (cases h; done) | (cases h; exact ⟨_, rfl⟩)
theorem dNeg_ok {e x : Expr} (h : dNeg e = some x) : ∃ p, e = .UnaryOp .USub x p := by
  unfold dNeg at h; split at h <;> first | (cases h; done) | (cases h; exact ⟨_, rfl⟩)
theorem dNot_ok {e x : Expr} (h : dNot e = some x) : ∃ p, e = .UnaryOp .Not x p := by
  unfold dNot at h; split at h <;> first | (cases h; done) | (cases h; exact ⟨_, rfl⟩)
theorem dCmp1_ok {e : Expr} {t : Expr × CmpOp × Expr} (h : dCmp1 e = some t) : ∃ p, e = .Compare t.1 [t.2.1] [t.2.2] p := by
  unfold dCmp1 at h; split at h <;> first | (cases h; done) | (cases h; exact ⟨_, rfl⟩)
theorem dCmp2_ok {e : Expr} {t : Expr × CmpOp × Expr × CmpOp × Expr} (h : dCmp2 e = some t) : ∃ p, e = .Compare t.1 [t.2.1, t.2.2.2.1] [t.2.2.1, t.2.2.2.2] p := by
  unfold dCmp2 at h; split at h <;> first | (cases h; done) | (cases h; exact ⟨_, rfl⟩)
theorem dAnd_ok {e : Expr} {t : Expr × Expr} (h : dAnd e = some t) : ∃ y r p, e = .BoolOp .And (t.1 :: y :: r) p ∧ t.2 = .BoolOp .And (y :: r) p := by
  unfold dAnd at h; split at h <;> first | (cases h; done) | (cases h; exact ⟨_, _, _, rfl, rfl⟩)
theorem dOr_ok {e : Expr} {t : Expr × Expr} (h : dOr e = some t) : ∃ y r p, e = .BoolOp .Or (t.1 :: y :: r) p ∧ t.2 = .BoolOp .Or (y :: r) p := by
  unfold dOr at h; split at h <;> first | (cases h; done) | (cases h; exact ⟨_, _, _, rfl, rfl⟩)
theorem dOne_ok {e x : Expr} (h : dOne e = some x) : ∃ o p, e = .BoolOp o [x] p := by
  unfold dOne at h; split at h <;> first | (cases h; done) | (cases h; exact ⟨_, _, rfl⟩)
theorem dIf_ok {e : Expr} {t : Expr × Expr × Expr} (h : dIf e = some t) : ∃ p, e = .IfExp t.1 t.2.1 t.2.2 p := by
  unfold dIf at h; split at h <;> first | (cases h; done) | (cases h; exact ⟨_, rfl⟩)
theorem dTup_ok {e : Expr} {t : List Expr} (h : dTup e = some t) : ∃ k p, e = .Tuple t k p := by
  unfold dTup at h; split at h <;> first | (cases h; done) | (cases h; exact ⟨_, _, rfl⟩)
theorem dLst_ok {e : Expr} {t : List Expr} (h : dLst e = some t) : ∃ p, e = .List t p := by
  unfold dLst at h; split at h <;> first | (cases h; done) | (cases h; exact ⟨_, rfl⟩)
theorem dIx_ok {e : Expr} {t : Expr × Expr} (h : dIx e = some t) : ∃ p, e = .Subscript t.1 t.2 p := by
  unfold dIx at h; split at h <;> first | (cases h; done) | (cases h; exact ⟨_, rfl⟩)
theorem dSlice_ok {e : Expr} {t : Option Expr × Option Expr} (h : dSlice e = some t) : ∃ p, e = .Slice t.1 t.2 none p := by
  unfold dSlice at h; split at h <;> first | (cases h; done) | (cases h; exact ⟨_, rfl⟩)
theorem dRev_ok {e : Expr} {t : Expr × Int} (h : dRev e = some t) : ∃ p1 p2 p3 p4 k, e = .Subscript t.1 (.Slice none none (some (.UnaryOp .USub (.Constant (.int t.2) k p1) p2)) p3) p4 := by
  unfold dRev at h; split at h <;> first | (cases h; done) | (cases h; exact ⟨_, _, _, _, _, rfl⟩)
theorem dCall_ok {e : Expr} {t : Expr × List Expr × List Keyword} (h : dCall e = some t) : ∃ p, e = .Call t.1 t.2.1 t.2.2 p := by
  unfold dCall at h; split at h <;> first | (cases h; done) | (cases h; exact ⟨_, rfl⟩)
theorem dAttr_ok {e : Expr} {t : Expr × Str} (h : dAttr e = some t) : ∃ p, e = .Attribute t.1 t.2 p := by
  unfold dAttr at h; split at h <;> first | (cases h; done) | (cases h; exact ⟨_, rfl⟩)
theorem dLc_ok {e : Expr} {t : Expr × List Comprehension × Scope} (h : dLc e = some t) : ∃ p, e = .ListComp t.1 t.2.1 t.2.2 p := by
  unfold dLc at h; split at h <;> first | (cases h; done) | (cases h; exact ⟨_, rfl⟩)
theorem obind {α β : Type} {o : Option α} {f : α → Option β} {b : β} (h : o.bind f = some b) : ∃ a, o = some a ∧ f a = some b := by
  cases o with
  | none => cases h
  | some a => exact ⟨a, rfl, h⟩
theorem dFw_ok {e : Expr} {t : Str × Expr × Expr} (h : dFw e = some t) : ∃ p q, e = .Call (.Name t.1 p) [t.2.1, t.2.2] [] q := by
  unfold dFw at h; split at h <;> first | (cases h; done) | (cases h; exact ⟨_, _, rfl⟩)
theorem dNamed_ok {e : Expr} {t : Str × List Expr × List Keyword} (h : dNamed e = some t) : ∃ p q, e = .Call (.Name t.1 p) t.2.1 t.2.2 q := by
  obtain ⟨u, h1, h⟩ := obind h
  obtain ⟨x, h2, h⟩ := obind h
  cases h
  obtain ⟨q, e1⟩ := dCall_ok h1
  obtain ⟨p, e2⟩ := dName_ok h2
  exact ⟨p, q, by rw [e1, e2]⟩
theorem dMeth_ok {e : Expr} {t : Str × Str × List Expr} (h : dMeth e = some t) : ∃ p r q, e = .Call (.Attribute (.Name t.1 p) t.2.1 r) t.2.2 [] q ∧ (r.endLine == q.line) = true := by
  obtain ⟨u, h1, h⟩ := obind h
  obtain ⟨w, h2, h⟩ := obind h
  obtain ⟨x, h3, h⟩ := obind h
  split at h
  · rename_i hk
    cases h
    obtain ⟨q, e1⟩ := dCall_ok h1
    obtain ⟨r, e2⟩ := dAttr_ok h2
    obtain ⟨p, e3⟩ := dName_ok h3
    rw [Bool.and_eq_true] at hk
    have : u.2.2 = [] := List.isEmpty_iff.mp hk.1
    have e4 : e = .Call (.Attribute (.Name x p) w.2 r) u.2.1 [] q := by rw [e1, e2, e3, this]
    exact ⟨p, r, q, e4, by have h5 := hk.2; rw [e4] at h5; exact h5⟩
  · cases h
theorem one_ok {α : Type} {l : List α} {a : α} (h : one? l = some a) : l = [a] := by
  unfold one? at h; split at h <;> first | (cases h; done) | (cases h; rfl)
theorem noKw_ok {ks : List Keyword} (h : noKw ks = true) : ks = [] := List.isEmpty_iff.mp h
end Tp
set_option Elab.async false
set_option linter.all false
set_option maxRecDepth 100000
set_option maxHeartbeats 4000000
namespace Tp
open PySem PySem.Spec PyProof.Rows L2
open Evl (Ex)

section
variable {K : PySem.W.Frag} {io : Option Nat} {σ : L2.St} {H : Hp}
theorem tR_d {d : D} {Q : VK} (v : V) (hv : ∀ H, Rep K H d v) (h : tR K io (dM d) σ H Q) : Q v H := by
  obtain ⟨Γ, rfl, hL, S, ρ, st, q⟩ := h
  exact q v S H (Ex.refl S) st (hv S)
theorem rO_bl {Γ : Gr} {S H : Hp} {σ : L2.St} {ρ : List Sl} {g : D → D → Out Bool} {a b : D} {x y : V} {r : Bool} {Q : VK} (st : StOk Γ S H σ ρ) (ra : RepW Γ.K S H a x) (rb : RepW Γ.K S H b y) (e : g a b = .ok r)
    (q : ∀ S' H', Ex S S' → StOk Γ S' H' σ ρ → Q (.bl r) H') : rO Γ.K (gB g) x y H Q :=
  ⟨Γ, S, σ, ρ, a, b, .d (.bl r), rfl, st, ra, rb, by unfold gB; rw [e]; rfl, fun v S' H' x' st' rv => by
    have rv : Rep Γ.K S' (.bl r) v := rv
    unfold Rep at rv
    rw [rv]
    exact q S' H' x' st'⟩
theorem tR_chn {g g' : D → D → Out Bool} {ma mb mc : M R} {Q : VK} (h : tR K io (chnM g g' ma mb mc) σ H Q) : tChain (rO K (gB g)) (rO K (gB g')) (tR K io ma) (tR K io mb) (tR K io mc) σ H Q := by
  obtain ⟨Γ, rfl, hL, S, ρ, st, q0⟩ := h
  obtain ⟨x, e1, q1⟩ := goR_bind q0
  obtain ⟨y, e2, q2⟩ := goR_bind q1
  obtain ⟨a, e3, q3⟩ := goR_bind q2
  obtain ⟨b, e4, q4⟩ := goR_bind q3
  obtain ⟨r, e5, q5⟩ := goR_bind q4
  refine tR_first hL st e1 fun v S1 H1 x1 st1 r1 => ?_
  refine tR_first hL st1 e2 fun u S2 H2 x2 st2 r2 => ?_
  refine rO_bl st2 (RepR.w st2 (r1.later x2) e3) (RepR.w st2 r2 e4) e5 fun S3 H3 x3 st3 => ⟨r, rfl, ?_⟩
  have q6 := goR_of q5 ((x1.trans x2).trans x3)
  cases r with
  | false => exact q6 (.bl false) S3 H3 (Ex.refl S3) st3 (show Rep Γ.K S3 (.bl false) (.bl false) by unfold Rep; rfl)
  | true =>
    rw [if_pos rfl]
    rw [if_pos rfl] at q6
    obtain ⟨z, e6, q7⟩ := goR_bind q6
    obtain ⟨b', e7, q8⟩ := goR_bind q7
    obtain ⟨c, e8, q9⟩ := goR_bind q8
    obtain ⟨r', e9, q10⟩ := goR_bind q9
    refine tR_first hL st3 e6 fun w S4 H4 x4 st4 r4 => ?_
    exact rO_bl st4 (RepR.w st4 (r2.later (x3.trans x4)) e7) (RepR.w st4 r4 e8) e9 fun S5 H5 x5 st5 => q10 (.bl r') S5 H5 (x4.trans x5) st5 (show Rep Γ.K S5 (.bl r') (.bl r') by unfold Rep; rfl)
/-- a value that is True or False -/
theorem tR_bool {m : M R} {Γ : Gr} {S : Hp} {ρ : List Sl} {x : R × List Sl} {d : D} {b : Bool} {Q : VK} (hL : Lent Γ io) (st : StOk Γ S H σ ρ) (e : m ρ = .ok x) (e2 : x.1.val x.2 = .ok d) (e3 : boolD d = .ok b)
    (k : ∀ S1 H1, Ex S S1 → StOk Γ S1 H1 σ x.2 → Q (.bl b) H1) : tR Γ.K io m σ H Q := by
  refine tR_first hL st e fun v S1 H1 x1 st1 r1 => ?_
  have e4 : x.1.hand.val x.2 = .ok d := by rw [R.val_hand]; exact e2
  have := RepR.w st1 r1 e4
  cases d <;> try (cases e3; done)
  cases e3
  rw [repW_bl this]
  exact k S1 H1 x1 st1
theorem tR_and {ma mb : M R} {Q : VK} (h : tR K io (andM ma mb) σ H Q) : tAndV (tR K io ma) (tR K io mb) σ H Q := by
  obtain ⟨Γ, rfl, hL, S, ρ, st, q0⟩ := h
  obtain ⟨x, e1, q1⟩ := goR_bind q0
  obtain ⟨d, e2, q2⟩ := goR_bind q1
  obtain ⟨b, e3, q3⟩ := goR_bind q2
  refine tR_bool hL st e1 e2 e3 fun S1 H1 x1 st1 => ⟨b, rfl, ?_⟩
  have q4 := goR_of q3 x1
  cases b with
  | true => exact ⟨Γ, rfl, hL, S1, x.2, st1, q4⟩
  | false => exact q4 (.bl false) S1 H1 (Ex.refl S1) st1 (show Rep Γ.K S1 (.bl false) (.bl false) by unfold Rep; rfl)
theorem tR_or {ma mb : M R} {Q : VK} (h : tR K io (orM ma mb) σ H Q) : tOrV (tR K io ma) (tR K io mb) σ H Q := by
  obtain ⟨Γ, rfl, hL, S, ρ, st, q0⟩ := h
  obtain ⟨x, e1, q1⟩ := goR_bind q0
  obtain ⟨d, e2, q2⟩ := goR_bind q1
  obtain ⟨b, e3, q3⟩ := goR_bind q2
  refine tR_bool hL st e1 e2 e3 fun S1 H1 x1 st1 => ⟨b, rfl, ?_⟩
  have q4 := goR_of q3 x1
  cases b with
  | false => exact ⟨Γ, rfl, hL, S1, x.2, st1, q4⟩
  | true => exact q4 (.bl true) S1 H1 (Ex.refl S1) st1 (show Rep Γ.K S1 (.bl true) (.bl true) by unfold Rep; rfl)
theorem tR_not {ma : M R} {Q : VK} (h : tR K io (unM notD ma) σ H Q) : tNotV (tR K io ma) σ H Q := by
  obtain ⟨Γ, rfl, hL, S, ρ, st, q0⟩ := h
  obtain ⟨x, e1, q1⟩ := goR_bind q0
  obtain ⟨d, e2, q2⟩ := goR_bind q1
  obtain ⟨r, e3, q3⟩ := goR_bind q2
  obtain ⟨b, e4, e5⟩ := ob_bind e3
  cases e5
  refine tR_bool hL st e1 (by rw [← R.val_hand]; exact e2) e4 fun S1 H1 x1 st1 => ⟨b, rfl, ?_⟩
  exact q3 (.bl !b) S1 H1 x1 st1 (show Rep Γ.K S1 (.bl !b) (.bl !b) by unfold Rep; rfl)
theorem tR_ife {t : M Bool} {ma mb : M R} {Q : VK} (h : tR K io (ifeM t ma mb) σ H Q) : tIf (tBo K io t) (tR K io ma) (tR K io mb) σ H Q := by
  obtain ⟨Γ, rfl, hL, S, ρ, st, q0⟩ := h
  obtain ⟨⟨b, ρ1⟩, e1, q1⟩ := goR_bind q0
  refine ⟨Γ, rfl, hL, S, ρ, st, ?_⟩
  rw [e1]
  intro S1 H1 x1 st1
  have q2 := goR_of q1 x1
  cases b with
  | true => exact ⟨Γ, rfl, hL, S1, ρ1, st1, q2⟩
  | false => exact ⟨Γ, rfl, hL, S1, ρ1, st1, q2⟩
theorem stable_reps {Γ : Gr} {S H : Hp} {σ : L2.St} {ρ : List Sl} : ∀ {rs : List R} {vs : List V} {ds : List D}, RepRs Γ S H σ ρ rs vs → tupM.stable rs = .ok ds → Reps Γ.K S ds vs
  | [], vs, ds, h, e => by
    have e : Out.ok [] = Out.ok ds := e
    cases e
    have h : vs = [] := h
    subst h
    exact .nil
  | r :: rs, vs, ds, h, e => by
    obtain ⟨v, us, rfl, ⟨_, h1⟩, h2⟩ := h
    cases r with
    | vw i => cases e
    | ow sh xs => cases e
    | d d =>
      obtain ⟨es, e1, e2⟩ := ob_bind (show (tupM.stable rs).bind _ = _ from e)
      cases e2
      exact .cons h1 (stable_reps h2 e1)
theorem tR_tup {ma : M (List R)} {Q : VK} (h : tR K io (tupM ma) σ H Q) : tTup (tAr K io ma) σ H Q := by
  obtain ⟨Γ, rfl, hL, S, ρ, st, q0⟩ := h
  obtain ⟨⟨rs, ρ1⟩, e1, q1⟩ := goR_bind q0
  obtain ⟨ds, e2, q2⟩ := goR_bind q1
  refine ⟨Γ, rfl, hL, S, ρ, st, ?_⟩
  rw [e1]
  intro vs S1 H1 x1 st1 r1
  have rr := stable_reps r1 e2
  split at q2
  · rename_i hz
    refine ⟨by rw [rr.length]; exact hz, fun p n => ?_⟩
    exact Fin.newTup (Γ := Γ) (σ := σ) (ρ := ρ1) (goR_of q2 x1) st1 rr n
  · exact q2.elim
theorem tR_lst {ma : M (List R)} {Q : VK} (h : tR K io (lstM ma) σ H Q) : tLst (tAr K io ma) σ H Q := by
  obtain ⟨Γ, rfl, hL, S, ρ, st, q0⟩ := h
  obtain ⟨⟨rs, ρ1⟩, e1, q1⟩ := goR_bind q0
  obtain ⟨ds, e2, q2⟩ := goR_bind q1
  refine ⟨Γ, rfl, hL, S, ρ, st, ?_⟩
  rw [e1]
  intro vs S1 H1 x1 st1 r1
  have rr := stable_reps r1 e2
  split at q2
  · rename_i hz
    refine ⟨by rw [rr.length]; exact hz, fun p n => ?_⟩
    exact Fin.newOwn (Γ := Γ) (σ := σ) (ρ := ρ1) (sh := .lst) (goR_of q2 x1) st1 rr n (by decide)
  · exact q2.elim
def goP (Γ : Gr) (S : Hp) (σ : L2.St) (Q : Option Int → Hp → Prop) : Out (Option Int × List Sl) → Prop
  | .ok (o, ρ') => ∀ S' H', Ex S S' → StOk Γ S' H' σ ρ' → Q o H'
  | _ => False
def tPo (K : PySem.W.Frag) (io : Option Nat) (m : M (Option Int)) : TO := fun σ H Q => ∃ Γ : Gr, Γ.K = K ∧ Lent Γ io ∧ ∃ S ρ, StOk Γ S H σ ρ ∧ goP Γ S σ Q (m ρ)
theorem tP_no {Q : Option Int → Hp → Prop} (h : tPo K io noPart σ H Q) : tNoPart σ H Q := by
  obtain ⟨Γ, rfl, hL, S, ρ, st, q⟩ := h
  exact q S H (Ex.refl S) st
theorem tP_some {m : M R} {Q : Option Int → Hp → Prop} (h : tPo K io (partM m) σ H Q) : tPart (tR K io m) σ H Q := by
  obtain ⟨Γ, rfl, hL, S, ρ, st, q0⟩ := h
  obtain ⟨x, e1, q1⟩ := bind_ok (P := goP Γ S σ Q) q0 (fun _ _ z => z) id
  obtain ⟨d, e2, q2⟩ := bind_ok (P := goP Γ S σ Q) q1 (fun _ _ z => z) id
  refine tR_first hL st e1 fun v S1 H1 x1 st1 r1 => ?_
  have := RepR.w st1 r1 (by rw [R.val_hand]; exact e2)
  cases d <;> try (exact q2.elim)
  exact ⟨_, repW_int this, q2 S1 H1 x1 st1⟩
theorem tR_sl {ma : M R} {ml mh : M (Option Int)} {Q : VK} (h : tR K io (slM ma ml mh) σ H Q) : tSl (rSl K) (tR K io ma) (tPo K io ml) (tPo K io mh) σ H Q := by
  obtain ⟨Γ, rfl, hL, S, ρ, st, q0⟩ := h
  obtain ⟨x, e1, q1⟩ := goR_bind q0
  obtain ⟨⟨l, ρ2⟩, e2, q2⟩ := goR_bind q1
  obtain ⟨⟨u, ρ3⟩, e3, q3⟩ := goR_bind q2
  obtain ⟨d, e4, q4⟩ := goR_bind q3
  obtain ⟨r, e5, q5⟩ := goR_bind q4
  refine tR_first hL st e1 fun v S1 H1 x1 st1 r1 => ?_
  refine ⟨Γ, rfl, hL, S1, x.2, st1, ?_⟩
  rw [e2]
  intro S2 H2 x2 st2
  refine ⟨Γ, rfl, hL, S2, ρ2, st2, ?_⟩
  rw [e3]
  intro S3 H3 x3 st3
  exact ⟨Γ, S3, σ, ρ3, d, r, rfl, st3, RepR.w st3 (r1.later (x2.trans x3)) e4, e5, goR_of q5 ((x1.trans x2).trans x3)⟩
theorem tR_app {i : Nat} {ma : M R} {Q : VK} (h : tR K io (appM i ma) σ H Q) : tBM K "list" rAppend (tR K io (varM i)) (tCons (tR K io ma) tNil) σ H Q := by
  obtain ⟨Γ, rfl, hL, S, ρ, st, q⟩ := h
  unfold appM at q
  split at q
  · rename_i xs e
    obtain ⟨y, e1, q1⟩ := goR_bind q
    split at q1
    · rename_i x ys ex e3
      split at q1
      · rename_i hz
        obtain ⟨p, vs, e5, e6, e7, _⟩ := st.so i .lst xs e
        refine ⟨Γ, rfl, hL, S, ρ, st, ?_⟩
        unfold varM
        rw [e]
        intro o S1 H1 x1 st1 ro
        have ro : σ[i]? = some (some o) := ro
        rw [e5] at ro
        injection ro with ro; injection ro with ro
        subst ro
        have ty : tyV Γ.K "list" (.ref p) H1 := by
          obtain ⟨p', vs', z1, z2, z3, _⟩ := st1.so i .lst xs e
          rw [e5] at z1
          injection z1 with z1; injection z1 with z1; injection z1 with z1
          subst z1
          exact .inl ⟨rfl, _, .inl (.inl z3)⟩
        refine ⟨ty, tR_first hL st1 e1 fun u S2 H2 x2 st2 r2 => ?_⟩
        obtain ⟨p', vs', z1, z2, z3, z4, z5, z6⟩ := st2.so i .lst ys e3
        have hp := z1
        rw [e5] at z1
        injection z1 with z1; injection z1 with z1; injection z1 with z1
        subst z1
        rw [ex] at r2
        have l := z4.length
        refine ⟨p, vs', u, rfl, rfl, z3, by rw [l]; exact hz, ?_⟩
        exact q1 .non S2 _ (x1.trans x2) (st2.change (sh' := .lst) e3 hp (z4.append (.cons r2 .nil)) (by decide)) (show Rep Γ.K S2 .non .non by unfold Rep; rfl)
      · exact q1.elim
    · exact q1.elim
  · exact q.elim
theorem tR_ext {i : Nat} {ma : M R} {Q : VK} (h : tR K io (extM i ma) σ H Q) : tBM K "list" rExtend (tR K io (varM i)) (tCons (tR K io ma) tNil) σ H Q := by
  obtain ⟨Γ, rfl, hL, S, ρ, st, q⟩ := h
  unfold extM at q
  split at q
  · rename_i xs e
    obtain ⟨y, e1, q1⟩ := goR_bind q
    split at q1
    · rename_i zs ys ex e3
      split at q1
      · rename_i hz
        obtain ⟨p, vs, e5, e6, e7, _⟩ := st.so i .lst xs e
        refine ⟨Γ, rfl, hL, S, ρ, st, ?_⟩
        unfold varM
        rw [e]
        intro o S1 H1 x1 st1 ro
        have ro : σ[i]? = some (some o) := ro
        rw [e5] at ro
        injection ro with ro; injection ro with ro
        subst ro
        have ty : tyV Γ.K "list" (.ref p) H1 := by
          obtain ⟨p', vs', z1, z2, z3, _⟩ := st1.so i .lst xs e
          rw [e5] at z1
          injection z1 with z1; injection z1 with z1; injection z1 with z1
          subst z1
          exact .inl ⟨rfl, _, .inl (.inl z3)⟩
        refine ⟨ty, tR_first hL st1 e1 fun u S2 H2 x2 st2 r2 => ?_⟩
        obtain ⟨p', vs', z1, z2, z3, z4, z5, z6⟩ := st2.so i .lst ys e3
        have hp := z1
        rw [e5] at z1
        injection z1 with z1; injection z1 with z1; injection z1 with z1
        subst z1
        rw [ex] at r2
        have r2 : Rep Γ.K S2 (.ob .lst zs) u := r2
        unfold Rep at r2
        obtain ⟨b, ws, rfl, w2, w3⟩ := r2
        have l := z4.length
        have l' := w3.length
        refine ⟨p, b, vs', ws, rfl, rfl, z3, st2.le _ _ w2, by rw [l, l']; exact hz, ?_⟩
        exact q1 .non S2 _ (x1.trans x2) (st2.change (sh' := .lst) e3 hp (z4.append w3) (by decide)) (show Rep Γ.K S2 .non .non by unfold Rep; rfl)
      · exact q1.elim
    · exact q1.elim
  · exact q.elim
theorem Reps.dropLast {K : PySem.W.Frag} {S : Hp} {ds : List D} {vs : List V} (h : Reps K S ds vs) : Reps K S ds.dropLast vs.dropLast := by
  rw [List.dropLast_eq_take, List.dropLast_eq_take, h.length]
  exact h.take _
theorem tR_pop {i : Nat} {Q : VK} (h : tR K io (popM i) σ H Q) : tBM K "list" rPop (tR K io (varM i)) tNil σ H Q := by
  obtain ⟨Γ, rfl, hL, S, ρ, st, q⟩ := h
  unfold popM at q
  split at q
  · rename_i xs e
    obtain ⟨d, e1, q1⟩ := goR_bind q
    obtain ⟨p, vs, e5, e6, e7, e8, _⟩ := st.so i .lst xs e
    refine ⟨Γ, rfl, hL, S, ρ, st, ?_⟩
    unfold varM
    rw [e]
    intro o S1 H1 x1 st1 ro
    have ro : σ[i]? = some (some o) := ro
    rw [e5] at ro
    injection ro with ro; injection ro with ro
    subst ro
    obtain ⟨p', vs', z1, z2, z3, z4, z5, z6⟩ := st1.so i .lst xs e
    have hp := z1
    rw [e5] at z1
    injection z1 with z1; injection z1 with z1; injection z1 with z1
    subst z1
    refine ⟨.inl ⟨rfl, _, .inl (.inl z3)⟩, ?_⟩
    obtain ⟨v, w1, w2⟩ := z4.get (ofO_ok e1)
    refine ⟨p, vs', v, rfl, rfl, z3, by rw [z4.length]; exact w1, ?_⟩
    exact q1 v S1 _ x1 (st1.change (sh' := .lst) e hp z4.dropLast (by decide)) w2
  · exact q.elim
/-! tests -/
theorem tB_tru {m : M R} {Q : Bool → Hp → Prop} (h : tBo K io (truM m) σ H Q) : tR K io m σ H fun x H' => ∃ k, TruV K x H' k ∧ Q k H' := by
  obtain ⟨Γ, rfl, hL, S, ρ, st, q0⟩ := h
  obtain ⟨x, e1, q1⟩ := goB_bind q0
  obtain ⟨d, e2, q2⟩ := goB_bind q1
  obtain ⟨b, e3, q3⟩ := goB_bind q2
  exact tR_first hL st e1 fun v S1 H1 x1 st1 r1 => ⟨b, truth_ok st1 (RepR.w st1 r1 e2) e3, q3 S1 H1 x1 st1⟩
theorem tB_cmp {m : M R} (hb : ∀ ρ x, m ρ = .ok x → ∃ b, x.1 = .d (.bl b)) {Q : Bool → Hp → Prop} (h : tBo K io (truM m) σ H Q) : tR K io m σ H fun x H' => ∃ k, x = .bl k ∧ Q k H' := by
  obtain ⟨Γ, rfl, hL, S, ρ, st, q0⟩ := h
  obtain ⟨x, e1, q1⟩ := goB_bind q0
  obtain ⟨d, e2, q2⟩ := goB_bind q1
  obtain ⟨b, e3, q3⟩ := goB_bind q2
  obtain ⟨c, e4⟩ := hb ρ x e1
  refine tR_first hL st e1 fun v S1 H1 x1 st1 r1 => ?_
  rw [e4] at e2 r1
  cases e2
  cases e3
  have r1 : Rep Γ.K S1 (.bl _) v := r1
  unfold Rep at r1
  exact ⟨_, r1, q3 S1 H1 x1 st1⟩
theorem opM_bl {g : D → D → Out Bool} {ma mb : M R} : ∀ ρ x, opM (gB g) ma mb ρ = .ok x → ∃ b, x.1 = .d (.bl b) := by
  intro ρ x h
  obtain ⟨y, _, h⟩ := ob_bind h
  obtain ⟨z, _, h⟩ := ob_bind h
  obtain ⟨a, _, h⟩ := ob_bind h
  obtain ⟨b, _, h⟩ := ob_bind h
  obtain ⟨r, e, h⟩ := ob_bind h
  obtain ⟨k, _, e⟩ := ob_bind e
  cases e; cases h
  exact ⟨k, rfl⟩
theorem chnM_bl {g g' : D → D → Out Bool} {ma mb mc : M R} : ∀ ρ x, chnM g g' ma mb mc ρ = .ok x → ∃ b, x.1 = .d (.bl b) := by
  intro ρ x h
  obtain ⟨y, _, h⟩ := ob_bind h
  obtain ⟨z, _, h⟩ := ob_bind h
  obtain ⟨a, _, h⟩ := ob_bind h
  obtain ⟨b, _, h⟩ := ob_bind h
  obtain ⟨r, e, h⟩ := ob_bind h
  split at h
  · obtain ⟨z, _, h⟩ := ob_bind h
    obtain ⟨a, _, h⟩ := ob_bind h
    obtain ⟨b, _, h⟩ := ob_bind h
    obtain ⟨r', e, h⟩ := ob_bind h
    cases h; exact ⟨r', rfl⟩
  · cases h; exact ⟨false, rfl⟩
theorem tB_and {ma mb : M Bool} {Q : Bool → Hp → Prop} (h : tBo K io (andB ma mb) σ H Q) : tAnd (tBo K io ma) (tBo K io mb) σ H Q := by
  obtain ⟨Γ, rfl, hL, S, ρ, st, q0⟩ := h
  obtain ⟨⟨b, ρ1⟩, e1, q1⟩ := goB_bind q0
  refine ⟨Γ, rfl, hL, S, ρ, st, ?_⟩
  rw [e1]
  intro S1 H1 x1 st1
  have q2 := goB_of q1 x1
  cases b with
  | true => exact ⟨Γ, rfl, hL, S1, ρ1, st1, q2⟩
  | false => exact q2 S1 H1 (Ex.refl S1) st1
theorem tB_or {ma mb : M Bool} {Q : Bool → Hp → Prop} (h : tBo K io (orB ma mb) σ H Q) : tOr (tBo K io ma) (tBo K io mb) σ H Q := by
  obtain ⟨Γ, rfl, hL, S, ρ, st, q0⟩ := h
  obtain ⟨⟨b, ρ1⟩, e1, q1⟩ := goB_bind q0
  refine ⟨Γ, rfl, hL, S, ρ, st, ?_⟩
  rw [e1]
  intro S1 H1 x1 st1
  have q2 := goB_of q1 x1
  cases b with
  | false => exact ⟨Γ, rfl, hL, S1, ρ1, st1, q2⟩
  | true => exact q2 S1 H1 (Ex.refl S1) st1
theorem tB_not {ma : M Bool} {Q : Bool → Hp → Prop} (h : tBo K io (notB ma) σ H Q) : tNot (tBo K io ma) σ H Q := by
  obtain ⟨Γ, rfl, hL, S, ρ, st, q0⟩ := h
  obtain ⟨⟨b, ρ1⟩, e1, q1⟩ := goB_bind q0
  refine ⟨Γ, rfl, hL, S, ρ, st, ?_⟩
  rw [e1]
  exact q1
end
/-! ### the syntax's side conditions -/
section
variable {N : List Str} {c : Cfg} {sc : Scope}
theorem chkE_plain {ir : E} {e : Expr} (h : chkE N c sc ir e = true) : plainE e = true := by
  cases ir with
  | v i => obtain ⟨t, e1, _⟩ := oAll_ok h; obtain ⟨p, rfl⟩ := dName_ok e1; rfl
  | k d => obtain ⟨t, e1, _⟩ := oAll_ok h; obtain ⟨j, p, rfl⟩ := dConst_ok e1; rfl
  | g n => obtain ⟨t, e1, _⟩ := oAll_ok h; obtain ⟨p, rfl⟩ := dName_ok e1; rfl
  | ty n => obtain ⟨t, e1, _⟩ := oAll_ok h; obtain ⟨p, rfl⟩ := dName_ok e1; rfl
  | neg a => obtain ⟨t, e1, _⟩ := oAll_ok h; obtain ⟨p, rfl⟩ := dNeg_ok e1; rfl
  | bin op a b => obtain ⟨t, e1, _⟩ := oAll_ok h; obtain ⟨p, rfl⟩ := dBin_ok e1; rfl
  | cmp op a b => obtain ⟨t, e1, _⟩ := oAll_ok h; obtain ⟨p, rfl⟩ := dCmp1_ok e1; rfl
  | chn o1 o2 a b d => obtain ⟨t, e1, _⟩ := oAll_ok h; obtain ⟨p, rfl⟩ := dCmp2_ok e1; rfl
  | and a b => obtain ⟨t, e1, _⟩ := oAll_ok h; obtain ⟨y, r, p, rfl, _⟩ := dAnd_ok e1; rfl
  | or a b => obtain ⟨t, e1, _⟩ := oAll_ok h; obtain ⟨y, r, p, rfl, _⟩ := dOr_ok e1; rfl
  | one a => obtain ⟨t, e1, _⟩ := oAll_ok h; obtain ⟨o, p, rfl⟩ := dOne_ok e1; rfl
  | not a => obtain ⟨t, e1, _⟩ := oAll_ok h; obtain ⟨p, rfl⟩ := dNot_ok e1; rfl
  | ife t a b => obtain ⟨t, e1, _⟩ := oAll_ok h; obtain ⟨p, rfl⟩ := dIf_ok e1; rfl
  | tup as => obtain ⟨t, e1, _⟩ := oAll_ok h; obtain ⟨j, p, rfl⟩ := dTup_ok e1; rfl
  | lst as => obtain ⟨t, e1, _⟩ := oAll_ok h; obtain ⟨p, rfl⟩ := dLst_ok e1; rfl
  | ix a b => obtain ⟨t, e1, _⟩ := oAll_ok h; obtain ⟨p, rfl⟩ := dIx_ok e1; rfl
  | sl a lo hi => obtain ⟨t, e1, _⟩ := oAll_ok h; obtain ⟨p, rfl⟩ := dIx_ok e1; rfl
  | call j as => obtain ⟨t, e1, _⟩ := oAll_ok h; obtain ⟨p, q, rfl⟩ := dNamed_ok e1; rfl
  | callk j as ks => obtain ⟨t, e1, _⟩ := oAll_ok h; obtain ⟨p, q, rfl⟩ := dNamed_ok e1; rfl
  | bi b as => obtain ⟨t, e1, _⟩ := oAll_ok h; obtain ⟨p, q, rfl⟩ := dNamed_ok e1; rfl
  | lc vs tg tt it t el => obtain ⟨t, e1, _⟩ := oAll_ok h; obtain ⟨p, rfl⟩ := dLc_ok e1; rfl
  | app i a => obtain ⟨t, e1, _⟩ := oAll_ok h; obtain ⟨p, r, q, rfl, _⟩ := dMeth_ok e1; rfl
  | ext i a => obtain ⟨t, e1, _⟩ := oAll_ok h; obtain ⟨p, r, q, rfl, _⟩ := dMeth_ok e1; rfl
  | pop i => obtain ⟨t, e1, _⟩ := oAll_ok h; obtain ⟨p, r, q, rfl, _⟩ := dMeth_ok e1; rfl
  | hole =>
    have h : isHole e = true := h
    unfold isHole at h
    split at h
    · rfl
    · cases h
  | fw a => obtain ⟨t, e1, _⟩ := oAll_ok h; obtain ⟨p, q, rfl⟩ := dFw_ok e1; rfl
  | rev a => obtain ⟨t, e1, _⟩ := oAll_ok h; obtain ⟨p1, p2, p3, p4, k, rfl⟩ := dRev_ok e1; rfl
  | _ => cases h
theorem star_plain {e : Expr} {es : List Expr} {env : Env} (h : plainE e = true) : starEach (e :: es) env = (false, eval e env) :: starEach es env := by
  cases e <;> first | rfl | (cases h; done)
theorem chkA_star : ∀ (ir : E) {es : List Expr} {env : Env} {pos : Pos}, chkA N c sc ir es = true → (backTo pos (starEach es env)).any (·.1) = false := by
  intro ir
  induction ir with
  | nil =>
    intro es env pos h
    have : es = [] := List.isEmpty_iff.mp h
    subst this
    rfl
  | cons a r _ ih =>
    intro es env pos h
    obtain ⟨x, e1, h⟩ := oAll_ok h
    cases es with
    | nil => cases e1
    | cons y ys =>
      cases e1
      rw [Bool.and_eq_true] at h
      rw [star_plain (chkE_plain h.1)]
      exact ih h.2
  | _ => intro es env pos h; cases h
theorem plain_ix {e : Expr} (h : plainE e = true) : PlainIx e := by
  intro o i
  cases e <;> first | rfl | (cases h; done)
theorem tru_is {e : Expr} {env : Env} (h : truOk e = true) (hc : ∀ l o r p, e ≠ .Compare l o r p) : ∀ whole, isTrue e env whole = (do let v ← whole; standAt e.pos; holding [v] (truthy v)) := by
  intro whole
  cases e <;> first | rfl | (cases h; done) | (exact absurd rfl (hc _ _ _ _)) | skip
  rename_i op x p
  cases op <;> first | rfl | (cases h; done)
theorem plain_mark {op : CmpOp} {e : Expr} (h : plainE e = true) : behindInMarks op e = false := by
  cases e <;> first | rfl | (cases h; done)
theorem plain_fold {e : Expr} {env : Env} (h : plainE e = true) : ∀ x, foldedSetIterable e env x = pure x := by
  intro x
  cases e <;> first | rfl | (cases h; done)
end
end Tp
set_option Elab.async false
set_option linter.all false
set_option maxRecDepth 100000
set_option maxHeartbeats 4000000
namespace Tp
open PySem PySem.Spec PyProof.Rows L2
open Evl (Ex)

/-! ### what stands at the names -/
structure CalOk (X : Cx) (c : Cal) : Prop where
  ex : ∃ (f : Addr) (fd : FuncData) (k : Nat) (ps : List Str) (ds : List Value) (dvs : List V), X.mg c.name = some (.ref f) ∧ PySem.W.keepIn X.K (.ref f) = true ∧
    FnG X.prog X.w X.K X.mg X.base k f fd ps (spF X.K c.io c.n c.fn) ∧ Room k X.A ∧ Binds X.K fd ps ds ∧ Vals dvs ds ∧ atomsV c.ds = some dvs
structure KCalOk (X : Cx) (k : KCal) : Prop where
  ex : ∃ (f : Addr) (fd : FuncData) (l : Nat) (ps : List Str), X.mg k.c.name = some (.ref f) ∧ PySem.W.keepIn X.K (.ref f) = true ∧
    FnG X.prog X.w X.K X.mg X.base l f fd ps (spF X.K k.c.io k.c.n k.c.fn) ∧ Room l X.A ∧
    ∀ (s : Shared) (us ws zs : List Value), us.length = k.np → ws.length = k.names.length → permL (us ++ ws) k.perm = some zs → BindsTo s fd ⟨us, k.names.zip ws⟩ (ps.zip zs)
def Bi.ok (X : Cx) (b : Bi) : Prop := match b with
  | .comb => X.mg b.name = some b.val
  | .gcd => X.mg b.name = some b.val
  | b => X.mg b.name = none
structure XOk (X : Cx) (N : List Str) (sc : Scope) (cf : Cfg) : Prop where
  n : X.N = N
  hs : X.env.scope = sc
  nd : N.Nodup
  kind : sc.kind = .function
  calm : X.calm = true
  hu : X.A.units + 65 < cLine
  gd : X.A.guards = some []
  cal : ∀ (j : Nat) c, cf.C[j]? = some c → CalOk X c
  kcal : ∀ (j : Nat) c, cf.KC[j]? = some c → KCalOk X c
  glb : ∀ (j : Nat) p, cf.G[j]? = some p → ∃ u v, X.mg p.1 = some u ∧ RelV v u ∧ ∀ H, Rep X.K H p.2 v
  bis : ∀ b ∈ cf.bis, b.ok X
  tys : ∀ t ∈ cf.tys, X.mg (Str.ofString t.name) = none ∧ t ≠ .none
  its : cf.its = true → X.mg "range" = none ∧ X.mg "enumerate" = none ∧ X.mg "zip" = none
  hol : ∀ m, cf.hole = some m → ∀ e, isHole e = true → PE X e (tR X.K cf.io m)
  fwk : ∀ w, cf.fw = some w → ∀ (x l : Expr) (p q : Pos) (m : M R), w.chk l = true → plainE x = true → PE X x (tR X.K cf.io m) → PE X (.Call (.Name "first_wrong" p) [x, l] [] q) (tR X.K cf.io (fwM w.fn m))
theorem plainC_ok {c : Cfg} (h : plainC c = true) : c.hole = none ∧ c.fw = none := by
  unfold plainC at h
  rw [Bool.and_eq_true] at h
  exact ⟨Option.isNone_iff_eq_none.mp h.1, Option.isNone_iff_eq_none.mp h.2⟩
section
variable {X : Cx} {N : List Str} {sc : Scope} {cf : Cfg}
theorem XOk.gl (o : XOk X N sc cf) {x : Str} (h : glS sc x = true) : Gl X x := by
  show X.env.scope.names.lookup x = some .globalImplicit
  rw [o.hs]; exact of_decide_eq_true h
theorem XOk.vis (o : XOk X N sc cf) {x : Str} (h : visS sc x = true) : Vis X.env.scope x := by
  rw [o.hs]
  unfold visS at h
  simp only [Bool.or_eq_true, decide_eq_true_eq] at h
  exact h
theorem okNm_ok {x : Str} (h : okNm x = true) : (x == ("__debug__" : Str)) = false ∧ (x == ("__classdict__" : Str)) = false ∧ x ≠ ("__name__" : Str) := by
  unfold okNm at h
  simp only [Bool.and_eq_true, Bool.not_eq_true', decide_eq_true_eq] at h
  exact ⟨h.1.1, h.1.2, h.2⟩
theorem XOk.var (o : XOk X N sc cf) {i : Nat} {x : Str} {pos : Pos} (h : chkVar N sc i x = true) : PE X (.Name x pos) (tVar i) := by
  unfold chkVar at h
  rw [Bool.and_eq_true, Bool.and_eq_true] at h
  obtain ⟨h1, h2, h3⟩ := h
  obtain ⟨k1, k2, _⟩ := okNm_ok h3
  exact pe_var (by rw [o.n]; exact of_decide_eq_true h1) (o.vis h2) k1 k2
theorem boot_bi (b : Bi) (h : b ≠ .comb) (h' : b ≠ .gcd) : bootBuiltins b.name = some b.val := by
  cases b with
  | len => exact PySem.boot_len
  | abs => exact boot_abs
  | max => exact boot_max
  | min => decide +kernel
  | sum => exact boot_sum
  | divmod => decide +kernel
  | comb => exact absurd rfl h
  | gcd => exact absurd rfl h'
  | repr => decide +kernel
  | int => exact boot_int
  | isinstance => exact boot_isinstance
  | all => decide +kernel
  | any => decide +kernel
  | list => decide +kernel
  | tuple => decide +kernel
  | sorted => decide +kernel
theorem boot_ty (t : Ty) (h : t ≠ .none) : bootBuiltins (Str.ofString t.name) = some (.type t.name) := by
  cases t with
  | none => exact absurd rfl h
  | bool => exact boot_bool
  | int => exact boot_int
  | str => decide +kernel
  | tuple => decide +kernel
  | list => decide +kernel
  | dict => decide +kernel
theorem pe_bi (o : XOk X N sc cf) {b : Bi} (hb : b ∈ cf.bis) {e : Expr} {es : List Expr} {t : TA} {p q : Pos} (hg : glS sc b.name = true) (hn : okNm b.name = true) (ha : PA X (e :: es) t) (he : plainE e = true) (hpl : ∀ pos, (backTo pos (starEach es X.env)).any (·.1) = false) :
    PE X (.Call (.Name b.name p) (e :: es) [] q) (tCB (rB X.K (biD b)) t) := by
  obtain ⟨k1, _, k3⟩ := okNm_ok hn
  have r := calr_bi (X := X) o.calm o.hu o.gd b
  have m := o.bis b hb
  cases b with
  | comb => exact pe_callBfun r (o.gl hg) m ha k1 (star_plain he) (hpl _)
  | gcd => exact pe_callBfun r (o.gl hg) m ha k1 (star_plain he) (hpl _)
  | int => exact pe_callTy r (o.gl hg) m (boot_bi .int (by decide) (by decide)) ha k3 k1 (star_plain he) (hpl _)
  | list => exact pe_callTy r (o.gl hg) m (boot_bi .list (by decide) (by decide)) ha k3 k1 (star_plain he) (hpl _)
  | tuple => exact pe_callTy r (o.gl hg) m (boot_bi .tuple (by decide) (by decide)) ha k3 k1 (star_plain he) (hpl _)
  | len => exact pe_callB r (o.gl hg) m (boot_bi .len (by decide) (by decide)) ha k3 k1 (star_plain he) (hpl _)
  | abs => exact pe_callB r (o.gl hg) m (boot_bi .abs (by decide) (by decide)) ha k3 k1 (star_plain he) (hpl _)
  | max => exact pe_callB r (o.gl hg) m (boot_bi .max (by decide) (by decide)) ha k3 k1 (star_plain he) (hpl _)
  | min => exact pe_callB r (o.gl hg) m (boot_bi .min (by decide) (by decide)) ha k3 k1 (star_plain he) (hpl _)
  | sum => exact pe_callB r (o.gl hg) m (boot_bi .sum (by decide) (by decide)) ha k3 k1 (star_plain he) (hpl _)
  | divmod => exact pe_callB r (o.gl hg) m (boot_bi .divmod (by decide) (by decide)) ha k3 k1 (star_plain he) (hpl _)
  | repr => exact pe_callB r (o.gl hg) m (boot_bi .repr (by decide) (by decide)) ha k3 k1 (star_plain he) (hpl _)
  | isinstance => exact pe_callB r (o.gl hg) m (boot_bi .isinstance (by decide) (by decide)) ha k3 k1 (star_plain he) (hpl _)
  | all => exact pe_callB r (o.gl hg) m (boot_bi .all (by decide) (by decide)) ha k3 k1 (star_plain he) (hpl _)
  | any => exact pe_callB r (o.gl hg) m (boot_bi .any (by decide) (by decide)) ha k3 k1 (star_plain he) (hpl _)
  | sorted => exact pe_callB r (o.gl hg) m (boot_bi .sorted (by decide) (by decide)) ha k3 k1 (star_plain he) (hpl _)
theorem negR : UnR X (unaryOp .USub) (rU1 X.K negD) := by
  intro pins s σ' H x v Q I rx q
  obtain ⟨Γ, S, σ, ρ, a, r, hk, st, ra, e, f⟩ := q
  cases a <;> try (cases e; done)
  cases e
  exact un_neg pins s σ' H x v Q I rx ⟨_, repW_int ra, f.int st⟩
theorem evA_len : ∀ (ir : E) {ρ : List Sl} {x : List R × List Sl}, evA cf ir ρ = .ok x → x.1.length = lenE ir := by
  intro ir
  induction ir with
  | nil => intro ρ x h; cases h; rfl
  | cons a r _ ih =>
    intro ρ x h
    obtain ⟨y, e1, h⟩ := ob_bind (show (evE cf a ρ).bind _ = _ from h)
    obtain ⟨z, e2, h⟩ := ob_bind h
    cases h
    show z.1.length + 1 = lenE r + 1
    rw [ih e2]
  | _ => intro ρ x h; cases h
theorem chkA_len : ∀ (ir : E) {es : List Expr}, chkA N cf sc ir es = true → es.length = lenE ir := by
  intro ir
  induction ir with
  | nil => intro es h; rw [List.isEmpty_iff.mp h]; rfl
  | cons a r _ ih =>
    intro es h
    obtain ⟨x, e1, h⟩ := oAll_ok h
    cases es with
    | nil => cases e1
    | cons y ys =>
      rw [Bool.and_eq_true] at h
      show ys.length + 1 = lenE r + 1
      rw [show ys.length = lenE r from ih h.2]
  | _ => intro es h; cases h
theorem valsOf_len : ∀ {rs : List R} {ρ : List Sl} {ds : List D}, valsOf ρ rs = .ok ds → ds.length = rs.length
  | [], ρ, ds, h => by cases h; rfl
  | r :: rs, ρ, ds, h => by
    obtain ⟨d, _, h⟩ := ob_bind (show (r.val ρ).bind _ = _ from h)
    obtain ⟨es, e, h⟩ := ob_bind h
    cases h
    rw [List.length_cons, List.length_cons, valsOf_len e]
theorem pi_or {tg e : Expr} {w w1 w2 : TI} (h1 : PI X tg e w1) (h2 : PI X tg e w2) (h : ∀ σ H R, w σ H R → w1 σ H R ∨ w2 σ H R) : PI X tg e w :=
  ⟨fun pins s σ H R I q => (h σ H R q).elim (h1.run pins s σ H R I) (h2.run pins s σ H R I)⟩
theorem pi_imp {tg e : Expr} {w w1 : TI} (h1 : PI X tg e w1) (h : ∀ σ H R, w σ H R → w1 σ H R) : PI X tg e w := ⟨fun pins s σ H R I q => h1.run pins s σ H R I (h σ H R q)⟩
theorem tI_rng1 {K : PySem.W.Frag} {io : Option Nat} {σ : L2.St} {H : Hp} {ma : M (List R)} (hn : ∀ ρ x, ma ρ = .ok x → x.1.length = 1) {R' : It → Hp → Prop} (h : tIt K io (rngM ma) σ H R') : iRng1 (tAr K io ma) σ H R' := by
  have h0 := h
  obtain ⟨Γ, rfl, hL, S, ρ, st, q0⟩ := h
  obtain ⟨⟨rs, ρ2⟩, e1, q1⟩ := goI_bind q0
  obtain ⟨ds, e2, q⟩ := goI_bind q1
  have l := valsOf_len e2
  rw [hn ρ _ e1] at l
  split at q
  · rename_i b
    split at q
    · rename_i hb
      refine ⟨Γ, rfl, hL, S, ρ, st, ?_⟩
      rw [e1]
      intro vs S2 H2 x2 st2 r2
      obtain ⟨v, rfl, rv⟩ := repWs1 (r2.ws st2 e2)
      rw [repW_int rv]
      refine ⟨b, rfl, hb.1, hb.2, ?_⟩
      have := q _ S2 H2 x2 st2 walkD_rng
      rw [Int.sub_zero] at this
      exact this
    · exact q.elim
  · cases l
  · exact q.elim
theorem tI_rng2 {K : PySem.W.Frag} {io : Option Nat} {σ : L2.St} {H : Hp} {ma : M (List R)} (hn : ∀ ρ x, ma ρ = .ok x → x.1.length = 2) {R' : It → Hp → Prop} (h : tIt K io (rngM ma) σ H R') : iRng2 (tAr K io ma) σ H R' := by
  obtain ⟨Γ, rfl, hL, S, ρ, st, q0⟩ := h
  obtain ⟨⟨rs, ρ2⟩, e1, q1⟩ := goI_bind q0
  obtain ⟨ds, e2, q⟩ := goI_bind q1
  have l := valsOf_len e2
  rw [hn ρ _ e1] at l
  split at q
  · cases l
  · rename_i a b
    split at q
    · rename_i hb
      refine ⟨Γ, rfl, hL, S, ρ, st, ?_⟩
      rw [e1]
      intro vs S2 H2 x2 st2 r2
      obtain ⟨v, w, rfl, rv, rw'⟩ := repWs2 (r2.ws st2 e2)
      rw [repW_int rv, repW_int rw']
      exact ⟨a, b, rfl, hb, q _ S2 H2 x2 st2 walkD_rng⟩
    · exact q.elim
  · exact q.elim
/-! ### calls by keywords -/
theorem repRs_perm {Γ : Gr} {S H : Hp} {σ : L2.St} {ρ : List Sl} {rs : List R} {vs : List V} (h : RepRs Γ S H σ ρ rs vs) : ∀ {p : List Nat} {rs' : List R}, permL rs p = some rs' → ∃ vs', permL vs p = some vs' ∧ RepRs Γ S H σ ρ rs' vs'
  | [], rs', e => by cases e; exact ⟨[], rfl, rfl⟩
  | i :: is, rs', e => by
    obtain ⟨r, e1, e⟩ := obind (show (rs[i]?).bind _ = _ from e)
    obtain ⟨rr, e2, e⟩ := obind e
    cases e
    obtain ⟨vs2, f1, f2⟩ := repRs_perm h e2
    have : ∀ {rs : List R} {vs : List V} {i : Nat}, RepRs Γ S H σ ρ rs vs → rs[i]? = some r → ∃ v, vs[i]? = some v ∧ r = r.hand ∧ RepR Γ S H σ ρ r v := by
      intro rs
      induction rs with
      | nil => intro vs i _ e; simp at e
      | cons a rs ih =>
        rintro vs i ⟨v, us, rfl, h1, h2⟩ e
        cases i with
        | zero => simp at e; subst e; exact ⟨v, rfl, h1⟩
        | succ i =>
          obtain ⟨w, a, b⟩ := ih (i := i) h2 (by simpa using e)
          exact ⟨w, by simpa using a, b⟩
    obtain ⟨v, g1, g2⟩ := this h e1
    exact ⟨v :: vs2, by show (vs[i]?).bind _ = _; rw [g1]; show (permL vs is).bind _ = _; rw [f1]; rfl, v, vs2, rfl, g2, f2⟩
theorem repRs_app {Γ : Gr} {S H : Hp} {σ : L2.St} {ρ : List Sl} : ∀ {rs ss : List R} {vs us : List V}, RepRs Γ S H σ ρ rs vs → RepRs Γ S H σ ρ ss us → RepRs Γ S H σ ρ (rs ++ ss) (vs ++ us)
  | [], ss, vs, us, h, h2 => by
    have h : vs = [] := h
    subst h; exact h2
  | r :: rs, ss, vs, us, h, h2 => by
    obtain ⟨v, ws, rfl, a, b⟩ := h
    exact ⟨v, ws ++ us, rfl, a, repRs_app b h2⟩
theorem permL_len {α : Type} {l : List α} : ∀ {p : List Nat} {r : List α}, permL l p = some r → r.length = p.length
  | [], r, e => by cases e; rfl
  | i :: is, r, e => by
    obtain ⟨a, _, e⟩ := obind (show (l[i]?).bind _ = _ from e)
    obtain ⟨s, e2, e⟩ := obind e
    cases e
    rw [List.length_cons, List.length_cons, permL_len e2]
theorem vals_perm {vs : List V} {us : List Value} (h : Vals vs us) : ∀ {p : List Nat} {zs : List V}, permL vs p = some zs → ∃ ws, permL us p = some ws ∧ Vals zs ws
  | [], zs, e => by cases e; exact ⟨[], rfl, .nil⟩
  | i :: is, zs, e => by
    obtain ⟨a, e1, e⟩ := obind (show (vs[i]?).bind _ = _ from e)
    obtain ⟨s, e2, e⟩ := obind e
    cases e
    obtain ⟨u, f1, f2⟩ := h.get e1
    obtain ⟨ws, f3, f4⟩ := vals_perm h e2
    exact ⟨u :: ws, by show (us[i]?).bind _ = _; rw [f1]; show (permL us is).bind _ = _; rw [f3]; rfl, .cons f2 f4⟩
def tCallP (sp : Sp) (np nk : Nat) (perm : List Nat) (E : XK) (t tk : TA) : TE := fun σ H Q => t σ H fun vs H1 => tk σ H1 fun ws H2 => vs.length = np ∧ ws.length = nk ∧ ∃ zs, permL (vs ++ ws) perm = some zs ∧ sp zs H2 Q E
theorem kw_all {ks : List Keyword} {ns : List Str} {env : Env} {pos : Pos} (h : kwN ks = some ns) : (backToKw pos (keywordEach ks env)).all (·.1.isSome) = true ∧ (backToKw pos (keywordEach ks env)).filterMap (·.1) = ns ∧ (backToKw pos (keywordEach ks env)).any (·.1.isNone) = false := by
  induction ks generalizing ns with
  | nil => cases h; exact ⟨rfl, rfl, rfl⟩
  | cons k ks ih =>
    obtain ⟨a, e1, h⟩ := obind (show k.arg.bind _ = _ from h)
    obtain ⟨r, e2, h⟩ := obind h
    cases h
    obtain ⟨i1, i2, i3⟩ := ih e2
    obtain ⟨nm, v, kp⟩ := k
    have e1 : nm = some a := e1
    subst e1
    refine ⟨?_, ?_, ?_⟩
    · show (true && _) = true
      rw [Bool.true_and]; exact i1
    · show a :: _ = a :: r
      rw [← i2]; rfl
    · show (false || _) = false
      rw [Bool.false_or]; exact i3
theorem pe_callP {f : Addr} {fd : FuncData} {l : Nat} {ps ns : List Str} {np : Nat} {perm : List Nat} {sp : Sp} {x : Str} {p pos : Pos} {es : List Expr} {ks : List Keyword} {t tk : TA} (F : FnG X.prog X.w X.K X.mg X.base l f fd ps sp) (hr : Room l X.A) (hgd : X.A.guards = some []) (hg : Gl X x) (hm : X.mg x = some (.ref f))
    (hk : PySem.W.keepIn X.K (.ref f) = true) (hb : ∀ (s : Shared) (us ws zs : List Value), us.length = np → ws.length = ns.length → permL (us ++ ws) perm = some zs → BindsTo s fd ⟨us, ns.zip ws⟩ (ps.zip zs)) (ha : PA X es t) (hkw : PK X ks tk) (hns : kwN ks = some ns)
    (hdb : (x == ("__debug__" : Str)) = false) (hnil : es = [] → ∀ σ H Q, t σ H Q → tNil σ H Q) (hst : es = [] ∨ ∃ e r, es = e :: r ∧ starEach (e :: r) X.env = (false, eval e X.env) :: starEach r X.env) (hpl : ∀ pos, (backTo pos (starEach es X.env)).any (·.1) = false) :
    PE X (.Call (.Name x p) es ks pos) (tCallP sp np ns.length perm E0 t tk) := by
  constructor
  intro pins s σ H Q I h
  obtain ⟨k1, k2, k3⟩ := kw_all (env := X.env) (pos := pos) hns
  have fin : ∀ (us ws : List Value) (vs zs : List V) (s2 : Shared) (H2 : Hp), L2.Inv X pins σ H2 s2 → Vals vs us → Vals zs ws → (vs.length = np ∧ zs.length = ns.length ∧ ∃ ys, permL (vs ++ zs) perm = some ys ∧ sp ys H2 Q E0) →
      wpAny (model X.prog X.w) X.A (call (.ref f) us (ns.zip ws)) (EP X pins σ Q) X.xe s2 := by
    rintro us ws vs zs s2 H2 I2 r1 r2 ⟨l1, l2, ys, e, q⟩
    obtain ⟨uz, e2, r3⟩ := vals_perm (r1.append r2) e
    exact goG (ar := ⟨us, ns.zip ws⟩) F hr hgd passL I2 (fun _ => hb s2 us ws uz (r1.length.symm.trans l1) (r2.length.symm.trans l2) e2) r3 q
  apply wpAny_Call_Name_kw
  apply ld_glob I hg hm (hd := hdb)
  rcases hst with rfl | ⟨e, r, rfl, hst⟩
  · have q := hnil rfl σ H _ h
    refine PySem.W.callWith_KW0 (h₀ := X.base) I.ok.mod.kin hk k1 (thn (hkw.run pos pins s σ H _ I q) ?_) (by rw [hpl pos, k3]; rfl)
    rintro ws s2 ⟨zs, H2, I2, r2, q2⟩
    refine ⟨I2.kIn, ?_⟩
    rw [k2]
    exact fin [] ws [] zs s2 H2 I2 .nil r2 q2
  · refine PySem.W.callWith_KW (h₀ := X.base) I.ok.mod.kin hk k1 (thn (ha.run pos pins s σ H _ I h) ?_) (by rw [hpl pos, k3]; rfl) hst
    rintro us s1 ⟨vs, H1, I1, r1, q⟩
    refine thn (hkw.run pos pins s1 σ H1 _ I1 q) ?_
    rintro ws s2 ⟨zs, H2, I2, r2, q2⟩
    refine ⟨I2.kIn, ?_⟩
    rw [k2]
    exact fin us ws vs zs s2 H2 I2 r1 r2 q2
theorem tR_callk {K : PySem.W.Frag} {io : Option Nat} {σ : L2.St} {H : Hp} {Q : VK} {k : KCal} {ma mk : M (List R)} (h1 : ∀ ρ x, ma ρ = .ok x → x.1.length = k.np) (h2 : ∀ ρ x, mk ρ = .ok x → x.1.length = k.names.length) (hp : k.perm.length = k.c.n) (hd : k.c.ds = [])
    (h : tR K io (callM k.c (permM k.perm (appendM ma mk))) σ H Q) : tCallP (spF K k.c.io k.c.n k.c.fn) k.np k.names.length k.perm E0 (tAr K io ma) (tAr K io mk) σ H Q := by
  obtain ⟨Γ, rfl, hL, S, ρ, st, q0⟩ := h
  obtain ⟨⟨rs, ρ3⟩, e0, q1⟩ := goR_bind q0
  obtain ⟨⟨rr, ρr⟩, e1, e2⟩ := ob_bind e0
  obtain ⟨rs', e3, e4⟩ := ob_bind e2
  cases e4
  obtain ⟨⟨ra, ρ1⟩, f1, f2⟩ := ob_bind e1
  obtain ⟨⟨rk, ρ2⟩, f3, f4⟩ := ob_bind f2
  cases f4
  refine ⟨Γ, rfl, hL, S, ρ, st, ?_⟩
  rw [f1]
  intro vs S1 H1 x1 st1 r1
  refine ⟨Γ, rfl, hL, S1, ρ1, st1, ?_⟩
  rw [f3]
  intro ws S2 H2 x2 st2 r2
  have ra' := r1.later (ρ' := ρ2) (H' := H2) x2
  obtain ⟨zs, g1, g2⟩ := repRs_perm (repRs_app ra' r2) (ofO_ok e3)
  refine ⟨(repRs_get r1).1.trans (h1 _ _ f1), (repRs_get r2).1.trans (h2 _ _ f3), zs, g1, ?_⟩
  obtain ⟨as, e5, q2⟩ := goR_bind q1
  obtain ⟨y, e6, q3⟩ := goR_bind q2
  have q3 := goR_of q3 (x1.trans x2)
  have hd' : atomsV k.c.ds = some [] := by rw [hd]; rfl
  have into := st2.into g2 e5 hd'
  rw [List.append_nil] at into
  refine ⟨S2, as ++ k.c.ds.map Sl.st, ?_, into, ?_⟩
  · rw [permL_len g1]; exact hp
  · rw [e6]
    obtain ⟨r, outs⟩ := y
    intro v S' H' st' hv
    split at q3
    · rename_i hnv
      obtain ⟨ρ', e7, q4⟩ := goR_bind q3
      have st'' : StOk ⟨Γ.K, ioB k.c.io (zs ++ []), S2, H2⟩ S' H' ((zs ++ []).map some) outs := by rw [List.append_nil]; exact st'
      have hv' : RepR ⟨Γ.K, ioB k.c.io (zs ++ []), S2, H2⟩ S' H' ((zs ++ []).map some) outs r v := by rw [List.append_nil]; exact hv
      obtain ⟨a, b⟩ := st2.back g2 e5 st'' hv' e7 (fun i z => by rw [show r = .vw i from z] at hnv; cases hnv)
      exact q4 v S' H' st''.st a b
    · exact q3.elim
theorem appM_nil_len {k : KCal} : True := trivial
end
end Tp
set_option Elab.async false
set_option linter.all false
set_option maxRecDepth 100000
set_option maxHeartbeats 4000000
namespace Tp
open PySem PySem.Spec PyProof.Rows L2
open Evl (Ex)

/-! ### the inner form tells what the text does: expressions -/
def SE (N : List Str) (cf : Cfg) (ir : E) : Prop := ∀ (X : Cx) (sc : Scope), XOk X N sc cf → ∀ e, chkE N cf sc ir e = true → PE X e (tR X.K cf.io (evE cf ir))
def SA (N : List Str) (cf : Cfg) (ir : E) : Prop := ∀ (X : Cx) (sc : Scope), XOk X N sc cf → ∀ es, chkA N cf sc ir es = true → PA X es (tAr X.K cf.io (evA cf ir))
def SK (N : List Str) (cf : Cfg) (ir : E) : Prop := ∀ (X : Cx) (sc : Scope), XOk X N sc cf → ∀ ks, chkA N cf sc ir (kwE ks) = true → PK X ks (tAr X.K cf.io (evA cf ir))
def SO (N : List Str) (cf : Cfg) (ir : E) : Prop := ∀ (X : Cx) (sc : Scope), XOk X N sc cf → ∀ e, chkO N cf sc ir e = true → PO X e (tPo X.K cf.io (evO cf ir))
def SB (N : List Str) (cf : Cfg) (ir : E) : Prop := ∀ (X : Cx) (sc : Scope), XOk X N sc cf → ∀ e, chkB N cf sc ir e = true → PT X e (tBo X.K cf.io (evB cf ir)) ∧ (∀ o vs p, e = .BoolOp o vs p → PW X e (tBo X.K cf.io (evB cf ir)))
def ST (N : List Str) (cf : Cfg) (ir : E) : Prop := ∀ (X : Cx) (sc : Scope), XOk X N sc cf → ∀ es, chkT N cf sc ir es = true → PTs X es (tBo X.K cf.io (evT cf ir))
def SI (N : List Str) (cf : Cfg) (ir : E) : Prop := ∀ (X : Cx) (sc : Scope), XOk X N sc cf → ∀ tg e, chkI N cf sc tg ir e = true → PI X tg e (tIt X.K cf.io (evI cf ir))
def chkTg1 (N : List Str) (sc : Scope) (tg : List Nat) (tt : Bool) (x : Expr) : Bool := !tt && (match tg with
    | [i] => chkNm N sc i x
    | _ => false)
def SC (N : List Str) (cf : Cfg) (ir : E) : Prop := ∀ (X : Cx) (sc : Scope), XOk X N sc cf → ∀ l os r p, chkE N cf sc ir (.Compare l os r p) = true → PT X (.Compare l os r p) (tBo X.K cf.io (truM (evE cf ir)))
section
variable {X : Cx} {N : List Str} {sc : Scope} {cf : Cfg}
theorem and2 {a b : Bool} (h : (a && b) = true) : a = true ∧ b = true := by rw [Bool.and_eq_true] at h; exact h
theorem pts_imp {es : List Expr} {t u : TT} (h : PTs X es t) (i : ∀ σ H Q, u σ H Q → t σ H Q) : PTs X es u := ⟨fun pins s σ H Q I q => h.run pins s σ H Q I (i σ H Q q)⟩
theorem po_imp {e : Option Expr} {t u : TO} (h : PO X e t) (i : ∀ σ H Q, u σ H Q → t σ H Q) : PO X e u := ⟨fun pins s σ H Q I q => h.run pins s σ H Q I (i σ H Q q)⟩
/-- the block of a comprehension -/
theorem XOk.blk (o : XOk X N sc cf) {scope : Scope} {own : List (Str × Nat)} (ok : BlkOk X.N X.env.scope scope own) (s : Shared) (H : Hp) (C : Addr) (cl : List (Str × Addr)) (fp : List Addr) (pl : plainC cf = true) :
    XOk (X.blk s H scope (compEnvC scope cl C X.env) fp) N (relS scope sc) cf where
  n := o.n
  hs := by rw [← o.hs]; rfl
  nd := o.nd
  kind := ok.kind
  calm := o.calm
  hu := o.hu
  gd := o.gd
  cal := fun j c h => let ⟨f, fd, k, ps, ds, dvs, h⟩ := (o.cal j c h).ex; ⟨f, fd, k, ps, ds, dvs, h⟩
  kcal := fun j c h => let ⟨f, fd, k, ps, h⟩ := (o.kcal j c h).ex; ⟨f, fd, k, ps, h⟩
  glb := o.glb
  bis := fun b h => by have := o.bis b h; cases b <;> exact this
  tys := o.tys
  its := o.its
  hol := fun m h => by rw [(plainC_ok pl).1] at h; cases h
  fwk := fun w h => by rw [(plainC_ok pl).2] at h; cases h
theorem relS_loc {scope sc : Scope} {x : Str} (h : locS scope x = true) : Loc (relS scope sc) x ∧ (scope.names.lookup x = some .cell ∨ (relS scope sc).names.lookup x = some .local) := by
  have key : ∀ (l : List (Str × NameKind)) (k : NameKind), k ≠ .free → l.lookup x = some k → (l.map fun (n, k) => if (k == NameKind.free && sc.kind == ScopeKind.function && sc.names.lookup n == some NameKind.cell) = true then (n, NameKind.cell) else (n, k)).lookup x = some k := by
    intro l k hk
    induction l with
    | nil => intro h; cases h
    | cons a r ih =>
      obtain ⟨n, j⟩ := a
      intro h
      rw [List.map_cons]
      rw [List.lookup_cons] at h
      split at h
      · rename_i hx
        cases h
        have : (k == NameKind.free) = false := by cases k <;> first | rfl | exact absurd rfl hk
        simp only [this, Bool.false_and, Bool.false_eq_true, if_false]
        rw [List.lookup_cons, hx]
      · rename_i hx
        by_cases hC : (j == NameKind.free && sc.kind == ScopeKind.function && sc.names.lookup n == some NameKind.cell) = true
        · simp only [hC, if_true]
          rw [List.lookup_cons, hx]; exact ih h
        · simp only [hC, Bool.false_eq_true, if_false]
          rw [List.lookup_cons, hx]; exact ih h
  unfold locS at h
  simp only [Bool.or_eq_true, decide_eq_true_eq] at h
  rcases h with h | h
  · have := key _ _ (by decide) h
    exact ⟨.inl this, .inr this⟩
  · have := key _ _ (by decide) h
    exact ⟨.inr this, .inl h⟩
theorem chkNms_len : ∀ {tg : List Nat} {es : List Expr}, chkNms N sc tg es = true → es.length = tg.length
  | [], [], _ => rfl
  | [], _ :: _, h => by cases h
  | _ :: _, [], h => by cases h
  | i :: is, e :: es, h => by
    rw [List.length_cons, List.length_cons, chkNms_len (and2 h).2]
theorem ae_len : ∀ (es : List Expr) (env : Env), (assignEach es env).length = es.length := by
  intro es env
  induction es with
  | nil => rfl
  | cons e es ih => cases e <;> (show _ + 1 = _; rw [ih]; rfl)
theorem ae_nostar : ∀ {tg : List Nat} {es : List Expr} {env : Env}, chkNms N sc tg es = true → (assignEach es env).findIdx? (·.1) = none
  | [], [], env, _ => rfl
  | [], _ :: _, _, h => by cases h
  | _ :: _, [], _, h => by cases h
  | i :: is, e :: es, env, h => by
    obtain ⟨h1, h2⟩ := and2 h
    cases e <;> try (cases h1; done)
    show List.findIdx? (·.1) ((false, _) :: assignEach es env) = none
    rw [List.findIdx?_cons, ae_nostar h2]
    rfl
theorem pg_ns (o : XOk X N sc cf) {scope : Scope} {own : List (Str × Nat)} (ok : BlkOk X.N X.env.scope scope own) {i : Nat} {e : Expr} (h : chkNm N scope i e = true) (s : Shared) (H : Hp) (C : Addr) (cl : List (Str × Addr)) (fp : List Addr) :
    PG (X.blk s H scope (compEnvC scope cl C X.env) fp) e (tTg X.K cf.io [i] (gNs i)) := by
  cases e <;> try (cases h; done)
  rename_i x p
  obtain ⟨h1, h2⟩ := and2 h
  obtain ⟨l1, l2⟩ := relS_loc (sc := sc) h2
  have hsc : (compEnvC scope cl C X.env).scope = relS scope sc := by rw [← o.hs]; rfl
  refine pg_imp (pg_name (X := X.blk s H scope (compEnvC scope cl C X.env) fp) (i := i) (by show X.N.Nodup; rw [o.n]; exact o.nd) (by show X.N[i]? = some x; rw [o.n]; exact of_decide_eq_true h1) (by show Loc (compEnvC scope cl C X.env).scope x; rw [hsc]; exact l1) ?_) fun v σ H Q h => tG_ns h
  rcases l2 with l2 | l2
  · exact .inl (by show (scope.names.lookup x == some .cell) = true; rw [l2]; rfl)
  · exact .inr (by show (compEnvC scope cl C X.env).scope.names.lookup x = some .local; rw [hsc]; exact l2)
theorem pgs_ns (o : XOk X N sc cf) {scope : Scope} {own : List (Str × Nat)} (ok : BlkOk X.N X.env.scope scope own) (s : Shared) (H : Hp) (C : Addr) (cl : List (Str × Addr)) (fp : List Addr) : ∀ {tg : List Nat} {es : List Expr}, chkNms N scope tg es = true →
    PGs (X.blk s H scope (compEnvC scope cl C X.env) fp) es (tTgs X.K cf.io tg (tg.map gNs))
  | [], [], _ => ⟨fun pins s σ H vs us Q I r q => pgs_nil.run pins s σ H vs us Q I r (tGs_nil q)⟩
  | [], _ :: _, h => by cases h
  | _ :: _, [], h => by cases h
  | i :: is, e :: es, h => by
    obtain ⟨h1, h2⟩ := and2 h
    have a := pg_ns o ok h1 s H C cl fp
    have b := pgs_ns o ok s H C cl fp h2
    have hs : (assignEach (e :: es) (X.blk s H scope (compEnvC scope cl C X.env) fp).env).map (·.2) = assign e (X.blk s H scope (compEnvC scope cl C X.env) fp).env :: (assignEach es (X.blk s H scope (compEnvC scope cl C X.env) fp).env).map (·.2) := by
      cases e <;> first | rfl | (cases h1; done)
    exact ⟨fun pins s σ H vs us Q I r q => (pgs_cons a b hs).run pins s σ H vs us Q I r (tGs_cons (w1 := [i]) (w2 := is) q)⟩
theorem pg_tg1 (o : XOk X N sc cf) {scope : Scope} {own : List (Str × Nat)} (ok : BlkOk X.N X.env.scope scope own) {tg : List Nat} {tt : Bool} {e : Expr} (h : chkTg1 N scope tg tt e = true) (s : Shared) (H : Hp) (C : Addr) (cl : List (Str × Addr)) (fp : List Addr) :
    PG (X.blk s H scope (compEnvC scope cl C X.env) fp) e (tTg X.K cf.io tg (tgNm tg tt)) := by
  obtain ⟨h1, h2⟩ := and2 h
  have ht : tt = false := by cases tt <;> first | rfl | cases h1
  subst ht
  match tg, h2 with
  | [i], h2 => exact pg_ns o ok h2 s H C cl fp
theorem pg_tg (o : XOk X N sc cf) {scope : Scope} {own : List (Str × Nat)} (ok : BlkOk X.N X.env.scope scope own) {tg : List Nat} {tt : Bool} {e : Expr} (h : chkTg N scope tg tt e = true) (s : Shared) (H : Hp) (C : Addr) (cl : List (Str × Addr)) (fp : List Addr) :
    PG (X.blk s H scope (compEnvC scope cl C X.env) fp) e (tTg X.K cf.io tg (tgNm tg tt)) := by
  cases e <;> try (exact pg_tg1 o ok h s H C cl fp)
  obtain ⟨h1, h2⟩ := and2 h
  subst h1
  have b := pgs_ns o ok s H C cl fp h2
  exact pg_imp (pg_tup (n := tg.length) o.calm b (by rw [ae_len]; exact chkNms_len h2) (ae_nostar h2)) fun v σ H Q h => by
    have := tG_tup (K := X.K) h
    rw [List.length_map] at this
    exact this
/-- what is no such thing -/
theorem no {a : Prop} {b : Bool} (h : b = true) (e : b = false) : a := by rw [e] at h; cases h
theorem plain_two {as : E} {a b : Expr} {r : List Expr} (h : chkA N cf sc as (a :: b :: r) = true) : plainE a = true ∧ plainE b = true := by
  cases as with
  | cons x y =>
    have h : (chkE N cf sc x a && chkA N cf sc y (b :: r)) = true := h
    obtain ⟨h1, h2⟩ := and2 h
    refine ⟨chkE_plain h1, ?_⟩
    cases y with
    | cons u w =>
      have h : (chkE N cf sc u b && chkA N cf sc w r) = true := h2
      exact chkE_plain (and2 h).1
    | _ => cases h2
  | _ => cases h
theorem sound (ir : E) : SE N cf ir ∧ SA N cf ir ∧ SK N cf ir ∧ SO N cf ir ∧ SB N cf ir ∧ ST N cf ir ∧ SI N cf ir ∧ SC N cf ir := by
  induction ir with
  | v i =>
    refine ⟨fun X sc o e h => ?_, fun X sc o e h => no h rfl, fun X sc o e h => no h rfl, fun X sc o e h => no h rfl, fun X sc o e h => no h rfl, fun X sc o e h => no h rfl, fun X sc o tg e h => no h rfl, fun X sc o l os r p h => no h rfl⟩
    obtain ⟨x, e1, hz⟩ := oAll_ok h; clear h; have h := hz; clear hz
    obtain ⟨p, rfl⟩ := dName_ok e1
    exact pe_imp (o.var h) fun σ H Q h => tR_var h
  | k d =>
    refine ⟨fun X sc o e h => ?_, fun X sc o e h => no h rfl, fun X sc o e h => no h rfl, fun X sc o e h => no h rfl, fun X sc o e h => no h rfl, fun X sc o e h => no h rfl, fun X sc o tg e h => no h rfl, fun X sc o l os r p h => no h rfl⟩
    obtain ⟨x, e1, hz⟩ := oAll_ok h; clear h; have h := hz; clear hz
    obtain ⟨j, p, rfl⟩ := dConst_ok e1
    cases d <;> cases x <;> try (cases h; done)
    · exact pe_imp pe_non fun σ H Q h => tR_d .non (fun _ => by unfold Rep; rfl) h
    · have e := of_decide_eq_true h; subst e
      exact pe_imp pe_bl fun σ H Q h => tR_d (.bl _) (fun _ => by unfold Rep; rfl) h
    · have e := of_decide_eq_true h; subst e
      exact pe_imp pe_int fun σ H Q h => tR_d (.int _) (fun _ => by unfold Rep; rfl) h
    · have e := of_decide_eq_true h; subst e
      exact pe_imp pe_str fun σ H Q h => tR_d (.str _) (fun _ => by unfold Rep; rfl) h
  | g n =>
    refine ⟨fun X sc o e h => ?_, fun X sc o e h => no h rfl, fun X sc o e h => no h rfl, fun X sc o e h => no h rfl, fun X sc o e h => no h rfl, fun X sc o e h => no h rfl, fun X sc o tg e h => no h rfl, fun X sc o l os r p h => no h rfl⟩
    obtain ⟨x, e1, hz⟩ := oAll_ok h; clear h; have h := hz; clear hz
    obtain ⟨p, rfl⟩ := dName_ok e1
    obtain ⟨h1, h2⟩ := and2 h
    obtain ⟨h3, h4⟩ := and2 h2
    obtain ⟨q, e2, hz⟩ := oAll_ok h1; clear h1; have h1 := hz; clear hz
    have hx := of_decide_eq_true h1
    subst hx
    obtain ⟨u, v, g1, g2, g3⟩ := o.glb n q e2
    have : evE cf (.g n) = dM q.2 := by show (match cf.G[n]? with | some p => dM p.2 | none => stkM) = _; rw [e2]
    rw [this]
    exact pe_imp (pe_glob (o.gl h3) g1 g2 (okNm_ok h4).1) fun σ H Q h => tR_d v g3 h
  | ty t =>
    refine ⟨fun X sc o e h => ?_, fun X sc o e h => no h rfl, fun X sc o e h => no h rfl, fun X sc o e h => no h rfl, fun X sc o e h => no h rfl, fun X sc o e h => no h rfl, fun X sc o tg e h => no h rfl, fun X sc o l os r p h => no h rfl⟩
    obtain ⟨x, e1, hz⟩ := oAll_ok h; clear h; have h := hz; clear hz
    obtain ⟨p, rfl⟩ := dName_ok e1
    obtain ⟨h1, h2⟩ := and2 h
    obtain ⟨h3, h4⟩ := and2 h2
    obtain ⟨h5, h6⟩ := and2 h4
    have hx := of_decide_eq_true h1
    subst hx
    obtain ⟨m, nn⟩ := o.tys t (of_decide_eq_true h3)
    obtain ⟨k1, _, k3⟩ := okNm_ok h6
    exact pe_imp (pe_bltn (v := .ty t.name) (o.gl h5) m (boot_ty t nn) rfl k3 k1) fun σ H Q h => tR_d (.ty t.name) (fun _ => by unfold Rep; rfl) h
  | neg a ih =>
    refine ⟨fun X sc o e h => ?_, fun X sc o e h => no h rfl, fun X sc o e h => no h rfl, fun X sc o e h => no h rfl, fun X sc o e h => no h rfl, fun X sc o e h => no h rfl, fun X sc o tg e h => no h rfl, fun X sc o l os r p h => no h rfl⟩
    obtain ⟨x, e1, hz⟩ := oAll_ok h; clear h; have h := hz; clear hz
    obtain ⟨p, rfl⟩ := dNeg_ok e1
    exact pe_imp (pe_un negR (ih.1 X sc o x h)) fun σ H Q h => tR_un h
  | bin op a b iha ihb =>
    refine ⟨fun X sc o e h => ?_, fun X sc o e h => no h rfl, fun X sc o e h => no h rfl, fun X sc o e h => no h rfl, fun X sc o e h => no h rfl, fun X sc o e h => no h rfl, fun X sc o tg e h => no h rfl, fun X sc o l os r p h => no h rfl⟩
    obtain ⟨t, e1, hz⟩ := oAll_ok h; clear h; have h := hz; clear hz
    obtain ⟨p, rfl⟩ := dBin_ok e1
    obtain ⟨h1, h2⟩ := and2 h
    obtain ⟨h3, h4⟩ := and2 h2
    have hx := of_decide_eq_true h1
    rw [← hx]
    exact pe_imp (pe_op (opr_bin op) (iha.1 X sc o _ h3) (ihb.1 X sc o _ h4)) fun σ H Q h => tR_op h
  | cmp op a b iha ihb =>
    refine ⟨fun X sc o e h => ?_, fun X sc o e h => no h rfl, fun X sc o e h => no h rfl, fun X sc o e h => no h rfl, fun X sc o e h => no h rfl, fun X sc o e h => no h rfl, fun X sc o tg e h => no h rfl, fun X sc o l os r p h => ?_⟩
    · obtain ⟨t, e1, hz⟩ := oAll_ok h; clear h; have h := hz; clear hz
      obtain ⟨p, rfl⟩ := dCmp1_ok e1
      obtain ⟨h1, h2⟩ := and2 h
      obtain ⟨h3, h4⟩ := and2 h2
      have hx := of_decide_eq_true h1
      rw [← hx]
      exact pe_imp (pe_cmpR (opr_cmp op o.hu) (iha.1 X sc o _ h3) (ihb.1 X sc o _ h4) (plain_mark (chkE_plain h4))) fun σ H Q h => tR_op h
    · obtain ⟨t, e1, hz⟩ := oAll_ok h; clear h; have h := hz; clear hz
      obtain ⟨p', e2⟩ := dCmp1_ok e1; injection e2 with a1 a2 a3 a4; subst a1 a2 a3 a4
      obtain ⟨h1, h2⟩ := and2 h
      obtain ⟨h3, h4⟩ := and2 h2
      have hx := of_decide_eq_true h1
      rw [← hx]
      refine pt_imp (pt_cmpR (opr_cmp op o.hu) (iha.1 X sc o _ h3) (ihb.1 X sc o _ h4) (plain_mark (chkE_plain h4))) fun σ H Q h => ?_
      have := tB_cmp opM_bl h
      exact tR_op this
  | chn o1 o2 a b d iha ihb ihd =>
    refine ⟨fun X sc o e h => ?_, fun X sc o e h => no h rfl, fun X sc o e h => no h rfl, fun X sc o e h => no h rfl, fun X sc o e h => no h rfl, fun X sc o e h => no h rfl, fun X sc o tg e h => no h rfl, fun X sc o l os r p h => ?_⟩
    · obtain ⟨t, e1, hz⟩ := oAll_ok h; clear h; have h := hz; clear hz
      obtain ⟨p, rfl⟩ := dCmp2_ok e1
      obtain ⟨h1, h2⟩ := and2 h
      obtain ⟨h3, h4⟩ := and2 h1
      obtain ⟨h5, h6⟩ := and2 h2
      obtain ⟨h7, h8⟩ := and2 h6
      rw [← of_decide_eq_true h3, ← of_decide_eq_true h4]
      exact pe_imp (pe_chain (opr_cmp o1 o.hu) (opr_cmp o2 o.hu) (iha.1 X sc o _ h5) (ihb.1 X sc o _ h7) (ihd.1 X sc o _ h8) (show lastMarks [o2] [_] = false from plain_mark (chkE_plain h8))) fun σ H Q h => tR_chn h
    · obtain ⟨t, e1, hz⟩ := oAll_ok h; clear h; have h := hz; clear hz
      obtain ⟨p', e2⟩ := dCmp2_ok e1; injection e2 with a1 a2 a3 a4; subst a1 a2 a3 a4
      obtain ⟨h1, h2⟩ := and2 h
      obtain ⟨h3, h4⟩ := and2 h1
      obtain ⟨h5, h6⟩ := and2 h2
      obtain ⟨h7, h8⟩ := and2 h6
      rw [← of_decide_eq_true h3, ← of_decide_eq_true h4]
      refine pt_imp (pt_chain (opr_cmp o1 o.hu) (opr_cmp o2 o.hu) (iha.1 X sc o _ h5) (ihb.1 X sc o _ h7) (ihd.1 X sc o _ h8) (show lastMarks [o2] [_] = false from plain_mark (chkE_plain h8))) fun σ H Q h => ?_
      have := tB_cmp chnM_bl h
      exact tR_chn this
  | and a b iha ihb =>
    refine ⟨fun X sc o e h => ?_, fun X sc o e h => no h rfl, fun X sc o e h => no h rfl, fun X sc o e h => no h rfl, fun X sc o e h => ?_, fun X sc o e h => no h rfl, fun X sc o tg e h => no h rfl, fun X sc o l os r p h => no h rfl⟩
    · obtain ⟨t, e1, hz⟩ := oAll_ok h; clear h; have h := hz; clear hz
      obtain ⟨y, r, p, rfl, e2⟩ := dAnd_ok e1
      obtain ⟨h1, h2⟩ := and2 h
      have h2 := e2 ▸ h2
      exact pe_imp (pe_and (iha.1 X sc o _ h1) (ihb.1 X sc o _ h2)) fun σ H Q h => tR_and h
    · obtain ⟨t, e1, hz⟩ := oAll_ok h; clear h; have h := hz; clear hz
      obtain ⟨y, r, p, rfl, e2⟩ := dAnd_ok e1
      obtain ⟨h1, h2⟩ := and2 h
      have h2 := e2 ▸ h2
      have w := pw_imp (pw_and (iha.2.2.2.2.1 X sc o _ h1).1 ((ihb.2.2.2.2.1 X sc o _ h2).2 _ _ _ rfl)) fun σ H Q h => tB_and h
      exact ⟨w.pt, fun _ _ _ _ => w⟩
  | or a b iha ihb =>
    refine ⟨fun X sc o e h => ?_, fun X sc o e h => no h rfl, fun X sc o e h => no h rfl, fun X sc o e h => no h rfl, fun X sc o e h => ?_, fun X sc o e h => no h rfl, fun X sc o tg e h => no h rfl, fun X sc o l os r p h => no h rfl⟩
    · obtain ⟨t, e1, hz⟩ := oAll_ok h; clear h; have h := hz; clear hz
      obtain ⟨y, r, p, rfl, e2⟩ := dOr_ok e1
      obtain ⟨h1, h2⟩ := and2 h
      have h2 := e2 ▸ h2
      exact pe_imp (pe_or (iha.1 X sc o _ h1) (ihb.1 X sc o _ h2)) fun σ H Q h => tR_or h
    · obtain ⟨t, e1, hz⟩ := oAll_ok h; clear h; have h := hz; clear hz
      obtain ⟨y, r, p, rfl, e2⟩ := dOr_ok e1
      obtain ⟨h1, h2⟩ := and2 h
      have h2 := e2 ▸ h2
      have w := pw_imp (pw_or (iha.2.2.2.2.1 X sc o _ h1).1 ((ihb.2.2.2.2.1 X sc o _ h2).2 _ _ _ rfl)) fun σ H Q h => tB_or h
      exact ⟨w.pt, fun _ _ _ _ => w⟩
  | one a ih =>
    refine ⟨fun X sc o e h => ?_, fun X sc o e h => no h rfl, fun X sc o e h => no h rfl, fun X sc o e h => no h rfl, fun X sc o e h => ?_, fun X sc o e h => no h rfl, fun X sc o tg e h => no h rfl, fun X sc o l os r p h => no h rfl⟩
    · obtain ⟨x, e1, hz⟩ := oAll_ok h; clear h; have h := hz; clear hz
      obtain ⟨op, p, rfl⟩ := dOne_ok e1
      exact pe_one (ih.1 X sc o _ h)
    · obtain ⟨x, e1, hz⟩ := oAll_ok h; clear h; have h := hz; clear hz
      obtain ⟨op, p, rfl⟩ := dOne_ok e1
      have hx := (ih.2.2.2.2.1 X sc o _ h).1
      cases op with
      | And => exact ⟨(pw_and1 hx).pt, fun _ _ _ _ => pw_and1 hx⟩
      | Or => exact ⟨(pw_or1 hx).pt, fun _ _ _ _ => pw_or1 hx⟩
  | not a ih =>
    refine ⟨fun X sc o e h => ?_, fun X sc o e h => no h rfl, fun X sc o e h => no h rfl, fun X sc o e h => no h rfl, fun X sc o e h => ?_, fun X sc o e h => no h rfl, fun X sc o tg e h => no h rfl, fun X sc o l os r p h => no h rfl⟩
    · obtain ⟨x, e1, hz⟩ := oAll_ok h; clear h; have h := hz; clear hz
      obtain ⟨p, rfl⟩ := dNot_ok e1
      exact pe_imp (pe_not (ih.1 X sc o _ h)) fun σ H Q h => tR_not h
    · obtain ⟨x, e1, hz⟩ := oAll_ok h; clear h; have h := hz; clear hz
      obtain ⟨p, rfl⟩ := dNot_ok e1
      exact ⟨pt_imp (pt_not (ih.2.2.2.2.1 X sc o _ h).1) fun σ H Q h => tB_not h, fun _ _ _ e => by cases e⟩
  | ife t a b iht iha ihb =>
    refine ⟨fun X sc o e h => ?_, fun X sc o e h => no h rfl, fun X sc o e h => no h rfl, fun X sc o e h => no h rfl, fun X sc o e h => no h rfl, fun X sc o e h => no h rfl, fun X sc o tg e h => no h rfl, fun X sc o l os r p h => no h rfl⟩
    obtain ⟨u, e1, hz⟩ := oAll_ok h; clear h; have h := hz; clear hz
    obtain ⟨p, rfl⟩ := dIf_ok e1
    obtain ⟨h1, h2⟩ := and2 h
    obtain ⟨h3, h4⟩ := and2 h2
    exact pe_imp (pe_ifExp (iht.2.2.2.2.1 X sc o _ h1).1 (iha.1 X sc o _ h3) (ihb.1 X sc o _ h4)) fun σ H Q h => tR_ife h
  | tup as ih =>
    refine ⟨fun X sc o e h => ?_, fun X sc o e h => no h rfl, fun X sc o e h => no h rfl, fun X sc o e h => no h rfl, fun X sc o e h => no h rfl, fun X sc o e h => no h rfl, fun X sc o tg e h => no h rfl, fun X sc o l os r p h => no h rfl⟩
    obtain ⟨xs, e1, hz⟩ := oAll_ok h; clear h; have h := hz; clear hz
    obtain ⟨j, p, rfl⟩ := dTup_ok e1
    exact pe_imp (pe_tup (ih.2.1 X sc o _ h)) fun σ H Q h => tR_tup h
  | lst as ih =>
    refine ⟨fun X sc o e h => ?_, fun X sc o e h => no h rfl, fun X sc o e h => no h rfl, fun X sc o e h => no h rfl, fun X sc o e h => no h rfl, fun X sc o e h => no h rfl, fun X sc o tg e h => no h rfl, fun X sc o l os r p h => no h rfl⟩
    obtain ⟨xs, e1, hz⟩ := oAll_ok h; clear h; have h := hz; clear hz
    obtain ⟨p, rfl⟩ := dLst_ok e1
    exact pe_imp (pe_lst (ih.2.1 X sc o _ h)) fun σ H Q h => tR_lst h
  | nil =>
    refine ⟨fun X sc o e h => no h rfl, fun X sc o es h => ?_, fun X sc o ks h => ?_, fun X sc o e h => ?_, fun X sc o e h => no h rfl, fun X sc o es h => ?_, fun X sc o tg e h => no h rfl, fun X sc o l os r p h => no h rfl⟩
    · have : es = [] := List.isEmpty_iff.mp h
      subst this
      exact pa_imp pa_nil fun σ H Q h => tA_nil h
    · have : kwE ks = [] := List.isEmpty_iff.mp h
      cases ks with
      | nil => exact ⟨fun pos pins s σ H Q I q => pk_nil.run pos pins s σ H Q I (tA_nil q)⟩
      | cons k ks => cases this
    · cases e with
      | some e => cases h
      | none => exact po_imp po_none fun σ H Q h => tP_no h
    · have : es = [] := List.isEmpty_iff.mp h
      subst this
      exact pts_imp pts_nil fun σ H Q h => tB_yes h
  | cons a r iha ihr =>
    refine ⟨fun X sc o e h => no h rfl, fun X sc o es h => ?_, fun X sc o ks h => ?_, fun X sc o e h => no h rfl, fun X sc o e h => no h rfl, fun X sc o es h => ?_, fun X sc o tg e h => no h rfl, fun X sc o l os r p h => no h rfl⟩
    · obtain ⟨x, e1, hz⟩ := oAll_ok h; clear h; have h := hz; clear hz
      cases es with
      | nil => cases e1
      | cons y ys =>
        cases e1
        obtain ⟨h1, h2⟩ := and2 h
        exact pa_imp (pa_cons (iha.1 X sc o _ h1) (ihr.2.1 X sc o _ h2) (star_plain (chkE_plain h1))) fun σ H Q h => tA_cons h
    · obtain ⟨x, e1, hz⟩ := oAll_ok h; clear h; have h := hz; clear hz
      cases ks with
      | nil => cases e1
      | cons k ks =>
        cases e1
        obtain ⟨h1, h2⟩ := and2 h
        obtain ⟨nm, v, kp⟩ := k
        have a := iha.1 X sc o _ h1
        have b := ihr.2.2.1 X sc o ks h2
        exact ⟨fun pos pins s σ H Q I q => (pk_cons a b).run pos pins s σ H Q I (tA_cons q)⟩
    · obtain ⟨x, e1, hz⟩ := oAll_ok h; clear h; have h := hz; clear hz
      have := one_ok e1
      subst this
      exact pts_one (iha.2.2.2.2.1 X sc o _ h).1
  | ix a b iha ihb =>
    refine ⟨fun X sc o e h => ?_, fun X sc o e h => no h rfl, fun X sc o e h => no h rfl, fun X sc o e h => no h rfl, fun X sc o e h => no h rfl, fun X sc o e h => no h rfl, fun X sc o tg e h => no h rfl, fun X sc o l os r p h => no h rfl⟩
    obtain ⟨t, e1, hz⟩ := oAll_ok h; clear h; have h := hz; clear hz
    obtain ⟨p, rfl⟩ := dIx_ok e1
    obtain ⟨h1, h2⟩ := and2 h
    exact pe_imp (pe_ix ixr_D (iha.1 X sc o _ h1) (ihb.1 X sc o _ h2) (plain_ix (chkE_plain h2))) fun σ H Q h => tR_op h
  | sl a lo hi iha ihl ihh =>
    refine ⟨fun X sc o e h => ?_, fun X sc o e h => no h rfl, fun X sc o e h => no h rfl, fun X sc o e h => no h rfl, fun X sc o e h => no h rfl, fun X sc o e h => no h rfl, fun X sc o tg e h => no h rfl, fun X sc o l os r p h => no h rfl⟩
    obtain ⟨t, e1, hz⟩ := oAll_ok h; clear h; have h := hz; clear hz
    obtain ⟨p, rfl⟩ := dIx_ok e1
    obtain ⟨u, e2, hz⟩ := oAll_ok h; clear h; have h := hz; clear hz
    obtain ⟨p2, e3⟩ := dSlice_ok e2
    rw [e3]
    obtain ⟨h1, h2⟩ := and2 h
    obtain ⟨h3, h4⟩ := and2 h2
    exact pe_imp (pe_slice slr_D (iha.1 X sc o _ h1) (ihl.2.2.2.1 X sc o _ h3) (ihh.2.2.2.1 X sc o _ h4)) fun σ H Q h => tR_sl h
  | call j as ih =>
    refine ⟨fun X sc o e h => ?_, fun X sc o e h => no h rfl, fun X sc o e h => no h rfl, fun X sc o e h => no h rfl, fun X sc o e h => no h rfl, fun X sc o e h => no h rfl, fun X sc o tg e h => no h rfl, fun X sc o l os r p h => no h rfl⟩
    obtain ⟨⟨x, es, ks⟩, e1, hz⟩ := oAll_ok h; clear h; have h := hz; clear hz
    obtain ⟨p, q, rfl⟩ := dNamed_ok e1
    obtain ⟨h1, h2⟩ := and2 h
    obtain ⟨c, e2, hz⟩ := oAll_ok h1; clear h1; have h1 := hz; clear hz
    obtain ⟨h3, h4⟩ := and2 h1
    obtain ⟨h5, h6⟩ := and2 h2
    obtain ⟨h7, h8⟩ := and2 h5
    obtain ⟨h9, h10⟩ := and2 h8
    have hx : c.name = x := of_decide_eq_true h3
    subst hx
    have hk : ks = [] := noKw_ok h7
    subst hk
    have hlen := of_decide_eq_true h4
    obtain ⟨f, fd, k, ps, ds, dvs, m, kp, F, hr, hb, hd, ha⟩ := (o.cal j c e2).ex
    have ev : evE cf (.call j as) = callM c (evA cf as) := by show (match cf.C[j]? with | some k => callM k (evA cf as) | none => stkM) = _; rw [e2]
    rw [ev]
    have n := okNm_ok h10
    have ld : dvs.length = c.ds.length := (atoms_reps (K := X.K) (H := fun _ => none) ha).length
    have arg := ih.2.1 X sc o es h6
    have want : ∀ σ H Q, tR X.K cf.io (callM c (evA cf as)) σ H Q → tCall (spF X.K c.io c.n c.fn) dvs E0 (tAr X.K cf.io (evA cf as)) σ H Q := fun σ H Q h => tR_call (fun ρ x e => by rw [evA_len as e, ld]; exact hlen) ha h
    cases es with
    | nil =>
      have : as = .nil := by
        cases as <;> first | rfl | (cases h6; done)
      subst this
      refine pe_imp (pe_callG0 F hr o.gd (o.gl h9) m kp hb hd passL n.1) fun σ H Q h => ?_
      exact tA_nil (want σ H Q h)
    | cons y ys =>
      have pl : plainE y = true := by
        cases as <;> first | (cases h6; done) | skip
        obtain ⟨_, e, h6⟩ := oAll_ok h6
        cases e
        exact chkE_plain (and2 h6).1
      have sr : ∀ pos, (backTo pos (starEach ys X.env)).any (·.1) = false := by
        intro pos
        have := chkA_star as (env := X.env) (pos := pos) h6
        rw [star_plain pl] at this
        exact this
      exact pe_imp (pe_callG F hr o.gd (o.gl h9) m kp hb hd passL arg n.1 (star_plain pl) (sr _)) fun σ H Q h => want σ H Q h
  | callk j as ks iha ihk =>
    refine ⟨fun X sc o e h => ?_, fun X sc o e h => no h rfl, fun X sc o e h => no h rfl, fun X sc o e h => no h rfl, fun X sc o e h => no h rfl, fun X sc o e h => no h rfl, fun X sc o tg e h => no h rfl, fun X sc o l os r p h => no h rfl⟩
    obtain ⟨⟨x, es, kws⟩, e1, hz⟩ := oAll_ok h; clear h; have h := hz; clear hz
    obtain ⟨p, q, rfl⟩ := dNamed_ok e1
    obtain ⟨h1, h2⟩ := and2 h
    obtain ⟨k, e2, hz⟩ := oAll_ok h1; clear h1; have h1 := hz; clear hz
    obtain ⟨h3, h4⟩ := and2 h1
    obtain ⟨h5, h6⟩ := and2 h3
    obtain ⟨h7, h8⟩ := and2 h4
    obtain ⟨h9, h10⟩ := and2 h8
    obtain ⟨h11, h12⟩ := and2 h2
    obtain ⟨h13, h14⟩ := and2 h11
    obtain ⟨h15, h16⟩ := and2 h12
    have hx : k.c.name = x := of_decide_eq_true h5
    subst hx
    obtain ⟨f, fd, l, ps, m, kp, F, hr, hb⟩ := (o.kcal j k e2).ex
    have ev : evE cf (.callk j as ks) = callM k.c (permM k.perm (appendM (evA cf as) (evA cf ks))) := by show (match cf.KC[j]? with | some k => callM k.c (permM k.perm (appendM (evA cf as) (evA cf ks))) | none => stkM) = _; rw [e2]
    rw [ev]
    have n := okNm_ok h14
    have hns : kwN kws = some k.names := of_decide_eq_true h9
    have hnp : lenE as = k.np := of_decide_eq_true h7
    have lk : lenE ks = k.names.length := by
      rw [← chkA_len ks h16]
      have : ∀ (kws : List Keyword) (ns : List Str), kwN kws = some ns → (kwE kws).length = ns.length := by
        intro kws
        induction kws with
        | nil => intro ns h; cases h; rfl
        | cons k ks ih =>
          intro ns h
          obtain ⟨a, _, h⟩ := obind (show k.arg.bind _ = _ from h)
          obtain ⟨r, e2, h⟩ := obind h
          cases h
          show (kwE ks).length + 1 = r.length + 1
          rw [ih r e2]
      exact this kws _ hns
    have hds : k.c.ds = [] := List.eq_nil_of_length_eq_zero (of_decide_eq_true h6)
    have rd := fun σ H Q (h : tR X.K cf.io (callM k.c (permM k.perm (appendM (evA cf as) (evA cf ks)))) σ H Q) => tR_callk (k := k) (fun ρ x e => (evA_len as e).trans hnp) (fun ρ x e => (evA_len ks e).trans lk) (of_decide_eq_true h10) hds h
    refine pe_imp (pe_callP F hr o.gd (o.gl h13) m kp hb (iha.2.1 X sc o es h15) (ihk.2.2.1 X sc o kws h16) hns n.1 ?_ ?_ fun pos => chkA_star as h15) rd
    · intro hes σ H Q q
      have : as = .nil := by
        subst hes
        cases as <;> first | rfl | (cases h15; done)
      subst this
      exact tA_nil q
    · cases es with
      | nil => exact .inl rfl
      | cons y ys =>
        refine .inr ⟨y, ys, rfl, star_plain ?_⟩
        cases as <;> first | (cases h15; done) | skip
        obtain ⟨_, e, h15⟩ := oAll_ok h15
        cases e
        exact chkE_plain (and2 h15).1
  | bi b as ih =>
    refine ⟨fun X sc o e h => ?_, fun X sc o e h => no h rfl, fun X sc o e h => no h rfl, fun X sc o e h => no h rfl, fun X sc o e h => no h rfl, fun X sc o e h => no h rfl, fun X sc o tg e h => no h rfl, fun X sc o l os r p h => no h rfl⟩
    obtain ⟨⟨x, es, ks⟩, e1, hz⟩ := oAll_ok h; clear h; have h := hz; clear hz
    obtain ⟨p, q, rfl⟩ := dNamed_ok e1
    obtain ⟨h1, h2⟩ := and2 h
    obtain ⟨h3, h4⟩ := and2 h1
    obtain ⟨h5, h6⟩ := and2 h2
    obtain ⟨h7, h8⟩ := and2 h5
    obtain ⟨h9, h10⟩ := and2 h8
    obtain ⟨h11, h12⟩ := and2 h10
    have hx : x = b.name := of_decide_eq_true h3
    subst hx
    have hk : ks = [] := noKw_ok h7
    subst hk
    cases es with
    | nil => cases h9
    | cons y ys =>
      have pl : plainE y = true := by
        cases as <;> first | (cases h6; done) | skip
        obtain ⟨_, e, h6⟩ := oAll_ok h6
        cases e
        exact chkE_plain (and2 h6).1
      have sr : ∀ pos, (backTo pos (starEach ys X.env)).any (·.1) = false := by
        intro pos
        have := chkA_star as (env := X.env) (pos := pos) h6
        rw [star_plain pl] at this
        exact this
      exact pe_imp (pe_bi o (of_decide_eq_true h4) h11 h12 (ih.2.1 X sc o _ h6) pl sr) fun σ H Q h => tR_bi h
  | lc vs tg tt it t el ihit iht ihel =>
    refine ⟨fun X sc o e h => ?_, fun X sc o e h => no h rfl, fun X sc o e h => no h rfl, fun X sc o e h => no h rfl, fun X sc o e h => no h rfl, fun X sc o e h => no h rfl, fun X sc o tg e h => no h rfl, fun X sc o l os r p h => no h rfl⟩
    obtain ⟨⟨elt, gs, scope⟩, e1, hz⟩ := oAll_ok h; clear h; have h := hz; clear hz
    obtain ⟨p, rfl⟩ := dLc_ok e1
    obtain ⟨g, e2, hz⟩ := oAll_ok h; clear h; have h := hz; clear hz
    have hgs : gs = [g] := one_ok e2
    subst hgs
    obtain ⟨h1, h2⟩ := and2 h
    obtain ⟨h3, h4⟩ := and2 h1
    obtain ⟨hpl, h3⟩ := and2 h3
    obtain ⟨h5, h6⟩ := and2 h4
    obtain ⟨h7, h8⟩ := and2 h6
    obtain ⟨h9, h10⟩ := and2 h2
    obtain ⟨h11, h12⟩ := and2 h10
    obtain ⟨tgx, itx, ifs, asy⟩ := g
    have ha : asy = 0 := of_decide_eq_true h5
    subst ha
    have ok : BlkOk X.N X.env.scope scope (vs.map fun i => (N.getD i "", i)) := by
      rw [o.n, o.hs]; exact blkOk_by h3
    have own2 : (vs.map fun i => (N.getD i "", i)).map (·.2) = vs := by
      rw [List.map_map]; exact List.map_id' vs
    have plit : ∀ x, foldedSetIterable itx X.env x = pure x := by
      intro x
      cases it <;> try (cases h9; done)
      · exact plain_fold (chkE_plain (show chkE N cf sc _ itx = true from h9)) x
      · obtain ⟨_, e, _⟩ := oAll_ok h9
        obtain ⟨_, _, rfl⟩ := dNamed_ok e
        rfl
      · obtain ⟨_, _, h9⟩ := oAll_ok h9
        obtain ⟨_, e, _⟩ := oAll_ok h9
        obtain ⟨_, _, rfl⟩ := dNamed_ok e
        rfl
      · obtain ⟨_, _, h9⟩ := oAll_ok h9
        obtain ⟨_, e, _⟩ := oAll_ok h9
        obtain ⟨_, _, rfl⟩ := dNamed_ok e
        rfl
    have rule := pe_lc (pos := p) (elt := elt) (ifs := ifs) (tg := tgx) (iter := itx) (scope := scope) (tt := tBo X.K cf.io (evT cf t)) o.calm (by rw [o.n]; exact o.nd) (ihit.2.2.2.2.2.2.1 X sc o tgx itx h9) ok (fun s H C cl fp => pg_tg o ok h8 s H C cl fp) (fun s H C cl fp => iht.2.2.2.2.2.1 _ _ (o.blk ok s H C cl fp hpl) ifs h12) (te := tR X.K cf.io (evE cf el)) (fun s H C cl fp => ihel.1 _ _ (o.blk ok s H C cl fp hpl) elt h11) plit
    rw [own2] at rule
    exact pe_imp rule fun σ H Q h => tR_comp (of_decide_eq_true h7) h
  | app i a ih =>
    refine ⟨fun X sc o e h => ?_, fun X sc o e h => no h rfl, fun X sc o e h => no h rfl, fun X sc o e h => no h rfl, fun X sc o e h => no h rfl, fun X sc o e h => no h rfl, fun X sc o tg e h => no h rfl, fun X sc o l os r p h => no h rfl⟩
    obtain ⟨⟨x, m, es⟩, e1, hz⟩ := oAll_ok h; clear h; have h := hz; clear hz
    obtain ⟨p, r, q, rfl, hl⟩ := dMeth_ok e1
    obtain ⟨h1, h2⟩ := and2 h
    obtain ⟨h3, h4⟩ := and2 h1
    obtain ⟨y, e2, hz⟩ := oAll_ok h2; clear h2; have h2 := hz; clear hz
    have he : es = [y] := one_ok e2
    subst he
    have hm : m = "append" := of_decide_eq_true h4
    subst hm
    have pl := chkE_plain h2
    exact pe_imp (pe_bm PySem.F.plainAttrs_list PySem.F.slot_list_append PySem.F.type_list_append mt_append (pe_imp (o.var h3) fun σ H Q h => tR_var h) (pa_cons (ih.1 X sc o _ h2) pa_nil (star_plain pl)) rfl (by rw [star_plain pl]; rfl) hl (star_plain pl) rfl) fun σ H Q h => tR_app h
  | ext i a ih =>
    refine ⟨fun X sc o e h => ?_, fun X sc o e h => no h rfl, fun X sc o e h => no h rfl, fun X sc o e h => no h rfl, fun X sc o e h => no h rfl, fun X sc o e h => no h rfl, fun X sc o tg e h => no h rfl, fun X sc o l os r p h => no h rfl⟩
    obtain ⟨⟨x, m, es⟩, e1, hz⟩ := oAll_ok h; clear h; have h := hz; clear hz
    obtain ⟨p, r, q, rfl, hl⟩ := dMeth_ok e1
    obtain ⟨h1, h2⟩ := and2 h
    obtain ⟨h3, h4⟩ := and2 h1
    obtain ⟨y, e2, hz⟩ := oAll_ok h2; clear h2; have h2 := hz; clear hz
    have he : es = [y] := one_ok e2
    subst he
    have hm : m = "extend" := of_decide_eq_true h4
    subst hm
    have pl := chkE_plain h2
    exact pe_imp (pe_bm PySem.F.plainAttrs_list PySem.F.slot_list_extend PySem.F.type_list_extend mt_extend (pe_imp (o.var h3) fun σ H Q h => tR_var h) (pa_cons (ih.1 X sc o _ h2) pa_nil (star_plain pl)) rfl (by rw [star_plain pl]; rfl) hl (star_plain pl) rfl) fun σ H Q h => tR_ext h
  | pop i =>
    refine ⟨fun X sc o e h => ?_, fun X sc o e h => no h rfl, fun X sc o e h => no h rfl, fun X sc o e h => no h rfl, fun X sc o e h => no h rfl, fun X sc o e h => no h rfl, fun X sc o tg e h => no h rfl, fun X sc o l os r p h => no h rfl⟩
    obtain ⟨⟨x, m, es⟩, e1, hz⟩ := oAll_ok h; clear h; have h := hz; clear hz
    obtain ⟨p, r, q, rfl, hl⟩ := dMeth_ok e1
    obtain ⟨h1, h2⟩ := and2 h
    obtain ⟨h3, h4⟩ := and2 h1
    have he : es = [] := List.isEmpty_iff.mp h2
    subst he
    have hm : m = "pop" := of_decide_eq_true h4
    subst hm
    exact pe_imp (pe_bm0 PySem.F.plainAttrs_list PySem.F.slot_list_pop PySem.F.type_list_pop mt_pop (pe_imp (o.var h3) fun σ H Q h => tR_var h) rfl hl) fun σ H Q h => tR_pop h
  | hole =>
    refine ⟨fun X sc o e h => ?_, fun X sc o e h => no h rfl, fun X sc o e h => no h rfl, fun X sc o e h => no h rfl, fun X sc o e h => no h rfl, fun X sc o e h => no h rfl, fun X sc o tg e h => no h rfl, fun X sc o l os r p h => no h rfl⟩
    cases hm : cf.hole with
    | some m =>
      have e1 : evE cf .hole = m := by unfold evE; rw [hm]
      rw [e1]
      exact o.hol m hm e h
    | none =>
      have e1 : evE cf .hole = stkM := by unfold evE; rw [hm]
      rw [e1]
      exact ⟨fun pins s σ H Q I z => by obtain ⟨Γ, _, _, S, ρ, st, q⟩ := z; exact q.elim⟩
  | rev a ih =>
    refine ⟨fun X sc o e h => ?_, fun X sc o e h => no h rfl, fun X sc o e h => no h rfl, fun X sc o e h => no h rfl, fun X sc o e h => no h rfl, fun X sc o e h => no h rfl, fun X sc o tg e h => no h rfl, fun X sc o l os r p h => no h rfl⟩
    obtain ⟨⟨x, i⟩, e1, hz⟩ := oAll_ok h; clear h
    obtain ⟨h1, h2⟩ := and2 hz
    have hi : i = 1 := of_decide_eq_true h1
    subst hi
    obtain ⟨p1, p2, p3, p4, k, rfl⟩ := dRev_ok e1
    exact pe_imp (pe_revA (ih.1 X sc o x h2)) fun σ H Q h => tR_un h
  | fw a ih =>
    refine ⟨fun X sc o e h => ?_, fun X sc o e h => no h rfl, fun X sc o e h => no h rfl, fun X sc o e h => no h rfl, fun X sc o e h => no h rfl, fun X sc o e h => no h rfl, fun X sc o tg e h => no h rfl, fun X sc o l os r p h => no h rfl⟩
    obtain ⟨⟨f, x, l⟩, e1, hz⟩ := oAll_ok h; clear h
    obtain ⟨p, q, rfl⟩ := dFw_ok e1
    obtain ⟨h1, h2⟩ := and2 hz
    obtain ⟨w, hw, h1⟩ := oAll_ok h1
    obtain ⟨h3, h4⟩ := and2 h2
    obtain ⟨h5, h6⟩ := and2 h3
    have hf : f = "first_wrong" := of_decide_eq_true h5
    subst hf
    have e2 : evE cf (.fw a) = fwM w.fn (evE cf a) := by
      show (match cf.fw with | some w => fwM w.fn (evE cf a) | none => stkM) = _
      rw [hw]
    rw [e2]
    exact o.fwk w hw x l p q _ h1 (chkE_plain h4) (ih.1 X sc o x h4)
  | tr a ih =>
    refine ⟨fun X sc o e h => no h rfl, fun X sc o e h => no h rfl, fun X sc o e h => no h rfl, fun X sc o e h => no h rfl, fun X sc o e h => ?_, fun X sc o e h => no h rfl, fun X sc o tg e h => no h rfl, fun X sc o l os r p h => no h rfl⟩
    obtain ⟨h1, h2⟩ := and2 h
    refine ⟨?_, fun op vs p z => by subst z; cases h1⟩
    by_cases hc : ∀ l o r p, e ≠ .Compare l o r p
    · exact pt_imp (pt_truth (ih.1 X sc o e h2) (tru_is h1 hc)) fun σ H Q h => tB_tru h
    · have : ∃ l os r p, e = .Compare l os r p := by
        cases e <;> first | exact ⟨_, _, _, _, rfl⟩ | (exact absurd (fun _ _ _ _ h => by cases h) hc)
      obtain ⟨l, os, r, p, rfl⟩ := this
      exact ih.2.2.2.2.2.2.2 X sc o l os r p h2
  | pt a ih =>
    refine ⟨fun X sc o e h => no h rfl, fun X sc o e h => no h rfl, fun X sc o e h => no h rfl, fun X sc o e h => ?_, fun X sc o e h => no h rfl, fun X sc o e h => no h rfl, fun X sc o tg e h => no h rfl, fun X sc o l os r p h => no h rfl⟩
    obtain ⟨x, e1, hz⟩ := oAll_ok h; clear h; have h := hz; clear hz
    subst e1
    exact po_imp (po_some (ih.1 X sc o x h)) fun σ H Q h => tP_some h
  | it a ih =>
    refine ⟨fun X sc o e h => no h rfl, fun X sc o e h => no h rfl, fun X sc o e h => no h rfl, fun X sc o e h => no h rfl, fun X sc o e h => no h rfl, fun X sc o e h => no h rfl, fun X sc o tg e h => ?_, fun X sc o l os r p h => no h rfl⟩
    have pe := ih.1 X sc o e h
    exact pi_or (pi_list pe) (pi_tup pe) fun σ H R h => tI_it h
  | rng as ih =>
    refine ⟨fun X sc o e h => no h rfl, fun X sc o e h => no h rfl, fun X sc o e h => no h rfl, fun X sc o e h => no h rfl, fun X sc o e h => no h rfl, fun X sc o e h => no h rfl, fun X sc o tg e h => ?_, fun X sc o l os r p h => no h rfl⟩
    obtain ⟨⟨x, es, ks⟩, e1, hz⟩ := oAll_ok h; clear h; have h := hz; clear hz
    obtain ⟨p, q, rfl⟩ := dNamed_ok e1
    obtain ⟨h1, h2⟩ := and2 h
    obtain ⟨h3, h4⟩ := and2 h1
    obtain ⟨h5, h6⟩ := and2 h4
    obtain ⟨h7, h8⟩ := and2 h6
    obtain ⟨h9, h10⟩ := and2 h2
    have hx : x = "range" := of_decide_eq_true h3
    subst hx
    have hk : ks = [] := noKw_ok h7
    subst hk
    have arg := ih.2.1 X sc o es h10
    have ln := chkA_len as h10
    match es, h9, h10, arg, ln with
    | [a], _, h10, arg, ln =>
      have pl : plainE a = true := by
        cases as <;> first | (cases h10; done) | skip
        obtain ⟨_, e, h10⟩ := oAll_ok h10
        cases e
        exact chkE_plain (and2 h10).1
      exact pi_imp (pi_range1 (o.gl h8) (o.its h5).1 arg (star_plain pl)) fun σ H R h => tI_rng1 (fun ρ x e => (evA_len as e).trans ln.symm) h
    | [a, b], _, h10, arg, ln =>
      have pl := plain_two h10
      exact pi_imp (pi_range2 (o.gl h8) (o.its h5).1 arg (by rw [star_plain pl.1, star_plain pl.2]; rfl) (star_plain pl.2)) fun σ H R h => tI_rng2 (fun ρ x e => (evA_len as e).trans ln.symm) h
  | enm as ih =>
    refine ⟨fun X sc o e h => no h rfl, fun X sc o e h => no h rfl, fun X sc o e h => no h rfl, fun X sc o e h => no h rfl, fun X sc o e h => no h rfl, fun X sc o e h => no h rfl, fun X sc o tg e h => ?_, fun X sc o l os r p h => no h rfl⟩
    obtain ⟨ts, e0, hz⟩ := oAll_ok h; clear h; have h := hz; clear hz
    obtain ⟨k0, p0, rfl⟩ := dTup_ok e0
    obtain ⟨⟨x, es, ks⟩, e1, hz⟩ := oAll_ok h; clear h; have h := hz; clear hz
    obtain ⟨p, q, rfl⟩ := dNamed_ok e1
    obtain ⟨h1, h2⟩ := and2 h
    obtain ⟨h3, h4⟩ := and2 h1
    obtain ⟨h5, h6⟩ := and2 h4
    obtain ⟨h7, h8⟩ := and2 h6
    obtain ⟨h9, h10⟩ := and2 h2
    have hx : x = "enumerate" := of_decide_eq_true h3
    subst hx
    have hk : ks = [] := noKw_ok h7
    subst hk
    have arg := ih.2.1 X sc o es h10
    match es, h9, h10, arg with
    | [a], _, h10, arg =>
      have pl : plainE a = true := by
        cases as <;> first | (cases h10; done) | skip
        obtain ⟨_, e, h10⟩ := oAll_ok h10
        cases e
        exact chkE_plain (and2 h10).1
      exact pi_imp (pi_enum2 (o.gl h8) (o.its h5).2.1 arg (star_plain pl)) fun σ H R h => tI_enum h
  | zip as ih =>
    refine ⟨fun X sc o e h => no h rfl, fun X sc o e h => no h rfl, fun X sc o e h => no h rfl, fun X sc o e h => no h rfl, fun X sc o e h => no h rfl, fun X sc o e h => no h rfl, fun X sc o tg e h => ?_, fun X sc o l os r p h => no h rfl⟩
    obtain ⟨ts, e0, hz⟩ := oAll_ok h; clear h; have h := hz; clear hz
    obtain ⟨k0, p0, rfl⟩ := dTup_ok e0
    obtain ⟨⟨x, es, ks⟩, e1, hz⟩ := oAll_ok h; clear h; have h := hz; clear hz
    obtain ⟨p, q, rfl⟩ := dNamed_ok e1
    obtain ⟨h1, h2⟩ := and2 h
    obtain ⟨h3, h4⟩ := and2 h1
    obtain ⟨h5, h6⟩ := and2 h4
    obtain ⟨h7, h8⟩ := and2 h6
    obtain ⟨h9, h10⟩ := and2 h2
    have hx : x = "zip" := of_decide_eq_true h3
    subst hx
    have hk : ks = [] := noKw_ok h7
    subst hk
    have arg := ih.2.1 X sc o es h10
    match es, h9, h10, arg with
    | [a, b], _, h10, arg =>
      have pl := plain_two h10
      exact pi_imp (RZ.pi_zipA (o.gl h8) (o.its h5).2.2 arg (star_plain pl.1) (by rw [star_plain pl.2]; rfl)) fun σ H R h => tI_zip h
end
end Tp
set_option Elab.async false
set_option linter.all false
set_option maxRecDepth 100000
set_option maxHeartbeats 4000000
namespace Tp
open PySem PySem.Spec PyProof.Rows L2
open Evl (Ex)

/-! ### the inner form of statements -/
inductive T where
  | nm (i : Nat) | ns (i : Nat) | sub (i : Nat) (k : E) | tup (a : T) | nil | cons (a r : T)
inductive S where
  | nx | frz (i : Nat) (b : S) | doc (b : S) | asg (t : T) (e : E) (b : S) | par (ns : List (Nat × Bool)) (es : E) (b : S) | ex (e : E) (b : S)
  | ret (e : E) (b : S) | retn (b : S) | ife (c : E) (x y b : S) | wh (W : Nat) (c : E) (x b : S) | fr (t : T) (it : E) (x b : S)
  | bk (b : S) | ct (b : S) | ps (b : S) | bad (b : S)
section
variable (c : Cfg)
mutual
def evG : T → GM
  | .nm i => gNm c.io i
  | .ns i => gNs i
  | .sub i k => gSubM i (evE c k)
  | .tup a => gTupM (evGs a)
  | _ => fun _ _ => .stuck
def evGs : T → List GM
  | .cons a r => evG a :: evGs r
  | _ => []
end
def wsG : T → List Nat
  | .nm i => [i]
  | .ns i => [i]
  | .sub _ _ => []
  | .tup a => wsG a
  | .nil => []
  | .cons a r => wsG a ++ wsG r
def rawL : E → List (M R)
  | .cons a r => evE c a :: rawL r
  | _ => []
def badM : SM := fun _ => .stuck
def evS : S → SM
  | .nx => nxM
  | .frz i b => seqM (frzM c.io i) (evS b)
  | .doc b => seqM nxM (evS b)
  | .asg t e b => seqM (asgM (evE c e) (evG c t)) (evS b)
  | .par ns es b => seqM (parM c.io ns (rawL c es)) (evS b)
  | .ex e b => seqM (dropM (evE c e)) (evS b)
  | .ret e b => seqM (retM c.io (evE c e)) (evS b)
  | .retn b => seqM retNM (evS b)
  | .ife t x y b => seqM (ifM (evB c t) (evS x) (evS y)) (evS b)
  | .wh W t x b => seqM (whileF (evB c t) (evS x) W) (evS b)
  | .fr t it x b => seqM (forM (evI c it) (evG c t) (evS x)) (evS b)
  | .bk b => seqM bkM (evS b)
  | .ct b => seqM ctM (evS b)
  | .ps b => seqM nxM (evS b)
  | .bad b => seqM badM (evS b)
end
/-! ### statements taken apart -/
def noComp : Expr → Bool
  | .ListComp .. => false
  | .SetComp .. => false
  | .DictComp .. => false
  | _ => true
def isStar : Expr → Bool
  | .Starred .. => true
  | _ => false
def swNames (sc : Scope) (ts : List Expr) : List Str := ts.filterMap fun
    | .Name id pos => if sc.names.lookup id == some .local && pos.line == (ts.head?.map (·.pos.line)).getD 0 then some id else none
    | _ => none
def swNone (sc : Scope) : Expr → Expr → Bool
  | .Tuple ts _ _, .Tuple vs _ _ => (!(ts.length == 2 || ts.length == 3) || vs.length != ts.length) || (!(vs.any isStar) && (((swNames sc ts).length != ts.length || (swNames sc ts).eraseDups.length != (swNames sc ts).length) || vs.all (foldedForSure 8)))
  | .Tuple .., _ => true
  | .Name .., _ => true
  | .Subscript .., _ => true
  | _, _ => false
/-- name = [..] on one line -/
def swLc (sc : Scope) (line : Nat) : Expr → Expr → Bool
  | .Name y py, .ListComp _ _ s p => decide (sc.names.lookup y = some .local) && ((py.line == p.line) && !(s.names.any fun (n, k) => n == y && (k == .local || k == .cell)))
  | _, _ => false
def swNo (sc : Scope) : Expr → Expr → Bool
  | .Name y py, .ListComp _ _ s p => decide (sc.names.lookup y = some .cell)
  | .Name .., e => noComp e
  | .Subscript .., e => noComp e
  | .Tuple .., e => noComp e
  | _, _ => false
def dAsg : Stmt → Option (Expr × Expr × Nat)
  | .Assign [t] e p => some (t, e, p.line)
  | _ => none
def dExpr : Stmt → Option Expr
  | .Expr e _ => some e
  | _ => none
def dRet : Stmt → Option (Option Expr)
  | .Return e _ => some e
  | _ => none
def dIfS : Stmt → Option (Expr × List Stmt × List Stmt)
  | .If c a b _ => some (c, a, b)
  | _ => none
def dWh : Stmt → Option (Expr × List Stmt)
  | .While c a [] _ => some (c, a)
  | _ => none
def dFor : Stmt → Option (Expr × Expr × List Stmt)
  | .For t i a [] _ => some (t, i, a)
  | _ => none
def isBk : Stmt → Bool
  | .Break _ => true
  | _ => false
def isCt : Stmt → Bool
  | .Continue _ => true
  | _ => false
def isPs : Stmt → Bool
  | .Pass _ => true
  | _ => false
def isDoc : Stmt → Bool
  | .Expr (.Constant (.str _) _ _) _ => true
  | _ => false
def dUn (l : List Stmt) : Option (Stmt × List Stmt) := match l with
  | a :: r => some (a, r)
  | [] => none
/-- the kinds of index that a store may take -/
def ixKind : Expr → Bool
  | .Name .. => true
  | .Constant .. => true
  | .BinOp .. => true
  | .UnaryOp .. => true
  | .Call .. => true
  | .Subscript .. => true
  | _ => false
def parOk (N : List Str) (sc : Scope) : List (Nat × Bool) → Expr → List Expr → Bool
  | [(i, _), (j, _)], .Tuple [.Name x px, .Name y py] _ _, vs => (decide (N[i]? = some x) && (decide (N[j]? = some y) && decide (i ≠ j))) && ((decide (sc.names.lookup x = some .local) && decide (sc.names.lookup y = some .local)) && ((px.line == py.line) && (!(vs.all (foldedForSure 8)) && (!(vs.all (constantsAlone 8)) && (decide (x ≠ y) && !(vs.any isStar))))))
  | [(i, _), (j, _), (l, _)], .Tuple [.Name x px, .Name y py, .Name z pz] _ _, vs => ((decide (N[i]? = some x) && (decide (N[j]? = some y) && decide (N[l]? = some z))) && (decide (i ≠ j) && (decide (i ≠ l) && decide (j ≠ l)))) && ((decide (sc.names.lookup x = some .local) && (decide (sc.names.lookup y = some .local) && decide (sc.names.lookup z = some .local))) && (((px.line == py.line) && (px.line == pz.line)) && (!(vs.all (foldedForSure 8)) && (!(vs.all (constantsAlone 8)) && ((decide (x ≠ y) && (decide (x ≠ z) && decide (y ≠ z))) && !(vs.any isStar))))))
  | _, _, _ => false
section
variable (N : List Str) (c : Cfg) (sc : Scope)
mutual
def chkG : T → Expr → Bool
  | .nm i, e => chkNm N sc i e
  | .ns i, e => chkNm N sc i e
  | .sub i k, e => oAll (dIx e) fun t => oAll (dName t.1) (fun x => chkVar N sc i x) && (ixKind t.2 && chkE N c sc k t.2)
  | .tup a, e => oAll (dTup e) fun es => chkGs a es
  | _, _ => false
def chkGs : T → List Expr → Bool
  | .nil, es => es.isEmpty
  | .cons a r, es => oAll es.head? fun x => chkG a x && chkGs r es.tail
  | _, _ => false
end
def chkS : S → List Stmt → Bool
  | .nx, l => l.isEmpty
  | .frz _ b, l => chkS b l
  | .doc b, l => oAll (dUn l) fun u => isDoc u.1 && chkS b u.2
  | .asg t e b, l => oAll (dUn l) fun u => oAll (dAsg u.1) (fun a => (chkE N c sc e a.2.1 && chkG N c sc t a.1) && ((swNo sc a.1 a.2.1 || swLc sc a.2.2 a.1 a.2.1) && swNone sc a.1 a.2.1)) && chkS b u.2
  | .par ns es b, l => oAll (dUn l) fun u => oAll (dAsg u.1) (fun a => oAll (dTup a.2.1) fun vs => decide (vs.length = ns.length) && (parOk N sc ns a.1 vs && chkA N c sc es vs)) && chkS b u.2
  | .ex e b, l => oAll (dUn l) fun u => oAll (dExpr u.1) (fun x => noComp x && chkE N c sc e x) && chkS b u.2
  | .ret e b, l => oAll (dUn l) fun u => oAll (dRet u.1) (fun o => oAll o fun x => chkE N c sc e x) && chkS b u.2
  | .retn b, l => oAll (dUn l) fun u => oAll (dRet u.1) (fun o => o.isNone) && chkS b u.2
  | .ife t x y b, l => oAll (dUn l) fun u => oAll (dIfS u.1) (fun o => chkB N c sc t o.1 && (chkS x o.2.1 && chkS y o.2.2)) && chkS b u.2
  | .wh _ t x b, l => oAll (dUn l) fun u => oAll (dWh u.1) (fun o => chkB N c sc t o.1 && chkS x o.2) && chkS b u.2
  | .fr t it x b, l => oAll (dUn l) fun u => oAll (dFor u.1) (fun o => chkG N c sc t o.1 && (chkI N c sc o.1 it o.2.1 && chkS x o.2.2)) && chkS b u.2
  | .bk b, l => oAll (dUn l) fun u => isBk u.1 && chkS b u.2
  | .ct b, l => oAll (dUn l) fun u => isCt u.1 && chkS b u.2
  | .ps b, l => oAll (dUn l) fun u => isPs u.1 && chkS b u.2
  | .bad b, l => oAll (dUn l) fun u => chkS b u.2
end
theorem dAsg_ok {s : Stmt} {t : Expr × Expr × Nat} (h : dAsg s = some t) : ∃ p, s = .Assign [t.1] t.2.1 p ∧ t.2.2 = p.line := by
  unfold dAsg at h; split at h <;> first | (cases h; done) | (cases h; exact ⟨_, rfl, rfl⟩)
theorem dExpr_ok {s : Stmt} {t : Expr} (h : dExpr s = some t) : ∃ p, s = .Expr t p := by
  unfold dExpr at h; split at h <;> first | (cases h; done) | (cases h; exact ⟨_, rfl⟩)
theorem dRet_ok {s : Stmt} {t : Option Expr} (h : dRet s = some t) : ∃ p, s = .Return t p := by
  unfold dRet at h; split at h <;> first | (cases h; done) | (cases h; exact ⟨_, rfl⟩)
theorem dIfS_ok {s : Stmt} {t : Expr × List Stmt × List Stmt} (h : dIfS s = some t) : ∃ p, s = .If t.1 t.2.1 t.2.2 p := by
  unfold dIfS at h; split at h <;> first | (cases h; done) | (cases h; exact ⟨_, rfl⟩)
theorem dWh_ok {s : Stmt} {t : Expr × List Stmt} (h : dWh s = some t) : ∃ p, s = .While t.1 t.2 [] p := by
  unfold dWh at h; split at h <;> first | (cases h; done) | (cases h; exact ⟨_, rfl⟩)
theorem dFor_ok {s : Stmt} {t : Expr × Expr × List Stmt} (h : dFor s = some t) : ∃ p, s = .For t.1 t.2.1 t.2.2 [] p := by
  unfold dFor at h; split at h <;> first | (cases h; done) | (cases h; exact ⟨_, rfl⟩)
theorem isBk_ok {s : Stmt} (h : isBk s = true) : ∃ p, s = .Break p := by
  unfold isBk at h; split at h <;> first | (cases h; done) | exact ⟨_, rfl⟩
theorem isCt_ok {s : Stmt} (h : isCt s = true) : ∃ p, s = .Continue p := by
  unfold isCt at h; split at h <;> first | (cases h; done) | exact ⟨_, rfl⟩
theorem isPs_ok {s : Stmt} (h : isPs s = true) : ∃ p, s = .Pass p := by
  unfold isPs at h; split at h <;> first | (cases h; done) | exact ⟨_, rfl⟩
theorem isDoc_ok {s : Stmt} (h : isDoc s = true) : ∃ x j p q, s = .Expr (.Constant (.str x) j p) q := by
  unfold isDoc at h; split at h <;> first | (cases h; done) | exact ⟨_, _, _, _, rfl⟩
theorem dUn_ok {l : List Stmt} {t : Stmt × List Stmt} (h : dUn l = some t) : l = t.1 :: t.2 := by
  unfold dUn at h; split at h <;> first | (cases h; done) | (cases h; rfl)
section
variable {X : Cx} {N : List Str} {sc : Scope} {cf : Cfg}
theorem sw_noComp {e : Expr} {t : Option Expr} {l : Nat} {env : Env} (h : noComp e = true) : swapsWith e t l env = pure false := by
  cases e <;> first | rfl | (cases h; done)
theorem sw_no {t e : Expr} {l : Nat} {env : Env} (hs : env.scope = sc) (h : swNo sc t e = true) : swapsWithSole [t] e l env = pure false := by
  show swapsWith e (some t) l env = pure false
  cases t <;> try (cases h; done)
  case Name y py =>
    by_cases hc : noComp e = true
    · exact sw_noComp hc
    · cases e <;> first | (exact absurd rfl hc) | skip
      case ListComp elt gs s p =>
        have h : env.scope.names.lookup y = some .cell := by rw [hs]; exact of_decide_eq_true h
        have ky : env.kindOf y = some .cell := h
        unfold swapsWith
        have : (some NameKind.cell == some NameKind.local) = false := by decide
        simp only [ky, this, Bool.and_false, Bool.false_and]
      all_goals (exact absurd h hc)
  all_goals (exact sw_noComp h)
theorem sw_none {t e : Expr} {env : Env} (hk : sc.kind = .function) (hs : env.scope = sc) (h : swNone sc t e = true) : swappedStores [t] e env = pure none := by
  cases t <;> try (cases h; done)
  case Name y py => cases e <;> rfl
  case Subscript y i py => cases e <;> rfl
  case Tuple ts k p =>
    cases e <;> try rfl
    rename_i vs k2 p2
    have hb : env.blockKind = .function := by unfold Env.blockKind; rw [hs, hk]; rfl
    have hb2 : (ScopeKind.function != ScopeKind.function) = false := by decide
    unfold swappedStores
    simp only [hb, hb2, Bool.or_false]
    unfold swNone at h
    rw [Bool.or_eq_true] at h
    by_cases h1 : (!(ts.length == 2 || ts.length == 3) || vs.length != ts.length) = true
    · rw [if_pos h1]
    · rw [if_neg h1]
      have h := h.resolve_left h1
      obtain ⟨h2, h3⟩ := and2 h
      have h2 : ¬ (vs.any isStar) = true := by simpa using h2
      have hst : (vs.any fun | .Starred .. => true | _ => false) = vs.any isStar := by
        congr 1
      have hn : (ts.filterMap fun
        | .Name id pos => if env.kindOf id == some .local && pos.line == (ts.head?.map (·.pos.line)).getD 0 then some id else none
        | _ => none) = swNames sc ts := by
        unfold swNames
        congr 1
        funext x
        cases x <;> try rfl
        show (if (env.scope.names.lookup _ == some .local && _) = true then _ else _) = _
        rw [hs]
      erw [hst, hn]
      rw [if_neg h2]
      by_cases h4 : ((swNames sc ts).length != ts.length || (swNames sc ts).eraseDups.length != (swNames sc ts).length) = true
      · show (if _ then _ else _) = _
        rw [if_pos h4]
      · show (if _ then _ else _) = _
        rw [if_neg h4]
        rw [Bool.or_eq_true] at h3
        show (if _ then _ else _) = _
        rw [if_pos (h3.resolve_left h4)]
theorem sw_par {ts vs : List Expr} {names : List Str} {k p k2 p2} {env : Env} (hk : sc.kind = .function) (hs : env.scope = sc) (hl : (ts.length == 2 || ts.length == 3) = true) (hv : vs.length = ts.length) (h2 : (vs.any isStar) = false)
    (hn : swNames sc ts = names) (he : names.eraseDups.length = names.length) (hl2 : names.length = ts.length) (hf : vs.all (foldedForSure 8) = false) (hc : vs.all (constantsAlone 8) = false) :
    swappedStores [.Tuple ts k p] (.Tuple vs k2 p2) env = pure (some names) := by
  have hb : env.blockKind = .function := by unfold Env.blockKind; rw [hs, hk]; rfl
  have hb2 : (ScopeKind.function != ScopeKind.function) = false := by decide
  unfold swappedStores
  simp only [hb, hb2, Bool.or_false]
  have h1 : ¬ (!(ts.length == 2 || ts.length == 3) || vs.length != ts.length) = true := by rw [hl, hv]; simp
  rw [if_neg h1]
  have hst : (vs.any fun | .Starred .. => true | _ => false) = vs.any isStar := by
    congr 1
  have hn' : (ts.filterMap fun
    | .Name id pos => if env.kindOf id == some .local && pos.line == (ts.head?.map (·.pos.line)).getD 0 then some id else none
    | _ => none) = names := by
    rw [← hn]
    unfold swNames
    congr 1
    funext x
    cases x <;> try rfl
    show (if (env.scope.names.lookup _ == some .local && _) = true then _ else _) = _
    rw [hs]
  erw [hst, hn']
  rw [if_neg (by rw [h2]; decide)]
  have h4 : ¬ (names.length != ts.length || names.eraseDups.length != names.length) = true := by rw [hl2, he]; simp [hl2]
  show (if _ then _ else _) = _
  rw [if_neg h4]
  show (if _ then _ else _) = _
  rw [if_neg (by rw [hf]; decide)]
  show (if _ then _ else _) = _
  rw [if_neg (by rw [hc]; decide)]
/-! ### targets -/
theorem soundG (t : T) : (∀ (X : Cx) (sc : Scope), XOk X N sc cf → X.fn = (fun _ => true) → ∀ e, chkG N cf sc t e = true → PG X e (tTg X.K cf.io (wsG t) (evG cf t))) ∧
    (∀ (X : Cx) (sc : Scope), XOk X N sc cf → X.fn = (fun _ => true) → ∀ es, chkGs N cf sc t es = true → PGs X es (tTgs X.K cf.io (wsG t) (evGs cf t)) ∧ es.length = (evGs cf t).length ∧ ∀ env, (assignEach es env).findIdx? (·.1) = none) := by
  have nmk : ∀ (X : Cx) (sc : Scope) (i : Nat), XOk X N sc cf → X.fn = (fun _ => true) → ∀ e, chkNm N sc i e = true → PG X e (gName i) := by
    intro X sc i o hf e h
    cases e <;> try (cases h; done)
    rename_i x p
    obtain ⟨h1, h2⟩ := and2 h
    refine pg_name (by rw [o.n]; exact o.nd) (by rw [o.n]; exact of_decide_eq_true h1) ?_ (.inl (by rw [hf]))
    show X.env.scope.names.lookup x = some .local ∨ X.env.scope.names.lookup x = some .cell
    rw [o.hs]
    unfold locS at h2
    simpa [Bool.or_eq_true] using h2
  induction t with
  | nm i => exact ⟨fun X sc o hf e h => pg_imp (nmk X sc i o hf e h) fun v σ H Q q => tG_nm q, fun X sc o hf es h => no h rfl⟩
  | ns i => exact ⟨fun X sc o hf e h => pg_imp (nmk X sc i o hf e h) fun v σ H Q q => tG_ns q, fun X sc o hf es h => no h rfl⟩
  | sub i k =>
    refine ⟨fun X sc o hf e h => ?_, fun X sc o hf es h => no h rfl⟩
    obtain ⟨t, e1, hz⟩ := oAll_ok h; clear h
    obtain ⟨p, rfl⟩ := dIx_ok e1
    obtain ⟨h1, h2⟩ := and2 hz
    obtain ⟨x, e2, h1⟩ := oAll_ok h1
    obtain ⟨q, e3⟩ := dName_ok e2
    rw [e3]
    obtain ⟨h3, h4⟩ := and2 h2
    have r := (sound (N := N) (cf := cf) k).1 X sc o t.2 h4
    have key : ∀ v, assign (.Subscript (.Name x q) t.2 p) X.env v = (do
      let ov ← holding [v] (eval (.Name x q) X.env)
      let iv ← holding [v, ov] (eval t.2 X.env)
      standAt p
      holding [v, ov, iv] (setItem ov iv v)
      release [v, ov, iv] []) := by
      obtain ⟨t1, t2⟩ := t
      intro v
      cases t2 <;> first | rfl | (cases h3; done)
    exact pg_imp (pg_sub (pe_imp (o.var h1) fun σ H Q h => tR_var h) r set_list key) fun v σ H Q q => tG_sub q
  | tup a ih =>
    refine ⟨fun X sc o hf e h => ?_, fun X sc o hf es h => no h rfl⟩
    obtain ⟨es, e1, hz⟩ := oAll_ok h; clear h
    obtain ⟨k, p, rfl⟩ := dTup_ok e1
    obtain ⟨b, l, st⟩ := ih.2 X sc o hf es hz
    exact pg_imp (pg_tup (n := (evGs cf a).length) o.calm b (by rw [ae_len]; exact l) (st _)) fun v σ H Q h => tG_tup h
  | nil =>
    refine ⟨fun X sc o hf e h => no h rfl, fun X sc o hf es h => ?_⟩
    have : es = [] := List.isEmpty_iff.mp h
    subst this
    exact ⟨⟨fun pins s σ H vs us Q I r q => pgs_nil.run pins s σ H vs us Q I r (tGs_nil q)⟩, rfl, fun env => rfl⟩
  | cons a r iha ihr =>
    refine ⟨fun X sc o hf e h => no h rfl, fun X sc o hf es h => ?_⟩
    obtain ⟨x, e1, hz⟩ := oAll_ok h; clear h
    cases es with
    | nil => cases e1
    | cons y ys =>
      cases e1
      obtain ⟨h1, h2⟩ := and2 hz
      obtain ⟨b, l, st⟩ := ihr.2 X sc o hf ys h2
      have g := iha.1 X sc o hf x h1
      have kind : ∀ env, assignEach (x :: ys) env = (false, assign x env) :: assignEach ys env := by
        intro env
        cases x <;> first | rfl | skip
        all_goals (cases a <;> (cases h1; done))
      have hs : (assignEach (x :: ys) X.env).map (·.2) = assign x X.env :: (assignEach ys X.env).map (·.2) := by rw [kind]; rfl
      refine ⟨⟨fun pins s σ H vs us Q I rr q => (pgs_cons g b hs).run pins s σ H vs us Q I rr (tGs_cons (w1 := wsG a) (w2 := wsG r) q)⟩, by show ys.length + 1 = (evGs cf r).length + 1; rw [l], fun env => ?_⟩
      rw [kind, List.findIdx?_cons, st]
      rfl
end
end Tp
set_option Elab.async false
set_option linter.all false
set_option maxRecDepth 100000
set_option maxHeartbeats 4000000
namespace Tp
open PySem PySem.Spec PyProof.Rows L2
open Evl (Ex)
section
variable {X : Cx} {N : List Str} {sc : Scope} {cf : Cfg}
theorem it_fold {it : E} {tg e : Expr} {env : Env} (h : chkI N cf sc tg it e = true) : ∀ x, foldedSetIterable e env x = pure x := by
  intro x
  cases it <;> try (cases h; done)
  · exact plain_fold (chkE_plain (show chkE N cf sc _ e = true from h)) x
  · obtain ⟨_, e, _⟩ := oAll_ok h
    obtain ⟨_, _, rfl⟩ := dNamed_ok e
    rfl
  · obtain ⟨_, _, h9⟩ := oAll_ok h
    obtain ⟨_, e, _⟩ := oAll_ok h9
    obtain ⟨_, _, rfl⟩ := dNamed_ok e
    rfl
  · obtain ⟨_, _, h9⟩ := oAll_ok h
    obtain ⟨_, e, _⟩ := oAll_ok h9
    obtain ⟨_, _, rfl⟩ := dNamed_ok e
    rfl
theorem raw_ok (o : XOk X N sc cf) : ∀ {as : E} {es : List Expr}, chkA N cf sc as es = true → PA X es (tRaw X.K cf.io (rawL cf as)) := by
  intro as
  induction as with
  | nil =>
    intro es h
    have : es = [] := List.isEmpty_iff.mp h
    subst this
    exact pa_imp pa_nil fun σ H Q h => tW_nil h
  | cons a r _ ihr =>
    intro es h
    obtain ⟨x, e1, hz⟩ := oAll_ok h; clear h
    cases es with
    | nil => cases e1
    | cons y ys =>
      cases e1
      obtain ⟨h1, h2⟩ := and2 hz
      exact pa_imp (pa_cons ((sound a).1 X sc o x h1) (ihr h2) (star_plain (chkE_plain h1))) fun σ H Q h => tW_cons h
  | _ => intro es h; cases h
theorem raw_len {K : PySem.W.Frag} {io : Option Nat} {σ : L2.St} {H : Hp} {ms : List (M R)} {Q : List V → Hp → Prop} (h : tRaw K io ms σ H Q) : tRaw K io ms σ H fun vs H' => vs.length = ms.length ∧ Q vs H' := by
  obtain ⟨Γ, hK, hL, S, ρ, st, q⟩ := h
  refine ⟨Γ, hK, hL, S, ρ, st, ?_⟩
  have rl : ∀ (ms : List (M R)) ρ x, rawM ms ρ = .ok x → x.1.length = ms.length := by
    intro ms
    induction ms with
    | nil => intro ρ x h; cases h; rfl
    | cons m ms ih =>
      intro ρ x h
      obtain ⟨y, e1, h⟩ := ob_bind h
      obtain ⟨z, e2, h⟩ := ob_bind h
      cases h
      show z.1.length + 1 = ms.length + 1
      rw [ih _ _ e2]
  have rr : ∀ (rs : List R) (vs : List V) S H σ ρ, RawRs Γ S H σ ρ rs vs → vs.length = rs.length := by
    intro rs
    induction rs with
    | nil => intro vs S H σ ρ h; cases h; rfl
    | cons r rs ih =>
      intro vs S H σ ρ h
      obtain ⟨v, us, rfl, _, h2, _⟩ := h
      show us.length + 1 = rs.length + 1
      rw [ih us _ _ _ _ h2]
  revert q
  cases e : rawM ms ρ with
  | ok x =>
    obtain ⟨rs, ρ'⟩ := x
    intro q vs S1 H1 x1 st1 r1
    exact ⟨(rr _ _ _ _ _ _ r1).trans (rl _ _ _ e), q vs S1 H1 x1 st1 r1⟩
  | err c p => exact id
  | stuck => exact id
theorem ps_par_ok (o : XOk X N sc cf) {ns : List (Nat × Bool)} {es : E} {tg : Expr} {vs : List Expr} {k p} {pos : Pos} (hl : vs.length = ns.length) (h : parOk N sc ns tg vs = true) (ha : chkA N cf sc es vs = true) :
    PS X (.Assign [tg] (.Tuple vs k p) pos) (tSm X.K cf.io (parM cf.io ns (rawL cf es))) := by
  have pa := raw_ok o ha
  have ln : (rawL cf es).length = vs.length := by
    clear pa hl h
    induction es generalizing vs with
    | nil => have : vs = [] := List.isEmpty_iff.mp ha; subst this; rfl
    | cons a r _ ih =>
      obtain ⟨x, e1, hz⟩ := oAll_ok ha; clear ha
      cases vs with
      | nil => cases e1
      | cons y ys => cases e1; show (rawL cf r).length + 1 = ys.length + 1; rw [ih (and2 hz).2]; rfl
    | _ => cases ha
  unfold parOk at h
  split at h
  · rename_i _ _ _ i b1 j b2 x px y py kt pt
    obtain ⟨h1, h2⟩ := and2 h
    obtain ⟨a1, h1⟩ := and2 h1
    obtain ⟨a2, a3⟩ := and2 h1
    obtain ⟨h3, h4⟩ := and2 h2
    obtain ⟨b1, b2⟩ := and2 h3
    obtain ⟨c1, h5⟩ := and2 h4
    obtain ⟨c2, h6⟩ := and2 h5
    obtain ⟨c3, h7⟩ := and2 h6
    obtain ⟨c4, c5⟩ := and2 h7
    have d1 := of_decide_eq_true b1
    have d2 := of_decide_eq_true b2
    have c1 : (py.line == px.line) = true := by rw [beq_iff_eq] at c1 ⊢; exact c1.symm
    have sw : swNames sc [.Name x px, .Name y py] = [x, y] := by
      have c1 := eq_of_beq c1
      simp [swNames, d1, d2, c1, Expr.pos]
    match vs, hl with
    | [a, b], _ =>
      have hw := sw_par (k := kt) (p := pt) (k2 := k) (p2 := p) (ts := [.Name x px, .Name y py]) (vs := [a, b]) (names := [x, y]) (sc := sc) (env := X.env) o.kind o.hs rfl rfl (by simpa using c5) sw (by
        have : x ≠ y := of_decide_eq_true c4
        have e : (y == x) = false := by rw [beq_eq_false_iff_ne]; exact this.symm
        rw [List.eraseDups_cons, List.filter_cons, e]; rfl) rfl (by rw [Bool.not_eq_true'] at c2; exact c2) (by rw [Bool.not_eq_true'] at c3; exact c3)
      refine ⟨fun pins s σ H D I q => (ps_par (i := i) (j := j) o.calm (by rw [o.n]; exact o.nd) (by rw [o.n]; exact of_decide_eq_true a1) (by rw [o.n]; exact of_decide_eq_true a2) (of_decide_eq_true a3) (by rw [o.hs]; exact d1) (by rw [o.hs]; exact d2) pa hw).run pins s σ H D I ?_⟩
      have q2 := raw_len (tS_par q)
      rw [ln] at q2
      refine (show ∀ {Q Q' : List V → Hp → Prop}, (∀ vs H, Q vs H → Q' vs H) → tRaw X.K cf.io (rawL cf es) σ H Q → tRaw X.K cf.io (rawL cf es) σ H Q' from ?_) ?_ q2
      · rintro Q Q' i ⟨Γ, hK, hL, S, ρ, st, z⟩
        refine ⟨Γ, hK, hL, S, ρ, st, ?_⟩
        revert z
        cases rawM (rawL cf es) ρ with
        | ok x => obtain ⟨rs, ρ'⟩ := x; exact fun z vs S1 H1 x1 st1 r1 => i _ _ (z vs S1 H1 x1 st1 r1)
        | err c p => exact id
        | stuck => exact id
      · rintro vs H1 ⟨l, d⟩
        match vs, l with
        | [v, w], _ => exact ⟨v, w, rfl, d⟩
  · rename_i _ _ _ i b1 j b2 l b3 x px y py z pz kt pt
    obtain ⟨h1, h2⟩ := and2 h
    obtain ⟨h1, i1⟩ := and2 h1
    obtain ⟨a1, h1⟩ := and2 h1
    obtain ⟨a2, a3⟩ := and2 h1
    obtain ⟨i1, i2⟩ := and2 i1
    obtain ⟨i2, i3⟩ := and2 i2
    obtain ⟨h3, h4⟩ := and2 h2
    obtain ⟨b1, b2⟩ := and2 h3
    obtain ⟨b2, b3⟩ := and2 b2
    obtain ⟨c1, h5⟩ := and2 h4
    obtain ⟨c1, c1'⟩ := and2 c1
    obtain ⟨c2, h6⟩ := and2 h5
    obtain ⟨c3, h7⟩ := and2 h6
    obtain ⟨c4, c5⟩ := and2 h7
    obtain ⟨n1, n2⟩ := and2 c4
    obtain ⟨n2, n3⟩ := and2 n2
    have d1 := of_decide_eq_true b1
    have d2 := of_decide_eq_true b2
    have d3 := of_decide_eq_true b3
    have c1 : (py.line == px.line) = true := by rw [beq_iff_eq] at c1 ⊢; exact c1.symm
    have c1' : (pz.line == px.line) = true := by rw [beq_iff_eq] at c1' ⊢; exact c1'.symm
    have sw : swNames sc [.Name x px, .Name y py, .Name z pz] = [x, y, z] := by
      have c1 := eq_of_beq c1
      have c1' := eq_of_beq c1'
      simp [swNames, d1, d2, d3, c1, c1', Expr.pos]
    match vs, hl with
    | [a, b, c], _ =>
      have hw := sw_par (k := kt) (p := pt) (k2 := k) (p2 := p) (ts := [.Name x px, .Name y py, .Name z pz]) (vs := [a, b, c]) (names := [x, y, z]) (sc := sc) (env := X.env) o.kind o.hs rfl rfl (by simpa using c5) sw (by
        have n1 : x ≠ y := of_decide_eq_true n1
        have n2 : x ≠ z := of_decide_eq_true n2
        have n3 : y ≠ z := of_decide_eq_true n3
        have e1 : (y == x) = false := by rw [beq_eq_false_iff_ne]; exact n1.symm
        have e2 : (z == x) = false := by rw [beq_eq_false_iff_ne]; exact n2.symm
        have e3 : (z == y) = false := by rw [beq_eq_false_iff_ne]; exact n3.symm
        rw [List.eraseDups_cons, List.filter_cons, e1, List.filter_cons, e2]
        show (x :: List.eraseDups [y, z]).length = 3
        rw [List.eraseDups_cons, List.filter_cons, e3]; rfl) rfl (by rw [Bool.not_eq_true'] at c2; exact c2) (by rw [Bool.not_eq_true'] at c3; exact c3)
      refine ⟨fun pins s σ H D I q => (ps_par3 (i := i) (j := j) (l := l) o.calm (by rw [o.n]; exact o.nd) (by rw [o.n]; exact of_decide_eq_true a1) (by rw [o.n]; exact of_decide_eq_true a2) (by rw [o.n]; exact of_decide_eq_true a3) (of_decide_eq_true i1) (of_decide_eq_true i2) (of_decide_eq_true i3) (by rw [o.hs]; exact d1) (by rw [o.hs]; exact d2) (by rw [o.hs]; exact d3) pa hw).run pins s σ H D I ?_⟩
      have q2 := raw_len (tS_par q)
      rw [ln] at q2
      refine (show ∀ {Q Q' : List V → Hp → Prop}, (∀ vs H, Q vs H → Q' vs H) → tRaw X.K cf.io (rawL cf es) σ H Q → tRaw X.K cf.io (rawL cf es) σ H Q' from ?_) ?_ q2
      · rintro Q Q' i ⟨Γ, hK, hL, S, ρ, st, z⟩
        refine ⟨Γ, hK, hL, S, ρ, st, ?_⟩
        revert z
        cases rawM (rawL cf es) ρ with
        | ok x => obtain ⟨rs, ρ'⟩ := x; exact fun z vs S1 H1 x1 st1 r1 => i _ _ (z vs S1 H1 x1 st1 r1)
        | err c p => exact id
        | stuck => exact id
      · rintro vs H1 ⟨l, d⟩
        match vs, l with
        | [u, v, w], _ => exact ⟨u, v, w, rfl, d⟩
  · cases h
end
end Tp
set_option Elab.async false
set_option linter.all false
set_option maxRecDepth 100000
set_option maxHeartbeats 4000000
namespace Tp
open PySem PySem.Spec PyProof.Rows L2
open Evl (Ex)
section
variable {X : Cx} {N : List Str} {sc : Scope} {cf : Cfg}
theorem tR_mono {K : PySem.W.Frag} {io : Option Nat} {m : M R} {σ : L2.St} {H : Hp} {Q Q' : VK} (h : tR K io m σ H Q) (i : ∀ v H, Q v H → Q' v H) : tR K io m σ H Q' := by
  obtain ⟨Γ, hK, hL, S, ρ, st, z⟩ := h
  refine ⟨Γ, hK, hL, S, ρ, st, ?_⟩
  revert z
  cases m ρ with
  | ok x => obtain ⟨r, ρ'⟩ := x; exact fun z v S1 H1 x1 st1 r1 => i _ _ (z v S1 H1 x1 st1 r1)
  | err c p => exact id
  | stuck => exact id
theorem ps_imp' {st : Stmt} {t u : TS} (h : PS X st t) (i : ∀ D σ H, u D σ H → t D σ H) : PS X st u := ⟨fun pins s σ H D I q => h.run pins s σ H D I (i D σ H q)⟩
theorem pss_imp' {l : List Stmt} {t u : TS} (h : PSs X l t) (i : ∀ D σ H, u D σ H → t D σ H) : PSs X l u := ⟨fun pins s σ H D I q => h.run pins s σ H D I (i D σ H q)⟩
/-- one statement, then the rest -/
theorem pss_sq {st : Stmt} {l : List Stmt} {m n : SM} (h1 : PS X st (tSm X.K cf.io m)) (h2 : PSs X l (tSm X.K cf.io n)) : PSs X (st :: l) (tSm X.K cf.io (seqM m n)) :=
  pss_imp' (pss_cons h1 h2) fun D σ H h => tS_seq h
theorem chkNm_name {i : Nat} {y : Str} {py : Pos} {t : T} (h : chkG N cf sc t (.Name y py) = true) : ∃ i, N[i]? = some y ∧ ∀ {K : PySem.W.Frag} {v : V} {σ : L2.St} {H : Hp} {Q : L2.St → Hp → Prop}, tTg K cf.io (wsG t) (evG cf t) v σ H Q → gName i v σ H Q := by
  cases t with
  | nm i => exact ⟨i, of_decide_eq_true (and2 (show (decide (N[i]? = some y) && locS sc y) = true from h)).1, fun q => tG_nm q⟩
  | ns i => exact ⟨i, of_decide_eq_true (and2 (show (decide (N[i]? = some y) && locS sc y) = true from h)).1, fun q => tG_ns q⟩
  | sub i k => cases h
  | tup a => cases h
  | nil => cases h
  | cons a r => cases h
theorem ps_lc_ok (o : XOk X N sc cf) {e : E} {t : T} {tg x : Expr} {pos : Pos} (h1 : chkE N cf sc e x = true) (h2 : chkG N cf sc t tg = true) (h3 : swLc sc pos.line tg x = true) : PS X (.Assign [tg] x pos) (tSm X.K cf.io (asgM (evE cf e) (evG cf t))) := by
  unfold swLc at h3
  split at h3
  · rename_i y py elt gs scope p
    obtain ⟨l1, l2⟩ := and2 h3
    obtain ⟨l2, l3⟩ := and2 l2
    have l1 : X.env.scope.names.lookup y = some .local := by rw [o.hs]; exact of_decide_eq_true l1
    obtain ⟨i, hi, hg⟩ := chkNm_name (i := 0) h2
    cases e <;> try (cases h1; done)
    rename_i vs tg tt it t' el
    obtain ⟨⟨elt', gs', scope'⟩, e1, hz⟩ := oAll_ok h1; clear h1
    cases e1
    obtain ⟨g, e2, h⟩ := oAll_ok hz; clear hz
    have hgs : gs = [g] := one_ok e2
    subst hgs
    obtain ⟨h1, h2⟩ := and2 h
    obtain ⟨h3, h4⟩ := and2 h1
    obtain ⟨hpl, h3⟩ := and2 h3
    obtain ⟨h5, h6⟩ := and2 h4
    obtain ⟨h7, h8⟩ := and2 h6
    obtain ⟨h9, h10⟩ := and2 h2
    obtain ⟨h11, h12⟩ := and2 h10
    obtain ⟨tgx, itx, ifs, asy⟩ := g
    have ha : asy = 0 := of_decide_eq_true h5
    subst ha
    have ok : BlkOk X.N X.env.scope scope (vs.map fun i => (N.getD i "", i)) := by
      rw [o.n, o.hs]; exact blkOk_by h3
    have own2 : (vs.map fun i => (N.getD i "", i)).map (·.2) = vs := by
      rw [List.map_map]; exact List.map_id' vs
    have rule := ps_setLc (pos := p) (spos := pos) (py := py) (elt := elt) (ifs := ifs) (tg := tgx) (iter := itx) (scope := scope) (tt := tBo X.K cf.io (evT cf t')) (te := tR X.K cf.io (evE cf el)) o.calm (by rw [o.n]; exact o.nd) (by rw [o.n]; exact hi) l1
      (sw_true (by rw [o.hs]; exact o.kind) l1 l2 (by rw [Bool.not_eq_true'] at l3; exact l3)) ((sound it).2.2.2.2.2.2.1 X sc o tgx itx h9) ok (fun s H C cl fp => pg_tg o ok h8 s H C cl fp) (fun s H C cl fp => (sound t').2.2.2.2.2.1 _ _ (o.blk ok s H C cl fp hpl) ifs h12) (fun s H C cl fp => (sound el).1 _ _ (o.blk ok s H C cl fp hpl) elt h11) (it_fold h9)
    rw [own2] at rule
    refine ps_imp' rule fun D σ H h => ?_
    have a := tS_asg (ws := wsG t) h
    exact tR_comp (of_decide_eq_true h7) (tR_mono a fun v H q => hg q)
  · cases h3
theorem soundS (ir : S) : ∀ (X : Cx) (sc : Scope), XOk X N sc cf → X.fn = (fun _ => true) → PassesOwn (model X.prog X.w) X.A X.env X.xe → ∀ l, chkS N cf sc ir l = true → PSs X l (tSm X.K cf.io (evS cf ir)) := by
  induction ir with
  | nx =>
    intro X sc o hf hp l h
    have : l = [] := List.isEmpty_iff.mp h
    subst this
    exact pss_imp' pss_nil fun D σ H h => tS_nx h
  | frz i b ih =>
    intro X sc o hf hp l h
    exact pss_imp' (ih X sc o hf hp l h) fun D σ H h => tS_frz h
  | doc b ih =>
    intro X sc o hf hp l h
    obtain ⟨u, e1, hz⟩ := oAll_ok h; clear h
    obtain ⟨h1, h2⟩ := and2 hz
    rw [dUn_ok e1]
    obtain ⟨x, j, p, q, e⟩ := isDoc_ok h1
    rw [e]
    exact pss_sq (ps_imp' ps_doc fun D σ H h => tS_nx h) (ih X sc o hf hp _ h2)
  | asg t e b ih =>
    intro X sc o hf hp l h
    obtain ⟨u, e1, hz⟩ := oAll_ok h; clear h
    obtain ⟨h1, h2⟩ := and2 hz
    rw [dUn_ok e1]
    obtain ⟨a, e2, h1⟩ := oAll_ok h1
    obtain ⟨p, e3, e4⟩ := dAsg_ok e2
    rw [e3]
    obtain ⟨h3, h4⟩ := and2 h1
    obtain ⟨h5, h6⟩ := and2 h3
    obtain ⟨h7, h8⟩ := and2 h4
    refine pss_sq ?_ (ih X sc o hf hp _ h2)
    rw [e4] at h7
    rw [Bool.or_eq_true] at h7
    rcases h7 with h7 | h7
    · have one : (assignEach [a.1] X.env).map (·.2) = [assign a.1 X.env] := by
        obtain ⟨a1, a2, a3⟩ := a
        cases a1 <;> first | rfl | (cases h7; done)
      exact ps_imp' (ps_asg ((sound e).1 X sc o _ h5) ((soundG t).1 X sc o hf _ h6) (sw_no o.hs h7) (sw_none o.kind o.hs h8) one) fun D σ H h => tS_asg h
    · exact ps_lc_ok o h5 h6 h7
  | par ns es b ih =>
    intro X sc o hf hp l h
    obtain ⟨u, e1, hz⟩ := oAll_ok h; clear h
    obtain ⟨h1, h2⟩ := and2 hz
    rw [dUn_ok e1]
    obtain ⟨a, e2, h1⟩ := oAll_ok h1
    obtain ⟨p, e3, e4⟩ := dAsg_ok e2
    rw [e3]
    obtain ⟨vs, e5, h1⟩ := oAll_ok h1
    obtain ⟨k, q, e6⟩ := dTup_ok e5
    rw [e6]
    obtain ⟨h3, h4⟩ := and2 h1
    obtain ⟨h5, h6⟩ := and2 h4
    exact pss_sq (ps_par_ok o (of_decide_eq_true h3) h5 h6) (ih X sc o hf hp _ h2)
  | ex e b ih =>
    intro X sc o hf hp l h
    obtain ⟨u, e1, hz⟩ := oAll_ok h; clear h
    obtain ⟨h1, h2⟩ := and2 hz
    rw [dUn_ok e1]
    obtain ⟨a, e2, h1⟩ := oAll_ok h1
    obtain ⟨p, e3⟩ := dExpr_ok e2
    rw [e3]
    obtain ⟨h3, h4⟩ := and2 h1
    exact pss_sq (ps_imp' (ps_expr ((sound e).1 X sc o _ h4) (sw_noComp h3)) fun D σ H h => tS_drop h) (ih X sc o hf hp _ h2)
  | ret e b ih =>
    intro X sc o hf hp l h
    obtain ⟨u, e1, hz⟩ := oAll_ok h; clear h
    obtain ⟨h1, h2⟩ := and2 hz
    rw [dUn_ok e1]
    obtain ⟨a, e2, h1⟩ := oAll_ok h1
    obtain ⟨p, e3⟩ := dRet_ok e2
    obtain ⟨x, e4, h1⟩ := oAll_ok h1
    rw [e3, e4]
    exact pss_sq (ps_imp' (ps_ret ((sound e).1 X sc o _ h1)) fun D σ H h => tS_ret h) (ih X sc o hf hp _ h2)
  | retn b ih =>
    intro X sc o hf hp l h
    obtain ⟨u, e1, hz⟩ := oAll_ok h; clear h
    obtain ⟨h1, h2⟩ := and2 hz
    rw [dUn_ok e1]
    obtain ⟨a, e2, h1⟩ := oAll_ok h1
    obtain ⟨p, e3⟩ := dRet_ok e2
    have : a = none := Option.isNone_iff_eq_none.mp h1
    rw [e3, this]
    exact pss_sq (ps_imp' ps_retN fun D σ H h => tS_retN h) (ih X sc o hf hp _ h2)
  | ife t x y b ihx ihy ih =>
    intro X sc o hf hp l h
    obtain ⟨u, e1, hz⟩ := oAll_ok h; clear h
    obtain ⟨h1, h2⟩ := and2 hz
    rw [dUn_ok e1]
    obtain ⟨a, e2, h1⟩ := oAll_ok h1
    obtain ⟨p, e3⟩ := dIfS_ok e2
    rw [e3]
    obtain ⟨h3, h4⟩ := and2 h1
    obtain ⟨h5, h6⟩ := and2 h4
    exact pss_sq (ps_imp' (ps_if ((sound t).2.2.2.2.1 X sc o _ h3).1 (ihx X sc o hf hp _ h5) (ihy X sc o hf hp _ h6)) fun D σ H h => tS_if h) (ih X sc o hf hp _ h2)
  | wh W t x b ihx ih =>
    intro X sc o hf hp l h
    obtain ⟨u, e1, hz⟩ := oAll_ok h; clear h
    obtain ⟨h1, h2⟩ := and2 hz
    rw [dUn_ok e1]
    obtain ⟨a, e2, h1⟩ := oAll_ok h1
    obtain ⟨p, e3⟩ := dWh_ok e2
    rw [e3]
    obtain ⟨h3, h4⟩ := and2 h1
    exact pss_sq (ps_imp' (ps_while hp ((sound t).2.2.2.2.1 X sc o _ h3).1 (ihx X sc o hf hp _ h4)) fun D σ H h => tS_while h) (ih X sc o hf hp _ h2)
  | fr t it x b ihx ih =>
    intro X sc o hf hp l h
    obtain ⟨u, e1, hz⟩ := oAll_ok h; clear h
    obtain ⟨h1, h2⟩ := and2 hz
    rw [dUn_ok e1]
    obtain ⟨a, e2, h1⟩ := oAll_ok h1
    obtain ⟨p, e3⟩ := dFor_ok e2
    rw [e3]
    obtain ⟨h3, h4⟩ := and2 h1
    obtain ⟨h5, h6⟩ := and2 h4
    exact pss_sq (ps_imp' (ps_for hp o.calm ((sound it).2.2.2.2.2.2.1 X sc o a.1 _ h5) ((soundG t).1 X sc o hf _ h3) (ihx X sc o hf hp _ h6) (it_fold h5)) fun D σ H h => tS_for h) (ih X sc o hf hp _ h2)
  | bk b ih =>
    intro X sc o hf hp l h
    obtain ⟨u, e1, hz⟩ := oAll_ok h; clear h
    obtain ⟨h1, h2⟩ := and2 hz
    obtain ⟨p, e⟩ := isBk_ok h1
    rw [dUn_ok e1, e]
    exact pss_sq (ps_imp' ps_break fun D σ H h => tS_bk h) (ih X sc o hf hp _ h2)
  | ct b ih =>
    intro X sc o hf hp l h
    obtain ⟨u, e1, hz⟩ := oAll_ok h; clear h
    obtain ⟨h1, h2⟩ := and2 hz
    obtain ⟨p, e⟩ := isCt_ok h1
    rw [dUn_ok e1, e]
    exact pss_sq (ps_imp' ps_continue fun D σ H h => tS_ct h) (ih X sc o hf hp _ h2)
  | ps b ih =>
    intro X sc o hf hp l h
    obtain ⟨u, e1, hz⟩ := oAll_ok h; clear h
    obtain ⟨h1, h2⟩ := and2 hz
    obtain ⟨p, e⟩ := isPs_ok h1
    rw [dUn_ok e1, e]
    exact pss_sq (ps_imp' ps_pass fun D σ H h => tS_nx h) (ih X sc o hf hp _ h2)
  | bad b ih =>
    intro X sc o hf hp l h
    obtain ⟨u, e1, hz⟩ := oAll_ok h; clear h
    rw [dUn_ok e1]
    exact pss_sq (ps_imp' ps_never fun D σ H h => by obtain ⟨Γ, _, _, S, ρ, _, q⟩ := h; exact q) (ih X sc o hf hp _ hz)
end
end Tp
set_option Elab.async false
set_option linter.all false
set_option maxRecDepth 100000
set_option maxHeartbeats 4000000
namespace Tp
open PySem PySem.Spec PyProof.Rows L2
open Evl (Ex)
/-! ### a def by its inner form -/
def outsOf (io : Option Nat) (n : Nat) (ρ : List Sl) : Out (List Sl) := match io with
  | none => .ok (List.replicate n .un)
  | some k => match ρ[k]? with
    | some (.ow sh xs) => if k < n then .ok ((List.replicate n .un).set k (.ow sh xs)) else .stuck
    | _ => .stuck
def ioIn (io : Option Nat) (as : List Sl) : Bool := match io with
  | none => true
  | some k => match as[k]? with
    | some (.ow _ _) => true
    | _ => false
def finS (io : Option Nat) (n : Nat) : Fl → Out (R × List Sl)
  | .nx ρ => (outsOf io n ρ).bind fun o => .ok (.d .non, o)
  | .rt r ρ => if noVw r = true then (outsOf io n ρ).bind fun o => .ok (r, o) else .stuck
  | _ => .stuck
def fnS (cf : Cfg) (m : Nat) (ir : S) (as : List Sl) : Out (R × List Sl) := if ioIn cf.io as = true then (evS cf ir (as ++ List.replicate (m - as.length) .un)).bind (finS cf.io as.length) else .stuck
structure TabOk (P : Program) (w : World) (K : PySem.W.Frag) (mg : Str → Option Value) (base : Heap) (k : Nat) (cf : Cfg) : Prop where
  cal : ∀ (j : Nat) c, cf.C[j]? = some c → ∃ (f : Addr) (fd : FuncData) (l : Nat) (ps : List Str) (ds : List Value) (dvs : List V), mg c.name = some (.ref f) ∧ PySem.W.keepIn K (.ref f) = true ∧
    FnG P w K mg base l f fd ps (spF K c.io c.n c.fn) ∧ l ≤ k ∧ Binds K fd ps ds ∧ Vals dvs ds ∧ atomsV c.ds = some dvs
  kcal : ∀ (j : Nat) (c : KCal), cf.KC[j]? = some c → ∃ (f : Addr) (fd : FuncData) (l : Nat) (ps : List Str), mg c.c.name = some (.ref f) ∧ PySem.W.keepIn K (.ref f) = true ∧
    FnG P w K mg base l f fd ps (spF K c.c.io c.c.n c.c.fn) ∧ l ≤ k ∧
    ∀ (s : Shared) (us ws zs : List Value), us.length = c.np → ws.length = c.names.length → permL (us ++ ws) c.perm = some zs → BindsTo s fd ⟨us, c.names.zip ws⟩ (ps.zip zs)
  glb : ∀ (j : Nat) p, cf.G[j]? = some p → ∃ u v, mg p.1 = some u ∧ RelV v u ∧ ∀ H, Rep K H p.2 v
  bis : ∀ b ∈ cf.bis, match b with
    | .comb => mg b.name = some b.val
    | .gcd => mg b.name = some b.val
    | b => mg b.name = none
  tys : ∀ t ∈ cf.tys, mg (Str.ofString t.name) = none ∧ t ≠ .none
  its : cf.its = true → mg "range" = none ∧ mg "enumerate" = none ∧ mg "zip" = none
section
variable {Γ : Gr} {S H : Hp} {σ : L2.St} {ρ : List Sl}
theorem un_get {m i : Nat} {s : Sl} (h : (ρ ++ List.replicate m Sl.un)[i]? = some s) : (i < ρ.length ∧ ρ[i]? = some s) ∨ s = .un := by
  rcases get_app h with h | ⟨_, h⟩
  · exact .inl h
  · obtain ⟨a, e⟩ := List.getElem?_eq_some_iff.mp h
    rw [List.getElem_replicate] at e
    exact .inr e.symm
theorem StOk.more (st : StOk Γ S H σ ρ) (m : Nat) : StOk Γ S H (σ ++ List.replicate m none) (ρ ++ List.replicate m .un) := by
  have low : ∀ {i : Nat} {s : Sl}, (ρ ++ List.replicate m Sl.un)[i]? = some s → s ≠ .un → ρ[i]? = some s ∧ (σ ++ List.replicate m none)[i]? = σ[i]? := by
    intro i s h n
    rcases un_get h with ⟨a, b⟩ | z
    · exact ⟨b, List.getElem?_append_left (by rw [← st.len]; exact a)⟩
    · exact absurd z n
  refine ⟨st.old, st.st, st.nw, st.le, st.bb, st.al, by rw [List.length_append, List.length_append, st.len, List.length_replicate, List.length_replicate], ?_, ?_, ?_, ?_, ?_⟩
  · intro i d h
    obtain ⟨a, b⟩ := low h (by intro z; cases z)
    rw [b]; exact st.sd i d a
  · intro i sh xs h
    obtain ⟨a, b⟩ := low h (by intro z; cases z)
    rw [b]; exact st.so i sh xs a
  · intro i j p sh xs sh' xs' h1 h2 h3 h4
    obtain ⟨a, b⟩ := low h1 (by intro z; cases z)
    obtain ⟨a', b'⟩ := low h2 (by intro z; cases z)
    rw [b] at h3; rw [b'] at h4
    exact st.ne i j p _ _ _ _ a a' h3 h4
  · intro i q sh xs hq h
    obtain ⟨a, b⟩ := low h (by intro z; cases z)
    rw [b]; exact st.io i q sh xs hq a
  · intro i q sh xs h h2
    obtain ⟨a, b⟩ := low h (by intro z; cases z)
    rw [b] at h2; exact st.io1 i q sh xs a h2
theorem lent_io {K : PySem.W.Frag} {io : Option Nat} {vs : List V} {S H : Hp} : Lent ⟨K, ioB io vs, S, H⟩ io := by
  intro i q h
  have h : (i, q) ∈ ioB io vs := h
  unfold ioB at h
  split at h
  · cases h
  · split at h
    · cases h with
      | head => rfl
      | tail _ h => cases h
    · cases h
/-- behind a def: its own slots are gone, the lent one stands -/
theorem StOk.leave {K : PySem.W.Frag} {io : Option Nat} {vs : List V} {S0 H0 : Hp} {n : Nat} {outs : List Sl} {r : R} {v : V} (st : StOk ⟨K, ioB io vs, S0, H0⟩ S H σ ρ) (hn : n = vs.length) (hio : ∀ k, io = some k → ∃ p, vs[k]? = some (.ref p))
    (rv : RepR ⟨K, ioB io vs, S0, H0⟩ S H σ ρ r v) (hv : noVw r = true) (e : outsOf io n ρ = .ok outs) : StOk ⟨K, ioB io vs, S0, H0⟩ S H (vs.map some) outs ∧ RepR ⟨K, ioB io vs, S0, H0⟩ S H (vs.map some) outs r v := by
  have only : (∀ (i : Nat) s, outs[i]? = some s → s ≠ .un → ∃ sh xs q, io = some i ∧ s = .ow sh xs ∧ ρ[i]? = some (.ow sh xs) ∧ σ[i]? = some (some (.ref q)) ∧ vs[i]? = some (.ref q)) ∧ outs.length = n := by
    unfold outsOf at e
    split at e
    · cases e
      refine ⟨fun i s h n => ?_, List.length_replicate⟩
      obtain ⟨a, e⟩ := List.getElem?_eq_some_iff.mp h
      rw [List.getElem_replicate] at e
      exact absurd e.symm n
    · rename_i k
      split at e
      · rename_i sh xs e1
        split at e
        · rename_i hk
          cases e
          refine ⟨fun i s h n => ?_, by rw [List.length_set, List.length_replicate]⟩
          rcases set_get h with ⟨rfl, _, rfl⟩ | ⟨_, h⟩
          · obtain ⟨p, e2⟩ := hio k rfl
            have hB : (k, p) ∈ ioB (some k) vs := by unfold ioB; simp only [e2]; exact .head _
            exact ⟨sh, xs, p, rfl, rfl, e1, st.io k p sh xs hB e1, e2⟩
          · obtain ⟨a, e⟩ := List.getElem?_eq_some_iff.mp h
            rw [List.getElem_replicate] at e
            exact absurd e.symm n
        · cases e
      · cases e
  obtain ⟨only, ln⟩ := only
  have at_ : ∀ {i : Nat} {u : V}, vs[i]? = some u → (vs.map some)[i]? = some (some u) := fun h => by rw [List.getElem?_map, h]; rfl
  refine ⟨⟨st.old, st.st, st.nw, st.le, st.bb, st.al, by rw [ln, List.length_map, hn], ?_, ?_, ?_, ?_, ?_⟩, ?_⟩
  · intro i d h
    obtain ⟨_, _, _, _, z, _⟩ := only i _ h (by intro z; cases z)
    cases z
  · intro i sh xs h
    obtain ⟨_, _, q, _, z, e1, e2, e3⟩ := only i _ h (by intro z; cases z)
    cases z
    obtain ⟨p, ws, a1, a2⟩ := st.so i sh xs e1
    rw [e2] at a1
    cases a1
    exact ⟨q, ws, at_ e3, a2⟩
  · intro i j p sh xs sh' xs' h1 h2 _ _
    obtain ⟨_, _, _, z1, _⟩ := only i _ h1 (by intro z; cases z)
    obtain ⟨_, _, _, z2, _⟩ := only j _ h2 (by intro z; cases z)
    rw [z1] at z2; cases z2; rfl
  · intro i q sh xs hq h
    obtain ⟨_, _, q', _, z, e1, e2, e3⟩ := only i _ h (by intro z; cases z)
    cases z
    have := st.io i q sh xs hq e1
    rw [e2] at this
    cases this
    exact at_ e3
  · intro i q sh xs h h2 h3
    obtain ⟨_, _, q', _, z, e1, e2, e3⟩ := only i _ h (by intro z; cases z)
    cases z
    rw [at_ e3] at h2
    cases h2
    exact st.io1 i q sh xs e1 e2 h3
  · cases r with
    | d d => exact rv
    | vw i => cases hv
    | ow sh xs =>
      obtain ⟨p, ws, a1, a2, a3, a4, a5, a6, a7, a8⟩ := rv
      refine ⟨p, ws, a1, a2, a3, a4, a5, a6, a7, fun i sh' xs' h => ?_⟩
      obtain ⟨_, _, q, _, z, e1, e2, e3⟩ := only i _ h (by intro z; cases z)
      rw [at_ e3, ← e2]
      exact a8 i _ _ e1
end
section
variable {P : Program} {w : World} {K : PySem.W.Frag} {mg : Str → Option Value} {base : Heap} {k : Nat} {f : Addr} {fd : FuncData} {x qual : Str} {st : Stmt} {N ps : List Str} {cf : Cfg} {ir : Tp.S}
theorem start_ok {S H : Hp} {Q : VK} {n : Nat} {vs : List V} {as : List Sl} (hl : vs.length = n) (s0 : StOk ⟨K, ioB cf.io vs, S, H⟩ S H (vs.map some) as) (q : goF ⟨K, ioB cf.io vs, S, H⟩ vs Q (fnS cf N.length ir as)) :
    tSm K cf.io (evS cf ir) { nx := fun _ H' => Q .non H', rt := Q } (start N vs) H := by
  have la : as.length = vs.length := by rw [s0.len, List.length_map]
  unfold fnS at q
  split at q
  · rename_i hi
    have hio : ∀ k, cf.io = some k → ∃ p, vs[k]? = some (.ref p) := by
      intro k e
      unfold ioIn at hi
      rw [e] at hi
      simp only at hi
      split at hi
      · rename_i sh xs e1
        obtain ⟨p, ws, a1, _⟩ := s0.so k sh xs e1
        rw [List.getElem?_map] at a1
        cases e2 : vs[k]? with
        | none => rw [e2] at a1; cases a1
        | some u => rw [e2] at a1; cases a1; exact ⟨p, rfl⟩
      · cases hi
    refine ⟨⟨K, ioB cf.io vs, S, H⟩, rfl, lent_io, S, as ++ List.replicate (N.length - as.length) .un, ?_, ?_⟩
    · have := s0.more (N.length - as.length)
      rw [la] at this ⊢
      exact this
    · revert q
      cases e : evS cf ir (as ++ List.replicate (N.length - as.length) .un) with
      | err c p => exact id
      | stuck => exact id
      | ok fl =>
        intro q
        have q : goF ⟨K, ioB cf.io vs, S, H⟩ vs Q (finS cf.io as.length fl) := q
        cases fl with
        | bk ρ => exact q.elim
        | ct ρ => exact q.elim
        | nx ρ =>
          intro S' H' σ' x st'
          have q : goF ⟨K, ioB cf.io vs, S, H⟩ vs Q ((outsOf cf.io as.length ρ).bind fun o => .ok (.d .non, o)) := q
          revert q
          cases e2 : outsOf cf.io as.length ρ with
          | err c p => exact fun z => z.elim
          | stuck => exact fun z => z.elim
          | ok outs =>
            intro q
            have rn : RepR ⟨K, ioB cf.io vs, S, H⟩ S' H' σ' ρ (.d .non) .non := show Rep K S' .non .non by unfold Rep; rfl
            obtain ⟨b1, b2⟩ := st'.leave la hio rn rfl e2
            exact q .non S' H' b1 b2
        | rt r ρ =>
          intro S' H' σ' v x st' rv
          have q : goF ⟨K, ioB cf.io vs, S, H⟩ vs Q (if noVw r = true then (outsOf cf.io as.length ρ).bind fun o => .ok (r, o) else .stuck) := q
          split at q
          · rename_i hv
            revert q
            cases e2 : outsOf cf.io as.length ρ with
            | err c p => exact fun z => z.elim
            | stuck => exact fun z => z.elim
            | ok outs =>
              intro q
              obtain ⟨b1, b2⟩ := st'.leave la hio rv hv e2
              exact q v S' H' b1 b2
          · exact q.elim
  · exact q.elim
theorem room_hu {A : Around} (hr : Room k A) : A.units + 65 < cLine := by have := hr.un; omega
/-- THE RULE for a def: its inner form tells its body, the tables are kept -/
theorem fn_S (F : FunA K x qual st f fd) (sc : FnScope N ps (defScope st)) (ck : chkS N cf (defScope st) ir (defBody st) = true) (T : TabOk P w K mg base k cf) (pl : plainC cf = true := by rfl) : FnG P w K mg base (k + 1) f fd ps (spF K cf.io ps.length (fnS cf N.length ir)) := by
  refine fn_ofG F sc (fun vs H Q E h => ?_) fun cdv A out s H vs Q E hr hg h => ?_
  · obtain ⟨S, as, l, _⟩ := h
    exact l
  · obtain ⟨S, as, l, s0, q⟩ := h
    have o : XOk (cxOf (L2.CX P w) P w K mg base N qual (defScope st) f cdv A out s H E) N (defScope st) cf :=
      { n := rfl, hs := rfl, nd := sc.nd, kind := sc.kind, calm := rfl, hu := room_hu hr, gd := hg
        cal := fun j c h => by
          obtain ⟨f, fd, l, ps, ds, dvs, a1, a2, a3, a4, a5⟩ := T.cal j c h
          exact ⟨f, fd, l, ps, ds, dvs, a1, a2, a3, hr.mono a4, a5⟩
        kcal := fun j c h => by
          obtain ⟨f, fd, l, ps, a1, a2, a3, a4, a5⟩ := T.kcal j c h
          exact ⟨f, fd, l, ps, a1, a2, a3, hr.mono a4, a5⟩
        glb := T.glb
        bis := fun b hb => by have := T.bis b hb; cases b <;> exact this
        tys := T.tys
        its := T.its
        hol := fun m h => by rw [(plainC_ok pl).1] at h; cases h
        fwk := fun w h => by rw [(plainC_ok pl).2] at h; cases h }
    exact ⟨_, soundS ir _ _ o rfl (passes_of rfl) _ ck, start_ok l s0 q⟩
end
end Tp
set_option Elab.async false
set_option linter.all false
set_option maxRecDepth 100000
set_option maxHeartbeats 4000000
namespace Tp
open PySem PySem.Spec PyProof.Rows L2
open Evl (Ex)
/-! ### a lambda's promise, called by a name that holds it -/
/-- what a lambda answers: its body over its parameters -/
def fnL (cf : Cfg) (el : E) (as : List Sl) : Out (R × List Sl) := (evE cf el as).bind fun x => if noVw x.1 = true then .ok (x.1, List.replicate as.length .un) else .stuck
section
variable {P : Program} {w : World} {K : PySem.W.Frag} {mg : Str → Option Value} {base : Heap}
/-- what a def's run knows of a lambda at f: its object, its code object -/
structure LamAt (q : Str) (params : Arguments) (body : Expr) (scope : Scope) (f c' : Addr) (fs : List Addr) (H : Hp) (s : Shared) : Prop where
  fn : ∃ (pm ctv : Value), s.heap.get? f = some (PySem.W.kla_obj "<lambda>" q params body scope [] pm c' ctv)
  un : H f = none
  fr : f ∉ fs
  co : ∃ oc, H c' = some (.frz oc (LamX.CodeO c' q))
theorem LamAt.later {q : Str} {params : Arguments} {body : Expr} {scope : Scope} {f c' : Addr} {fs : List Addr} {H H2 : Hp} {s s2 : Shared} (L : LamAt q params body scope f c' fs H s) (u : Un fs [] H H2 s.heap s2.heap) (ok : HOk P w H2 s2.heap) :
    (∃ (pm ctv : Value), s2.heap.get? f = some (PySem.W.kla_obj "<lambda>" q params body scope [] pm c' ctv)) ∧ ∃ (oc : Obj) (vs : Array Value) (t : Tok), s2.heap.get? c' = some oc ∧ oc.data = .fields vs ∧ vs[1]? = some (.str q t) := by
  obtain ⟨pm, ctv, e⟩ := L.fn
  obtain ⟨oc, e2⟩ := L.co
  refine ⟨⟨pm, ctv, u.keep f _ e L.un L.fr (fun z => by cases z)⟩, ?_⟩
  obtain ⟨_, ⟨o2, fs2, t, a1, a2, a3⟩, _⟩ := ok c' _ (u.frzs c' oc _ e2)
  exact ⟨o2, fs2, t, a1, a2, a3⟩
/-- the lambda called, by its inner form -/
theorem lam_run {N2 : List Str} {cf2 : Cfg} {el : E} {q : Str} {params : Arguments} {body : Expr} {scope : Scope} {f c' : Addr} {k : Nat} (sc : FnScope N2 N2 scope) (pl : plainC cf2 = true) (io2 : cf2.io = none) (ck : chkE N2 cf2 scope el body = true) (T : TabOk P w K mg base k cf2)
    (bd : ∀ (s : Shared) (pm cv ctv : Value) (us : List Value), us.length = N2.length → BindsTo s (PySem.W.kla_fn "<lambda>" q params body scope [] pm cv ctv) ⟨us, []⟩ (N2.zip us))
    {A : Around} {out : List Env} {s : Shared} {H : Hp} {us : List Value} {vs : List V} {Q : VK} (rm : Room (k + 1) A) (gd : A.guards = some []) (he : Env0 P w K mg base A out s H)
    (fo : ∃ (pm ctv : Value), s.heap.get? f = some (PySem.W.kla_obj "<lambda>" q params body scope [] pm c' ctv)) (co : ∃ (oc : Obj) (fs : Array Value) (t : Tok), s.heap.get? c' = some oc ∧ oc.data = .fields fs ∧ fs[1]? = some (.str q t)) (rv : Vals vs us)
    (hs : spF K none N2.length (fnL cf2 el) vs H Q E0) : codeAny (model P w) A (.call (.ref f) ⟨us, []⟩) (CR (L2.CX P w) out P w H s Q E0) s := by
  obtain ⟨pm, ctv, fo⟩ := fo
  obtain ⟨S, as, len, st, go⟩ := hs
  have lu : us.length = N2.length := by rw [← rv.length]; exact len
  refine lam_goes (tb := tR K none (evE cf2 el)) (k := k) sc fo co rm he (bd s pm _ ctv us lu) rv len (fun hr => ?_) ?_
  · have o : XOk (cxOf (L2.CX P w) P w K mg base N2 q scope f (.ref c') A out s H E0) N2 scope cf2 :=
      { n := rfl, hs := rfl, nd := sc.nd, kind := sc.kind, calm := rfl, hu := room_hu hr, gd := gd
        cal := fun j c h => by
          obtain ⟨f, fd, l, ps, ds, dvs, a1, a2, a3, a4, a5⟩ := T.cal j c h
          exact ⟨f, fd, l, ps, ds, dvs, a1, a2, a3, hr.mono a4, a5⟩
        kcal := fun j c h => by
          obtain ⟨f, fd, l, ps, a1, a2, a3, a4, a5⟩ := T.kcal j c h
          exact ⟨f, fd, l, ps, a1, a2, a3, hr.mono a4, a5⟩
        glb := T.glb
        bis := fun b hb => by have := T.bis b hb; cases b <;> exact this
        tys := T.tys
        its := T.its
        hol := fun m h => by rw [(plainC_ok pl).1] at h; cases h
        fwk := fun w h => by rw [(plainC_ok pl).2] at h; cases h }
    have r := (sound (N := N2) (cf := cf2) el).1 _ scope o body ck
    rw [io2] at r
    exact r
  · have ls : start N2 vs = vs.map some := by
      unfold L2.start
      rw [len, Nat.sub_self]
      simp
    rw [ls]
    refine ⟨⟨K, [], S, H⟩, rfl, (fun i q h => by cases h), S, as, st, ?_⟩
    have la : as.length = vs.length := by rw [st.len, List.length_map]
    have go : goF ⟨K, [], S, H⟩ vs Q (fnL cf2 el as) := go
    unfold fnL at go
    revert go
    cases ev : evE cf2 el as with
    | err c p => exact id
    | stuck => exact id
    | ok x =>
      intro go
      obtain ⟨r, ρ'⟩ := x
      have go : goF ⟨K, [], S, H⟩ vs Q (if noVw r = true then .ok (r, List.replicate as.length .un) else .stuck) := go
      intro v S' H' x st' rv'
      split at go
      · rename_i hv
        obtain ⟨b1, b2⟩ := st'.leave (io := none) (vs := vs) la (fun k e => by cases e) rv' hv (outs := List.replicate as.length .un) rfl
        exact go v S' H' b1 b2
      · exact go.elim
/-- is_right(each, value[:index]), told by what the lambda tells -/
def holeC (g : List Sl → Out (R × List Sl)) (n : Nat) : Cal := ⟨"is_right", none, n, [], g⟩
def holeA : E := .cons (.v 3) (.cons (.sl (.v 0) .nil (.pt (.v 2))) .nil)
def holeM (cf : Cfg) (f : Addr) (g : List Sl → Out (R × List Sl)) : M R := fun ρ => match (ρ[1]? : Option Sl) with
  | some (.st (.fn a)) => if a = f then callM (holeC g 2) (evA cf holeA) ρ else .stuck
  | _ => .stuck
theorem isHole_ok {e : Expr} (h : isHole e = true) : ∃ p1 p2 p3 p4 p5 p6 p7, e = .Call (.Name "is_right" p1) [.Name "each" p2, .Subscript (.Name "value" p3) (.Slice none (some (.Name "index" p4)) none p5) p6] [] p7 := by
  unfold isHole at h
  split at h
  · obtain ⟨h1, h2⟩ := and2 h
    obtain ⟨h2, h3⟩ := and2 h2
    obtain ⟨h3, h4⟩ := and2 h3
    have h1 := of_decide_eq_true h1
    have h2 := of_decide_eq_true h2
    have h3 := of_decide_eq_true h3
    have h4 := of_decide_eq_true h4
    subst h1 h2 h3 h4
    exact ⟨_, _, _, _, _, _, _, rfl⟩
  · cases h
theorem hole_pe {N : List Str} {sc : Scope} {cf0 : Cfg} {qF : Str} {scF : Scope} {fF : Addr} {cdF : Value} {A : Around} {out : List Env} {s1 : Shared} {H1 : Hp} {q : Str} {params : Arguments} {body : Expr} {scope : Scope} {f c' : Addr} {N2 : List Str} {cf2 : Cfg} {el : E} {k : Nat}
    (o : XOk (cxOf (L2.CX P w) P w K mg base N qF scF fF cdF A out s1 H1 E0) N sc cf0) (io0 : cf0.io = none)
    (n1 : chkVar N sc 1 "is_right" = true) (n3 : chkVar N sc 3 "each" = true) (n0 : chkVar N sc 0 "value" = true) (n2 : chkVar N sc 2 "index" = true)
    (L : LamAt q params body scope f c' (frs out) H1 s1) (two : N2.length = 2)
    (sc2 : FnScope N2 N2 scope) (pl : plainC cf2 = true) (io2 : cf2.io = none) (ck : chkE N2 cf2 scope el body = true) (T : TabOk P w K mg base k cf2)
    (bd : ∀ (s : Shared) (pm cv ctv : Value) (us : List Value), us.length = N2.length → BindsTo s (PySem.W.kla_fn "<lambda>" q params body scope [] pm cv ctv) ⟨us, []⟩ (N2.zip us))
    (rm : Room (k + 1) (A.deeper (envOfC qF scF s1.heap.objs.size fF cdF))) (gd : A.guards = some []) (e : Expr) (he : isHole e = true) :
    PE (cxOf (L2.CX P w) P w K mg base N qF scF fF cdF A out s1 H1 E0) e (tR K none (holeM cf0 f (fnL cf2 el))) := by
  obtain ⟨p1, p2, p3, p4, p5, p6, p7, rfl⟩ := isHole_ok he
  have args : PA (cxOf (L2.CX P w) P w K mg base N qF scF fF cdF A out s1 H1 E0) [.Name "each" p2, .Subscript (.Name "value" p3) (.Slice none (some (.Name "index" p4)) none p5) p6] (tAr K none (evA cf0 holeA)) := by
    have r := (sound (N := N) (cf := cf0) holeA).2.1 _ sc o [.Name "each" p2, .Subscript (.Name "value" p3) (.Slice none (some (.Name "index" p4)) none p5) p6] (by
      show (chkVar N sc 3 "each" && ((chkVar N sc 0 "value" && (true && chkVar N sc 2 "index")) && true)) = true
      rw [n3, n0, n2]; rfl)
    rw [io0] at r
    exact r
  have var : PE (cxOf (L2.CX P w) P w K mg base N qF scF fF cdF A out s1 H1 E0) (.Name "is_right" p1) (tVar 1) := o.var n1
  refine ⟨fun pins s σ H Q I h => ?_⟩
  obtain ⟨Γ, rfl, hL, S, ρ, st, go⟩ := h
  unfold holeM at go
  split at go
  · rename_i a e1
    split at go
    · rename_i ea
      subst ea
      obtain ⟨v, e2, e3⟩ := st.sd 1 _ e1
      unfold Rep at e3
      subst e3
      have tc := tR_call (K := Γ.K) (io := none) (c := holeC (fnL cf2 el) 2) (ma := evA cf0 holeA) (dvs := []) (fun ρ x hx => by
        have := evA_len (cf := cf0) holeA hx
        rw [this]; rfl) rfl ⟨Γ, rfl, hL, S, ρ, st, go⟩
      refine wpAny_Call_Name_kw (thn (var.run pins s σ H (fun v H2 => v = .ref a ∧ H2 = H) I ⟨.ref a, e2, rfl, rfl⟩) fun u s2 ⟨v, H2, I2, r2, q2⟩ => ?_)
      obtain ⟨ev, eH⟩ := q2
      subst ev
      subst eH
      obtain rfl : u = Value.ref a := r2
      have f2 := (L.later I2.base I2.hok).1
      obtain ⟨pm2, ctv2, g2⟩ := f2
      refine PySem.W.callWith_F ⟨_, _, _, _, g2⟩ (thn (args.run p7 pins s2 σ _ _ I2 tc) ?_) rfl rfl
      rintro us s3 ⟨vs, H3, I3, r3, q3⟩
      obtain ⟨fo3, co3⟩ := L.later I3.base I3.hok
      obtain ⟨pm3, ctv3, g3⟩ := id fo3
      refine ⟨⟨_, _, _, _, g3⟩, ?_⟩
      have q3 : spF Γ.K none 2 (fnL cf2 el) (vs ++ []) H3 Q E0 := q3
      rw [List.append_nil] at q3
      refine wpAny_call (codeAny_mono (lam_run sc2 pl io2 ck T bd rm gd I3.env0 fo3 co3 r3 (two ▸ q3)) fun r s4 hq => ?_)
      cases r with
      | error e =>
        have hq : L2.CX P w _ H3 s3 E0 e s4 := hq
        obtain ⟨_, _, _, _, _, _, _, _, _, _, _, _, z⟩ := hq
        exact z.elim
      | ok fl =>
        cases fl with
        | ret u => exact I3.after hq
        | next => cases hq
        | brk => cases hq
        | cont => cases hq
    · exact go.elim
  · exact go.elim
end
end Tp
set_option Elab.async false
set_option linter.all false
set_option maxRecDepth 100000
set_option maxHeartbeats 4000000
namespace Tp
open PySem PySem.Spec PyProof.Rows L2
open Evl (Ex)
/-! ### first_wrong(value, a lambda) -/
def cf0 : Cfg := { io := none, C := [], KC := [], G := [], bis := [], tys := [], its := true }
def cfF (f : Addr) (g : List Sl → Out (R × List Sl)) : Cfg := { io := none, C := [], KC := [], G := [], bis := [], tys := [], its := true, hole := some (holeM cf0 f g) }
def NF : List Str := ["value", "is_right", "index", "each"]
def irF : Tp.S := .fr (.tup (.cons (.ns 2) (.cons (.ns 3) .nil))) (.enm (.cons (.v 0) .nil)) (.ife (.not (.tr .hole)) (.ret (.v 2) .nx) .nx .nx) (.ret (.k .non) .nx)
/-! how it runs -/
section
variable {f : Addr} {g : List Sl → Out (R × List Sl)} {all : List D}
theorem hole_run {i : Nat} {d : D} : holeM cf0 f g [.st (.tup all), .st (.fn f), .st (.int (i : Nat)), .st d] = (g [.st d, .st (.tup (cutL all none (some (i : Int))))]).bind fun y => if noVw y.1 = true then .ok (y.1, [.st (.tup all), .st (.fn f), .st (.int (i : Nat)), .st d]) else .stuck := by
  show (if f = f then callM (holeC g 2) (evA cf0 holeA) [.st (.tup all), .st (.fn f), .st (.int (i : Nat)), .st d] else .stuck) = _
  rw [if_pos rfl]
  rfl
def bodyF (f : Addr) (g : List Sl → Out (R × List Sl)) : SM := evS (cfF f g) (.ife (.not (.tr .hole)) (.ret (.v 2) .nx) .nx .nx)
theorem body_run {i : Nat} {d : D} {b : Bool} {o : List Sl} (h : g [.st d, .st (.tup (cutL all none (some (i : Int))))] = .ok (.d (.bl b), o)) : bodyF f g [.st (.tup all), .st (.fn f), .st (.int (i : Nat)), .st d] = if b = true then .ok (.nx [.st (.tup all), .st (.fn f), .st (.int (i : Nat)), .st d]) else .ok (.rt (.d (.int (i : Nat))) [.st (.tup all), .st (.fn f), .st (.int (i : Nat)), .st d]) := by
  have e : holeM cf0 f g [.st (.tup all), .st (.fn f), .st (.int (i : Nat)), .st d] = .ok (.d (.bl b), [.st (.tup all), .st (.fn f), .st (.int (i : Nat)), .st d]) := by
    rw [hole_run, h]; rfl
  show ((notB (truM (holeM cf0 f g)) [.st (.tup all), .st (.fn f), .st (.int (i : Nat)), .st d]).bind fun x => if x.1 = true then evS (cfF f g) (.ret (.v 2) .nx) x.2 else evS (cfF f g) .nx x.2).bind (fun fl => match fl with
    | .nx ρ' => evS (cfF f g) .nx ρ'
    | fl => .ok fl) = _
  have e2 : notB (truM (holeM cf0 f g)) [.st (.tup all), .st (.fn f), .st (.int (i : Nat)), .st d] = .ok (!b, [.st (.tup all), .st (.fn f), .st (.int (i : Nat)), .st d]) := by
    show ((truM (holeM cf0 f g) [.st (.tup all), .st (.fn f), .st (.int (i : Nat)), .st d]).bind _) = _
    have e3 : truM (holeM cf0 f g) [.st (.tup all), .st (.fn f), .st (.int (i : Nat)), .st d] = .ok (b, [.st (.tup all), .st (.fn f), .st (.int (i : Nat)), .st d]) := by
      show ((holeM cf0 f g [.st (.tup all), .st (.fn f), .st (.int (i : Nat)), .st d]).bind _) = _
      rw [e]; rfl
    rw [e3]; rfl
  rw [e2]
  cases b <;> rfl
theorem loop_run : ∀ (ds : List D) (i : Nat) (x y : Sl) (r : D), fwF g all ds i = .ok r → ∃ ρ, (forF (gTupM [gNs 2, gNs 3]) (bodyF f g) (enumL i ds) [.st (.tup all), .st (.fn f), x, y] = .ok (.rt (.d r) ρ) ∨ (r = .non ∧ forF (gTupM [gNs 2, gNs 3]) (bodyF f g) (enumL i ds) [.st (.tup all), .st (.fn f), x, y] = .ok (.nx ρ))) ∧ ρ.length = 4
  | [], i, x, y, r, h => by
    cases h
    exact ⟨_, .inr ⟨rfl, rfl⟩, rfl⟩
  | d :: ds, i, x, y, r, h => by
    unfold fwF at h
    cases e : g [.st d, .st (.tup (cutL all none (some (i : Int))))] with
    | err c p => rw [e] at h; cases h
    | stuck => rw [e] at h; cases h
    | ok z =>
      obtain ⟨z1, o⟩ := z
      rw [e] at h
      have h : (match z1 with
        | .d (.bl b) => if b = true then fwF g all ds (i + 1) else .ok (.int (i : Nat))
        | _ => .stuck) = .ok r := h
      split at h
      · rename_i b h0
        have br := body_run (f := f) e
        have step : forF (gTupM [gNs 2, gNs 3]) (bodyF f g) (enumL i (d :: ds)) [.st (.tup all), .st (.fn f), x, y] = (bodyF f g [.st (.tup all), .st (.fn f), .st (.int (i : Nat)), .st d]).bind fun fl => match fl with
          | .nx ρ' => forF (gTupM [gNs 2, gNs 3]) (bodyF f g) (enumL (i + 1) ds) ρ'
          | .ct ρ' => forF (gTupM [gNs 2, gNs 3]) (bodyF f g) (enumL (i + 1) ds) ρ'
          | .bk ρ' => .ok (.nx ρ')
          | .rt r ρ' => .ok (.rt r ρ') := rfl
        rw [step, br]
        by_cases hb : b = true
        · rw [if_pos hb] at h ⊢
          exact loop_run ds (i + 1) _ _ r h
        · rw [if_neg hb] at h ⊢
          cases h
          exact ⟨_, .inl rfl, rfl⟩
      · cases h
theorem first_run {r : D} (h : fwF g all all 0 = .ok r) : fnS (cfF f g) 4 irF [.st (.tup all), .st (.fn f)] = .ok (.d r, [.un, .un]) := by
  obtain ⟨ρ, e, l⟩ := loop_run (f := f) all 0 .un .un r h
  show ((forF (gTupM [gNs 2, gNs 3]) (bodyF f g) (enumL 0 all) [.st (.tup all), .st (.fn f), .un, .un]).bind fun fl => match fl with
    | .nx ρ' => evS (cfF f g) (.ret (.k .non) .nx) ρ'
    | fl => .ok fl).bind (finS none 2) = _
  rcases e with e | ⟨rfl, e⟩
  · rw [e]; rfl
  · rw [e]; rfl
end
/-- the caller behind a call that lent nothing -/
theorem StOk.over {Γ : Gr} {S1 H1 H2 S3 H3 : Hp} {σ σ' : L2.St} {ρ ρ' : List Sl} (st : StOk Γ S1 H1 σ ρ) (g : ∀ b o, H1 b = some o → ∃ u, H2 b = some u ∧ Kp o u) (st2 : StOk ⟨Γ.K, [], S1, H2⟩ S3 H3 σ' ρ') : StOk Γ S3 H3 σ ρ := by
  have nh : ∀ q, ¬ (Gr.mk Γ.K [] S1 H2).has q := fun q ⟨i, z⟩ => by cases z
  have up : ∀ b o, H1 b = some o → ∃ u, H3 b = some u ∧ Kp o u := by
    intro b o e
    obtain ⟨u, e1, k1⟩ := g b o e
    obtain ⟨u2, e2, k2⟩ := st2.old.ex b u (nh b) e1
    exact ⟨u2, e2, k1.trans k2⟩
  have same : ∀ b, H1 b ≠ none → S3 b = S1 b := by
    intro b n
    refine st2.nw b (nh b) ?_
    show H2 b ≠ none
    cases e : H1 b with
    | none => exact absurd e n
    | some o => obtain ⟨u, e1, _⟩ := g b o e; rw [e1]; simp
  refine ⟨⟨fun q o b e => ?_, st2.old.tb, st2.old.nt⟩, st.st.trans st2.st, fun q b e => ?_, st2.le, fun q b => ?_, fun q b => ?_, st.len, fun i d e => ?_, fun i sh xs e => ?_, st.ne, st.io, st.io1⟩
  · obtain ⟨u, e1, k1⟩ := st.old.ex q o b e
    obtain ⟨u2, e2, k2⟩ := up q u e1
    exact ⟨u2, e2, k1.trans k2⟩
  · have n : H1 q ≠ none := by
      cases e1 : Γ.H0 q with
      | none => exact absurd e1 e
      | some o => obtain ⟨u, e2, _⟩ := st.old.ex q o b e1; rw [e2]; simp
    exact (same q n).trans (st.nw q b e)
  · exact (same q (st.al q b)).trans (st.bb q b)
  · cases e1 : H1 q with
    | none => exact absurd e1 (st.al q b)
    | some o => obtain ⟨u, e2, _⟩ := up q o e1; rw [e2]; simp
  · obtain ⟨v, a, b⟩ := st.sd i d e
    exact ⟨v, a, b.mono st2.st⟩
  · obtain ⟨p, vs, e1, e2, e3, e4, e5, e6⟩ := st.so i sh xs e
    refine ⟨p, vs, e1, (same p (by rw [e3]; simp)).trans e2, ?_, e4.mono st2.st, e5, e6⟩
    obtain ⟨u, y1, y2⟩ := up p _ e3
    rw [y1, y2.eq hoOf_tbl]
/-! ### the call -/
def fnScB (N : List Str) (sc : Scope) : Bool := decide (sc.kind = .function) && (!sc.isCoroutine && (!sc.isGenerator && (decide N.Nodup && (N.all (fun x => decide (sc.names.lookup x = some .local) || decide (sc.names.lookup x = some .cell)) && sc.names.all (fun y => !decide (y.2 = .free))))))
theorem fnScB_ok {N : List Str} {sc : Scope} (h : fnScB N sc = true) : FnScope N N sc := by
  unfold fnScB at h
  simp only [Bool.and_eq_true, Bool.not_eq_true', decide_eq_true_eq, List.all_eq_true, Bool.or_eq_true, decide_eq_false_iff_not] at h
  obtain ⟨h1, h2, h3, h4, h5, h6⟩ := h
  exact ⟨h1, h2, h3, h4, List.take_length, h5, h6⟩
def lamChk (N2 : List Str) (cf2 : Cfg) (el : E) : Expr → Bool
  | .Lambda ⟨[], [a1, a2], none, [], [], none, []⟩ body scope _ => decide ([a1.arg, a2.arg] = N2) && (fnScB N2 scope && chkE N2 cf2 scope el body)
  | _ => false
theorem lamChk_ok {N2 : List Str} {cf2 : Cfg} {el : E} {l : Expr} (h : lamChk N2 cf2 el l = true) : ∃ a1 a2 body scope pos, l = .Lambda ⟨[], [a1, a2], none, [], [], none, []⟩ body scope pos ∧ [a1.arg, a2.arg] = N2 ∧ FnScope N2 N2 scope ∧ chkE N2 cf2 scope el body = true := by
  unfold lamChk at h
  split at h
  · obtain ⟨h1, h2⟩ := and2 h
    obtain ⟨h2, h3⟩ := and2 h2
    exact ⟨_, _, _, _, _, rfl, of_decide_eq_true h1, fnScB_ok h2, h3⟩
  · cases h
theorem cloFrom_no {cells : List (Str × Addr)} {names : List (Str × NameKind)} (h : ∀ y ∈ names, y.2 ≠ .free) : cloFrom cells names [] = [] := by
  apply List.eq_nil_iff_forall_not_mem.mpr
  rintro ⟨y, c⟩ hy
  rcases cloFrom_mem hy with z | ⟨z, _⟩
  · cases z
  · exact h _ z rfl
section
variable {P : Program} {w : World} {K : PySem.W.Frag} {mg : Str → Option Value} {base : Heap}
/-- a def, called at one state -/
theorem fn_at {k : Nat} {f : Addr} {fd : FuncData} {x qual : Str} {st : Stmt} {N ps : List Str} (F : FunA K x qual st f fd) (S : FnScope N ps (defScope st)) {A : Around} {out : List Env} {s : Shared} {H : Hp} {ar : Args} {us : List Value} {vs : List V} {Q : VK}
    (rm : Room (k + 1) A) (he : Env0 P w K mg base A out s H) (hb : BindsTo s fd ar (ps.zip us)) (hv : Vals vs us) (len : vs.length = ps.length)
    (hbody : ∀ cdv : Value, Room k (A.deeper (envOfC qual (defScope st) s.heap.objs.size f cdv)) → ∃ t, PSs (cxOf (L2.CX P w) P w K mg base N qual (defScope st) f cdv A out s H E0) (defBody st) t ∧ t { nx := fun _ H' => Q .non H', rt := Q } (L2.start N vs) H) :
    codeAny (model P w) A (.call (.ref f) ar) (CR (L2.CX P w) out P w H s Q E0) s := by
  have sp : Sp := fun vs' H' Q' E' => True
  obtain ⟨oc, od, dV, kV, doc, pm, an, cdv, ct, osl, rfl, lk, hcd⟩ := F.ex
  have KX : K.In s.heap := he.mod.kin.keeps fun b o e => (he.bs b o e).1
  have lim : s.heap.NoLimit := he.mod.nolimit.keeps fun b o e => (he.bs b o e).1
  have kinds : ∀ y ∈ ps.zip us, (defScope st).names.lookup y.1 = some .local ∨ ((defScope st).names.lookup y.1 = some .cell ∧ ((cellsFrom (s.heap.objs.size + 1) (defScope st).names []).lookup y.1).isSome = true) := by
    rintro ⟨n, v⟩ hy
    rcases S.par n (List.of_mem_zip hy).1 with z | z
    · exact .inl z
    · exact .inr ⟨z, PySem.W.cellsFrom_some _ _ _ (.inl z)⟩
  apply codeAny_call_function rm.depth (KX _ _ lk) rfl S.co S.gen rfl (PySem.W.codeRec_of KX hcd)
  apply hb
  apply wpAny_newFunctionEnv_cells S.kind kinds
  intro env henv s1 x
  subst henv
  refine ⟨lim.keeps x.toInCall.keep, codeAny_func ?_⟩
  obtain ⟨t, ht, hq⟩ := hbody cdv (rm.deeper _)
  have J : L2.Inv (cxOf (L2.CX P w) P w K mg base N qual (defScope st) f cdv A out s H E0) [] (L2.start N vs) H s1 := inv_start S rm.hd he len hv x
  have done : ∀ {σ2 : L2.St} {H2 : Hp} {v : V} {u : Value} {s2 : Shared}, L2.Inv (cxOf (L2.CX P w) P w K mg base N qual (defScope st) f cdv A out s H E0) [] σ2 H2 s2 → RelV v u → Q v H2 → CE out P w H s Q u s2 := by
    intro σ2 H2 v u s2 J2 r2 q2
    exact ⟨v, H2, J2.os, J2.bare, J2.base, J2.hok, r2, q2⟩
  refine wpAny_mono (ht.run [] s1 (L2.start N vs) H _ J hq) ?_ (fun e s2 z => z)
  intro fl s2 z
  cases fl with
  | ret u => obtain ⟨v, σ2, H2, J2, r2, q2⟩ := z; exact done J2 r2 q2
  | next => obtain ⟨σ2, H2, J2, q2⟩ := z; exact done (v := V.non) (u := Value.none) J2 rfl q2
  | brk => obtain ⟨_, _, _, q2⟩ := z; exact q2.elim
  | cont => obtain ⟨_, _, _, q2⟩ := z; exact q2.elim
end
/-- what is known of first_wrong -/
structure FirstOk (K : PySem.W.Frag) (mg : Str → Option Value) (stF : Stmt) (g : Addr) (fdF : FuncData) : Prop where
  fn : FunA K "first_wrong" "first_wrong" stF g fdF
  at_ : mg "first_wrong" = some (.ref g)
  kp : PySem.W.keepIn K (.ref g) = true
  bd : ∀ (s : Shared) (us : List Value), us.length = 2 → BindsTo s fdF ⟨us, []⟩ ((["value", "is_right"] : List Str).zip us)
  sc : FnScope NF ["value", "is_right"] (defScope stF)
  ck : ∀ f gg, chkS NF (cfF f gg) (defScope stF) irF (defBody stF) = true
  its : mg "range" = none ∧ mg "enumerate" = none ∧ mg "zip" = none
  v0 : chkVar NF (defScope stF) 0 "value" = true
  v1 : chkVar NF (defScope stF) 1 "is_right" = true
  v2 : chkVar NF (defScope stF) 2 "index" = true
  v3 : chkVar NF (defScope stF) 3 "each" = true
/-- what is known of a def that makes a lambda: its code object and table -/
structure MakerOk (K : PySem.W.Frag) (mg : Str → Option Value) (base : Heap) (xW : Str) (c P : Addr) : Prop where
  tb : LamX.TabB base mg c P
  mem : (P, lamName xW) ∈ lamTabs K
  un : ∀ p ∈ lamTabs K, p.1 = P → p.2 = lamName xW
theorem fw_pe {X : Cx} {io : Option Nat} {c P g : Addr} {fdF : FuncData} {stF : Stmt} {k : Nat} {xW : Str} {N2 : List Str} {cf2 : Cfg} {el : E}
    (cm : X.calm = true) (gd : X.A.guards = some []) (rm : Room (k + 2) X.A) (W : MakerOk X.K X.mg X.base xW c P) (hcode : X.env.code = .ref c) (hn : X.env.qual ++ "<lambda>" = lamName xW) (FG : FirstOk X.K X.mg stF g fdF) (hg : Gl X "first_wrong")
    (T2 : TabOk X.prog X.w X.K X.mg X.base k cf2) (pl2 : plainC cf2 = true) (io2 : cf2.io = none) (two : N2.length = 2)
    (bdL : ∀ a1 a2 : Arg, [a1.arg, a2.arg] = N2 → ∀ (q : Str) (body : Expr) (scope : Scope) (pm cv ctv : Value) (us : List Value), us.length = N2.length → bindArgs (PySem.W.kla_fn "<lambda>" q ⟨[], [a1, a2], none, [], [], none, []⟩ body scope [] pm cv ctv) ⟨us, []⟩ = pure (N2.zip us))
    (x l : Expr) (p q : Pos) (m : M R) (ck : lamChk N2 cf2 el l = true) (plx : plainE x = true) (hx : PE X x (tR X.K io m)) : PE X (.Call (.Name "first_wrong" p) [x, l] [] q) (tR X.K io (fwM (fnL cf2 el) m)) := by
  obtain ⟨a1, a2, body, scope, lpos, rfl, nms, sc2, ck2⟩ := lamChk_ok ck
  refine ⟨fun pins s σ H Q I h => ?_⟩
  obtain ⟨⟨ΓK, ΓB, ΓS, ΓH⟩, hK, hL, S, ρ, st, q0⟩ := h
  obtain rfl : ΓK = X.K := hK
  obtain ⟨y, e1, q1⟩ := goR_bind q0
  apply wpAny_Call_Name_kw
  apply ld_glob I hg FG.at_ (hd := by decide)
  refine PySem.W.callWith_K (h₀ := X.base) I.ok.mod.kin FG.kp ?_ (star_plain plx) rfl
  rw [star_plain plx]
  show wpAny _ _ (spliced ((false, eval x X.env) :: (false, eval (.Lambda ⟨[], [a1, a2], none, [], [], none, []⟩ body scope lpos) X.env) :: [])) _ _ s
  refine Calls.spliced_cons (thn (hx.run pins s σ H (fun v H1 => ∃ S1, Ex S S1 ∧ StOk ⟨X.K, ΓB, ΓS, ΓH⟩ S1 H1 σ y.2 ∧ RepR ⟨X.K, ΓB, ΓS, ΓH⟩ S1 H1 σ y.2 y.1.hand v) I ⟨⟨X.K, ΓB, ΓS, ΓH⟩, rfl, hL, S, ρ, st, ?_⟩) ?_)
  · rw [e1]
    obtain ⟨r, ρ1⟩ := y
    intro v S1 H1 x1 st1 r1
    obtain ⟨S2, x2, st2, r2⟩ := r1.hand st1
    exact ⟨S2, x1.trans x2, st2, r2⟩
  · rintro u s1 ⟨v, H1, I1, ru, S1, x1, st1, rv⟩
    have q1 := q1
    split at q1
    · rename_i ds ey
      rw [ey] at rv
      have rv : Rep X.K S1 (.ob .tup ds) v := rv
      split at q1
      · obtain ⟨r, e3, q2⟩ := goR_bind q1
        refine Calls.spliced_cons (lam_makeF I1 W.tb hcode (hn ▸ W.mem) (hn ▸ W.un) (st1.old.tb) rfl (fun y hy e => absurd e (sc2.nofree y hy)) fun f c' H2 s2 I2 T2' M => ?_)
        refine Calls.spliced_nil ⟨I2.kIn, ?_⟩
        have nh : ∀ z, ¬ (Gr.mk X.K [] S1 H2).has z := fun z ⟨i, w⟩ => by cases w
        obtain ⟨pm, ctv, fo⟩ := M.fn
        rw [cloFrom_no sc2.nofree] at fo
        have L : LamAt (X.env.qual ++ "<lambda>") ⟨[], [a1, a2], none, [], [], none, []⟩ body scope f c' (frs X.stack) H2 s2 := ⟨⟨pm, ctv, fo⟩, M.un, M.fr, M.co⟩
        have le2 : Ex S1 H2 := by
          intro b o e
          obtain ⟨u2, y1, y2⟩ := M.ex b o (st1.le b o e)
          rw [y1, y2.eq (fun ps z => st1.old.nt b ps (z ▸ e))]
        have stF0 : StOk ⟨X.K, [], S1, H2⟩ S1 H2 ([v, .ref f].map some) [.st (.ob .tup ds), .st (.fn f)] := by
          refine ⟨⟨fun z o _ e => ⟨o, e, Kp.refl o⟩, T2', st1.old.nt⟩, Ex.refl S1, fun _ _ _ => rfl, le2, fun z h => absurd h (nh z), fun z h => absurd h (nh z), rfl, ?_, ?_, ?_, ?_, ?_⟩
          · intro i d e
            cases i with
            | zero => cases e; exact ⟨v, rfl, rv⟩
            | succ i => cases i with
              | zero => cases e; exact ⟨.ref f, rfl, by unfold Rep; rfl⟩
              | succ i => simp at e
          · intro i sh xs e
            cases i with
            | zero => cases e
            | succ i => cases i with
              | zero => cases e
              | succ i => simp at e
          · intro i j z sh xs sh' xs' e
            cases i with
            | zero => cases e
            | succ i => cases i with
              | zero => cases e
              | succ i => simp at e
          · intro i z sh xs e
            cases e
          · intro i z sh xs e
            cases i with
            | zero => cases e
            | succ i => cases i with
              | zero => cases e
              | succ i => simp at e
        have RC : codeAny (model X.prog X.w) X.A (.call (.ref g) ⟨[u, .ref f], []⟩) (CR (L2.CX X.prog X.w) X.stack X.prog X.w H2 s2 Q E0) s2 := by
          refine fn_at (N := NF) (ps := ["value", "is_right"]) (us := [u, .ref f]) (vs := [v, .ref f]) (k := k + 1) FG.fn FG.sc rm I2.env0 (FG.bd s2 [u, .ref f] rfl) (.cons ru (.cons rfl .nil)) rfl fun cdv hr => ?_
          have o0 : XOk (cxOf (L2.CX X.prog X.w) X.prog X.w X.K X.mg X.base NF "first_wrong" (defScope stF) g cdv X.A X.stack s2 H2 E0) NF (defScope stF) cf0 :=
            { n := rfl, hs := rfl, nd := FG.sc.nd, kind := FG.sc.kind, calm := rfl, hu := room_hu hr, gd := gd
              cal := fun j c h => by simp [cf0] at h
              kcal := fun j c h => by simp [cf0] at h
              glb := fun j c h => by simp [cf0] at h
              bis := fun b hb => by cases hb
              tys := fun b hb => by cases hb
              its := fun _ => FG.its
              hol := fun m h => by cases h
              fwk := fun w h => by cases h }
          have o1 : XOk (cxOf (L2.CX X.prog X.w) X.prog X.w X.K X.mg X.base NF "first_wrong" (defScope stF) g cdv X.A X.stack s2 H2 E0) NF (defScope stF) (cfF f (fnL cf2 el)) :=
            { n := rfl, hs := rfl, nd := FG.sc.nd, kind := FG.sc.kind, calm := rfl, hu := room_hu hr, gd := gd
              cal := fun j c h => by simp [cfF] at h
              kcal := fun j c h => by simp [cfF] at h
              glb := fun j c h => by simp [cfF] at h
              bis := fun b hb => by cases hb
              tys := fun b hb => by cases hb
              its := fun _ => FG.its
              hol := fun m h e he => by
                cases h
                exact hole_pe o0 rfl FG.v1 FG.v3 FG.v0 FG.v2 L two sc2 pl2 io2 ck2 T2 (fun s pm cv ctv us hl => .of_eq (bdL a1 a2 nms _ body scope pm cv ctv us hl)) hr gd e he
              fwk := fun w h => by cases h }
          refine ⟨_, soundS irF _ _ o1 rfl (passes_of rfl) _ (FG.ck f (fnL cf2 el)), ?_⟩
          refine start_ok (cf := cfF f (fnL cf2 el)) (n := 2) (N := NF) (K := X.K) (vs := [v, .ref f]) (S := S1) (H := H2) (as := [.st (.ob .tup ds), .st (.fn f)]) rfl (show StOk ⟨X.K, ioB (cfF f (fnL cf2 el)).io [v, .ref f], S1, H2⟩ S1 H2 _ _ from stF0) ?_
          show goF ⟨X.K, [], S1, H2⟩ [v, .ref f] Q (fnS (cfF f (fnL cf2 el)) 4 irF [.st (.ob .tup ds), .st (.fn f)])
          rw [first_run e3]
          intro v3 S3 H3 st3 r3
          have st4 := st1.over M.ex (st3)
          have st3s : Ex S1 S3 := st3.st
          exact q2 v3 S3 H3 (x1.trans st3s) st4 (r3)
        refine wpAny_call (codeAny_mono RC fun r s3 hq => ?_)
        cases r with
        | error e =>
          have hq : L2.CX X.prog X.w _ H2 s2 E0 e s3 := hq
          obtain ⟨_, _, _, _, _, _, _, _, _, _, _, _, z⟩ := hq
          exact z.elim
        | ok fl =>
          cases fl with
          | ret u => exact I2.after hq
          | next => cases hq
          | brk => cases hq
          | cont => cases hq
      · exact q1.elim
    · exact q1.elim
end Tp
set_option Elab.async false
set_option linter.all false
set_option maxRecDepth 100000
set_option maxHeartbeats 4000000
namespace Tp
open PySem PySem.Spec PyProof.Rows L2
open Evl (Ex)
/-! ### the law's end -/
/-- the defs named LN, with their code objects and tables -/
def csOf (LN : List Str) (K : PySem.W.Frag) : List (Str × Addr × Addr) := LN.filterMap fun x => (PySem.W.tabIn K x).map fun cp => (x, cp)
theorem csOf_mem {LN : List Str} {K : PySem.W.Frag} {t : Str × Addr × Addr} (h : t ∈ csOf LN K) : t.1 ∈ LN ∧ PySem.W.tabIn K t.1 = some t.2 := by
  unfold csOf at h
  obtain ⟨x, hx, e⟩ := List.mem_filterMap.mp h
  cases z : PySem.W.tabIn K x with
  | none => rw [z] at e; cases e
  | some cp => rw [z] at e; cases e; exact ⟨hx, z⟩
/-- what the law's start knows of the tables: all that lamTabs tells are there, none in K -/
structure TabsIn (LN : List Str) (K : PySem.W.Frag) : Prop where
  all : lamTabs K = (csOf LN K).map fun t => (t.2.2, lamName t.1)
  out : (csOf LN K).all (fun t => (K.lookup t.2.2).isNone) = true
def TabsB (LN : List Str) (K : PySem.W.Frag) (mg : Str → Option Value) (b : Heap) : Prop := ∀ t ∈ csOf LN K, LamX.TabB b mg t.2.1 t.2.2
/-- G tells the script, and tables that are empty -/
def OnlyT (ts : List Addr) (G : Hp) : Prop := ∀ b, G b = none ∨ (b ∈ ts ∧ G b = some (.tbl #[])) ∨ ∃ o xs, G b = some (.frz o (.lst xs))
/-- what a law's def must answer -/
def LawSp (LN : List Str) (K : PySem.W.Frag) (n : Nat) (sp : Sp) : Prop := ∀ (G : Hp) (q : Addr) (zs : List Int), zs.length ≤ n → TabsF (lamTabs K) G → SqL K G q (zs.map V.int) → sp [.ref q] G (fun r _ => r = .bl true) E0
section
variable {P : Program} {w : World} {K : PySem.W.Frag} {mg mb : Str → Option Value} {LN : List Str}
abbrev tsOf (LN : List Str) (K : PySem.W.Frag) : List Addr := (csOf LN K).map fun t => t.2.2
/-- the law called at the heap behind the top -/
theorem law_at {k : Nat} {fa q : Addr} {fd : FuncData} {x : Str} {sp : Sp} {t : Shared} {us : List Value} {G : Hp}
    (kin : K.In t.heap) (nsg : t.heap.Ns mainGlobals mg) (nsb : t.heap.Ns builtinsNs mb) (bo : ∀ y : Str, y ≠ "__name__" → mb y = bootBuiltins y) (nol : t.heap.NoLimit) (gn : t.gens = #[])
    (emp : ∀ a ∈ tsOf LN K, t.heap.get? a = some { cls := .none, data := .fields #[] }) (nk : ∀ a ∈ tsOf LN K, K.lookup a = none) (cod : ∀ c ∈ csOf LN K, PySem.W.CodeHd t.heap c.2.1 c.2.2)
    (bmod : ∃ (bm : Addr) (ob : Obj), mg "__builtins__" = some (.ref bm) ∧ bm ≠ builtinsNs ∧ t.heap.get? bm = some ob ∧ ob.cls = .type "module" ∧ ob.dict = some builtinsNs ∧ ob.data = .plain)
    (hq : t.heap.get? q = some { cls := .type "list", data := .seq us.toArray }) (rm : Room k callerA)
    (pr : ∀ b : Heap, K.In b → b.Ns mainGlobals mg → TabsB LN K mg b → FnG P w K mg b k fa fd [x] sp) (bd : ∀ (s : Shared) (u : Value), BindsTo s fd ⟨[u], []⟩ [(x, u)])
    (hs : sp [.ref q] G (fun r _ => r = .bl true) E0) (on : OnlyT (tsOf LN K) G) (ok : HOk P w G t.heap) (at_ : ∀ b, G b ≠ none → b = q ∨ b ∈ tsOf LN K) (tb : ∀ a ∈ tsOf LN K, G a = some (.tbl #[])) (out : G q ≠ none → K.lookup q = none) :
    codeAny (model P w) callerA (.call (.ref fa) ⟨[.ref q], []⟩) (fun r t' => r = .ok (.ret (.bool true)) ∧ OldK t.heap t'.heap ∧ t'.os = t.os ∧ AllBare t'.gens) t := by
  -- what G does not tell is in the heap without G
  have seen : ∀ {b : Addr} {o : Obj}, t.heap.get? b = some o → G b = none → (hidT t.heap G).get? b = some o := fun e n => hidT_get e n
  have free : ∀ {b : Addr} {o : Obj}, t.heap.get? b = some o → (∀ vs n, o.data ≠ .seq vs n) → o.data ≠ .fields #[] → G b = none := by
    intro b o e h1 h2
    cases z : G b with
    | none => rfl
    | some u =>
      rcases at_ b (by rw [z]; intro y; cases y) with y | y
      · subst y
        rw [hq] at e
        cases e
        exact absurd rfl (h1 us.toArray _)
      · rw [emp b y] at e
        cases e
        exact absurd rfl h2
  have kin' : K.In (hidT t.heap G) := by
    intro b o e
    refine seen (kin b o e) ?_
    cases z : G b with
    | none => rfl
    | some u =>
      have nn : G b ≠ none := by rw [z]; intro y; cases y
      rcases at_ b nn with y | y
      · subst y
        rw [out nn] at e
        cases e
      · rw [nk b y] at e
        cases e
  have nsk : ∀ {b : Addr} {m : Str → Option Value}, t.heap.Ns b m → (hidT t.heap G).Ns b m := by
    rintro b m ⟨o, es, ep, e, d, r⟩
    refine ⟨o, es, ep, seen e (free e (fun vs n z => by rw [d] at z; cases z) (fun z => by rw [d] at z; cases z)), d, r⟩
  have nsg0 := nsg
  obtain ⟨mc, lim1, lim2⟩ := nol
  have tbb : TabsB LN K mg (hidT t.heap G) := by
    intro c hc
    have ha : c.2.2 ∈ tsOf LN K := List.mem_map.mpr ⟨c, hc, rfl⟩
    refine ⟨?_, ?_, fun z => ?_⟩
    · obtain ⟨o, us', f1, f2, f3, f4, f5, f6, f7, e1, r1, r2, r3, r⟩ := cod c hc
      refine ⟨o, us', f1, f2, f3, f4, f5, f6, f7, seen e1 (free e1 (fun vs n z => by rw [r2] at z; cases z) (fun z => by rw [r2] at z; cases z; simp at r3)), r1, r2, r3, r⟩
    · obtain ⟨bm, ob, b1, b2, b3, b4, b5, b6⟩ := bmod
      have n1 : bm ≠ mainGlobals := by
        intro y
        obtain ⟨o, es, ep, e, d, _⟩ := nsg
        rw [y, e] at b3
        cases b3
        rw [d] at b6
        cases b6
      have n2 : bm ≠ c.2.2 := by
        intro y
        rw [y, emp _ ha] at b3
        cases b3
        cases b6
      exact ⟨bm, ob, b1, b2, n1, n2, seen b3 (free b3 (fun vs n z => by rw [b6] at z; cases z) (fun z => by rw [b6] at z; cases z)), b4, b5, b6⟩
    · obtain ⟨o, es, ep, e, d, _⟩ := nsg
      rw [z, emp _ ha] at e
      cases e
      cases d
  have md : Mod K mg (hidT t.heap G) := ⟨kin', nsk nsg, ⟨mb, nsk nsb, bo⟩, ⟨mc, nsk lim1, lim2⟩⟩
  have env : Env0 P w K mg (hidT t.heap G) callerA [] t G := ⟨rfl, md, fun _ _ e => of_hidT e, Nat.le_of_eq (hidT_size _ _), trivial, fun b hb => (by cases hb), ok, .of_eq gn⟩
  have go := (pr (hidT t.heap G) kin' (nsk nsg) tbb).goes callerA [] t G ⟨[.ref q], []⟩ [.ref q] [.ref q] (fun r _ => r = .bl true) E0 rm rfl env (bd t (.ref q)) (.cons rfl .nil) hs
  refine codeAny_mono go fun r t' h => ?_
  cases r with
  | error e =>
    have h : L2.CX P w [] G t E0 e t' := h
    obtain ⟨_, _, _, _, _, _, _, _, _, _, _, _, z⟩ := h
    exact z.elim
  | ok fl =>
    cases fl with
    | ret u =>
      obtain ⟨v, G', o1, o2, o3, o4, o5, o6⟩ := h
      have o6 : v = .bl true := o6
      subst o6
      have o5 : u = Value.bool true := o5
      subst o5
      have same : ∀ b o, b ∉ tsOf LN K → t.heap.get? b = some o → t'.heap.get? b = some o := by
        intro b o nb e
        cases z : G b with
        | none => exact o3.keep b o e z (fun y => by cases y) (by intro y; cases y)
        | some y =>
          rcases on b with e1 | ⟨e1, _⟩ | ⟨ob, xs, e1⟩
          · rw [z] at e1; cases e1
          · exact absurd e1 nb
          · have e2 := (ok b _ e1).1
            have e3 := (o4 b _ (o3.frzs b ob _ e1)).1
            rw [e] at e2
            cases e2
            exact e3
      have more : ∀ a ∈ tsOf LN K, ∃ ws : Array Value, t'.heap.get? a = some { cls := .none, data := .fields ws } := by
        intro a ha
        obtain ⟨ws, z⟩ := o3.tbls a #[] (tb a ha)
        exact ⟨_, o4 a _ z⟩
      refine ⟨rfl, ⟨fun b o e => ?_, fun b o e => ?_⟩, o1, o2⟩
      · by_cases hb : b ∈ tsOf LN K
        · obtain ⟨c, hc, rfl⟩ := List.mem_map.mp hb
          obtain ⟨ws, hm⟩ := more _ hb
          rw [emp _ hb] at e
          cases e
          exact .inr (.inl ⟨((cod c hc).tab (emp _ hb)).isCodeTable, rfl, #[], ws, rfl, by rw [Array.empty_append]; exact hm⟩)
        · exact .inl (same b o hb e)
      · by_cases hb : b ∈ tsOf LN K
        · obtain ⟨ws, hm⟩ := more b hb
          exact ⟨_, hm⟩
        · exact ⟨o, same b o hb e⟩
    | next => exact h.elim
    | brk => exact h.elim
    | cont => exact h.elim
theorem law_callG {k n : Nat} {fa q : Addr} {fd : FuncData} {x : Str} {sp : Sp} {t : Shared} {us : List Value} {zs : List Int}
    (kin : K.In t.heap) (nsg : t.heap.Ns mainGlobals mg) (nsb : t.heap.Ns builtinsNs mb) (bo : ∀ y : Str, y ≠ "__name__" → mb y = bootBuiltins y) (nol : t.heap.NoLimit) (gn : t.gens = #[])
    (tin : TabsIn LN K) (cod : ∀ c ∈ csOf LN K, PySem.W.CodeHd t.heap c.2.1 c.2.2 ∧ t.heap.get? c.2.2 = some { cls := .none, data := .fields #[] })
    (bmod : ∃ (bm : Addr) (ob : Obj), mg "__builtins__" = some (.ref bm) ∧ bm ≠ builtinsNs ∧ t.heap.get? bm = some ob ∧ ob.cls = .type "module" ∧ ob.dict = some builtinsNs ∧ ob.data = .plain)
    (hq : t.heap.get? q = some { cls := .type "list", data := .seq us.toArray }) (hin : IntsAre us zs) (few : zs.length ≤ n) (nn : n ≤ sizeLine) (rm : Room k callerA)
    (pr : ∀ b : Heap, K.In b → b.Ns mainGlobals mg → TabsB LN K mg b → FnG P w K mg b k fa fd [x] sp) (bd : ∀ (s : Shared) (u : Value), BindsTo s fd ⟨[u], []⟩ [(x, u)]) (hs : LawSp LN K n sp) :
    codeAny (model P w) callerA (.call (.ref fa) ⟨[.ref q], []⟩) (fun r t' => r = .ok (.ret (.bool true)) ∧ OldK t.heap t'.heap ∧ t'.os = t.os ∧ AllBare t'.gens) t := by
  have vi := vals_ints hin
  have il := hin.length
  have small : zs.length ≤ sizeLine := Nat.le_trans few nn
  have emp : ∀ a ∈ tsOf LN K, t.heap.get? a = some { cls := .none, data := .fields #[] } := by
    intro a ha
    obtain ⟨c, hc, rfl⟩ := List.mem_map.mp ha
    exact (cod c hc).2
  have nk : ∀ a ∈ tsOf LN K, K.lookup a = none := by
    intro a ha
    obtain ⟨c, hc, rfl⟩ := List.mem_map.mp ha
    exact Option.isNone_iff_eq_none.mp (List.all_eq_true.mp tin.out c hc)
  have qT : q ∉ tsOf LN K := by
    intro z
    have := emp q z
    rw [hq] at this
    cases this
  let lst : HO := .frz { cls := .type "list", data := .seq us.toArray } (.lst (zs.map V.int))
  have main : ∀ G : Hp, (∀ a ∈ tsOf LN K, G a = some (.tbl #[])) → (∀ b, b ≠ q → b ∉ tsOf LN K → G b = none) → (G q = none ∨ G q = some lst) → (G q ≠ none → K.lookup q = none) → SqL K G q (zs.map V.int) →
      codeAny (model P w) callerA (.call (.ref fa) ⟨[.ref q], []⟩) (fun r t' => r = .ok (.ret (.bool true)) ∧ OldK t.heap t'.heap ∧ t'.os = t.os ∧ AllBare t'.gens) t := by
    intro G tb no yes hk sq
    have at_ : ∀ b, G b ≠ none → b = q ∨ b ∈ tsOf LN K := by
      intro b h
      by_cases e : b = q
      · exact .inl e
      · by_cases e2 : b ∈ tsOf LN K
        · exact .inr e2
        · exact absurd (no b e e2) h
    have on : OnlyT (tsOf LN K) G := by
      intro b
      by_cases e : b = q
      · subst e
        rcases yes with y | y
        · exact .inl y
        · exact .inr (.inr ⟨_, _, y⟩)
      · by_cases e2 : b ∈ tsOf LN K
        · exact .inr (.inl ⟨e2, tb b e2⟩)
        · exact .inl (no b e e2)
    have ok : HOk P w G t.heap := by
      intro b u e
      by_cases e2 : b ∈ tsOf LN K
      · rw [tb b e2] at e
        cases e
        exact emp b e2
      · have eb : b = q := (at_ b (by rw [e]; intro z; cases z)).resolve_right e2
        subst eb
        rcases yes with y | y
        · rw [y] at e; cases e
        · rw [y] at e
          cases e
          exact ⟨hq, by rw [List.length_map]; exact small, us, _, vi, hq⟩
    have tbs : TabsF (lamTabs K) G := by
      intro p hp
      rw [tin.all] at hp
      obtain ⟨c, hc, rfl⟩ := List.mem_map.mp hp
      exact TabF.nil (tb _ (List.mem_map.mpr ⟨c, hc, rfl⟩))
    exact law_at (LN := LN) kin nsg nsb bo nol gn emp nk (fun c hc => (cod c hc).1) bmod hq rm pr bd (hs G q zs few tbs sq) on ok at_ tb hk
  by_cases hk : K.lookup q = none
  · refine main (fun b => if b = q then some lst else if b ∈ tsOf LN K then some (.tbl #[]) else none) (fun a ha => ?_) (fun b h1 h2 => ?_) (.inr (if_pos rfl)) (fun _ => hk) (.inl (.inr ⟨_, if_pos rfl⟩))
    · have : a ≠ q := fun z => qT (z ▸ ha)
      show (if a = q then some lst else if a ∈ tsOf LN K then some (.tbl #[]) else none) = _
      rw [if_neg this, if_pos ha]
    · show (if b = q then some lst else if b ∈ tsOf LN K then some (.tbl #[]) else none) = _
      rw [if_neg h1, if_neg h2]
  · obtain ⟨o, e⟩ := Option.ne_none_iff_exists'.mp hk
    have e1 := kin q o e
    rw [hq] at e1
    cases e1
    have no : (if q ∈ tsOf LN K then some (HO.tbl #[]) else none) = none := if_neg qT
    refine main (fun b => if b ∈ tsOf LN K then some (.tbl #[]) else none) (fun a ha => if_pos ha) (fun b h1 h2 => if_neg h2) (.inl no) (fun z => absurd no z) (.inr ⟨_, us.toArray, _, e, rfl, rfl, rfl, by rw [List.size_toArray, il]; exact small, by simpa using vi⟩)
end
/-- the goal behind the head, from the law's contract -/
theorem walk_G {l : PySem.W.OpenLaw} {n k : Nat} {p : Program} {loose : List Str} {XP : (Str → Option Value) → Heap → Prop} {YP : World → Heap → Prop} {d : DefRec} {KF : Params → PySem.W.Frag} {sp : World → Sp} {x : Str} (LN : List Str)
    (most : l.most = some n) (nn : n ≤ sizeLine) (df : d.params.defaults = []) (rm : Room k callerA) (inn : ∀ (w : World) (h : Heap), YP w h → (KF w.params).In h)
    (tin : ∀ w : World, TabsIn LN (KF w.params)) (recs : LN.all (fun x => ((recsOf p).find? (fun e => e.name == x)).isSome) = true)
    (pr : ∀ (w : World) (mg : Str → Option Value) (fa : Addr) (h : Heap), (KF w.params).In h → h.Ns mainGlobals mg → mg d.name = some (.ref fa) →
      ∃ fd : FuncData, (∀ (s : Shared) (u : Value), BindsTo s fd ⟨[u], []⟩ [(x, u)]) ∧ ∀ b : Heap, (KF w.params).In b → b.Ns mainGlobals mg → TabsB LN (KF w.params) mg b → FnG l.prog w (KF w.params) mg b k fa fd [x] (sp w))
    (hs : ∀ w : World, LawSp LN (KF w.params) n (sp w)) : PySem.W.WalkO p loose XP YP l.row.toRowW d [] (fun f vs => PySem.call f vs) := by
  refine Att.attach_call most df ?_
  intro w s₀ s₁ mg mb fa o pm cd doc a vs ns G Y ho hd hcd hmg hobj hints hlen hg
  obtain ⟨fd, bd, pr⟩ := pr w mg fa _ (inn w _ Y) G.T.g hmg
  refine law_callG (LN := LN) (inn w _ Y) G.T.g G.T.b G.T.builtins G.T.nolimit hg (tin w) (fun c hc => ?_) G.T.bmain hobj hints hlen nn rm pr bd (hs w)
  obtain ⟨h1, h2⟩ := csOf_mem hc
  obtain ⟨dr, hr⟩ := Option.isSome_iff_exists.mp (List.all_eq_true.mp recs _ h1)
  exact PySem.W.tab_of (c := c.2.1) (P := c.2.2) G.T (inn w _ Y) hr h2
/-- the law's contract, from what its inner form answers -/
theorem lawSp_S {LN : List Str} {K : PySem.W.Frag} {n m : Nat} {cf : Cfg} {ir : S} (io : cf.io = none) (h : ∀ zs : List Int, zs.length ≤ n → ∃ outs, fnS cf m ir [.st (.ob .fz (zs.map .int))] = .ok (.d (.bl true), outs)) : LawSp LN K n (spF K cf.io 1 (fnS cf m ir)) := by
  intro G q zs few tbs sq
  obtain ⟨outs, e⟩ := h zs few
  have hB : ioB cf.io [V.ref q] = [] := by rw [io]; rfl
  let S0 : Hp := fun b => match G b with
    | some (.tbl _) => none
    | o => o
  have sG : Ex S0 G := by
    intro b u z
    have z : (match G b with | some (.tbl _) => none | o => o) = some u := z
    split at z
    · cases z
    · exact z
  have keep : ∀ b u, G b = some u → (∀ ps, u ≠ .tbl ps) → S0 b = some u := by
    intro b u z no
    show (match G b with | some (.tbl _) => none | o => o) = some u
    split
    · rename_i ps y; rw [z] at y; exact absurd (Option.some.inj y) (no ps)
    · exact z
  have nt : ∀ b ps, S0 b ≠ some (.tbl ps) := by
    intro b ps z
    have z : (match G b with | some (.tbl _) => none | o => o) = some (.tbl ps) := z
    split at z
    · cases z
    · rename_i no
      exact no ps z
  have none_ : ∀ {y : Addr}, ¬ (Gr.mk K (ioB cf.io [V.ref q]) S0 G).has y := by
    rintro y ⟨i, z⟩
    have z : (i, y) ∈ ioB cf.io [V.ref q] := z
    rw [hB] at z
    cases z
  have sq0 : SqL K S0 q (zs.map V.int) := by
    rcases sq with sq | sq
    · left
      rcases sq with sq | ⟨o, sq⟩
      · exact .inl (keep _ _ sq (fun ps z => by cases z))
      · exact .inr ⟨o, keep _ _ sq (fun ps z => by cases z)⟩
    · exact .inr sq
  have rp : Rep K S0 (.ob .fz (zs.map .int)) (.ref q) := by
    unfold Rep
    refine ⟨q, zs.map V.int, rfl, sq0, ?_⟩
    clear sq sq0 few e
    induction zs with
    | nil => exact .nil
    | cons z zs ih => exact .cons (by unfold Rep; rfl) ih
  refine ⟨S0, [.st (.ob .fz (zs.map .int))], rfl, ⟨⟨fun _ o _ e => ⟨o, e, Kp.refl o⟩, tbs, nt⟩, Ex.refl S0, fun _ _ _ => rfl, sG, fun y h => absurd h none_, fun y h => absurd h none_, rfl, ?_, ?_, ?_, ?_, ?_⟩, ?_⟩
  · intro i d h
    cases i with
    | zero => cases h; exact ⟨_, rfl, rp⟩
    | succ i => simp at h
  · intro i sh xs h
    cases i with
    | zero => cases h
    | succ i => simp at h
  · intro i j p sh xs sh' xs' h
    cases i with
    | zero => cases h
    | succ i => simp at h
  · intro i q' sh xs _ h
    cases i with
    | zero => cases h
    | succ i => simp at h
  · intro i q' sh xs h
    cases i with
    | zero => cases h
    | succ i => simp at h
  · rw [e]
    intro v S' H' st rv
    have rv : Rep K S' (.bl true) v := rv
    unfold Rep at rv
    exact rv
end Tp
set_option Elab.async false
set_option linter.all false
set_option maxRecDepth 100000
set_option maxHeartbeats 4000000
namespace Tp
open PySem PySem.Spec PyProof.Rows L2
open Evl (Ex)
/-! ### tables, entry by entry -/
theorem mem0 {α : Type} {p : α → Prop} : ∀ b ∈ ([] : List α), p b := fun b h => by cases h
theorem mem1 {α : Type} {p : α → Prop} {a : α} {l : List α} (h : p a) (t : ∀ b ∈ l, p b) : ∀ b ∈ a :: l, p b := fun b hb => by
  cases hb with
  | head => exact h
  | tail _ hb => exact t b hb
theorem get0 {α : Type} {p : α → Prop} : ∀ (j : Nat) b, ([] : List α)[j]? = some b → p b := fun j b h => by simp at h
theorem get1 {α : Type} {p : α → Prop} {a : α} {l : List α} (h : p a) (t : ∀ (j : Nat) b, l[j]? = some b → p b) : ∀ (j : Nat) b, (a :: l)[j]? = some b → p b := fun j b hb => by
  cases j with
  | zero => cases hb; exact h
  | succ j => exact t j b hb
section
variable {P : Program} {w : World} {K : PySem.W.Frag} {mg : Str → Option Value} {base : Heap}
theorem binds_of {x qual : Str} {st : Stmt} {f : Addr} {fd : FuncData} {ps : List Str} (F : L2.Fun K x qual st f fd)
    (h : ∀ (kV doc pm : Value) (an : Option Addr) (cdv ct : Value) (us : List Value), us.length = ps.length → bindArgs (PySem.W.fnOf x qual (defArgs st) (defBody st) (defScope st) .none kV doc pm an cdv ct) ⟨us, []⟩ = pure (ps.zip us)) : Binds K fd ps [] := F.binds h
theorem calk {x qual : Str} {st : Stmt} {f : Addr} {fd : FuncData} {ps : List Str} {l k : Nat} {io : Option Nat} {fn : List Sl → Out (R × List Sl)} (F : L2.Fun K x qual st f fd) (g : mg x = some (.ref f)) (ok : FnG P w K mg base l f fd ps (spF K io ps.length fn)) (hl : l ≤ k)
    (h : ∀ (kV doc pm : Value) (an : Option Addr) (cdv ct : Value) (us : List Value), us.length = ps.length → bindArgs (PySem.W.fnOf x qual (defArgs st) (defBody st) (defScope st) .none kV doc pm an cdv ct) ⟨us, []⟩ = pure (ps.zip us)) :
    ∃ (f : Addr) (fd : FuncData) (l : Nat) (ps' : List Str) (ds : List Value) (dvs : List V), mg (Cal.mk x io ps.length [] fn).name = some (.ref f) ∧ PySem.W.keepIn K (.ref f) = true ∧
    FnG P w K mg base l f fd ps' (spF K (Cal.mk x io ps.length [] fn).io (Cal.mk x io ps.length [] fn).n (Cal.mk x io ps.length [] fn).fn) ∧ l ≤ k ∧ Binds K fd ps' ds ∧ Vals dvs ds ∧ atomsV (Cal.mk x io ps.length [] fn).ds = some dvs :=
  ⟨f, fd, l, ps, [], [], g, F.kp, ok, hl, F.binds h, .nil, rfl⟩
/-- a call that leaves defaults standing: those behind the first j -/
theorem calkD {x qual : Str} {st : Stmt} {f : Addr} {fd : FuncData} {ps : List Str} {l k : Nat} {io : Option Nat} {fn : List Sl → Out (R × List Sl)} {dvs : List V} {dd : List D} (n j : Nat) (F : FunQ K x qual st dvs f fd) (g : mg x = some (.ref f)) (ok : FnG P w K mg base l f fd ps (spF K io ps.length fn)) (hl : l ≤ k)
    (hd : dvs ≠ []) (hn : n + (dvs.length - j) = ps.length) (hdd : atomsV dd = some (dvs.drop j))
    (h : ∀ (T : Addr) (kV doc pm : Value) (an : Option Addr) (cdv ct : Value) (us its : List Value), us.length = n → its.length = dvs.length →
      ∃ k, bindArgs (PySem.W.fnOf x qual (defArgs st) (defBody st) (defScope st) (.ref T) kV doc pm an cdv ct) ⟨us, []⟩ = seqItems? (.ref T) >>= k ∧ k (some its.toArray) = pure (ps.zip (us ++ its.drop j))) :
    ∃ (f : Addr) (fd : FuncData) (l : Nat) (ps' : List Str) (ds : List Value) (dvs : List V), mg (Cal.mk x io ps.length dd fn).name = some (.ref f) ∧ PySem.W.keepIn K (.ref f) = true ∧
    FnG P w K mg base l f fd ps' (spF K (Cal.mk x io ps.length dd fn).io (Cal.mk x io ps.length dd fn).n (Cal.mk x io ps.length dd fn).fn) ∧ l ≤ k ∧ Binds K fd ps' ds ∧ Vals dvs ds ∧ atomsV (Cal.mk x io ps.length dd fn).ds = some dvs := by
  obtain ⟨ds, r, b⟩ := F.binds1 n j hd hn h
  exact ⟨f, fd, l, ps, ds, dvs.drop j, g, F.kp, ok, hl, b, r, hdd⟩
theorem kcalk {x qual : Str} {st : Stmt} {f : Addr} {fd : FuncData} {ps names : List Str} {np : Nat} {perm : List Nat} {l k : Nat} {io : Option Nat} {fn : List Sl → Out (R × List Sl)} (F : L2.Fun K x qual st f fd) (g : mg x = some (.ref f)) (ok : FnG P w K mg base l f fd ps (spF K io ps.length fn)) (hl : l ≤ k)
    (h : ∀ (kV doc pm : Value) (an : Option Addr) (cdv ct : Value) (us ws zs : List Value), us.length = np → ws.length = names.length → permL (us ++ ws) perm = some zs → bindArgs (PySem.W.fnOf x qual (defArgs st) (defBody st) (defScope st) .none kV doc pm an cdv ct) ⟨us, names.zip ws⟩ = pure (ps.zip zs)) :
    ∃ (f : Addr) (fd : FuncData) (l : Nat) (ps' : List Str), mg (KCal.mk (Cal.mk x io ps.length [] fn) np names perm).c.name = some (.ref f) ∧ PySem.W.keepIn K (.ref f) = true ∧
    FnG P w K mg base l f fd ps' (spF K (KCal.mk (Cal.mk x io ps.length [] fn) np names perm).c.io (KCal.mk (Cal.mk x io ps.length [] fn) np names perm).c.n (KCal.mk (Cal.mk x io ps.length [] fn) np names perm).c.fn) ∧ l ≤ k ∧
    ∀ (s : Shared) (us ws zs : List Value), us.length = (KCal.mk (Cal.mk x io ps.length [] fn) np names perm).np → ws.length = (KCal.mk (Cal.mk x io ps.length [] fn) np names perm).names.length → permL (us ++ ws) (KCal.mk (Cal.mk x io ps.length [] fn) np names perm).perm = some zs → BindsTo s fd ⟨us, (KCal.mk (Cal.mk x io ps.length [] fn) np names perm).names.zip ws⟩ (ps'.zip zs) := by
  obtain ⟨oc, od, kV, doc, pm, an, cdv, ct, osl, rfl, lk, hcd⟩ := F.ex
  exact ⟨f, _, l, ps, g, F.kp, ok, hl, fun s us ws zs h1 h2 h3 => .of_eq (h kV doc pm an cdv ct us ws zs h1 h2 h3)⟩
theorem glbI {x : Str} {i : Int} {t : Nat} (h : mg x = some (.int i t)) : ∃ u v, mg x = some u ∧ RelV v u ∧ ∀ H, Rep K H (.int i) v := ⟨_, .int i, h, ⟨t, rfl⟩, fun H => by unfold Rep; rfl⟩
/-- a tuple of numbers that stands behind the top -/
theorem glbT {x : Str} {l : List Int} (h : ∃ (T : Addr) (o : Obj) (its : Array Value) (n : Nat), mg x = some (.ref T) ∧ K.lookup T = some o ∧ o.cls = .type "tuple" ∧ o.data = .seq its n ∧ its.size ≤ sizeLine ∧ Vals (l.map V.int) its.toList) : ∃ u v, mg x = some u ∧ RelV v u ∧ ∀ H, Rep K H (.tup (l.map D.int)) v := by
  obtain ⟨T, o, its, n, h1, h2, h3, h4, h5, h6⟩ := h
  refine ⟨_, .ref T, h1, rfl, fun H => ?_⟩
  unfold Rep
  refine ⟨T, l.map V.int, rfl, .inr ⟨o, its, n, h2, h3, h4, h5, h6⟩, ?_⟩
  clear h6
  induction l with
  | nil => unfold Reps; rfl
  | cons i l ih => unfold Reps; exact ⟨_, _, rfl, by unfold Rep; rfl, ih⟩
theorem glbS {x : Str} {i : Str} {t : Nat} (h : mg x = some (.str i t)) : ∃ u v, mg x = some u ∧ RelV v u ∧ ∀ H, Rep K H (.str i) v := ⟨_, .str i, h, ⟨t, rfl⟩, fun H => by unfold Rep; rfl⟩
end
end Tp
set_option Elab.async false
set_option linter.all false
set_option maxRecDepth 100000
set_option maxHeartbeats 4000000
namespace Tp
open PySem PySem.Spec PyProof.Rows L2
open Evl (Ex)
/-- what the walk knows of the heap behind the top, with the tables of the defs LN -/
structure Bse (LN : List Str) (K : PySem.W.Frag) (mg : Str → Option Value) (base : Heap) : Prop where
  kin : K.In base
  ns : base.Ns mainGlobals mg
  tin : TabsIn LN K
  tab : TabsB LN K mg base
  nd : ((csOf LN K).map fun t => t.2.2).Nodup
  is : LN.all (fun x => (PySem.W.tabIn K x).isSome) = true
theorem csOf_in {LN : List Str} {K : PySem.W.Frag} {x : Str} {cp : Addr × Addr} (h : x ∈ LN) (e : PySem.W.tabIn K x = some cp) : (x, cp) ∈ csOf LN K := by
  unfold csOf
  exact List.mem_filterMap.mpr ⟨x, h, by rw [e]; rfl⟩
theorem nodup_same {α β : Type} (g : α → β) : ∀ {l : List α} {a b : α}, (l.map g).Nodup → a ∈ l → b ∈ l → g a = g b → a = b
  | [], _, _, _, h, _, _ => by cases h
  | c :: l, a, b, nd, ha, hb, e => by
    obtain ⟨n1, n2⟩ := List.nodup_cons.mp nd
    cases ha with
    | head => cases hb with
      | head => rfl
      | tail _ hb => exact absurd (List.mem_map.mpr ⟨b, hb, e.symm⟩) n1
    | tail _ ha => cases hb with
      | head => exact absurd (List.mem_map.mpr ⟨a, ha, e⟩) n1
      | tail _ hb => exact nodup_same g n2 ha hb e
theorem maker_of {LN : List Str} {K : PySem.W.Frag} {mg : Str → Option Value} {base : Heap} {x qual : Str} {st : Stmt} {f : Addr} {fd : FuncData} (B : Bse LN K mg base) (hx : x ∈ LN) (F : FunA K x qual st f fd) (g : mg x = some (.ref f)) : ∃ c P, fd.code = .ref c ∧ MakerOk K mg base x c P := by
  obtain ⟨cp, e⟩ := Option.isSome_iff_exists.mp (List.all_eq_true.mp B.is x hx)
  obtain ⟨c, P⟩ := cp
  obtain ⟨oc, od, dV, kV, doc, pm, an, cdv, ct, osl, rfl, lk, hcd⟩ := F.ex
  have m := csOf_in hx e
  refine ⟨c, P, PySem.W.law_code B.kin B.ns e g (B.kin _ _ lk) rfl, B.tab _ m, ?_, ?_⟩
  · rw [B.tin.all]
    exact List.mem_map.mpr ⟨_, m, rfl⟩
  · intro p hp hq
    rw [B.tin.all] at hp
    obtain ⟨t, ht, rfl⟩ := List.mem_map.mp hp
    have := nodup_same (fun t : Str × Addr × Addr => t.2.2) B.nd ht m hq
    rw [this]
/-- the rule for a def, its code object known -/
theorem fn_ofGc {P : Program} {w : World} {K : PySem.W.Frag} {mg : Str → Option Value} {base : Heap} {k : Nat} {f : Addr} {fd : FuncData} {x qual : Str} {st : Stmt} {N ps : List Str} {sp : Sp} (F : FunA K x qual st f fd) (S : FnScope N ps (defScope st))
    (len : ∀ vs H Q E, sp vs H Q E → vs.length = ps.length)
    (hbody : ∀ (cdv : Value) (A : Around) (out : List Env) (s : Shared) (H : Hp) (vs : List V) (Q : VK) (E : XK), fd.code = cdv → Room k (A.deeper (envOfC qual (defScope st) s.heap.objs.size f cdv)) → A.guards = some [] → sp vs H Q E →
      ∃ t, PSs (cxOf (L2.CX P w) P w K mg base N qual (defScope st) f cdv A out s H E) (defBody st) t ∧ t { nx := fun _ H' => Q .non H', rt := Q } (start N vs) H) : FnG P w K mg base (k + 1) f fd ps sp := by
  refine ⟨len, fun A out s H ar us vs Q E hr hg he hb hv hs => ?_⟩
  obtain ⟨oc, od, dV, kV, doc, pm, an, cdv, ct, osl, rfl, lk, hcd⟩ := F.ex
  have hl := len _ _ _ _ hs
  have KX : K.In s.heap := he.mod.kin.keeps fun b o e => (he.bs b o e).1
  have lim : s.heap.NoLimit := he.mod.nolimit.keeps fun b o e => (he.bs b o e).1
  have hkind : ∀ y ∈ ps.zip us, (defScope st).names.lookup y.1 = some .local ∨ ((defScope st).names.lookup y.1 = some .cell ∧ ((cellsFrom (s.heap.objs.size + 1) (defScope st).names []).lookup y.1).isSome = true) := by
    rintro ⟨n, v⟩ hy
    exact (S.par n (List.of_mem_zip hy).1).imp id fun q => ⟨q, PySem.W.cellsFrom_some _ _ _ (.inl q)⟩
  apply codeAny_call_function hr.depth (KX _ _ lk) rfl S.co S.gen rfl (PySem.W.codeRec_of KX hcd)
  apply hb
  apply wpAny_newFunctionEnv_cells S.kind hkind
  intro env henv s1 x
  subst henv
  refine ⟨lim.keeps x.toInCall.keep, codeAny_func ?_⟩
  obtain ⟨t, ht, hq⟩ := hbody cdv A out s H vs Q E rfl (hr.deeper _) hg hs
  have I : L2.Inv (cxOf (L2.CX P w) P w K mg base N qual (defScope st) f cdv A out s H E) [] (start N vs) H s1 := inv_start S hr.hd he hl hv x
  have fin : ∀ {σ' : L2.St} {H' : Hp} {v : V} {u : Value} {s' : Shared}, L2.Inv (cxOf (L2.CX P w) P w K mg base N qual (defScope st) f cdv A out s H E) [] σ' H' s' → RelV v u → Q v H' → CE out P w H s Q u s' := by
    intro σ' H' v u s' J rv q
    exact ⟨v, H', J.os, J.bare, J.base, J.hok, rv, q⟩
  refine wpAny_mono (ht.run [] s1 (start N vs) H _ I hq) ?_ (fun e s' hs => hs)
  intro fl s' hs'
  cases fl with
  | ret u => obtain ⟨v, σ', H', J, rv, q⟩ := hs'; exact fin J rv q
  | next => obtain ⟨σ', H', J, q⟩ := hs'; exact fin (v := .non) J rfl q
  | brk => obtain ⟨σ', H', J, q⟩ := hs'; exact q.elim
  | cont => obtain ⟨σ', H', J, q⟩ := hs'; exact q.elim
section
variable {P : Program} {w : World} {K : PySem.W.Frag} {mg : Str → Option Value} {base : Heap} {k : Nat} {f g : Addr} {fd fdF : FuncData} {x : Str} {st stF : Stmt} {N N2 ps : List Str} {cf cf2 : Cfg} {ir : Tp.S} {el : E} {LN : List Str}
/-- a def that makes one lambda, for first_wrong -/
theorem fn_SW (B : Bse LN K mg base) (hx : x ∈ LN) (F : FunA K x x st f fd) (gx : mg x = some (.ref f)) (FG : FirstOk K mg stF g fdF) (sc : FnScope N ps (defScope st))
    (nm : ∀ (a b : Addr) (v : Value), (envOfC x (defScope st) a b v).qual ++ "<lambda>" = lamName x)
    (gl : glS (defScope st) "first_wrong" = true) (hh : cf.hole = none) (hw : cf.fw = some ⟨lamChk N2 cf2 el, fnL cf2 el⟩)
    (ck : chkS N cf (defScope st) ir (defBody st) = true) (T : TabOk P w K mg base (k + 2) cf) (T2 : TabOk P w K mg base k cf2) (pl2 : plainC cf2 = true) (io2 : cf2.io = none) (two : N2.length = 2)
    (bdL : ∀ a1 a2 : Arg, [a1.arg, a2.arg] = N2 → ∀ (q : Str) (body : Expr) (scope : Scope) (pm cv ctv : Value) (us : List Value), us.length = N2.length → bindArgs (PySem.W.kla_fn "<lambda>" q ⟨[], [a1, a2], none, [], [], none, []⟩ body scope [] pm cv ctv) ⟨us, []⟩ = pure (N2.zip us)) :
    FnG P w K mg base (k + 2 + 1) f fd ps (spF K cf.io ps.length (fnS cf N.length ir)) := by
  refine fn_ofGc F sc (fun vs H Q E h => ?_) fun cdv A out s H vs Q E hcd hr hg h => ?_
  · obtain ⟨S, as, l, _⟩ := h
    exact l
  · obtain ⟨S, as, l, s0, q⟩ := h
    obtain ⟨c, Pt, hc, W⟩ := maker_of B hx F gx
    have gl2 : (defScope st).names.lookup (Str.ofString "first_wrong") = some .globalImplicit := of_decide_eq_true gl
    have FP : ∀ (y l : Expr) (p q : Pos) (m : M R), lamChk N2 cf2 el l = true → plainE y = true → PE (cxOf (L2.CX P w) P w K mg base N x (defScope st) f cdv A out s H E) y (tR K cf.io m) → PE (cxOf (L2.CX P w) P w K mg base N x (defScope st) f cdv A out s H E) (.Call (.Name "first_wrong" p) [y, l] [] q) (tR K cf.io (fwM (fnL cf2 el) m)) := by
      intro y l p q m c1 c2 c3
      refine fw_pe (X := cxOf (L2.CX P w) P w K mg base N x (defScope st) f cdv A out s H E) (xW := x) (k := k) (c := c) (P := Pt) (g := g) (fdF := fdF) (stF := stF) (N2 := N2) (cf2 := cf2) (el := el) (io := cf.io) ?_ ?_ ?_ ?_ ?_ ?_ ?_ ?_ ?_ ?_ ?_ ?_ ?_ y l p q m c1 c2 c3
      · rfl
      · exact hg
      · exact hr
      · exact W
      · exact hcd.symm.trans hc
      · exact nm _ _ _
      · exact FG
      · exact gl2
      · exact T2
      · exact pl2
      · exact io2
      · exact two
      · exact bdL
    have o : XOk (cxOf (L2.CX P w) P w K mg base N x (defScope st) f cdv A out s H E) N (defScope st) cf :=
      { n := rfl, hs := rfl, nd := sc.nd, kind := sc.kind, calm := rfl, hu := room_hu hr, gd := hg
        cal := fun j c h => by
          obtain ⟨f, fd, l, ps, ds, dvs, a1, a2, a3, a4, a5⟩ := T.cal j c h
          exact ⟨f, fd, l, ps, ds, dvs, a1, a2, a3, hr.mono a4, a5⟩
        kcal := fun j c h => by
          obtain ⟨f, fd, l, ps, a1, a2, a3, a4, a5⟩ := T.kcal j c h
          exact ⟨f, fd, l, ps, a1, a2, a3, hr.mono a4, a5⟩
        glb := T.glb
        bis := fun b hb => by have := T.bis b hb; cases b <;> exact this
        tys := T.tys
        its := T.its
        hol := fun m h => by rw [hh] at h; cases h
        fwk := fun w2 h y l p q m c1 c2 c3 => by
          have e : w2 = ⟨lamChk N2 cf2 el, fnL cf2 el⟩ := Option.some.inj (h.symm.trans hw)
          subst e
          exact FP y l p q m c1 c2 c3 }
    refine ⟨_, soundS ir _ _ o rfl ?_ _ ck, start_ok l s0 q⟩
    exact passes_of rfl
end
theorem firstOk {K : PySem.W.Frag} {mg : Str → Option Value} {stF : Stmt} {g : Addr} {fdF : FuncData} (F : L2.Fun K "first_wrong" "first_wrong" stF g fdF) (at_ : mg "first_wrong" = some (.ref g)) (sc : FnScope NF ["value", "is_right"] (defScope stF))
    (ck : ∀ f gg, chkS NF (cfF f gg) (defScope stF) irF (defBody stF) = true) (its : mg "range" = none ∧ mg "enumerate" = none ∧ mg "zip" = none)
    (v0 : chkVar NF (defScope stF) 0 "value" = true) (v1 : chkVar NF (defScope stF) 1 "is_right" = true) (v2 : chkVar NF (defScope stF) 2 "index" = true) (v3 : chkVar NF (defScope stF) 3 "each" = true)
    (h : ∀ (kV doc pm : Value) (an : Option Addr) (cdv ct : Value) (us : List Value), us.length = 2 → bindArgs (PySem.W.fnOf "first_wrong" "first_wrong" (defArgs stF) (defBody stF) (defScope stF) .none kV doc pm an cdv ct) ⟨us, []⟩ = pure ((["value", "is_right"] : List Str).zip us)) : FirstOk K mg stF g fdF := by
  refine ⟨funA F, at_, F.kp, ?_, sc, ck, its, v0, v1, v2, v3⟩
  obtain ⟨oc, od, kV, doc, pm, an, cdv, ct, osl, rfl, lk, hcd⟩ := F.ex
  exact fun s us hl => .of_eq (h kV doc pm an cdv ct us hl)
theorem nodup_of {α : Type} [DecidableEq α] {l : List α} (h : decide l.Nodup = true) : l.Nodup := of_decide_eq_true h
end Tp
set_option Elab.async false
set_option linter.all false
set_option maxRecDepth 100000
set_option maxHeartbeats 4000000
namespace Tp
open PySem PySem.Spec PyProof.Rows L2
/-! ### what comes out, said of it -/
structure Ok {α : Type} (o : Out α) (Q : α → Prop) : Prop where
  out : ∃ a, o = .ok a ∧ Q a
@[simp] theorem ok_ok {α : Type} {a : α} {Q : α → Prop} : Ok (.ok a) Q = Q a :=
  propext ⟨fun ⟨b, e, h⟩ => by cases e; exact h, fun h => ⟨a, rfl, h⟩⟩
@[simp] theorem ok_bind {α β : Type} {o : Out α} {f : α → Out β} {Q : β → Prop} : Ok (o.bind f) Q = Ok o fun a => Ok (f a) Q := by
  cases o with
  | ok a => exact (propext ⟨fun h => ⟨a, rfl, h⟩, fun ⟨b, e, h⟩ => by cases e; exact h⟩)
  | err c p => exact propext ⟨fun ⟨b, e, h⟩ => (by cases e), fun ⟨b, e, h⟩ => (by cases e)⟩
  | stuck => exact propext ⟨fun ⟨b, e, h⟩ => (by cases e), fun ⟨b, e, h⟩ => (by cases e)⟩
@[simp] theorem ok_stuck {α : Type} {Q : α → Prop} : Ok (.stuck) Q = False := propext ⟨fun ⟨b, e, h⟩ => (by cases e), False.elim⟩
@[simp] theorem ok_guard {α : Type} {c : Prop} [Decidable c] {o : Out α} {Q : α → Prop} : Ok (if c then o else .stuck) Q = (c ∧ Ok o Q) := by
  by_cases h : c
  · rw [if_pos h]; simp [h]
  · rw [if_neg h]; simp [h]
theorem Ok.mono {α : Type} {o : Out α} {Q Q' : α → Prop} (h : Ok o Q) (i : ∀ a, Q a → Q' a) : Ok o Q' := by
  obtain ⟨a, e, q⟩ := h
  exact ⟨a, e, i a q⟩
theorem Ok.of {α : Type} {o : Out α} {Q : α → Prop} {a : α} (e : o = .ok a) (h : Q a) : Ok o Q := ⟨a, e, h⟩
@[simp] theorem bind_ok' {α β : Type} {a : α} {f : α → Out β} : (Out.ok a).bind f = f a := (rfl)
@[simp] theorem bin_add {a b : Int} : binop .Add (.int a) (.int b) = .ok (.d (.int (a + b))) := (rfl)
@[simp] theorem bin_sub {a b : Int} : binop .Sub (.int a) (.int b) = .ok (.d (.int (a - b))) := (rfl)
@[simp] theorem ok_mul {a b : Int} {Q : R → Prop} : Ok (binop .Mult (.int a) (.int b)) Q = ((a.natAbs < big ∧ b.natAbs < big) ∧ Q (.d (.int (a * b)))) := by
  show Ok ((if a.natAbs < big ∧ b.natAbs < big then Out.ok (a * b) else .stuck).bind fun k => .ok (.d (.int k))) Q = _
  simp
@[simp] theorem ok_fdiv {a b : Int} {Q : R → Prop} : Ok (binop .FloorDiv (.int a) (.int b)) Q = ((0 < b ∧ b.natAbs < big) ∧ Q (.d (.int (a / b)))) := by
  show Ok ((if 0 < b ∧ b.natAbs < big then Out.ok (a / b) else .stuck).bind fun k => .ok (.d (.int k))) Q = _
  simp
@[simp] theorem ok_mod {a b : Int} {Q : R → Prop} : Ok (binop .Mod (.int a) (.int b)) Q = (0 < b ∧ Q (.d (.int (a % b)))) := by
  show Ok ((if 0 < b then Out.ok (a % b) else .stuck).bind fun k => .ok (.d (.int k))) Q = _
  simp
@[simp] theorem ok_pow {a b : Int} {Q : R → Prop} : Ok (binop .Pow (.int a) (.int b)) Q = ((0 ≤ b ∧ b ≤ 1000000 ∧ a.natAbs < 2 ^ 64) ∧ Q (.d (.int (a ^ b.toNat)))) := by
  show Ok ((if 0 ≤ b ∧ b ≤ 1000000 ∧ a.natAbs < 2 ^ 64 then Out.ok (a ^ b.toNat) else .stuck).bind fun k => .ok (.d (.int k))) Q = _
  simp
@[simp] theorem ok_divmod {a b : Int} {Q : R → Prop} : Ok (biD .divmod [.int a, .int b]) Q = ((0 < b ∧ b < 1073741824) ∧ Q (.d (.tup [.int (a / b), .int (a % b)]))) := by
  show Ok (if _ then _ else .stuck) Q = _
  simp
@[simp] theorem cmp_lt {a b : Int} : cmpop .Lt (.int a) (.int b) = .ok (decide (a < b)) := (rfl)
@[simp] theorem cmp_le {a b : Int} : cmpop .LtE (.int a) (.int b) = .ok (decide (a ≤ b)) := (rfl)
@[simp] theorem cmp_gt {a b : Int} : cmpop .Gt (.int a) (.int b) = .ok (decide (b < a)) := (rfl)
@[simp] theorem cmp_ge {a b : Int} : cmpop .GtE (.int a) (.int b) = .ok (decide (b ≤ a)) := (rfl)
@[simp] theorem cmp_eqi {a b : Int} : cmpop .Eq (.int a) (.int b) = .ok (decide (a = b)) := (rfl)
@[simp] theorem cmp_nei {a b : Int} : cmpop .NotEq (.int a) (.int b) = .ok (!decide (a = b)) := (rfl)
@[simp] theorem cmp_nes {a b : Str} : cmpop .NotEq (.str a) (.str b) = .ok (!decide (a = b)) := (rfl)
@[simp] theorem cmp_eqs {a b : Str} : cmpop .Eq (.str a) (.str b) = .ok (decide (a = b)) := (rfl)
@[simp] theorem tru_b {b : Bool} : truthD (.bl b) = .ok b := (rfl)
@[simp] theorem tru_i {b : Int} : truthD (.int b) = .ok (b != 0) := (rfl)
@[simp] theorem val_d {ρ : List Sl} {d : D} : R.val ρ (.d d) = .ok d := (rfl)
@[simp] theorem val_ow {ρ : List Sl} {sh : Sh} {xs : List D} : R.val ρ (.ow sh xs) = .ok (.ob sh xs) := (rfl)
@[simp] theorem hand_d {d : D} : R.hand (.d d) = .d d := (rfl)
@[simp] theorem hand_ow {sh : Sh} {xs : List D} : R.hand (.ow sh xs) = .d (.ob sh xs) := (rfl)
@[simp] theorem hand_vw {i : Nat} : R.hand (.vw i) = .vw i := (rfl)
theorem nb {x : Int} (h1 : -1000000000000000000000000000000 < x) (h2 : x < 1000000000000000000000000000000) : x.natAbs < big := big_of (Nat.le_of_lt (Nat.lt_trans (show x.natAbs < 1000000000000000000000000000000 by omega) (by decide +kernel)))
theorem nb2 {x : Int} (h1 : 0 ≤ x) (h2 : x < 10 ^ 384) : x.natAbs < big := big_of (by
  have : x.natAbs < 10 ^ 384 := by
    have : (x.natAbs : Int) < ((10 ^ 384 : Nat) : Int) := by rw [Int.natAbs_of_nonneg h1]; exact_mod_cast h2
    exact_mod_cast this
  exact Nat.le_of_lt (Nat.lt_trans this (by decide +kernel)))
/-! ### how the inner form runs -/
open Tp (S)
section
@[simp] theorem e_v {c : Cfg} {i : Nat} : evE c (.v i) = varM i := (rfl)
@[simp] theorem e_k {c : Cfg} {d : D} : evE c (.k d) = dM d := (rfl)
@[simp] theorem e_ty {c : Cfg} {t : Ty} : evE c (.ty t) = dM (.ty t) := (rfl)
@[simp] theorem e_neg {c : Cfg} {a : E} : evE c (.neg a) = unM negD (evE c a) := (rfl)
@[simp] theorem e_bin {c : Cfg} {o : Operator} {a b : E} : evE c (.bin o a b) = opM (binop o) (evE c a) (evE c b) := (rfl)
@[simp] theorem e_cmp {c : Cfg} {o : CmpOp} {a b : E} : evE c (.cmp o a b) = opM (gB (cmpop o)) (evE c a) (evE c b) := (rfl)
@[simp] theorem e_chn {c : Cfg} {o o1 : CmpOp} {a b d : E} : evE c (.chn o o1 a b d) = chnM (cmpop o) (cmpop o1) (evE c a) (evE c b) (evE c d) := (rfl)
@[simp] theorem e_and {c : Cfg} {a b : E} : evE c (.and a b) = andM (evE c a) (evE c b) := (rfl)
@[simp] theorem e_or {c : Cfg} {a b : E} : evE c (.or a b) = orM (evE c a) (evE c b) := (rfl)
@[simp] theorem e_not {c : Cfg} {a : E} : evE c (.not a) = unM notD (evE c a) := (rfl)
@[simp] theorem e_one {c : Cfg} {a : E} : evE c (.one a) = evE c a := (rfl)
@[simp] theorem e_ife {c : Cfg} {a b d : E} : evE c (.ife a b d) = ifeM (evB c a) (evE c b) (evE c d) := (rfl)
@[simp] theorem e_tup {c : Cfg} {a : E} : evE c (.tup a) = tupM (evA c a) := (rfl)
@[simp] theorem e_lst {c : Cfg} {a : E} : evE c (.lst a) = lstM (evA c a) := (rfl)
@[simp] theorem e_ix {c : Cfg} {a b : E} : evE c (.ix a b) = opM ixD (evE c a) (evE c b) := (rfl)
@[simp] theorem e_sl {c : Cfg} {a b d : E} : evE c (.sl a b d) = slM (evE c a) (evO c b) (evO c d) := (rfl)
@[simp] theorem e_bi {c : Cfg} {b : Bi} {a : E} : evE c (.bi b a) = biM (biD b) (evA c a) := (rfl)
@[simp] theorem e_lc {c : Cfg} {vs tg : List Nat} {tt : Bool} {it t e : E} : evE c (.lc vs tg tt it t e) = compM vs (evI c it) (tgNm tg tt) (evT c t) (evE c e) := (rfl)
@[simp] theorem e_app {c : Cfg} {i : Nat} {a : E} : evE c (.app i a) = appM i (evE c a) := (rfl)
@[simp] theorem e_ext {c : Cfg} {i : Nat} {a : E} : evE c (.ext i a) = extM i (evE c a) := (rfl)
@[simp] theorem e_pop {c : Cfg} {i : Nat} : evE c (.pop i) = popM i := (rfl)
@[simp] theorem a_nil {c : Cfg}  : evA c .nil = nilM := (rfl)
@[simp] theorem a_cons {c : Cfg} {a r : E} : evA c (.cons a r) = consM (evE c a) (evA c r) := (rfl)
@[simp] theorem o_nil {c : Cfg}  : evO c .nil = noPart := (rfl)
@[simp] theorem o_pt {c : Cfg} {a : E} : evO c (.pt a) = partM (evE c a) := (rfl)
@[simp] theorem b_and {c : Cfg} {a b : E} : evB c (.and a b) = andB (evB c a) (evB c b) := (rfl)
@[simp] theorem b_or {c : Cfg} {a b : E} : evB c (.or a b) = orB (evB c a) (evB c b) := (rfl)
@[simp] theorem b_not {c : Cfg} {a : E} : evB c (.not a) = notB (evB c a) := (rfl)
@[simp] theorem b_tr {c : Cfg} {a : E} : evB c (.tr a) = truM (evE c a) := (rfl)
@[simp] theorem b_one {c : Cfg} {a : E} : evB c (.one a) = evB c a := (rfl)
@[simp] theorem t_nil {c : Cfg}  : evT c .nil = yesM := (rfl)
@[simp] theorem t_cons {c : Cfg} {a r : E} : evT c (.cons a r) = evB c a := (rfl)
@[simp] theorem i_it {c : Cfg} {a : E} : evI c (.it a) = itM c.io (evE c a) := (rfl)
@[simp] theorem i_rng {c : Cfg} {a : E} : evI c (.rng a) = rngM (evA c a) := (rfl)
@[simp] theorem i_enm {c : Cfg} {a : E} : evI c (.enm a) = enumM (evA c a) := (rfl)
@[simp] theorem i_zip {c : Cfg} {a : E} : evI c (.zip a) = zipM (evA c a) := (rfl)
@[simp] theorem g_nm {c : Cfg} {i : Nat} : evG c (.nm i) = gNm c.io i := (rfl)
@[simp] theorem g_ns {c : Cfg} {i : Nat} : evG c (.ns i) = gNs i := (rfl)
@[simp] theorem g_sub {c : Cfg} {i : Nat} {k : E} : evG c (.sub i k) = gSubM i (evE c k) := (rfl)
@[simp] theorem g_tup {c : Cfg} {a : T} : evG c (.tup a) = gTupM (evGs c a) := (rfl)
@[simp] theorem gs_nil {c : Cfg}  : evGs c .nil = [] := (rfl)
@[simp] theorem gs_cons {c : Cfg} {a r : T} : evGs c (.cons a r) = evG c a :: evGs c r := (rfl)
@[simp] theorem r_nil {c : Cfg}  : rawL c .nil = [] := (rfl)
@[simp] theorem r_cons {c : Cfg} {a r : E} : rawL c (.cons a r) = evE c a :: rawL c r := (rfl)
theorem s_nx {c : Cfg}  : evS c .nx = nxM := (rfl)
theorem s_frz {c : Cfg} {i : Nat} {b : Tp.S} : evS c (.frz i b) = seqM (frzM c.io i) (evS c b) := (rfl)
theorem s_doc {c : Cfg} {b : Tp.S} : evS c (.doc b) = seqM nxM (evS c b) := (rfl)
theorem s_asg {c : Cfg} {t : T} {e : E} {b : Tp.S} : evS c (.asg t e b) = seqM (asgM (evE c e) (evG c t)) (evS c b) := (rfl)
theorem s_par {c : Cfg} {ns : List (Nat × Bool)} {e : E} {b : Tp.S} : evS c (.par ns e b) = seqM (parM c.io ns (rawL c e)) (evS c b) := (rfl)
theorem s_ex {c : Cfg} {e : E} {b : Tp.S} : evS c (.ex e b) = seqM (dropM (evE c e)) (evS c b) := (rfl)
theorem s_ret {c : Cfg} {e : E} {b : Tp.S} : evS c (.ret e b) = seqM (retM c.io (evE c e)) (evS c b) := (rfl)
theorem s_retn {c : Cfg} {b : Tp.S} : evS c (.retn b) = seqM retNM (evS c b) := (rfl)
theorem s_ife {c : Cfg} {t : E} {x y b : Tp.S} : evS c (.ife t x y b) = seqM (ifM (evB c t) (evS c x) (evS c y)) (evS c b) := (rfl)
theorem s_wh {c : Cfg} {W : Nat} {t : E} {x b : Tp.S} : evS c (.wh W t x b) = seqM (whileF (evB c t) (evS c x) W) (evS c b) := (rfl)
theorem s_fr {c : Cfg} {t : T} {i : E} {x b : Tp.S} : evS c (.fr t i x b) = seqM (forM (evI c i) (evG c t) (evS c x)) (evS c b) := (rfl)
theorem s_bk {c : Cfg} {b : Tp.S} : evS c (.bk b) = seqM bkM (evS c b) := (rfl)
theorem s_ct {c : Cfg} {b : Tp.S} : evS c (.ct b) = seqM ctM (evS c b) := (rfl)
theorem s_ps {c : Cfg} {b : Tp.S} : evS c (.ps b) = seqM nxM (evS c b) := (rfl)
theorem s_bad {c : Cfg} {b : Tp.S} : evS c (.bad b) = seqM badM (evS c b) := (rfl)
@[simp] theorem ap_d {ρ : List Sl} {d : D} : dM d ρ = .ok (.d d, ρ) := (rfl)
@[simp] theorem ap_op {ρ : List Sl} {g : D → D → Out R} {ma mb : M R} : opM g ma mb ρ = (ma ρ).bind fun x => (mb x.2).bind fun y => (x.1.hand.val y.2).bind fun a => (y.1.hand.val y.2).bind fun b => (g a b).bind fun r => .ok (r, y.2) := (rfl)
@[simp] theorem ap_un {ρ : List Sl} {g : D → Out R} {ma : M R} : unM g ma ρ = (ma ρ).bind fun x => (x.1.hand.val x.2).bind fun a => (g a).bind fun r => .ok (r, x.2) := (rfl)
@[simp] theorem ap_nil {ρ : List Sl}  : nilM ρ = .ok ([], ρ) := (rfl)
@[simp] theorem ap_cons {ρ : List Sl} {ma : M R} {mr : M (List R)} : consM ma mr ρ = (ma ρ).bind fun x => (mr x.2).bind fun y => .ok (x.1.hand :: y.1, y.2) := (rfl)
@[simp] theorem ap_bi {ρ : List Sl} {g : List D → Out R} {ma : M (List R)} : biM g ma ρ = (ma ρ).bind fun x => (valsOf x.2 x.1).bind fun ds => (g ds).bind fun r => .ok (r, x.2) := (rfl)
@[simp] theorem vo_nil {ρ : List Sl}  : valsOf ρ [] = .ok [] := (rfl)
@[simp] theorem vo_cons {ρ : List Sl} {r : R} {rs : List R} : valsOf ρ (r :: rs) = (r.val ρ).bind fun d => (valsOf ρ rs).bind fun ds => .ok (d :: ds) := (rfl)
@[simp] theorem ap_tru {ρ : List Sl} {ma : M R} : truM ma ρ = (ma ρ).bind fun x => (x.1.hand.val x.2).bind fun d => (truthD d).bind fun b => .ok (b, x.2) := (rfl)
@[simp] theorem ap_andB {ρ : List Sl} {ma mb : M Bool} : andB ma mb ρ = (ma ρ).bind fun x => if x.1 = true then mb x.2 else .ok (false, x.2) := (rfl)
@[simp] theorem ap_orB {ρ : List Sl} {ma mb : M Bool} : orB ma mb ρ = (ma ρ).bind fun x => if x.1 = true then .ok (true, x.2) else mb x.2 := (rfl)
@[simp] theorem ap_notB {ρ : List Sl} {ma : M Bool} : notB ma ρ = (ma ρ).bind fun x => .ok (!x.1, x.2) := (rfl)
@[simp] theorem ap_ife {ρ : List Sl} {t : M Bool} {ma mb : M R} : ifeM t ma mb ρ = (t ρ).bind fun x => if x.1 = true then ma x.2 else mb x.2 := (rfl)
@[simp] theorem ap_seq {ρ : List Sl} {m n : SM} : seqM m n ρ = (m ρ).bind fun f => match f with | .nx ρ2 => n ρ2 | f => .ok f := (rfl)
@[simp] theorem ap_nx {ρ : List Sl}  : nxM ρ = .ok (.nx ρ) := (rfl)
@[simp] theorem ap_asg {ρ : List Sl} {me : M R} {g : GM} : asgM me g ρ = (me ρ).bind fun x => (g x.1 x.2).bind fun ρ2 => .ok (.nx ρ2) := (rfl)
@[simp] theorem ap_drop {ρ : List Sl} {me : M R} : dropM me ρ = (me ρ).bind fun x => .ok (.nx x.2) := (rfl)
@[simp] theorem ap_ifM {ρ : List Sl} {c : M Bool} {m n : SM} : ifM c m n ρ = (c ρ).bind fun x => if x.1 = true then m x.2 else n x.2 := (rfl)
@[simp] theorem ap_bk {ρ : List Sl}  : bkM ρ = .ok (.bk ρ) := (rfl)
@[simp] theorem ap_ct {ρ : List Sl}  : ctM ρ = .ok (.ct ρ) := (rfl)
@[simp] theorem ap_retN {ρ : List Sl}  : retNM ρ = .ok (.rt (.d .non) ρ) := (rfl)
@[simp] theorem ap_yes {ρ : List Sl}  : yesM ρ = .ok (true, ρ) := (rfl)
@[simp] theorem ap_for {ρ : List Sl} {mi : M (List D)} {g : GM} {m : SM} : forM mi g m ρ = (mi ρ).bind fun x => forF g m x.1 x.2 := (rfl)
@[simp] theorem gs_0 {ρ : List Sl}  : gsM [] [] ρ = .ok ρ := (rfl)
@[simp] theorem gs_1 {ρ : List Sl} {g : GM} {gs : List GM} {d : D} {ds : List D} : gsM (g :: gs) (d :: ds) ρ = (g (.d d) ρ).bind fun ρ2 => gsM gs ds ρ2 := (rfl)
@[simp] theorem gt_d {ρ : List Sl} {gs : List GM} {ds : List D} : gTupM gs (.d (.tup ds)) ρ = gsM gs ds ρ := (rfl)
@[simp] theorem gns_d {ρ : List Sl} {i : Nat} {d : D} : gNs i (.d d) ρ = if i < ρ.length then .ok (ρ.set i (.st d)) else .stuck := (rfl)
@[simp] theorem gns_o {ρ : List Sl} {i : Nat} {sh : Sh} {xs : List D} : gNs i (.ow sh xs) ρ = if i < ρ.length then .ok (ρ.set i (.st (.ob sh xs))) else .stuck := (rfl)
@[simp] theorem gnm_d {ρ : List Sl} {io : Option Nat} {i : Nat} {d : D} : gNm io i (.d d) ρ = if i < ρ.length then .ok (ρ.set i (.st d)) else .stuck := (rfl)
@[simp] theorem gnm_o {ρ : List Sl} {io : Option Nat} {i : Nat} {sh : Sh} {xs : List D} : gNm io i (.ow sh xs) ρ = if i < ρ.length ∧ io ≠ some i then .ok (ρ.set i (.ow sh xs)) else .stuck := (rfl)
@[simp] theorem rw_0 {ρ : List Sl}  : rawM [] ρ = .ok ([], ρ) := (rfl)
@[simp] theorem ap_par {ρ : List Sl} {io : Option Nat} {ns : List (Nat × Bool)} {ms : List (M R)} : parM io ns ms ρ = (rawM ms ρ).bind fun x => (setAll io ns x.1 x.2).bind fun ρ2 => .ok (.nx ρ2) := (rfl)
@[simp] theorem sa_0 {ρ : List Sl} {io : Option Nat} : setAll io [] [] ρ = .ok ρ := (rfl)
@[simp] theorem ap_rng {ρ : List Sl} {ma : M (List R)} : rngM ma ρ = (ma ρ).bind fun x => (valsOf x.2 x.1).bind fun ds => match ds with | [.int b] => if -(2 ^ 62) ≤ b ∧ b < 2 ^ 62 then .ok (rngL 0 b, x.2) else .stuck | [.int a, .int b] => if -(2 ^ 62) ≤ a ∧ a < 2 ^ 62 ∧ -(2 ^ 62) ≤ b ∧ b < 2 ^ 62 then .ok (rngL a b, x.2) else .stuck | _ => .stuck := (rfl)
@[simp] theorem fin_nx {ρ : List Sl} {io : Option Nat} {n : Nat} : finS io n (.nx ρ) = (outsOf io n ρ).bind fun o => .ok (.d .non, o) := (rfl)
@[simp] theorem fin_rd {ρ : List Sl} {io : Option Nat} {n : Nat} {d : D} : finS io n (.rt (.d d) ρ) = (outsOf io n ρ).bind fun o => .ok (.d d, o) := (rfl)
@[simp] theorem fin_ro {ρ : List Sl} {io : Option Nat} {n : Nat} {sh : Sh} {xs : List D} : finS io n (.rt (.ow sh xs) ρ) = (outsOf io n ρ).bind fun o => .ok (.ow sh xs, o) := (rfl)
@[simp] theorem outs_0 {ρ : List Sl} {n : Nat} : outsOf none n ρ = .ok (List.replicate n .un) := (rfl)
@[simp] theorem np {ρ : List Sl}  : noPart ρ = .ok (none, ρ) := (rfl)
@[simp] theorem ap_pt {ρ : List Sl} {m : M R} : partM m ρ = (m ρ).bind fun x => (x.1.val x.2).bind fun d => match d with | .int i => .ok (some i, x.2) | _ => .stuck := (rfl)
@[simp] theorem ap_sl {ρ : List Sl} {ma : M R} {ml mh : M (Option Int)} : slM ma ml mh ρ = (ma ρ).bind fun x => (ml x.2).bind fun l => (mh l.2).bind fun h => (x.1.hand.val h.2).bind fun d => (slD d l.1 h.1).bind fun r => .ok (r, h.2) := (rfl)
@[simp] theorem ap_callM {ρ : List Sl} {c : Cal} {ma : M (List R)} : callM c ma ρ = (ma ρ).bind fun x => (slsOf c.io x.2 0 x.1).bind fun as => (c.fn (as ++ c.ds.map Sl.st)).bind fun y => if noVw y.1 = true then (backS c.io x.1 y.2 x.2).bind fun ρ2 => .ok (y.1, ρ2) else .stuck := (rfl)
@[simp] theorem ap_lst {ρ : List Sl} {ma : M (List R)} : lstM ma ρ = (ma ρ).bind fun x => (tupM.stable x.1).bind fun ds => if ds.length ≤ sizeLine then .ok (.ow .lst ds, x.2) else .stuck := (rfl)
@[simp] theorem ap_tup {ρ : List Sl} {ma : M (List R)} : tupM ma ρ = (ma ρ).bind fun x => (tupM.stable x.1).bind fun ds => if ds.length ≤ sizeLine then .ok (.d (.tup ds), x.2) else .stuck := (rfl)
@[simp] theorem stab_0 : tupM.stable [] = .ok [] := (rfl)
@[simp] theorem stab_1 {d : D} {rs : List R} : tupM.stable (.d d :: rs) = (tupM.stable rs).bind fun ds => .ok (d :: ds) := (rfl)
@[simp] theorem gB_ap {g : D → D → Out Bool} {a b : D} : gB g a b = (g a b).bind fun r => .ok (.d (.bl r)) := (rfl)
@[simp] theorem bl_ap {b : Bool} : boolD (.bl b) = .ok b := (rfl)
@[simp] theorem not_ap {d : D} : notD d = (boolD d).bind fun b => .ok (.d (.bl (!b))) := (rfl)
@[simp] theorem neg_ap {i : Int} : negD (.int i) = .ok (.d (.int (-i))) := (rfl)
@[simp] theorem ap_app {ρ : List Sl} {m : M (List R)} {p : List Nat} : permM p m ρ = (m ρ).bind fun x => (ofO (permL x.1 p)).bind fun rs => .ok (rs, x.2) := (rfl)
@[simp] theorem ap_apd {ρ : List Sl} {ma mb : M (List R)} : appendM ma mb ρ = (ma ρ).bind fun x => (mb x.2).bind fun y => .ok (x.1 ++ y.1, y.2) := (rfl)
@[simp] theorem ap_and {ρ : List Sl} {ma mb : M R} : andM ma mb ρ = (ma ρ).bind fun x => (x.1.val x.2).bind fun d => (boolD d).bind fun b => if b = true then mb x.2 else .ok (.d (.bl false), x.2) := (rfl)
@[simp] theorem ap_or {ρ : List Sl} {ma mb : M R} : orM ma mb ρ = (ma ρ).bind fun x => (x.1.val x.2).bind fun d => (boolD d).bind fun b => if b = true then .ok (.d (.bl true), x.2) else mb x.2 := (rfl)
@[simp] theorem ap_comp {ρ : List Sl} {vs : List Nat} {mi : M (List D)} {g : GM} {mt : M Bool} {me : M R} : compM vs mi g mt me ρ = (mi ρ).bind fun x => if noOwn x.2 vs = true then (compF vs g mt me x.1 (wipeS x.2 vs)).bind (fun z => if z.1.length ≤ sizeLine then .ok (.ow .lst z.1, backC vs x.2 z.2) else .stuck) else .stuck := (rfl)
@[simp] theorem e_call0 {c : Cfg} {j : Nat} {a : E} : evE c (.call j a) = match c.C[j]? with
    | some k => callM k (evA c a)
    | none => stkM := rfl
@[simp] theorem e_callk0 {c : Cfg} {j : Nat} {a b : E} : evE c (.callk j a b) = match c.KC[j]? with
    | some k => callM k.c (permM k.perm (appendM (evA c a) (evA c b)))
    | none => stkM := rfl
@[simp] theorem e_g0 {c : Cfg} {j : Nat} : evE c (.g j) = match c.G[j]? with
    | some p => dM p.2
    | none => stkM := rfl
end
theorem compF_map {vs : List Nat} {g : GM} {mt : M Bool} {me : M R} (f : D → D) (ρ0 : List Sl) : ∀ ds : List D, (∀ d ∈ ds, Ok (g (.d d) ρ0) fun ρ1 => Ok (mt ρ1) fun x => x.1 = true ∧ Ok (me x.2) fun y => y.1.hand = .d (f d) ∧ wipeS y.2 vs = ρ0) → compF vs g mt me ds ρ0 = .ok (ds.map f, ρ0)
  | [], _ => rfl
  | d :: ds, h => by
    obtain ⟨ρ1, e1, h1⟩ := (h d List.mem_cons_self).out
    obtain ⟨x, e2, hx, h2⟩ := h1.out
    obtain ⟨y, e3, hy, h3⟩ := h2.out
    have ih := compF_map f ρ0 ds fun d hd => h d (List.mem_cons_of_mem _ hd)
    unfold compF
    rw [e1, bind_ok', e2, bind_ok', if_pos hx, e3, bind_ok', hy]
    simp only
    rw [h3, ih]
    rfl
theorem ints_map {α : Type} (l : List α) (g : α → Int) : intsOf (l.map fun a => D.int (g a)) = some (l.map g) := by
  induction l with
  | nil => rfl
  | cons a l ih => rw [List.map_cons]; unfold intsOf; rw [ih]; rfl
/-- an answer that is an int and leaves nothing behind -/
def outI : Out (R × List Sl) → Option Int
  | .ok (.d (.int i), [.un]) => some i
  | .ok (.d (.int i), [.un, .un]) => some i
  | .ok (.d (.int i), [.un, .un, .un]) => some i
  | _ => none
theorem outI_ok {o : Out (R × List Sl)} {i : Int} (h : outI o = some i) : ∃ n, o = .ok (.d (.int i), List.replicate n .un) := by
  unfold outI at h
  split at h <;> first | (cases h; done) | skip
  · cases h; exact ⟨1, rfl⟩
  · cases h; exact ⟨2, rfl⟩
  · cases h; exact ⟨3, rfl⟩
theorem mem_rng {lo hi : Int} {d : D} (h : d ∈ rngL lo hi) : ∃ i : Int, d = .int i ∧ lo ≤ i ∧ i < hi := by
  unfold rngL at h
  obtain ⟨t, h1, rfl⟩ := List.mem_map.mp h
  have := List.mem_range.mp h1
  exact ⟨_, rfl, by omega, by omega⟩
theorem rng_len (lo hi : Int) : (rngL lo hi).length = (hi - lo).toNat := by unfold rngL; simp
/-! a for -/
theorem forF_ok {g : GM} {m : SM} (P : Nat → List Sl → Prop) : ∀ (ds : List D) (n : Nat) (ρ : List Sl), (∀ d ∈ ds, ∀ n ρ, P n ρ → Ok (g (.d d) ρ) fun ρ1 => Ok (m ρ1) fun f => ∃ ρ2, f = .nx ρ2 ∧ P (n + 1) ρ2) → P n ρ → Ok (forF g m ds ρ) fun f => ∃ ρ2, f = .nx ρ2 ∧ P (n + ds.length) ρ2
  | [], n, ρ, _, p => ⟨.nx ρ, rfl, ρ, rfl, p⟩
  | d :: ds, n, ρ, h, p => by
    have a := h d List.mem_cons_self n ρ p
    show Ok ((g (.d d) ρ).bind fun ρ1 => (m ρ1).bind fun f => match f with
    | .nx ρ' => forF g m ds ρ'
    | .ct ρ' => forF g m ds ρ'
    | .bk ρ' => .ok (.nx ρ')
    | .rt r ρ' => .ok (.rt r ρ')) _
    rw [ok_bind]
    refine a.mono fun ρ1 a => ?_
    rw [ok_bind]
    refine a.mono fun f a => ?_
    obtain ⟨ρ2, rfl, p2⟩ := a
    have := forF_ok P ds (n + 1) ρ2 (fun d hd => h d (List.mem_cons_of_mem _ hd)) p2
    rw [show n + 1 + ds.length = n + (d :: ds).length by rw [List.length_cons]; omega] at this
    exact this
theorem for_then {g : GM} {m : SM} {ds : List D} {ρ : List Sl} {Q : Fl → Prop} (P : Nat → List Sl → Prop) (h : ∀ d ∈ ds, ∀ n ρ, P n ρ → Ok (g (.d d) ρ) fun ρ1 => Ok (m ρ1) fun f => ∃ ρ2, f = .nx ρ2 ∧ P (n + 1) ρ2) (p : P 0 ρ) (fin : ∀ ρ2, P ds.length ρ2 → Q (.nx ρ2)) : Ok (forF g m ds ρ) Q :=
  (forF_ok P ds 0 ρ h p).mono fun f ⟨ρ2, e, q⟩ => by rw [e]; rw [Nat.zero_add] at q; exact fin ρ2 q
/-! ### a statement at a time -/
section
variable {c : Cfg} {ρ : List Sl} {Q : Fl → Prop}
theorem run_nx (h : Q (.nx ρ)) : Ok (evS c .nx ρ) Q := ⟨_, rfl, h⟩
theorem run_seq {m n : SM} (h : Ok (m ρ) fun f => ∃ ρ2, f = .nx ρ2 ∧ Ok (n ρ2) Q) : Ok (seqM m n ρ) Q := by
  show Ok ((m ρ).bind _) Q
  rw [ok_bind]
  refine h.mono fun f ⟨ρ2, e, q⟩ => ?_
  rw [e]; exact q
theorem run_asg {t : T} {e : E} {b : Tp.S} (h : Ok (evE c e ρ) fun x => Ok (evG c t x.1 x.2) fun ρ2 => Ok (evS c b ρ2) Q) : Ok (evS c (.asg t e b) ρ) Q := by
  refine run_seq ?_
  show Ok ((evE c e ρ).bind _) _
  rw [ok_bind]
  refine h.mono fun x h => ?_
  rw [ok_bind]
  exact h.mono fun ρ2 h => ⟨_, rfl, ρ2, rfl, h⟩
theorem run_ex {e : E} {b : Tp.S} (h : Ok (evE c e ρ) fun x => Ok (evS c b x.2) Q) : Ok (evS c (.ex e b) ρ) Q := by
  refine run_seq ?_
  show Ok ((evE c e ρ).bind _) _
  rw [ok_bind]
  exact h.mono fun x h => ⟨_, rfl, x.2, rfl, h⟩
theorem run_par {ns : List (Nat × Bool)} {e : E} {b : Tp.S} (h : Ok (parM c.io ns (rawL c e) ρ) fun f => ∃ ρ2, f = .nx ρ2 ∧ Ok (evS c b ρ2) Q) : Ok (evS c (.par ns e b) ρ) Q := run_seq h
theorem run_ret {e : E} {b : Tp.S} (h : Ok (evE c e ρ) fun x => ∃ d, x.1 = .d d ∧ Q (.rt (.d d) x.2)) : Ok (evS c (.ret e b) ρ) Q := by
  show Ok ((retM c.io (evE c e) ρ).bind _) Q
  rw [ok_bind]
  show Ok ((evE c e ρ).bind _) _
  rw [ok_bind]
  refine h.mono fun x ⟨d, e, q⟩ => ?_
  obtain ⟨r, ρ2⟩ := x
  simp only at e
  subst e
  exact ⟨_, rfl, _, rfl, q⟩
theorem run_reto {e : E} {b : Tp.S} (h : Ok (evE c e ρ) fun x => ∃ sh xs, x.1 = .ow sh xs ∧ Q (.rt (.ow sh xs) x.2)) : Ok (evS c (.ret e b) ρ) Q := by
  show Ok ((retM c.io (evE c e) ρ).bind _) Q
  rw [ok_bind]
  show Ok ((evE c e ρ).bind _) _
  rw [ok_bind]
  refine h.mono fun x ⟨sh, xs, e, q⟩ => ?_
  obtain ⟨r, ρ2⟩ := x
  simp only at e
  subst e
  exact ⟨_, rfl, _, rfl, q⟩
/-- no branch taken goes on -/
theorem run_ife {t : E} {x y b : Tp.S} (h : Ok (evB c t ρ) fun z => if z.1 = true then Ok (evS c x z.2) fun f => ∃ ρ2, f = .nx ρ2 ∧ Ok (evS c b ρ2) Q else Ok (evS c y z.2) fun f => ∃ ρ2, f = .nx ρ2 ∧ Ok (evS c b ρ2) Q) : Ok (evS c (.ife t x y b) ρ) Q := by
  refine run_seq ?_
  show Ok ((evB c t ρ).bind _) _
  rw [ok_bind]
  refine h.mono fun z h => ?_
  by_cases k : z.1 = true
  · rw [if_pos k] at h ⊢; exact h
  · rw [if_neg k] at h ⊢; exact h
theorem run_fr {t : T} {it : E} {x b : Tp.S} (P : Nat → List Sl → Prop) (h : Ok (evI c it ρ) fun y => P 0 y.2 ∧ (∀ d ∈ y.1, ∀ n ρ, P n ρ → Ok (evG c t (.d d) ρ) fun ρ1 => Ok (evS c x ρ1) fun f => ∃ ρ2, f = .nx ρ2 ∧ P (n + 1) ρ2) ∧ ∀ ρ2, P y.1.length ρ2 → Ok (evS c b ρ2) Q) : Ok (evS c (.fr t it x b) ρ) Q := by
  refine run_seq ?_
  show Ok ((evI c it ρ).bind _) _
  rw [ok_bind]
  refine h.mono fun y ⟨p, body, fin⟩ => ?_
  exact for_then P body p fun ρ2 q => ⟨ρ2, rfl, fin ρ2 q⟩
theorem fn_run {cf : Cfg} {m : Nat} {ir : Tp.S} {as : List Sl} {Q : R × List Sl → Prop} (hi : ioIn cf.io as = true) (h : Ok (evS cf ir (as ++ List.replicate (m - as.length) .un)) fun f => Ok (finS cf.io as.length f) Q) : Ok (fnS cf m ir as) Q := by
  unfold fnS
  rw [if_pos hi, ok_bind]
  exact h
end
end Tp
set_option linter.all false
set_option maxRecDepth 100000
set_option maxHeartbeats 400000
namespace Tp
open PySem PySem.Spec PyProof.Rows L2
theorem sl_n0 {ρ : List Sl} {k : Nat} : slsOf none ρ k [] = .ok [] := (rfl)
theorem sl_n1 {ρ : List Sl} {k : Nat} {a : D} {rs : List R} : slsOf none ρ k (.d a :: rs) = (slsOf none ρ (k + 1) rs).bind fun ss => .ok (.st a :: ss) := (rfl)
theorem bk_n {rs : List R} {o ρ : List Sl} : backS none rs o ρ = .ok ρ := (rfl)
theorem nv_d {d : D} : noVw (.d d) = true := (rfl)
theorem nv_o {sh : Sh} {xs : List D} : noVw (.ow sh xs) = true := (rfl)
theorem in62 {b : Int} (h : 0 ≤ b) (h2 : b < 1000000) : -(2 ^ 62) ≤ b ∧ b < 2 ^ 62 := ⟨by omega, by omega⟩
theorem rng1 {c : Cfg} {a : E} {ρ ρ2 : List Sl} {b : Int} (e : evE c a ρ = .ok (.d (.int b), ρ2)) (h : 0 ≤ b) (h2 : b < 1000000) : evI c (.rng (.cons a .nil)) ρ = .ok (rngL 0 b, ρ2) := by
  rw [i_rng, ap_rng, a_cons, a_nil, ap_cons, e]
  exact if_pos (in62 h h2)
theorem e_call1 {c : Cfg} {j : Nat} {a : E} {k : Cal} (h : c.C[j]? = some k) : evE c (.call j a) = callM k (evA c a) := by
  rw [e_call0, h]
theorem e_callk1 {c : Cfg} {j : Nat} {a b : E} {k : KCal} (h : c.KC[j]? = some k) : evE c (.callk j a b) = callM k.c (permM k.perm (appendM (evA c a) (evA c b))) := by
  rw [e_callk0, h]
end Tp
set_option linter.all false
set_option maxRecDepth 1500
set_option maxHeartbeats 1000000
namespace Tp
open PySem PySem.Spec PyProof.Rows L2
/-- a for whose turn knows its number and its item -/
theorem forF_ix {g : GM} {m : SM} (P : Nat → List Sl → Prop) (full : List D) (h : ∀ i d ρ, full[i]? = some d → P i ρ → Ok (g (.d d) ρ) fun ρ1 => Ok (m ρ1) fun f => ∃ ρ2, f = .nx ρ2 ∧ P (i + 1) ρ2) : ∀ (ds : List D) (n : Nat) (ρ : List Sl), ds = full.drop n → P n ρ → n ≤ full.length → Ok (forF g m ds ρ) fun f => ∃ ρ2, f = .nx ρ2 ∧ P full.length ρ2
  | [], n, ρ, e, p, hn => by
    have : n = full.length := by
      have := List.drop_eq_nil_iff.mp e.symm
      omega
    subst this
    exact ⟨.nx ρ, rfl, ρ, rfl, p⟩
  | d :: ds, n, ρ, e, p, hn => by
    have hd : full[n]? = some d := by
      have : (full.drop n)[0]? = some d := by rw [← e]; rfl
      rw [List.getElem?_drop] at this
      exact this
    have a := h n d ρ hd p
    show Ok ((g (.d d) ρ).bind fun ρ1 => (m ρ1).bind fun f => match f with
    | .nx ρ' => forF g m ds ρ'
    | .ct ρ' => forF g m ds ρ'
    | .bk ρ' => .ok (.nx ρ')
    | .rt r ρ' => .ok (.rt r ρ')) _
    rw [ok_bind]
    refine a.mono fun ρ1 a => ?_
    rw [ok_bind]
    refine a.mono fun f a => ?_
    obtain ⟨ρ2, rfl, p2⟩ := a
    have lt : n < full.length := (List.getElem?_eq_some_iff.mp hd).1
    have e2 : ds = full.drop (n + 1) := by
      rw [← List.drop_drop, ← e]
      rfl
    exact forF_ix P full h ds (n + 1) ρ2 e2 p2 lt
theorem run_frI {c : Cfg} {ρ : List Sl} {Q : Fl → Prop} {t : T} {it : E} {x b : Tp.S} (P : Nat → List Sl → Prop) (h : Ok (evI c it ρ) fun y => P 0 y.2 ∧ (∀ i d ρ, y.1[i]? = some d → P i ρ → Ok (evG c t (.d d) ρ) fun ρ1 => Ok (evS c x ρ1) fun f => ∃ ρ2, f = .nx ρ2 ∧ P (i + 1) ρ2) ∧ ∀ ρ2, P y.1.length ρ2 → Ok (evS c b ρ2) Q) : Ok (evS c (.fr t it x b) ρ) Q := by
  refine run_seq ?_
  show Ok ((evI c it ρ).bind _) _
  rw [ok_bind]
  refine h.mono fun y ⟨p, body, fin⟩ => ?_
  exact (forF_ix P y.1 body y.1 0 y.2 rfl p (Nat.zero_le _)).mono fun f ⟨ρ2, e, q⟩ => ⟨ρ2, e, fin ρ2 q⟩
theorem rng_get {lo hi : Int} {i : Nat} {d : D} (h : (rngL lo hi)[i]? = some d) : d = .int (lo + i) := by
  unfold rngL at h
  rw [List.getElem?_map] at h
  cases q : (List.range (hi - lo).toNat)[i]? with
  | none => rw [q] at h; cases h
  | some j =>
    rw [q] at h
    obtain ⟨hj, e⟩ := List.getElem?_eq_some_iff.mp q
    rw [List.getElem_range] at e
    subst e
    cases h
    rfl
end Tp
set_option linter.all false
set_option maxRecDepth 1500
set_option maxHeartbeats 1000000
namespace Tp
open PySem PySem.Spec PyProof.Rows L2
/-! ### more rules for running -/
def vgo (i : Nat) (ρ : List Sl) : Option Sl → Out (R × List Sl)
  | some (.st d) => .ok (.d d, ρ)
  | some (.ow _ _) => .ok (.vw i, ρ)
  | _ => .stuck
theorem vM {i : Nat} {ρ : List Sl} : varM i ρ = vgo i ρ ρ[i]? := by
  unfold varM vgo
  rfl
theorem vg_d {i : Nat} {ρ : List Sl} {d : D} : vgo i ρ (some (.st d)) = .ok (.d d, ρ) := (rfl)
theorem vg_o {i : Nat} {ρ : List Sl} {sh : Sh} {xs : List D} : vgo i ρ (some (.ow sh xs)) = .ok (.vw i, ρ) := (rfl)
def rvgo : Option Sl → Out D
  | some (.st d) => .ok d
  | some (.ow sh xs) => .ok (.ob sh xs)
  | _ => .stuck
def swgo : Option Sl → Out Sl
  | some (.ow sh xs) => .ok (.ow sh xs)
  | _ => .stuck
theorem sw_o {sh : Sh} {xs : List D} : swgo (some (.ow sh xs)) = .ok (.ow sh xs) := (rfl)
theorem sl_0 {io : Option Nat} {ρ : List Sl} {k : Nat} : slsOf io ρ k [] = .ok [] := (rfl)
theorem sl_c {io : Option Nat} {ρ : List Sl} {k : Nat} {r : R} {rs : List R} : slsOf io ρ k (r :: rs) = (slOf io ρ k r).bind fun s => (slsOf io ρ (k + 1) rs).bind fun ss => .ok (s :: ss) := (rfl)
theorem so_v {io : Option Nat} {ρ : List Sl} {k i : Nat} : slOf io ρ k (.vw i) = if io = some k then swgo ρ[i]? else .stuck := by
  unfold slOf swgo; rfl
theorem so_d {io : Option Nat} {ρ : List Sl} {k : Nat} {x : D} : slOf io ρ k (.d x) = if io = some k then .stuck else .ok (.st x) := (rfl)
theorem so_nd {ρ : List Sl} {k : Nat} {x : D} : slOf none ρ k (.d x) = .ok (.st x) := (rfl)
def bgo (ρ : List Sl) : Option R → Option Sl → Out (List Sl)
  | some (.vw i), some (.ow sh xs) => .ok (ρ.set i (.ow sh xs))
  | _, _ => .stuck
theorem bk_s {k : Nat} {rs : List R} {o ρ : List Sl} : backS (some k) rs o ρ = bgo ρ rs[k]? o[k]? := by
  unfold backS bgo; rfl
theorem bg_o {ρ : List Sl} {i : Nat} {sh : Sh} {xs : List D} : bgo ρ (some (.vw i)) (some (.ow sh xs)) = .ok (ρ.set i (.ow sh xs)) := (rfl)
def fzgo (io : Option Nat) (i : Nat) (ρ : List Sl) : Option Sl → Out Fl
  | some (.ow sh xs) => if io = some i then .stuck else .ok (.nx (ρ.set i (.st (.ob sh xs))))
  | _ => .stuck
theorem fzM {io : Option Nat} {i : Nat} {ρ : List Sl} : frzM io i ρ = fzgo io i ρ ρ[i]? := by
  unfold frzM fzgo; rfl
theorem fz_o {io : Option Nat} {i : Nat} {ρ : List Sl} {sh : Sh} {xs : List D} : fzgo io i ρ (some (.ow sh xs)) = if io = some i then .stuck else .ok (.nx (ρ.set i (.st (.ob sh xs)))) := (rfl)
def ogo (k n : Nat) : Option Sl → Out (List Sl)
  | some (.ow sh xs) => if k < n then .ok ((List.replicate n .un).set k (.ow sh xs)) else .stuck
  | _ => .stuck
theorem os_s {k n : Nat} {ρ : List Sl} : outsOf (some k) n ρ = ogo k n ρ[k]? := by
  unfold outsOf ogo; rfl
theorem og_o {k n : Nat} {sh : Sh} {xs : List D} : ogo k n (some (.ow sh xs)) = if k < n then .ok ((List.replicate n .un).set k (.ow sh xs)) else .stuck := (rfl)
def vlgo : Option Sl → Out D
  | some (.ow sh xs) => .ok (.ob sh xs)
  | _ => .stuck
theorem val_v {ρ : List Sl} {i : Nat} : R.val ρ (.vw i) = vlgo ρ[i]? := by
  unfold R.val vlgo; rfl
theorem vl_o {sh : Sh} {xs : List D} : vlgo (some (.ow sh xs)) = .ok (.ob sh xs) := (rfl)
def sgo (i : Nat) (x : D) (ρ : List Sl) : Option Sl → D → Out (List Sl)
  | some (.ow .lst xs), .int n => (ofO (ixN xs.length n)).bind fun j => .ok (ρ.set i (.ow .lst (xs.set j x)))
  | _, _ => .stuck
def s0go : Option Sl → Out Unit
  | some (.ow _ _) => .ok ()
  | _ => .stuck
theorem s0_o {sh : Sh} {xs : List D} : s0go (some (.ow sh xs)) = .ok () := (rfl)
theorem gsub {i : Nat} {mk : M R} {x : D} {ρ : List Sl} : gSubM i mk (.d x) ρ = (s0go ρ[i]?).bind fun _ => (mk ρ).bind fun y => (y.1.hand.val y.2).bind fun k => sgo i x y.2 y.2[i]? k := by
  cases e : ρ[i]? with
  | none => simp only [gSubM, e, s0go] <;> rfl
  | some s => cases s <;> simp only [gSubM, e, s0go] <;> rfl
theorem sg_o {i : Nat} {x : D} {ρ : List Sl} {xs : List D} {n : Int} : sgo i x ρ (some (.ow .lst xs)) (.int n) = (ofO (ixN xs.length n)).bind fun j => .ok (ρ.set i (.ow .lst (xs.set j x))) := (rfl)
def apgo (i : Nat) (ρ : List Sl) : R → Option Sl → Out (R × List Sl)
  | .d x, some (.ow .lst xs) => if xs.length < sizeLine then .ok (.d .non, ρ.set i (.ow .lst (xs ++ [x]))) else .stuck
  | _, _ => .stuck
def a0go : Option Sl → Out Unit
  | some (.ow .lst _) => .ok ()
  | _ => .stuck
theorem a0_o {xs : List D} : a0go (some (.ow .lst xs)) = .ok () := (rfl)
theorem ap_o {i : Nat} {ρ : List Sl} {x : D} {xs : List D} : apgo i ρ (.d x) (some (.ow .lst xs)) = if xs.length < sizeLine then .ok (.d .non, ρ.set i (.ow .lst (xs ++ [x]))) else .stuck := (rfl)
theorem appd {i : Nat} {ma : M R} {ρ : List Sl} : appM i ma ρ = (a0go ρ[i]?).bind fun _ => (ma ρ).bind fun y => apgo i y.2 y.1.hand y.2[i]? := by
  unfold appM a0go
  cases ρ[i]? with
  | none => rfl
  | some s =>
    cases s with
    | ow sh xs =>
      cases sh with
      | lst => rfl
      | _ => rfl
    | _ => rfl
def ppgo (i : Nat) (ρ : List Sl) : Option Sl → Out (R × List Sl)
  | some (.ow .lst xs) => (ofO xs[xs.length - 1]?).bind fun d => .ok (.d d, ρ.set i (.ow .lst xs.dropLast))
  | _ => .stuck
theorem popd {i : Nat} {ρ : List Sl} : popM i ρ = ppgo i ρ ρ[i]? := by unfold popM ppgo; rfl
theorem pp_o {i : Nat} {ρ : List Sl} {xs : List D} : ppgo i ρ (some (.ow .lst xs)) = (ofO xs[xs.length - 1]?).bind fun d => .ok (.d d, ρ.set i (.ow .lst xs.dropLast)) := (rfl)
def rtgo (io : Option Nat) (x : R × List Sl) : Out Fl := match x.1 with
  | .vw i => if io = some i then .stuck else (match x.2[i]? with
    | some (.ow sh xs) => .ok (.rt (.ow sh xs) (x.2.set i .un))
    | _ => .stuck)
  | r => .ok (.rt r x.2)
def r0go (i : Nat) (ρ : List Sl) : Option Sl → Out Fl
  | some (.ow sh xs) => .ok (.rt (.ow sh xs) (ρ.set i .un))
  | _ => .stuck
theorem retd {io : Option Nat} {me : M R} {ρ : List Sl} : retM io me ρ = (me ρ).bind fun x => rtgo io x := (rfl)
theorem rt_d {io : Option Nat} {d : D} {ρ : List Sl} : rtgo io (.d d, ρ) = .ok (.rt (.d d) ρ) := (rfl)
theorem rt_o {io : Option Nat} {sh : Sh} {xs : List D} {ρ : List Sl} : rtgo io (.ow sh xs, ρ) = .ok (.rt (.ow sh xs) ρ) := (rfl)
theorem rt_v {io : Option Nat} {i : Nat} {ρ : List Sl} : rtgo io (.vw i, ρ) = if io = some i then .stuck else r0go i ρ ρ[i]? := by unfold rtgo r0go; rfl
theorem r0_o {i : Nat} {ρ : List Sl} {sh : Sh} {xs : List D} : r0go i ρ (some (.ow sh xs)) = .ok (.rt (.ow sh xs) (ρ.set i .un)) := (rfl)
theorem rw_1 {m : M R} {ms : List (M R)} {ρ : List Sl} : rawM (m :: ms) ρ = (m ρ).bind fun x => (rawM ms x.2).bind fun y => .ok (x.1 :: y.1, y.2) := (rfl)
theorem sa_t {io : Option Nat} {i : Nat} {ns : List (Nat × Bool)} {r : R} {rs : List R} {ρ : List Sl} : setAll io ((i, true) :: ns) (r :: rs) ρ = (gNm io i r ρ).bind fun ρ2 => setAll io ns rs ρ2 := (rfl)
theorem sa_f {io : Option Nat} {i : Nat} {ns : List (Nat × Bool)} {r : R} {rs : List R} {ρ : List Sl} : setAll io ((i, false) :: ns) (r :: rs) ρ = (gNs i r ρ).bind fun ρ2 => setAll io ns rs ρ2 := (rfl)
def itgo (io : Option Nat) (ρ : List Sl) : R → Out (List D × List Sl)
  | .d (.ob sh xs) => if isL sh = true ∨ sh = .tup then .ok (xs, ρ) else .stuck
  | .vw i => if io = some i then .stuck else (match ρ[i]? with
    | some (.ow .lst xs) => .ok (xs, ρ.set i (.st (.ob .lst xs)))
    | _ => .stuck)
  | _ => .stuck
theorem itd {io : Option Nat} {me : M R} {ρ : List Sl} : itM io me ρ = (me ρ).bind fun x => itgo io x.2 x.1.hand := by
  unfold itM itgo
  rfl
theorem it_l {io : Option Nat} {ρ : List Sl} {xs : List D} : itgo io ρ (.d (.ob .lst xs)) = .ok (xs, ρ) := (rfl)
theorem it_f {io : Option Nat} {ρ : List Sl} {xs : List D} : itgo io ρ (.d (.ob .fz xs)) = .ok (xs, ρ) := (rfl)
theorem it_t {io : Option Nat} {ρ : List Sl} {xs : List D} : itgo io ρ (.d (.tup xs)) = .ok (xs, ρ) := (rfl)
def engo (ρ : List Sl) : List R → Out (List D × List Sl)
  | [.d (.ob sh xs)] => if isL sh = true ∨ sh = .tup then .ok (enumL 0 xs, ρ) else .stuck
  | _ => .stuck
theorem end_ {ma : M (List R)} {ρ : List Sl} : enumM ma ρ = (ma ρ).bind fun x => engo x.2 x.1 := by unfold enumM engo; rfl
theorem en_l {ρ : List Sl} {xs : List D} : engo ρ [.d (.ob .lst xs)] = .ok (enumL 0 xs, ρ) := (rfl)
theorem en_t {ρ : List Sl} {xs : List D} : engo ρ [.d (.tup xs)] = .ok (enumL 0 xs, ρ) := (rfl)
theorem en_f {ρ : List Sl} {xs : List D} : engo ρ [.d (.ob .fz xs)] = .ok (enumL 0 xs, ρ) := (rfl)
theorem call1 {c : Cfg} {j : Nat} {a : E} : evE c (.call j a) = match c.C[j]? with
    | some k => callM k (evA c a)
    | none => stkM := (rfl)
/-! the tail of a call -/
theorem ofO_s {α : Type} {a : α} : ofO (some a) = .ok a := (rfl)
theorem ix_l {xs : List D} {i : Int} : ixD (.ob .lst xs) (.int i) = (ofO (atI xs i)).bind fun d => .ok (.d d) := (rfl)
theorem ix_f {xs : List D} {i : Int} : ixD (.ob .fz xs) (.int i) = (ofO (atI xs i)).bind fun d => .ok (.d d) := (rfl)
theorem ix_t {xs : List D} {i : Int} : ixD (.tup xs) (.int i) = (ofO (atI xs i)).bind fun d => .ok (.d d) := (rfl)
theorem at_0 {α : Type} {x : α} {xs : List α} : atI (x :: xs) 0 = some x := by
  unfold atI ixN
  simp
theorem at_1 {α : Type} {x y : α} {xs : List α} : atI (x :: y :: xs) 1 = some y := by
  have h : (1 : Int) < ((x :: y :: xs).length : Nat) := by simp only [List.length_cons]; omega
  have e : ixN (x :: y :: xs).length 1 = some 1 := by
    unfold ixN
    rw [if_pos (by decide), if_pos h]; rfl
  unfold atI
  rw [e]; rfl
theorem at_2 {α : Type} {x y z : α} {xs : List α} : atI (x :: y :: z :: xs) 2 = some z := by
  have h : (2 : Int) < ((x :: y :: z :: xs).length : Nat) := by simp only [List.length_cons]; omega
  have e : ixN (x :: y :: z :: xs).length 2 = some 2 := by
    unfold ixN
    rw [if_pos (by decide), if_pos h]; rfl
  unfold atI
  rw [e]; rfl
theorem ixn_0 {n : Nat} : ixN (n + 1) 0 = some 0 := by unfold ixN; simp
theorem ixn_3 : ixN 3 0 = some 0 ∧ ixN 3 1 = some 1 ∧ ixN 3 2 = some 2 := by decide
theorem bi_int {i : Int} : biD .int [.int i] = .ok (.d (.int i)) := (rfl)
theorem bi_abs {i : Int} : biD .abs [.int i] = .ok (.d (.int (if i < 0 then -i else i))) := (rfl)
theorem bi_min {i j : Int} : biD .min [.int i, .int j] = .ok (.d (.int (if j < i then j else i))) := (rfl)
theorem bi_max {i j : Int} : biD .max [.int i, .int j] = .ok (.d (.int (if j > i then j else i))) := (rfl)
theorem bi_gcd {i j : Int} : biD .gcd [.int i, .int j] = .ok (.d (.int (Nat.gcd i.natAbs j.natAbs : Nat))) := (rfl)
theorem bi_lenl {xs : List D} : biD .len [.ob .lst xs] = .ok (.d (.int xs.length)) := (rfl)
theorem bi_lenf {xs : List D} : biD .len [.ob .fz xs] = .ok (.d (.int xs.length)) := (rfl)
theorem bi_lent {xs : List D} : biD .len [.tup xs] = .ok (.d (.int xs.length)) := (rfl)
theorem bi_tupl {xs : List D} : biD .tuple [.ob .lst xs] = .ok (.d (.tup xs)) := (rfl)
theorem bi_tupf {xs : List D} : biD .tuple [.ob .fz xs] = .ok (.d (.tup xs)) := (rfl)
theorem bi_repr' {d : D} {s : Str} (h : reprD d = .ok s) : biD .repr [d] = .ok (.d (.str s)) := by
  show (reprD d).bind _ = _
  rw [h]; rfl
theorem bi_isint {i : Int} : biD .isinstance [.int i, .ty .int] = .ok (.d (.bl true)) := (rfl)
theorem bi_isbool {i : Int} : biD .isinstance [.int i, .ty .bool] = .ok (.d (.bl false)) := (rfl)
theorem bi_istup {xs : List D} : biD .isinstance [.tup xs, .ty .tuple] = .ok (.d (.bl true)) := (rfl)
theorem is_non : cmpop .Is .non .non = .ok true := (rfl)
theorem is_int {i : Int} : cmpop .Is (.int i) .non = .ok false := (rfl)
theorem is_ob {sh : Sh} {xs : List D} : cmpop .Is (.ob sh xs) .non = .ok false := (rfl)
theorem isn_non : cmpop .IsNot .non .non = .ok false := (rfl)
theorem isn_int {i : Int} : cmpop .IsNot (.int i) .non = .ok true := (rfl)
theorem isn_ob {sh : Sh} {xs : List D} : cmpop .IsNot (.ob sh xs) .non = .ok true := (rfl)
theorem cmp_eqb {a b : Bool} : cmpop .Eq (.bl a) (.bl b) = .ok (decide (a = b)) := (rfl)
theorem cmp_neb {a b : Bool} : cmpop .NotEq (.bl a) (.bl b) = .ok (!decide (a = b)) := (rfl)
theorem chn_ap {ρ : List Sl} {g g' : D → D → Out Bool} {ma mb mc : M R} : chnM g g' ma mb mc ρ = (ma ρ).bind fun x => (mb x.2).bind fun y => (x.1.hand.val y.2).bind fun a => (y.1.hand.val y.2).bind fun b => (g a b).bind fun r => if r = true then
  (mc y.2).bind fun z => (y.1.hand.val z.2).bind fun b' => (z.1.hand.val z.2).bind fun c => (g' b' c).bind fun r' => .ok (.d (.bl r'), z.2) else .ok (.d (.bl false), y.2) := (rfl)
theorem big_lt {n : Nat} (h : n < 10 ^ 30) : n < big := big_of (Nat.le_of_lt (Nat.lt_trans h (by decide +kernel)))
/-! ### loops that end -/
/-- a while: m falls at each turn, P stays -/
theorem whileF_ok {c : M Bool} {m : SM} (P : List Sl → Prop) (f : List Sl → Nat) {Q : Fl → Prop}
    (h : ∀ ρ, P ρ → Ok (c ρ) fun x => if x.1 = true then Ok (m x.2) fun r => ∃ ρ2, r = .nx ρ2 ∧ P ρ2 ∧ f ρ2 < f ρ else Q (.nx x.2)) : ∀ (n : Nat) (W : Nat) (ρ : List Sl), f ρ ≤ n → n < W → P ρ → Ok (whileF c m W ρ) Q
  | n, 0, ρ, _, hw, _ => by omega
  | n, W + 1, ρ, hn, hw, p => by
    have a := h ρ p
    show Ok ((c ρ).bind fun x => if x.1 = true then (m x.2).bind (fun f => match f with
    | .nx ρ' => whileF c m W ρ'
    | .ct ρ' => whileF c m W ρ'
    | .bk ρ' => .ok (.nx ρ')
    | .rt r ρ' => .ok (.rt r ρ')) else .ok (.nx x.2)) Q
    rw [ok_bind]
    refine a.mono fun x a => ?_
    by_cases k : x.1 = true
    · rw [if_pos k] at a ⊢
      rw [ok_bind]
      refine a.mono fun r ⟨ρ2, e, p2, lt⟩ => ?_
      subst e
      cases n with
      | zero => omega
      | succ n => exact whileF_ok P f h n W ρ2 (by omega) (by omega) p2
    · rw [if_neg k] at a ⊢
      rw [ok_ok]
      exact a
theorem run_wh {c : Cfg} {ρ : List Sl} {Q : Fl → Prop} {W : Nat} {t : E} {x b : Tp.S} (P : List Sl → Prop) (f : List Sl → Nat) (p : P ρ) (hf : f ρ < W)
    (h : ∀ ρ, P ρ → Ok (evB c t ρ) fun z => if z.1 = true then Ok (evS c x z.2) fun r => ∃ ρ2, r = .nx ρ2 ∧ P ρ2 ∧ f ρ2 < f ρ else Ok (evS c b z.2) Q) : Ok (evS c (.wh W t x b) ρ) Q := by
  refine run_seq ?_
  refine whileF_ok P f (Q := fun r => ∃ ρ2, r = .nx ρ2 ∧ Ok (evS c b ρ2) Q) (fun ρ p => ?_) (f ρ) W ρ (Nat.le_refl _) hf p
  refine (h ρ p).mono fun z a => ?_
  by_cases k : z.1 = true
  · rw [if_pos k] at a ⊢; exact a
  · rw [if_neg k] at a ⊢; exact ⟨_, rfl, a⟩
/-- a for that may return early: P at each turn, or Q of what it returns -/
theorem forF_or {g : GM} {m : SM} (P : Nat → List Sl → Prop) (full : List D) {Q : Fl → Prop} (h : ∀ i d ρ, full[i]? = some d → P i ρ → Ok (g (.d d) ρ) fun ρ1 => Ok (m ρ1) fun f => (∃ ρ2, (f = .nx ρ2 ∨ f = .ct ρ2) ∧ P (i + 1) ρ2) ∨ (∃ r ρ2, f = .rt r ρ2 ∧ Q f) ∨ (∃ ρ2, f = .bk ρ2 ∧ Q (.nx ρ2))) (fin : ∀ ρ2, P full.length ρ2 → Q (.nx ρ2)) : ∀ (ds : List D) (n : Nat) (ρ : List Sl), ds = full.drop n → P n ρ → n ≤ full.length → Ok (forF g m ds ρ) Q
  | [], n, ρ, e, p, hn => by
    have : n = full.length := by
      have := List.drop_eq_nil_iff.mp e.symm
      omega
    subst this
    exact ⟨.nx ρ, rfl, fin ρ p⟩
  | d :: ds, n, ρ, e, p, hn => by
    have hd : full[n]? = some d := by
      have : (full.drop n)[0]? = some d := by rw [← e]; rfl
      rw [List.getElem?_drop] at this
      exact this
    have a := h n d ρ hd p
    show Ok ((g (.d d) ρ).bind fun ρ1 => (m ρ1).bind fun f => match f with
    | .nx ρ' => forF g m ds ρ'
    | .ct ρ' => forF g m ds ρ'
    | .bk ρ' => .ok (.nx ρ')
    | .rt r ρ' => .ok (.rt r ρ')) _
    rw [ok_bind]
    refine a.mono fun ρ1 a => ?_
    rw [ok_bind]
    refine a.mono fun f a => ?_
    have lt : n < full.length := (List.getElem?_eq_some_iff.mp hd).1
    have e2 : ds = full.drop (n + 1) := by
      rw [← List.drop_drop, ← e]
      rfl
    rcases a with ⟨ρ2, z, p2⟩ | ⟨r, ρ2, z, q⟩ | ⟨ρ2, z, q⟩
    · rcases z with rfl | rfl
      · exact forF_or P full h fin ds (n + 1) ρ2 e2 p2 lt
      · exact forF_or P full h fin ds (n + 1) ρ2 e2 p2 lt
    · subst z; exact ⟨_, rfl, q⟩
    · subst z; exact ⟨_, rfl, q⟩
theorem run_frO {c : Cfg} {ρ : List Sl} {Q : Fl → Prop} {t : T} {it : E} {x b : Tp.S} (P : Nat → List Sl → Prop) (h : Ok (evI c it ρ) fun y => P 0 y.2 ∧ (∀ i d ρ, y.1[i]? = some d → P i ρ → Ok (evG c t (.d d) ρ) fun ρ1 => Ok (evS c x ρ1) fun f => (∃ ρ2, (f = .nx ρ2 ∨ f = .ct ρ2) ∧ P (i + 1) ρ2) ∨ (∃ r ρ2, f = .rt r ρ2 ∧ Q f) ∨ (∃ ρ2, f = .bk ρ2 ∧ Ok (evS c b ρ2) Q)) ∧ ∀ ρ2, P y.1.length ρ2 → Ok (evS c b ρ2) Q) : Ok (evS c (.fr t it x b) ρ) Q := by
  show Ok ((forM (evI c it) (evG c t) (evS c x) ρ).bind _) Q
  rw [ok_bind]
  show Ok ((evI c it ρ).bind _) _
  rw [ok_bind]
  refine h.mono fun y ⟨p, body, fin⟩ => ?_
  refine forF_or P y.1 (Q := fun f => Ok (match f with | .nx ρ' => evS c b ρ' | f => .ok f) Q) (fun i d ρ hd hp => ?_) (fun ρ2 p2 => fin ρ2 p2) y.1 0 y.2 rfl p (Nat.zero_le _)
  refine (body i d ρ hd hp).mono fun ρ1 a => a.mono fun f a => ?_
  rcases a with a | ⟨r, ρ2, z, q⟩ | ⟨ρ2, z, q⟩
  · exact .inl a
  · refine .inr (.inl ⟨r, ρ2, z, ?_⟩)
    subst z
    exact ⟨_, rfl, q⟩
  · exact .inr (.inr ⟨ρ2, z, q⟩)
/-- a branch that may return -/
theorem run_ifr {c : Cfg} {ρ : List Sl} {Q : Fl → Prop} {t : E} {x y b : Tp.S} (h : Ok (evB c t ρ) fun z => if z.1 = true then Ok (evS c x z.2) fun f => (∃ ρ2, f = .nx ρ2 ∧ Ok (evS c b ρ2) Q) ∨ ((∀ ρ2, f ≠ .nx ρ2) ∧ Q f) else Ok (evS c y z.2) fun f => (∃ ρ2, f = .nx ρ2 ∧ Ok (evS c b ρ2) Q) ∨ ((∀ ρ2, f ≠ .nx ρ2) ∧ Q f)) : Ok (evS c (.ife t x y b) ρ) Q := by
  show Ok ((ifM (evB c t) (evS c x) (evS c y) ρ).bind _) Q
  rw [ok_bind]
  show Ok ((evB c t ρ).bind _) _
  rw [ok_bind]
  refine h.mono fun z h => ?_
  have key : ∀ f : Fl, (∃ ρ2, f = .nx ρ2 ∧ Ok (evS c b ρ2) Q) ∨ ((∀ ρ2, f ≠ .nx ρ2) ∧ Q f) → Ok (match f with | .nx ρ2 => evS c b ρ2 | f => .ok f) Q := by
    rintro f (⟨ρ2, rfl, q⟩ | ⟨n, q⟩)
    · exact q
    · cases f with
      | nx ρ2 => exact absurd rfl (n ρ2)
      | _ => exact ⟨_, rfl, q⟩
  by_cases k : z.1 = true
  · rw [if_pos k] at h ⊢; exact h.mono fun f a => key f a
  · rw [if_neg k] at h ⊢; exact h.mono fun f a => key f a
theorem run_frz {c : Cfg} {ρ : List Sl} {Q : Fl → Prop} {i : Nat} {b : Tp.S} (h : Ok (frzM c.io i ρ) fun f => ∃ ρ2, f = .nx ρ2 ∧ Ok (evS c b ρ2) Q) : Ok (evS c (.frz i b) ρ) Q := run_seq h
theorem run_nxt {c : Cfg} {ρ : List Sl} {Q : Fl → Prop} (h : Q (.nx ρ)) : Ok (evS c .nx ρ) Q := ⟨_, rfl, h⟩
theorem run_rt {c : Cfg} {ρ : List Sl} {Q : Fl → Prop} {e : E} {b : Tp.S} (h : Ok (evE c e ρ) fun x => Ok (rtgo c.io x) fun f => ∃ r ρ2, f = .rt r ρ2 ∧ Q f) : Ok (evS c (.ret e b) ρ) Q := by
  show Ok ((retM c.io (evE c e) ρ).bind _) Q
  rw [ok_bind, retd, ok_bind]
  refine h.mono fun x a => a.mono fun f ⟨r, ρ2, z, q⟩ => ?_
  subst z
  exact ⟨_, rfl, q⟩
theorem rep_s {n : Nat} : List.replicate (n + 1) Sl.un = .un :: List.replicate n .un := (rfl)
theorem rep_0 : List.replicate 0 Sl.un = [] := (rfl)
theorem ok_ifi {c : Prop} [Decidable c] {a b : Int} {ρ : List Sl} {Q : R × List Sl → Prop} : Ok (if c then .ok (.d (.int a), ρ) else .ok (.d (.int b), ρ)) Q = Q (.d (.int (if c then a else b)), ρ) := by
  by_cases h : c
  · rw [if_pos h, if_pos h, ok_ok]
  · rw [if_neg h, if_neg h, ok_ok]
theorem at_nat {xs : List Int} {j : Nat} (h : j < xs.length) : atI (xs.map D.int) (j : Int) = some (.int (xs.getD j 0)) := by
  have e : ixN (xs.map D.int).length (j : Int) = some j := by
    unfold ixN
    rw [List.length_map, if_pos (by omega), if_pos (by omega)]; rfl
  unfold atI
  rw [e]
  simp [List.getD, h]
theorem ixn_nat {n j : Nat} (h : j < n) : ixN n (j : Int) = some j := by
  unfold ixN
  rw [if_pos (by omega), if_pos (by omega)]; rfl
theorem set_int {xs : List Int} {j : Nat} {v : Int} : (xs.map D.int).set j (.int v) = (xs.set j v).map .int := by
  rw [List.map_set]
theorem rng1' {b : Int} {ρ : List Sl} (h : 0 ≤ b) (h2 : b < 1000000) : rngM (consM (fun _ => .ok (.d (.int b), ρ)) nilM) ρ = .ok (rngL 0 b, ρ) := if_pos (in62 h h2)
theorem rng_of {ma : M (List R)} {ρ ρ2 : List Sl} {b : Int} (e : ma ρ = .ok ([.d (.int b)], ρ2)) (h : -1000000 ≤ b) (h2 : b < 1000000) : rngM ma ρ = .ok (rngL 0 b, ρ2) := by
  rw [ap_rng, e]
  exact if_pos ⟨by omega, by omega⟩
theorem ok_rng {a : M R} {ρ : List Sl} {Q : List D × List Sl → Prop} (h : Ok (a ρ) fun x => ∃ b : Int, x.1 = .d (.int b) ∧ (-1000000 ≤ b ∧ b < 1000000) ∧ Q (rngL 0 b, x.2)) : Ok (rngM (consM a nilM) ρ) Q := by
  obtain ⟨⟨r, ρ2⟩, e, b, e2, ⟨h1, h2⟩, q⟩ := h.out
  simp only at e2
  subst e2
  refine Ok.of (rng_of (ma := consM a nilM) (ρ := ρ) (ρ2 := ρ2) (b := b) ?_ h1 h2) q
  show ((a ρ).bind _) = _
  rw [e]
  rfl
theorem ok_rng2 {a a2 : M R} {ρ : List Sl} {Q : List D × List Sl → Prop} (h : Ok (a ρ) fun x => ∃ b : Int, x.1 = .d (.int b) ∧ (-1000000 ≤ b ∧ b < 1000000) ∧ Ok (a2 x.2) fun x2 => ∃ b2 : Int, x2.1 = .d (.int b2) ∧ (-1000000 ≤ b2 ∧ b2 < 1000000) ∧ Q (rngL b b2, x2.2)) : Ok (rngM (consM a (consM a2 nilM)) ρ) Q := by
  obtain ⟨⟨r, ρ2⟩, e, b, e2, ⟨h1, h2⟩, q⟩ := h.out
  simp only at e2
  subst e2
  obtain ⟨⟨r', ρ3⟩, e', b', e2', ⟨h1', h2'⟩, q⟩ := q.out
  simp only at e2'
  subst e2'
  refine Ok.of (a := (rngL b b', ρ3)) ?_ q
  show (((a ρ).bind _).bind _) = _
  rw [e]
  show ((((a2 ρ2).bind _).bind _).bind _) = _
  rw [e']
  exact if_pos ⟨by omega, by omega, by omega, by omega⟩
theorem map_range_get {α : Type} {f : Nat → α} {n i : Nat} {d : α} (h : ((List.range n).map f)[i]? = some d) : d = f i ∧ i < n := by
  rw [List.getElem?_map] at h
  by_cases q : i < n
  · rw [List.getElem?_range q] at h; cases h; exact ⟨rfl, q⟩
  · rw [List.getElem?_eq_none (by simpa using q)] at h; cases h
theorem rng_get' {lo hi : Int} {i : Nat} {d : D} (h : (rngL lo hi)[i]? = some d) : d = .int (lo + i) ∧ (i : Int) < hi - lo := by
  refine ⟨rng_get h, ?_⟩
  have := (List.getElem?_eq_some_iff.mp h).1
  rw [rng_len] at this
  omega
theorem enumL_get' {k i : Nat} {xs : List D} {d : D} (h : (enumL k xs)[i]? = some d) : ∃ x, xs[i]? = some x ∧ d = .tup [.int ((k + i : Nat) : Int), x] := by
  induction xs generalizing k i with
  | nil => unfold enumL at h; cases h
  | cons x xs ih =>
    unfold enumL at h
    cases i with
    | zero => cases h; exact ⟨x, rfl, by rw [Nat.add_zero]⟩
    | succ i =>
      obtain ⟨y, e1, e2⟩ := ih (k := k + 1) (i := i) (by simpa using h)
      refine ⟨y, by simpa using e1, ?_⟩
      rw [e2, show k + 1 + i = k + (i + 1) by omega]
theorem bi_comb {i j : Int} : biD .comb [.int i, .int j] = if 0 ≤ i ∧ 0 ≤ j ∧ i ≤ 18000 then .ok (.d (.int (combI i j))) else .stuck := (rfl)
theorem rep_flat {α : Type} {x : α} : ∀ n : Nat, (List.replicate n [x]).flatten = List.replicate n x
  | 0 => rfl
  | n + 1 => by rw [List.replicate_succ, List.replicate_succ, List.flatten_cons, rep_flat n]; rfl
theorem sz0 : (0 ≤ sizeLine) = True := eq_true (Nat.le_of_lt (small1000 (by decide)))
theorem sz1 : (1 ≤ sizeLine) = True := eq_true (Nat.le_of_lt (small1000 (by decide)))
theorem sz2 : (2 ≤ sizeLine) = True := eq_true (Nat.le_of_lt (small1000 (by decide)))
theorem sz3 : (3 ≤ sizeLine) = True := eq_true (Nat.le_of_lt (small1000 (by decide)))
theorem sz4 : (4 ≤ sizeLine) = True := eq_true (Nat.le_of_lt (small1000 (by decide)))
theorem sz5 : (5 ≤ sizeLine) = True := eq_true (Nat.le_of_lt (small1000 (by decide)))
theorem sz6 : (6 ≤ sizeLine) = True := eq_true (Nat.le_of_lt (small1000 (by decide)))
theorem sz7 : (7 ≤ sizeLine) = True := eq_true (Nat.le_of_lt (small1000 (by decide)))
theorem sz8 : (8 ≤ sizeLine) = True := eq_true (Nat.le_of_lt (small1000 (by decide)))
theorem mul_l {xs : List D} {k : Int} : binop .Mult (.ob .lst xs) (.int k) = if Operator.Mult = .Mult ∧ -(2 ^ 63) ≤ k ∧ k < 2 ^ 63 ∧ xs.length * k.toNat ≤ sizeLine then .ok (.ow .lst (List.replicate k.toNat xs).flatten) else .stuck := (rfl)
theorem mul_rep {z : Int} {n : Nat} (h : n < 1000) : binop .Mult (.ob .lst [.int z]) (.int (n : Nat)) = .ok (.ow .lst ((List.replicate n z).map .int)) := by
  have e : (List.replicate n [D.int z]).flatten = (List.replicate n z).map .int := by rw [rep_flat, List.map_replicate]
  have h2 : (Operator.Mult = .Mult ∧ -(2 ^ 63) ≤ (n : Int) ∧ (n : Int) < 2 ^ 63 ∧ [D.int z].length * (n : Int).toNat ≤ sizeLine) := by
    refine ⟨rfl, by omega, by omega, Nat.le_of_lt (small1000 ?_)⟩
    rw [List.length_cons, List.length_nil, Int.toNat_natCast]; omega
  rw [mul_l, if_pos h2, Int.toNat_natCast, e]
theorem len_m {l : List Int} : biD .len [.ob .lst (l.map .int)] = .ok (.d (.int (l.length : Nat))) := by
  rw [bi_lenl, List.length_map]
theorem len_mf {l : List Int} : biD .len [.ob .fz (l.map .int)] = .ok (.d (.int (l.length : Nat))) := by
  rw [bi_lenf, List.length_map]
/-- the same def by its combinators -/
def fnM (io : Option Nat) (m : Nat) (b : SM) (as : List Sl) : Out (R × List Sl) := if ioIn io as = true then (b (as ++ List.replicate (m - as.length) .un)).bind (finS io as.length) else .stuck
theorem fnS_M {cf : Cfg} {m : Nat} {ir : Tp.S} : fnS cf m ir = fnM cf.io m (evS cf ir) := (rfl)
/-- an answer that leaves nothing behind -/
def outD : Out (R × List Sl) → Option D
  | .ok (.d d, [.un]) => some d
  | .ok (.d d, [.un, .un]) => some d
  | .ok (.d d, [.un, .un, .un]) => some d
  | .ok (.d d, [.un, .un, .un, .un]) => some d
  | _ => none
end Tp
set_option linter.all false
set_option maxRecDepth 1500
set_option maxHeartbeats 1000000
namespace Tp
open PySem PySem.Spec PyProof.Rows L2
theorem Ok.eq {α : Type} {o : Out α} {a : α} (h : Ok o fun y => y = a) : o = .ok a := by
  obtain ⟨b, e, rfl⟩ := h.out
  exact e
/-! a comprehension -/
theorem compF_ok {vs : List Nat} {g : GM} {mt : M Bool} {me : M R} (P : Nat → List Sl → List D → Prop) (full : List D)
    (h : ∀ i d ρ acc, full[i]? = some d → P i ρ acc → Ok (g (.d d) ρ) fun ρ1 => Ok (mt ρ1) fun z => if z.1 = true then Ok (me z.2) fun y => ∃ e, y.1.hand = .d e ∧ P (i + 1) (wipeS y.2 vs) (acc ++ [e]) else P (i + 1) (wipeS z.2 vs) acc) :
    ∀ (ds : List D) (n : Nat) (ρ : List Sl) (acc : List D), ds = full.drop n → n ≤ full.length → P n ρ acc → Ok (compF vs g mt me ds ρ) fun z => P full.length z.2 (acc ++ z.1)
  | [], n, ρ, acc, e, hn, p => by
    have : n = full.length := by
      have := List.drop_eq_nil_iff.mp e.symm
      omega
    subst this
    exact ⟨_, rfl, by simpa using p⟩
  | d :: ds, n, ρ, acc, e, hn, p => by
    have hd : full[n]? = some d := by
      have : (full.drop n)[0]? = some d := by rw [← e]; rfl
      rw [List.getElem?_drop] at this
      exact this
    have lt : n < full.length := (List.getElem?_eq_some_iff.mp hd).1
    have e2 : ds = full.drop (n + 1) := by
      rw [← List.drop_drop, ← e]
      rfl
    have a := h n d ρ acc hd p
    unfold compF
    rw [ok_bind]
    refine a.mono fun ρ1 a => ?_
    rw [ok_bind]
    refine a.mono fun z a => ?_
    by_cases k : z.1 = true
    · rw [if_pos k] at a ⊢
      rw [ok_bind]
      refine a.mono fun y ⟨e, h1, h2⟩ => ?_
      rw [h1]
      show Ok ((compF vs g mt me ds (wipeS y.2 vs)).bind _) _
      rw [ok_bind]
      refine (compF_ok P full h ds (n + 1) _ _ e2 lt h2).mono fun w hw => ?_
      rw [ok_ok]
      rw [List.append_assoc] at hw
      exact hw
    · rw [if_neg k] at a ⊢
      exact compF_ok P full h ds (n + 1) _ _ e2 lt a
theorem ok_comp {vs : List Nat} {mi : M (List D)} {g : GM} {mt : M Bool} {me : M R} {ρ : List Sl} {Q : R × List Sl → Prop} (P : Nat → List Sl → List D → Prop)
    (h : Ok (mi ρ) fun x => noOwn x.2 vs = true ∧ P 0 (wipeS x.2 vs) [] ∧
      (∀ i d ρ acc, x.1[i]? = some d → P i ρ acc → Ok (g (.d d) ρ) fun ρ1 => Ok (mt ρ1) fun z => if z.1 = true then Ok (me z.2) fun y => ∃ e, y.1.hand = .d e ∧ P (i + 1) (wipeS y.2 vs) (acc ++ [e]) else P (i + 1) (wipeS z.2 vs) acc) ∧
      ∀ ρe acc, P x.1.length ρe acc → acc.length ≤ sizeLine ∧ Q (.ow .lst acc, backC vs x.2 ρe)) : Ok (compM vs mi g mt me ρ) Q := by
  rw [ap_comp, ok_bind]
  refine h.mono fun x ⟨h1, h2, h3, h4⟩ => ?_
  rw [if_pos h1, ok_bind]
  refine (compF_ok P x.1 h3 x.1 0 _ [] rfl (Nat.zero_le _) h2).mono fun z hz => ?_
  rw [List.nil_append] at hz
  obtain ⟨a, b⟩ := h4 _ _ hz
  rw [if_pos a, ok_ok]
  exact b
/-- each item taken, the slots left as they were -/
theorem ok_compM {vs : List Nat} {mi : M (List D)} {g : GM} {mt : M Bool} {me : M R} {ρ : List Sl} {Q : R × List Sl → Prop} (F : Nat → D)
    (h : Ok (mi ρ) fun x => noOwn x.2 vs = true ∧ x.1.length < 1000 ∧
      (∀ i d, x.1[i]? = some d → Ok (g (.d d) (wipeS x.2 vs)) fun ρ1 => Ok (mt ρ1) fun z => z.1 = true ∧ Ok (me z.2) fun y => y.1.hand = .d (F i) ∧ wipeS y.2 vs = wipeS x.2 vs) ∧
      Q (.ow .lst ((List.range x.1.length).map F), backC vs x.2 (wipeS x.2 vs))) : Ok (compM vs mi g mt me ρ) Q := by
  obtain ⟨⟨xs, ρ2⟩, e, h1, h2, h3, h4⟩ := h.out
  simp only at h1 h2 h3 h4
  refine ok_comp (fun n r acc => r = wipeS ρ2 vs ∧ acc = (List.range n).map F) (Ok.of e ⟨h1, ⟨rfl, rfl⟩, ?_, ?_⟩)
  · rintro i d _ _ hd ⟨rfl, rfl⟩
    refine (h3 i d hd).mono fun ρ1 a => a.mono fun z ⟨a1, a2⟩ => ?_
    rw [if_pos a1]
    refine a2.mono fun y ⟨b1, b2⟩ => ⟨_, b1, b2, ?_⟩
    rw [List.range_succ, List.map_append]
    rfl
  · rintro _ _ ⟨rfl, rfl⟩
    refine ⟨Nat.le_of_lt (small1000 (by rw [List.length_map, List.length_range]; exact Nat.le_of_lt h2)), h4⟩
theorem rtgo_rt {io : Option Nat} {x : R × List Sl} {f : Fl} (h : rtgo io x = .ok f) : ∃ r ρ2, f = .rt r ρ2 := by
  obtain ⟨r, ρ⟩ := x
  cases r with
  | d d => cases h; exact ⟨_, _, rfl⟩
  | ow sh xs => cases h; exact ⟨_, _, rfl⟩
  | vw i =>
    rw [rt_v] at h
    split at h
    · cases h
    · unfold r0go at h
      split at h
      · cases h; exact ⟨_, _, rfl⟩
      · cases h
theorem run_r {c : Cfg} {ρ : List Sl} {Q : Fl → Prop} {e : E} {b : Tp.S} (h : Ok (evE c e ρ) fun x => Ok (rtgo c.io x) Q) : Ok (evS c (.ret e b) ρ) Q := by
  refine run_rt (h.mono fun x a => ?_)
  obtain ⟨f, e1, q⟩ := a.out
  obtain ⟨r, ρ2, e2⟩ := rtgo_rt e1
  exact Ok.of e1 ⟨r, ρ2, e2, q⟩
theorem ex_nx {ρ : List Sl} {P : List Sl → Prop} : (∃ ρ2, Fl.nx ρ = .nx ρ2 ∧ P ρ2) = P ρ := propext ⟨fun ⟨ρ2, e, h⟩ => by cases e; exact h, fun h => ⟨ρ, rfl, h⟩⟩
theorem run_nxe {c : Cfg} {ρ : List Sl} {P : List Sl → Prop} (h : P ρ) : Ok (evS c .nx ρ) fun f => ∃ ρ2, f = .nx ρ2 ∧ P ρ2 := ⟨_, rfl, ρ, rfl, h⟩
/-! what repr can show -/
structure Nice (w dp : Nat) (d : D) : Prop where
  ex : ∃ p, pyOf d = some p ∧ okR p = true ∧ p.weight ≤ w ∧ p.depth ≤ dp
theorem Nice.more {w w' dp dp' : Nat} {d : D} (h : Nice w dp d) (h1 : w ≤ w') (h2 : dp ≤ dp') : Nice w' dp' d := by
  obtain ⟨p, a, b, c, e⟩ := h
  exact ⟨p, a, b, Nat.le_trans c h1, Nat.le_trans e h2⟩
theorem nice_int {i : Int} {k : Nat} (h : i.natAbs < 2 ^ k) (hk : k ≤ 1600) : Nice k 0 (.int i) := by
  refine ⟨.int i, rfl, ?_, ?_, Nat.le_refl _⟩
  · refine decide_eq_true ?_
    exact Nat.lt_of_lt_of_le h (Nat.le_trans (Nat.pow_le_pow_right (by decide) hk) (by decide +kernel))
  · show (if i == 0 then 0 else i.natAbs.log2 + 1) ≤ k
    split
    · exact Nat.zero_le _
    · rename_i z
      have z : i.natAbs ≠ 0 := by
        intro e
        have : i = 0 := by omega
        rw [this] at z
        exact z rfl
      exact (Nat.log2_lt z).mpr h
theorem nice_non : Nice 0 0 .non := ⟨.none, rfl, rfl, Nat.le_refl _, Nat.le_refl _⟩
theorem nice_bl {b : Bool} : Nice 0 0 (.bl b) := ⟨.bool b, rfl, rfl, Nat.le_refl _, Nat.le_refl _⟩
theorem nice_all {w dp : Nat} : ∀ {xs : List D}, (∀ x ∈ xs, Nice w dp x) → ∃ ps, pysOf xs = some ps ∧ okRs ps = true ∧ PyData.weightAll ps ≤ xs.length * (w + 1) ∧ PyData.depthAll ps ≤ dp
  | [], _ => ⟨[], rfl, rfl, Nat.zero_le _, Nat.zero_le _⟩
  | x :: xs, h => by
    obtain ⟨p, a1, a2, a3, a4⟩ := (h x List.mem_cons_self).ex
    obtain ⟨ps, b1, b2, b3, b4⟩ := nice_all fun y hy => h y (List.mem_cons_of_mem _ hy)
    refine ⟨p :: ps, ?_, ?_, ?_, ?_⟩
    · unfold pysOf; rw [a1, b1]; rfl
    · show (okR p && okRs ps) = true
      rw [a2, b2]; rfl
    · show p.weight + 1 + PyData.weightAll ps ≤ (xs.length + 1) * (w + 1)
      rw [Nat.add_mul]; omega
    · show max p.depth (PyData.depthAll ps) ≤ dp
      omega
theorem nice_tup {w dp : Nat} {xs : List D} (h : ∀ x ∈ xs, Nice w dp x) : Nice (xs.length * (w + 1)) (dp + 1) (.ob .tup xs) := by
  obtain ⟨ps, b1, b2, b3, b4⟩ := nice_all h
  exact ⟨.tuple ps, by unfold pyOf; rw [b1]; rfl, b2, b3, Nat.succ_le_succ b4⟩
theorem nice_lst {w dp : Nat} {xs : List D} (h : ∀ x ∈ xs, Nice w dp x) : Nice (xs.length * (w + 1)) (dp + 1) (.ob .lst xs) := by
  obtain ⟨ps, b1, b2, b3, b4⟩ := nice_all h
  exact ⟨.list ps, by unfold pyOf; rw [b1]; rfl, b2, b3, Nat.succ_le_succ b4⟩
theorem nice_ints {k n : Nat} {l : List Int} (h : ∀ i ∈ l, i.natAbs < 2 ^ k) (hk : k ≤ 1600) (hn : l.length ≤ n) : Nice (n * (k + 1)) 1 (.tup (l.map .int)) := by
  refine (nice_tup (w := k) (dp := 0) fun x hx => ?_).more ?_ (Nat.le_refl _)
  · obtain ⟨i, hi, rfl⟩ := List.mem_map.mp hx
    exact nice_int (h i hi) hk
  · rw [List.length_map]; exact Nat.mul_le_mul_right _ hn
theorem nice_two {w dp : Nat} {d : D} (h : Nice w dp d) : Nice (2 * (w + 1)) (dp + 1) (.ob .lst [d, d]) :=
  nice_lst (w := w) (dp := dp) (xs := [d, d]) fun x hx => by
    simp only [List.mem_cons, List.not_mem_nil, or_false, or_self] at hx
    rw [hx]; exact h
theorem nice_repr {w dp : Nat} {d : D} (h : Nice w dp d) (h1 : w ≤ 30000) (h2 : dp ≤ 60) : ∃ s, biD .repr [d] = .ok (.d (.str s)) := by
  obtain ⟨p, a, b, c, e⟩ := h
  refine ⟨p.shown, ?_⟩
  refine bi_repr' ?_
  unfold reprD
  rw [a]
  exact if_pos ⟨b, by omega, by omega⟩
theorem pm_0 {α : Type} {l : List α} : permL l [] = some [] := (rfl)
theorem pm_1 {α : Type} {l : List α} {i : Nat} {is : List Nat} : permL l (i :: is) = l[i]?.bind fun a => (permL l is).bind fun r => some (a :: r) := (rfl)
theorem ixn30 : ixN 3 0 = some 0 := rfl
theorem ixn31 : ixN 3 1 = some 1 := rfl
theorem ixn32 : ixN 3 2 = some 2 := rfl
theorem sl_fz {xs : List D} {lo hi : Option Int} : slD (.ob .fz xs) lo hi = .ok (.ow .lst (cutL xs lo hi)) := (rfl)
theorem sl_ls {xs : List D} {lo hi : Option Int} : slD (.ob .lst xs) lo hi = .ok (.ow .lst (cutL xs lo hi)) := (rfl)
theorem sl_tp {xs : List D} {lo hi : Option Int} : slD (.ob .tup xs) lo hi = .ok (.d (.tup (cutL xs lo hi))) := (rfl)
theorem cut_map {α β : Type} (f : α → β) (l : List α) (lo hi : Option Int) : cutL (l.map f) lo hi = (cutL l lo hi).map f := by
  unfold cutL
  rw [List.length_map, List.map_take, List.map_drop]
/-- a while, counted -/
theorem whileF_N {c : M Bool} {m : SM} (P : Nat → List Sl → Prop) {Q : Fl → Prop}
    (h : ∀ n ρ, P n ρ → Ok (c ρ) fun x => if x.1 = true then Ok (m x.2) fun r => ∃ ρ2, (r = .nx ρ2 ∨ r = .ct ρ2) ∧ ∃ k, k < n ∧ P k ρ2 else Q (.nx x.2)) : ∀ (W n : Nat) (ρ : List Sl), n < W → P n ρ → Ok (whileF c m W ρ) Q
  | 0, n, ρ, hw, _ => by omega
  | W + 1, n, ρ, hw, p => by
    have a := h n ρ p
    show Ok ((c ρ).bind fun x => if x.1 = true then (m x.2).bind (fun f => match f with
    | .nx ρ' => whileF c m W ρ'
    | .ct ρ' => whileF c m W ρ'
    | .bk ρ' => .ok (.nx ρ')
    | .rt r ρ' => .ok (.rt r ρ')) else .ok (.nx x.2)) Q
    rw [ok_bind]
    refine a.mono fun x a => ?_
    by_cases k : x.1 = true
    · rw [if_pos k] at a ⊢
      rw [ok_bind]
      refine a.mono fun r ⟨ρ2, e, k2, lt, p2⟩ => ?_
      rcases e with rfl | rfl
      · exact whileF_N P h W k2 ρ2 (by omega) p2
      · exact whileF_N P h W k2 ρ2 (by omega) p2
    · rw [if_neg k] at a ⊢
      rw [ok_ok]
      exact a
theorem run_whN {c : Cfg} {ρ : List Sl} {Q : Fl → Prop} {W : Nat} {t : E} {x b : Tp.S} (P : Nat → List Sl → Prop) (n : Nat) (p : P n ρ) (hn : n < W)
    (h : ∀ n ρ, P n ρ → Ok (evB c t ρ) fun z => if z.1 = true then Ok (evS c x z.2) fun r => ∃ ρ2, (r = .nx ρ2 ∨ r = .ct ρ2) ∧ ∃ k, k < n ∧ P k ρ2 else Ok (evS c b z.2) Q) : Ok (evS c (.wh W t x b) ρ) Q := by
  refine run_seq ?_
  refine whileF_N P (Q := fun r => ∃ ρ2, r = .nx ρ2 ∧ Ok (evS c b ρ2) Q) (fun n ρ p => ?_) W n ρ hn p
  refine (h n ρ p).mono fun z a => ?_
  by_cases k : z.1 = true
  · rw [if_pos k] at a ⊢; exact a
  · rw [if_neg k] at a ⊢; exact ⟨_, rfl, a⟩
theorem run_nxw {c : Cfg} {ρ : List Sl} {n : Nat} {P : Nat → List Sl → Prop} (h : ∃ k, k < n ∧ P k ρ) : Ok (evS c .nx ρ) fun r => ∃ ρ2, (r = .nx ρ2 ∨ r = .ct ρ2) ∧ ∃ k, k < n ∧ P k ρ2 := ⟨_, rfl, ρ, .inl rfl, h⟩
theorem run_par' {c : Cfg} {ρ : List Sl} {Q : Fl → Prop} {ns : List (Nat × Bool)} {e : E} {b : Tp.S} (h : Ok (rawM (rawL c e) ρ) fun x => Ok (setAll c.io ns x.1 x.2) fun ρ2 => Ok (evS c b ρ2) Q) : Ok (evS c (.par ns e b) ρ) Q := by
  refine run_par ?_
  show Ok ((rawM (rawL c e) ρ).bind _) _
  rw [ok_bind]
  refine h.mono fun x a => ?_
  rw [ok_bind]
  exact a.mono fun ρ2 a => ⟨_, rfl, ρ2, rfl, a⟩
theorem tg_1 {i : Nat} : tgNm [i] false = gNs i := (rfl)
theorem tg_t {tg : List Nat} : tgNm tg true = gTupM (tg.map gNs) := (rfl)
theorem wi_0 {ρ : List Sl} : wipeS ρ [] = ρ := (rfl)
theorem wi_1 {ρ : List Sl} {v : Nat} {vs : List Nat} : wipeS ρ (v :: vs) = (wipeS ρ vs).set v .un := (rfl)
theorem map_ints {α : Type} {l : List α} {f : α → Int} : (l.map fun a => D.int (f a)) = (l.map f).map .int := by rw [List.map_map]; rfl
theorem forF_okN {g : GM} {m : SM} (P : Nat → List Sl → Prop) (N : Nat) : ∀ (ds : List D) (n : Nat) (ρ : List Sl), n + ds.length ≤ N → (∀ d ∈ ds, ∀ n ρ, n < N → P n ρ → Ok (g (.d d) ρ) fun ρ1 => Ok (m ρ1) fun f => ∃ ρ2, f = .nx ρ2 ∧ P (n + 1) ρ2) → P n ρ → Ok (forF g m ds ρ) fun f => ∃ ρ2, f = .nx ρ2 ∧ P (n + ds.length) ρ2
  | [], n, ρ, _, _, p => ⟨.nx ρ, rfl, ρ, rfl, p⟩
  | d :: ds, n, ρ, hn, h, p => by
    rw [List.length_cons] at hn
    have a := h d List.mem_cons_self n ρ (by omega) p
    show Ok ((g (.d d) ρ).bind fun ρ1 => (m ρ1).bind fun f => match f with
    | .nx ρ' => forF g m ds ρ'
    | .ct ρ' => forF g m ds ρ'
    | .bk ρ' => .ok (.nx ρ')
    | .rt r ρ' => .ok (.rt r ρ')) _
    rw [ok_bind]
    refine a.mono fun ρ1 a => ?_
    rw [ok_bind]
    refine a.mono fun f a => ?_
    obtain ⟨ρ2, rfl, p2⟩ := a
    have := forF_okN P N ds (n + 1) ρ2 (by omega) (fun d hd => h d (List.mem_cons_of_mem _ hd)) p2
    rw [show n + 1 + ds.length = n + (d :: ds).length by rw [List.length_cons]; omega] at this
    exact this
theorem run_frN {c : Cfg} {ρ : List Sl} {Q : Fl → Prop} {t : T} {it : E} {x b : Tp.S} (P : Nat → List Sl → Prop) (N : Nat) (h : Ok (evI c it ρ) fun y => (P 0 y.2 ∧ y.1.length ≤ N) ∧ (∀ d ∈ y.1, ∀ n ρ, n < N → P n ρ → Ok (evG c t (.d d) ρ) fun ρ1 => Ok (evS c x ρ1) fun f => ∃ ρ2, f = .nx ρ2 ∧ P (n + 1) ρ2) ∧ ∀ n ρ2, P n ρ2 → Ok (evS c b ρ2) Q) : Ok (evS c (.fr t it x b) ρ) Q := by
  refine run_seq ?_
  show Ok ((evI c it ρ).bind _) _
  rw [ok_bind]
  refine h.mono fun y ⟨⟨p, l⟩, body, fin⟩ => ?_
  exact (forF_okN P N y.1 0 y.2 (by omega) body p).mono fun f ⟨ρ2, e, q⟩ => ⟨ρ2, e, fin _ ρ2 q⟩
theorem len_fz {zs : List Int} : biD .len [.ob .fz (zs.map D.int)] = .ok (.d (.int zs.length)) := by
  show dI ((zs.map D.int).length : Nat) = _
  rw [List.length_map]
  rfl
theorem min_ok {i j : Int} : biD .min [.int i, .int j] = .ok (.d (.int (if j < i then j else i))) := (rfl)
theorem max_ok {i j : Int} : biD .max [.int i, .int j] = .ok (.d (.int (if j > i then j else i))) := (rfl)
end Tp
set_option linter.all false
set_option maxRecDepth 1500
set_option maxHeartbeats 1000000
namespace Tp
open PySem PySem.Spec PyProof.Rows L2
/-! ### equality of rows of numbers -/
/-- data of numbers, None and rows of them, to a depth -/
structure Dat (dp : Nat) (d : D) (p : PyData) : Prop where
  of : pyOf d = some p
  lay : p.canLay0 = true
  dep : p.depth ≤ dp
theorem dat_int {i : Int} : Dat 0 (.int i) (.int i) := ⟨rfl, rfl, Nat.le_refl _⟩
theorem dat_non : Dat 0 .non .none := ⟨rfl, rfl, Nat.le_refl _⟩
inductive Dats (dp : Nat) : List D → List PyData → Prop
  | nil : Dats dp [] []
  | cons {d p ds ps} : Dat dp d p → Dats dp ds ps → Dats dp (d :: ds) (p :: ps)
theorem Dats.to {dp : Nat} {ds : List D} {ps : List PyData} (h : Dats dp ds ps) : pysOf ds = some ps ∧ PyData.canLayAll0 ps = true ∧ PyData.depthAll ps ≤ dp := by
  induction h with
  | nil => exact ⟨rfl, rfl, Nat.zero_le _⟩
  | cons a b ih =>
    rename_i d p ds ps
    obtain ⟨h1, h2, h3⟩ := ih
    refine ⟨?_, ?_, ?_⟩
    · unfold pysOf; rw [a.of, h1]; rfl
    · show (p.canLay0 && PyData.canLayAll0 ps) = true
      rw [a.lay, h2]; rfl
    · show max p.depth (PyData.depthAll ps) ≤ dp
      have := a.dep
      omega
theorem dat_tup {dp : Nat} {ds : List D} {ps : List PyData} (h : Dats dp ds ps) : Dat (dp + 1) (.ob .tup ds) (.tuple ps) := by
  obtain ⟨h1, h2, h3⟩ := h.to
  exact ⟨by unfold pyOf; rw [h1]; rfl, h2, Nat.succ_le_succ h3⟩
theorem dat_lst {dp : Nat} {ds : List D} {ps : List PyData} (h : Dats dp ds ps) : Dat (dp + 1) (.ob .lst ds) (.list ps) := by
  obtain ⟨h1, h2, h3⟩ := h.to
  exact ⟨by unfold pyOf; rw [h1]; rfl, h2, Nat.succ_le_succ h3⟩
theorem dats_ints : ∀ l : List Int, Dats 0 (l.map .int) (l.map PyData.int)
  | [] => .nil
  | x :: l => .cons dat_int (dats_ints l)
theorem Dat.shaped {dp : Nat} {d : D} {p : PyData} (h : Dat dp d p) (hd : dp ≤ 64) : SeqAt.shaped p = true := by
  show (p.canLay0 && decide (p.depth ≤ 64)) = true
  rw [h.lay, decide_eq_true (Nat.le_trans h.dep hd)]
  rfl
theorem py_eq {dp dp' : Nat} {a b : D} {p q : PyData} (ha : Dat dp a p) (hb : Dat dp' b q) (h1 : dp ≤ 64) (h2 : dp' ≤ 64) : pyEq a b = .ok (p.eqv q) := by
  unfold pyEq
  rw [ha.of, hb.of]
  exact if_pos ⟨ha.shaped h1, hb.shaped h2⟩
theorem eqv_ints : ∀ xs ys : List Int, PyData.eqvAll (xs.map PyData.int) (ys.map PyData.int) = decide (xs = ys)
  | [], [] => rfl
  | [], y :: ys => rfl
  | x :: xs, [] => rfl
  | x :: xs, y :: ys => by
    show ((x == y) && PyData.eqvAll (xs.map PyData.int) (ys.map PyData.int)) = _
    rw [eqv_ints]
    by_cases h : x = y
    · subst h
      by_cases h2 : xs = ys
      · subst h2; simp
      · simp [h2]
    · simp [h]
theorem eq_tups {xs ys : List Int} : cmpop .Eq (.tup (xs.map .int)) (.tup (ys.map .int)) = .ok (decide (xs = ys)) := by
  show pyEq _ _ = _
  rw [py_eq (dat_tup (dats_ints xs)) (dat_tup (dats_ints ys)) (by decide) (by decide)]
  show Out.ok (PyData.eqvAll _ _) = _
  rw [eqv_ints]
theorem eq_lsts {xs ys : List Int} : cmpop .Eq (.ob .lst (xs.map .int)) (.ob .lst (ys.map .int)) = .ok (decide (xs = ys)) := by
  show pyEq _ _ = _
  rw [py_eq (dat_lst (dats_ints xs)) (dat_lst (dats_ints ys)) (by decide) (by decide)]
  show Out.ok (PyData.eqvAll _ _) = _
  rw [eqv_ints]
theorem ne_of {a b : D} {r : Bool} (h : cmpop .Eq a b = .ok r) : cmpop .NotEq a b = .ok (!r) := by
  show (eqD a b).bind _ = _
  have h : eqD a b = .ok r := h
  rw [h]; rfl
theorem ne_tups {xs ys : List Int} : cmpop .NotEq (.tup (xs.map .int)) (.tup (ys.map .int)) = .ok (!decide (xs = ys)) := ne_of eq_tups
theorem ne_lsts {xs ys : List Int} : cmpop .NotEq (.ob .lst (xs.map .int)) (.ob .lst (ys.map .int)) = .ok (!decide (xs = ys)) := ne_of eq_lsts
theorem eq_t2 {a b c d : Int} : cmpop .Eq (.tup [.int a, .int b]) (.tup [.int c, .int d]) = .ok (decide (a = c ∧ b = d)) := by
  have := eq_tups (xs := [a, b]) (ys := [c, d])
  simp only [List.map_cons, List.map_nil, List.cons.injEq, and_true] at this
  exact this
theorem ne_t2 {a b c d : Int} : cmpop .NotEq (.tup [.int a, .int b]) (.tup [.int c, .int d]) = .ok (!decide (a = c ∧ b = d)) := ne_of eq_t2
theorem eq_t1 {a c : Int} : cmpop .Eq (.tup [.int a]) (.tup [.int c]) = .ok (decide (a = c)) := by
  have := eq_tups (xs := [a]) (ys := [c])
  simp only [List.map_cons, List.map_nil, List.cons.injEq, and_true] at this
  exact this
theorem ne_lnil {xs : List Int} : cmpop .NotEq (.ob .lst (xs.map .int)) (.ob .lst []) = .ok (!decide (xs = [])) := ne_lsts (ys := [])
theorem eq_nn {i : Int} : cmpop .Eq .non (.int i) = .ok false := (rfl)
theorem eq_in {i : Int} : cmpop .Eq (.int i) .non = .ok false := (rfl)
theorem eq_non : cmpop .Eq .non .non = .ok true := (rfl)
theorem bools_map {α : Type} (f : α → Bool) : ∀ l : List α, boolsOf (l.map fun a => D.bl (f a)) = some (l.map f)
  | [] => rfl
  | x :: l => by
    rw [List.map_cons, List.map_cons]
    unfold boolsOf
    rw [bools_map f l]
    rfl
theorem any_map {α : Type} {f : α → Bool} {l : List α} : biD .any [.ob .lst (l.map fun a => D.bl (f a))] = .ok (.d (.bl (l.any f))) := by
  show (ofO (boolsOf _)).bind (fun ns => dB (ns.any id)) = _
  rw [bools_map]
  show dB ((l.map f).any id) = _
  rw [List.any_map]
  rfl
theorem all_map {α : Type} {f : α → Bool} {l : List α} : biD .all [.ob .lst (l.map fun a => D.bl (f a))] = .ok (.d (.bl (l.all f))) := by
  show (ofO (boolsOf _)).bind (fun ns => dB (ns.all id)) = _
  rw [bools_map]
  show dB ((l.map f).all id) = _
  rw [List.all_map]
  rfl
theorem sum_map {l : List Int} : biD .sum [.ob .lst (l.map .int)] = .ok (.d (.int l.sum)) := by
  have h : intsOf (l.map .int) = some l := by
    have := ints_map l (fun a => a)
    rw [List.map_id'] at this
    exact this
  show (ofO (intsOf (l.map .int))).bind _ = _
  rw [h]
  rfl
/-! comprehensions over a row, item by item -/
theorem ok_compL {α : Type} {vs : List Nat} {mi : M (List D)} {g : GM} {mt : M Bool} {me : M R} {ρ : List Sl} {Q : R × List Sl → Prop} (l : List α) (hd : α → D) (t : α → Bool) (F : α → D)
    (h : Ok (mi ρ) fun x => x.1 = l.map hd ∧ noOwn x.2 vs = true ∧ l.length < 1000 ∧
      (∀ a ∈ l, Ok (g (.d (hd a)) (wipeS x.2 vs)) fun ρ1 => Ok (mt ρ1) fun z => z.1 = t a ∧ if t a = true then Ok (me z.2) fun y => y.1.hand = .d (F a) ∧ wipeS y.2 vs = wipeS x.2 vs else wipeS z.2 vs = wipeS x.2 vs) ∧
      Q (.ow .lst ((l.filter t).map F), backC vs x.2 (wipeS x.2 vs))) : Ok (compM vs mi g mt me ρ) Q := by
  obtain ⟨⟨xs, ρ2⟩, e, h0, h1, h2, h3, h4⟩ := h.out
  simp only at h0 h1 h2 h3 h4
  subst h0
  refine ok_comp (fun n r acc => r = wipeS ρ2 vs ∧ acc = ((l.take n).filter t).map F) (Ok.of e ⟨h1, ⟨rfl, rfl⟩, ?_, ?_⟩)
  · rintro i d _ _ hd' ⟨rfl, rfl⟩
    rw [List.getElem?_map] at hd'
    cases q : l[i]? with
    | none => rw [q] at hd'; cases hd'
    | some a =>
      rw [q] at hd'
      cases hd'
      refine (h3 a (List.mem_of_getElem? q)).mono fun ρ1 b => b.mono fun z ⟨b1, b2⟩ => ?_
      by_cases k : t a = true
      · rw [if_pos k] at b2
        rw [b1, if_pos k]
        refine b2.mono fun y ⟨c1, c2⟩ => ⟨_, c1, c2, ?_⟩
        rw [List.take_succ, q, List.filter_append, List.map_append]
        show _ = _ ++ (([a].filter t).map F)
        rw [List.filter_cons, if_pos k]
        rfl
      · rw [if_neg k] at b2
        rw [b1, if_neg k]
        refine ⟨b2, ?_⟩
        rw [List.take_succ, q, List.filter_append, List.map_append]
        show _ = _ ++ (([a].filter t).map F)
        rw [List.filter_cons, if_neg k]
        simp
  · rintro _ _ ⟨rfl, rfl⟩
    have e5 : (l.map hd, ρ2).fst.length = l.length := List.length_map _
    rw [e5, List.take_length]
    refine ⟨Nat.le_of_lt (small1000 ?_), h4⟩
    rw [List.length_map]
    exact Nat.le_trans (List.length_filter_le _ _) (Nat.le_of_lt h2)
theorem ok_compA {α : Type} {vs : List Nat} {mi : M (List D)} {g : GM} {me : M R} {ρ : List Sl} {Q : R × List Sl → Prop} (l : List α) (hd : α → D) (F : α → D)
    (h : Ok (mi ρ) fun x => x.1 = l.map hd ∧ noOwn x.2 vs = true ∧ l.length < 1000 ∧
      (∀ a ∈ l, Ok (g (.d (hd a)) (wipeS x.2 vs)) fun ρ1 => Ok (me ρ1) fun y => y.1.hand = .d (F a) ∧ wipeS y.2 vs = wipeS x.2 vs) ∧
      Q (.ow .lst (l.map F), backC vs x.2 (wipeS x.2 vs))) : Ok (compM vs mi g yesM me ρ) Q := by
  refine ok_compL l hd (fun _ => true) F (h.mono fun x ⟨h0, h1, h2, h3, h4⟩ => ⟨h0, h1, h2, fun a ha => ?_, ?_⟩)
  · refine (h3 a ha).mono fun ρ1 b => ?_
    rw [ap_yes, ok_ok, if_pos rfl]
    exact ⟨rfl, b⟩
  · rw [List.filter_eq_self.mpr (fun _ _ => rfl)]
    exact h4
theorem big_nat {n : Nat} (h : n < 10 ^ 30) : ((n : Nat) : Int).natAbs < big := by rw [Int.natAbs_natCast]; exact big_lt h
end Tp
set_option linter.all false
set_option maxRecDepth 1500
set_option maxHeartbeats 1000000
namespace Tp
open PySem PySem.Spec PyProof.Rows L2
/-! ### first_wrong, run -/
theorem e_fw {c : Cfg} {a : E} : evE c (.fw a) = match c.fw with
    | some w => fwM w.fn (evE c a)
    | none => stkM := (rfl)
theorem ok_fw {g : List Sl → Out (R × List Sl)} {ma : M R} {ρ : List Sl} {Q : R × List Sl → Prop} (h : Ok (ma ρ) fun x => ∃ ds r, x.1.hand = .d (.ob .tup ds) ∧ ds.length ≤ 10000 ∧ fwF g ds ds 0 = .ok r ∧ Q (.d r, x.2)) : Ok (fwM g ma ρ) Q := by
  obtain ⟨x, e, ds, r, h1, h2, h3, q⟩ := h.out
  refine ⟨_, ?_, q⟩
  unfold fwM
  rw [e]
  obtain ⟨r1, ρ2⟩ := x
  show (match r1.hand with
    | .d (.ob .tup ds) => if ds.length ≤ 10000 then (fwF g ds ds 0).bind fun r => Out.ok (R.d r, ρ2) else Out.stuck
    | _ => Out.stuck) = _
  rw [show r1.hand = _ from h1]
  show (if ds.length ≤ 10000 then (fwF g ds ds 0).bind fun r => Out.ok (R.d r, ρ2) else Out.stuck) = _
  rw [if_pos h2, h3]
  rfl
theorem fwF_all {g : List Sl → Out (R × List Sl)} {all : List D} : ∀ (ds : List D) (i : Nat), (∀ d ∈ ds, ∀ a, ∃ o, g [.st d, .st a] = .ok (.d (.bl true), o)) → fwF g all ds i = .ok .non
  | [], _, _ => rfl
  | d :: ds, i, h => by
    obtain ⟨o, e⟩ := h d List.mem_cons_self (.tup (cutL all none (some (i : Int))))
    unfold fwF
    rw [e]
    exact fwF_all ds (i + 1) fun d hd => h d (List.mem_cons_of_mem _ hd)
theorem fnL_run {cf : Cfg} {el : E} {as : List Sl} {Q : R × List Sl → Prop} (h : Ok (evE cf el as) fun x => noVw x.1 = true ∧ Q (x.1, List.replicate as.length .un)) : Ok (fnL cf el as) Q := by
  obtain ⟨x, e, h1, q⟩ := h.out
  refine ⟨_, ?_, q⟩
  unfold fnL
  rw [e]
  exact if_pos h1
theorem flat_ints : ∀ l : List Int, (l.map D.int).all flatD = true
  | [] => rfl
  | x :: l => by rw [List.map_cons, List.all_cons, flat_ints l]; rfl
theorem in_ints {x : Int} {l : List Int} : cmpop .In (.int x) (.ob .lst (l.map .int)) = .ok (decide (x ∈ l)) := by
  have e : cmpop .In (.int x) (.ob .lst (l.map .int)) = inD (.int x) (.ob .lst (l.map .int)) := by unfold cmpop; rfl
  rw [e]
  unfold inD
  dsimp only
  rw [if_pos (.inl rfl), if_pos ⟨rfl, flat_ints l⟩, List.any_map]
  congr 1
  rw [Bool.eq_iff_iff, List.any_eq_true, decide_eq_true_eq]
  constructor
  · rintro ⟨y, hy, e⟩
    have e : (y == x) = true := e
    rw [beq_iff_eq] at e
    exact e ▸ hy
  · intro h
    exact ⟨x, h, beq_iff_eq.mpr rfl⟩
theorem add_lsts {xs ys : List D} (h : xs.length + ys.length ≤ sizeLine) : binop .Add (.ob .lst xs) (.ob .lst ys) = .ok (.ow .lst (xs ++ ys)) := by
  show (if _ then _ else _) = _
  rw [if_pos ⟨rfl, h⟩]
theorem cut_tail {α : Type} {d : α} {ds : List α} : cutL (d :: ds) (some 1) none = ds := by
  unfold cutL
  have h1 : HT.sIx (d :: ds).length 0 (some 1) = 1 := by
    show (if (1 : Int) < 0 then ((1 : Int) + ((d :: ds).length : Nat)).toNat else min (1 : Int).toNat (d :: ds).length) = 1
    rw [if_neg (by decide)]
    show min 1 (ds.length + 1) = 1
    omega
  rw [h1, HT.sIx_none]
  show List.take _ ds = ds
  rw [List.take_of_length_le]
  exact Nat.le_refl _
theorem mul_one2 {d : D} : binop .Mult (.ob .lst [d]) (.int 2) = .ok (.ow .lst [d, d]) := (rfl)
theorem e_rev {c : Cfg} {a : E} : evE c (.rev a) = unM revD (evE c a) := (rfl)
theorem rv_l {xs : List D} : revD (.ob .lst xs) = .ok (.ow .lst xs.reverse) := (rfl)
theorem rv_f {xs : List D} : revD (.ob .fz xs) = .ok (.ow .lst xs.reverse) := (rfl)
theorem rv_t {xs : List D} : revD (.ob .tup xs) = .ok (.d (.ob .tup xs.reverse)) := (rfl)
theorem is_bb {a b : Bool} : cmpop .Is (.bl a) (.bl b) = .ok (decide (a = b)) := (rfl)
theorem isn_bb {a b : Bool} : cmpop .IsNot (.bl a) (.bl b) = .ok (!decide (a = b)) := (rfl)
theorem is_bn {a : Bool} : cmpop .Is (.bl a) .non = .ok false := (rfl)
theorem isn_bn {a : Bool} : cmpop .IsNot (.bl a) .non = .ok true := (rfl)
theorem is_sn {a : Str} : cmpop .Is (.str a) .non = .ok false := (rfl)
theorem isn_sn {a : Str} : cmpop .IsNot (.str a) .non = .ok true := (rfl)
end Tp
set_option Elab.async false
set_option linter.all false
set_option maxRecDepth 100000
set_option maxHeartbeats 4000000
namespace Lw
open PySem PySem.Spec PyProof.Rows L2 Tp
abbrev LN : List Str := ["wrong_number"]
def topS (i : Nat) : Stmt := PySem.Challenge.pw_tossplans_k43_worths_at_bends.main.body.getD i (.Pass ⟨0, 0, 0, 0⟩)
abbrev s_w_pool : Stmt := topS 33
abbrev N_w_pool : List Str := ["script", "k", "cell", "mixed", "wide", "each"]
theorem sc_w_pool : FnScope N_w_pool ["script", "k"] (defScope s_w_pool) := ⟨rfl, rfl, rfl, by decide +kernel, rfl, by decide +kernel, by decide +kernel⟩
abbrev ir_w_pool : Tp.S := (.par [(2, false), (3, false)] (.cons (.bi .sum (.cons (.sl (.v 0) (.pt (.v 1)) (.pt (.bin .Add (.v 1) (.k (.int 1))))) .nil)) (.cons (.bin .Add (.k (.int 50021)) (.bin .Mult (.k (.int 977)) (.v 1))) .nil)) (.asg (.ns 4) (.bin .Mult (.bin .Mult (.bin .Mult (.bin .Mult (.bin .Mult (.bin .Pow (.k (.int 10)) (.k (.int 64))) (.bin .Pow (.k (.int 10)) (.k (.int 64)))) (.bin .Pow (.k (.int 10)) (.k (.int 64)))) (.bin .Pow (.k (.int 10)) (.k (.int 64)))) (.bin .Pow (.k (.int 10)) (.k (.int 64)))) (.bin .Pow (.k (.int 10)) (.k (.int 64)))) (.fr (.ns 5) (.it (.sl (.v 0) .nil (.pt (.k (.int 12))))) (.asg (.ns 3) (.bin .Mod (.bin .Add (.bin .Add (.bin .Mult (.v 3) (.k (.int 48271))) (.bin .Mult (.bin .Mod (.v 5) (.k (.int 2147483399))) (.k (.int 19)))) (.k (.int 7))) (.k (.int 2147483399))) .nx) (.ret (.lst (.cons (.ife (.or (.tr (.cmp .Lt (.v 2) (.k (.int 0)))) (.one (.tr (.cmp .GtE (.v 2) (.bin .Pow (.k (.int 10)) (.k (.int 18))))))) (.bin .Mod (.bi .abs (.cons (.v 2) .nil)) (.v 4)) (.k (.int 0))) (.cons (.v 3) (.cons (.k (.int 0)) .nil)))) .nx))))
abbrev cf_w_pool : Cfg := { io := none, C := [], KC := [], G := [], bis := [.abs, .sum], tys := [], its := false }
def f_w_pool : List Sl → Out (R × List Sl) := fnS cf_w_pool 6 ir_w_pool
def c_w_pool : Cal := ⟨"_law_pool", cf_w_pool.io, 2, [], f_w_pool⟩
@[simp] theorem c1_w_pool : c_w_pool.fn = f_w_pool := (rfl)
@[simp] theorem c2_w_pool : c_w_pool.io = none := (rfl)
@[simp] theorem c3_w_pool : c_w_pool.ds = [] := (rfl)
theorem ck_w_pool : chkS N_w_pool cf_w_pool (defScope s_w_pool) ir_w_pool (defBody s_w_pool) = true := by decide +kernel
abbrev s_w_take : Stmt := topS 34
abbrev N_w_take : List Str := ["pool", "many", "digit", "stirred"]
theorem sc_w_take : FnScope N_w_take ["pool", "many"] (defScope s_w_take) := ⟨rfl, rfl, rfl, by decide +kernel, rfl, by decide +kernel, by decide +kernel⟩
abbrev ir_w_take : Tp.S := (.ife (.tr (.cmp .Gt (.ix (.v 0) (.k (.int 0))) (.k (.int 0)))) (.asg (.tup (.cons (.sub 0 (.k (.int 0))) (.cons (.ns 2) .nil))) (.bi .divmod (.cons (.ix (.v 0) (.k (.int 0))) (.cons (.v 1) .nil))) (.ret (.v 2) .nx)) .nx (.asg (.sub 0 (.k (.int 2))) (.bin .Add (.ix (.v 0) (.k (.int 2))) (.k (.int 1))) (.asg (.ns 3) (.bin .Mod (.bin .Add (.ix (.v 0) (.k (.int 1))) (.bin .Mult (.k (.int 28657)) (.ix (.v 0) (.k (.int 2))))) (.k (.int 2147483399))) (.asg (.sub 0 (.k (.int 1))) (.bin .Mod (.bin .Add (.bin .Mult (.v 3) (.bin .Add (.bin .Mod (.v 3) (.k (.int 5003))) (.k (.int 48271)))) (.bin .Mult (.k (.int 17)) (.ix (.v 0) (.k (.int 2))))) (.k (.int 2147483399))) (.ret (.bin .Mod (.bin .FloorDiv (.ix (.v 0) (.k (.int 1))) (.k (.int 613))) (.v 1)) .nx)))))
abbrev cf_w_take : Cfg := { io := some 0, C := [], KC := [], G := [], bis := [.divmod], tys := [], its := false }
def f_w_take : List Sl → Out (R × List Sl) := fnS cf_w_take 4 ir_w_take
def c_w_take : Cal := ⟨"_law_take", cf_w_take.io, 2, [], f_w_take⟩
@[simp] theorem c1_w_take : c_w_take.fn = f_w_take := (rfl)
@[simp] theorem c2_w_take : c_w_take.io = some 0 := (rfl)
@[simp] theorem c3_w_take : c_w_take.ds = [] := (rfl)
theorem ck_w_take : chkS N_w_take cf_w_take (defScope s_w_take) ir_w_take (defBody s_w_take) = true := by decide +kernel
abbrev s_w_of : Stmt := topS 35
abbrev N_w_of : List Str := ["pool", "some"]
theorem sc_w_of : FnScope N_w_of ["pool", "some"] (defScope s_w_of) := ⟨rfl, rfl, rfl, by decide +kernel, rfl, by decide +kernel, by decide +kernel⟩
abbrev ir_w_of : Tp.S := (.ret (.ix (.v 1) (.call 0 (.cons (.v 0) (.cons (.bi .len (.cons (.v 1) .nil)) .nil)))) .nx)
abbrev cf_w_of : Cfg := { io := some 0, C := [c_w_take], KC := [], G := [], bis := [.len], tys := [], its := false }
def f_w_of : List Sl → Out (R × List Sl) := fnS cf_w_of 2 ir_w_of
def c_w_of : Cal := ⟨"_law_of", cf_w_of.io, 2, [], f_w_of⟩
@[simp] theorem c1_w_of : c_w_of.fn = f_w_of := (rfl)
@[simp] theorem c2_w_of : c_w_of.io = some 0 := (rfl)
@[simp] theorem c3_w_of : c_w_of.ds = [] := (rfl)
theorem ck_w_of : chkS N_w_of cf_w_of (defScope s_w_of) ir_w_of (defBody s_w_of) = true := by decide +kernel
abbrev s_w_frac : Stmt := topS 36
abbrev N_w_frac : List Str := ["top", "low", "one", "two"]
theorem sc_w_frac : FnScope N_w_frac ["top", "low"] (defScope s_w_frac) := ⟨rfl, rfl, rfl, by decide +kernel, rfl, by decide +kernel, by decide +kernel⟩
abbrev ir_w_frac : Tp.S := (.par [(2, false), (3, false)] (.cons (.bi .abs (.cons (.v 0) .nil)) (.cons (.v 1) .nil)) (.wh 100000 (.tr (.cmp .Gt (.v 3) (.k (.int 0)))) (.par [(2, false), (3, false)] (.cons (.v 3) (.cons (.bin .Mod (.v 2) (.v 3)) .nil)) .nx) (.ret (.tup (.cons (.bin .FloorDiv (.v 0) (.v 2)) (.cons (.bin .FloorDiv (.v 1) (.v 2)) .nil))) .nx)))
abbrev cf_w_frac : Cfg := { io := none, C := [], KC := [], G := [], bis := [.abs], tys := [], its := false }
def f_w_frac : List Sl → Out (R × List Sl) := fnS cf_w_frac 4 ir_w_frac
def c_w_frac : Cal := ⟨"_law_frac", cf_w_frac.io, 2, [], f_w_frac⟩
@[simp] theorem c1_w_frac : c_w_frac.fn = f_w_frac := (rfl)
@[simp] theorem c2_w_frac : c_w_frac.io = none := (rfl)
@[simp] theorem c3_w_frac : c_w_frac.ds = [] := (rfl)
theorem ck_w_frac : chkS N_w_frac cf_w_frac (defScope s_w_frac) ir_w_frac (defBody s_w_frac) = true := by decide +kernel
abbrev s_first_wrong : Stmt := topS 11
theorem sc_first_wrong : FnScope NF ["value", "is_right"] (defScope s_first_wrong) := ⟨rfl, rfl, rfl, by decide +kernel, rfl, by decide +kernel, by decide +kernel⟩
theorem ck_first_wrong : ∀ (f : Addr) (gg : List Sl → Out (R × List Sl)), chkS NF (cfF f gg) (defScope s_first_wrong) irF (defBody s_first_wrong) = true := fun f gg => by kernel_rfl
abbrev s_is_whole : Stmt := topS 6
abbrev N_is_whole : List Str := ["value"]
theorem sc_is_whole : FnScope N_is_whole ["value"] (defScope s_is_whole) := ⟨rfl, rfl, rfl, by decide +kernel, rfl, by decide +kernel, by decide +kernel⟩
abbrev ir_is_whole : Tp.S := (.ret (.and (.bi .isinstance (.cons (.v 0) (.cons (.ty .int) .nil))) (.one (.not (.bi .isinstance (.cons (.v 0) (.cons (.ty .bool) .nil)))))) .nx)
abbrev cf_is_whole : Cfg := { io := none, C := [], KC := [], G := [], bis := [.isinstance], tys := [.bool, .int], its := false }
def f_is_whole : List Sl → Out (R × List Sl) := fnS cf_is_whole 1 ir_is_whole
def c_is_whole : Cal := ⟨"is_whole", cf_is_whole.io, 1, [], f_is_whole⟩
@[simp] theorem c1_is_whole : c_is_whole.fn = f_is_whole := (rfl)
@[simp] theorem c2_is_whole : c_is_whole.io = none := (rfl)
@[simp] theorem c3_is_whole : c_is_whole.ds = [] := (rfl)
theorem ck_is_whole : chkS N_is_whole cf_is_whole (defScope s_is_whole) ir_is_whole (defBody s_is_whole) = true := by decide +kernel
abbrev s_is_between : Stmt := topS 8
abbrev N_is_between : List Str := ["value", "least", "most"]
theorem sc_is_between : FnScope N_is_between ["value", "least", "most"] (defScope s_is_between) := ⟨rfl, rfl, rfl, by decide +kernel, rfl, by decide +kernel, by decide +kernel⟩
abbrev ir_is_between : Tp.S := (.ret (.and (.call 0 (.cons (.v 0) .nil)) (.one (.chn .LtE .LtE (.v 1) (.v 0) (.v 2)))) .nx)
abbrev cf_is_between : Cfg := { io := none, C := [c_is_whole], KC := [], G := [], bis := [], tys := [], its := false }
def f_is_between : List Sl → Out (R × List Sl) := fnS cf_is_between 3 ir_is_between
def c_is_between : Cal := ⟨"is_between", cf_is_between.io, 3, [], f_is_between⟩
@[simp] theorem c1_is_between : c_is_between.fn = f_is_between := (rfl)
@[simp] theorem c2_is_between : c_is_between.io = none := (rfl)
@[simp] theorem c3_is_between : c_is_between.ds = [] := (rfl)
theorem ck_is_between : chkS N_is_between cf_is_between (defScope s_is_between) ir_is_between (defBody s_is_between) = true := by decide +kernel
abbrev s_wrong_number : Stmt := topS 28
abbrev N_wrong_number : List Str := ["value"]
theorem sc_wrong_number : FnScope N_wrong_number ["value"] (defScope s_wrong_number) := ⟨rfl, rfl, rfl, by decide +kernel, rfl, by decide +kernel, by decide +kernel⟩
abbrev ir_wrong_number : Tp.S := (.ret (.fw (.v 0)) .nx)
abbrev NL_wrong_number : List Str := ["own", "ahead"]
abbrev cg_wrong_number : Cfg := { io := none, C := [c_is_between], KC := [], G := [("MOST_NUMBER", (.int 9999))], bis := [], tys := [], its := false }
abbrev el_wrong_number : E := (.call 0 (.cons (.v 0) (.cons (.neg (.g 0)) (.cons (.g 0) .nil))))
def fl_wrong_number : List Sl → Out (R × List Sl) := fnL cg_wrong_number el_wrong_number
theorem bd_wrong_number : ∀ a1 a2 : Arg, [a1.arg, a2.arg] = NL_wrong_number → ∀ (q : Str) (body : Expr) (scope : Scope) (pm cv ctv : Value) (us : List Value), us.length = NL_wrong_number.length → bindArgs (PySem.W.kla_fn "<lambda>" q ⟨[], [a1, a2], none, [], [], none, []⟩ body scope [] pm cv ctv) ⟨us, []⟩ = pure (NL_wrong_number.zip us) := by
  rintro ⟨n1, an1, p1⟩ ⟨n2, an2, p2⟩ e q body scope pm cv ctv us hl
  obtain ⟨rfl, rfl⟩ : n1 = "own" ∧ n2 = "ahead" := by
    have e : [n1, n2] = NL_wrong_number := e
    injection e with e1 e2
    injection e2 with e2 e3
    exact ⟨e1, e2⟩
  match us, hl with
  | [_, _], _ => rfl
abbrev cf_wrong_number : Cfg := { io := none, C := [], KC := [], G := [], bis := [], tys := [], its := false, fw := some ⟨lamChk NL_wrong_number cg_wrong_number el_wrong_number, fl_wrong_number⟩ }
def f_wrong_number : List Sl → Out (R × List Sl) := fnS cf_wrong_number 1 ir_wrong_number
def c_wrong_number : Cal := ⟨"wrong_number", cf_wrong_number.io, 1, [], f_wrong_number⟩
@[simp] theorem c1_wrong_number : c_wrong_number.fn = f_wrong_number := (rfl)
@[simp] theorem c2_wrong_number : c_wrong_number.io = none := (rfl)
@[simp] theorem c3_wrong_number : c_wrong_number.ds = [] := (rfl)
theorem ck_wrong_number : chkS N_wrong_number cf_wrong_number (defScope s_wrong_number) ir_wrong_number (defBody s_wrong_number) = true := by decide +kernel
abbrev s_is_row : Stmt := topS 10
abbrev N_is_row : List Str := ["value", "least", "most"]
theorem sc_is_row : FnScope N_is_row ["value", "least", "most"] (defScope s_is_row) := ⟨rfl, rfl, rfl, by decide +kernel, rfl, by decide +kernel, by decide +kernel⟩
abbrev ir_is_row : Tp.S := (.ret (.and (.bi .isinstance (.cons (.v 0) (.cons (.ty .tuple) .nil))) (.one (.chn .LtE .LtE (.v 1) (.bi .len (.cons (.v 0) .nil)) (.v 2)))) .nx)
abbrev cf_is_row : Cfg := { io := none, C := [], KC := [], G := [], bis := [.len, .isinstance], tys := [.tuple], its := false }
def f_is_row : List Sl → Out (R × List Sl) := fnS cf_is_row 3 ir_is_row
def c_is_row : Cal := ⟨"is_row", cf_is_row.io, 3, [], f_is_row⟩
@[simp] theorem c1_is_row : c_is_row.fn = f_is_row := (rfl)
@[simp] theorem c2_is_row : c_is_row.io = none := (rfl)
@[simp] theorem c3_is_row : c_is_row.ds = [] := (rfl)
theorem ck_is_row : chkS N_is_row cf_is_row (defScope s_is_row) ir_is_row (defBody s_is_row) = true := by decide +kernel
abbrev s_without_noughts : Stmt := topS 26
abbrev N_without_noughts : List Str := ["numbers", "found"]
theorem sc_without_noughts : FnScope N_without_noughts ["numbers"] (defScope s_without_noughts) := ⟨rfl, rfl, rfl, by decide +kernel, rfl, by decide +kernel, by decide +kernel⟩
abbrev ir_without_noughts : Tp.S := (.asg (.nm 1) (.bi .list (.cons (.v 0) .nil)) (.wh 100000 (.and (.tr (.cmp .Gt (.bi .len (.cons (.v 1) .nil)) (.k (.int 1)))) (.one (.tr (.cmp .Eq (.ix (.v 1) (.neg (.k (.int 1)))) (.k (.int 0)))))) (.ex (.pop 1) .nx) (.ret (.bi .tuple (.cons (.v 1) .nil)) .nx)))
abbrev cf_without_noughts : Cfg := { io := none, C := [], KC := [], G := [], bis := [.tuple, .len, .list], tys := [], its := false }
def f_without_noughts : List Sl → Out (R × List Sl) := fnS cf_without_noughts 2 ir_without_noughts
def c_without_noughts : Cal := ⟨"without_noughts", cf_without_noughts.io, 1, [], f_without_noughts⟩
@[simp] theorem c1_without_noughts : c_without_noughts.fn = f_without_noughts := (rfl)
@[simp] theorem c2_without_noughts : c_without_noughts.io = none := (rfl)
@[simp] theorem c3_without_noughts : c_without_noughts.ds = [] := (rfl)
theorem ck_without_noughts : chkS N_without_noughts cf_without_noughts (defScope s_without_noughts) ir_without_noughts (defBody s_without_noughts) = true := by decide +kernel
abbrev s_are_numbers : Stmt := topS 29
abbrev N_are_numbers : List Str := ["value"]
theorem sc_are_numbers : FnScope N_are_numbers ["value"] (defScope s_are_numbers) := ⟨rfl, rfl, rfl, by decide +kernel, rfl, by decide +kernel, by decide +kernel⟩
abbrev ir_are_numbers : Tp.S := (.ife (.or (.not (.tr (.call 2 (.cons (.v 0) (.cons (.k (.int 1)) (.cons (.g 0) .nil)))))) (.one (.tr (.cmp .IsNot (.call 1 (.cons (.v 0) .nil)) (.k .non))))) (.ret (.k (.bl false)) .nx) .nx (.ret (.cmp .Eq (.call 0 (.cons (.v 0) .nil)) (.v 0)) .nx))
abbrev cf_are_numbers : Cfg := { io := none, C := [c_without_noughts, c_wrong_number, c_is_row], KC := [], G := [("MOST_POWERS", (.int 10))], bis := [], tys := [], its := false }
def f_are_numbers : List Sl → Out (R × List Sl) := fnS cf_are_numbers 1 ir_are_numbers
def c_are_numbers : Cal := ⟨"are_numbers", cf_are_numbers.io, 1, [], f_are_numbers⟩
@[simp] theorem c1_are_numbers : c_are_numbers.fn = f_are_numbers := (rfl)
@[simp] theorem c2_are_numbers : c_are_numbers.io = none := (rfl)
@[simp] theorem c3_are_numbers : c_are_numbers.ds = [] := (rfl)
theorem ck_are_numbers : chkS N_are_numbers cf_are_numbers (defScope s_are_numbers) ir_are_numbers (defBody s_are_numbers) = true := by decide +kernel
abbrev s_check_numbers : Stmt := topS 30
abbrev N_check_numbers : List Str := ["numbers", "wrong"]
theorem sc_check_numbers : FnScope N_check_numbers ["numbers"] (defScope s_check_numbers) := ⟨rfl, rfl, rfl, by decide +kernel, rfl, by decide +kernel, by decide +kernel⟩
abbrev ir_check_numbers : Tp.S := (.ife (.not (.tr (.call 2 (.cons (.v 0) (.cons (.k (.int 1)) (.cons (.g 0) .nil)))))) (.bad .nx) .nx (.asg (.ns 1) (.call 1 (.cons (.v 0) .nil)) (.ife (.or (.tr (.cmp .IsNot (.v 1) (.k .non))) (.one (.not (.tr (.call 0 (.cons (.v 0) .nil)))))) (.bad .nx) .nx .nx)))
abbrev cf_check_numbers : Cfg := { io := none, C := [c_are_numbers, c_wrong_number, c_is_row], KC := [], G := [("MOST_POWERS", (.int 10))], bis := [], tys := [], its := false }
def f_check_numbers : List Sl → Out (R × List Sl) := fnS cf_check_numbers 2 ir_check_numbers
def c_check_numbers : Cal := ⟨"check_numbers", cf_check_numbers.io, 1, [], f_check_numbers⟩
@[simp] theorem c1_check_numbers : c_check_numbers.fn = f_check_numbers := (rfl)
@[simp] theorem c2_check_numbers : c_check_numbers.io = none := (rfl)
@[simp] theorem c3_check_numbers : c_check_numbers.ds = [] := (rfl)
theorem ck_check_numbers : chkS N_check_numbers cf_check_numbers (defScope s_check_numbers) ir_check_numbers (defBody s_check_numbers) = true := by decide +kernel
abbrev s_is_less : Stmt := topS 18
abbrev N_is_less : List Str := ["one", "other"]
theorem sc_is_less : FnScope N_is_less ["one", "other"] (defScope s_is_less) := ⟨rfl, rfl, rfl, by decide +kernel, rfl, by decide +kernel, by decide +kernel⟩
abbrev ir_is_less : Tp.S := (.ret (.cmp .Lt (.bin .Mult (.ix (.v 0) (.k (.int 0))) (.ix (.v 1) (.k (.int 1)))) (.bin .Mult (.ix (.v 1) (.k (.int 0))) (.ix (.v 0) (.k (.int 1))))) .nx)
abbrev cf_is_less : Cfg := { io := none, C := [], KC := [], G := [], bis := [], tys := [], its := false }
def f_is_less : List Sl → Out (R × List Sl) := fnS cf_is_less 2 ir_is_less
def c_is_less : Cal := ⟨"is_less", cf_is_less.io, 2, [], f_is_less⟩
@[simp] theorem c1_is_less : c_is_less.fn = f_is_less := (rfl)
@[simp] theorem c2_is_less : c_is_less.io = none := (rfl)
@[simp] theorem c3_is_less : c_is_less.ds = [] := (rfl)
theorem ck_is_less : chkS N_is_less cf_is_less (defScope s_is_less) ir_is_less (defBody s_is_less) = true := by decide +kernel
abbrev s_is_tuple_of : Stmt := topS 9
abbrev N_is_tuple_of : List Str := ["value", "many"]
theorem sc_is_tuple_of : FnScope N_is_tuple_of ["value", "many"] (defScope s_is_tuple_of) := ⟨rfl, rfl, rfl, by decide +kernel, rfl, by decide +kernel, by decide +kernel⟩
abbrev ir_is_tuple_of : Tp.S := (.ret (.and (.bi .isinstance (.cons (.v 0) (.cons (.ty .tuple) .nil))) (.one (.cmp .Eq (.bi .len (.cons (.v 0) .nil)) (.v 1)))) .nx)
abbrev cf_is_tuple_of : Cfg := { io := none, C := [], KC := [], G := [], bis := [.len, .isinstance], tys := [.tuple], its := false }
def f_is_tuple_of : List Sl → Out (R × List Sl) := fnS cf_is_tuple_of 2 ir_is_tuple_of
def c_is_tuple_of : Cal := ⟨"is_tuple_of", cf_is_tuple_of.io, 2, [], f_is_tuple_of⟩
@[simp] theorem c1_is_tuple_of : c_is_tuple_of.fn = f_is_tuple_of := (rfl)
@[simp] theorem c2_is_tuple_of : c_is_tuple_of.io = none := (rfl)
@[simp] theorem c3_is_tuple_of : c_is_tuple_of.ds = [] := (rfl)
theorem ck_is_tuple_of : chkS N_is_tuple_of cf_is_tuple_of (defScope s_is_tuple_of) ir_is_tuple_of (defBody s_is_tuple_of) = true := by decide +kernel
abbrev s_is_number : Stmt := topS 7
abbrev N_is_number : List Str := ["value", "low", "high"]
theorem sc_is_number : FnScope N_is_number ["value", "low", "high"] (defScope s_is_number) := ⟨rfl, rfl, rfl, by decide +kernel, rfl, by decide +kernel, by decide +kernel⟩
abbrev ir_is_number : Tp.S := (.ret (.and (.call 0 (.cons (.v 0) .nil)) (.and (.cmp .LtE (.v 1) (.v 0)) (.one (.or (.cmp .Is (.v 2) (.k .non)) (.one (.cmp .LtE (.v 0) (.v 2))))))) .nx)
abbrev cf_is_number : Cfg := { io := none, C := [c_is_whole], KC := [], G := [], bis := [], tys := [], its := false }
def f_is_number : List Sl → Out (R × List Sl) := fnS cf_is_number 3 ir_is_number
def c_is_number : Cal := ⟨"is_number", cf_is_number.io, 3, [], f_is_number⟩
@[simp] theorem c1_is_number : c_is_number.fn = f_is_number := (rfl)
@[simp] theorem c2_is_number : c_is_number.io = none := (rfl)
@[simp] theorem c3_is_number : c_is_number.ds = [] := (rfl)
def c_is_number_d1 : Cal := ⟨"is_number", cf_is_number.io, 3, [.non], f_is_number⟩
@[simp] theorem c1_is_number_d1 : c_is_number_d1.fn = f_is_number := (rfl)
@[simp] theorem c2_is_number_d1 : c_is_number_d1.io = none := (rfl)
@[simp] theorem c3_is_number_d1 : c_is_number_d1.ds = [.non] := (rfl)
def c_is_number_d2 : Cal := ⟨"is_number", cf_is_number.io, 3, [.int 0, .non], f_is_number⟩
@[simp] theorem c1_is_number_d2 : c_is_number_d2.fn = f_is_number := (rfl)
@[simp] theorem c2_is_number_d2 : c_is_number_d2.io = none := (rfl)
@[simp] theorem c3_is_number_d2 : c_is_number_d2.ds = [.int 0, .non] := (rfl)
theorem ck_is_number : chkS N_is_number cf_is_number (defScope s_is_number) ir_is_number (defBody s_is_number) = true := by decide +kernel
abbrev s_is_fraction : Stmt := topS 15
abbrev N_is_fraction : List Str := ["value"]
theorem sc_is_fraction : FnScope N_is_fraction ["value"] (defScope s_is_fraction) := ⟨rfl, rfl, rfl, by decide +kernel, rfl, by decide +kernel, by decide +kernel⟩
abbrev ir_is_fraction : Tp.S := (.ife (.or (.not (.tr (.call 2 (.cons (.v 0) (.cons (.k (.int 2)) .nil))))) (.or (.not (.tr (.call 1 (.cons (.ix (.v 0) (.k (.int 0))) .nil)))) (.one (.not (.tr (.call 0 (.cons (.ix (.v 0) (.k (.int 1))) (.cons (.k (.int 1)) .nil)))))))) (.ret (.k (.bl false)) .nx) .nx (.ret (.cmp .Eq (.bi .gcd (.cons (.ix (.v 0) (.k (.int 0))) (.cons (.ix (.v 0) (.k (.int 1))) .nil))) (.k (.int 1))) .nx))
abbrev cf_is_fraction : Cfg := { io := none, C := [c_is_number_d1, c_is_whole, c_is_tuple_of], KC := [], G := [], bis := [.gcd], tys := [], its := false }
def f_is_fraction : List Sl → Out (R × List Sl) := fnS cf_is_fraction 1 ir_is_fraction
def c_is_fraction : Cal := ⟨"is_fraction", cf_is_fraction.io, 1, [], f_is_fraction⟩
@[simp] theorem c1_is_fraction : c_is_fraction.fn = f_is_fraction := (rfl)
@[simp] theorem c2_is_fraction : c_is_fraction.io = none := (rfl)
@[simp] theorem c3_is_fraction : c_is_fraction.ds = [] := (rfl)
theorem ck_is_fraction : chkS N_is_fraction cf_is_fraction (defScope s_is_fraction) ir_is_fraction (defBody s_is_fraction) = true := by decide +kernel
abbrev s_is_small_fraction : Stmt := topS 21
abbrev N_is_small_fraction : List Str := ["value"]
theorem sc_is_small_fraction : FnScope N_is_small_fraction ["value"] (defScope s_is_small_fraction) := ⟨rfl, rfl, rfl, by decide +kernel, rfl, by decide +kernel, by decide +kernel⟩
abbrev ir_is_small_fraction : Tp.S := (.ife (.or (.not (.tr (.call 1 (.cons (.v 0) .nil)))) (.or (.tr (.call 0 (.cons (.v 0) (.cons (.g 2) .nil)))) (.one (.tr (.call 0 (.cons (.g 1) (.cons (.v 0) .nil))))))) (.ret (.k (.bl false)) .nx) .nx (.ret (.cmp .LtE (.ix (.v 0) (.k (.int 1))) (.g 0)) .nx))
abbrev cf_is_small_fraction : Cfg := { io := none, C := [c_is_less, c_is_fraction], KC := [], G := [("MOST_UNDER", (.int 999)), ("ONE", (.tup [(.int 1), (.int 1)])), ("ZERO", (.tup [(.int 0), (.int 1)]))], bis := [], tys := [], its := false }
def f_is_small_fraction : List Sl → Out (R × List Sl) := fnS cf_is_small_fraction 1 ir_is_small_fraction
def c_is_small_fraction : Cal := ⟨"is_small_fraction", cf_is_small_fraction.io, 1, [], f_is_small_fraction⟩
@[simp] theorem c1_is_small_fraction : c_is_small_fraction.fn = f_is_small_fraction := (rfl)
@[simp] theorem c2_is_small_fraction : c_is_small_fraction.io = none := (rfl)
@[simp] theorem c3_is_small_fraction : c_is_small_fraction.ds = [] := (rfl)
theorem ck_is_small_fraction : chkS N_is_small_fraction cf_is_small_fraction (defScope s_is_small_fraction) ir_is_small_fraction (defBody s_is_small_fraction) = true := by decide +kernel
abbrev s_check_fraction : Stmt := topS 22
abbrev N_check_fraction : List Str := ["value"]
theorem sc_check_fraction : FnScope N_check_fraction ["value"] (defScope s_check_fraction) := ⟨rfl, rfl, rfl, by decide +kernel, rfl, by decide +kernel, by decide +kernel⟩
abbrev ir_check_fraction : Tp.S := (.ife (.not (.tr (.call 0 (.cons (.v 0) .nil)))) (.bad .nx) .nx .nx)
abbrev cf_check_fraction : Cfg := { io := none, C := [c_is_small_fraction], KC := [], G := [], bis := [], tys := [], its := false }
def f_check_fraction : List Sl → Out (R × List Sl) := fnS cf_check_fraction 1 ir_check_fraction
def c_check_fraction : Cal := ⟨"check_fraction", cf_check_fraction.io, 1, [], f_check_fraction⟩
@[simp] theorem c1_check_fraction : c_check_fraction.fn = f_check_fraction := (rfl)
@[simp] theorem c2_check_fraction : c_check_fraction.io = none := (rfl)
@[simp] theorem c3_check_fraction : c_check_fraction.ds = [] := (rfl)
theorem ck_check_fraction : chkS N_check_fraction cf_check_fraction (defScope s_check_fraction) ir_check_fraction (defBody s_check_fraction) = true := by decide +kernel
abbrev s_lowest : Stmt := topS 14
abbrev N_lowest : List Str := ["over", "under", "common"]
theorem sc_lowest : FnScope N_lowest ["over", "under"] (defScope s_lowest) := ⟨rfl, rfl, rfl, by decide +kernel, rfl, by decide +kernel, by decide +kernel⟩
abbrev ir_lowest : Tp.S := (.asg (.ns 2) (.ife (.tr (.cmp .Gt (.v 1) (.k (.int 0)))) (.bi .gcd (.cons (.v 0) (.cons (.v 1) .nil))) (.neg (.bi .gcd (.cons (.v 0) (.cons (.v 1) .nil))))) (.ret (.tup (.cons (.bin .FloorDiv (.v 0) (.v 2)) (.cons (.bin .FloorDiv (.v 1) (.v 2)) .nil))) .nx))
abbrev cf_lowest : Cfg := { io := none, C := [], KC := [], G := [], bis := [.gcd], tys := [], its := false }
def f_lowest : List Sl → Out (R × List Sl) := fnS cf_lowest 3 ir_lowest
def c_lowest : Cal := ⟨"lowest", cf_lowest.io, 2, [], f_lowest⟩
@[simp] theorem c1_lowest : c_lowest.fn = f_lowest := (rfl)
@[simp] theorem c2_lowest : c_lowest.io = none := (rfl)
@[simp] theorem c3_lowest : c_lowest.ds = [] := (rfl)
theorem ck_lowest : chkS N_lowest cf_lowest (defScope s_lowest) ir_lowest (defBody s_lowest) = true := by decide +kernel
abbrev s_plus : Stmt := topS 16
abbrev N_plus : List Str := ["one", "other"]
theorem sc_plus : FnScope N_plus ["one", "other"] (defScope s_plus) := ⟨rfl, rfl, rfl, by decide +kernel, rfl, by decide +kernel, by decide +kernel⟩
abbrev ir_plus : Tp.S := (.ret (.call 0 (.cons (.bin .Add (.bin .Mult (.ix (.v 0) (.k (.int 0))) (.ix (.v 1) (.k (.int 1)))) (.bin .Mult (.ix (.v 1) (.k (.int 0))) (.ix (.v 0) (.k (.int 1))))) (.cons (.bin .Mult (.ix (.v 0) (.k (.int 1))) (.ix (.v 1) (.k (.int 1)))) .nil))) .nx)
abbrev cf_plus : Cfg := { io := none, C := [c_lowest], KC := [], G := [], bis := [], tys := [], its := false }
def f_plus : List Sl → Out (R × List Sl) := fnS cf_plus 2 ir_plus
def c_plus : Cal := ⟨"plus", cf_plus.io, 2, [], f_plus⟩
@[simp] theorem c1_plus : c_plus.fn = f_plus := (rfl)
@[simp] theorem c2_plus : c_plus.io = none := (rfl)
@[simp] theorem c3_plus : c_plus.ds = [] := (rfl)
theorem ck_plus : chkS N_plus cf_plus (defScope s_plus) ir_plus (defBody s_plus) = true := by decide +kernel
abbrev s_times : Stmt := topS 17
abbrev N_times : List Str := ["one", "other"]
theorem sc_times : FnScope N_times ["one", "other"] (defScope s_times) := ⟨rfl, rfl, rfl, by decide +kernel, rfl, by decide +kernel, by decide +kernel⟩
abbrev ir_times : Tp.S := (.ret (.call 0 (.cons (.bin .Mult (.ix (.v 0) (.k (.int 0))) (.ix (.v 1) (.k (.int 0)))) (.cons (.bin .Mult (.ix (.v 0) (.k (.int 1))) (.ix (.v 1) (.k (.int 1)))) .nil))) .nx)
abbrev cf_times : Cfg := { io := none, C := [c_lowest], KC := [], G := [], bis := [], tys := [], its := false }
def f_times : List Sl → Out (R × List Sl) := fnS cf_times 2 ir_times
def c_times : Cal := ⟨"times", cf_times.io, 2, [], f_times⟩
@[simp] theorem c1_times : c_times.fn = f_times := (rfl)
@[simp] theorem c2_times : c_times.io = none := (rfl)
@[simp] theorem c3_times : c_times.ds = [] := (rfl)
theorem ck_times : chkS N_times cf_times (defScope s_times) ir_times (defBody s_times) = true := by decide +kernel
abbrev s_worth_by : Stmt := topS 27
abbrev N_worth_by : List Str := ["numbers", "fraction", "found", "own"]
theorem sc_worth_by : FnScope N_worth_by ["numbers", "fraction"] (defScope s_worth_by) := ⟨rfl, rfl, rfl, by decide +kernel, rfl, by decide +kernel, by decide +kernel⟩
abbrev ir_worth_by : Tp.S := (.asg (.ns 2) (.g 0) (.fr (.ns 3) (.it (.rev (.v 0))) (.asg (.ns 2) (.call 0 (.cons (.call 1 (.cons (.v 2) (.cons (.v 1) .nil))) (.cons (.tup (.cons (.v 3) (.cons (.k (.int 1)) .nil))) .nil))) .nx) (.ret (.v 2) .nx)))
abbrev cf_worth_by : Cfg := { io := none, C := [c_plus, c_times], KC := [], G := [("ZERO", (.tup [(.int 0), (.int 1)]))], bis := [], tys := [], its := false }
def f_worth_by : List Sl → Out (R × List Sl) := fnS cf_worth_by 4 ir_worth_by
def c_worth_by : Cal := ⟨"worth_by", cf_worth_by.io, 2, [], f_worth_by⟩
@[simp] theorem c1_worth_by : c_worth_by.fn = f_worth_by := (rfl)
@[simp] theorem c2_worth_by : c_worth_by.io = none := (rfl)
@[simp] theorem c3_worth_by : c_worth_by.ds = [] := (rfl)
theorem ck_worth_by : chkS N_worth_by cf_worth_by (defScope s_worth_by) ir_worth_by (defBody s_worth_by) = true := by decide +kernel
abbrev s_worth_at : Stmt := topS 31
abbrev N_worth_at : List Str := ["numbers", "fraction"]
theorem sc_worth_at : FnScope N_worth_at ["numbers", "fraction"] (defScope s_worth_at) := ⟨rfl, rfl, rfl, by decide +kernel, rfl, by decide +kernel, by decide +kernel⟩
abbrev ir_worth_at : Tp.S := (.ex (.call 2 (.cons (.v 0) .nil)) (.ex (.call 1 (.cons (.v 1) .nil)) (.ret (.call 0 (.cons (.v 0) (.cons (.v 1) .nil))) .nx)))
abbrev cf_worth_at : Cfg := { io := none, C := [c_worth_by, c_check_fraction, c_check_numbers], KC := [], G := [], bis := [], tys := [], its := false }
def f_worth_at : List Sl → Out (R × List Sl) := fnS cf_worth_at 2 ir_worth_at
def c_worth_at : Cal := ⟨"worth_at", cf_worth_at.io, 2, [], f_worth_at⟩
@[simp] theorem c1_worth_at : c_worth_at.fn = f_worth_at := (rfl)
@[simp] theorem c2_worth_at : c_worth_at.io = none := (rfl)
@[simp] theorem c3_worth_at : c_worth_at.ds = [] := (rfl)
theorem ck_worth_at : chkS N_worth_at cf_worth_at (defScope s_worth_at) ir_worth_at (defBody s_worth_at) = true := by decide +kernel
abbrev s_w_right : Stmt := topS 37
abbrev N_w_right : List Str := ["pool", "most", "wide", "numbers", "turn", "low", "fraction", "top", "under", "number", "due"]
theorem sc_w_right : FnScope N_w_right ["pool", "most"] (defScope s_w_right) := ⟨rfl, rfl, rfl, by decide +kernel, rfl, by decide +kernel, by decide +kernel⟩
abbrev ir_w_right : Tp.S := (.asg (.ns 2) (.call 3 (.cons (.v 0) (.cons (.lst (.cons (.k (.int 3)) (.cons (.k (.int 20)) (.cons (.k (.int 9999)) .nil)))) .nil))) (.asg (.ns 3) (.lc [4] [4] false (.rng (.cons (.bin .Add (.k (.int 1)) (.call 1 (.cons (.v 0) (.cons (.v 1) .nil)))) .nil)) .nil (.bin .Sub (.call 1 (.cons (.v 0) (.cons (.bin .Add (.bin .Mult (.k (.int 2)) (.v 2)) (.k (.int 1))) .nil))) (.v 2))) (.asg (.ns 3) (.ife (.or (.tr (.cmp .NotEq (.ix (.v 3) (.neg (.k (.int 1)))) (.k (.int 0)))) (.one (.tr (.cmp .Eq (.bi .len (.cons (.v 3) .nil)) (.k (.int 1)))))) (.bi .tuple (.cons (.v 3) .nil)) (.bin .Add (.bi .tuple (.cons (.sl (.v 3) .nil (.pt (.neg (.k (.int 1))))) .nil)) (.tup (.cons (.k (.int 1)) .nil)))) (.fr (.ns 5) (.it (.lst (.cons (.k (.int 1)) (.cons (.k (.int 2)) (.cons (.k (.int 3)) (.cons (.bin .Add (.k (.int 1)) (.call 1 (.cons (.v 0) (.cons (.k (.int 999)) .nil)))) .nil)))))) (.asg (.ns 6) (.call 2 (.cons (.call 1 (.cons (.v 0) (.cons (.bin .Add (.v 5) (.k (.int 1))) .nil))) (.cons (.v 5) .nil))) (.asg (.tup (.cons (.ns 7) (.cons (.ns 8) .nil))) (.tup (.cons (.k (.int 0)) (.cons (.k (.int 1)) .nil))) (.fr (.ns 9) (.it (.rev (.v 3))) (.par [(7, false), (8, false)] (.cons (.bin .Add (.bin .Mult (.v 7) (.ix (.v 6) (.k (.int 0)))) (.bin .Mult (.bin .Mult (.v 9) (.v 8)) (.ix (.v 6) (.k (.int 1))))) (.cons (.bin .Mult (.v 8) (.ix (.v 6) (.k (.int 1)))) .nil)) .nx) (.asg (.ns 10) (.call 2 (.cons (.v 7) (.cons (.v 8) .nil))) (.ife (.tr (.cmp .NotEq (.bi .repr (.cons (.lst (.cons (.call 0 (.cons (.v 3) (.cons (.v 6) .nil))) (.cons (.callk 0 .nil (.cons (.v 6) (.cons (.v 3) .nil))) .nil))) .nil)) (.bi .repr (.cons (.lst (.cons (.v 10) (.cons (.v 10) .nil))) .nil)))) (.ret (.k (.bl false)) .nx) .nx .nx))))) (.ret (.cmp .Eq (.call 0 (.cons (.tup (.cons (.k (.int 0)) (.cons (.k (.int 2)) (.cons (.neg (.k (.int 2))) .nil)))) (.cons (.tup (.cons (.k (.int 1)) (.cons (.k (.int 3)) .nil))) .nil))) (.tup (.cons (.k (.int 4)) (.cons (.k (.int 9)) .nil)))) .nx)))))
abbrev cf_w_right : Cfg := { io := some 0, C := [c_worth_at, c_w_take, c_w_frac, c_w_of], KC := [⟨c_worth_at, 0, ["fraction", "numbers"], [1, 0]⟩], G := [], bis := [.repr, .len, .tuple], tys := [], its := true }
def f_w_right : List Sl → Out (R × List Sl) := fnS cf_w_right 11 ir_w_right
def c_w_right : Cal := ⟨"_law_right", cf_w_right.io, 2, [], f_w_right⟩
@[simp] theorem c1_w_right : c_w_right.fn = f_w_right := (rfl)
@[simp] theorem c2_w_right : c_w_right.io = some 0 := (rfl)
@[simp] theorem c3_w_right : c_w_right.ds = [] := (rfl)
theorem ck_w_right : chkS N_w_right cf_w_right (defScope s_w_right) ir_w_right (defBody s_w_right) = true := by decide +kernel
abbrev s_law : Stmt := topS 38
abbrev N_law : List Str := ["script", "k", "pool", "most"]
theorem sc_law : FnScope N_law ["script"] (defScope s_law) := ⟨rfl, rfl, rfl, by decide +kernel, rfl, by decide +kernel, by decide +kernel⟩
abbrev ir_law : Tp.S := (.fr (.ns 1) (.rng (.cons (.bi .max (.cons (.k (.int 2)) (.cons (.bi .min (.cons (.bi .len (.cons (.v 0) .nil)) (.cons (.k (.int 3)) .nil))) .nil))) .nil)) (.asg (.nm 2) (.call 1 (.cons (.v 0) (.cons (.v 1) .nil))) (.fr (.ns 3) (.it (.lst (.cons (.k (.int 9)) (.cons (.k (.int 5)) (.cons (.k (.int 3)) (.cons (.k (.int 1)) (.cons (.k (.int 6)) (.cons (.k (.int 10)) .nil)))))))) (.ife (.not (.tr (.call 0 (.cons (.v 2) (.cons (.v 3) .nil))))) (.ret (.k (.bl false)) .nx) .nx .nx) .nx)) (.ret (.k (.bl true)) .nx))
abbrev cf_law : Cfg := { io := none, C := [c_w_right, c_w_pool], KC := [], G := [], bis := [.max, .min, .len], tys := [], its := true }
def f_law : List Sl → Out (R × List Sl) := fnS cf_law 4 ir_law
def c_law : Cal := ⟨"law", cf_law.io, 1, [], f_law⟩
@[simp] theorem c1_law : c_law.fn = f_law := (rfl)
@[simp] theorem c2_law : c_law.io = none := (rfl)
@[simp] theorem c3_law : c_law.ds = [] := (rfl)
theorem ck_law : chkS N_law cf_law (defScope s_law) ir_law (defBody s_law) = true := by decide +kernel
structure Hd (K : PySem.W.Frag) (mg : Str → Option Value) (fa : Nat → Addr) (fd : Nat → FuncData) : Prop where
  F0 : L2.Fun K "_law_pool" "_law_pool" s_w_pool (fa 0) (fd 0)
  g0 : mg "_law_pool" = some (.ref (fa 0))
  F1 : L2.Fun K "_law_take" "_law_take" s_w_take (fa 1) (fd 1)
  g1 : mg "_law_take" = some (.ref (fa 1))
  F2 : L2.Fun K "_law_of" "_law_of" s_w_of (fa 2) (fd 2)
  g2 : mg "_law_of" = some (.ref (fa 2))
  F3 : L2.Fun K "_law_frac" "_law_frac" s_w_frac (fa 3) (fd 3)
  g3 : mg "_law_frac" = some (.ref (fa 3))
  F4 : L2.Fun K "first_wrong" "first_wrong" s_first_wrong (fa 4) (fd 4)
  g4 : mg "first_wrong" = some (.ref (fa 4))
  F5 : L2.Fun K "is_whole" "is_whole" s_is_whole (fa 5) (fd 5)
  g5 : mg "is_whole" = some (.ref (fa 5))
  F6 : L2.Fun K "is_between" "is_between" s_is_between (fa 6) (fd 6)
  g6 : mg "is_between" = some (.ref (fa 6))
  F7 : L2.Fun K "wrong_number" "wrong_number" s_wrong_number (fa 7) (fd 7)
  g7 : mg "wrong_number" = some (.ref (fa 7))
  F8 : L2.Fun K "is_row" "is_row" s_is_row (fa 8) (fd 8)
  g8 : mg "is_row" = some (.ref (fa 8))
  F9 : L2.Fun K "without_noughts" "without_noughts" s_without_noughts (fa 9) (fd 9)
  g9 : mg "without_noughts" = some (.ref (fa 9))
  F10 : L2.Fun K "are_numbers" "are_numbers" s_are_numbers (fa 10) (fd 10)
  g10 : mg "are_numbers" = some (.ref (fa 10))
  F11 : L2.Fun K "check_numbers" "check_numbers" s_check_numbers (fa 11) (fd 11)
  g11 : mg "check_numbers" = some (.ref (fa 11))
  F12 : L2.Fun K "is_less" "is_less" s_is_less (fa 12) (fd 12)
  g12 : mg "is_less" = some (.ref (fa 12))
  F13 : L2.Fun K "is_tuple_of" "is_tuple_of" s_is_tuple_of (fa 13) (fd 13)
  g13 : mg "is_tuple_of" = some (.ref (fa 13))
  F14 : FunQ K "is_number" "is_number" s_is_number [.int 0, .non] (fa 14) (fd 14)
  g14 : mg "is_number" = some (.ref (fa 14))
  F15 : L2.Fun K "is_fraction" "is_fraction" s_is_fraction (fa 15) (fd 15)
  g15 : mg "is_fraction" = some (.ref (fa 15))
  F16 : L2.Fun K "is_small_fraction" "is_small_fraction" s_is_small_fraction (fa 16) (fd 16)
  g16 : mg "is_small_fraction" = some (.ref (fa 16))
  F17 : L2.Fun K "check_fraction" "check_fraction" s_check_fraction (fa 17) (fd 17)
  g17 : mg "check_fraction" = some (.ref (fa 17))
  F18 : L2.Fun K "lowest" "lowest" s_lowest (fa 18) (fd 18)
  g18 : mg "lowest" = some (.ref (fa 18))
  F19 : L2.Fun K "plus" "plus" s_plus (fa 19) (fd 19)
  g19 : mg "plus" = some (.ref (fa 19))
  F20 : L2.Fun K "times" "times" s_times (fa 20) (fd 20)
  g20 : mg "times" = some (.ref (fa 20))
  F21 : L2.Fun K "worth_by" "worth_by" s_worth_by (fa 21) (fd 21)
  g21 : mg "worth_by" = some (.ref (fa 21))
  F22 : L2.Fun K "worth_at" "worth_at" s_worth_at (fa 22) (fd 22)
  g22 : mg "worth_at" = some (.ref (fa 22))
  F23 : L2.Fun K "_law_right" "_law_right" s_w_right (fa 23) (fd 23)
  g23 : mg "_law_right" = some (.ref (fa 23))
  F24 : L2.Fun K "law" "law" s_law (fa 24) (fd 24)
  g24 : mg "law" = some (.ref (fa 24))
  z_abs : mg "abs" = none
  z_divmod : mg "divmod" = none
  z_isinstance : mg "isinstance" = none
  z_len : mg "len" = none
  z_list : mg "list" = none
  z_max : mg "max" = none
  z_min : mg "min" = none
  z_repr : mg "repr" = none
  z_sum : mg "sum" = none
  z_tuple : mg "tuple" = none
  z_bool : mg "bool" = none
  z_int : mg "int" = none
  z_range : mg "range" = none
  z_enumerate : mg "enumerate" = none
  z_zip : mg "zip" = none
  z_gcd : mg "gcd" = some (Bi.val .gcd)
  v_MOST_NUMBER : ∃ t, mg "MOST_NUMBER" = some (.int 9999 t)
  v_MOST_POWERS : ∃ t, mg "MOST_POWERS" = some (.int 10 t)
  v_MOST_UNDER : ∃ t, mg "MOST_UNDER" = some (.int 999 t)
  v_ONE : ∃ (T : Addr) (o : Obj) (its : Array Value) (n : Nat), mg "ONE" = some (.ref T) ∧ K.lookup T = some o ∧ o.cls = .type "tuple" ∧ o.data = .seq its n ∧ its.size ≤ sizeLine ∧ Vals [.int 1, .int 1] its.toList
  v_ZERO : ∃ (T : Addr) (o : Obj) (its : Array Value) (n : Nat), mg "ZERO" = some (.ref T) ∧ K.lookup T = some o ∧ o.cls = .type "tuple" ∧ o.data = .seq its n ∧ its.size ≤ sizeLine ∧ Vals [.int 0, .int 1] its.toList
section
variable {P : Program} {w : World} {K : PySem.W.Frag} {mg : Str → Option Value} {base : Heap} {fa : Nat → Addr} {fd : Nat → FuncData}
theorem ok_w_pool (h : Hd K mg fa fd) (B : Bse LN K mg base) : FnG P w K mg base 1 (fa 0) (fd 0) ["script", "k"] (spF K cf_w_pool.io 2 f_w_pool) :=
  fn_S (funA h.F0) sc_w_pool ck_w_pool ⟨get0, get0, get0, (mem1 h.z_abs (mem1 h.z_sum mem0)), mem0, fun z => by cases z⟩
theorem ok_w_take (h : Hd K mg fa fd) (B : Bse LN K mg base) : FnG P w K mg base 1 (fa 1) (fd 1) ["pool", "many"] (spF K cf_w_take.io 2 f_w_take) :=
  fn_S (funA h.F1) sc_w_take ck_w_take ⟨get0, get0, get0, (mem1 h.z_divmod mem0), mem0, fun z => by cases z⟩
theorem ok_w_of (h : Hd K mg fa fd) (B : Bse LN K mg base) : FnG P w K mg base 2 (fa 2) (fd 2) ["pool", "some"] (spF K cf_w_of.io 2 f_w_of) :=
  fn_S (funA h.F2) sc_w_of ck_w_of ⟨(get1 (calk (ps := ["pool", "many"]) h.F1 h.g1 (ok_w_take h B) (by decide) (fun _ _ _ _ _ _ us hl => match us, hl with | [_, _], _ => rfl)) get0), get0, get0, (mem1 h.z_len mem0), mem0, fun z => by cases z⟩
theorem ok_w_frac (h : Hd K mg fa fd) (B : Bse LN K mg base) : FnG P w K mg base 1 (fa 3) (fd 3) ["top", "low"] (spF K cf_w_frac.io 2 f_w_frac) :=
  fn_S (funA h.F3) sc_w_frac ck_w_frac ⟨get0, get0, get0, (mem1 h.z_abs mem0), mem0, fun z => by cases z⟩
theorem ok_first_wrong (h : Hd K mg fa fd) : FirstOk K mg s_first_wrong (fa 4) (fd 4) := firstOk h.F4 h.g4 sc_first_wrong ck_first_wrong ⟨h.z_range, h.z_enumerate, h.z_zip⟩ (by decide +kernel) (by decide +kernel) (by decide +kernel) (by decide +kernel) (fun _ _ _ _ _ _ us hl => match us, hl with | [_, _], _ => rfl)
theorem ok_is_whole (h : Hd K mg fa fd) (B : Bse LN K mg base) : FnG P w K mg base 1 (fa 5) (fd 5) ["value"] (spF K cf_is_whole.io 1 f_is_whole) :=
  fn_S (funA h.F5) sc_is_whole ck_is_whole ⟨get0, get0, get0, (mem1 h.z_isinstance mem0), (mem1 ⟨h.z_bool, by decide⟩ (mem1 ⟨h.z_int, by decide⟩ mem0)), fun z => by cases z⟩
theorem ok_is_between (h : Hd K mg fa fd) (B : Bse LN K mg base) : FnG P w K mg base 2 (fa 6) (fd 6) ["value", "least", "most"] (spF K cf_is_between.io 3 f_is_between) :=
  fn_S (funA h.F6) sc_is_between ck_is_between ⟨(get1 (calk (ps := ["value"]) h.F5 h.g5 (ok_is_whole h B) (by decide) (fun _ _ _ _ _ _ us hl => match us, hl with | [_], _ => rfl)) get0), get0, get0, mem0, mem0, fun z => by cases z⟩
theorem ok_wrong_number (h : Hd K mg fa fd) (B : Bse LN K mg base) : FnG P w K mg base 5 (fa 7) (fd 7) ["value"] (spF K cf_wrong_number.io 1 f_wrong_number) :=
  fn_SW (k := 2) B (by decide +kernel) (funA h.F7) h.g7 (ok_first_wrong h) sc_wrong_number (fun _ _ _ => rfl) (by decide +kernel) rfl rfl ck_wrong_number ⟨get0, get0, get0, mem0, mem0, fun z => by cases z⟩ ⟨(get1 (calk (ps := ["value", "least", "most"]) h.F6 h.g6 (ok_is_between h B) (by decide) (fun _ _ _ _ _ _ us hl => match us, hl with | [_, _, _], _ => rfl)) get0), get0, (get1 (by obtain ⟨t, e⟩ := h.v_MOST_NUMBER; exact glbI e) get0), mem0, mem0, fun z => by cases z⟩ rfl rfl rfl bd_wrong_number
theorem ok_is_row (h : Hd K mg fa fd) (B : Bse LN K mg base) : FnG P w K mg base 1 (fa 8) (fd 8) ["value", "least", "most"] (spF K cf_is_row.io 3 f_is_row) :=
  fn_S (funA h.F8) sc_is_row ck_is_row ⟨get0, get0, get0, (mem1 h.z_len (mem1 h.z_isinstance mem0)), (mem1 ⟨h.z_tuple, by decide⟩ mem0), fun z => by cases z⟩
theorem ok_without_noughts (h : Hd K mg fa fd) (B : Bse LN K mg base) : FnG P w K mg base 1 (fa 9) (fd 9) ["numbers"] (spF K cf_without_noughts.io 1 f_without_noughts) :=
  fn_S (funA h.F9) sc_without_noughts ck_without_noughts ⟨get0, get0, get0, (mem1 h.z_tuple (mem1 h.z_len (mem1 h.z_list mem0))), mem0, fun z => by cases z⟩
theorem ok_are_numbers (h : Hd K mg fa fd) (B : Bse LN K mg base) : FnG P w K mg base 6 (fa 10) (fd 10) ["value"] (spF K cf_are_numbers.io 1 f_are_numbers) :=
  fn_S (funA h.F10) sc_are_numbers ck_are_numbers ⟨(get1 (calk (ps := ["numbers"]) h.F9 h.g9 (ok_without_noughts h B) (by decide) (fun _ _ _ _ _ _ us hl => match us, hl with | [_], _ => rfl)) (get1 (calk (ps := ["value"]) h.F7 h.g7 (ok_wrong_number h B) (by decide) (fun _ _ _ _ _ _ us hl => match us, hl with | [_], _ => rfl)) (get1 (calk (ps := ["value", "least", "most"]) h.F8 h.g8 (ok_is_row h B) (by decide) (fun _ _ _ _ _ _ us hl => match us, hl with | [_, _, _], _ => rfl)) get0))), get0, (get1 (by obtain ⟨t, e⟩ := h.v_MOST_POWERS; exact glbI e) get0), mem0, mem0, fun z => by cases z⟩
theorem ok_check_numbers (h : Hd K mg fa fd) (B : Bse LN K mg base) : FnG P w K mg base 7 (fa 11) (fd 11) ["numbers"] (spF K cf_check_numbers.io 1 f_check_numbers) :=
  fn_S (funA h.F11) sc_check_numbers ck_check_numbers ⟨(get1 (calk (ps := ["value"]) h.F10 h.g10 (ok_are_numbers h B) (by decide) (fun _ _ _ _ _ _ us hl => match us, hl with | [_], _ => rfl)) (get1 (calk (ps := ["value"]) h.F7 h.g7 (ok_wrong_number h B) (by decide) (fun _ _ _ _ _ _ us hl => match us, hl with | [_], _ => rfl)) (get1 (calk (ps := ["value", "least", "most"]) h.F8 h.g8 (ok_is_row h B) (by decide) (fun _ _ _ _ _ _ us hl => match us, hl with | [_, _, _], _ => rfl)) get0))), get0, (get1 (by obtain ⟨t, e⟩ := h.v_MOST_POWERS; exact glbI e) get0), mem0, mem0, fun z => by cases z⟩
theorem ok_is_less (h : Hd K mg fa fd) (B : Bse LN K mg base) : FnG P w K mg base 1 (fa 12) (fd 12) ["one", "other"] (spF K cf_is_less.io 2 f_is_less) :=
  fn_S (funA h.F12) sc_is_less ck_is_less ⟨get0, get0, get0, mem0, mem0, fun z => by cases z⟩
theorem ok_is_tuple_of (h : Hd K mg fa fd) (B : Bse LN K mg base) : FnG P w K mg base 1 (fa 13) (fd 13) ["value", "many"] (spF K cf_is_tuple_of.io 2 f_is_tuple_of) :=
  fn_S (funA h.F13) sc_is_tuple_of ck_is_tuple_of ⟨get0, get0, get0, (mem1 h.z_len (mem1 h.z_isinstance mem0)), (mem1 ⟨h.z_tuple, by decide⟩ mem0), fun z => by cases z⟩
theorem ok_is_number (h : Hd K mg fa fd) (B : Bse LN K mg base) : FnG P w K mg base 2 (fa 14) (fd 14) ["value", "low", "high"] (spF K cf_is_number.io 3 f_is_number) :=
  fn_S (funD h.F14) sc_is_number ck_is_number ⟨(get1 (calk (ps := ["value"]) h.F5 h.g5 (ok_is_whole h B) (by decide) (fun _ _ _ _ _ _ us hl => match us, hl with | [_], _ => rfl)) get0), get0, get0, mem0, mem0, fun z => by cases z⟩
theorem ok_is_fraction (h : Hd K mg fa fd) (B : Bse LN K mg base) : FnG P w K mg base 3 (fa 15) (fd 15) ["value"] (spF K cf_is_fraction.io 1 f_is_fraction) :=
  fn_S (funA h.F15) sc_is_fraction ck_is_fraction ⟨(get1 (calkD (ps := ["value", "low", "high"]) 2 1 h.F14 h.g14 (ok_is_number h B) (by decide) (by simp) (by decide) rfl (fun _ _ _ _ _ _ _ us its hu hi => match us, its, hu, hi with | [_, _], [_, _], _, _ => ⟨_, rfl, rfl⟩)) (get1 (calk (ps := ["value"]) h.F5 h.g5 (ok_is_whole h B) (by decide) (fun _ _ _ _ _ _ us hl => match us, hl with | [_], _ => rfl)) (get1 (calk (ps := ["value", "many"]) h.F13 h.g13 (ok_is_tuple_of h B) (by decide) (fun _ _ _ _ _ _ us hl => match us, hl with | [_, _], _ => rfl)) get0))), get0, get0, (mem1 h.z_gcd mem0), mem0, fun z => by cases z⟩
theorem ok_is_small_fraction (h : Hd K mg fa fd) (B : Bse LN K mg base) : FnG P w K mg base 4 (fa 16) (fd 16) ["value"] (spF K cf_is_small_fraction.io 1 f_is_small_fraction) :=
  fn_S (funA h.F16) sc_is_small_fraction ck_is_small_fraction ⟨(get1 (calk (ps := ["one", "other"]) h.F12 h.g12 (ok_is_less h B) (by decide) (fun _ _ _ _ _ _ us hl => match us, hl with | [_, _], _ => rfl)) (get1 (calk (ps := ["value"]) h.F15 h.g15 (ok_is_fraction h B) (by decide) (fun _ _ _ _ _ _ us hl => match us, hl with | [_], _ => rfl)) get0)), get0, (get1 (by obtain ⟨t, e⟩ := h.v_MOST_UNDER; exact glbI e) (get1 (glbT (l := [1, 1]) h.v_ONE) (get1 (glbT (l := [0, 1]) h.v_ZERO) get0))), mem0, mem0, fun z => by cases z⟩
theorem ok_check_fraction (h : Hd K mg fa fd) (B : Bse LN K mg base) : FnG P w K mg base 5 (fa 17) (fd 17) ["value"] (spF K cf_check_fraction.io 1 f_check_fraction) :=
  fn_S (funA h.F17) sc_check_fraction ck_check_fraction ⟨(get1 (calk (ps := ["value"]) h.F16 h.g16 (ok_is_small_fraction h B) (by decide) (fun _ _ _ _ _ _ us hl => match us, hl with | [_], _ => rfl)) get0), get0, get0, mem0, mem0, fun z => by cases z⟩
theorem ok_lowest (h : Hd K mg fa fd) (B : Bse LN K mg base) : FnG P w K mg base 1 (fa 18) (fd 18) ["over", "under"] (spF K cf_lowest.io 2 f_lowest) :=
  fn_S (funA h.F18) sc_lowest ck_lowest ⟨get0, get0, get0, (mem1 h.z_gcd mem0), mem0, fun z => by cases z⟩
theorem ok_plus (h : Hd K mg fa fd) (B : Bse LN K mg base) : FnG P w K mg base 2 (fa 19) (fd 19) ["one", "other"] (spF K cf_plus.io 2 f_plus) :=
  fn_S (funA h.F19) sc_plus ck_plus ⟨(get1 (calk (ps := ["over", "under"]) h.F18 h.g18 (ok_lowest h B) (by decide) (fun _ _ _ _ _ _ us hl => match us, hl with | [_, _], _ => rfl)) get0), get0, get0, mem0, mem0, fun z => by cases z⟩
theorem ok_times (h : Hd K mg fa fd) (B : Bse LN K mg base) : FnG P w K mg base 2 (fa 20) (fd 20) ["one", "other"] (spF K cf_times.io 2 f_times) :=
  fn_S (funA h.F20) sc_times ck_times ⟨(get1 (calk (ps := ["over", "under"]) h.F18 h.g18 (ok_lowest h B) (by decide) (fun _ _ _ _ _ _ us hl => match us, hl with | [_, _], _ => rfl)) get0), get0, get0, mem0, mem0, fun z => by cases z⟩
theorem ok_worth_by (h : Hd K mg fa fd) (B : Bse LN K mg base) : FnG P w K mg base 3 (fa 21) (fd 21) ["numbers", "fraction"] (spF K cf_worth_by.io 2 f_worth_by) :=
  fn_S (funA h.F21) sc_worth_by ck_worth_by ⟨(get1 (calk (ps := ["one", "other"]) h.F19 h.g19 (ok_plus h B) (by decide) (fun _ _ _ _ _ _ us hl => match us, hl with | [_, _], _ => rfl)) (get1 (calk (ps := ["one", "other"]) h.F20 h.g20 (ok_times h B) (by decide) (fun _ _ _ _ _ _ us hl => match us, hl with | [_, _], _ => rfl)) get0)), get0, (get1 (glbT (l := [0, 1]) h.v_ZERO) get0), mem0, mem0, fun z => by cases z⟩
theorem ok_worth_at (h : Hd K mg fa fd) (B : Bse LN K mg base) : FnG P w K mg base 8 (fa 22) (fd 22) ["numbers", "fraction"] (spF K cf_worth_at.io 2 f_worth_at) :=
  fn_S (funA h.F22) sc_worth_at ck_worth_at ⟨(get1 (calk (ps := ["numbers", "fraction"]) h.F21 h.g21 (ok_worth_by h B) (by decide) (fun _ _ _ _ _ _ us hl => match us, hl with | [_, _], _ => rfl)) (get1 (calk (ps := ["value"]) h.F17 h.g17 (ok_check_fraction h B) (by decide) (fun _ _ _ _ _ _ us hl => match us, hl with | [_], _ => rfl)) (get1 (calk (ps := ["numbers"]) h.F11 h.g11 (ok_check_numbers h B) (by decide) (fun _ _ _ _ _ _ us hl => match us, hl with | [_], _ => rfl)) get0))), get0, get0, mem0, mem0, fun z => by cases z⟩
theorem ok_w_right (h : Hd K mg fa fd) (B : Bse LN K mg base) : FnG P w K mg base 9 (fa 23) (fd 23) ["pool", "most"] (spF K cf_w_right.io 2 f_w_right) :=
  fn_S (funA h.F23) sc_w_right ck_w_right ⟨(get1 (calk (ps := ["numbers", "fraction"]) h.F22 h.g22 (ok_worth_at h B) (by decide) (fun _ _ _ _ _ _ us hl => match us, hl with | [_, _], _ => rfl)) (get1 (calk (ps := ["pool", "many"]) h.F1 h.g1 (ok_w_take h B) (by decide) (fun _ _ _ _ _ _ us hl => match us, hl with | [_, _], _ => rfl)) (get1 (calk (ps := ["top", "low"]) h.F3 h.g3 (ok_w_frac h B) (by decide) (fun _ _ _ _ _ _ us hl => match us, hl with | [_, _], _ => rfl)) (get1 (calk (ps := ["pool", "some"]) h.F2 h.g2 (ok_w_of h B) (by decide) (fun _ _ _ _ _ _ us hl => match us, hl with | [_, _], _ => rfl)) get0)))), (get1 (kcalk (ps := ["numbers", "fraction"]) (names := ["fraction", "numbers"]) (np := 0) (perm := [1, 0]) h.F22 h.g22 (ok_worth_at h B) (by decide) (fun _ _ _ _ _ _ us ws zs h1 h2 h3 => match us, ws, h1, h2, h3 with | [], [_, _], _, _, h3 => by cases h3; rfl)) get0), get0, (mem1 h.z_repr (mem1 h.z_len (mem1 h.z_tuple mem0))), mem0, fun _ => ⟨h.z_range, h.z_enumerate, h.z_zip⟩⟩
theorem ok_law (h : Hd K mg fa fd) (B : Bse LN K mg base) : FnG P w K mg base 10 (fa 24) (fd 24) ["script"] (spF K cf_law.io 1 f_law) :=
  fn_S (funA h.F24) sc_law ck_law ⟨(get1 (calk (ps := ["pool", "most"]) h.F23 h.g23 (ok_w_right h B) (by decide) (fun _ _ _ _ _ _ us hl => match us, hl with | [_, _], _ => rfl)) (get1 (calk (ps := ["script", "k"]) h.F0 h.g0 (ok_w_pool h B) (by decide) (fun _ _ _ _ _ _ us hl => match us, hl with | [_, _], _ => rfl)) get0)), get0, get0, (mem1 h.z_max (mem1 h.z_min (mem1 h.z_len mem0))), mem0, fun _ => ⟨h.z_range, h.z_enumerate, h.z_zip⟩⟩
end
theorem all_facts {l : PySem.W.OpenLaw} {w : World} {K : PySem.W.Frag} {h : Heap} {mg : Str → Option Value} {fa : Addr} {p0 p1 p2 p3 p4 p5 p6 p7 p8 p9 p10 p11 p12 p13 p14 p15 p16 p17 p18 p19 p20 p21 p22 p23 p24 : Addr} (X : K.In h) (G : h.Ns mainGlobals mg) (hfa : mg "law" = some (.ref fa))
    {o0a o0b : Option Addr} {o0s : Array (Option Value)} {o0c o0k o0d o0p o0e o0t : Value} {o1a o1b : Option Addr} {o1s : Array (Option Value)} {o1c o1k o1d o1p o1e o1t : Value} {o2a o2b : Option Addr} {o2s : Array (Option Value)} {o2c o2k o2d o2p o2e o2t : Value} {o3a o3b : Option Addr} {o3s : Array (Option Value)} {o3c o3k o3d o3p o3e o3t : Value} {o4a o4b : Option Addr} {o4s : Array (Option Value)} {o4c o4k o4d o4p o4e o4t : Value} {o5a o5b : Option Addr} {o5s : Array (Option Value)} {o5c o5k o5d o5p o5e o5t : Value} {o6a o6b : Option Addr} {o6s : Array (Option Value)} {o6c o6k o6d o6p o6e o6t : Value} {o7a o7b : Option Addr} {o7s : Array (Option Value)} {o7c o7k o7d o7p o7e o7t : Value} {o8a o8b : Option Addr} {o8s : Array (Option Value)} {o8c o8k o8d o8p o8e o8t : Value} {o9a o9b : Option Addr} {o9s : Array (Option Value)} {o9c o9k o9d o9p o9e o9t : Value} {o10a o10b : Option Addr} {o10s : Array (Option Value)} {o10c o10k o10d o10p o10e o10t : Value} {o11a o11b : Option Addr} {o11s : Array (Option Value)} {o11c o11k o11d o11p o11e o11t : Value} {o12a o12b : Option Addr} {o12s : Array (Option Value)} {o12c o12k o12d o12p o12e o12t : Value} {o13a o13b : Option Addr} {o13s : Array (Option Value)} {o13c o13k o13d o13p o13e o13t : Value} {o14a o14b : Option Addr} {o14s : Array (Option Value)} {o14c o14k o14d o14p o14e o14t : Value} {o15a o15b : Option Addr} {o15s : Array (Option Value)} {o15c o15k o15d o15p o15e o15t : Value} {o16a o16b : Option Addr} {o16s : Array (Option Value)} {o16c o16k o16d o16p o16e o16t : Value} {o17a o17b : Option Addr} {o17s : Array (Option Value)} {o17c o17k o17d o17p o17e o17t : Value} {o18a o18b : Option Addr} {o18s : Array (Option Value)} {o18c o18k o18d o18p o18e o18t : Value} {o19a o19b : Option Addr} {o19s : Array (Option Value)} {o19c o19k o19d o19p o19e o19t : Value} {o20a o20b : Option Addr} {o20s : Array (Option Value)} {o20c o20k o20d o20p o20e o20t : Value} {o21a o21b : Option Addr} {o21s : Array (Option Value)} {o21c o21k o21d o21p o21e o21t : Value} {o22a o22b : Option Addr} {o22s : Array (Option Value)} {o22c o22k o22d o22p o22e o22t : Value} {o23a o23b : Option Addr} {o23s : Array (Option Value)} {o23c o23k o23d o23p o23e o23t : Value} {o24a o24b : Option Addr} {o24s : Array (Option Value)} {o24c o24k o24d o24p o24e o24t : Value} {t0 : Nat} {t1 : Nat} {t2 : Nat}
    (a0 : PySem.W.nsIn K mainGlobals "_law_pool" = some (some (.ref p0))) (l0 : K.lookup p0 = some ⟨o0c, o0a, .func (PySem.W.fnOf "_law_pool" "_law_pool" (defArgs s_w_pool) (defBody s_w_pool) (defScope s_w_pool) .none o0k o0d o0p o0b o0e o0t), o0s⟩) (c0 : PySem.W.codeIn K o0e "_law_pool" = true) (k0 : PySem.W.keepIn K (.ref p0) = true)
    (a1 : PySem.W.nsIn K mainGlobals "_law_take" = some (some (.ref p1))) (l1 : K.lookup p1 = some ⟨o1c, o1a, .func (PySem.W.fnOf "_law_take" "_law_take" (defArgs s_w_take) (defBody s_w_take) (defScope s_w_take) .none o1k o1d o1p o1b o1e o1t), o1s⟩) (c1 : PySem.W.codeIn K o1e "_law_take" = true) (k1 : PySem.W.keepIn K (.ref p1) = true)
    (a2 : PySem.W.nsIn K mainGlobals "_law_of" = some (some (.ref p2))) (l2 : K.lookup p2 = some ⟨o2c, o2a, .func (PySem.W.fnOf "_law_of" "_law_of" (defArgs s_w_of) (defBody s_w_of) (defScope s_w_of) .none o2k o2d o2p o2b o2e o2t), o2s⟩) (c2 : PySem.W.codeIn K o2e "_law_of" = true) (k2 : PySem.W.keepIn K (.ref p2) = true)
    (a3 : PySem.W.nsIn K mainGlobals "_law_frac" = some (some (.ref p3))) (l3 : K.lookup p3 = some ⟨o3c, o3a, .func (PySem.W.fnOf "_law_frac" "_law_frac" (defArgs s_w_frac) (defBody s_w_frac) (defScope s_w_frac) .none o3k o3d o3p o3b o3e o3t), o3s⟩) (c3 : PySem.W.codeIn K o3e "_law_frac" = true) (k3 : PySem.W.keepIn K (.ref p3) = true)
    (a4 : PySem.W.nsIn K mainGlobals "first_wrong" = some (some (.ref p4))) (l4 : K.lookup p4 = some ⟨o4c, o4a, .func (PySem.W.fnOf "first_wrong" "first_wrong" (defArgs s_first_wrong) (defBody s_first_wrong) (defScope s_first_wrong) .none o4k o4d o4p o4b o4e o4t), o4s⟩) (c4 : PySem.W.codeIn K o4e "first_wrong" = true) (k4 : PySem.W.keepIn K (.ref p4) = true)
    (a5 : PySem.W.nsIn K mainGlobals "is_whole" = some (some (.ref p5))) (l5 : K.lookup p5 = some ⟨o5c, o5a, .func (PySem.W.fnOf "is_whole" "is_whole" (defArgs s_is_whole) (defBody s_is_whole) (defScope s_is_whole) .none o5k o5d o5p o5b o5e o5t), o5s⟩) (c5 : PySem.W.codeIn K o5e "is_whole" = true) (k5 : PySem.W.keepIn K (.ref p5) = true)
    (a6 : PySem.W.nsIn K mainGlobals "is_between" = some (some (.ref p6))) (l6 : K.lookup p6 = some ⟨o6c, o6a, .func (PySem.W.fnOf "is_between" "is_between" (defArgs s_is_between) (defBody s_is_between) (defScope s_is_between) .none o6k o6d o6p o6b o6e o6t), o6s⟩) (c6 : PySem.W.codeIn K o6e "is_between" = true) (k6 : PySem.W.keepIn K (.ref p6) = true)
    (a7 : PySem.W.nsIn K mainGlobals "wrong_number" = some (some (.ref p7))) (l7 : K.lookup p7 = some ⟨o7c, o7a, .func (PySem.W.fnOf "wrong_number" "wrong_number" (defArgs s_wrong_number) (defBody s_wrong_number) (defScope s_wrong_number) .none o7k o7d o7p o7b o7e o7t), o7s⟩) (c7 : PySem.W.codeIn K o7e "wrong_number" = true) (k7 : PySem.W.keepIn K (.ref p7) = true)
    (a8 : PySem.W.nsIn K mainGlobals "is_row" = some (some (.ref p8))) (l8 : K.lookup p8 = some ⟨o8c, o8a, .func (PySem.W.fnOf "is_row" "is_row" (defArgs s_is_row) (defBody s_is_row) (defScope s_is_row) .none o8k o8d o8p o8b o8e o8t), o8s⟩) (c8 : PySem.W.codeIn K o8e "is_row" = true) (k8 : PySem.W.keepIn K (.ref p8) = true)
    (a9 : PySem.W.nsIn K mainGlobals "without_noughts" = some (some (.ref p9))) (l9 : K.lookup p9 = some ⟨o9c, o9a, .func (PySem.W.fnOf "without_noughts" "without_noughts" (defArgs s_without_noughts) (defBody s_without_noughts) (defScope s_without_noughts) .none o9k o9d o9p o9b o9e o9t), o9s⟩) (c9 : PySem.W.codeIn K o9e "without_noughts" = true) (k9 : PySem.W.keepIn K (.ref p9) = true)
    (a10 : PySem.W.nsIn K mainGlobals "are_numbers" = some (some (.ref p10))) (l10 : K.lookup p10 = some ⟨o10c, o10a, .func (PySem.W.fnOf "are_numbers" "are_numbers" (defArgs s_are_numbers) (defBody s_are_numbers) (defScope s_are_numbers) .none o10k o10d o10p o10b o10e o10t), o10s⟩) (c10 : PySem.W.codeIn K o10e "are_numbers" = true) (k10 : PySem.W.keepIn K (.ref p10) = true)
    (a11 : PySem.W.nsIn K mainGlobals "check_numbers" = some (some (.ref p11))) (l11 : K.lookup p11 = some ⟨o11c, o11a, .func (PySem.W.fnOf "check_numbers" "check_numbers" (defArgs s_check_numbers) (defBody s_check_numbers) (defScope s_check_numbers) .none o11k o11d o11p o11b o11e o11t), o11s⟩) (c11 : PySem.W.codeIn K o11e "check_numbers" = true) (k11 : PySem.W.keepIn K (.ref p11) = true)
    (a12 : PySem.W.nsIn K mainGlobals "is_less" = some (some (.ref p12))) (l12 : K.lookup p12 = some ⟨o12c, o12a, .func (PySem.W.fnOf "is_less" "is_less" (defArgs s_is_less) (defBody s_is_less) (defScope s_is_less) .none o12k o12d o12p o12b o12e o12t), o12s⟩) (c12 : PySem.W.codeIn K o12e "is_less" = true) (k12 : PySem.W.keepIn K (.ref p12) = true)
    (a13 : PySem.W.nsIn K mainGlobals "is_tuple_of" = some (some (.ref p13))) (l13 : K.lookup p13 = some ⟨o13c, o13a, .func (PySem.W.fnOf "is_tuple_of" "is_tuple_of" (defArgs s_is_tuple_of) (defBody s_is_tuple_of) (defScope s_is_tuple_of) .none o13k o13d o13p o13b o13e o13t), o13s⟩) (c13 : PySem.W.codeIn K o13e "is_tuple_of" = true) (k13 : PySem.W.keepIn K (.ref p13) = true)
    {y14T : Addr} {y14n y14t0 : Nat} {y14c : Value} {y14a : Option Addr} {y14s : Array (Option Value)}
    (a14 : PySem.W.nsIn K mainGlobals "is_number" = some (some (.ref p14))) (l14 : K.lookup p14 = some ⟨o14c, o14a, .func (PySem.W.fnOf "is_number" "is_number" (defArgs s_is_number) (defBody s_is_number) (defScope s_is_number) (.ref y14T) o14k o14d o14p o14b o14e o14t), o14s⟩) (c14 : PySem.W.codeIn K o14e "is_number" = true) (k14 : PySem.W.keepIn K (.ref p14) = true) (u14 : K.lookup y14T = some ⟨y14c, y14a, .seq #[.int 0 y14t0, Value.none] y14n, y14s⟩)
    (a15 : PySem.W.nsIn K mainGlobals "is_fraction" = some (some (.ref p15))) (l15 : K.lookup p15 = some ⟨o15c, o15a, .func (PySem.W.fnOf "is_fraction" "is_fraction" (defArgs s_is_fraction) (defBody s_is_fraction) (defScope s_is_fraction) .none o15k o15d o15p o15b o15e o15t), o15s⟩) (c15 : PySem.W.codeIn K o15e "is_fraction" = true) (k15 : PySem.W.keepIn K (.ref p15) = true)
    (a16 : PySem.W.nsIn K mainGlobals "is_small_fraction" = some (some (.ref p16))) (l16 : K.lookup p16 = some ⟨o16c, o16a, .func (PySem.W.fnOf "is_small_fraction" "is_small_fraction" (defArgs s_is_small_fraction) (defBody s_is_small_fraction) (defScope s_is_small_fraction) .none o16k o16d o16p o16b o16e o16t), o16s⟩) (c16 : PySem.W.codeIn K o16e "is_small_fraction" = true) (k16 : PySem.W.keepIn K (.ref p16) = true)
    (a17 : PySem.W.nsIn K mainGlobals "check_fraction" = some (some (.ref p17))) (l17 : K.lookup p17 = some ⟨o17c, o17a, .func (PySem.W.fnOf "check_fraction" "check_fraction" (defArgs s_check_fraction) (defBody s_check_fraction) (defScope s_check_fraction) .none o17k o17d o17p o17b o17e o17t), o17s⟩) (c17 : PySem.W.codeIn K o17e "check_fraction" = true) (k17 : PySem.W.keepIn K (.ref p17) = true)
    (a18 : PySem.W.nsIn K mainGlobals "lowest" = some (some (.ref p18))) (l18 : K.lookup p18 = some ⟨o18c, o18a, .func (PySem.W.fnOf "lowest" "lowest" (defArgs s_lowest) (defBody s_lowest) (defScope s_lowest) .none o18k o18d o18p o18b o18e o18t), o18s⟩) (c18 : PySem.W.codeIn K o18e "lowest" = true) (k18 : PySem.W.keepIn K (.ref p18) = true)
    (a19 : PySem.W.nsIn K mainGlobals "plus" = some (some (.ref p19))) (l19 : K.lookup p19 = some ⟨o19c, o19a, .func (PySem.W.fnOf "plus" "plus" (defArgs s_plus) (defBody s_plus) (defScope s_plus) .none o19k o19d o19p o19b o19e o19t), o19s⟩) (c19 : PySem.W.codeIn K o19e "plus" = true) (k19 : PySem.W.keepIn K (.ref p19) = true)
    (a20 : PySem.W.nsIn K mainGlobals "times" = some (some (.ref p20))) (l20 : K.lookup p20 = some ⟨o20c, o20a, .func (PySem.W.fnOf "times" "times" (defArgs s_times) (defBody s_times) (defScope s_times) .none o20k o20d o20p o20b o20e o20t), o20s⟩) (c20 : PySem.W.codeIn K o20e "times" = true) (k20 : PySem.W.keepIn K (.ref p20) = true)
    (a21 : PySem.W.nsIn K mainGlobals "worth_by" = some (some (.ref p21))) (l21 : K.lookup p21 = some ⟨o21c, o21a, .func (PySem.W.fnOf "worth_by" "worth_by" (defArgs s_worth_by) (defBody s_worth_by) (defScope s_worth_by) .none o21k o21d o21p o21b o21e o21t), o21s⟩) (c21 : PySem.W.codeIn K o21e "worth_by" = true) (k21 : PySem.W.keepIn K (.ref p21) = true)
    (a22 : PySem.W.nsIn K mainGlobals "worth_at" = some (some (.ref p22))) (l22 : K.lookup p22 = some ⟨o22c, o22a, .func (PySem.W.fnOf "worth_at" "worth_at" (defArgs s_worth_at) (defBody s_worth_at) (defScope s_worth_at) .none o22k o22d o22p o22b o22e o22t), o22s⟩) (c22 : PySem.W.codeIn K o22e "worth_at" = true) (k22 : PySem.W.keepIn K (.ref p22) = true)
    (a23 : PySem.W.nsIn K mainGlobals "_law_right" = some (some (.ref p23))) (l23 : K.lookup p23 = some ⟨o23c, o23a, .func (PySem.W.fnOf "_law_right" "_law_right" (defArgs s_w_right) (defBody s_w_right) (defScope s_w_right) .none o23k o23d o23p o23b o23e o23t), o23s⟩) (c23 : PySem.W.codeIn K o23e "_law_right" = true) (k23 : PySem.W.keepIn K (.ref p23) = true)
    (a24 : PySem.W.nsIn K mainGlobals "law" = some (some (.ref p24))) (l24 : K.lookup p24 = some ⟨o24c, o24a, .func (PySem.W.fnOf "law" "law" (defArgs s_law) (defBody s_law) (defScope s_law) .none o24k o24d o24p o24b o24e o24t), o24s⟩) (c24 : PySem.W.codeIn K o24e "law" = true) (k24 : PySem.W.keepIn K (.ref p24) = true)
    (z_abs : PySem.W.nsIn K mainGlobals "abs" = some none)
    (z_divmod : PySem.W.nsIn K mainGlobals "divmod" = some none)
    (z_isinstance : PySem.W.nsIn K mainGlobals "isinstance" = some none)
    (z_len : PySem.W.nsIn K mainGlobals "len" = some none)
    (z_list : PySem.W.nsIn K mainGlobals "list" = some none)
    (z_max : PySem.W.nsIn K mainGlobals "max" = some none)
    (z_min : PySem.W.nsIn K mainGlobals "min" = some none)
    (z_repr : PySem.W.nsIn K mainGlobals "repr" = some none)
    (z_sum : PySem.W.nsIn K mainGlobals "sum" = some none)
    (z_tuple : PySem.W.nsIn K mainGlobals "tuple" = some none)
    (z_bool : PySem.W.nsIn K mainGlobals "bool" = some none)
    (z_int : PySem.W.nsIn K mainGlobals "int" = some none)
    (z_range : PySem.W.nsIn K mainGlobals "range" = some none)
    (z_enumerate : PySem.W.nsIn K mainGlobals "enumerate" = some none)
    (z_zip : PySem.W.nsIn K mainGlobals "zip" = some none)
    (z_gcd : PySem.W.nsIn K mainGlobals "gcd" = some (some (Bi.val .gcd)))
    (v_MOST_NUMBER : PySem.W.nsIn K mainGlobals "MOST_NUMBER" = some (some (.int 9999 t0)))
    (v_MOST_POWERS : PySem.W.nsIn K mainGlobals "MOST_POWERS" = some (some (.int 10 t1)))
    (v_MOST_UNDER : PySem.W.nsIn K mainGlobals "MOST_UNDER" = some (some (.int 999 t2)))
    {T3 : Addr} {h3a : Option Addr} {h3n h3t0 h3t1 : Nat} {h3s : Array (Option Value)} (v_ONE : PySem.W.nsIn K mainGlobals "ONE" = some (some (.ref T3))) (x_ONE : K.lookup T3 = some ⟨.type "tuple", h3a, .seq #[.int 1 h3t0, .int 1 h3t1] h3n, h3s⟩)
    {T4 : Addr} {h4a : Option Addr} {h4n h4t0 h4t1 : Nat} {h4s : Array (Option Value)} (v_ZERO : PySem.W.nsIn K mainGlobals "ZERO" = some (some (.ref T4))) (x_ZERO : K.lookup T4 = some ⟨.type "tuple", h4a, .seq #[.int 0 h4t0, .int 1 h4t1] h4n, h4s⟩)
    (tin : TabsIn LN K) (nd : ((csOf LN K).map fun t => t.2.2).Nodup) (is : LN.all (fun x => (PySem.W.tabIn K x).isSome) = true) : ∃ fd : FuncData, (∀ (s : Shared) (v : Value), BindsTo s fd ⟨[v], []⟩ [("script", v)]) ∧ ∀ base : Heap, K.In base → base.Ns mainGlobals mg → TabsB LN K mg base → FnG l.prog w K mg base 10 fa fd ["script"] (spF K none 1 f_law) := by
  have e := hfa.symm.trans (PySem.W.mg_of X G a24)
  cases e
  let fA : Nat → Addr := fun i => match i with | 0 => p0 | 1 => p1 | 2 => p2 | 3 => p3 | 4 => p4 | 5 => p5 | 6 => p6 | 7 => p7 | 8 => p8 | 9 => p9 | 10 => p10 | 11 => p11 | 12 => p12 | 13 => p13 | 14 => p14 | 15 => p15 | 16 => p16 | 17 => p17 | 18 => p18 | 19 => p19 | 20 => p20 | 21 => p21 | 22 => p22 | 23 => p23 | 24 => fa | _ => 0
  let fD : Nat → FuncData := fun i => match i with | 0 => PySem.W.fnOf "_law_pool" "_law_pool" (defArgs s_w_pool) (defBody s_w_pool) (defScope s_w_pool) .none o0k o0d o0p o0b o0e o0t | 1 => PySem.W.fnOf "_law_take" "_law_take" (defArgs s_w_take) (defBody s_w_take) (defScope s_w_take) .none o1k o1d o1p o1b o1e o1t | 2 => PySem.W.fnOf "_law_of" "_law_of" (defArgs s_w_of) (defBody s_w_of) (defScope s_w_of) .none o2k o2d o2p o2b o2e o2t | 3 => PySem.W.fnOf "_law_frac" "_law_frac" (defArgs s_w_frac) (defBody s_w_frac) (defScope s_w_frac) .none o3k o3d o3p o3b o3e o3t | 4 => PySem.W.fnOf "first_wrong" "first_wrong" (defArgs s_first_wrong) (defBody s_first_wrong) (defScope s_first_wrong) .none o4k o4d o4p o4b o4e o4t | 5 => PySem.W.fnOf "is_whole" "is_whole" (defArgs s_is_whole) (defBody s_is_whole) (defScope s_is_whole) .none o5k o5d o5p o5b o5e o5t | 6 => PySem.W.fnOf "is_between" "is_between" (defArgs s_is_between) (defBody s_is_between) (defScope s_is_between) .none o6k o6d o6p o6b o6e o6t | 7 => PySem.W.fnOf "wrong_number" "wrong_number" (defArgs s_wrong_number) (defBody s_wrong_number) (defScope s_wrong_number) .none o7k o7d o7p o7b o7e o7t | 8 => PySem.W.fnOf "is_row" "is_row" (defArgs s_is_row) (defBody s_is_row) (defScope s_is_row) .none o8k o8d o8p o8b o8e o8t | 9 => PySem.W.fnOf "without_noughts" "without_noughts" (defArgs s_without_noughts) (defBody s_without_noughts) (defScope s_without_noughts) .none o9k o9d o9p o9b o9e o9t | 10 => PySem.W.fnOf "are_numbers" "are_numbers" (defArgs s_are_numbers) (defBody s_are_numbers) (defScope s_are_numbers) .none o10k o10d o10p o10b o10e o10t | 11 => PySem.W.fnOf "check_numbers" "check_numbers" (defArgs s_check_numbers) (defBody s_check_numbers) (defScope s_check_numbers) .none o11k o11d o11p o11b o11e o11t | 12 => PySem.W.fnOf "is_less" "is_less" (defArgs s_is_less) (defBody s_is_less) (defScope s_is_less) .none o12k o12d o12p o12b o12e o12t | 13 => PySem.W.fnOf "is_tuple_of" "is_tuple_of" (defArgs s_is_tuple_of) (defBody s_is_tuple_of) (defScope s_is_tuple_of) .none o13k o13d o13p o13b o13e o13t | 14 => PySem.W.fnOf "is_number" "is_number" (defArgs s_is_number) (defBody s_is_number) (defScope s_is_number) (.ref y14T) o14k o14d o14p o14b o14e o14t | 15 => PySem.W.fnOf "is_fraction" "is_fraction" (defArgs s_is_fraction) (defBody s_is_fraction) (defScope s_is_fraction) .none o15k o15d o15p o15b o15e o15t | 16 => PySem.W.fnOf "is_small_fraction" "is_small_fraction" (defArgs s_is_small_fraction) (defBody s_is_small_fraction) (defScope s_is_small_fraction) .none o16k o16d o16p o16b o16e o16t | 17 => PySem.W.fnOf "check_fraction" "check_fraction" (defArgs s_check_fraction) (defBody s_check_fraction) (defScope s_check_fraction) .none o17k o17d o17p o17b o17e o17t | 18 => PySem.W.fnOf "lowest" "lowest" (defArgs s_lowest) (defBody s_lowest) (defScope s_lowest) .none o18k o18d o18p o18b o18e o18t | 19 => PySem.W.fnOf "plus" "plus" (defArgs s_plus) (defBody s_plus) (defScope s_plus) .none o19k o19d o19p o19b o19e o19t | 20 => PySem.W.fnOf "times" "times" (defArgs s_times) (defBody s_times) (defScope s_times) .none o20k o20d o20p o20b o20e o20t | 21 => PySem.W.fnOf "worth_by" "worth_by" (defArgs s_worth_by) (defBody s_worth_by) (defScope s_worth_by) .none o21k o21d o21p o21b o21e o21t | 22 => PySem.W.fnOf "worth_at" "worth_at" (defArgs s_worth_at) (defBody s_worth_at) (defScope s_worth_at) .none o22k o22d o22p o22b o22e o22t | 23 => PySem.W.fnOf "_law_right" "_law_right" (defArgs s_w_right) (defBody s_w_right) (defScope s_w_right) .none o23k o23d o23p o23b o23e o23t | 24 => PySem.W.fnOf "law" "law" (defArgs s_law) (defBody s_law) (defScope s_law) .none o24k o24d o24p o24b o24e o24t | _ => PySem.W.fnOf "law" "law" (defArgs s_law) (defBody s_law) (defScope s_law) .none o0k o0d o0p o0b o0e o0t
  have H : Hd K mg fA fD := {
    F0 := fun_mk l0 c0 k0
    g0 := PySem.W.mg_of X G a0
    F1 := fun_mk l1 c1 k1
    g1 := PySem.W.mg_of X G a1
    F2 := fun_mk l2 c2 k2
    g2 := PySem.W.mg_of X G a2
    F3 := fun_mk l3 c3 k3
    g3 := PySem.W.mg_of X G a3
    F4 := fun_mk l4 c4 k4
    g4 := PySem.W.mg_of X G a4
    F5 := fun_mk l5 c5 k5
    g5 := PySem.W.mg_of X G a5
    F6 := fun_mk l6 c6 k6
    g6 := PySem.W.mg_of X G a6
    F7 := fun_mk l7 c7 k7
    g7 := PySem.W.mg_of X G a7
    F8 := fun_mk l8 c8 k8
    g8 := PySem.W.mg_of X G a8
    F9 := fun_mk l9 c9 k9
    g9 := PySem.W.mg_of X G a9
    F10 := fun_mk l10 c10 k10
    g10 := PySem.W.mg_of X G a10
    F11 := fun_mk l11 c11 k11
    g11 := PySem.W.mg_of X G a11
    F12 := fun_mk l12 c12 k12
    g12 := PySem.W.mg_of X G a12
    F13 := fun_mk l13 c13 k13
    g13 := PySem.W.mg_of X G a13
    F14 := funQ_mk l14 c14 k14 u14 rfl (.cons ⟨_, rfl⟩ (.cons rfl .nil)) (by simp)
    g14 := PySem.W.mg_of X G a14
    F15 := fun_mk l15 c15 k15
    g15 := PySem.W.mg_of X G a15
    F16 := fun_mk l16 c16 k16
    g16 := PySem.W.mg_of X G a16
    F17 := fun_mk l17 c17 k17
    g17 := PySem.W.mg_of X G a17
    F18 := fun_mk l18 c18 k18
    g18 := PySem.W.mg_of X G a18
    F19 := fun_mk l19 c19 k19
    g19 := PySem.W.mg_of X G a19
    F20 := fun_mk l20 c20 k20
    g20 := PySem.W.mg_of X G a20
    F21 := fun_mk l21 c21 k21
    g21 := PySem.W.mg_of X G a21
    F22 := fun_mk l22 c22 k22
    g22 := PySem.W.mg_of X G a22
    F23 := fun_mk l23 c23 k23
    g23 := PySem.W.mg_of X G a23
    F24 := fun_mk l24 c24 k24
    g24 := PySem.W.mg_of X G a24
    z_abs := PySem.W.mg_none_of X G z_abs
    z_divmod := PySem.W.mg_none_of X G z_divmod
    z_isinstance := PySem.W.mg_none_of X G z_isinstance
    z_len := PySem.W.mg_none_of X G z_len
    z_list := PySem.W.mg_none_of X G z_list
    z_max := PySem.W.mg_none_of X G z_max
    z_min := PySem.W.mg_none_of X G z_min
    z_repr := PySem.W.mg_none_of X G z_repr
    z_sum := PySem.W.mg_none_of X G z_sum
    z_tuple := PySem.W.mg_none_of X G z_tuple
    z_bool := PySem.W.mg_none_of X G z_bool
    z_int := PySem.W.mg_none_of X G z_int
    z_range := PySem.W.mg_none_of X G z_range
    z_enumerate := PySem.W.mg_none_of X G z_enumerate
    z_zip := PySem.W.mg_none_of X G z_zip
    z_gcd := PySem.W.mg_of X G z_gcd
    v_MOST_NUMBER := ⟨t0, PySem.W.mg_of X G v_MOST_NUMBER⟩
    v_MOST_POWERS := ⟨t1, PySem.W.mg_of X G v_MOST_POWERS⟩
    v_MOST_UNDER := ⟨t2, PySem.W.mg_of X G v_MOST_UNDER⟩
    v_ONE := ⟨_, _, _, _, PySem.W.mg_of X G v_ONE, x_ONE, rfl, rfl, Nat.le_of_lt (small1000 (by simp)), (.cons ⟨_, rfl⟩ (.cons ⟨_, rfl⟩ .nil))⟩
    v_ZERO := ⟨_, _, _, _, PySem.W.mg_of X G v_ZERO, x_ZERO, rfl, rfl, Nat.le_of_lt (small1000 (by simp)), (.cons ⟨_, rfl⟩ (.cons ⟨_, rfl⟩ .nil))⟩
  }
  exact ⟨fD 24, fun s v => .of_eq rfl, fun base ki bn tb => ok_law H ⟨ki, bn, tin, tb, nd, is⟩⟩
end Lw
set_option linter.all false
set_option maxRecDepth 1500
set_option maxHeartbeats 1000000
namespace Lw
open PySem PySem.Spec PyProof.Rows L2 Tp
theorem take_ok {a b c m : Int} (ha : 0 ≤ a) (hb : 0 ≤ b) (hb2 : b < 2147483399) (hc : 0 ≤ c) (hc2 : c < 1000000) (hm : 0 < m) (hm2 : m < 100000) : Ok (f_w_take [.ow .lst [.int a, .int b, .int c], .st (.int m)]) fun y => ∃ d a' b' c', y = (.d (.int d), [.ow .lst [.int a', .int b', .int c'], .un]) ∧ 0 ≤ d ∧ d < m ∧ 0 ≤ a' ∧ 0 ≤ b' ∧ b' < 2147483399 ∧ 0 ≤ c' ∧ c' ≤ c + 1 := by
  by_cases h : 0 < a
  · simp [f_w_take, fnS, evS, ioIn, varM, h, gSubM, ixD, atI, ixN, isL, retM, outsOf, noVw, R.val, finS]
    exact ⟨⟨hm, by omega⟩, a % m, a / m, b, c, ⟨rfl, rfl, rfl, rfl⟩, Int.emod_nonneg _ (by omega), Int.emod_lt_of_pos _ hm, Int.ediv_nonneg ha (by omega), hb, hb2, hc, by omega⟩
  · simp [f_w_take, fnS, evS, ioIn, varM, h, gSubM, ixD, atI, ixN, isL, retM, outsOf, noVw, R.val, finS]
    have s0 : 0 ≤ (b + 28657 * (c + 1)) % 2147483399 := Int.emod_nonneg _ (by decide)
    have s1 : (b + 28657 * (c + 1)) % 2147483399 < 2147483399 := Int.emod_lt_of_pos _ (by decide)
    generalize (b + 28657 * (c + 1)) % 2147483399 = s at s0 s1 ⊢
    have s2 : 0 ≤ s % 5003 := Int.emod_nonneg _ (by decide)
    have s3 : s % 5003 < 5003 := Int.emod_lt_of_pos _ (by decide)
    generalize s * (s % 5003 + 48271) + 17 * (c + 1) = u
    refine ⟨⟨big_of (by decide +kernel), nb (by omega) (by omega)⟩, ⟨nb (by omega) (by omega), nb (by omega) (by omega)⟩, ⟨big_of (by decide +kernel), nb (by omega) (by omega)⟩, big_of (by decide +kernel), hm, _, _, _, _, ⟨rfl, rfl, rfl, rfl⟩, Int.emod_nonneg _ (by omega), Int.emod_lt_of_pos _ hm, ha, Int.emod_nonneg _ (by decide), Int.emod_lt_of_pos _ (by decide), by omega, by omega⟩
theorem sum_ok {α : Type} {l : List α} {g : α → Int} : biD .sum [.ob .lst (l.map fun a => D.int (g a))] = .ok (.d (.int (l.map g).sum)) := by
  show (ofO (intsOf (l.map fun a => D.int (g a)))).bind _ = _
  rw [Tp.ints_map]
  rfl
theorem rw_1x {m : M R} {ms : List (M R)} {ρ : List Sl} : rawM (m :: ms) ρ = (m ρ).bind fun x => (rawM ms x.2).bind fun y => .ok (x.1 :: y.1, y.2) := (rfl)
theorem sa_1 {io : Option Nat} {i : Nat} {ns : List (Nat × Bool)} {r : R} {rs : List R} {ρ : List Sl} : setAll io ((i, false) :: ns) (r :: rs) ρ = (gNs i r ρ).bind fun ρ2 => setAll io ns rs ρ2 := (rfl)
theorem abs_ok {i : Int} : biD .abs [.int i] = .ok (.d (.int (if i < 0 then -i else i))) := (rfl)
theorem par_ok {zs : List Int} {k : Nat} {Q : Fl → Prop} (hk : k < 10) (h : ∀ c m : Int, 0 ≤ m → m < 1000000 → Q (.nx [.st (.ob .fz (zs.map .int)), .st (.int (k : Nat)), .st (.int c), .st (.int m), .un, .un])) :
    Ok (parM cf_w_pool.io [(2, false), (3, false)] (rawL cf_w_pool (.cons (.bi .sum (.cons (.sl (.v 0) (.pt (.v 1)) (.pt (.bin .Add (.v 1) (.k (.int 1))))) .nil)) (.cons (.bin .Add (.k (.int 50021)) (.bin .Mult (.k (.int 977)) (.v 1))) .nil))) [.st (.ob .fz (zs.map .int)), .st (.int (k : Nat)), .un, .un, .un, .un]) Q := by
  have v0 : varM 0 [.st (.ob .fz (zs.map .int)), .st (.int (k : Nat)), .un, .un, .un, .un] = .ok (.d (.ob .fz (zs.map .int)), [.st (.ob .fz (zs.map .int)), .st (.int (k : Nat)), .un, .un, .un, .un]) := rfl
  have v1 : varM 1 [.st (.ob .fz (zs.map .int)), .st (.int (k : Nat)), .un, .un, .un, .un] = .ok (.d (.int (k : Nat)), [.st (.ob .fz (zs.map .int)), .st (.int (k : Nat)), .un, .un, .un, .un]) := rfl
  have sm : biD .sum [.ob .lst (cutL (zs.map D.int) (some (k : Int)) (some ((k : Int) + 1)))] = .ok (.d (.int (cutL zs (some (k : Int)) (some ((k : Int) + 1))).sum)) := by
    rw [cut_map]
    have := sum_ok (l := cutL zs (some (k : Int)) (some ((k : Int) + 1))) (g := fun a => a)
    rw [List.map_id'] at this
    exact this
  simp only [ap_par, r_cons, r_nil, Tp.rw_1, rw_0, e_bi, ap_bi, a_cons, a_nil, ap_cons, ap_nil, e_sl, ap_sl, o_pt, ap_pt, e_v, v0, v1, e_bin, ap_op, e_k, ap_d, bind_ok', val_d, hand_d, bin_add, sl_fz, hand_ow, vo_cons, vo_nil, sm, ok_bind, ok_mul, ok_ok, sa_1, sa_0, gns_d, ok_guard]
  refine ⟨⟨nb (by omega) (by omega), nb (by omega) (by omega)⟩, by show 2 < 6; decide, by show 3 < 6; decide, ?_⟩
  exact h _ _ (by omega) (by omega)
theorem wide_ok {ρ : List Sl} : Ok (evE cf_w_pool (.bin .Mult (.bin .Mult (.bin .Mult (.bin .Mult (.bin .Mult (.bin .Pow (.k (.int 10)) (.k (.int 64))) (.bin .Pow (.k (.int 10)) (.k (.int 64)))) (.bin .Pow (.k (.int 10)) (.k (.int 64)))) (.bin .Pow (.k (.int 10)) (.k (.int 64)))) (.bin .Pow (.k (.int 10)) (.k (.int 64)))) (.bin .Pow (.k (.int 10)) (.k (.int 64)))) ρ) fun x => ∃ w : Int, 0 < w ∧ x = (.d (.int w), ρ) := by
  simp only [e_bin, ap_op, e_k, ap_d, bind_ok', val_d, hand_d, ok_bind, ok_pow, ok_mul, ok_ok]
  repeat (refine ⟨by decide +kernel, ?_⟩)
  exact ⟨_, by decide +kernel, rfl⟩
theorem own_ok {s0 s1 s3 s5 : Sl} {cc w : Int} (hw : 0 < w) : Ok (evE cf_w_pool (.ife (.or (.tr (.cmp .Lt (.v 2) (.k (.int 0)))) (.one (.tr (.cmp .GtE (.v 2) (.bin .Pow (.k (.int 10)) (.k (.int 18))))))) (.bin .Mod (.bi .abs (.cons (.v 2) .nil)) (.v 4)) (.k (.int 0))) [s0, s1, .st (.int cc), s3, .st (.int w), s5]) fun x => ∃ a : Int, 0 ≤ a ∧ x = (.d (.int a), [s0, s1, .st (.int cc), s3, .st (.int w), s5]) := by
  have v2 : varM 2 [s0, s1, .st (.int cc), s3, .st (.int w), s5] = .ok (.d (.int cc), [s0, s1, .st (.int cc), s3, .st (.int w), s5]) := rfl
  have v4 : varM 4 [s0, s1, .st (.int cc), s3, .st (.int w), s5] = .ok (.d (.int w), [s0, s1, .st (.int cc), s3, .st (.int w), s5]) := rfl
  have yes : Ok (evE cf_w_pool (.bin .Mod (.bi .abs (.cons (.v 2) .nil)) (.v 4)) [s0, s1, .st (.int cc), s3, .st (.int w), s5]) fun x => ∃ a : Int, 0 ≤ a ∧ x = (.d (.int a), [s0, s1, .st (.int cc), s3, .st (.int w), s5]) := by
    simp only [e_bin, ap_op, e_bi, ap_bi, a_cons, a_nil, ap_cons, ap_nil, e_v, v2, v4, bind_ok', val_d, hand_d, vo_cons, vo_nil, abs_ok, ok_bind, ok_mod, ok_ok]
    exact ⟨hw, _, Int.emod_nonneg _ (by omega), rfl⟩
  rw [e_ife, ap_ife, ok_bind, b_or, ap_orB, b_one, ok_bind]
  have t1 : evB cf_w_pool (.tr (.cmp .Lt (.v 2) (.k (.int 0)))) [s0, s1, .st (.int cc), s3, .st (.int w), s5] = .ok (decide (cc < 0), [s0, s1, .st (.int cc), s3, .st (.int w), s5]) := by
    simp only [b_tr, ap_tru, e_cmp, ap_op, e_v, v2, e_k, ap_d, bind_ok', hand_d, val_d, gB_ap, cmp_lt, tru_b]
  rw [t1, ok_ok]
  by_cases h : cc < 0
  · simp only [h, decide_true, if_true, ok_ok]
    exact yes
  · simp only [h, decide_false, Bool.false_eq_true, if_false]
    simp only [b_tr, ap_tru, e_cmp, ap_op, e_v, v2, e_k, ap_d, bind_ok', hand_d, val_d, e_bin, ok_bind, ok_pow, gB_ap, cmp_ge, tru_b, ok_ok]
    refine ⟨by decide +kernel, ?_⟩
    by_cases h2 : (10 : Int) ^ (18 : Int).toNat ≤ cc
    · simp only [h2, decide_true, if_true]
      exact yes
    · simp only [h2, decide_false, Bool.false_eq_true, if_false, ok_ok]
      exact ⟨0, by decide, rfl⟩
theorem itM_ow {io : Option Nat} {me : M R} {ρ ρ2 : List Sl} {xs : List D} (h : me ρ = .ok (.ow .lst xs, ρ2)) : itM io me ρ = .ok (xs, ρ2) := by
  unfold itM
  rw [h]
  rfl
theorem pool_ok {zs : List Int} {k : Nat} (hk : k < 10) : Ok (f_w_pool [.st (.ob .fz (zs.map .int)), .st (.int (k : Nat))]) fun y => ∃ a b : Int, y = (.ow .lst [.int a, .int b, .int 0], [.un, .un]) ∧ 0 ≤ a ∧ 0 ≤ b ∧ b < 2147483399 := by
  refine fn_run rfl ?_
  refine run_par ?_
  refine par_ok hk fun cc m m0 m1 => ⟨_, rfl, ?_⟩
  refine run_asg ?_
  refine wide_ok.mono ?_
  rintro _ ⟨w, hw, rfl⟩
  simp only [g_ns, gns_d, ok_guard, ok_ok]
  refine ⟨by show 4 < 6; decide, ?_⟩
  simp only [List.set_cons_succ, List.set_cons_zero]
  refine run_fr (fun _ ρ => ∃ (m : Int) (s5 : Sl), 0 ≤ m ∧ m < 2147483399 ∧ ρ = [.st (.ob .fz (zs.map .int)), .st (.int (k : Nat)), .st (.int cc), .st (.int m), .st (.int w), s5]) ?_
  have v0 : varM 0 [.st (.ob .fz (zs.map .int)), .st (.int (k : Nat)), .st (.int cc), .st (.int m), .st (.int w), .un] = .ok (.d (.ob .fz (zs.map .int)), [.st (.ob .fz (zs.map .int)), .st (.int (k : Nat)), .st (.int cc), .st (.int m), .st (.int w), .un]) := rfl
  have it : evI cf_w_pool (.it (.sl (.v 0) .nil (.pt (.k (.int 12))))) [.st (.ob .fz (zs.map .int)), .st (.int (k : Nat)), .st (.int cc), .st (.int m), .st (.int w), .un] = .ok ((cutL zs none (some 12)).map D.int, [.st (.ob .fz (zs.map .int)), .st (.int (k : Nat)), .st (.int cc), .st (.int m), .st (.int w), .un]) := by
    rw [i_it]
    refine itM_ow ?_
    simp only [e_sl, ap_sl, o_nil, o_pt, np, ap_pt, e_v, v0, e_k, ap_d, bind_ok', val_d, hand_d, sl_fz, cut_map]
  rw [it, ok_ok]
  refine ⟨⟨m, .un, m0, by omega, rfl⟩, ?_, ?_⟩
  · intro d hd n ρ h
    obtain ⟨x, _, rfl⟩ := List.mem_map.mp hd
    obtain ⟨m', s5, g0, g1, rfl⟩ := h
    simp only [g_ns, gns_d, ok_guard, ok_ok, List.set_cons_succ, List.set_cons_zero]
    refine ⟨by show 5 < 6; decide, ?_⟩
    refine run_asg ?_
    have v3 : varM 3 [.st (.ob .fz (zs.map .int)), .st (.int (k : Nat)), .st (.int cc), .st (.int m'), .st (.int w), .st (.int x)] = .ok (.d (.int m'), [.st (.ob .fz (zs.map .int)), .st (.int (k : Nat)), .st (.int cc), .st (.int m'), .st (.int w), .st (.int x)]) := rfl
    have v5 : varM 5 [.st (.ob .fz (zs.map .int)), .st (.int (k : Nat)), .st (.int cc), .st (.int m'), .st (.int w), .st (.int x)] = .ok (.d (.int x), [.st (.ob .fz (zs.map .int)), .st (.int (k : Nat)), .st (.int cc), .st (.int m'), .st (.int w), .st (.int x)]) := rfl
    simp only [e_bin, ap_op, e_v, v3, v5, e_k, ap_d, bind_ok', val_d, hand_d, ok_bind, ok_mul, ok_mod, bin_add, ok_ok, g_ns, gns_d, ok_guard, List.set_cons_succ, List.set_cons_zero]
    have e0 : 0 ≤ x % 2147483399 := Int.emod_nonneg _ (by decide)
    have e1 : x % 2147483399 < 2147483399 := Int.emod_lt_of_pos _ (by decide)
    refine ⟨⟨nb (by omega) (by omega), nb (by omega) (by omega)⟩, by decide, ⟨nb (by omega) (by omega), nb (by omega) (by omega)⟩, by decide, by show 3 < 6; decide, ?_⟩
    exact run_nx ⟨_, rfl, _, _, Int.emod_nonneg _ (by decide), Int.emod_lt_of_pos _ (by decide), rfl⟩
  · intro ρ2 h
    obtain ⟨m', s5, g0, g1, rfl⟩ := h
    refine run_reto ?_
    have v3 : varM 3 [.st (.ob .fz (zs.map .int)), .st (.int (k : Nat)), .st (.int cc), .st (.int m'), .st (.int w), s5] = .ok (.d (.int m'), [.st (.ob .fz (zs.map .int)), .st (.int (k : Nat)), .st (.int cc), .st (.int m'), .st (.int w), s5]) := rfl
    rw [e_lst, ap_lst, ok_bind, a_cons, ap_cons, ok_bind]
    refine (own_ok hw).mono ?_
    rintro _ ⟨a, ha, rfl⟩
    simp only [a_cons, ap_cons, e_v, v3, e_k, ap_d, a_nil, ap_nil, bind_ok', hand_d, ok_ok, stab_0, stab_1, ok_bind, ok_guard]
    refine ⟨Nat.le_of_lt (small1000 (by show 3 ≤ 1000; decide)), _, _, rfl, ?_⟩
    exact ⟨_, rfl, a, m', rfl, ha, g0, g1⟩
end Lw
set_option linter.all false
set_option maxRecDepth 1500
set_option maxHeartbeats 1000000
namespace Lw
open PySem PySem.Spec PyProof.Rows L2 Tp
/-! noughts at the end, off -/
def trR : List Int → List Int
  | [] => []
  | [x] => [x]
  | x :: y :: r => if x = 0 then trR (y :: r) else x :: y :: r
theorem trR_c {x y : Int} {r : List Int} : trR (x :: y :: r) = if x = 0 then trR (y :: r) else x :: y :: r := by rw [trR]
def trim (l : List Int) : List Int := (trR l.reverse).reverse
def lenS : List Sl → Nat
  | [_, .ow _ xs] => xs.length
  | _ => 0
theorem at_last {α : Type} {xs : List α} {x : α} : atI (xs ++ [x]) (-1) = some x := by
  have e : ixN (xs ++ [x]).length (-1) = some xs.length := by
    unfold ixN
    rw [if_neg (by decide), if_pos (by rw [List.length_append]; simp; omega)]
    congr 1
    rw [List.length_append]; simp; omega
  unfold atI
  rw [e]
  simp
theorem last_get {α : Type} {xs : List α} {x : α} : (xs ++ [x])[(xs ++ [x]).length - 1]? = some x := by simp
theorem noughts_ok {s : D} {l : List Int} (hb : biD .list [s] = .ok (.ow .lst (l.map .int))) (hl : l ≠ []) (h1 : l.length < 1000) : Ok (f_without_noughts [.st s]) fun y => y = (.d (.tup ((trim l).map .int)), [.un]) := by
  refine fn_run rfl ?_
  refine run_asg ?_
  simp only [e_call0, e_callk0, e_g0, e_lc, ap_callM, e_v, e_k, e_ty, e_neg, e_bin, e_cmp, e_chn, e_and, e_or, e_not, e_one, e_ife, e_tup, e_lst, e_ix, e_sl, e_bi, e_app, e_ext, e_pop, a_nil, a_cons, o_nil, o_pt, b_and, b_or, b_not, b_tr, b_one, t_nil, t_cons, i_it, i_rng, i_enm, g_nm, g_ns, g_sub, g_tup, gs_nil, gs_cons, r_nil, r_cons, ap_d, ap_op, ap_un, ap_nil, ap_cons, ap_bi, vo_nil, vo_cons, ap_tru, ap_andB, ap_orB, ap_notB, ap_ife, ap_yes, gs_0, gs_1, gt_d, gns_d, gns_o, gnm_d, gnm_o, rw_0, rw_1, ap_par, sa_0, sa_t, sa_f, np, ap_pt, ap_sl, ap_lst, ap_tup, stab_0, stab_1, gB_ap, bl_ap, not_ap, neg_ap, ap_app, ap_apd, ap_and, ap_or, vM, vg_d, vg_o, sl_0, sl_c, so_v, so_d, sw_o, bk_n, bk_s, bg_o, fzM, fz_o, val_d, val_ow, val_v, vl_o, hand_d, hand_ow, hand_vw, gsub, s0_o, sg_o, appd, a0_o, ap_o, popd, pp_o, rt_d, rt_o, rt_v, r0_o, itd, it_l, it_f, it_t, end_, en_l, en_f, en_t, chn_ap, nv_d, nv_o, bind_ok', ok_ok, ok_bind, ok_guard, bin_add, bin_sub, ok_mul, ok_fdiv, ok_mod, ok_pow, ok_divmod, ok_ifi, ixn30, ixn31, ixn32, sl_fz, sl_ls, sl_tp, pm_0, pm_1, Option.bind_some, ex_nx, tg_1, tg_t, wi_0, wi_1, sz0, sz1, sz2, sz3, sz4, sz5, sz6, sz7, sz8, bi_comb, cmp_lt, cmp_le, cmp_gt, cmp_ge, cmp_eqi, cmp_nei, cmp_eqs, cmp_nes, cmp_eqb, cmp_neb, is_non, is_int, is_ob, isn_non, isn_int, isn_ob, tru_b, tru_i, bi_int, bi_abs, bi_gcd, bi_lenl, bi_lenf, bi_lent, bi_tupl, bi_tupf, bi_isint, bi_isbool, bi_istup, ofO_s, ix_l, ix_f, ix_t, at_0, at_1, at_2, List.getElem?_cons_succ, List.getElem?_cons_zero, List.set_cons_succ, List.set_cons_zero, List.length_cons, List.length_nil, List.map_nil, List.map_cons, List.append_nil, List.nil_append, List.cons_append, Int.reduceLT, Int.reduceLE, Nat.reduceAdd, Nat.reduceLT, Nat.reduceLeDiff, Nat.zero_add, Nat.zero_lt_succ, if_true, if_false, Bool.false_eq_true, Bool.not_true, Bool.not_false, ne_eq, not_false_eq_true, reduceCtorEq, Option.some.injEq, and_true, true_and, Nat.lt_add_one, Nat.succ_ne_self, Nat.reduceEqDiff, decide_true, decide_false, decide_eq_true_eq, fin_nx, fin_rd, fin_ro, outs_0, os_s, og_o, rep_s, rep_0, Nat.reduceSub, e_rev, rv_l, rv_f, rv_t, is_bb, isn_bb, is_bn, isn_bn, is_sn, isn_sn, e_fw, c1_w_pool, c2_w_pool, c3_w_pool, c1_w_take, c2_w_take, c3_w_take, c1_w_of, c2_w_of, c3_w_of, c1_w_frac, c2_w_frac, c3_w_frac, c1_is_whole, c2_is_whole, c3_is_whole, c1_is_between, c2_is_between, c3_is_between, c1_wrong_number, c2_wrong_number, c3_wrong_number, c1_is_row, c2_is_row, c3_is_row, c1_without_noughts, c2_without_noughts, c3_without_noughts, c1_are_numbers, c2_are_numbers, c3_are_numbers, c1_check_numbers, c2_check_numbers, c3_check_numbers, c1_is_less, c2_is_less, c3_is_less, c1_is_tuple_of, c2_is_tuple_of, c3_is_tuple_of, c1_is_number, c2_is_number, c3_is_number, c1_is_number_d1, c2_is_number_d1, c3_is_number_d1, c1_is_number_d2, c2_is_number_d2, c3_is_number_d2, c1_is_fraction, c2_is_fraction, c3_is_fraction, c1_is_small_fraction, c2_is_small_fraction, c3_is_small_fraction, c1_check_fraction, c2_check_fraction, c3_check_fraction, c1_lowest, c2_lowest, c3_lowest, c1_plus, c2_plus, c3_plus, c1_times, c2_times, c3_times, c1_worth_by, c2_worth_by, c3_worth_by, c1_worth_at, c2_worth_at, c3_worth_at, c1_w_right, c2_w_right, c3_w_right, c1_law, c2_law, c3_law, hb]
  refine run_wh (fun ρ => ∃ r : List Int, ρ = [.st s, .ow .lst (r.reverse.map .int)] ∧ trR r = trR l.reverse ∧ r ≠ []) lenS ⟨l.reverse, by rw [List.reverse_reverse], rfl, by simpa using hl⟩ ?_ ?_
  · show (l.map D.int).length < 100000
    rw [List.length_map]; omega
  · rintro _ ⟨r, rfl, e, hr⟩
    simp only [e_call0, e_callk0, e_g0, e_lc, ap_callM, e_v, e_k, e_ty, e_neg, e_bin, e_cmp, e_chn, e_and, e_or, e_not, e_one, e_ife, e_tup, e_lst, e_ix, e_sl, e_bi, e_app, e_ext, e_pop, a_nil, a_cons, o_nil, o_pt, b_and, b_or, b_not, b_tr, b_one, t_nil, t_cons, i_it, i_rng, i_enm, g_nm, g_ns, g_sub, g_tup, gs_nil, gs_cons, r_nil, r_cons, ap_d, ap_op, ap_un, ap_nil, ap_cons, ap_bi, vo_nil, vo_cons, ap_tru, ap_andB, ap_orB, ap_notB, ap_ife, ap_yes, gs_0, gs_1, gt_d, gns_d, gns_o, gnm_d, gnm_o, rw_0, rw_1, ap_par, sa_0, sa_t, sa_f, np, ap_pt, ap_sl, ap_lst, ap_tup, stab_0, stab_1, gB_ap, bl_ap, not_ap, neg_ap, ap_app, ap_apd, ap_and, ap_or, vM, vg_d, vg_o, sl_0, sl_c, so_v, so_d, sw_o, bk_n, bk_s, bg_o, fzM, fz_o, val_d, val_ow, val_v, vl_o, hand_d, hand_ow, hand_vw, gsub, s0_o, sg_o, appd, a0_o, ap_o, popd, pp_o, rt_d, rt_o, rt_v, r0_o, itd, it_l, it_f, it_t, end_, en_l, en_f, en_t, chn_ap, nv_d, nv_o, bind_ok', ok_ok, ok_bind, ok_guard, bin_add, bin_sub, ok_mul, ok_fdiv, ok_mod, ok_pow, ok_divmod, ok_ifi, ixn30, ixn31, ixn32, sl_fz, sl_ls, sl_tp, pm_0, pm_1, Option.bind_some, ex_nx, tg_1, tg_t, wi_0, wi_1, sz0, sz1, sz2, sz3, sz4, sz5, sz6, sz7, sz8, bi_comb, cmp_lt, cmp_le, cmp_gt, cmp_ge, cmp_eqi, cmp_nei, cmp_eqs, cmp_nes, cmp_eqb, cmp_neb, is_non, is_int, is_ob, isn_non, isn_int, isn_ob, tru_b, tru_i, bi_int, bi_abs, bi_gcd, bi_lenl, bi_lenf, bi_lent, bi_tupl, bi_tupf, bi_isint, bi_isbool, bi_istup, ofO_s, ix_l, ix_f, ix_t, at_0, at_1, at_2, List.getElem?_cons_succ, List.getElem?_cons_zero, List.set_cons_succ, List.set_cons_zero, List.length_cons, List.length_nil, List.map_nil, List.map_cons, List.append_nil, List.nil_append, List.cons_append, Int.reduceLT, Int.reduceLE, Nat.reduceAdd, Nat.reduceLT, Nat.reduceLeDiff, Nat.zero_add, Nat.zero_lt_succ, if_true, if_false, Bool.false_eq_true, Bool.not_true, Bool.not_false, ne_eq, not_false_eq_true, reduceCtorEq, Option.some.injEq, and_true, true_and, Nat.lt_add_one, Nat.succ_ne_self, Nat.reduceEqDiff, decide_true, decide_false, decide_eq_true_eq, fin_nx, fin_rd, fin_ro, outs_0, os_s, og_o, rep_s, rep_0, Nat.reduceSub, e_rev, rv_l, rv_f, rv_t, is_bb, isn_bb, is_bn, isn_bn, is_sn, isn_sn, e_fw, c1_w_pool, c2_w_pool, c3_w_pool, c1_w_take, c2_w_take, c3_w_take, c1_w_of, c2_w_of, c3_w_of, c1_w_frac, c2_w_frac, c3_w_frac, c1_is_whole, c2_is_whole, c3_is_whole, c1_is_between, c2_is_between, c3_is_between, c1_wrong_number, c2_wrong_number, c3_wrong_number, c1_is_row, c2_is_row, c3_is_row, c1_without_noughts, c2_without_noughts, c3_without_noughts, c1_are_numbers, c2_are_numbers, c3_are_numbers, c1_check_numbers, c2_check_numbers, c3_check_numbers, c1_is_less, c2_is_less, c3_is_less, c1_is_tuple_of, c2_is_tuple_of, c3_is_tuple_of, c1_is_number, c2_is_number, c3_is_number, c1_is_number_d1, c2_is_number_d1, c3_is_number_d1, c1_is_number_d2, c2_is_number_d2, c3_is_number_d2, c1_is_fraction, c2_is_fraction, c3_is_fraction, c1_is_small_fraction, c2_is_small_fraction, c3_is_small_fraction, c1_check_fraction, c2_check_fraction, c3_check_fraction, c1_lowest, c2_lowest, c3_lowest, c1_plus, c2_plus, c3_plus, c1_times, c2_times, c3_times, c1_worth_by, c2_worth_by, c3_worth_by, c1_worth_at, c2_worth_at, c3_worth_at, c1_w_right, c2_w_right, c3_w_right, c1_law, c2_law, c3_law]
    cases r with
    | nil => exact absurd rfl hr
    | cons x r =>
      have ex : ((x :: r).reverse.map D.int) = r.reverse.map .int ++ [.int x] := by simp
      rw [ex]
      simp only [e_call0, e_callk0, e_g0, e_lc, ap_callM, e_v, e_k, e_ty, e_neg, e_bin, e_cmp, e_chn, e_and, e_or, e_not, e_one, e_ife, e_tup, e_lst, e_ix, e_sl, e_bi, e_app, e_ext, e_pop, a_nil, a_cons, o_nil, o_pt, b_and, b_or, b_not, b_tr, b_one, t_nil, t_cons, i_it, i_rng, i_enm, g_nm, g_ns, g_sub, g_tup, gs_nil, gs_cons, r_nil, r_cons, ap_d, ap_op, ap_un, ap_nil, ap_cons, ap_bi, vo_nil, vo_cons, ap_tru, ap_andB, ap_orB, ap_notB, ap_ife, ap_yes, gs_0, gs_1, gt_d, gns_d, gns_o, gnm_d, gnm_o, rw_0, rw_1, ap_par, sa_0, sa_t, sa_f, np, ap_pt, ap_sl, ap_lst, ap_tup, stab_0, stab_1, gB_ap, bl_ap, not_ap, neg_ap, ap_app, ap_apd, ap_and, ap_or, vM, vg_d, vg_o, sl_0, sl_c, so_v, so_d, sw_o, bk_n, bk_s, bg_o, fzM, fz_o, val_d, val_ow, val_v, vl_o, hand_d, hand_ow, hand_vw, gsub, s0_o, sg_o, appd, a0_o, ap_o, popd, pp_o, rt_d, rt_o, rt_v, r0_o, itd, it_l, it_f, it_t, end_, en_l, en_f, en_t, chn_ap, nv_d, nv_o, bind_ok', ok_ok, ok_bind, ok_guard, bin_add, bin_sub, ok_mul, ok_fdiv, ok_mod, ok_pow, ok_divmod, ok_ifi, ixn30, ixn31, ixn32, sl_fz, sl_ls, sl_tp, pm_0, pm_1, Option.bind_some, ex_nx, tg_1, tg_t, wi_0, wi_1, sz0, sz1, sz2, sz3, sz4, sz5, sz6, sz7, sz8, bi_comb, cmp_lt, cmp_le, cmp_gt, cmp_ge, cmp_eqi, cmp_nei, cmp_eqs, cmp_nes, cmp_eqb, cmp_neb, is_non, is_int, is_ob, isn_non, isn_int, isn_ob, tru_b, tru_i, bi_int, bi_abs, bi_gcd, bi_lenl, bi_lenf, bi_lent, bi_tupl, bi_tupf, bi_isint, bi_isbool, bi_istup, ofO_s, ix_l, ix_f, ix_t, at_0, at_1, at_2, List.getElem?_cons_succ, List.getElem?_cons_zero, List.set_cons_succ, List.set_cons_zero, List.length_cons, List.length_nil, List.map_nil, List.map_cons, List.append_nil, List.nil_append, List.cons_append, Int.reduceLT, Int.reduceLE, Nat.reduceAdd, Nat.reduceLT, Nat.reduceLeDiff, Nat.zero_add, Nat.zero_lt_succ, if_true, if_false, Bool.false_eq_true, Bool.not_true, Bool.not_false, ne_eq, not_false_eq_true, reduceCtorEq, Option.some.injEq, and_true, true_and, Nat.lt_add_one, Nat.succ_ne_self, Nat.reduceEqDiff, decide_true, decide_false, decide_eq_true_eq, fin_nx, fin_rd, fin_ro, outs_0, os_s, og_o, rep_s, rep_0, Nat.reduceSub, e_rev, rv_l, rv_f, rv_t, is_bb, isn_bb, is_bn, isn_bn, is_sn, isn_sn, e_fw, c1_w_pool, c2_w_pool, c3_w_pool, c1_w_take, c2_w_take, c3_w_take, c1_w_of, c2_w_of, c3_w_of, c1_w_frac, c2_w_frac, c3_w_frac, c1_is_whole, c2_is_whole, c3_is_whole, c1_is_between, c2_is_between, c3_is_between, c1_wrong_number, c2_wrong_number, c3_wrong_number, c1_is_row, c2_is_row, c3_is_row, c1_without_noughts, c2_without_noughts, c3_without_noughts, c1_are_numbers, c2_are_numbers, c3_are_numbers, c1_check_numbers, c2_check_numbers, c3_check_numbers, c1_is_less, c2_is_less, c3_is_less, c1_is_tuple_of, c2_is_tuple_of, c3_is_tuple_of, c1_is_number, c2_is_number, c3_is_number, c1_is_number_d1, c2_is_number_d1, c3_is_number_d1, c1_is_number_d2, c2_is_number_d2, c3_is_number_d2, c1_is_fraction, c2_is_fraction, c3_is_fraction, c1_is_small_fraction, c2_is_small_fraction, c3_is_small_fraction, c1_check_fraction, c2_check_fraction, c3_check_fraction, c1_lowest, c2_lowest, c3_lowest, c1_plus, c2_plus, c3_plus, c1_times, c2_times, c3_times, c1_worth_by, c2_worth_by, c3_worth_by, c1_worth_at, c2_worth_at, c3_worth_at, c1_w_right, c2_w_right, c3_w_right, c1_law, c2_law, c3_law, at_last, last_get, List.dropLast_concat, List.length_append, List.length_map, List.length_reverse]
      have fin : trR (x :: r) = x :: r → Ok (evS cf_without_noughts (S.ret (E.bi Bi.tuple ((E.v 1).cons E.nil)) S.nx) [.st s, .ow .lst (r.reverse.map .int ++ [.int x])]) fun f => Ok (finS none 1 f) fun y => y = (.d (.tup ((trim l).map .int)), [.un]) := by
        intro z
        refine run_rt ?_
        simp only [e_call0, e_callk0, e_g0, e_lc, ap_callM, e_v, e_k, e_ty, e_neg, e_bin, e_cmp, e_chn, e_and, e_or, e_not, e_one, e_ife, e_tup, e_lst, e_ix, e_sl, e_bi, e_app, e_ext, e_pop, a_nil, a_cons, o_nil, o_pt, b_and, b_or, b_not, b_tr, b_one, t_nil, t_cons, i_it, i_rng, i_enm, g_nm, g_ns, g_sub, g_tup, gs_nil, gs_cons, r_nil, r_cons, ap_d, ap_op, ap_un, ap_nil, ap_cons, ap_bi, vo_nil, vo_cons, ap_tru, ap_andB, ap_orB, ap_notB, ap_ife, ap_yes, gs_0, gs_1, gt_d, gns_d, gns_o, gnm_d, gnm_o, rw_0, rw_1, ap_par, sa_0, sa_t, sa_f, np, ap_pt, ap_sl, ap_lst, ap_tup, stab_0, stab_1, gB_ap, bl_ap, not_ap, neg_ap, ap_app, ap_apd, ap_and, ap_or, vM, vg_d, vg_o, sl_0, sl_c, so_v, so_d, sw_o, bk_n, bk_s, bg_o, fzM, fz_o, val_d, val_ow, val_v, vl_o, hand_d, hand_ow, hand_vw, gsub, s0_o, sg_o, appd, a0_o, ap_o, popd, pp_o, rt_d, rt_o, rt_v, r0_o, itd, it_l, it_f, it_t, end_, en_l, en_f, en_t, chn_ap, nv_d, nv_o, bind_ok', ok_ok, ok_bind, ok_guard, bin_add, bin_sub, ok_mul, ok_fdiv, ok_mod, ok_pow, ok_divmod, ok_ifi, ixn30, ixn31, ixn32, sl_fz, sl_ls, sl_tp, pm_0, pm_1, Option.bind_some, ex_nx, tg_1, tg_t, wi_0, wi_1, sz0, sz1, sz2, sz3, sz4, sz5, sz6, sz7, sz8, bi_comb, cmp_lt, cmp_le, cmp_gt, cmp_ge, cmp_eqi, cmp_nei, cmp_eqs, cmp_nes, cmp_eqb, cmp_neb, is_non, is_int, is_ob, isn_non, isn_int, isn_ob, tru_b, tru_i, bi_int, bi_abs, bi_gcd, bi_lenl, bi_lenf, bi_lent, bi_tupl, bi_tupf, bi_isint, bi_isbool, bi_istup, ofO_s, ix_l, ix_f, ix_t, at_0, at_1, at_2, List.getElem?_cons_succ, List.getElem?_cons_zero, List.set_cons_succ, List.set_cons_zero, List.length_cons, List.length_nil, List.map_nil, List.map_cons, List.append_nil, List.nil_append, List.cons_append, Int.reduceLT, Int.reduceLE, Nat.reduceAdd, Nat.reduceLT, Nat.reduceLeDiff, Nat.zero_add, Nat.zero_lt_succ, if_true, if_false, Bool.false_eq_true, Bool.not_true, Bool.not_false, ne_eq, not_false_eq_true, reduceCtorEq, Option.some.injEq, and_true, true_and, Nat.lt_add_one, Nat.succ_ne_self, Nat.reduceEqDiff, decide_true, decide_false, decide_eq_true_eq, fin_nx, fin_rd, fin_ro, outs_0, os_s, og_o, rep_s, rep_0, Nat.reduceSub, e_rev, rv_l, rv_f, rv_t, is_bb, isn_bb, is_bn, isn_bn, is_sn, isn_sn, e_fw, c1_w_pool, c2_w_pool, c3_w_pool, c1_w_take, c2_w_take, c3_w_take, c1_w_of, c2_w_of, c3_w_of, c1_w_frac, c2_w_frac, c3_w_frac, c1_is_whole, c2_is_whole, c3_is_whole, c1_is_between, c2_is_between, c3_is_between, c1_wrong_number, c2_wrong_number, c3_wrong_number, c1_is_row, c2_is_row, c3_is_row, c1_without_noughts, c2_without_noughts, c3_without_noughts, c1_are_numbers, c2_are_numbers, c3_are_numbers, c1_check_numbers, c2_check_numbers, c3_check_numbers, c1_is_less, c2_is_less, c3_is_less, c1_is_tuple_of, c2_is_tuple_of, c3_is_tuple_of, c1_is_number, c2_is_number, c3_is_number, c1_is_number_d1, c2_is_number_d1, c3_is_number_d1, c1_is_number_d2, c2_is_number_d2, c3_is_number_d2, c1_is_fraction, c2_is_fraction, c3_is_fraction, c1_is_small_fraction, c2_is_small_fraction, c3_is_small_fraction, c1_check_fraction, c2_check_fraction, c3_check_fraction, c1_lowest, c2_lowest, c3_lowest, c1_plus, c2_plus, c3_plus, c1_times, c2_times, c3_times, c1_worth_by, c2_worth_by, c3_worth_by, c1_worth_at, c2_worth_at, c3_worth_at, c1_w_right, c2_w_right, c3_w_right, c1_law, c2_law, c3_law]
        refine ⟨_, _, rfl, ?_⟩
        unfold trim
        rw [← e, z]
        simp
      cases r with
      | nil =>
        rw [if_neg (by simp)]
        simp only [e_call0, e_callk0, e_g0, e_lc, ap_callM, e_v, e_k, e_ty, e_neg, e_bin, e_cmp, e_chn, e_and, e_or, e_not, e_one, e_ife, e_tup, e_lst, e_ix, e_sl, e_bi, e_app, e_ext, e_pop, a_nil, a_cons, o_nil, o_pt, b_and, b_or, b_not, b_tr, b_one, t_nil, t_cons, i_it, i_rng, i_enm, g_nm, g_ns, g_sub, g_tup, gs_nil, gs_cons, r_nil, r_cons, ap_d, ap_op, ap_un, ap_nil, ap_cons, ap_bi, vo_nil, vo_cons, ap_tru, ap_andB, ap_orB, ap_notB, ap_ife, ap_yes, gs_0, gs_1, gt_d, gns_d, gns_o, gnm_d, gnm_o, rw_0, rw_1, ap_par, sa_0, sa_t, sa_f, np, ap_pt, ap_sl, ap_lst, ap_tup, stab_0, stab_1, gB_ap, bl_ap, not_ap, neg_ap, ap_app, ap_apd, ap_and, ap_or, vM, vg_d, vg_o, sl_0, sl_c, so_v, so_d, sw_o, bk_n, bk_s, bg_o, fzM, fz_o, val_d, val_ow, val_v, vl_o, hand_d, hand_ow, hand_vw, gsub, s0_o, sg_o, appd, a0_o, ap_o, popd, pp_o, rt_d, rt_o, rt_v, r0_o, itd, it_l, it_f, it_t, end_, en_l, en_f, en_t, chn_ap, nv_d, nv_o, bind_ok', ok_ok, ok_bind, ok_guard, bin_add, bin_sub, ok_mul, ok_fdiv, ok_mod, ok_pow, ok_divmod, ok_ifi, ixn30, ixn31, ixn32, sl_fz, sl_ls, sl_tp, pm_0, pm_1, Option.bind_some, ex_nx, tg_1, tg_t, wi_0, wi_1, sz0, sz1, sz2, sz3, sz4, sz5, sz6, sz7, sz8, bi_comb, cmp_lt, cmp_le, cmp_gt, cmp_ge, cmp_eqi, cmp_nei, cmp_eqs, cmp_nes, cmp_eqb, cmp_neb, is_non, is_int, is_ob, isn_non, isn_int, isn_ob, tru_b, tru_i, bi_int, bi_abs, bi_gcd, bi_lenl, bi_lenf, bi_lent, bi_tupl, bi_tupf, bi_isint, bi_isbool, bi_istup, ofO_s, ix_l, ix_f, ix_t, at_0, at_1, at_2, List.getElem?_cons_succ, List.getElem?_cons_zero, List.set_cons_succ, List.set_cons_zero, List.length_cons, List.length_nil, List.map_nil, List.map_cons, List.append_nil, List.nil_append, List.cons_append, Int.reduceLT, Int.reduceLE, Nat.reduceAdd, Nat.reduceLT, Nat.reduceLeDiff, Nat.zero_add, Nat.zero_lt_succ, if_true, if_false, Bool.false_eq_true, Bool.not_true, Bool.not_false, ne_eq, not_false_eq_true, reduceCtorEq, Option.some.injEq, and_true, true_and, Nat.lt_add_one, Nat.succ_ne_self, Nat.reduceEqDiff, decide_true, decide_false, decide_eq_true_eq, fin_nx, fin_rd, fin_ro, outs_0, os_s, og_o, rep_s, rep_0, Nat.reduceSub, e_rev, rv_l, rv_f, rv_t, is_bb, isn_bb, is_bn, isn_bn, is_sn, isn_sn, e_fw, c1_w_pool, c2_w_pool, c3_w_pool, c1_w_take, c2_w_take, c3_w_take, c1_w_of, c2_w_of, c3_w_of, c1_w_frac, c2_w_frac, c3_w_frac, c1_is_whole, c2_is_whole, c3_is_whole, c1_is_between, c2_is_between, c3_is_between, c1_wrong_number, c2_wrong_number, c3_wrong_number, c1_is_row, c2_is_row, c3_is_row, c1_without_noughts, c2_without_noughts, c3_without_noughts, c1_are_numbers, c2_are_numbers, c3_are_numbers, c1_check_numbers, c2_check_numbers, c3_check_numbers, c1_is_less, c2_is_less, c3_is_less, c1_is_tuple_of, c2_is_tuple_of, c3_is_tuple_of, c1_is_number, c2_is_number, c3_is_number, c1_is_number_d1, c2_is_number_d1, c3_is_number_d1, c1_is_number_d2, c2_is_number_d2, c3_is_number_d2, c1_is_fraction, c2_is_fraction, c3_is_fraction, c1_is_small_fraction, c2_is_small_fraction, c3_is_small_fraction, c1_check_fraction, c2_check_fraction, c3_check_fraction, c1_lowest, c2_lowest, c3_lowest, c1_plus, c2_plus, c3_plus, c1_times, c2_times, c3_times, c1_worth_by, c2_worth_by, c3_worth_by, c1_worth_at, c2_worth_at, c3_worth_at, c1_w_right, c2_w_right, c3_w_right, c1_law, c2_law, c3_law]
        exact fin rfl
      | cons y r =>
        rw [if_pos (by simp only [List.length_cons]; omega)]
        by_cases hx : x = 0
        · simp only [e_call0, e_callk0, e_g0, e_lc, ap_callM, e_v, e_k, e_ty, e_neg, e_bin, e_cmp, e_chn, e_and, e_or, e_not, e_one, e_ife, e_tup, e_lst, e_ix, e_sl, e_bi, e_app, e_ext, e_pop, a_nil, a_cons, o_nil, o_pt, b_and, b_or, b_not, b_tr, b_one, t_nil, t_cons, i_it, i_rng, i_enm, g_nm, g_ns, g_sub, g_tup, gs_nil, gs_cons, r_nil, r_cons, ap_d, ap_op, ap_un, ap_nil, ap_cons, ap_bi, vo_nil, vo_cons, ap_tru, ap_andB, ap_orB, ap_notB, ap_ife, ap_yes, gs_0, gs_1, gt_d, gns_d, gns_o, gnm_d, gnm_o, rw_0, rw_1, ap_par, sa_0, sa_t, sa_f, np, ap_pt, ap_sl, ap_lst, ap_tup, stab_0, stab_1, gB_ap, bl_ap, not_ap, neg_ap, ap_app, ap_apd, ap_and, ap_or, vM, vg_d, vg_o, sl_0, sl_c, so_v, so_d, sw_o, bk_n, bk_s, bg_o, fzM, fz_o, val_d, val_ow, val_v, vl_o, hand_d, hand_ow, hand_vw, gsub, s0_o, sg_o, appd, a0_o, ap_o, popd, pp_o, rt_d, rt_o, rt_v, r0_o, itd, it_l, it_f, it_t, end_, en_l, en_f, en_t, chn_ap, nv_d, nv_o, bind_ok', ok_ok, ok_bind, ok_guard, bin_add, bin_sub, ok_mul, ok_fdiv, ok_mod, ok_pow, ok_divmod, ok_ifi, ixn30, ixn31, ixn32, sl_fz, sl_ls, sl_tp, pm_0, pm_1, Option.bind_some, ex_nx, tg_1, tg_t, wi_0, wi_1, sz0, sz1, sz2, sz3, sz4, sz5, sz6, sz7, sz8, bi_comb, cmp_lt, cmp_le, cmp_gt, cmp_ge, cmp_eqi, cmp_nei, cmp_eqs, cmp_nes, cmp_eqb, cmp_neb, is_non, is_int, is_ob, isn_non, isn_int, isn_ob, tru_b, tru_i, bi_int, bi_abs, bi_gcd, bi_lenl, bi_lenf, bi_lent, bi_tupl, bi_tupf, bi_isint, bi_isbool, bi_istup, ofO_s, ix_l, ix_f, ix_t, at_0, at_1, at_2, List.getElem?_cons_succ, List.getElem?_cons_zero, List.set_cons_succ, List.set_cons_zero, List.length_cons, List.length_nil, List.map_nil, List.map_cons, List.append_nil, List.nil_append, List.cons_append, Int.reduceLT, Int.reduceLE, Nat.reduceAdd, Nat.reduceLT, Nat.reduceLeDiff, Nat.zero_add, Nat.zero_lt_succ, if_true, if_false, Bool.false_eq_true, Bool.not_true, Bool.not_false, ne_eq, not_false_eq_true, reduceCtorEq, Option.some.injEq, and_true, true_and, Nat.lt_add_one, Nat.succ_ne_self, Nat.reduceEqDiff, decide_true, decide_false, decide_eq_true_eq, fin_nx, fin_rd, fin_ro, outs_0, os_s, og_o, rep_s, rep_0, Nat.reduceSub, e_rev, rv_l, rv_f, rv_t, is_bb, isn_bb, is_bn, isn_bn, is_sn, isn_sn, e_fw, c1_w_pool, c2_w_pool, c3_w_pool, c1_w_take, c2_w_take, c3_w_take, c1_w_of, c2_w_of, c3_w_of, c1_w_frac, c2_w_frac, c3_w_frac, c1_is_whole, c2_is_whole, c3_is_whole, c1_is_between, c2_is_between, c3_is_between, c1_wrong_number, c2_wrong_number, c3_wrong_number, c1_is_row, c2_is_row, c3_is_row, c1_without_noughts, c2_without_noughts, c3_without_noughts, c1_are_numbers, c2_are_numbers, c3_are_numbers, c1_check_numbers, c2_check_numbers, c3_check_numbers, c1_is_less, c2_is_less, c3_is_less, c1_is_tuple_of, c2_is_tuple_of, c3_is_tuple_of, c1_is_number, c2_is_number, c3_is_number, c1_is_number_d1, c2_is_number_d1, c3_is_number_d1, c1_is_number_d2, c2_is_number_d2, c3_is_number_d2, c1_is_fraction, c2_is_fraction, c3_is_fraction, c1_is_small_fraction, c2_is_small_fraction, c3_is_small_fraction, c1_check_fraction, c2_check_fraction, c3_check_fraction, c1_lowest, c2_lowest, c3_lowest, c1_plus, c2_plus, c3_plus, c1_times, c2_times, c3_times, c1_worth_by, c2_worth_by, c3_worth_by, c1_worth_at, c2_worth_at, c3_worth_at, c1_w_right, c2_w_right, c3_w_right, c1_law, c2_law, c3_law, hx]
          refine run_ex ?_
          simp only [e_call0, e_callk0, e_g0, e_lc, ap_callM, e_v, e_k, e_ty, e_neg, e_bin, e_cmp, e_chn, e_and, e_or, e_not, e_one, e_ife, e_tup, e_lst, e_ix, e_sl, e_bi, e_app, e_ext, e_pop, a_nil, a_cons, o_nil, o_pt, b_and, b_or, b_not, b_tr, b_one, t_nil, t_cons, i_it, i_rng, i_enm, g_nm, g_ns, g_sub, g_tup, gs_nil, gs_cons, r_nil, r_cons, ap_d, ap_op, ap_un, ap_nil, ap_cons, ap_bi, vo_nil, vo_cons, ap_tru, ap_andB, ap_orB, ap_notB, ap_ife, ap_yes, gs_0, gs_1, gt_d, gns_d, gns_o, gnm_d, gnm_o, rw_0, rw_1, ap_par, sa_0, sa_t, sa_f, np, ap_pt, ap_sl, ap_lst, ap_tup, stab_0, stab_1, gB_ap, bl_ap, not_ap, neg_ap, ap_app, ap_apd, ap_and, ap_or, vM, vg_d, vg_o, sl_0, sl_c, so_v, so_d, sw_o, bk_n, bk_s, bg_o, fzM, fz_o, val_d, val_ow, val_v, vl_o, hand_d, hand_ow, hand_vw, gsub, s0_o, sg_o, appd, a0_o, ap_o, popd, pp_o, rt_d, rt_o, rt_v, r0_o, itd, it_l, it_f, it_t, end_, en_l, en_f, en_t, chn_ap, nv_d, nv_o, bind_ok', ok_ok, ok_bind, ok_guard, bin_add, bin_sub, ok_mul, ok_fdiv, ok_mod, ok_pow, ok_divmod, ok_ifi, ixn30, ixn31, ixn32, sl_fz, sl_ls, sl_tp, pm_0, pm_1, Option.bind_some, ex_nx, tg_1, tg_t, wi_0, wi_1, sz0, sz1, sz2, sz3, sz4, sz5, sz6, sz7, sz8, bi_comb, cmp_lt, cmp_le, cmp_gt, cmp_ge, cmp_eqi, cmp_nei, cmp_eqs, cmp_nes, cmp_eqb, cmp_neb, is_non, is_int, is_ob, isn_non, isn_int, isn_ob, tru_b, tru_i, bi_int, bi_abs, bi_gcd, bi_lenl, bi_lenf, bi_lent, bi_tupl, bi_tupf, bi_isint, bi_isbool, bi_istup, ofO_s, ix_l, ix_f, ix_t, at_0, at_1, at_2, List.getElem?_cons_succ, List.getElem?_cons_zero, List.set_cons_succ, List.set_cons_zero, List.length_cons, List.length_nil, List.map_nil, List.map_cons, List.append_nil, List.nil_append, List.cons_append, Int.reduceLT, Int.reduceLE, Nat.reduceAdd, Nat.reduceLT, Nat.reduceLeDiff, Nat.zero_add, Nat.zero_lt_succ, if_true, if_false, Bool.false_eq_true, Bool.not_true, Bool.not_false, ne_eq, not_false_eq_true, reduceCtorEq, Option.some.injEq, and_true, true_and, Nat.lt_add_one, Nat.succ_ne_self, Nat.reduceEqDiff, decide_true, decide_false, decide_eq_true_eq, fin_nx, fin_rd, fin_ro, outs_0, os_s, og_o, rep_s, rep_0, Nat.reduceSub, e_rev, rv_l, rv_f, rv_t, is_bb, isn_bb, is_bn, isn_bn, is_sn, isn_sn, e_fw, c1_w_pool, c2_w_pool, c3_w_pool, c1_w_take, c2_w_take, c3_w_take, c1_w_of, c2_w_of, c3_w_of, c1_w_frac, c2_w_frac, c3_w_frac, c1_is_whole, c2_is_whole, c3_is_whole, c1_is_between, c2_is_between, c3_is_between, c1_wrong_number, c2_wrong_number, c3_wrong_number, c1_is_row, c2_is_row, c3_is_row, c1_without_noughts, c2_without_noughts, c3_without_noughts, c1_are_numbers, c2_are_numbers, c3_are_numbers, c1_check_numbers, c2_check_numbers, c3_check_numbers, c1_is_less, c2_is_less, c3_is_less, c1_is_tuple_of, c2_is_tuple_of, c3_is_tuple_of, c1_is_number, c2_is_number, c3_is_number, c1_is_number_d1, c2_is_number_d1, c3_is_number_d1, c1_is_number_d2, c2_is_number_d2, c3_is_number_d2, c1_is_fraction, c2_is_fraction, c3_is_fraction, c1_is_small_fraction, c2_is_small_fraction, c3_is_small_fraction, c1_check_fraction, c2_check_fraction, c3_check_fraction, c1_lowest, c2_lowest, c3_lowest, c1_plus, c2_plus, c3_plus, c1_times, c2_times, c3_times, c1_worth_by, c2_worth_by, c3_worth_by, c1_worth_at, c2_worth_at, c3_worth_at, c1_w_right, c2_w_right, c3_w_right, c1_law, c2_law, c3_law, last_get, List.dropLast_concat]
          refine run_nx ⟨_, rfl, ⟨y :: r, rfl, ?_, by simp⟩, ?_⟩
          · rw [← e, trR_c, if_pos hx]
          · simp [lenS]
        · simp only [e_call0, e_callk0, e_g0, e_lc, ap_callM, e_v, e_k, e_ty, e_neg, e_bin, e_cmp, e_chn, e_and, e_or, e_not, e_one, e_ife, e_tup, e_lst, e_ix, e_sl, e_bi, e_app, e_ext, e_pop, a_nil, a_cons, o_nil, o_pt, b_and, b_or, b_not, b_tr, b_one, t_nil, t_cons, i_it, i_rng, i_enm, g_nm, g_ns, g_sub, g_tup, gs_nil, gs_cons, r_nil, r_cons, ap_d, ap_op, ap_un, ap_nil, ap_cons, ap_bi, vo_nil, vo_cons, ap_tru, ap_andB, ap_orB, ap_notB, ap_ife, ap_yes, gs_0, gs_1, gt_d, gns_d, gns_o, gnm_d, gnm_o, rw_0, rw_1, ap_par, sa_0, sa_t, sa_f, np, ap_pt, ap_sl, ap_lst, ap_tup, stab_0, stab_1, gB_ap, bl_ap, not_ap, neg_ap, ap_app, ap_apd, ap_and, ap_or, vM, vg_d, vg_o, sl_0, sl_c, so_v, so_d, sw_o, bk_n, bk_s, bg_o, fzM, fz_o, val_d, val_ow, val_v, vl_o, hand_d, hand_ow, hand_vw, gsub, s0_o, sg_o, appd, a0_o, ap_o, popd, pp_o, rt_d, rt_o, rt_v, r0_o, itd, it_l, it_f, it_t, end_, en_l, en_f, en_t, chn_ap, nv_d, nv_o, bind_ok', ok_ok, ok_bind, ok_guard, bin_add, bin_sub, ok_mul, ok_fdiv, ok_mod, ok_pow, ok_divmod, ok_ifi, ixn30, ixn31, ixn32, sl_fz, sl_ls, sl_tp, pm_0, pm_1, Option.bind_some, ex_nx, tg_1, tg_t, wi_0, wi_1, sz0, sz1, sz2, sz3, sz4, sz5, sz6, sz7, sz8, bi_comb, cmp_lt, cmp_le, cmp_gt, cmp_ge, cmp_eqi, cmp_nei, cmp_eqs, cmp_nes, cmp_eqb, cmp_neb, is_non, is_int, is_ob, isn_non, isn_int, isn_ob, tru_b, tru_i, bi_int, bi_abs, bi_gcd, bi_lenl, bi_lenf, bi_lent, bi_tupl, bi_tupf, bi_isint, bi_isbool, bi_istup, ofO_s, ix_l, ix_f, ix_t, at_0, at_1, at_2, List.getElem?_cons_succ, List.getElem?_cons_zero, List.set_cons_succ, List.set_cons_zero, List.length_cons, List.length_nil, List.map_nil, List.map_cons, List.append_nil, List.nil_append, List.cons_append, Int.reduceLT, Int.reduceLE, Nat.reduceAdd, Nat.reduceLT, Nat.reduceLeDiff, Nat.zero_add, Nat.zero_lt_succ, if_true, if_false, Bool.false_eq_true, Bool.not_true, Bool.not_false, ne_eq, not_false_eq_true, reduceCtorEq, Option.some.injEq, and_true, true_and, Nat.lt_add_one, Nat.succ_ne_self, Nat.reduceEqDiff, decide_true, decide_false, decide_eq_true_eq, fin_nx, fin_rd, fin_ro, outs_0, os_s, og_o, rep_s, rep_0, Nat.reduceSub, e_rev, rv_l, rv_f, rv_t, is_bb, isn_bb, is_bn, isn_bn, is_sn, isn_sn, e_fw, c1_w_pool, c2_w_pool, c3_w_pool, c1_w_take, c2_w_take, c3_w_take, c1_w_of, c2_w_of, c3_w_of, c1_w_frac, c2_w_frac, c3_w_frac, c1_is_whole, c2_is_whole, c3_is_whole, c1_is_between, c2_is_between, c3_is_between, c1_wrong_number, c2_wrong_number, c3_wrong_number, c1_is_row, c2_is_row, c3_is_row, c1_without_noughts, c2_without_noughts, c3_without_noughts, c1_are_numbers, c2_are_numbers, c3_are_numbers, c1_check_numbers, c2_check_numbers, c3_check_numbers, c1_is_less, c2_is_less, c3_is_less, c1_is_tuple_of, c2_is_tuple_of, c3_is_tuple_of, c1_is_number, c2_is_number, c3_is_number, c1_is_number_d1, c2_is_number_d1, c3_is_number_d1, c1_is_number_d2, c2_is_number_d2, c3_is_number_d2, c1_is_fraction, c2_is_fraction, c3_is_fraction, c1_is_small_fraction, c2_is_small_fraction, c3_is_small_fraction, c1_check_fraction, c2_check_fraction, c3_check_fraction, c1_lowest, c2_lowest, c3_lowest, c1_plus, c2_plus, c3_plus, c1_times, c2_times, c3_times, c1_worth_by, c2_worth_by, c3_worth_by, c1_worth_at, c2_worth_at, c3_worth_at, c1_w_right, c2_w_right, c3_w_right, c1_law, c2_law, c3_law, hx]
          refine fin ?_
          rw [trR_c, if_neg hx]
end Lw
set_option linter.all false
set_option maxRecDepth 1500
set_option maxHeartbeats 1000000
namespace Lw
open PySem PySem.Spec PyProof.Rows L2 Tp
theorem mod_nat {a b : Nat} : (a : Int) % (b : Int) = ((a % b : Nat) : Int) := (Int.natCast_emod a b).symm
theorem div_nat {a b : Nat} : (a : Int) / (b : Int) = ((a / b : Nat) : Int) := (Int.natCast_ediv a b).symm
theorem cast0 {a : Nat} : ((a : Int) = 0) = (a = 0) := propext (by omega)
theorem euclid_half {one two k : Nat} (h1 : two < one) (h2 : 0 < two) (h : one * two < 2 ^ k) : ∃ j, j < k ∧ two * (one % two) < 2 ^ j := by
  have e : two * (one % two) * 2 ≤ one * two := by
    have h3 : one % two < two := Nat.mod_lt _ h2
    have h4 := Nat.div_add_mod one two
    have h5 : 1 ≤ one / two := Nat.div_pos (by omega) h2
    have h6 : two * 1 ≤ two * (one / two) := Nat.mul_le_mul_left _ h5
    have h7 : one % two * 2 ≤ one := by omega
    calc two * (one % two) * 2 = two * (one % two * 2) := by rw [Nat.mul_assoc]
      _ ≤ two * one := Nat.mul_le_mul_left _ h7
      _ = one * two := Nat.mul_comm _ _
  cases k with
  | zero =>
    have : 1 ≤ one * two := Nat.mul_pos (by omega) h2
    simp only [Nat.pow_zero] at h
    omega
  | succ k =>
    refine ⟨k, by omega, ?_⟩
    rw [Nat.pow_succ] at h
    omega
/-! fractions in lowest terms, over and under told -/
def fracI (a : Int) (b : Nat) : D := .tup [.int (a / (Nat.gcd a.natAbs b : Nat)), .int ((b / Nat.gcd a.natAbs b : Nat) : Int)]
theorem fi_0 {a : Int} {b : Nat} : ixD (fracI a b) (.int 0) = .ok (.d (.int (a / (Nat.gcd a.natAbs b : Nat)))) := by
  unfold fracI
  rw [ix_t, at_0]
  rfl
theorem fi_1 {a : Int} {b : Nat} : ixD (fracI a b) (.int 1) = .ok (.d (.int ((b / Nat.gcd a.natAbs b : Nat) : Int))) := by
  unfold fracI
  rw [ix_t, at_1]
  rfl
theorem natAbs_div {a : Int} {n : Nat} : (a / (n : Int)).natAbs ≤ a.natAbs := Int.natAbs_ediv_le_natAbs a n
theorem fi_dvd {a : Int} {b : Nat} : (Nat.gcd a.natAbs b : Int) * (a / (Nat.gcd a.natAbs b : Nat)) = a :=
  Int.mul_ediv_cancel' (Int.ofNat_dvd_left.mpr (Nat.gcd_dvd_left _ _))
theorem fi_dvd2 {a : Int} {b : Nat} : Nat.gcd a.natAbs b * (b / Nat.gcd a.natAbs b) = b := Nat.mul_div_cancel' (Nat.gcd_dvd_right _ _)
theorem fi_scale {a : Int} {b c : Nat} (hc : 0 < c) : fracI ((c : Int) * a) (c * b) = fracI a b := by
  unfold fracI
  rw [Int.natAbs_mul, Int.natAbs_natCast, Nat.gcd_mul_left, Nat.mul_div_mul_left _ _ hc, Int.natCast_mul, Int.mul_ediv_mul_of_pos _ _ (by omega)]
theorem fi_mul {a p : Int} {b q : Nat} (hb : 0 < b) : fracI (a / (Nat.gcd a.natAbs b : Nat) * p) (b / Nat.gcd a.natAbs b * q) = fracI (a * p) (b * q) := by
  have hg : 0 < Nat.gcd a.natAbs b := Nat.gcd_pos_of_pos_right _ hb
  rw [← fi_scale hg, ← Int.mul_assoc, ← Nat.mul_assoc, fi_dvd, fi_dvd2]
theorem fi_add {a n : Int} {b : Nat} (hb : 0 < b) : fracI (a / (Nat.gcd a.natAbs b : Nat) + n * ((b / Nat.gcd a.natAbs b : Nat) : Int)) (b / Nat.gcd a.natAbs b) = fracI (a + n * b) b := by
  have hg : 0 < Nat.gcd a.natAbs b := Nat.gcd_pos_of_pos_right _ hb
  rw [← fi_scale hg, fi_dvd2, Int.mul_add, fi_dvd]
  congr 2
  have : ((Nat.gcd a.natAbs b : Nat) : Int) * ((b / Nat.gcd a.natAbs b : Nat) : Int) = (b : Int) := by rw [← Int.natCast_mul, fi_dvd2]
  rw [← Int.mul_assoc, Int.mul_comm (Nat.gcd a.natAbs b : Int) n, Int.mul_assoc, this]
theorem fi_cop {a b : Nat} (h : Nat.gcd a b = 1) : fracI (a : Nat) b = .tup [.int (a : Nat), .int (b : Nat)] := by
  unfold fracI
  rw [Int.natAbs_natCast, h, Nat.div_one]
  congr 3
  show ((a : Int) / 1) = _
  rw [Int.ediv_one]
theorem nice_fi {a : Int} {b k : Nat} (ha : a.natAbs < 2 ^ k) (hb : b < 2 ^ k) (hk : k ≤ 1600) : Nice (2 * (k + 1)) 1 (fracI a b) := by
  have := nice_ints (k := k) (n := 2) (l := [a / (Nat.gcd a.natAbs b : Nat), ((b / Nat.gcd a.natAbs b : Nat) : Int)]) (fun i hi => by
    simp only [List.mem_cons, List.not_mem_nil, or_false] at hi
    rcases hi with rfl | rfl
    · exact Nat.lt_of_le_of_lt natAbs_div ha
    · rw [Int.natAbs_natCast]; exact Nat.lt_of_le_of_lt (Nat.div_le_self _ _) hb) hk (by simp)
  exact this
theorem fi_zero : fracI 0 1 = .tup [.int 0, .int 1] := fi_cop (a := 0) (b := 1) (by decide)
theorem lowest_i {a : Int} {b : Nat} (hb : 0 < b) (hb2 : b ≤ 10 ^ 1000) : f_lowest [.st (.int a), .st (.int (b : Nat))] = .ok (.d (fracI a b), [.un, .un]) := by
  have hg : 0 < Nat.gcd a.natAbs b := Nat.gcd_pos_of_pos_right _ hb
  have hg2 : Nat.gcd a.natAbs b ≤ b := Nat.gcd_le_right _ hb
  refine Ok.eq (fn_run rfl ?_)
  refine run_asg ?_
  simp only [e_call0, e_callk0, e_g0, e_lc, ap_callM, e_v, e_k, e_ty, e_neg, e_bin, e_cmp, e_chn, e_and, e_or, e_not, e_one, e_ife, e_tup, e_lst, e_ix, e_sl, e_bi, e_app, e_ext, e_pop, a_nil, a_cons, o_nil, o_pt, b_and, b_or, b_not, b_tr, b_one, t_nil, t_cons, i_it, i_rng, i_enm, g_nm, g_ns, g_sub, g_tup, gs_nil, gs_cons, r_nil, r_cons, ap_d, ap_op, ap_un, ap_nil, ap_cons, ap_bi, vo_nil, vo_cons, ap_tru, ap_andB, ap_orB, ap_notB, ap_ife, ap_yes, gs_0, gs_1, gt_d, gns_d, gns_o, gnm_d, gnm_o, rw_0, rw_1, ap_par, sa_0, sa_t, sa_f, np, ap_pt, ap_sl, ap_lst, ap_tup, stab_0, stab_1, gB_ap, bl_ap, not_ap, neg_ap, ap_app, ap_apd, ap_and, ap_or, vM, vg_d, vg_o, sl_0, sl_c, so_v, so_d, sw_o, bk_n, bk_s, bg_o, fzM, fz_o, val_d, val_ow, val_v, vl_o, hand_d, hand_ow, hand_vw, gsub, s0_o, sg_o, appd, a0_o, ap_o, popd, pp_o, rt_d, rt_o, rt_v, r0_o, itd, it_l, it_f, it_t, end_, en_l, en_f, en_t, chn_ap, nv_d, nv_o, bind_ok', ok_ok, ok_bind, ok_guard, bin_add, bin_sub, ok_mul, ok_fdiv, ok_mod, ok_pow, ok_divmod, ok_ifi, ixn30, ixn31, ixn32, sl_fz, sl_ls, sl_tp, pm_0, pm_1, Option.bind_some, ex_nx, tg_1, tg_t, wi_0, wi_1, sz0, sz1, sz2, sz3, sz4, sz5, sz6, sz7, sz8, bi_comb, cmp_lt, cmp_le, cmp_gt, cmp_ge, cmp_eqi, cmp_nei, cmp_eqs, cmp_nes, cmp_eqb, cmp_neb, is_non, is_int, is_ob, isn_non, isn_int, isn_ob, tru_b, tru_i, bi_int, bi_abs, bi_gcd, bi_lenl, bi_lenf, bi_lent, bi_tupl, bi_tupf, bi_isint, bi_isbool, bi_istup, ofO_s, ix_l, ix_f, ix_t, at_0, at_1, at_2, List.getElem?_cons_succ, List.getElem?_cons_zero, List.set_cons_succ, List.set_cons_zero, List.length_cons, List.length_nil, List.map_nil, List.map_cons, List.append_nil, List.nil_append, List.cons_append, Int.reduceLT, Int.reduceLE, Nat.reduceAdd, Nat.reduceLT, Nat.reduceLeDiff, Nat.zero_add, Nat.zero_lt_succ, if_true, if_false, Bool.false_eq_true, Bool.not_true, Bool.not_false, ne_eq, not_false_eq_true, reduceCtorEq, Option.some.injEq, and_true, true_and, Nat.lt_add_one, Nat.succ_ne_self, Nat.reduceEqDiff, decide_true, decide_false, decide_eq_true_eq, fin_nx, fin_rd, fin_ro, outs_0, os_s, og_o, rep_s, rep_0, Nat.reduceSub, e_rev, rv_l, rv_f, rv_t, is_bb, isn_bb, is_bn, isn_bn, is_sn, isn_sn, e_fw, c1_w_pool, c2_w_pool, c3_w_pool, c1_w_take, c2_w_take, c3_w_take, c1_w_of, c2_w_of, c3_w_of, c1_w_frac, c2_w_frac, c3_w_frac, c1_is_whole, c2_is_whole, c3_is_whole, c1_is_between, c2_is_between, c3_is_between, c1_wrong_number, c2_wrong_number, c3_wrong_number, c1_is_row, c2_is_row, c3_is_row, c1_without_noughts, c2_without_noughts, c3_without_noughts, c1_are_numbers, c2_are_numbers, c3_are_numbers, c1_check_numbers, c2_check_numbers, c3_check_numbers, c1_is_less, c2_is_less, c3_is_less, c1_is_tuple_of, c2_is_tuple_of, c3_is_tuple_of, c1_is_number, c2_is_number, c3_is_number, c1_is_number_d1, c2_is_number_d1, c3_is_number_d1, c1_is_number_d2, c2_is_number_d2, c3_is_number_d2, c1_is_fraction, c2_is_fraction, c3_is_fraction, c1_is_small_fraction, c2_is_small_fraction, c3_is_small_fraction, c1_check_fraction, c2_check_fraction, c3_check_fraction, c1_lowest, c2_lowest, c3_lowest, c1_plus, c2_plus, c3_plus, c1_times, c2_times, c3_times, c1_worth_by, c2_worth_by, c3_worth_by, c1_worth_at, c2_worth_at, c3_worth_at, c1_w_right, c2_w_right, c3_w_right, c1_law, c2_law, c3_law]
  rw [if_pos (by omega)]
  simp only [e_call0, e_callk0, e_g0, e_lc, ap_callM, e_v, e_k, e_ty, e_neg, e_bin, e_cmp, e_chn, e_and, e_or, e_not, e_one, e_ife, e_tup, e_lst, e_ix, e_sl, e_bi, e_app, e_ext, e_pop, a_nil, a_cons, o_nil, o_pt, b_and, b_or, b_not, b_tr, b_one, t_nil, t_cons, i_it, i_rng, i_enm, g_nm, g_ns, g_sub, g_tup, gs_nil, gs_cons, r_nil, r_cons, ap_d, ap_op, ap_un, ap_nil, ap_cons, ap_bi, vo_nil, vo_cons, ap_tru, ap_andB, ap_orB, ap_notB, ap_ife, ap_yes, gs_0, gs_1, gt_d, gns_d, gns_o, gnm_d, gnm_o, rw_0, rw_1, ap_par, sa_0, sa_t, sa_f, np, ap_pt, ap_sl, ap_lst, ap_tup, stab_0, stab_1, gB_ap, bl_ap, not_ap, neg_ap, ap_app, ap_apd, ap_and, ap_or, vM, vg_d, vg_o, sl_0, sl_c, so_v, so_d, sw_o, bk_n, bk_s, bg_o, fzM, fz_o, val_d, val_ow, val_v, vl_o, hand_d, hand_ow, hand_vw, gsub, s0_o, sg_o, appd, a0_o, ap_o, popd, pp_o, rt_d, rt_o, rt_v, r0_o, itd, it_l, it_f, it_t, end_, en_l, en_f, en_t, chn_ap, nv_d, nv_o, bind_ok', ok_ok, ok_bind, ok_guard, bin_add, bin_sub, ok_mul, ok_fdiv, ok_mod, ok_pow, ok_divmod, ok_ifi, ixn30, ixn31, ixn32, sl_fz, sl_ls, sl_tp, pm_0, pm_1, Option.bind_some, ex_nx, tg_1, tg_t, wi_0, wi_1, sz0, sz1, sz2, sz3, sz4, sz5, sz6, sz7, sz8, bi_comb, cmp_lt, cmp_le, cmp_gt, cmp_ge, cmp_eqi, cmp_nei, cmp_eqs, cmp_nes, cmp_eqb, cmp_neb, is_non, is_int, is_ob, isn_non, isn_int, isn_ob, tru_b, tru_i, bi_int, bi_abs, bi_gcd, bi_lenl, bi_lenf, bi_lent, bi_tupl, bi_tupf, bi_isint, bi_isbool, bi_istup, ofO_s, ix_l, ix_f, ix_t, at_0, at_1, at_2, List.getElem?_cons_succ, List.getElem?_cons_zero, List.set_cons_succ, List.set_cons_zero, List.length_cons, List.length_nil, List.map_nil, List.map_cons, List.append_nil, List.nil_append, List.cons_append, Int.reduceLT, Int.reduceLE, Nat.reduceAdd, Nat.reduceLT, Nat.reduceLeDiff, Nat.zero_add, Nat.zero_lt_succ, if_true, if_false, Bool.false_eq_true, Bool.not_true, Bool.not_false, ne_eq, not_false_eq_true, reduceCtorEq, Option.some.injEq, and_true, true_and, Nat.lt_add_one, Nat.succ_ne_self, Nat.reduceEqDiff, decide_true, decide_false, decide_eq_true_eq, fin_nx, fin_rd, fin_ro, outs_0, os_s, og_o, rep_s, rep_0, Nat.reduceSub, e_rev, rv_l, rv_f, rv_t, is_bb, isn_bb, is_bn, isn_bn, is_sn, isn_sn, e_fw, c1_w_pool, c2_w_pool, c3_w_pool, c1_w_take, c2_w_take, c3_w_take, c1_w_of, c2_w_of, c3_w_of, c1_w_frac, c2_w_frac, c3_w_frac, c1_is_whole, c2_is_whole, c3_is_whole, c1_is_between, c2_is_between, c3_is_between, c1_wrong_number, c2_wrong_number, c3_wrong_number, c1_is_row, c2_is_row, c3_is_row, c1_without_noughts, c2_without_noughts, c3_without_noughts, c1_are_numbers, c2_are_numbers, c3_are_numbers, c1_check_numbers, c2_check_numbers, c3_check_numbers, c1_is_less, c2_is_less, c3_is_less, c1_is_tuple_of, c2_is_tuple_of, c3_is_tuple_of, c1_is_number, c2_is_number, c3_is_number, c1_is_number_d1, c2_is_number_d1, c3_is_number_d1, c1_is_number_d2, c2_is_number_d2, c3_is_number_d2, c1_is_fraction, c2_is_fraction, c3_is_fraction, c1_is_small_fraction, c2_is_small_fraction, c3_is_small_fraction, c1_check_fraction, c2_check_fraction, c3_check_fraction, c1_lowest, c2_lowest, c3_lowest, c1_plus, c2_plus, c3_plus, c1_times, c2_times, c3_times, c1_worth_by, c2_worth_by, c3_worth_by, c1_worth_at, c2_worth_at, c3_worth_at, c1_w_right, c2_w_right, c3_w_right, c1_law, c2_law, c3_law, Int.natAbs_natCast]
  refine run_r ?_
  simp only [e_call0, e_callk0, e_g0, e_lc, ap_callM, e_v, e_k, e_ty, e_neg, e_bin, e_cmp, e_chn, e_and, e_or, e_not, e_one, e_ife, e_tup, e_lst, e_ix, e_sl, e_bi, e_app, e_ext, e_pop, a_nil, a_cons, o_nil, o_pt, b_and, b_or, b_not, b_tr, b_one, t_nil, t_cons, i_it, i_rng, i_enm, g_nm, g_ns, g_sub, g_tup, gs_nil, gs_cons, r_nil, r_cons, ap_d, ap_op, ap_un, ap_nil, ap_cons, ap_bi, vo_nil, vo_cons, ap_tru, ap_andB, ap_orB, ap_notB, ap_ife, ap_yes, gs_0, gs_1, gt_d, gns_d, gns_o, gnm_d, gnm_o, rw_0, rw_1, ap_par, sa_0, sa_t, sa_f, np, ap_pt, ap_sl, ap_lst, ap_tup, stab_0, stab_1, gB_ap, bl_ap, not_ap, neg_ap, ap_app, ap_apd, ap_and, ap_or, vM, vg_d, vg_o, sl_0, sl_c, so_v, so_d, sw_o, bk_n, bk_s, bg_o, fzM, fz_o, val_d, val_ow, val_v, vl_o, hand_d, hand_ow, hand_vw, gsub, s0_o, sg_o, appd, a0_o, ap_o, popd, pp_o, rt_d, rt_o, rt_v, r0_o, itd, it_l, it_f, it_t, end_, en_l, en_f, en_t, chn_ap, nv_d, nv_o, bind_ok', ok_ok, ok_bind, ok_guard, bin_add, bin_sub, ok_mul, ok_fdiv, ok_mod, ok_pow, ok_divmod, ok_ifi, ixn30, ixn31, ixn32, sl_fz, sl_ls, sl_tp, pm_0, pm_1, Option.bind_some, ex_nx, tg_1, tg_t, wi_0, wi_1, sz0, sz1, sz2, sz3, sz4, sz5, sz6, sz7, sz8, bi_comb, cmp_lt, cmp_le, cmp_gt, cmp_ge, cmp_eqi, cmp_nei, cmp_eqs, cmp_nes, cmp_eqb, cmp_neb, is_non, is_int, is_ob, isn_non, isn_int, isn_ob, tru_b, tru_i, bi_int, bi_abs, bi_gcd, bi_lenl, bi_lenf, bi_lent, bi_tupl, bi_tupf, bi_isint, bi_isbool, bi_istup, ofO_s, ix_l, ix_f, ix_t, at_0, at_1, at_2, List.getElem?_cons_succ, List.getElem?_cons_zero, List.set_cons_succ, List.set_cons_zero, List.length_cons, List.length_nil, List.map_nil, List.map_cons, List.append_nil, List.nil_append, List.cons_append, Int.reduceLT, Int.reduceLE, Nat.reduceAdd, Nat.reduceLT, Nat.reduceLeDiff, Nat.zero_add, Nat.zero_lt_succ, if_true, if_false, Bool.false_eq_true, Bool.not_true, Bool.not_false, ne_eq, not_false_eq_true, reduceCtorEq, Option.some.injEq, and_true, true_and, Nat.lt_add_one, Nat.succ_ne_self, Nat.reduceEqDiff, decide_true, decide_false, decide_eq_true_eq, fin_nx, fin_rd, fin_ro, outs_0, os_s, og_o, rep_s, rep_0, Nat.reduceSub, e_rev, rv_l, rv_f, rv_t, is_bb, isn_bb, is_bn, isn_bn, is_sn, isn_sn, e_fw, c1_w_pool, c2_w_pool, c3_w_pool, c1_w_take, c2_w_take, c3_w_take, c1_w_of, c2_w_of, c3_w_of, c1_w_frac, c2_w_frac, c3_w_frac, c1_is_whole, c2_is_whole, c3_is_whole, c1_is_between, c2_is_between, c3_is_between, c1_wrong_number, c2_wrong_number, c3_wrong_number, c1_is_row, c2_is_row, c3_is_row, c1_without_noughts, c2_without_noughts, c3_without_noughts, c1_are_numbers, c2_are_numbers, c3_are_numbers, c1_check_numbers, c2_check_numbers, c3_check_numbers, c1_is_less, c2_is_less, c3_is_less, c1_is_tuple_of, c2_is_tuple_of, c3_is_tuple_of, c1_is_number, c2_is_number, c3_is_number, c1_is_number_d1, c2_is_number_d1, c3_is_number_d1, c1_is_number_d2, c2_is_number_d2, c3_is_number_d2, c1_is_fraction, c2_is_fraction, c3_is_fraction, c1_is_small_fraction, c2_is_small_fraction, c3_is_small_fraction, c1_check_fraction, c2_check_fraction, c3_check_fraction, c1_lowest, c2_lowest, c3_lowest, c1_plus, c2_plus, c3_plus, c1_times, c2_times, c3_times, c1_worth_by, c2_worth_by, c3_worth_by, c1_worth_at, c2_worth_at, c3_worth_at, c1_w_right, c2_w_right, c3_w_right, c1_law, c2_law, c3_law, div_nat, Int.natAbs_natCast]
  exact ⟨⟨by omega, big_of (by omega)⟩, ⟨by omega, big_of (by omega)⟩, rfl⟩
theorem times_raw {x z : Int} {y w : Nat} (hy : 0 < y) (hw : 0 < w) (h1 : x.natAbs ≤ 10 ^ 1000) (h2 : z.natAbs ≤ 10 ^ 1000) (h3 : y ≤ 10 ^ 500) (h4 : w ≤ 10 ^ 500) :
    f_times [.st (.tup [.int x, .int (y : Nat)]), .st (.tup [.int z, .int (w : Nat)])] = .ok (.d (fracI (x * z) (y * w)), [.un, .un]) := by
  have e : ((y : Nat) : Int) * (w : Nat) = ((y * w : Nat) : Int) := (Int.natCast_mul _ _).symm
  have tb : (10 : Nat) ^ 500 ≤ 10 ^ 1000 := Nat.pow_le_pow_right (by decide) (by decide)
  have yw : y * w ≤ 10 ^ 1000 := Nat.le_trans (Nat.mul_le_mul h3 h4) (by rw [← Nat.pow_add]; exact Nat.le_refl _)
  refine Ok.eq (fn_run rfl ?_)
  refine run_r ?_
  simp only [e_call0, e_callk0, e_g0, e_lc, ap_callM, e_v, e_k, e_ty, e_neg, e_bin, e_cmp, e_chn, e_and, e_or, e_not, e_one, e_ife, e_tup, e_lst, e_ix, e_sl, e_bi, e_app, e_ext, e_pop, a_nil, a_cons, o_nil, o_pt, b_and, b_or, b_not, b_tr, b_one, t_nil, t_cons, i_it, i_rng, i_enm, g_nm, g_ns, g_sub, g_tup, gs_nil, gs_cons, r_nil, r_cons, ap_d, ap_op, ap_un, ap_nil, ap_cons, ap_bi, vo_nil, vo_cons, ap_tru, ap_andB, ap_orB, ap_notB, ap_ife, ap_yes, gs_0, gs_1, gt_d, gns_d, gns_o, gnm_d, gnm_o, rw_0, rw_1, ap_par, sa_0, sa_t, sa_f, np, ap_pt, ap_sl, ap_lst, ap_tup, stab_0, stab_1, gB_ap, bl_ap, not_ap, neg_ap, ap_app, ap_apd, ap_and, ap_or, vM, vg_d, vg_o, sl_0, sl_c, so_v, so_d, sw_o, bk_n, bk_s, bg_o, fzM, fz_o, val_d, val_ow, val_v, vl_o, hand_d, hand_ow, hand_vw, gsub, s0_o, sg_o, appd, a0_o, ap_o, popd, pp_o, rt_d, rt_o, rt_v, r0_o, itd, it_l, it_f, it_t, end_, en_l, en_f, en_t, chn_ap, nv_d, nv_o, bind_ok', ok_ok, ok_bind, ok_guard, bin_add, bin_sub, ok_mul, ok_fdiv, ok_mod, ok_pow, ok_divmod, ok_ifi, ixn30, ixn31, ixn32, sl_fz, sl_ls, sl_tp, pm_0, pm_1, Option.bind_some, ex_nx, tg_1, tg_t, wi_0, wi_1, sz0, sz1, sz2, sz3, sz4, sz5, sz6, sz7, sz8, bi_comb, cmp_lt, cmp_le, cmp_gt, cmp_ge, cmp_eqi, cmp_nei, cmp_eqs, cmp_nes, cmp_eqb, cmp_neb, is_non, is_int, is_ob, isn_non, isn_int, isn_ob, tru_b, tru_i, bi_int, bi_abs, bi_gcd, bi_lenl, bi_lenf, bi_lent, bi_tupl, bi_tupf, bi_isint, bi_isbool, bi_istup, ofO_s, ix_l, ix_f, ix_t, at_0, at_1, at_2, List.getElem?_cons_succ, List.getElem?_cons_zero, List.set_cons_succ, List.set_cons_zero, List.length_cons, List.length_nil, List.map_nil, List.map_cons, List.append_nil, List.nil_append, List.cons_append, Int.reduceLT, Int.reduceLE, Nat.reduceAdd, Nat.reduceLT, Nat.reduceLeDiff, Nat.zero_add, Nat.zero_lt_succ, if_true, if_false, Bool.false_eq_true, Bool.not_true, Bool.not_false, ne_eq, not_false_eq_true, reduceCtorEq, Option.some.injEq, and_true, true_and, Nat.lt_add_one, Nat.succ_ne_self, Nat.reduceEqDiff, decide_true, decide_false, decide_eq_true_eq, fin_nx, fin_rd, fin_ro, outs_0, os_s, og_o, rep_s, rep_0, Nat.reduceSub, e_rev, rv_l, rv_f, rv_t, is_bb, isn_bb, is_bn, isn_bn, is_sn, isn_sn, e_fw, c1_w_pool, c2_w_pool, c3_w_pool, c1_w_take, c2_w_take, c3_w_take, c1_w_of, c2_w_of, c3_w_of, c1_w_frac, c2_w_frac, c3_w_frac, c1_is_whole, c2_is_whole, c3_is_whole, c1_is_between, c2_is_between, c3_is_between, c1_wrong_number, c2_wrong_number, c3_wrong_number, c1_is_row, c2_is_row, c3_is_row, c1_without_noughts, c2_without_noughts, c3_without_noughts, c1_are_numbers, c2_are_numbers, c3_are_numbers, c1_check_numbers, c2_check_numbers, c3_check_numbers, c1_is_less, c2_is_less, c3_is_less, c1_is_tuple_of, c2_is_tuple_of, c3_is_tuple_of, c1_is_number, c2_is_number, c3_is_number, c1_is_number_d1, c2_is_number_d1, c3_is_number_d1, c1_is_number_d2, c2_is_number_d2, c3_is_number_d2, c1_is_fraction, c2_is_fraction, c3_is_fraction, c1_is_small_fraction, c2_is_small_fraction, c3_is_small_fraction, c1_check_fraction, c2_check_fraction, c3_check_fraction, c1_lowest, c2_lowest, c3_lowest, c1_plus, c2_plus, c3_plus, c1_times, c2_times, c3_times, c1_worth_by, c2_worth_by, c3_worth_by, c1_worth_at, c2_worth_at, c3_worth_at, c1_w_right, c2_w_right, c3_w_right, c1_law, c2_law, c3_law, e, lowest_i (a := x * z) (Nat.mul_pos hy hw) yw, Int.natAbs_natCast]
  exact ⟨⟨big_of h1, big_of h2⟩, big_of (by omega), big_of (by omega)⟩
theorem plus_raw {x z : Int} {y w : Nat} (hy : 0 < y) (hw : 0 < w) (h1 : x.natAbs ≤ 10 ^ 1000) (h2 : z.natAbs ≤ 10 ^ 1000) (h3 : y ≤ 10 ^ 500) (h4 : w ≤ 10 ^ 500) :
    f_plus [.st (.tup [.int x, .int (y : Nat)]), .st (.tup [.int z, .int (w : Nat)])] = .ok (.d (fracI (x * w + z * y) (y * w)), [.un, .un]) := by
  have e : ((y : Nat) : Int) * (w : Nat) = ((y * w : Nat) : Int) := (Int.natCast_mul _ _).symm
  have tb : (10 : Nat) ^ 500 ≤ 10 ^ 1000 := Nat.pow_le_pow_right (by decide) (by decide)
  have yw : y * w ≤ 10 ^ 1000 := Nat.le_trans (Nat.mul_le_mul h3 h4) (by rw [← Nat.pow_add]; exact Nat.le_refl _)
  refine Ok.eq (fn_run rfl ?_)
  refine run_r ?_
  simp only [e_call0, e_callk0, e_g0, e_lc, ap_callM, e_v, e_k, e_ty, e_neg, e_bin, e_cmp, e_chn, e_and, e_or, e_not, e_one, e_ife, e_tup, e_lst, e_ix, e_sl, e_bi, e_app, e_ext, e_pop, a_nil, a_cons, o_nil, o_pt, b_and, b_or, b_not, b_tr, b_one, t_nil, t_cons, i_it, i_rng, i_enm, g_nm, g_ns, g_sub, g_tup, gs_nil, gs_cons, r_nil, r_cons, ap_d, ap_op, ap_un, ap_nil, ap_cons, ap_bi, vo_nil, vo_cons, ap_tru, ap_andB, ap_orB, ap_notB, ap_ife, ap_yes, gs_0, gs_1, gt_d, gns_d, gns_o, gnm_d, gnm_o, rw_0, rw_1, ap_par, sa_0, sa_t, sa_f, np, ap_pt, ap_sl, ap_lst, ap_tup, stab_0, stab_1, gB_ap, bl_ap, not_ap, neg_ap, ap_app, ap_apd, ap_and, ap_or, vM, vg_d, vg_o, sl_0, sl_c, so_v, so_d, sw_o, bk_n, bk_s, bg_o, fzM, fz_o, val_d, val_ow, val_v, vl_o, hand_d, hand_ow, hand_vw, gsub, s0_o, sg_o, appd, a0_o, ap_o, popd, pp_o, rt_d, rt_o, rt_v, r0_o, itd, it_l, it_f, it_t, end_, en_l, en_f, en_t, chn_ap, nv_d, nv_o, bind_ok', ok_ok, ok_bind, ok_guard, bin_add, bin_sub, ok_mul, ok_fdiv, ok_mod, ok_pow, ok_divmod, ok_ifi, ixn30, ixn31, ixn32, sl_fz, sl_ls, sl_tp, pm_0, pm_1, Option.bind_some, ex_nx, tg_1, tg_t, wi_0, wi_1, sz0, sz1, sz2, sz3, sz4, sz5, sz6, sz7, sz8, bi_comb, cmp_lt, cmp_le, cmp_gt, cmp_ge, cmp_eqi, cmp_nei, cmp_eqs, cmp_nes, cmp_eqb, cmp_neb, is_non, is_int, is_ob, isn_non, isn_int, isn_ob, tru_b, tru_i, bi_int, bi_abs, bi_gcd, bi_lenl, bi_lenf, bi_lent, bi_tupl, bi_tupf, bi_isint, bi_isbool, bi_istup, ofO_s, ix_l, ix_f, ix_t, at_0, at_1, at_2, List.getElem?_cons_succ, List.getElem?_cons_zero, List.set_cons_succ, List.set_cons_zero, List.length_cons, List.length_nil, List.map_nil, List.map_cons, List.append_nil, List.nil_append, List.cons_append, Int.reduceLT, Int.reduceLE, Nat.reduceAdd, Nat.reduceLT, Nat.reduceLeDiff, Nat.zero_add, Nat.zero_lt_succ, if_true, if_false, Bool.false_eq_true, Bool.not_true, Bool.not_false, ne_eq, not_false_eq_true, reduceCtorEq, Option.some.injEq, and_true, true_and, Nat.lt_add_one, Nat.succ_ne_self, Nat.reduceEqDiff, decide_true, decide_false, decide_eq_true_eq, fin_nx, fin_rd, fin_ro, outs_0, os_s, og_o, rep_s, rep_0, Nat.reduceSub, e_rev, rv_l, rv_f, rv_t, is_bb, isn_bb, is_bn, isn_bn, is_sn, isn_sn, e_fw, c1_w_pool, c2_w_pool, c3_w_pool, c1_w_take, c2_w_take, c3_w_take, c1_w_of, c2_w_of, c3_w_of, c1_w_frac, c2_w_frac, c3_w_frac, c1_is_whole, c2_is_whole, c3_is_whole, c1_is_between, c2_is_between, c3_is_between, c1_wrong_number, c2_wrong_number, c3_wrong_number, c1_is_row, c2_is_row, c3_is_row, c1_without_noughts, c2_without_noughts, c3_without_noughts, c1_are_numbers, c2_are_numbers, c3_are_numbers, c1_check_numbers, c2_check_numbers, c3_check_numbers, c1_is_less, c2_is_less, c3_is_less, c1_is_tuple_of, c2_is_tuple_of, c3_is_tuple_of, c1_is_number, c2_is_number, c3_is_number, c1_is_number_d1, c2_is_number_d1, c3_is_number_d1, c1_is_number_d2, c2_is_number_d2, c3_is_number_d2, c1_is_fraction, c2_is_fraction, c3_is_fraction, c1_is_small_fraction, c2_is_small_fraction, c3_is_small_fraction, c1_check_fraction, c2_check_fraction, c3_check_fraction, c1_lowest, c2_lowest, c3_lowest, c1_plus, c2_plus, c3_plus, c1_times, c2_times, c3_times, c1_worth_by, c2_worth_by, c3_worth_by, c1_worth_at, c2_worth_at, c3_worth_at, c1_w_right, c2_w_right, c3_w_right, c1_law, c2_law, c3_law, e, lowest_i (a := x * w + z * y) (Nat.mul_pos hy hw) yw, Int.natAbs_natCast]
  exact ⟨⟨big_of h1, big_of (by omega)⟩, ⟨big_of h2, big_of (by omega)⟩, big_of (by omega), big_of (by omega)⟩
theorem law_frac_i {a : Int} {b : Nat} (hb : 0 < b) (hb2 : b ≤ 2 ^ 3000) : f_w_frac [.st (.int a), .st (.int (b : Nat))] = .ok (.d (fracI a b), [.un, .un]) := by
  have hg : 0 < Nat.gcd a.natAbs b := Nat.gcd_pos_of_pos_right _ hb
  have hg2 : Nat.gcd a.natAbs b ≤ b := Nat.gcd_le_right _ hb
  have bigb : ∀ n : Nat, n ≤ b → n < big := fun n hn => by
    unfold big
    exact Nat.lt_of_le_of_lt (Nat.le_trans hn hb2) (Nat.pow_lt_pow_right (by decide) (by decide))
  refine Ok.eq (fn_run rfl ?_)
  refine run_par' ?_
  have hab : (if a < 0 then -a else a) = ((a.natAbs : Nat) : Int) := by split <;> omega
  simp only [e_call0, e_callk0, e_g0, e_lc, ap_callM, e_v, e_k, e_ty, e_neg, e_bin, e_cmp, e_chn, e_and, e_or, e_not, e_one, e_ife, e_tup, e_lst, e_ix, e_sl, e_bi, e_app, e_ext, e_pop, a_nil, a_cons, o_nil, o_pt, b_and, b_or, b_not, b_tr, b_one, t_nil, t_cons, i_it, i_rng, i_enm, g_nm, g_ns, g_sub, g_tup, gs_nil, gs_cons, r_nil, r_cons, ap_d, ap_op, ap_un, ap_nil, ap_cons, ap_bi, vo_nil, vo_cons, ap_tru, ap_andB, ap_orB, ap_notB, ap_ife, ap_yes, gs_0, gs_1, gt_d, gns_d, gns_o, gnm_d, gnm_o, rw_0, rw_1, ap_par, sa_0, sa_t, sa_f, np, ap_pt, ap_sl, ap_lst, ap_tup, stab_0, stab_1, gB_ap, bl_ap, not_ap, neg_ap, ap_app, ap_apd, ap_and, ap_or, vM, vg_d, vg_o, sl_0, sl_c, so_v, so_d, sw_o, bk_n, bk_s, bg_o, fzM, fz_o, val_d, val_ow, val_v, vl_o, hand_d, hand_ow, hand_vw, gsub, s0_o, sg_o, appd, a0_o, ap_o, popd, pp_o, rt_d, rt_o, rt_v, r0_o, itd, it_l, it_f, it_t, end_, en_l, en_f, en_t, chn_ap, nv_d, nv_o, bind_ok', ok_ok, ok_bind, ok_guard, bin_add, bin_sub, ok_mul, ok_fdiv, ok_mod, ok_pow, ok_divmod, ok_ifi, ixn30, ixn31, ixn32, sl_fz, sl_ls, sl_tp, pm_0, pm_1, Option.bind_some, ex_nx, tg_1, tg_t, wi_0, wi_1, sz0, sz1, sz2, sz3, sz4, sz5, sz6, sz7, sz8, bi_comb, cmp_lt, cmp_le, cmp_gt, cmp_ge, cmp_eqi, cmp_nei, cmp_eqs, cmp_nes, cmp_eqb, cmp_neb, is_non, is_int, is_ob, isn_non, isn_int, isn_ob, tru_b, tru_i, bi_int, bi_abs, bi_gcd, bi_lenl, bi_lenf, bi_lent, bi_tupl, bi_tupf, bi_isint, bi_isbool, bi_istup, ofO_s, ix_l, ix_f, ix_t, at_0, at_1, at_2, List.getElem?_cons_succ, List.getElem?_cons_zero, List.set_cons_succ, List.set_cons_zero, List.length_cons, List.length_nil, List.map_nil, List.map_cons, List.append_nil, List.nil_append, List.cons_append, Int.reduceLT, Int.reduceLE, Nat.reduceAdd, Nat.reduceLT, Nat.reduceLeDiff, Nat.zero_add, Nat.zero_lt_succ, if_true, if_false, Bool.false_eq_true, Bool.not_true, Bool.not_false, ne_eq, not_false_eq_true, reduceCtorEq, Option.some.injEq, and_true, true_and, Nat.lt_add_one, Nat.succ_ne_self, Nat.reduceEqDiff, decide_true, decide_false, decide_eq_true_eq, fin_nx, fin_rd, fin_ro, outs_0, os_s, og_o, rep_s, rep_0, Nat.reduceSub, e_rev, rv_l, rv_f, rv_t, is_bb, isn_bb, is_bn, isn_bn, is_sn, isn_sn, e_fw, c1_w_pool, c2_w_pool, c3_w_pool, c1_w_take, c2_w_take, c3_w_take, c1_w_of, c2_w_of, c3_w_of, c1_w_frac, c2_w_frac, c3_w_frac, c1_is_whole, c2_is_whole, c3_is_whole, c1_is_between, c2_is_between, c3_is_between, c1_wrong_number, c2_wrong_number, c3_wrong_number, c1_is_row, c2_is_row, c3_is_row, c1_without_noughts, c2_without_noughts, c3_without_noughts, c1_are_numbers, c2_are_numbers, c3_are_numbers, c1_check_numbers, c2_check_numbers, c3_check_numbers, c1_is_less, c2_is_less, c3_is_less, c1_is_tuple_of, c2_is_tuple_of, c3_is_tuple_of, c1_is_number, c2_is_number, c3_is_number, c1_is_number_d1, c2_is_number_d1, c3_is_number_d1, c1_is_number_d2, c2_is_number_d2, c3_is_number_d2, c1_is_fraction, c2_is_fraction, c3_is_fraction, c1_is_small_fraction, c2_is_small_fraction, c3_is_small_fraction, c1_check_fraction, c2_check_fraction, c3_check_fraction, c1_lowest, c2_lowest, c3_lowest, c1_plus, c2_plus, c3_plus, c1_times, c2_times, c3_times, c1_worth_by, c2_worth_by, c3_worth_by, c1_worth_at, c2_worth_at, c3_worth_at, c1_w_right, c2_w_right, c3_w_right, c1_law, c2_law, c3_law, hab]
  refine run_whN (fun m ρ => ∃ one two : Nat, Nat.gcd one two = Nat.gcd a.natAbs b ∧ ((m = 7001 ∧ one = a.natAbs ∧ two = b) ∨ (two < one ∧ one ≤ b ∧ ∃ k, k < 7001 ∧ m = k ∧ one * two < 2 ^ k)) ∧ ρ = [.st (.int a), .st (.int (b : Nat)), .st (.int (one : Nat)), .st (.int (two : Nat))]) 7001 ⟨a.natAbs, b, rfl, .inl ⟨rfl, rfl, rfl⟩, rfl⟩ (by decide) ?_
  rintro m _ ⟨one, two, h1, h2, rfl⟩
  simp only [e_call0, e_callk0, e_g0, e_lc, ap_callM, e_v, e_k, e_ty, e_neg, e_bin, e_cmp, e_chn, e_and, e_or, e_not, e_one, e_ife, e_tup, e_lst, e_ix, e_sl, e_bi, e_app, e_ext, e_pop, a_nil, a_cons, o_nil, o_pt, b_and, b_or, b_not, b_tr, b_one, t_nil, t_cons, i_it, i_rng, i_enm, g_nm, g_ns, g_sub, g_tup, gs_nil, gs_cons, r_nil, r_cons, ap_d, ap_op, ap_un, ap_nil, ap_cons, ap_bi, vo_nil, vo_cons, ap_tru, ap_andB, ap_orB, ap_notB, ap_ife, ap_yes, gs_0, gs_1, gt_d, gns_d, gns_o, gnm_d, gnm_o, rw_0, rw_1, ap_par, sa_0, sa_t, sa_f, np, ap_pt, ap_sl, ap_lst, ap_tup, stab_0, stab_1, gB_ap, bl_ap, not_ap, neg_ap, ap_app, ap_apd, ap_and, ap_or, vM, vg_d, vg_o, sl_0, sl_c, so_v, so_d, sw_o, bk_n, bk_s, bg_o, fzM, fz_o, val_d, val_ow, val_v, vl_o, hand_d, hand_ow, hand_vw, gsub, s0_o, sg_o, appd, a0_o, ap_o, popd, pp_o, rt_d, rt_o, rt_v, r0_o, itd, it_l, it_f, it_t, end_, en_l, en_f, en_t, chn_ap, nv_d, nv_o, bind_ok', ok_ok, ok_bind, ok_guard, bin_add, bin_sub, ok_mul, ok_fdiv, ok_mod, ok_pow, ok_divmod, ok_ifi, ixn30, ixn31, ixn32, sl_fz, sl_ls, sl_tp, pm_0, pm_1, Option.bind_some, ex_nx, tg_1, tg_t, wi_0, wi_1, sz0, sz1, sz2, sz3, sz4, sz5, sz6, sz7, sz8, bi_comb, cmp_lt, cmp_le, cmp_gt, cmp_ge, cmp_eqi, cmp_nei, cmp_eqs, cmp_nes, cmp_eqb, cmp_neb, is_non, is_int, is_ob, isn_non, isn_int, isn_ob, tru_b, tru_i, bi_int, bi_abs, bi_gcd, bi_lenl, bi_lenf, bi_lent, bi_tupl, bi_tupf, bi_isint, bi_isbool, bi_istup, ofO_s, ix_l, ix_f, ix_t, at_0, at_1, at_2, List.getElem?_cons_succ, List.getElem?_cons_zero, List.set_cons_succ, List.set_cons_zero, List.length_cons, List.length_nil, List.map_nil, List.map_cons, List.append_nil, List.nil_append, List.cons_append, Int.reduceLT, Int.reduceLE, Nat.reduceAdd, Nat.reduceLT, Nat.reduceLeDiff, Nat.zero_add, Nat.zero_lt_succ, if_true, if_false, Bool.false_eq_true, Bool.not_true, Bool.not_false, ne_eq, not_false_eq_true, reduceCtorEq, Option.some.injEq, and_true, true_and, Nat.lt_add_one, Nat.succ_ne_self, Nat.reduceEqDiff, decide_true, decide_false, decide_eq_true_eq, fin_nx, fin_rd, fin_ro, outs_0, os_s, og_o, rep_s, rep_0, Nat.reduceSub, e_rev, rv_l, rv_f, rv_t, is_bb, isn_bb, is_bn, isn_bn, is_sn, isn_sn, e_fw, c1_w_pool, c2_w_pool, c3_w_pool, c1_w_take, c2_w_take, c3_w_take, c1_w_of, c2_w_of, c3_w_of, c1_w_frac, c2_w_frac, c3_w_frac, c1_is_whole, c2_is_whole, c3_is_whole, c1_is_between, c2_is_between, c3_is_between, c1_wrong_number, c2_wrong_number, c3_wrong_number, c1_is_row, c2_is_row, c3_is_row, c1_without_noughts, c2_without_noughts, c3_without_noughts, c1_are_numbers, c2_are_numbers, c3_are_numbers, c1_check_numbers, c2_check_numbers, c3_check_numbers, c1_is_less, c2_is_less, c3_is_less, c1_is_tuple_of, c2_is_tuple_of, c3_is_tuple_of, c1_is_number, c2_is_number, c3_is_number, c1_is_number_d1, c2_is_number_d1, c3_is_number_d1, c1_is_number_d2, c2_is_number_d2, c3_is_number_d2, c1_is_fraction, c2_is_fraction, c3_is_fraction, c1_is_small_fraction, c2_is_small_fraction, c3_is_small_fraction, c1_check_fraction, c2_check_fraction, c3_check_fraction, c1_lowest, c2_lowest, c3_lowest, c1_plus, c2_plus, c3_plus, c1_times, c2_times, c3_times, c1_worth_by, c2_worth_by, c3_worth_by, c1_worth_at, c2_worth_at, c3_worth_at, c1_w_right, c2_w_right, c3_w_right, c1_law, c2_law, c3_law]
  by_cases h : 0 < two
  · rw [if_pos (by omega)]
    refine run_par' ?_
    simp only [e_call0, e_callk0, e_g0, e_lc, ap_callM, e_v, e_k, e_ty, e_neg, e_bin, e_cmp, e_chn, e_and, e_or, e_not, e_one, e_ife, e_tup, e_lst, e_ix, e_sl, e_bi, e_app, e_ext, e_pop, a_nil, a_cons, o_nil, o_pt, b_and, b_or, b_not, b_tr, b_one, t_nil, t_cons, i_it, i_rng, i_enm, g_nm, g_ns, g_sub, g_tup, gs_nil, gs_cons, r_nil, r_cons, ap_d, ap_op, ap_un, ap_nil, ap_cons, ap_bi, vo_nil, vo_cons, ap_tru, ap_andB, ap_orB, ap_notB, ap_ife, ap_yes, gs_0, gs_1, gt_d, gns_d, gns_o, gnm_d, gnm_o, rw_0, rw_1, ap_par, sa_0, sa_t, sa_f, np, ap_pt, ap_sl, ap_lst, ap_tup, stab_0, stab_1, gB_ap, bl_ap, not_ap, neg_ap, ap_app, ap_apd, ap_and, ap_or, vM, vg_d, vg_o, sl_0, sl_c, so_v, so_d, sw_o, bk_n, bk_s, bg_o, fzM, fz_o, val_d, val_ow, val_v, vl_o, hand_d, hand_ow, hand_vw, gsub, s0_o, sg_o, appd, a0_o, ap_o, popd, pp_o, rt_d, rt_o, rt_v, r0_o, itd, it_l, it_f, it_t, end_, en_l, en_f, en_t, chn_ap, nv_d, nv_o, bind_ok', ok_ok, ok_bind, ok_guard, bin_add, bin_sub, ok_mul, ok_fdiv, ok_mod, ok_pow, ok_divmod, ok_ifi, ixn30, ixn31, ixn32, sl_fz, sl_ls, sl_tp, pm_0, pm_1, Option.bind_some, ex_nx, tg_1, tg_t, wi_0, wi_1, sz0, sz1, sz2, sz3, sz4, sz5, sz6, sz7, sz8, bi_comb, cmp_lt, cmp_le, cmp_gt, cmp_ge, cmp_eqi, cmp_nei, cmp_eqs, cmp_nes, cmp_eqb, cmp_neb, is_non, is_int, is_ob, isn_non, isn_int, isn_ob, tru_b, tru_i, bi_int, bi_abs, bi_gcd, bi_lenl, bi_lenf, bi_lent, bi_tupl, bi_tupf, bi_isint, bi_isbool, bi_istup, ofO_s, ix_l, ix_f, ix_t, at_0, at_1, at_2, List.getElem?_cons_succ, List.getElem?_cons_zero, List.set_cons_succ, List.set_cons_zero, List.length_cons, List.length_nil, List.map_nil, List.map_cons, List.append_nil, List.nil_append, List.cons_append, Int.reduceLT, Int.reduceLE, Nat.reduceAdd, Nat.reduceLT, Nat.reduceLeDiff, Nat.zero_add, Nat.zero_lt_succ, if_true, if_false, Bool.false_eq_true, Bool.not_true, Bool.not_false, ne_eq, not_false_eq_true, reduceCtorEq, Option.some.injEq, and_true, true_and, Nat.lt_add_one, Nat.succ_ne_self, Nat.reduceEqDiff, decide_true, decide_false, decide_eq_true_eq, fin_nx, fin_rd, fin_ro, outs_0, os_s, og_o, rep_s, rep_0, Nat.reduceSub, e_rev, rv_l, rv_f, rv_t, is_bb, isn_bb, is_bn, isn_bn, is_sn, isn_sn, e_fw, c1_w_pool, c2_w_pool, c3_w_pool, c1_w_take, c2_w_take, c3_w_take, c1_w_of, c2_w_of, c3_w_of, c1_w_frac, c2_w_frac, c3_w_frac, c1_is_whole, c2_is_whole, c3_is_whole, c1_is_between, c2_is_between, c3_is_between, c1_wrong_number, c2_wrong_number, c3_wrong_number, c1_is_row, c2_is_row, c3_is_row, c1_without_noughts, c2_without_noughts, c3_without_noughts, c1_are_numbers, c2_are_numbers, c3_are_numbers, c1_check_numbers, c2_check_numbers, c3_check_numbers, c1_is_less, c2_is_less, c3_is_less, c1_is_tuple_of, c2_is_tuple_of, c3_is_tuple_of, c1_is_number, c2_is_number, c3_is_number, c1_is_number_d1, c2_is_number_d1, c3_is_number_d1, c1_is_number_d2, c2_is_number_d2, c3_is_number_d2, c1_is_fraction, c2_is_fraction, c3_is_fraction, c1_is_small_fraction, c2_is_small_fraction, c3_is_small_fraction, c1_check_fraction, c2_check_fraction, c3_check_fraction, c1_lowest, c2_lowest, c3_lowest, c1_plus, c2_plus, c3_plus, c1_times, c2_times, c3_times, c1_worth_by, c2_worth_by, c3_worth_by, c1_worth_at, c2_worth_at, c3_worth_at, c1_w_right, c2_w_right, c3_w_right, c1_law, c2_law, c3_law, mod_nat]
    refine ⟨by omega, ?_⟩
    have e : Nat.gcd two (one % two) = Nat.gcd a.natAbs b := by rw [← h1, Nat.gcd_comm one two, Nat.gcd_rec two one, Nat.gcd_comm]
    have lt : one % two < two := Nat.mod_lt _ h
    rcases h2 with ⟨rfl, z1, z2⟩ | ⟨h3, h4, k, hk, rfl, h5⟩
    · have hb2 : two ≤ 2 ^ 3000 := by rw [z2]; exact hb2
      refine run_nxw ⟨7000, by omega, two, one % two, e, .inr ⟨lt, Nat.le_of_eq z2, 7000, by omega, rfl, ?_⟩, rfl⟩
      calc two * (one % two) ≤ 2 ^ 3000 * 2 ^ 3000 := Nat.mul_le_mul hb2 (by omega)
        _ = 2 ^ 6000 := by rw [← Nat.pow_add]
        _ < 2 ^ 7000 := Nat.pow_lt_pow_right (by decide) (by decide)
    · obtain ⟨j, j1, j2⟩ := euclid_half h3 h h5
      exact run_nxw ⟨j, j1, two, one % two, e, .inr ⟨lt, by omega, j, by omega, rfl, j2⟩, rfl⟩
  · rw [if_neg (by omega)]
    have z : two = 0 := by omega
    subst z
    rw [Nat.gcd_zero_right] at h1
    subst h1
    refine run_r ?_
    simp only [e_call0, e_callk0, e_g0, e_lc, ap_callM, e_v, e_k, e_ty, e_neg, e_bin, e_cmp, e_chn, e_and, e_or, e_not, e_one, e_ife, e_tup, e_lst, e_ix, e_sl, e_bi, e_app, e_ext, e_pop, a_nil, a_cons, o_nil, o_pt, b_and, b_or, b_not, b_tr, b_one, t_nil, t_cons, i_it, i_rng, i_enm, g_nm, g_ns, g_sub, g_tup, gs_nil, gs_cons, r_nil, r_cons, ap_d, ap_op, ap_un, ap_nil, ap_cons, ap_bi, vo_nil, vo_cons, ap_tru, ap_andB, ap_orB, ap_notB, ap_ife, ap_yes, gs_0, gs_1, gt_d, gns_d, gns_o, gnm_d, gnm_o, rw_0, rw_1, ap_par, sa_0, sa_t, sa_f, np, ap_pt, ap_sl, ap_lst, ap_tup, stab_0, stab_1, gB_ap, bl_ap, not_ap, neg_ap, ap_app, ap_apd, ap_and, ap_or, vM, vg_d, vg_o, sl_0, sl_c, so_v, so_d, sw_o, bk_n, bk_s, bg_o, fzM, fz_o, val_d, val_ow, val_v, vl_o, hand_d, hand_ow, hand_vw, gsub, s0_o, sg_o, appd, a0_o, ap_o, popd, pp_o, rt_d, rt_o, rt_v, r0_o, itd, it_l, it_f, it_t, end_, en_l, en_f, en_t, chn_ap, nv_d, nv_o, bind_ok', ok_ok, ok_bind, ok_guard, bin_add, bin_sub, ok_mul, ok_fdiv, ok_mod, ok_pow, ok_divmod, ok_ifi, ixn30, ixn31, ixn32, sl_fz, sl_ls, sl_tp, pm_0, pm_1, Option.bind_some, ex_nx, tg_1, tg_t, wi_0, wi_1, sz0, sz1, sz2, sz3, sz4, sz5, sz6, sz7, sz8, bi_comb, cmp_lt, cmp_le, cmp_gt, cmp_ge, cmp_eqi, cmp_nei, cmp_eqs, cmp_nes, cmp_eqb, cmp_neb, is_non, is_int, is_ob, isn_non, isn_int, isn_ob, tru_b, tru_i, bi_int, bi_abs, bi_gcd, bi_lenl, bi_lenf, bi_lent, bi_tupl, bi_tupf, bi_isint, bi_isbool, bi_istup, ofO_s, ix_l, ix_f, ix_t, at_0, at_1, at_2, List.getElem?_cons_succ, List.getElem?_cons_zero, List.set_cons_succ, List.set_cons_zero, List.length_cons, List.length_nil, List.map_nil, List.map_cons, List.append_nil, List.nil_append, List.cons_append, Int.reduceLT, Int.reduceLE, Nat.reduceAdd, Nat.reduceLT, Nat.reduceLeDiff, Nat.zero_add, Nat.zero_lt_succ, if_true, if_false, Bool.false_eq_true, Bool.not_true, Bool.not_false, ne_eq, not_false_eq_true, reduceCtorEq, Option.some.injEq, and_true, true_and, Nat.lt_add_one, Nat.succ_ne_self, Nat.reduceEqDiff, decide_true, decide_false, decide_eq_true_eq, fin_nx, fin_rd, fin_ro, outs_0, os_s, og_o, rep_s, rep_0, Nat.reduceSub, e_rev, rv_l, rv_f, rv_t, is_bb, isn_bb, is_bn, isn_bn, is_sn, isn_sn, e_fw, c1_w_pool, c2_w_pool, c3_w_pool, c1_w_take, c2_w_take, c3_w_take, c1_w_of, c2_w_of, c3_w_of, c1_w_frac, c2_w_frac, c3_w_frac, c1_is_whole, c2_is_whole, c3_is_whole, c1_is_between, c2_is_between, c3_is_between, c1_wrong_number, c2_wrong_number, c3_wrong_number, c1_is_row, c2_is_row, c3_is_row, c1_without_noughts, c2_without_noughts, c3_without_noughts, c1_are_numbers, c2_are_numbers, c3_are_numbers, c1_check_numbers, c2_check_numbers, c3_check_numbers, c1_is_less, c2_is_less, c3_is_less, c1_is_tuple_of, c2_is_tuple_of, c3_is_tuple_of, c1_is_number, c2_is_number, c3_is_number, c1_is_number_d1, c2_is_number_d1, c3_is_number_d1, c1_is_number_d2, c2_is_number_d2, c3_is_number_d2, c1_is_fraction, c2_is_fraction, c3_is_fraction, c1_is_small_fraction, c2_is_small_fraction, c3_is_small_fraction, c1_check_fraction, c2_check_fraction, c3_check_fraction, c1_lowest, c2_lowest, c3_lowest, c1_plus, c2_plus, c3_plus, c1_times, c2_times, c3_times, c1_worth_by, c2_worth_by, c3_worth_by, c1_worth_at, c2_worth_at, c3_worth_at, c1_w_right, c2_w_right, c3_w_right, c1_law, c2_law, c3_law, div_nat]
    exact ⟨⟨by omega, bigb _ hg2⟩, ⟨by omega, bigb _ hg2⟩, rfl⟩
end Lw
set_option linter.all false
set_option maxRecDepth 1500
set_option maxHeartbeats 1000000
namespace Lw
open PySem PySem.Spec PyProof.Rows L2 Tp
theorem is_whole_i {i : Int} : f_is_whole [.st (.int i)] = .ok (.d (.bl true), [.un]) := (rfl)
theorem is_between_i {i a b : Int} (h1 : a ≤ i) (h2 : i ≤ b) : f_is_between [.st (.int i), .st (.int a), .st (.int b)] = .ok (.d (.bl true), [.un, .un, .un]) := by
  refine Ok.eq (fn_run rfl ?_)
  refine run_r ?_
  simp only [e_call0, e_callk0, e_g0, e_lc, ap_callM, e_v, e_k, e_ty, e_neg, e_bin, e_cmp, e_chn, e_and, e_or, e_not, e_one, e_ife, e_tup, e_lst, e_ix, e_sl, e_bi, e_app, e_ext, e_pop, a_nil, a_cons, o_nil, o_pt, b_and, b_or, b_not, b_tr, b_one, t_nil, t_cons, i_it, i_rng, i_enm, g_nm, g_ns, g_sub, g_tup, gs_nil, gs_cons, r_nil, r_cons, ap_d, ap_op, ap_un, ap_nil, ap_cons, ap_bi, vo_nil, vo_cons, ap_tru, ap_andB, ap_orB, ap_notB, ap_ife, ap_yes, gs_0, gs_1, gt_d, gns_d, gns_o, gnm_d, gnm_o, rw_0, rw_1, ap_par, sa_0, sa_t, sa_f, np, ap_pt, ap_sl, ap_lst, ap_tup, stab_0, stab_1, gB_ap, bl_ap, not_ap, neg_ap, ap_app, ap_apd, ap_and, ap_or, vM, vg_d, vg_o, sl_0, sl_c, so_v, so_d, sw_o, bk_n, bk_s, bg_o, fzM, fz_o, val_d, val_ow, val_v, vl_o, hand_d, hand_ow, hand_vw, gsub, s0_o, sg_o, appd, a0_o, ap_o, popd, pp_o, rt_d, rt_o, rt_v, r0_o, itd, it_l, it_f, it_t, end_, en_l, en_f, en_t, chn_ap, nv_d, nv_o, bind_ok', ok_ok, ok_bind, ok_guard, bin_add, bin_sub, ok_mul, ok_fdiv, ok_mod, ok_pow, ok_divmod, ok_ifi, ixn30, ixn31, ixn32, sl_fz, sl_ls, sl_tp, pm_0, pm_1, Option.bind_some, ex_nx, tg_1, tg_t, wi_0, wi_1, sz0, sz1, sz2, sz3, sz4, sz5, sz6, sz7, sz8, bi_comb, cmp_lt, cmp_le, cmp_gt, cmp_ge, cmp_eqi, cmp_nei, cmp_eqs, cmp_nes, cmp_eqb, cmp_neb, is_non, is_int, is_ob, isn_non, isn_int, isn_ob, tru_b, tru_i, bi_int, bi_abs, bi_gcd, bi_lenl, bi_lenf, bi_lent, bi_tupl, bi_tupf, bi_isint, bi_isbool, bi_istup, ofO_s, ix_l, ix_f, ix_t, at_0, at_1, at_2, List.getElem?_cons_succ, List.getElem?_cons_zero, List.set_cons_succ, List.set_cons_zero, List.length_cons, List.length_nil, List.map_nil, List.map_cons, List.append_nil, List.nil_append, List.cons_append, Int.reduceLT, Int.reduceLE, Nat.reduceAdd, Nat.reduceLT, Nat.reduceLeDiff, Nat.zero_add, Nat.zero_lt_succ, if_true, if_false, Bool.false_eq_true, Bool.not_true, Bool.not_false, ne_eq, not_false_eq_true, reduceCtorEq, Option.some.injEq, and_true, true_and, Nat.lt_add_one, Nat.succ_ne_self, Nat.reduceEqDiff, decide_true, decide_false, decide_eq_true_eq, fin_nx, fin_rd, fin_ro, outs_0, os_s, og_o, rep_s, rep_0, Nat.reduceSub, e_rev, rv_l, rv_f, rv_t, is_bb, isn_bb, is_bn, isn_bn, is_sn, isn_sn, e_fw, c1_w_pool, c2_w_pool, c3_w_pool, c1_w_take, c2_w_take, c3_w_take, c1_w_of, c2_w_of, c3_w_of, c1_w_frac, c2_w_frac, c3_w_frac, c1_is_whole, c2_is_whole, c3_is_whole, c1_is_between, c2_is_between, c3_is_between, c1_wrong_number, c2_wrong_number, c3_wrong_number, c1_is_row, c2_is_row, c3_is_row, c1_without_noughts, c2_without_noughts, c3_without_noughts, c1_are_numbers, c2_are_numbers, c3_are_numbers, c1_check_numbers, c2_check_numbers, c3_check_numbers, c1_is_less, c2_is_less, c3_is_less, c1_is_tuple_of, c2_is_tuple_of, c3_is_tuple_of, c1_is_number, c2_is_number, c3_is_number, c1_is_number_d1, c2_is_number_d1, c3_is_number_d1, c1_is_number_d2, c2_is_number_d2, c3_is_number_d2, c1_is_fraction, c2_is_fraction, c3_is_fraction, c1_is_small_fraction, c2_is_small_fraction, c3_is_small_fraction, c1_check_fraction, c2_check_fraction, c3_check_fraction, c1_lowest, c2_lowest, c3_lowest, c1_plus, c2_plus, c3_plus, c1_times, c2_times, c3_times, c1_worth_by, c2_worth_by, c3_worth_by, c1_worth_at, c2_worth_at, c3_worth_at, c1_w_right, c2_w_right, c3_w_right, c1_law, c2_law, c3_law, is_whole_i, h1, h2]
theorem is_row_ok {xs : List D} {a b : Int} (h1 : a ≤ xs.length) (h2 : xs.length ≤ b) : f_is_row [.st (.tup xs), .st (.int a), .st (.int b)] = .ok (.d (.bl true), [.un, .un, .un]) := by
  refine Ok.eq (fn_run rfl ?_)
  refine run_r ?_
  simp only [e_call0, e_callk0, e_g0, e_lc, ap_callM, e_v, e_k, e_ty, e_neg, e_bin, e_cmp, e_chn, e_and, e_or, e_not, e_one, e_ife, e_tup, e_lst, e_ix, e_sl, e_bi, e_app, e_ext, e_pop, a_nil, a_cons, o_nil, o_pt, b_and, b_or, b_not, b_tr, b_one, t_nil, t_cons, i_it, i_rng, i_enm, g_nm, g_ns, g_sub, g_tup, gs_nil, gs_cons, r_nil, r_cons, ap_d, ap_op, ap_un, ap_nil, ap_cons, ap_bi, vo_nil, vo_cons, ap_tru, ap_andB, ap_orB, ap_notB, ap_ife, ap_yes, gs_0, gs_1, gt_d, gns_d, gns_o, gnm_d, gnm_o, rw_0, rw_1, ap_par, sa_0, sa_t, sa_f, np, ap_pt, ap_sl, ap_lst, ap_tup, stab_0, stab_1, gB_ap, bl_ap, not_ap, neg_ap, ap_app, ap_apd, ap_and, ap_or, vM, vg_d, vg_o, sl_0, sl_c, so_v, so_d, sw_o, bk_n, bk_s, bg_o, fzM, fz_o, val_d, val_ow, val_v, vl_o, hand_d, hand_ow, hand_vw, gsub, s0_o, sg_o, appd, a0_o, ap_o, popd, pp_o, rt_d, rt_o, rt_v, r0_o, itd, it_l, it_f, it_t, end_, en_l, en_f, en_t, chn_ap, nv_d, nv_o, bind_ok', ok_ok, ok_bind, ok_guard, bin_add, bin_sub, ok_mul, ok_fdiv, ok_mod, ok_pow, ok_divmod, ok_ifi, ixn30, ixn31, ixn32, sl_fz, sl_ls, sl_tp, pm_0, pm_1, Option.bind_some, ex_nx, tg_1, tg_t, wi_0, wi_1, sz0, sz1, sz2, sz3, sz4, sz5, sz6, sz7, sz8, bi_comb, cmp_lt, cmp_le, cmp_gt, cmp_ge, cmp_eqi, cmp_nei, cmp_eqs, cmp_nes, cmp_eqb, cmp_neb, is_non, is_int, is_ob, isn_non, isn_int, isn_ob, tru_b, tru_i, bi_int, bi_abs, bi_gcd, bi_lenl, bi_lenf, bi_lent, bi_tupl, bi_tupf, bi_isint, bi_isbool, bi_istup, ofO_s, ix_l, ix_f, ix_t, at_0, at_1, at_2, List.getElem?_cons_succ, List.getElem?_cons_zero, List.set_cons_succ, List.set_cons_zero, List.length_cons, List.length_nil, List.map_nil, List.map_cons, List.append_nil, List.nil_append, List.cons_append, Int.reduceLT, Int.reduceLE, Nat.reduceAdd, Nat.reduceLT, Nat.reduceLeDiff, Nat.zero_add, Nat.zero_lt_succ, if_true, if_false, Bool.false_eq_true, Bool.not_true, Bool.not_false, ne_eq, not_false_eq_true, reduceCtorEq, Option.some.injEq, and_true, true_and, Nat.lt_add_one, Nat.succ_ne_self, Nat.reduceEqDiff, decide_true, decide_false, decide_eq_true_eq, fin_nx, fin_rd, fin_ro, outs_0, os_s, og_o, rep_s, rep_0, Nat.reduceSub, e_rev, rv_l, rv_f, rv_t, is_bb, isn_bb, is_bn, isn_bn, is_sn, isn_sn, e_fw, c1_w_pool, c2_w_pool, c3_w_pool, c1_w_take, c2_w_take, c3_w_take, c1_w_of, c2_w_of, c3_w_of, c1_w_frac, c2_w_frac, c3_w_frac, c1_is_whole, c2_is_whole, c3_is_whole, c1_is_between, c2_is_between, c3_is_between, c1_wrong_number, c2_wrong_number, c3_wrong_number, c1_is_row, c2_is_row, c3_is_row, c1_without_noughts, c2_without_noughts, c3_without_noughts, c1_are_numbers, c2_are_numbers, c3_are_numbers, c1_check_numbers, c2_check_numbers, c3_check_numbers, c1_is_less, c2_is_less, c3_is_less, c1_is_tuple_of, c2_is_tuple_of, c3_is_tuple_of, c1_is_number, c2_is_number, c3_is_number, c1_is_number_d1, c2_is_number_d1, c3_is_number_d1, c1_is_number_d2, c2_is_number_d2, c3_is_number_d2, c1_is_fraction, c2_is_fraction, c3_is_fraction, c1_is_small_fraction, c2_is_small_fraction, c3_is_small_fraction, c1_check_fraction, c2_check_fraction, c3_check_fraction, c1_lowest, c2_lowest, c3_lowest, c1_plus, c2_plus, c3_plus, c1_times, c2_times, c3_times, c1_worth_by, c2_worth_by, c3_worth_by, c1_worth_at, c2_worth_at, c3_worth_at, c1_w_right, c2_w_right, c3_w_right, c1_law, c2_law, c3_law, h1, h2]
theorem fl_number {i : Int} {a : D} (h : i.natAbs ≤ 9999) : fl_wrong_number [.st (.int i), .st a] = .ok (.d (.bl true), [.un, .un]) := by
  refine Ok.eq (fnL_run ?_)
  simp only [e_call0, e_callk0, e_g0, e_lc, ap_callM, e_v, e_k, e_ty, e_neg, e_bin, e_cmp, e_chn, e_and, e_or, e_not, e_one, e_ife, e_tup, e_lst, e_ix, e_sl, e_bi, e_app, e_ext, e_pop, a_nil, a_cons, o_nil, o_pt, b_and, b_or, b_not, b_tr, b_one, t_nil, t_cons, i_it, i_rng, i_enm, g_nm, g_ns, g_sub, g_tup, gs_nil, gs_cons, r_nil, r_cons, ap_d, ap_op, ap_un, ap_nil, ap_cons, ap_bi, vo_nil, vo_cons, ap_tru, ap_andB, ap_orB, ap_notB, ap_ife, ap_yes, gs_0, gs_1, gt_d, gns_d, gns_o, gnm_d, gnm_o, rw_0, rw_1, ap_par, sa_0, sa_t, sa_f, np, ap_pt, ap_sl, ap_lst, ap_tup, stab_0, stab_1, gB_ap, bl_ap, not_ap, neg_ap, ap_app, ap_apd, ap_and, ap_or, vM, vg_d, vg_o, sl_0, sl_c, so_v, so_d, sw_o, bk_n, bk_s, bg_o, fzM, fz_o, val_d, val_ow, val_v, vl_o, hand_d, hand_ow, hand_vw, gsub, s0_o, sg_o, appd, a0_o, ap_o, popd, pp_o, rt_d, rt_o, rt_v, r0_o, itd, it_l, it_f, it_t, end_, en_l, en_f, en_t, chn_ap, nv_d, nv_o, bind_ok', ok_ok, ok_bind, ok_guard, bin_add, bin_sub, ok_mul, ok_fdiv, ok_mod, ok_pow, ok_divmod, ok_ifi, ixn30, ixn31, ixn32, sl_fz, sl_ls, sl_tp, pm_0, pm_1, Option.bind_some, ex_nx, tg_1, tg_t, wi_0, wi_1, sz0, sz1, sz2, sz3, sz4, sz5, sz6, sz7, sz8, bi_comb, cmp_lt, cmp_le, cmp_gt, cmp_ge, cmp_eqi, cmp_nei, cmp_eqs, cmp_nes, cmp_eqb, cmp_neb, is_non, is_int, is_ob, isn_non, isn_int, isn_ob, tru_b, tru_i, bi_int, bi_abs, bi_gcd, bi_lenl, bi_lenf, bi_lent, bi_tupl, bi_tupf, bi_isint, bi_isbool, bi_istup, ofO_s, ix_l, ix_f, ix_t, at_0, at_1, at_2, List.getElem?_cons_succ, List.getElem?_cons_zero, List.set_cons_succ, List.set_cons_zero, List.length_cons, List.length_nil, List.map_nil, List.map_cons, List.append_nil, List.nil_append, List.cons_append, Int.reduceLT, Int.reduceLE, Nat.reduceAdd, Nat.reduceLT, Nat.reduceLeDiff, Nat.zero_add, Nat.zero_lt_succ, if_true, if_false, Bool.false_eq_true, Bool.not_true, Bool.not_false, ne_eq, not_false_eq_true, reduceCtorEq, Option.some.injEq, and_true, true_and, Nat.lt_add_one, Nat.succ_ne_self, Nat.reduceEqDiff, decide_true, decide_false, decide_eq_true_eq, fin_nx, fin_rd, fin_ro, outs_0, os_s, og_o, rep_s, rep_0, Nat.reduceSub, e_rev, rv_l, rv_f, rv_t, is_bb, isn_bb, is_bn, isn_bn, is_sn, isn_sn, e_fw, c1_w_pool, c2_w_pool, c3_w_pool, c1_w_take, c2_w_take, c3_w_take, c1_w_of, c2_w_of, c3_w_of, c1_w_frac, c2_w_frac, c3_w_frac, c1_is_whole, c2_is_whole, c3_is_whole, c1_is_between, c2_is_between, c3_is_between, c1_wrong_number, c2_wrong_number, c3_wrong_number, c1_is_row, c2_is_row, c3_is_row, c1_without_noughts, c2_without_noughts, c3_without_noughts, c1_are_numbers, c2_are_numbers, c3_are_numbers, c1_check_numbers, c2_check_numbers, c3_check_numbers, c1_is_less, c2_is_less, c3_is_less, c1_is_tuple_of, c2_is_tuple_of, c3_is_tuple_of, c1_is_number, c2_is_number, c3_is_number, c1_is_number_d1, c2_is_number_d1, c3_is_number_d1, c1_is_number_d2, c2_is_number_d2, c3_is_number_d2, c1_is_fraction, c2_is_fraction, c3_is_fraction, c1_is_small_fraction, c2_is_small_fraction, c3_is_small_fraction, c1_check_fraction, c2_check_fraction, c3_check_fraction, c1_lowest, c2_lowest, c3_lowest, c1_plus, c2_plus, c3_plus, c1_times, c2_times, c3_times, c1_worth_by, c2_worth_by, c3_worth_by, c1_worth_at, c2_worth_at, c3_worth_at, c1_w_right, c2_w_right, c3_w_right, c1_law, c2_law, c3_law, is_between_i (i := i) (a := -9999) (b := 9999) (by omega) (by omega)]
theorem wrong_number_ok {l : List Int} (h : ∀ n ∈ l, n.natAbs ≤ 9999) (hl : l.length ≤ 10) : f_wrong_number [.st (.tup (l.map .int))] = .ok (.d .non, [.un]) := by
  refine Ok.eq (fn_run rfl ?_)
  refine run_r ?_
  rw [e_fw]
  refine ok_fw ?_
  simp only [e_call0, e_callk0, e_g0, e_lc, ap_callM, e_v, e_k, e_ty, e_neg, e_bin, e_cmp, e_chn, e_and, e_or, e_not, e_one, e_ife, e_tup, e_lst, e_ix, e_sl, e_bi, e_app, e_ext, e_pop, a_nil, a_cons, o_nil, o_pt, b_and, b_or, b_not, b_tr, b_one, t_nil, t_cons, i_it, i_rng, i_enm, g_nm, g_ns, g_sub, g_tup, gs_nil, gs_cons, r_nil, r_cons, ap_d, ap_op, ap_un, ap_nil, ap_cons, ap_bi, vo_nil, vo_cons, ap_tru, ap_andB, ap_orB, ap_notB, ap_ife, ap_yes, gs_0, gs_1, gt_d, gns_d, gns_o, gnm_d, gnm_o, rw_0, rw_1, ap_par, sa_0, sa_t, sa_f, np, ap_pt, ap_sl, ap_lst, ap_tup, stab_0, stab_1, gB_ap, bl_ap, not_ap, neg_ap, ap_app, ap_apd, ap_and, ap_or, vM, vg_d, vg_o, sl_0, sl_c, so_v, so_d, sw_o, bk_n, bk_s, bg_o, fzM, fz_o, val_d, val_ow, val_v, vl_o, hand_d, hand_ow, hand_vw, gsub, s0_o, sg_o, appd, a0_o, ap_o, popd, pp_o, rt_d, rt_o, rt_v, r0_o, itd, it_l, it_f, it_t, end_, en_l, en_f, en_t, chn_ap, nv_d, nv_o, bind_ok', ok_ok, ok_bind, ok_guard, bin_add, bin_sub, ok_mul, ok_fdiv, ok_mod, ok_pow, ok_divmod, ok_ifi, ixn30, ixn31, ixn32, sl_fz, sl_ls, sl_tp, pm_0, pm_1, Option.bind_some, ex_nx, tg_1, tg_t, wi_0, wi_1, sz0, sz1, sz2, sz3, sz4, sz5, sz6, sz7, sz8, bi_comb, cmp_lt, cmp_le, cmp_gt, cmp_ge, cmp_eqi, cmp_nei, cmp_eqs, cmp_nes, cmp_eqb, cmp_neb, is_non, is_int, is_ob, isn_non, isn_int, isn_ob, tru_b, tru_i, bi_int, bi_abs, bi_gcd, bi_lenl, bi_lenf, bi_lent, bi_tupl, bi_tupf, bi_isint, bi_isbool, bi_istup, ofO_s, ix_l, ix_f, ix_t, at_0, at_1, at_2, List.getElem?_cons_succ, List.getElem?_cons_zero, List.set_cons_succ, List.set_cons_zero, List.length_cons, List.length_nil, List.map_nil, List.map_cons, List.append_nil, List.nil_append, List.cons_append, Int.reduceLT, Int.reduceLE, Nat.reduceAdd, Nat.reduceLT, Nat.reduceLeDiff, Nat.zero_add, Nat.zero_lt_succ, if_true, if_false, Bool.false_eq_true, Bool.not_true, Bool.not_false, ne_eq, not_false_eq_true, reduceCtorEq, Option.some.injEq, and_true, true_and, Nat.lt_add_one, Nat.succ_ne_self, Nat.reduceEqDiff, decide_true, decide_false, decide_eq_true_eq, fin_nx, fin_rd, fin_ro, outs_0, os_s, og_o, rep_s, rep_0, Nat.reduceSub, e_rev, rv_l, rv_f, rv_t, is_bb, isn_bb, is_bn, isn_bn, is_sn, isn_sn, e_fw, c1_w_pool, c2_w_pool, c3_w_pool, c1_w_take, c2_w_take, c3_w_take, c1_w_of, c2_w_of, c3_w_of, c1_w_frac, c2_w_frac, c3_w_frac, c1_is_whole, c2_is_whole, c3_is_whole, c1_is_between, c2_is_between, c3_is_between, c1_wrong_number, c2_wrong_number, c3_wrong_number, c1_is_row, c2_is_row, c3_is_row, c1_without_noughts, c2_without_noughts, c3_without_noughts, c1_are_numbers, c2_are_numbers, c3_are_numbers, c1_check_numbers, c2_check_numbers, c3_check_numbers, c1_is_less, c2_is_less, c3_is_less, c1_is_tuple_of, c2_is_tuple_of, c3_is_tuple_of, c1_is_number, c2_is_number, c3_is_number, c1_is_number_d1, c2_is_number_d1, c3_is_number_d1, c1_is_number_d2, c2_is_number_d2, c3_is_number_d2, c1_is_fraction, c2_is_fraction, c3_is_fraction, c1_is_small_fraction, c2_is_small_fraction, c3_is_small_fraction, c1_check_fraction, c2_check_fraction, c3_check_fraction, c1_lowest, c2_lowest, c3_lowest, c1_plus, c2_plus, c3_plus, c1_times, c2_times, c3_times, c1_worth_by, c2_worth_by, c3_worth_by, c1_worth_at, c2_worth_at, c3_worth_at, c1_w_right, c2_w_right, c3_w_right, c1_law, c2_law, c3_law]
  refine ⟨_, _, rfl, by rw [List.length_map]; omega, fwF_all _ _ ?_, ?_⟩
  · intro d hd a
    obtain ⟨i, hi, rfl⟩ := List.mem_map.mp hd
    exact ⟨_, fl_number (h i hi)⟩
  · simp only [e_call0, e_callk0, e_g0, e_lc, ap_callM, e_v, e_k, e_ty, e_neg, e_bin, e_cmp, e_chn, e_and, e_or, e_not, e_one, e_ife, e_tup, e_lst, e_ix, e_sl, e_bi, e_app, e_ext, e_pop, a_nil, a_cons, o_nil, o_pt, b_and, b_or, b_not, b_tr, b_one, t_nil, t_cons, i_it, i_rng, i_enm, g_nm, g_ns, g_sub, g_tup, gs_nil, gs_cons, r_nil, r_cons, ap_d, ap_op, ap_un, ap_nil, ap_cons, ap_bi, vo_nil, vo_cons, ap_tru, ap_andB, ap_orB, ap_notB, ap_ife, ap_yes, gs_0, gs_1, gt_d, gns_d, gns_o, gnm_d, gnm_o, rw_0, rw_1, ap_par, sa_0, sa_t, sa_f, np, ap_pt, ap_sl, ap_lst, ap_tup, stab_0, stab_1, gB_ap, bl_ap, not_ap, neg_ap, ap_app, ap_apd, ap_and, ap_or, vM, vg_d, vg_o, sl_0, sl_c, so_v, so_d, sw_o, bk_n, bk_s, bg_o, fzM, fz_o, val_d, val_ow, val_v, vl_o, hand_d, hand_ow, hand_vw, gsub, s0_o, sg_o, appd, a0_o, ap_o, popd, pp_o, rt_d, rt_o, rt_v, r0_o, itd, it_l, it_f, it_t, end_, en_l, en_f, en_t, chn_ap, nv_d, nv_o, bind_ok', ok_ok, ok_bind, ok_guard, bin_add, bin_sub, ok_mul, ok_fdiv, ok_mod, ok_pow, ok_divmod, ok_ifi, ixn30, ixn31, ixn32, sl_fz, sl_ls, sl_tp, pm_0, pm_1, Option.bind_some, ex_nx, tg_1, tg_t, wi_0, wi_1, sz0, sz1, sz2, sz3, sz4, sz5, sz6, sz7, sz8, bi_comb, cmp_lt, cmp_le, cmp_gt, cmp_ge, cmp_eqi, cmp_nei, cmp_eqs, cmp_nes, cmp_eqb, cmp_neb, is_non, is_int, is_ob, isn_non, isn_int, isn_ob, tru_b, tru_i, bi_int, bi_abs, bi_gcd, bi_lenl, bi_lenf, bi_lent, bi_tupl, bi_tupf, bi_isint, bi_isbool, bi_istup, ofO_s, ix_l, ix_f, ix_t, at_0, at_1, at_2, List.getElem?_cons_succ, List.getElem?_cons_zero, List.set_cons_succ, List.set_cons_zero, List.length_cons, List.length_nil, List.map_nil, List.map_cons, List.append_nil, List.nil_append, List.cons_append, Int.reduceLT, Int.reduceLE, Nat.reduceAdd, Nat.reduceLT, Nat.reduceLeDiff, Nat.zero_add, Nat.zero_lt_succ, if_true, if_false, Bool.false_eq_true, Bool.not_true, Bool.not_false, ne_eq, not_false_eq_true, reduceCtorEq, Option.some.injEq, and_true, true_and, Nat.lt_add_one, Nat.succ_ne_self, Nat.reduceEqDiff, decide_true, decide_false, decide_eq_true_eq, fin_nx, fin_rd, fin_ro, outs_0, os_s, og_o, rep_s, rep_0, Nat.reduceSub, e_rev, rv_l, rv_f, rv_t, is_bb, isn_bb, is_bn, isn_bn, is_sn, isn_sn, e_fw, c1_w_pool, c2_w_pool, c3_w_pool, c1_w_take, c2_w_take, c3_w_take, c1_w_of, c2_w_of, c3_w_of, c1_w_frac, c2_w_frac, c3_w_frac, c1_is_whole, c2_is_whole, c3_is_whole, c1_is_between, c2_is_between, c3_is_between, c1_wrong_number, c2_wrong_number, c3_wrong_number, c1_is_row, c2_is_row, c3_is_row, c1_without_noughts, c2_without_noughts, c3_without_noughts, c1_are_numbers, c2_are_numbers, c3_are_numbers, c1_check_numbers, c2_check_numbers, c3_check_numbers, c1_is_less, c2_is_less, c3_is_less, c1_is_tuple_of, c2_is_tuple_of, c3_is_tuple_of, c1_is_number, c2_is_number, c3_is_number, c1_is_number_d1, c2_is_number_d1, c3_is_number_d1, c1_is_number_d2, c2_is_number_d2, c3_is_number_d2, c1_is_fraction, c2_is_fraction, c3_is_fraction, c1_is_small_fraction, c2_is_small_fraction, c3_is_small_fraction, c1_check_fraction, c2_check_fraction, c3_check_fraction, c1_lowest, c2_lowest, c3_lowest, c1_plus, c2_plus, c3_plus, c1_times, c2_times, c3_times, c1_worth_by, c2_worth_by, c3_worth_by, c1_worth_at, c2_worth_at, c3_worth_at, c1_w_right, c2_w_right, c3_w_right, c1_law, c2_law, c3_law]
theorem are_numbers_ok {l : List Int} (h : ∀ n ∈ l, n.natAbs ≤ 9999) (h0 : l ≠ []) (hl : l.length ≤ 10) (ht : trim l = l) : f_are_numbers [.st (.tup (l.map .int))] = .ok (.d (.bl true), [.un]) := by
  have l0 : 0 < l.length := List.length_pos_iff.mpr h0
  have hw : f_without_noughts [.st (.tup (l.map .int))] = .ok (.d (.tup (l.map .int)), [.un]) := by
    refine Ok.eq ((noughts_ok (s := .tup (l.map .int)) (l := l) rfl h0 (by omega)).mono ?_)
    rintro _ rfl
    rw [ht]
  refine Ok.eq (fn_run rfl ?_)
  refine run_ife ?_
  simp only [e_call0, e_callk0, e_g0, e_lc, ap_callM, e_v, e_k, e_ty, e_neg, e_bin, e_cmp, e_chn, e_and, e_or, e_not, e_one, e_ife, e_tup, e_lst, e_ix, e_sl, e_bi, e_app, e_ext, e_pop, a_nil, a_cons, o_nil, o_pt, b_and, b_or, b_not, b_tr, b_one, t_nil, t_cons, i_it, i_rng, i_enm, g_nm, g_ns, g_sub, g_tup, gs_nil, gs_cons, r_nil, r_cons, ap_d, ap_op, ap_un, ap_nil, ap_cons, ap_bi, vo_nil, vo_cons, ap_tru, ap_andB, ap_orB, ap_notB, ap_ife, ap_yes, gs_0, gs_1, gt_d, gns_d, gns_o, gnm_d, gnm_o, rw_0, rw_1, ap_par, sa_0, sa_t, sa_f, np, ap_pt, ap_sl, ap_lst, ap_tup, stab_0, stab_1, gB_ap, bl_ap, not_ap, neg_ap, ap_app, ap_apd, ap_and, ap_or, vM, vg_d, vg_o, sl_0, sl_c, so_v, so_d, sw_o, bk_n, bk_s, bg_o, fzM, fz_o, val_d, val_ow, val_v, vl_o, hand_d, hand_ow, hand_vw, gsub, s0_o, sg_o, appd, a0_o, ap_o, popd, pp_o, rt_d, rt_o, rt_v, r0_o, itd, it_l, it_f, it_t, end_, en_l, en_f, en_t, chn_ap, nv_d, nv_o, bind_ok', ok_ok, ok_bind, ok_guard, bin_add, bin_sub, ok_mul, ok_fdiv, ok_mod, ok_pow, ok_divmod, ok_ifi, ixn30, ixn31, ixn32, sl_fz, sl_ls, sl_tp, pm_0, pm_1, Option.bind_some, ex_nx, tg_1, tg_t, wi_0, wi_1, sz0, sz1, sz2, sz3, sz4, sz5, sz6, sz7, sz8, bi_comb, cmp_lt, cmp_le, cmp_gt, cmp_ge, cmp_eqi, cmp_nei, cmp_eqs, cmp_nes, cmp_eqb, cmp_neb, is_non, is_int, is_ob, isn_non, isn_int, isn_ob, tru_b, tru_i, bi_int, bi_abs, bi_gcd, bi_lenl, bi_lenf, bi_lent, bi_tupl, bi_tupf, bi_isint, bi_isbool, bi_istup, ofO_s, ix_l, ix_f, ix_t, at_0, at_1, at_2, List.getElem?_cons_succ, List.getElem?_cons_zero, List.set_cons_succ, List.set_cons_zero, List.length_cons, List.length_nil, List.map_nil, List.map_cons, List.append_nil, List.nil_append, List.cons_append, Int.reduceLT, Int.reduceLE, Nat.reduceAdd, Nat.reduceLT, Nat.reduceLeDiff, Nat.zero_add, Nat.zero_lt_succ, if_true, if_false, Bool.false_eq_true, Bool.not_true, Bool.not_false, ne_eq, not_false_eq_true, reduceCtorEq, Option.some.injEq, and_true, true_and, Nat.lt_add_one, Nat.succ_ne_self, Nat.reduceEqDiff, decide_true, decide_false, decide_eq_true_eq, fin_nx, fin_rd, fin_ro, outs_0, os_s, og_o, rep_s, rep_0, Nat.reduceSub, e_rev, rv_l, rv_f, rv_t, is_bb, isn_bb, is_bn, isn_bn, is_sn, isn_sn, e_fw, c1_w_pool, c2_w_pool, c3_w_pool, c1_w_take, c2_w_take, c3_w_take, c1_w_of, c2_w_of, c3_w_of, c1_w_frac, c2_w_frac, c3_w_frac, c1_is_whole, c2_is_whole, c3_is_whole, c1_is_between, c2_is_between, c3_is_between, c1_wrong_number, c2_wrong_number, c3_wrong_number, c1_is_row, c2_is_row, c3_is_row, c1_without_noughts, c2_without_noughts, c3_without_noughts, c1_are_numbers, c2_are_numbers, c3_are_numbers, c1_check_numbers, c2_check_numbers, c3_check_numbers, c1_is_less, c2_is_less, c3_is_less, c1_is_tuple_of, c2_is_tuple_of, c3_is_tuple_of, c1_is_number, c2_is_number, c3_is_number, c1_is_number_d1, c2_is_number_d1, c3_is_number_d1, c1_is_number_d2, c2_is_number_d2, c3_is_number_d2, c1_is_fraction, c2_is_fraction, c3_is_fraction, c1_is_small_fraction, c2_is_small_fraction, c3_is_small_fraction, c1_check_fraction, c2_check_fraction, c3_check_fraction, c1_lowest, c2_lowest, c3_lowest, c1_plus, c2_plus, c3_plus, c1_times, c2_times, c3_times, c1_worth_by, c2_worth_by, c3_worth_by, c1_worth_at, c2_worth_at, c3_worth_at, c1_w_right, c2_w_right, c3_w_right, c1_law, c2_law, c3_law, is_row_ok (xs := l.map D.int) (a := 1) (b := 10) (by rw [List.length_map]; omega) (by rw [List.length_map]; omega), wrong_number_ok h hl]
  refine run_nxe ?_
  refine run_r ?_
  simp only [e_call0, e_callk0, e_g0, e_lc, ap_callM, e_v, e_k, e_ty, e_neg, e_bin, e_cmp, e_chn, e_and, e_or, e_not, e_one, e_ife, e_tup, e_lst, e_ix, e_sl, e_bi, e_app, e_ext, e_pop, a_nil, a_cons, o_nil, o_pt, b_and, b_or, b_not, b_tr, b_one, t_nil, t_cons, i_it, i_rng, i_enm, g_nm, g_ns, g_sub, g_tup, gs_nil, gs_cons, r_nil, r_cons, ap_d, ap_op, ap_un, ap_nil, ap_cons, ap_bi, vo_nil, vo_cons, ap_tru, ap_andB, ap_orB, ap_notB, ap_ife, ap_yes, gs_0, gs_1, gt_d, gns_d, gns_o, gnm_d, gnm_o, rw_0, rw_1, ap_par, sa_0, sa_t, sa_f, np, ap_pt, ap_sl, ap_lst, ap_tup, stab_0, stab_1, gB_ap, bl_ap, not_ap, neg_ap, ap_app, ap_apd, ap_and, ap_or, vM, vg_d, vg_o, sl_0, sl_c, so_v, so_d, sw_o, bk_n, bk_s, bg_o, fzM, fz_o, val_d, val_ow, val_v, vl_o, hand_d, hand_ow, hand_vw, gsub, s0_o, sg_o, appd, a0_o, ap_o, popd, pp_o, rt_d, rt_o, rt_v, r0_o, itd, it_l, it_f, it_t, end_, en_l, en_f, en_t, chn_ap, nv_d, nv_o, bind_ok', ok_ok, ok_bind, ok_guard, bin_add, bin_sub, ok_mul, ok_fdiv, ok_mod, ok_pow, ok_divmod, ok_ifi, ixn30, ixn31, ixn32, sl_fz, sl_ls, sl_tp, pm_0, pm_1, Option.bind_some, ex_nx, tg_1, tg_t, wi_0, wi_1, sz0, sz1, sz2, sz3, sz4, sz5, sz6, sz7, sz8, bi_comb, cmp_lt, cmp_le, cmp_gt, cmp_ge, cmp_eqi, cmp_nei, cmp_eqs, cmp_nes, cmp_eqb, cmp_neb, is_non, is_int, is_ob, isn_non, isn_int, isn_ob, tru_b, tru_i, bi_int, bi_abs, bi_gcd, bi_lenl, bi_lenf, bi_lent, bi_tupl, bi_tupf, bi_isint, bi_isbool, bi_istup, ofO_s, ix_l, ix_f, ix_t, at_0, at_1, at_2, List.getElem?_cons_succ, List.getElem?_cons_zero, List.set_cons_succ, List.set_cons_zero, List.length_cons, List.length_nil, List.map_nil, List.map_cons, List.append_nil, List.nil_append, List.cons_append, Int.reduceLT, Int.reduceLE, Nat.reduceAdd, Nat.reduceLT, Nat.reduceLeDiff, Nat.zero_add, Nat.zero_lt_succ, if_true, if_false, Bool.false_eq_true, Bool.not_true, Bool.not_false, ne_eq, not_false_eq_true, reduceCtorEq, Option.some.injEq, and_true, true_and, Nat.lt_add_one, Nat.succ_ne_self, Nat.reduceEqDiff, decide_true, decide_false, decide_eq_true_eq, fin_nx, fin_rd, fin_ro, outs_0, os_s, og_o, rep_s, rep_0, Nat.reduceSub, e_rev, rv_l, rv_f, rv_t, is_bb, isn_bb, is_bn, isn_bn, is_sn, isn_sn, e_fw, c1_w_pool, c2_w_pool, c3_w_pool, c1_w_take, c2_w_take, c3_w_take, c1_w_of, c2_w_of, c3_w_of, c1_w_frac, c2_w_frac, c3_w_frac, c1_is_whole, c2_is_whole, c3_is_whole, c1_is_between, c2_is_between, c3_is_between, c1_wrong_number, c2_wrong_number, c3_wrong_number, c1_is_row, c2_is_row, c3_is_row, c1_without_noughts, c2_without_noughts, c3_without_noughts, c1_are_numbers, c2_are_numbers, c3_are_numbers, c1_check_numbers, c2_check_numbers, c3_check_numbers, c1_is_less, c2_is_less, c3_is_less, c1_is_tuple_of, c2_is_tuple_of, c3_is_tuple_of, c1_is_number, c2_is_number, c3_is_number, c1_is_number_d1, c2_is_number_d1, c3_is_number_d1, c1_is_number_d2, c2_is_number_d2, c3_is_number_d2, c1_is_fraction, c2_is_fraction, c3_is_fraction, c1_is_small_fraction, c2_is_small_fraction, c3_is_small_fraction, c1_check_fraction, c2_check_fraction, c3_check_fraction, c1_lowest, c2_lowest, c3_lowest, c1_plus, c2_plus, c3_plus, c1_times, c2_times, c3_times, c1_worth_by, c2_worth_by, c3_worth_by, c1_worth_at, c2_worth_at, c3_worth_at, c1_w_right, c2_w_right, c3_w_right, c1_law, c2_law, c3_law, hw, eq_tups]
theorem check_numbers_ok {l : List Int} (h : ∀ n ∈ l, n.natAbs ≤ 9999) (h0 : l ≠ []) (hl : l.length ≤ 10) (ht : trim l = l) : f_check_numbers [.st (.tup (l.map .int))] = .ok (.d .non, [.un]) := by
  have l0 : 0 < l.length := List.length_pos_iff.mpr h0
  refine Ok.eq (fn_run rfl ?_)
  refine run_ife ?_
  simp only [e_call0, e_callk0, e_g0, e_lc, ap_callM, e_v, e_k, e_ty, e_neg, e_bin, e_cmp, e_chn, e_and, e_or, e_not, e_one, e_ife, e_tup, e_lst, e_ix, e_sl, e_bi, e_app, e_ext, e_pop, a_nil, a_cons, o_nil, o_pt, b_and, b_or, b_not, b_tr, b_one, t_nil, t_cons, i_it, i_rng, i_enm, g_nm, g_ns, g_sub, g_tup, gs_nil, gs_cons, r_nil, r_cons, ap_d, ap_op, ap_un, ap_nil, ap_cons, ap_bi, vo_nil, vo_cons, ap_tru, ap_andB, ap_orB, ap_notB, ap_ife, ap_yes, gs_0, gs_1, gt_d, gns_d, gns_o, gnm_d, gnm_o, rw_0, rw_1, ap_par, sa_0, sa_t, sa_f, np, ap_pt, ap_sl, ap_lst, ap_tup, stab_0, stab_1, gB_ap, bl_ap, not_ap, neg_ap, ap_app, ap_apd, ap_and, ap_or, vM, vg_d, vg_o, sl_0, sl_c, so_v, so_d, sw_o, bk_n, bk_s, bg_o, fzM, fz_o, val_d, val_ow, val_v, vl_o, hand_d, hand_ow, hand_vw, gsub, s0_o, sg_o, appd, a0_o, ap_o, popd, pp_o, rt_d, rt_o, rt_v, r0_o, itd, it_l, it_f, it_t, end_, en_l, en_f, en_t, chn_ap, nv_d, nv_o, bind_ok', ok_ok, ok_bind, ok_guard, bin_add, bin_sub, ok_mul, ok_fdiv, ok_mod, ok_pow, ok_divmod, ok_ifi, ixn30, ixn31, ixn32, sl_fz, sl_ls, sl_tp, pm_0, pm_1, Option.bind_some, ex_nx, tg_1, tg_t, wi_0, wi_1, sz0, sz1, sz2, sz3, sz4, sz5, sz6, sz7, sz8, bi_comb, cmp_lt, cmp_le, cmp_gt, cmp_ge, cmp_eqi, cmp_nei, cmp_eqs, cmp_nes, cmp_eqb, cmp_neb, is_non, is_int, is_ob, isn_non, isn_int, isn_ob, tru_b, tru_i, bi_int, bi_abs, bi_gcd, bi_lenl, bi_lenf, bi_lent, bi_tupl, bi_tupf, bi_isint, bi_isbool, bi_istup, ofO_s, ix_l, ix_f, ix_t, at_0, at_1, at_2, List.getElem?_cons_succ, List.getElem?_cons_zero, List.set_cons_succ, List.set_cons_zero, List.length_cons, List.length_nil, List.map_nil, List.map_cons, List.append_nil, List.nil_append, List.cons_append, Int.reduceLT, Int.reduceLE, Nat.reduceAdd, Nat.reduceLT, Nat.reduceLeDiff, Nat.zero_add, Nat.zero_lt_succ, if_true, if_false, Bool.false_eq_true, Bool.not_true, Bool.not_false, ne_eq, not_false_eq_true, reduceCtorEq, Option.some.injEq, and_true, true_and, Nat.lt_add_one, Nat.succ_ne_self, Nat.reduceEqDiff, decide_true, decide_false, decide_eq_true_eq, fin_nx, fin_rd, fin_ro, outs_0, os_s, og_o, rep_s, rep_0, Nat.reduceSub, e_rev, rv_l, rv_f, rv_t, is_bb, isn_bb, is_bn, isn_bn, is_sn, isn_sn, e_fw, c1_w_pool, c2_w_pool, c3_w_pool, c1_w_take, c2_w_take, c3_w_take, c1_w_of, c2_w_of, c3_w_of, c1_w_frac, c2_w_frac, c3_w_frac, c1_is_whole, c2_is_whole, c3_is_whole, c1_is_between, c2_is_between, c3_is_between, c1_wrong_number, c2_wrong_number, c3_wrong_number, c1_is_row, c2_is_row, c3_is_row, c1_without_noughts, c2_without_noughts, c3_without_noughts, c1_are_numbers, c2_are_numbers, c3_are_numbers, c1_check_numbers, c2_check_numbers, c3_check_numbers, c1_is_less, c2_is_less, c3_is_less, c1_is_tuple_of, c2_is_tuple_of, c3_is_tuple_of, c1_is_number, c2_is_number, c3_is_number, c1_is_number_d1, c2_is_number_d1, c3_is_number_d1, c1_is_number_d2, c2_is_number_d2, c3_is_number_d2, c1_is_fraction, c2_is_fraction, c3_is_fraction, c1_is_small_fraction, c2_is_small_fraction, c3_is_small_fraction, c1_check_fraction, c2_check_fraction, c3_check_fraction, c1_lowest, c2_lowest, c3_lowest, c1_plus, c2_plus, c3_plus, c1_times, c2_times, c3_times, c1_worth_by, c2_worth_by, c3_worth_by, c1_worth_at, c2_worth_at, c3_worth_at, c1_w_right, c2_w_right, c3_w_right, c1_law, c2_law, c3_law, is_row_ok (xs := l.map D.int) (a := 1) (b := 10) (by rw [List.length_map]; omega) (by rw [List.length_map]; omega)]
  refine run_nxe ?_
  refine run_asg ?_
  simp only [e_call0, e_callk0, e_g0, e_lc, ap_callM, e_v, e_k, e_ty, e_neg, e_bin, e_cmp, e_chn, e_and, e_or, e_not, e_one, e_ife, e_tup, e_lst, e_ix, e_sl, e_bi, e_app, e_ext, e_pop, a_nil, a_cons, o_nil, o_pt, b_and, b_or, b_not, b_tr, b_one, t_nil, t_cons, i_it, i_rng, i_enm, g_nm, g_ns, g_sub, g_tup, gs_nil, gs_cons, r_nil, r_cons, ap_d, ap_op, ap_un, ap_nil, ap_cons, ap_bi, vo_nil, vo_cons, ap_tru, ap_andB, ap_orB, ap_notB, ap_ife, ap_yes, gs_0, gs_1, gt_d, gns_d, gns_o, gnm_d, gnm_o, rw_0, rw_1, ap_par, sa_0, sa_t, sa_f, np, ap_pt, ap_sl, ap_lst, ap_tup, stab_0, stab_1, gB_ap, bl_ap, not_ap, neg_ap, ap_app, ap_apd, ap_and, ap_or, vM, vg_d, vg_o, sl_0, sl_c, so_v, so_d, sw_o, bk_n, bk_s, bg_o, fzM, fz_o, val_d, val_ow, val_v, vl_o, hand_d, hand_ow, hand_vw, gsub, s0_o, sg_o, appd, a0_o, ap_o, popd, pp_o, rt_d, rt_o, rt_v, r0_o, itd, it_l, it_f, it_t, end_, en_l, en_f, en_t, chn_ap, nv_d, nv_o, bind_ok', ok_ok, ok_bind, ok_guard, bin_add, bin_sub, ok_mul, ok_fdiv, ok_mod, ok_pow, ok_divmod, ok_ifi, ixn30, ixn31, ixn32, sl_fz, sl_ls, sl_tp, pm_0, pm_1, Option.bind_some, ex_nx, tg_1, tg_t, wi_0, wi_1, sz0, sz1, sz2, sz3, sz4, sz5, sz6, sz7, sz8, bi_comb, cmp_lt, cmp_le, cmp_gt, cmp_ge, cmp_eqi, cmp_nei, cmp_eqs, cmp_nes, cmp_eqb, cmp_neb, is_non, is_int, is_ob, isn_non, isn_int, isn_ob, tru_b, tru_i, bi_int, bi_abs, bi_gcd, bi_lenl, bi_lenf, bi_lent, bi_tupl, bi_tupf, bi_isint, bi_isbool, bi_istup, ofO_s, ix_l, ix_f, ix_t, at_0, at_1, at_2, List.getElem?_cons_succ, List.getElem?_cons_zero, List.set_cons_succ, List.set_cons_zero, List.length_cons, List.length_nil, List.map_nil, List.map_cons, List.append_nil, List.nil_append, List.cons_append, Int.reduceLT, Int.reduceLE, Nat.reduceAdd, Nat.reduceLT, Nat.reduceLeDiff, Nat.zero_add, Nat.zero_lt_succ, if_true, if_false, Bool.false_eq_true, Bool.not_true, Bool.not_false, ne_eq, not_false_eq_true, reduceCtorEq, Option.some.injEq, and_true, true_and, Nat.lt_add_one, Nat.succ_ne_self, Nat.reduceEqDiff, decide_true, decide_false, decide_eq_true_eq, fin_nx, fin_rd, fin_ro, outs_0, os_s, og_o, rep_s, rep_0, Nat.reduceSub, e_rev, rv_l, rv_f, rv_t, is_bb, isn_bb, is_bn, isn_bn, is_sn, isn_sn, e_fw, c1_w_pool, c2_w_pool, c3_w_pool, c1_w_take, c2_w_take, c3_w_take, c1_w_of, c2_w_of, c3_w_of, c1_w_frac, c2_w_frac, c3_w_frac, c1_is_whole, c2_is_whole, c3_is_whole, c1_is_between, c2_is_between, c3_is_between, c1_wrong_number, c2_wrong_number, c3_wrong_number, c1_is_row, c2_is_row, c3_is_row, c1_without_noughts, c2_without_noughts, c3_without_noughts, c1_are_numbers, c2_are_numbers, c3_are_numbers, c1_check_numbers, c2_check_numbers, c3_check_numbers, c1_is_less, c2_is_less, c3_is_less, c1_is_tuple_of, c2_is_tuple_of, c3_is_tuple_of, c1_is_number, c2_is_number, c3_is_number, c1_is_number_d1, c2_is_number_d1, c3_is_number_d1, c1_is_number_d2, c2_is_number_d2, c3_is_number_d2, c1_is_fraction, c2_is_fraction, c3_is_fraction, c1_is_small_fraction, c2_is_small_fraction, c3_is_small_fraction, c1_check_fraction, c2_check_fraction, c3_check_fraction, c1_lowest, c2_lowest, c3_lowest, c1_plus, c2_plus, c3_plus, c1_times, c2_times, c3_times, c1_worth_by, c2_worth_by, c3_worth_by, c1_worth_at, c2_worth_at, c3_worth_at, c1_w_right, c2_w_right, c3_w_right, c1_law, c2_law, c3_law, wrong_number_ok h hl]
  refine run_ife ?_
  simp only [e_call0, e_callk0, e_g0, e_lc, ap_callM, e_v, e_k, e_ty, e_neg, e_bin, e_cmp, e_chn, e_and, e_or, e_not, e_one, e_ife, e_tup, e_lst, e_ix, e_sl, e_bi, e_app, e_ext, e_pop, a_nil, a_cons, o_nil, o_pt, b_and, b_or, b_not, b_tr, b_one, t_nil, t_cons, i_it, i_rng, i_enm, g_nm, g_ns, g_sub, g_tup, gs_nil, gs_cons, r_nil, r_cons, ap_d, ap_op, ap_un, ap_nil, ap_cons, ap_bi, vo_nil, vo_cons, ap_tru, ap_andB, ap_orB, ap_notB, ap_ife, ap_yes, gs_0, gs_1, gt_d, gns_d, gns_o, gnm_d, gnm_o, rw_0, rw_1, ap_par, sa_0, sa_t, sa_f, np, ap_pt, ap_sl, ap_lst, ap_tup, stab_0, stab_1, gB_ap, bl_ap, not_ap, neg_ap, ap_app, ap_apd, ap_and, ap_or, vM, vg_d, vg_o, sl_0, sl_c, so_v, so_d, sw_o, bk_n, bk_s, bg_o, fzM, fz_o, val_d, val_ow, val_v, vl_o, hand_d, hand_ow, hand_vw, gsub, s0_o, sg_o, appd, a0_o, ap_o, popd, pp_o, rt_d, rt_o, rt_v, r0_o, itd, it_l, it_f, it_t, end_, en_l, en_f, en_t, chn_ap, nv_d, nv_o, bind_ok', ok_ok, ok_bind, ok_guard, bin_add, bin_sub, ok_mul, ok_fdiv, ok_mod, ok_pow, ok_divmod, ok_ifi, ixn30, ixn31, ixn32, sl_fz, sl_ls, sl_tp, pm_0, pm_1, Option.bind_some, ex_nx, tg_1, tg_t, wi_0, wi_1, sz0, sz1, sz2, sz3, sz4, sz5, sz6, sz7, sz8, bi_comb, cmp_lt, cmp_le, cmp_gt, cmp_ge, cmp_eqi, cmp_nei, cmp_eqs, cmp_nes, cmp_eqb, cmp_neb, is_non, is_int, is_ob, isn_non, isn_int, isn_ob, tru_b, tru_i, bi_int, bi_abs, bi_gcd, bi_lenl, bi_lenf, bi_lent, bi_tupl, bi_tupf, bi_isint, bi_isbool, bi_istup, ofO_s, ix_l, ix_f, ix_t, at_0, at_1, at_2, List.getElem?_cons_succ, List.getElem?_cons_zero, List.set_cons_succ, List.set_cons_zero, List.length_cons, List.length_nil, List.map_nil, List.map_cons, List.append_nil, List.nil_append, List.cons_append, Int.reduceLT, Int.reduceLE, Nat.reduceAdd, Nat.reduceLT, Nat.reduceLeDiff, Nat.zero_add, Nat.zero_lt_succ, if_true, if_false, Bool.false_eq_true, Bool.not_true, Bool.not_false, ne_eq, not_false_eq_true, reduceCtorEq, Option.some.injEq, and_true, true_and, Nat.lt_add_one, Nat.succ_ne_self, Nat.reduceEqDiff, decide_true, decide_false, decide_eq_true_eq, fin_nx, fin_rd, fin_ro, outs_0, os_s, og_o, rep_s, rep_0, Nat.reduceSub, e_rev, rv_l, rv_f, rv_t, is_bb, isn_bb, is_bn, isn_bn, is_sn, isn_sn, e_fw, c1_w_pool, c2_w_pool, c3_w_pool, c1_w_take, c2_w_take, c3_w_take, c1_w_of, c2_w_of, c3_w_of, c1_w_frac, c2_w_frac, c3_w_frac, c1_is_whole, c2_is_whole, c3_is_whole, c1_is_between, c2_is_between, c3_is_between, c1_wrong_number, c2_wrong_number, c3_wrong_number, c1_is_row, c2_is_row, c3_is_row, c1_without_noughts, c2_without_noughts, c3_without_noughts, c1_are_numbers, c2_are_numbers, c3_are_numbers, c1_check_numbers, c2_check_numbers, c3_check_numbers, c1_is_less, c2_is_less, c3_is_less, c1_is_tuple_of, c2_is_tuple_of, c3_is_tuple_of, c1_is_number, c2_is_number, c3_is_number, c1_is_number_d1, c2_is_number_d1, c3_is_number_d1, c1_is_number_d2, c2_is_number_d2, c3_is_number_d2, c1_is_fraction, c2_is_fraction, c3_is_fraction, c1_is_small_fraction, c2_is_small_fraction, c3_is_small_fraction, c1_check_fraction, c2_check_fraction, c3_check_fraction, c1_lowest, c2_lowest, c3_lowest, c1_plus, c2_plus, c3_plus, c1_times, c2_times, c3_times, c1_worth_by, c2_worth_by, c3_worth_by, c1_worth_at, c2_worth_at, c3_worth_at, c1_w_right, c2_w_right, c3_w_right, c1_law, c2_law, c3_law, are_numbers_ok h h0 hl ht]
  exact run_nxe (run_nx ⟨_, rfl, rfl⟩)
theorem is_number_1 {i : Int} (h : 1 ≤ i) : f_is_number [.st (.int i), .st (.int 1), .st .non] = .ok (.d (.bl true), [.un, .un, .un]) := by
  refine Ok.eq (fn_run rfl ?_)
  refine run_r ?_
  simp only [e_call0, e_callk0, e_g0, e_lc, ap_callM, e_v, e_k, e_ty, e_neg, e_bin, e_cmp, e_chn, e_and, e_or, e_not, e_one, e_ife, e_tup, e_lst, e_ix, e_sl, e_bi, e_app, e_ext, e_pop, a_nil, a_cons, o_nil, o_pt, b_and, b_or, b_not, b_tr, b_one, t_nil, t_cons, i_it, i_rng, i_enm, g_nm, g_ns, g_sub, g_tup, gs_nil, gs_cons, r_nil, r_cons, ap_d, ap_op, ap_un, ap_nil, ap_cons, ap_bi, vo_nil, vo_cons, ap_tru, ap_andB, ap_orB, ap_notB, ap_ife, ap_yes, gs_0, gs_1, gt_d, gns_d, gns_o, gnm_d, gnm_o, rw_0, rw_1, ap_par, sa_0, sa_t, sa_f, np, ap_pt, ap_sl, ap_lst, ap_tup, stab_0, stab_1, gB_ap, bl_ap, not_ap, neg_ap, ap_app, ap_apd, ap_and, ap_or, vM, vg_d, vg_o, sl_0, sl_c, so_v, so_d, sw_o, bk_n, bk_s, bg_o, fzM, fz_o, val_d, val_ow, val_v, vl_o, hand_d, hand_ow, hand_vw, gsub, s0_o, sg_o, appd, a0_o, ap_o, popd, pp_o, rt_d, rt_o, rt_v, r0_o, itd, it_l, it_f, it_t, end_, en_l, en_f, en_t, chn_ap, nv_d, nv_o, bind_ok', ok_ok, ok_bind, ok_guard, bin_add, bin_sub, ok_mul, ok_fdiv, ok_mod, ok_pow, ok_divmod, ok_ifi, ixn30, ixn31, ixn32, sl_fz, sl_ls, sl_tp, pm_0, pm_1, Option.bind_some, ex_nx, tg_1, tg_t, wi_0, wi_1, sz0, sz1, sz2, sz3, sz4, sz5, sz6, sz7, sz8, bi_comb, cmp_lt, cmp_le, cmp_gt, cmp_ge, cmp_eqi, cmp_nei, cmp_eqs, cmp_nes, cmp_eqb, cmp_neb, is_non, is_int, is_ob, isn_non, isn_int, isn_ob, tru_b, tru_i, bi_int, bi_abs, bi_gcd, bi_lenl, bi_lenf, bi_lent, bi_tupl, bi_tupf, bi_isint, bi_isbool, bi_istup, ofO_s, ix_l, ix_f, ix_t, at_0, at_1, at_2, List.getElem?_cons_succ, List.getElem?_cons_zero, List.set_cons_succ, List.set_cons_zero, List.length_cons, List.length_nil, List.map_nil, List.map_cons, List.append_nil, List.nil_append, List.cons_append, Int.reduceLT, Int.reduceLE, Nat.reduceAdd, Nat.reduceLT, Nat.reduceLeDiff, Nat.zero_add, Nat.zero_lt_succ, if_true, if_false, Bool.false_eq_true, Bool.not_true, Bool.not_false, ne_eq, not_false_eq_true, reduceCtorEq, Option.some.injEq, and_true, true_and, Nat.lt_add_one, Nat.succ_ne_self, Nat.reduceEqDiff, decide_true, decide_false, decide_eq_true_eq, fin_nx, fin_rd, fin_ro, outs_0, os_s, og_o, rep_s, rep_0, Nat.reduceSub, e_rev, rv_l, rv_f, rv_t, is_bb, isn_bb, is_bn, isn_bn, is_sn, isn_sn, e_fw, c1_w_pool, c2_w_pool, c3_w_pool, c1_w_take, c2_w_take, c3_w_take, c1_w_of, c2_w_of, c3_w_of, c1_w_frac, c2_w_frac, c3_w_frac, c1_is_whole, c2_is_whole, c3_is_whole, c1_is_between, c2_is_between, c3_is_between, c1_wrong_number, c2_wrong_number, c3_wrong_number, c1_is_row, c2_is_row, c3_is_row, c1_without_noughts, c2_without_noughts, c3_without_noughts, c1_are_numbers, c2_are_numbers, c3_are_numbers, c1_check_numbers, c2_check_numbers, c3_check_numbers, c1_is_less, c2_is_less, c3_is_less, c1_is_tuple_of, c2_is_tuple_of, c3_is_tuple_of, c1_is_number, c2_is_number, c3_is_number, c1_is_number_d1, c2_is_number_d1, c3_is_number_d1, c1_is_number_d2, c2_is_number_d2, c3_is_number_d2, c1_is_fraction, c2_is_fraction, c3_is_fraction, c1_is_small_fraction, c2_is_small_fraction, c3_is_small_fraction, c1_check_fraction, c2_check_fraction, c3_check_fraction, c1_lowest, c2_lowest, c3_lowest, c1_plus, c2_plus, c3_plus, c1_times, c2_times, c3_times, c1_worth_by, c2_worth_by, c3_worth_by, c1_worth_at, c2_worth_at, c3_worth_at, c1_w_right, c2_w_right, c3_w_right, c1_law, c2_law, c3_law, is_whole_i, h]
theorem is_tuple_2 {p q : D} : f_is_tuple_of [.st (.tup [p, q]), .st (.int 2)] = .ok (.d (.bl true), [.un, .un]) := by
  refine Ok.eq (fn_run rfl ?_)
  refine run_r ?_
  simp only [e_call0, e_callk0, e_g0, e_lc, ap_callM, e_v, e_k, e_ty, e_neg, e_bin, e_cmp, e_chn, e_and, e_or, e_not, e_one, e_ife, e_tup, e_lst, e_ix, e_sl, e_bi, e_app, e_ext, e_pop, a_nil, a_cons, o_nil, o_pt, b_and, b_or, b_not, b_tr, b_one, t_nil, t_cons, i_it, i_rng, i_enm, g_nm, g_ns, g_sub, g_tup, gs_nil, gs_cons, r_nil, r_cons, ap_d, ap_op, ap_un, ap_nil, ap_cons, ap_bi, vo_nil, vo_cons, ap_tru, ap_andB, ap_orB, ap_notB, ap_ife, ap_yes, gs_0, gs_1, gt_d, gns_d, gns_o, gnm_d, gnm_o, rw_0, rw_1, ap_par, sa_0, sa_t, sa_f, np, ap_pt, ap_sl, ap_lst, ap_tup, stab_0, stab_1, gB_ap, bl_ap, not_ap, neg_ap, ap_app, ap_apd, ap_and, ap_or, vM, vg_d, vg_o, sl_0, sl_c, so_v, so_d, sw_o, bk_n, bk_s, bg_o, fzM, fz_o, val_d, val_ow, val_v, vl_o, hand_d, hand_ow, hand_vw, gsub, s0_o, sg_o, appd, a0_o, ap_o, popd, pp_o, rt_d, rt_o, rt_v, r0_o, itd, it_l, it_f, it_t, end_, en_l, en_f, en_t, chn_ap, nv_d, nv_o, bind_ok', ok_ok, ok_bind, ok_guard, bin_add, bin_sub, ok_mul, ok_fdiv, ok_mod, ok_pow, ok_divmod, ok_ifi, ixn30, ixn31, ixn32, sl_fz, sl_ls, sl_tp, pm_0, pm_1, Option.bind_some, ex_nx, tg_1, tg_t, wi_0, wi_1, sz0, sz1, sz2, sz3, sz4, sz5, sz6, sz7, sz8, bi_comb, cmp_lt, cmp_le, cmp_gt, cmp_ge, cmp_eqi, cmp_nei, cmp_eqs, cmp_nes, cmp_eqb, cmp_neb, is_non, is_int, is_ob, isn_non, isn_int, isn_ob, tru_b, tru_i, bi_int, bi_abs, bi_gcd, bi_lenl, bi_lenf, bi_lent, bi_tupl, bi_tupf, bi_isint, bi_isbool, bi_istup, ofO_s, ix_l, ix_f, ix_t, at_0, at_1, at_2, List.getElem?_cons_succ, List.getElem?_cons_zero, List.set_cons_succ, List.set_cons_zero, List.length_cons, List.length_nil, List.map_nil, List.map_cons, List.append_nil, List.nil_append, List.cons_append, Int.reduceLT, Int.reduceLE, Nat.reduceAdd, Nat.reduceLT, Nat.reduceLeDiff, Nat.zero_add, Nat.zero_lt_succ, if_true, if_false, Bool.false_eq_true, Bool.not_true, Bool.not_false, ne_eq, not_false_eq_true, reduceCtorEq, Option.some.injEq, and_true, true_and, Nat.lt_add_one, Nat.succ_ne_self, Nat.reduceEqDiff, decide_true, decide_false, decide_eq_true_eq, fin_nx, fin_rd, fin_ro, outs_0, os_s, og_o, rep_s, rep_0, Nat.reduceSub, e_rev, rv_l, rv_f, rv_t, is_bb, isn_bb, is_bn, isn_bn, is_sn, isn_sn, e_fw, c1_w_pool, c2_w_pool, c3_w_pool, c1_w_take, c2_w_take, c3_w_take, c1_w_of, c2_w_of, c3_w_of, c1_w_frac, c2_w_frac, c3_w_frac, c1_is_whole, c2_is_whole, c3_is_whole, c1_is_between, c2_is_between, c3_is_between, c1_wrong_number, c2_wrong_number, c3_wrong_number, c1_is_row, c2_is_row, c3_is_row, c1_without_noughts, c2_without_noughts, c3_without_noughts, c1_are_numbers, c2_are_numbers, c3_are_numbers, c1_check_numbers, c2_check_numbers, c3_check_numbers, c1_is_less, c2_is_less, c3_is_less, c1_is_tuple_of, c2_is_tuple_of, c3_is_tuple_of, c1_is_number, c2_is_number, c3_is_number, c1_is_number_d1, c2_is_number_d1, c3_is_number_d1, c1_is_number_d2, c2_is_number_d2, c3_is_number_d2, c1_is_fraction, c2_is_fraction, c3_is_fraction, c1_is_small_fraction, c2_is_small_fraction, c3_is_small_fraction, c1_check_fraction, c2_check_fraction, c3_check_fraction, c1_lowest, c2_lowest, c3_lowest, c1_plus, c2_plus, c3_plus, c1_times, c2_times, c3_times, c1_worth_by, c2_worth_by, c3_worth_by, c1_worth_at, c2_worth_at, c3_worth_at, c1_w_right, c2_w_right, c3_w_right, c1_law, c2_law, c3_law]
  rfl
theorem is_fraction_ok {p q : Nat} (hg : Nat.gcd p q = 1) (hq : 1 ≤ q) : f_is_fraction [.st (.tup [.int (p : Nat), .int (q : Nat)])] = .ok (.d (.bl true), [.un]) := by
  refine Ok.eq (fn_run rfl ?_)
  refine run_ife ?_
  simp only [e_call0, e_callk0, e_g0, e_lc, ap_callM, e_v, e_k, e_ty, e_neg, e_bin, e_cmp, e_chn, e_and, e_or, e_not, e_one, e_ife, e_tup, e_lst, e_ix, e_sl, e_bi, e_app, e_ext, e_pop, a_nil, a_cons, o_nil, o_pt, b_and, b_or, b_not, b_tr, b_one, t_nil, t_cons, i_it, i_rng, i_enm, g_nm, g_ns, g_sub, g_tup, gs_nil, gs_cons, r_nil, r_cons, ap_d, ap_op, ap_un, ap_nil, ap_cons, ap_bi, vo_nil, vo_cons, ap_tru, ap_andB, ap_orB, ap_notB, ap_ife, ap_yes, gs_0, gs_1, gt_d, gns_d, gns_o, gnm_d, gnm_o, rw_0, rw_1, ap_par, sa_0, sa_t, sa_f, np, ap_pt, ap_sl, ap_lst, ap_tup, stab_0, stab_1, gB_ap, bl_ap, not_ap, neg_ap, ap_app, ap_apd, ap_and, ap_or, vM, vg_d, vg_o, sl_0, sl_c, so_v, so_d, sw_o, bk_n, bk_s, bg_o, fzM, fz_o, val_d, val_ow, val_v, vl_o, hand_d, hand_ow, hand_vw, gsub, s0_o, sg_o, appd, a0_o, ap_o, popd, pp_o, rt_d, rt_o, rt_v, r0_o, itd, it_l, it_f, it_t, end_, en_l, en_f, en_t, chn_ap, nv_d, nv_o, bind_ok', ok_ok, ok_bind, ok_guard, bin_add, bin_sub, ok_mul, ok_fdiv, ok_mod, ok_pow, ok_divmod, ok_ifi, ixn30, ixn31, ixn32, sl_fz, sl_ls, sl_tp, pm_0, pm_1, Option.bind_some, ex_nx, tg_1, tg_t, wi_0, wi_1, sz0, sz1, sz2, sz3, sz4, sz5, sz6, sz7, sz8, bi_comb, cmp_lt, cmp_le, cmp_gt, cmp_ge, cmp_eqi, cmp_nei, cmp_eqs, cmp_nes, cmp_eqb, cmp_neb, is_non, is_int, is_ob, isn_non, isn_int, isn_ob, tru_b, tru_i, bi_int, bi_abs, bi_gcd, bi_lenl, bi_lenf, bi_lent, bi_tupl, bi_tupf, bi_isint, bi_isbool, bi_istup, ofO_s, ix_l, ix_f, ix_t, at_0, at_1, at_2, List.getElem?_cons_succ, List.getElem?_cons_zero, List.set_cons_succ, List.set_cons_zero, List.length_cons, List.length_nil, List.map_nil, List.map_cons, List.append_nil, List.nil_append, List.cons_append, Int.reduceLT, Int.reduceLE, Nat.reduceAdd, Nat.reduceLT, Nat.reduceLeDiff, Nat.zero_add, Nat.zero_lt_succ, if_true, if_false, Bool.false_eq_true, Bool.not_true, Bool.not_false, ne_eq, not_false_eq_true, reduceCtorEq, Option.some.injEq, and_true, true_and, Nat.lt_add_one, Nat.succ_ne_self, Nat.reduceEqDiff, decide_true, decide_false, decide_eq_true_eq, fin_nx, fin_rd, fin_ro, outs_0, os_s, og_o, rep_s, rep_0, Nat.reduceSub, e_rev, rv_l, rv_f, rv_t, is_bb, isn_bb, is_bn, isn_bn, is_sn, isn_sn, e_fw, c1_w_pool, c2_w_pool, c3_w_pool, c1_w_take, c2_w_take, c3_w_take, c1_w_of, c2_w_of, c3_w_of, c1_w_frac, c2_w_frac, c3_w_frac, c1_is_whole, c2_is_whole, c3_is_whole, c1_is_between, c2_is_between, c3_is_between, c1_wrong_number, c2_wrong_number, c3_wrong_number, c1_is_row, c2_is_row, c3_is_row, c1_without_noughts, c2_without_noughts, c3_without_noughts, c1_are_numbers, c2_are_numbers, c3_are_numbers, c1_check_numbers, c2_check_numbers, c3_check_numbers, c1_is_less, c2_is_less, c3_is_less, c1_is_tuple_of, c2_is_tuple_of, c3_is_tuple_of, c1_is_number, c2_is_number, c3_is_number, c1_is_number_d1, c2_is_number_d1, c3_is_number_d1, c1_is_number_d2, c2_is_number_d2, c3_is_number_d2, c1_is_fraction, c2_is_fraction, c3_is_fraction, c1_is_small_fraction, c2_is_small_fraction, c3_is_small_fraction, c1_check_fraction, c2_check_fraction, c3_check_fraction, c1_lowest, c2_lowest, c3_lowest, c1_plus, c2_plus, c3_plus, c1_times, c2_times, c3_times, c1_worth_by, c2_worth_by, c3_worth_by, c1_worth_at, c2_worth_at, c3_worth_at, c1_w_right, c2_w_right, c3_w_right, c1_law, c2_law, c3_law, is_tuple_2, is_whole_i, is_number_1 (show 1 ≤ (q : Int) by omega)]
  refine run_nxe ?_
  refine run_r ?_
  simp only [e_call0, e_callk0, e_g0, e_lc, ap_callM, e_v, e_k, e_ty, e_neg, e_bin, e_cmp, e_chn, e_and, e_or, e_not, e_one, e_ife, e_tup, e_lst, e_ix, e_sl, e_bi, e_app, e_ext, e_pop, a_nil, a_cons, o_nil, o_pt, b_and, b_or, b_not, b_tr, b_one, t_nil, t_cons, i_it, i_rng, i_enm, g_nm, g_ns, g_sub, g_tup, gs_nil, gs_cons, r_nil, r_cons, ap_d, ap_op, ap_un, ap_nil, ap_cons, ap_bi, vo_nil, vo_cons, ap_tru, ap_andB, ap_orB, ap_notB, ap_ife, ap_yes, gs_0, gs_1, gt_d, gns_d, gns_o, gnm_d, gnm_o, rw_0, rw_1, ap_par, sa_0, sa_t, sa_f, np, ap_pt, ap_sl, ap_lst, ap_tup, stab_0, stab_1, gB_ap, bl_ap, not_ap, neg_ap, ap_app, ap_apd, ap_and, ap_or, vM, vg_d, vg_o, sl_0, sl_c, so_v, so_d, sw_o, bk_n, bk_s, bg_o, fzM, fz_o, val_d, val_ow, val_v, vl_o, hand_d, hand_ow, hand_vw, gsub, s0_o, sg_o, appd, a0_o, ap_o, popd, pp_o, rt_d, rt_o, rt_v, r0_o, itd, it_l, it_f, it_t, end_, en_l, en_f, en_t, chn_ap, nv_d, nv_o, bind_ok', ok_ok, ok_bind, ok_guard, bin_add, bin_sub, ok_mul, ok_fdiv, ok_mod, ok_pow, ok_divmod, ok_ifi, ixn30, ixn31, ixn32, sl_fz, sl_ls, sl_tp, pm_0, pm_1, Option.bind_some, ex_nx, tg_1, tg_t, wi_0, wi_1, sz0, sz1, sz2, sz3, sz4, sz5, sz6, sz7, sz8, bi_comb, cmp_lt, cmp_le, cmp_gt, cmp_ge, cmp_eqi, cmp_nei, cmp_eqs, cmp_nes, cmp_eqb, cmp_neb, is_non, is_int, is_ob, isn_non, isn_int, isn_ob, tru_b, tru_i, bi_int, bi_abs, bi_gcd, bi_lenl, bi_lenf, bi_lent, bi_tupl, bi_tupf, bi_isint, bi_isbool, bi_istup, ofO_s, ix_l, ix_f, ix_t, at_0, at_1, at_2, List.getElem?_cons_succ, List.getElem?_cons_zero, List.set_cons_succ, List.set_cons_zero, List.length_cons, List.length_nil, List.map_nil, List.map_cons, List.append_nil, List.nil_append, List.cons_append, Int.reduceLT, Int.reduceLE, Nat.reduceAdd, Nat.reduceLT, Nat.reduceLeDiff, Nat.zero_add, Nat.zero_lt_succ, if_true, if_false, Bool.false_eq_true, Bool.not_true, Bool.not_false, ne_eq, not_false_eq_true, reduceCtorEq, Option.some.injEq, and_true, true_and, Nat.lt_add_one, Nat.succ_ne_self, Nat.reduceEqDiff, decide_true, decide_false, decide_eq_true_eq, fin_nx, fin_rd, fin_ro, outs_0, os_s, og_o, rep_s, rep_0, Nat.reduceSub, e_rev, rv_l, rv_f, rv_t, is_bb, isn_bb, is_bn, isn_bn, is_sn, isn_sn, e_fw, c1_w_pool, c2_w_pool, c3_w_pool, c1_w_take, c2_w_take, c3_w_take, c1_w_of, c2_w_of, c3_w_of, c1_w_frac, c2_w_frac, c3_w_frac, c1_is_whole, c2_is_whole, c3_is_whole, c1_is_between, c2_is_between, c3_is_between, c1_wrong_number, c2_wrong_number, c3_wrong_number, c1_is_row, c2_is_row, c3_is_row, c1_without_noughts, c2_without_noughts, c3_without_noughts, c1_are_numbers, c2_are_numbers, c3_are_numbers, c1_check_numbers, c2_check_numbers, c3_check_numbers, c1_is_less, c2_is_less, c3_is_less, c1_is_tuple_of, c2_is_tuple_of, c3_is_tuple_of, c1_is_number, c2_is_number, c3_is_number, c1_is_number_d1, c2_is_number_d1, c3_is_number_d1, c1_is_number_d2, c2_is_number_d2, c3_is_number_d2, c1_is_fraction, c2_is_fraction, c3_is_fraction, c1_is_small_fraction, c2_is_small_fraction, c3_is_small_fraction, c1_check_fraction, c2_check_fraction, c3_check_fraction, c1_lowest, c2_lowest, c3_lowest, c1_plus, c2_plus, c3_plus, c1_times, c2_times, c3_times, c1_worth_by, c2_worth_by, c3_worth_by, c1_worth_at, c2_worth_at, c3_worth_at, c1_w_right, c2_w_right, c3_w_right, c1_law, c2_law, c3_law, Int.natAbs_natCast, hg]
  rfl
theorem is_less_ok {a b c d : Int} (h1 : a.natAbs < 10 ^ 30) (h2 : b.natAbs < 10 ^ 30) (h3 : c.natAbs < 10 ^ 30) (h4 : d.natAbs < 10 ^ 30) : f_is_less [.st (.tup [.int a, .int b]), .st (.tup [.int c, .int d])] = .ok (.d (.bl (decide (a * d < c * b))), [.un, .un]) := by
  refine Ok.eq (fn_run rfl ?_)
  refine run_r ?_
  simp only [e_call0, e_callk0, e_g0, e_lc, ap_callM, e_v, e_k, e_ty, e_neg, e_bin, e_cmp, e_chn, e_and, e_or, e_not, e_one, e_ife, e_tup, e_lst, e_ix, e_sl, e_bi, e_app, e_ext, e_pop, a_nil, a_cons, o_nil, o_pt, b_and, b_or, b_not, b_tr, b_one, t_nil, t_cons, i_it, i_rng, i_enm, g_nm, g_ns, g_sub, g_tup, gs_nil, gs_cons, r_nil, r_cons, ap_d, ap_op, ap_un, ap_nil, ap_cons, ap_bi, vo_nil, vo_cons, ap_tru, ap_andB, ap_orB, ap_notB, ap_ife, ap_yes, gs_0, gs_1, gt_d, gns_d, gns_o, gnm_d, gnm_o, rw_0, rw_1, ap_par, sa_0, sa_t, sa_f, np, ap_pt, ap_sl, ap_lst, ap_tup, stab_0, stab_1, gB_ap, bl_ap, not_ap, neg_ap, ap_app, ap_apd, ap_and, ap_or, vM, vg_d, vg_o, sl_0, sl_c, so_v, so_d, sw_o, bk_n, bk_s, bg_o, fzM, fz_o, val_d, val_ow, val_v, vl_o, hand_d, hand_ow, hand_vw, gsub, s0_o, sg_o, appd, a0_o, ap_o, popd, pp_o, rt_d, rt_o, rt_v, r0_o, itd, it_l, it_f, it_t, end_, en_l, en_f, en_t, chn_ap, nv_d, nv_o, bind_ok', ok_ok, ok_bind, ok_guard, bin_add, bin_sub, ok_mul, ok_fdiv, ok_mod, ok_pow, ok_divmod, ok_ifi, ixn30, ixn31, ixn32, sl_fz, sl_ls, sl_tp, pm_0, pm_1, Option.bind_some, ex_nx, tg_1, tg_t, wi_0, wi_1, sz0, sz1, sz2, sz3, sz4, sz5, sz6, sz7, sz8, bi_comb, cmp_lt, cmp_le, cmp_gt, cmp_ge, cmp_eqi, cmp_nei, cmp_eqs, cmp_nes, cmp_eqb, cmp_neb, is_non, is_int, is_ob, isn_non, isn_int, isn_ob, tru_b, tru_i, bi_int, bi_abs, bi_gcd, bi_lenl, bi_lenf, bi_lent, bi_tupl, bi_tupf, bi_isint, bi_isbool, bi_istup, ofO_s, ix_l, ix_f, ix_t, at_0, at_1, at_2, List.getElem?_cons_succ, List.getElem?_cons_zero, List.set_cons_succ, List.set_cons_zero, List.length_cons, List.length_nil, List.map_nil, List.map_cons, List.append_nil, List.nil_append, List.cons_append, Int.reduceLT, Int.reduceLE, Nat.reduceAdd, Nat.reduceLT, Nat.reduceLeDiff, Nat.zero_add, Nat.zero_lt_succ, if_true, if_false, Bool.false_eq_true, Bool.not_true, Bool.not_false, ne_eq, not_false_eq_true, reduceCtorEq, Option.some.injEq, and_true, true_and, Nat.lt_add_one, Nat.succ_ne_self, Nat.reduceEqDiff, decide_true, decide_false, decide_eq_true_eq, fin_nx, fin_rd, fin_ro, outs_0, os_s, og_o, rep_s, rep_0, Nat.reduceSub, e_rev, rv_l, rv_f, rv_t, is_bb, isn_bb, is_bn, isn_bn, is_sn, isn_sn, e_fw, c1_w_pool, c2_w_pool, c3_w_pool, c1_w_take, c2_w_take, c3_w_take, c1_w_of, c2_w_of, c3_w_of, c1_w_frac, c2_w_frac, c3_w_frac, c1_is_whole, c2_is_whole, c3_is_whole, c1_is_between, c2_is_between, c3_is_between, c1_wrong_number, c2_wrong_number, c3_wrong_number, c1_is_row, c2_is_row, c3_is_row, c1_without_noughts, c2_without_noughts, c3_without_noughts, c1_are_numbers, c2_are_numbers, c3_are_numbers, c1_check_numbers, c2_check_numbers, c3_check_numbers, c1_is_less, c2_is_less, c3_is_less, c1_is_tuple_of, c2_is_tuple_of, c3_is_tuple_of, c1_is_number, c2_is_number, c3_is_number, c1_is_number_d1, c2_is_number_d1, c3_is_number_d1, c1_is_number_d2, c2_is_number_d2, c3_is_number_d2, c1_is_fraction, c2_is_fraction, c3_is_fraction, c1_is_small_fraction, c2_is_small_fraction, c3_is_small_fraction, c1_check_fraction, c2_check_fraction, c3_check_fraction, c1_lowest, c2_lowest, c3_lowest, c1_plus, c2_plus, c3_plus, c1_times, c2_times, c3_times, c1_worth_by, c2_worth_by, c3_worth_by, c1_worth_at, c2_worth_at, c3_worth_at, c1_w_right, c2_w_right, c3_w_right, c1_law, c2_law, c3_law]
  exact ⟨⟨big_lt h1, big_lt h4⟩, big_lt h3, big_lt h2⟩
theorem is_small_ok {p q : Nat} (hg : Nat.gcd p q = 1) (hq : 1 ≤ q) (hp : p ≤ q) (h9 : q ≤ 999) : f_is_small_fraction [.st (.tup [.int (p : Nat), .int (q : Nat)])] = .ok (.d (.bl true), [.un]) := by
  have l1 : decide ((p : Int) * 1 < 0 * (q : Int)) = false := decide_eq_false (by omega)
  have l2 : decide ((1 : Int) * (q : Int) < (p : Int) * 1) = false := decide_eq_false (by omega)
  refine Ok.eq (fn_run rfl ?_)
  refine run_ife ?_
  simp only [e_call0, e_callk0, e_g0, e_lc, ap_callM, e_v, e_k, e_ty, e_neg, e_bin, e_cmp, e_chn, e_and, e_or, e_not, e_one, e_ife, e_tup, e_lst, e_ix, e_sl, e_bi, e_app, e_ext, e_pop, a_nil, a_cons, o_nil, o_pt, b_and, b_or, b_not, b_tr, b_one, t_nil, t_cons, i_it, i_rng, i_enm, g_nm, g_ns, g_sub, g_tup, gs_nil, gs_cons, r_nil, r_cons, ap_d, ap_op, ap_un, ap_nil, ap_cons, ap_bi, vo_nil, vo_cons, ap_tru, ap_andB, ap_orB, ap_notB, ap_ife, ap_yes, gs_0, gs_1, gt_d, gns_d, gns_o, gnm_d, gnm_o, rw_0, rw_1, ap_par, sa_0, sa_t, sa_f, np, ap_pt, ap_sl, ap_lst, ap_tup, stab_0, stab_1, gB_ap, bl_ap, not_ap, neg_ap, ap_app, ap_apd, ap_and, ap_or, vM, vg_d, vg_o, sl_0, sl_c, so_v, so_d, sw_o, bk_n, bk_s, bg_o, fzM, fz_o, val_d, val_ow, val_v, vl_o, hand_d, hand_ow, hand_vw, gsub, s0_o, sg_o, appd, a0_o, ap_o, popd, pp_o, rt_d, rt_o, rt_v, r0_o, itd, it_l, it_f, it_t, end_, en_l, en_f, en_t, chn_ap, nv_d, nv_o, bind_ok', ok_ok, ok_bind, ok_guard, bin_add, bin_sub, ok_mul, ok_fdiv, ok_mod, ok_pow, ok_divmod, ok_ifi, ixn30, ixn31, ixn32, sl_fz, sl_ls, sl_tp, pm_0, pm_1, Option.bind_some, ex_nx, tg_1, tg_t, wi_0, wi_1, sz0, sz1, sz2, sz3, sz4, sz5, sz6, sz7, sz8, bi_comb, cmp_lt, cmp_le, cmp_gt, cmp_ge, cmp_eqi, cmp_nei, cmp_eqs, cmp_nes, cmp_eqb, cmp_neb, is_non, is_int, is_ob, isn_non, isn_int, isn_ob, tru_b, tru_i, bi_int, bi_abs, bi_gcd, bi_lenl, bi_lenf, bi_lent, bi_tupl, bi_tupf, bi_isint, bi_isbool, bi_istup, ofO_s, ix_l, ix_f, ix_t, at_0, at_1, at_2, List.getElem?_cons_succ, List.getElem?_cons_zero, List.set_cons_succ, List.set_cons_zero, List.length_cons, List.length_nil, List.map_nil, List.map_cons, List.append_nil, List.nil_append, List.cons_append, Int.reduceLT, Int.reduceLE, Nat.reduceAdd, Nat.reduceLT, Nat.reduceLeDiff, Nat.zero_add, Nat.zero_lt_succ, if_true, if_false, Bool.false_eq_true, Bool.not_true, Bool.not_false, ne_eq, not_false_eq_true, reduceCtorEq, Option.some.injEq, and_true, true_and, Nat.lt_add_one, Nat.succ_ne_self, Nat.reduceEqDiff, decide_true, decide_false, decide_eq_true_eq, fin_nx, fin_rd, fin_ro, outs_0, os_s, og_o, rep_s, rep_0, Nat.reduceSub, e_rev, rv_l, rv_f, rv_t, is_bb, isn_bb, is_bn, isn_bn, is_sn, isn_sn, e_fw, c1_w_pool, c2_w_pool, c3_w_pool, c1_w_take, c2_w_take, c3_w_take, c1_w_of, c2_w_of, c3_w_of, c1_w_frac, c2_w_frac, c3_w_frac, c1_is_whole, c2_is_whole, c3_is_whole, c1_is_between, c2_is_between, c3_is_between, c1_wrong_number, c2_wrong_number, c3_wrong_number, c1_is_row, c2_is_row, c3_is_row, c1_without_noughts, c2_without_noughts, c3_without_noughts, c1_are_numbers, c2_are_numbers, c3_are_numbers, c1_check_numbers, c2_check_numbers, c3_check_numbers, c1_is_less, c2_is_less, c3_is_less, c1_is_tuple_of, c2_is_tuple_of, c3_is_tuple_of, c1_is_number, c2_is_number, c3_is_number, c1_is_number_d1, c2_is_number_d1, c3_is_number_d1, c1_is_number_d2, c2_is_number_d2, c3_is_number_d2, c1_is_fraction, c2_is_fraction, c3_is_fraction, c1_is_small_fraction, c2_is_small_fraction, c3_is_small_fraction, c1_check_fraction, c2_check_fraction, c3_check_fraction, c1_lowest, c2_lowest, c3_lowest, c1_plus, c2_plus, c3_plus, c1_times, c2_times, c3_times, c1_worth_by, c2_worth_by, c3_worth_by, c1_worth_at, c2_worth_at, c3_worth_at, c1_w_right, c2_w_right, c3_w_right, c1_law, c2_law, c3_law, is_fraction_ok hg hq, is_less_ok (a := (p : Int)) (b := (q : Int)) (c := 0) (d := 1) (by omega) (by omega) (by omega) (by omega), is_less_ok (a := 1) (b := 1) (c := (p : Int)) (d := (q : Int)) (by omega) (by omega) (by omega) (by omega), l1, l2]
  refine run_nxe ?_
  refine run_r ?_
  have l3 : (q : Int) ≤ 999 := by omega
  simp only [e_call0, e_callk0, e_g0, e_lc, ap_callM, e_v, e_k, e_ty, e_neg, e_bin, e_cmp, e_chn, e_and, e_or, e_not, e_one, e_ife, e_tup, e_lst, e_ix, e_sl, e_bi, e_app, e_ext, e_pop, a_nil, a_cons, o_nil, o_pt, b_and, b_or, b_not, b_tr, b_one, t_nil, t_cons, i_it, i_rng, i_enm, g_nm, g_ns, g_sub, g_tup, gs_nil, gs_cons, r_nil, r_cons, ap_d, ap_op, ap_un, ap_nil, ap_cons, ap_bi, vo_nil, vo_cons, ap_tru, ap_andB, ap_orB, ap_notB, ap_ife, ap_yes, gs_0, gs_1, gt_d, gns_d, gns_o, gnm_d, gnm_o, rw_0, rw_1, ap_par, sa_0, sa_t, sa_f, np, ap_pt, ap_sl, ap_lst, ap_tup, stab_0, stab_1, gB_ap, bl_ap, not_ap, neg_ap, ap_app, ap_apd, ap_and, ap_or, vM, vg_d, vg_o, sl_0, sl_c, so_v, so_d, sw_o, bk_n, bk_s, bg_o, fzM, fz_o, val_d, val_ow, val_v, vl_o, hand_d, hand_ow, hand_vw, gsub, s0_o, sg_o, appd, a0_o, ap_o, popd, pp_o, rt_d, rt_o, rt_v, r0_o, itd, it_l, it_f, it_t, end_, en_l, en_f, en_t, chn_ap, nv_d, nv_o, bind_ok', ok_ok, ok_bind, ok_guard, bin_add, bin_sub, ok_mul, ok_fdiv, ok_mod, ok_pow, ok_divmod, ok_ifi, ixn30, ixn31, ixn32, sl_fz, sl_ls, sl_tp, pm_0, pm_1, Option.bind_some, ex_nx, tg_1, tg_t, wi_0, wi_1, sz0, sz1, sz2, sz3, sz4, sz5, sz6, sz7, sz8, bi_comb, cmp_lt, cmp_le, cmp_gt, cmp_ge, cmp_eqi, cmp_nei, cmp_eqs, cmp_nes, cmp_eqb, cmp_neb, is_non, is_int, is_ob, isn_non, isn_int, isn_ob, tru_b, tru_i, bi_int, bi_abs, bi_gcd, bi_lenl, bi_lenf, bi_lent, bi_tupl, bi_tupf, bi_isint, bi_isbool, bi_istup, ofO_s, ix_l, ix_f, ix_t, at_0, at_1, at_2, List.getElem?_cons_succ, List.getElem?_cons_zero, List.set_cons_succ, List.set_cons_zero, List.length_cons, List.length_nil, List.map_nil, List.map_cons, List.append_nil, List.nil_append, List.cons_append, Int.reduceLT, Int.reduceLE, Nat.reduceAdd, Nat.reduceLT, Nat.reduceLeDiff, Nat.zero_add, Nat.zero_lt_succ, if_true, if_false, Bool.false_eq_true, Bool.not_true, Bool.not_false, ne_eq, not_false_eq_true, reduceCtorEq, Option.some.injEq, and_true, true_and, Nat.lt_add_one, Nat.succ_ne_self, Nat.reduceEqDiff, decide_true, decide_false, decide_eq_true_eq, fin_nx, fin_rd, fin_ro, outs_0, os_s, og_o, rep_s, rep_0, Nat.reduceSub, e_rev, rv_l, rv_f, rv_t, is_bb, isn_bb, is_bn, isn_bn, is_sn, isn_sn, e_fw, c1_w_pool, c2_w_pool, c3_w_pool, c1_w_take, c2_w_take, c3_w_take, c1_w_of, c2_w_of, c3_w_of, c1_w_frac, c2_w_frac, c3_w_frac, c1_is_whole, c2_is_whole, c3_is_whole, c1_is_between, c2_is_between, c3_is_between, c1_wrong_number, c2_wrong_number, c3_wrong_number, c1_is_row, c2_is_row, c3_is_row, c1_without_noughts, c2_without_noughts, c3_without_noughts, c1_are_numbers, c2_are_numbers, c3_are_numbers, c1_check_numbers, c2_check_numbers, c3_check_numbers, c1_is_less, c2_is_less, c3_is_less, c1_is_tuple_of, c2_is_tuple_of, c3_is_tuple_of, c1_is_number, c2_is_number, c3_is_number, c1_is_number_d1, c2_is_number_d1, c3_is_number_d1, c1_is_number_d2, c2_is_number_d2, c3_is_number_d2, c1_is_fraction, c2_is_fraction, c3_is_fraction, c1_is_small_fraction, c2_is_small_fraction, c3_is_small_fraction, c1_check_fraction, c2_check_fraction, c3_check_fraction, c1_lowest, c2_lowest, c3_lowest, c1_plus, c2_plus, c3_plus, c1_times, c2_times, c3_times, c1_worth_by, c2_worth_by, c3_worth_by, c1_worth_at, c2_worth_at, c3_worth_at, c1_w_right, c2_w_right, c3_w_right, c1_law, c2_law, c3_law, l3]
theorem check_fraction_ok {p q : Nat} (hg : Nat.gcd p q = 1) (hq : 1 ≤ q) (hp : p ≤ q) (h9 : q ≤ 999) : f_check_fraction [.st (.tup [.int (p : Nat), .int (q : Nat)])] = .ok (.d .non, [.un]) := by
  refine Ok.eq (fn_run rfl ?_)
  refine run_ife ?_
  simp only [e_call0, e_callk0, e_g0, e_lc, ap_callM, e_v, e_k, e_ty, e_neg, e_bin, e_cmp, e_chn, e_and, e_or, e_not, e_one, e_ife, e_tup, e_lst, e_ix, e_sl, e_bi, e_app, e_ext, e_pop, a_nil, a_cons, o_nil, o_pt, b_and, b_or, b_not, b_tr, b_one, t_nil, t_cons, i_it, i_rng, i_enm, g_nm, g_ns, g_sub, g_tup, gs_nil, gs_cons, r_nil, r_cons, ap_d, ap_op, ap_un, ap_nil, ap_cons, ap_bi, vo_nil, vo_cons, ap_tru, ap_andB, ap_orB, ap_notB, ap_ife, ap_yes, gs_0, gs_1, gt_d, gns_d, gns_o, gnm_d, gnm_o, rw_0, rw_1, ap_par, sa_0, sa_t, sa_f, np, ap_pt, ap_sl, ap_lst, ap_tup, stab_0, stab_1, gB_ap, bl_ap, not_ap, neg_ap, ap_app, ap_apd, ap_and, ap_or, vM, vg_d, vg_o, sl_0, sl_c, so_v, so_d, sw_o, bk_n, bk_s, bg_o, fzM, fz_o, val_d, val_ow, val_v, vl_o, hand_d, hand_ow, hand_vw, gsub, s0_o, sg_o, appd, a0_o, ap_o, popd, pp_o, rt_d, rt_o, rt_v, r0_o, itd, it_l, it_f, it_t, end_, en_l, en_f, en_t, chn_ap, nv_d, nv_o, bind_ok', ok_ok, ok_bind, ok_guard, bin_add, bin_sub, ok_mul, ok_fdiv, ok_mod, ok_pow, ok_divmod, ok_ifi, ixn30, ixn31, ixn32, sl_fz, sl_ls, sl_tp, pm_0, pm_1, Option.bind_some, ex_nx, tg_1, tg_t, wi_0, wi_1, sz0, sz1, sz2, sz3, sz4, sz5, sz6, sz7, sz8, bi_comb, cmp_lt, cmp_le, cmp_gt, cmp_ge, cmp_eqi, cmp_nei, cmp_eqs, cmp_nes, cmp_eqb, cmp_neb, is_non, is_int, is_ob, isn_non, isn_int, isn_ob, tru_b, tru_i, bi_int, bi_abs, bi_gcd, bi_lenl, bi_lenf, bi_lent, bi_tupl, bi_tupf, bi_isint, bi_isbool, bi_istup, ofO_s, ix_l, ix_f, ix_t, at_0, at_1, at_2, List.getElem?_cons_succ, List.getElem?_cons_zero, List.set_cons_succ, List.set_cons_zero, List.length_cons, List.length_nil, List.map_nil, List.map_cons, List.append_nil, List.nil_append, List.cons_append, Int.reduceLT, Int.reduceLE, Nat.reduceAdd, Nat.reduceLT, Nat.reduceLeDiff, Nat.zero_add, Nat.zero_lt_succ, if_true, if_false, Bool.false_eq_true, Bool.not_true, Bool.not_false, ne_eq, not_false_eq_true, reduceCtorEq, Option.some.injEq, and_true, true_and, Nat.lt_add_one, Nat.succ_ne_self, Nat.reduceEqDiff, decide_true, decide_false, decide_eq_true_eq, fin_nx, fin_rd, fin_ro, outs_0, os_s, og_o, rep_s, rep_0, Nat.reduceSub, e_rev, rv_l, rv_f, rv_t, is_bb, isn_bb, is_bn, isn_bn, is_sn, isn_sn, e_fw, c1_w_pool, c2_w_pool, c3_w_pool, c1_w_take, c2_w_take, c3_w_take, c1_w_of, c2_w_of, c3_w_of, c1_w_frac, c2_w_frac, c3_w_frac, c1_is_whole, c2_is_whole, c3_is_whole, c1_is_between, c2_is_between, c3_is_between, c1_wrong_number, c2_wrong_number, c3_wrong_number, c1_is_row, c2_is_row, c3_is_row, c1_without_noughts, c2_without_noughts, c3_without_noughts, c1_are_numbers, c2_are_numbers, c3_are_numbers, c1_check_numbers, c2_check_numbers, c3_check_numbers, c1_is_less, c2_is_less, c3_is_less, c1_is_tuple_of, c2_is_tuple_of, c3_is_tuple_of, c1_is_number, c2_is_number, c3_is_number, c1_is_number_d1, c2_is_number_d1, c3_is_number_d1, c1_is_number_d2, c2_is_number_d2, c3_is_number_d2, c1_is_fraction, c2_is_fraction, c3_is_fraction, c1_is_small_fraction, c2_is_small_fraction, c3_is_small_fraction, c1_check_fraction, c2_check_fraction, c3_check_fraction, c1_lowest, c2_lowest, c3_lowest, c1_plus, c2_plus, c3_plus, c1_times, c2_times, c3_times, c1_worth_by, c2_worth_by, c3_worth_by, c1_worth_at, c2_worth_at, c3_worth_at, c1_w_right, c2_w_right, c3_w_right, c1_law, c2_law, c3_law, is_small_ok hg hq hp h9]
  exact run_nxe (run_nx ⟨_, rfl, rfl⟩)
/-! the worth at a bend -/
def wst (p q : Nat) (s : Int × Nat) (n : Int) : Int × Nat := (s.1 * p + n * s.2 * q, s.2 * q)
def wof (p q : Nat) (l : List Int) : Int × Nat := l.foldl (wst p q) (0, 1)
theorem wof_snoc {p q : Nat} {l : List Int} {n : Int} : wof p q (l ++ [n]) = wst p q (wof p q l) n := by
  unfold wof
  rw [List.foldl_append]
  rfl
theorem wof_b {p q : Nat} (hp : p ≤ 999) (hq : 1 ≤ q) (hq2 : q ≤ 999) : ∀ l : List Int, (∀ n ∈ l, n.natAbs ≤ 9999) → (wof p q l).1.natAbs ≤ 10000 * l.length * 1000 ^ l.length ∧ 1 ≤ (wof p q l).2 ∧ (wof p q l).2 ≤ 1000 ^ l.length := by
  have go : ∀ (k : Nat) (l : List Int), l.length = k → (∀ n ∈ l, n.natAbs ≤ 9999) → (wof p q l).1.natAbs ≤ 10000 * k * 1000 ^ k ∧ 1 ≤ (wof p q l).2 ∧ (wof p q l).2 ≤ 1000 ^ k := by
    intro k
    induction k with
    | zero =>
      intro l hl _
      rw [List.eq_nil_of_length_eq_zero hl]
      exact ⟨Nat.zero_le _, Nat.le_refl _, Nat.le_refl _⟩
    | succ k ih =>
      intro l hl hn
      obtain ⟨l2, n, rfl⟩ : ∃ l2 n, l = l2 ++ [n] := by
        have hne : l ≠ [] := by intro z; rw [z] at hl; cases hl
        exact ⟨l.dropLast, l.getLast hne, (List.dropLast_concat_getLast hne).symm⟩
      have hl2 : l2.length = k := by rw [List.length_append] at hl; simp at hl; exact hl
      obtain ⟨h1, h2, h3⟩ := ih l2 hl2 fun n hn' => hn n (List.mem_append_left _ hn')
      have n9 := hn n (by simp)
      rw [wof_snoc]
      generalize wof p q l2 = s at h1 h2 h3
      obtain ⟨t, u⟩ := s
      simp only at h1 h2 h3
      unfold wst
      simp only
      have e1 : 1000 ^ (k + 1) = 1000 ^ k * 1000 := Nat.pow_succ _ _
      have a1 : (t * p).natAbs ≤ 10000 * k * 1000 ^ k * 1000 := by
        rw [Int.natAbs_mul, Int.natAbs_natCast]
        exact Nat.mul_le_mul h1 (by omega)
      have a2 : (n * u * q).natAbs ≤ 10000 * 1000 ^ k * 1000 := by
        rw [Int.natAbs_mul, Int.natAbs_mul, Int.natAbs_natCast, Int.natAbs_natCast]
        exact Nat.mul_le_mul (Nat.mul_le_mul (by omega) h3) (by omega)
      refine ⟨?_, Nat.mul_pos h2 hq, ?_⟩
      · refine Nat.le_trans (Int.natAbs_add_le _ _) (Nat.le_trans (Nat.add_le_add a1 a2) ?_)
        rw [e1, Nat.mul_assoc (10000 * k), ← Nat.mul_assoc (10000 * (k + 1)), Nat.mul_assoc 10000 (1000 ^ k), Nat.mul_add 10000 k 1]
        rw [Nat.mul_assoc (10000 * k + 10000 * 1), Nat.add_mul]
        omega
      · rw [e1]; exact Nat.mul_le_mul h3 (by omega)
  exact fun l h => go l.length l rfl h
theorem wof_big {p q : Nat} (hp : p ≤ 999) (hq : 1 ≤ q) (hq2 : q ≤ 999) {l : List Int} (h : ∀ n ∈ l, n.natAbs ≤ 9999) (hl : l.length ≤ 10) : (wof p q l).1.natAbs ≤ 10 ^ 35 ∧ 1 ≤ (wof p q l).2 ∧ (wof p q l).2 ≤ 10 ^ 30 := by
  obtain ⟨h1, h2, h3⟩ := wof_b hp hq hq2 l h
  have e : 1000 ^ l.length ≤ 10 ^ 30 := Nat.le_trans (Nat.pow_le_pow_right (by decide) hl) (by decide)
  refine ⟨Nat.le_trans h1 (Nat.le_trans (Nat.mul_le_mul (show 10000 * l.length ≤ 100000 by omega) e) (by decide)), h2, Nat.le_trans h3 e⟩
theorem worth_by_ok {p q : Nat} {l : List Int} (hp : p ≤ 999) (hq : 1 ≤ q) (hq2 : q ≤ 999) (h : ∀ n ∈ l, n.natAbs ≤ 9999) (hl : l.length ≤ 10) :
    f_worth_by [.st (.tup (l.map .int)), .st (.tup [.int (p : Nat), .int (q : Nat)])] = .ok (.d (fracI (wof p q l.reverse).1 (wof p q l.reverse).2), [.un, .un]) := by
  have tb : (10 : Nat) ^ 40 ≤ 10 ^ 500 := Nat.pow_le_pow_right (by decide) (by decide)
  have tb2 : (10 : Nat) ^ 40 ≤ 10 ^ 1000 := Nat.pow_le_pow_right (by decide) (by decide)
  refine Ok.eq (fn_run rfl ?_)
  refine run_asg ?_
  simp only [e_call0, e_callk0, e_g0, e_lc, ap_callM, e_v, e_k, e_ty, e_neg, e_bin, e_cmp, e_chn, e_and, e_or, e_not, e_one, e_ife, e_tup, e_lst, e_ix, e_sl, e_bi, e_app, e_ext, e_pop, a_nil, a_cons, o_nil, o_pt, b_and, b_or, b_not, b_tr, b_one, t_nil, t_cons, i_it, i_rng, i_enm, g_nm, g_ns, g_sub, g_tup, gs_nil, gs_cons, r_nil, r_cons, ap_d, ap_op, ap_un, ap_nil, ap_cons, ap_bi, vo_nil, vo_cons, ap_tru, ap_andB, ap_orB, ap_notB, ap_ife, ap_yes, gs_0, gs_1, gt_d, gns_d, gns_o, gnm_d, gnm_o, rw_0, rw_1, ap_par, sa_0, sa_t, sa_f, np, ap_pt, ap_sl, ap_lst, ap_tup, stab_0, stab_1, gB_ap, bl_ap, not_ap, neg_ap, ap_app, ap_apd, ap_and, ap_or, vM, vg_d, vg_o, sl_0, sl_c, so_v, so_d, sw_o, bk_n, bk_s, bg_o, fzM, fz_o, val_d, val_ow, val_v, vl_o, hand_d, hand_ow, hand_vw, gsub, s0_o, sg_o, appd, a0_o, ap_o, popd, pp_o, rt_d, rt_o, rt_v, r0_o, itd, it_l, it_f, it_t, end_, en_l, en_f, en_t, chn_ap, nv_d, nv_o, bind_ok', ok_ok, ok_bind, ok_guard, bin_add, bin_sub, ok_mul, ok_fdiv, ok_mod, ok_pow, ok_divmod, ok_ifi, ixn30, ixn31, ixn32, sl_fz, sl_ls, sl_tp, pm_0, pm_1, Option.bind_some, ex_nx, tg_1, tg_t, wi_0, wi_1, sz0, sz1, sz2, sz3, sz4, sz5, sz6, sz7, sz8, bi_comb, cmp_lt, cmp_le, cmp_gt, cmp_ge, cmp_eqi, cmp_nei, cmp_eqs, cmp_nes, cmp_eqb, cmp_neb, is_non, is_int, is_ob, isn_non, isn_int, isn_ob, tru_b, tru_i, bi_int, bi_abs, bi_gcd, bi_lenl, bi_lenf, bi_lent, bi_tupl, bi_tupf, bi_isint, bi_isbool, bi_istup, ofO_s, ix_l, ix_f, ix_t, at_0, at_1, at_2, List.getElem?_cons_succ, List.getElem?_cons_zero, List.set_cons_succ, List.set_cons_zero, List.length_cons, List.length_nil, List.map_nil, List.map_cons, List.append_nil, List.nil_append, List.cons_append, Int.reduceLT, Int.reduceLE, Nat.reduceAdd, Nat.reduceLT, Nat.reduceLeDiff, Nat.zero_add, Nat.zero_lt_succ, if_true, if_false, Bool.false_eq_true, Bool.not_true, Bool.not_false, ne_eq, not_false_eq_true, reduceCtorEq, Option.some.injEq, and_true, true_and, Nat.lt_add_one, Nat.succ_ne_self, Nat.reduceEqDiff, decide_true, decide_false, decide_eq_true_eq, fin_nx, fin_rd, fin_ro, outs_0, os_s, og_o, rep_s, rep_0, Nat.reduceSub, e_rev, rv_l, rv_f, rv_t, is_bb, isn_bb, is_bn, isn_bn, is_sn, isn_sn, e_fw, c1_w_pool, c2_w_pool, c3_w_pool, c1_w_take, c2_w_take, c3_w_take, c1_w_of, c2_w_of, c3_w_of, c1_w_frac, c2_w_frac, c3_w_frac, c1_is_whole, c2_is_whole, c3_is_whole, c1_is_between, c2_is_between, c3_is_between, c1_wrong_number, c2_wrong_number, c3_wrong_number, c1_is_row, c2_is_row, c3_is_row, c1_without_noughts, c2_without_noughts, c3_without_noughts, c1_are_numbers, c2_are_numbers, c3_are_numbers, c1_check_numbers, c2_check_numbers, c3_check_numbers, c1_is_less, c2_is_less, c3_is_less, c1_is_tuple_of, c2_is_tuple_of, c3_is_tuple_of, c1_is_number, c2_is_number, c3_is_number, c1_is_number_d1, c2_is_number_d1, c3_is_number_d1, c1_is_number_d2, c2_is_number_d2, c3_is_number_d2, c1_is_fraction, c2_is_fraction, c3_is_fraction, c1_is_small_fraction, c2_is_small_fraction, c3_is_small_fraction, c1_check_fraction, c2_check_fraction, c3_check_fraction, c1_lowest, c2_lowest, c3_lowest, c1_plus, c2_plus, c3_plus, c1_times, c2_times, c3_times, c1_worth_by, c2_worth_by, c3_worth_by, c1_worth_at, c2_worth_at, c3_worth_at, c1_w_right, c2_w_right, c3_w_right, c1_law, c2_law, c3_law]
  refine run_frI (fun i ρ => ∃ x, ρ = [.st (.tup (l.map .int)), .st (.tup [.int (p : Nat), .int (q : Nat)]), .st (fracI (wof p q (l.reverse.take i)).1 (wof p q (l.reverse.take i)).2), x]) ?_
  have rv : (l.map D.int).reverse = l.reverse.map .int := (List.map_reverse).symm
  simp only [e_call0, e_callk0, e_g0, e_lc, ap_callM, e_v, e_k, e_ty, e_neg, e_bin, e_cmp, e_chn, e_and, e_or, e_not, e_one, e_ife, e_tup, e_lst, e_ix, e_sl, e_bi, e_app, e_ext, e_pop, a_nil, a_cons, o_nil, o_pt, b_and, b_or, b_not, b_tr, b_one, t_nil, t_cons, i_it, i_rng, i_enm, g_nm, g_ns, g_sub, g_tup, gs_nil, gs_cons, r_nil, r_cons, ap_d, ap_op, ap_un, ap_nil, ap_cons, ap_bi, vo_nil, vo_cons, ap_tru, ap_andB, ap_orB, ap_notB, ap_ife, ap_yes, gs_0, gs_1, gt_d, gns_d, gns_o, gnm_d, gnm_o, rw_0, rw_1, ap_par, sa_0, sa_t, sa_f, np, ap_pt, ap_sl, ap_lst, ap_tup, stab_0, stab_1, gB_ap, bl_ap, not_ap, neg_ap, ap_app, ap_apd, ap_and, ap_or, vM, vg_d, vg_o, sl_0, sl_c, so_v, so_d, sw_o, bk_n, bk_s, bg_o, fzM, fz_o, val_d, val_ow, val_v, vl_o, hand_d, hand_ow, hand_vw, gsub, s0_o, sg_o, appd, a0_o, ap_o, popd, pp_o, rt_d, rt_o, rt_v, r0_o, itd, it_l, it_f, it_t, end_, en_l, en_f, en_t, chn_ap, nv_d, nv_o, bind_ok', ok_ok, ok_bind, ok_guard, bin_add, bin_sub, ok_mul, ok_fdiv, ok_mod, ok_pow, ok_divmod, ok_ifi, ixn30, ixn31, ixn32, sl_fz, sl_ls, sl_tp, pm_0, pm_1, Option.bind_some, ex_nx, tg_1, tg_t, wi_0, wi_1, sz0, sz1, sz2, sz3, sz4, sz5, sz6, sz7, sz8, bi_comb, cmp_lt, cmp_le, cmp_gt, cmp_ge, cmp_eqi, cmp_nei, cmp_eqs, cmp_nes, cmp_eqb, cmp_neb, is_non, is_int, is_ob, isn_non, isn_int, isn_ob, tru_b, tru_i, bi_int, bi_abs, bi_gcd, bi_lenl, bi_lenf, bi_lent, bi_tupl, bi_tupf, bi_isint, bi_isbool, bi_istup, ofO_s, ix_l, ix_f, ix_t, at_0, at_1, at_2, List.getElem?_cons_succ, List.getElem?_cons_zero, List.set_cons_succ, List.set_cons_zero, List.length_cons, List.length_nil, List.map_nil, List.map_cons, List.append_nil, List.nil_append, List.cons_append, Int.reduceLT, Int.reduceLE, Nat.reduceAdd, Nat.reduceLT, Nat.reduceLeDiff, Nat.zero_add, Nat.zero_lt_succ, if_true, if_false, Bool.false_eq_true, Bool.not_true, Bool.not_false, ne_eq, not_false_eq_true, reduceCtorEq, Option.some.injEq, and_true, true_and, Nat.lt_add_one, Nat.succ_ne_self, Nat.reduceEqDiff, decide_true, decide_false, decide_eq_true_eq, fin_nx, fin_rd, fin_ro, outs_0, os_s, og_o, rep_s, rep_0, Nat.reduceSub, e_rev, rv_l, rv_f, rv_t, is_bb, isn_bb, is_bn, isn_bn, is_sn, isn_sn, e_fw, c1_w_pool, c2_w_pool, c3_w_pool, c1_w_take, c2_w_take, c3_w_take, c1_w_of, c2_w_of, c3_w_of, c1_w_frac, c2_w_frac, c3_w_frac, c1_is_whole, c2_is_whole, c3_is_whole, c1_is_between, c2_is_between, c3_is_between, c1_wrong_number, c2_wrong_number, c3_wrong_number, c1_is_row, c2_is_row, c3_is_row, c1_without_noughts, c2_without_noughts, c3_without_noughts, c1_are_numbers, c2_are_numbers, c3_are_numbers, c1_check_numbers, c2_check_numbers, c3_check_numbers, c1_is_less, c2_is_less, c3_is_less, c1_is_tuple_of, c2_is_tuple_of, c3_is_tuple_of, c1_is_number, c2_is_number, c3_is_number, c1_is_number_d1, c2_is_number_d1, c3_is_number_d1, c1_is_number_d2, c2_is_number_d2, c3_is_number_d2, c1_is_fraction, c2_is_fraction, c3_is_fraction, c1_is_small_fraction, c2_is_small_fraction, c3_is_small_fraction, c1_check_fraction, c2_check_fraction, c3_check_fraction, c1_lowest, c2_lowest, c3_lowest, c1_plus, c2_plus, c3_plus, c1_times, c2_times, c3_times, c1_worth_by, c2_worth_by, c3_worth_by, c1_worth_at, c2_worth_at, c3_worth_at, c1_w_right, c2_w_right, c3_w_right, c1_law, c2_law, c3_law, rv]
  refine ⟨⟨_, by rw [List.take_zero, show wof p q [] = (0, 1) from rfl, fi_zero]⟩, ?_, ?_⟩
  · rintro i d _ hd ⟨x, rfl⟩
    rw [List.getElem?_map] at hd
    cases hn : l.reverse[i]? with
    | none => rw [hn] at hd; cases hd
    | some n =>
      rw [hn] at hd
      cases hd
      have nm : n ∈ l := List.mem_reverse.mp (List.mem_of_getElem? hn)
      have n9 := h n nm
      have tk : l.reverse.take (i + 1) = l.reverse.take i ++ [n] := by rw [List.take_succ, hn]; rfl
      obtain ⟨b1, b2, b3⟩ := wof_big hp hq hq2 (l := l.reverse.take i) (fun n hn => h n (List.mem_reverse.mp (List.mem_of_mem_take hn))) (by rw [List.length_take, List.length_reverse]; omega)
      rw [tk, wof_snoc]
      generalize wof p q (l.reverse.take i) = s at b1 b2 b3 ⊢
      obtain ⟨t, u⟩ := s
      simp only at b1 b2 b3
      have hw : wst p q (t, u) n = (t * p + n * u * q, u * q) := rfl
      rw [hw]
      simp only [e_call0, e_callk0, e_g0, e_lc, ap_callM, e_v, e_k, e_ty, e_neg, e_bin, e_cmp, e_chn, e_and, e_or, e_not, e_one, e_ife, e_tup, e_lst, e_ix, e_sl, e_bi, e_app, e_ext, e_pop, a_nil, a_cons, o_nil, o_pt, b_and, b_or, b_not, b_tr, b_one, t_nil, t_cons, i_it, i_rng, i_enm, g_nm, g_ns, g_sub, g_tup, gs_nil, gs_cons, r_nil, r_cons, ap_d, ap_op, ap_un, ap_nil, ap_cons, ap_bi, vo_nil, vo_cons, ap_tru, ap_andB, ap_orB, ap_notB, ap_ife, ap_yes, gs_0, gs_1, gt_d, gns_d, gns_o, gnm_d, gnm_o, rw_0, rw_1, ap_par, sa_0, sa_t, sa_f, np, ap_pt, ap_sl, ap_lst, ap_tup, stab_0, stab_1, gB_ap, bl_ap, not_ap, neg_ap, ap_app, ap_apd, ap_and, ap_or, vM, vg_d, vg_o, sl_0, sl_c, so_v, so_d, sw_o, bk_n, bk_s, bg_o, fzM, fz_o, val_d, val_ow, val_v, vl_o, hand_d, hand_ow, hand_vw, gsub, s0_o, sg_o, appd, a0_o, ap_o, popd, pp_o, rt_d, rt_o, rt_v, r0_o, itd, it_l, it_f, it_t, end_, en_l, en_f, en_t, chn_ap, nv_d, nv_o, bind_ok', ok_ok, ok_bind, ok_guard, bin_add, bin_sub, ok_mul, ok_fdiv, ok_mod, ok_pow, ok_divmod, ok_ifi, ixn30, ixn31, ixn32, sl_fz, sl_ls, sl_tp, pm_0, pm_1, Option.bind_some, ex_nx, tg_1, tg_t, wi_0, wi_1, sz0, sz1, sz2, sz3, sz4, sz5, sz6, sz7, sz8, bi_comb, cmp_lt, cmp_le, cmp_gt, cmp_ge, cmp_eqi, cmp_nei, cmp_eqs, cmp_nes, cmp_eqb, cmp_neb, is_non, is_int, is_ob, isn_non, isn_int, isn_ob, tru_b, tru_i, bi_int, bi_abs, bi_gcd, bi_lenl, bi_lenf, bi_lent, bi_tupl, bi_tupf, bi_isint, bi_isbool, bi_istup, ofO_s, ix_l, ix_f, ix_t, at_0, at_1, at_2, List.getElem?_cons_succ, List.getElem?_cons_zero, List.set_cons_succ, List.set_cons_zero, List.length_cons, List.length_nil, List.map_nil, List.map_cons, List.append_nil, List.nil_append, List.cons_append, Int.reduceLT, Int.reduceLE, Nat.reduceAdd, Nat.reduceLT, Nat.reduceLeDiff, Nat.zero_add, Nat.zero_lt_succ, if_true, if_false, Bool.false_eq_true, Bool.not_true, Bool.not_false, ne_eq, not_false_eq_true, reduceCtorEq, Option.some.injEq, and_true, true_and, Nat.lt_add_one, Nat.succ_ne_self, Nat.reduceEqDiff, decide_true, decide_false, decide_eq_true_eq, fin_nx, fin_rd, fin_ro, outs_0, os_s, og_o, rep_s, rep_0, Nat.reduceSub, e_rev, rv_l, rv_f, rv_t, is_bb, isn_bb, is_bn, isn_bn, is_sn, isn_sn, e_fw, c1_w_pool, c2_w_pool, c3_w_pool, c1_w_take, c2_w_take, c3_w_take, c1_w_of, c2_w_of, c3_w_of, c1_w_frac, c2_w_frac, c3_w_frac, c1_is_whole, c2_is_whole, c3_is_whole, c1_is_between, c2_is_between, c3_is_between, c1_wrong_number, c2_wrong_number, c3_wrong_number, c1_is_row, c2_is_row, c3_is_row, c1_without_noughts, c2_without_noughts, c3_without_noughts, c1_are_numbers, c2_are_numbers, c3_are_numbers, c1_check_numbers, c2_check_numbers, c3_check_numbers, c1_is_less, c2_is_less, c3_is_less, c1_is_tuple_of, c2_is_tuple_of, c3_is_tuple_of, c1_is_number, c2_is_number, c3_is_number, c1_is_number_d1, c2_is_number_d1, c3_is_number_d1, c1_is_number_d2, c2_is_number_d2, c3_is_number_d2, c1_is_fraction, c2_is_fraction, c3_is_fraction, c1_is_small_fraction, c2_is_small_fraction, c3_is_small_fraction, c1_check_fraction, c2_check_fraction, c3_check_fraction, c1_lowest, c2_lowest, c3_lowest, c1_plus, c2_plus, c3_plus, c1_times, c2_times, c3_times, c1_worth_by, c2_worth_by, c3_worth_by, c1_worth_at, c2_worth_at, c3_worth_at, c1_w_right, c2_w_right, c3_w_right, c1_law, c2_law, c3_law]
      refine run_asg ?_
      have g0 : 0 < Nat.gcd t.natAbs u := Nat.gcd_pos_of_pos_right _ b2
      have ug : 0 < u / Nat.gcd t.natAbs u := Nat.div_pos (Nat.gcd_le_right _ b2) g0
      have ug2 : u / Nat.gcd t.natAbs u ≤ u := Nat.div_le_self _ _
      have tg2 := natAbs_div (a := t) (n := Nat.gcd t.natAbs u)
      have e1 : f_times [.st (fracI t u), .st (.tup [.int (p : Nat), .int (q : Nat)])] = .ok (.d (fracI (t * p) (u * q)), [.un, .un]) := by
        have := times_raw (x := t / (Nat.gcd t.natAbs u : Nat)) (y := u / Nat.gcd t.natAbs u) (z := (p : Nat)) (w := q) ug (by omega) (by omega) (by rw [Int.natAbs_natCast]; omega) (by omega) (by omega)
        rw [fi_mul b2] at this
        exact this
      have uq0 : 0 < u * q := Nat.mul_pos b2 hq
      have uq : u * q ≤ 10 ^ 33 := Nat.le_trans (Nat.mul_le_mul b3 (show q ≤ 10 ^ 3 by omega)) (by decide)
      have tp : (t * p).natAbs ≤ 10 ^ 38 := by
        rw [Int.natAbs_mul, Int.natAbs_natCast]
        exact Nat.le_trans (Nat.mul_le_mul b1 (show p ≤ 10 ^ 3 by omega)) (by decide)
      generalize t * (p : Int) = A at tp e1 ⊢
      have g1 : 0 < Nat.gcd A.natAbs (u * q) := Nat.gcd_pos_of_pos_right _ uq0
      have vg : 0 < (u * q) / Nat.gcd A.natAbs (u * q) := Nat.div_pos (Nat.gcd_le_right _ uq0) g1
      have vg2 : (u * q) / Nat.gcd A.natAbs (u * q) ≤ u * q := Nat.div_le_self _ _
      have ag2 := natAbs_div (a := A) (n := Nat.gcd A.natAbs (u * q))
      have e2 : f_plus [.st (fracI A (u * q)), .st (.tup [.int n, .int 1])] = .ok (.d (fracI (A + n * u * q) (u * q)), [.un, .un]) := by
        have := plus_raw (x := A / (Nat.gcd A.natAbs (u * q) : Nat)) (y := (u * q) / Nat.gcd A.natAbs (u * q)) (z := n) (w := 1) vg (by decide) (by omega) (by omega) (by omega) (by omega)
        rw [Nat.mul_one, Int.natCast_one, Int.mul_one, fi_add uq0, Int.natCast_mul, ← Int.mul_assoc] at this
        exact this
      simp only [e_call0, e_callk0, e_g0, e_lc, ap_callM, e_v, e_k, e_ty, e_neg, e_bin, e_cmp, e_chn, e_and, e_or, e_not, e_one, e_ife, e_tup, e_lst, e_ix, e_sl, e_bi, e_app, e_ext, e_pop, a_nil, a_cons, o_nil, o_pt, b_and, b_or, b_not, b_tr, b_one, t_nil, t_cons, i_it, i_rng, i_enm, g_nm, g_ns, g_sub, g_tup, gs_nil, gs_cons, r_nil, r_cons, ap_d, ap_op, ap_un, ap_nil, ap_cons, ap_bi, vo_nil, vo_cons, ap_tru, ap_andB, ap_orB, ap_notB, ap_ife, ap_yes, gs_0, gs_1, gt_d, gns_d, gns_o, gnm_d, gnm_o, rw_0, rw_1, ap_par, sa_0, sa_t, sa_f, np, ap_pt, ap_sl, ap_lst, ap_tup, stab_0, stab_1, gB_ap, bl_ap, not_ap, neg_ap, ap_app, ap_apd, ap_and, ap_or, vM, vg_d, vg_o, sl_0, sl_c, so_v, so_d, sw_o, bk_n, bk_s, bg_o, fzM, fz_o, val_d, val_ow, val_v, vl_o, hand_d, hand_ow, hand_vw, gsub, s0_o, sg_o, appd, a0_o, ap_o, popd, pp_o, rt_d, rt_o, rt_v, r0_o, itd, it_l, it_f, it_t, end_, en_l, en_f, en_t, chn_ap, nv_d, nv_o, bind_ok', ok_ok, ok_bind, ok_guard, bin_add, bin_sub, ok_mul, ok_fdiv, ok_mod, ok_pow, ok_divmod, ok_ifi, ixn30, ixn31, ixn32, sl_fz, sl_ls, sl_tp, pm_0, pm_1, Option.bind_some, ex_nx, tg_1, tg_t, wi_0, wi_1, sz0, sz1, sz2, sz3, sz4, sz5, sz6, sz7, sz8, bi_comb, cmp_lt, cmp_le, cmp_gt, cmp_ge, cmp_eqi, cmp_nei, cmp_eqs, cmp_nes, cmp_eqb, cmp_neb, is_non, is_int, is_ob, isn_non, isn_int, isn_ob, tru_b, tru_i, bi_int, bi_abs, bi_gcd, bi_lenl, bi_lenf, bi_lent, bi_tupl, bi_tupf, bi_isint, bi_isbool, bi_istup, ofO_s, ix_l, ix_f, ix_t, at_0, at_1, at_2, List.getElem?_cons_succ, List.getElem?_cons_zero, List.set_cons_succ, List.set_cons_zero, List.length_cons, List.length_nil, List.map_nil, List.map_cons, List.append_nil, List.nil_append, List.cons_append, Int.reduceLT, Int.reduceLE, Nat.reduceAdd, Nat.reduceLT, Nat.reduceLeDiff, Nat.zero_add, Nat.zero_lt_succ, if_true, if_false, Bool.false_eq_true, Bool.not_true, Bool.not_false, ne_eq, not_false_eq_true, reduceCtorEq, Option.some.injEq, and_true, true_and, Nat.lt_add_one, Nat.succ_ne_self, Nat.reduceEqDiff, decide_true, decide_false, decide_eq_true_eq, fin_nx, fin_rd, fin_ro, outs_0, os_s, og_o, rep_s, rep_0, Nat.reduceSub, e_rev, rv_l, rv_f, rv_t, is_bb, isn_bb, is_bn, isn_bn, is_sn, isn_sn, e_fw, c1_w_pool, c2_w_pool, c3_w_pool, c1_w_take, c2_w_take, c3_w_take, c1_w_of, c2_w_of, c3_w_of, c1_w_frac, c2_w_frac, c3_w_frac, c1_is_whole, c2_is_whole, c3_is_whole, c1_is_between, c2_is_between, c3_is_between, c1_wrong_number, c2_wrong_number, c3_wrong_number, c1_is_row, c2_is_row, c3_is_row, c1_without_noughts, c2_without_noughts, c3_without_noughts, c1_are_numbers, c2_are_numbers, c3_are_numbers, c1_check_numbers, c2_check_numbers, c3_check_numbers, c1_is_less, c2_is_less, c3_is_less, c1_is_tuple_of, c2_is_tuple_of, c3_is_tuple_of, c1_is_number, c2_is_number, c3_is_number, c1_is_number_d1, c2_is_number_d1, c3_is_number_d1, c1_is_number_d2, c2_is_number_d2, c3_is_number_d2, c1_is_fraction, c2_is_fraction, c3_is_fraction, c1_is_small_fraction, c2_is_small_fraction, c3_is_small_fraction, c1_check_fraction, c2_check_fraction, c3_check_fraction, c1_lowest, c2_lowest, c3_lowest, c1_plus, c2_plus, c3_plus, c1_times, c2_times, c3_times, c1_worth_by, c2_worth_by, c3_worth_by, c1_worth_at, c2_worth_at, c3_worth_at, c1_w_right, c2_w_right, c3_w_right, c1_law, c2_law, c3_law, e1, e2]
      exact run_nxe ⟨_, rfl⟩
  · rintro _ ⟨x, rfl⟩
    rw [List.length_map, List.take_length]
    refine run_r ?_
    simp only [e_call0, e_callk0, e_g0, e_lc, ap_callM, e_v, e_k, e_ty, e_neg, e_bin, e_cmp, e_chn, e_and, e_or, e_not, e_one, e_ife, e_tup, e_lst, e_ix, e_sl, e_bi, e_app, e_ext, e_pop, a_nil, a_cons, o_nil, o_pt, b_and, b_or, b_not, b_tr, b_one, t_nil, t_cons, i_it, i_rng, i_enm, g_nm, g_ns, g_sub, g_tup, gs_nil, gs_cons, r_nil, r_cons, ap_d, ap_op, ap_un, ap_nil, ap_cons, ap_bi, vo_nil, vo_cons, ap_tru, ap_andB, ap_orB, ap_notB, ap_ife, ap_yes, gs_0, gs_1, gt_d, gns_d, gns_o, gnm_d, gnm_o, rw_0, rw_1, ap_par, sa_0, sa_t, sa_f, np, ap_pt, ap_sl, ap_lst, ap_tup, stab_0, stab_1, gB_ap, bl_ap, not_ap, neg_ap, ap_app, ap_apd, ap_and, ap_or, vM, vg_d, vg_o, sl_0, sl_c, so_v, so_d, sw_o, bk_n, bk_s, bg_o, fzM, fz_o, val_d, val_ow, val_v, vl_o, hand_d, hand_ow, hand_vw, gsub, s0_o, sg_o, appd, a0_o, ap_o, popd, pp_o, rt_d, rt_o, rt_v, r0_o, itd, it_l, it_f, it_t, end_, en_l, en_f, en_t, chn_ap, nv_d, nv_o, bind_ok', ok_ok, ok_bind, ok_guard, bin_add, bin_sub, ok_mul, ok_fdiv, ok_mod, ok_pow, ok_divmod, ok_ifi, ixn30, ixn31, ixn32, sl_fz, sl_ls, sl_tp, pm_0, pm_1, Option.bind_some, ex_nx, tg_1, tg_t, wi_0, wi_1, sz0, sz1, sz2, sz3, sz4, sz5, sz6, sz7, sz8, bi_comb, cmp_lt, cmp_le, cmp_gt, cmp_ge, cmp_eqi, cmp_nei, cmp_eqs, cmp_nes, cmp_eqb, cmp_neb, is_non, is_int, is_ob, isn_non, isn_int, isn_ob, tru_b, tru_i, bi_int, bi_abs, bi_gcd, bi_lenl, bi_lenf, bi_lent, bi_tupl, bi_tupf, bi_isint, bi_isbool, bi_istup, ofO_s, ix_l, ix_f, ix_t, at_0, at_1, at_2, List.getElem?_cons_succ, List.getElem?_cons_zero, List.set_cons_succ, List.set_cons_zero, List.length_cons, List.length_nil, List.map_nil, List.map_cons, List.append_nil, List.nil_append, List.cons_append, Int.reduceLT, Int.reduceLE, Nat.reduceAdd, Nat.reduceLT, Nat.reduceLeDiff, Nat.zero_add, Nat.zero_lt_succ, if_true, if_false, Bool.false_eq_true, Bool.not_true, Bool.not_false, ne_eq, not_false_eq_true, reduceCtorEq, Option.some.injEq, and_true, true_and, Nat.lt_add_one, Nat.succ_ne_self, Nat.reduceEqDiff, decide_true, decide_false, decide_eq_true_eq, fin_nx, fin_rd, fin_ro, outs_0, os_s, og_o, rep_s, rep_0, Nat.reduceSub, e_rev, rv_l, rv_f, rv_t, is_bb, isn_bb, is_bn, isn_bn, is_sn, isn_sn, e_fw, c1_w_pool, c2_w_pool, c3_w_pool, c1_w_take, c2_w_take, c3_w_take, c1_w_of, c2_w_of, c3_w_of, c1_w_frac, c2_w_frac, c3_w_frac, c1_is_whole, c2_is_whole, c3_is_whole, c1_is_between, c2_is_between, c3_is_between, c1_wrong_number, c2_wrong_number, c3_wrong_number, c1_is_row, c2_is_row, c3_is_row, c1_without_noughts, c2_without_noughts, c3_without_noughts, c1_are_numbers, c2_are_numbers, c3_are_numbers, c1_check_numbers, c2_check_numbers, c3_check_numbers, c1_is_less, c2_is_less, c3_is_less, c1_is_tuple_of, c2_is_tuple_of, c3_is_tuple_of, c1_is_number, c2_is_number, c3_is_number, c1_is_number_d1, c2_is_number_d1, c3_is_number_d1, c1_is_number_d2, c2_is_number_d2, c3_is_number_d2, c1_is_fraction, c2_is_fraction, c3_is_fraction, c1_is_small_fraction, c2_is_small_fraction, c3_is_small_fraction, c1_check_fraction, c2_check_fraction, c3_check_fraction, c1_lowest, c2_lowest, c3_lowest, c1_plus, c2_plus, c3_plus, c1_times, c2_times, c3_times, c1_worth_by, c2_worth_by, c3_worth_by, c1_worth_at, c2_worth_at, c3_worth_at, c1_w_right, c2_w_right, c3_w_right, c1_law, c2_law, c3_law]
end Lw
set_option linter.all false
set_option maxRecDepth 1500
set_option maxHeartbeats 1000000
namespace Lw
open PySem PySem.Spec PyProof.Rows L2 Tp
theorem of_ok {a b c : Int} {l : List Int} (ha : 0 ≤ a) (hb : 0 ≤ b) (hb2 : b < 2147483399) (hc : 0 ≤ c) (hc2 : c < 1000000) (hl : 0 < l.length) (hl2 : l.length < 1000) : Ok (f_w_of [.ow .lst [.int a, .int b, .int c], .st (.ob .lst (l.map .int))]) fun y => ∃ x a' b' c', x ∈ l ∧ y = (.d (.int x), [.ow .lst [.int a', .int b', .int c'], .un]) ∧ 0 ≤ a' ∧ 0 ≤ b' ∧ b' < 2147483399 ∧ 0 ≤ c' ∧ c' ≤ c + 1 := by
  refine fn_run rfl ?_
  refine run_r ?_
  simp only [e_call0, e_callk0, e_g0, e_lc, ap_callM, e_v, e_k, e_ty, e_neg, e_bin, e_cmp, e_chn, e_and, e_or, e_not, e_one, e_ife, e_tup, e_lst, e_ix, e_sl, e_bi, e_app, e_ext, e_pop, a_nil, a_cons, o_nil, o_pt, b_and, b_or, b_not, b_tr, b_one, t_nil, t_cons, i_it, i_rng, i_enm, g_nm, g_ns, g_sub, g_tup, gs_nil, gs_cons, r_nil, r_cons, ap_d, ap_op, ap_un, ap_nil, ap_cons, ap_bi, vo_nil, vo_cons, ap_tru, ap_andB, ap_orB, ap_notB, ap_ife, ap_yes, gs_0, gs_1, gt_d, gns_d, gns_o, gnm_d, gnm_o, rw_0, rw_1, ap_par, sa_0, sa_t, sa_f, np, ap_pt, ap_sl, ap_lst, ap_tup, stab_0, stab_1, gB_ap, bl_ap, not_ap, neg_ap, ap_app, ap_apd, ap_and, ap_or, vM, vg_d, vg_o, sl_0, sl_c, so_v, so_d, sw_o, bk_n, bk_s, bg_o, fzM, fz_o, val_d, val_ow, val_v, vl_o, hand_d, hand_ow, hand_vw, gsub, s0_o, sg_o, appd, a0_o, ap_o, popd, pp_o, rt_d, rt_o, rt_v, r0_o, itd, it_l, it_f, it_t, end_, en_l, en_f, en_t, chn_ap, nv_d, nv_o, bind_ok', ok_ok, ok_bind, ok_guard, bin_add, bin_sub, ok_mul, ok_fdiv, ok_mod, ok_pow, ok_divmod, ok_ifi, ixn30, ixn31, ixn32, sl_fz, sl_ls, sl_tp, pm_0, pm_1, Option.bind_some, ex_nx, tg_1, tg_t, wi_0, wi_1, sz0, sz1, sz2, sz3, sz4, sz5, sz6, sz7, sz8, bi_comb, cmp_lt, cmp_le, cmp_gt, cmp_ge, cmp_eqi, cmp_nei, cmp_eqs, cmp_nes, cmp_eqb, cmp_neb, is_non, is_int, is_ob, isn_non, isn_int, isn_ob, tru_b, tru_i, bi_int, bi_abs, bi_gcd, bi_lenl, bi_lenf, bi_lent, bi_tupl, bi_tupf, bi_isint, bi_isbool, bi_istup, ofO_s, ix_l, ix_f, ix_t, at_0, at_1, at_2, List.getElem?_cons_succ, List.getElem?_cons_zero, List.set_cons_succ, List.set_cons_zero, List.length_cons, List.length_nil, List.map_nil, List.map_cons, List.append_nil, List.nil_append, List.cons_append, Int.reduceLT, Int.reduceLE, Nat.reduceAdd, Nat.reduceLT, Nat.reduceLeDiff, Nat.zero_add, Nat.zero_lt_succ, if_true, if_false, Bool.false_eq_true, Bool.not_true, Bool.not_false, ne_eq, not_false_eq_true, reduceCtorEq, Option.some.injEq, and_true, true_and, Nat.lt_add_one, Nat.succ_ne_self, Nat.reduceEqDiff, decide_true, decide_false, decide_eq_true_eq, fin_nx, fin_rd, fin_ro, outs_0, os_s, og_o, rep_s, rep_0, Nat.reduceSub, e_rev, rv_l, rv_f, rv_t, is_bb, isn_bb, is_bn, isn_bn, is_sn, isn_sn, e_fw, c1_w_pool, c2_w_pool, c3_w_pool, c1_w_take, c2_w_take, c3_w_take, c1_w_of, c2_w_of, c3_w_of, c1_w_frac, c2_w_frac, c3_w_frac, c1_is_whole, c2_is_whole, c3_is_whole, c1_is_between, c2_is_between, c3_is_between, c1_wrong_number, c2_wrong_number, c3_wrong_number, c1_is_row, c2_is_row, c3_is_row, c1_without_noughts, c2_without_noughts, c3_without_noughts, c1_are_numbers, c2_are_numbers, c3_are_numbers, c1_check_numbers, c2_check_numbers, c3_check_numbers, c1_is_less, c2_is_less, c3_is_less, c1_is_tuple_of, c2_is_tuple_of, c3_is_tuple_of, c1_is_number, c2_is_number, c3_is_number, c1_is_number_d1, c2_is_number_d1, c3_is_number_d1, c1_is_number_d2, c2_is_number_d2, c3_is_number_d2, c1_is_fraction, c2_is_fraction, c3_is_fraction, c1_is_small_fraction, c2_is_small_fraction, c3_is_small_fraction, c1_check_fraction, c2_check_fraction, c3_check_fraction, c1_lowest, c2_lowest, c3_lowest, c1_plus, c2_plus, c3_plus, c1_times, c2_times, c3_times, c1_worth_by, c2_worth_by, c3_worth_by, c1_worth_at, c2_worth_at, c3_worth_at, c1_w_right, c2_w_right, c3_w_right, c1_law, c2_law, c3_law, List.length_map]
  refine (take_ok ha hb hb2 hc hc2 (m := (l.length : Nat)) (by omega) (by omega)).mono ?_
  rintro _ ⟨d, a', b', c', rfl, d0, d1, h1, h2, h3, h4, h5⟩
  obtain ⟨j, rfl⟩ : ∃ j : Nat, d = (j : Int) := ⟨d.toNat, by omega⟩
  simp only [e_call0, e_callk0, e_g0, e_lc, ap_callM, e_v, e_k, e_ty, e_neg, e_bin, e_cmp, e_chn, e_and, e_or, e_not, e_one, e_ife, e_tup, e_lst, e_ix, e_sl, e_bi, e_app, e_ext, e_pop, a_nil, a_cons, o_nil, o_pt, b_and, b_or, b_not, b_tr, b_one, t_nil, t_cons, i_it, i_rng, i_enm, g_nm, g_ns, g_sub, g_tup, gs_nil, gs_cons, r_nil, r_cons, ap_d, ap_op, ap_un, ap_nil, ap_cons, ap_bi, vo_nil, vo_cons, ap_tru, ap_andB, ap_orB, ap_notB, ap_ife, ap_yes, gs_0, gs_1, gt_d, gns_d, gns_o, gnm_d, gnm_o, rw_0, rw_1, ap_par, sa_0, sa_t, sa_f, np, ap_pt, ap_sl, ap_lst, ap_tup, stab_0, stab_1, gB_ap, bl_ap, not_ap, neg_ap, ap_app, ap_apd, ap_and, ap_or, vM, vg_d, vg_o, sl_0, sl_c, so_v, so_d, sw_o, bk_n, bk_s, bg_o, fzM, fz_o, val_d, val_ow, val_v, vl_o, hand_d, hand_ow, hand_vw, gsub, s0_o, sg_o, appd, a0_o, ap_o, popd, pp_o, rt_d, rt_o, rt_v, r0_o, itd, it_l, it_f, it_t, end_, en_l, en_f, en_t, chn_ap, nv_d, nv_o, bind_ok', ok_ok, ok_bind, ok_guard, bin_add, bin_sub, ok_mul, ok_fdiv, ok_mod, ok_pow, ok_divmod, ok_ifi, ixn30, ixn31, ixn32, sl_fz, sl_ls, sl_tp, pm_0, pm_1, Option.bind_some, ex_nx, tg_1, tg_t, wi_0, wi_1, sz0, sz1, sz2, sz3, sz4, sz5, sz6, sz7, sz8, bi_comb, cmp_lt, cmp_le, cmp_gt, cmp_ge, cmp_eqi, cmp_nei, cmp_eqs, cmp_nes, cmp_eqb, cmp_neb, is_non, is_int, is_ob, isn_non, isn_int, isn_ob, tru_b, tru_i, bi_int, bi_abs, bi_gcd, bi_lenl, bi_lenf, bi_lent, bi_tupl, bi_tupf, bi_isint, bi_isbool, bi_istup, ofO_s, ix_l, ix_f, ix_t, at_0, at_1, at_2, List.getElem?_cons_succ, List.getElem?_cons_zero, List.set_cons_succ, List.set_cons_zero, List.length_cons, List.length_nil, List.map_nil, List.map_cons, List.append_nil, List.nil_append, List.cons_append, Int.reduceLT, Int.reduceLE, Nat.reduceAdd, Nat.reduceLT, Nat.reduceLeDiff, Nat.zero_add, Nat.zero_lt_succ, if_true, if_false, Bool.false_eq_true, Bool.not_true, Bool.not_false, ne_eq, not_false_eq_true, reduceCtorEq, Option.some.injEq, and_true, true_and, Nat.lt_add_one, Nat.succ_ne_self, Nat.reduceEqDiff, decide_true, decide_false, decide_eq_true_eq, fin_nx, fin_rd, fin_ro, outs_0, os_s, og_o, rep_s, rep_0, Nat.reduceSub, e_rev, rv_l, rv_f, rv_t, is_bb, isn_bb, is_bn, isn_bn, is_sn, isn_sn, e_fw, c1_w_pool, c2_w_pool, c3_w_pool, c1_w_take, c2_w_take, c3_w_take, c1_w_of, c2_w_of, c3_w_of, c1_w_frac, c2_w_frac, c3_w_frac, c1_is_whole, c2_is_whole, c3_is_whole, c1_is_between, c2_is_between, c3_is_between, c1_wrong_number, c2_wrong_number, c3_wrong_number, c1_is_row, c2_is_row, c3_is_row, c1_without_noughts, c2_without_noughts, c3_without_noughts, c1_are_numbers, c2_are_numbers, c3_are_numbers, c1_check_numbers, c2_check_numbers, c3_check_numbers, c1_is_less, c2_is_less, c3_is_less, c1_is_tuple_of, c2_is_tuple_of, c3_is_tuple_of, c1_is_number, c2_is_number, c3_is_number, c1_is_number_d1, c2_is_number_d1, c3_is_number_d1, c1_is_number_d2, c2_is_number_d2, c3_is_number_d2, c1_is_fraction, c2_is_fraction, c3_is_fraction, c1_is_small_fraction, c2_is_small_fraction, c3_is_small_fraction, c1_check_fraction, c2_check_fraction, c3_check_fraction, c1_lowest, c2_lowest, c3_lowest, c1_plus, c2_plus, c3_plus, c1_times, c2_times, c3_times, c1_worth_by, c2_worth_by, c3_worth_by, c1_worth_at, c2_worth_at, c3_worth_at, c1_w_right, c2_w_right, c3_w_right, c1_law, c2_law, c3_law, at_nat (show j < l.length by omega)]
  refine ⟨_, _, _, _, ?_, rfl, h1, h2, h3, h4, h5⟩
  have e : l.getD j 0 = l[j]'(by omega) := by simp [List.getD, show j < l.length by omega]
  rw [e]
  exact List.getElem_mem _
theorem fi_nat {a b : Nat} (hb : 0 < b) (hab : a ≤ b) : ∃ p q : Nat, fracI (a : Nat) b = .tup [.int (p : Nat), .int (q : Nat)] ∧ Nat.gcd p q = 1 ∧ 1 ≤ q ∧ q ≤ b ∧ p ≤ q := by
  have hg : 0 < Nat.gcd a b := Nat.gcd_pos_of_pos_right _ hb
  refine ⟨a / Nat.gcd a b, b / Nat.gcd a b, ?_, Nat.coprime_div_gcd_div_gcd hg, Nat.div_pos (Nat.gcd_le_right _ hb) hg, Nat.div_le_self _ _, Nat.div_le_div_right hab⟩
  unfold fracI
  simp only [Int.natAbs_natCast, Int.natCast_ediv]
theorem trim_last {l : List Int} {x : Int} (h : x ≠ 0 ∨ l = []) : trim (l ++ [x]) = l ++ [x] := by
  unfold trim
  rw [List.reverse_append]
  show (trR (x :: l.reverse)).reverse = _
  have e : trR (x :: l.reverse) = x :: l.reverse := by
    cases hl : l.reverse with
    | nil => rfl
    | cons y r =>
      rw [trR_c, if_neg]
      rcases h with h | h
      · exact h
      · rw [h] at hl; cases hl
  rw [e]
  simp
theorem cut_last {α : Type} {l : List α} {x : α} : cutL (l ++ [x]) none (some (-1)) = l := by
  unfold cutL
  rw [HT.sIx_none]
  have h1 : HT.sIx (l ++ [x]).length (l ++ [x]).length (some (-1)) = l.length := by
    show (if (-1 : Int) < 0 then ((-1 : Int) + ((l ++ [x]).length : Nat)).toNat else min (-1 : Int).toNat (l ++ [x]).length) = l.length
    rw [if_pos (by decide), List.length_append]
    simp only [List.length_cons, List.length_nil]
    omega
  rw [h1, List.drop_zero, Nat.sub_zero, List.take_left']
  rfl
theorem worth_at_ok {p q : Nat} {l : List Int} (hg : Nat.gcd p q = 1) (hp : p ≤ q) (hq : 1 ≤ q) (hq2 : q ≤ 999) (h : ∀ n ∈ l, n.natAbs ≤ 9999) (h0 : l ≠ []) (hl : l.length ≤ 10) (ht : trim l = l) :
    f_worth_at [.st (.tup (l.map .int)), .st (.tup [.int (p : Nat), .int (q : Nat)])] = .ok (.d (fracI (wof p q l.reverse).1 (wof p q l.reverse).2), [.un, .un]) := by
  refine Ok.eq (fn_run rfl ?_)
  refine run_ex ?_
  simp only [e_call0, e_callk0, e_g0, e_lc, ap_callM, e_v, e_k, e_ty, e_neg, e_bin, e_cmp, e_chn, e_and, e_or, e_not, e_one, e_ife, e_tup, e_lst, e_ix, e_sl, e_bi, e_app, e_ext, e_pop, a_nil, a_cons, o_nil, o_pt, b_and, b_or, b_not, b_tr, b_one, t_nil, t_cons, i_it, i_rng, i_enm, g_nm, g_ns, g_sub, g_tup, gs_nil, gs_cons, r_nil, r_cons, ap_d, ap_op, ap_un, ap_nil, ap_cons, ap_bi, vo_nil, vo_cons, ap_tru, ap_andB, ap_orB, ap_notB, ap_ife, ap_yes, gs_0, gs_1, gt_d, gns_d, gns_o, gnm_d, gnm_o, rw_0, rw_1, ap_par, sa_0, sa_t, sa_f, np, ap_pt, ap_sl, ap_lst, ap_tup, stab_0, stab_1, gB_ap, bl_ap, not_ap, neg_ap, ap_app, ap_apd, ap_and, ap_or, vM, vg_d, vg_o, sl_0, sl_c, so_v, so_d, sw_o, bk_n, bk_s, bg_o, fzM, fz_o, val_d, val_ow, val_v, vl_o, hand_d, hand_ow, hand_vw, gsub, s0_o, sg_o, appd, a0_o, ap_o, popd, pp_o, rt_d, rt_o, rt_v, r0_o, itd, it_l, it_f, it_t, end_, en_l, en_f, en_t, chn_ap, nv_d, nv_o, bind_ok', ok_ok, ok_bind, ok_guard, bin_add, bin_sub, ok_mul, ok_fdiv, ok_mod, ok_pow, ok_divmod, ok_ifi, ixn30, ixn31, ixn32, sl_fz, sl_ls, sl_tp, pm_0, pm_1, Option.bind_some, ex_nx, tg_1, tg_t, wi_0, wi_1, sz0, sz1, sz2, sz3, sz4, sz5, sz6, sz7, sz8, bi_comb, cmp_lt, cmp_le, cmp_gt, cmp_ge, cmp_eqi, cmp_nei, cmp_eqs, cmp_nes, cmp_eqb, cmp_neb, is_non, is_int, is_ob, isn_non, isn_int, isn_ob, tru_b, tru_i, bi_int, bi_abs, bi_gcd, bi_lenl, bi_lenf, bi_lent, bi_tupl, bi_tupf, bi_isint, bi_isbool, bi_istup, ofO_s, ix_l, ix_f, ix_t, at_0, at_1, at_2, List.getElem?_cons_succ, List.getElem?_cons_zero, List.set_cons_succ, List.set_cons_zero, List.length_cons, List.length_nil, List.map_nil, List.map_cons, List.append_nil, List.nil_append, List.cons_append, Int.reduceLT, Int.reduceLE, Nat.reduceAdd, Nat.reduceLT, Nat.reduceLeDiff, Nat.zero_add, Nat.zero_lt_succ, if_true, if_false, Bool.false_eq_true, Bool.not_true, Bool.not_false, ne_eq, not_false_eq_true, reduceCtorEq, Option.some.injEq, and_true, true_and, Nat.lt_add_one, Nat.succ_ne_self, Nat.reduceEqDiff, decide_true, decide_false, decide_eq_true_eq, fin_nx, fin_rd, fin_ro, outs_0, os_s, og_o, rep_s, rep_0, Nat.reduceSub, e_rev, rv_l, rv_f, rv_t, is_bb, isn_bb, is_bn, isn_bn, is_sn, isn_sn, e_fw, c1_w_pool, c2_w_pool, c3_w_pool, c1_w_take, c2_w_take, c3_w_take, c1_w_of, c2_w_of, c3_w_of, c1_w_frac, c2_w_frac, c3_w_frac, c1_is_whole, c2_is_whole, c3_is_whole, c1_is_between, c2_is_between, c3_is_between, c1_wrong_number, c2_wrong_number, c3_wrong_number, c1_is_row, c2_is_row, c3_is_row, c1_without_noughts, c2_without_noughts, c3_without_noughts, c1_are_numbers, c2_are_numbers, c3_are_numbers, c1_check_numbers, c2_check_numbers, c3_check_numbers, c1_is_less, c2_is_less, c3_is_less, c1_is_tuple_of, c2_is_tuple_of, c3_is_tuple_of, c1_is_number, c2_is_number, c3_is_number, c1_is_number_d1, c2_is_number_d1, c3_is_number_d1, c1_is_number_d2, c2_is_number_d2, c3_is_number_d2, c1_is_fraction, c2_is_fraction, c3_is_fraction, c1_is_small_fraction, c2_is_small_fraction, c3_is_small_fraction, c1_check_fraction, c2_check_fraction, c3_check_fraction, c1_lowest, c2_lowest, c3_lowest, c1_plus, c2_plus, c3_plus, c1_times, c2_times, c3_times, c1_worth_by, c2_worth_by, c3_worth_by, c1_worth_at, c2_worth_at, c3_worth_at, c1_w_right, c2_w_right, c3_w_right, c1_law, c2_law, c3_law, check_numbers_ok h h0 hl ht]
  refine run_ex ?_
  simp only [e_call0, e_callk0, e_g0, e_lc, ap_callM, e_v, e_k, e_ty, e_neg, e_bin, e_cmp, e_chn, e_and, e_or, e_not, e_one, e_ife, e_tup, e_lst, e_ix, e_sl, e_bi, e_app, e_ext, e_pop, a_nil, a_cons, o_nil, o_pt, b_and, b_or, b_not, b_tr, b_one, t_nil, t_cons, i_it, i_rng, i_enm, g_nm, g_ns, g_sub, g_tup, gs_nil, gs_cons, r_nil, r_cons, ap_d, ap_op, ap_un, ap_nil, ap_cons, ap_bi, vo_nil, vo_cons, ap_tru, ap_andB, ap_orB, ap_notB, ap_ife, ap_yes, gs_0, gs_1, gt_d, gns_d, gns_o, gnm_d, gnm_o, rw_0, rw_1, ap_par, sa_0, sa_t, sa_f, np, ap_pt, ap_sl, ap_lst, ap_tup, stab_0, stab_1, gB_ap, bl_ap, not_ap, neg_ap, ap_app, ap_apd, ap_and, ap_or, vM, vg_d, vg_o, sl_0, sl_c, so_v, so_d, sw_o, bk_n, bk_s, bg_o, fzM, fz_o, val_d, val_ow, val_v, vl_o, hand_d, hand_ow, hand_vw, gsub, s0_o, sg_o, appd, a0_o, ap_o, popd, pp_o, rt_d, rt_o, rt_v, r0_o, itd, it_l, it_f, it_t, end_, en_l, en_f, en_t, chn_ap, nv_d, nv_o, bind_ok', ok_ok, ok_bind, ok_guard, bin_add, bin_sub, ok_mul, ok_fdiv, ok_mod, ok_pow, ok_divmod, ok_ifi, ixn30, ixn31, ixn32, sl_fz, sl_ls, sl_tp, pm_0, pm_1, Option.bind_some, ex_nx, tg_1, tg_t, wi_0, wi_1, sz0, sz1, sz2, sz3, sz4, sz5, sz6, sz7, sz8, bi_comb, cmp_lt, cmp_le, cmp_gt, cmp_ge, cmp_eqi, cmp_nei, cmp_eqs, cmp_nes, cmp_eqb, cmp_neb, is_non, is_int, is_ob, isn_non, isn_int, isn_ob, tru_b, tru_i, bi_int, bi_abs, bi_gcd, bi_lenl, bi_lenf, bi_lent, bi_tupl, bi_tupf, bi_isint, bi_isbool, bi_istup, ofO_s, ix_l, ix_f, ix_t, at_0, at_1, at_2, List.getElem?_cons_succ, List.getElem?_cons_zero, List.set_cons_succ, List.set_cons_zero, List.length_cons, List.length_nil, List.map_nil, List.map_cons, List.append_nil, List.nil_append, List.cons_append, Int.reduceLT, Int.reduceLE, Nat.reduceAdd, Nat.reduceLT, Nat.reduceLeDiff, Nat.zero_add, Nat.zero_lt_succ, if_true, if_false, Bool.false_eq_true, Bool.not_true, Bool.not_false, ne_eq, not_false_eq_true, reduceCtorEq, Option.some.injEq, and_true, true_and, Nat.lt_add_one, Nat.succ_ne_self, Nat.reduceEqDiff, decide_true, decide_false, decide_eq_true_eq, fin_nx, fin_rd, fin_ro, outs_0, os_s, og_o, rep_s, rep_0, Nat.reduceSub, e_rev, rv_l, rv_f, rv_t, is_bb, isn_bb, is_bn, isn_bn, is_sn, isn_sn, e_fw, c1_w_pool, c2_w_pool, c3_w_pool, c1_w_take, c2_w_take, c3_w_take, c1_w_of, c2_w_of, c3_w_of, c1_w_frac, c2_w_frac, c3_w_frac, c1_is_whole, c2_is_whole, c3_is_whole, c1_is_between, c2_is_between, c3_is_between, c1_wrong_number, c2_wrong_number, c3_wrong_number, c1_is_row, c2_is_row, c3_is_row, c1_without_noughts, c2_without_noughts, c3_without_noughts, c1_are_numbers, c2_are_numbers, c3_are_numbers, c1_check_numbers, c2_check_numbers, c3_check_numbers, c1_is_less, c2_is_less, c3_is_less, c1_is_tuple_of, c2_is_tuple_of, c3_is_tuple_of, c1_is_number, c2_is_number, c3_is_number, c1_is_number_d1, c2_is_number_d1, c3_is_number_d1, c1_is_number_d2, c2_is_number_d2, c3_is_number_d2, c1_is_fraction, c2_is_fraction, c3_is_fraction, c1_is_small_fraction, c2_is_small_fraction, c3_is_small_fraction, c1_check_fraction, c2_check_fraction, c3_check_fraction, c1_lowest, c2_lowest, c3_lowest, c1_plus, c2_plus, c3_plus, c1_times, c2_times, c3_times, c1_worth_by, c2_worth_by, c3_worth_by, c1_worth_at, c2_worth_at, c3_worth_at, c1_w_right, c2_w_right, c3_w_right, c1_law, c2_law, c3_law, check_fraction_ok hg hq hp hq2]
  refine run_r ?_
  simp only [e_call0, e_callk0, e_g0, e_lc, ap_callM, e_v, e_k, e_ty, e_neg, e_bin, e_cmp, e_chn, e_and, e_or, e_not, e_one, e_ife, e_tup, e_lst, e_ix, e_sl, e_bi, e_app, e_ext, e_pop, a_nil, a_cons, o_nil, o_pt, b_and, b_or, b_not, b_tr, b_one, t_nil, t_cons, i_it, i_rng, i_enm, g_nm, g_ns, g_sub, g_tup, gs_nil, gs_cons, r_nil, r_cons, ap_d, ap_op, ap_un, ap_nil, ap_cons, ap_bi, vo_nil, vo_cons, ap_tru, ap_andB, ap_orB, ap_notB, ap_ife, ap_yes, gs_0, gs_1, gt_d, gns_d, gns_o, gnm_d, gnm_o, rw_0, rw_1, ap_par, sa_0, sa_t, sa_f, np, ap_pt, ap_sl, ap_lst, ap_tup, stab_0, stab_1, gB_ap, bl_ap, not_ap, neg_ap, ap_app, ap_apd, ap_and, ap_or, vM, vg_d, vg_o, sl_0, sl_c, so_v, so_d, sw_o, bk_n, bk_s, bg_o, fzM, fz_o, val_d, val_ow, val_v, vl_o, hand_d, hand_ow, hand_vw, gsub, s0_o, sg_o, appd, a0_o, ap_o, popd, pp_o, rt_d, rt_o, rt_v, r0_o, itd, it_l, it_f, it_t, end_, en_l, en_f, en_t, chn_ap, nv_d, nv_o, bind_ok', ok_ok, ok_bind, ok_guard, bin_add, bin_sub, ok_mul, ok_fdiv, ok_mod, ok_pow, ok_divmod, ok_ifi, ixn30, ixn31, ixn32, sl_fz, sl_ls, sl_tp, pm_0, pm_1, Option.bind_some, ex_nx, tg_1, tg_t, wi_0, wi_1, sz0, sz1, sz2, sz3, sz4, sz5, sz6, sz7, sz8, bi_comb, cmp_lt, cmp_le, cmp_gt, cmp_ge, cmp_eqi, cmp_nei, cmp_eqs, cmp_nes, cmp_eqb, cmp_neb, is_non, is_int, is_ob, isn_non, isn_int, isn_ob, tru_b, tru_i, bi_int, bi_abs, bi_gcd, bi_lenl, bi_lenf, bi_lent, bi_tupl, bi_tupf, bi_isint, bi_isbool, bi_istup, ofO_s, ix_l, ix_f, ix_t, at_0, at_1, at_2, List.getElem?_cons_succ, List.getElem?_cons_zero, List.set_cons_succ, List.set_cons_zero, List.length_cons, List.length_nil, List.map_nil, List.map_cons, List.append_nil, List.nil_append, List.cons_append, Int.reduceLT, Int.reduceLE, Nat.reduceAdd, Nat.reduceLT, Nat.reduceLeDiff, Nat.zero_add, Nat.zero_lt_succ, if_true, if_false, Bool.false_eq_true, Bool.not_true, Bool.not_false, ne_eq, not_false_eq_true, reduceCtorEq, Option.some.injEq, and_true, true_and, Nat.lt_add_one, Nat.succ_ne_self, Nat.reduceEqDiff, decide_true, decide_false, decide_eq_true_eq, fin_nx, fin_rd, fin_ro, outs_0, os_s, og_o, rep_s, rep_0, Nat.reduceSub, e_rev, rv_l, rv_f, rv_t, is_bb, isn_bb, is_bn, isn_bn, is_sn, isn_sn, e_fw, c1_w_pool, c2_w_pool, c3_w_pool, c1_w_take, c2_w_take, c3_w_take, c1_w_of, c2_w_of, c3_w_of, c1_w_frac, c2_w_frac, c3_w_frac, c1_is_whole, c2_is_whole, c3_is_whole, c1_is_between, c2_is_between, c3_is_between, c1_wrong_number, c2_wrong_number, c3_wrong_number, c1_is_row, c2_is_row, c3_is_row, c1_without_noughts, c2_without_noughts, c3_without_noughts, c1_are_numbers, c2_are_numbers, c3_are_numbers, c1_check_numbers, c2_check_numbers, c3_check_numbers, c1_is_less, c2_is_less, c3_is_less, c1_is_tuple_of, c2_is_tuple_of, c3_is_tuple_of, c1_is_number, c2_is_number, c3_is_number, c1_is_number_d1, c2_is_number_d1, c3_is_number_d1, c1_is_number_d2, c2_is_number_d2, c3_is_number_d2, c1_is_fraction, c2_is_fraction, c3_is_fraction, c1_is_small_fraction, c2_is_small_fraction, c3_is_small_fraction, c1_check_fraction, c2_check_fraction, c3_check_fraction, c1_lowest, c2_lowest, c3_lowest, c1_plus, c2_plus, c3_plus, c1_times, c2_times, c3_times, c1_worth_by, c2_worth_by, c3_worth_by, c1_worth_at, c2_worth_at, c3_worth_at, c1_w_right, c2_w_right, c3_w_right, c1_law, c2_law, c3_law, worth_by_ok (show p ≤ 999 by omega) hq hq2 h hl]
theorem add_tups {xs ys : List D} (h : xs.length + ys.length ≤ sizeLine) : binop .Add (.ob .tup xs) (.ob .tup ys) = .ok (.d (.ob .tup (xs ++ ys))) := by
  show (if _ then _ else _) = _
  rw [if_pos ⟨rfl, h⟩]
theorem nums_ok {a b c m : Int} (ha : 0 ≤ a) (hb : 0 ≤ b) (hb2 : b < 2147483399) (hc : 0 ≤ c) (hc2 : c < 990000) (hm : 0 < m) (hm2 : m ≤ 10) {w : Int} (hw : 1 ≤ w) (hw2 : w ≤ 9999) :
    Ok (evE cf_w_right (.lc [4] [4] false (.rng (.cons (.bin .Add (.k (.int 1)) (.call 1 (.cons (.v 0) (.cons (.v 1) .nil)))) .nil)) .nil (.bin .Sub (.call 1 (.cons (.v 0) (.cons (.bin .Add (.bin .Mult (.k (.int 2)) (.v 2)) (.k (.int 1))) .nil))) (.v 2))) [.ow .lst [.int a, .int b, .int c], .st (.int m), .st (.int w), .un, .un, .un, .un, .un, .un, .un, .un]) fun x => ∃ (l : List Int) (a2 b2 c2 : Int), x = (.ow .lst (l.map .int), [.ow .lst [.int a2, .int b2, .int c2], .st (.int m), .st (.int w), .un, .un, .un, .un, .un, .un, .un, .un]) ∧ l ≠ [] ∧ (∀ n ∈ l, n.natAbs ≤ 9999) ∧ l.length ≤ 10 ∧ 0 ≤ a2 ∧ 0 ≤ b2 ∧ b2 < 2147483399 ∧ 0 ≤ c2 ∧ c2 ≤ c + 20 := by
  rw [e_lc]
  refine ok_comp (fun n ρ acc => ∃ (l : List Int) (a2 b2 c2 : Int), ρ = [.ow .lst [.int a2, .int b2, .int c2], .st (.int m), .st (.int w), .un, .un, .un, .un, .un, .un, .un, .un] ∧ acc = l.map .int ∧ l.length = n ∧ (∀ d ∈ l, d.natAbs ≤ 9999) ∧ n ≤ 10 ∧ 0 ≤ a2 ∧ 0 ≤ b2 ∧ b2 < 2147483399 ∧ 0 ≤ c2 ∧ c2 ≤ c + 1 + n) ?_
  rw [i_rng, a_cons, a_nil]
  refine ok_rng ?_
  simp only [e_call0, e_callk0, e_g0, e_lc, ap_callM, e_v, e_k, e_ty, e_neg, e_bin, e_cmp, e_chn, e_and, e_or, e_not, e_one, e_ife, e_tup, e_lst, e_ix, e_sl, e_bi, e_app, e_ext, e_pop, a_nil, a_cons, o_nil, o_pt, b_and, b_or, b_not, b_tr, b_one, t_nil, t_cons, i_it, i_rng, i_enm, g_nm, g_ns, g_sub, g_tup, gs_nil, gs_cons, r_nil, r_cons, ap_d, ap_op, ap_un, ap_nil, ap_cons, ap_bi, vo_nil, vo_cons, ap_tru, ap_andB, ap_orB, ap_notB, ap_ife, ap_yes, gs_0, gs_1, gt_d, gns_d, gns_o, gnm_d, gnm_o, rw_0, rw_1, ap_par, sa_0, sa_t, sa_f, np, ap_pt, ap_sl, ap_lst, ap_tup, stab_0, stab_1, gB_ap, bl_ap, not_ap, neg_ap, ap_app, ap_apd, ap_and, ap_or, vM, vg_d, vg_o, sl_0, sl_c, so_v, so_d, sw_o, bk_n, bk_s, bg_o, fzM, fz_o, val_d, val_ow, val_v, vl_o, hand_d, hand_ow, hand_vw, gsub, s0_o, sg_o, appd, a0_o, ap_o, popd, pp_o, rt_d, rt_o, rt_v, r0_o, itd, it_l, it_f, it_t, end_, en_l, en_f, en_t, chn_ap, nv_d, nv_o, bind_ok', ok_ok, ok_bind, ok_guard, bin_add, bin_sub, ok_mul, ok_fdiv, ok_mod, ok_pow, ok_divmod, ok_ifi, ixn30, ixn31, ixn32, sl_fz, sl_ls, sl_tp, pm_0, pm_1, Option.bind_some, ex_nx, tg_1, tg_t, wi_0, wi_1, sz0, sz1, sz2, sz3, sz4, sz5, sz6, sz7, sz8, bi_comb, cmp_lt, cmp_le, cmp_gt, cmp_ge, cmp_eqi, cmp_nei, cmp_eqs, cmp_nes, cmp_eqb, cmp_neb, is_non, is_int, is_ob, isn_non, isn_int, isn_ob, tru_b, tru_i, bi_int, bi_abs, bi_gcd, bi_lenl, bi_lenf, bi_lent, bi_tupl, bi_tupf, bi_isint, bi_isbool, bi_istup, ofO_s, ix_l, ix_f, ix_t, at_0, at_1, at_2, List.getElem?_cons_succ, List.getElem?_cons_zero, List.set_cons_succ, List.set_cons_zero, List.length_cons, List.length_nil, List.map_nil, List.map_cons, List.append_nil, List.nil_append, List.cons_append, Int.reduceLT, Int.reduceLE, Nat.reduceAdd, Nat.reduceLT, Nat.reduceLeDiff, Nat.zero_add, Nat.zero_lt_succ, if_true, if_false, Bool.false_eq_true, Bool.not_true, Bool.not_false, ne_eq, not_false_eq_true, reduceCtorEq, Option.some.injEq, and_true, true_and, Nat.lt_add_one, Nat.succ_ne_self, Nat.reduceEqDiff, decide_true, decide_false, decide_eq_true_eq, fin_nx, fin_rd, fin_ro, outs_0, os_s, og_o, rep_s, rep_0, Nat.reduceSub, e_rev, rv_l, rv_f, rv_t, is_bb, isn_bb, is_bn, isn_bn, is_sn, isn_sn, e_fw, c1_w_pool, c2_w_pool, c3_w_pool, c1_w_take, c2_w_take, c3_w_take, c1_w_of, c2_w_of, c3_w_of, c1_w_frac, c2_w_frac, c3_w_frac, c1_is_whole, c2_is_whole, c3_is_whole, c1_is_between, c2_is_between, c3_is_between, c1_wrong_number, c2_wrong_number, c3_wrong_number, c1_is_row, c2_is_row, c3_is_row, c1_without_noughts, c2_without_noughts, c3_without_noughts, c1_are_numbers, c2_are_numbers, c3_are_numbers, c1_check_numbers, c2_check_numbers, c3_check_numbers, c1_is_less, c2_is_less, c3_is_less, c1_is_tuple_of, c2_is_tuple_of, c3_is_tuple_of, c1_is_number, c2_is_number, c3_is_number, c1_is_number_d1, c2_is_number_d1, c3_is_number_d1, c1_is_number_d2, c2_is_number_d2, c3_is_number_d2, c1_is_fraction, c2_is_fraction, c3_is_fraction, c1_is_small_fraction, c2_is_small_fraction, c3_is_small_fraction, c1_check_fraction, c2_check_fraction, c3_check_fraction, c1_lowest, c2_lowest, c3_lowest, c1_plus, c2_plus, c3_plus, c1_times, c2_times, c3_times, c1_worth_by, c2_worth_by, c3_worth_by, c1_worth_at, c2_worth_at, c3_worth_at, c1_w_right, c2_w_right, c3_w_right, c1_law, c2_law, c3_law]
  refine (take_ok ha hb hb2 hc (by omega) (m := m) hm (by omega)).mono ?_
  rintro _ ⟨d, a3, b3, c3, rfl, d0, d1, k1, k2, k3, k4, k5⟩
  simp only [e_call0, e_callk0, e_g0, e_lc, ap_callM, e_v, e_k, e_ty, e_neg, e_bin, e_cmp, e_chn, e_and, e_or, e_not, e_one, e_ife, e_tup, e_lst, e_ix, e_sl, e_bi, e_app, e_ext, e_pop, a_nil, a_cons, o_nil, o_pt, b_and, b_or, b_not, b_tr, b_one, t_nil, t_cons, i_it, i_rng, i_enm, g_nm, g_ns, g_sub, g_tup, gs_nil, gs_cons, r_nil, r_cons, ap_d, ap_op, ap_un, ap_nil, ap_cons, ap_bi, vo_nil, vo_cons, ap_tru, ap_andB, ap_orB, ap_notB, ap_ife, ap_yes, gs_0, gs_1, gt_d, gns_d, gns_o, gnm_d, gnm_o, rw_0, rw_1, ap_par, sa_0, sa_t, sa_f, np, ap_pt, ap_sl, ap_lst, ap_tup, stab_0, stab_1, gB_ap, bl_ap, not_ap, neg_ap, ap_app, ap_apd, ap_and, ap_or, vM, vg_d, vg_o, sl_0, sl_c, so_v, so_d, sw_o, bk_n, bk_s, bg_o, fzM, fz_o, val_d, val_ow, val_v, vl_o, hand_d, hand_ow, hand_vw, gsub, s0_o, sg_o, appd, a0_o, ap_o, popd, pp_o, rt_d, rt_o, rt_v, r0_o, itd, it_l, it_f, it_t, end_, en_l, en_f, en_t, chn_ap, nv_d, nv_o, bind_ok', ok_ok, ok_bind, ok_guard, bin_add, bin_sub, ok_mul, ok_fdiv, ok_mod, ok_pow, ok_divmod, ok_ifi, ixn30, ixn31, ixn32, sl_fz, sl_ls, sl_tp, pm_0, pm_1, Option.bind_some, ex_nx, tg_1, tg_t, wi_0, wi_1, sz0, sz1, sz2, sz3, sz4, sz5, sz6, sz7, sz8, bi_comb, cmp_lt, cmp_le, cmp_gt, cmp_ge, cmp_eqi, cmp_nei, cmp_eqs, cmp_nes, cmp_eqb, cmp_neb, is_non, is_int, is_ob, isn_non, isn_int, isn_ob, tru_b, tru_i, bi_int, bi_abs, bi_gcd, bi_lenl, bi_lenf, bi_lent, bi_tupl, bi_tupf, bi_isint, bi_isbool, bi_istup, ofO_s, ix_l, ix_f, ix_t, at_0, at_1, at_2, List.getElem?_cons_succ, List.getElem?_cons_zero, List.set_cons_succ, List.set_cons_zero, List.length_cons, List.length_nil, List.map_nil, List.map_cons, List.append_nil, List.nil_append, List.cons_append, Int.reduceLT, Int.reduceLE, Nat.reduceAdd, Nat.reduceLT, Nat.reduceLeDiff, Nat.zero_add, Nat.zero_lt_succ, if_true, if_false, Bool.false_eq_true, Bool.not_true, Bool.not_false, ne_eq, not_false_eq_true, reduceCtorEq, Option.some.injEq, and_true, true_and, Nat.lt_add_one, Nat.succ_ne_self, Nat.reduceEqDiff, decide_true, decide_false, decide_eq_true_eq, fin_nx, fin_rd, fin_ro, outs_0, os_s, og_o, rep_s, rep_0, Nat.reduceSub, e_rev, rv_l, rv_f, rv_t, is_bb, isn_bb, is_bn, isn_bn, is_sn, isn_sn, e_fw, c1_w_pool, c2_w_pool, c3_w_pool, c1_w_take, c2_w_take, c3_w_take, c1_w_of, c2_w_of, c3_w_of, c1_w_frac, c2_w_frac, c3_w_frac, c1_is_whole, c2_is_whole, c3_is_whole, c1_is_between, c2_is_between, c3_is_between, c1_wrong_number, c2_wrong_number, c3_wrong_number, c1_is_row, c2_is_row, c3_is_row, c1_without_noughts, c2_without_noughts, c3_without_noughts, c1_are_numbers, c2_are_numbers, c3_are_numbers, c1_check_numbers, c2_check_numbers, c3_check_numbers, c1_is_less, c2_is_less, c3_is_less, c1_is_tuple_of, c2_is_tuple_of, c3_is_tuple_of, c1_is_number, c2_is_number, c3_is_number, c1_is_number_d1, c2_is_number_d1, c3_is_number_d1, c1_is_number_d2, c2_is_number_d2, c3_is_number_d2, c1_is_fraction, c2_is_fraction, c3_is_fraction, c1_is_small_fraction, c2_is_small_fraction, c3_is_small_fraction, c1_check_fraction, c2_check_fraction, c3_check_fraction, c1_lowest, c2_lowest, c3_lowest, c1_plus, c2_plus, c3_plus, c1_times, c2_times, c3_times, c1_worth_by, c2_worth_by, c3_worth_by, c1_worth_at, c2_worth_at, c3_worth_at, c1_w_right, c2_w_right, c3_w_right, c1_law, c2_law, c3_law]
  refine ⟨_, rfl, ⟨by omega, by omega⟩, rfl, ⟨[], _, _, _, rfl, rfl, rfl, by simp, k1, k2, k3, k4, by omega⟩, ?_, ?_⟩
  · rintro i x _ acc hd ⟨l, a4, b4, c4, rfl, rfl, hl, hds, hi3, q1, q2, q3, q4, q5⟩
    obtain ⟨rfl, hi2⟩ := rng_get' hd
    clear hd
    simp only [e_call0, e_callk0, e_g0, e_lc, ap_callM, e_v, e_k, e_ty, e_neg, e_bin, e_cmp, e_chn, e_and, e_or, e_not, e_one, e_ife, e_tup, e_lst, e_ix, e_sl, e_bi, e_app, e_ext, e_pop, a_nil, a_cons, o_nil, o_pt, b_and, b_or, b_not, b_tr, b_one, t_nil, t_cons, i_it, i_rng, i_enm, g_nm, g_ns, g_sub, g_tup, gs_nil, gs_cons, r_nil, r_cons, ap_d, ap_op, ap_un, ap_nil, ap_cons, ap_bi, vo_nil, vo_cons, ap_tru, ap_andB, ap_orB, ap_notB, ap_ife, ap_yes, gs_0, gs_1, gt_d, gns_d, gns_o, gnm_d, gnm_o, rw_0, rw_1, ap_par, sa_0, sa_t, sa_f, np, ap_pt, ap_sl, ap_lst, ap_tup, stab_0, stab_1, gB_ap, bl_ap, not_ap, neg_ap, ap_app, ap_apd, ap_and, ap_or, vM, vg_d, vg_o, sl_0, sl_c, so_v, so_d, sw_o, bk_n, bk_s, bg_o, fzM, fz_o, val_d, val_ow, val_v, vl_o, hand_d, hand_ow, hand_vw, gsub, s0_o, sg_o, appd, a0_o, ap_o, popd, pp_o, rt_d, rt_o, rt_v, r0_o, itd, it_l, it_f, it_t, end_, en_l, en_f, en_t, chn_ap, nv_d, nv_o, bind_ok', ok_ok, ok_bind, ok_guard, bin_add, bin_sub, ok_mul, ok_fdiv, ok_mod, ok_pow, ok_divmod, ok_ifi, ixn30, ixn31, ixn32, sl_fz, sl_ls, sl_tp, pm_0, pm_1, Option.bind_some, ex_nx, tg_1, tg_t, wi_0, wi_1, sz0, sz1, sz2, sz3, sz4, sz5, sz6, sz7, sz8, bi_comb, cmp_lt, cmp_le, cmp_gt, cmp_ge, cmp_eqi, cmp_nei, cmp_eqs, cmp_nes, cmp_eqb, cmp_neb, is_non, is_int, is_ob, isn_non, isn_int, isn_ob, tru_b, tru_i, bi_int, bi_abs, bi_gcd, bi_lenl, bi_lenf, bi_lent, bi_tupl, bi_tupf, bi_isint, bi_isbool, bi_istup, ofO_s, ix_l, ix_f, ix_t, at_0, at_1, at_2, List.getElem?_cons_succ, List.getElem?_cons_zero, List.set_cons_succ, List.set_cons_zero, List.length_cons, List.length_nil, List.map_nil, List.map_cons, List.append_nil, List.nil_append, List.cons_append, Int.reduceLT, Int.reduceLE, Nat.reduceAdd, Nat.reduceLT, Nat.reduceLeDiff, Nat.zero_add, Nat.zero_lt_succ, if_true, if_false, Bool.false_eq_true, Bool.not_true, Bool.not_false, ne_eq, not_false_eq_true, reduceCtorEq, Option.some.injEq, and_true, true_and, Nat.lt_add_one, Nat.succ_ne_self, Nat.reduceEqDiff, decide_true, decide_false, decide_eq_true_eq, fin_nx, fin_rd, fin_ro, outs_0, os_s, og_o, rep_s, rep_0, Nat.reduceSub, e_rev, rv_l, rv_f, rv_t, is_bb, isn_bb, is_bn, isn_bn, is_sn, isn_sn, e_fw, c1_w_pool, c2_w_pool, c3_w_pool, c1_w_take, c2_w_take, c3_w_take, c1_w_of, c2_w_of, c3_w_of, c1_w_frac, c2_w_frac, c3_w_frac, c1_is_whole, c2_is_whole, c3_is_whole, c1_is_between, c2_is_between, c3_is_between, c1_wrong_number, c2_wrong_number, c3_wrong_number, c1_is_row, c2_is_row, c3_is_row, c1_without_noughts, c2_without_noughts, c3_without_noughts, c1_are_numbers, c2_are_numbers, c3_are_numbers, c1_check_numbers, c2_check_numbers, c3_check_numbers, c1_is_less, c2_is_less, c3_is_less, c1_is_tuple_of, c2_is_tuple_of, c3_is_tuple_of, c1_is_number, c2_is_number, c3_is_number, c1_is_number_d1, c2_is_number_d1, c3_is_number_d1, c1_is_number_d2, c2_is_number_d2, c3_is_number_d2, c1_is_fraction, c2_is_fraction, c3_is_fraction, c1_is_small_fraction, c2_is_small_fraction, c3_is_small_fraction, c1_check_fraction, c2_check_fraction, c3_check_fraction, c1_lowest, c2_lowest, c3_lowest, c1_plus, c2_plus, c3_plus, c1_times, c2_times, c3_times, c1_worth_by, c2_worth_by, c3_worth_by, c1_worth_at, c2_worth_at, c3_worth_at, c1_w_right, c2_w_right, c3_w_right, c1_law, c2_law, c3_law]
    refine ⟨⟨nb (by omega) (by omega), nb (by omega) (by omega)⟩, ?_⟩
    refine (take_ok q1 q2 q3 q4 (by omega) (m := 2 * w + 1) (by omega) (by omega)).mono ?_
    rintro _ ⟨d2, a5, b5, c5, rfl, f0, f1, e1, e2, e3, e4, e5⟩
    simp only [e_call0, e_callk0, e_g0, e_lc, ap_callM, e_v, e_k, e_ty, e_neg, e_bin, e_cmp, e_chn, e_and, e_or, e_not, e_one, e_ife, e_tup, e_lst, e_ix, e_sl, e_bi, e_app, e_ext, e_pop, a_nil, a_cons, o_nil, o_pt, b_and, b_or, b_not, b_tr, b_one, t_nil, t_cons, i_it, i_rng, i_enm, g_nm, g_ns, g_sub, g_tup, gs_nil, gs_cons, r_nil, r_cons, ap_d, ap_op, ap_un, ap_nil, ap_cons, ap_bi, vo_nil, vo_cons, ap_tru, ap_andB, ap_orB, ap_notB, ap_ife, ap_yes, gs_0, gs_1, gt_d, gns_d, gns_o, gnm_d, gnm_o, rw_0, rw_1, ap_par, sa_0, sa_t, sa_f, np, ap_pt, ap_sl, ap_lst, ap_tup, stab_0, stab_1, gB_ap, bl_ap, not_ap, neg_ap, ap_app, ap_apd, ap_and, ap_or, vM, vg_d, vg_o, sl_0, sl_c, so_v, so_d, sw_o, bk_n, bk_s, bg_o, fzM, fz_o, val_d, val_ow, val_v, vl_o, hand_d, hand_ow, hand_vw, gsub, s0_o, sg_o, appd, a0_o, ap_o, popd, pp_o, rt_d, rt_o, rt_v, r0_o, itd, it_l, it_f, it_t, end_, en_l, en_f, en_t, chn_ap, nv_d, nv_o, bind_ok', ok_ok, ok_bind, ok_guard, bin_add, bin_sub, ok_mul, ok_fdiv, ok_mod, ok_pow, ok_divmod, ok_ifi, ixn30, ixn31, ixn32, sl_fz, sl_ls, sl_tp, pm_0, pm_1, Option.bind_some, ex_nx, tg_1, tg_t, wi_0, wi_1, sz0, sz1, sz2, sz3, sz4, sz5, sz6, sz7, sz8, bi_comb, cmp_lt, cmp_le, cmp_gt, cmp_ge, cmp_eqi, cmp_nei, cmp_eqs, cmp_nes, cmp_eqb, cmp_neb, is_non, is_int, is_ob, isn_non, isn_int, isn_ob, tru_b, tru_i, bi_int, bi_abs, bi_gcd, bi_lenl, bi_lenf, bi_lent, bi_tupl, bi_tupf, bi_isint, bi_isbool, bi_istup, ofO_s, ix_l, ix_f, ix_t, at_0, at_1, at_2, List.getElem?_cons_succ, List.getElem?_cons_zero, List.set_cons_succ, List.set_cons_zero, List.length_cons, List.length_nil, List.map_nil, List.map_cons, List.append_nil, List.nil_append, List.cons_append, Int.reduceLT, Int.reduceLE, Nat.reduceAdd, Nat.reduceLT, Nat.reduceLeDiff, Nat.zero_add, Nat.zero_lt_succ, if_true, if_false, Bool.false_eq_true, Bool.not_true, Bool.not_false, ne_eq, not_false_eq_true, reduceCtorEq, Option.some.injEq, and_true, true_and, Nat.lt_add_one, Nat.succ_ne_self, Nat.reduceEqDiff, decide_true, decide_false, decide_eq_true_eq, fin_nx, fin_rd, fin_ro, outs_0, os_s, og_o, rep_s, rep_0, Nat.reduceSub, e_rev, rv_l, rv_f, rv_t, is_bb, isn_bb, is_bn, isn_bn, is_sn, isn_sn, e_fw, c1_w_pool, c2_w_pool, c3_w_pool, c1_w_take, c2_w_take, c3_w_take, c1_w_of, c2_w_of, c3_w_of, c1_w_frac, c2_w_frac, c3_w_frac, c1_is_whole, c2_is_whole, c3_is_whole, c1_is_between, c2_is_between, c3_is_between, c1_wrong_number, c2_wrong_number, c3_wrong_number, c1_is_row, c2_is_row, c3_is_row, c1_without_noughts, c2_without_noughts, c3_without_noughts, c1_are_numbers, c2_are_numbers, c3_are_numbers, c1_check_numbers, c2_check_numbers, c3_check_numbers, c1_is_less, c2_is_less, c3_is_less, c1_is_tuple_of, c2_is_tuple_of, c3_is_tuple_of, c1_is_number, c2_is_number, c3_is_number, c1_is_number_d1, c2_is_number_d1, c3_is_number_d1, c1_is_number_d2, c2_is_number_d2, c3_is_number_d2, c1_is_fraction, c2_is_fraction, c3_is_fraction, c1_is_small_fraction, c2_is_small_fraction, c3_is_small_fraction, c1_check_fraction, c2_check_fraction, c3_check_fraction, c1_lowest, c2_lowest, c3_lowest, c1_plus, c2_plus, c3_plus, c1_times, c2_times, c3_times, c1_worth_by, c2_worth_by, c3_worth_by, c1_worth_at, c2_worth_at, c3_worth_at, c1_w_right, c2_w_right, c3_w_right, c1_law, c2_law, c3_law]
    refine ⟨_, rfl, l ++ [d2 - w], a5, b5, c5, rfl, by rw [List.map_append]; rfl, by rw [List.length_append, hl]; rfl, ?_, by omega, e1, e2, e3, e4, by omega⟩
    intro y hy
    rcases List.mem_append.mp hy with z | z
    · exact hds y z
    · simp at z; omega
  · rintro ρ2 acc ⟨l, a4, b4, c4, rfl, rfl, hl, hds, hi3, q1, q2, q3, q4, q5⟩
    have e : (rngL 0 (1 + d)).length ≤ 10 ∧ 1 ≤ (rngL 0 (1 + d)).length := by rw [rng_len]; omega
    refine ⟨?_, l, a4, b4, c4, rfl, ?_, hds, by omega, q1, q2, q3, q4, by omega⟩
    · rw [List.length_map, hl]
      exact Nat.le_of_lt (small1000 (by omega))
    · intro z; rw [z] at hl; simp only [List.length_nil] at hl; omega
theorem low_ok {a b c : Int} {l : List Int} {low : Nat} {s1 s2 s4 s6 s7 s8 s9 s10 : Sl} (ha : 0 ≤ a) (hb : 0 ≤ b) (hb2 : b < 2147483399) (hc : 0 ≤ c) (hc2 : c < 990000) (hw : 1 ≤ low) (hw2 : low ≤ 999) (h : ∀ n ∈ l, n.natAbs ≤ 9999) (h0 : l ≠ []) (hl : l.length ≤ 10) (ht : trim l = l) :
    Ok (evS cf_w_right (.asg (.ns 6) (.call 2 (.cons (.call 1 (.cons (.v 0) (.cons (.bin .Add (.v 5) (.k (.int 1))) .nil))) (.cons (.v 5) .nil))) (.asg (.tup (.cons (.ns 7) (.cons (.ns 8) .nil))) (.tup (.cons (.k (.int 0)) (.cons (.k (.int 1)) .nil))) (.fr (.ns 9) (.it (.rev (.v 3))) (.par [(7, false), (8, false)] (.cons (.bin .Add (.bin .Mult (.v 7) (.ix (.v 6) (.k (.int 0)))) (.bin .Mult (.bin .Mult (.v 9) (.v 8)) (.ix (.v 6) (.k (.int 1))))) (.cons (.bin .Mult (.v 8) (.ix (.v 6) (.k (.int 1)))) .nil)) .nx) (.asg (.ns 10) (.call 2 (.cons (.v 7) (.cons (.v 8) .nil))) (.ife (.tr (.cmp .NotEq (.bi .repr (.cons (.lst (.cons (.call 0 (.cons (.v 3) (.cons (.v 6) .nil))) (.cons (.callk 0 .nil (.cons (.v 6) (.cons (.v 3) .nil))) .nil))) .nil)) (.bi .repr (.cons (.lst (.cons (.v 10) (.cons (.v 10) .nil))) .nil)))) (.ret (.k (.bl false)) .nx) .nx .nx))))) [.ow .lst [.int a, .int b, .int c], s1, s2, .st (.tup (l.map .int)), s4, .st (.int (low : Nat)), s6, s7, s8, s9, s10]) fun f => ∃ a' b' c' t6 t7 t8 t9 t10, f = .nx [.ow .lst [.int a', .int b', .int c'], s1, s2, .st (.tup (l.map .int)), s4, .st (.int (low : Nat)), t6, t7, t8, t9, t10] ∧ 0 ≤ a' ∧ 0 ≤ b' ∧ b' < 2147483399 ∧ 0 ≤ c' ∧ c' ≤ c + 1 := by
  refine run_asg ?_
  simp only [e_call0, e_callk0, e_g0, e_lc, ap_callM, e_v, e_k, e_ty, e_neg, e_bin, e_cmp, e_chn, e_and, e_or, e_not, e_one, e_ife, e_tup, e_lst, e_ix, e_sl, e_bi, e_app, e_ext, e_pop, a_nil, a_cons, o_nil, o_pt, b_and, b_or, b_not, b_tr, b_one, t_nil, t_cons, i_it, i_rng, i_enm, g_nm, g_ns, g_sub, g_tup, gs_nil, gs_cons, r_nil, r_cons, ap_d, ap_op, ap_un, ap_nil, ap_cons, ap_bi, vo_nil, vo_cons, ap_tru, ap_andB, ap_orB, ap_notB, ap_ife, ap_yes, gs_0, gs_1, gt_d, gns_d, gns_o, gnm_d, gnm_o, rw_0, rw_1, ap_par, sa_0, sa_t, sa_f, np, ap_pt, ap_sl, ap_lst, ap_tup, stab_0, stab_1, gB_ap, bl_ap, not_ap, neg_ap, ap_app, ap_apd, ap_and, ap_or, vM, vg_d, vg_o, sl_0, sl_c, so_v, so_d, sw_o, bk_n, bk_s, bg_o, fzM, fz_o, val_d, val_ow, val_v, vl_o, hand_d, hand_ow, hand_vw, gsub, s0_o, sg_o, appd, a0_o, ap_o, popd, pp_o, rt_d, rt_o, rt_v, r0_o, itd, it_l, it_f, it_t, end_, en_l, en_f, en_t, chn_ap, nv_d, nv_o, bind_ok', ok_ok, ok_bind, ok_guard, bin_add, bin_sub, ok_mul, ok_fdiv, ok_mod, ok_pow, ok_divmod, ok_ifi, ixn30, ixn31, ixn32, sl_fz, sl_ls, sl_tp, pm_0, pm_1, Option.bind_some, ex_nx, tg_1, tg_t, wi_0, wi_1, sz0, sz1, sz2, sz3, sz4, sz5, sz6, sz7, sz8, bi_comb, cmp_lt, cmp_le, cmp_gt, cmp_ge, cmp_eqi, cmp_nei, cmp_eqs, cmp_nes, cmp_eqb, cmp_neb, is_non, is_int, is_ob, isn_non, isn_int, isn_ob, tru_b, tru_i, bi_int, bi_abs, bi_gcd, bi_lenl, bi_lenf, bi_lent, bi_tupl, bi_tupf, bi_isint, bi_isbool, bi_istup, ofO_s, ix_l, ix_f, ix_t, at_0, at_1, at_2, List.getElem?_cons_succ, List.getElem?_cons_zero, List.set_cons_succ, List.set_cons_zero, List.length_cons, List.length_nil, List.map_nil, List.map_cons, List.append_nil, List.nil_append, List.cons_append, Int.reduceLT, Int.reduceLE, Nat.reduceAdd, Nat.reduceLT, Nat.reduceLeDiff, Nat.zero_add, Nat.zero_lt_succ, if_true, if_false, Bool.false_eq_true, Bool.not_true, Bool.not_false, ne_eq, not_false_eq_true, reduceCtorEq, Option.some.injEq, and_true, true_and, Nat.lt_add_one, Nat.succ_ne_self, Nat.reduceEqDiff, decide_true, decide_false, decide_eq_true_eq, fin_nx, fin_rd, fin_ro, outs_0, os_s, og_o, rep_s, rep_0, Nat.reduceSub, e_rev, rv_l, rv_f, rv_t, is_bb, isn_bb, is_bn, isn_bn, is_sn, isn_sn, e_fw, c1_w_pool, c2_w_pool, c3_w_pool, c1_w_take, c2_w_take, c3_w_take, c1_w_of, c2_w_of, c3_w_of, c1_w_frac, c2_w_frac, c3_w_frac, c1_is_whole, c2_is_whole, c3_is_whole, c1_is_between, c2_is_between, c3_is_between, c1_wrong_number, c2_wrong_number, c3_wrong_number, c1_is_row, c2_is_row, c3_is_row, c1_without_noughts, c2_without_noughts, c3_without_noughts, c1_are_numbers, c2_are_numbers, c3_are_numbers, c1_check_numbers, c2_check_numbers, c3_check_numbers, c1_is_less, c2_is_less, c3_is_less, c1_is_tuple_of, c2_is_tuple_of, c3_is_tuple_of, c1_is_number, c2_is_number, c3_is_number, c1_is_number_d1, c2_is_number_d1, c3_is_number_d1, c1_is_number_d2, c2_is_number_d2, c3_is_number_d2, c1_is_fraction, c2_is_fraction, c3_is_fraction, c1_is_small_fraction, c2_is_small_fraction, c3_is_small_fraction, c1_check_fraction, c2_check_fraction, c3_check_fraction, c1_lowest, c2_lowest, c3_lowest, c1_plus, c2_plus, c3_plus, c1_times, c2_times, c3_times, c1_worth_by, c2_worth_by, c3_worth_by, c1_worth_at, c2_worth_at, c3_worth_at, c1_w_right, c2_w_right, c3_w_right, c1_law, c2_law, c3_law]
  refine (take_ok ha hb hb2 hc (by omega) (m := (low : Nat) + 1) (by omega) (by omega)).mono ?_
  rintro _ ⟨d, a3, b3, c3, rfl, d0, d1, k1, k2, k3, k4, k5⟩
  obtain ⟨x, rfl⟩ : ∃ x : Nat, d = (x : Int) := ⟨d.toNat, by omega⟩
  obtain ⟨p, q, e1, hg, hq, hq2, hp⟩ := fi_nat (a := x) (b := low) (by omega) (by omega)
  simp only [e_call0, e_callk0, e_g0, e_lc, ap_callM, e_v, e_k, e_ty, e_neg, e_bin, e_cmp, e_chn, e_and, e_or, e_not, e_one, e_ife, e_tup, e_lst, e_ix, e_sl, e_bi, e_app, e_ext, e_pop, a_nil, a_cons, o_nil, o_pt, b_and, b_or, b_not, b_tr, b_one, t_nil, t_cons, i_it, i_rng, i_enm, g_nm, g_ns, g_sub, g_tup, gs_nil, gs_cons, r_nil, r_cons, ap_d, ap_op, ap_un, ap_nil, ap_cons, ap_bi, vo_nil, vo_cons, ap_tru, ap_andB, ap_orB, ap_notB, ap_ife, ap_yes, gs_0, gs_1, gt_d, gns_d, gns_o, gnm_d, gnm_o, rw_0, rw_1, ap_par, sa_0, sa_t, sa_f, np, ap_pt, ap_sl, ap_lst, ap_tup, stab_0, stab_1, gB_ap, bl_ap, not_ap, neg_ap, ap_app, ap_apd, ap_and, ap_or, vM, vg_d, vg_o, sl_0, sl_c, so_v, so_d, sw_o, bk_n, bk_s, bg_o, fzM, fz_o, val_d, val_ow, val_v, vl_o, hand_d, hand_ow, hand_vw, gsub, s0_o, sg_o, appd, a0_o, ap_o, popd, pp_o, rt_d, rt_o, rt_v, r0_o, itd, it_l, it_f, it_t, end_, en_l, en_f, en_t, chn_ap, nv_d, nv_o, bind_ok', ok_ok, ok_bind, ok_guard, bin_add, bin_sub, ok_mul, ok_fdiv, ok_mod, ok_pow, ok_divmod, ok_ifi, ixn30, ixn31, ixn32, sl_fz, sl_ls, sl_tp, pm_0, pm_1, Option.bind_some, ex_nx, tg_1, tg_t, wi_0, wi_1, sz0, sz1, sz2, sz3, sz4, sz5, sz6, sz7, sz8, bi_comb, cmp_lt, cmp_le, cmp_gt, cmp_ge, cmp_eqi, cmp_nei, cmp_eqs, cmp_nes, cmp_eqb, cmp_neb, is_non, is_int, is_ob, isn_non, isn_int, isn_ob, tru_b, tru_i, bi_int, bi_abs, bi_gcd, bi_lenl, bi_lenf, bi_lent, bi_tupl, bi_tupf, bi_isint, bi_isbool, bi_istup, ofO_s, ix_l, ix_f, ix_t, at_0, at_1, at_2, List.getElem?_cons_succ, List.getElem?_cons_zero, List.set_cons_succ, List.set_cons_zero, List.length_cons, List.length_nil, List.map_nil, List.map_cons, List.append_nil, List.nil_append, List.cons_append, Int.reduceLT, Int.reduceLE, Nat.reduceAdd, Nat.reduceLT, Nat.reduceLeDiff, Nat.zero_add, Nat.zero_lt_succ, if_true, if_false, Bool.false_eq_true, Bool.not_true, Bool.not_false, ne_eq, not_false_eq_true, reduceCtorEq, Option.some.injEq, and_true, true_and, Nat.lt_add_one, Nat.succ_ne_self, Nat.reduceEqDiff, decide_true, decide_false, decide_eq_true_eq, fin_nx, fin_rd, fin_ro, outs_0, os_s, og_o, rep_s, rep_0, Nat.reduceSub, e_rev, rv_l, rv_f, rv_t, is_bb, isn_bb, is_bn, isn_bn, is_sn, isn_sn, e_fw, c1_w_pool, c2_w_pool, c3_w_pool, c1_w_take, c2_w_take, c3_w_take, c1_w_of, c2_w_of, c3_w_of, c1_w_frac, c2_w_frac, c3_w_frac, c1_is_whole, c2_is_whole, c3_is_whole, c1_is_between, c2_is_between, c3_is_between, c1_wrong_number, c2_wrong_number, c3_wrong_number, c1_is_row, c2_is_row, c3_is_row, c1_without_noughts, c2_without_noughts, c3_without_noughts, c1_are_numbers, c2_are_numbers, c3_are_numbers, c1_check_numbers, c2_check_numbers, c3_check_numbers, c1_is_less, c2_is_less, c3_is_less, c1_is_tuple_of, c2_is_tuple_of, c3_is_tuple_of, c1_is_number, c2_is_number, c3_is_number, c1_is_number_d1, c2_is_number_d1, c3_is_number_d1, c1_is_number_d2, c2_is_number_d2, c3_is_number_d2, c1_is_fraction, c2_is_fraction, c3_is_fraction, c1_is_small_fraction, c2_is_small_fraction, c3_is_small_fraction, c1_check_fraction, c2_check_fraction, c3_check_fraction, c1_lowest, c2_lowest, c3_lowest, c1_plus, c2_plus, c3_plus, c1_times, c2_times, c3_times, c1_worth_by, c2_worth_by, c3_worth_by, c1_worth_at, c2_worth_at, c3_worth_at, c1_w_right, c2_w_right, c3_w_right, c1_law, c2_law, c3_law, law_frac_i (a := (x : Int)) (b := low) (by omega) (Nat.le_trans (show low ≤ 2 ^ 10 by omega) (Nat.pow_le_pow_right (by decide) (by decide))), e1]
  refine run_asg ?_
  simp only [e_call0, e_callk0, e_g0, e_lc, ap_callM, e_v, e_k, e_ty, e_neg, e_bin, e_cmp, e_chn, e_and, e_or, e_not, e_one, e_ife, e_tup, e_lst, e_ix, e_sl, e_bi, e_app, e_ext, e_pop, a_nil, a_cons, o_nil, o_pt, b_and, b_or, b_not, b_tr, b_one, t_nil, t_cons, i_it, i_rng, i_enm, g_nm, g_ns, g_sub, g_tup, gs_nil, gs_cons, r_nil, r_cons, ap_d, ap_op, ap_un, ap_nil, ap_cons, ap_bi, vo_nil, vo_cons, ap_tru, ap_andB, ap_orB, ap_notB, ap_ife, ap_yes, gs_0, gs_1, gt_d, gns_d, gns_o, gnm_d, gnm_o, rw_0, rw_1, ap_par, sa_0, sa_t, sa_f, np, ap_pt, ap_sl, ap_lst, ap_tup, stab_0, stab_1, gB_ap, bl_ap, not_ap, neg_ap, ap_app, ap_apd, ap_and, ap_or, vM, vg_d, vg_o, sl_0, sl_c, so_v, so_d, sw_o, bk_n, bk_s, bg_o, fzM, fz_o, val_d, val_ow, val_v, vl_o, hand_d, hand_ow, hand_vw, gsub, s0_o, sg_o, appd, a0_o, ap_o, popd, pp_o, rt_d, rt_o, rt_v, r0_o, itd, it_l, it_f, it_t, end_, en_l, en_f, en_t, chn_ap, nv_d, nv_o, bind_ok', ok_ok, ok_bind, ok_guard, bin_add, bin_sub, ok_mul, ok_fdiv, ok_mod, ok_pow, ok_divmod, ok_ifi, ixn30, ixn31, ixn32, sl_fz, sl_ls, sl_tp, pm_0, pm_1, Option.bind_some, ex_nx, tg_1, tg_t, wi_0, wi_1, sz0, sz1, sz2, sz3, sz4, sz5, sz6, sz7, sz8, bi_comb, cmp_lt, cmp_le, cmp_gt, cmp_ge, cmp_eqi, cmp_nei, cmp_eqs, cmp_nes, cmp_eqb, cmp_neb, is_non, is_int, is_ob, isn_non, isn_int, isn_ob, tru_b, tru_i, bi_int, bi_abs, bi_gcd, bi_lenl, bi_lenf, bi_lent, bi_tupl, bi_tupf, bi_isint, bi_isbool, bi_istup, ofO_s, ix_l, ix_f, ix_t, at_0, at_1, at_2, List.getElem?_cons_succ, List.getElem?_cons_zero, List.set_cons_succ, List.set_cons_zero, List.length_cons, List.length_nil, List.map_nil, List.map_cons, List.append_nil, List.nil_append, List.cons_append, Int.reduceLT, Int.reduceLE, Nat.reduceAdd, Nat.reduceLT, Nat.reduceLeDiff, Nat.zero_add, Nat.zero_lt_succ, if_true, if_false, Bool.false_eq_true, Bool.not_true, Bool.not_false, ne_eq, not_false_eq_true, reduceCtorEq, Option.some.injEq, and_true, true_and, Nat.lt_add_one, Nat.succ_ne_self, Nat.reduceEqDiff, decide_true, decide_false, decide_eq_true_eq, fin_nx, fin_rd, fin_ro, outs_0, os_s, og_o, rep_s, rep_0, Nat.reduceSub, e_rev, rv_l, rv_f, rv_t, is_bb, isn_bb, is_bn, isn_bn, is_sn, isn_sn, e_fw, c1_w_pool, c2_w_pool, c3_w_pool, c1_w_take, c2_w_take, c3_w_take, c1_w_of, c2_w_of, c3_w_of, c1_w_frac, c2_w_frac, c3_w_frac, c1_is_whole, c2_is_whole, c3_is_whole, c1_is_between, c2_is_between, c3_is_between, c1_wrong_number, c2_wrong_number, c3_wrong_number, c1_is_row, c2_is_row, c3_is_row, c1_without_noughts, c2_without_noughts, c3_without_noughts, c1_are_numbers, c2_are_numbers, c3_are_numbers, c1_check_numbers, c2_check_numbers, c3_check_numbers, c1_is_less, c2_is_less, c3_is_less, c1_is_tuple_of, c2_is_tuple_of, c3_is_tuple_of, c1_is_number, c2_is_number, c3_is_number, c1_is_number_d1, c2_is_number_d1, c3_is_number_d1, c1_is_number_d2, c2_is_number_d2, c3_is_number_d2, c1_is_fraction, c2_is_fraction, c3_is_fraction, c1_is_small_fraction, c2_is_small_fraction, c3_is_small_fraction, c1_check_fraction, c2_check_fraction, c3_check_fraction, c1_lowest, c2_lowest, c3_lowest, c1_plus, c2_plus, c3_plus, c1_times, c2_times, c3_times, c1_worth_by, c2_worth_by, c3_worth_by, c1_worth_at, c2_worth_at, c3_worth_at, c1_w_right, c2_w_right, c3_w_right, c1_law, c2_law, c3_law]
  refine run_frI (fun i ρ => ∃ x9, ρ = [.ow .lst [.int a3, .int b3, .int c3], s1, s2, .st (.tup (l.map .int)), s4, .st (.int (low : Nat)), .st (.tup [.int (p : Nat), .int (q : Nat)]), .st (.int (wof p q (l.reverse.take i)).1), .st (.int ((wof p q (l.reverse.take i)).2 : Nat)), x9, s10]) ?_
  have rv : (l.map D.int).reverse = l.reverse.map .int := (List.map_reverse).symm
  simp only [e_call0, e_callk0, e_g0, e_lc, ap_callM, e_v, e_k, e_ty, e_neg, e_bin, e_cmp, e_chn, e_and, e_or, e_not, e_one, e_ife, e_tup, e_lst, e_ix, e_sl, e_bi, e_app, e_ext, e_pop, a_nil, a_cons, o_nil, o_pt, b_and, b_or, b_not, b_tr, b_one, t_nil, t_cons, i_it, i_rng, i_enm, g_nm, g_ns, g_sub, g_tup, gs_nil, gs_cons, r_nil, r_cons, ap_d, ap_op, ap_un, ap_nil, ap_cons, ap_bi, vo_nil, vo_cons, ap_tru, ap_andB, ap_orB, ap_notB, ap_ife, ap_yes, gs_0, gs_1, gt_d, gns_d, gns_o, gnm_d, gnm_o, rw_0, rw_1, ap_par, sa_0, sa_t, sa_f, np, ap_pt, ap_sl, ap_lst, ap_tup, stab_0, stab_1, gB_ap, bl_ap, not_ap, neg_ap, ap_app, ap_apd, ap_and, ap_or, vM, vg_d, vg_o, sl_0, sl_c, so_v, so_d, sw_o, bk_n, bk_s, bg_o, fzM, fz_o, val_d, val_ow, val_v, vl_o, hand_d, hand_ow, hand_vw, gsub, s0_o, sg_o, appd, a0_o, ap_o, popd, pp_o, rt_d, rt_o, rt_v, r0_o, itd, it_l, it_f, it_t, end_, en_l, en_f, en_t, chn_ap, nv_d, nv_o, bind_ok', ok_ok, ok_bind, ok_guard, bin_add, bin_sub, ok_mul, ok_fdiv, ok_mod, ok_pow, ok_divmod, ok_ifi, ixn30, ixn31, ixn32, sl_fz, sl_ls, sl_tp, pm_0, pm_1, Option.bind_some, ex_nx, tg_1, tg_t, wi_0, wi_1, sz0, sz1, sz2, sz3, sz4, sz5, sz6, sz7, sz8, bi_comb, cmp_lt, cmp_le, cmp_gt, cmp_ge, cmp_eqi, cmp_nei, cmp_eqs, cmp_nes, cmp_eqb, cmp_neb, is_non, is_int, is_ob, isn_non, isn_int, isn_ob, tru_b, tru_i, bi_int, bi_abs, bi_gcd, bi_lenl, bi_lenf, bi_lent, bi_tupl, bi_tupf, bi_isint, bi_isbool, bi_istup, ofO_s, ix_l, ix_f, ix_t, at_0, at_1, at_2, List.getElem?_cons_succ, List.getElem?_cons_zero, List.set_cons_succ, List.set_cons_zero, List.length_cons, List.length_nil, List.map_nil, List.map_cons, List.append_nil, List.nil_append, List.cons_append, Int.reduceLT, Int.reduceLE, Nat.reduceAdd, Nat.reduceLT, Nat.reduceLeDiff, Nat.zero_add, Nat.zero_lt_succ, if_true, if_false, Bool.false_eq_true, Bool.not_true, Bool.not_false, ne_eq, not_false_eq_true, reduceCtorEq, Option.some.injEq, and_true, true_and, Nat.lt_add_one, Nat.succ_ne_self, Nat.reduceEqDiff, decide_true, decide_false, decide_eq_true_eq, fin_nx, fin_rd, fin_ro, outs_0, os_s, og_o, rep_s, rep_0, Nat.reduceSub, e_rev, rv_l, rv_f, rv_t, is_bb, isn_bb, is_bn, isn_bn, is_sn, isn_sn, e_fw, c1_w_pool, c2_w_pool, c3_w_pool, c1_w_take, c2_w_take, c3_w_take, c1_w_of, c2_w_of, c3_w_of, c1_w_frac, c2_w_frac, c3_w_frac, c1_is_whole, c2_is_whole, c3_is_whole, c1_is_between, c2_is_between, c3_is_between, c1_wrong_number, c2_wrong_number, c3_wrong_number, c1_is_row, c2_is_row, c3_is_row, c1_without_noughts, c2_without_noughts, c3_without_noughts, c1_are_numbers, c2_are_numbers, c3_are_numbers, c1_check_numbers, c2_check_numbers, c3_check_numbers, c1_is_less, c2_is_less, c3_is_less, c1_is_tuple_of, c2_is_tuple_of, c3_is_tuple_of, c1_is_number, c2_is_number, c3_is_number, c1_is_number_d1, c2_is_number_d1, c3_is_number_d1, c1_is_number_d2, c2_is_number_d2, c3_is_number_d2, c1_is_fraction, c2_is_fraction, c3_is_fraction, c1_is_small_fraction, c2_is_small_fraction, c3_is_small_fraction, c1_check_fraction, c2_check_fraction, c3_check_fraction, c1_lowest, c2_lowest, c3_lowest, c1_plus, c2_plus, c3_plus, c1_times, c2_times, c3_times, c1_worth_by, c2_worth_by, c3_worth_by, c1_worth_at, c2_worth_at, c3_worth_at, c1_w_right, c2_w_right, c3_w_right, c1_law, c2_law, c3_law, rv]
  refine ⟨⟨_, rfl⟩, ?_, ?_⟩
  · rintro i d _ hd ⟨x9, rfl⟩
    rw [List.getElem?_map] at hd
    cases hn : l.reverse[i]? with
    | none => rw [hn] at hd; cases hd
    | some n =>
      rw [hn] at hd
      cases hd
      have n9 := h n (List.mem_reverse.mp (List.mem_of_getElem? hn))
      have tk : l.reverse.take (i + 1) = l.reverse.take i ++ [n] := by rw [List.take_succ, hn]; rfl
      obtain ⟨b1, b2, b3⟩ := wof_big (p := p) (q := q) (by omega) hq (by omega) (l := l.reverse.take i) (fun n hn => h n (List.mem_reverse.mp (List.mem_of_mem_take hn))) (by rw [List.length_take, List.length_reverse]; omega)
      rw [tk, wof_snoc]
      generalize wof p q (l.reverse.take i) = s at b1 b2 b3 ⊢
      obtain ⟨t, u⟩ := s
      simp only at b1 b2 b3
      have hw : wst p q (t, u) n = (t * p + n * u * q, u * q) := rfl
      rw [hw]
      have tb : (10 : Nat) ^ 40 ≤ 10 ^ 1000 := Nat.pow_le_pow_right (by decide) (by decide)
      have nu : (n * (u : Int)).natAbs ≤ 10 ^ 35 := by
        rw [Int.natAbs_mul, Int.natAbs_natCast]
        exact Nat.le_trans (Nat.mul_le_mul n9 b3) (by decide)
      have e2 : ((u : Nat) : Int) * (q : Nat) = ((u * q : Nat) : Int) := (Int.natCast_mul _ _).symm
      simp only [e_call0, e_callk0, e_g0, e_lc, ap_callM, e_v, e_k, e_ty, e_neg, e_bin, e_cmp, e_chn, e_and, e_or, e_not, e_one, e_ife, e_tup, e_lst, e_ix, e_sl, e_bi, e_app, e_ext, e_pop, a_nil, a_cons, o_nil, o_pt, b_and, b_or, b_not, b_tr, b_one, t_nil, t_cons, i_it, i_rng, i_enm, g_nm, g_ns, g_sub, g_tup, gs_nil, gs_cons, r_nil, r_cons, ap_d, ap_op, ap_un, ap_nil, ap_cons, ap_bi, vo_nil, vo_cons, ap_tru, ap_andB, ap_orB, ap_notB, ap_ife, ap_yes, gs_0, gs_1, gt_d, gns_d, gns_o, gnm_d, gnm_o, rw_0, rw_1, ap_par, sa_0, sa_t, sa_f, np, ap_pt, ap_sl, ap_lst, ap_tup, stab_0, stab_1, gB_ap, bl_ap, not_ap, neg_ap, ap_app, ap_apd, ap_and, ap_or, vM, vg_d, vg_o, sl_0, sl_c, so_v, so_d, sw_o, bk_n, bk_s, bg_o, fzM, fz_o, val_d, val_ow, val_v, vl_o, hand_d, hand_ow, hand_vw, gsub, s0_o, sg_o, appd, a0_o, ap_o, popd, pp_o, rt_d, rt_o, rt_v, r0_o, itd, it_l, it_f, it_t, end_, en_l, en_f, en_t, chn_ap, nv_d, nv_o, bind_ok', ok_ok, ok_bind, ok_guard, bin_add, bin_sub, ok_mul, ok_fdiv, ok_mod, ok_pow, ok_divmod, ok_ifi, ixn30, ixn31, ixn32, sl_fz, sl_ls, sl_tp, pm_0, pm_1, Option.bind_some, ex_nx, tg_1, tg_t, wi_0, wi_1, sz0, sz1, sz2, sz3, sz4, sz5, sz6, sz7, sz8, bi_comb, cmp_lt, cmp_le, cmp_gt, cmp_ge, cmp_eqi, cmp_nei, cmp_eqs, cmp_nes, cmp_eqb, cmp_neb, is_non, is_int, is_ob, isn_non, isn_int, isn_ob, tru_b, tru_i, bi_int, bi_abs, bi_gcd, bi_lenl, bi_lenf, bi_lent, bi_tupl, bi_tupf, bi_isint, bi_isbool, bi_istup, ofO_s, ix_l, ix_f, ix_t, at_0, at_1, at_2, List.getElem?_cons_succ, List.getElem?_cons_zero, List.set_cons_succ, List.set_cons_zero, List.length_cons, List.length_nil, List.map_nil, List.map_cons, List.append_nil, List.nil_append, List.cons_append, Int.reduceLT, Int.reduceLE, Nat.reduceAdd, Nat.reduceLT, Nat.reduceLeDiff, Nat.zero_add, Nat.zero_lt_succ, if_true, if_false, Bool.false_eq_true, Bool.not_true, Bool.not_false, ne_eq, not_false_eq_true, reduceCtorEq, Option.some.injEq, and_true, true_and, Nat.lt_add_one, Nat.succ_ne_self, Nat.reduceEqDiff, decide_true, decide_false, decide_eq_true_eq, fin_nx, fin_rd, fin_ro, outs_0, os_s, og_o, rep_s, rep_0, Nat.reduceSub, e_rev, rv_l, rv_f, rv_t, is_bb, isn_bb, is_bn, isn_bn, is_sn, isn_sn, e_fw, c1_w_pool, c2_w_pool, c3_w_pool, c1_w_take, c2_w_take, c3_w_take, c1_w_of, c2_w_of, c3_w_of, c1_w_frac, c2_w_frac, c3_w_frac, c1_is_whole, c2_is_whole, c3_is_whole, c1_is_between, c2_is_between, c3_is_between, c1_wrong_number, c2_wrong_number, c3_wrong_number, c1_is_row, c2_is_row, c3_is_row, c1_without_noughts, c2_without_noughts, c3_without_noughts, c1_are_numbers, c2_are_numbers, c3_are_numbers, c1_check_numbers, c2_check_numbers, c3_check_numbers, c1_is_less, c2_is_less, c3_is_less, c1_is_tuple_of, c2_is_tuple_of, c3_is_tuple_of, c1_is_number, c2_is_number, c3_is_number, c1_is_number_d1, c2_is_number_d1, c3_is_number_d1, c1_is_number_d2, c2_is_number_d2, c3_is_number_d2, c1_is_fraction, c2_is_fraction, c3_is_fraction, c1_is_small_fraction, c2_is_small_fraction, c3_is_small_fraction, c1_check_fraction, c2_check_fraction, c3_check_fraction, c1_lowest, c2_lowest, c3_lowest, c1_plus, c2_plus, c3_plus, c1_times, c2_times, c3_times, c1_worth_by, c2_worth_by, c3_worth_by, c1_worth_at, c2_worth_at, c3_worth_at, c1_w_right, c2_w_right, c3_w_right, c1_law, c2_law, c3_law]
      refine run_par' ?_
      simp only [e_call0, e_callk0, e_g0, e_lc, ap_callM, e_v, e_k, e_ty, e_neg, e_bin, e_cmp, e_chn, e_and, e_or, e_not, e_one, e_ife, e_tup, e_lst, e_ix, e_sl, e_bi, e_app, e_ext, e_pop, a_nil, a_cons, o_nil, o_pt, b_and, b_or, b_not, b_tr, b_one, t_nil, t_cons, i_it, i_rng, i_enm, g_nm, g_ns, g_sub, g_tup, gs_nil, gs_cons, r_nil, r_cons, ap_d, ap_op, ap_un, ap_nil, ap_cons, ap_bi, vo_nil, vo_cons, ap_tru, ap_andB, ap_orB, ap_notB, ap_ife, ap_yes, gs_0, gs_1, gt_d, gns_d, gns_o, gnm_d, gnm_o, rw_0, rw_1, ap_par, sa_0, sa_t, sa_f, np, ap_pt, ap_sl, ap_lst, ap_tup, stab_0, stab_1, gB_ap, bl_ap, not_ap, neg_ap, ap_app, ap_apd, ap_and, ap_or, vM, vg_d, vg_o, sl_0, sl_c, so_v, so_d, sw_o, bk_n, bk_s, bg_o, fzM, fz_o, val_d, val_ow, val_v, vl_o, hand_d, hand_ow, hand_vw, gsub, s0_o, sg_o, appd, a0_o, ap_o, popd, pp_o, rt_d, rt_o, rt_v, r0_o, itd, it_l, it_f, it_t, end_, en_l, en_f, en_t, chn_ap, nv_d, nv_o, bind_ok', ok_ok, ok_bind, ok_guard, bin_add, bin_sub, ok_mul, ok_fdiv, ok_mod, ok_pow, ok_divmod, ok_ifi, ixn30, ixn31, ixn32, sl_fz, sl_ls, sl_tp, pm_0, pm_1, Option.bind_some, ex_nx, tg_1, tg_t, wi_0, wi_1, sz0, sz1, sz2, sz3, sz4, sz5, sz6, sz7, sz8, bi_comb, cmp_lt, cmp_le, cmp_gt, cmp_ge, cmp_eqi, cmp_nei, cmp_eqs, cmp_nes, cmp_eqb, cmp_neb, is_non, is_int, is_ob, isn_non, isn_int, isn_ob, tru_b, tru_i, bi_int, bi_abs, bi_gcd, bi_lenl, bi_lenf, bi_lent, bi_tupl, bi_tupf, bi_isint, bi_isbool, bi_istup, ofO_s, ix_l, ix_f, ix_t, at_0, at_1, at_2, List.getElem?_cons_succ, List.getElem?_cons_zero, List.set_cons_succ, List.set_cons_zero, List.length_cons, List.length_nil, List.map_nil, List.map_cons, List.append_nil, List.nil_append, List.cons_append, Int.reduceLT, Int.reduceLE, Nat.reduceAdd, Nat.reduceLT, Nat.reduceLeDiff, Nat.zero_add, Nat.zero_lt_succ, if_true, if_false, Bool.false_eq_true, Bool.not_true, Bool.not_false, ne_eq, not_false_eq_true, reduceCtorEq, Option.some.injEq, and_true, true_and, Nat.lt_add_one, Nat.succ_ne_self, Nat.reduceEqDiff, decide_true, decide_false, decide_eq_true_eq, fin_nx, fin_rd, fin_ro, outs_0, os_s, og_o, rep_s, rep_0, Nat.reduceSub, e_rev, rv_l, rv_f, rv_t, is_bb, isn_bb, is_bn, isn_bn, is_sn, isn_sn, e_fw, c1_w_pool, c2_w_pool, c3_w_pool, c1_w_take, c2_w_take, c3_w_take, c1_w_of, c2_w_of, c3_w_of, c1_w_frac, c2_w_frac, c3_w_frac, c1_is_whole, c2_is_whole, c3_is_whole, c1_is_between, c2_is_between, c3_is_between, c1_wrong_number, c2_wrong_number, c3_wrong_number, c1_is_row, c2_is_row, c3_is_row, c1_without_noughts, c2_without_noughts, c3_without_noughts, c1_are_numbers, c2_are_numbers, c3_are_numbers, c1_check_numbers, c2_check_numbers, c3_check_numbers, c1_is_less, c2_is_less, c3_is_less, c1_is_tuple_of, c2_is_tuple_of, c3_is_tuple_of, c1_is_number, c2_is_number, c3_is_number, c1_is_number_d1, c2_is_number_d1, c3_is_number_d1, c1_is_number_d2, c2_is_number_d2, c3_is_number_d2, c1_is_fraction, c2_is_fraction, c3_is_fraction, c1_is_small_fraction, c2_is_small_fraction, c3_is_small_fraction, c1_check_fraction, c2_check_fraction, c3_check_fraction, c1_lowest, c2_lowest, c3_lowest, c1_plus, c2_plus, c3_plus, c1_times, c2_times, c3_times, c1_worth_by, c2_worth_by, c3_worth_by, c1_worth_at, c2_worth_at, c3_worth_at, c1_w_right, c2_w_right, c3_w_right, c1_law, c2_law, c3_law, e2, Int.natAbs_natCast]
      exact ⟨⟨big_of (by omega), big_of (by omega)⟩, ⟨big_of (by omega), big_of (by omega)⟩, ⟨big_of (by omega), big_of (by omega)⟩, ⟨big_of (by omega), big_of (by omega)⟩, run_nxe ⟨_, rfl⟩⟩
  · rintro _ ⟨x9, rfl⟩
    rw [List.length_map, List.take_length]
    obtain ⟨b1, b2, b3⟩ := wof_big (p := p) (q := q) (by omega) hq (by omega) (l := l.reverse) (fun n hn => h n (List.mem_reverse.mp hn)) (by rw [List.length_reverse]; omega)
    have wa := worth_at_ok (p := p) (q := q) (l := l) hg hp hq (by omega) h h0 hl ht
    generalize wof p q l.reverse = s at b1 b2 b3 wa ⊢
    obtain ⟨t, u⟩ := s
    simp only at b1 b2 b3 wa
    obtain ⟨rs, hr⟩ := nice_repr (nice_two (nice_fi (a := t) (b := u) (k := 140) (Nat.lt_of_le_of_lt b1 (by decide)) (Nat.lt_of_le_of_lt b3 (by decide)) (by decide))) (by decide) (by decide)
    refine run_asg ?_
    simp only [e_call0, e_callk0, e_g0, e_lc, ap_callM, e_v, e_k, e_ty, e_neg, e_bin, e_cmp, e_chn, e_and, e_or, e_not, e_one, e_ife, e_tup, e_lst, e_ix, e_sl, e_bi, e_app, e_ext, e_pop, a_nil, a_cons, o_nil, o_pt, b_and, b_or, b_not, b_tr, b_one, t_nil, t_cons, i_it, i_rng, i_enm, g_nm, g_ns, g_sub, g_tup, gs_nil, gs_cons, r_nil, r_cons, ap_d, ap_op, ap_un, ap_nil, ap_cons, ap_bi, vo_nil, vo_cons, ap_tru, ap_andB, ap_orB, ap_notB, ap_ife, ap_yes, gs_0, gs_1, gt_d, gns_d, gns_o, gnm_d, gnm_o, rw_0, rw_1, ap_par, sa_0, sa_t, sa_f, np, ap_pt, ap_sl, ap_lst, ap_tup, stab_0, stab_1, gB_ap, bl_ap, not_ap, neg_ap, ap_app, ap_apd, ap_and, ap_or, vM, vg_d, vg_o, sl_0, sl_c, so_v, so_d, sw_o, bk_n, bk_s, bg_o, fzM, fz_o, val_d, val_ow, val_v, vl_o, hand_d, hand_ow, hand_vw, gsub, s0_o, sg_o, appd, a0_o, ap_o, popd, pp_o, rt_d, rt_o, rt_v, r0_o, itd, it_l, it_f, it_t, end_, en_l, en_f, en_t, chn_ap, nv_d, nv_o, bind_ok', ok_ok, ok_bind, ok_guard, bin_add, bin_sub, ok_mul, ok_fdiv, ok_mod, ok_pow, ok_divmod, ok_ifi, ixn30, ixn31, ixn32, sl_fz, sl_ls, sl_tp, pm_0, pm_1, Option.bind_some, ex_nx, tg_1, tg_t, wi_0, wi_1, sz0, sz1, sz2, sz3, sz4, sz5, sz6, sz7, sz8, bi_comb, cmp_lt, cmp_le, cmp_gt, cmp_ge, cmp_eqi, cmp_nei, cmp_eqs, cmp_nes, cmp_eqb, cmp_neb, is_non, is_int, is_ob, isn_non, isn_int, isn_ob, tru_b, tru_i, bi_int, bi_abs, bi_gcd, bi_lenl, bi_lenf, bi_lent, bi_tupl, bi_tupf, bi_isint, bi_isbool, bi_istup, ofO_s, ix_l, ix_f, ix_t, at_0, at_1, at_2, List.getElem?_cons_succ, List.getElem?_cons_zero, List.set_cons_succ, List.set_cons_zero, List.length_cons, List.length_nil, List.map_nil, List.map_cons, List.append_nil, List.nil_append, List.cons_append, Int.reduceLT, Int.reduceLE, Nat.reduceAdd, Nat.reduceLT, Nat.reduceLeDiff, Nat.zero_add, Nat.zero_lt_succ, if_true, if_false, Bool.false_eq_true, Bool.not_true, Bool.not_false, ne_eq, not_false_eq_true, reduceCtorEq, Option.some.injEq, and_true, true_and, Nat.lt_add_one, Nat.succ_ne_self, Nat.reduceEqDiff, decide_true, decide_false, decide_eq_true_eq, fin_nx, fin_rd, fin_ro, outs_0, os_s, og_o, rep_s, rep_0, Nat.reduceSub, e_rev, rv_l, rv_f, rv_t, is_bb, isn_bb, is_bn, isn_bn, is_sn, isn_sn, e_fw, c1_w_pool, c2_w_pool, c3_w_pool, c1_w_take, c2_w_take, c3_w_take, c1_w_of, c2_w_of, c3_w_of, c1_w_frac, c2_w_frac, c3_w_frac, c1_is_whole, c2_is_whole, c3_is_whole, c1_is_between, c2_is_between, c3_is_between, c1_wrong_number, c2_wrong_number, c3_wrong_number, c1_is_row, c2_is_row, c3_is_row, c1_without_noughts, c2_without_noughts, c3_without_noughts, c1_are_numbers, c2_are_numbers, c3_are_numbers, c1_check_numbers, c2_check_numbers, c3_check_numbers, c1_is_less, c2_is_less, c3_is_less, c1_is_tuple_of, c2_is_tuple_of, c3_is_tuple_of, c1_is_number, c2_is_number, c3_is_number, c1_is_number_d1, c2_is_number_d1, c3_is_number_d1, c1_is_number_d2, c2_is_number_d2, c3_is_number_d2, c1_is_fraction, c2_is_fraction, c3_is_fraction, c1_is_small_fraction, c2_is_small_fraction, c3_is_small_fraction, c1_check_fraction, c2_check_fraction, c3_check_fraction, c1_lowest, c2_lowest, c3_lowest, c1_plus, c2_plus, c3_plus, c1_times, c2_times, c3_times, c1_worth_by, c2_worth_by, c3_worth_by, c1_worth_at, c2_worth_at, c3_worth_at, c1_w_right, c2_w_right, c3_w_right, c1_law, c2_law, c3_law, law_frac_i (a := t) (b := u) (by omega) (Nat.le_trans b3 (Nat.le_trans (show 10 ^ 30 ≤ 2 ^ 100 by decide) (Nat.pow_le_pow_right (by decide) (by decide))))]
    refine run_ifr ?_
    simp only [e_call0, e_callk0, e_g0, e_lc, ap_callM, e_v, e_k, e_ty, e_neg, e_bin, e_cmp, e_chn, e_and, e_or, e_not, e_one, e_ife, e_tup, e_lst, e_ix, e_sl, e_bi, e_app, e_ext, e_pop, a_nil, a_cons, o_nil, o_pt, b_and, b_or, b_not, b_tr, b_one, t_nil, t_cons, i_it, i_rng, i_enm, g_nm, g_ns, g_sub, g_tup, gs_nil, gs_cons, r_nil, r_cons, ap_d, ap_op, ap_un, ap_nil, ap_cons, ap_bi, vo_nil, vo_cons, ap_tru, ap_andB, ap_orB, ap_notB, ap_ife, ap_yes, gs_0, gs_1, gt_d, gns_d, gns_o, gnm_d, gnm_o, rw_0, rw_1, ap_par, sa_0, sa_t, sa_f, np, ap_pt, ap_sl, ap_lst, ap_tup, stab_0, stab_1, gB_ap, bl_ap, not_ap, neg_ap, ap_app, ap_apd, ap_and, ap_or, vM, vg_d, vg_o, sl_0, sl_c, so_v, so_d, sw_o, bk_n, bk_s, bg_o, fzM, fz_o, val_d, val_ow, val_v, vl_o, hand_d, hand_ow, hand_vw, gsub, s0_o, sg_o, appd, a0_o, ap_o, popd, pp_o, rt_d, rt_o, rt_v, r0_o, itd, it_l, it_f, it_t, end_, en_l, en_f, en_t, chn_ap, nv_d, nv_o, bind_ok', ok_ok, ok_bind, ok_guard, bin_add, bin_sub, ok_mul, ok_fdiv, ok_mod, ok_pow, ok_divmod, ok_ifi, ixn30, ixn31, ixn32, sl_fz, sl_ls, sl_tp, pm_0, pm_1, Option.bind_some, ex_nx, tg_1, tg_t, wi_0, wi_1, sz0, sz1, sz2, sz3, sz4, sz5, sz6, sz7, sz8, bi_comb, cmp_lt, cmp_le, cmp_gt, cmp_ge, cmp_eqi, cmp_nei, cmp_eqs, cmp_nes, cmp_eqb, cmp_neb, is_non, is_int, is_ob, isn_non, isn_int, isn_ob, tru_b, tru_i, bi_int, bi_abs, bi_gcd, bi_lenl, bi_lenf, bi_lent, bi_tupl, bi_tupf, bi_isint, bi_isbool, bi_istup, ofO_s, ix_l, ix_f, ix_t, at_0, at_1, at_2, List.getElem?_cons_succ, List.getElem?_cons_zero, List.set_cons_succ, List.set_cons_zero, List.length_cons, List.length_nil, List.map_nil, List.map_cons, List.append_nil, List.nil_append, List.cons_append, Int.reduceLT, Int.reduceLE, Nat.reduceAdd, Nat.reduceLT, Nat.reduceLeDiff, Nat.zero_add, Nat.zero_lt_succ, if_true, if_false, Bool.false_eq_true, Bool.not_true, Bool.not_false, ne_eq, not_false_eq_true, reduceCtorEq, Option.some.injEq, and_true, true_and, Nat.lt_add_one, Nat.succ_ne_self, Nat.reduceEqDiff, decide_true, decide_false, decide_eq_true_eq, fin_nx, fin_rd, fin_ro, outs_0, os_s, og_o, rep_s, rep_0, Nat.reduceSub, e_rev, rv_l, rv_f, rv_t, is_bb, isn_bb, is_bn, isn_bn, is_sn, isn_sn, e_fw, c1_w_pool, c2_w_pool, c3_w_pool, c1_w_take, c2_w_take, c3_w_take, c1_w_of, c2_w_of, c3_w_of, c1_w_frac, c2_w_frac, c3_w_frac, c1_is_whole, c2_is_whole, c3_is_whole, c1_is_between, c2_is_between, c3_is_between, c1_wrong_number, c2_wrong_number, c3_wrong_number, c1_is_row, c2_is_row, c3_is_row, c1_without_noughts, c2_without_noughts, c3_without_noughts, c1_are_numbers, c2_are_numbers, c3_are_numbers, c1_check_numbers, c2_check_numbers, c3_check_numbers, c1_is_less, c2_is_less, c3_is_less, c1_is_tuple_of, c2_is_tuple_of, c3_is_tuple_of, c1_is_number, c2_is_number, c3_is_number, c1_is_number_d1, c2_is_number_d1, c3_is_number_d1, c1_is_number_d2, c2_is_number_d2, c3_is_number_d2, c1_is_fraction, c2_is_fraction, c3_is_fraction, c1_is_small_fraction, c2_is_small_fraction, c3_is_small_fraction, c1_check_fraction, c2_check_fraction, c3_check_fraction, c1_lowest, c2_lowest, c3_lowest, c1_plus, c2_plus, c3_plus, c1_times, c2_times, c3_times, c1_worth_by, c2_worth_by, c3_worth_by, c1_worth_at, c2_worth_at, c3_worth_at, c1_w_right, c2_w_right, c3_w_right, c1_law, c2_law, c3_law, wa, hr]
    refine run_nx (.inl ⟨_, rfl, ?_⟩)
    refine run_nx ?_
    exact ⟨_, _, _, _, _, _, _, _, rfl, k1, k2, k3, k4, by omega⟩
theorem last_ok : f_worth_at [.st (.tup [.int 0, .int 2, .int (-2)]), .st (.tup [.int 1, .int 3])] = .ok (.d (fracI 12 27), [.un, .un]) := by
  have := worth_at_ok (p := 1) (q := 3) (l := [0, 2, -2]) (by decide) (by decide) (by decide) (by decide) (by decide) (by decide) (by decide) rfl
  exact this
theorem right_ok {a b c m : Int} (ha : 0 ≤ a) (hb : 0 ≤ b) (hb2 : b < 2147483399) (hc : 0 ≤ c) (hc2 : c < 900000) (hm : 0 < m) (hm2 : m ≤ 10) : Ok (f_w_right [.ow .lst [.int a, .int b, .int c], .st (.int m)]) fun y => ∃ a' b' c', y = (.d (.bl true), [.ow .lst [.int a', .int b', .int c'], .un]) ∧ 0 ≤ a' ∧ 0 ≤ b' ∧ b' < 2147483399 ∧ 0 ≤ c' ∧ c' ≤ c + 60 := by
  refine fn_run rfl ?_
  refine run_asg ?_
  simp only [e_call0, e_callk0, e_g0, e_lc, ap_callM, e_v, e_k, e_ty, e_neg, e_bin, e_cmp, e_chn, e_and, e_or, e_not, e_one, e_ife, e_tup, e_lst, e_ix, e_sl, e_bi, e_app, e_ext, e_pop, a_nil, a_cons, o_nil, o_pt, b_and, b_or, b_not, b_tr, b_one, t_nil, t_cons, i_it, i_rng, i_enm, g_nm, g_ns, g_sub, g_tup, gs_nil, gs_cons, r_nil, r_cons, ap_d, ap_op, ap_un, ap_nil, ap_cons, ap_bi, vo_nil, vo_cons, ap_tru, ap_andB, ap_orB, ap_notB, ap_ife, ap_yes, gs_0, gs_1, gt_d, gns_d, gns_o, gnm_d, gnm_o, rw_0, rw_1, ap_par, sa_0, sa_t, sa_f, np, ap_pt, ap_sl, ap_lst, ap_tup, stab_0, stab_1, gB_ap, bl_ap, not_ap, neg_ap, ap_app, ap_apd, ap_and, ap_or, vM, vg_d, vg_o, sl_0, sl_c, so_v, so_d, sw_o, bk_n, bk_s, bg_o, fzM, fz_o, val_d, val_ow, val_v, vl_o, hand_d, hand_ow, hand_vw, gsub, s0_o, sg_o, appd, a0_o, ap_o, popd, pp_o, rt_d, rt_o, rt_v, r0_o, itd, it_l, it_f, it_t, end_, en_l, en_f, en_t, chn_ap, nv_d, nv_o, bind_ok', ok_ok, ok_bind, ok_guard, bin_add, bin_sub, ok_mul, ok_fdiv, ok_mod, ok_pow, ok_divmod, ok_ifi, ixn30, ixn31, ixn32, sl_fz, sl_ls, sl_tp, pm_0, pm_1, Option.bind_some, ex_nx, tg_1, tg_t, wi_0, wi_1, sz0, sz1, sz2, sz3, sz4, sz5, sz6, sz7, sz8, bi_comb, cmp_lt, cmp_le, cmp_gt, cmp_ge, cmp_eqi, cmp_nei, cmp_eqs, cmp_nes, cmp_eqb, cmp_neb, is_non, is_int, is_ob, isn_non, isn_int, isn_ob, tru_b, tru_i, bi_int, bi_abs, bi_gcd, bi_lenl, bi_lenf, bi_lent, bi_tupl, bi_tupf, bi_isint, bi_isbool, bi_istup, ofO_s, ix_l, ix_f, ix_t, at_0, at_1, at_2, List.getElem?_cons_succ, List.getElem?_cons_zero, List.set_cons_succ, List.set_cons_zero, List.length_cons, List.length_nil, List.map_nil, List.map_cons, List.append_nil, List.nil_append, List.cons_append, Int.reduceLT, Int.reduceLE, Nat.reduceAdd, Nat.reduceLT, Nat.reduceLeDiff, Nat.zero_add, Nat.zero_lt_succ, if_true, if_false, Bool.false_eq_true, Bool.not_true, Bool.not_false, ne_eq, not_false_eq_true, reduceCtorEq, Option.some.injEq, and_true, true_and, Nat.lt_add_one, Nat.succ_ne_self, Nat.reduceEqDiff, decide_true, decide_false, decide_eq_true_eq, fin_nx, fin_rd, fin_ro, outs_0, os_s, og_o, rep_s, rep_0, Nat.reduceSub, e_rev, rv_l, rv_f, rv_t, is_bb, isn_bb, is_bn, isn_bn, is_sn, isn_sn, e_fw, c1_w_pool, c2_w_pool, c3_w_pool, c1_w_take, c2_w_take, c3_w_take, c1_w_of, c2_w_of, c3_w_of, c1_w_frac, c2_w_frac, c3_w_frac, c1_is_whole, c2_is_whole, c3_is_whole, c1_is_between, c2_is_between, c3_is_between, c1_wrong_number, c2_wrong_number, c3_wrong_number, c1_is_row, c2_is_row, c3_is_row, c1_without_noughts, c2_without_noughts, c3_without_noughts, c1_are_numbers, c2_are_numbers, c3_are_numbers, c1_check_numbers, c2_check_numbers, c3_check_numbers, c1_is_less, c2_is_less, c3_is_less, c1_is_tuple_of, c2_is_tuple_of, c3_is_tuple_of, c1_is_number, c2_is_number, c3_is_number, c1_is_number_d1, c2_is_number_d1, c3_is_number_d1, c1_is_number_d2, c2_is_number_d2, c3_is_number_d2, c1_is_fraction, c2_is_fraction, c3_is_fraction, c1_is_small_fraction, c2_is_small_fraction, c3_is_small_fraction, c1_check_fraction, c2_check_fraction, c3_check_fraction, c1_lowest, c2_lowest, c3_lowest, c1_plus, c2_plus, c3_plus, c1_times, c2_times, c3_times, c1_worth_by, c2_worth_by, c3_worth_by, c1_worth_at, c2_worth_at, c3_worth_at, c1_w_right, c2_w_right, c3_w_right, c1_law, c2_law, c3_law]
  refine (of_ok (l := [3, 20, 9999]) ha hb hb2 hc (by omega) (by decide) (by decide)).mono ?_
  rintro _ ⟨w, a1, b1, c1, hw, rfl, h1, h2, h3, h4, h5⟩
  have w2 : 1 ≤ w ∧ w ≤ 9999 := by
    simp only [List.mem_cons, List.not_mem_nil, or_false] at hw
    omega
  simp only [e_call0, e_callk0, e_g0, e_lc, ap_callM, e_v, e_k, e_ty, e_neg, e_bin, e_cmp, e_chn, e_and, e_or, e_not, e_one, e_ife, e_tup, e_lst, e_ix, e_sl, e_bi, e_app, e_ext, e_pop, a_nil, a_cons, o_nil, o_pt, b_and, b_or, b_not, b_tr, b_one, t_nil, t_cons, i_it, i_rng, i_enm, g_nm, g_ns, g_sub, g_tup, gs_nil, gs_cons, r_nil, r_cons, ap_d, ap_op, ap_un, ap_nil, ap_cons, ap_bi, vo_nil, vo_cons, ap_tru, ap_andB, ap_orB, ap_notB, ap_ife, ap_yes, gs_0, gs_1, gt_d, gns_d, gns_o, gnm_d, gnm_o, rw_0, rw_1, ap_par, sa_0, sa_t, sa_f, np, ap_pt, ap_sl, ap_lst, ap_tup, stab_0, stab_1, gB_ap, bl_ap, not_ap, neg_ap, ap_app, ap_apd, ap_and, ap_or, vM, vg_d, vg_o, sl_0, sl_c, so_v, so_d, sw_o, bk_n, bk_s, bg_o, fzM, fz_o, val_d, val_ow, val_v, vl_o, hand_d, hand_ow, hand_vw, gsub, s0_o, sg_o, appd, a0_o, ap_o, popd, pp_o, rt_d, rt_o, rt_v, r0_o, itd, it_l, it_f, it_t, end_, en_l, en_f, en_t, chn_ap, nv_d, nv_o, bind_ok', ok_ok, ok_bind, ok_guard, bin_add, bin_sub, ok_mul, ok_fdiv, ok_mod, ok_pow, ok_divmod, ok_ifi, ixn30, ixn31, ixn32, sl_fz, sl_ls, sl_tp, pm_0, pm_1, Option.bind_some, ex_nx, tg_1, tg_t, wi_0, wi_1, sz0, sz1, sz2, sz3, sz4, sz5, sz6, sz7, sz8, bi_comb, cmp_lt, cmp_le, cmp_gt, cmp_ge, cmp_eqi, cmp_nei, cmp_eqs, cmp_nes, cmp_eqb, cmp_neb, is_non, is_int, is_ob, isn_non, isn_int, isn_ob, tru_b, tru_i, bi_int, bi_abs, bi_gcd, bi_lenl, bi_lenf, bi_lent, bi_tupl, bi_tupf, bi_isint, bi_isbool, bi_istup, ofO_s, ix_l, ix_f, ix_t, at_0, at_1, at_2, List.getElem?_cons_succ, List.getElem?_cons_zero, List.set_cons_succ, List.set_cons_zero, List.length_cons, List.length_nil, List.map_nil, List.map_cons, List.append_nil, List.nil_append, List.cons_append, Int.reduceLT, Int.reduceLE, Nat.reduceAdd, Nat.reduceLT, Nat.reduceLeDiff, Nat.zero_add, Nat.zero_lt_succ, if_true, if_false, Bool.false_eq_true, Bool.not_true, Bool.not_false, ne_eq, not_false_eq_true, reduceCtorEq, Option.some.injEq, and_true, true_and, Nat.lt_add_one, Nat.succ_ne_self, Nat.reduceEqDiff, decide_true, decide_false, decide_eq_true_eq, fin_nx, fin_rd, fin_ro, outs_0, os_s, og_o, rep_s, rep_0, Nat.reduceSub, e_rev, rv_l, rv_f, rv_t, is_bb, isn_bb, is_bn, isn_bn, is_sn, isn_sn, e_fw, c1_w_pool, c2_w_pool, c3_w_pool, c1_w_take, c2_w_take, c3_w_take, c1_w_of, c2_w_of, c3_w_of, c1_w_frac, c2_w_frac, c3_w_frac, c1_is_whole, c2_is_whole, c3_is_whole, c1_is_between, c2_is_between, c3_is_between, c1_wrong_number, c2_wrong_number, c3_wrong_number, c1_is_row, c2_is_row, c3_is_row, c1_without_noughts, c2_without_noughts, c3_without_noughts, c1_are_numbers, c2_are_numbers, c3_are_numbers, c1_check_numbers, c2_check_numbers, c3_check_numbers, c1_is_less, c2_is_less, c3_is_less, c1_is_tuple_of, c2_is_tuple_of, c3_is_tuple_of, c1_is_number, c2_is_number, c3_is_number, c1_is_number_d1, c2_is_number_d1, c3_is_number_d1, c1_is_number_d2, c2_is_number_d2, c3_is_number_d2, c1_is_fraction, c2_is_fraction, c3_is_fraction, c1_is_small_fraction, c2_is_small_fraction, c3_is_small_fraction, c1_check_fraction, c2_check_fraction, c3_check_fraction, c1_lowest, c2_lowest, c3_lowest, c1_plus, c2_plus, c3_plus, c1_times, c2_times, c3_times, c1_worth_by, c2_worth_by, c3_worth_by, c1_worth_at, c2_worth_at, c3_worth_at, c1_w_right, c2_w_right, c3_w_right, c1_law, c2_law, c3_law]
  refine run_asg ?_
  refine (nums_ok h1 h2 h3 h4 (by omega) hm hm2 w2.1 w2.2).mono ?_
  rintro _ ⟨l, a2, b2, c2, rfl, l0, l9, ll, g1, g2, g3, g4, g5⟩
  simp only [e_call0, e_callk0, e_g0, e_lc, ap_callM, e_v, e_k, e_ty, e_neg, e_bin, e_cmp, e_chn, e_and, e_or, e_not, e_one, e_ife, e_tup, e_lst, e_ix, e_sl, e_bi, e_app, e_ext, e_pop, a_nil, a_cons, o_nil, o_pt, b_and, b_or, b_not, b_tr, b_one, t_nil, t_cons, i_it, i_rng, i_enm, g_nm, g_ns, g_sub, g_tup, gs_nil, gs_cons, r_nil, r_cons, ap_d, ap_op, ap_un, ap_nil, ap_cons, ap_bi, vo_nil, vo_cons, ap_tru, ap_andB, ap_orB, ap_notB, ap_ife, ap_yes, gs_0, gs_1, gt_d, gns_d, gns_o, gnm_d, gnm_o, rw_0, rw_1, ap_par, sa_0, sa_t, sa_f, np, ap_pt, ap_sl, ap_lst, ap_tup, stab_0, stab_1, gB_ap, bl_ap, not_ap, neg_ap, ap_app, ap_apd, ap_and, ap_or, vM, vg_d, vg_o, sl_0, sl_c, so_v, so_d, sw_o, bk_n, bk_s, bg_o, fzM, fz_o, val_d, val_ow, val_v, vl_o, hand_d, hand_ow, hand_vw, gsub, s0_o, sg_o, appd, a0_o, ap_o, popd, pp_o, rt_d, rt_o, rt_v, r0_o, itd, it_l, it_f, it_t, end_, en_l, en_f, en_t, chn_ap, nv_d, nv_o, bind_ok', ok_ok, ok_bind, ok_guard, bin_add, bin_sub, ok_mul, ok_fdiv, ok_mod, ok_pow, ok_divmod, ok_ifi, ixn30, ixn31, ixn32, sl_fz, sl_ls, sl_tp, pm_0, pm_1, Option.bind_some, ex_nx, tg_1, tg_t, wi_0, wi_1, sz0, sz1, sz2, sz3, sz4, sz5, sz6, sz7, sz8, bi_comb, cmp_lt, cmp_le, cmp_gt, cmp_ge, cmp_eqi, cmp_nei, cmp_eqs, cmp_nes, cmp_eqb, cmp_neb, is_non, is_int, is_ob, isn_non, isn_int, isn_ob, tru_b, tru_i, bi_int, bi_abs, bi_gcd, bi_lenl, bi_lenf, bi_lent, bi_tupl, bi_tupf, bi_isint, bi_isbool, bi_istup, ofO_s, ix_l, ix_f, ix_t, at_0, at_1, at_2, List.getElem?_cons_succ, List.getElem?_cons_zero, List.set_cons_succ, List.set_cons_zero, List.length_cons, List.length_nil, List.map_nil, List.map_cons, List.append_nil, List.nil_append, List.cons_append, Int.reduceLT, Int.reduceLE, Nat.reduceAdd, Nat.reduceLT, Nat.reduceLeDiff, Nat.zero_add, Nat.zero_lt_succ, if_true, if_false, Bool.false_eq_true, Bool.not_true, Bool.not_false, ne_eq, not_false_eq_true, reduceCtorEq, Option.some.injEq, and_true, true_and, Nat.lt_add_one, Nat.succ_ne_self, Nat.reduceEqDiff, decide_true, decide_false, decide_eq_true_eq, fin_nx, fin_rd, fin_ro, outs_0, os_s, og_o, rep_s, rep_0, Nat.reduceSub, e_rev, rv_l, rv_f, rv_t, is_bb, isn_bb, is_bn, isn_bn, is_sn, isn_sn, e_fw, c1_w_pool, c2_w_pool, c3_w_pool, c1_w_take, c2_w_take, c3_w_take, c1_w_of, c2_w_of, c3_w_of, c1_w_frac, c2_w_frac, c3_w_frac, c1_is_whole, c2_is_whole, c3_is_whole, c1_is_between, c2_is_between, c3_is_between, c1_wrong_number, c2_wrong_number, c3_wrong_number, c1_is_row, c2_is_row, c3_is_row, c1_without_noughts, c2_without_noughts, c3_without_noughts, c1_are_numbers, c2_are_numbers, c3_are_numbers, c1_check_numbers, c2_check_numbers, c3_check_numbers, c1_is_less, c2_is_less, c3_is_less, c1_is_tuple_of, c2_is_tuple_of, c3_is_tuple_of, c1_is_number, c2_is_number, c3_is_number, c1_is_number_d1, c2_is_number_d1, c3_is_number_d1, c1_is_number_d2, c2_is_number_d2, c3_is_number_d2, c1_is_fraction, c2_is_fraction, c3_is_fraction, c1_is_small_fraction, c2_is_small_fraction, c3_is_small_fraction, c1_check_fraction, c2_check_fraction, c3_check_fraction, c1_lowest, c2_lowest, c3_lowest, c1_plus, c2_plus, c3_plus, c1_times, c2_times, c3_times, c1_worth_by, c2_worth_by, c3_worth_by, c1_worth_at, c2_worth_at, c3_worth_at, c1_w_right, c2_w_right, c3_w_right, c1_law, c2_law, c3_law]
  refine run_asg ?_
  obtain ⟨l2, x, rfl⟩ : ∃ l2 x, l = l2 ++ [x] := ⟨l.dropLast, l.getLast l0, (List.dropLast_concat_getLast l0).symm⟩
  have third : Ok (evE cf_w_right (.ife (.or (.tr (.cmp .NotEq (.ix (.v 3) (.neg (.k (.int 1)))) (.k (.int 0)))) (.one (.tr (.cmp .Eq (.bi .len (.cons (.v 3) .nil)) (.k (.int 1)))))) (.bi .tuple (.cons (.v 3) .nil)) (.bin .Add (.bi .tuple (.cons (.sl (.v 3) .nil (.pt (.neg (.k (.int 1))))) .nil)) (.tup (.cons (.k (.int 1)) .nil)))) [.ow .lst [.int a2, .int b2, .int c2], .st (.int m), .st (.int w), .st (.ob .lst ((l2 ++ [x]).map .int)), .un, .un, .un, .un, .un, .un, .un]) fun z => ∃ l3 : List Int, z = (.d (.tup (l3.map .int)), [.ow .lst [.int a2, .int b2, .int c2], .st (.int m), .st (.int w), .st (.ob .lst ((l2 ++ [x]).map .int)), .un, .un, .un, .un, .un, .un, .un]) ∧ l3 ≠ [] ∧ (∀ n ∈ l3, n.natAbs ≤ 9999) ∧ l3.length ≤ 10 ∧ trim l3 = l3 := by
    have e1 : (l2 ++ [x]).map D.int = l2.map .int ++ [.int x] := by rw [List.map_append]; rfl
    have e2 : cutL (l2.map D.int ++ [.int x]) none (some (-1)) = l2.map .int := cut_last
    have ll2 : l2.length + 1 ≤ 10 := by rw [List.length_append] at ll; exact ll
    simp only [e_call0, e_callk0, e_g0, e_lc, ap_callM, e_v, e_k, e_ty, e_neg, e_bin, e_cmp, e_chn, e_and, e_or, e_not, e_one, e_ife, e_tup, e_lst, e_ix, e_sl, e_bi, e_app, e_ext, e_pop, a_nil, a_cons, o_nil, o_pt, b_and, b_or, b_not, b_tr, b_one, t_nil, t_cons, i_it, i_rng, i_enm, g_nm, g_ns, g_sub, g_tup, gs_nil, gs_cons, r_nil, r_cons, ap_d, ap_op, ap_un, ap_nil, ap_cons, ap_bi, vo_nil, vo_cons, ap_tru, ap_andB, ap_orB, ap_notB, ap_ife, ap_yes, gs_0, gs_1, gt_d, gns_d, gns_o, gnm_d, gnm_o, rw_0, rw_1, ap_par, sa_0, sa_t, sa_f, np, ap_pt, ap_sl, ap_lst, ap_tup, stab_0, stab_1, gB_ap, bl_ap, not_ap, neg_ap, ap_app, ap_apd, ap_and, ap_or, vM, vg_d, vg_o, sl_0, sl_c, so_v, so_d, sw_o, bk_n, bk_s, bg_o, fzM, fz_o, val_d, val_ow, val_v, vl_o, hand_d, hand_ow, hand_vw, gsub, s0_o, sg_o, appd, a0_o, ap_o, popd, pp_o, rt_d, rt_o, rt_v, r0_o, itd, it_l, it_f, it_t, end_, en_l, en_f, en_t, chn_ap, nv_d, nv_o, bind_ok', ok_ok, ok_bind, ok_guard, bin_add, bin_sub, ok_mul, ok_fdiv, ok_mod, ok_pow, ok_divmod, ok_ifi, ixn30, ixn31, ixn32, sl_fz, sl_ls, sl_tp, pm_0, pm_1, Option.bind_some, ex_nx, tg_1, tg_t, wi_0, wi_1, sz0, sz1, sz2, sz3, sz4, sz5, sz6, sz7, sz8, bi_comb, cmp_lt, cmp_le, cmp_gt, cmp_ge, cmp_eqi, cmp_nei, cmp_eqs, cmp_nes, cmp_eqb, cmp_neb, is_non, is_int, is_ob, isn_non, isn_int, isn_ob, tru_b, tru_i, bi_int, bi_abs, bi_gcd, bi_lenl, bi_lenf, bi_lent, bi_tupl, bi_tupf, bi_isint, bi_isbool, bi_istup, ofO_s, ix_l, ix_f, ix_t, at_0, at_1, at_2, List.getElem?_cons_succ, List.getElem?_cons_zero, List.set_cons_succ, List.set_cons_zero, List.length_cons, List.length_nil, List.map_nil, List.map_cons, List.append_nil, List.nil_append, List.cons_append, Int.reduceLT, Int.reduceLE, Nat.reduceAdd, Nat.reduceLT, Nat.reduceLeDiff, Nat.zero_add, Nat.zero_lt_succ, if_true, if_false, Bool.false_eq_true, Bool.not_true, Bool.not_false, ne_eq, not_false_eq_true, reduceCtorEq, Option.some.injEq, and_true, true_and, Nat.lt_add_one, Nat.succ_ne_self, Nat.reduceEqDiff, decide_true, decide_false, decide_eq_true_eq, fin_nx, fin_rd, fin_ro, outs_0, os_s, og_o, rep_s, rep_0, Nat.reduceSub, e_rev, rv_l, rv_f, rv_t, is_bb, isn_bb, is_bn, isn_bn, is_sn, isn_sn, e_fw, c1_w_pool, c2_w_pool, c3_w_pool, c1_w_take, c2_w_take, c3_w_take, c1_w_of, c2_w_of, c3_w_of, c1_w_frac, c2_w_frac, c3_w_frac, c1_is_whole, c2_is_whole, c3_is_whole, c1_is_between, c2_is_between, c3_is_between, c1_wrong_number, c2_wrong_number, c3_wrong_number, c1_is_row, c2_is_row, c3_is_row, c1_without_noughts, c2_without_noughts, c3_without_noughts, c1_are_numbers, c2_are_numbers, c3_are_numbers, c1_check_numbers, c2_check_numbers, c3_check_numbers, c1_is_less, c2_is_less, c3_is_less, c1_is_tuple_of, c2_is_tuple_of, c3_is_tuple_of, c1_is_number, c2_is_number, c3_is_number, c1_is_number_d1, c2_is_number_d1, c3_is_number_d1, c1_is_number_d2, c2_is_number_d2, c3_is_number_d2, c1_is_fraction, c2_is_fraction, c3_is_fraction, c1_is_small_fraction, c2_is_small_fraction, c3_is_small_fraction, c1_check_fraction, c2_check_fraction, c3_check_fraction, c1_lowest, c2_lowest, c3_lowest, c1_plus, c2_plus, c3_plus, c1_times, c2_times, c3_times, c1_worth_by, c2_worth_by, c3_worth_by, c1_worth_at, c2_worth_at, c3_worth_at, c1_w_right, c2_w_right, c3_w_right, c1_law, c2_law, c3_law, e1, at_last, List.length_append, List.length_map]
    by_cases hx : x = 0
    · subst hx
      by_cases hl : l2 = []
      · subst hl
        simp only [e_call0, e_callk0, e_g0, e_lc, ap_callM, e_v, e_k, e_ty, e_neg, e_bin, e_cmp, e_chn, e_and, e_or, e_not, e_one, e_ife, e_tup, e_lst, e_ix, e_sl, e_bi, e_app, e_ext, e_pop, a_nil, a_cons, o_nil, o_pt, b_and, b_or, b_not, b_tr, b_one, t_nil, t_cons, i_it, i_rng, i_enm, g_nm, g_ns, g_sub, g_tup, gs_nil, gs_cons, r_nil, r_cons, ap_d, ap_op, ap_un, ap_nil, ap_cons, ap_bi, vo_nil, vo_cons, ap_tru, ap_andB, ap_orB, ap_notB, ap_ife, ap_yes, gs_0, gs_1, gt_d, gns_d, gns_o, gnm_d, gnm_o, rw_0, rw_1, ap_par, sa_0, sa_t, sa_f, np, ap_pt, ap_sl, ap_lst, ap_tup, stab_0, stab_1, gB_ap, bl_ap, not_ap, neg_ap, ap_app, ap_apd, ap_and, ap_or, vM, vg_d, vg_o, sl_0, sl_c, so_v, so_d, sw_o, bk_n, bk_s, bg_o, fzM, fz_o, val_d, val_ow, val_v, vl_o, hand_d, hand_ow, hand_vw, gsub, s0_o, sg_o, appd, a0_o, ap_o, popd, pp_o, rt_d, rt_o, rt_v, r0_o, itd, it_l, it_f, it_t, end_, en_l, en_f, en_t, chn_ap, nv_d, nv_o, bind_ok', ok_ok, ok_bind, ok_guard, bin_add, bin_sub, ok_mul, ok_fdiv, ok_mod, ok_pow, ok_divmod, ok_ifi, ixn30, ixn31, ixn32, sl_fz, sl_ls, sl_tp, pm_0, pm_1, Option.bind_some, ex_nx, tg_1, tg_t, wi_0, wi_1, sz0, sz1, sz2, sz3, sz4, sz5, sz6, sz7, sz8, bi_comb, cmp_lt, cmp_le, cmp_gt, cmp_ge, cmp_eqi, cmp_nei, cmp_eqs, cmp_nes, cmp_eqb, cmp_neb, is_non, is_int, is_ob, isn_non, isn_int, isn_ob, tru_b, tru_i, bi_int, bi_abs, bi_gcd, bi_lenl, bi_lenf, bi_lent, bi_tupl, bi_tupf, bi_isint, bi_isbool, bi_istup, ofO_s, ix_l, ix_f, ix_t, at_0, at_1, at_2, List.getElem?_cons_succ, List.getElem?_cons_zero, List.set_cons_succ, List.set_cons_zero, List.length_cons, List.length_nil, List.map_nil, List.map_cons, List.append_nil, List.nil_append, List.cons_append, Int.reduceLT, Int.reduceLE, Nat.reduceAdd, Nat.reduceLT, Nat.reduceLeDiff, Nat.zero_add, Nat.zero_lt_succ, if_true, if_false, Bool.false_eq_true, Bool.not_true, Bool.not_false, ne_eq, not_false_eq_true, reduceCtorEq, Option.some.injEq, and_true, true_and, Nat.lt_add_one, Nat.succ_ne_self, Nat.reduceEqDiff, decide_true, decide_false, decide_eq_true_eq, fin_nx, fin_rd, fin_ro, outs_0, os_s, og_o, rep_s, rep_0, Nat.reduceSub, e_rev, rv_l, rv_f, rv_t, is_bb, isn_bb, is_bn, isn_bn, is_sn, isn_sn, e_fw, c1_w_pool, c2_w_pool, c3_w_pool, c1_w_take, c2_w_take, c3_w_take, c1_w_of, c2_w_of, c3_w_of, c1_w_frac, c2_w_frac, c3_w_frac, c1_is_whole, c2_is_whole, c3_is_whole, c1_is_between, c2_is_between, c3_is_between, c1_wrong_number, c2_wrong_number, c3_wrong_number, c1_is_row, c2_is_row, c3_is_row, c1_without_noughts, c2_without_noughts, c3_without_noughts, c1_are_numbers, c2_are_numbers, c3_are_numbers, c1_check_numbers, c2_check_numbers, c3_check_numbers, c1_is_less, c2_is_less, c3_is_less, c1_is_tuple_of, c2_is_tuple_of, c3_is_tuple_of, c1_is_number, c2_is_number, c3_is_number, c1_is_number_d1, c2_is_number_d1, c3_is_number_d1, c1_is_number_d2, c2_is_number_d2, c3_is_number_d2, c1_is_fraction, c2_is_fraction, c3_is_fraction, c1_is_small_fraction, c2_is_small_fraction, c3_is_small_fraction, c1_check_fraction, c2_check_fraction, c3_check_fraction, c1_lowest, c2_lowest, c3_lowest, c1_plus, c2_plus, c3_plus, c1_times, c2_times, c3_times, c1_worth_by, c2_worth_by, c3_worth_by, c1_worth_at, c2_worth_at, c3_worth_at, c1_w_right, c2_w_right, c3_w_right, c1_law, c2_law, c3_law]
        rw [if_pos (by decide)]
        exact ⟨_, rfl, [0], rfl, by simp, by simp, by simp, rfl⟩
      · have l1 : 0 < l2.length := List.length_pos_iff.mpr hl
        have n1 : ¬ (((l2.length + 1 : Nat) : Int) = 1) := by omega
        have e3 : binop .Add (.ob .tup (l2.map .int)) (.ob .tup [.int 1]) = .ok (.d (.ob .tup ((l2 ++ [1]).map .int))) := by
          rw [List.map_append]
          exact add_tups (Nat.le_of_lt (small1000 (by rw [List.length_map]; simp only [List.length_cons, List.length_nil]; omega)))
        simp only [e_call0, e_callk0, e_g0, e_lc, ap_callM, e_v, e_k, e_ty, e_neg, e_bin, e_cmp, e_chn, e_and, e_or, e_not, e_one, e_ife, e_tup, e_lst, e_ix, e_sl, e_bi, e_app, e_ext, e_pop, a_nil, a_cons, o_nil, o_pt, b_and, b_or, b_not, b_tr, b_one, t_nil, t_cons, i_it, i_rng, i_enm, g_nm, g_ns, g_sub, g_tup, gs_nil, gs_cons, r_nil, r_cons, ap_d, ap_op, ap_un, ap_nil, ap_cons, ap_bi, vo_nil, vo_cons, ap_tru, ap_andB, ap_orB, ap_notB, ap_ife, ap_yes, gs_0, gs_1, gt_d, gns_d, gns_o, gnm_d, gnm_o, rw_0, rw_1, ap_par, sa_0, sa_t, sa_f, np, ap_pt, ap_sl, ap_lst, ap_tup, stab_0, stab_1, gB_ap, bl_ap, not_ap, neg_ap, ap_app, ap_apd, ap_and, ap_or, vM, vg_d, vg_o, sl_0, sl_c, so_v, so_d, sw_o, bk_n, bk_s, bg_o, fzM, fz_o, val_d, val_ow, val_v, vl_o, hand_d, hand_ow, hand_vw, gsub, s0_o, sg_o, appd, a0_o, ap_o, popd, pp_o, rt_d, rt_o, rt_v, r0_o, itd, it_l, it_f, it_t, end_, en_l, en_f, en_t, chn_ap, nv_d, nv_o, bind_ok', ok_ok, ok_bind, ok_guard, bin_add, bin_sub, ok_mul, ok_fdiv, ok_mod, ok_pow, ok_divmod, ok_ifi, ixn30, ixn31, ixn32, sl_fz, sl_ls, sl_tp, pm_0, pm_1, Option.bind_some, ex_nx, tg_1, tg_t, wi_0, wi_1, sz0, sz1, sz2, sz3, sz4, sz5, sz6, sz7, sz8, bi_comb, cmp_lt, cmp_le, cmp_gt, cmp_ge, cmp_eqi, cmp_nei, cmp_eqs, cmp_nes, cmp_eqb, cmp_neb, is_non, is_int, is_ob, isn_non, isn_int, isn_ob, tru_b, tru_i, bi_int, bi_abs, bi_gcd, bi_lenl, bi_lenf, bi_lent, bi_tupl, bi_tupf, bi_isint, bi_isbool, bi_istup, ofO_s, ix_l, ix_f, ix_t, at_0, at_1, at_2, List.getElem?_cons_succ, List.getElem?_cons_zero, List.set_cons_succ, List.set_cons_zero, List.length_cons, List.length_nil, List.map_nil, List.map_cons, List.append_nil, List.nil_append, List.cons_append, Int.reduceLT, Int.reduceLE, Nat.reduceAdd, Nat.reduceLT, Nat.reduceLeDiff, Nat.zero_add, Nat.zero_lt_succ, if_true, if_false, Bool.false_eq_true, Bool.not_true, Bool.not_false, ne_eq, not_false_eq_true, reduceCtorEq, Option.some.injEq, and_true, true_and, Nat.lt_add_one, Nat.succ_ne_self, Nat.reduceEqDiff, decide_true, decide_false, decide_eq_true_eq, fin_nx, fin_rd, fin_ro, outs_0, os_s, og_o, rep_s, rep_0, Nat.reduceSub, e_rev, rv_l, rv_f, rv_t, is_bb, isn_bb, is_bn, isn_bn, is_sn, isn_sn, e_fw, c1_w_pool, c2_w_pool, c3_w_pool, c1_w_take, c2_w_take, c3_w_take, c1_w_of, c2_w_of, c3_w_of, c1_w_frac, c2_w_frac, c3_w_frac, c1_is_whole, c2_is_whole, c3_is_whole, c1_is_between, c2_is_between, c3_is_between, c1_wrong_number, c2_wrong_number, c3_wrong_number, c1_is_row, c2_is_row, c3_is_row, c1_without_noughts, c2_without_noughts, c3_without_noughts, c1_are_numbers, c2_are_numbers, c3_are_numbers, c1_check_numbers, c2_check_numbers, c3_check_numbers, c1_is_less, c2_is_less, c3_is_less, c1_is_tuple_of, c2_is_tuple_of, c3_is_tuple_of, c1_is_number, c2_is_number, c3_is_number, c1_is_number_d1, c2_is_number_d1, c3_is_number_d1, c1_is_number_d2, c2_is_number_d2, c3_is_number_d2, c1_is_fraction, c2_is_fraction, c3_is_fraction, c1_is_small_fraction, c2_is_small_fraction, c3_is_small_fraction, c1_check_fraction, c2_check_fraction, c3_check_fraction, c1_lowest, c2_lowest, c3_lowest, c1_plus, c2_plus, c3_plus, c1_times, c2_times, c3_times, c1_worth_by, c2_worth_by, c3_worth_by, c1_worth_at, c2_worth_at, c3_worth_at, c1_w_right, c2_w_right, c3_w_right, c1_law, c2_law, c3_law, n1, e2, e3]
        refine ⟨l2 ++ [1], rfl, by simp, ?_, by rw [List.length_append]; exact ll2, trim_last (.inl (by decide))⟩
        intro n hn
        rcases List.mem_append.mp hn with z | z
        · exact l9 n (List.mem_append_left _ z)
        · simp at z; omega
    · simp only [e_call0, e_callk0, e_g0, e_lc, ap_callM, e_v, e_k, e_ty, e_neg, e_bin, e_cmp, e_chn, e_and, e_or, e_not, e_one, e_ife, e_tup, e_lst, e_ix, e_sl, e_bi, e_app, e_ext, e_pop, a_nil, a_cons, o_nil, o_pt, b_and, b_or, b_not, b_tr, b_one, t_nil, t_cons, i_it, i_rng, i_enm, g_nm, g_ns, g_sub, g_tup, gs_nil, gs_cons, r_nil, r_cons, ap_d, ap_op, ap_un, ap_nil, ap_cons, ap_bi, vo_nil, vo_cons, ap_tru, ap_andB, ap_orB, ap_notB, ap_ife, ap_yes, gs_0, gs_1, gt_d, gns_d, gns_o, gnm_d, gnm_o, rw_0, rw_1, ap_par, sa_0, sa_t, sa_f, np, ap_pt, ap_sl, ap_lst, ap_tup, stab_0, stab_1, gB_ap, bl_ap, not_ap, neg_ap, ap_app, ap_apd, ap_and, ap_or, vM, vg_d, vg_o, sl_0, sl_c, so_v, so_d, sw_o, bk_n, bk_s, bg_o, fzM, fz_o, val_d, val_ow, val_v, vl_o, hand_d, hand_ow, hand_vw, gsub, s0_o, sg_o, appd, a0_o, ap_o, popd, pp_o, rt_d, rt_o, rt_v, r0_o, itd, it_l, it_f, it_t, end_, en_l, en_f, en_t, chn_ap, nv_d, nv_o, bind_ok', ok_ok, ok_bind, ok_guard, bin_add, bin_sub, ok_mul, ok_fdiv, ok_mod, ok_pow, ok_divmod, ok_ifi, ixn30, ixn31, ixn32, sl_fz, sl_ls, sl_tp, pm_0, pm_1, Option.bind_some, ex_nx, tg_1, tg_t, wi_0, wi_1, sz0, sz1, sz2, sz3, sz4, sz5, sz6, sz7, sz8, bi_comb, cmp_lt, cmp_le, cmp_gt, cmp_ge, cmp_eqi, cmp_nei, cmp_eqs, cmp_nes, cmp_eqb, cmp_neb, is_non, is_int, is_ob, isn_non, isn_int, isn_ob, tru_b, tru_i, bi_int, bi_abs, bi_gcd, bi_lenl, bi_lenf, bi_lent, bi_tupl, bi_tupf, bi_isint, bi_isbool, bi_istup, ofO_s, ix_l, ix_f, ix_t, at_0, at_1, at_2, List.getElem?_cons_succ, List.getElem?_cons_zero, List.set_cons_succ, List.set_cons_zero, List.length_cons, List.length_nil, List.map_nil, List.map_cons, List.append_nil, List.nil_append, List.cons_append, Int.reduceLT, Int.reduceLE, Nat.reduceAdd, Nat.reduceLT, Nat.reduceLeDiff, Nat.zero_add, Nat.zero_lt_succ, if_true, if_false, Bool.false_eq_true, Bool.not_true, Bool.not_false, ne_eq, not_false_eq_true, reduceCtorEq, Option.some.injEq, and_true, true_and, Nat.lt_add_one, Nat.succ_ne_self, Nat.reduceEqDiff, decide_true, decide_false, decide_eq_true_eq, fin_nx, fin_rd, fin_ro, outs_0, os_s, og_o, rep_s, rep_0, Nat.reduceSub, e_rev, rv_l, rv_f, rv_t, is_bb, isn_bb, is_bn, isn_bn, is_sn, isn_sn, e_fw, c1_w_pool, c2_w_pool, c3_w_pool, c1_w_take, c2_w_take, c3_w_take, c1_w_of, c2_w_of, c3_w_of, c1_w_frac, c2_w_frac, c3_w_frac, c1_is_whole, c2_is_whole, c3_is_whole, c1_is_between, c2_is_between, c3_is_between, c1_wrong_number, c2_wrong_number, c3_wrong_number, c1_is_row, c2_is_row, c3_is_row, c1_without_noughts, c2_without_noughts, c3_without_noughts, c1_are_numbers, c2_are_numbers, c3_are_numbers, c1_check_numbers, c2_check_numbers, c3_check_numbers, c1_is_less, c2_is_less, c3_is_less, c1_is_tuple_of, c2_is_tuple_of, c3_is_tuple_of, c1_is_number, c2_is_number, c3_is_number, c1_is_number_d1, c2_is_number_d1, c3_is_number_d1, c1_is_number_d2, c2_is_number_d2, c3_is_number_d2, c1_is_fraction, c2_is_fraction, c3_is_fraction, c1_is_small_fraction, c2_is_small_fraction, c3_is_small_fraction, c1_check_fraction, c2_check_fraction, c3_check_fraction, c1_lowest, c2_lowest, c3_lowest, c1_plus, c2_plus, c3_plus, c1_times, c2_times, c3_times, c1_worth_by, c2_worth_by, c3_worth_by, c1_worth_at, c2_worth_at, c3_worth_at, c1_w_right, c2_w_right, c3_w_right, c1_law, c2_law, c3_law, hx]
      exact ⟨l2 ++ [x], by rw [e1], by simp, l9, by rw [List.length_append]; exact ll2, trim_last (.inl hx)⟩
  refine third.mono ?_
  rintro _ ⟨l3, rfl, m0, m9, ml, mt⟩
  simp only [e_call0, e_callk0, e_g0, e_lc, ap_callM, e_v, e_k, e_ty, e_neg, e_bin, e_cmp, e_chn, e_and, e_or, e_not, e_one, e_ife, e_tup, e_lst, e_ix, e_sl, e_bi, e_app, e_ext, e_pop, a_nil, a_cons, o_nil, o_pt, b_and, b_or, b_not, b_tr, b_one, t_nil, t_cons, i_it, i_rng, i_enm, g_nm, g_ns, g_sub, g_tup, gs_nil, gs_cons, r_nil, r_cons, ap_d, ap_op, ap_un, ap_nil, ap_cons, ap_bi, vo_nil, vo_cons, ap_tru, ap_andB, ap_orB, ap_notB, ap_ife, ap_yes, gs_0, gs_1, gt_d, gns_d, gns_o, gnm_d, gnm_o, rw_0, rw_1, ap_par, sa_0, sa_t, sa_f, np, ap_pt, ap_sl, ap_lst, ap_tup, stab_0, stab_1, gB_ap, bl_ap, not_ap, neg_ap, ap_app, ap_apd, ap_and, ap_or, vM, vg_d, vg_o, sl_0, sl_c, so_v, so_d, sw_o, bk_n, bk_s, bg_o, fzM, fz_o, val_d, val_ow, val_v, vl_o, hand_d, hand_ow, hand_vw, gsub, s0_o, sg_o, appd, a0_o, ap_o, popd, pp_o, rt_d, rt_o, rt_v, r0_o, itd, it_l, it_f, it_t, end_, en_l, en_f, en_t, chn_ap, nv_d, nv_o, bind_ok', ok_ok, ok_bind, ok_guard, bin_add, bin_sub, ok_mul, ok_fdiv, ok_mod, ok_pow, ok_divmod, ok_ifi, ixn30, ixn31, ixn32, sl_fz, sl_ls, sl_tp, pm_0, pm_1, Option.bind_some, ex_nx, tg_1, tg_t, wi_0, wi_1, sz0, sz1, sz2, sz3, sz4, sz5, sz6, sz7, sz8, bi_comb, cmp_lt, cmp_le, cmp_gt, cmp_ge, cmp_eqi, cmp_nei, cmp_eqs, cmp_nes, cmp_eqb, cmp_neb, is_non, is_int, is_ob, isn_non, isn_int, isn_ob, tru_b, tru_i, bi_int, bi_abs, bi_gcd, bi_lenl, bi_lenf, bi_lent, bi_tupl, bi_tupf, bi_isint, bi_isbool, bi_istup, ofO_s, ix_l, ix_f, ix_t, at_0, at_1, at_2, List.getElem?_cons_succ, List.getElem?_cons_zero, List.set_cons_succ, List.set_cons_zero, List.length_cons, List.length_nil, List.map_nil, List.map_cons, List.append_nil, List.nil_append, List.cons_append, Int.reduceLT, Int.reduceLE, Nat.reduceAdd, Nat.reduceLT, Nat.reduceLeDiff, Nat.zero_add, Nat.zero_lt_succ, if_true, if_false, Bool.false_eq_true, Bool.not_true, Bool.not_false, ne_eq, not_false_eq_true, reduceCtorEq, Option.some.injEq, and_true, true_and, Nat.lt_add_one, Nat.succ_ne_self, Nat.reduceEqDiff, decide_true, decide_false, decide_eq_true_eq, fin_nx, fin_rd, fin_ro, outs_0, os_s, og_o, rep_s, rep_0, Nat.reduceSub, e_rev, rv_l, rv_f, rv_t, is_bb, isn_bb, is_bn, isn_bn, is_sn, isn_sn, e_fw, c1_w_pool, c2_w_pool, c3_w_pool, c1_w_take, c2_w_take, c3_w_take, c1_w_of, c2_w_of, c3_w_of, c1_w_frac, c2_w_frac, c3_w_frac, c1_is_whole, c2_is_whole, c3_is_whole, c1_is_between, c2_is_between, c3_is_between, c1_wrong_number, c2_wrong_number, c3_wrong_number, c1_is_row, c2_is_row, c3_is_row, c1_without_noughts, c2_without_noughts, c3_without_noughts, c1_are_numbers, c2_are_numbers, c3_are_numbers, c1_check_numbers, c2_check_numbers, c3_check_numbers, c1_is_less, c2_is_less, c3_is_less, c1_is_tuple_of, c2_is_tuple_of, c3_is_tuple_of, c1_is_number, c2_is_number, c3_is_number, c1_is_number_d1, c2_is_number_d1, c3_is_number_d1, c1_is_number_d2, c2_is_number_d2, c3_is_number_d2, c1_is_fraction, c2_is_fraction, c3_is_fraction, c1_is_small_fraction, c2_is_small_fraction, c3_is_small_fraction, c1_check_fraction, c2_check_fraction, c3_check_fraction, c1_lowest, c2_lowest, c3_lowest, c1_plus, c2_plus, c3_plus, c1_times, c2_times, c3_times, c1_worth_by, c2_worth_by, c3_worth_by, c1_worth_at, c2_worth_at, c3_worth_at, c1_w_right, c2_w_right, c3_w_right, c1_law, c2_law, c3_law]
  refine run_frI (fun i ρ => ∃ a' b' c' x4 x5 x6 x7 x8 x9 x10, i ≤ 4 ∧ ρ = [.ow .lst [.int a', .int b', .int c'], .st (.int m), .st (.int w), .st (.tup (l3.map .int)), x4, x5, x6, x7, x8, x9, x10] ∧ 0 ≤ a' ∧ 0 ≤ b' ∧ b' < 2147483399 ∧ 0 ≤ c' ∧ c' ≤ c2 + 1 + i) ?_
  rw [i_it]
  have items : Ok (evE cf_w_right (.lst (.cons (.k (.int 1)) (.cons (.k (.int 2)) (.cons (.k (.int 3)) (.cons (.bin .Add (.k (.int 1)) (.call 1 (.cons (.v 0) (.cons (.k (.int 999)) .nil)))) .nil))))) [.ow .lst [.int a2, .int b2, .int c2], .st (.int m), .st (.int w), .st (.tup (l3.map .int)), .un, .un, .un, .un, .un, .un, .un]) fun z => ∃ (n : Nat) (a' b' c' : Int), z = (.ow .lst [.int 1, .int 2, .int 3, .int (n : Nat)], [.ow .lst [.int a', .int b', .int c'], .st (.int m), .st (.int w), .st (.tup (l3.map .int)), .un, .un, .un, .un, .un, .un, .un]) ∧ 1 ≤ n ∧ n ≤ 999 ∧ 0 ≤ a' ∧ 0 ≤ b' ∧ b' < 2147483399 ∧ 0 ≤ c' ∧ c' ≤ c2 + 1 := by
    simp only [e_call0, e_callk0, e_g0, e_lc, ap_callM, e_v, e_k, e_ty, e_neg, e_bin, e_cmp, e_chn, e_and, e_or, e_not, e_one, e_ife, e_tup, e_lst, e_ix, e_sl, e_bi, e_app, e_ext, e_pop, a_nil, a_cons, o_nil, o_pt, b_and, b_or, b_not, b_tr, b_one, t_nil, t_cons, i_it, i_rng, i_enm, g_nm, g_ns, g_sub, g_tup, gs_nil, gs_cons, r_nil, r_cons, ap_d, ap_op, ap_un, ap_nil, ap_cons, ap_bi, vo_nil, vo_cons, ap_tru, ap_andB, ap_orB, ap_notB, ap_ife, ap_yes, gs_0, gs_1, gt_d, gns_d, gns_o, gnm_d, gnm_o, rw_0, rw_1, ap_par, sa_0, sa_t, sa_f, np, ap_pt, ap_sl, ap_lst, ap_tup, stab_0, stab_1, gB_ap, bl_ap, not_ap, neg_ap, ap_app, ap_apd, ap_and, ap_or, vM, vg_d, vg_o, sl_0, sl_c, so_v, so_d, sw_o, bk_n, bk_s, bg_o, fzM, fz_o, val_d, val_ow, val_v, vl_o, hand_d, hand_ow, hand_vw, gsub, s0_o, sg_o, appd, a0_o, ap_o, popd, pp_o, rt_d, rt_o, rt_v, r0_o, itd, it_l, it_f, it_t, end_, en_l, en_f, en_t, chn_ap, nv_d, nv_o, bind_ok', ok_ok, ok_bind, ok_guard, bin_add, bin_sub, ok_mul, ok_fdiv, ok_mod, ok_pow, ok_divmod, ok_ifi, ixn30, ixn31, ixn32, sl_fz, sl_ls, sl_tp, pm_0, pm_1, Option.bind_some, ex_nx, tg_1, tg_t, wi_0, wi_1, sz0, sz1, sz2, sz3, sz4, sz5, sz6, sz7, sz8, bi_comb, cmp_lt, cmp_le, cmp_gt, cmp_ge, cmp_eqi, cmp_nei, cmp_eqs, cmp_nes, cmp_eqb, cmp_neb, is_non, is_int, is_ob, isn_non, isn_int, isn_ob, tru_b, tru_i, bi_int, bi_abs, bi_gcd, bi_lenl, bi_lenf, bi_lent, bi_tupl, bi_tupf, bi_isint, bi_isbool, bi_istup, ofO_s, ix_l, ix_f, ix_t, at_0, at_1, at_2, List.getElem?_cons_succ, List.getElem?_cons_zero, List.set_cons_succ, List.set_cons_zero, List.length_cons, List.length_nil, List.map_nil, List.map_cons, List.append_nil, List.nil_append, List.cons_append, Int.reduceLT, Int.reduceLE, Nat.reduceAdd, Nat.reduceLT, Nat.reduceLeDiff, Nat.zero_add, Nat.zero_lt_succ, if_true, if_false, Bool.false_eq_true, Bool.not_true, Bool.not_false, ne_eq, not_false_eq_true, reduceCtorEq, Option.some.injEq, and_true, true_and, Nat.lt_add_one, Nat.succ_ne_self, Nat.reduceEqDiff, decide_true, decide_false, decide_eq_true_eq, fin_nx, fin_rd, fin_ro, outs_0, os_s, og_o, rep_s, rep_0, Nat.reduceSub, e_rev, rv_l, rv_f, rv_t, is_bb, isn_bb, is_bn, isn_bn, is_sn, isn_sn, e_fw, c1_w_pool, c2_w_pool, c3_w_pool, c1_w_take, c2_w_take, c3_w_take, c1_w_of, c2_w_of, c3_w_of, c1_w_frac, c2_w_frac, c3_w_frac, c1_is_whole, c2_is_whole, c3_is_whole, c1_is_between, c2_is_between, c3_is_between, c1_wrong_number, c2_wrong_number, c3_wrong_number, c1_is_row, c2_is_row, c3_is_row, c1_without_noughts, c2_without_noughts, c3_without_noughts, c1_are_numbers, c2_are_numbers, c3_are_numbers, c1_check_numbers, c2_check_numbers, c3_check_numbers, c1_is_less, c2_is_less, c3_is_less, c1_is_tuple_of, c2_is_tuple_of, c3_is_tuple_of, c1_is_number, c2_is_number, c3_is_number, c1_is_number_d1, c2_is_number_d1, c3_is_number_d1, c1_is_number_d2, c2_is_number_d2, c3_is_number_d2, c1_is_fraction, c2_is_fraction, c3_is_fraction, c1_is_small_fraction, c2_is_small_fraction, c3_is_small_fraction, c1_check_fraction, c2_check_fraction, c3_check_fraction, c1_lowest, c2_lowest, c3_lowest, c1_plus, c2_plus, c3_plus, c1_times, c2_times, c3_times, c1_worth_by, c2_worth_by, c3_worth_by, c1_worth_at, c2_worth_at, c3_worth_at, c1_w_right, c2_w_right, c3_w_right, c1_law, c2_law, c3_law]
    refine (take_ok g1 g2 g3 g4 (by omega) (m := 999) (by decide) (by decide)).mono ?_
    rintro _ ⟨d, a3, b3, c3, rfl, d0, d1, k1, k2, k3, k4, k5⟩
    obtain ⟨x, rfl⟩ : ∃ x : Nat, d = (x : Int) := ⟨d.toNat, by omega⟩
    simp only [e_call0, e_callk0, e_g0, e_lc, ap_callM, e_v, e_k, e_ty, e_neg, e_bin, e_cmp, e_chn, e_and, e_or, e_not, e_one, e_ife, e_tup, e_lst, e_ix, e_sl, e_bi, e_app, e_ext, e_pop, a_nil, a_cons, o_nil, o_pt, b_and, b_or, b_not, b_tr, b_one, t_nil, t_cons, i_it, i_rng, i_enm, g_nm, g_ns, g_sub, g_tup, gs_nil, gs_cons, r_nil, r_cons, ap_d, ap_op, ap_un, ap_nil, ap_cons, ap_bi, vo_nil, vo_cons, ap_tru, ap_andB, ap_orB, ap_notB, ap_ife, ap_yes, gs_0, gs_1, gt_d, gns_d, gns_o, gnm_d, gnm_o, rw_0, rw_1, ap_par, sa_0, sa_t, sa_f, np, ap_pt, ap_sl, ap_lst, ap_tup, stab_0, stab_1, gB_ap, bl_ap, not_ap, neg_ap, ap_app, ap_apd, ap_and, ap_or, vM, vg_d, vg_o, sl_0, sl_c, so_v, so_d, sw_o, bk_n, bk_s, bg_o, fzM, fz_o, val_d, val_ow, val_v, vl_o, hand_d, hand_ow, hand_vw, gsub, s0_o, sg_o, appd, a0_o, ap_o, popd, pp_o, rt_d, rt_o, rt_v, r0_o, itd, it_l, it_f, it_t, end_, en_l, en_f, en_t, chn_ap, nv_d, nv_o, bind_ok', ok_ok, ok_bind, ok_guard, bin_add, bin_sub, ok_mul, ok_fdiv, ok_mod, ok_pow, ok_divmod, ok_ifi, ixn30, ixn31, ixn32, sl_fz, sl_ls, sl_tp, pm_0, pm_1, Option.bind_some, ex_nx, tg_1, tg_t, wi_0, wi_1, sz0, sz1, sz2, sz3, sz4, sz5, sz6, sz7, sz8, bi_comb, cmp_lt, cmp_le, cmp_gt, cmp_ge, cmp_eqi, cmp_nei, cmp_eqs, cmp_nes, cmp_eqb, cmp_neb, is_non, is_int, is_ob, isn_non, isn_int, isn_ob, tru_b, tru_i, bi_int, bi_abs, bi_gcd, bi_lenl, bi_lenf, bi_lent, bi_tupl, bi_tupf, bi_isint, bi_isbool, bi_istup, ofO_s, ix_l, ix_f, ix_t, at_0, at_1, at_2, List.getElem?_cons_succ, List.getElem?_cons_zero, List.set_cons_succ, List.set_cons_zero, List.length_cons, List.length_nil, List.map_nil, List.map_cons, List.append_nil, List.nil_append, List.cons_append, Int.reduceLT, Int.reduceLE, Nat.reduceAdd, Nat.reduceLT, Nat.reduceLeDiff, Nat.zero_add, Nat.zero_lt_succ, if_true, if_false, Bool.false_eq_true, Bool.not_true, Bool.not_false, ne_eq, not_false_eq_true, reduceCtorEq, Option.some.injEq, and_true, true_and, Nat.lt_add_one, Nat.succ_ne_self, Nat.reduceEqDiff, decide_true, decide_false, decide_eq_true_eq, fin_nx, fin_rd, fin_ro, outs_0, os_s, og_o, rep_s, rep_0, Nat.reduceSub, e_rev, rv_l, rv_f, rv_t, is_bb, isn_bb, is_bn, isn_bn, is_sn, isn_sn, e_fw, c1_w_pool, c2_w_pool, c3_w_pool, c1_w_take, c2_w_take, c3_w_take, c1_w_of, c2_w_of, c3_w_of, c1_w_frac, c2_w_frac, c3_w_frac, c1_is_whole, c2_is_whole, c3_is_whole, c1_is_between, c2_is_between, c3_is_between, c1_wrong_number, c2_wrong_number, c3_wrong_number, c1_is_row, c2_is_row, c3_is_row, c1_without_noughts, c2_without_noughts, c3_without_noughts, c1_are_numbers, c2_are_numbers, c3_are_numbers, c1_check_numbers, c2_check_numbers, c3_check_numbers, c1_is_less, c2_is_less, c3_is_less, c1_is_tuple_of, c2_is_tuple_of, c3_is_tuple_of, c1_is_number, c2_is_number, c3_is_number, c1_is_number_d1, c2_is_number_d1, c3_is_number_d1, c1_is_number_d2, c2_is_number_d2, c3_is_number_d2, c1_is_fraction, c2_is_fraction, c3_is_fraction, c1_is_small_fraction, c2_is_small_fraction, c3_is_small_fraction, c1_check_fraction, c2_check_fraction, c3_check_fraction, c1_lowest, c2_lowest, c3_lowest, c1_plus, c2_plus, c3_plus, c1_times, c2_times, c3_times, c1_worth_by, c2_worth_by, c3_worth_by, c1_worth_at, c2_worth_at, c3_worth_at, c1_w_right, c2_w_right, c3_w_right, c1_law, c2_law, c3_law]
    refine ⟨1 + x, a3, b3, c3, ?_, by omega, by omega, k1, k2, k3, k4, k5⟩
    rw [Int.natCast_add]
    rfl
  obtain ⟨z, ez, n, a3, b3, c3, rfl, n1, n2, k1, k2, k3, k4, k5⟩ := items.out
  rw [itM_ow ez, ok_ok]
  refine ⟨⟨_, _, _, _, _, _, _, _, _, _, by omega, rfl, k1, k2, k3, k4, by omega⟩, ?_, ?_⟩
  · rintro i d _ hd ⟨a4, b4, c4, x4, x5, x6, x7, x8, x9, x10, hi, rfl, q1, q2, q3, q4, q5⟩
    obtain ⟨low, rfl, o1, o2, i3⟩ : ∃ low : Nat, d = .int (low : Nat) ∧ 1 ≤ low ∧ low ≤ 999 ∧ i < 4 := by
      match i, hd with
      | 0, hd => cases hd; exact ⟨1, rfl, by decide, by decide, by decide⟩
      | 1, hd => cases hd; exact ⟨2, rfl, by decide, by decide, by decide⟩
      | 2, hd => cases hd; exact ⟨3, rfl, by decide, by decide, by decide⟩
      | 3, hd => cases hd; exact ⟨n, rfl, n1, n2, by decide⟩
      | (i + 4), hd => simp at hd
    simp only [e_call0, e_callk0, e_g0, e_lc, ap_callM, e_v, e_k, e_ty, e_neg, e_bin, e_cmp, e_chn, e_and, e_or, e_not, e_one, e_ife, e_tup, e_lst, e_ix, e_sl, e_bi, e_app, e_ext, e_pop, a_nil, a_cons, o_nil, o_pt, b_and, b_or, b_not, b_tr, b_one, t_nil, t_cons, i_it, i_rng, i_enm, g_nm, g_ns, g_sub, g_tup, gs_nil, gs_cons, r_nil, r_cons, ap_d, ap_op, ap_un, ap_nil, ap_cons, ap_bi, vo_nil, vo_cons, ap_tru, ap_andB, ap_orB, ap_notB, ap_ife, ap_yes, gs_0, gs_1, gt_d, gns_d, gns_o, gnm_d, gnm_o, rw_0, rw_1, ap_par, sa_0, sa_t, sa_f, np, ap_pt, ap_sl, ap_lst, ap_tup, stab_0, stab_1, gB_ap, bl_ap, not_ap, neg_ap, ap_app, ap_apd, ap_and, ap_or, vM, vg_d, vg_o, sl_0, sl_c, so_v, so_d, sw_o, bk_n, bk_s, bg_o, fzM, fz_o, val_d, val_ow, val_v, vl_o, hand_d, hand_ow, hand_vw, gsub, s0_o, sg_o, appd, a0_o, ap_o, popd, pp_o, rt_d, rt_o, rt_v, r0_o, itd, it_l, it_f, it_t, end_, en_l, en_f, en_t, chn_ap, nv_d, nv_o, bind_ok', ok_ok, ok_bind, ok_guard, bin_add, bin_sub, ok_mul, ok_fdiv, ok_mod, ok_pow, ok_divmod, ok_ifi, ixn30, ixn31, ixn32, sl_fz, sl_ls, sl_tp, pm_0, pm_1, Option.bind_some, ex_nx, tg_1, tg_t, wi_0, wi_1, sz0, sz1, sz2, sz3, sz4, sz5, sz6, sz7, sz8, bi_comb, cmp_lt, cmp_le, cmp_gt, cmp_ge, cmp_eqi, cmp_nei, cmp_eqs, cmp_nes, cmp_eqb, cmp_neb, is_non, is_int, is_ob, isn_non, isn_int, isn_ob, tru_b, tru_i, bi_int, bi_abs, bi_gcd, bi_lenl, bi_lenf, bi_lent, bi_tupl, bi_tupf, bi_isint, bi_isbool, bi_istup, ofO_s, ix_l, ix_f, ix_t, at_0, at_1, at_2, List.getElem?_cons_succ, List.getElem?_cons_zero, List.set_cons_succ, List.set_cons_zero, List.length_cons, List.length_nil, List.map_nil, List.map_cons, List.append_nil, List.nil_append, List.cons_append, Int.reduceLT, Int.reduceLE, Nat.reduceAdd, Nat.reduceLT, Nat.reduceLeDiff, Nat.zero_add, Nat.zero_lt_succ, if_true, if_false, Bool.false_eq_true, Bool.not_true, Bool.not_false, ne_eq, not_false_eq_true, reduceCtorEq, Option.some.injEq, and_true, true_and, Nat.lt_add_one, Nat.succ_ne_self, Nat.reduceEqDiff, decide_true, decide_false, decide_eq_true_eq, fin_nx, fin_rd, fin_ro, outs_0, os_s, og_o, rep_s, rep_0, Nat.reduceSub, e_rev, rv_l, rv_f, rv_t, is_bb, isn_bb, is_bn, isn_bn, is_sn, isn_sn, e_fw, c1_w_pool, c2_w_pool, c3_w_pool, c1_w_take, c2_w_take, c3_w_take, c1_w_of, c2_w_of, c3_w_of, c1_w_frac, c2_w_frac, c3_w_frac, c1_is_whole, c2_is_whole, c3_is_whole, c1_is_between, c2_is_between, c3_is_between, c1_wrong_number, c2_wrong_number, c3_wrong_number, c1_is_row, c2_is_row, c3_is_row, c1_without_noughts, c2_without_noughts, c3_without_noughts, c1_are_numbers, c2_are_numbers, c3_are_numbers, c1_check_numbers, c2_check_numbers, c3_check_numbers, c1_is_less, c2_is_less, c3_is_less, c1_is_tuple_of, c2_is_tuple_of, c3_is_tuple_of, c1_is_number, c2_is_number, c3_is_number, c1_is_number_d1, c2_is_number_d1, c3_is_number_d1, c1_is_number_d2, c2_is_number_d2, c3_is_number_d2, c1_is_fraction, c2_is_fraction, c3_is_fraction, c1_is_small_fraction, c2_is_small_fraction, c3_is_small_fraction, c1_check_fraction, c2_check_fraction, c3_check_fraction, c1_lowest, c2_lowest, c3_lowest, c1_plus, c2_plus, c3_plus, c1_times, c2_times, c3_times, c1_worth_by, c2_worth_by, c3_worth_by, c1_worth_at, c2_worth_at, c3_worth_at, c1_w_right, c2_w_right, c3_w_right, c1_law, c2_law, c3_law]
    refine (low_ok q1 q2 q3 q4 (by omega) o1 o2 m9 m0 ml mt).mono ?_
    rintro _ ⟨a5, b5, c5, t6, t7, t8, t9, t10, rfl, e1, e2, e3, e4, e5⟩
    exact ⟨_, rfl, _, _, _, _, _, _, _, _, _, _, by omega, rfl, e1, e2, e3, e4, by omega⟩
  · rintro _ ⟨a4, b4, c4, x4, x5, x6, x7, x8, x9, x10, hi, rfl, q1, q2, q3, q4, q5⟩
    refine run_r ?_
    have e49 : cmpop .Eq (fracI 12 27) (.tup [.int 4, .int 9]) = .ok true := by
      have := eq_t2 (a := 12 / (Nat.gcd (12 : Int).natAbs 27 : Nat)) (b := ((27 / Nat.gcd (12 : Int).natAbs 27 : Nat) : Int)) (c := 4) (d := 9)
      rw [show decide _ = true from by decide] at this
      exact this
    simp only [e_call0, e_callk0, e_g0, e_lc, ap_callM, e_v, e_k, e_ty, e_neg, e_bin, e_cmp, e_chn, e_and, e_or, e_not, e_one, e_ife, e_tup, e_lst, e_ix, e_sl, e_bi, e_app, e_ext, e_pop, a_nil, a_cons, o_nil, o_pt, b_and, b_or, b_not, b_tr, b_one, t_nil, t_cons, i_it, i_rng, i_enm, g_nm, g_ns, g_sub, g_tup, gs_nil, gs_cons, r_nil, r_cons, ap_d, ap_op, ap_un, ap_nil, ap_cons, ap_bi, vo_nil, vo_cons, ap_tru, ap_andB, ap_orB, ap_notB, ap_ife, ap_yes, gs_0, gs_1, gt_d, gns_d, gns_o, gnm_d, gnm_o, rw_0, rw_1, ap_par, sa_0, sa_t, sa_f, np, ap_pt, ap_sl, ap_lst, ap_tup, stab_0, stab_1, gB_ap, bl_ap, not_ap, neg_ap, ap_app, ap_apd, ap_and, ap_or, vM, vg_d, vg_o, sl_0, sl_c, so_v, so_d, sw_o, bk_n, bk_s, bg_o, fzM, fz_o, val_d, val_ow, val_v, vl_o, hand_d, hand_ow, hand_vw, gsub, s0_o, sg_o, appd, a0_o, ap_o, popd, pp_o, rt_d, rt_o, rt_v, r0_o, itd, it_l, it_f, it_t, end_, en_l, en_f, en_t, chn_ap, nv_d, nv_o, bind_ok', ok_ok, ok_bind, ok_guard, bin_add, bin_sub, ok_mul, ok_fdiv, ok_mod, ok_pow, ok_divmod, ok_ifi, ixn30, ixn31, ixn32, sl_fz, sl_ls, sl_tp, pm_0, pm_1, Option.bind_some, ex_nx, tg_1, tg_t, wi_0, wi_1, sz0, sz1, sz2, sz3, sz4, sz5, sz6, sz7, sz8, bi_comb, cmp_lt, cmp_le, cmp_gt, cmp_ge, cmp_eqi, cmp_nei, cmp_eqs, cmp_nes, cmp_eqb, cmp_neb, is_non, is_int, is_ob, isn_non, isn_int, isn_ob, tru_b, tru_i, bi_int, bi_abs, bi_gcd, bi_lenl, bi_lenf, bi_lent, bi_tupl, bi_tupf, bi_isint, bi_isbool, bi_istup, ofO_s, ix_l, ix_f, ix_t, at_0, at_1, at_2, List.getElem?_cons_succ, List.getElem?_cons_zero, List.set_cons_succ, List.set_cons_zero, List.length_cons, List.length_nil, List.map_nil, List.map_cons, List.append_nil, List.nil_append, List.cons_append, Int.reduceLT, Int.reduceLE, Nat.reduceAdd, Nat.reduceLT, Nat.reduceLeDiff, Nat.zero_add, Nat.zero_lt_succ, if_true, if_false, Bool.false_eq_true, Bool.not_true, Bool.not_false, ne_eq, not_false_eq_true, reduceCtorEq, Option.some.injEq, and_true, true_and, Nat.lt_add_one, Nat.succ_ne_self, Nat.reduceEqDiff, decide_true, decide_false, decide_eq_true_eq, fin_nx, fin_rd, fin_ro, outs_0, os_s, og_o, rep_s, rep_0, Nat.reduceSub, e_rev, rv_l, rv_f, rv_t, is_bb, isn_bb, is_bn, isn_bn, is_sn, isn_sn, e_fw, c1_w_pool, c2_w_pool, c3_w_pool, c1_w_take, c2_w_take, c3_w_take, c1_w_of, c2_w_of, c3_w_of, c1_w_frac, c2_w_frac, c3_w_frac, c1_is_whole, c2_is_whole, c3_is_whole, c1_is_between, c2_is_between, c3_is_between, c1_wrong_number, c2_wrong_number, c3_wrong_number, c1_is_row, c2_is_row, c3_is_row, c1_without_noughts, c2_without_noughts, c3_without_noughts, c1_are_numbers, c2_are_numbers, c3_are_numbers, c1_check_numbers, c2_check_numbers, c3_check_numbers, c1_is_less, c2_is_less, c3_is_less, c1_is_tuple_of, c2_is_tuple_of, c3_is_tuple_of, c1_is_number, c2_is_number, c3_is_number, c1_is_number_d1, c2_is_number_d1, c3_is_number_d1, c1_is_number_d2, c2_is_number_d2, c3_is_number_d2, c1_is_fraction, c2_is_fraction, c3_is_fraction, c1_is_small_fraction, c2_is_small_fraction, c3_is_small_fraction, c1_check_fraction, c2_check_fraction, c3_check_fraction, c1_lowest, c2_lowest, c3_lowest, c1_plus, c2_plus, c3_plus, c1_times, c2_times, c3_times, c1_worth_by, c2_worth_by, c3_worth_by, c1_worth_at, c2_worth_at, c3_worth_at, c1_w_right, c2_w_right, c3_w_right, c1_law, c2_law, c3_law, last_ok, e49]
    exact ⟨_, _, _, rfl, q1, q2, q3, q4, by omega⟩
theorem inner_ok {zs : List Int} {k : Nat} {a b c m : Int} {z : Sl} (ha : 0 ≤ a) (hb : 0 ≤ b) (hb2 : b < 2147483399) (hc : 0 ≤ c) (hc2 : c < 900000) (hm : 0 < m) (hm2 : m ≤ 10) :
    Ok (evE cf_law (.call 0 (.cons (.v 2) (.cons (.v 3) .nil))) [.st (.ob .fz (zs.map .int)), .st (.int (k : Nat)), .ow .lst [.int a, .int b, .int c], .st (.int m)]) fun x => ∃ a' b' c', x = (.d (.bl true), [.st (.ob .fz (zs.map .int)), .st (.int (k : Nat)), .ow .lst [.int a', .int b', .int c'], .st (.int m)]) ∧ 0 ≤ a' ∧ 0 ≤ b' ∧ b' < 2147483399 ∧ 0 ≤ c' ∧ c' ≤ c + 60 := by
  have v2 : varM 2 [.st (.ob .fz (zs.map .int)), .st (.int (k : Nat)), .ow .lst [.int a, .int b, .int c], .st (.int m)] = .ok (.vw 2, [.st (.ob .fz (zs.map .int)), .st (.int (k : Nat)), .ow .lst [.int a, .int b, .int c], .st (.int m)]) := rfl
  have v3 : varM 3 [.st (.ob .fz (zs.map .int)), .st (.int (k : Nat)), .ow .lst [.int a, .int b, .int c], .st (.int m)] = .ok (.d (.int m), [.st (.ob .fz (zs.map .int)), .st (.int (k : Nat)), .ow .lst [.int a, .int b, .int c], .st (.int m)]) := rfl
  have sl : slsOf (some 0) [.st (.ob .fz (zs.map .int)), .st (.int (k : Nat)), .ow .lst [.int a, .int b, .int c], .st (.int m)] 0 [.vw 2, .d (.int m)] = .ok [.ow .lst [.int a, .int b, .int c], .st (.int m)] := rfl
  rw [e_call1 (show cf_law.C[0]? = some c_w_right from rfl), ap_callM]
  simp only [a_cons, a_nil, ap_cons, ap_nil, e_v, v2, v3, bind_ok', hand_d, hand_vw, c1_w_right, c2_w_right, c3_w_right, sl, List.map_nil, List.append_nil, ok_bind]
  refine (right_ok ha hb hb2 hc (by omega) hm hm2).mono ?_
  rintro _ ⟨a', b', c', rfl, h1, h2, h3, h4, h5⟩
  simp only [nv_d, if_true]
  have bk : backS (some 0) [.vw 2, .d (.int m)] [.ow .lst [.int a', .int b', .int c'], .un] [.st (.ob .fz (zs.map .int)), .st (.int (k : Nat)), .ow .lst [.int a, .int b, .int c], .st (.int m)] = .ok [.st (.ob .fz (zs.map .int)), .st (.int (k : Nat)), .ow .lst [.int a', .int b', .int c'], .st (.int m)] := rfl
  rw [bk, bind_ok', ok_ok]
  exact ⟨a', b', c', rfl, h1, h2, h3, h4, h5⟩
theorem law_ok (zs : List Int) (h : zs.length ≤ 63) : Ok (f_law [.st (.ob .fz (zs.map .int))]) fun y => ∃ outs, y = (.d (.bl true), outs) := by
  refine fn_run rfl ?_
  refine run_fr (fun _ ρ => ∃ x y z, ρ = [.st (.ob .fz (zs.map .int)), x, y, z]) ?_
  have v0 : varM 0 [.st (.ob .fz (zs.map .int)), .un, .un, .un] = .ok (.d (.ob .fz (zs.map .int)), [.st (.ob .fz (zs.map .int)), .un, .un, .un]) := rfl
  have it : ∃ b : Int, b ≤ 3 ∧ evI cf_law (.rng (.cons (.bi .max (.cons (.k (.int 2)) (.cons (.bi .min (.cons (.bi .len (.cons (.v 0) .nil)) (.cons (.k (.int 3)) .nil))) .nil))) .nil)) [.st (.ob .fz (zs.map .int)), .un, .un, .un] = .ok (rngL 0 b, [.st (.ob .fz (zs.map .int)), .un, .un, .un]) := by
    refine ⟨if (if (3 : Int) < zs.length then 3 else (zs.length : Int)) > 2 then (if (3 : Int) < zs.length then 3 else (zs.length : Int)) else 2, ?_, rng1 ?_ ?_ ?_⟩
    · split <;> (try split) <;> omega
    · simp only [e_bi, ap_bi, a_cons, a_nil, ap_cons, ap_nil, e_v, v0, e_k, ap_d, bind_ok', hand_d, vo_cons, vo_nil, val_d, len_fz, min_ok, max_ok]
    · split <;> (try split) <;> omega
    · split <;> (try split) <;> omega
  obtain ⟨bd, hbd, it⟩ := it
  show Ok (evI cf_law _ [.st (.ob .fz (zs.map .int)), .un, .un, .un]) _
  rw [it, ok_ok]
  refine ⟨⟨_, _, _, rfl⟩, ?_, ?_⟩
  · intro d hd n ρ hρ
    obtain ⟨i, rfl, h1, h2⟩ := mem_rng hd
    obtain ⟨k, rfl⟩ : ∃ k : Nat, i = (k : Int) := ⟨i.toNat, by omega⟩
    obtain ⟨x, y, z, rfl⟩ := hρ
    simp only [g_ns, gns_d, ok_guard, ok_ok, List.set_cons_succ, List.set_cons_zero]
    refine ⟨by show 1 < 4; decide, ?_⟩
    refine run_asg ?_
    have v0 : varM 0 [.st (.ob .fz (zs.map .int)), .st (.int (k : Nat)), y, z] = .ok (.d (.ob .fz (zs.map .int)), [.st (.ob .fz (zs.map .int)), .st (.int (k : Nat)), y, z]) := rfl
    have v1 : varM 1 [.st (.ob .fz (zs.map .int)), .st (.int (k : Nat)), y, z] = .ok (.d (.int (k : Nat)), [.st (.ob .fz (zs.map .int)), .st (.int (k : Nat)), y, z]) := rfl
    rw [e_call1 (show cf_law.C[1]? = some c_w_pool from rfl), ap_callM]
    simp only [a_cons, a_nil, ap_cons, ap_nil, e_v, v0, v1, bind_ok', hand_d, c1_w_pool, c2_w_pool, c3_w_pool, sl_n0, sl_n1, List.map_nil, List.append_nil, ok_bind]
    refine (pool_ok (zs := zs) (k := k) (by omega)).mono ?_
    rintro _ ⟨a, b, rfl, ha, hb, hb2⟩
    simp only [nv_o, if_true, bk_n, bind_ok', ok_ok, g_nm, gnm_o, ok_guard, List.set_cons_succ, List.set_cons_zero]
    refine ⟨⟨by show 2 < 4; decide, by show (none : Option Nat) ≠ some 2; decide⟩, ?_⟩
    refine run_frN (fun n ρ => ∃ (a b c : Int) (s3 : Sl), 0 ≤ a ∧ 0 ≤ b ∧ b < 2147483399 ∧ 0 ≤ c ∧ c ≤ n * 60 ∧ ρ = [.st (.ob .fz (zs.map .int)), .st (.int (k : Nat)), .ow .lst [.int a, .int b, .int c], s3]) 6 ?_
    have it2 : evI cf_law (.it (.lst (.cons (.k (.int 9)) (.cons (.k (.int 5)) (.cons (.k (.int 3)) (.cons (.k (.int 1)) (.cons (.k (.int 6)) (.cons (.k (.int 10)) .nil)))))))) [.st (.ob .fz (zs.map .int)), .st (.int (k : Nat)), .ow .lst [.int a, .int b, .int 0], z] = .ok ([.int 9, .int 5, .int 3, .int 1, .int 6, .int 10], [.st (.ob .fz (zs.map .int)), .st (.int (k : Nat)), .ow .lst [.int a, .int b, .int 0], z]) := by
      rw [i_it]
      refine itM_ow ?_
      simp only [e_lst, ap_lst, a_cons, a_nil, ap_cons, ap_nil, e_k, ap_d, bind_ok', hand_d, stab_0, stab_1]
      exact if_pos (Nat.le_of_lt (small1000 (by show 6 ≤ 1000; decide)))
    rw [it2, ok_ok]
    refine ⟨⟨⟨a, b, 0, z, ha, hb, hb2, by decide, by decide, rfl⟩, by show 6 ≤ 6; decide⟩, ?_, ?_⟩
    · intro d hd n ρ hn hρ
      obtain ⟨m, rfl, hm, hm2⟩ : ∃ m : Int, d = .int m ∧ 0 < m ∧ m ≤ 10 := by
        simp only [List.mem_cons, List.not_mem_nil, or_false] at hd
        rcases hd with rfl | rfl | rfl | rfl | rfl | rfl <;> exact ⟨_, rfl, by decide, by decide⟩
      obtain ⟨a, b, c, s3, ha, hb, hb2, hc, hc2, rfl⟩ := hρ
      simp only [g_ns, gns_d, ok_guard, ok_ok, List.set_cons_succ, List.set_cons_zero]
      refine ⟨by show 3 < 4; decide, ?_⟩
      refine run_ife ?_
      rw [b_not, ap_notB, ok_bind, b_tr, ap_tru, ok_bind]
      refine (inner_ok (z := s3) ha hb hb2 hc (by omega) hm hm2).mono ?_
      rintro _ ⟨a', b', c', rfl, g1, g2, g3, g4, g5⟩
      simp only [hand_d, val_d, bind_ok', tru_b, ok_ok, Bool.not_true, Bool.false_eq_true, if_false]
      exact run_nx ⟨_, rfl, run_nx ⟨_, rfl, a', b', c', _, g1, g2, g3, g4, by omega, rfl⟩⟩
    · intro n ρ2 hρ
      obtain ⟨a, b, c, s3, ha, hb, hb2, hc, hc2, rfl⟩ := hρ
      exact run_nx ⟨_, rfl, _, _, _, rfl⟩
  · intro ρ2 hρ
    obtain ⟨x, y, z, rfl⟩ := hρ
    refine run_ret ?_
    rw [e_k, ap_d, ok_ok]
    exact ⟨_, rfl, _, rfl, _, rfl⟩
theorem law_main (zs : List Int) (h : zs.length ≤ 63) : ∃ outs, f_law [.st (.ob .fz (zs.map .int))] = .ok (.d (.bl true), outs) := by
  obtain ⟨y, e, outs, rfl⟩ := (law_ok zs h).out
  exact ⟨outs, e⟩
end Lw
set_option Elab.async false
set_option linter.all false
set_option maxRecDepth 100000
open PySem PySem.W PyProof.Rows
set_option maxHeartbeats 0 in
theorem PySem.Challenge.cw_tossplans_k43_worths_at_bends_holds : PySem.Challenge.rw_tossplans_k43_worths_at_bends.Holds := by
  w_on; o_law; k_head; (case hw => w_witness2)
  k_fill
  refine Tp.walk_G Lw.LN (l := PySem.Challenge.rw_tossplans_k43_worths_at_bends) (n := 63) (k := 10) (x := "script") (sp := fun w => Tp.spF _ none 1 Lw.f_law) rfl (by decide) rfl ⟨rfl, by decide, by decide⟩ (fun w h Y => by first | exact PySem.W.kIn_of Y | exact PySem.W.km_in_of Y) (fun w => ⟨by kernel_rfl, by kernel_rfl⟩) (by decide +kernel) ?F (fun w => Tp.lawSp_S rfl Lw.law_main)
  case F =>
    intro w mg fa h KX G hmg
    refine' Lw.all_facts KX G hmg ?a0 ?l0 ?c0 ?k0 ?a1 ?l1 ?c1 ?k1 ?a2 ?l2 ?c2 ?k2 ?a3 ?l3 ?c3 ?k3 ?a4 ?l4 ?c4 ?k4 ?a5 ?l5 ?c5 ?k5 ?a6 ?l6 ?c6 ?k6 ?a7 ?l7 ?c7 ?k7 ?a8 ?l8 ?c8 ?k8 ?a9 ?l9 ?c9 ?k9 ?a10 ?l10 ?c10 ?k10 ?a11 ?l11 ?c11 ?k11 ?a12 ?l12 ?c12 ?k12 ?a13 ?l13 ?c13 ?k13 ?a14 ?l14 ?c14 ?k14 ?u14 ?a15 ?l15 ?c15 ?k15 ?a16 ?l16 ?c16 ?k16 ?a17 ?l17 ?c17 ?k17 ?a18 ?l18 ?c18 ?k18 ?a19 ?l19 ?c19 ?k19 ?a20 ?l20 ?c20 ?k20 ?a21 ?l21 ?c21 ?k21 ?a22 ?l22 ?c22 ?k22 ?a23 ?l23 ?c23 ?k23 ?a24 ?l24 ?c24 ?k24 ?z_abs ?z_divmod ?z_isinstance ?z_len ?z_list ?z_max ?z_min ?z_repr ?z_sum ?z_tuple ?z_bool ?z_int ?z_range ?z_enumerate ?z_zip ?z_gcd ?v_MOST_NUMBER ?v_MOST_POWERS ?v_MOST_UNDER ?v_ONE ?x_ONE ?v_ZERO ?x_ZERO ⟨by kernel_rfl, by kernel_rfl⟩ (Tp.nodup_of (by kernel_rfl)) (by kernel_rfl)
    (case a0 => k_is); (case l0 => k_is); (case c0 => k_is); (case k0 => k_is); (case a1 => k_is); (case l1 => k_is); (case c1 => k_is); (case k1 => k_is); (case a2 => k_is); (case l2 => k_is); (case c2 => k_is); (case k2 => k_is); (case a3 => k_is); (case l3 => k_is); (case c3 => k_is); (case k3 => k_is); (case a4 => k_is); (case l4 => k_is); (case c4 => k_is); (case k4 => k_is); (case a5 => k_is); (case l5 => k_is); (case c5 => k_is); (case k5 => k_is); (case a6 => k_is); (case l6 => k_is); (case c6 => k_is); (case k6 => k_is); (case a7 => k_is); (case l7 => k_is); (case c7 => k_is); (case k7 => k_is); (case a8 => k_is); (case l8 => k_is); (case c8 => k_is); (case k8 => k_is); (case a9 => k_is); (case l9 => k_is); (case c9 => k_is); (case k9 => k_is); (case a10 => k_is); (case l10 => k_is); (case c10 => k_is); (case k10 => k_is); (case a11 => k_is); (case l11 => k_is); (case c11 => k_is); (case k11 => k_is); (case a12 => k_is); (case l12 => k_is); (case c12 => k_is); (case k12 => k_is); (case a13 => k_is); (case l13 => k_is); (case c13 => k_is); (case k13 => k_is); (case a14 => k_is); (case l14 => k_is); (case c14 => k_is); (case k14 => k_is); (case u14 => k_is); (case a15 => k_is); (case l15 => k_is); (case c15 => k_is); (case k15 => k_is); (case a16 => k_is); (case l16 => k_is); (case c16 => k_is); (case k16 => k_is); (case a17 => k_is); (case l17 => k_is); (case c17 => k_is); (case k17 => k_is); (case a18 => k_is); (case l18 => k_is); (case c18 => k_is); (case k18 => k_is); (case a19 => k_is); (case l19 => k_is); (case c19 => k_is); (case k19 => k_is); (case a20 => k_is); (case l20 => k_is); (case c20 => k_is); (case k20 => k_is); (case a21 => k_is); (case l21 => k_is); (case c21 => k_is); (case k21 => k_is); (case a22 => k_is); (case l22 => k_is); (case c22 => k_is); (case k22 => k_is); (case a23 => k_is); (case l23 => k_is); (case c23 => k_is); (case k23 => k_is); (case a24 => k_is); (case l24 => k_is); (case c24 => k_is); (case k24 => k_is); (case z_abs => k_is); (case z_divmod => k_is); (case z_isinstance => k_is); (case z_len => k_is); (case z_list => k_is); (case z_max => k_is); (case z_min => k_is); (case z_repr => k_is); (case z_sum => k_is); (case z_tuple => k_is); (case z_bool => k_is); (case z_int => k_is); (case z_range => k_is); (case z_enumerate => k_is); (case z_zip => k_is); (case z_gcd => k_is); (case v_MOST_NUMBER => k_is); (case v_MOST_POWERS => k_is); (case v_MOST_UNDER => k_is); (case v_ONE => k_is); (case x_ONE => k_is); (case v_ZERO => k_is); (case x_ZERO => k_is)
