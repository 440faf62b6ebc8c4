import PyProof.Rows.All
import Wide.All
import OpenK.AllK
import Wide.FinOn
import HandS.ForMost
import HandS.ForExc
import HandS.Wide
import HandS.Gcd
import HandS.Zip
import HandS.TupAny
import HandS.TupMul
import HandS.Style
import HandS.IsInst
import HandS.WideBits
import HandS.RaiseMore
import HandS.Zip0
import HandS.Conv
import KE.GoesMore
import HandS.Deep
import HandS.ExcInit
import HandS.ExcField
import HandS.TryMany
import HandS.Lambda
import PyProof.ReprRoads
import PyProof.ReprLen
import PyProof.FitsInt
import PySem.Challenge.RW_everyminor_k78_sums_of_powers_and_tables
set_option Elab.async false
set_option linter.all false
set_option maxRecDepth 100000
set_option maxHeartbeats 4000000
/-! The engine, part 1: deep values, what represents them, the state relation. -/
namespace En
open PySem PySem.Spec PyProof.Rows L2
/-- a deep value -/
inductive D where
  | non | bl (b : Bool) | int (i : Int) | str (s : Str) | tup (ds : List D) | lst (ds : List D) | ins (c : Str) (fs : List (Str × D)) | pen | fn (f : Addr) (vs : List V) (ds : List D)
/-- what a plain class of the text has -/
structure ClsF (K : PySem.W.Frag) (C : Addr) : Prop where
  cl : Cls K C
  ha : PySem.W.findIn K (.ref C) "__class__" = some (some (.builtin "object.__class__"))
  hn : PySem.W.specialIn K (.builtin "object.__class__") "__get__" = some (some (.builtin "getset_descriptor.__get__"))
  htk : PySem.W.takesIn K (.builtin "object.__class__") = some true
  hm : PySem.W.mroIn K C (.type "object") = some true
/-- what an engine proof keeps fixed: the pen's dict, what is owned by others, the heap at the entry -/
structure Pm where
  pa : Addr
  ca : Addr
  O : Addr → Prop
  H0 : Hp
  n : Nat
/-- a tuple's items, tracked or of the module -/
def TupR (K : PySem.W.Frag) (B : Addr → Prop) (H : Hp) (a : Addr) (xs : List V) : Prop :=
  (H a = some (.tup xs) ∧ ¬ B a) ∨
    ∃ (o : Obj) (its : Array Value) (n : Nat), K.lookup a = some o ∧ o.cls = .type "tuple" ∧ o.data = .seq its n ∧ its.size ≤ sizeLine ∧ Vals xs its.toList
theorem TupR.sq {K : PySem.W.Frag} {B : Addr → Prop} {H : Hp} {a : Addr} {xs : List V} (h : TupR K B H a xs) : SqT K H a xs := by
  rcases h with h | h
  · exact .inl (.inl h.1)
  · exact .inr h
section
variable (K : PySem.W.Frag) (mg : Str → Option Value) (pa : Addr) (B : Addr → Prop) (H : Hp)
mutual
/-- v stands for d, for good: nothing that it reaches is in B -/
inductive FR : V → D → Prop
  | non : FR .non .non
  | bl (b : Bool) : FR (.bl b) (.bl b)
  | int (i : Int) : FR (.int i) (.int i)
  | str (s : Str) : FR (.str s) (.str s)
  | tup {a : Addr} {xs : List V} {ds : List D} : TupR K B H a xs → FRs xs ds → FR (.ref a) (.tup ds)
  | lst {a : Addr} {xs : List V} {ds : List D} : H a = some (.lst xs) → ¬ B a → FRs xs ds → FR (.ref a) (.lst ds)
  | ins {a C dx : Addr} {c : Str} {fs : List (Str × V)} {gs : List (Str × D)} : mg c = some (.ref C) → ClsF K C → (∀ f ∈ gs, NoAttr K C f.1) → H a = some (.ins C dx fs) → ¬ B a → FRf fs gs → FR (.ref a) (.ins c gs)
  | pen : FR (.ref pa) .pen
  | fn {f : Addr} {vs : List V} {ds : List D} : FRs vs ds → FR (.ref f) (.fn f vs ds)
inductive FRs : List V → List D → Prop
  | nil : FRs [] []
  | cons {v : V} {vs : List V} {d : D} {ds : List D} : FR v d → FRs vs ds → FRs (v :: vs) (d :: ds)
inductive FRf : List (Str × V) → List (Str × D) → Prop
  | nil : FRf [] []
  | cons {n : Str} {v : V} {vs : List (Str × V)} {d : D} {ds : List (Str × D)} : FR v d → FRf vs ds → FRf ((n, v) :: vs) ((n, d) :: ds)
end
end
/-- what is not in B stays, and stays out of B -/
def Kp (B : Addr → Prop) (H : Hp) (B' : Addr → Prop) (H' : Hp) : Prop := ∀ a o, H a = some o → ¬ B a → H' a = some o ∧ ¬ B' a
theorem Kp.refl (B : Addr → Prop) (H : Hp) : Kp B H B H := fun _ _ h n => ⟨h, n⟩
theorem Kp.trans {B B1 B2 : Addr → Prop} {H H1 H2 : Hp} (a : Kp B H B1 H1) (b : Kp B1 H1 B2 H2) : Kp B H B2 H2 := fun x o h n =>
  let ⟨h1, n1⟩ := a x o h n
  b x o h1 n1
/-- all but the pen stays -/
def Ext (pa : Addr) (H H' : Hp) : Prop := ∀ a o, H a = some o → a ≠ pa → H' a = some o
theorem Ext.refl (pa : Addr) (H : Hp) : Ext pa H H := fun _ _ h _ => h
theorem Ext.trans {pa : Addr} {H H1 H2 : Hp} (a : Ext pa H H1) (b : Ext pa H1 H2) : Ext pa H H2 := fun x o h n => b x o (a x o h n) n
theorem Ext.same {pa : Addr} {H H' : Hp} (h : Same H H') : Ext pa H H' := fun a o e _ => h a o e
theorem Ext.kp {pa : Addr} {B : Addr → Prop} {H H' : Hp} (h : Ext pa H H') (hp : B pa) : Kp B H B H' := fun a o e n => ⟨h a o e (fun q => n (by rw [q]; exact hp)), n⟩
theorem same_new {H : Hp} {q : Addr} {o : HO} (h : H q = none) : Same H (upd H q o) := fun b u e => by
  rw [upd_ne (ne_of_none e h)]
  exact e
section
variable {K : PySem.W.Frag} {mg : Str → Option Value} {pa : Addr} {B B' : Addr → Prop} {H H' : Hp}
theorem TupR.kp {a : Addr} {xs : List V} (h : TupR K B H a xs) (k : Kp B H B' H') : TupR K B' H' a xs := by
  rcases h with ⟨h, n⟩ | h
  · exact .inl (k _ _ h n)
  · exact .inr h
mutual
theorem FR.kp (k : Kp B H B' H') : ∀ {v : V} {d : D}, FR K mg pa B H v d → FR K mg pa B' H' v d
  | _, _, .non => .non
  | _, _, .bl b => .bl b
  | _, _, .int i => .int i
  | _, _, .str s => .str s
  | _, _, .tup h r => .tup (h.kp k) (FRs.kp k r)
  | _, _, .lst h n r => .lst (k _ _ h n).1 (k _ _ h n).2 (FRs.kp k r)
  | _, _, .ins m c g h n r => .ins m c g (k _ _ h n).1 (k _ _ h n).2 (FRf.kp k r)
  | _, _, .pen => .pen
  | _, _, .fn r => .fn (FRs.kp k r)
theorem FRs.kp (k : Kp B H B' H') : ∀ {vs : List V} {ds : List D}, FRs K mg pa B H vs ds → FRs K mg pa B' H' vs ds
  | _, _, .nil => .nil
  | _, _, .cons h r => .cons (FR.kp k h) (FRs.kp k r)
theorem FRf.kp (k : Kp B H B' H') : ∀ {vs : List (Str × V)} {ds : List (Str × D)}, FRf K mg pa B H vs ds → FRf K mg pa B' H' vs ds
  | _, _, .nil => .nil
  | _, _, .cons h r => .cons (FR.kp k h) (FRf.kp k r)
end
theorem FR.ext {v : V} {d : D} (h : FR K mg pa B H v d) (e : Ext pa H H') (hp : B pa) : FR K mg pa B H' v d := h.kp (e.kp hp)
theorem FRs.ext {v : List V} {d : List D} (h : FRs K mg pa B H v d) (e : Ext pa H H') (hp : B pa) : FRs K mg pa B H' v d := h.kp (e.kp hp)
theorem FRs.length : ∀ {vs : List V} {ds : List D}, FRs K mg pa B H vs ds → vs.length = ds.length
  | _, _, .nil => rfl
  | _, _, .cons _ r => by
    have := FRs.length r
    simp only [List.length_cons]
    omega
theorem FRs.get : ∀ {vs : List V} {ds : List D} {i : Nat} {d : D}, FRs K mg pa B H vs ds → ds[i]? = some d → ∃ v, vs[i]? = some v ∧ FR K mg pa B H v d
  | _, _, _, _, .nil, e => by simp at e
  | _, _, 0, _, .cons h _, e => by
    simp at e
    subst e
    exact ⟨_, rfl, h⟩
  | _, _, i + 1, d, .cons _ r, e => by
    obtain ⟨v, h1, h2⟩ := FRs.get (i := i) r (by simpa using e)
    exact ⟨v, by simpa using h1, h2⟩
theorem FRs.append : ∀ {vs ws : List V} {ds es : List D}, FRs K mg pa B H vs ds → FRs K mg pa B H ws es → FRs K mg pa B H (vs ++ ws) (ds ++ es)
  | _, _, _, _, .nil, s => s
  | _, _, _, _, .cons h r, s => .cons h (FRs.append r s)
theorem FRs.take : ∀ {vs : List V} {ds : List D} (n : Nat), FRs K mg pa B H vs ds → FRs K mg pa B H (vs.take n) (ds.take n)
  | _, _, 0, _ => .nil
  | _, _, _ + 1, .nil => .nil
  | _, _, n + 1, .cons h r => .cons h (FRs.take n r)
theorem FRs.drop : ∀ {vs : List V} {ds : List D} (n : Nat), FRs K mg pa B H vs ds → FRs K mg pa B H (vs.drop n) (ds.drop n)
  | _, _, 0, r => r
  | _, _, _ + 1, .nil => .nil
  | _, _, n + 1, .cons _ r => FRs.drop n r
theorem FRs.set {x : V} {u : D} (h : FR K mg pa B H x u) : ∀ {vs : List V} {ds : List D} (i : Nat), FRs K mg pa B H vs ds → FRs K mg pa B H (vs.set i x) (ds.set i u)
  | _, _, _, .nil => .nil
  | _, _, 0, .cons _ r => .cons h r
  | _, _, i + 1, .cons q r => .cons q (FRs.set h i r)
theorem FRs.repl {x : V} {u : D} (h : FR K mg pa B H x u) : ∀ (n : Nat), FRs K mg pa B H (List.replicate n x) (List.replicate n u)
  | 0 => .nil
  | n + 1 => .cons h (FRs.repl h n)
theorem FRs.reps {xs : List V} {us : List D} (h : FRs K mg pa B H xs us) : ∀ (n : Nat), FRs K mg pa B H (List.replicate n xs).flatten (List.replicate n us).flatten
  | 0 => .nil
  | n + 1 => by
    rw [List.replicate_succ, List.replicate_succ, List.flatten_cons, List.flatten_cons]
    exact FRs.append h (FRs.reps h n)
theorem FRs.reverse : ∀ {vs : List V} {ds : List D}, FRs K mg pa B H vs ds → FRs K mg pa B H vs.reverse ds.reverse
  | _, _, .nil => .nil
  | _, _, .cons h r => by
    rw [List.reverse_cons, List.reverse_cons]
    exact FRs.append (FRs.reverse r) (.cons h .nil)
theorem FRs.ints : ∀ {vs : List V} {ns : List Int}, FRs K mg pa B H vs (ns.map D.int) → vs = ns.map V.int
  | _, [], h => by cases h; rfl
  | _, n :: ns, h => by
    cases h with
    | cons h r =>
      cases h
      rw [FRs.ints r]
      rfl
theorem FRs.bools : ∀ {vs : List V} {ns : List Bool}, FRs K mg pa B H vs (ns.map D.bl) → vs = ns.map V.bl
  | _, [], h => by cases h; rfl
  | _, n :: ns, h => by
    cases h with
    | cons h r =>
      cases h
      rw [FRs.bools r]
      rfl
theorem FRs.strs : ∀ {vs : List V} {ns : List Str}, FRs K mg pa B H vs (ns.map D.str) → vs = ns.map V.str
  | _, [], h => by cases h; rfl
  | _, n :: ns, h => by
    cases h with
    | cons h r =>
      cases h
      rw [FRs.strs r]
      rfl
theorem FRs.of_ints : ∀ (ns : List Int), FRs K mg pa B H (ns.map V.int) (ns.map D.int)
  | [] => .nil
  | n :: ns => .cons (.int n) (FRs.of_ints ns)
theorem FRf.lookup : ∀ {vs : List (Str × V)} {ds : List (Str × D)} {n : Str} {d : D}, FRf K mg pa B H vs ds → ds.lookup n = some d → ∃ v, vs.lookup n = some v ∧ FR K mg pa B H v d
  | _, _, _, _, .nil, e => by simp at e
  | _, _, n, d, .cons (n := m) h r, e => by
    rw [List.lookup_cons] at e
    rw [List.lookup_cons]
    by_cases q : (n == m) = true
    · rw [q] at e ⊢
      simp at e
      subst e
      exact ⟨_, rfl, h⟩
    · have q' : (n == m) = false := by simpa using q
      rw [q'] at e ⊢
      exact FRf.lookup r e
end
/-- the pen's dict -/
def PenOk (pa ca : Addr) (H : Hp) (b : Nat) : Prop := ∃ (cells : List Int) (k : Nat) (dg ct fd : Int),
  H pa = some (.dK [(.inr "cells", .ref ca), (.inr "at", .int k), (.inr "digits", .int dg), (.inr "count", .int ct), (.inr "fold", .int fd)]) ∧
  H ca = some (.lst (cells.map V.int)) ∧ k ≤ cells.length ∧ cells.length ≤ 63 ∧ 0 ≤ dg ∧ 0 ≤ ct ∧ ct + b ≤ 2 ^ 40 ∧ 0 ≤ fd ∧ fd < 2 ^ 32
theorem PenOk.same {pa ca : Addr} {H H' : Hp} {b : Nat} (h : PenOk pa ca H b) (s : Same H H') : PenOk pa ca H' b := by
  obtain ⟨cells, k, dg, ct, fd, h1, h2, r⟩ := h
  exact ⟨cells, k, dg, ct, fd, s _ _ h1, s _ _ h2, r⟩
theorem PenOk.mono {pa ca : Addr} {H : Hp} {b c : Nat} (h : PenOk pa ca H b) (s : c ≤ b) : PenOk pa ca H c := by
  obtain ⟨cells, k, dg, ct, fd, h1, h2, h3, h4, h5, h6, h7, r⟩ := h
  exact ⟨cells, k, dg, ct, fd, h1, h2, h3, h4, h5, h6, by omega, r⟩
theorem PenOk.put {pa ca q : Addr} {o : HO} {H : Hp} {b : Nat} (h : PenOk pa ca H b) (h1 : q ≠ pa) (h2 : q ≠ ca) : PenOk pa ca (upd H q o) b := by
  obtain ⟨cells, k, dg, ct, fd, e1, e2, r⟩ := h
  exact ⟨cells, k, dg, ct, fd, by rw [upd_ne h1.symm]; exact e1, by rw [upd_ne h2.symm]; exact e2, r⟩
/-! ### the names' values -/
inductive Slot where
  | un | v (d : D) | own (ds : List D)
abbrev Env := List Slot
section
variable (K : PySem.W.Frag) (mg : Str → Option Value)
def SlotR (p : Pm) (B : Addr → Prop) (H : Hp) (σ : L2.St) (env : Env) (i : Nat) : Slot → Prop
  | .un => True
  | .v d => ∃ u, σ[i]? = some (some u) ∧ FR K mg p.pa B H u d
  | .own ds => ∃ q xs, σ[i]? = some (some (.ref q)) ∧ H q = some (.lst xs) ∧ FRs K mg p.pa B H xs ds ∧ B q ∧ ¬ p.O q ∧ p.H0 q = none ∧
      ∀ j ds', j ≠ i → env[j]? = some (.own ds') → σ[j]? ≠ some (some (.ref q))
structure Rel (p : Pm) (B : Addr → Prop) (H : Hp) (σ : L2.St) (env : Env) (b : Nat) : Prop where
  sub : ∀ a, p.O a → B a
  trk : ∀ a, B a → H a ≠ none
  opa : p.O p.pa
  oca : p.O p.ca
  pen : PenOk p.pa p.ca H b
  ext : Ext p.pa p.H0 H
  len : env.length = σ.length
  nl : env.length = p.n
  slots : ∀ i s, env[i]? = some s → SlotR K mg p B H σ env i s
end
section
variable {K : PySem.W.Frag} {mg : Str → Option Value} {p : Pm} {B B' : Addr → Prop} {H H' : Hp} {σ : L2.St} {env : Env} {b b' : Nat}
theorem Rel.bpa (R : Rel K mg p B H σ env b) : B p.pa := R.sub _ R.opa
theorem PenOk.ne {pa ca : Addr} {a : Addr} {xs : List V} (h : PenOk pa ca H b) (e : H a = some (.lst xs)) : a ≠ pa := by
  obtain ⟨cells, k, dg, ct, fd, h1, _⟩ := h
  intro q
  rw [q, h1] at e
  cases e
theorem Rel.step (R : Rel K mg p B H σ env b) (e : Ext p.pa H H') (q : PenOk p.pa p.ca H' b') : Rel K mg p B H' σ env b' := by
  have hp := R.bpa
  refine ⟨R.sub, fun a ha => ?_, R.opa, R.oca, q, R.ext.trans e, R.len, R.nl, fun i s h => ?_⟩
  · have h0 := R.trk a ha
    by_cases z : a = p.pa
    · obtain ⟨cells, k, dg, ct, fd, h1, _⟩ := q
      rw [z, h1]
      simp
    · cases h1 : H a with
      | none => exact absurd h1 h0
      | some o =>
        rw [e a o h1 z]
        simp
  · have hs := R.slots i s h
    cases s with
    | un => trivial
    | v d =>
      obtain ⟨u, h1, h2⟩ := hs
      exact ⟨u, h1, h2.ext e hp⟩
    | own ds =>
      obtain ⟨a, xs, h1, h2, h3, h4⟩ := hs
      exact ⟨a, xs, h1, e _ _ h2 (R.pen.ne h2), h3.ext e hp, h4⟩
theorem Rel.same (R : Rel K mg p B H σ env b) (s : Same H H') : Rel K mg p B H' σ env b := R.step (.same s) (R.pen.same s)
theorem Rel.bud (R : Rel K mg p B H σ env b) (h : b' ≤ b) : Rel K mg p B H σ env b' := R.step (Ext.refl _ _) (R.pen.mono h)
/-- B may grow by what is new -/
theorem Rel.stepM (R : Rel K mg p B H σ env b) {q : Addr} (h : H q = none) (hq : H' q ≠ none) (e : Ext p.pa H H') (po : PenOk p.pa p.ca H' b') : Rel K mg p (fun a => B a ∨ a = q) H' σ env b' := by
  have R' := R.step e po
  have kp : Kp B H (fun a => B a ∨ a = q) H' := fun a u e1 n => ⟨(e.kp R.bpa a u e1 n).1, fun z => z.elim n (ne_of_none e1 h)⟩
  refine ⟨fun a ha => .inl (R.sub a ha), fun a ha => ?_, R.opa, R.oca, po, R'.ext, R.len, R.nl, fun i s' hs => ?_⟩
  · rcases ha with ha | ha
    · exact R'.trk a ha
    · rw [ha]
      exact hq
  · have hs' := R.slots i s' hs
    cases s' with
    | un => trivial
    | v d =>
      obtain ⟨u, h1, h2⟩ := hs'
      exact ⟨u, h1, h2.kp kp⟩
    | own ds =>
      obtain ⟨a, xs, h1, h2, h3, h4, h5⟩ := hs'
      exact ⟨a, xs, h1, e _ _ h2 (R.pen.ne h2), h3.kp kp, .inl h4, h5⟩
theorem Rel.more (R : Rel K mg p B H σ env b) {q : Addr} {o : HO} (h : H q = none) : Rel K mg p (fun a => B a ∨ a = q) (upd H q o) σ env b :=
  R.stepM h (by rw [upd_same]; simp) (.same (same_new h)) (R.pen.same (same_new h))
theorem Rel.new0 (R : Rel K mg p B H σ env b) {q : Addr} (h : H q = none) : p.H0 q = none := by
  cases e : p.H0 q with
  | none => rfl
  | some o =>
    by_cases z : q = p.pa
    · exact absurd h (by rw [z]; exact R.trk _ R.bpa)
    · rw [R.ext q o e z] at h
      cases h
end
/-! ### readings made of pure ones -/
abbrev WE := Env → Nat → (D → Nat → Prop) → Prop
abbrev WL := Env → Nat → (List D → Nat → Prop) → Prop
section
variable (K : PySem.W.Frag) (mg : Str → Option Value)
def tOf (p : Pm) (W : WE) : TE := fun σ H Q => ∃ B env b Qd, Rel K mg p B H σ env b ∧ W env b Qd ∧
  ∀ v H' d b', Rel K mg p B H' σ env b' → Ext p.pa H H' → FR K mg p.pa B H' v d → Qd d b' → Q v H'
/-- it can be read now -/
def RR (pa : Addr) (B : Addr → Prop) (H : Hp) (v : V) (d : D) : Prop := FR K mg pa B H v d ∨ ∃ q xs ds, v = .ref q ∧ d = .lst ds ∧ H q = some (.lst xs) ∧ FRs K mg pa B H xs ds
def tBr (p : Pm) (W : WE) : TE := fun σ H Q => ∃ B env b Qd, Rel K mg p B H σ env b ∧ W env b Qd ∧
  ∀ v H' d b', Rel K mg p B H' σ env b' → Ext p.pa H H' → RR K mg p.pa B H' v d → Qd d b' → Q v H'
def tFr (p : Pm) (W : WL) : TE := fun σ H Q => ∃ B env b Qd, Rel K mg p B H σ env b ∧ W env b Qd ∧
  ∀ q xs H' ds b', Rel K mg p B H' σ env b' → Rel K mg p (fun a => B a ∨ a = q) H' σ env b' → Ext p.pa H H' → H' q = some (.lst xs) → FRs K mg p.pa (fun a => B a ∨ a = q) H' xs ds → ¬ B q → H q = none → Qd ds b' → Q (.ref q) H'
end
/-- an expression: a value for good -/
def QE (X : Cx) (e : Expr) (W : WE) : Prop := ∀ p, PE X e (tOf X.K X.mg p W)
/-- an expression that is read at once -/
def QB (X : Cx) (e : Expr) (W : WE) : Prop := ∀ p, PE X e (tBr X.K X.mg p W)
/-- an expression that makes a new list -/
def QF (X : Cx) (e : Expr) (W : WL) : Prop := ∀ p, PE X e (tFr X.K X.mg p W)
theorem PE.le {X : Cx} {e : Expr} {t t' : TE} (h : PE X e t) (m : ∀ σ H Q, t' σ H Q → t σ H Q) : PE X e t' := ⟨fun pins s σ H Q I hw => h.run pins s σ H Q I (m _ _ _ hw)⟩
section
variable {X : Cx} {e : Expr}
theorem QE.b {W : WE} (h : QE X e W) : QB X e W := fun p => PE.le (h p) fun σ H Q ⟨B, env, b, Qd, R, w, k⟩ =>
  ⟨B, env, b, Qd, R, w, fun v H' d b' R' x f q => k v H' d b' R' x (.inl f) q⟩
/-- a new list as a value for good -/
def wFz (W : WL) : WE := fun env b Q => W env b fun ds b' => Q (.lst ds) b'
theorem QF.qe {W : WL} (h : QF X e W) : QE X e (wFz W) := fun p => PE.le (h p) fun σ H Q ⟨B, env, b, Qd, R, w, k⟩ =>
  ⟨B, env, b, _, R, w, fun q xs H' ds b' R' _ x h1 h2 h3 h4 qd => k (.ref q) H' (.lst ds) b' R' x (.lst h1 h3 (h2.kp fun a o e n => ⟨e, fun z => n (.inl z)⟩)) qd⟩
end
end En
/-! The engine, part 2: expressions. -/
namespace En
open PySem PySem.Spec PyProof.Rows L2
/-- a choice by a bool -/
def wIf (c : Bool) (A B : Prop) : Prop := match c with | true => A | false => B
theorem wIf_t {A B : Prop} (h : A) : wIf true A B := h
theorem wIf_f {A B : Prop} (h : B) : wIf false A B := h
theorem wIf_of {c : Bool} {A B : Prop} (h1 : c = true → A) (h2 : c = false → B) : wIf c A B := by
  cases c with
  | true => exact h1 rfl
  | false => exact h2 rfl
theorem wIf_d {c A B : Prop} [Decidable c] (h1 : c → A) (h2 : ¬ c → B) : wIf (decide c) A B := by
  by_cases h : c
  · rw [decide_eq_true h]
    exact h1 h
  · rw [decide_eq_false h]
    exact h2 h
theorem wIf_ite {c : Bool} {A B : Prop} (h : wIf c A B) : if c = true then A else B := by
  cases c with
  | true => exact iteT h
  | false => exact iteF h
section
variable {K : PySem.W.Frag} {mg : Str → Option Value} {p : Pm} {B B' : Addr → Prop} {H H' : Hp} {σ : L2.St} {env : Env} {b b' : Nat} {v : V} {d : D}
theorem RR.ext (h : RR K mg p.pa B H v d) (R : Rel K mg p B H σ env b) (e : Ext p.pa H H') : RR K mg p.pa B H' v d := by
  rcases h with h | ⟨q, xs, ds, rfl, rfl, h, r⟩
  · exact .inl (h.ext e R.bpa)
  · exact .inr ⟨q, xs, ds, rfl, rfl, e _ _ h (R.pen.ne h), r.ext e R.bpa⟩
theorem RR.int {i : Int} (h : RR K mg p.pa B H v (.int i)) : v = .int i := by
  rcases h with h | ⟨q, xs, ds, rfl, h, _⟩
  · cases h; rfl
  · cases h
theorem RR.bl {i : Bool} (h : RR K mg p.pa B H v (.bl i)) : v = .bl i := by
  rcases h with h | ⟨q, xs, ds, rfl, h, _⟩
  · cases h; rfl
  · cases h
theorem RR.str {i : Str} (h : RR K mg p.pa B H v (.str i)) : v = .str i := by
  rcases h with h | ⟨q, xs, ds, rfl, h, _⟩
  · cases h; rfl
  · cases h
theorem RR.non (h : RR K mg p.pa B H v .non) : v = .non := by
  rcases h with h | ⟨q, xs, ds, rfl, h, _⟩
  · cases h; rfl
  · cases h
theorem RR.lst {ds : List D} (h : RR K mg p.pa B H v (.lst ds)) : ∃ q xs, v = .ref q ∧ H q = some (.lst xs) ∧ FRs K mg p.pa B H xs ds := by
  rcases h with h | ⟨q, xs, es, rfl, e, h, r⟩
  · cases h with
    | lst h n r => exact ⟨_, _, rfl, h, r⟩
  · cases e
    exact ⟨q, xs, rfl, h, r⟩
theorem RR.tup {ds : List D} (h : RR K mg p.pa B H v (.tup ds)) : ∃ q xs, v = .ref q ∧ SqT K H q xs ∧ TupR K B H q xs ∧ FRs K mg p.pa B H xs ds := by
  rcases h with h | ⟨q, xs, es, rfl, e, h, r⟩
  · cases h with
    | tup h r => exact ⟨_, _, rfl, h.sq, h, r⟩
  · cases e
theorem Rel.ext_kp (R : Rel K mg p B H σ env b) (e : Ext p.pa H H') : Kp B H B H' := e.kp R.bpa
/-- a new tuple, a new list stand for good -/
theorem FR.newT {xs : List V} {ds : List D} (R : Rel K mg p B H σ env b) {q : Addr} (h : H q = none) (r : FRs K mg p.pa B H xs ds) : FR K mg p.pa B (upd H q (.tup xs)) (.ref q) (.tup ds) :=
  .tup (.inl ⟨upd_same, fun z => R.trk q z h⟩) (r.ext (.same (same_new h)) R.bpa)
theorem FR.newL {xs : List V} {ds : List D} (R : Rel K mg p B H σ env b) {q : Addr} (h : H q = none) (r : FRs K mg p.pa B H xs ds) : FR K mg p.pa B (upd H q (.lst xs)) (.ref q) (.lst ds) :=
  .lst upd_same (fun z => R.trk q z h) (r.ext (.same (same_new h)) R.bpa)
end
/-! ### names, constants -/
def wVar (i : Nat) : WE := fun env b Q => match env[i]? with | some (.v d) => Q d b | _ => False
def wVarB (i : Nat) : WE := fun env b Q => match env[i]? with | some (.v d) => Q d b | some (.own ds) => Q (.lst ds) b | _ => False
def wC (d : D) : WE := fun _ b Q => Q d b
section
variable {X : Cx}
theorem qe_var (i : Nat) {x : Str} {pos : Pos} (hN : X.N[i]? = some x := by rfl) (hv : Vis X.env.scope x := by first | exact Or.inl rfl | exact Or.inr (Or.inl rfl) | exact Or.inr (Or.inr rfl)) (hd : (x == ("__debug__" : Str)) = false := by decide)
    (hcd : (x == ("__classdict__" : Str)) = false := by decide) : QE X (.Name x pos) (wVar i) := fun p => PE.le (pe_var hN hv hd hcd) fun σ H Q ⟨B, env, b, Qd, R, w, k⟩ => by
  unfold wVar at w
  split at w
  · rename_i d h
    obtain ⟨u, h1, h2⟩ := R.slots i _ h
    exact ⟨u, h1, k u H d b R (.refl _ _) h2 w⟩
  · exact w.elim
theorem qb_var (i : Nat) {x : Str} {pos : Pos} (hN : X.N[i]? = some x := by rfl) (hv : Vis X.env.scope x := by first | exact Or.inl rfl | exact Or.inr (Or.inl rfl) | exact Or.inr (Or.inr rfl)) (hd : (x == ("__debug__" : Str)) = false := by decide)
    (hcd : (x == ("__classdict__" : Str)) = false := by decide) : QB X (.Name x pos) (wVarB i) := fun p => PE.le (pe_var hN hv hd hcd) fun σ H Q ⟨B, env, b, Qd, R, w, k⟩ => by
  unfold wVarB at w
  split at w
  · rename_i d h
    obtain ⟨u, h1, h2⟩ := R.slots i _ h
    exact ⟨u, h1, k u H d b R (.refl _ _) (.inl h2) w⟩
  · rename_i ds h
    obtain ⟨q, xs, h1, h2, h3, _⟩ := R.slots i _ h
    exact ⟨.ref q, h1, k (.ref q) H (.lst ds) b R (.refl _ _) (.inr ⟨q, xs, ds, rfl, rfl, h2, h3⟩) w⟩
  · exact w.elim
theorem qe_c {e : Expr} {v : V} {d : D} (h : PE X e (tC v)) (f : ∀ (pa : Addr) (B : Addr → Prop) (H : Hp), FR X.K X.mg pa B H v d) : QE X e (wC d) := fun p => PE.le h fun σ H Q ⟨B, env, b, Qd, R, w, k⟩ =>
  k v H d b R (.refl _ _) (f _ _ _) w
theorem qe_int {i : Int} {j pos} : QE X (.Constant (.int i) j pos) (wC (.int i)) := qe_c pe_int fun _ _ _ => .int i
theorem qe_bl {i : Bool} {j pos} : QE X (.Constant (.bool i) j pos) (wC (.bl i)) := qe_c pe_bl fun _ _ _ => .bl i
theorem qe_str {i : Str} {j pos} : QE X (.Constant (.str i) j pos) (wC (.str i)) := qe_c pe_str fun _ _ _ => .str i
theorem qe_non {j pos} : QE X (.Constant .none j pos) (wC .non) := qe_c pe_non fun _ _ _ => .non
/-- a constant of the module -/
theorem qe_glob {x : Str} {v : V} {u : Value} {d : D} {pos : Pos} (hg : Gl X x) (hm : X.mg x = some u) (r : RelV v u) (f : ∀ (pa : Addr) (B : Addr → Prop) (H : Hp), FR X.K X.mg pa B H v d) (hd : (x == ("__debug__" : Str)) = false := by decide) : QE X (.Name x pos) (wC d) :=
  qe_c (pe_glob hg hm r hd) f
end
/-! ### operators -/
abbrev Op2 := D → D → (D → Prop) → Prop
def OpOk (X : Cx) (r : R2) (op : Op2) : Prop := ∀ (p : Pm) (B : Addr → Prop) (H : Hp) (σ : L2.St) (env : Env) (b : Nat) (x y : V) (dx dy : D) (Q : VK) (Qd : D → Prop), Rel X.K X.mg p B H σ env b →
  RR X.K X.mg p.pa B H x dx → RR X.K X.mg p.pa B H y dy → op dx dy Qd → (∀ v H' d, Same H H' → FR X.K X.mg p.pa B H' v d → Qd d → Q v H') → r x y H Q
def wBin (op : Op2) (Wa Wb : WE) : WE := fun env b Q => Wa env b fun x b1 => Wb env b1 fun y b2 => op x y fun d => Q d b2
section
variable {X : Cx} {a c : Expr} {Wa Wc : WE} {pos : Pos}
theorem bin_le {r : R2} {op : Op2} (ok : OpOk X r op) {p : Pm} {σ : L2.St} {H : Hp} {Q : VK} (h : tOf X.K X.mg p (wBin op Wa Wc) σ H Q) : tOp r (tBr X.K X.mg p Wa) (tBr X.K X.mg p Wc) σ H Q := by
  obtain ⟨B, env, b, Qd, R, w, k⟩ := h
  refine ⟨B, env, b, _, R, w, fun x H1 dx b1 R1 e1 fx w1 => ⟨B, env, b1, _, R1, w1, fun y H2 dy b2 R2 e2 fy w2 => ?_⟩⟩
  exact ok p B H2 σ env b2 x y dx dy Q _ R2 (fx.ext R1 e2) fy w2 fun v H' d s f q => k v H' d b2 (R2.same s) ((e1.trans e2).trans (.same s)) f q
theorem qe_bin {o : Operator} {r : R2} {op : Op2} (ho : OpR X (binaryOp o) r) (ok : OpOk X r op) (ha : QB X a Wa) (hc : QB X c Wc) : QE X (.BinOp a o c pos) (wBin op Wa Wc) := fun p =>
  PE.le (pe_op ho (ha p) (hc p)) fun σ H Q h => bin_le ok h
theorem qe_cmp {o : CmpOp} {r : R2} {op : Op2} (ho : OpR X (compareOp o) r) (ok : OpOk X r op) (ha : QB X a Wa) (hc : QB X c Wc) (hm : behindInMarks o c = false) : QE X (.Compare a [o] [c] pos) (wBin op Wa Wc) := fun p =>
  PE.le (pe_cmpR ho (ha p) (hc p) hm) fun σ H Q h => bin_le ok h
theorem OpR.or {f : Value → Value → Sem Value} {r r' : R2} (h : OpR X f r) (h' : OpR X f r') : OpR X f (fun x y H Q => r x y H Q ∨ r' x y H Q) := by
  intro pins s σ H x y v u Q I rx ry q
  rcases q with q | q
  · exact h pins s σ H x y v u Q I rx ry q
  · exact h' pins s σ H x y v u Q I rx ry q
end
/-- ints -/
def dI (C : Int → Int → Prop) (g : Int → Int → D) : Op2
  | .int i, .int j, Q => C i j ∧ Q (g i j)
  | _, _, _ => False
def dI0 (g : Int → Int → D) : Op2
  | .int i, .int j, Q => Q (g i j)
  | _, _, _ => False
def dAdd : Op2
  | .int i, .int j, Q => Q (.int (i + j))
  | .str s, .str t, Q => s.length + t.length ≤ 1000000 ∧ Q (.str (s ++ t))
  | .tup xs, .tup ys, Q => xs.length + ys.length ≤ 1000000 ∧ Q (.tup (xs ++ ys))
  | .lst xs, .lst ys, Q => xs.length + ys.length ≤ 1000000 ∧ Q (.lst (xs ++ ys))
  | _, _, _ => False
def CDivG (_ j : Int) : Prop := j ≠ 0 ∧ j.natAbs.log2 < 9000
def dMul : Op2
  | .int i, .int j, Q => CMulW i j ∧ Q (.int (i * j))
  | .lst xs, .int k, Q => (xs.length * k.toNat ≤ 1000000 ∧ -(2 ^ 63) ≤ k ∧ k < 2 ^ 63) ∧ Q (.lst (List.replicate k.toNat xs).flatten)
  | _, _, _ => False
section
variable {X : Cx}
theorem line_ge : 1000000 < sizeLine := by decide
theorem ok_I {C : Int → Int → Prop} {g : Int → Int → V} {gd : Int → Int → D} (h : ∀ (p : Pm) (B : Addr → Prop) (H : Hp) i j, FR X.K X.mg p.pa B H (g i j) (gd i j)) : OpOk X (rI C g) (dI C gd) := by
  intro p B H σ env b x y dx dy Q Qd R rx ry q k
  cases dx <;> cases dy <;> try exact q.elim
  exact ⟨_, _, rx.int, ry.int, q.1, k _ H _ (Same.refl _) (h p B H _ _) q.2⟩
theorem ok_I0 {g : Int → Int → V} {gd : Int → Int → D} (h : ∀ (p : Pm) (B : Addr → Prop) (H : Hp) i j, FR X.K X.mg p.pa B H (g i j) (gd i j)) : OpOk X (rI0 g) (dI0 gd) := by
  intro p B H σ env b x y dx dy Q Qd R rx ry q k
  cases dx <;> cases dy <;> try exact q.elim
  exact ⟨_, _, rx.int, ry.int, k _ H _ (Same.refl _) (h p B H _ _) q⟩
abbrev rAddA (K : PySem.W.Frag) : R2 := fun x y H Q => rI0 (fun i j => .int (i + j)) x y H Q ∨ (∃ i j, x = .str i ∧ y = .str j ∧ i.length + j.length ≤ sizeLine ∧ Q (.str (i ++ j)) H) ∨ rCatA K x y H Q ∨ rCat x y H Q
theorem op_addA : OpR X (binaryOp .Add) (rAddA X.K) := OpR.or op_add (OpR.or op_add_str (OpR.or op_catA op_cat))
theorem ok_add : OpOk X (rAddA X.K) dAdd := by
  intro p B H σ env b x y dx dy Q Qd R rx ry q k
  have hl := line_ge
  cases dx <;> cases dy <;> try exact q.elim
  · exact .inl ⟨_, _, rx.int, ry.int, k _ H _ (Same.refl _) (.int _) q⟩
  · exact .inr (.inl ⟨_, _, rx.str, ry.str, by have := q.1; omega, k _ H _ (Same.refl _) (.str _) q.2⟩)
  · obtain ⟨q1, xs, rfl, h1, t1, r1⟩ := rx.tup
    obtain ⟨q2, ys, rfl, h2, t2, r2⟩ := ry.tup
    have e1 := r1.length
    have e2 := r2.length
    refine .inr (.inr (.inl ⟨q1, q2, xs, ys, rfl, rfl, h1, h2, by have := q.1; omega, fun z => ?_, fun _ z => ?_, fun _ _ n hn => ?_⟩))
    · subst z
      cases r1
      exact k _ H _ (Same.refl _) (.tup t2 r2) (by simpa using q.2)
    · subst z
      cases r2
      exact k _ H _ (Same.refl _) (.tup t1 r1) (by simpa using q.2)
    · exact k _ _ _ (same_new hn) (FR.newT R hn (r1.append r2)) q.2
  · obtain ⟨q1, xs, rfl, h1, r1⟩ := rx.lst
    obtain ⟨q2, ys, rfl, h2, r2⟩ := ry.lst
    have e1 := r1.length
    have e2 := r2.length
    refine .inr (.inr (.inr ⟨q1, q2, xs, ys, rfl, rfl, h1, h2, by have := q.1; omega, fun n hn => ?_⟩))
    exact k _ _ _ (same_new hn) (FR.newL R hn (r1.append r2)) q.2
theorem op_fdivG : OpR X (binaryOp .FloorDiv) (rI CDivG fun i j => .int (i.fdiv j)) := opI fun _ _ _ _ _ _ _ hc q => floordiv_int hc.1 q (.inl (PyProof.noPylong_of_log2 hc.2))
abbrev rMulA (K : PySem.W.Frag) : R2 := fun x y H Q => rI CMulW (fun i j => .int (i * j)) x y H Q ∨ rRep x y H Q
theorem op_mulA : OpR X (binaryOp .Mult) (rMulA X.K) := OpR.or op_mulW op_rep
theorem ok_mul : OpOk X (rMulA X.K) dMul := by
  intro p B H σ env b x y dx dy Q Qd R rx ry q k
  have hl := line_ge
  cases dx <;> cases dy <;> try exact q.elim
  · exact .inl ⟨_, _, rx.int, ry.int, q.1, k _ H _ (Same.refl _) (.int _) q.2⟩
  · obtain ⟨q1, xs, rfl, h1, r1⟩ := rx.lst
    have e1 := r1.length
    obtain ⟨⟨q0, q1', q2⟩, q3⟩ := q
    refine .inr ⟨q1, _, xs, rfl, ry.int, h1, q1', q2, by rw [e1]; omega, fun n hn => ?_⟩
    exact k _ _ _ (same_new hn) (FR.newL R hn (r1.reps _)) q3
end
section
variable {X : Cx} {a c : Expr} {Wa Wc : WE} {pos : Pos}
theorem qe_add (ha : QB X a Wa) (hc : QB X c Wc) : QE X (.BinOp a .Add c pos) (wBin dAdd Wa Wc) := qe_bin op_addA ok_add ha hc
theorem qe_mul (ha : QB X a Wa) (hc : QB X c Wc) : QE X (.BinOp a .Mult c pos) (wBin dMul Wa Wc) := qe_bin op_mulA ok_mul ha hc
theorem qe_sub (ha : QB X a Wa) (hc : QB X c Wc) : QE X (.BinOp a .Sub c pos) (wBin (dI0 fun i j => .int (i - j)) Wa Wc) := qe_bin op_sub (ok_I0 fun _ _ _ _ _ => .int _) ha hc
theorem qe_div (ha : QB X a Wa) (hc : QB X c Wc) : QE X (.BinOp a .FloorDiv c pos) (wBin (dI CDivG fun i j => .int (i.fdiv j)) Wa Wc) := qe_bin op_fdivG (ok_I fun _ _ _ _ _ => .int _) ha hc
theorem qe_mod (ha : QB X a Wa) (hc : QB X c Wc) : QE X (.BinOp a .Mod c pos) (wBin (dI (fun _ j => j ≠ 0) fun i j => .int (i.fmod j)) Wa Wc) := qe_bin op_modN (ok_I fun _ _ _ _ _ => .int _) ha hc
theorem qe_lt (ha : QB X a Wa) (hc : QB X c Wc) : QE X (.Compare a [.Lt] [c] pos) (wBin (dI0 fun i j => .bl (decide (i < j))) Wa Wc) := qe_cmp op_lt (ok_I0 fun _ _ _ _ _ => .bl _) ha hc (nomark _)
theorem qe_le (ha : QB X a Wa) (hc : QB X c Wc) : QE X (.Compare a [.LtE] [c] pos) (wBin (dI0 fun i j => .bl (decide (i ≤ j))) Wa Wc) := qe_cmp op_le (ok_I0 fun _ _ _ _ _ => .bl _) ha hc (nomark _)
theorem qe_gt (ha : QB X a Wa) (hc : QB X c Wc) : QE X (.Compare a [.Gt] [c] pos) (wBin (dI0 fun i j => .bl (decide (j < i))) Wa Wc) := qe_cmp op_gt (ok_I0 fun _ _ _ _ _ => .bl _) ha hc (nomark _)
theorem qe_ge (ha : QB X a Wa) (hc : QB X c Wc) : QE X (.Compare a [.GtE] [c] pos) (wBin (dI0 fun i j => .bl (decide (j ≤ i))) Wa Wc) := qe_cmp op_ge (ok_I0 fun _ _ _ _ _ => .bl _) ha hc (nomark _)
end
/-! ### == and != of data -/
mutual
def D.py : D → PyData
  | .non => .none
  | .bl b => .bool b
  | .int i => .int i
  | .str s => .str s
  | .tup ds => .tuple (D.pys ds)
  | .lst ds => .list (D.pys ds)
  | .ins _ _ => .none
  | .pen => .none
  | .fn _ _ _ => .none
def D.pys : List D → List PyData
  | [] => []
  | d :: r => D.py d :: D.pys r
end
mutual
/-- no object of a class in it, not deep -/
def D.flat : Nat → D → Bool
  | _, .ins _ _ => false
  | _, .pen => false
  | _, .fn _ _ _ => false
  | 0, .tup _ => false
  | 0, .lst _ => false
  | n + 1, .tup ds => D.flats n ds
  | n + 1, .lst ds => D.flats n ds
  | _, .str s => PyData.strOk s
  | _, _ => true
def D.flats : Nat → List D → Bool
  | _, [] => true
  | n, d :: r => D.flat n d && D.flats n r
end
section
variable {K : PySem.W.Frag} {mg : Str → Option Value} {pa : Addr} {B : Addr → Prop} {H : Hp}
mutual
theorem FR.dp : ∀ {v : V} {d : D} {n : Nat}, FR K mg pa B H v d → d.flat n = true → Dp K H v d.py
  | _, _, _, .non, _ => .non
  | _, _, _, .bl b, _ => .bl b
  | _, _, _, .int i, _ => .int i
  | _, _, _, .str s, _ => .str s
  | _, _, 0, .tup h r, f => by simp [D.flat] at f
  | _, _, n + 1, .tup h r, f => by
    unfold D.py
    exact .tup h.sq (FRs.dp (n := n) r (by simpa [D.flat] using f))
  | _, _, 0, .lst h _ r, f => by simp [D.flat] at f
  | _, _, n + 1, .lst h _ r, f => by
    unfold D.py
    exact .lst (.inl (.inl h)) (FRs.dp (n := n) r (by simpa [D.flat] using f))
  | _, _, n, .ins _ _ _ _ _ _, f => by cases n <;> simp [D.flat] at f
  | _, _, n, .pen, f => by cases n <;> simp [D.flat] at f
  | _, _, n, .fn _, f => by cases n <;> simp [D.flat] at f
theorem FRs.dp : ∀ {vs : List V} {ds : List D} {n : Nat}, FRs K mg pa B H vs ds → D.flats n ds = true → DpAll K H vs (D.pys ds)
  | _, _, _, .nil, _ => by
    unfold D.pys
    exact .nil
  | _, _, n, .cons h r, f => by
    simp only [D.flats, Bool.and_eq_true] at f
    unfold D.pys
    exact .cons (FR.dp h f.1) (FRs.dp r f.2)
end
theorem RR.dp {v : V} {d : D} {n : Nat} (h : RR K mg pa B H v d) (f : d.flat n = true) : Dp K H v d.py := by
  rcases h with h | ⟨q, xs, ds, rfl, rfl, h, r⟩
  · exact h.dp f
  · cases n with
    | zero => simp [D.flat] at f
    | succ n =>
      unfold D.py
      exact .lst (.inl (.inl h)) (FRs.dp (n := n) r (by simpa [D.flat] using f))
end
mutual
theorem flat_lay : ∀ (d : D) (n : Nat), d.flat n = true → d.py.canLay0 = true
  | .non, _, _ => rfl
  | .bl _, _, _ => rfl
  | .int _, _, _ => rfl
  | .str s, n, f => by
    have f' : PyData.strOk s = true := by cases n <;> simpa [D.flat] using f
    simpa [D.py, PyData.canLay0] using f'
  | .tup ds, 0, f => by simp [D.flat] at f
  | .lst ds, 0, f => by simp [D.flat] at f
  | .tup ds, n + 1, f => by
    simp only [D.py, PyData.canLay0]
    exact flats_lay ds n (by simpa [D.flat] using f)
  | .lst ds, n + 1, f => by
    simp only [D.py, PyData.canLay0]
    exact flats_lay ds n (by simpa [D.flat] using f)
  | .ins _ _, n, f => by cases n <;> simp [D.flat] at f
  | .pen, n, f => by cases n <;> simp [D.flat] at f
  | .fn _ _ _, n, f => by cases n <;> simp [D.flat] at f
theorem flats_lay : ∀ (ds : List D) (n : Nat), D.flats n ds = true → PyData.canLayAll0 (D.pys ds) = true
  | [], _, _ => rfl
  | d :: r, n, f => by
    simp only [D.flats, Bool.and_eq_true] at f
    simp only [D.pys, PyData.canLayAll0, Bool.and_eq_true]
    exact ⟨flat_lay d n f.1, flats_lay r n f.2⟩
end
mutual
theorem flat_depth : ∀ (d : D) (n : Nat), d.flat n = true → d.py.depth ≤ n
  | .non, _, _ => by simp [D.py, PyData.depth]
  | .bl _, _, _ => by simp [D.py, PyData.depth]
  | .int _, _, _ => by simp [D.py, PyData.depth]
  | .str s, n, f => by simp [D.py, PyData.depth]
  | .tup ds, 0, f => by simp [D.flat] at f
  | .lst ds, 0, f => by simp [D.flat] at f
  | .tup ds, n + 1, f => by
    simp only [D.py, PyData.depth]
    have := flats_depth ds n (by simpa [D.flat] using f)
    omega
  | .lst ds, n + 1, f => by
    simp only [D.py, PyData.depth]
    have := flats_depth ds n (by simpa [D.flat] using f)
    omega
  | .ins _ _, n, f => by cases n <;> simp [D.flat] at f
  | .pen, n, f => by cases n <;> simp [D.flat] at f
  | .fn _ _ _, n, f => by cases n <;> simp [D.flat] at f
theorem flats_depth : ∀ (ds : List D) (n : Nat), D.flats n ds = true → PyData.depthAll (D.pys ds) ≤ n
  | [], _, _ => by simp [D.pys, PyData.depthAll]
  | d :: r, n, f => by
    simp only [D.flats, Bool.and_eq_true] at f
    simp only [D.pys, PyData.depthAll]
    have h1 := flat_depth d n f.1
    have h2 := flats_depth r n f.2
    omega
end
theorem flat_shaped {d : D} {n : Nat} (hn : n ≤ 64) (f : d.flat n = true) : SeqAt.shaped d.py = true := by
  unfold SeqAt.shaped
  rw [flat_lay d n f, Bool.true_and]
  exact decide_eq_true (Nat.le_trans (flat_depth d n f) hn)
def dEq : Op2 := fun x y Q => (x.flat 9 = true ∧ y.flat 9 = true) ∧ Q (.bl (PyData.eqv x.py y.py))
def dNe : Op2 := fun x y Q => (x.flat 9 = true ∧ y.flat 9 = true) ∧ Q (.bl (!PyData.eqv x.py y.py))
section
variable {X : Cx} {a c : Expr} {Wa Wc : WE} {pos : Pos}
theorem ok_eq : OpOk X (rEqD X.K) dEq := by
  intro p B H σ env b x y dx dy Q Qd R rx ry q k
  obtain ⟨⟨f1, f2⟩, q⟩ := q
  exact ⟨_, _, rx.dp f1, ry.dp f2, flat_shaped (by decide) f1, flat_shaped (by decide) f2, k _ H _ (Same.refl _) (.bl _) q⟩
theorem ok_ne : OpOk X (rNeD X.K) dNe := by
  intro p B H σ env b x y dx dy Q Qd R rx ry q k
  obtain ⟨⟨f1, f2⟩, q⟩ := q
  exact ⟨_, _, rx.dp f1, ry.dp f2, flat_shaped (by decide) f1, flat_shaped (by decide) f2, k _ H _ (Same.refl _) (.bl _) q⟩
theorem qe_eq (hu : X.A.units + 64 < cLine) (ha : QB X a Wa) (hc : QB X c Wc) : QE X (.Compare a [.Eq] [c] pos) (wBin dEq Wa Wc) := qe_cmp (op_eqD hu) ok_eq ha hc (nomark _)
theorem qe_ne (hu : X.A.units + 64 < cLine) (ha : QB X a Wa) (hc : QB X c Wc) : QE X (.Compare a [.NotEq] [c] pos) (wBin dNe Wa Wc) := qe_cmp (op_neD hu) ok_ne ha hc (nomark _)
end
/-! ### is None, is True -/
def D.isNon : D → Bool | .non => true | _ => false
theorem RR.isNon {K : PySem.W.Frag} {mg : Str → Option Value} {pa : Addr} {B : Addr → Prop} {H : Hp} {v : V} {d : D} (h : RR K mg pa B H v d) : decide (v = .non) = d.isNon := by
  rcases h with h | ⟨q, xs, ds, rfl, rfl, _, _⟩
  · cases h <;> rfl
  · rfl
def dIs : Op2 := fun x y Q => match y with
  | .non => Q (.bl x.isNon)
  | .bl c => (match x with | .bl b => Q (.bl (b == c)) | _ => False)
  | _ => False
def dIsN : Op2 := fun x y Q => match y with
  | .non => Q (.bl (!x.isNon))
  | .bl c => (match x with | .bl b => Q (.bl (!(b == c))) | _ => False)
  | _ => False
section
variable {X : Cx} {a c : Expr} {Wa Wc : WE} {pos : Pos}
theorem dec_beq (a b : Bool) : decide (a = b) = (a == b) := by cases a <;> cases b <;> rfl
abbrev rIsA : R2 := fun x y H Q => (y = .non ∧ Q (.bl (decide (x = .non))) H) ∨ rIsB x y H Q
abbrev rIsNA : R2 := fun x y H Q => (y = .non ∧ Q (.bl (!decide (x = .non))) H) ∨ rNotB x y H Q
theorem ok_is : OpOk X rIsA dIs := by
  intro p B H σ env b x y dx dy Q Qd R rx ry q k
  unfold dIs at q
  cases dy <;> try exact q.elim
  · exact .inl ⟨ry.non, by rw [rx.isNon]; exact k _ H _ (Same.refl _) (.bl _) q⟩
  · cases dx <;> try exact q.elim
    exact .inr ⟨_, _, rx.bl, ry.bl, by rw [dec_beq]; exact k _ H _ (Same.refl _) (.bl _) q⟩
theorem ok_isN : OpOk X rIsNA dIsN := by
  intro p B H σ env b x y dx dy Q Qd R rx ry q k
  unfold dIsN at q
  cases dy <;> try exact q.elim
  · exact .inl ⟨ry.non, by rw [rx.isNon]; exact k _ H _ (Same.refl _) (.bl _) q⟩
  · cases dx <;> try exact q.elim
    exact .inr ⟨_, _, rx.bl, ry.bl, by rw [dec_beq]; exact k _ H _ (Same.refl _) (.bl _) q⟩
theorem qe_is (ha : QB X a Wa) (hc : QB X c Wc) : QE X (.Compare a [.Is] [c] pos) (wBin dIs Wa Wc) := qe_cmp (OpR.or op_isN op_isBl) ok_is ha hc (nomark _)
theorem qe_isN (ha : QB X a Wa) (hc : QB X c Wc) : QE X (.Compare a [.IsNot] [c] pos) (wBin dIsN Wa Wc) := qe_cmp (OpR.or op_notN op_notBl) ok_isN ha hc (nomark _)
/-- a op b op c of ints -/
def wChain (op op' : Op2) (Wa Wb Wc : WE) : WE := fun env b Q => Wa env b fun x b1 => Wb env b1 fun y b2 => op x y fun z => match z with
  | .bl k => wIf k (Wc env b2 fun w b3 => op' y w fun d => Q d b3) (Q (.bl false) b2)
  | _ => False
theorem qe_chain {e : Expr} {We : WE} {o o' : CmpOp} {r r' : R2} {op op' : Op2} (ho : OpR X (compareOp o) r) (ho' : OpR X (compareOp o') r') (ok : OpOk X r op) (ok' : OpOk X r' op') (ha : QB X a Wa) (hc : QB X c Wc) (he : QB X e We)
    (hm : lastMarks [o, o'] [c, e] = false := by with_unfolding_all rfl) : QE X (.Compare a [o, o'] [c, e] pos) (wChain op op' Wa Wc We) := fun p =>
  PE.le (pe_chain ho ho' (ha p) (hc p) (he p) hm) fun σ H Q h => by
    obtain ⟨B, env, b, Qd, R, w, k⟩ := h
    refine ⟨B, env, b, _, R, w, fun x H1 dx b1 R1 e1 fx w1 => ⟨B, env, b1, _, R1, w1, fun y H2 dy b2 R2 e2 fy w2 => ?_⟩⟩
    refine ok p B H2 σ env b2 x y dx dy _ _ R2 (fx.ext R1 e2) fy w2 fun v H' d s f q => ?_
    cases d <;> try exact q.elim
    rename_i kk
    cases f
    refine ⟨kk, rfl, ?_⟩
    cases kk with
    | false => exact iteF (k _ _ _ _ (R2.same s) ((e1.trans e2).trans (.same s)) (.bl _) q)
    | true =>
      refine iteT ⟨B, env, b2, _, R2.same s, q, fun z H4 dz b4 R4 e4 fz w4 => ?_⟩
      exact ok' p B H4 σ env b4 y z dy dz Q _ R4 ((fy.ext R2 (.same s)).ext (R2.same s) e4) fz w4 fun v H5 d5 s5 f5 q5 => k v H5 d5 b4 (R4.same s5) ((((e1.trans e2).trans (.same s)).trans e4).trans (.same s5)) f5 q5
theorem ok_lt : OpOk X (rI0 fun i j => .bl (decide (i < j))) (dI0 fun i j => .bl (decide (i < j))) := ok_I0 fun _ _ _ _ _ => .bl _
theorem ok_le : OpOk X (rI0 fun i j => .bl (decide (i ≤ j))) (dI0 fun i j => .bl (decide (i ≤ j))) := ok_I0 fun _ _ _ _ _ => .bl _
/-! ### unary -/
def wUn (op : D → (D → Prop) → Prop) (Wa : WE) : WE := fun env b Q => Wa env b fun x b1 => op x fun d => Q d b1
def dNeg : D → (D → Prop) → Prop
  | .int i, Q => Q (.int (-i))
  | _, _ => False
theorem qe_neg (ha : QB X a Wa) : QE X (.UnaryOp .USub a pos) (wUn dNeg Wa) := fun p => PE.le (pe_un un_neg (ha p)) fun σ H Q h => by
  obtain ⟨B, env, b, Qd, R, w, k⟩ := h
  refine ⟨B, env, b, _, R, w, fun x H1 dx b1 R1 e1 fx w1 => ?_⟩
  cases dx <;> try exact w1.elim
  exact ⟨_, fx.int, k _ _ _ _ R1 e1 (.int _) w1⟩
end
/-! ### tests -/
abbrev WT := Env → Nat → (Bool → Nat → Prop) → Prop
def tT (K : PySem.W.Frag) (mg : Str → Option Value) (p : Pm) (W : WT) : TT := fun σ H Q => ∃ B env b Qd, Rel K mg p B H σ env b ∧ W env b Qd ∧
  ∀ c H' b', Rel K mg p B H' σ env b' → Ext p.pa H H' → Qd c b' → Q c H'
def QT (X : Cx) (e : Expr) (W : WT) : Prop := ∀ p, PT X e (tT X.K X.mg p W)
def QW (X : Cx) (e : Expr) (W : WT) : Prop := ∀ p, PW X e (tT X.K X.mg p W)
theorem PT.le {X : Cx} {e : Expr} {t t' : TT} (h : PT X e t) (m : ∀ σ H Q, t' σ H Q → t σ H Q) : PT X e t' := ⟨fun pins s σ H Q I hw => h.run pins s σ H Q I (m _ _ _ hw)⟩
theorem PW.le {X : Cx} {e : Expr} {t t' : TT} (h : PW X e t) (m : ∀ σ H Q, t' σ H Q → t σ H Q) : PW X e t' := ⟨fun wh pins s σ H Q I hw => h.run wh pins s σ H Q I (m _ _ _ hw)⟩
def wT (W : WE) : WT := fun env b Q => W env b fun d b' => match d with | .bl c => Q c b' | _ => False
def wAnd (W1 W2 : WT) : WT := fun env b Q => W1 env b fun c b1 => wIf c (W2 env b1 Q) (Q false b1)
def wOr (W1 W2 : WT) : WT := fun env b Q => W1 env b fun c b1 => wIf c (Q true b1) (W2 env b1 Q)
def wNot (W : WT) : WT := fun env b Q => W env b fun c b1 => Q (!c) b1
section
variable {X : Cx} {a c : Expr} {Wa Wc : WE} {pos : Pos} {T1 T2 : WT} {rest : List Expr}
theorem tB_le {p : Pm} {σ : L2.St} {H : Hp} {Q : Bool → Hp → Prop} (h : tT X.K X.mg p (wT Wa) σ H Q) : tB (tOf X.K X.mg p Wa) σ H Q := by
  obtain ⟨B, env, b, Qd, R, w, k⟩ := h
  refine ⟨B, env, b, _, R, w, fun v H' d b' R' e' f q => ?_⟩
  cases d <;> try exact q.elim
  cases f
  exact ⟨_, rfl, k _ _ _ R' e' q⟩
/-- an expression with a bool, not a comparison, not and, or, not -/
theorem qt_val (h : QE X a Wa) (he : ∀ whole, isTrue a X.env whole = (do let v ← whole; standAt a.pos; holding [v] (truthy v)) := by intro _; rfl) : QT X a (wT Wa) := fun p => PT.le (pt_val (h p) he) fun σ H Q q => tB_le q
theorem qt_cmp {o : CmpOp} {r : R2} {op : Op2} (ho : OpR X (compareOp o) r) (ok : OpOk X r op) (ha : QB X a Wa) (hc : QB X c Wc) (hm : behindInMarks o c = false) : QT X (.Compare a [o] [c] pos) (wT (wBin op Wa Wc)) := fun p =>
  PT.le (pt_cmpR ho (ha p) (hc p) hm) fun σ H Q h => by
    obtain ⟨B, env, b, Qd, R, w, k⟩ := h
    refine ⟨B, env, b, _, R, w, fun x H1 dx b1 R1 e1 fx w1 => ⟨B, env, b1, _, R1, w1, fun y H2 dy b2 R2 e2 fy w2 => ?_⟩⟩
    refine ok p B H2 σ env b2 x y dx dy _ _ R2 (fx.ext R1 e2) fy w2 fun v H' d s f q => ?_
    cases d <;> try exact q.elim
    cases f
    exact ⟨_, rfl, k _ _ _ (R2.same s) ((e1.trans e2).trans (.same s)) q⟩
theorem qt_lt (ha : QB X a Wa) (hc : QB X c Wc) : QT X (.Compare a [.Lt] [c] pos) (wT (wBin (dI0 fun i j => .bl (decide (i < j))) Wa Wc)) := qt_cmp op_lt (ok_I0 fun _ _ _ _ _ => .bl _) ha hc (nomark _)
theorem qt_le (ha : QB X a Wa) (hc : QB X c Wc) : QT X (.Compare a [.LtE] [c] pos) (wT (wBin (dI0 fun i j => .bl (decide (i ≤ j))) Wa Wc)) := qt_cmp op_le (ok_I0 fun _ _ _ _ _ => .bl _) ha hc (nomark _)
theorem qt_gt (ha : QB X a Wa) (hc : QB X c Wc) : QT X (.Compare a [.Gt] [c] pos) (wT (wBin (dI0 fun i j => .bl (decide (j < i))) Wa Wc)) := qt_cmp op_gt (ok_I0 fun _ _ _ _ _ => .bl _) ha hc (nomark _)
theorem qt_ge (ha : QB X a Wa) (hc : QB X c Wc) : QT X (.Compare a [.GtE] [c] pos) (wT (wBin (dI0 fun i j => .bl (decide (j ≤ i))) Wa Wc)) := qt_cmp op_ge (ok_I0 fun _ _ _ _ _ => .bl _) ha hc (nomark _)
theorem qt_eq (hu : X.A.units + 64 < cLine) (ha : QB X a Wa) (hc : QB X c Wc) : QT X (.Compare a [.Eq] [c] pos) (wT (wBin dEq Wa Wc)) := qt_cmp (op_eqD hu) ok_eq ha hc (nomark _)
theorem qt_ne (hu : X.A.units + 64 < cLine) (ha : QB X a Wa) (hc : QB X c Wc) : QT X (.Compare a [.NotEq] [c] pos) (wT (wBin dNe Wa Wc)) := qt_cmp (op_neD hu) ok_ne ha hc (nomark _)
theorem qt_is (ha : QB X a Wa) (hc : QB X c Wc) : QT X (.Compare a [.Is] [c] pos) (wT (wBin dIs Wa Wc)) := qt_cmp (OpR.or op_isN op_isBl) ok_is ha hc (nomark _)
theorem qt_isN (ha : QB X a Wa) (hc : QB X c Wc) : QT X (.Compare a [.IsNot] [c] pos) (wT (wBin dIsN Wa Wc)) := qt_cmp (OpR.or op_notN op_notBl) ok_isN ha hc (nomark _)
theorem qt_chain {e : Expr} {We : WE} {o o' : CmpOp} {r r' : R2} {op op' : Op2} (ho : OpR X (compareOp o) r) (ho' : OpR X (compareOp o') r') (ok : OpOk X r op) (ok' : OpOk X r' op') (ha : QB X a Wa) (hc : QB X c Wc) (he : QB X e We)
    (hm : lastMarks [o, o'] [c, e] = false := by with_unfolding_all rfl) : QT X (.Compare a [o, o'] [c, e] pos) (wT (wChain op op' Wa Wc We)) := fun p =>
  PT.le (pt_chain ho ho' (ha p) (hc p) (he p) hm) fun σ H Q h => by
    obtain ⟨B, env, b, Qd, R, w, k⟩ := h
    refine ⟨B, env, b, _, R, w, fun x H1 dx b1 R1 e1 fx w1 => ⟨B, env, b1, _, R1, w1, fun y H2 dy b2 R2 e2 fy w2 => ?_⟩⟩
    refine ok p B H2 σ env b2 x y dx dy _ _ R2 (fx.ext R1 e2) fy w2 fun v H' d s f q => ?_
    cases d <;> try exact q.elim
    rename_i kk
    cases f
    refine ⟨kk, rfl, ?_⟩
    cases kk with
    | false => exact iteF ⟨_, rfl, k _ _ _ (R2.same s) ((e1.trans e2).trans (.same s)) q⟩
    | true =>
      refine iteT ⟨B, env, b2, _, R2.same s, q, fun z H4 dz b4 R4 e4 fz w4 => ?_⟩
      refine ok' p B H4 σ env b4 y z dy dz _ _ R4 ((fy.ext R2 (.same s)).ext (R2.same s) e4) fz w4 fun v H5 d5 s5 f5 q5 => ?_
      cases d5 <;> try exact q5.elim
      cases f5
      exact ⟨_, rfl, k _ _ _ (R4.same s5) ((((e1.trans e2).trans (.same s)).trans e4).trans (.same s5)) q5⟩
theorem qt_of (h : QW X a T1) : QT X a T1 := fun p => (h p).pt
theorem qw_and1 (h : QT X a T1) : QW X (.BoolOp .And [a] pos) T1 := fun p => pw_and1 (h p)
theorem qw_or1 (h : QT X a T1) : QW X (.BoolOp .Or [a] pos) T1 := fun p => pw_or1 (h p)
theorem qw_and (h : QT X a T1) (h2 : QW X (.BoolOp .And (c :: rest) pos) T2) : QW X (.BoolOp .And (a :: c :: rest) pos) (wAnd T1 T2) := fun p => PW.le (pw_and (h p) (h2 p)) fun σ H Q ⟨B, env, b, Qd, R, w, k⟩ => by
  refine ⟨B, env, b, _, R, w, fun cc H1 b1 R1 e1 w1 => wIf_ite ?_⟩
  cases cc with
  | true => exact ⟨B, env, b1, _, R1, w1, fun c' H2 b2 R2 e2 q => k c' H2 b2 R2 (e1.trans e2) q⟩
  | false => exact k _ _ _ R1 e1 w1
theorem qw_or (h : QT X a T1) (h2 : QW X (.BoolOp .Or (c :: rest) pos) T2) : QW X (.BoolOp .Or (a :: c :: rest) pos) (wOr T1 T2) := fun p => PW.le (pw_or (h p) (h2 p)) fun σ H Q ⟨B, env, b, Qd, R, w, k⟩ => by
  refine ⟨B, env, b, _, R, w, fun cc H1 b1 R1 e1 w1 => wIf_ite ?_⟩
  cases cc with
  | true => exact k _ _ _ R1 e1 w1
  | false => exact ⟨B, env, b1, _, R1, w1, fun c' H2 b2 R2 e2 q => k c' H2 b2 R2 (e1.trans e2) q⟩
theorem qt_not (h : QT X a T1) : QT X (.UnaryOp .Not a pos) (wNot T1) := fun p => PT.le (pt_not (h p)) fun σ H Q ⟨B, env, b, Qd, R, w, k⟩ =>
  ⟨B, env, b, _, R, w, fun c' H2 b2 R2 e2 q => k _ H2 b2 R2 e2 q⟩
/-! as values -/
def wAndV (W1 W2 : WE) : WE := fun env b Q => W1 env b fun d b1 => match d with | .bl c => wIf c (W2 env b1 Q) (Q (.bl false) b1) | _ => False
def wOrV (W1 W2 : WE) : WE := fun env b Q => W1 env b fun d b1 => match d with | .bl c => wIf c (Q (.bl true) b1) (W2 env b1 Q) | _ => False
def wNotV (W1 : WE) : WE := fun env b Q => W1 env b fun d b1 => match d with | .bl c => Q (.bl (!c)) b1 | _ => False
theorem qe_one {o} (h : QE X a Wa) : QE X (.BoolOp o [a] pos) Wa := fun p => pe_one (h p)
theorem qe_and (h : QE X a Wa) (h2 : QE X (.BoolOp .And (c :: rest) pos) Wc) : QE X (.BoolOp .And (a :: c :: rest) pos) (wAndV Wa Wc) := fun p => PE.le (pe_and (h p) (h2 p)) fun σ H Q ⟨B, env, b, Qd, R, w, k⟩ => by
  refine ⟨B, env, b, _, R, w, fun v H1 d b1 R1 e1 f w1 => ?_⟩
  cases d <;> try exact w1.elim
  rename_i cc
  cases f
  refine ⟨cc, rfl, wIf_ite ?_⟩
  cases cc with
  | true => exact ⟨B, env, b1, _, R1, w1, fun v' H2 d2 b2 R2 e2 f2 q => k v' H2 d2 b2 R2 (e1.trans e2) f2 q⟩
  | false => exact k _ _ _ _ R1 e1 (.bl _) w1
theorem qe_or (h : QE X a Wa) (h2 : QE X (.BoolOp .Or (c :: rest) pos) Wc) : QE X (.BoolOp .Or (a :: c :: rest) pos) (wOrV Wa Wc) := fun p => PE.le (pe_or (h p) (h2 p)) fun σ H Q ⟨B, env, b, Qd, R, w, k⟩ => by
  refine ⟨B, env, b, _, R, w, fun v H1 d b1 R1 e1 f w1 => ?_⟩
  cases d <;> try exact w1.elim
  rename_i cc
  cases f
  refine ⟨cc, rfl, wIf_ite ?_⟩
  cases cc with
  | true => exact k _ _ _ _ R1 e1 (.bl _) w1
  | false => exact ⟨B, env, b1, _, R1, w1, fun v' H2 d2 b2 R2 e2 f2 q => k v' H2 d2 b2 R2 (e1.trans e2) f2 q⟩
theorem qe_not (h : QE X a Wa) : QE X (.UnaryOp .Not a pos) (wNotV Wa) := fun p => PE.le (pe_not (h p)) fun σ H Q ⟨B, env, b, Qd, R, w, k⟩ => by
  refine ⟨B, env, b, _, R, w, fun v H1 d b1 R1 e1 f w1 => ?_⟩
  cases d <;> try exact w1.elim
  cases f
  exact ⟨_, rfl, k _ _ _ _ R1 e1 (.bl _) w1⟩
def wIte (T : WT) (Wa Wc : WE) : WE := fun env b Q => T env b fun c b1 => wIf c (Wa env b1 Q) (Wc env b1 Q)
theorem qe_ite {t : Expr} (ht : QT X t T1) (ha : QE X a Wa) (hc : QE X c Wc) : QE X (.IfExp t a c pos) (wIte T1 Wa Wc) := fun p => PE.le (pe_ifExp (ht p) (ha p) (hc p)) fun σ H Q ⟨B, env, b, Qd, R, w, k⟩ => by
  refine ⟨B, env, b, _, R, w, fun cc H1 b1 R1 e1 w1 => wIf_ite ?_⟩
  cases cc with
  | true => exact ⟨B, env, b1, _, R1, w1, fun v' H2 d2 b2 R2 e2 f2 q => k v' H2 d2 b2 R2 (e1.trans e2) f2 q⟩
  | false => exact ⟨B, env, b1, _, R1, w1, fun v' H2 d2 b2 R2 e2 f2 q => k v' H2 d2 b2 R2 (e1.trans e2) f2 q⟩
end
end En
/-! The engine, part 3: argument lists, calls, places. -/
namespace En
open PySem PySem.Spec PyProof.Rows L2
/-! ### argument lists, displays -/
def tA (K : PySem.W.Frag) (mg : Str → Option Value) (p : Pm) (n : Nat) (W : WL) : TA := fun σ H Q => ∃ B env b Qd, Rel K mg p B H σ env b ∧ W env b Qd ∧
  ∀ vs H' ds b', Rel K mg p B H' σ env b' → Ext p.pa H H' → FRs K mg p.pa B H' vs ds → ds.length = n → Qd ds b' → Q vs H'
def QA (X : Cx) (es : List Expr) (W : WL) : Prop := ∀ p, PA X es (tA X.K X.mg p es.length W)
theorem PA.le {X : Cx} {e : List Expr} {t t' : TA} (h : PA X e t) (m : ∀ σ H Q, t' σ H Q → t σ H Q) : PA X e t' := ⟨fun pos pins s σ H Q I hw => h.run pos pins s σ H Q I (m _ _ _ hw)⟩
def wNil : WL := fun _ b Q => Q [] b
def wCons (W : WE) (Ws : WL) : WL := fun env b Q => W env b fun d b1 => Ws env b1 fun ds b2 => Q (d :: ds) b2
def wTup (W : WL) : WE := fun env b Q => W env b fun ds b1 => Q (.tup ds) b1
section
variable {X : Cx} {e : Expr} {es : List Expr} {We : WE} {Ws : WL} {pos : Pos}
theorem qa_nil : QA X [] wNil := fun p => PA.le pa_nil fun σ H Q ⟨B, env, b, Qd, R, w, k⟩ => k [] H [] b R (.refl _ _) .nil rfl w
theorem qa_cons (h : QE X e We) (hr : QA X es Ws) (hs : starEach (e :: es) X.env = (false, eval e X.env) :: starEach es X.env := by rfl) : QA X (e :: es) (wCons We Ws) := fun p => PA.le (pa_cons (h p) (hr p) hs) fun σ H Q ⟨B, env, b, Qd, R, w, k⟩ =>
  ⟨B, env, b, _, R, w, fun v H1 d b1 R1 e1 f1 w1 => ⟨B, env, b1, _, R1, w1, fun vs H2 ds b2 R2 e2 f2 hl q => k (v :: vs) H2 (d :: ds) b2 R2 (e1.trans e2) (.cons (f1.ext e2 R.bpa) f2) (by simp [hl]) q⟩⟩
theorem qe_tup {x1} (h : QA X es Ws) (hl : es.length ≤ 1000 := by decide) : QE X (.Tuple es x1 pos) (wTup Ws) := fun p => PE.le (pe_tup (h p)) fun σ H Q ⟨B, env, b, Qd, R, w, k⟩ =>
  ⟨B, env, b, _, R, w, fun vs H1 ds b1 R1 e1 f1 hn q => ⟨by have := f1.length; have := line_ge; omega, fun n hx => k (.ref n) _ (.tup ds) b1 (R1.same (same_new hx)) (e1.trans (.same (same_new hx))) (FR.newT R1 hx f1) q⟩⟩
theorem qf_lst (h : QA X es Ws) (hl : es.length ≤ 1000 := by decide) : QF X (.List es pos) Ws := fun p => PE.le (pe_lst (h p)) fun σ H Q ⟨B, env, b, Qd, R, w, k⟩ =>
  ⟨B, env, b, _, R, w, fun vs H1 ds b1 R1 e1 f1 hn q => ⟨by have := f1.length; have := line_ge; omega, fun n hx => by
    refine k n vs _ ds b1 (R1.same (same_new hx)) (R1.more hx) (e1.trans (.same (same_new hx))) upd_same (f1.kp fun a o e n' => ⟨same_new hx a o e, fun z => z.elim n' (ne_of_none e hx)⟩) (fun z => R1.trk n z hx) ?_ q
    cases hh : H n with
    | none => rfl
    | some o =>
      by_cases z : n = p.pa
      · exact absurd hx (by rw [z]; exact R1.trk _ R1.bpa)
      · rw [e1 n o hh z] at hx
        cases hx⟩⟩
end
/-! ### a def's promise -/
abbrev Spec := List D → Nat → (D → Nat → Prop) → Prop
def spOf (K : PySem.W.Frag) (mg : Str → Option Value) (n : Nat) (pt : Spec) : Sp := fun vs H Q _ => vs.length = n ∧ ∃ pa ca B ds b Qd, (∀ a, B a → H a ≠ none) ∧ B pa ∧ B ca ∧ PenOk pa ca H b ∧ FRs K mg pa B H vs ds ∧ pt ds b Qd ∧
  ∀ v H' d b', Ext pa H H' → PenOk pa ca H' b' → FR K mg pa B H' v d → Qd d b' → Q v H'
/-- the def at f keeps the promise pt -/
structure Df (P : Program) (w : World) (K : PySem.W.Frag) (mg : Str → Option Value) (base : Heap) (k : Nat) (x : Str) (n : Nat) (pt : Spec) : Prop where
  ex : ∃ (f : Addr) (fd : FuncData) (ps : List Str), mg x = some (.ref f) ∧ PySem.W.keepIn K (.ref f) = true ∧ Binds K fd ps [] ∧ ps.length = n ∧ FnOk P w K mg base CX0 k f fd ps (spOf K mg n pt)
theorem Df.mono {P : Program} {w : World} {K : PySem.W.Frag} {mg : Str → Option Value} {base : Heap} {j k : Nat} {x : Str} {n : Nat} {pt : Spec} (h : Df P w K mg base j x n pt) (hk : j ≤ k) : Df P w K mg base k x n pt := by
  obtain ⟨f, fd, ps, h1, h2, h3, h4, h5⟩ := h.ex
  exact ⟨f, fd, ps, h1, h2, h3, h4, h5.mono hk⟩
def wCall (n : Nat) (pt : Spec) (W : WL) : WE := fun env b Q => W env b fun ds b1 => ds.length = n ∧ pt ds b1 Q
section
variable {X : Cx} {x : Str} {n k : Nat} {pt : Spec} {e : Expr} {es : List Expr} {Ws : WL} {pos pp : Pos}
theorem qe_call (F : Df X.prog X.w X.K X.mg X.base k x n pt) (hr : Room k X.A) (hg : Gl X x) (ha : QA X (e :: es) Ws) (hdb : (x == ("__debug__" : Str)) = false := by decide)
    (he : starEach (e :: es) X.env = (false, eval e X.env) :: starEach es X.env := by rfl) (hpl : (backTo pos (starEach es X.env)).any (·.1) = false := by rfl) : QE X (.Call (.Name x pp) (e :: es) [] pos) (wCall n pt Ws) := fun p => by
  obtain ⟨f, fd, ps, hm, hk, hb, hn, G⟩ := F.ex
  refine PE.le (pe_call (E := E0) G hr hg hm hk hb .nil pass0 (ha p) hdb he hpl) fun σ H Q ⟨B, env, b, Qd, R, w, kk⟩ => ?_
  refine ⟨B, env, b, _, R, w, fun vs H1 ds b1 R1 e1 f1 hl q => ⟨?_, p.pa, p.ca, B, ds, b1, Qd, R1.trk, R1.bpa, R1.sub _ R1.oca, R1.pen, ?_, q.2, fun v H' d b' e2 po f2 qd => kk v H' d b' (R1.step e2 po) (e1.trans e2) f2 qd⟩⟩
  · rw [List.append_nil, f1.length]
    exact q.1
  · rw [List.append_nil]
    exact f1
end
/-! ### built-ins of one argument -/
def C1Ok (X : Cx) (r : List V → Hp → VK → Prop) (f : D → (D → Prop) → Prop) : Prop := ∀ (p : Pm) (B : Addr → Prop) (H : Hp) (σ : L2.St) (env : Env) (b : Nat) (x : V) (dx : D) (Q : VK) (Qd : D → Prop), Rel X.K X.mg p B H σ env b →
  RR X.K X.mg p.pa B H x dx → f dx Qd → (∀ v H' d, Same H H' → FR X.K X.mg p.pa B H' v d → Qd d → Q v H') → r [x] H Q
section
variable {X : Cx} {x : Str} {e : Expr} {W : WE} {pos pp : Pos} {bid T : String} {r : List V → Hp → VK → Prop} {f : D → (D → Prop) → Prop}
theorem c1_le (ok : C1Ok X r f) {p : Pm} {σ : L2.St} {H : Hp} {Q : VK} (h : tOf X.K X.mg p (wUn f W) σ H Q) : tCB r (tCons (tBr X.K X.mg p W) tNil) σ H Q := by
  obtain ⟨B, env, b, Qd, R, w, k⟩ := h
  refine ⟨B, env, b, _, R, w, fun v H1 d b1 R1 e1 f1 w1 => ?_⟩
  exact ok p B H1 σ env b1 v d Q _ R1 f1 w1 fun v' H' d' s f2 q => k v' H' d' b1 (R1.same s) (e1.trans (.same s)) f2 q
theorem qe_b1 (hc : CallR X (.builtin bid) r) (ok : C1Ok X r f) (hg : Gl X x) (hm : X.mg x = none) (hv : bootBuiltins x = some (.builtin bid)) (h : QB X e W) (hn : x ≠ "__name__" := by decide) (hdb : (x == ("__debug__" : Str)) = false := by decide)
    (he : starEach [e] X.env = (false, eval e X.env) :: starEach [] X.env := by rfl) (hpl : (backTo pos (starEach [] X.env)).any (·.1) = false := by rfl) : QE X (.Call (.Name x pp) [e] [] pos) (wUn f W) := fun p =>
  PE.le (pe_callB hc hg hm hv (pa_cons (h p) pa_nil he) hn hdb he hpl) fun σ H Q h => c1_le ok h
theorem qe_t1 (hc : CallR X (.type T) r) (ok : C1Ok X r f) (hg : Gl X x) (hm : X.mg x = none) (hv : bootBuiltins x = some (.type T)) (h : QB X e W) (hn : x ≠ "__name__" := by decide) (hdb : (x == ("__debug__" : Str)) = false := by decide)
    (he : starEach [e] X.env = (false, eval e X.env) :: starEach [] X.env := by rfl) (hpl : (backTo pos (starEach [] X.env)).any (·.1) = false := by rfl) : QE X (.Call (.Name x pp) [e] [] pos) (wUn f W) := fun p =>
  PE.le (pe_callTy hc hg hm hv (pa_cons (h p) pa_nil he) hn hdb he hpl) fun σ H Q h => c1_le ok h
def dLen : D → (D → Prop) → Prop
  | .tup ds, Q => Q (.int ds.length)
  | .lst ds, Q => Q (.int ds.length)
  | .str s, Q => s.length ≤ 1000000 ∧ Q (.int s.length)
  | _, _ => False
theorem c1_len : C1Ok X (fun xs H Q => (∃ p ys, xs = [.ref p] ∧ (SqL X.K H p ys ∨ SqT X.K H p ys) ∧ Q (.int ys.length) H) ∨ (∃ z, xs = [.str z] ∧ z.length ≤ sizeLine ∧ Q (.int z.length) H)) dLen := by
  intro p B H σ env b x dx Q Qd R rx q k
  have hl := line_ge
  cases dx <;> try exact q.elim
  · exact .inr ⟨_, by rw [rx.str], by have := q.1; omega, k _ H _ (Same.refl _) (.int _) q.2⟩
  · obtain ⟨a, xs, rfl, h1, _, r1⟩ := rx.tup
    exact .inl ⟨a, xs, rfl, .inr h1, by rw [r1.length]; exact k _ H _ (Same.refl _) (.int _) q⟩
  · obtain ⟨a, xs, rfl, h1, r1⟩ := rx.lst
    exact .inl ⟨a, xs, rfl, .inl (.of h1), by rw [r1.length]; exact k _ H _ (Same.refl _) (.int _) q⟩
theorem qe_len (hg : Gl X "len") (hm : X.mg "len" = none) (h : QB X e W) (he : starEach [e] X.env = (false, eval e X.env) :: starEach [] X.env := by rfl) (hpl : (backTo pos (starEach [] X.env)).any (·.1) = false := by rfl) :
    QE X (.Call (.Name "len" pp) [e] [] pos) (wUn dLen W) := qe_b1 (CallR.or call_len_seq call_len_str) c1_len hg hm PySem.boot_len h (by decide) (by decide) he hpl
def dTuple : D → (D → Prop) → Prop
  | .tup ds, Q => Q (.tup ds)
  | .lst ds, Q => Q (.tup ds)
  | _, _ => False
theorem c1_tuple : C1Ok X (fun xs H Q => ∃ p ys, xs = [.ref p] ∧ ((SqL X.K H p ys ∧ ∀ l, H l = none → Q (.ref l) (upd H l (.tup ys))) ∨ (SqT X.K H p ys ∧ Q (.ref p) H))) dTuple := by
  intro p B H σ env b x dx Q Qd R rx q k
  cases dx <;> try exact q.elim
  · obtain ⟨a, xs, rfl, h1, t1, r1⟩ := rx.tup
    exact ⟨a, xs, rfl, .inr ⟨h1, k _ H _ (Same.refl _) (.tup t1 r1) q⟩⟩
  · obtain ⟨a, xs, rfl, h1, r1⟩ := rx.lst
    exact ⟨a, xs, rfl, .inl ⟨.of h1, fun l hl => k _ _ _ (same_new hl) (FR.newT R hl r1) q⟩⟩
theorem qe_tuple (hg : Gl X "tuple") (hm : X.mg "tuple" = none) (h : QB X e W) (he : starEach [e] X.env = (false, eval e X.env) :: starEach [] X.env := by rfl) (hpl : (backTo pos (starEach [] X.env)).any (·.1) = false := by rfl) :
    QE X (.Call (.Name "tuple" pp) [e] [] pos) (wUn dTuple W) := qe_t1 call_tuple_of c1_tuple hg hm (by decide +kernel) h (by decide) (by decide) he hpl
/-- all, any of bools -/
def D.bools : List D → Option (List Bool)
  | [] => some []
  | .bl b :: r => (D.bools r).map (b :: ·)
  | _ :: _ => none
theorem bools_eq : ∀ {ds : List D} {bs : List Bool}, D.bools ds = some bs → ds = bs.map D.bl
  | [], bs, h => by
    simp [D.bools] at h
    subst h
    rfl
  | .bl b :: r, bs, h => by
    simp only [D.bools, Option.map_eq_some_iff] at h
    obtain ⟨cs, h1, rfl⟩ := h
    rw [bools_eq h1]
    rfl
  | .non :: _, _, h => by simp [D.bools] at h
  | .int _ :: _, _, h => by simp [D.bools] at h
  | .str _ :: _, _, h => by simp [D.bools] at h
  | .tup _ :: _, _, h => by simp [D.bools] at h
  | .lst _ :: _, _, h => by simp [D.bools] at h
  | .ins _ _ :: _, _, h => by simp [D.bools] at h
  | .pen :: _, _, h => by simp [D.bools] at h
  | .fn _ _ _ :: _, _, h => by simp [D.bools] at h
theorem bools_map : ∀ (bs : List Bool), D.bools (bs.map D.bl) = some bs
  | [] => rfl
  | b :: r => by simp [D.bools, bools_map r]
def dAll : D → (D → Prop) → Prop
  | .lst ds, Q => ∃ bs : List Bool, ds = bs.map D.bl ∧ Q (.bl (bs.all id))
  | _, _ => False
def dAny : D → (D → Prop) → Prop
  | .lst ds, Q => ∃ bs : List Bool, ds = bs.map D.bl ∧ Q (.bl (bs.any id))
  | _, _ => False
theorem c1_all : C1Ok X (rAll X.K) dAll := by
  intro p B H σ env b x dx Q Qd R rx q k
  cases dx <;> try exact q.elim
  obtain ⟨bs, rfl, q⟩ := q
  obtain ⟨a, xs, rfl, h1, r1⟩ := rx.lst
  exact ⟨a, bs, rfl, .of (by rw [h1, r1.bools]), k _ H _ (Same.refl _) (.bl _) q⟩
theorem c1_any : C1Ok X (rAny X.K) dAny := by
  intro p B H σ env b x dx Q Qd R rx q k
  cases dx <;> try exact q.elim
  obtain ⟨bs, rfl, q⟩ := q
  obtain ⟨a, xs, rfl, h1, r1⟩ := rx.lst
  exact ⟨a, bs, rfl, .of (by rw [h1, r1.bools]), k _ H _ (Same.refl _) (.bl _) q⟩
theorem qe_all (hc : X.calm = true) (hg : Gl X "all") (hm : X.mg "all" = none) (h : QB X e W) (he : starEach [e] X.env = (false, eval e X.env) :: starEach [] X.env := by rfl) (hpl : (backTo pos (starEach [] X.env)).any (·.1) = false := by rfl) :
    QE X (.Call (.Name "all" pp) [e] [] pos) (wUn dAll W) := qe_b1 (cr_all hc) c1_all hg hm (by decide +kernel) h (by decide) (by decide) he hpl
theorem qe_any (hc : X.calm = true) (hg : Gl X "any") (hm : X.mg "any" = none) (h : QB X e W) (he : starEach [e] X.env = (false, eval e X.env) :: starEach [] X.env := by rfl) (hpl : (backTo pos (starEach [] X.env)).any (·.1) = false := by rfl) :
    QE X (.Call (.Name "any" pp) [e] [] pos) (wUn dAny W) := qe_b1 (cr_any hc) c1_any hg hm (by decide +kernel) h (by decide) (by decide) he hpl
def dAbs : D → (D → Prop) → Prop
  | .int i, Q => Q (.int (if i < 0 then -i else i))
  | _, _ => False
theorem c1_abs : C1Ok X (fun xs H Q => ∃ i, xs = [.int i] ∧ Q (.int (if i < 0 then -i else i)) H) dAbs := by
  intro p B H σ env b x dx Q Qd R rx q k
  cases dx <;> try exact q.elim
  exact ⟨_, by rw [rx.int], k _ H _ (Same.refl _) (.int _) q⟩
theorem qe_abs (hg : Gl X "abs") (hm : X.mg "abs" = none) (h : QB X e W) (he : starEach [e] X.env = (false, eval e X.env) :: starEach [] X.env := by rfl) (hpl : (backTo pos (starEach [] X.env)).any (·.1) = false := by rfl) :
    QE X (.Call (.Name "abs" pp) [e] [] pos) (wUn dAbs W) := qe_b1 call_abs c1_abs hg hm (by decide +kernel) h (by decide) (by decide) he hpl
def dInt : D → (D → Prop) → Prop
  | .int i, Q => Q (.int i)
  | .bl k, Q => Q (.int (if k then 1 else 0))
  | _, _ => False
theorem c1_int : C1Ok X (fun xs H Q => (∃ i, xs = [.int i] ∧ Q (.int i) H) ∨ ∃ k, xs = [.bl k] ∧ Q (.int (if k then 1 else 0)) H) dInt := by
  intro p B H σ env b x dx Q Qd R rx q k
  cases dx <;> try exact q.elim
  · exact .inr ⟨_, by rw [rx.bl], k _ H _ (Same.refl _) (.int _) q⟩
  · exact .inl ⟨_, by rw [rx.int], k _ H _ (Same.refl _) (.int _) q⟩
theorem qe_intc (hg : Gl X "int") (hm : X.mg "int" = none) (h : QB X e W) (he : starEach [e] X.env = (false, eval e X.env) :: starEach [] X.env := by rfl) (hpl : (backTo pos (starEach [] X.env)).any (·.1) = false := by rfl) :
    QE X (.Call (.Name "int" pp) [e] [] pos) (wUn dInt W) := qe_t1 call_int1 c1_int hg hm (by decide +kernel) h (by decide) (by decide) he hpl
/-- list(x): a new list -/
def wListOf (W : WE) : WL := fun env b Q => W env b fun d b1 => match d with | .tup ds => Q ds b1 | .lst ds => Q ds b1 | _ => False
theorem fresh_back {p : Pm} {K : PySem.W.Frag} {mg : Str → Option Value} {B : Addr → Prop} {H H1 : Hp} {σ : L2.St} {env : Env} {b : Nat} (R1 : Rel K mg p B H1 σ env b) (e1 : Ext p.pa H H1) {n : Addr} (hx : H1 n = none) : H n = none := by
  cases hh : H n with
  | none => rfl
  | some o =>
    by_cases z : n = p.pa
    · exact absurd hx (by rw [z]; exact R1.trk _ R1.bpa)
    · rw [e1 n o hh z] at hx
      cases hx
theorem fresh_more {K : PySem.W.Frag} {mg : Str → Option Value} {pa : Addr} {B : Addr → Prop} {H1 : Hp} {n : Addr} {o : HO} {vs : List V} {ds : List D} (hx : H1 n = none) (f1 : FRs K mg pa B H1 vs ds) : FRs K mg pa (fun a => B a ∨ a = n) (upd H1 n o) vs ds :=
  f1.kp fun a o e n' => ⟨same_new hx a o e, fun z => z.elim n' (ne_of_none e hx)⟩
theorem qf_list (hg : Gl X "list") (hm : X.mg "list" = none) (h : QB X e W) (he : starEach [e] X.env = (false, eval e X.env) :: starEach [] X.env := by rfl) (hpl : (backTo pos (starEach [] X.env)).any (·.1) = false := by rfl) :
    QF X (.Call (.Name "list" pp) [e] [] pos) (wListOf W) := fun p =>
  PE.le (pe_callTy call_list_of hg hm (by decide +kernel) (pa_cons (h p) pa_nil he) (by decide) (by decide) he hpl) fun σ H Q ⟨B, env, b, Qd, R, w, k⟩ => by
    refine ⟨B, env, b, _, R, w, fun v H1 d b1 R1 e1 f1 w1 => ?_⟩
    cases d <;> try exact w1.elim
    · obtain ⟨a, xs, rfl, h1, t1, r1⟩ := f1.tup
      exact ⟨a, xs, rfl, .inr h1, fun l hl => k l xs _ _ b1 (R1.same (same_new hl)) (R1.more hl) (e1.trans (.same (same_new hl))) upd_same (fresh_more hl r1) (fun z => R1.trk l z hl) (fresh_back R1 e1 hl) w1⟩
    · obtain ⟨a, xs, rfl, h1, r1⟩ := f1.lst
      exact ⟨a, xs, rfl, .inl (.of h1), fun l hl => k l xs _ _ b1 (R1.same (same_new hl)) (R1.more hl) (e1.trans (.same (same_new hl))) upd_same (fresh_more hl r1) (fun z => R1.trk l z hl) (fresh_back R1 e1 hl) w1⟩
end
/-! ### gcd and other calls of two plain arguments -/
def wC2 (op : Op2) (W : WL) : WE := fun env b Q => W env b fun ds b1 => match ds with | [x, y] => op x y fun d => Q d b1 | _ => False
def dGcd : Op2
  | .int i, .int j, Q => Q (.int ((Nat.gcd i.natAbs j.natAbs : Nat) : Int))
  | _, _, _ => False
section
variable {X : Cx} {x : Str} {e e' : Expr} {es : List Expr} {W : WL} {pos pp : Pos}
theorem qe_gcd (hg : Gl X "gcd") (hm : X.mg "gcd" = some (.builtin "math.gcd")) (h : QA X (e :: es) W) (he : starEach (e :: es) X.env = (false, eval e X.env) :: starEach es X.env := by rfl) (hpl : (backTo pos (starEach es X.env)).any (·.1) = false := by rfl) :
    QE X (.Call (.Name "gcd" pp) (e :: es) [] pos) (wC2 dGcd W) := fun p =>
  PE.le (pe_callBfun cr_gcd hg hm (h p) (by decide) he hpl) fun σ H Q ⟨B, env, b, Qd, R, w, k⟩ => by
    refine ⟨B, env, b, _, R, w, fun vs H1 ds b1 R1 e1 f1 hl q => ?_⟩
    split at q
    · rename_i x y
      cases x <;> cases y <;> try exact q.elim
      cases f1 with
      | cons a1 a2 =>
        cases a1
        cases a2 with
        | cons a3 a4 =>
          cases a3
          cases a4
          exact ⟨_, _, rfl, k _ H1 _ b1 R1 e1 (.int _) q⟩
    · exact q.elim
end
end En
/-! The engine, part 4: isinstance, attributes, places, slices. -/
namespace En
open PySem PySem.Spec PyProof.Rows L2
/-! ### isinstance -/
inductive Ty where | non | bl | int | str | tup | lst
def Ty.name : Ty → String | .non => "NoneType" | .bl => "bool" | .int => "int" | .str => "str" | .tup => "tuple" | .lst => "list"
def D.ty : D → Option Ty
  | .non => some .non | .bl _ => some .bl | .int _ => some .int | .str _ => some .str | .tup _ => some .tup | .lst _ => some .lst | _ => none
section
variable {X : Cx} {p : Pm} {B : Addr → Prop} {H : Hp} {σ : L2.St} {env : Env} {b : Nat} {v : V} {d : D}
theorem RR.ty {K : PySem.W.Frag} {mg : Str → Option Value} {pa : Addr} {t : Ty} (h : RR K mg pa B H v d) (ht : d.ty = some t) : TyX K H v (.type t.name) := by
  cases d <;> simp [D.ty] at ht <;> subst ht
  · rcases h with h | ⟨_, _, _, _, h, _⟩ <;> cases h; exact .base .non
  · rcases h with h | ⟨_, _, _, _, h, _⟩ <;> cases h; exact .base (.bl _)
  · rcases h with h | ⟨_, _, _, _, h, _⟩ <;> cases h; exact .base (.int _)
  · rcases h with h | ⟨_, _, _, _, h, _⟩ <;> cases h; exact .base (.str _)
  · obtain ⟨q, xs, rfl, h1, t1, r1⟩ : ∃ q xs, v = .ref q ∧ SqT K H q xs ∧ TupR K B H q xs ∧ FRs K mg pa B H xs _ := by
      rcases h with h | ⟨_, _, _, _, h, _⟩
      · cases h with
        | tup h r => exact ⟨_, _, rfl, h.sq, h, r⟩
      · cases h
    rcases t1 with ⟨t1, _⟩ | ⟨o, its, n, hk, hc, _⟩
    · exact .base (.tup t1)
    · exact .kTuple hk hc
  · obtain ⟨q, xs, rfl, h1⟩ : ∃ q xs, v = .ref q ∧ H q = some (.lst xs) := by
      rcases h with h | ⟨q, xs, ds, rfl, _, h, _⟩
      · cases h with
        | lst h n r => exact ⟨_, _, rfl, h⟩
      · exact ⟨q, xs, rfl, h⟩
    exact .base (.lst h1)
theorem FR.tyI {K : PySem.W.Frag} {mg : Str → Option Value} {pa : Addr} {c : Str} {gs : List (Str × D)} (h : FR K mg pa B H v (.ins c gs)) : ∃ C, mg c = some (.ref C) ∧ TyX K H v (.ref C) := by
  cases h with
  | ins m cf _ h n r => exact ⟨_, m, .base (.ins h cf.cl cf.ha cf.hn cf.htk cf.hm)⟩
end
/-- isinstance with a built-in class: by the kind -/
def wIsT (f : Ty → Bool) (W : WE) : WE := fun env b Q => W env b fun d b1 => match d.ty with | some t => Q (.bl (f t)) b1 | none => False
/-- isinstance with an own class: cls the classes that may be there -/
def wIsC (cls : List Str) (c : Str) (W : WE) : WE := fun env b Q => W env b fun d b1 => match d with
  | .ins c' _ => c' ∈ cls ∧ Q (.bl (c' == c)) b1
  | .pen => False
  | .fn _ _ _ => False
  | _ => Q (.bl false) b1
structure IsC (K : PySem.W.Frag) (mg : Str → Option Value) (cls : List Str) (c : Str) : Prop where
  ex : ∃ C, mg c = some (.ref C) ∧ (∀ t : Ty, PySem.W.kitOne K (.type t.name) (.ref C) = some false) ∧ ∀ c' ∈ cls, ∀ C', mg c' = some (.ref C') → PySem.W.kitOne K (.ref C') (.ref C) = some (c' == c)
section
variable {X : Cx} {e : Expr} {W : WE} {pos pp p1 p2 tp : Pos} {T T1 T2 : Str} {t0 : String} {t1 : String}
theorem qe_isT {f : Ty → Bool} (hg : Gl X "isinstance") (hm : X.mg "isinstance" = none) (hgT : Gl X T) (hmT : X.mg T = none) (hv : bootBuiltins T = some (.type t0)) (hk : ∀ t : Ty, kitB t.name t0 = some (f t)) (h : QB X e W) (hn : T ≠ "__name__" := by decide) (hd : (T == ("__debug__" : Str)) = false := by decide)
    (he : starEach [e, .Name T p1] X.env = (false, eval e X.env) :: starEach [.Name T p1] X.env := by rfl) (hpl : (backTo pos (starEach [.Name T p1] X.env)).any (·.1) = false := by rfl) : QE X (.Call (.Name "isinstance" pp) [e, .Name T p1] [] pos) (wIsT f W) := fun p =>
  PE.le (pe_callB call_isi hg hm (by decide +kernel) (pa_cons (h p) (pa_cons (pe_bltn (v := .ty t0) hgT hmT hv rfl hn hd) pa_nil) he) (by decide) (by decide) he hpl) fun σ H Q ⟨B, env, b, Qd, R, w, k⟩ => by
    refine ⟨B, env, b, _, R, w, fun v H1 d b1 R1 e1 f1 q => ?_⟩
    split at q
    · rename_i t ht
      exact ⟨v, .ty t0, _, _, f t, rfl, .ty t0, f1.ty ht, kit_ty (hk t), k _ H1 _ b1 R1 e1 (.bl _) q⟩
    · exact q.elim
theorem qe_isT2 {f : Ty → Bool} {tpos : Pos} {k2} (hg : Gl X "isinstance") (hm : X.mg "isinstance" = none) (hg1 : Gl X T1) (hm1 : X.mg T1 = none) (hv1 : bootBuiltins T1 = some (.type t0)) (hg2 : Gl X T2) (hm2 : X.mg T2 = none) (hv2 : bootBuiltins T2 = some (.type t1))
    (hk : ∀ t : Ty, ∃ c1 c2, kitB t.name t0 = some c1 ∧ kitB t.name t1 = some c2 ∧ f t = (c1 || c2)) (h : QB X e W) (hn1 : T1 ≠ "__name__" := by decide) (hd1 : (T1 == ("__debug__" : Str)) = false := by decide) (hn2 : T2 ≠ "__name__" := by decide) (hd2 : (T2 == ("__debug__" : Str)) = false := by decide)
    (he : starEach [e, .Tuple [.Name T1 p1, .Name T2 p2] k2 tpos] X.env = (false, eval e X.env) :: starEach [.Tuple [.Name T1 p1, .Name T2 p2] k2 tpos] X.env := by rfl) (hpl : (backTo pos (starEach [.Tuple [.Name T1 p1, .Name T2 p2] k2 tpos] X.env)).any (·.1) = false := by rfl) :
    QE X (.Call (.Name "isinstance" pp) [e, .Tuple [.Name T1 p1, .Name T2 p2] k2 tpos] [] pos) (wIsT f W) := fun p =>
  PE.le (pe_callB call_isiT hg hm (by decide +kernel) (pa_cons (h p) (pa_cons (pe_tup (pa_cons (pe_bltn (v := .ty t0) hg1 hm1 hv1 rfl hn1 hd1) (pa_cons (pe_bltn (v := .ty t1) hg2 hm2 hv2 rfl hn2 hd2) pa_nil))) pa_nil) he) (by decide) (by decide) he hpl) fun σ H Q ⟨B, env, b, Qd, R, w, k⟩ => by
    refine ⟨B, env, b, _, R, w, fun v H1 d b1 R1 e1 f1 q => ?_⟩
    split at q
    · rename_i t ht
      obtain ⟨c1, c2, h1, h2, hf⟩ := hk t
      refine ⟨by show 2 ≤ sizeLine; decide, fun n hn => ?_⟩
      have s := same_new (o := .tup [.ty t0, .ty t1]) hn
      have f2 := f1.ext R1 (.same s)
      refine ⟨v, n, [.ty t0, .ty t1], _, [.type t0, .type t1], f t, rfl, upd_same, .cons (.ty _) (.cons (.ty _) .nil), f2.ty ht, ?_, k _ _ _ b1 (R1.same s) (e1.trans (.same s)) (.bl _) q⟩
      refine kitAny_cons (kit_ty h1) (fun z => kitAny_cons (kit_ty h2) (fun z2 => ?_) fun z2 => ?_) fun z => ?_
      · rw [hf, z, z2]
        exact kitAny_nil
      · rw [hf, z2]
        simp
      · rw [hf, z]
        rfl
    · exact q.elim
theorem qe_isC {cls : List Str} {c : Str} (hg : Gl X "isinstance") (hm : X.mg "isinstance" = none) (hgT : Gl X c) (I : IsC X.K X.mg cls c) (h : QB X e W) (hd : (c == ("__debug__" : Str)) = false := by decide)
    (he : starEach [e, .Name c p1] X.env = (false, eval e X.env) :: starEach [.Name c p1] X.env := by rfl) (hpl : (backTo pos (starEach [.Name c p1] X.env)).any (·.1) = false := by rfl) : QE X (.Call (.Name "isinstance" pp) [e, .Name c p1] [] pos) (wIsC cls c W) := fun p => by
  obtain ⟨C, hmC, hT, hC⟩ := I.ex
  refine PE.le (pe_callB call_isi hg hm (by decide +kernel) (pa_cons (h p) (pa_cons (pe_glob (v := .ref C) hgT hmC rfl hd) pa_nil) he) (by decide) (by decide) he hpl) fun σ H Q ⟨B, env, b, Qd, R, w, k⟩ => ?_
  refine ⟨B, env, b, _, R, w, fun v H1 d b1 R1 e1 f1 q => ?_⟩
  have go : ∀ t : Ty, d.ty = some t → Qd (.bl false) b1 → rIsi X.K [v, .ref C] H1 Q := fun t ht q => ⟨v, .ref C, _, _, false, rfl, .own C, f1.ty ht, hT t, k _ H1 _ b1 R1 e1 (.bl _) q⟩
  cases d with
  | ins c' gs =>
    have f2 : FR X.K X.mg p.pa B H1 v (.ins c' gs) := by
      rcases f1 with h | ⟨_, _, _, _, h, _⟩
      · exact h
      · cases h
    obtain ⟨C', h1, h2⟩ := f2.tyI
    exact ⟨v, .ref C, _, _, _, rfl, .own C, h2, hC c' q.1 C' h1, k _ H1 _ b1 R1 e1 (.bl _) q.2⟩
  | pen => exact q.elim
  | fn _ _ _ => exact q.elim
  | non => exact go .non rfl q
  | bl _ => exact go .bl rfl q
  | int _ => exact go .int rfl q
  | str _ => exact go .str rfl q
  | tup _ => exact go .tup rfl q
  | lst _ => exact go .lst rfl q
/-! ### attributes -/
def wFld (f : Str) (W : WE) : WE := fun env b Q => W env b fun d b1 => match d with
  | .ins _ gs => (match gs.lookup f with | some d => Q d b1 | none => False)
  | _ => False
theorem mem_of_lk {α : Type} : ∀ {l : List (Str × α)} {n : Str} {d : α}, l.lookup n = some d → (n, d) ∈ l
  | [], _, _, h => by simp at h
  | (m, x) :: r, n, d, h => by
    rw [List.lookup_cons] at h
    by_cases q : (n == m) = true
    · rw [q] at h
      simp at h
      have : n = m := by simpa using q
      subst this
      subst h
      exact List.mem_cons_self
    · have q' : (n == m) = false := by simpa using q
      rw [q'] at h
      exact List.mem_cons_of_mem _ (mem_of_lk h)
theorem qe_fld {f : Str} (h : QE X e W) (hb : attributeBase e f X.env (eval e X.env) = eval e X.env := by rfl) : QE X (.Attribute e f pos) (wFld f W) := fun p => PE.le (pe_fld (h p) hb) fun σ H Q ⟨B, env, b, Qd, R, w, k⟩ => by
  refine ⟨B, env, b, _, R, w, fun v H1 d b1 R1 e1 f1 q => ?_⟩
  cases f1 <;> try exact q.elim
  rename_i m cf na h n r
  dsimp only at q
  split at q
  · rename_i d hl
    obtain ⟨v, h1, h2⟩ := r.lookup hl
    exact ⟨_, _, _, _, v, rfl, h, cf.cl, na _ (mem_of_lk hl), h1, k v H1 d b1 R1 e1 h2 q⟩
  · exact q.elim
end
/-! ### places -/
def dIx : Op2
  | .tup ds, .int i, Q => (match atI ds i with | some d => Q d | none => False)
  | .lst ds, .int i, Q => (match atI ds i with | some d => Q d | none => False)
  | .str s, .int i, Q => s.length ≤ 1000000 ∧ (match atI s.cps.toList i with | some c => Q (.str ⟨#[c]⟩) | none => False)
  | _, _, _ => False
theorem FRs.atI {K : PySem.W.Frag} {mg : Str → Option Value} {pa : Addr} {B : Addr → Prop} {H : Hp} {vs : List V} {ds : List D} {i : Int} {d : D} (r : FRs K mg pa B H vs ds) (h : L2.atI ds i = some d) : ∃ v, L2.atI vs i = some v ∧ FR K mg pa B H v d := by
  unfold L2.atI at h ⊢
  rw [r.length]
  cases e : ixN ds.length i with
  | none => rw [e] at h; simp at h
  | some j =>
    rw [e] at h
    exact r.get (i := j) h
section
variable {X : Cx} {a c : Expr} {Wa Wc : WE} {pos : Pos}
theorem ok_ix : OpOk X (rIx X.K) dIx := by
  intro p B H σ env b x y dx dy Q Qd R rx ry q k
  have hl := line_ge
  cases dx <;> cases dy <;> try exact q.elim
  · obtain ⟨q0, q⟩ := q
    split at q
    · rename_i cc hc
      exact .inr (.inr ⟨_, _, cc, rx.str, ry.int, by omega, hc, k _ H _ (Same.refl _) (.str _) q⟩)
    · exact q.elim
  · unfold dIx at q
    obtain ⟨n, xs, rfl, h1, _, r1⟩ := rx.tup
    dsimp only at q
    split at q
    · rename_i d hd
      obtain ⟨v, h2, h3⟩ := r1.atI hd
      exact .inr (.inl ⟨n, xs, _, v, rfl, ry.int, h1, h2, k _ H _ (Same.refl _) h3 q⟩)
    · exact q.elim
  · unfold dIx at q
    obtain ⟨n, xs, rfl, h1, r1⟩ := rx.lst
    dsimp only at q
    split at q
    · rename_i d hd
      obtain ⟨v, h2, h3⟩ := r1.atI hd
      exact .inl ⟨n, xs, _, v, rfl, ry.int, .of h1, h2, k _ H _ (Same.refl _) h3 q⟩
    · exact q.elim
theorem qe_ix (ha : QB X a Wa) (hc : QB X c Wc) (hs : PlainIx c := by intro _ _; rfl) : QE X (.Subscript a c pos) (wBin dIx Wa Wc) := fun p => PE.le (pe_ix ix_seq (ha p) (hc p) hs) fun σ H Q h => bin_le ok_ix h
end
/-! ### slices -/
/-- the items of xs[lo:hi] -/
def cutD {α : Type} (xs : List α) (lo hi : Option Int) : List α := (xs.drop (HT.sIx xs.length 0 lo)).take (HT.sIx xs.length xs.length hi - HT.sIx xs.length 0 lo)
abbrev WO := Env → Nat → (Option Int → Nat → Prop) → Prop
def tO (K : PySem.W.Frag) (mg : Str → Option Value) (p : Pm) (W : WO) : TO := fun σ H Q => ∃ B env b Qd, Rel K mg p B H σ env b ∧ W env b Qd ∧ ∀ o H' b', Rel K mg p B H' σ env b' → Ext p.pa H H' → Qd o b' → Q o H'
def QO (X : Cx) (e : Option Expr) (W : WO) : Prop := ∀ p, PO X e (tO X.K X.mg p W)
theorem PO.le {X : Cx} {e : Option Expr} {t t' : TO} (h : PO X e t) (m : ∀ σ H Q, t' σ H Q → t σ H Q) : PO X e t' := ⟨fun pins s σ H Q I hw => h.run pins s σ H Q I (m _ _ _ hw)⟩
def wON : WO := fun _ b Q => Q none b
def wOS (W : WE) : WO := fun env b Q => W env b fun d b1 => match d with | .int i => Q (some i) b1 | _ => False
def wSl (W : WE) (Wl Wh : WO) : WE := fun env b Q => W env b fun d b1 => Wl env b1 fun lo b2 => Wh env b2 fun hi b3 => match d with
  | .tup ds => Q (.tup (cutD ds lo hi)) b3
  | .lst ds => Q (.lst (cutD ds lo hi)) b3
  | .str s => s.length ≤ 1000000 ∧ Q (.str (cutS s lo hi)) b3
  | _ => False
section
variable {X : Cx} {e : Expr} {lo hi : Option Expr} {W : WE} {Wl Wh : WO} {pos p2 : Pos}
theorem qo_n : QO X none wON := fun p => PO.le po_none fun σ H Q ⟨B, env, b, Qd, R, w, k⟩ => k none H b R (.refl _ _) w
theorem qo_s (h : QE X e W) : QO X (some e) (wOS W) := fun p => PO.le (po_some (h p)) fun σ H Q ⟨B, env, b, Qd, R, w, k⟩ => by
  refine ⟨B, env, b, _, R, w, fun v H1 d b1 R1 e1 f1 q => ?_⟩
  cases f1 <;> try exact q.elim
  exact ⟨_, rfl, k _ H1 b1 R1 e1 q⟩
theorem qe_sl (h : QB X e W) (hl : QO X lo Wl) (hh : QO X hi Wh) : QE X (.Subscript e (.Slice lo hi none p2) pos) (wSl W Wl Wh) := fun p =>
  PE.le (pe_slice (SlR.or sl_list (SlR.or sl_tupA sl_str)) (h p) (hl p) (hh p)) fun σ H Q ⟨B, env, b, Qd, R, w, k⟩ => by
    have hl := line_ge
    refine ⟨B, env, b, _, R, w, fun v H1 d b1 R1 e1 f1 q => ⟨B, env, b1, _, R1, q, fun o1 H2 b2 R2 e2 q2 => ⟨B, env, b2, _, R2, q2, fun o2 H3 b3 R3 e3 q3 => ?_⟩⟩⟩
    have f3 := (f1.ext R1 e2).ext R2 e3
    cases d <;> try exact q3.elim
    · exact .inr (.inr ⟨_, f3.str, by have := q3.1; omega, k _ H3 _ b3 R3 ((e1.trans e2).trans e3) (.str _) q3.2⟩)
    · obtain ⟨n, xs, rfl, h1, t1, r1⟩ := f3.tup
      have hlen := r1.length
      rename_i ds
      have rc : FRs X.K X.mg p.pa B H3 (cutV xs o1 o2) (cutD ds o1 o2) := by
        unfold cutV cutD
        rw [hlen]
        exact (r1.drop _).take _
      refine .inr (.inl ⟨n, xs, rfl, h1, fun z => ?_, fun z l hl => ?_⟩)
      · refine k _ H3 _ b3 R3 ((e1.trans e2).trans e3) (.tup t1 ?_) q3
        unfold cutD
        rw [← hlen, z.1, z.2, List.drop_zero, Nat.sub_zero, hlen, List.take_length]
        exact r1
      · exact k _ _ _ b3 (R3.same (same_new hl)) (((e1.trans e2).trans e3).trans (.same (same_new hl))) (FR.newT R3 hl rc) q3
    · obtain ⟨n, xs, rfl, h1, r1⟩ := f3.lst
      have hlen := r1.length
      rename_i ds
      have rc : FRs X.K X.mg p.pa B H3 (cutV xs o1 o2) (cutD ds o1 o2) := by
        unfold cutV cutD
        rw [hlen]
        exact (r1.drop _).take _
      exact .inl ⟨n, xs, rfl, .of h1, fun l hl => k _ _ _ b3 (R3.same (same_new hl)) (((e1.trans e2).trans e3).trans (.same (same_new hl))) (FR.newL R3 hl rc) q3⟩
end
/-! ### int.bit_length -/
def dBits : D → (D → Prop) → Prop
  | .int i, Q => Q (.int (Builtin.Int.intBits i : Nat))
  | _, _ => False
end En
/-! The engine, part 5: statements, loops, comprehensions. -/
namespace En
open PySem PySem.Spec PyProof.Rows L2
/-! ### slots are stored -/
section
variable {K : PySem.W.Frag} {mg : Str → Option Value} {p : Pm} {B : Addr → Prop} {H H' : Hp} {σ : L2.St} {env : Env} {b : Nat}
theorem Rel.setv (R : Rel K mg p B H σ env b) {i : Nat} {v : V} {d : D} (hi : i < env.length) (f : FR K mg p.pa B H v d) : Rel K mg p B H (σ.set i (some v)) (env.set i (.v d)) b := by
  refine ⟨R.sub, R.trk, R.opa, R.oca, R.pen, R.ext, by rw [List.length_set, List.length_set]; exact R.len, by rw [List.length_set]; exact R.nl, fun j s h => ?_⟩
  by_cases q : j = i
  · subst q
    rw [List.getElem?_set_self hi] at h
    cases h
    exact ⟨v, by rw [List.getElem?_set_self (by rw [← R.len]; exact hi)], f⟩
  · rw [List.getElem?_set_ne (Ne.symm q)] at h
    have hs := R.slots j s h
    cases s with
    | un => trivial
    | v d' =>
      obtain ⟨u, h1, h2⟩ := hs
      exact ⟨u, by rw [List.getElem?_set_ne (Ne.symm q)]; exact h1, h2⟩
    | own ds =>
      obtain ⟨a, xs, h1, h2, h3, h4, h5, h6, h7⟩ := hs
      refine ⟨a, xs, by rw [List.getElem?_set_ne (Ne.symm q)]; exact h1, h2, h3, h4, h5, h6, fun k ds' hk hd => ?_⟩
      by_cases z : k = i
      · subst z
        rw [List.getElem?_set_self hi] at hd
        cases hd
      · rw [List.getElem?_set_ne (Ne.symm z)] at hd ⊢
        exact h7 k ds' hk hd
/-- a slot becomes an own list: q is new -/
theorem Rel.seto {B0 : Addr → Prop} {q : Addr} {xs : List V} {ds : List D} (R : Rel K mg p (fun a => B a ∨ a = q) H σ env b) (R0 : Rel K mg p B H σ env b) {i : Nat} (hi : i < env.length) (hq : H q = some (.lst xs)) (f : FRs K mg p.pa (fun a => B a ∨ a = q) H xs ds) (nB : ¬ B q) (n0 : p.H0 q = none) :
    Rel K mg p (fun a => B a ∨ a = q) H (σ.set i (some (.ref q))) (env.set i (.own ds)) b := by
  have nO : ¬ p.O q := fun z => nB (R0.sub q z)
  have hl : i < σ.length := by rw [← R.len]; exact hi
  refine ⟨R.sub, R.trk, R.opa, R.oca, R.pen, R.ext, by rw [List.length_set, List.length_set]; exact R.len, by rw [List.length_set]; exact R.nl, fun j s h => ?_⟩
  by_cases z : j = i
  · subst z
    rw [List.getElem?_set_self hi] at h
    cases h
    refine ⟨q, xs, by rw [List.getElem?_set_self hl], hq, f, .inr rfl, nO, n0, fun k ds' hk hd => ?_⟩
    rw [List.getElem?_set_ne (Ne.symm hk)] at hd ⊢
    obtain ⟨a, ys, h1, h2, h3, h4, _⟩ := R0.slots k _ hd
    rw [h1]
    intro e
    have e' : a = q := by simpa using e
    exact nB (e' ▸ h4)
  · rw [List.getElem?_set_ne (Ne.symm z)] at h
    have hs := R.slots j s h
    have hs0 := R0.slots j s h
    cases s with
    | un => trivial
    | v d' =>
      obtain ⟨u, h1, h2⟩ := hs
      exact ⟨u, by rw [List.getElem?_set_ne (Ne.symm z)]; exact h1, h2⟩
    | own ds2 =>
      obtain ⟨a, ys, h1, h2, h3, h4, h5, h6, h7⟩ := hs
      obtain ⟨a', _, h1', _, _, h4', _⟩ := hs0
      have ea : a = a' := by
        rw [h1] at h1'
        simpa using h1'
      have nq : a ≠ q := fun e => nB (by rw [← e, ea]; exact h4')
      refine ⟨a, ys, by rw [List.getElem?_set_ne (Ne.symm z)]; exact h1, h2, h3, h4, h5, h6, fun k ds' hk hd => ?_⟩
      by_cases y : k = i
      · subst y
        rw [List.getElem?_set_self hl]
        intro e
        exact nq (by simpa using e.symm)
      · rw [List.getElem?_set_ne (Ne.symm y)] at hd ⊢
        exact h7 k ds' hk hd
/-- an own list is kept for good -/
theorem Rel.frz (R : Rel K mg p B H σ env b) {i : Nat} {ds : List D} (h : env[i]? = some (.own ds)) : ∃ B', Rel K mg p B' H σ (env.set i (.v (.lst ds))) b ∧ Kp B H B' H := by
  obtain ⟨q, xs, h1, h2, h3, h4, h5, h6, h7⟩ := R.slots i _ h
  have hi : i < env.length := (List.getElem?_eq_some_iff.mp h).1
  have kp : Kp B H (fun a => B a ∧ a ≠ q) H := fun a o e n => ⟨e, fun z => n z.1⟩
  refine ⟨fun a => B a ∧ a ≠ q, ⟨fun a ha => ⟨R.sub a ha, fun z => h5 (z ▸ ha)⟩, fun a ha => R.trk a ha.1, R.opa, R.oca, R.pen, R.ext, by rw [List.length_set]; exact R.len, by rw [List.length_set]; exact R.nl, fun j s hs => ?_⟩, kp⟩
  by_cases z : j = i
  · subst z
    rw [List.getElem?_set_self hi] at hs
    cases hs
    exact ⟨.ref q, h1, .lst h2 (fun z => z.2 rfl) (h3.kp kp)⟩
  · rw [List.getElem?_set_ne (Ne.symm z)] at hs
    have hj := R.slots j s hs
    cases s with
    | un => trivial
    | v d =>
      obtain ⟨u, g1, g2⟩ := hj
      exact ⟨u, g1, g2.kp kp⟩
    | own es =>
      obtain ⟨a, ys, g1, g2, g3, g4, g5, g6, g7⟩ := hj
      refine ⟨a, ys, g1, g2, g3.kp kp, ⟨g4, fun e => ?_⟩, g5, g6, fun k ds' hk hd => ?_⟩
      · exact h7 j es z hs (by rw [g1, e])
      · by_cases y : k = i
        · subst y
          rw [List.getElem?_set_self hi] at hd
          cases hd
        · rw [List.getElem?_set_ne (Ne.symm y)] at hd
          exact g7 k ds' hk hd
/-- an own list changes -/
theorem Rel.put (R : Rel K mg p B H σ env b) {i : Nat} {ds es : List D} {q : Addr} {xs ys : List V} (h : env[i]? = some (.own ds)) (h1 : σ[i]? = some (some (.ref q))) (f : FRs K mg p.pa B H ys es) :
    Rel K mg p B (upd H q (.lst ys)) σ (env.set i (.own es)) b ∧ Kp B H B (upd H q (.lst ys)) := by
  obtain ⟨q', xs', h1', h2, h3, h4, h5, h6, h7⟩ := R.slots i _ h
  rw [h1] at h1'
  have e : q = q' := by simpa using h1'
  subst e
  have hi : i < env.length := (List.getElem?_eq_some_iff.mp h).1
  have kp : Kp B H B (upd H q (.lst ys)) := fun a o e n => ⟨by rw [upd_ne (fun z => n (by rw [z]; exact h4))]; exact e, n⟩
  refine ⟨⟨R.sub, fun a ha => ?_, R.opa, R.oca, R.pen.put (fun z => h5 (z ▸ R.opa)) (fun z => h5 (z ▸ R.oca)), fun a o ha na => ?_, by rw [List.length_set]; exact R.len, by rw [List.length_set]; exact R.nl, fun j s hs => ?_⟩, kp⟩
  · by_cases z : a = q
    · rw [z, upd_same]
      simp
    · rw [upd_ne z]
      exact R.trk a ha
  · rw [upd_ne (fun z => by rw [z, h6] at ha; cases ha)]
    exact R.ext a o ha na
  · by_cases z : j = i
    · subst z
      rw [List.getElem?_set_self hi] at hs
      cases hs
      refine ⟨q, ys, h1, upd_same, f.kp kp, h4, h5, h6, fun k ds' hk hd => ?_⟩
      rw [List.getElem?_set_ne (Ne.symm hk)] at hd
      exact h7 k ds' hk hd
    · rw [List.getElem?_set_ne (Ne.symm z)] at hs
      have hj := R.slots j s hs
      cases s with
      | un => trivial
      | v d =>
        obtain ⟨u, g1, g2⟩ := hj
        exact ⟨u, g1, g2.kp kp⟩
      | own es' =>
        obtain ⟨a, ys', g1, g2, g3, g4, g5, g6, g7⟩ := hj
        have na : a ≠ q := fun e => h7 j es' z hs (by rw [g1, e])
        refine ⟨a, ys', g1, by rw [upd_ne na]; exact g2, g3.kp kp, g4, g5, g6, fun k ds' hk hd => ?_⟩
        by_cases y : k = i
        · subst y
          rw [h1]
          intro e
          exact na (by simpa using e.symm)
        · rw [List.getElem?_set_ne (Ne.symm y)] at hd
          exact g7 k ds' hk hd
/-- names forgotten -/
def wipeE (env : Env) : List Nat → Env
  | [] => env
  | v :: vs => (wipeE env vs).set v .un
theorem Rel.unset (R : Rel K mg p B H σ env b) (i : Nat) : Rel K mg p B H (σ.set i none) (env.set i .un) b := by
  refine ⟨R.sub, R.trk, R.opa, R.oca, R.pen, R.ext, by rw [List.length_set, List.length_set]; exact R.len, by rw [List.length_set]; exact R.nl, fun j s h => ?_⟩
  by_cases q : j = i
  · subst q
    by_cases hi : j < env.length
    · rw [List.getElem?_set_self hi] at h
      cases h
      trivial
    · rw [List.getElem?_eq_none (by rw [List.length_set]; omega)] at h
      cases h
  · rw [List.getElem?_set_ne (Ne.symm q)] at h
    have hs := R.slots j s h
    cases s with
    | un => trivial
    | v d' =>
      obtain ⟨u, h1, h2⟩ := hs
      exact ⟨u, by rw [List.getElem?_set_ne (Ne.symm q)]; exact h1, h2⟩
    | own ds =>
      obtain ⟨a, xs, h1, h2, h3, h4, h5, h6, h7⟩ := hs
      refine ⟨a, xs, by rw [List.getElem?_set_ne (Ne.symm q)]; exact h1, h2, h3, h4, h5, h6, fun k ds' hk hd => ?_⟩
      by_cases z : k = i
      · subst z
        by_cases hi : k < env.length
        · rw [List.getElem?_set_self hi] at hd
          cases hd
        · rw [List.getElem?_eq_none (by rw [List.length_set]; omega)] at hd
          cases hd
      · rw [List.getElem?_set_ne (Ne.symm z)] at hd ⊢
        exact h7 k ds' hk hd
theorem Rel.wipe (R : Rel K mg p B H σ env b) : ∀ vs : List Nat, Rel K mg p B H (wipe σ vs) (wipeE env vs) b
  | [] => R
  | v :: vs => (Rel.wipe R vs).unset v
end
/-! ### statements -/
structure Ens where
  nx : Env → Nat → Prop
  rt : D → Nat → Prop
  bk : Env → Nat → Prop := fun _ _ => False
  ct : Env → Nat → Prop := fun _ _ => False
abbrev WS := Ens → Env → Nat → Prop
/-- the ends fit -/
structure Fits (K : PySem.W.Frag) (mg : Str → Option Value) (p : Pm) (B : Addr → Prop) (H : Hp) (E : Ens) (D : Ends) : Prop where
  nx : ∀ σ' H' B' env' b', Rel K mg p B' H' σ' env' b' → Kp B H B' H' → E.nx env' b' → D.nx σ' H'
  bk : ∀ σ' H' B' env' b', Rel K mg p B' H' σ' env' b' → Kp B H B' H' → E.bk env' b' → D.bk σ' H'
  ct : ∀ σ' H' B' env' b', Rel K mg p B' H' σ' env' b' → Kp B H B' H' → E.ct env' b' → D.ct σ' H'
  rt : ∀ v H' d b', FR K mg p.pa p.O H' v d → Ext p.pa p.H0 H' → PenOk p.pa p.ca H' b' → E.rt d b' → D.rt v H'
theorem Fits.kp {K : PySem.W.Frag} {mg : Str → Option Value} {p : Pm} {B B' : Addr → Prop} {H H' : Hp} {E : Ens} {D : Ends} (f : Fits K mg p B H E D) (k : Kp B H B' H') : Fits K mg p B' H' E D :=
  ⟨fun σ' H2 B2 env' b' R k2 e => f.nx σ' H2 B2 env' b' R (k.trans k2) e, fun σ' H2 B2 env' b' R k2 e => f.bk σ' H2 B2 env' b' R (k.trans k2) e, fun σ' H2 B2 env' b' R k2 e => f.ct σ' H2 B2 env' b' R (k.trans k2) e, f.rt⟩
def tS (K : PySem.W.Frag) (mg : Str → Option Value) (p : Pm) (W : WS) : TS := fun D σ H => ∃ B env b E, Rel K mg p B H σ env b ∧ W E env b ∧ Fits K mg p B H E D
def QS (X : Cx) (st : Stmt) (W : WS) : Prop := ∀ p, PS X st (tS X.K X.mg p W)
def QSs (X : Cx) (st : List Stmt) (W : WS) : Prop := ∀ p, PSs X st (tS X.K X.mg p W)
theorem PS.le {X : Cx} {st : Stmt} {t t' : TS} (h : PS X st t) (m : ∀ D σ H, t' D σ H → t D σ H) : PS X st t' := ⟨fun pins s σ H D I hw => h.run pins s σ H D I (m _ _ _ hw)⟩
theorem PSs.le {X : Cx} {st : List Stmt} {t t' : TS} (h : PSs X st t) (m : ∀ D σ H, t' D σ H → t D σ H) : PSs X st t' := ⟨fun pins s σ H D I hw => h.run pins s σ H D I (m _ _ _ hw)⟩
def wNext : WS := fun E env b => E.nx env b
def wSeq (W1 W2 : WS) : WS := fun E env b => W1 { E with nx := W2 E } env b
def wBreak : WS := fun E env b => E.bk env b
def wCont : WS := fun E env b => E.ct env b
def wSet (i : Nat) (W : WE) : WS := fun E env b => W env b fun d b' => E.nx (env.set i (.v d)) b'
def wSetO (i : Nat) (W : WL) : WS := fun E env b => W env b fun ds b' => E.nx (env.set i (.own ds)) b'
def wRet (W : WE) : WS := fun E env b => W env b fun d b' => E.rt d b'
def wIfS (T : WT) (W1 W2 : WS) : WS := fun E env b => T env b fun c b1 => wIf c (W1 E env b1) (W2 E env b1)
def wFrz (i : Nat) (W : WS) : WS := fun E env b => match env[i]? with | some (.own ds) => W E (env.set i (.v (.lst ds))) b | _ => False
def wApp (i : Nat) (W : WE) : WS := fun E env b => match env[i]? with | some (.own ds) => W env b fun d b' => ds.length < 1000000 ∧ E.nx (env.set i (.own (ds ++ [d]))) b' | _ => False
def wDrop (W : WE) : WS := fun E env b => W env b fun _ b' => E.nx env b'
section
variable {X : Cx} {st : Stmt} {sts : List Stmt} {e : Expr} {W1 W2 : WS} {We : WE} {Wl : WL} {T : WT} {pos pos' : Pos} {x : Str}
theorem qss_nil : QSs X [] wNext := fun p => PSs.le pss_nil fun D σ H ⟨B, env, b, E, R, w, f⟩ => f.nx σ H B env b R (.refl _ _) w
theorem qss_cons (h1 : QS X st W1) (h2 : QSs X sts W2) : QSs X (st :: sts) (wSeq W1 W2) := fun p => PSs.le (pss_cons (h1 p) (h2 p)) fun D σ H ⟨B, env, b, E, R, w, f⟩ =>
  ⟨B, env, b, _, R, w, ⟨fun σ' H' B' env' b' R' k q => ⟨B', env', b', E, R', q, f.kp k⟩, f.bk, f.ct, f.rt⟩⟩
theorem qss_one (h1 : QS X st W1) : QSs X [st] W1 := fun p => PSs.le (pss_one (h1 p)) fun D σ H h => h
theorem qss_frz (i : Nat) (h : QSs X sts W1) : QSs X sts (wFrz i W1) := fun p => PSs.le (h p) fun D σ H ⟨B, env, b, E, R, w, f⟩ => by
  unfold wFrz at w
  split at w
  · rename_i ds hs
    obtain ⟨B', R', k⟩ := R.frz hs
    exact ⟨B', _, b, E, R', w, f.kp k⟩
  · exact w.elim
theorem qs_pass : QS X (.Pass pos) wNext := fun p => PS.le ps_pass fun D σ H ⟨B, env, b, E, R, w, f⟩ => f.nx σ H B env b R (.refl _ _) w
theorem qs_break : QS X (.Break pos) wBreak := fun p => PS.le ps_break fun D σ H ⟨B, env, b, E, R, w, f⟩ => f.bk σ H B env b R (.refl _ _) w
theorem qs_cont : QS X (.Continue pos) wCont := fun p => PS.le ps_continue fun D σ H ⟨B, env, b, E, R, w, f⟩ => f.ct σ H B env b R (.refl _ _) w
theorem len_of {p : Pm} {B : Addr → Prop} {H : Hp} {σ : L2.St} {env : Env} {b : Nat} {i : Nat} (I : σ.length = X.N.length) (R : Rel X.K X.mg p B H σ env b) (hi : X.N[i]? = some x) : i < env.length := by
  rw [R.len, I]
  exact (List.getElem?_eq_some_iff.mp hi).1
theorem qs_set (i : Nat) (hN : X.N.Nodup) (hi : X.N[i]? = some x) (hx : Loc X.env.scope x) (h : QE X e We) (hs : swapsWith e (some (.Name x pos')) pos.line X.env = pure false := by rfl) (hf : X.fn x = true ∨ X.env.scope.names.lookup x = some .local := by first | exact .inl rfl | exact .inr rfl | assumption) :
    QS X (.Assign [.Name x pos'] e pos) (wSet i We) := fun p => ⟨fun pins s σ H D I ⟨B, env, b, E, R, w, f⟩ => (ps_set hN hi hx (h p) hs hf).run pins s σ H D I ⟨B, env, b, _, R, w, fun v H1 d b1 R1 e1 f1 q =>
  f.nx _ H1 B _ b1 (R1.setv (len_of I.len R1 hi) f1) (R.ext_kp e1) q⟩⟩
theorem qs_setF (i : Nat) (hN : X.N.Nodup) (hi : X.N[i]? = some x) (hx : Loc X.env.scope x) (h : QF X e Wl) (hs : swapsWith e (some (.Name x pos')) pos.line X.env = pure false := by rfl) (hf : X.fn x = true ∨ X.env.scope.names.lookup x = some .local := by first | exact .inl rfl | exact .inr rfl | assumption) :
    QS X (.Assign [.Name x pos'] e pos) (wSetO i Wl) := fun p => ⟨fun pins s σ H D I ⟨B, env, b, E, R, w, f⟩ => (ps_set hN hi hx (h p) hs hf).run pins s σ H D I ⟨B, env, b, _, R, w, fun q xs H1 ds b1 R1 R2 e1 hq fq nB n q' =>
  f.nx _ H1 _ _ b1 (R2.seto (B0 := B) R1 (len_of I.len R1 hi) hq fq nB (R.new0 n)) (fun a o ha na => ⟨(R.ext_kp e1 a o ha na).1, fun z => z.elim na (ne_of_none ha n)⟩) q'⟩⟩
theorem qs_ret (h : QE X e We) : QS X (.Return (some e) pos) (wRet We) := fun p => PS.le (ps_ret (h p)) fun D σ H ⟨B, env, b, E, R, w, f⟩ =>
  ⟨B, env, b, _, R, w, fun v H1 d b1 R1 e1 f1 q => f.rt v H1 d b1 (f1.kp fun a o ha na => ⟨ha, fun z => na (R1.sub a z)⟩) R1.ext R1.pen q⟩
theorem qs_if {a c : List Stmt} {t : Expr} (ht : QT X t T) (h1 : QSs X a W1) (h2 : QSs X c W2) : QS X (.If t a c pos) (wIfS T W1 W2) := fun p => PS.le (ps_if (ht p) (h1 p) (h2 p)) fun D σ H ⟨B, env, b, E, R, w, f⟩ => by
  refine ⟨B, env, b, _, R, w, fun cc H1 b1 R1 e1 w1 => wIf_ite ?_⟩
  cases cc with
  | true => exact ⟨B, env, b1, E, R1, w1, f.kp (R.ext_kp e1)⟩
  | false => exact ⟨B, env, b1, E, R1, w1, f.kp (R.ext_kp e1)⟩
theorem qs_never : QS X st (fun _ _ _ => False) := fun p => PS.le ps_never fun D σ H ⟨B, env, b, E, R, w, f⟩ => w.elim
theorem qs_drop (h : QE X e We) (hs : swapsWith e none pos.line X.env = pure false := by rfl) : QS X (.Expr e pos) (wDrop We) := fun p => PS.le (ps_expr (h p) hs) fun D σ H ⟨B, env, b, E, R, w, f⟩ =>
  ⟨B, env, b, _, R, w, fun v H1 d b1 R1 e1 f1 q => f.nx σ H1 B env b1 R1 (R.ext_kp e1) q⟩
/-- x.append(e) -/
theorem qs_app (i : Nat) {apos cpos px : Pos} (hi : X.N[i]? = some x) (hv : Vis X.env.scope x) (h : QE X e We) (hd : (x == ("__debug__" : Str)) = false := by decide) (hcd : (x == ("__classdict__" : Str)) = false := by decide)
    (hbase : attributeBase (.Name x px) "append" X.env (eval (.Name x px) X.env) = eval (.Name x px) X.env := by rfl)
    (hfew : ((backTo cpos (starEach (e :: []) X.env)).all (fun x => !x.1) && (backToKw cpos (keywordEach [] X.env)).all (fun x => x.1.isSome)
      && decide ((e :: ([] : List Expr)).length + ([] : List Keyword).length + (if ([] : List Keyword).isEmpty then 0 else 1) < 30)) = true := by rfl)
    (hline : (apos.endLine == cpos.line) = true := by rfl) (hs : starEach (e :: []) X.env = (false, eval e X.env) :: starEach [] X.env := by rfl) (hplain : (backTo cpos (starEach [] X.env)).any (·.1) = false := by rfl)
    (hsw : swapsWith (.Call (.Attribute (.Name x px) "append" apos) [e] [] cpos) none pos.line X.env = pure false := by rfl) :
    QS X (.Expr (.Call (.Attribute (.Name x px) "append" apos) [e] [] cpos) pos) (wApp i We) := fun p =>
  PS.le (ps_expr (pe_bm PySem.F.plainAttrs_list PySem.F.slot_list_append PySem.F.type_list_append mt_append (pe_var hi hv hd hcd) (pa_cons (h p) pa_nil hs) hbase hfew hline hs hplain) hsw) fun D σ H ⟨B, env, b, E, R, w, f⟩ => by
    have hl := line_ge
    unfold wApp at w
    split at w
    · rename_i ds ho
      obtain ⟨q, xs, h1, h2, h3, h4⟩ := R.slots i _ ho
      refine ⟨.ref q, h1, .inl ⟨rfl, xs, .of h2⟩, B, env, b, _, R, w, fun v H1 d b1 R1 e1 f1 qd => ?_⟩
      obtain ⟨q', xs', g1, g2, g3, g4⟩ := R1.slots i _ ho
      have eq' : q = q' := by
        rw [h1] at g1
        simpa using g1
      subst eq'
      have hlen := g3.length
      refine ⟨q, xs', v, rfl, rfl, g2, by have := qd.1; omega, ?_⟩
      obtain ⟨R2, k2⟩ := R1.put ho h1 (g3.append (.cons f1 .nil)) (xs := xs')
      exact f.nx σ _ B _ b1 R2 ((R.ext_kp e1).trans k2) qd.2
    · exact w.elim
end
/-! ### what a name is given: a value for good, or a new list of its own -/
abbrev WV := Env → Nat → (Slot → Nat → Prop) → Prop
def SlotV (K : PySem.W.Frag) (mg : Str → Option Value) (p : Pm) (B : Addr → Prop) (H : Hp) (σ : L2.St) (env : Env) (v : V) : Slot → Prop
  | .un => False
  | .v d => FR K mg p.pa B H v d
  | .own ds => ∃ q xs, v = .ref q ∧ H q = some (.lst xs) ∧ FRs K mg p.pa B H xs ds ∧ B q ∧ ¬ p.O q ∧ p.H0 q = none ∧ ∀ (j : Nat) (ds' : List D), env[j]? = some (.own ds') → σ[j]? ≠ some (some (.ref q))
def tV (K : PySem.W.Frag) (mg : Str → Option Value) (p : Pm) (W : WV) : TE := fun σ H Q => ∃ B env b Qd, Rel K mg p B H σ env b ∧ W env b Qd ∧
  ∀ (v : V) (H' : Hp) (sl : Slot) (b' : Nat) (B' : Addr → Prop), Rel K mg p B' H' σ env b' → (∀ a, B a → B' a) → Kp B H B' H' → Ext p.pa H H' → SlotV K mg p B' H' σ env v sl → (∀ (q : Addr) (ds : List D), sl = Slot.own ds → v = V.ref q → H q = none) → Qd sl b' → Q v H'
def QV (X : Cx) (e : Expr) (W : WV) : Prop := ∀ p, PE X e (tV X.K X.mg p W)
def wV (W : WE) : WV := fun env b Q => W env b fun d b' => Q (.v d) b'
def wO (W : WL) : WV := fun env b Q => W env b fun ds b' => Q (.own ds) b'
section
variable {X : Cx} {e : Expr} {We : WE} {Wl : WL}
theorem QE.v (h : QE X e We) : QV X e (wV We) := fun p => PE.le (h p) fun σ H Q ⟨B, env, b, Qd, R, w, k⟩ =>
  ⟨B, env, b, _, R, w, fun v H' d b' R' x f q => k v H' (.v d) b' B R' (fun _ h => h) (R.ext_kp x) x f (fun _ _ e => nomatch e) q⟩
theorem QF.v (h : QF X e Wl) : QV X e (wO Wl) := fun p => PE.le (h p) fun σ H Q ⟨B, env, b, Qd, R, w, k⟩ =>
  ⟨B, env, b, _, R, w, fun q xs H' ds b' R1 R2 x hq fq nB n qd => k (.ref q) H' (.own ds) b' _ R2 (fun _ h => .inl h) (fun a o ha na => ⟨(R.ext_kp x a o ha na).1, fun z => z.elim na (ne_of_none ha n)⟩) x
    ⟨q, xs, rfl, hq, fq, .inr rfl, fun z => nB (R.sub q z), R.new0 n, fun j ds' hj => by
      obtain ⟨a, ys, h1, h2, h3, h4, _⟩ := R1.slots j _ hj
      rw [h1]
      intro e
      have e' : a = q := by simpa using e
      exact nB (e' ▸ h4)⟩ (fun q' _ _ e => by cases e; exact n) qd⟩
end
section
variable {K : PySem.W.Frag} {mg : Str → Option Value} {p : Pm} {B B' : Addr → Prop} {H H' : Hp} {σ : L2.St} {env : Env} {b b' : Nat} {v : V} {sl : Slot}
theorem Rel.setS (R : Rel K mg p B H σ env b) {i : Nat} (hi : i < env.length) (f : SlotV K mg p B H σ env v sl) : Rel K mg p B H (σ.set i (some v)) (env.set i sl) b := by
  cases sl with
  | un => exact f.elim
  | v d => exact R.setv hi f
  | own ds =>
    obtain ⟨q, xs, rfl, hq, fq, bq, nO, n0, al⟩ := f
    have hl : i < σ.length := by rw [← R.len]; exact hi
    refine ⟨R.sub, R.trk, R.opa, R.oca, R.pen, R.ext, by rw [List.length_set, List.length_set]; exact R.len, by rw [List.length_set]; exact R.nl, fun j s h => ?_⟩
    by_cases z : j = i
    · subst z
      rw [List.getElem?_set_self hi] at h
      cases h
      refine ⟨q, xs, by rw [List.getElem?_set_self hl], hq, fq, bq, nO, n0, fun k ds' hk hd => ?_⟩
      rw [List.getElem?_set_ne (Ne.symm hk)] at hd ⊢
      exact al k ds' hd
    · rw [List.getElem?_set_ne (Ne.symm z)] at h
      have hs := R.slots j s h
      cases s with
      | un => trivial
      | v d' =>
        obtain ⟨u, h1, h2⟩ := hs
        exact ⟨u, by rw [List.getElem?_set_ne (Ne.symm z)]; exact h1, h2⟩
      | own ds2 =>
        obtain ⟨a, ys, h1, h2, h3, h4, h5, h6, h7⟩ := hs
        refine ⟨a, ys, by rw [List.getElem?_set_ne (Ne.symm z)]; exact h1, h2, h3, h4, h5, h6, fun k ds' hk hd => ?_⟩
        by_cases y : k = i
        · subst y
          rw [List.getElem?_set_self hl]
          intro e
          have e' : q = a := by simpa using e
          exact al j ds2 h (by rw [h1, e'])
        · rw [List.getElem?_set_ne (Ne.symm y)] at hd ⊢
          exact h7 k ds' hk hd
theorem SlotV.step (R : Rel K mg p B H σ env b) (f : SlotV K mg p B H σ env v sl) (s : ∀ a, B a → B' a) (k : Kp B H B' H') (e : Ext p.pa H H') : SlotV K mg p B' H' σ env v sl := by
  cases sl with
  | un => exact f
  | v d => exact FR.kp k f
  | own ds =>
    obtain ⟨q, xs, rfl, hq, fq, bq, nO, n0, al⟩ := f
    exact ⟨q, xs, rfl, e _ _ hq (R.pen.ne hq), fq.kp k, s _ bq, nO, n0, al⟩
/-- another slot is stored: the value is no such list -/
theorem SlotV.stored {v' : V} {sl' : Slot} {i : Nat} (f : SlotV K mg p B H σ env v sl) (hi : i < env.length) (hl : i < σ.length) (h : ∀ (q q' : Addr) (ds ds' : List D), sl = Slot.own ds → v = V.ref q → sl' = Slot.own ds' → v' = V.ref q' → q ≠ q') (g : SlotV K mg p B H σ env v' sl') : SlotV K mg p B H (σ.set i (some v')) (env.set i sl') v sl := by
  cases sl with
  | un => exact f
  | v d => exact f
  | own ds =>
    obtain ⟨q, xs, rfl, hq, fq, bq, nO, n0, al⟩ := f
    refine ⟨q, xs, rfl, hq, fq, bq, nO, n0, fun j ds' hj => ?_⟩
    by_cases z : j = i
    · subst z
      rw [List.getElem?_set_self hi] at hj
      rw [List.getElem?_set_self hl]
      have hs : sl' = .own ds' := by simpa using hj
      subst hs
      obtain ⟨q', _, rfl, _⟩ := g
      intro e
      exact h q q' ds ds' rfl rfl rfl rfl (by simpa using e.symm)
    · rw [List.getElem?_set_ne (Ne.symm z)] at hj ⊢
      exact al j ds' hj
end
/-! ### x[i] = e, pairs of names, pairs of places -/
def wSetIx (n : Nat) (W : WE) (Wi : WE) : WS := fun E env b => match env[n]? with
  | some (.own ds) => W env b fun d b1 => Wi env b1 fun kd b2 => (match kd with
    | .int k => (match ixN ds.length k with | some j => E.nx (env.set n (.own (ds.set j d))) b2 | none => False)
    | _ => False)
  | _ => False
/-- a, b = e1, e2 -/
def wPar (i j : Nat) (W1 W2 : WV) : WS := fun E env b => W1 env b fun s1 b1 => W2 env b1 fun s2 b2 => E.nx ((env.set i s1).set j s2) b2
/-- x[i], x[j] = e1, e2 -/
def wSwap (n : Nat) (W1 W2 Wi Wj : WE) : WS := fun E env b => match env[n]? with
  | some (.own ds) => W1 env b fun d b1 => W2 env b1 fun d' b2 => Wi env b2 fun kd b3 => (match kd with
    | .int k => (match ixN ds.length k with
      | some j => Wj (env.set n (.own (ds.set j d))) b3 fun kd' b4 => (match kd' with
        | .int k' => (match ixN ds.length k' with | some j' => E.nx (env.set n (.own ((ds.set j d).set j' d'))) b4 | none => False)
        | _ => False)
      | none => False)
    | _ => False)
  | _ => False
section
variable {X : Cx} {e e1 e2 o i1 i2 : Expr} {W1 W2 We Wi Wj : WE} {V1 V2 : WV} {Wl : WL} {pos px py pt spos : Pos} {x y : Str} {k2 kt : Nat} {pt2 : Pos}
theorem put_step {p : Pm} {B : Addr → Prop} {H : Hp} {σ : L2.St} {env : Env} {b n : Nat} {ds : List D} {K : PySem.W.Frag} {mg : Str → Option Value} (R : Rel K mg p B H σ env b) (ho : env[n]? = some (.own ds)) :
    ∃ q xs, σ[n]? = some (some (.ref q)) ∧ H q = some (.lst xs) ∧ xs.length = ds.length ∧ FRs K mg p.pa B H xs ds := by
  obtain ⟨q, xs, h1, h2, h3, _⟩ := R.slots n _ ho
  exact ⟨q, xs, h1, h2, h3.length, h3⟩
theorem qs_setix (n : Nat) {p1 : Pos} (hi : X.N[n]? = some x) (hv : Vis X.env.scope x) (h : QE X e We) (hix : QE X i1 Wi) (hd : (x == ("__debug__" : Str)) = false := by decide) (hcd : (x == ("__classdict__" : Str)) = false := by decide)
    (ha : ∀ v, assign (.Subscript (.Name x px) i1 p1) X.env v = (do
      let ov ← holding [v] (eval (.Name x px) X.env)
      let iv ← holding [v, ov] (eval i1 X.env)
      standAt p1
      holding [v, ov, iv] (setItem ov iv v)
      release [v, ov, iv] []) := by intro _; rfl)
    (hs : swapsWithSole [.Subscript (.Name x px) i1 p1] e pos.line X.env = pure false := by rfl) (hw : swappedStores [.Subscript (.Name x px) i1 p1] e X.env = pure none := by rfl)
    (h1 : (assignEach [.Subscript (.Name x px) i1 p1] X.env).map (·.2) = [assign (.Subscript (.Name x px) i1 p1) X.env] := by rfl) : QS X (.Assign [.Subscript (.Name x px) i1 p1] e pos) (wSetIx n We Wi) := fun p =>
  PS.le (ps_asg (h p) (pg_sub (pe_var hi hv hd hcd) (hix p) set_list ha) hs hw h1) fun D σ H ⟨B, env, b, E, R, w, f⟩ => by
    unfold wSetIx at w
    split at w
    · rename_i ds ho
      refine ⟨B, env, b, _, R, w, fun v H1 d b1 R1 e1 f1 w1 => ?_⟩
      obtain ⟨q, xs, g1, g2, g3, g4⟩ := put_step R1 ho
      refine ⟨.ref q, g1, B, env, b1, _, R1, w1, fun u H2 kd b2 R2 e2 f2 w2 => ?_⟩
      obtain ⟨q', xs', g1', g2', g3', g4'⟩ := put_step R2 ho
      rw [g1] at g1'
      have eq' : q = q' := by simpa using g1'
      subst eq'
      cases f2 <;> try exact w2.elim
      dsimp only at w2
      split at w2
      · rename_i k j hj
        refine ⟨q, xs', _, j, rfl, rfl, g2', by rw [g3']; exact hj, ?_⟩
        obtain ⟨R3, k3⟩ := R2.put ho g1 (g4'.set (f1.ext e2 R.bpa) j) (xs := xs')
        exact f.nx σ _ B _ b2 R3 (((R.ext_kp e1).trans (R1.ext_kp e2)).trans k3) w2
      · exact w2.elim
    · exact w.elim
theorem qs_par (i j : Nat) (hc : X.calm = true) (hN : X.N.Nodup) (hi : X.N[i]? = some x) (hj : X.N[j]? = some y) (hij : i ≠ j) (hx : X.env.scope.names.lookup x = some .local) (hy : X.env.scope.names.lookup y = some .local) (h1 : QV X e1 V1) (h2 : QV X e2 V2)
    (hw : swappedStores [.Tuple [.Name x px, .Name y py] kt pt] (.Tuple [e1, e2] k2 pt2) X.env = pure (some [x, y]) := by rfl) (hs : swapsWithSole [.Tuple [.Name x px, .Name y py] kt pt] (.Tuple [e1, e2] k2 pt2) pos.line X.env = pure false := by rfl)
    (hs1 : starEach [e1, e2] X.env = (false, eval e1 X.env) :: starEach [e2] X.env := by rfl) (hs2 : starEach [e2] X.env = (false, eval e2 X.env) :: starEach [] X.env := by rfl) :
    QS X (.Assign [.Tuple [.Name x px, .Name y py] kt pt] (.Tuple [e1, e2] k2 pt2) pos) (wPar i j V1 V2) := fun p => ⟨fun pins s σ H D I ⟨B, env, b, E, R, w, f⟩ =>
  (ps_par hc hN hi hj hij hx hy (pa_cons (h1 p) (pa_cons (h2 p) pa_nil hs2) hs1) hw hs).run pins s σ H D I
    ⟨B, env, b, _, R, w, fun v H1 sl b1 B1 R1 su k1 e1 f1 n1 w1 => ⟨B1, env, b1, _, R1, w1, fun v' H2 sl' b2 B2 R2 su2 k2' e2 f2 n2 w2 => ⟨v, v', rfl, by
      have li := len_of I.len R1 hi
      have lj := len_of I.len R1 hj
      have f1' := f1.step R1 su2 k2' e2
      have R3 := R2.setS li f1'
      have f2' := f2.stored (v' := v) (sl' := sl) li (by rw [← R1.len]; exact li) (fun q q' ds ds' z1 z2 z3 z4 z5 => by
        subst z3 z4
        obtain ⟨q3, xs3, e3, h3, _⟩ := f1
        cases e3
        have := n2 q ds z1 z2
        rw [z5, h3] at this
        cases this) f1'
      exact f.nx _ H2 B2 _ b2 (R3.setS (by rw [List.length_set]; exact lj) f2') (k1.trans k2') w2⟩⟩⟩⟩
/-- the same where a name is a cell -/
theorem qs_parT (i j : Nat) (hc : X.calm = true) (hN : X.N.Nodup) (hi : X.N[i]? = some x) (hj : X.N[j]? = some y) (hij : i ≠ j) (hx : Loc X.env.scope x) (hy : Loc X.env.scope y) (h1 : QV X e1 V1) (h2 : QV X e2 V2)
    (hfx : X.fn x = true ∨ X.env.scope.names.lookup x = some .local := by first | exact .inl rfl | exact .inr rfl | assumption) (hfy : X.fn y = true ∨ X.env.scope.names.lookup y = some .local := by first | exact .inl rfl | exact .inr rfl | assumption)
    (hw : swappedStores [.Tuple [.Name x px, .Name y py] kt pt] (.Tuple [e1, e2] k2 pt2) X.env = pure none := by rfl) (hs : swapsWithSole [.Tuple [.Name x px, .Name y py] kt pt] (.Tuple [e1, e2] k2 pt2) pos.line X.env = pure false := by rfl)
    (ha : (assignEach [.Tuple [.Name x px, .Name y py] kt pt] X.env).map (·.2) = [assign (.Tuple [.Name x px, .Name y py] kt pt) X.env] := by rfl)
    (hn : (assignEach [.Name x px, .Name y py] X.env).length = 2 := by rfl) (hst : (assignEach [.Name x px, .Name y py] X.env).findIdx? (·.1) = none := by rfl)
    (hs1 : starEach [e1, e2] X.env = (false, eval e1 X.env) :: starEach [e2] X.env := by rfl) (hs2 : starEach [e2] X.env = (false, eval e2 X.env) :: starEach [] X.env := by rfl)
    (hc1 : (assignEach [.Name x px, .Name y py] X.env).map (·.2) = assign (.Name x px) X.env :: (assignEach [.Name y py] X.env).map (·.2) := by rfl) (hc2 : (assignEach [.Name y py] X.env).map (·.2) = assign (.Name y py) X.env :: (assignEach [] X.env).map (·.2) := by rfl) :
    QS X (.Assign [.Tuple [.Name x px, .Name y py] kt pt] (.Tuple [e1, e2] k2 pt2) pos) (wPar i j V1 V2) := fun p => ⟨fun pins s σ H D I ⟨B, env, b, E, R, w, f⟩ =>
  (ps_asg (pe_tup (pa_cons (h1 p) (pa_cons (h2 p) pa_nil hs2) hs1)) (pg_tup hc (pgs_cons (pg_name hN hi hx hfx) (pgs_cons (pg_name hN hj hy hfy) pgs_nil hc2) hc1) hn hst) hs hw ha).run pins s σ H D I
    ⟨B, env, b, _, R, w, fun v H1 sl b1 B1 R1 su k1 e1 f1 n1 w1 => ⟨B1, env, b1, _, R1, w1, fun v' H2 sl' b2 B2 R2 su2 k2' e2 f2 n2 w2 => ⟨by show 2 ≤ sizeLine; decide, fun t ht => by
      have sm := same_new (o := .tup [v, v']) ht
      have R2' := R2.same sm
      have li := len_of I.len R1 hi
      have lj := len_of I.len R1 hj
      have f1' := (f1.step R1 su2 k2' e2).step R2 (fun _ h => h) (R2.ext_kp (.same sm)) (.same sm)
      have f20 := f2.step R2 (fun _ h => h) (R2.ext_kp (.same sm)) (.same sm)
      have R3 := R2'.setS li f1'
      have f2' := f20.stored (v' := v) (sl' := sl) li (by rw [← R1.len]; exact li) (fun q q' ds ds' z1 z2 z3 z4 z5 => by
        subst z3 z4
        obtain ⟨q3, xs3, e3, h3, _⟩ := f1
        cases e3
        have := n2 q ds z1 z2
        rw [z5, h3] at this
        cases this) f1'
      refine ⟨t, [v, v'], rfl, .of upd_same, rfl, v, [v'], rfl, v', [], rfl, rfl, ?_⟩
      exact f.nx _ _ B2 _ b2 (R3.setS (by rw [List.length_set]; exact lj) f2') ((k1.trans k2').trans (R2.ext_kp (.same sm))) w2⟩⟩⟩⟩
theorem qs_swap (n : Nat) {p1 p2 px2 : Pos} (hc : X.calm = true) (hi : X.N[n]? = some x) (hv : Vis X.env.scope x) (h1 : QE X e1 W1) (h2 : QE X e2 W2) (hi1 : QE X i1 Wi) (hi2 : QE X i2 Wj) (hd : (x == ("__debug__" : Str)) = false := by decide) (hcd : (x == ("__classdict__" : Str)) = false := by decide)
    (ha1 : ∀ v, assign (.Subscript (.Name x px) i1 p1) X.env v = (do
      let ov ← holding [v] (eval (.Name x px) X.env)
      let iv ← holding [v, ov] (eval i1 X.env)
      standAt p1
      holding [v, ov, iv] (setItem ov iv v)
      release [v, ov, iv] []) := by intro _; rfl)
    (ha2 : ∀ v, assign (.Subscript (.Name x px2) i2 p2) X.env v = (do
      let ov ← holding [v] (eval (.Name x px2) X.env)
      let iv ← holding [v, ov] (eval i2 X.env)
      standAt p2
      holding [v, ov, iv] (setItem ov iv v)
      release [v, ov, iv] []) := by intro _; rfl)
    (hw : swappedStores [.Tuple [.Subscript (.Name x px) i1 p1, .Subscript (.Name x px2) i2 p2] kt pt] (.Tuple [e1, e2] k2 pt2) X.env = pure none := by rfl) (hs : swapsWithSole [.Tuple [.Subscript (.Name x px) i1 p1, .Subscript (.Name x px2) i2 p2] kt pt] (.Tuple [e1, e2] k2 pt2) pos.line X.env = pure false := by rfl)
    (ha : (assignEach [.Tuple [.Subscript (.Name x px) i1 p1, .Subscript (.Name x px2) i2 p2] kt pt] X.env).map (·.2) = [assign (.Tuple [.Subscript (.Name x px) i1 p1, .Subscript (.Name x px2) i2 p2] kt pt) X.env] := by rfl)
    (hn : (assignEach [.Subscript (.Name x px) i1 p1, .Subscript (.Name x px2) i2 p2] X.env).length = 2 := by rfl) (hst : (assignEach [.Subscript (.Name x px) i1 p1, .Subscript (.Name x px2) i2 p2] X.env).findIdx? (·.1) = none := by rfl)
    (hs1 : starEach [e1, e2] X.env = (false, eval e1 X.env) :: starEach [e2] X.env := by rfl) (hs2 : starEach [e2] X.env = (false, eval e2 X.env) :: starEach [] X.env := by rfl)
    (hc1 : (assignEach [.Subscript (.Name x px) i1 p1, .Subscript (.Name x px2) i2 p2] X.env).map (·.2) = assign (.Subscript (.Name x px) i1 p1) X.env :: (assignEach [.Subscript (.Name x px2) i2 p2] X.env).map (·.2) := by rfl)
    (hc2 : (assignEach [.Subscript (.Name x px2) i2 p2] X.env).map (·.2) = assign (.Subscript (.Name x px2) i2 p2) X.env :: (assignEach [] X.env).map (·.2) := by rfl) :
    QS X (.Assign [.Tuple [.Subscript (.Name x px) i1 p1, .Subscript (.Name x px2) i2 p2] kt pt] (.Tuple [e1, e2] k2 pt2) pos) (wSwap n W1 W2 Wi Wj) := fun p =>
  PS.le (ps_asg (pe_tup (pa_cons (h1 p) (pa_cons (h2 p) pa_nil hs2) hs1)) (pg_tup hc (pgs_cons (pg_sub (pe_var hi hv hd hcd) (hi1 p) set_list ha1) (pgs_cons (pg_sub (pe_var hi hv hd hcd) (hi2 p) set_list ha2) pgs_nil hc2) hc1) hn hst) hs hw ha) fun D σ H ⟨B, env, b, E, R, w, f⟩ => by
    unfold wSwap at w
    split at w
    · rename_i ds ho
      refine ⟨B, env, b, _, R, w, fun v H1 d b1 R1 e1 f1 w1 => ⟨B, env, b1, _, R1, w1, fun v' H2 d' b2 R2 e2 f2 w2 => ⟨by show 2 ≤ sizeLine; decide, fun t ht => ?_⟩⟩⟩
      have sm := same_new (o := .tup [v, v']) ht
      have R2' := R2.same sm
      have f1' := (f1.ext e2 R.bpa).ext (.same sm) R.bpa
      have f2' := f2.ext (.same sm) R.bpa
      refine ⟨t, [v, v'], rfl, .of upd_same, rfl, v, [v'], rfl, ?_⟩
      obtain ⟨q, xs, g1, g2, g3, g4⟩ := put_step R2' ho
      refine ⟨.ref q, g1, B, env, b2, _, R2', w2, fun u H3 kd b3 R3 e3 f3 w3 => ?_⟩
      obtain ⟨q', xs', g1', g2', g3', g4'⟩ := put_step R3 ho
      rw [g1] at g1'
      have eq' : q = q' := by simpa using g1'
      subst eq'
      cases f3 <;> try exact w3.elim
      dsimp only at w3
      split at w3
      · rename_i k j hj
        refine ⟨q, xs', _, j, rfl, rfl, g2', by rw [g3']; exact hj, ?_⟩
        obtain ⟨R4, k4⟩ := R3.put ho g1 (g4'.set (f1'.ext e3 R.bpa) j) (xs := xs')
        have hnl : n < env.length := (List.getElem?_eq_some_iff.mp ho).1
        have ho4 : (env.set n (.own (ds.set j d)))[n]? = some (.own (ds.set j d)) := List.getElem?_set_self hnl
        refine ⟨v', [], rfl, .ref q, g1, B, _, b3, _, R4, w3, fun u5 H5 kd5 b5 R5 e5 f5 w5 => ?_⟩
        obtain ⟨q6, xs6, g16, g26, g36, g46⟩ := put_step R5 ho4
        rw [g1] at g16
        have eq6 : q = q6 := by simpa using g16
        subst eq6
        cases f5 <;> try exact w5.elim
        dsimp only at w5
        split at w5
        · rename_i k' j' hj'
          refine ⟨q, xs6, _, j', rfl, rfl, g26, by rw [g36, List.length_set]; exact hj', rfl, ?_⟩
          have k04 := ((((R.ext_kp e1).trans (R1.ext_kp e2)).trans (R2.ext_kp (.same sm))).trans (R2'.ext_kp e3)).trans k4
          obtain ⟨R7, k7⟩ := R5.put ho4 g1 (g46.set (f2'.kp (((R2'.ext_kp e3).trans k4).trans (R4.ext_kp e5))) j') (xs := xs6)
          rw [List.set_set] at R7
          exact f.nx σ _ B _ b5 R7 ((k04.trans (R4.ext_kp e5)).trans k7) w5
        · exact w5.elim
      · exact w3.elim
    · exact w.elim
end
end En
/-! The engine, part 6: walks, loops, comprehensions, defs. -/
namespace En
open PySem PySem.Spec PyProof.Rows L2
/-! ### targets -/
inductive Tg where | one (i : Nat) | tup (is : List Nat)
def setAll : List Nat → List D → Env → Option Env
  | [], [], env => some env
  | i :: is, d :: ds, env => setAll is ds (env.set i (.v d))
  | _, _, _ => none
def setTg : Tg → D → Env → Option Env
  | .one i, d, env => some (env.set i (.v d))
  | .tup is, .tup ds, env => setAll is ds env
  | .tup _, _, _ => none
def Tg.ixs : Tg → List Nat | .one i => [i] | .tup is => is
/-- the reading fits the pure target -/
def TgOk (X : Cx) (T : Tg) (g : TG) : Prop := ∀ (p : Pm) (v : V) (d : D) (σ : L2.St) (H : Hp) (B : Addr → Prop) (env env' : Env) (b : Nat) (Q : L2.St → Hp → Prop), Rel X.K X.mg p B H σ env b → FR X.K X.mg p.pa B H v d → setTg T d env = some env' → X.N.length = env.length →
  (∀ σ', Rel X.K X.mg p B H σ' env' b → (∀ vs : List Nat, (∀ i ∈ T.ixs, i ∈ vs) → wipe σ' vs = wipe σ vs) → Q σ' H) → g v σ H Q
def QG (X : Cx) (tg : Expr) (T : Tg) : Prop := ∃ g, PG X tg g ∧ TgOk X T g
theorem wipe_set {σ : L2.St} {i : Nat} {o : Option V} : ∀ {vs : List Nat}, i ∈ vs → wipe (σ.set i o) vs = wipe σ vs
  | [], h => by simp at h
  | v :: vs, h => by
    unfold wipe
    by_cases z : v = i
    · subst z
      by_cases hv : v ∈ vs
      · rw [wipe_set hv]
      · have e : ∀ (vs : List Nat), v ∉ vs → wipe (σ.set v o) vs = (wipe σ vs).set v o := by
          intro vs
          induction vs with
          | nil => intro _; rfl
          | cons a r ih =>
            intro h
            have h1 : v ≠ a := fun z => h (by rw [z]; exact List.mem_cons_self)
            unfold wipe
            rw [ih fun z => h (List.mem_cons_of_mem _ z), List.set_comm _ _ h1]
        rw [e vs hv, List.set_set]
    · have hv : i ∈ vs := by
        rcases List.mem_cons.mp h with z' | z'
        · exact absurd z'.symm z
        · exact z'
      rw [wipe_set hv]
section
variable {X : Cx} {x y : Str} {pos px py : Pos}
theorem qg_name (i : Nat) (hN : X.N.Nodup) (hi : X.N[i]? = some x) (hx : Loc X.env.scope x) (hf : X.fn x = true ∨ X.env.scope.names.lookup x = some .local := by first | exact .inl rfl | exact .inr rfl | assumption) : QG X (.Name x pos) (.one i) :=
  ⟨gName i, pg_name hN hi hx hf, fun p v d σ H B env env' b Q R f h hl k => by
    simp only [setTg, Option.some.injEq] at h
    subst h
    exact k _ (R.setv (by rw [← hl]; exact (List.getElem?_eq_some_iff.mp hi).1) f) fun vs hv => wipe_set (hv i (by simp [Tg.ixs]))⟩
/-- the targets of a tuple -/
def QGs (X : Cx) (ts : List Expr) (is : List Nat) : Prop := ∃ g, PGs X ts g ∧ ∀ (p : Pm) (vs : List V) (ds : List D) (σ : L2.St) (H : Hp) (B : Addr → Prop) (env env' : Env) (b : Nat) (Q : L2.St → Hp → Prop), Rel X.K X.mg p B H σ env b → FRs X.K X.mg p.pa B H vs ds → setAll is ds env = some env' → X.N.length = env.length →
  (∀ σ', Rel X.K X.mg p B H σ' env' b → (∀ ws : List Nat, (∀ i ∈ is, i ∈ ws) → wipe σ' ws = wipe σ ws) → Q σ' H) → g vs σ H Q
theorem qgs_nil : QGs X [] [] := ⟨gNil, pgs_nil, fun p vs ds σ H B env env' b Q R f h hl k => by
  cases ds with
  | nil =>
    cases f
    simp only [setAll, Option.some.injEq] at h
    subst h
    exact ⟨rfl, k σ R fun _ _ => rfl⟩
  | cons a r => simp [setAll] at h⟩
theorem qgs_cons {e : Expr} {es : List Expr} {i : Nat} {is : List Nat} (h1 : QG X e (.one i)) (h2 : QGs X es is) (hs : (assignEach (e :: es) X.env).map (·.2) = assign e X.env :: (assignEach es X.env).map (·.2) := by rfl) : QGs X (e :: es) (i :: is) := by
  obtain ⟨g1, p1, k1⟩ := h1
  obtain ⟨g2, p2, k2⟩ := h2
  refine ⟨gCons g1 g2, pgs_cons p1 p2 hs, fun p vs ds σ H B env env' b Q R f h hl k => ?_⟩
  cases ds with
  | nil => simp [setAll] at h
  | cons d r =>
    cases f with
    | cons f1 f2 =>
      simp only [setAll] at h
      refine ⟨_, _, rfl, k1 p _ d σ H B env _ b _ R f1 rfl hl fun σ1 R1 hw1 => ?_⟩
      refine k2 p _ r σ1 H B _ env' b Q R1 f2 h (by rw [List.length_set]; exact hl) fun σ2 R2 hw2 => ?_
      exact k σ2 R2 fun ws hws => (hw2 ws fun j hj => hws j (List.mem_cons_of_mem _ hj)).trans (hw1 ws fun j hj => hws j (by simp [Tg.ixs] at hj; subst hj; exact List.mem_cons_self))
theorem qg_tup {es : List Expr} {k : Nat} {is : List Nat} (hc : X.calm = true) (h : QGs X es is) (hn : (assignEach es X.env).length = is.length := by rfl) (hst : (assignEach es X.env).findIdx? (·.1) = none := by rfl) : QG X (.Tuple es k pos) (.tup is) := by
  obtain ⟨g, pg, kk⟩ := h
  refine ⟨gTup X.K is.length g, pg_tup hc pg hn hst, fun p v d σ H B env env' b Q R f h hl k => ?_⟩
  cases f with
  | tup t r =>
    simp only [setTg] at h
    have hlen : ∀ (is : List Nat) (ds : List D) (env : Env), setAll is ds env = some env' → ds.length = is.length := by
      intro is
      induction is with
      | nil => intro ds env h; cases ds with | nil => rfl | cons a r => simp [setAll] at h
      | cons i is ih => intro ds env h; cases ds with
        | nil => simp [setAll] at h
        | cons a r => simp only [setAll] at h; simp [ih r _ h]
    exact ⟨_, _, rfl, t.sq, by rw [r.length]; exact hlen is _ env h, kk p _ _ σ H B env env' b Q R r h hl fun σ' R' hw => k σ' R' hw⟩
  | _ => simp [setTg] at h
end
/-! ### what is walked -/
/-- J walks ds, as long as what is not in B stays -/
def Walk (K : PySem.W.Frag) (mg : Str → Option Value) (pa : Addr) (J : It) (B1 : Addr → Prop) (H1 : Hp) (ds : List D) : Prop := ∀ B H, Kp B1 H1 B H → (∀ a, B a → H a ≠ none) →
  (∀ i d, ds[i]? = some d → J.go i H ∧ ∀ x H', J.yld i H x H' → Same H H' ∧ FR K mg pa B H' x d) ∧ J.stop ds.length H
def QI (X : Cx) (tg it : Expr) (W : WL) : Prop := ∀ p, ∃ wi, PI X tg it wi ∧ ∀ σ H R, (∃ B env b Qd, Rel X.K X.mg p B H σ env b ∧ W env b Qd ∧
  ∀ J H1 ds b', Rel X.K X.mg p B H1 σ env b' → Ext p.pa H H1 → Walk X.K X.mg p.pa J B H1 ds → Qd ds b' → R J H1) → wi σ H R
section
variable {X : Cx} {tg it : Expr}
theorem PI.or {w1 w2 : TI} (h1 : PI X tg it w1) (h2 : PI X tg it w2) : PI X tg it (fun σ H R => w1 σ H R ∨ w2 σ H R) := ⟨fun pins s σ H R I h => by
  rcases h with h | h
  · exact h1.run pins s σ H R I h
  · exact h2.run pins s σ H R I h⟩
theorem PI.le {w1 w2 : TI} (h1 : PI X tg it w1) (m : ∀ σ H R, w2 σ H R → w1 σ H R) : PI X tg it w2 := ⟨fun pins s σ H R I h => h1.run pins s σ H R I (m _ _ _ h)⟩
theorem sqL_inj {K : PySem.W.Frag} {H : Hp} {a : Addr} {xs : List V} {v : V} {i : Nat} (h : SqL K H a xs) {J : ∀ ys, SqL K H a ys → ys[i]? = some v} : xs[i]? = some v := J xs h
theorem walk_lst {K : PySem.W.Frag} {mg : Str → Option Value} {pa : Addr} {B1 : Addr → Prop} {H1 : Hp} {a : Addr} {xs : List V} {ds : List D} (h : H1 a = some (.lst xs)) (n : ¬ B1 a) (r : FRs K mg pa B1 H1 xs ds) : Walk K mg pa (Itl K a) B1 H1 ds := fun B H k _ => by
  have h2 := (k a _ h n).1
  have r2 := r.kp k
  refine ⟨fun i d hd => ?_, ⟨xs, .of h2, by rw [r2.length]; exact Nat.le_refl _⟩⟩
  obtain ⟨v, h3, h4⟩ := r2.get hd
  refine ⟨⟨xs, v, .of h2, h3⟩, fun x H' y => ?_⟩
  obtain ⟨e, y⟩ := y
  subst e
  have := y xs (.of h2)
  rw [h3] at this
  cases this
  exact ⟨.refl _, h4⟩
theorem walk_tup {K : PySem.W.Frag} {mg : Str → Option Value} {pa : Addr} {B1 : Addr → Prop} {H1 : Hp} {a : Addr} {xs : List V} {ds : List D} (h : TupR K B1 H1 a xs) (r : FRs K mg pa B1 H1 xs ds) : Walk K mg pa (Itt K a) B1 H1 ds := fun B H k _ => by
  have h2 := (h.kp k).sq
  have r2 := r.kp k
  refine ⟨fun i d hd => ?_, ⟨xs, h2, by rw [r2.length]; exact Nat.le_refl _⟩⟩
  obtain ⟨v, h3, h4⟩ := r2.get hd
  refine ⟨⟨xs, v, h2, h3⟩, fun x H' y => ?_⟩
  obtain ⟨e, y⟩ := y
  subst e
  have := y xs h2
  rw [h3] at this
  cases this
  exact ⟨.refl _, h4⟩
def wSeqOf (W : WE) : WL := fun env b Q => W env b fun d b1 => match d with | .tup ds => Q ds b1 | .lst ds => Q ds b1 | _ => False
def iSeq (K : PySem.W.Frag) (tl : TE) : TI := fun σ H R => tl σ H fun x H1 => ∃ a, x = .ref a ∧ ((∃ xs, SqL K H1 a xs ∧ R (Itl K a) H1) ∨ (∃ xs, SqT K H1 a xs ∧ R (Itt K a) H1))
theorem pi_seq {l : Expr} {tl : TE} (hl : PE X l tl) : PI X tg l (iSeq X.K tl) := by
  refine ⟨fun pins s σ H R I h => ?_⟩
  refine thn (hl.run pins s σ H _ I h) fun v s1 ⟨x, H1, I1, r1, q1⟩ => ?_
  obtain ⟨a, e, q⟩ := q1
  subst e
  cases r1
  have fp : ∀ b ∈ [s1.heap.objs.size], FpOk X pins H1 b := fun b hb => by
    have e : b = s1.heap.objs.size := by simpa using hb
    subst e
    exact I1.fpOk (Nat.le_refl _) (I1.hok.fresh (Nat.le_refl _))
  rcases q with ⟨xs, hq, q⟩ | ⟨xs, hq, q⟩
  · obtain ⟨its, rv, p, hz⟩ := I1.list hq
    refine wpAny_pyIter_list p.isList ?_
    exact ⟨s1.heap.objs.size, [s1.heap.objs.size], _, _, H1, rfl, I1.kept (t' := s1.toks) fun b o e => Heap.get?_push_of_some _ e, turn_list a _, ⟨_, Heap.get?_push_size _ rfl, rfl, rfl⟩, fp, q⟩
  · obtain ⟨its, rv, p, hz⟩ := I1.tuple hq
    refine wpAny_pyIter_tuple (show s1.heap.IsTuple a its.toArray from p) ?_
    exact ⟨s1.heap.objs.size, [s1.heap.objs.size], _, _, H1, rfl, I1.kept (t' := s1.toks) fun b o e => Heap.get?_push_of_some _ e, turn_tuple a _, ⟨_, Heap.get?_push_size _ rfl, rfl, rfl⟩, fp, q⟩
theorem qi_seq {W : WE} (h : QE X it W) : QI X tg it (wSeqOf W) := fun p => ⟨_, pi_seq (h p), fun σ H R ⟨B, env, b, Qd, Rl, w, k⟩ => by
  refine ⟨B, env, b, _, Rl, w, fun v H1 d b1 R1 e1 f1 q => ?_⟩
  cases f1 <;> try exact q.elim
  · rename_i t r
    exact ⟨_, rfl, .inr ⟨_, t.sq, k _ H1 _ b1 R1 e1 (walk_tup t r) q⟩⟩
  · rename_i hh n r
    exact ⟨_, rfl, .inl ⟨_, .of hh, k _ H1 _ b1 R1 e1 (walk_lst hh n r) q⟩⟩⟩
/-- range -/
def rangeD (lo : Int) (n : Nat) : List D := (List.range n).map fun (i : Nat) => D.int (lo + i)
theorem walk_rng {K : PySem.W.Frag} {mg : Str → Option Value} {pa : Addr} {B1 : Addr → Prop} {H1 : Hp} {lo : Int} {n : Nat} : Walk K mg pa (Itr lo n) B1 H1 (rangeD lo n) := fun B H k _ => by
  refine ⟨fun i d hd => ?_, by simp [rangeD, Itr]⟩
  have hi : i < n := by
    have := (List.getElem?_eq_some_iff.mp hd).1
    simpa [rangeD] using this
  refine ⟨hi, fun x H' y => ?_⟩
  obtain ⟨e, rfl⟩ := y
  subst e
  have : d = .int (lo + i) := by
    simp [rangeD, hi] at hd
    exact hd.symm
  subst this
  exact ⟨.refl _, .int _⟩
def wRng1 (W : WL) : WL := fun env b Q => W env b fun ds b1 => match ds with | [.int j] => (-(2 ^ 62) ≤ j ∧ j < 2 ^ 62) ∧ Q (rangeD 0 j.toNat) b1 | _ => False
def wRng2 (W : WL) : WL := fun env b Q => W env b fun ds b1 => match ds with | [.int i, .int j] => (-(2 ^ 62) ≤ i ∧ i < 2 ^ 62 ∧ -(2 ^ 62) ≤ j ∧ j < 2 ^ 62) ∧ Q (rangeD i (j - i).toNat) b1 | _ => False
section
variable {a c : Expr} {W : WL} {pp pos : Pos}
theorem qi_range1 (hg : Gl X "range") (hm : X.mg "range" = none) (h : QA X [a] W) (hs : starEach [a] X.env = [(false, eval a X.env)] := by rfl) : QI X tg (.Call (.Name "range" pp) [a] [] pos) (wRng1 W) := fun p => ⟨_, pi_range1 hg hm (h p) hs, fun σ H R ⟨B, env, b, Qd, Rl, w, k⟩ => by
  refine ⟨B, env, b, _, Rl, w, fun vs H1 ds b1 R1 e1 f1 hl q => ?_⟩
  split at q
  · cases f1 with
    | cons f2 f3 =>
      cases f2
      cases f3
      exact ⟨_, rfl, q.1.1, q.1.2, k _ H1 _ b1 R1 e1 walk_rng q.2⟩
  · exact q.elim⟩
theorem qi_range2 (hg : Gl X "range") (hm : X.mg "range" = none) (h : QA X [a, c] W) (hs : starEach [a, c] X.env = [(false, eval a X.env), (false, eval c X.env)] := by rfl) (hs2 : starEach [c] X.env = [(false, eval c X.env)] := by rfl) : QI X tg (.Call (.Name "range" pp) [a, c] [] pos) (wRng2 W) := fun p => ⟨_, pi_range2 hg hm (h p) hs hs2, fun σ H R ⟨B, env, b, Qd, Rl, w, k⟩ => by
  refine ⟨B, env, b, _, Rl, w, fun vs H1 ds b1 R1 e1 f1 hl q => ?_⟩
  split at q
  · cases f1 with
    | cons f2 f3 =>
      cases f2
      cases f3 with
      | cons f4 f5 =>
        cases f4
        cases f5
        exact ⟨_, _, rfl, q.1, k _ H1 _ b1 R1 e1 walk_rng q.2⟩
  · exact q.elim⟩
end
end
/-! ### loops -/
def forL (T : Tg) (W : WS) : List D → Ens → Env → Nat → Prop
  | [], E, env, b => E.nx env b
  | d :: r, E, env, b => match setTg T d env with
    | some env1 => W { nx := fun e b => forL T W r E e b, ct := fun e b => forL T W r E e b, bk := E.nx, rt := E.rt } env1 b
    | none => False
def wFor (T : Tg) (WI : WL) (W : WS) : WS := fun E env b => WI env b fun ds b1 => forL T W ds E env b1
def whL (C : WT) (W : WS) (E : Ens) : Nat → Env → Nat → Prop
  | 0, _, _ => False
  | n + 1, env, b => C env b fun c b1 => wIf c (W { nx := fun e b => whL C W E n e b, ct := fun e b => whL C W E n e b, bk := E.nx, rt := E.rt } env b1) (E.nx env b1)
def wWhile (C : WT) (W : WS) : WS := fun E env b => ∃ n, whL C W E n env b
section
variable {X : Cx} {tg it : Expr} {body : List Stmt} {T : Tg} {WI : WL} {W : WS} {C : WT} {pos : Pos}
theorem qs_for (hp : PassesOwn (model X.prog X.w) X.A X.env X.xe) (hc : X.calm = true) (hi : QI X tg it WI) (hg : QG X tg T) (hb : QSs X body W) (hs : ∀ x, foldedSetIterable it X.env x = pure x := by intro _; rfl) : QS X (.For tg it body [] pos) (wFor T WI W) := fun p => by
  obtain ⟨wi, pi, ki⟩ := hi p
  obtain ⟨g, pg, kg⟩ := hg
  refine ⟨fun pins s σ H D I ⟨B, env, b, E, R, w, f⟩ => (ps_for hp hc pi pg (hb p) hs).run pins s σ H D I ?_⟩
  have hlen : X.N.length = env.length := by rw [R.len]; exact I.len.symm
  refine ki σ H _ ⟨B, env, b, _, R, w, fun J H1 ds b1 R1 e1 wk q => ?_⟩
  have f1 := f.kp (R.ext_kp e1)
  refine ⟨fun i m σ H => m = ds.length - i ∧ i ≤ ds.length ∧ ∃ B' env b, Rel X.K X.mg p B' H σ env b ∧ Kp B H1 B' H ∧ forL T W (ds.drop i) E env b, ⟨ds.length, rfl, Nat.zero_le _, B, env, b1, R1, .refl _ _, q⟩, ?_⟩
  rintro i m σ2 H2 ⟨rfl, hi, B2, env2, b2, R2, k2, q2⟩
  obtain ⟨w1, w2⟩ := wk B2 H2 k2 R2.trk
  by_cases hlt : i < ds.length
  · have hd : ds[i]? = some ds[i] := List.getElem?_eq_getElem hlt
    rw [List.drop_eq_getElem_cons hlt] at q2
    simp only [forL] at q2
    obtain ⟨g1, g2⟩ := w1 i _ hd
    refine .inr ⟨g1, fun σ' H' => ∃ B' env b, Rel X.K X.mg p B' H' σ' env b ∧ Kp B H1 B' H' ∧ forL T W (ds.drop (i + 1)) E env b, fun σ' H' h => ⟨ds.length - (i + 1), by omega, rfl, hlt, h⟩, fun x H' y => ?_⟩
    obtain ⟨sm, fx⟩ := g2 x H' y
    split at q2
    · rename_i env3 he
      have R3 := R2.same sm
      have k3 := k2.trans (R2.ext_kp (.same sm))
      refine kg p x _ σ2 H' B2 env2 env3 b2 _ R3 fx he (by rw [hlen, R.nl, R2.nl]) fun σ4 R4 _ => ?_
      refine ⟨B2, env3, b2, _, R4, q2, ⟨fun σ5 H5 B5 env5 b5 R5 k5 q5 => ?_, fun σ5 H5 B5 env5 b5 R5 k5 q5 => f1.nx σ5 H5 B5 env5 b5 R5 (k3.trans k5) q5, fun σ5 H5 B5 env5 b5 R5 k5 q5 => ?_, f1.rt⟩⟩
      · exact ⟨B5, env5, b5, R5, k3.trans k5, q5⟩
      · exact ⟨B5, env5, b5, R5, k3.trans k5, q5⟩
    · exact q2.elim
  · have e : i = ds.length := by omega
    subst e
    rw [List.drop_length] at q2
    exact .inl ⟨w2, f1.nx σ2 H2 B2 env2 b2 R2 k2 q2⟩
theorem qs_while {t : Expr} (hp : PassesOwn (model X.prog X.w) X.A X.env X.xe) (ht : QT X t C) (hb : QSs X body W) : QS X (.While t body [] pos) (wWhile C W) := fun p => PS.le (ps_while hp (ht p) (hb p)) fun D σ H ⟨B, env, b, E, R, w, f⟩ => by
  obtain ⟨n, w⟩ := w
  refine ⟨fun m σ' H' => ∃ B' env b, Rel X.K X.mg p B' H' σ' env b ∧ Kp B H B' H' ∧ whL C W E m env b, ⟨n, B, env, b, R, .refl _ _, w⟩, ?_⟩
  rintro m σ2 H2 ⟨B2, env2, b2, R2, k2, q2⟩
  cases m with
  | zero => exact q2.elim
  | succ m =>
    refine ⟨B2, env2, b2, _, R2, q2, fun c H3 b3 R3 e3 q3 => wIf_ite ?_⟩
    have k3 := k2.trans (R2.ext_kp e3)
    cases c with
    | true =>
      exact ⟨fun σ' H' => ∃ B' env b, Rel X.K X.mg p B' H' σ' env b ∧ Kp B H B' H' ∧ whL C W E m env b, fun σ' H' h => ⟨m, Nat.lt_succ_self _, h⟩, B2, env2, b3, _, R3, q3,
        ⟨fun σ5 H5 B5 env5 b5 R5 k5 q5 => ⟨B5, env5, b5, R5, k3.trans k5, q5⟩, fun σ5 H5 B5 env5 b5 R5 k5 q5 => f.nx σ5 H5 B5 env5 b5 R5 (k3.trans k5) q5, fun σ5 H5 B5 env5 b5 R5 k5 q5 => ⟨B5, env5, b5, R5, k3.trans k5, q5⟩, f.rt⟩⟩
    | false => exact f.nx σ2 H3 B2 env2 b3 R3 k3 q3
end
/-! ### comprehensions -/
def wYes : WT := fun _ b Q => Q true b
def QTs (X : Cx) (ifs : List Expr) (C : WT) : Prop := ∀ p, PTs X ifs (tT X.K X.mg p C)
theorem PTs.le {X : Cx} {e : List Expr} {t t' : TT} (h : PTs X e t) (m : ∀ σ H Q, t' σ H Q → t σ H Q) : PTs X e t' := ⟨fun pins s σ H Q I hw => h.run pins s σ H Q I (m _ _ _ hw)⟩
theorem qts_nil {X : Cx} : QTs X [] wYes := fun p => PTs.le pts_nil fun σ H Q ⟨B, env, b, Qd, R, w, k⟩ => k true H b R (.refl _ _) w
theorem qts_one {X : Cx} {c : Expr} {C : WT} (h : QT X c C) : QTs X [c] C := fun p => pts_one (h p)
def cmpL (T : Tg) (C : WT) (We : WE) (env0 : Env) : List D → Nat → (List D → Nat → Prop) → Prop
  | [], b, Q => Q [] b
  | d :: r, b, Q => match setTg T d env0 with
    | some env1 => C env1 b fun c b1 => wIf c (We env1 b1 fun x b2 => cmpL T C We env0 r b2 fun xs b3 => Q (x :: xs) b3) (cmpL T C We env0 r b1 Q)
    | none => False
def wComp (vs : List Nat) (T : Tg) (WI : WL) (C : WT) (We : WE) : WL := fun env b Q => WI env b fun ds b1 => ds.length < 1000000 ∧ cmpL T C We (wipeE env vs) ds b1 Q
section
variable {X : Cx} {tg it elt : Expr} {ifs : List Expr} {T : Tg} {WI : WL} {C : WT} {We : WE} {scope : Scope} {own : List (Str × Nat)} {pos spos py : Pos} {y : Str}
/-- the comprehension's reading from the pure one -/
theorem comp_le {p : Pm} {wi : TI} {g : TG} (ki : ∀ σ H R, (∃ B env b Qd, Rel X.K X.mg p B H σ env b ∧ WI env b Qd ∧ ∀ J H1 ds b', Rel X.K X.mg p B H1 σ env b' → Ext p.pa H H1 → Walk X.K X.mg p.pa J B H1 ds → Qd ds b' → R J H1) → wi σ H R)
    (kg : TgOk X T g) (hsub : ∀ i ∈ T.ixs, i ∈ own.map (·.2)) {σ : L2.St} {H : Hp} {Q : VK} (hl : σ.length = X.N.length) (h : tFr X.K X.mg p (wComp (own.map (·.2)) T WI C We) σ H Q) : tLc wi g (tT X.K X.mg p C) (tOf X.K X.mg p We) (own.map (·.2)) σ H Q := by
  obtain ⟨B, env, b, Qd, R, w, k⟩ := h
  refine ki σ H _ ⟨B, env, b, _, R, w, fun J H1 ds b1 R1 e1 wk q => ?_⟩
  obtain ⟨hsz, q⟩ := q
  have hline := line_ge
  intro D hD
  have hD0 : H D = none := fresh_back R1 e1 hD
  have nB : ¬ B D := fun z => R1.trk D z hD
  -- the state of the walk
  let Inv' : Nat → Hp → Prop := fun i H' => ∃ acc dacc b' Qr, H' D = some (.lst acc) ∧ FRs X.K X.mg p.pa (fun a => B a ∨ a = D) H' acc dacc ∧ Ext p.pa H1 H' ∧ PenOk p.pa p.ca H' b' ∧ acc.length ≤ i ∧
    cmpL T C We (wipeE env (own.map (·.2))) (ds.drop i) b' Qr ∧ ∀ xs b2, Qr xs b2 → Qd (dacc ++ xs) b2
  have relM : ∀ {H' : Hp} {b' : Nat}, H' D ≠ none → Ext p.pa H1 H' → PenOk p.pa p.ca H' b' → Rel X.K X.mg p (fun a => B a ∨ a = D) H' σ env b' := fun h1 h2 h3 => R1.stepM hD h1 h2 h3
  have kpD : ∀ {H' : Hp}, H' D ≠ none → Ext p.pa H1 H' → Kp B H1 (fun a => B a ∨ a = D) H' := fun h1 h2 a o ha na => ⟨(R1.ext_kp h2 a o ha na).1, fun z => z.elim na (ne_of_none ha hD)⟩
  refine ⟨fun i m H' => m = ds.length - i ∧ i ≤ ds.length ∧ Inv' i H', ⟨ds.length, rfl, Nat.zero_le _, [], [], b1, Qd, upd_same, .nil, .same (same_new hD), R1.pen.same (same_new hD), Nat.le_refl _, q, fun xs b2 h => h⟩, ?_⟩
  rintro i m H2 ⟨rfl, hi, acc, dacc, b2, Qr, hacc, facc, ext2, pen2, hai, q2, hQ⟩
  have nD : H2 D ≠ none := by rw [hacc]; simp
  have RM := relM nD ext2 pen2
  obtain ⟨w1, w2⟩ := wk _ H2 (kpD nD ext2) RM.trk
  by_cases hlt : i < ds.length
  · have hd : ds[i]? = some ds[i] := List.getElem?_eq_getElem hlt
    rw [List.drop_eq_getElem_cons hlt] at q2
    simp only [cmpL] at q2
    obtain ⟨g1, g2⟩ := w1 i _ hd
    refine .inr ⟨g1, Inv' (i + 1), fun H' h => ⟨ds.length - (i + 1), by omega, rfl, hlt, h⟩, fun x H' yy => ?_⟩
    obtain ⟨sm, fx⟩ := g2 x H' yy
    split at q2
    · rename_i env1 he
      have RM' := RM.same sm
      have RW := RM'.wipe (own.map (·.2))
      refine kg p x _ _ H' _ _ env1 b2 _ RW fx he (by rw [← hl, ← R.len, RW.nl, R.nl]) fun σ4 R4 hw => ?_
      refine ⟨?_, _, env1, b2, _, R4, q2, fun c H5 b5 R5 e5 q5 => ?_⟩
      · have e1 := hw (own.map (·.2)) hsub
        rw [e1]
        -- wiping twice is wiping once
        have idem : ∀ (vs : List Nat), wipe (wipe σ vs) vs = wipe σ vs := by
          have put : ∀ (vs : List Nat) (τ : L2.St) (i : Nat), i ∈ vs → wipe (τ.set i none) vs = wipe τ vs := fun vs τ i h => wipe_set h
          have many : ∀ (us vs : List Nat), (∀ u ∈ us, u ∈ vs) → wipe (wipe σ us) vs = wipe σ vs := by
            intro us
            induction us with
            | nil => intro vs _; rfl
            | cons u us ih =>
              intro vs h
              show wipe ((wipe σ us).set u none) vs = _
              rw [put vs _ u (h u List.mem_cons_self)]
              exact ih vs fun a ha => h a (List.mem_cons_of_mem _ ha)
          exact fun vs => many vs vs fun _ h => h
        exact idem _
      · have ext5 : Ext p.pa H1 H5 := (ext2.trans (.same sm)).trans e5
        have hacc5 : H5 D = some (.lst acc) := e5 _ _ (sm _ _ hacc) (R4.pen.ne (sm _ _ hacc))
        have facc5 := (facc.ext (.same sm) RM.bpa).ext e5 RM.bpa
        refine wIf_ite ?_
        cases c with
        | true =>
          refine ⟨_, env1, b5, _, R5, q5, fun v6 H6 d6 b6 R6 e6 f6 q6 => ?_⟩
          have hacc6 : H6 D = some (.lst acc) := e6 _ _ hacc5 (R5.pen.ne hacc5)
          have facc6 := facc5.ext e6 RM.bpa
          refine ⟨acc, hacc6, by omega, acc ++ [v6], dacc ++ [d6], b6, _, upd_same, ?_, ?_, ?_, by simp; omega, q6, fun xs b7 h => ?_⟩
          · refine (facc6.append (.cons f6 .nil)).kp fun a o ha na => ⟨by rw [upd_ne (fun z => na (.inr z))]; exact ha, na⟩
          · intro a o ha na
            rw [upd_ne (fun z => by rw [z, hD] at ha; cases ha)]
            exact (ext5.trans e6) a o ha na
          · have nDp : D ≠ p.pa := fun z => nB (z ▸ R.bpa)
            have nDc : D ≠ p.ca := fun z => nB (z ▸ R.sub _ R.oca)
            exact R6.pen.put nDp nDc
          · have := hQ _ _ h
            simpa using this
        | false =>
          exact ⟨acc, dacc, b5, Qr, hacc5, facc5, ext5, R5.pen, by omega, q5, hQ⟩
    · exact q2.elim
  · have e : i = ds.length := by omega
    subst e
    rw [List.drop_length] at q2
    simp only [cmpL] at q2
    have := hQ _ _ q2
    rw [List.append_nil] at this
    exact .inl ⟨w2, k D acc H2 dacc b2 (R1.step ext2 pen2) RM (e1.trans ext2) hacc facc nB hD0 this⟩
theorem qf_comp (hc : X.calm = true) (hN : X.N.Nodup) (hi : QI X tg it WI) (ok : BlkOk X.N X.env.scope scope own) (hsub : ∀ i ∈ T.ixs, i ∈ own.map (·.2))
    (hg : ∃ g, (∀ (s : Shared) (H : Hp) (C' : Addr) (cl : List (Str × Addr)) (fp : List Addr), PG (X.blk s H scope (compEnvC scope cl C' X.env) fp) tg g) ∧ TgOk X T g)
    (ht : ∀ (s : Shared) (H : Hp) (C' : Addr) (cl : List (Str × Addr)) (fp : List Addr), QTs (X.blk s H scope (compEnvC scope cl C' X.env) fp) ifs C) (he : ∀ (s : Shared) (H : Hp) (C' : Addr) (cl : List (Str × Addr)) (fp : List Addr), QE (X.blk s H scope (compEnvC scope cl C' X.env) fp) elt We)
    (hs : ∀ x, foldedSetIterable it X.env x = pure x := by intro _; rfl) : QF X (.ListComp elt [⟨tg, it, ifs, 0⟩] scope pos) (wComp (own.map (·.2)) T WI C We) := fun p => by
  obtain ⟨wi, pi, ki⟩ := hi p
  obtain ⟨g, pg, kg⟩ := hg
  have base := pe_lc (own := own) (te := tOf X.K X.mg p We) (tt := tT X.K X.mg p C) hc hN pi ok pg (fun s H C' cl fp => ht s H C' cl fp p) (fun s H C' cl fp => he s H C' cl fp p) hs (pos := pos)
  exact ⟨fun pins s σ H Q I h => base.run pins s σ H Q I (comp_le ki kg hsub I.len h)⟩
/-- name = [..], the name a plain local -/
theorem qs_setComp (i : Nat) (hc : X.calm = true) (hN : X.N.Nodup) (hy : X.N[i]? = some y) (hyl : X.env.scope.names.lookup y = some .local) (hsw : swapsWith (.ListComp elt [⟨tg, it, ifs, 0⟩] scope pos) (some (.Name y py)) spos.line X.env = pure true)
    (hi : QI X tg it WI) (ok : BlkOk X.N X.env.scope scope own) (hsub : ∀ i ∈ T.ixs, i ∈ own.map (·.2))
    (hg : ∃ g, (∀ (s : Shared) (H : Hp) (C' : Addr) (cl : List (Str × Addr)) (fp : List Addr), PG (X.blk s H scope (compEnvC scope cl C' X.env) fp) tg g) ∧ TgOk X T g)
    (ht : ∀ (s : Shared) (H : Hp) (C' : Addr) (cl : List (Str × Addr)) (fp : List Addr), QTs (X.blk s H scope (compEnvC scope cl C' X.env) fp) ifs C) (he : ∀ (s : Shared) (H : Hp) (C' : Addr) (cl : List (Str × Addr)) (fp : List Addr), QE (X.blk s H scope (compEnvC scope cl C' X.env) fp) elt We)
    (hs : ∀ x, foldedSetIterable it X.env x = pure x := by intro _; rfl) : QS X (.Assign [.Name y py] (.ListComp elt [⟨tg, it, ifs, 0⟩] scope pos) spos) (wSetO i (wComp (own.map (·.2)) T WI C We)) := fun p => by
  obtain ⟨wi, pi, ki⟩ := hi p
  obtain ⟨g, pg, kg⟩ := hg
  have base := ps_setLc (own := own) (te := tOf X.K X.mg p We) (tt := tT X.K X.mg p C) hc hN hy hyl hsw pi ok pg (fun s H C' cl fp => ht s H C' cl fp p) (fun s H C' cl fp => he s H C' cl fp p) hs
  refine ⟨fun pins s σ H D I ⟨B, env, b, E, R, w, f⟩ => base.run pins s σ H D I (comp_le (T := T) (WI := WI) (C := C) (We := We) (Q := fun x H1 => gName i x σ H1 D.nx) ki kg hsub I.len ⟨B, env, b, _, R, w, fun q xs H1 ds b1 R1 R2 e1 hq fq nB n q' => ?_⟩)⟩
  exact f.nx _ H1 _ _ b1 (R2.seto (B0 := B) R1 (len_of I.len R1 hy) hq fq nB (R.new0 n)) (fun a o ha na => ⟨(R.ext_kp e1 a o ha na).1, fun z => z.elim na (ne_of_none ha n)⟩) q'
end
end En
/-! The engine, part 7: enumerate, zip, defs by their bodies, objects made. -/
namespace En
open PySem PySem.Spec PyProof.Rows L2
/-! ### enumerate, zip -/
def enumD (n : Nat) : List D → List D
  | [] => []
  | d :: r => .tup [.int (n : Nat), d] :: enumD (n + 1) r
theorem enumD_get : ∀ (ds : List D) (n i : Nat) (d : D), (enumD n ds)[i]? = some d → ∃ x, ds[i]? = some x ∧ d = .tup [.int ((n + i : Nat) : Int), x]
  | [], _, _, _, h => by simp [enumD] at h
  | x :: r, n, 0, d, h => by
    simp [enumD] at h
    exact ⟨x, rfl, by simp [← h]⟩
  | x :: r, n, i + 1, d, h => by
    obtain ⟨y, h1, h2⟩ := enumD_get r (n + 1) i d (by simpa [enumD] using h)
    exact ⟨y, by simpa using h1, by rw [h2]; congr 3; omega⟩
theorem enumD_length : ∀ (ds : List D) (n : Nat), (enumD n ds).length = ds.length
  | [], _ => rfl
  | _ :: r, n => by simp [enumD, enumD_length r (n + 1)]
def zipD : List D → List D → List D
  | a :: r, b :: s => .tup [a, b] :: zipD r s
  | _, _ => []
theorem zipD_get : ∀ (xs ys : List D) (i : Nat) (d : D), (zipD xs ys)[i]? = some d → ∃ x y, xs[i]? = some x ∧ ys[i]? = some y ∧ d = .tup [x, y]
  | [], _, _, _, h => by simp [zipD] at h
  | _ :: _, [], _, _, h => by simp [zipD] at h
  | a :: r, b :: s, 0, d, h => by
    simp [zipD] at h
    exact ⟨a, b, rfl, rfl, h.symm⟩
  | a :: r, b :: s, i + 1, d, h => by
    obtain ⟨x, y, h1, h2, h3⟩ := zipD_get r s i d (by simpa [zipD] using h)
    exact ⟨x, y, by simpa using h1, by simpa using h2, h3⟩
theorem zipD_length : ∀ (xs ys : List D), (zipD xs ys).length = min xs.length ys.length
  | [], _ => by simp [zipD]
  | _ :: _, [] => by simp [zipD]
  | a :: r, b :: s => by
    simp only [zipD, List.length_cons, zipD_length r s]
    omega
theorem FRs.fn {K : PySem.W.Frag} {mg : Str → Option Value} {pa : Addr} {B : Addr → Prop} {H : Hp} {vs : List V} {ds : List D} {i : Nat} {d : D} {v : V} (r : FRs K mg pa B H vs ds) (hd : ds[i]? = some d) (hv : vs[i]? = some v) : FR K mg pa B H v d := by
  obtain ⟨v', h1, h2⟩ := r.get hd
  rw [hv] at h1
  cases h1
  exact h2
theorem same_kp {B : Addr → Prop} {H H' : Hp} (s : Same H H') : Kp B H B H' := fun a o h n => ⟨s a o h, n⟩
theorem walk_enum {K : PySem.W.Frag} {mg : Str → Option Value} {pa : Addr} {B1 : Addr → Prop} {H1 : Hp} {a : Addr} {xs : List V} {ds : List D} (h : H1 a = some (.lst xs)) (n : ¬ B1 a) (r : FRs K mg pa B1 H1 xs ds) : Walk K mg pa (Ite K a) B1 H1 (enumD 0 ds) := fun B H k tr => by
  have h2 := (k a _ h n).1
  have r2 := r.kp k
  refine ⟨fun i d hd => ?_, ⟨xs, .of h2, by rw [r2.length, enumD_length]; exact Nat.le_refl _⟩⟩
  obtain ⟨x, h3, rfl⟩ := enumD_get ds 0 i d hd
  obtain ⟨v, h4, h5⟩ := r2.get h3
  refine ⟨⟨xs, v, .of h2, h4⟩, fun u H' y => ?_⟩
  obtain ⟨T, w, rfl, hT, rfl, hw⟩ := y
  have := hw xs (.of h2)
  rw [h4] at this
  cases this
  have s := same_new (o := .tup [.int (i : Nat), v]) hT
  refine ⟨s, .tup (.inl ⟨upd_same, fun z => tr T z hT⟩) (.cons ?_ (.cons (h5.kp (same_kp s)) .nil))⟩
  rw [Nat.zero_add]
  exact .int _
theorem walk_zipL {K : PySem.W.Frag} {mg : Str → Option Value} {pa : Addr} {B1 : Addr → Prop} {H1 : Hp} {a b : Addr} {xs ys : List V} {ds es : List D} (h : H1 a = some (.lst xs)) (n : ¬ B1 a) (r : FRs K mg pa B1 H1 xs ds) (h' : H1 b = some (.lst ys)) (n' : ¬ B1 b) (r' : FRs K mg pa B1 H1 ys es) : Walk K mg pa (Itz K a b) B1 H1 (zipD ds es) := fun B H k tr => by
  have h2 := (k a _ h n).1
  have r2 := r.kp k
  have h2' := (k b _ h' n').1
  have r2' := r'.kp k
  refine ⟨fun i d hd => ?_, ⟨xs, ys, .of h2, .of h2', by rw [r2.length, r2'.length, zipD_length]; omega⟩⟩
  obtain ⟨x, y, h3, h3', rfl⟩ := zipD_get ds es i d hd
  obtain ⟨v, h4, h5⟩ := r2.get h3
  obtain ⟨v', h4', h5'⟩ := r2'.get h3'
  refine ⟨⟨xs, ys, v, v', .of h2, .of h2', h4, h4'⟩, fun u H' y => ?_⟩
  obtain ⟨T, w, w', rfl, hT, rfl, hw, hw'⟩ := y
  have e1 := hw xs (.of h2)
  rw [h4] at e1
  cases e1
  have e2 := hw' ys (.of h2')
  rw [h4'] at e2
  cases e2
  have s := same_new (o := .tup [v, v']) hT
  exact ⟨s, .tup (.inl ⟨upd_same, fun z => tr T z hT⟩) (.cons (h5.kp (same_kp s)) (.cons (h5'.kp (same_kp s)) .nil))⟩
theorem walk_zipT {K : PySem.W.Frag} {mg : Str → Option Value} {pa : Addr} {B1 : Addr → Prop} {H1 : Hp} {a b : Addr} {xs ys : List V} {ds es : List D} (h : TupR K B1 H1 a xs) (r : FRs K mg pa B1 H1 xs ds) (h' : TupR K B1 H1 b ys) (r' : FRs K mg pa B1 H1 ys es) : Walk K mg pa (RZ.ItzT K a b) B1 H1 (zipD ds es) := fun B H k tr => by
  have h2 := (h.kp k).sq
  have r2 := r.kp k
  have h2' := (h'.kp k).sq
  have r2' := r'.kp k
  refine ⟨fun i d hd => ?_, ⟨xs, ys, h2, h2', by rw [r2.length, r2'.length, zipD_length]; omega⟩⟩
  obtain ⟨x, y, h3, h3', rfl⟩ := zipD_get ds es i d hd
  obtain ⟨v, h4, h5⟩ := r2.get h3
  obtain ⟨v', h4', h5'⟩ := r2'.get h3'
  refine ⟨⟨xs, ys, v, v', h2, h2', h4, h4'⟩, fun u H' y => ?_⟩
  obtain ⟨T, w, w', rfl, hT, rfl, hw, hw'⟩ := y
  have e1 := hw xs h2
  rw [h4] at e1
  cases e1
  have e2 := hw' ys h2'
  rw [h4'] at e2
  cases e2
  have s := same_new (o := .tup [v, v']) hT
  exact ⟨s, .tup (.inl ⟨upd_same, fun z => tr T z hT⟩) (.cons (h5.kp (same_kp s)) (.cons (h5'.kp (same_kp s)) .nil))⟩
def wEnum (W : WL) : WL := fun env b Q => W env b fun ds b1 => match ds with | [.lst xs] => Q (enumD 0 xs) b1 | _ => False
def wZip (W : WL) : WL := fun env b Q => W env b fun ds b1 => match ds with | [.lst xs, .lst ys] => Q (zipD xs ys) b1 | [.tup xs, .tup ys] => Q (zipD xs ys) b1 | _ => False
section
variable {X : Cx} {a c : Expr} {W : WL} {pp pos tpos : Pos} {elts : List Expr} {kk : Nat}
theorem qi_enum (hg : Gl X "enumerate") (hm : X.mg "enumerate" = none) (h : QA X [a] W) (hs : starEach [a] X.env = [(false, eval a X.env)] := by rfl) : QI X (.Tuple elts kk tpos) (.Call (.Name "enumerate" pp) [a] [] pos) (wEnum W) := fun p => ⟨_, pi_enum hg hm (h p) hs, fun σ H R ⟨B, env, b, Qd, Rl, w, k⟩ => by
  refine ⟨B, env, b, _, Rl, w, fun vs H1 ds b1 R1 e1 f1 hl q => ?_⟩
  split at q
  · cases f1 with
    | cons f2 f3 =>
      cases f3
      cases f2 with
      | lst hh n r => exact ⟨_, _, rfl, .of hh, k _ H1 _ b1 R1 e1 (walk_enum hh n r) q⟩
  · exact q.elim⟩
theorem qi_zip (hg : Gl X "zip") (hm : X.mg "zip" = none) (h : QA X [a, c] W) (hs : starEach [a, c] X.env = (false, eval a X.env) :: starEach [c] X.env := by rfl) (hpl : (backTo pos (starEach [c] X.env)).any (·.1) = false := by rfl) :
    QI X (.Tuple elts kk tpos) (.Call (.Name "zip" pp) [a, c] [] pos) (wZip W) := fun p => ⟨_, RZ.pi_zipA hg hm (h p) hs hpl, fun σ H R ⟨B, env, b, Qd, Rl, w, k⟩ => by
  refine ⟨B, env, b, _, Rl, w, fun vs H1 ds b1 R1 e1 f1 hl q => ?_⟩
  split at q
  · cases f1 with
    | cons f2 f3 =>
      cases f3 with
      | cons f4 f5 =>
        cases f5
        cases f2 with
        | lst hh n r =>
          cases f4 with
          | lst hh' n' r' => exact ⟨_, _, _, _, rfl, .inl ⟨.of hh, .of hh', k _ H1 _ b1 R1 e1 (walk_zipL hh n r hh' n' r') q⟩⟩
  · cases f1 with
    | cons f2 f3 =>
      cases f3 with
      | cons f4 f5 =>
        cases f5
        cases f2 with
        | tup t r =>
          cases f4 with
          | tup t' r' => exact ⟨_, _, _, _, rfl, .inr ⟨t.sq, t'.sq, k _ H1 _ b1 R1 e1 (walk_zipT t r t' r') q⟩⟩
  · exact q.elim⟩
end
/-! ### the target of a comprehension -/
section
variable {X : Cx} {x y : Str} {px py pos : Pos} {scope : Scope}
theorem tgOk_name {i : Nat} (hi : X.N[i]? = some x) : TgOk X (.one i) (gName i) := fun p v d σ H B env env' b Q R f h hl k => by
  simp only [setTg, Option.some.injEq] at h
  subst h
  exact k _ (R.setv (by rw [← hl]; exact (List.getElem?_eq_some_iff.mp hi).1) f) fun vs hv => wipe_set (hv i (by simp [Tg.ixs]))
theorem hg_name (i : Nat) (hN : X.N.Nodup) (hi : X.N[i]? = some x) (hx : ∀ (C' : Addr) (cl : List (Str × Addr)), Loc (compEnvC scope cl C' X.env).scope x := by intro _ _; first | exact Or.inl rfl | exact Or.inr rfl)
    (hf : (∀ (s : Shared) (H : Hp) (C' : Addr) (cl : List (Str × Addr)) (fp : List Addr), (X.blk s H scope (compEnvC scope cl C' X.env) fp).fn x = true ∨ (X.blk s H scope (compEnvC scope cl C' X.env) fp).env.scope.names.lookup x = some .local) := by intro _ _ _ _ _; first | exact .inl rfl | exact .inr rfl) :
    ∃ g, (∀ (s : Shared) (H : Hp) (C' : Addr) (cl : List (Str × Addr)) (fp : List Addr), PG (X.blk s H scope (compEnvC scope cl C' X.env) fp) (.Name x pos) g) ∧ TgOk X (.one i) g :=
  ⟨gName i, fun s H C' cl fp => pg_name (X := X.blk s H scope (compEnvC scope cl C' X.env) fp) hN hi (hx C' cl) (hf s H C' cl fp), tgOk_name hi⟩
theorem hg_pair (i j : Nat) {kk : Nat} (hc : X.calm = true) (hN : X.N.Nodup) (hi : X.N[i]? = some x) (hj : X.N[j]? = some y) (hx : ∀ (C' : Addr) (cl : List (Str × Addr)), Loc (compEnvC scope cl C' X.env).scope x := by intro _ _; first | exact Or.inl rfl | exact Or.inr rfl)
    (hy : ∀ (C' : Addr) (cl : List (Str × Addr)), Loc (compEnvC scope cl C' X.env).scope y := by intro _ _; first | exact Or.inl rfl | exact Or.inr rfl)
    (hf : (∀ (s : Shared) (H : Hp) (C' : Addr) (cl : List (Str × Addr)) (fp : List Addr), (X.blk s H scope (compEnvC scope cl C' X.env) fp).fn x = true ∨ (X.blk s H scope (compEnvC scope cl C' X.env) fp).env.scope.names.lookup x = some .local) := by intro _ _ _ _ _; first | exact .inl rfl | exact .inr rfl)
    (hf2 : (∀ (s : Shared) (H : Hp) (C' : Addr) (cl : List (Str × Addr)) (fp : List Addr), (X.blk s H scope (compEnvC scope cl C' X.env) fp).fn y = true ∨ (X.blk s H scope (compEnvC scope cl C' X.env) fp).env.scope.names.lookup y = some .local) := by intro _ _ _ _ _; first | exact .inl rfl | exact .inr rfl) :
    ∃ g, (∀ (s : Shared) (H : Hp) (C' : Addr) (cl : List (Str × Addr)) (fp : List Addr), PG (X.blk s H scope (compEnvC scope cl C' X.env) fp) (.Tuple [.Name x px, .Name y py] kk pos) g) ∧ TgOk X (.tup [i, j]) g := by
  refine ⟨gTup X.K 2 (gCons (gName i) (gCons (gName j) gNil)), fun s H C' cl fp => pg_tup (X := X.blk s H scope (compEnvC scope cl C' X.env) fp) hc (pgs_cons (pg_name hN hi (hx C' cl) (hf s H C' cl fp)) (pgs_cons (pg_name hN hj (hy C' cl) (hf2 s H C' cl fp)) pgs_nil)), ?_⟩
  intro p v d σ H B env env' b Q R f h hl k
  cases f with
  | tup t r =>
    simp only [setTg] at h
    rename_i a xs ds
    match ds, h, r with
    | [d1, d2], h, r =>
      simp only [setAll, Option.some.injEq] at h
      subst h
      cases r with
      | cons r1 r2 =>
        cases r2 with
        | cons r3 r4 =>
          cases r4
          refine ⟨_, _, rfl, t.sq, rfl, _, _, rfl, _, _, rfl, rfl, ?_⟩
          have li : i < env.length := by rw [← hl]; exact (List.getElem?_eq_some_iff.mp hi).1
          have lj : j < (env.set i (.v d1)).length := by rw [List.length_set, ← hl]; exact (List.getElem?_eq_some_iff.mp hj).1
          refine k _ ((R.setv li r1).setv lj r3) fun vs hv => ?_
          rw [wipe_set (hv j (by simp [Tg.ixs])), wipe_set (hv i (by simp [Tg.ixs]))]
    | [], h, _ => simp [setAll] at h
    | [_], h, _ => simp [setAll] at h
    | _ :: _ :: _ :: _, h, _ => simp [setAll] at h
  | _ => simp [setTg] at h
end
/-! ### a def by its body -/
section
variable {P : Program} {w : World} {K : PySem.W.Frag} {mg : Str → Option Value} {base : Heap}
theorem start_rel {pa ca : Addr} {B : Addr → Prop} {H : Hp} {vs : List V} {ds : List D} {N : List Str} {n b : Nat} (hl : vs.length = n) (hN : n ≤ N.length) (trk : ∀ a, B a → H a ≠ none) (bpa : B pa) (bca : B ca) (po : PenOk pa ca H b) (f : FRs K mg pa B H vs ds) :
    Rel K mg ⟨pa, ca, B, H, N.length⟩ B H (L2.start N vs) (ds.map Slot.v ++ List.replicate (N.length - n) .un) b := by
  have e := f.length
  refine ⟨fun _ h => h, trk, bpa, bca, po, .refl _ _, by simp [L2.start, ← e, hl], by simp [← e, hl]; omega, fun i s h => ?_⟩
  by_cases hi : i < ds.length
  · rw [List.getElem?_append_left (by simpa using hi), List.getElem?_map, List.getElem?_eq_getElem hi] at h
    simp at h
    subst h
    obtain ⟨v, h1, h2⟩ := f.get (List.getElem?_eq_getElem hi)
    refine ⟨v, ?_, h2⟩
    unfold L2.start
    rw [List.getElem?_append_left (by simp [e]; exact hi), List.getElem?_map, h1]
    rfl
  · rw [List.getElem?_append_right (by simpa using hi), List.getElem?_replicate] at h
    split at h <;> simp at h
    subst h
    trivial
theorem pre_len {N ps : List Str} {sc : Scope} (S : FnScope N ps sc) : ps.length ≤ N.length := by
  have := congrArg List.length S.pre
  rw [List.length_take] at this
  omega
theorem df_of {x qual : Str} {st : Stmt} {f : Addr} {fd : FuncData} {N ps : List Str} {k : Nat} {pt : Spec} {W : WS} (F : Fun K x qual st f fd) (S : FnScope N ps (defScope st)) (hm : mg x = some (.ref f)) (bd : Binds K fd ps [])
    (hb : ∀ (cdv : Value) (A : Around) (outer : List PySem.Env) (s : Shared) (H : Hp) (E : XK), Room k (A.deeper (envOfC qual (defScope st) s.heap.objs.size f cdv)) → QSs (cxOf CX0 P w K mg base N qual (defScope st) f cdv A outer s H E).nox (defBody st) W)
    (hp : ∀ ds b Q, ds.length = ps.length → pt ds b Q → W { nx := fun _ b' => Q .non b', rt := Q } (ds.map Slot.v ++ List.replicate (N.length - ps.length) .un) b) : Df P w K mg base (k + 1) x ps.length pt := by
  refine ⟨f, fd, ps, hm, F.kp, bd, rfl, F.ok S (fun vs H Q E h => h.1) fun cdv A outer s H vs Q E hr h => ?_⟩
  obtain ⟨hl, pa, ca, B, ds, b, Qd, trk, bpa, bca, po, fr, q, kk⟩ := h
  refine ⟨_, hb cdv A outer s H E hr ⟨pa, ca, B, H, N.length⟩, ?_⟩
  have e := fr.length
  refine ⟨B, _, b, _, start_rel hl (pre_len S) trk bpa bca po fr, hp ds b Qd (by rw [← e, hl]) q, ⟨fun σ' H' B' env' b' R' k' q' => kk .non H' .non b' R'.ext R'.pen .non q', fun _ _ _ _ _ _ _ z => z.elim, fun _ _ _ _ _ _ _ z => z.elim, fun v H' d b' f' e' po' q' => kk v H' d b' e' po' f' q'⟩⟩
end
/-! ### objects: made by C(..), the fields stored one after another -/
def cpD : D → D
  | .lst ds => .tup ds
  | d => d
/-- no objects among them -/
def noObj (ds : List D) : Bool := ds.all fun d => d.ty.isSome
def spInit (K : PySem.W.Frag) (mg : Str → Option Value) (C : Addr) (fs : List Str) : Sp := fun vs H Q _ => vs.length = fs.length + 1 ∧ ∃ x dx pa ca B ds b rest, vs = .ref x :: rest ∧ noObj ds = true ∧ H x = some (.ins C dx []) ∧ x ≠ pa ∧ x ≠ ca ∧ ¬ B x ∧ (∀ a, B a → H a ≠ none) ∧ B pa ∧ B ca ∧ PenOk pa ca H b ∧ FRs K mg pa (fun a => B a ∨ a = x) H rest ds ∧
  ∀ H' ws b', (∀ a o, H a = some o → a ≠ x → a ≠ pa → H' a = some o) → PenOk pa ca H' b → H' x = some (.ins C dx (fs.zip ws)) → FRs K mg pa B H' ws (ds.map cpD) → b' = b → Q .non H'
structure MkOk (P : Program) (w : World) (K : PySem.W.Frag) (mg : Str → Option Value) (base : Heap) (k : Nat) (c : Str) (fs : List Str) : Prop where
  ex : ∃ (C f : Addr) (fd : FuncData) (ps : List Str), mg c = some (.ref C) ∧ Mk K C f ∧ ClsF K C ∧ (∀ f ∈ fs, NoAttr K C f) ∧ Binds K fd ps [] ∧ ps.length = fs.length + 1 ∧ FnOk P w K mg base CX0 k f fd ps (spInit K mg C fs)
def wMake (c : Str) (fs : List Str) (W : WL) : WE := fun env b Q => W env b fun ds b1 => (decide (ds.length = fs.length) && noObj ds) = true ∧ Q (.ins c (fs.zip (ds.map cpD))) b1
theorem FRf.zip {K : PySem.W.Frag} {mg : Str → Option Value} {pa : Addr} {B : Addr → Prop} {H : Hp} : ∀ {fs : List Str} {ws : List V} {ds : List D}, FRs K mg pa B H ws ds → FRf K mg pa B H (fs.zip ws) (fs.zip ds)
  | [], _, _, _ => .nil
  | _ :: _, _, _, .nil => .nil
  | f :: fs, _, _, .cons h r => .cons h (FRf.zip r)
section
variable {X : Cx} {c : Str} {fs : List Str} {k : Nat} {e : Expr} {es : List Expr} {Ws : WL} {pos pp : Pos}
theorem qe_make (M : MkOk X.prog X.w X.K X.mg X.base k c fs) (hr : Room (k + 1) X.A) (hg : Gl X c) (ha : QA X (e :: es) Ws) (hdb : (c == ("__debug__" : Str)) = false := by decide)
    (he : starEach (e :: es) X.env = (false, eval e X.env) :: starEach es X.env := by rfl) (hpl : (backTo pos (starEach es X.env)).any (·.1) = false := by rfl) : QE X (.Call (.Name c pp) (e :: es) [] pos) (wMake c fs Ws) := fun p => by
  obtain ⟨C, f, fd, ps, hm, mk, cf, na, bd, hn, G⟩ := M.ex
  refine PE.le (pe_make (E := E0) mk G hr hg hm bd .nil pass0 (ha p) hdb he hpl) fun σ H Q ⟨B, env, b, Qd, R, w, kk⟩ => ?_
  refine ⟨B, env, b, _, R, w, fun vs H1 ds b1 R1 e1 f1 hl q => fun x dx nx nd ne => ?_⟩
  rw [List.append_nil]
  have hv := f1.length
  have qq := q.1
  rw [Bool.and_eq_true, decide_eq_true_eq] at qq
  have s1 : Same H1 (upd (upd H1 dx (.own x)) x (.ins C dx [])) := fun a o ho => by
    rw [upd_ne (ne_of_none ho nx), upd_ne (ne_of_none ho nd)]
    exact ho
  have nB : ¬ B x := fun z => R1.trk x z nx
  refine ⟨by simp [hv, qq.1], x, dx, p.pa, p.ca, B, ds, b1, vs, rfl, qq.2, upd_same, fun z => nB (z ▸ R1.bpa), fun z => nB (z ▸ R1.sub _ R1.oca), nB, fun a ha => ?_, R1.bpa, R1.sub _ R1.oca, R1.pen.same s1, f1.kp (fun a o ha na => ⟨s1 a o ha, fun z => z.elim na (ne_of_none ha nx)⟩), fun H' ws b' h1 h2 h3 h4 _ => ⟨rfl, ?_⟩⟩
  · have := R1.trk a ha
    cases hh : H1 a with
    | none => exact absurd hh this
    | some o => rw [s1 a o hh]; simp
  · have ext : Ext p.pa H1 H' := fun a o ho na => h1 a o (s1 a o ho) (ne_of_none ho nx) na
    refine kk (.ref x) H' _ b1 (R1.step ext h2) (e1.trans ext) (.ins hm cf (fun g hg => ?_) h3 nB (FRf.zip h4)) q.2
    exact na _ (List.of_mem_zip hg).1
end
/-! the making itself -/
def tI (K : PySem.W.Frag) (mg : Str → Option Value) (x C dx : Addr) (p : Pm) (W : (List (Str × D) → Nat → Prop) → Env → List (Str × D) → Nat → Prop) : TS := fun D σ H => ∃ B env gs fv b Qd, Rel K mg p B H σ env b ∧ B x ∧ p.H0 x = none ∧ x ≠ p.pa ∧ x ≠ p.ca ∧ H x = some (.ins C dx fv) ∧ FRf K mg p.pa B H fv gs ∧ σ[0]? = some (some (.ref x)) ∧ W Qd env gs b ∧
  ∀ H' fv' gs' b' B', Rel K mg p B' H' σ env b' → B' x → H' x = some (.ins C dx fv') → FRf K mg p.pa B' H' fv' gs' → Qd gs' b' → D.nx σ H'
abbrev WIn := (List (Str × D) → Nat → Prop) → Env → List (Str × D) → Nat → Prop
def wInF (f : Str) (W : WE) : WIn := fun Q env gs b => W env b fun d b' => (f ∉ gs.map (·.1) ∧ gs.length < 900) ∧ Q (gs ++ [(f, d)]) b'
def wInS (W1 W2 : WIn) : WIn := fun Q env gs b => W1 (fun gs' b' => W2 Q env gs' b') env gs b
theorem putF_new {f : Str} {v : V} : ∀ {fs : List (Str × V)}, f ∉ fs.map (·.1) → putF f v fs = fs ++ [(f, v)]
  | [], _ => rfl
  | (g, y) :: r, h => by
    have h1 : g ≠ f := fun z => h (by simp [z])
    have h2 : f ∉ r.map (·.1) := fun z => h (by simp only [List.map_cons, List.mem_cons]; exact .inr z)
    unfold putF
    rw [if_neg h1, putF_new h2]
    rfl
theorem FRf.keys {K : PySem.W.Frag} {mg : Str → Option Value} {pa : Addr} {B : Addr → Prop} {H : Hp} : ∀ {fs : List (Str × V)} {gs : List (Str × D)}, FRf K mg pa B H fs gs → fs.map (·.1) = gs.map (·.1)
  | _, _, .nil => rfl
  | _, _, .cons h r => by simp [FRf.keys r]
theorem FRf.app {K : PySem.W.Frag} {mg : Str → Option Value} {pa : Addr} {B : Addr → Prop} {H : Hp} {f : Str} {v : V} {d : D} (h : FR K mg pa B H v d) : ∀ {fs : List (Str × V)} {gs : List (Str × D)}, FRf K mg pa B H fs gs → FRf K mg pa B H (fs ++ [(f, v)]) (gs ++ [(f, d)])
  | _, _, .nil => .cons h .nil
  | _, _, .cons h' r => .cons h' (FRf.app h r)
section
variable {X : Cx} {e : Expr} {We : WE} {pos pos' ps : Pos} {f self : Str} {x C dx : Addr} {p : Pm}
theorem ps_in (h : QE X e We) (hi : X.N[0]? = some self) (hv : Vis X.env.scope self) (cl : Cls X.K C) (na : NoAttr X.K C f) (hs : swapsWith e (some (.Attribute (.Name self ps) f pos')) pos.line X.env = pure false := by rfl) (hd : (self == ("__debug__" : Str)) = false := by decide) (hcd : (self == ("__classdict__" : Str)) = false := by decide) :
    PS X (.Assign [.Attribute (.Name self ps) f pos'] e pos) (tI X.K X.mg x C dx p (wInF f We)) := PS.le (ps_fld (pe_var hi hv hd hcd) (h p) hs) fun D σ H ⟨B, env, gs, fv, b, Qd, R, bx, n0, np, nc, hx, ff, h0, w, kk⟩ => by
  refine ⟨B, env, b, _, R, w, fun v H1 d b1 R1 e1 f1 q => ⟨.ref x, h0, x, C, dx, fv, rfl, e1 _ _ hx np, cl, na, ?_, ?_⟩⟩
  · have h1 := congrArg List.length ff.keys
    simp only [List.length_map] at h1
    have := q.1.2
    omega
  · have hx1 := e1 _ _ hx np
    have ff1 := ff.kp (R.ext_kp e1)
    have hn : f ∉ fv.map (·.1) := by rw [ff.keys]; exact q.1.1
    have kp : Kp B H1 B (upd H1 x (.ins C dx (putF f v fv))) := fun a o ha n => ⟨by rw [upd_ne (fun z => n (by rw [z]; exact bx))]; exact ha, n⟩
    refine kk _ (putF f v fv) (gs ++ [(f, d)]) b1 B ⟨R1.sub, fun a ha => ?_, R1.opa, R1.oca, R1.pen.put np nc, fun a o ha na' => ?_, R1.len, R1.nl, fun i s hs => ?_⟩ bx upd_same ?_ q.2
    · by_cases z : a = x
      · rw [z, upd_same]; simp
      · rw [upd_ne z]; exact R1.trk a ha
    · rw [upd_ne (fun z => by rw [z, n0] at ha; cases ha)]
      exact R1.ext a o ha na'
    · have hq := R1.slots i s hs
      cases s with
      | un => trivial
      | v d' =>
        obtain ⟨u, g1, g2⟩ := hq
        exact ⟨u, g1, g2.kp kp⟩
      | own ds =>
        obtain ⟨a, ys, g1, g2, g3, g4⟩ := hq
        exact ⟨a, ys, g1, by rw [upd_ne (fun z => by rw [z, hx1] at g2; cases g2)]; exact g2, g3.kp kp, g4⟩
    · have g1 := FRf.app (f := f) (f1.kp kp) (ff1.kp kp)
      rw [← putF_new hn] at g1
      exact g1
theorem pss_in {st : Stmt} {sts : List Stmt} {W1 W2 : WIn} (h1 : PS X st (tI X.K X.mg x C dx p W1)) (h2 : PSs X sts (tI X.K X.mg x C dx p W2)) : PSs X (st :: sts) (tI X.K X.mg x C dx p (wInS W1 W2)) := PSs.le (pss_cons h1 h2) fun D σ H ⟨B, env, gs, fv, b, Qd, R, bx, n0, np, nc, hx, ff, h0, w, kk⟩ =>
  ⟨B, env, gs, fv, b, _, R, bx, n0, np, nc, hx, ff, h0, w, fun H' fv' gs' b' B' R' bx' hx' ff' q => ⟨B', env, gs', fv', b', Qd, R', bx', n0, np, nc, hx', ff', h0, q, kk⟩⟩
end
section
variable {P : Program} {w : World} {K : PySem.W.Frag} {mg : Str → Option Value} {base : Heap}
theorem mk_of {c qual : Str} {st : Stmt} {C f : Addr} {fd : FuncData} {N ps fs : List Str} {k : Nat} {W : WIn} (F : Fun K "__init__" qual st f fd) (S : FnScope N ps (defScope st)) (hm : mg c = some (.ref C)) (mk : Mk K C f) (cf : ClsF K C) (na : ∀ f ∈ fs, NoAttr K C f) (bd : Binds K fd ps []) (hps : ps.length = fs.length + 1)
    (hb : ∀ (cdv : Value) (A : Around) (outer : List PySem.Env) (s : Shared) (H : Hp) (E : XK) (x dx : Addr) (p : Pm), Room k (A.deeper (envOfC qual (defScope st) s.heap.objs.size f cdv)) → PSs (cxOf CX0 P w K mg base N qual (defScope st) f cdv A outer s H E).nox (defBody st) (tI K mg x C dx p W))
    (hp : ∀ (ds : List D) (b : Nat), ds.length = fs.length → noObj ds = true → W (fun gs b' => gs = fs.zip (ds.map cpD) ∧ b' = b) (.un :: ds.map Slot.v ++ List.replicate (N.length - ps.length) .un) [] b) : MkOk P w K mg base (k + 1) c fs := by
  refine ⟨C, f, fd, ps, hm, mk, cf, na, bd, hps, F.ok S (fun vs H Q E h => by rw [h.1, hps]) fun cdv A outer s H vs Q E hr h => ?_⟩
  obtain ⟨hl, x, dx, pa, ca, B, ds, b, rest, rfl, hno, hx, np, nc, nB, trk, bpa, bca, po, fr, kk⟩ := h
  have hv := fr.length
  have hl' : rest.length = fs.length := by simpa using hl
  refine ⟨_, hb cdv A outer s H E x dx ⟨pa, ca, fun a => B a ∨ a = x, fun a => if a = x then none else H a, N.length⟩ hr, ?_⟩
  have base := start_rel (N := N) (n := ps.length) (vs := .ref x :: rest) (ds := .non :: ds) (K := K) (mg := mg) (pa := pa) (ca := ca) (B := fun a => B a ∨ a = x) (H := H) (b := b)
  have R0 : Rel K mg ⟨pa, ca, fun a => B a ∨ a = x, fun a => if a = x then none else H a, N.length⟩ (fun a => B a ∨ a = x) H (L2.start N (.ref x :: rest)) (.un :: ds.map Slot.v ++ List.replicate (N.length - ps.length) .un) b := by
    have hpl := pre_len S
    refine ⟨fun _ h => h, fun a ha => ?_, .inl bpa, .inl bca, po, fun a o ha na => ?_, ?_, ?_, fun i s h => ?_⟩
    · rcases ha with ha | ha
      · exact trk a ha
      · rw [ha, hx]; simp
    · dsimp only at ha
      split at ha
      · cases ha
      · exact ha
    · simp [L2.start, ← hv, hps, hl']
    · simp [← hv, hps, hl']; omega
    · cases i with
      | zero =>
        simp at h
        subst h
        trivial
      | succ i =>
        by_cases hi : i < ds.length
        · rw [List.cons_append, List.getElem?_cons_succ, List.getElem?_append_left (by simpa using hi), List.getElem?_map, List.getElem?_eq_getElem hi] at h
          simp at h
          subst h
          obtain ⟨v, h1, h2⟩ := fr.get (List.getElem?_eq_getElem hi)
          refine ⟨v, ?_, h2⟩
          unfold L2.start
          rw [List.map_cons, List.cons_append, List.getElem?_cons_succ, List.getElem?_append_left (by simp [hv]; exact hi), List.getElem?_map, h1]
          rfl
        · rw [List.cons_append, List.getElem?_cons_succ, List.getElem?_append_right (by simpa using hi), List.getElem?_replicate] at h
          split at h <;> simp at h
          subst h
          trivial
  refine ⟨_, _, [], [], b, _, R0, .inr rfl, if_pos rfl, np, nc, hx, .nil, by simp [L2.start], hp ds b (by rw [← hv, hl']) hno, fun H' fv' gs' b' B' R' bx' hx' ff' q => ?_⟩
  obtain ⟨q1, q2⟩ := q
  subst q1 q2
  -- the fields are there
  have split_ : ∀ (fs : List Str) (es : List D) (fv : List (Str × V)), fs.length = es.length → FRf K mg pa B' H' fv (fs.zip es) → ∃ ws, fv = fs.zip ws ∧ FRs K mg pa B' H' ws es := by
    intro fs
    induction fs with
    | nil =>
      intro es fv hlen h
      cases es with
      | nil =>
        cases h
        exact ⟨[], rfl, .nil⟩
      | cons a r => simp at hlen
    | cons g gs ih =>
      intro es fv hlen h
      cases es with
      | nil => simp at hlen
      | cons a r =>
        cases h with
        | cons h1 h2 =>
          obtain ⟨ws, e1, e2⟩ := ih r _ (by simpa using hlen) h2
          exact ⟨_ :: ws, by rw [e1]; rfl, .cons h1 e2⟩
  obtain ⟨ws, e1, e2⟩ := split_ fs (ds.map cpD) fv' (by simp [← hv, hl']) ff'
  refine kk H' ws b' (fun a o ha na nap => R'.ext a o (by show (if a = x then none else H a) = some o; rw [if_neg na]; exact ha) nap) R'.pen (by rw [hx', e1]) (e2.kp fun a o ha na => ⟨ha, fun z => na (R'.sub a (.inl z))⟩) rfl
end
end En
/-! The engine, part 8: slices by steps, sums of tuples and lists, repr of a bool, wide division, short names. -/
namespace En
open PySem PySem.Spec PyProof.Rows L2
/-! ### slices by a step -/
/-- the items of xs[lo:hi:st] -/
def cutStep {α : Type} (xs : List α) (lo hi : Option Int) (st : Int) : List α :=
  (List.range (Builtin.Slice.slicePlaces (Builtin.Slice.sliceAdjust lo hi st xs.length).1 (Builtin.Slice.sliceAdjust lo hi st xs.length).2 st)).filterMap fun (k : Nat) => xs[((Builtin.Slice.sliceAdjust lo hi st xs.length).1 + (k : Int) * st).toNat]?
section
variable {prog : Program} {w : World} {A : Around} {E : Value → Shared → Prop} {s : Shared}
theorem sliceApplied_step {sl : Addr} {vl vu vs : Value} {lo hi : Option Int} {c : Int} {n : Nat} {Q : Int × Int × Nat → Shared → Prop} (hs : s.heap.IsSliceOf sl vl vu vs) (pl : IsPart vl lo) (pu : IsPart vu hi) (ps : IsPart vs (some c)) (h0 : c ≠ 0)
    (h : Q ((Builtin.Slice.sliceAdjust lo hi c (n : Int)).1, c, Builtin.Slice.slicePlaces (Builtin.Slice.sliceAdjust lo hi c (n : Int)).1 (Builtin.Slice.sliceAdjust lo hi c (n : Int)).2 c) s) : wpAny (model prog w) A (Builtin.Slice.sliceApplied (.ref sl) (pure (n : Int))) Q E s := by
  obtain ⟨os, hos, hcs, hds⟩ := _root_.id hs
  unfold Builtin.Slice.sliceApplied Builtin.Slice.sliceFields
  refine wpAny_bind (wpAny_bind (wpAny_field hos hds (x := vl) rfl (wpAny_bind (wpAny_field hos hds (x := vu) rfl (wpAny_bind (wpAny_field hos hds (x := vs) rfl (wpAny_pure ?_)))))))
  refine wpAny_bind (HT.slicePart_ ps ?_)
  show wpAny _ _ (if ((c : Int) == 0) = true then _ else _) _ _ s
  rw [if_neg (by simpa using h0)]
  refine wpAny_bind (HT.slicePart_ pl (wpAny_bind (HT.slicePart_ pu (wpAny_bind (wpAny_pure ?_)))))
  show wpAny _ _ (match Builtin.Slice.sliceAdjust lo hi c (n : Int) with | (lo, hi) => pure (lo, (c : Int), Builtin.Slice.slicePlaces lo hi c)) _ _ s
  exact wpAny_pure h
theorem getItem_tuple_step {t sl : Addr} {items : Array Value} {vl vu vs : Value} {lo hi : Option Int} {c : Int} {Q : Value → Shared → Prop} (ht : IsTup s.heap t items) (hs : s.heap.IsSliceOf sl vl vu vs) (pl : IsPart vl lo) (pu : IsPart vu hi) (ps : IsPart vs (some c)) (h0 : c ≠ 0) (h1 : c ≠ 1)
    (h : Q (.ref s.heap.objs.size) { s with heap := s.heap.push { cls := .type "tuple", data := .seq (cutStep items.toList lo hi c).toArray } })
    (hsz : (cutStep items.toList lo hi c).length ≤ sizeLine) : wpAny (model prog w) A (getItem (.ref t) (.ref sl)) Q E s := by
  have htake : sizeOk (.seq (cutStep items.toList lo hi c).toArray) := by
    show (cutStep items.toList lo hi c).toArray.size ≤ sizeLine
    rw [List.size_toArray]
    exact hsz
  obtain ⟨os, hos, hcs, hds⟩ := _root_.id hs
  have hTs : s.TypeIs (.ref sl) "slice" := ⟨os, hos, hcs⟩
  unfold getItem
  try with_reducible refine wpAny_holding ?_
  first | refine wpAny_bind (wpAny_pure ?_) | skip
  refine wpAny_bind (wpAny_sequenceKey ht.typeIs (by decide) ?_)
  refine wpAny_bind (wpAny_callSpecial?_slot (name := Str.ofString "__getitem__") ht.typeIs PyProof.Rows.slot_tuple_getitem
    (wpAny_call_entry PyProof.Rows.slot_tuple_getitem ht.typeIs entry_tuple_getitem ?_ (args_tuple_getitem _ _)))
  show wpAny _ _ (Builtin.Tuple.tupleItemsOf (.ref t) >>= _) _ _ s
  refine wpAny_bind (tupleItemsOf_ ht ?_)
  refine wpAny_bind (wpAny_typeOf hTs ?_)
  rw [if_pos (by decide)]
  refine wpAny_bind (sliceApplied_step hs pl pu ps h0 ?_)
  have hno : ∀ (a : Int) (b : Bool), ¬ ((a == 0 && c == 1 && b) = true) := by
    intro a b q
    rw [Bool.and_eq_true, Bool.and_eq_true] at q
    exact h1 (eq_of_beq q.1.2)
  dsimp only
  refine wpAny_ite_false (decide_eq_false (hno _ _)) ?_
  have e : ((List.range (Builtin.Slice.slicePlaces (Builtin.Slice.sliceAdjust lo hi c (items.size : Int)).1 (Builtin.Slice.sliceAdjust lo hi c (items.size : Int)).2 c)).filterMap fun (k : Nat) => items[((Builtin.Slice.sliceAdjust lo hi c (items.size : Int)).1 + (k : Int) * c).toNat]?).toArray = (cutStep items.toList lo hi c).toArray := by
    unfold cutStep
    rw [Array.length_toList]
    simp only [Array.getElem?_toList]
  rw [e]
  first
    | exact wpAny_bind (m := Builtin.Tuple.tupleExact _) (wpAny_newObj_type (wpAny_pure ⟨_, rfl, wpAny_pure h⟩) htake)
    | exact wpAny_bind (m := Builtin.Tuple.tupleExact _) (wpAny_newObj_type (wpAny_bind (wpAny_pure (wpAny_pure ⟨_, rfl, wpAny_pure h⟩))) htake)
    | exact wpAny_bind (wpAny_bind (m := Builtin.Tuple.tupleExact _) (wpAny_newObj_type (wpAny_pure (wpAny_pure ⟨_, rfl, wpAny_pure h⟩)) htake))
    | exact wpAny_bind (wpAny_bind (m := Builtin.Tuple.tupleExact _) (wpAny_newObj_type (wpAny_pure ⟨_, rfl, wpAny_pure h⟩) htake))
end
theorem vals_filt {xs : List V} {us : List Value} (r : Vals xs us) (f : Nat → Nat) : ∀ (l : List Nat), Vals (l.filterMap fun k => xs[f k]?) (l.filterMap fun k => us[f k]?)
  | [] => .nil
  | k :: l => by
    rw [List.filterMap_cons, List.filterMap_cons]
    cases h : xs[f k]? with
    | none =>
      rw [r.none_of h]
      exact vals_filt r f l
    | some x =>
      obtain ⟨u, h1, h2⟩ := r.get h
      rw [h1]
      exact .cons h2 (vals_filt r f l)
theorem frs_filt {K : PySem.W.Frag} {mg : Str → Option Value} {pa : Addr} {B : Addr → Prop} {H : Hp} {xs : List V} {us : List D} (r : FRs K mg pa B H xs us) (f : Nat → Nat) : ∀ (l : List Nat), FRs K mg pa B H (l.filterMap fun k => xs[f k]?) (l.filterMap fun k => us[f k]?)
  | [] => .nil
  | k :: l => by
    rw [List.filterMap_cons, List.filterMap_cons]
    cases h : us[f k]? with
    | none =>
      have : xs[f k]? = none := by
        rw [List.getElem?_eq_none_iff] at h ⊢
        rw [r.length]
        exact h
      rw [this]
      exact frs_filt r f l
    | some x =>
      obtain ⟨u, h1, h2⟩ := r.get h
      rw [h1]
      exact .cons h2 (frs_filt r f l)
theorem filt_le {α : Type} {xs : List α} {f : Nat → Nat} : ∀ (l : List Nat), (l.filterMap fun k => xs[f k]?).length ≤ l.length := fun l => List.length_filterMap_le _ _
def dStep (st : Int) (d : D) (lo hi : Option Int) (Q : D → Prop) : Prop := match d with
  | .tup ds => (st ≠ 0 ∧ st ≠ 1 ∧ (cutStep ds lo hi st).length ≤ 1000000) ∧ Q (.tup (cutStep ds lo hi st))
  | _ => False
def wSls (W : WE) (Wl Wh Ws : WO) : WE := fun env b Q => W env b fun d b1 => Wl env b1 fun lo b2 => Wh env b2 fun hi b3 => Ws env b3 fun st b4 => match st with
  | some c => dStep c d lo hi fun r => Q r b4
  | none => False
section
variable {X : Cx} {e : Expr} {lo hi : Option Expr} {st : Expr} {W : WE} {Wl Wh Ws : WO} {pos p2 : Pos} {te : TE} {tl th tc : TO}
def rSlS (K : PySem.W.Frag) : V → Option Int → Option Int → Option Int → Hp → VK → Prop := fun x lo hi st H Q => ∃ a xs c, x = .ref a ∧ st = some c ∧ SqT K H a xs ∧ c ≠ 0 ∧ c ≠ 1 ∧ (cutStep xs lo hi c).length ≤ sizeLine ∧ ∀ p, H p = none → Q (.ref p) (upd H p (.tup (cutStep xs lo hi c)))
def tSls (K : PySem.W.Frag) (te : TE) (tl th tc : TO) : TE := fun σ H Q => te σ H fun x H1 => tl σ H1 fun l H2 => th σ H2 fun u H3 => tc σ H3 fun c H4 => rSlS K x l u c H4 Q
/-- t[lo:hi:step] of a tuple -/
theorem pe_slstep (he : PE X e te) (hl : PO X lo tl) (hu : PO X hi th) (hc : PO X (some st) tc) : PE X (.Subscript e (.Slice lo hi (some st) p2) pos) (tSls X.K te tl th tc) := by
  refine ⟨fun pins s σ H Q I h => ?_⟩
  refine Subscript_ (thn (he.run pins s σ H _ I h) fun v s1 ⟨x, H1, I1, r1, q1⟩ => ?_)
  refine wpAny_Slice (thn (hl.run pins s1 σ H1 _ I1 q1) fun vl s2 ⟨l, H2, I2, pl, q2⟩ => thn (hu.run pins s2 σ H2 _ I2 q2) fun vu s3 ⟨u, H3, I3, pu, q3⟩ => thn (hc.run pins s3 σ H3 _ I3 q3) fun vs s4 ⟨c', H4, I4, ps, q4⟩ => ?_)
  obtain ⟨a, xs, c, rfl, rfl, hT, h0, h1, hz, q⟩ := q4
  cases r1
  have I5 : Inv X pins σ H4 { s4 with heap := s4.heap.push { cls := .type "slice", data := .fields #[vl, vu, vs] } } := I4.kept (t' := s4.toks) fun b ob q => Heap.get?_push_of_some _ q
  obtain ⟨its, r, ht, hsz⟩ := I5.tuple hT
  have hlen : its.length = xs.length := r.length.symm
  show wpAny (model X.prog X.w) X.A (subscriptTail e (.Slice lo hi (some st) p2) (.ref a) (.ref s4.heap.objs.size)) (EP X pins σ Q) X.xe { s4 with heap := s4.heap.push { cls := .type "slice", data := .fields #[vl, vu, vs] } }
  have rc : Vals (cutStep xs l u c) (cutStep its l u c) := by
    unfold cutStep
    rw [hlen]
    exact vals_filt r _ _
  refine tail_any (ops := [.ref a, .ref s4.heap.objs.size]) ht.typeIs PyProof.Rows.slot_tuple_getitem.lookup ?_ (by rfl)
  refine getItem_tuple_step ht (Heap.IsSliceOf.new ..) pl pu ps h0 h1 ?_ (by rw [← rc.length]; exact hz)
  refine ⟨.ref _, _, I5.laid (t' := s4.toks) (o := .tup (cutStep xs l u c)) (fun b ob q => Heap.get?_push_of_some _ q) (Nat.le_refl _) ?_, rfl, q _ (I5.hok.fresh (Nat.le_refl _))⟩
  exact ⟨hz, _, rc, IsTup.new _ _⟩
theorem qe_sls (h : QB X e W) (hl : QO X lo Wl) (hh : QO X hi Wh) (hs : QO X (some st) Ws) : QE X (.Subscript e (.Slice lo hi (some st) p2) pos) (wSls W Wl Wh Ws) := fun p =>
  PE.le (pe_slstep (h p) (hl p) (hh p) (hs p)) fun σ H Q ⟨B, env, b, Qd, R, w, k⟩ => by
    have hl := line_ge
    refine ⟨B, env, b, _, R, w, fun v H1 d b1 R1 e1 f1 q => ⟨B, env, b1, _, R1, q, fun o1 H2 b2 R2 e2 q2 => ⟨B, env, b2, _, R2, q2, fun o2 H3 b3 R3 e3 q3 => ⟨B, env, b3, _, R3, q3, fun o3 H4 b4 R4 e4 q4 => ?_⟩⟩⟩⟩
    have f3 := ((f1.ext R1 e2).ext R2 e3).ext R3 e4
    cases o3 with
    | none => exact q4.elim
    | some c =>
      unfold dStep at q4
      cases d <;> try exact q4.elim
      obtain ⟨n, xs, rfl, h1, t1, r1⟩ := f3.tup
      have hlen := r1.length
      rename_i ds
      have rc : FRs X.K X.mg p.pa B H4 (cutStep xs o1 o2 c) (cutStep ds o1 o2 c) := by
        unfold cutStep
        rw [hlen]
        exact frs_filt r1 _ _
      obtain ⟨⟨g0, g1, g2⟩, q4⟩ := q4
      exact ⟨n, xs, c, rfl, rfl, h1, g0, g1, by rw [rc.length]; omega, fun l hl => k _ _ _ b4 (R4.same (same_new hl)) ((((e1.trans e2).trans e3).trans e4).trans (.same (same_new hl))) (FR.newT R4 hl rc) q4⟩
end
/-! ### the reverse of a tuple -/
theorem filt_rev {α : Type} (xs : List α) : ∀ n, n ≤ xs.length → ((List.range n).filterMap fun (k : Nat) => xs[((xs.length : Int) - 1 + (k : Int) * -1).toNat]?) = xs.reverse.take n
  | 0, _ => by simp
  | n + 1, h => by
    have e : ((xs.length : Int) - 1 + (n : Int) * -1).toNat = xs.length - 1 - n := by omega
    rw [List.range_succ, List.filterMap_append, filt_rev xs n (by omega), List.filterMap_cons, List.filterMap_nil]
    rw [e, List.getElem?_eq_getElem (show xs.length - 1 - n < xs.length by omega), List.take_add_one, List.getElem?_reverse (by omega), List.getElem?_eq_getElem (show xs.length - 1 - n < xs.length by omega)]
    rfl
theorem cut_rev {α : Type} (xs : List α) : cutStep xs none none (-1) = xs.reverse := by
  unfold cutStep
  have h1 : ((-1 : Int) < 0) := by omega
  have h2 : ¬ ((-1 : Int) > 0) := by omega
  have e1 : Builtin.Slice.sliceAdjust none none (-1) (xs.length : Int) = ((xs.length : Int) - 1, -1) := by
    unfold Builtin.Slice.sliceAdjust
    simp only [h1, if_true]
  rw [e1]
  have e2 : Builtin.Slice.slicePlaces ((xs.length : Int) - 1) (-1) (-1) = xs.length := by
    unfold Builtin.Slice.slicePlaces
    simp only [h2, if_false]
    split
    · rename_i h
      have : ((xs.length : Int) - 1 - -1 - 1) / - -1 = (xs.length : Int) - 1 := by
        rw [show (- -1 : Int) = 1 by rfl, Int.ediv_one]
        omega
      rw [this]
      omega
    · omega
  dsimp only
  rw [e2, filt_rev xs _ (Nat.le_refl _), List.take_of_length_le (by simp)]
/-! ### int.bit_length -/
section
variable {X : Cx} {e : Expr} {W : WE} {pos apos : Pos}
theorem qe_bits (h : QB X e W) (hbase : attributeBase e "bit_length" X.env (eval e X.env) = eval e X.env := by rfl) (hline : (apos.endLine == pos.line) = true := by rfl) : QE X (.Call (.Attribute e "bit_length" apos) [] [] pos) (wUn dBits W) := fun p => PE.le (pe_bits (h p) hbase hline) fun σ H Q ⟨B, env, b, Qd, R, w, k⟩ => by
  refine ⟨B, env, b, _, R, w, fun x H1 dx b1 R1 e1 fx w1 => ?_⟩
  cases dx <;> try exact w1.elim
  exact ⟨_, fx.int, k _ _ _ _ R1 e1 (.int _) w1⟩
end
/-! ### lists: a + b, a * n as new lists -/
def wCat (Wa Wb : WE) : WL := fun env b Q => Wa env b fun x b1 => Wb env b1 fun y b2 => match x, y with
  | .lst xs, .lst ys => xs.length + ys.length ≤ 1000000 ∧ Q (xs ++ ys) b2
  | _, _ => False
def wRep (Wa Wb : WE) : WL := fun env b Q => Wa env b fun x b1 => Wb env b1 fun y b2 => match x, y with
  | .lst xs, .int k => (xs.length * k.toNat ≤ 1000000 ∧ -(2 ^ 63) ≤ k ∧ k < 2 ^ 63) ∧ Q (List.replicate k.toNat xs).flatten b2
  | _, _ => False
section
variable {X : Cx} {a c : Expr} {Wa Wc : WE} {pos : Pos}
theorem qf_cat (ha : QB X a Wa) (hc : QB X c Wc) : QF X (.BinOp a .Add c pos) (wCat Wa Wc) := fun p =>
  PE.le (pe_op op_cat (ha p) (hc p)) fun σ H Q ⟨B, env, b, Qd, R, w, k⟩ => by
    have hl := line_ge
    refine ⟨B, env, b, _, R, w, fun x H1 dx b1 R1 e1 fx w1 => ⟨B, env, b1, _, R1, w1, fun y H2 dy b2 R2 e2 fy q => ?_⟩⟩
    have fx2 := fx.ext R1 e2
    cases dx <;> try exact q.elim
    cases dy <;> try exact q.elim
    obtain ⟨a1, xs, rfl, h1, r1⟩ := fx2.lst
    obtain ⟨a2, ys, rfl, h2, r2⟩ := fy.lst
    have e3 := r1.length
    have e4 := r2.length
    have e := e1.trans e2
    exact ⟨a1, a2, xs, ys, rfl, rfl, h1, h2, by have := q.1; omega, fun l hl => k l _ _ _ b2 (R2.same (same_new hl)) (R2.more hl) (e.trans (.same (same_new hl))) upd_same (fresh_more hl (r1.append r2)) (fun z => R2.trk l z hl) (fresh_back R2 e hl) q.2⟩
theorem qf_rep (ha : QB X a Wa) (hc : QB X c Wc) : QF X (.BinOp a .Mult c pos) (wRep Wa Wc) := fun p =>
  PE.le (pe_op op_rep (ha p) (hc p)) fun σ H Q ⟨B, env, b, Qd, R, w, k⟩ => by
    have hl := line_ge
    refine ⟨B, env, b, _, R, w, fun x H1 dx b1 R1 e1 fx w1 => ⟨B, env, b1, _, R1, w1, fun y H2 dy b2 R2 e2 fy q => ?_⟩⟩
    have fx2 := fx.ext R1 e2
    cases dx <;> try exact q.elim
    cases dy <;> try exact q.elim
    obtain ⟨a1, xs, rfl, h1, r1⟩ := fx2.lst
    have e3 := r1.length
    have e := e1.trans e2
    obtain ⟨⟨q0, q1, q2⟩, q3⟩ := q
    exact ⟨a1, _, xs, rfl, fy.int, h1, q1, q2, by rw [e3]; omega, fun l hl => k l _ _ _ b2 (R2.same (same_new hl)) (R2.more hl) (e.trans (.same (same_new hl))) upd_same (fresh_more hl (r1.reps _)) (fun z => R2.trk l z hl) (fresh_back R2 e hl) q3⟩
end
/-! ### t[::-1] -/
def dRev : D → (D → Prop) → Prop := fun d Q => dStep (-1) d none none Q
theorem dRev_tup {ds : List D} {Q : D → Prop} (h : ds.length ≤ 1000000) (q : Q (.tup ds.reverse)) : dRev (.tup ds) Q := by
  refine ⟨⟨by decide, by decide, ?_⟩, ?_⟩
  · rw [cut_rev]; simpa using h
  · rw [cut_rev]; exact q
section
variable {X : Cx} {e : Expr} {W : WE} {pos p2 q1 q2 pp : Pos} {x : Str} {j : Nat}
theorem qe_rev (h : QB X e W) : QE X (.Subscript e (.Slice none none (some (.UnaryOp .USub (.Constant (.int 1) j q1) q2)) p2) pos) (wUn dRev W) :=
  qe_sls h qo_n qo_n (qo_s (qe_neg qe_int.b))
/-! ### repr of a bool -/
def boolStr (k : Bool) : Str := if k then "True" else "False"
def dRepr : D → (D → Prop) → Prop
  | .bl k, Q => Q (.str (boolStr k))
  | .int i, Q => i.natAbs.log2 < 1920 ∧ Q (.str (toString i))
  | _, _ => False
theorem call_repr_bl : CallR X (.builtin "repr") (fun xs H Q => ∃ k, xs = [.bl k] ∧ Q (.str (boolStr k)) H) := by
  intro pins s σ H xs us Q I r h
  obtain ⟨i, rfl, q⟩ := h
  obtain ⟨u, rfl, rfl⟩ := vals1 r
  exact PySem.P.repr_of_bool ⟨.str _, H, I.tok _, ⟨_, rfl⟩, q⟩
theorem c1_repr : C1Ok X (fun xs H Q => (∃ k, xs = [.bl k] ∧ Q (.str (boolStr k)) H) ∨ (∃ i, xs = [.int i] ∧ i.natAbs.log2 < 1920 ∧ Q (.str (toString i)) H)) dRepr := by
  intro p B H σ env b x dx Q Qd R rx q k
  cases dx <;> try exact q.elim
  · exact .inl ⟨_, by rw [rx.bl], k _ H _ (Same.refl _) (.str _) q⟩
  · exact .inr ⟨_, by rw [rx.int], q.1, k _ H _ (Same.refl _) (.str _) q.2⟩
theorem qe_repr (hg : Gl X "repr") (hm : X.mg "repr" = none) (h : QB X e W) (he : starEach [e] X.env = (false, eval e X.env) :: starEach [] X.env := by rfl) (hpl : (backTo pos (starEach [] X.env)).any (·.1) = false := by rfl) :
    QE X (.Call (.Name "repr" pp) [e] [] pos) (wUn dRepr W) := qe_b1 (CallR.or call_repr_bl SkE.call_repr_int) c1_repr hg hm (by decide +kernel) h (by decide) (by decide) he hpl
end
/-! ### short names -/
abbrev dSub : Op2 := dI0 fun i j => .int (i - j)
abbrev dDiv : Op2 := dI CDivG fun i j => .int (i.fdiv j)
abbrev dMod : Op2 := dI (fun _ j => j ≠ 0) fun i j => .int (i.fmod j)
abbrev dLt : Op2 := dI0 fun i j => .bl (decide (i < j))
abbrev dLe : Op2 := dI0 fun i j => .bl (decide (i ≤ j))
abbrev dGt : Op2 := dI0 fun i j => .bl (decide (j < i))
abbrev dGe : Op2 := dI0 fun i j => .bl (decide (j ≤ i))
def wNever : WS := fun _ _ _ => False
end En
/-! The engine, part 9: enumerate of a tuple. -/
namespace En
open PySem PySem.Spec PyProof.Rows L2
open AutoSeq1 (wpAny_loadPart')
section
variable {prog : Program} {w : World} {A : Around} {E : Value → Shared → Prop} {s : Shared}
theorem enumT_new (tp : Addr) (xs : Array Value) (m : Nat) (dd : Option Addr) (ss : Array (Option Value)) :
    Meets (Builtin.«enumerate.__new__» ⟨[.type "enumerate", .ref tp], []⟩) (fun _ Z t => t.heap.get? tp = some { cls := .type "tuple", dict := dd, data := .seq xs m, slots := ss } ∧
      Z (.ok (.ret (.ref (t.heap.push { cls := .type "tuple_iterator", data := .fields #[.ref tp, .int 0 0] }).objs.size)))
        { t with heap := (t.heap.push { cls := .type "tuple_iterator", data := .fields #[.ref tp, .int 0 0] }).push { cls := .type "enumerate", data := .fields #[.none, .bool false, .ref t.heap.objs.size, rawInt 0, .none, .none] } }) :=
  .of_wp fun prog w A Z t g => by
    obtain ⟨hh, gg, dg, tk, oo⟩ := t; obtain ⟨g1, g2⟩ := g
    have hsubE := sub_enumerate
    have tupE : Heap.IsTuple (Shared.heap ⟨hh, gg, dg, tk, oo⟩) tp xs := ⟨_, g1, rfl, m, rfl⟩
    wp_walk using wpAny_loadPart' g1
    refine wpAny_stack_any fun frames => wpAny_pure ?_
    split
    · rename_i cc _ _ _ _ _
      cases (cc == Value.type "enumerate") <;>
        (wp_walk using wpAny_loadPart' g1, wpAny_pyIter_tuple tupE
         exact ⟨_, rfl, g2⟩)
    · wp_walk using wpAny_loadPart' g1, wpAny_pyIter_tuple tupE
      exact ⟨_, rfl, g2⟩
theorem enumT_call {tp : Addr} {xs : Array Value} {Z : Value → Shared → Prop} (ht : s.heap.IsTuple tp xs)
    (k : ∀ g, IsEnum g (s.heap.objs.size + 1) s.heap.objs.size 0 .none → g.IsTupleIter s.heap.objs.size tp 0 → g.objs.size = s.heap.objs.size + 2 → (∀ c u, s.heap.get? c = some u → g.get? c = some u) → Z (.ref (s.heap.objs.size + 1)) { s with heap := g }) :
    wpAny (model prog w) A (call (.type "enumerate") [.ref tp]) Z E s := by
  obtain ⟨⟨cc, dd, dt, ss⟩, g1, g2, m, g3⟩ := ht
  have e1 : cc = .type "tuple" := g2
  have e2 : dt = .seq xs m := g3
  subst e1 e2
  refine callType_new F.called_enumerate (by decide) (F.typeCall_enumerate_1 _) (F.newCall_enumerate_1 _) (fun z => F.args_object_init_2 z _) F.entry_enumerate_new (enumT_new tp xs m dd ss) ⟨g1, ?_⟩
  have z1 : (s.heap.push { cls := .type "tuple_iterator", data := .fields #[.ref tp, .int 0 0] }).objs.size = s.heap.objs.size + 1 := Heap.size_push ..
  show _ ∧ _
  rw [z1]
  have it0 : IsEnum ((s.heap.push { cls := .type "tuple_iterator", data := .fields #[.ref tp, .int 0 0] }).push { cls := .type "enumerate", data := .fields #[.none, .bool false, .ref s.heap.objs.size, rawInt 0, .none, .none] }) (s.heap.objs.size + 1) s.heap.objs.size 0 .none := by
    have q := Heap.get?_push_size (s.heap.push { cls := .type "tuple_iterator", data := .fields #[.ref tp, .int 0 0] }) (o := { cls := .type "enumerate", data := .fields #[.none, .bool false, .ref s.heap.objs.size, rawInt 0, .none, .none] }) rfl
    rw [z1] at q
    exact q
  exact ⟨⟨_, it0, rfl⟩, k _ it0 ⟨_, Heap.get?_push_of_some _ (Heap.get?_push_size _ rfl), rfl, rfl⟩ (by rw [Heap.size_push, z1]) fun c u q => Heap.get?_push_of_some _ (Heap.get?_push_of_some _ q)⟩
/-- one turn -/
theorem enumT_item {en ti tp : Addr} {i : Nat} {xs : Array Value} {x prev : Value} {Z : Option Value → Shared → Prop} (he : IsEnum s.heap en ti i prev) (hi : s.heap.IsTupleIter ti tp i) (ht : s.heap.IsTuple tp xs) (hx : xs[i]? = some x) (ne : en ≠ ti)
    (k : ∀ g, IsEnumOut g en ti ((i : Int) + 1) x s.heap.objs.size → g.IsTupleIter ti tp (i + 1) → g.get? s.heap.objs.size = some { cls := .type "tuple", data := .seq #[.int i s.toks, x] } → g.objs.size = s.heap.objs.size + 1 →
      (∀ c u, c ≠ en → c ≠ ti → s.heap.get? c = some u → g.get? c = some u) → Z (some (.ref s.heap.objs.size)) { s with heap := g, toks := s.toks + 1 }) : wpAny (model prog w) A (pyNext (.ref en)) Z E s := by
  have tyE : s.TypeIs (.ref en) "enumerate" := ⟨_, he, rfl⟩
  unfold pyNext
  refine wpAny_bind (wpAny_attempt (wpAny_callSpecial?_slot (name := Str.ofString "__next__") tyE F.slot_enumerate_next (wpAny_call_entry F.slot_enumerate_next tyE F.entry_enumerate_next ?_ (F.args_enumerate_next_1 _))))
  obtain ⟨hp, gl, dg, tk, oo⟩ := s
  show wpAny _ _ (field (.ref en) 2 >>= _) _ _ _
  refine wpAny_bind (wpAny_field he rfl (x := .ref ti) rfl (wpAny_bind (RZ.nextOf_tuple_item hi ht hx fun g1 i1 sb1 => ?_)))
  replace sb1 : Heap.SameBut ti hp g1 := sb1
  have e1 : IsEnum g1 en ti i prev := (sb1.2 en ne).trans he
  show wpAny _ _ (field (.ref en) 3 >>= _) _ _ ⟨g1, gl, dg, tk, oo⟩
  refine wpAny_bind (wpAny_field e1 rfl (x := rawInt i) rfl ?_)
  show wpAny _ _ (field (.ref en) 4 >>= _) _ _ ⟨g1, gl, dg, tk, oo⟩
  refine wpAny_bind (wpAny_field e1 rfl (x := .none) rfl ?_)
  show wpAny _ _ (mkInt i >>= _) _ _ ⟨g1, gl, dg, tk, oo⟩
  refine wpAny_bind (wpAny_mkInt ?_)
  show wpAny _ _ (setField (.ref en) 3 (rawInt ((i : Int) + 1)) >>= _) _ _ ⟨g1, gl, dg, tk + 1, oo⟩
  refine wpAny_bind (wpAny_setField_rec e1 (by simp) fun g2 e2 sb2 => ?_)
  replace sb2 : Heap.SameBut en g1 g2 := sb2
  replace e2 : IsEnum g2 en ti ((i : Int) + 1) prev := e2
  show wpAny _ _ (setField (.ref en) 4 .none >>= _) _ _ ⟨g2, gl, dg, tk + 1, oo⟩
  refine wpAny_bind (wpAny_setField_rec e2 (by simp) fun g3 e3 sb3 => ?_)
  replace sb3 : Heap.SameBut en g2 g3 := sb3
  replace e3 : IsEnum g3 en ti ((i : Int) + 1) prev := e3
  show wpAny _ _ (newTuple [.int i tk, x] >>= _) _ _ ⟨g3, gl, dg, tk + 1, oo⟩
  refine wpAny_bind (wpAny_newTuple ?_)
  have e4 : IsEnum (g3.push { cls := .type "tuple", data := .seq #[.int i tk, x] }) en ti ((i : Int) + 1) prev := Heap.get?_push_of_some _ e3
  generalize eg4 : g3.push { cls := .type "tuple", data := .seq #[.int i tk, x] } = g4 at e4
  have zz : g3.objs.size = hp.objs.size := by rw [sb3.1, sb2.1, sb1.1]
  have zl : en < hp.objs.size := Heap.lt_size he
  have p4 : g4.get? hp.objs.size = some { cls := .type "tuple", data := .seq #[.int i tk, x] } := by rw [← eg4, ← zz]; exact Heap.get?_push_size _ rfl
  have z4 : g4.objs.size = hp.objs.size + 1 := by rw [← eg4, Heap.size_push, zz]
  have k4 : ∀ c u, c ≠ en → c ≠ ti → hp.get? c = some u → g4.get? c = some u := fun c u n1 n2 q => by rw [← eg4]; exact Heap.get?_push_of_some _ (sb3.extBut c u n1 (sb2.extBut c u n1 (sb1.extBut c u n2 q)))
  have i4 : g4.IsTupleIter ti tp (i + 1) := by
    obtain ⟨u, u1, u2⟩ := (i1.extBut sb2.extBut (Ne.symm ne)).extBut sb3.extBut (Ne.symm ne)
    rw [← eg4]
    exact ⟨u, Heap.get?_push_of_some _ u1, u2⟩
  show wpAny _ _ (Builtin.SmallTypes.ownedTupleIsFree (.ref en) >>= _) _ _ ⟨g4, gl, dg, tk + 1, oo⟩
  rw [zz]
  clear eg4 e3 sb3 e2 sb2 e1 sb1 i1 zz g3 g2 g1
  refine wpAny_bind ?_
  unfold Builtin.SmallTypes.ownedTupleIsFree
  refine wpAny_bind (wpAny_field e4 rfl (x := .none) rfl (wpAny_pure ?_))
  simp only [if_true]
  refine wpAny_bind (wpAny_rule (wpAny_bind (wpAny_field e4 rfl (x := prev) rfl (wpAny_bind (wpAny_setField_rec e4 (by simp) fun g5 e5 sb5 => ?_)))))
  replace sb5 : Heap.SameBut en g4 g5 := sb5
  replace e5 : IsEnum g5 en ti ((i : Int) + 1) x := e5
  show wpAny _ _ (Builtin.SmallTypes.ownedTupleHandOut (.ref en) (.ref hp.objs.size) >>= _) _ _ ⟨g5, gl, dg, tk + 1, oo⟩
  refine wpAny_bind ?_
  unfold Builtin.SmallTypes.ownedTupleHandOut
  refine wpAny_bind (wpAny_setField_rec e5 (by simp) fun g6 e6 sb6 => ?_)
  replace sb6 : Heap.SameBut en g5 g6 := sb6
  replace e6 : IsEnumOut g6 en ti ((i : Int) + 1) x hp.objs.size := e6
  refine wpAny_setField_rec e6 (by simp) fun g7 e7 sb7 => ?_
  replace sb7 : Heap.SameBut en g6 g7 := sb7
  replace e7 : IsEnumOut g7 en ti ((i : Int) + 1) x hp.objs.size := e7
  have nz := Nat.ne_of_gt zl
  refine wpAny_bind (wpAny_letGo (wpAny_pure ⟨_, rfl, wpAny_pure (k g7 e7 (((i4.extBut sb5.extBut (Ne.symm ne)).extBut sb6.extBut (Ne.symm ne)).extBut sb7.extBut (Ne.symm ne)) (sb7.extBut _ _ nz (sb6.extBut _ _ nz (sb5.extBut _ _ nz p4))) (by rw [sb7.1, sb6.1, sb5.1, z4]) fun c u n1 n2 q => sb7.extBut c u n1 (sb6.extBut c u n1 (sb5.extBut c u n1 (k4 c u n1 n2 q))))⟩))
theorem enumT_end {en ti tp : Addr} {i : Nat} {xs : Array Value} {prev : Value} {Z : Option Value → Shared → Prop} (hh : A.handled = none) (he : IsEnum s.heap en ti i prev) (hi : s.heap.IsTupleIter ti tp i) (ht : s.heap.IsTuple tp xs) (hx : xs[i]? = none)
    (k : ∀ g, Heap.ExtBut ti s.heap g → Z none { s with heap := g }) : wpAny (model prog w) A (pyNext (.ref en)) Z E s := by
  have tyE : s.TypeIs (.ref en) "enumerate" := ⟨_, he, rfl⟩
  unfold pyNext
  refine wpAny_bind (wpAny_attempt (wpAny_callSpecial?_slot (name := Str.ofString "__next__") tyE F.slot_enumerate_next (wpAny_call_entry F.slot_enumerate_next tyE F.entry_enumerate_next ?_ (F.args_enumerate_next_1 _))))
  show wpAny _ _ (field (.ref en) 2 >>= _) _ _ _
  refine wpAny_bind (wpAny_field he rfl (x := .ref ti) rfl (wpAny_bind (RZ.nextOf_tuple_end hh hi ht hx fun g y sb yy => ?_)))
  obtain ⟨u, u1, u2⟩ := yy
  exact wpAny_bind (wpAny_isInstance (T := "StopIteration") (b := true) ⟨u, u1, u2⟩ isSubtype_stop (wpAny_pure (k _ sb)))
end
/-- the tuple at a, each item in a new pair -/
def ItET (K : PySem.W.Frag) (a : Addr) : It :=
  ⟨fun i H => ∃ (xs : List V) (x : V), SqT K H a xs ∧ xs[i]? = some x, fun i H v H' => ∃ P x, v = .ref P ∧ H P = none ∧ H' = upd H P (.tup [.int (i : Nat), x]) ∧ ∀ xs, SqT K H a xs → xs[i]? = some x, fun i H => ∃ xs : List V, SqT K H a xs ∧ xs.length ≤ i⟩
theorem turn_enumT {P : Program} {w : World} {K : PySem.W.Frag} {elts : List Expr} {kk : Nat} {tpos : Pos} (a e t : Addr) :
    Turn P w K (.Tuple elts kk tpos) (ItET K a) [e, t] e (fun i h => (∃ prev, IsEnum h e t ((i : Nat) : Int) prev) ∧ h.IsTupleIter t a i ∧ e ≠ t) where
  mem := by simp
  obj := fun i h st c hc => by
    obtain ⟨⟨prev, he⟩, ⟨u, u1, u2, u3⟩, _⟩ := st
    rcases (show c = e ∨ c = t by simpa using hc) with z | z
    · rw [z]; exact ⟨_, he, fun v q => nomatch q⟩
    · rw [z]; exact ⟨u, u1, fun v q => by rw [u3] at q; cases q⟩
  keep := fun i h h' st k => by
    obtain ⟨⟨prev, he⟩, ⟨u, u1, u2⟩, ne⟩ := st
    exact ⟨⟨prev, k e (by simp) _ he⟩, ⟨u, k t (by simp) _ u1, u2⟩, ne⟩
  item := by
    intro X hP hw hK hc i pins s σ H E I hf st hg
    subst hP hw hK
    obtain ⟨⟨prev, he⟩, hit, ne⟩ := st
    obtain ⟨xs, x, hq, hx⟩ := hg
    obtain ⟨its, rv, p, hz⟩ := I.tuple hq
    obtain ⟨u, hu, ru⟩ := rv.get hx
    have le := Heap.lt_size he
    have lt : t < s.heap.objs.size := by obtain ⟨_, q, _⟩ := hit; exact Heap.lt_size q
    refine enumT_item he hit p (x := u) (by simpa using hu) ne fun g go gi gT gz gk => ⟨_, rfl, wpAny_letOwnedTupleGo_enum (s := { s with heap := g, toks := s.toks + 1 }) go fun g2 g2e sb => ?_⟩
    have T2 : g2.get? s.heap.objs.size = some { cls := .type "tuple", data := .seq #[.int i s.toks, u] } := (sb.2 _ (Nat.ne_of_gt le)).trans gT
    have okT : ObjOk X.prog X.w (upd H s.heap.objs.size (.tup [.int (i : Nat), x])) g2 s.heap.objs.size (.tup [.int (i : Nat), x]) :=
      ⟨by show 2 ≤ sizeLine; decide, [.int i s.toks, u], .cons ⟨_, rfl⟩ (.cons ru .nil), ⟨_, T2, rfl, _, rfl⟩⟩
    have I1 : Inv X pins σ (upd H s.heap.objs.size (.tup [.int (i : Nat), x])) { s with heap := g2, toks := s.toks + 1 } :=
      I.turnedNew (ch := [e, t]) (fun c ob hb q => (sb.2 c (fun z => hb (by simp [z]))).trans (gk c ob (fun z => hb (by simp [z])) (fun z => hb (by simp [z])) q)) hf (Nat.le_refl _) okT
    have it2 : g2.IsTupleIter t a (i + 1) := by
      obtain ⟨o, o1, o2⟩ := gi
      exact ⟨o, (sb.2 t (Ne.symm ne)).trans o1, o2⟩
    refine ⟨.ref s.heap.objs.size, _, I1, rfl, ⟨_, x, rfl, I.hok.fresh (Nat.le_refl _), rfl, fun ys hy => ?_⟩, ⟨⟨u, ?_⟩, it2, ne⟩, fun c hcc => ?_⟩
    · obtain ⟨its2, rv2, p2, _⟩ := I.tuple hy
      have e1 : its2 = its := by
        obtain ⟨o1, q1, _, n1, d1⟩ := p
        obtain ⟨o2, q2, _, n2, d2⟩ := p2
        rw [q1] at q2
        cases q2
        rw [d1] at d2
        injection d2 with d3
        have := congrArg Array.toList d3
        simpa using this.symm
      subst e1
      rw [Vals.inj rv2 rv]
      exact hx
    · have e1 : ((i + 1 : Nat) : Int) = (i : Int) + 1 := by omega
      rw [e1]
      exact g2e
    · have lc : c < s.heap.objs.size := by
        rcases (show c = e ∨ c = t by simpa using hcc) with z | z
        · rw [z]; exact le
        · rw [z]; exact lt
      rw [upd_ne (Nat.ne_of_lt lc)]
      exact (hf c hcc).1
  done := by
    intro X hP hw hK hc i pins s σ H E I hf st hg
    subst hP hw hK
    obtain ⟨⟨prev, he⟩, hit, ne⟩ := st
    obtain ⟨xs, hq, hx⟩ := hg
    obtain ⟨its, rv, p, hz⟩ := I.tuple hq
    obtain ⟨f0, f1, f2, f3, f4, f5⟩ := hf t (by simp)
    have hl := rv.length
    exact enumT_end (I.ok.hd hc) he hit p (by simp; omega) fun g sb => ⟨rfl, I.turned (t' := s.toks) (fun c o hb q => sb c o hb q) f0 f1 f3 f4 f5⟩
  self := fun A i s Q E st h => by
    obtain ⟨⟨_, he⟩, _⟩ := st
    exact wpAny_pyIter_enum he h
def iEnum2 (K : PySem.W.Frag) (ta : TA) : TI := fun σ H R => ta σ H fun vs H1 => ∃ a, vs = [.ref a] ∧ ((∃ xs, SqL K H1 a xs ∧ R (Ite K a) H1) ∨ ∃ xs, SqT K H1 a xs ∧ R (ItET K a) H1)
theorem pi_enum2 {X : Cx} {e : Expr} {ta : TA} {p pos tpos : Pos} {elts : List Expr} {kk : Nat} (hg : Gl X "enumerate") (hm : X.mg "enumerate" = none) (ha : PA X [e] ta) (hs : starEach [e] X.env = [(false, eval e X.env)] := by rfl) :
    PI X (.Tuple elts kk tpos) (.Call (.Name "enumerate" p) [e] [] pos) (iEnum2 X.K ta) := ⟨fun pins s σ H R I h => by
  refine Call_ (ld_blt I hg hm boot_enumerate (PyProof.Rows.callWith_type1 (thn (ha.run pos pins s σ H _ I h) fun us s1 ⟨vs, H1, I1, r1, q1⟩ => ?_) hs rfl))
  obtain ⟨a, ex, q1⟩ := q1
  subst ex
  obtain ⟨u, rfl, r⟩ := vals1 r1
  cases r
  have fr : ∀ c, c ∈ [s1.heap.objs.size + 1, s1.heap.objs.size] → s1.heap.objs.size ≤ c := fun c hc => by
    rcases (show c = s1.heap.objs.size + 1 ∨ c = s1.heap.objs.size by simpa using hc) with z | z
    · rw [z]; exact Nat.le_succ _
    · rw [z]; exact Nat.le_refl _
  rcases q1 with ⟨xs, hq, q⟩ | ⟨xs, hq, q⟩
  · obtain ⟨its, rv, p', hz⟩ := I1.list hq
    refine call_enumerate_list p'.isList fun g he hit hsz hk => wpAny_pyIter_enum he ?_
    have I2 : Inv X pins σ H1 { s1 with heap := g } := I1.kept (t' := s1.toks) hk
    exact ⟨s1.heap.objs.size + 1, [s1.heap.objs.size + 1, s1.heap.objs.size], _, _, H1, rfl, I2, turn_enum a (s1.heap.objs.size + 1) s1.heap.objs.size, ⟨⟨.none, he⟩, hit, Nat.succ_ne_self _⟩, fun c hc => I1.fpOk (fr c hc) (I1.hok.fresh (fr c hc)), q⟩
  · obtain ⟨its, rv, p', hz⟩ := I1.tuple hq
    refine enumT_call p' fun g he hit hsz hk => wpAny_pyIter_enum he ?_
    have I2 : Inv X pins σ H1 { s1 with heap := g } := I1.kept (t' := s1.toks) hk
    exact ⟨s1.heap.objs.size + 1, [s1.heap.objs.size + 1, s1.heap.objs.size], _, _, H1, rfl, I2, turn_enumT a (s1.heap.objs.size + 1) s1.heap.objs.size, ⟨⟨.none, he⟩, hit, Nat.succ_ne_self _⟩, fun c hc => I1.fpOk (fr c hc) (I1.hok.fresh (fr c hc)), q⟩⟩
theorem walk_enumT {K : PySem.W.Frag} {mg : Str → Option Value} {pa : Addr} {B1 : Addr → Prop} {H1 : Hp} {a : Addr} {xs : List V} {ds : List D} (h : TupR K B1 H1 a xs) (r : FRs K mg pa B1 H1 xs ds) : Walk K mg pa (ItET K a) B1 H1 (enumD 0 ds) := fun B H k tr => by
  have h2 := (h.kp k).sq
  have r2 := r.kp k
  refine ⟨fun i d hd => ?_, ⟨xs, h2, by rw [r2.length, enumD_length]; exact Nat.le_refl _⟩⟩
  obtain ⟨x, h3, rfl⟩ := enumD_get ds 0 i d hd
  obtain ⟨v, h4, h5⟩ := r2.get h3
  refine ⟨⟨xs, v, h2, h4⟩, fun u H' y => ?_⟩
  obtain ⟨T, w, rfl, hT, rfl, hw⟩ := y
  have := hw xs h2
  rw [h4] at this
  cases this
  have s := same_new (o := .tup [.int (i : Nat), v]) hT
  refine ⟨s, .tup (.inl ⟨upd_same, fun z => tr T z hT⟩) (.cons ?_ (.cons (h5.kp (same_kp s)) .nil))⟩
  rw [Nat.zero_add]
  exact .int _
/-- enumerate of a list or of a tuple -/
def wEnum2 (W : WL) : WL := fun env b Q => W env b fun ds b1 => match ds with | [.lst xs] => Q (enumD 0 xs) b1 | [.tup xs] => Q (enumD 0 xs) b1 | _ => False
theorem qi_enum2 {X : Cx} {a : Expr} {W : WL} {pp pos tpos : Pos} {elts : List Expr} {kk : Nat} (hg : Gl X "enumerate") (hm : X.mg "enumerate" = none) (h : QA X [a] W) (hs : starEach [a] X.env = [(false, eval a X.env)] := by rfl) : QI X (.Tuple elts kk tpos) (.Call (.Name "enumerate" pp) [a] [] pos) (wEnum2 W) := fun p =>
  ⟨_, pi_enum2 hg hm (h p) hs, fun σ H R ⟨B, env, b, Qd, Rl, w, k⟩ => by
    refine ⟨B, env, b, _, Rl, w, fun vs H1 ds b1 R1 e1 f1 hl q => ?_⟩
    split at q
    · cases f1 with
      | cons f2 f3 =>
        cases f3
        cases f2 with
        | lst hh n r => exact ⟨_, rfl, .inl ⟨_, .of hh, k _ H1 _ b1 R1 e1 (walk_enum hh n r) q⟩⟩
    · cases f1 with
      | cons f2 f3 =>
        cases f3
        cases f2 with
        | tup t r => exact ⟨_, rfl, .inr ⟨_, t.sq, k _ H1 _ b1 R1 e1 (walk_enumT t r) q⟩⟩
    · exact q.elim⟩
end En
/-! The engine, part 10: tuple * int of any size, ranges as tuples and lists, max, name -= e. -/
namespace En
open PySem PySem.Spec PyProof.Rows L2
open AutoSeq1 (wpAny_loadPart')
/-- tuple * 1 -/
theorem tupOne (tp : Addr) (xs : Array Value) (m : Nat) (dd : Option Addr) (ss : Array (Option Value)) (u : Tok) :
    Meets (Builtin.«tuple.__mul__» ⟨[.ref tp, .int 1 u], []⟩) (fun _ Z t => t.heap.get? tp = some { cls := .type "tuple", dict := dd, data := .seq xs m, slots := ss } ∧ Z (.ok (.ret (Value.ref tp))) t) :=
  .of_wp fun prog w A Z t g => by
    obtain ⟨hh, gg, dg, tk, oo⟩ := t
    obtain ⟨g1, g2⟩ := g
    have idx := AutoSeq1.idx_int
    have c1 : (xs.isEmpty || (1 : Int) == 1) = true := by simp
    wp_walk using wpAny_loadPart' g1
    repeat (first
      | (refine wpAny_ite_true (decide_eq_true c1) ?_; wp_walk using wpAny_loadPart' g1)
      | (refine wpAny_ite_false (decide_eq_false (by decide)) ?_; wp_walk using wpAny_loadPart' g1))
    exact ⟨_, rfl, g2⟩
/-- tuple * 0, and less -/
theorem tupNo (tp : Addr) (xs : Array Value) (m : Nat) (dd : Option Addr) (ss : Array (Option Value)) (k : Int) (u : Tok) (c0 : (decide (k < -(2 ^ 63)) || decide (k ≥ 2 ^ 63)) = false) (c1 : (xs.isEmpty || k == 1) = false) (c2 : (decide (k ≤ 0) || xs.isEmpty) = true) :
    Meets (Builtin.«tuple.__mul__» ⟨[.ref tp, .int k u], []⟩) (fun _ Z t => t.heap.get? tp = some { cls := .type "tuple", dict := dd, data := .seq xs m, slots := ss } ∧
      Z (.ok (.ret (Value.ref t.heap.objs.size))) { t with heap := t.heap.push { cls := .type "tuple", data := .seq #[] }, toks := t.toks }) :=
  .of_wp fun prog w A Z t g => by
    obtain ⟨hh, gg, dg, tk, oo⟩ := t
    obtain ⟨g1, g2⟩ := g
    have idx := AutoSeq1.idx_int
    wp_walk using wpAny_loadPart' g1
    repeat (first
      | (refine wpAny_ite_false (decide_eq_false (by rw [c0]; exact Bool.false_ne_true)) ?_; wp_walk using wpAny_loadPart' g1)
      | (refine wpAny_ite_false (decide_eq_false (by rw [c1]; exact Bool.false_ne_true)) ?_; wp_walk using wpAny_loadPart' g1)
      | (refine wpAny_ite_true (decide_eq_true c2) ?_; wp_walk using wpAny_loadPart' g1))
    exact ⟨_, rfl, g2⟩
/-- t * k, t not empty -/
def rRepA (K : PySem.W.Frag) : R2 := fun x y H Q => ∃ a k xs, x = .ref a ∧ y = .int k ∧ SqT K H a xs ∧ xs ≠ [] ∧ -1000 ≤ k ∧ k ≤ 1000 ∧ xs.length ≤ 1000 ∧ (k = 1 → Q (.ref a) H) ∧ (k ≠ 1 → ∀ p, H p = none → Q (.ref p) (upd H p (.tup (List.replicate k.toNat xs).flatten)))
theorem op_repA {X : Cx} : OpR X (binaryOp .Mult) (rRepA X.K) := by
  intro pins s σ H x y v u Q I rx ry h
  obtain ⟨a, k, xs, rfl, rfl, hT, hne, h1, h2, hz, q1, q2⟩ := h
  by_cases hk : 2 ≤ k
  · exact op_repT pins s σ H _ _ v u Q I rx ry ⟨a, k, xs, rfl, rfl, hT, hne, hk, h2, hz, q2 (by omega)⟩
  cases rx
  obtain ⟨t, rfl⟩ := ry
  obtain ⟨its, r, ⟨⟨cc, dd, dt, ss⟩, ho, hc, n, hd⟩, hs⟩ := I.tuple hT
  have e1 : cc = .type "tuple" := hc
  have e2 : dt = .seq its.toArray n := hd
  subst e1 e2
  have hlen : its.length = xs.length := r.length.symm
  have hi : its.toArray.isEmpty = false := by
    cases its with
    | nil => exact absurd (List.eq_nil_of_length_eq_zero hlen.symm) hne
    | cons a b => rfl
  by_cases h1k : k = 1
  · subst h1k
    refine wpAny_binaryOp_repeat_ref (T := "tuple") (U := "int") (by decide) ⟨_, ho, rfl⟩ (fun z => typeIs_int z 1 t) noFill_tuple_mul F.fills_int_mul F.slot_int_rmul repeat_tuple F.slot_int_index.lookup
      (call_meets F.slot_int_rmul (typeIs_int s 1 t) F.entry_int_rmul (F.args_int_rmul_2 _ _) (int_rmul_tuple 1 t a its.toArray n dd ss) ⟨ho, rfl, ⟨_, ho, rfl⟩, call_meets F.slot_tuple_mul ⟨_, ho, rfl⟩ F.entry_tuple_mul (F.args_tuple_mul_2 _ _) (tupOne a its.toArray n dd ss t) ⟨ho, ?_⟩⟩)
    exact ⟨.ref a, H, I, rfl, q1 rfl⟩
  · have h0 : k ≤ 0 := by omega
    have c0 : (decide (k < -(2 ^ 63)) || decide (k ≥ 2 ^ 63)) = false := by rw [decide_eq_false (by omega), decide_eq_false (by omega)]; rfl
    have c1 : (its.toArray.isEmpty || k == 1) = false := by rw [hi, Bool.false_or]; exact beq_eq_false_iff_ne.mpr h1k
    have c2 : (decide (k ≤ 0) || its.toArray.isEmpty) = true := by rw [decide_eq_true h0]; rfl
    refine wpAny_binaryOp_repeat_ref (T := "tuple") (U := "int") (by decide) ⟨_, ho, rfl⟩ (fun z => typeIs_int z k t) noFill_tuple_mul F.fills_int_mul F.slot_int_rmul repeat_tuple F.slot_int_index.lookup
      (call_meets F.slot_int_rmul (typeIs_int s k t) F.entry_int_rmul (F.args_int_rmul_2 _ _) (int_rmul_tuple k t a its.toArray n dd ss) ⟨ho, rfl, ⟨_, ho, rfl⟩, call_meets F.slot_tuple_mul ⟨_, ho, rfl⟩ F.entry_tuple_mul (F.args_tuple_mul_2 _ _) (tupNo a its.toArray n dd ss k t c0 c1 c2) ⟨ho, ?_⟩⟩)
    have e3 : (List.replicate k.toNat xs).flatten = [] := by rw [show k.toNat = 0 by omega]; rfl
    have q3 := q2 h1k _ (I.hok.fresh (Nat.le_refl _))
    rw [e3] at q3
    exact ⟨.ref s.heap.objs.size, _, I.laid (t' := s.toks) (o := .tup []) (fun b ob q => Heap.get?_push_of_some _ q) (Nat.le_refl _) ⟨Nat.zero_le _, [], .nil, IsTup.new _ _⟩, rfl, q3⟩
/-! ### as readings -/
def dMulT : Op2
  | .tup xs, .int k, Q => (xs ≠ [] ∧ -1000 ≤ k ∧ k ≤ 1000 ∧ xs.length ≤ 1000) ∧ Q (.tup (List.replicate k.toNat xs).flatten)
  | _, _, _ => False
section
variable {X : Cx} {a c e : Expr} {Wa Wc W : WE} {pos pp : Pos}
theorem ok_mulT : OpOk X (rRepA X.K) dMulT := by
  intro p B H σ env b x y dx dy Q Qd R rx ry q k
  cases dx <;> cases dy <;> try exact q.elim
  rename_i ds kk
  obtain ⟨⟨g0, g1, g2, g3⟩, q⟩ := q
  obtain ⟨n, xs, rfl, h1, t1, r1⟩ := rx.tup
  have e1 := r1.length
  refine ⟨n, kk, xs, rfl, ry.int, h1, fun z => g0 ?_, g1, g2, by omega, fun z => ?_, fun z l hl => ?_⟩
  · subst z
    cases r1
    rfl
  · subst z
    have e2 : (List.replicate (1 : Int).toNat ds).flatten = ds := by simp
    rw [e2] at q
    exact k _ H _ (Same.refl _) (.tup t1 r1) q
  · exact k _ _ _ (same_new hl) (FR.newT R hl (r1.reps _)) q
theorem qe_mulT (ha : QB X a Wa) (hc : QB X c Wc) : QE X (.BinOp a .Mult c pos) (wBin dMulT Wa Wc) := qe_bin op_repA ok_mulT ha hc
/-- max(e, f) of ints -/
def dMax : Op2
  | .int i, .int j, Q => Q (.int (if j > i then j else i))
  | _, _, _ => False
theorem qe_max2 {es : List Expr} {Wl : WL} (hcm : X.calm = true) (hg : Gl X "max") (hm : X.mg "max" = none) (h : QA X (e :: es) Wl) (he : starEach (e :: es) X.env = (false, eval e X.env) :: starEach es X.env := by rfl) (hpl : (backTo pos (starEach es X.env)).any (·.1) = false := by rfl) :
    QE X (.Call (.Name "max" pp) (e :: es) [] pos) (wC2 dMax Wl) := fun p =>
  PE.le (pe_callB (call_max2 hcm) hg hm (by decide +kernel) (h p) (by decide) (by decide) he hpl) fun σ H Q ⟨B, env, b, Qd, R, w, k⟩ => by
    refine ⟨B, env, b, _, R, w, fun vs H1 ds b1 R1 e1 f1 hl q => ?_⟩
    split at q
    · rename_i x y
      cases x <;> cases y <;> try exact q.elim
      cases f1 with
      | cons a1 a2 =>
        cases a1
        cases a2 with
        | cons a3 a4 =>
          cases a3
          cases a4
          exact ⟨_, _, rfl, k _ H1 _ b1 R1 e1 (.int _) q⟩
    · exact q.elim
/-- tuple(range(n)), list(range(n)) -/
theorem frs_rg {K : PySem.W.Frag} {mg : Str → Option Value} {pa : Addr} {B : Addr → Prop} {H : Hp} (n : Int) : FRs K mg pa B H (rgV 0 n) (rangeD 0 n.toNat) := by
  unfold rgV rangeD
  rw [Int.sub_zero]
  generalize List.range n.toNat = l
  induction l with
  | nil => exact .nil
  | cons i r ih => exact .cons (.int _) ih
def wRgT (W : WE) : WE := fun env b Q => W env b fun d b1 => match d with | .int n => (-1000 ≤ n ∧ n ≤ 1000) ∧ Q (.tup (rangeD 0 n.toNat)) b1 | _ => False
def wRgL (W : WE) : WL := fun env b Q => W env b fun d b1 => match d with | .int n => (-1000 ≤ n ∧ n ≤ 1000) ∧ Q (rangeD 0 n.toNat) b1 | _ => False
theorem rgOk {n : Int} (h : -1000 ≤ n ∧ n ≤ 1000) : RgOk 0 n := ⟨by omega, by omega, by omega, by omega, by omega⟩
theorem qe_rgT {p1 : Pos} (hcm : X.calm = true) (hg : Gl X "tuple") (hm : X.mg "tuple" = none) (hg2 : Gl X "range") (hm2 : X.mg "range" = none) (h : QE X e W) (na : starEach [e] X.env = (false, eval e X.env) :: starEach [] X.env := by rfl)
    (na2 : starEach [.Call (.Name "range" pp) [e] [] p1] X.env = (false, eval (.Call (.Name "range" pp) [e] [] p1) X.env) :: starEach [] X.env := by rfl) {p2 : Pos} : QE X (.Call (.Name "tuple" p2) [.Call (.Name "range" pp) [e] [] p1] [] pos) (wRgT W) := fun p =>
  PE.le (pe_tupRg hcm hg hm (prg_1 hg2 hm2 (h p) na) na2) fun σ H Q ⟨B, env, b, Qd, R, w, k⟩ => by
    refine ⟨B, env, b, _, R, w, fun v H1 d b1 R1 e1 f1 q => ?_⟩
    cases d <;> try exact q.elim
    cases f1
    exact ⟨_, rfl, rgOk q.1, fun l hl => k _ _ _ b1 (R1.same (same_new hl)) (e1.trans (.same (same_new hl))) (FR.newT R1 hl (frs_rg _)) q.2⟩
theorem qf_rgL {p1 : Pos} (hcm : X.calm = true) (hg : Gl X "list") (hm : X.mg "list" = none) (hg2 : Gl X "range") (hm2 : X.mg "range" = none) (h : QE X e W) (na : starEach [e] X.env = (false, eval e X.env) :: starEach [] X.env := by rfl)
    (na2 : starEach [.Call (.Name "range" pp) [e] [] p1] X.env = (false, eval (.Call (.Name "range" pp) [e] [] p1) X.env) :: starEach [] X.env := by rfl) {p2 : Pos} : QF X (.Call (.Name "list" p2) [.Call (.Name "range" pp) [e] [] p1] [] pos) (wRgL W) := fun p =>
  PE.le (pe_listRg hcm hg hm (prg_1 hg2 hm2 (h p) na) na2) fun σ H Q ⟨B, env, b, Qd, R, w, k⟩ => by
    refine ⟨B, env, b, _, R, w, fun v H1 d b1 R1 e1 f1 q => ?_⟩
    cases d <;> try exact q.elim
    cases f1
    exact ⟨_, rfl, rgOk q.1, fun l hl => k l _ _ _ b1 (R1.same (same_new hl)) (R1.more hl) (e1.trans (.same (same_new hl))) upd_same (fresh_more hl (frs_rg _)) (fun z => R1.trk l z hl) (fresh_back R1 e1 hl) q.2⟩
/-- name -= e, name += e of ints -/
def wAug (i : Nat) (g : Int → Int → Int) (W : WE) : WS := fun E env b => match env[i]? with
  | some (.v (.int x)) => W env b fun d b1 => (match d with | .int y => E.nx (env.set i (.v (.int (g x y)))) b1 | _ => False)
  | _ => False
theorem qs_aug (i : Nat) {op : Operator} {g : Int → Int → Int} {x : Str} {pos' : Pos} (ho : PIp X op (ipI g)) (hN : X.N.Nodup) (hi : X.N[i]? = some x) (hx : Loc X.env.scope x) (h : QE X e W) (hf : X.fn x = true ∨ X.env.scope.names.lookup x = some .local := by first | exact .inl rfl | exact .inr rfl | assumption) :
    QS X (.AugAssign (.Name x pos') op e pos) (wAug i g W) := fun p => ⟨fun pins s σ H D I ⟨B, env, b, E, R, w, f⟩ => (ps_aug hN hi hx (h p) ho hf).run pins s σ H D I (by
  unfold wAug at w
  split at w
  · rename_i z hz
    obtain ⟨u, h1, h2⟩ := R.slots i _ hz
    cases h2
    refine ⟨_, h1, B, env, b, _, R, w, fun v H1 d b1 R1 e1 f1 q => ?_⟩
    cases d <;> try exact q.elim
    cases f1
    exact ⟨z, _, rfl, rfl, f.nx _ H1 B _ b1 (R1.setv (len_of I.len R1 hi) (.int _)) (R.ext_kp e1) q⟩
  · exact w.elim)⟩
end
end En
/-! The engine, part 11: division of ints of any size. -/
namespace En
open PySem PySem.Spec PyProof.Rows L2
/-- division may go by _pylong: nothing sees it, and there is room for its frames -/
structure Seer (X : Cx) : Prop where
  tree : X.prog.given.tree = none
  base : X.base.NoSeer
  dep : X.A.depth + Builtin.pylongFrames < recursionLimit
  top : ∃ e l, X.stack = e :: l ∧ e.scope.isGenerator = false ∧ e.scope.isCoroutine = false ∧ e.builtins = builtinsNs ∧ e.globals = mainGlobals
theorem Seer.at_ {X : Cx} (S : Seer X) {pins : List (Addr × Obj)} {σ : L2.St} {H : Hp} {s : Shared} (I : Inv X pins σ H s) : SeerAt (model X.prog X.w) X.A s.heap := by
  obtain ⟨e, l, h1, h2, h3, h4, h5⟩ := S.top
  exact SeerAt.of (S.base.keeps fun b o q => I.bk b o q) S.tree (by rw [I.ok.frames, h1]) h2 h3 h4 h5
theorem op_fdivU {X : Cx} (S : Seer X) : OpR X (binaryOp .FloorDiv) (rI (fun _ j => j ≠ 0) fun i j => .int (i.fdiv j)) := by
  intro pins s σ H x y v u Q I rx ry h
  obtain ⟨i, j, rfl, rfl, hc, q⟩ := h
  obtain ⟨t, rfl⟩ := rx
  obtain ⟨t', rfl⟩ := ry
  exact floordiv_int hc ⟨.int (i.fdiv j), H, I.tok _, ⟨_, rfl⟩, q⟩ (.inr (PySem.PylongRoom.of I.nolimit S.dep (S.at_ I)))
abbrev dDivU : Op2 := dI (fun _ j => j ≠ 0) fun i j => .int (i.fdiv j)
section
variable {X : Cx} {a c : Expr} {Wa Wc : WE} {pos : Pos}
theorem qe_divU (S : Seer X) (ha : QB X a Wa) (hc : QB X c Wc) : QE X (.BinOp a .FloorDiv c pos) (wBin dDivU Wa Wc) := qe_bin (op_fdivU S) (ok_I fun _ _ _ _ _ => .int _) ha hc
end
/-- what division leans on -/
structure TZ (P : Program) (base : Heap) : Prop where
  tree : P.given.tree = none
  seer : base.NoSeer
theorem seer_of {P : Program} {w : World} {K : PySem.W.Frag} {mg : Str → Option Value} {base : Heap} {N : List Str} {qual : Str} {scope : Scope} {f : Addr} {cd : Value} {A : Around} {outer : List PySem.Env} {s : Shared} {H : Hp} {E : XK} {k : Nat}
    (Z : TZ P base) (hr : Room k (A.deeper (envOfC qual scope s.heap.objs.size f cd))) (hk : 32 ≤ k) (hg : scope.isGenerator = false) (hc : scope.isCoroutine = false) : Seer (cxOf CX0 P w K mg base N qual scope f cd A outer s H E).nox :=
  ⟨Z.tree, Z.seer, by
    have h1 := hr.dp
    have h2 : Builtin.pylongFrames = 100 := rfl
    show (A.deeper (envOfC qual scope s.heap.objs.size f cd)).depth + Builtin.pylongFrames < recursionLimit
    omega, ⟨_, _, rfl, hg, hc, rfl, rfl⟩⟩
end En
/-! The end of a law: as the hand layer's, but the base is known to hold no seer of divisions. -/
namespace En
open PySem PySem.Spec PyProof.Rows L2
theorem hid_none {h : Heap} {H : Hp} {a : Addr} {o0 : Obj} (hA : ∀ b, H b ≠ none → b = a) (ha : h.get? a = some o0) {b : Addr} {o : Obj} (e : h.get? b = some o) (ne : o ≠ o0) : H b = none := by
  by_cases z : H b = none
  · exact z
  · obtain rfl := hA b z
    exact absurd (Option.some.inj (e.symm.trans ha)) ne
theorem hid_ns {h : Heap} {H : Hp} {a : Addr} {xs : Array Value} (hA : ∀ b, H b ≠ none → b = a) (ha : h.get? a = some { cls := .type "list", data := .seq xs }) {b : Addr} {m : Str → Option Value} (n : h.Ns b m) : (hidT h H).Ns b m := by
  obtain ⟨o, es, ep, e, d, r⟩ := n
  refine ⟨o, es, ep, hidT_get e (hid_none hA ha e fun z => ?_), d, r⟩
  rw [z] at d
  cases (show Data.seq xs = Data.dict es ep from d)
theorem hid_seer {h : Heap} {H : Hp} {a : Addr} {xs : Array Value} (hA : ∀ b, H b ≠ none → b = a) (ha : h.get? a = some { cls := .type "list", data := .seq xs }) (S : h.NoSeer) : (hidT h H).NoSeer := by
  obtain ⟨⟨m1, s1, s2⟩, ⟨m2, t1, t2⟩, ⟨m3, i1, i2⟩, mg, bm, ob, g1, g2, g3, g4, g5⟩ := S
  refine ⟨⟨m1, hid_ns hA ha s1, s2⟩, ⟨m2, hid_ns hA ha t1, t2⟩, ⟨m3, hid_ns hA ha i1, i2⟩, mg, bm, ob, hid_ns hA ha g1, g2, hidT_get g3 (hid_none hA ha g3 fun z => ?_), g4, g5⟩
  rw [z] at g4
  exact absurd (Value.type.inj (show Value.type "list" = Value.type "module" from g4)) (by decide)
theorem call_seen {P : Program} {w : World} {K : PySem.W.Frag} {mg mb : Str → Option Value} {CX : CXT} {k : Nat} {f a : Addr} {fd : FuncData} {x : Str} {sp : Sp} {s : Shared} {us : List Value} {ns : List Int}
    (inK : K.In s.heap) (nsG : s.heap.Ns mainGlobals mg) (nsB : s.heap.Ns builtinsNs mb) (boot : ∀ y : Str, y ≠ "__name__" → mb y = bootBuiltins y) (lim : s.heap.NoLimit) (seer : s.heap.NoSeer) (noG : s.gens = #[])
    (obj : s.heap.get? a = some { cls := .type "list", data := .seq us.toArray }) (whole : IntsAre us ns) (short : ns.length ≤ sizeLine) (room : Room k callerA)
    (F : ∀ base : Heap, K.In base → base.Ns mainGlobals mg → base.NoSeer → FnOk P w K mg base CX k f fd [x] sp)
    (bind : ∀ (t : Shared) (u : Value), BindsTo t fd ⟨[u], []⟩ [(x, u)])
    (says : ∀ H : Hp, Only H → SqL K H a (ns.map V.int) → sp [.ref a] H (fun v _ => v = .bl true) fun _ _ _ => False)
    (calm : ∀ H e t, CX [] H s (fun _ _ _ => False) e t → False) :
    codeAny (model P w) callerA (.call (.ref f) ⟨[.ref a], []⟩)
      (fun r t => r = .ok (.ret (.bool true)) ∧ OldK s.heap t.heap ∧ t.os = s.os ∧ AllBare t.gens) s := by
  have vs := vals_ints whole
  have len := whole.length
  -- what may be tracked: nothing, or the script
  have main : ∀ H : Hp, Only H → SqL K H a (ns.map V.int) → HOk P w H s.heap → (∀ b, H b ≠ none → b = a) → (H a ≠ none → K.lookup a = none) →
      codeAny (model P w) callerA (.call (.ref f) ⟨[.ref a], []⟩)
        (fun r t => r = .ok (.ret (.bool true)) ∧ OldK s.heap t.heap ∧ t.os = s.os ∧ AllBare t.gens) s := fun H only seq hok one out => by
    have kB : K.In (hidT s.heap H) := fun b o e => by
      refine hidT_get (inK b o e) ?_
      by_cases z : H b = none
      · exact z
      · obtain rfl := one b z
        rw [out z] at e
        cases e
    have gB := hid_ns one obj nsG
    have modB : Mod K mg (hidT s.heap H) := ⟨kB, gB, ⟨mb, hid_ns one obj nsB, boot⟩, by
      obtain ⟨m, l1, l2⟩ := lim
      exact ⟨m, hid_ns one obj l1, l2⟩⟩
    have env0 : Env0 P w K mg (hidT s.heap H) callerA [] s H := ⟨rfl, modB, fun b o e => of_hidT e, Nat.le_of_eq (hidT_size _ _), trivial, fun b hb => absurd (show b ∈ ([] : List Addr) from hb) List.not_mem_nil, hok, .of_eq noG⟩
    have run := (F _ kB gB (hid_seer one obj seer)).run callerA [] s H ⟨[.ref a], []⟩ [.ref a] [.ref a] _ _ room env0 (bind s (.ref a)) (.cons rfl .nil) (says H only seq)
    refine codeAny_mono run fun r t h => ?_
    match r, h with
    | .error e, h => exact (calm H e t h).elim
    | .ok .next, h => exact False.elim h
    | .ok .brk, h => exact False.elim h
    | .ok .cont, h => exact False.elim h
    | .ok (.ret u), ⟨v, H', o1, o2, un, hok', rel, q⟩ =>
      obtain rfl : v = .bl true := q
      obtain rfl : u = Value.bool true := rel
      refine ⟨rfl, OldK.of_keep fun b o e => ?_, o1, o2⟩
      by_cases z : H b = none
      · exact un.keep b o e z (fun y => absurd (show b ∈ ([] : List Addr) from y) List.not_mem_nil) (by simp)
      · rcases only b with y | ⟨ob, xs, y⟩
        · exact absurd y z
        · obtain ⟨p1, _⟩ := hok b _ y
          obtain ⟨p2, _⟩ := hok' b _ (un.frzs b ob _ y)
          cases e.symm.trans p1
          exact p2
  by_cases known : K.lookup a = none
  · refine main (fun b => if b = a then some (.frz { cls := .type "list", data := .seq us.toArray } (.lst (ns.map V.int))) else none) (fun b => ?_) (.inl (.inr ⟨{ cls := .type "list", data := .seq us.toArray }, if_pos rfl⟩)) (fun b u z => ?_) (fun b z => ?_) fun _ => known
    · by_cases hb : b = a
      · exact .inr ⟨_, _, if_pos hb⟩
      · exact .inl (if_neg hb)
    · by_cases hb : b = a
      · subst hb
        cases (if_pos rfl).symm.trans z
        exact ⟨obj, by rw [List.length_map]; exact short, us, _, vs, obj⟩
      · cases (if_neg hb).symm.trans z
    · by_cases hb : b = a
      · exact hb
      · exact absurd (if_neg hb) z
  · obtain ⟨o, ho⟩ := Option.ne_none_iff_exists'.mp known
    cases (inK a o ho).symm.trans obj
    exact main (fun _ => none) (fun _ => .inl rfl) (.inr ⟨_, us.toArray, _, ho, rfl, rfl, rfl, by rw [List.size_toArray, len]; exact short, by simpa using vs⟩) (fun b u z => by cases (show (none : Option HO) = some u from z)) (fun b z => absurd rfl z) fun z => absurd rfl z
theorem walk_seen {l : PySem.W.OpenLaw} {n k : Nat} {q : Program} {loose : List Str} {XP : (Str → Option Value) → Heap → Prop} {YP : World → Heap → Prop} {d : DefRec} {K : Params → PySem.W.Frag} {CX : World → CXT} {sp : World → Sp} {x : Str}
    (most : l.most = some n) (small : n ≤ sizeLine) (plain : d.params.defaults = []) (quiet : importsNone q = true) (room : Room k callerA)
    (said : ∀ (w : World) (h : Heap), YP w h → (K w.params).In h)
    (F : ∀ (w : World) (mg : Str → Option Value) (fa : Addr) (h : Heap), (K w.params).In h → h.Ns mainGlobals mg → mg d.name = some (.ref fa) →
      ∃ fd : FuncData, (∀ (t : Shared) (u : Value), BindsTo t fd ⟨[u], []⟩ [(x, u)]) ∧
        ∀ base : Heap, (K w.params).In base → base.Ns mainGlobals mg → base.NoSeer → FnOk l.prog w (K w.params) mg base (CX w) k fa fd [x] (sp w))
    (says : ∀ (w : World) (H : Hp) (a : Addr) (ns : List Int), ns.length ≤ n → Only H → SqL (K w.params) H a (ns.map V.int) → sp w [.ref a] H (fun v _ => v = .bl true) fun _ _ _ => False)
    (calm : ∀ (w : World) (H : Hp) (s : Shared) (e : Value) (t : Shared), CX w [] H s (fun _ _ _ => False) e t → False) :
    PySem.W.WalkO q loose XP YP l.row.toRowW d [] (fun f vs => PySem.call f vs) := by
  refine Att.attach_call most plain fun w s0 s mg mb fa o pm cd doc a vs ns G Y ho hd hcd hmg hobj hints hlen hg => ?_
  have inK := said w _ Y
  obtain ⟨fd, hb, hF⟩ := F w mg fa _ inK G.T.g hmg
  exact call_seen inK G.T.g G.T.b G.T.builtins G.T.nolimit (G.T.seer quiet) hg hobj hints (Nat.le_trans hlen small) room hF hb (fun H only seq => says w H a ns hlen only seq) fun H e t => calm w H s e t
end En
/-! Pure rules: loops, comprehensions, places, ratios. -/
namespace En
open PySem PySem.Spec PyProof.Rows L2
theorem wIf_tt {c : Bool} {A B : Prop} (h : c = true) (h1 : A) : wIf c A B := by subst h; exact h1
theorem wIf_ff {c : Bool} {A B : Prop} (h : c = false) (h1 : B) : wIf c A B := by subst h; exact h1
@[simp] theorem wIf_true {A B : Prop} : wIf true A B = A := rfl
@[simp] theorem wIf_false {A B : Prop} : wIf false A B = B := rfl
/-! ### how operators read -/
section
variable {i j : Int} {k k' : Bool} {Q : D → Prop} {xs ys : List D} {s s' : Str} {C : Int → Int → Prop} {g : Int → Int → D} {d : D}
theorem dI0_ii : dI0 g (.int i) (.int j) Q = Q (g i j) := rfl
theorem dI_ii : dI C g (.int i) (.int j) Q = (C i j ∧ Q (g i j)) := rfl
theorem dNeg_i : dNeg (.int i) Q = Q (.int (-i)) := rfl
theorem dGcd_ii : dGcd (.int i) (.int j) Q = Q (.int ((Nat.gcd i.natAbs j.natAbs : Nat) : Int)) := rfl
theorem dAbs_i : dAbs (.int i) Q = Q (.int (if i < 0 then -i else i)) := rfl
theorem dInt_i : dInt (.int i) Q = Q (.int i) := rfl
theorem dInt_b : dInt (.bl k) Q = Q (.int (if k then 1 else 0)) := rfl
theorem dBits_i : dBits (.int i) Q = Q (.int (Builtin.Int.intBits i : Nat)) := rfl
theorem dLen_t : dLen (.tup xs) Q = Q (.int xs.length) := rfl
theorem dLen_l : dLen (.lst xs) Q = Q (.int xs.length) := rfl
theorem dTuple_t : dTuple (.tup xs) Q = Q (.tup xs) := rfl
theorem dTuple_l : dTuple (.lst xs) Q = Q (.tup xs) := rfl
theorem dAdd_ii : dAdd (.int i) (.int j) Q = Q (.int (i + j)) := rfl
theorem dAdd_tt : dAdd (.tup xs) (.tup ys) Q = (xs.length + ys.length ≤ 1000000 ∧ Q (.tup (xs ++ ys))) := rfl
theorem dAdd_ll : dAdd (.lst xs) (.lst ys) Q = (xs.length + ys.length ≤ 1000000 ∧ Q (.lst (xs ++ ys))) := rfl
theorem dAdd_ss : dAdd (.str s) (.str s') Q = (s.length + s'.length ≤ 1000000 ∧ Q (.str (s ++ s'))) := rfl
theorem dMul_ii : dMul (.int i) (.int j) Q = (CMulW i j ∧ Q (.int (i * j))) := rfl
theorem dMul_li : dMul (.lst xs) (.int j) Q = ((xs.length * j.toNat ≤ 1000000 ∧ -(2 ^ 63) ≤ j ∧ j < 2 ^ 63) ∧ Q (.lst (List.replicate j.toNat xs).flatten)) := rfl
theorem dIs_n : dIs d .non Q = Q (.bl d.isNon) := rfl
theorem dIs_b : dIs (.bl k) (.bl k') Q = Q (.bl (k == k')) := rfl
theorem dIsN_n : dIsN d .non Q = Q (.bl (!d.isNon)) := rfl
theorem dRepr_b : dRepr (.bl k) Q = Q (.str (boolStr k)) := rfl
end
/-! ### loops -/
theorem for_rule {T : Tg} {W : WS} {E : Ens} {ds : List D} (I : Nat → Env → Nat → Prop)
    (step : ∀ (i : Nat) (d : D) (env : Env) (b : Nat) (E' : Ens), ds[i]? = some d → I i env b → (∀ e b, I (i + 1) e b → E'.nx e b) → (∀ e b, I (i + 1) e b → E'.ct e b) → E'.bk = E.nx → E'.rt = E.rt → ∃ env1, setTg T d env = some env1 ∧ W E' env1 b)
    (fin : ∀ env b, I ds.length env b → E.nx env b) : ∀ (env : Env) (b : Nat), I 0 env b → forL T W ds E env b := by
  have go : ∀ (n i : Nat), n + i = ds.length → ∀ env b, I i env b → forL T W (ds.drop i) E env b := by
    intro n
    induction n with
    | zero =>
      intro i hi env b h
      rw [List.drop_of_length_le (by omega)]
      have : i = ds.length := by omega
      subst this
      exact fin env b h
    | succ n ih =>
      intro i hi env b h
      have hl : i < ds.length := by omega
      rw [List.drop_eq_getElem_cons hl]
      simp only [forL]
      obtain ⟨env1, h1, h2⟩ := step i _ env b { nx := fun e b => forL T W (ds.drop (i + 1)) E e b, ct := fun e b => forL T W (ds.drop (i + 1)) E e b, bk := E.nx, rt := E.rt } (List.getElem?_eq_getElem hl) h (fun e b h => ih (i + 1) (by omega) e b h) (fun e b h => ih (i + 1) (by omega) e b h) rfl rfl
      rw [h1]
      exact h2
  intro env b h
  exact go ds.length 0 (by omega) env b h
theorem while_rule {C : WT} {W : WS} {E : Ens} (I : Nat → Env → Nat → Prop)
    (step : ∀ (m : Nat) (env : Env) (b : Nat) (K : Bool → Nat → Prop), I m env b → (∀ b1, (∃ m', m = m' + 1 ∧ ∀ (E' : Ens), (∀ e b, I m' e b → E'.nx e b) → (∀ e b, I m' e b → E'.ct e b) → E'.bk = E.nx → E'.rt = E.rt → W E' env b1) → K true b1) → (∀ b1, E.nx env b1 → K false b1) → C env b K) : ∀ (m : Nat) (env : Env) (b : Nat), I m env b → ∃ n, whL C W E n env b := by
  have go : ∀ (m n : Nat), m < n → ∀ env b, I m env b → whL C W E n env b := by
    intro m
    induction m with
    | zero =>
      intro n hn env b h
      obtain ⟨n, rfl⟩ : ∃ k, n = k + 1 := ⟨n - 1, by omega⟩
      simp only [whL]
      refine step 0 env b _ h (fun b1 ⟨m', e, _⟩ => by omega) (fun b1 h1 => h1)
    | succ m ih =>
      intro n hn env b h
      obtain ⟨n, rfl⟩ : ∃ k, n = k + 1 := ⟨n - 1, by omega⟩
      simp only [whL]
      refine step (m + 1) env b _ h (fun b1 ⟨m', e, h1⟩ => ?_) (fun b1 h1 => h1)
      obtain rfl : m' = m := by omega
      exact h1 _ (fun e b h => ih n (by omega) e b h) (fun e b h => ih n (by omega) e b h) rfl rfl
  intro m env b h
  exact ⟨m + 1, go m (m + 1) (by omega) env b h⟩
/-! ### comprehensions -/
theorem cmp_rule {T : Tg} {C : WT} {We : WE} {env0 : Env} {b : Nat} (g : D → Option D) : ∀ (ds : List D) (Q : List D → Nat → Prop),
    (∀ d ∈ ds, ∃ env1, setTg T d env0 = some env1 ∧ ∀ (K1 : D → Nat → Prop) (K2 : Nat → Prop), (∀ x, g d = some x → K1 x b) → (g d = none → K2 b) → C env1 b fun c b1 => wIf c (We env1 b1 K1) (K2 b1)) →
    Q (ds.filterMap g) b → cmpL T C We env0 ds b Q
  | [], Q, _, q => q
  | d :: r, Q, h, q => by
    obtain ⟨env1, h1, h2⟩ := h d List.mem_cons_self
    simp only [cmpL, h1]
    refine h2 _ _ (fun x hx => ?_) (fun hx => ?_)
    · refine cmp_rule g r _ (fun d hd => h d (List.mem_cons_of_mem _ hd)) ?_
      rw [List.filterMap_cons, hx] at q
      exact q
    · refine cmp_rule g r _ (fun d hd => h d (List.mem_cons_of_mem _ hd)) ?_
      rw [List.filterMap_cons, hx] at q
      exact q
theorem cmp_map {T : Tg} {We : WE} {env0 : Env} {b : Nat} (g : D → D) (ds : List D) (Q : List D → Nat → Prop)
    (h : ∀ d ∈ ds, ∃ env1, setTg T d env0 = some env1 ∧ ∀ (K : D → Nat → Prop), K (g d) b → We env1 b K) (q : Q (ds.map g) b) : cmpL T wYes We env0 ds b Q := by
  refine cmp_rule (fun d => some (g d)) ds Q (fun d hd => ?_) (by
    rw [show (fun d => some (g d)) = some ∘ g from rfl, List.filterMap_eq_map]
    exact q)
  obtain ⟨env1, h1, h2⟩ := h d hd
  exact ⟨env1, h1, fun K1 K2 k1 _ => h2 K1 (k1 _ rfl)⟩
/-- by place -/
theorem cmp_at {T : Tg} {We : WE} {env0 : Env} {b : Nat} {α : Type} (f : α → D) (g : α → D) : ∀ (xs : List α) (Q : List D → Nat → Prop)
    (h : ∀ x ∈ xs, ∃ env1, setTg T (f x) env0 = some env1 ∧ ∀ (K : D → Nat → Prop), K (g x) b → We env1 b K) (q : Q (xs.map g) b), cmpL T wYes We env0 (xs.map f) b Q
  | [], Q, _, q => q
  | x :: r, Q, h, q => by
    obtain ⟨env1, h1, h2⟩ := h x List.mem_cons_self
    simp only [List.map_cons, cmpL, h1]
    show We env1 b _
    exact h2 _ (cmp_at f g r _ (fun y hy => h y (List.mem_cons_of_mem _ hy)) q)
/-- each costs at most c of what is left, and is any of P -/
theorem cmp_any {T : Tg} {We : WE} {env0 : Env} {α : Type} (f : α → D) (P : α → D → Prop) (c : Nat) : ∀ (xs : List α) (b : Nat) (Q : List D → Nat → Prop)
    (_ : c * xs.length ≤ b) (h : ∀ x ∈ xs, ∃ env1, setTg T (f x) env0 = some env1 ∧ ∀ (b : Nat) (K : D → Nat → Prop), c ≤ b → (∀ y b', P x y → b ≤ b' + c → K y b') → We env1 b K)
    (q : ∀ ys b', ys.length = xs.length → (∀ (i : Nat) (x : α) (y : D), xs[i]? = some x → ys[i]? = some y → P x y) → b ≤ b' + c * xs.length → Q ys b'), cmpL T wYes We env0 (xs.map f) b Q
  | [], b, Q, _, _, q => q [] b rfl (fun i x y h => by simp at h) (by simp)
  | x :: r, b, Q, hb, h, q => by
    obtain ⟨env1, h1, h2⟩ := h x List.mem_cons_self
    simp only [List.length_cons, Nat.mul_add, Nat.mul_one] at hb q
    simp only [List.map_cons, cmpL, h1]
    show We env1 b _
    refine h2 b _ (by omega) fun y b' py hb' => ?_
    refine cmp_any f P c r b' _ (by omega) (fun y hy => h y (List.mem_cons_of_mem _ hy)) fun ys b2 hl hp hb2 => ?_
    refine q (y :: ys) b2 (by simp [hl]) (fun i x' y' hx hy => ?_) (by omega)
    cases i with
    | zero =>
      simp at hx hy
      subst hx hy
      exact py
    | succ i => exact hp i x' y' (by simpa using hx) (by simpa using hy)
/-! ### places -/
theorem ixN_nat' {n j : Nat} (hj : j < n) : ixN n (j : Int) = some j := by
  unfold ixN
  rw [if_pos (by omega), if_pos (by omega), Int.toNat_natCast]
theorem atI_nat' {α : Type} {xs : List α} {j : Nat} {x : α} (h : xs[j]? = some x) : atI xs (j : Int) = some x := by
  have hj := (List.getElem?_eq_some_iff.mp h).1
  unfold atI
  rw [ixN_nat' hj]
  exact h
theorem dIx_t {ds : List D} {j : Nat} {d : D} {Q : D → Prop} (h : ds[j]? = some d) (q : Q d) : dIx (.tup ds) (.int (j : Int)) Q := by
  simp only [dIx, atI_nat' h]
  exact q
theorem dIx_l {ds : List D} {j : Nat} {d : D} {Q : D → Prop} (h : ds[j]? = some d) (q : Q d) : dIx (.lst ds) (.int (j : Int)) Q := by
  simp only [dIx, atI_nat' h]
  exact q
theorem dIx_t0 {d : D} {r : List D} {Q : D → Prop} (q : Q d) : dIx (.tup (d :: r)) (.int 0) Q := dIx_t (j := 0) rfl q
theorem dIx_t1 {c d : D} {r : List D} {Q : D → Prop} (q : Q d) : dIx (.tup (c :: d :: r)) (.int 1) Q := dIx_t (j := 1) rfl q
theorem rangeD_eq (lo : Int) (n : Nat) : rangeD lo n = (List.range n).map fun (i : Nat) => D.int (lo + i) := rfl
theorem rangeD_get {lo : Int} {n i : Nat} {d : D} (h : (rangeD lo n)[i]? = some d) : i < n ∧ d = .int (lo + i) := by
  have hi : i < n := by
    have := (List.getElem?_eq_some_iff.mp h).1
    simpa [rangeD] using this
  refine ⟨hi, ?_⟩
  simp [rangeD, hi] at h
  exact h.symm
theorem rangeD_len {lo : Int} {n : Nat} : (rangeD lo n).length = n := by simp [rangeD]
/-! ### ratios -/
def rt (r : Rat) : D := .tup [.int r.num, .int (r.den : Int)]
theorem rt_inj {x y : Rat} (h : rt x = rt y) : x = y := by
  simp only [rt, D.tup.injEq, List.cons.injEq, D.int.injEq] at h
  exact Rat.ext h.1 (by omega)
theorem den_pos (x : Rat) : 0 < (x.den : Int) := by have := x.den_pos; omega
theorem rt_0 {x : Rat} {Q : D → Prop} : dIx (rt x) (.int 0) Q = Q (.int x.num) := rfl
theorem rt_1 {x : Rat} {Q : D → Prop} : dIx (rt x) (.int 1) Q = Q (.int (x.den : Int)) := rfl
/-- what fits -/
def SB : Nat := 499000
structure Sz (x : Rat) : Prop where
  n : x.num.natAbs < 2 ^ SB
  d : x.den < 2 ^ SB
theorem log2_lt {n k : Nat} (h : n < 2 ^ k) (hk : 0 < k) : n.log2 < k := by
  by_cases z : n = 0
  · subst z
    simpa using hk
  · exact (Nat.log2_lt z).mpr h
theorem mul_lt_pow {a b k l : Nat} (h : a < 2 ^ k) (h' : b < 2 ^ l) : a * b < 2 ^ (k + l) := by
  rw [Nat.pow_add]
  exact Nat.mul_lt_mul'' h h'
theorem cmulW_of {i j : Int} {k l : Nat} (h : i.natAbs < 2 ^ k) (h' : j.natAbs < 2 ^ l) (hk : 0 < k) (hl : 0 < l) (s : k + l ≤ 1000000) : CMulW i j := by
  have h1 := log2_lt h hk
  have h2 := log2_lt h' hl
  show i.natAbs.log2 + j.natAbs.log2 < 1000000
  omega
/-- what lowest makes of top and bottom -/
def byOf (t b : Int) : Int := if 0 < b then ((Nat.gcd t.natAbs b.natAbs : Nat) : Int) else -((Nat.gcd t.natAbs b.natAbs : Nat) : Int)
theorem sign_neg' {b : Int} (h : b < 0) : b.sign = -1 := Int.sign_eq_neg_one_of_neg h
theorem gcd_ne {t b : Int} (hb : b ≠ 0) : ((Nat.gcd t.natAbs b.natAbs : Nat) : Int) ≠ 0 := by
  have : 0 < Nat.gcd t.natAbs b.natAbs := Nat.gcd_pos_of_pos_right _ (by omega)
  omega
theorem byOf_ne {t b : Int} (hb : b ≠ 0) : byOf t b ≠ 0 := by
  unfold byOf
  have := gcd_ne (t := t) hb
  split <;> omega
theorem byOf_abs (t b : Int) : (byOf t b).natAbs = Nat.gcd t.natAbs b.natAbs := by
  unfold byOf
  split <;> omega
theorem byOf_dvd_t (t b : Int) : byOf t b ∣ t := by
  unfold byOf
  have h : ((Nat.gcd t.natAbs b.natAbs : Nat) : Int) ∣ t := Int.ofNat_dvd_left.2 (Nat.gcd_dvd_left _ _)
  split
  · exact h
  · exact Int.neg_dvd.2 h
theorem byOf_dvd_b (t b : Int) : byOf t b ∣ b := by
  unfold byOf
  have h : ((Nat.gcd t.natAbs b.natAbs : Nat) : Int) ∣ b := Int.ofNat_dvd_left.2 (Nat.gcd_dvd_right _ _)
  split
  · exact h
  · exact Int.neg_dvd.2 h
theorem fdiv_dvd {a b : Int} (h : b ∣ a) (hb : b ≠ 0) : a.fdiv b * b = a := by
  rw [Int.fdiv_eq_ediv_of_dvd h]
  exact Int.ediv_mul_cancel h
theorem low_den_pos {t b : Int} (hb : b ≠ 0) : 0 < b.fdiv (byOf t b) := by
  have h := fdiv_dvd (byOf_dvd_b t b) (byOf_ne (t := t) hb)
  have hg := gcd_ne (t := t) hb
  unfold byOf at h ⊢
  split at h
  · rename_i hp
    rw [if_pos hp]
    generalize b.fdiv _ = q at h
    rcases Int.lt_trichotomy q 0 with z | z | z
    · exfalso
      have : q * ((Nat.gcd t.natAbs b.natAbs : Nat) : Int) ≤ 0 := Int.mul_nonpos_of_nonpos_of_nonneg (by omega) (by omega)
      omega
    · subst z
      simp at h
      omega
    · exact z
  · rename_i hp
    rw [if_neg hp]
    generalize b.fdiv _ = q at h
    rcases Int.lt_trichotomy q 0 with z | z | z
    · exfalso
      have : 0 ≤ q * -((Nat.gcd t.natAbs b.natAbs : Nat) : Int) := Int.mul_nonneg_of_nonpos_of_nonpos (by omega) (by omega)
      omega
    · subst z
      simp at h
      omega
    · exact z
theorem low_gcd {t b : Int} (hb : b ≠ 0) : Nat.gcd (t.fdiv (byOf t b)).natAbs (b.fdiv (byOf t b)).natAbs = 1 := by
  have h1 := fdiv_dvd (byOf_dvd_t t b) (byOf_ne (t := t) hb)
  have h2 := fdiv_dvd (byOf_dvd_b t b) (byOf_ne (t := t) hb)
  have a := byOf_abs t b
  have hg := gcd_ne (t := t) hb
  generalize t.fdiv _ = x at h1
  generalize b.fdiv _ = y at h2
  have e1 : t.natAbs = x.natAbs * Nat.gcd t.natAbs b.natAbs := by rw [← a, ← Int.natAbs_mul, h1]
  have e2 : b.natAbs = y.natAbs * Nat.gcd t.natAbs b.natAbs := by rw [← a, ← Int.natAbs_mul, h2]
  have e3 : Nat.gcd (x.natAbs * Nat.gcd t.natAbs b.natAbs) (y.natAbs * Nat.gcd t.natAbs b.natAbs) = Nat.gcd t.natAbs b.natAbs := by rw [← e1, ← e2]
  rw [Nat.gcd_mul_right] at e3
  have hp : 0 < Nat.gcd t.natAbs b.natAbs := by omega
  exact Nat.eq_of_mul_eq_mul_right hp (by rw [e3, Nat.one_mul])
/-- the ratio in lowest terms -/
theorem low_eq {t b : Int} (hb : b ≠ 0) : (Rat.divInt t b).num = t.fdiv (byOf t b) ∧ ((Rat.divInt t b).den : Int) = b.fdiv (byOf t b) := by
  have hp := low_den_pos (t := t) hb
  have hg := low_gcd (t := t) hb
  have h1 := fdiv_dvd (byOf_dvd_t t b) (byOf_ne (t := t) hb)
  have h2 := fdiv_dvd (byOf_dvd_b t b) (byOf_ne (t := t) hb)
  generalize t.fdiv (byOf t b) = x at hg h1
  generalize hy : b.fdiv (byOf t b) = y at hp hg h2
  have e : Rat.divInt t b = ⟨x, y.natAbs, by omega, by show Nat.gcd x.natAbs y.natAbs = 1; exact hg⟩ := by
    have e2 : (⟨x, y.natAbs, by omega, by show Nat.gcd x.natAbs y.natAbs = 1; exact hg⟩ : Rat) = Rat.divInt x y := by
      rw [← Rat.num_divInt_den ⟨x, y.natAbs, by omega, by show Nat.gcd x.natAbs y.natAbs = 1; exact hg⟩]
      show Rat.divInt x (y.natAbs : Int) = Rat.divInt x y
      rw [Int.natAbs_of_nonneg (by omega)]
    rw [e2]
    have hb' := byOf_ne (t := t) hb
    generalize byOf t b = c at h1 h2 hb'
    subst h1 h2
    exact Rat.divInt_mul_right hb'
  rw [e]
  exact ⟨rfl, by show ((y.natAbs : Nat) : Int) = y; omega⟩
end En
/-! The ratio defs of the program and of the laws: what they promise, and that their bodies do so. -/
namespace En
open PySem PySem.Spec PyProof.Rows L2
def f_int : Ty → Bool | .int => true | .bl => true | _ => false
def f_bool : Ty → Bool | .bl => true | _ => false
def f_tuple : Ty → Bool | .tup => true | _ => false
def f_list : Ty → Bool | .lst => true | _ => false
def f_tuple_list : Ty → Bool | .tup => true | .lst => true | _ => false
def f_str : Ty → Bool | .str => true | _ => false
theorem is_int : ∀ t : Ty, kitB t.name "int" = some (f_int t) := by intro t; cases t <;> decide +kernel
theorem is_bool : ∀ t : Ty, kitB t.name "bool" = some (f_bool t) := by intro t; cases t <;> decide +kernel
theorem is_tuple : ∀ t : Ty, kitB t.name "tuple" = some (f_tuple t) := by intro t; cases t <;> decide +kernel
theorem is_list : ∀ t : Ty, kitB t.name "list" = some (f_list t) := by intro t; cases t <;> decide +kernel
theorem is_str : ∀ t : Ty, kitB t.name "str" = some (f_str t) := by intro t; cases t <;> decide +kernel
theorem is_tuple_list : ∀ t : Ty, ∃ c1 c2, kitB t.name "tuple" = some c1 ∧ kitB t.name "list" = some c2 ∧ f_tuple_list t = (c1 || c2) := by
  intro t
  exact ⟨f_tuple t, f_list t, is_tuple t, is_list t, by cases t <;> rfl⟩
def kNONE : D := .tup [.int 0, .int 1]
def kONE : D := .tup [.int 1, .int 1]
theorem kNONE_eq : kNONE = rt 0 := rfl
theorem kONE_eq : kONE = rt 1 := rfl
/-! ### the values' kinds -/
def D.isInt : D → Bool | .int _ => true | _ => false
/-- no object of a class here or one step below -/
def D.shal : D → Bool
  | .ins _ _ => false
  | .pen => false
  | .fn _ _ _ => false
  | .tup ds => ds.all fun d => d.ty.isSome
  | .lst ds => ds.all fun d => d.ty.isSome
  | _ => true
def pair2 : D → D → Bool | .int _, .int k => decide (0 < k) | _, _ => false
def D.isPair : D → Bool
  | .tup [x, y] => pair2 x y
  | .lst [x, y] => pair2 x y
  | _ => false
def told2 : D → D → Option Rat
  | .int t, .int k => if h : 0 < k ∧ Nat.gcd t.natAbs k.natAbs = 1 then some ⟨t, k.natAbs, by omega, h.2⟩ else none
  | _, _ => none
/-- a ratio in lowest terms, above it its ratio -/
def D.told : D → Option Rat
  | .tup [x, y] => told2 x y
  | _ => none
theorem told_rt (x : Rat) : (rt x).told = some x := by
  have h : 0 < (x.den : Int) ∧ Nat.gcd x.num.natAbs (x.den : Int).natAbs = 1 := ⟨den_pos x, by rw [Int.natAbs_natCast]; exact x.reduced⟩
  simp only [rt, D.told, told2]
  rw [dif_pos h]
  congr 1
theorem told_some {d : D} {x : Rat} (h : d.told = some x) : d = rt x := by
  unfold D.told at h
  split at h
  · unfold told2 at h
    split at h
    · rename_i t k
      split at h
      · rename_i hh
        simp only [Option.some.injEq] at h
        subst h
        have e : ((k.natAbs : Nat) : Int) = k := by have := hh.1; omega
        show D.tup [.int t, .int k] = D.tup [.int t, .int ((k.natAbs : Nat) : Int)]
        rw [e]
      · cases h
    · cases h
  · cases h
def p_is_whole : Spec := fun ds b Q => ∃ d, ds = [d] ∧ d.ty.isSome = true ∧ Q (.bl d.isInt) b
def p_is_tuple_of : Spec := fun ds b Q => ∃ d m, ds = [d, .int m] ∧ d.ty.isSome = true ∧ Q (.bl (match d with | .tup es => decide ((es.length : Int) = m) | _ => false)) b
def p_copied : Spec := fun ds b Q => ∃ d, ds = [d] ∧ d.ty.isSome = true ∧ Q (cpD d) b
def p_is_pair : Spec := fun ds b Q => ∃ d, ds = [d] ∧ d.shal = true ∧ Q (.bl d.isPair) b
def p_lowest : Spec := fun ds b Q => ∃ t k, ds = [.int t, .int k] ∧ k ≠ 0 ∧ Q (rt (Rat.divInt t k)) b
def p_is_told : Spec := fun ds b Q => ∃ d, ds = [d] ∧ d.shal = true ∧ Q (.bl d.told.isSome) b
def p_bin (op : Rat → Rat → Rat) (C : Rat → Rat → Prop) : Spec := fun ds b Q => ∃ x y, ds = [rt x, rt y] ∧ Sz x ∧ Sz y ∧ C x y ∧ Q (rt (op x y)) b
def p_summed : Spec := p_bin (· + ·) fun _ _ => True
def p_lessened : Spec := p_bin (· - ·) fun _ _ => True
def p_scaled : Spec := p_bin (· * ·) fun _ _ => True
def p_parted : Spec := p_bin (· / ·) fun _ y => y ≠ 0
def p_turned_sign : Spec := fun ds b Q => ∃ x, ds = [rt x] ∧ Q (rt (-x)) b
def p__law_is_int : Spec := p_is_whole
def p__law_gcd : Spec := fun ds b Q => ∃ t k, ds = [.int t, .int k] ∧ t.natAbs.log2 < 1000000 ∧ k.natAbs.log2 < 1000000 ∧ Q (.int ((Nat.gcd t.natAbs k.natAbs : Nat) : Int)) b
def p__law_q : Spec := fun ds b Q => ∃ t k, ds = [.int t, .int k] ∧ k ≠ 0 ∧ t.natAbs.log2 < 1000000 ∧ k.natAbs.log2 < 1000000 ∧ Q (rt (Rat.divInt t k)) b
def p__law_plus : Spec := p_bin (· + ·) fun _ _ => True
def p__law_minus : Spec := p_bin (· - ·) fun _ _ => True
def p__law_times : Spec := p_bin (· * ·) fun _ _ => True
def p__law_share : Spec := p_bin (· / ·) fun _ y => y ≠ 0
/-- told by the law: sizes for its gcd -/
def D.smallPair : D → Prop
  | .tup [.int t, .int k] => t.natAbs.log2 < 1000000 ∧ k.natAbs.log2 < 1000000
  | _ => True
def p__law_is_told : Spec := fun ds b Q => ∃ d, ds = [d] ∧ d.shal = true ∧ d.smallPair ∧ Q (.bl d.told.isSome) b
/-- is_whole: value -/
def W_is_whole : WS := (wRet (wAndV (wIsT f_int (wVarB 0)) (wNotV (wIsT f_bool (wVarB 0)))))
/-- is_tuple_of: value, many -/
def W_is_tuple_of : WS := (wRet (wAndV (wIsT f_tuple (wVarB 0)) (wBin dEq (wUn dLen (wVarB 0)) (wVarB 1))))
/-- copied: value -/
def W_copied : WS := (wRet (wIte (wT (wIsT f_list (wVarB 0))) (wUn dTuple (wVarB 0)) (wVar 0)))
/-- is_pair: value -/
def W_is_pair : WS := (wSeq (wIfS (wOr (wNot (wT (wIsT f_tuple_list (wVarB 0)))) (wT (wBin dNe (wUn dLen (wVarB 0)) (wC (.int 2))))) (wRet (wC (.bl false))) wNext) (wRet (wAndV (wCall 1 p_is_whole (wCons (wBin dIx (wVarB 0) (wC (.int 0))) wNil)) (wAndV (wCall 1 p_is_whole (wCons (wBin dIx (wVarB 0) (wC (.int 1))) wNil)) (wBin dGt (wBin dIx (wVarB 0) (wC (.int 1))) (wC (.int 0)))))))
/-- lowest: top, bottom, by -/
def W_lowest : WS := (wSeq (wSet 2 (wIte (wT (wBin dGt (wVarB 1) (wC (.int 0)))) (wC2 dGcd (wCons (wVar 0) (wCons (wVar 1) wNil))) (wUn dNeg (wC2 dGcd (wCons (wVar 0) (wCons (wVar 1) wNil)))))) (wRet (wTup (wCons (wBin dDivU (wVarB 0) (wVarB 2)) (wCons (wBin dDivU (wVarB 1) (wVarB 2)) wNil)))))
/-- is_told: value -/
def W_is_told : WS := (wRet (wAndV (wIsT f_tuple (wVarB 0)) (wAndV (wCall 1 p_is_pair (wCons (wVar 0) wNil)) (wBin dEq (wC2 dGcd (wCons (wBin dIx (wVarB 0) (wC (.int 0))) (wCons (wBin dIx (wVarB 0) (wC (.int 1))) wNil))) (wC (.int 1))))))
/-- summed: one, other -/
def W_summed : WS := (wRet (wCall 2 p_lowest (wCons (wBin dAdd (wBin dMul (wBin dIx (wVarB 0) (wC (.int 0))) (wBin dIx (wVarB 1) (wC (.int 1)))) (wBin dMul (wBin dIx (wVarB 1) (wC (.int 0))) (wBin dIx (wVarB 0) (wC (.int 1))))) (wCons (wBin dMul (wBin dIx (wVarB 0) (wC (.int 1))) (wBin dIx (wVarB 1) (wC (.int 1)))) wNil))))
/-- lessened: one, other -/
def W_lessened : WS := (wRet (wCall 2 p_lowest (wCons (wBin dSub (wBin dMul (wBin dIx (wVarB 0) (wC (.int 0))) (wBin dIx (wVarB 1) (wC (.int 1)))) (wBin dMul (wBin dIx (wVarB 1) (wC (.int 0))) (wBin dIx (wVarB 0) (wC (.int 1))))) (wCons (wBin dMul (wBin dIx (wVarB 0) (wC (.int 1))) (wBin dIx (wVarB 1) (wC (.int 1)))) wNil))))
/-- scaled: one, other -/
def W_scaled : WS := (wRet (wCall 2 p_lowest (wCons (wBin dMul (wBin dIx (wVarB 0) (wC (.int 0))) (wBin dIx (wVarB 1) (wC (.int 0)))) (wCons (wBin dMul (wBin dIx (wVarB 0) (wC (.int 1))) (wBin dIx (wVarB 1) (wC (.int 1)))) wNil))))
/-- parted: one, other -/
def W_parted : WS := (wRet (wCall 2 p_lowest (wCons (wBin dMul (wBin dIx (wVarB 0) (wC (.int 0))) (wBin dIx (wVarB 1) (wC (.int 1)))) (wCons (wBin dMul (wBin dIx (wVarB 0) (wC (.int 1))) (wBin dIx (wVarB 1) (wC (.int 0)))) wNil))))
/-- turned_sign: one -/
def W_turned_sign : WS := (wRet (wTup (wCons (wUn dNeg (wBin dIx (wVarB 0) (wC (.int 0)))) (wCons (wBin dIx (wVarB 0) (wC (.int 1))) wNil))))
/-- _law_is_int: thing -/
def W__law_is_int : WS := (wRet (wAndV (wIsT f_int (wVarB 0)) (wNotV (wIsT f_bool (wVarB 0)))))
/-- _law_gcd: one, two, lap -/
def W__law_gcd : WS := (wSeq (wPar 0 1 (wV (wUn dAbs (wVarB 0))) (wV (wUn dAbs (wVarB 1)))) (wSeq (wFor (.one 2) (wRng1 (wCons (wBin dAdd (wC (.int 4)) (wBin dMul (wC (.int 2)) (wUn dBits (wUn dInt (wVarB 1))))) wNil)) (wSeq (wIfS (wT (wBin dEq (wVarB 1) (wC (.int 0)))) wBreak wNext) (wPar 0 1 (wV (wVar 1)) (wV (wBin dMod (wUn dInt (wVarB 0)) (wVarB 1)))))) (wRet (wVar 0))))
/-- _law_q: top, bottom, by -/
def W__law_q : WS := (wSeq (wSet 2 (wCall 2 p__law_gcd (wCons (wVar 0) (wCons (wVar 1) wNil)))) (wSeq (wSet 2 (wIte (wT (wBin dLt (wVarB 1) (wC (.int 0)))) (wUn dNeg (wVarB 2)) (wVar 2))) (wRet (wTup (wCons (wBin dDivU (wVarB 0) (wVarB 2)) (wCons (wBin dDivU (wVarB 1) (wVarB 2)) wNil))))))
/-- _law_plus: one, two -/
def W__law_plus : WS := (wRet (wCall 2 p__law_q (wCons (wBin dAdd (wBin dMul (wBin dIx (wVarB 0) (wC (.int 0))) (wBin dIx (wVarB 1) (wC (.int 1)))) (wBin dMul (wBin dIx (wVarB 1) (wC (.int 0))) (wBin dIx (wVarB 0) (wC (.int 1))))) (wCons (wBin dMul (wBin dIx (wVarB 0) (wC (.int 1))) (wBin dIx (wVarB 1) (wC (.int 1)))) wNil))))
/-- _law_minus: one, two -/
def W__law_minus : WS := (wRet (wCall 2 p__law_q (wCons (wBin dSub (wBin dMul (wBin dIx (wVarB 0) (wC (.int 0))) (wBin dIx (wVarB 1) (wC (.int 1)))) (wBin dMul (wBin dIx (wVarB 1) (wC (.int 0))) (wBin dIx (wVarB 0) (wC (.int 1))))) (wCons (wBin dMul (wBin dIx (wVarB 0) (wC (.int 1))) (wBin dIx (wVarB 1) (wC (.int 1)))) wNil))))
/-- _law_times: one, two -/
def W__law_times : WS := (wRet (wCall 2 p__law_q (wCons (wBin dMul (wBin dIx (wVarB 0) (wC (.int 0))) (wBin dIx (wVarB 1) (wC (.int 0)))) (wCons (wBin dMul (wBin dIx (wVarB 0) (wC (.int 1))) (wBin dIx (wVarB 1) (wC (.int 1)))) wNil))))
/-- _law_share: one, two -/
def W__law_share : WS := (wRet (wCall 2 p__law_q (wCons (wBin dMul (wBin dIx (wVarB 0) (wC (.int 0))) (wBin dIx (wVarB 1) (wC (.int 1)))) (wCons (wBin dMul (wBin dIx (wVarB 0) (wC (.int 1))) (wBin dIx (wVarB 1) (wC (.int 0)))) wNil))))
/-- _law_is_told: thing -/
def W__law_is_told : WS := (wSeq (wIfS (wOr (wNot (wT (wIsT f_tuple (wVarB 0)))) (wOr (wT (wBin dNe (wUn dLen (wVarB 0)) (wC (.int 2)))) (wOr (wNot (wT (wCall 1 p__law_is_int (wCons (wBin dIx (wVarB 0) (wC (.int 0))) wNil)))) (wNot (wT (wCall 1 p__law_is_int (wCons (wBin dIx (wVarB 0) (wC (.int 1))) wNil))))))) (wRet (wC (.bl false))) wNext) (wRet (wAndV (wBin dGt (wBin dIx (wVarB 0) (wC (.int 1))) (wC (.int 0))) (wBin dEq (wCall 2 p__law_gcd (wCons (wBin dIx (wVarB 0) (wC (.int 0))) (wCons (wBin dIx (wVarB 0) (wC (.int 1))) wNil))) (wC (.int 1))))))
theorem hp_is_whole : ∀ ds b Q, ds.length = 1 → p_is_whole ds b Q → W_is_whole { nx := fun _ b' => Q .non b', rt := Q } (ds.map Slot.v ++ List.replicate 0 .un) b := by
  rintro ds b Q - ⟨d, rfl, ht, q⟩
  show W_is_whole _ [.v d] b
  cases d <;> first | (simp [D.ty] at ht; done) | ((try simp only [wSeq, wSet, wSetO, wRet, wIfS, wFrz, wApp, wDrop, wNext, wBreak, wCont, wNever, wVar, wVarB, wC, wBin, wUn, wT, wAnd, wOr, wNot, wAndV, wOrV, wNotV, wIte, wNil, wCons, wTup, wCall, wListOf, wC2, wIsT, wIsC, wFld, wON, wOS, wSl, wV, wO, wSetIx, wPar, wSwap, wSeqOf, wRng1, wRng2, wFor, wWhile, wYes, wComp, wEnum, wZip, wEnum2, wRgT, wRgL, wAug, dMulT, dMax, wMake, wFz, wCat, wRep, wipeE, D.ty, wIf_true, wIf_false, List.getElem?_cons_zero, List.getElem?_cons_succ, List.set_cons_zero, List.set_cons_succ, dI0_ii, dI_ii, dNeg_i, dGcd_ii, dAbs_i, dInt_i, dInt_b, dBits_i, dLen_t, dLen_l, dTuple_t, dTuple_l, dAdd_ii, dAdd_tt, dAdd_ll, dAdd_ss, dMul_ii, dMul_li, dIs_n, dIs_b, dIsN_n, dRepr_b, rt_0, rt_1, dEq, dNe, dSub, dDiv, dDivU, dMod, dLt, dLe, dGt, dGe, D.isNon, Bool.not_true, Bool.not_false, W_is_whole, f_int, f_bool]); exact q)
theorem hp__law_is_int : ∀ ds b Q, ds.length = 1 → p__law_is_int ds b Q → W__law_is_int { nx := fun _ b' => Q .non b', rt := Q } (ds.map Slot.v ++ List.replicate 0 .un) b := hp_is_whole
theorem hp_is_tuple_of : ∀ ds b Q, ds.length = 2 → p_is_tuple_of ds b Q → W_is_tuple_of { nx := fun _ b' => Q .non b', rt := Q } (ds.map Slot.v ++ List.replicate 0 .un) b := by
  rintro ds b Q - ⟨d, m, rfl, ht, q⟩
  show W_is_tuple_of _ [.v d, .v (.int m)] b
  cases d <;> first | (simp [D.ty] at ht; done) | ((try simp only [wSeq, wSet, wSetO, wRet, wIfS, wFrz, wApp, wDrop, wNext, wBreak, wCont, wNever, wVar, wVarB, wC, wBin, wUn, wT, wAnd, wOr, wNot, wAndV, wOrV, wNotV, wIte, wNil, wCons, wTup, wCall, wListOf, wC2, wIsT, wIsC, wFld, wON, wOS, wSl, wV, wO, wSetIx, wPar, wSwap, wSeqOf, wRng1, wRng2, wFor, wWhile, wYes, wComp, wEnum, wZip, wEnum2, wRgT, wRgL, wAug, dMulT, dMax, wMake, wFz, wCat, wRep, wipeE, D.ty, wIf_true, wIf_false, List.getElem?_cons_zero, List.getElem?_cons_succ, List.set_cons_zero, List.set_cons_succ, dI0_ii, dI_ii, dNeg_i, dGcd_ii, dAbs_i, dInt_i, dInt_b, dBits_i, dLen_t, dLen_l, dTuple_t, dTuple_l, dAdd_ii, dAdd_tt, dAdd_ll, dAdd_ss, dMul_ii, dMul_li, dIs_n, dIs_b, dIsN_n, dRepr_b, rt_0, rt_1, dEq, dNe, dSub, dDiv, dDivU, dMod, dLt, dLe, dGt, dGe, D.isNon, Bool.not_true, Bool.not_false, W_is_tuple_of, f_tuple]); first | exact q | exact ⟨⟨rfl, rfl⟩, q⟩)
theorem hp_copied : ∀ ds b Q, ds.length = 1 → p_copied ds b Q → W_copied { nx := fun _ b' => Q .non b', rt := Q } (ds.map Slot.v ++ List.replicate 0 .un) b := by
  rintro ds b Q - ⟨d, rfl, ht, q⟩
  show W_copied _ [.v d] b
  cases d <;> first | (simp [D.ty] at ht; done) | ((try simp only [wSeq, wSet, wSetO, wRet, wIfS, wFrz, wApp, wDrop, wNext, wBreak, wCont, wNever, wVar, wVarB, wC, wBin, wUn, wT, wAnd, wOr, wNot, wAndV, wOrV, wNotV, wIte, wNil, wCons, wTup, wCall, wListOf, wC2, wIsT, wIsC, wFld, wON, wOS, wSl, wV, wO, wSetIx, wPar, wSwap, wSeqOf, wRng1, wRng2, wFor, wWhile, wYes, wComp, wEnum, wZip, wEnum2, wRgT, wRgL, wAug, dMulT, dMax, wMake, wFz, wCat, wRep, wipeE, D.ty, wIf_true, wIf_false, List.getElem?_cons_zero, List.getElem?_cons_succ, List.set_cons_zero, List.set_cons_succ, dI0_ii, dI_ii, dNeg_i, dGcd_ii, dAbs_i, dInt_i, dInt_b, dBits_i, dLen_t, dLen_l, dTuple_t, dTuple_l, dAdd_ii, dAdd_tt, dAdd_ll, dAdd_ss, dMul_ii, dMul_li, dIs_n, dIs_b, dIsN_n, dRepr_b, rt_0, rt_1, dEq, dNe, dSub, dDiv, dDivU, dMod, dLt, dLe, dGt, dGe, D.isNon, Bool.not_true, Bool.not_false, W_copied, f_list]); exact q)
/-- a test whose value is known -/
theorem bl_eq {a c : Bool} (h : a = c) {Q : D → Nat → Prop} {b : Nat} (q : Q (.bl a) b) : Q (.bl c) b := h ▸ q
theorem hp_is_pair : ∀ ds b Q, ds.length = 1 → p_is_pair ds b Q → W_is_pair { nx := fun _ b' => Q .non b', rt := Q } (ds.map Slot.v ++ List.replicate 0 .un) b := by
  rintro ds b Q - ⟨d, rfl, ht, q⟩
  show W_is_pair _ [.v d] b
  have seq : ∀ (es : List D), (es.all fun d => d.ty.isSome) = true → ∀ (dd : D), (dd = .tup es ∨ dd = .lst es) → Q (.bl dd.isPair) b → W_is_pair { nx := fun _ b' => Q .non b', rt := Q } [.v dd] b := by
    intro es hes dd hdd q
    have e2 : ∀ n : Int, PyData.eqv (D.int n).py (D.int 2).py = decide (n = 2) := fun n => rfl
    rcases es with _ | ⟨x, _ | ⟨y, _ | ⟨z, r⟩⟩⟩
    · rcases hdd with rfl | rfl <;> ((try simp only [wSeq, wSet, wSetO, wRet, wIfS, wFrz, wApp, wDrop, wNext, wBreak, wCont, wNever, wVar, wVarB, wC, wBin, wUn, wT, wAnd, wOr, wNot, wAndV, wOrV, wNotV, wIte, wNil, wCons, wTup, wCall, wListOf, wC2, wIsT, wIsC, wFld, wON, wOS, wSl, wV, wO, wSetIx, wPar, wSwap, wSeqOf, wRng1, wRng2, wFor, wWhile, wYes, wComp, wEnum, wZip, wEnum2, wRgT, wRgL, wAug, dMulT, dMax, wMake, wFz, wCat, wRep, wipeE, D.ty, wIf_true, wIf_false, List.getElem?_cons_zero, List.getElem?_cons_succ, List.set_cons_zero, List.set_cons_succ, dI0_ii, dI_ii, dNeg_i, dGcd_ii, dAbs_i, dInt_i, dInt_b, dBits_i, dLen_t, dLen_l, dTuple_t, dTuple_l, dAdd_ii, dAdd_tt, dAdd_ll, dAdd_ss, dMul_ii, dMul_li, dIs_n, dIs_b, dIsN_n, dRepr_b, rt_0, rt_1, dEq, dNe, dSub, dDiv, dDivU, dMod, dLt, dLe, dGt, dGe, D.isNon, Bool.not_true, Bool.not_false, W_is_pair, f_tuple_list]); exact ⟨⟨rfl, rfl⟩, q⟩)
    · rcases hdd with rfl | rfl <;> ((try simp only [wSeq, wSet, wSetO, wRet, wIfS, wFrz, wApp, wDrop, wNext, wBreak, wCont, wNever, wVar, wVarB, wC, wBin, wUn, wT, wAnd, wOr, wNot, wAndV, wOrV, wNotV, wIte, wNil, wCons, wTup, wCall, wListOf, wC2, wIsT, wIsC, wFld, wON, wOS, wSl, wV, wO, wSetIx, wPar, wSwap, wSeqOf, wRng1, wRng2, wFor, wWhile, wYes, wComp, wEnum, wZip, wEnum2, wRgT, wRgL, wAug, dMulT, dMax, wMake, wFz, wCat, wRep, wipeE, D.ty, wIf_true, wIf_false, List.getElem?_cons_zero, List.getElem?_cons_succ, List.set_cons_zero, List.set_cons_succ, dI0_ii, dI_ii, dNeg_i, dGcd_ii, dAbs_i, dInt_i, dInt_b, dBits_i, dLen_t, dLen_l, dTuple_t, dTuple_l, dAdd_ii, dAdd_tt, dAdd_ll, dAdd_ss, dMul_ii, dMul_li, dIs_n, dIs_b, dIsN_n, dRepr_b, rt_0, rt_1, dEq, dNe, dSub, dDiv, dDivU, dMod, dLt, dLe, dGt, dGe, D.isNon, Bool.not_true, Bool.not_false, W_is_pair, f_tuple_list]); exact ⟨⟨rfl, rfl⟩, q⟩)
    · have hx : x.ty.isSome = true := by simp at hes; exact hes.1
      have hy : y.ty.isSome = true := by simp at hes; exact hes.2
      rcases hdd with rfl | rfl
      · (try simp only [wSeq, wSet, wSetO, wRet, wIfS, wFrz, wApp, wDrop, wNext, wBreak, wCont, wNever, wVar, wVarB, wC, wBin, wUn, wT, wAnd, wOr, wNot, wAndV, wOrV, wNotV, wIte, wNil, wCons, wTup, wCall, wListOf, wC2, wIsT, wIsC, wFld, wON, wOS, wSl, wV, wO, wSetIx, wPar, wSwap, wSeqOf, wRng1, wRng2, wFor, wWhile, wYes, wComp, wEnum, wZip, wEnum2, wRgT, wRgL, wAug, dMulT, dMax, wMake, wFz, wCat, wRep, wipeE, D.ty, wIf_true, wIf_false, List.getElem?_cons_zero, List.getElem?_cons_succ, List.set_cons_zero, List.set_cons_succ, dI0_ii, dI_ii, dNeg_i, dGcd_ii, dAbs_i, dInt_i, dInt_b, dBits_i, dLen_t, dLen_l, dTuple_t, dTuple_l, dAdd_ii, dAdd_tt, dAdd_ll, dAdd_ss, dMul_ii, dMul_li, dIs_n, dIs_b, dIsN_n, dRepr_b, rt_0, rt_1, dEq, dNe, dSub, dDiv, dDivU, dMod, dLt, dLe, dGt, dGe, D.isNon, Bool.not_true, Bool.not_false, W_is_pair, f_tuple_list])
        refine ⟨⟨rfl, rfl⟩, wIf_ff rfl (dIx_t0 ⟨rfl, x, rfl, hx, ?_⟩)⟩
        cases x <;> try exact q
        (try simp only [wSeq, wSet, wSetO, wRet, wIfS, wFrz, wApp, wDrop, wNext, wBreak, wCont, wNever, wVar, wVarB, wC, wBin, wUn, wT, wAnd, wOr, wNot, wAndV, wOrV, wNotV, wIte, wNil, wCons, wTup, wCall, wListOf, wC2, wIsT, wIsC, wFld, wON, wOS, wSl, wV, wO, wSetIx, wPar, wSwap, wSeqOf, wRng1, wRng2, wFor, wWhile, wYes, wComp, wEnum, wZip, wEnum2, wRgT, wRgL, wAug, dMulT, dMax, wMake, wFz, wCat, wRep, wipeE, D.ty, wIf_true, wIf_false, List.getElem?_cons_zero, List.getElem?_cons_succ, List.set_cons_zero, List.set_cons_succ, dI0_ii, dI_ii, dNeg_i, dGcd_ii, dAbs_i, dInt_i, dInt_b, dBits_i, dLen_t, dLen_l, dTuple_t, dTuple_l, dAdd_ii, dAdd_tt, dAdd_ll, dAdd_ss, dMul_ii, dMul_li, dIs_n, dIs_b, dIsN_n, dRepr_b, rt_0, rt_1, dEq, dNe, dSub, dDiv, dDivU, dMod, dLt, dLe, dGt, dGe, D.isNon, Bool.not_true, Bool.not_false, D.isInt])
        refine dIx_t1 ⟨rfl, y, rfl, hy, ?_⟩
        cases y <;> try exact q
      · (try simp only [wSeq, wSet, wSetO, wRet, wIfS, wFrz, wApp, wDrop, wNext, wBreak, wCont, wNever, wVar, wVarB, wC, wBin, wUn, wT, wAnd, wOr, wNot, wAndV, wOrV, wNotV, wIte, wNil, wCons, wTup, wCall, wListOf, wC2, wIsT, wIsC, wFld, wON, wOS, wSl, wV, wO, wSetIx, wPar, wSwap, wSeqOf, wRng1, wRng2, wFor, wWhile, wYes, wComp, wEnum, wZip, wEnum2, wRgT, wRgL, wAug, dMulT, dMax, wMake, wFz, wCat, wRep, wipeE, D.ty, wIf_true, wIf_false, List.getElem?_cons_zero, List.getElem?_cons_succ, List.set_cons_zero, List.set_cons_succ, dI0_ii, dI_ii, dNeg_i, dGcd_ii, dAbs_i, dInt_i, dInt_b, dBits_i, dLen_t, dLen_l, dTuple_t, dTuple_l, dAdd_ii, dAdd_tt, dAdd_ll, dAdd_ss, dMul_ii, dMul_li, dIs_n, dIs_b, dIsN_n, dRepr_b, rt_0, rt_1, dEq, dNe, dSub, dDiv, dDivU, dMod, dLt, dLe, dGt, dGe, D.isNon, Bool.not_true, Bool.not_false, W_is_pair, f_tuple_list])
        refine ⟨⟨rfl, rfl⟩, wIf_ff rfl (dIx_l (j := 0) rfl ⟨rfl, x, rfl, hx, ?_⟩)⟩
        cases x <;> try exact q
        (try simp only [wSeq, wSet, wSetO, wRet, wIfS, wFrz, wApp, wDrop, wNext, wBreak, wCont, wNever, wVar, wVarB, wC, wBin, wUn, wT, wAnd, wOr, wNot, wAndV, wOrV, wNotV, wIte, wNil, wCons, wTup, wCall, wListOf, wC2, wIsT, wIsC, wFld, wON, wOS, wSl, wV, wO, wSetIx, wPar, wSwap, wSeqOf, wRng1, wRng2, wFor, wWhile, wYes, wComp, wEnum, wZip, wEnum2, wRgT, wRgL, wAug, dMulT, dMax, wMake, wFz, wCat, wRep, wipeE, D.ty, wIf_true, wIf_false, List.getElem?_cons_zero, List.getElem?_cons_succ, List.set_cons_zero, List.set_cons_succ, dI0_ii, dI_ii, dNeg_i, dGcd_ii, dAbs_i, dInt_i, dInt_b, dBits_i, dLen_t, dLen_l, dTuple_t, dTuple_l, dAdd_ii, dAdd_tt, dAdd_ll, dAdd_ss, dMul_ii, dMul_li, dIs_n, dIs_b, dIsN_n, dRepr_b, rt_0, rt_1, dEq, dNe, dSub, dDiv, dDivU, dMod, dLt, dLe, dGt, dGe, D.isNon, Bool.not_true, Bool.not_false, D.isInt])
        refine dIx_l (j := 1) rfl ⟨rfl, y, rfl, hy, ?_⟩
        cases y <;> try exact q
    · have q' : Q (.bl false) b := by rcases hdd with rfl | rfl <;> exact q
      have ne2 : (!PyData.eqv (D.int (x :: y :: z :: r).length).py (D.int 2).py) = true := by
        simp only [D.py, PyData.eqv, List.length_cons, Bool.not_eq_true', beq_eq_false_iff_ne]
        omega
      rcases hdd with rfl | rfl <;> ((try simp only [wSeq, wSet, wSetO, wRet, wIfS, wFrz, wApp, wDrop, wNext, wBreak, wCont, wNever, wVar, wVarB, wC, wBin, wUn, wT, wAnd, wOr, wNot, wAndV, wOrV, wNotV, wIte, wNil, wCons, wTup, wCall, wListOf, wC2, wIsT, wIsC, wFld, wON, wOS, wSl, wV, wO, wSetIx, wPar, wSwap, wSeqOf, wRng1, wRng2, wFor, wWhile, wYes, wComp, wEnum, wZip, wEnum2, wRgT, wRgL, wAug, dMulT, dMax, wMake, wFz, wCat, wRep, wipeE, D.ty, wIf_true, wIf_false, List.getElem?_cons_zero, List.getElem?_cons_succ, List.set_cons_zero, List.set_cons_succ, dI0_ii, dI_ii, dNeg_i, dGcd_ii, dAbs_i, dInt_i, dInt_b, dBits_i, dLen_t, dLen_l, dTuple_t, dTuple_l, dAdd_ii, dAdd_tt, dAdd_ll, dAdd_ss, dMul_ii, dMul_li, dIs_n, dIs_b, dIsN_n, dRepr_b, rt_0, rt_1, dEq, dNe, dSub, dDiv, dDivU, dMod, dLt, dLe, dGt, dGe, D.isNon, Bool.not_true, Bool.not_false, W_is_pair, f_tuple_list]); exact ⟨⟨rfl, rfl⟩, wIf_tt ne2 q'⟩)
  cases d with
  | tup es => exact seq es ht _ (.inl rfl) q
  | lst es => exact seq es ht _ (.inr rfl) q
  | ins _ _ => cases ht
  | pen => cases ht
  | fn _ _ _ => cases ht
  | _ => (try simp only [wSeq, wSet, wSetO, wRet, wIfS, wFrz, wApp, wDrop, wNext, wBreak, wCont, wNever, wVar, wVarB, wC, wBin, wUn, wT, wAnd, wOr, wNot, wAndV, wOrV, wNotV, wIte, wNil, wCons, wTup, wCall, wListOf, wC2, wIsT, wIsC, wFld, wON, wOS, wSl, wV, wO, wSetIx, wPar, wSwap, wSeqOf, wRng1, wRng2, wFor, wWhile, wYes, wComp, wEnum, wZip, wEnum2, wRgT, wRgL, wAug, dMulT, dMax, wMake, wFz, wCat, wRep, wipeE, D.ty, wIf_true, wIf_false, List.getElem?_cons_zero, List.getElem?_cons_succ, List.set_cons_zero, List.set_cons_succ, dI0_ii, dI_ii, dNeg_i, dGcd_ii, dAbs_i, dInt_i, dInt_b, dBits_i, dLen_t, dLen_l, dTuple_t, dTuple_l, dAdd_ii, dAdd_tt, dAdd_ll, dAdd_ss, dMul_ii, dMul_li, dIs_n, dIs_b, dIsN_n, dRepr_b, rt_0, rt_1, dEq, dNe, dSub, dDiv, dDivU, dMod, dLt, dLe, dGt, dGe, D.isNon, Bool.not_true, Bool.not_false, W_is_pair, f_tuple_list]); exact q
theorem wIf_dec {p : Prop} [Decidable p] {A B : Prop} (h1 : p → A) (h2 : ¬ p → B) : wIf (decide p) A B := by
  by_cases h : p
  · rw [decide_eq_true h]; exact h1 h
  · rw [decide_eq_false h]; exact h2 h
theorem hp_lowest : ∀ ds b Q, ds.length = 2 → p_lowest ds b Q → W_lowest { nx := fun _ b' => Q .non b', rt := Q } (ds.map Slot.v ++ List.replicate 1 .un) b := by
  rintro ds b Q - ⟨t, k, rfl, hk, q⟩
  show W_lowest _ [.v (.int t), .v (.int k), .un] b
  obtain ⟨e1, e2⟩ := low_eq (t := t) hk
  have q' : Q (.tup [.int (t.fdiv (byOf t k)), .int (k.fdiv (byOf t k))]) b := by
    rw [← e1, ← e2]
    exact q
  have hb := byOf_ne (t := t) hk
  (try simp only [wSeq, wSet, wSetO, wRet, wIfS, wFrz, wApp, wDrop, wNext, wBreak, wCont, wNever, wVar, wVarB, wC, wBin, wUn, wT, wAnd, wOr, wNot, wAndV, wOrV, wNotV, wIte, wNil, wCons, wTup, wCall, wListOf, wC2, wIsT, wIsC, wFld, wON, wOS, wSl, wV, wO, wSetIx, wPar, wSwap, wSeqOf, wRng1, wRng2, wFor, wWhile, wYes, wComp, wEnum, wZip, wEnum2, wRgT, wRgL, wAug, dMulT, dMax, wMake, wFz, wCat, wRep, wipeE, D.ty, wIf_true, wIf_false, List.getElem?_cons_zero, List.getElem?_cons_succ, List.set_cons_zero, List.set_cons_succ, dI0_ii, dI_ii, dNeg_i, dGcd_ii, dAbs_i, dInt_i, dInt_b, dBits_i, dLen_t, dLen_l, dTuple_t, dTuple_l, dAdd_ii, dAdd_tt, dAdd_ll, dAdd_ss, dMul_ii, dMul_li, dIs_n, dIs_b, dIsN_n, dRepr_b, rt_0, rt_1, dEq, dNe, dSub, dDiv, dDivU, dMod, dLt, dLe, dGt, dGe, D.isNon, Bool.not_true, Bool.not_false, W_lowest])
  refine wIf_dec (fun h => ?_) (fun h => ?_)
  · have e : byOf t k = ((Nat.gcd t.natAbs k.natAbs : Nat) : Int) := if_pos h
    rw [← e]
    exact ⟨hb, hb, q'⟩
  · have e : byOf t k = -((Nat.gcd t.natAbs k.natAbs : Nat) : Int) := if_neg h
    rw [← e]
    exact ⟨hb, hb, q'⟩
theorem hp_is_told : ∀ ds b Q, ds.length = 1 → p_is_told ds b Q → W_is_told { nx := fun _ b' => Q .non b', rt := Q } (ds.map Slot.v ++ List.replicate 0 .un) b := by
  rintro ds b Q - ⟨d, rfl, hs, q⟩
  show W_is_told _ [.v d] b
  cases d with
  | ins _ _ => cases hs
  | pen => cases hs
  | fn _ _ _ => cases hs
  | tup es =>
    (try simp only [wSeq, wSet, wSetO, wRet, wIfS, wFrz, wApp, wDrop, wNext, wBreak, wCont, wNever, wVar, wVarB, wC, wBin, wUn, wT, wAnd, wOr, wNot, wAndV, wOrV, wNotV, wIte, wNil, wCons, wTup, wCall, wListOf, wC2, wIsT, wIsC, wFld, wON, wOS, wSl, wV, wO, wSetIx, wPar, wSwap, wSeqOf, wRng1, wRng2, wFor, wWhile, wYes, wComp, wEnum, wZip, wEnum2, wRgT, wRgL, wAug, dMulT, dMax, wMake, wFz, wCat, wRep, wipeE, D.ty, wIf_true, wIf_false, List.getElem?_cons_zero, List.getElem?_cons_succ, List.set_cons_zero, List.set_cons_succ, dI0_ii, dI_ii, dNeg_i, dGcd_ii, dAbs_i, dInt_i, dInt_b, dBits_i, dLen_t, dLen_l, dTuple_t, dTuple_l, dAdd_ii, dAdd_tt, dAdd_ll, dAdd_ss, dMul_ii, dMul_li, dIs_n, dIs_b, dIsN_n, dRepr_b, rt_0, rt_1, dEq, dNe, dSub, dDiv, dDivU, dMod, dLt, dLe, dGt, dGe, D.isNon, Bool.not_true, Bool.not_false, W_is_told, f_tuple])
    refine ⟨rfl, _, rfl, hs, ?_⟩
    rcases es with _ | ⟨x, _ | ⟨y, _ | ⟨z, r⟩⟩⟩
    · exact q
    · exact q
    · show wIf (pair2 x y) _ _
      have q2 : Q (.bl (told2 x y).isSome) b := q
      cases x <;> try exact q2
      cases y <;> try exact q2
      rename_i t k
      refine wIf_dec (fun h => ?_) (fun h => ?_)
      · refine dIx_t0 (dIx_t1 ⟨⟨rfl, rfl⟩, ?_⟩)
        refine bl_eq ?_ q2
        show (told2 (.int t) (.int k)).isSome = (((Nat.gcd t.natAbs k.natAbs : Nat) : Int) == 1)
        simp only [told2]
        by_cases g : Nat.gcd t.natAbs k.natAbs = 1
        · rw [dif_pos ⟨h, g⟩]
          show true = _
          symm
          rw [g]
          rfl
        · rw [dif_neg fun z => g z.2]
          symm
          simpa using fun z => g (by omega)
      · refine bl_eq ?_ q2
        simp only [told2]
        rw [dif_neg fun z => h z.1]
        rfl
    · exact q
  | _ => (try simp only [wSeq, wSet, wSetO, wRet, wIfS, wFrz, wApp, wDrop, wNext, wBreak, wCont, wNever, wVar, wVarB, wC, wBin, wUn, wT, wAnd, wOr, wNot, wAndV, wOrV, wNotV, wIte, wNil, wCons, wTup, wCall, wListOf, wC2, wIsT, wIsC, wFld, wON, wOS, wSl, wV, wO, wSetIx, wPar, wSwap, wSeqOf, wRng1, wRng2, wFor, wWhile, wYes, wComp, wEnum, wZip, wEnum2, wRgT, wRgL, wAug, dMulT, dMax, wMake, wFz, wCat, wRep, wipeE, D.ty, wIf_true, wIf_false, List.getElem?_cons_zero, List.getElem?_cons_succ, List.set_cons_zero, List.set_cons_succ, dI0_ii, dI_ii, dNeg_i, dGcd_ii, dAbs_i, dInt_i, dInt_b, dBits_i, dLen_t, dLen_l, dTuple_t, dTuple_l, dAdd_ii, dAdd_tt, dAdd_ll, dAdd_ss, dMul_ii, dMul_li, dIs_n, dIs_b, dIsN_n, dRepr_b, rt_0, rt_1, dEq, dNe, dSub, dDiv, dDivU, dMod, dLt, dLe, dGt, dGe, D.isNon, Bool.not_true, Bool.not_false, W_is_told, f_tuple]); exact q
/-! sizes -/
theorem Sz.den {x : Rat} (h : Sz x) : (x.den : Int).natAbs < 2 ^ SB := by rw [Int.natAbs_natCast]; exact h.d
theorem sz_mul {a b : Int} (h : a.natAbs < 2 ^ SB) (h' : b.natAbs < 2 ^ SB) : CMulW a b := cmulW_of h h' (by decide) (by decide) (by decide)
theorem natAbs_mul_lt {a b : Int} {k l : Nat} (h : a.natAbs < 2 ^ k) (h' : b.natAbs < 2 ^ l) : (a * b).natAbs < 2 ^ (k + l) := by
  rw [Int.natAbs_mul]
  exact mul_lt_pow h h'
theorem natAbs_add_lt {a b : Int} {k : Nat} (h : a.natAbs < 2 ^ k) (h' : b.natAbs < 2 ^ k) : (a + b).natAbs < 2 ^ (k + 1) := by
  have := Int.natAbs_add_le a b
  rw [Nat.pow_succ]
  omega
theorem natAbs_sub_lt {a b : Int} {k : Nat} (h : a.natAbs < 2 ^ k) (h' : b.natAbs < 2 ^ k) : (a - b).natAbs < 2 ^ (k + 1) := by
  have := Int.natAbs_sub_le a b
  rw [Nat.pow_succ]
  omega
theorem dens_ne (x y : Rat) : (x.den : Int) * (y.den : Int) ≠ 0 := Int.mul_ne_zero (by have := den_pos x; omega) (by have := den_pos y; omega)
theorem add_rt (x y : Rat) : x + y = Rat.divInt (x.num * y.den + y.num * x.den) (x.den * y.den) := by
  conv => lhs; rw [← Rat.num_divInt_den x, ← Rat.num_divInt_den y]
  exact Rat.divInt_add_divInt _ _ (by have := den_pos x; omega) (by have := den_pos y; omega)
theorem sub_rt (x y : Rat) : x - y = Rat.divInt (x.num * y.den - y.num * x.den) (x.den * y.den) := by
  conv => lhs; rw [← Rat.num_divInt_den x, ← Rat.num_divInt_den y]
  rw [Rat.sub_eq_add_neg, Rat.neg_divInt, Rat.divInt_add_divInt _ _ (by have := den_pos x; omega) (by have := den_pos y; omega), Int.neg_mul, ← Int.sub_eq_add_neg]
theorem mul_rt (x y : Rat) : x * y = Rat.divInt (x.num * y.num) (x.den * y.den) := by
  conv => lhs; rw [← Rat.num_divInt_den x, ← Rat.num_divInt_den y]
  exact Rat.divInt_mul_divInt _ _
theorem div_rt (x y : Rat) : x / y = Rat.divInt (x.num * y.den) (x.den * y.num) := by
  conv => lhs; rw [← Rat.num_divInt_den x, ← Rat.num_divInt_den y]
  rw [Rat.div_def, Rat.inv_divInt, Rat.divInt_mul_divInt]
theorem rt_ix0 {x : Rat} {Q : D → Prop} (q : Q (.int x.num)) : dIx (rt x) (.int 0) Q := dIx_t0 q
theorem rt_ix1 {x : Rat} {Q : D → Prop} (q : Q (.int (x.den : Int))) : dIx (rt x) (.int 1) Q := dIx_t1 q
theorem hp_summed : ∀ ds b Q, ds.length = 2 → p_summed ds b Q → W_summed { nx := fun _ b' => Q .non b', rt := Q } (ds.map Slot.v ++ List.replicate 0 .un) b := by
  rintro ds b Q - ⟨x, y, rfl, hx, hy, -, q⟩
  show W_summed _ [.v (rt x), .v (rt y)] b
  (try simp only [wSeq, wSet, wSetO, wRet, wIfS, wFrz, wApp, wDrop, wNext, wBreak, wCont, wNever, wVar, wVarB, wC, wBin, wUn, wT, wAnd, wOr, wNot, wAndV, wOrV, wNotV, wIte, wNil, wCons, wTup, wCall, wListOf, wC2, wIsT, wIsC, wFld, wON, wOS, wSl, wV, wO, wSetIx, wPar, wSwap, wSeqOf, wRng1, wRng2, wFor, wWhile, wYes, wComp, wEnum, wZip, wEnum2, wRgT, wRgL, wAug, dMulT, dMax, wMake, wFz, wCat, wRep, wipeE, D.ty, wIf_true, wIf_false, List.getElem?_cons_zero, List.getElem?_cons_succ, List.set_cons_zero, List.set_cons_succ, dI0_ii, dI_ii, dNeg_i, dGcd_ii, dAbs_i, dInt_i, dInt_b, dBits_i, dLen_t, dLen_l, dTuple_t, dTuple_l, dAdd_ii, dAdd_tt, dAdd_ll, dAdd_ss, dMul_ii, dMul_li, dIs_n, dIs_b, dIsN_n, dRepr_b, rt_0, rt_1, dEq, dNe, dSub, dDiv, dDivU, dMod, dLt, dLe, dGt, dGe, D.isNon, Bool.not_true, Bool.not_false, W_summed])
  refine ⟨sz_mul hx.n hy.den, sz_mul hy.n hx.den, sz_mul hx.den hy.den, rfl, _, _, rfl, dens_ne x y, ?_⟩
  rw [← add_rt]
  exact q
theorem hp_lessened : ∀ ds b Q, ds.length = 2 → p_lessened ds b Q → W_lessened { nx := fun _ b' => Q .non b', rt := Q } (ds.map Slot.v ++ List.replicate 0 .un) b := by
  rintro ds b Q - ⟨x, y, rfl, hx, hy, -, q⟩
  show W_lessened _ [.v (rt x), .v (rt y)] b
  (try simp only [wSeq, wSet, wSetO, wRet, wIfS, wFrz, wApp, wDrop, wNext, wBreak, wCont, wNever, wVar, wVarB, wC, wBin, wUn, wT, wAnd, wOr, wNot, wAndV, wOrV, wNotV, wIte, wNil, wCons, wTup, wCall, wListOf, wC2, wIsT, wIsC, wFld, wON, wOS, wSl, wV, wO, wSetIx, wPar, wSwap, wSeqOf, wRng1, wRng2, wFor, wWhile, wYes, wComp, wEnum, wZip, wEnum2, wRgT, wRgL, wAug, dMulT, dMax, wMake, wFz, wCat, wRep, wipeE, D.ty, wIf_true, wIf_false, List.getElem?_cons_zero, List.getElem?_cons_succ, List.set_cons_zero, List.set_cons_succ, dI0_ii, dI_ii, dNeg_i, dGcd_ii, dAbs_i, dInt_i, dInt_b, dBits_i, dLen_t, dLen_l, dTuple_t, dTuple_l, dAdd_ii, dAdd_tt, dAdd_ll, dAdd_ss, dMul_ii, dMul_li, dIs_n, dIs_b, dIsN_n, dRepr_b, rt_0, rt_1, dEq, dNe, dSub, dDiv, dDivU, dMod, dLt, dLe, dGt, dGe, D.isNon, Bool.not_true, Bool.not_false, W_lessened])
  refine ⟨sz_mul hx.n hy.den, sz_mul hy.n hx.den, sz_mul hx.den hy.den, rfl, _, _, rfl, dens_ne x y, ?_⟩
  rw [← sub_rt]
  exact q
theorem hp_scaled : ∀ ds b Q, ds.length = 2 → p_scaled ds b Q → W_scaled { nx := fun _ b' => Q .non b', rt := Q } (ds.map Slot.v ++ List.replicate 0 .un) b := by
  rintro ds b Q - ⟨x, y, rfl, hx, hy, -, q⟩
  show W_scaled _ [.v (rt x), .v (rt y)] b
  (try simp only [wSeq, wSet, wSetO, wRet, wIfS, wFrz, wApp, wDrop, wNext, wBreak, wCont, wNever, wVar, wVarB, wC, wBin, wUn, wT, wAnd, wOr, wNot, wAndV, wOrV, wNotV, wIte, wNil, wCons, wTup, wCall, wListOf, wC2, wIsT, wIsC, wFld, wON, wOS, wSl, wV, wO, wSetIx, wPar, wSwap, wSeqOf, wRng1, wRng2, wFor, wWhile, wYes, wComp, wEnum, wZip, wEnum2, wRgT, wRgL, wAug, dMulT, dMax, wMake, wFz, wCat, wRep, wipeE, D.ty, wIf_true, wIf_false, List.getElem?_cons_zero, List.getElem?_cons_succ, List.set_cons_zero, List.set_cons_succ, dI0_ii, dI_ii, dNeg_i, dGcd_ii, dAbs_i, dInt_i, dInt_b, dBits_i, dLen_t, dLen_l, dTuple_t, dTuple_l, dAdd_ii, dAdd_tt, dAdd_ll, dAdd_ss, dMul_ii, dMul_li, dIs_n, dIs_b, dIsN_n, dRepr_b, rt_0, rt_1, dEq, dNe, dSub, dDiv, dDivU, dMod, dLt, dLe, dGt, dGe, D.isNon, Bool.not_true, Bool.not_false, W_scaled])
  refine ⟨sz_mul hx.n hy.n, sz_mul hx.den hy.den, rfl, _, _, rfl, dens_ne x y, ?_⟩
  rw [← mul_rt]
  exact q
theorem num_ne {y : Rat} (h : y ≠ 0) : y.num ≠ 0 := by simpa using h
theorem hp_parted : ∀ ds b Q, ds.length = 2 → p_parted ds b Q → W_parted { nx := fun _ b' => Q .non b', rt := Q } (ds.map Slot.v ++ List.replicate 0 .un) b := by
  rintro ds b Q - ⟨x, y, rfl, hx, hy, h0, q⟩
  show W_parted _ [.v (rt x), .v (rt y)] b
  have hn : (x.den : Int) * y.num ≠ 0 := Int.mul_ne_zero (by have := den_pos x; omega) (num_ne h0)
  (try simp only [wSeq, wSet, wSetO, wRet, wIfS, wFrz, wApp, wDrop, wNext, wBreak, wCont, wNever, wVar, wVarB, wC, wBin, wUn, wT, wAnd, wOr, wNot, wAndV, wOrV, wNotV, wIte, wNil, wCons, wTup, wCall, wListOf, wC2, wIsT, wIsC, wFld, wON, wOS, wSl, wV, wO, wSetIx, wPar, wSwap, wSeqOf, wRng1, wRng2, wFor, wWhile, wYes, wComp, wEnum, wZip, wEnum2, wRgT, wRgL, wAug, dMulT, dMax, wMake, wFz, wCat, wRep, wipeE, D.ty, wIf_true, wIf_false, List.getElem?_cons_zero, List.getElem?_cons_succ, List.set_cons_zero, List.set_cons_succ, dI0_ii, dI_ii, dNeg_i, dGcd_ii, dAbs_i, dInt_i, dInt_b, dBits_i, dLen_t, dLen_l, dTuple_t, dTuple_l, dAdd_ii, dAdd_tt, dAdd_ll, dAdd_ss, dMul_ii, dMul_li, dIs_n, dIs_b, dIsN_n, dRepr_b, rt_0, rt_1, dEq, dNe, dSub, dDiv, dDivU, dMod, dLt, dLe, dGt, dGe, D.isNon, Bool.not_true, Bool.not_false, W_parted])
  refine ⟨sz_mul hx.n hy.den, sz_mul hx.den hy.n, rfl, _, _, rfl, hn, ?_⟩
  rw [← div_rt]
  exact q
theorem hp_turned_sign : ∀ ds b Q, ds.length = 1 → p_turned_sign ds b Q → W_turned_sign { nx := fun _ b' => Q .non b', rt := Q } (ds.map Slot.v ++ List.replicate 0 .un) b := by
  rintro ds b Q - ⟨x, rfl, q⟩
  show W_turned_sign _ [.v (rt x)] b
  (try simp only [wSeq, wSet, wSetO, wRet, wIfS, wFrz, wApp, wDrop, wNext, wBreak, wCont, wNever, wVar, wVarB, wC, wBin, wUn, wT, wAnd, wOr, wNot, wAndV, wOrV, wNotV, wIte, wNil, wCons, wTup, wCall, wListOf, wC2, wIsT, wIsC, wFld, wON, wOS, wSl, wV, wO, wSetIx, wPar, wSwap, wSeqOf, wRng1, wRng2, wFor, wWhile, wYes, wComp, wEnum, wZip, wEnum2, wRgT, wRgL, wAug, dMulT, dMax, wMake, wFz, wCat, wRep, wipeE, D.ty, wIf_true, wIf_false, List.getElem?_cons_zero, List.getElem?_cons_succ, List.set_cons_zero, List.set_cons_succ, dI0_ii, dI_ii, dNeg_i, dGcd_ii, dAbs_i, dInt_i, dInt_b, dBits_i, dLen_t, dLen_l, dTuple_t, dTuple_l, dAdd_ii, dAdd_tt, dAdd_ll, dAdd_ss, dMul_ii, dMul_li, dIs_n, dIs_b, dIsN_n, dRepr_b, rt_0, rt_1, dEq, dNe, dSub, dDiv, dDivU, dMod, dLt, dLe, dGt, dGe, D.isNon, Bool.not_true, Bool.not_false, W_turned_sign])
  exact q
theorem hp__law_q : ∀ ds b Q, ds.length = 2 → p__law_q ds b Q → W__law_q { nx := fun _ b' => Q .non b', rt := Q } (ds.map Slot.v ++ List.replicate 1 .un) b := by
  rintro ds b Q - ⟨t, k, rfl, hk, h1, h2, q⟩
  show W__law_q _ [.v (.int t), .v (.int k), .un] b
  obtain ⟨e1, e2⟩ := low_eq (t := t) hk
  have q' : Q (.tup [.int (t.fdiv (byOf t k)), .int (k.fdiv (byOf t k))]) b := by
    rw [← e1, ← e2]
    exact q
  have hb := byOf_ne (t := t) hk
  (try simp only [wSeq, wSet, wSetO, wRet, wIfS, wFrz, wApp, wDrop, wNext, wBreak, wCont, wNever, wVar, wVarB, wC, wBin, wUn, wT, wAnd, wOr, wNot, wAndV, wOrV, wNotV, wIte, wNil, wCons, wTup, wCall, wListOf, wC2, wIsT, wIsC, wFld, wON, wOS, wSl, wV, wO, wSetIx, wPar, wSwap, wSeqOf, wRng1, wRng2, wFor, wWhile, wYes, wComp, wEnum, wZip, wEnum2, wRgT, wRgL, wAug, dMulT, dMax, wMake, wFz, wCat, wRep, wipeE, D.ty, wIf_true, wIf_false, List.getElem?_cons_zero, List.getElem?_cons_succ, List.set_cons_zero, List.set_cons_succ, dI0_ii, dI_ii, dNeg_i, dGcd_ii, dAbs_i, dInt_i, dInt_b, dBits_i, dLen_t, dLen_l, dTuple_t, dTuple_l, dAdd_ii, dAdd_tt, dAdd_ll, dAdd_ss, dMul_ii, dMul_li, dIs_n, dIs_b, dIsN_n, dRepr_b, rt_0, rt_1, dEq, dNe, dSub, dDiv, dDivU, dMod, dLt, dLe, dGt, dGe, D.isNon, Bool.not_true, Bool.not_false, W__law_q])
  refine ⟨rfl, _, _, rfl, h1, h2, wIf_dec (fun h => ?_) (fun h => ?_)⟩
  · have e : byOf t k = -((Nat.gcd t.natAbs k.natAbs : Nat) : Int) := if_neg (by omega)
    (try simp only [wSeq, wSet, wSetO, wRet, wIfS, wFrz, wApp, wDrop, wNext, wBreak, wCont, wNever, wVar, wVarB, wC, wBin, wUn, wT, wAnd, wOr, wNot, wAndV, wOrV, wNotV, wIte, wNil, wCons, wTup, wCall, wListOf, wC2, wIsT, wIsC, wFld, wON, wOS, wSl, wV, wO, wSetIx, wPar, wSwap, wSeqOf, wRng1, wRng2, wFor, wWhile, wYes, wComp, wEnum, wZip, wEnum2, wRgT, wRgL, wAug, dMulT, dMax, wMake, wFz, wCat, wRep, wipeE, D.ty, wIf_true, wIf_false, List.getElem?_cons_zero, List.getElem?_cons_succ, List.set_cons_zero, List.set_cons_succ, dI0_ii, dI_ii, dNeg_i, dGcd_ii, dAbs_i, dInt_i, dInt_b, dBits_i, dLen_t, dLen_l, dTuple_t, dTuple_l, dAdd_ii, dAdd_tt, dAdd_ll, dAdd_ss, dMul_ii, dMul_li, dIs_n, dIs_b, dIsN_n, dRepr_b, rt_0, rt_1, dEq, dNe, dSub, dDiv, dDivU, dMod, dLt, dLe, dGt, dGe, D.isNon, Bool.not_true, Bool.not_false])
    rw [← e]
    exact ⟨hb, hb, q'⟩
  · have e : byOf t k = ((Nat.gcd t.natAbs k.natAbs : Nat) : Int) := if_pos (by omega)
    (try simp only [wSeq, wSet, wSetO, wRet, wIfS, wFrz, wApp, wDrop, wNext, wBreak, wCont, wNever, wVar, wVarB, wC, wBin, wUn, wT, wAnd, wOr, wNot, wAndV, wOrV, wNotV, wIte, wNil, wCons, wTup, wCall, wListOf, wC2, wIsT, wIsC, wFld, wON, wOS, wSl, wV, wO, wSetIx, wPar, wSwap, wSeqOf, wRng1, wRng2, wFor, wWhile, wYes, wComp, wEnum, wZip, wEnum2, wRgT, wRgL, wAug, dMulT, dMax, wMake, wFz, wCat, wRep, wipeE, D.ty, wIf_true, wIf_false, List.getElem?_cons_zero, List.getElem?_cons_succ, List.set_cons_zero, List.set_cons_succ, dI0_ii, dI_ii, dNeg_i, dGcd_ii, dAbs_i, dInt_i, dInt_b, dBits_i, dLen_t, dLen_l, dTuple_t, dTuple_l, dAdd_ii, dAdd_tt, dAdd_ll, dAdd_ss, dMul_ii, dMul_li, dIs_n, dIs_b, dIsN_n, dRepr_b, rt_0, rt_1, dEq, dNe, dSub, dDiv, dDivU, dMod, dLt, dLe, dGt, dGe, D.isNon, Bool.not_true, Bool.not_false])
    rw [← e]
    exact ⟨hb, hb, q'⟩
theorem big_log {a : Int} {n : Nat} (h : a.natAbs < 2 ^ n) (hn : 0 < n) (hs : n ≤ 1000000) : a.natAbs.log2 < 1000000 := by
  have := log2_lt h hn
  omega
theorem num_den_lt {x y : Rat} (hx : Sz x) (hy : Sz y) : (x.num * y.den).natAbs < 2 ^ (SB + SB) := natAbs_mul_lt hx.n hy.den
theorem hp__law_plus : ∀ ds b Q, ds.length = 2 → p__law_plus ds b Q → W__law_plus { nx := fun _ b' => Q .non b', rt := Q } (ds.map Slot.v ++ List.replicate 0 .un) b := by
  rintro ds b Q - ⟨x, y, rfl, hx, hy, -, q⟩
  show W__law_plus _ [.v (rt x), .v (rt y)] b
  (try simp only [wSeq, wSet, wSetO, wRet, wIfS, wFrz, wApp, wDrop, wNext, wBreak, wCont, wNever, wVar, wVarB, wC, wBin, wUn, wT, wAnd, wOr, wNot, wAndV, wOrV, wNotV, wIte, wNil, wCons, wTup, wCall, wListOf, wC2, wIsT, wIsC, wFld, wON, wOS, wSl, wV, wO, wSetIx, wPar, wSwap, wSeqOf, wRng1, wRng2, wFor, wWhile, wYes, wComp, wEnum, wZip, wEnum2, wRgT, wRgL, wAug, dMulT, dMax, wMake, wFz, wCat, wRep, wipeE, D.ty, wIf_true, wIf_false, List.getElem?_cons_zero, List.getElem?_cons_succ, List.set_cons_zero, List.set_cons_succ, dI0_ii, dI_ii, dNeg_i, dGcd_ii, dAbs_i, dInt_i, dInt_b, dBits_i, dLen_t, dLen_l, dTuple_t, dTuple_l, dAdd_ii, dAdd_tt, dAdd_ll, dAdd_ss, dMul_ii, dMul_li, dIs_n, dIs_b, dIsN_n, dRepr_b, rt_0, rt_1, dEq, dNe, dSub, dDiv, dDivU, dMod, dLt, dLe, dGt, dGe, D.isNon, Bool.not_true, Bool.not_false, W__law_plus])
  refine ⟨sz_mul hx.n hy.den, sz_mul hy.n hx.den, sz_mul hx.den hy.den, rfl, _, _, rfl, dens_ne x y, big_log (natAbs_add_lt (num_den_lt hx hy) (num_den_lt hy hx)) (by decide) (by decide), big_log (natAbs_mul_lt hx.den hy.den) (by decide) (by decide), ?_⟩
  rw [← add_rt]
  exact q
theorem hp__law_minus : ∀ ds b Q, ds.length = 2 → p__law_minus ds b Q → W__law_minus { nx := fun _ b' => Q .non b', rt := Q } (ds.map Slot.v ++ List.replicate 0 .un) b := by
  rintro ds b Q - ⟨x, y, rfl, hx, hy, -, q⟩
  show W__law_minus _ [.v (rt x), .v (rt y)] b
  (try simp only [wSeq, wSet, wSetO, wRet, wIfS, wFrz, wApp, wDrop, wNext, wBreak, wCont, wNever, wVar, wVarB, wC, wBin, wUn, wT, wAnd, wOr, wNot, wAndV, wOrV, wNotV, wIte, wNil, wCons, wTup, wCall, wListOf, wC2, wIsT, wIsC, wFld, wON, wOS, wSl, wV, wO, wSetIx, wPar, wSwap, wSeqOf, wRng1, wRng2, wFor, wWhile, wYes, wComp, wEnum, wZip, wEnum2, wRgT, wRgL, wAug, dMulT, dMax, wMake, wFz, wCat, wRep, wipeE, D.ty, wIf_true, wIf_false, List.getElem?_cons_zero, List.getElem?_cons_succ, List.set_cons_zero, List.set_cons_succ, dI0_ii, dI_ii, dNeg_i, dGcd_ii, dAbs_i, dInt_i, dInt_b, dBits_i, dLen_t, dLen_l, dTuple_t, dTuple_l, dAdd_ii, dAdd_tt, dAdd_ll, dAdd_ss, dMul_ii, dMul_li, dIs_n, dIs_b, dIsN_n, dRepr_b, rt_0, rt_1, dEq, dNe, dSub, dDiv, dDivU, dMod, dLt, dLe, dGt, dGe, D.isNon, Bool.not_true, Bool.not_false, W__law_minus])
  refine ⟨sz_mul hx.n hy.den, sz_mul hy.n hx.den, sz_mul hx.den hy.den, rfl, _, _, rfl, dens_ne x y, big_log (natAbs_sub_lt (num_den_lt hx hy) (num_den_lt hy hx)) (by decide) (by decide), big_log (natAbs_mul_lt hx.den hy.den) (by decide) (by decide), ?_⟩
  rw [← sub_rt]
  exact q
theorem hp__law_times : ∀ ds b Q, ds.length = 2 → p__law_times ds b Q → W__law_times { nx := fun _ b' => Q .non b', rt := Q } (ds.map Slot.v ++ List.replicate 0 .un) b := by
  rintro ds b Q - ⟨x, y, rfl, hx, hy, -, q⟩
  show W__law_times _ [.v (rt x), .v (rt y)] b
  (try simp only [wSeq, wSet, wSetO, wRet, wIfS, wFrz, wApp, wDrop, wNext, wBreak, wCont, wNever, wVar, wVarB, wC, wBin, wUn, wT, wAnd, wOr, wNot, wAndV, wOrV, wNotV, wIte, wNil, wCons, wTup, wCall, wListOf, wC2, wIsT, wIsC, wFld, wON, wOS, wSl, wV, wO, wSetIx, wPar, wSwap, wSeqOf, wRng1, wRng2, wFor, wWhile, wYes, wComp, wEnum, wZip, wEnum2, wRgT, wRgL, wAug, dMulT, dMax, wMake, wFz, wCat, wRep, wipeE, D.ty, wIf_true, wIf_false, List.getElem?_cons_zero, List.getElem?_cons_succ, List.set_cons_zero, List.set_cons_succ, dI0_ii, dI_ii, dNeg_i, dGcd_ii, dAbs_i, dInt_i, dInt_b, dBits_i, dLen_t, dLen_l, dTuple_t, dTuple_l, dAdd_ii, dAdd_tt, dAdd_ll, dAdd_ss, dMul_ii, dMul_li, dIs_n, dIs_b, dIsN_n, dRepr_b, rt_0, rt_1, dEq, dNe, dSub, dDiv, dDivU, dMod, dLt, dLe, dGt, dGe, D.isNon, Bool.not_true, Bool.not_false, W__law_times])
  refine ⟨sz_mul hx.n hy.n, sz_mul hx.den hy.den, rfl, _, _, rfl, dens_ne x y, big_log (natAbs_mul_lt hx.n hy.n) (by decide) (by decide), big_log (natAbs_mul_lt hx.den hy.den) (by decide) (by decide), ?_⟩
  rw [← mul_rt]
  exact q
theorem hp__law_share : ∀ ds b Q, ds.length = 2 → p__law_share ds b Q → W__law_share { nx := fun _ b' => Q .non b', rt := Q } (ds.map Slot.v ++ List.replicate 0 .un) b := by
  rintro ds b Q - ⟨x, y, rfl, hx, hy, h0, q⟩
  show W__law_share _ [.v (rt x), .v (rt y)] b
  have hn : (x.den : Int) * y.num ≠ 0 := Int.mul_ne_zero (by have := den_pos x; omega) (num_ne h0)
  (try simp only [wSeq, wSet, wSetO, wRet, wIfS, wFrz, wApp, wDrop, wNext, wBreak, wCont, wNever, wVar, wVarB, wC, wBin, wUn, wT, wAnd, wOr, wNot, wAndV, wOrV, wNotV, wIte, wNil, wCons, wTup, wCall, wListOf, wC2, wIsT, wIsC, wFld, wON, wOS, wSl, wV, wO, wSetIx, wPar, wSwap, wSeqOf, wRng1, wRng2, wFor, wWhile, wYes, wComp, wEnum, wZip, wEnum2, wRgT, wRgL, wAug, dMulT, dMax, wMake, wFz, wCat, wRep, wipeE, D.ty, wIf_true, wIf_false, List.getElem?_cons_zero, List.getElem?_cons_succ, List.set_cons_zero, List.set_cons_succ, dI0_ii, dI_ii, dNeg_i, dGcd_ii, dAbs_i, dInt_i, dInt_b, dBits_i, dLen_t, dLen_l, dTuple_t, dTuple_l, dAdd_ii, dAdd_tt, dAdd_ll, dAdd_ss, dMul_ii, dMul_li, dIs_n, dIs_b, dIsN_n, dRepr_b, rt_0, rt_1, dEq, dNe, dSub, dDiv, dDivU, dMod, dLt, dLe, dGt, dGe, D.isNon, Bool.not_true, Bool.not_false, W__law_share])
  refine ⟨sz_mul hx.n hy.den, sz_mul hx.den hy.n, rfl, _, _, rfl, hn, big_log (natAbs_mul_lt hx.n hy.den) (by decide) (by decide), big_log (natAbs_mul_lt hx.den hy.n) (by decide) (by decide), ?_⟩
  rw [← div_rt]
  exact q
/-! Euclid -/
theorem mod_half {a c : Nat} (h : 0 < c) (hc : c ≤ a) : 2 * (a % c) < a + 1 := by
  have h1 := Nat.mod_lt a h
  have h2 := Nat.div_add_mod a c
  have h3 : 1 ≤ a / c := Nat.div_pos hc h
  have h4 : c * 1 ≤ c * (a / c) := Nat.mul_le_mul_left c h3
  omega
theorem hp__law_gcd : ∀ ds b Q, ds.length = 2 → p__law_gcd ds b Q → W__law_gcd { nx := fun _ b' => Q .non b', rt := Q } (ds.map Slot.v ++ List.replicate 1 .un) b := by
  rintro ds b Q - ⟨t, k, rfl, h1, h2, q⟩
  show W__law_gcd _ [.v (.int t), .v (.int k), .un] b
  have eabs : ∀ i : Int, (if i < 0 then -i else i) = ((i.natAbs : Nat) : Int) := fun i => by split <;> omega
  (try simp only [wSeq, wSet, wSetO, wRet, wIfS, wFrz, wApp, wDrop, wNext, wBreak, wCont, wNever, wVar, wVarB, wC, wBin, wUn, wT, wAnd, wOr, wNot, wAndV, wOrV, wNotV, wIte, wNil, wCons, wTup, wCall, wListOf, wC2, wIsT, wIsC, wFld, wON, wOS, wSl, wV, wO, wSetIx, wPar, wSwap, wSeqOf, wRng1, wRng2, wFor, wWhile, wYes, wComp, wEnum, wZip, wEnum2, wRgT, wRgL, wAug, dMulT, dMax, wMake, wFz, wCat, wRep, wipeE, D.ty, wIf_true, wIf_false, List.getElem?_cons_zero, List.getElem?_cons_succ, List.set_cons_zero, List.set_cons_succ, dI0_ii, dI_ii, dNeg_i, dGcd_ii, dAbs_i, dInt_i, dInt_b, dBits_i, dLen_t, dLen_l, dTuple_t, dTuple_l, dAdd_ii, dAdd_tt, dAdd_ll, dAdd_ss, dMul_ii, dMul_li, dIs_n, dIs_b, dIsN_n, dRepr_b, rt_0, rt_1, dEq, dNe, dSub, dDiv, dDivU, dMod, dLt, dLe, dGt, dGe, D.isNon, Bool.not_true, Bool.not_false, W__law_gcd, eabs])
  have hbits : (Builtin.Int.intBits ((k.natAbs : Nat) : Int)) ≤ k.natAbs.log2 + 1 := by
    unfold Builtin.Int.intBits
    split
    · omega
    · rw [Int.natAbs_natCast]
      exact Nat.le_refl _
  have hb0 : k.natAbs < 2 ^ (Builtin.Int.intBits ((k.natAbs : Nat) : Int)) := by
    unfold Builtin.Int.intBits
    split
    · rename_i h
      have : ((k.natAbs : Nat) : Int) = 0 := by simpa using h
      have : k.natAbs = 0 := by omega
      rw [this]
      decide
    · rw [Int.natAbs_natCast]
      exact Nat.lt_log2_self
  generalize Builtin.Int.intBits ((k.natAbs : Nat) : Int) = n at hbits hb0
  refine ⟨cmulW_of (k := 2) (l := 64) (by decide) (by rw [Int.natAbs_natCast]; exact Nat.lt_of_lt_of_le (show n < 1000001 by omega) (by decide)) (by decide) (by decide) (by decide), ⟨by omega, by omega⟩, ?_⟩
  have len : (rangeD 0 (4 + 2 * (n : Int)).toNat).length = 4 + 2 * n := by rw [rangeD_len]; omega
  refine for_rule (I := fun i env b' => b' = b ∧ ∃ (x y : Nat) (s : Slot), env = [.v (.int (x : Int)), .v (.int (y : Int)), s] ∧ Nat.gcd x y = Nat.gcd t.natAbs k.natAbs ∧ (i = 0 → y < 2 ^ n) ∧ (1 ≤ i → y < x ∨ y = 0) ∧ (1 ≤ i → y = 0 ∨ x * y * 2 ^ i < 2 ^ (2 * n + 1))) ?_ ?_ _ _ ⟨rfl, _, _, _, rfl, rfl, fun h => hb0, fun h => by omega, fun h => by omega⟩
  · rintro i d env b' E' hd ⟨rfl, x, y, s, rfl, hg, h0, h3, h4⟩ hnx hct hbk hrt
    refine ⟨_, rfl, ?_⟩
    (try simp only [wSeq, wSet, wSetO, wRet, wIfS, wFrz, wApp, wDrop, wNext, wBreak, wCont, wNever, wVar, wVarB, wC, wBin, wUn, wT, wAnd, wOr, wNot, wAndV, wOrV, wNotV, wIte, wNil, wCons, wTup, wCall, wListOf, wC2, wIsT, wIsC, wFld, wON, wOS, wSl, wV, wO, wSetIx, wPar, wSwap, wSeqOf, wRng1, wRng2, wFor, wWhile, wYes, wComp, wEnum, wZip, wEnum2, wRgT, wRgL, wAug, dMulT, dMax, wMake, wFz, wCat, wRep, wipeE, D.ty, wIf_true, wIf_false, List.getElem?_cons_zero, List.getElem?_cons_succ, List.set_cons_zero, List.set_cons_succ, dI0_ii, dI_ii, dNeg_i, dGcd_ii, dAbs_i, dInt_i, dInt_b, dBits_i, dLen_t, dLen_l, dTuple_t, dTuple_l, dAdd_ii, dAdd_tt, dAdd_ll, dAdd_ss, dMul_ii, dMul_li, dIs_n, dIs_b, dIsN_n, dRepr_b, rt_0, rt_1, dEq, dNe, dSub, dDiv, dDivU, dMod, dLt, dLe, dGt, dGe, D.isNon, Bool.not_true, Bool.not_false])
    have ey : PyData.eqv (D.int (y : Int)).py (D.int 0).py = decide (y = 0) := by
      simp only [D.py, PyData.eqv]
      by_cases z : y = 0
      · subst z; rfl
      · rw [decide_eq_false z]
        simpa using z
    refine ⟨⟨rfl, rfl⟩, ?_⟩
    rw [ey]
    refine wIf_dec (fun hz => ?_) (fun hz => ?_)
    · subst hz
      rw [hbk]
      (try simp only [wSeq, wSet, wSetO, wRet, wIfS, wFrz, wApp, wDrop, wNext, wBreak, wCont, wNever, wVar, wVarB, wC, wBin, wUn, wT, wAnd, wOr, wNot, wAndV, wOrV, wNotV, wIte, wNil, wCons, wTup, wCall, wListOf, wC2, wIsT, wIsC, wFld, wON, wOS, wSl, wV, wO, wSetIx, wPar, wSwap, wSeqOf, wRng1, wRng2, wFor, wWhile, wYes, wComp, wEnum, wZip, wEnum2, wRgT, wRgL, wAug, dMulT, dMax, wMake, wFz, wCat, wRep, wipeE, D.ty, wIf_true, wIf_false, List.getElem?_cons_zero, List.getElem?_cons_succ, List.set_cons_zero, List.set_cons_succ, dI0_ii, dI_ii, dNeg_i, dGcd_ii, dAbs_i, dInt_i, dInt_b, dBits_i, dLen_t, dLen_l, dTuple_t, dTuple_l, dAdd_ii, dAdd_tt, dAdd_ll, dAdd_ss, dMul_ii, dMul_li, dIs_n, dIs_b, dIsN_n, dRepr_b, rt_0, rt_1, dEq, dNe, dSub, dDiv, dDivU, dMod, dLt, dLe, dGt, dGe, D.isNon, Bool.not_true, Bool.not_false])
      have : x = Nat.gcd t.natAbs k.natAbs := by rw [← hg, Nat.gcd_zero_right]
      rw [this]
      exact q
    · refine ⟨by omega, hnx _ _ ⟨rfl, y, x % y, .v d, ?_, ?_, fun h => by omega, fun _ => .inl (Nat.mod_lt _ (by omega)), fun _ => ?_⟩⟩
      · rw [show (x : Int).fmod (y : Int) = ((x % y : Nat) : Int) from (Int.fmod_eq_emod_of_nonneg _ (by omega)).trans (by omega)]
      · rw [Nat.gcd_comm, ← Nat.gcd_rec, Nat.gcd_comm, hg]
      · by_cases hm : x % y = 0
        · exact .inl hm
        · refine .inr ?_
          by_cases hi : i = 0
          · subst hi
            have hy := h0 rfl
            have hm1 := Nat.mod_lt x (show y > 0 by omega)
            have : y * (x % y) < 2 ^ n * 2 ^ n := Nat.mul_lt_mul'' hy (by omega)
            have e : 2 ^ (2 * n + 1) = 2 ^ n * 2 ^ n * 2 := by rw [Nat.pow_succ, Nat.two_mul, Nat.pow_add]
            rw [e, Nat.zero_add, Nat.pow_one]
            omega
          · have h4' := (h4 (by omega)).resolve_left hz
            have h3' := (h3 (by omega)).resolve_right hz
            have hh := mod_half (a := x) (c := y) (by omega) (by omega)
            have hle : 2 * (x % y) ≤ x := by omega
            have : y * (2 * (x % y)) ≤ y * x := Nat.mul_le_mul_left y hle
            have e : y * (x % y) * 2 ^ (i + 1) = y * (2 * (x % y)) * 2 ^ i := by rw [Nat.pow_succ, ← Nat.mul_assoc, Nat.mul_comm (y * (x % y) * 2 ^ i) 2]; simp only [Nat.mul_assoc, Nat.mul_left_comm]
            rw [e]
            refine Nat.lt_of_le_of_lt (Nat.mul_le_mul_right _ this) ?_
            rw [Nat.mul_comm y x]
            exact h4'
  · rintro env b' ⟨rfl, x, y, s, rfl, hg, h0, h3, h4⟩
    have hy : y = 0 := by
      by_cases hz : y = 0
      · exact hz
      · exfalso
        have h := (h4 (by omega)).resolve_left hz
        have z := (h3 (by omega)).resolve_right hz
        · · have : 1 ≤ x * y := Nat.mul_pos (by omega) (by omega)
            have h5 : 1 * 2 ^ (rangeD 0 (4 + 2 * (n : Int)).toNat).length ≤ x * y * 2 ^ (rangeD 0 (4 + 2 * (n : Int)).toNat).length := Nat.mul_le_mul_right _ this
            rw [len] at h h5
            have h6 : (2 : Nat) ^ (2 * n + 1) ≤ 2 ^ (4 + 2 * n) := Nat.pow_le_pow_right (by decide) (by omega)
            omega
    subst hy
    (try simp only [wSeq, wSet, wSetO, wRet, wIfS, wFrz, wApp, wDrop, wNext, wBreak, wCont, wNever, wVar, wVarB, wC, wBin, wUn, wT, wAnd, wOr, wNot, wAndV, wOrV, wNotV, wIte, wNil, wCons, wTup, wCall, wListOf, wC2, wIsT, wIsC, wFld, wON, wOS, wSl, wV, wO, wSetIx, wPar, wSwap, wSeqOf, wRng1, wRng2, wFor, wWhile, wYes, wComp, wEnum, wZip, wEnum2, wRgT, wRgL, wAug, dMulT, dMax, wMake, wFz, wCat, wRep, wipeE, D.ty, wIf_true, wIf_false, List.getElem?_cons_zero, List.getElem?_cons_succ, List.set_cons_zero, List.set_cons_succ, dI0_ii, dI_ii, dNeg_i, dGcd_ii, dAbs_i, dInt_i, dInt_b, dBits_i, dLen_t, dLen_l, dTuple_t, dTuple_l, dAdd_ii, dAdd_tt, dAdd_ll, dAdd_ss, dMul_ii, dMul_li, dIs_n, dIs_b, dIsN_n, dRepr_b, rt_0, rt_1, dEq, dNe, dSub, dDiv, dDivU, dMod, dLt, dLe, dGt, dGe, D.isNon, Bool.not_true, Bool.not_false])
    have : x = Nat.gcd t.natAbs k.natAbs := by rw [← hg, Nat.gcd_zero_right]
    rw [this]
    exact q
end En
/-! Rows of ratios, and the determinants. -/
namespace En
open PySem PySem.Spec PyProof.Rows L2
theorem hp__law_is_told : ∀ ds b Q, ds.length = 1 → p__law_is_told ds b Q → W__law_is_told { nx := fun _ b' => Q .non b', rt := Q } (ds.map Slot.v ++ List.replicate 0 .un) b := by
  rintro ds b Q - ⟨d, rfl, hs, hsm, q⟩
  show W__law_is_told _ [.v d] b
  cases d with
  | ins _ _ => cases hs
  | pen => cases hs
  | fn _ _ _ => cases hs
  | tup es =>
    (try simp only [wSeq, wSet, wSetO, wRet, wIfS, wFrz, wApp, wDrop, wNext, wBreak, wCont, wNever, wVar, wVarB, wC, wBin, wUn, wT, wAnd, wOr, wNot, wAndV, wOrV, wNotV, wIte, wNil, wCons, wTup, wCall, wListOf, wC2, wIsT, wIsC, wFld, wON, wOS, wSl, wV, wO, wSetIx, wPar, wSwap, wSeqOf, wRng1, wRng2, wFor, wWhile, wYes, wComp, wEnum, wZip, wEnum2, wRgT, wRgL, wAug, dMulT, dMax, wMake, wFz, wCat, wRep, wipeE, D.ty, wIf_true, wIf_false, List.getElem?_cons_zero, List.getElem?_cons_succ, List.set_cons_zero, List.set_cons_succ, dI0_ii, dI_ii, dNeg_i, dGcd_ii, dAbs_i, dInt_i, dInt_b, dBits_i, dLen_t, dLen_l, dTuple_t, dTuple_l, dAdd_ii, dAdd_tt, dAdd_ll, dAdd_ss, dMul_ii, dMul_li, dIs_n, dIs_b, dIsN_n, dRepr_b, rt_0, rt_1, dEq, dNe, dSub, dDiv, dDivU, dMod, dLt, dLe, dGt, dGe, D.isNon, Bool.not_true, Bool.not_false, W__law_is_told, f_tuple])
    rcases es with _ | ⟨x, _ | ⟨y, _ | ⟨z, r⟩⟩⟩
    · exact ⟨⟨rfl, rfl⟩, wIf_tt rfl q⟩
    · exact ⟨⟨rfl, rfl⟩, wIf_tt rfl q⟩
    · have hx : x.ty.isSome = true := by simp [D.shal] at hs; exact hs.1
      have hy : y.ty.isSome = true := by simp [D.shal] at hs; exact hs.2
      have q2 : Q (.bl (told2 x y).isSome) b := q
      refine ⟨⟨rfl, rfl⟩, wIf_ff rfl (dIx_t0 ⟨rfl, x, rfl, hx, ?_⟩)⟩
      cases x <;> try exact q2
      (try simp only [wSeq, wSet, wSetO, wRet, wIfS, wFrz, wApp, wDrop, wNext, wBreak, wCont, wNever, wVar, wVarB, wC, wBin, wUn, wT, wAnd, wOr, wNot, wAndV, wOrV, wNotV, wIte, wNil, wCons, wTup, wCall, wListOf, wC2, wIsT, wIsC, wFld, wON, wOS, wSl, wV, wO, wSetIx, wPar, wSwap, wSeqOf, wRng1, wRng2, wFor, wWhile, wYes, wComp, wEnum, wZip, wEnum2, wRgT, wRgL, wAug, dMulT, dMax, wMake, wFz, wCat, wRep, wipeE, D.ty, wIf_true, wIf_false, List.getElem?_cons_zero, List.getElem?_cons_succ, List.set_cons_zero, List.set_cons_succ, dI0_ii, dI_ii, dNeg_i, dGcd_ii, dAbs_i, dInt_i, dInt_b, dBits_i, dLen_t, dLen_l, dTuple_t, dTuple_l, dAdd_ii, dAdd_tt, dAdd_ll, dAdd_ss, dMul_ii, dMul_li, dIs_n, dIs_b, dIsN_n, dRepr_b, rt_0, rt_1, dEq, dNe, dSub, dDiv, dDivU, dMod, dLt, dLe, dGt, dGe, D.isNon, Bool.not_true, Bool.not_false, D.isInt])
      refine dIx_t1 ⟨rfl, y, rfl, hy, ?_⟩
      cases y <;> try exact q2
      (try simp only [wSeq, wSet, wSetO, wRet, wIfS, wFrz, wApp, wDrop, wNext, wBreak, wCont, wNever, wVar, wVarB, wC, wBin, wUn, wT, wAnd, wOr, wNot, wAndV, wOrV, wNotV, wIte, wNil, wCons, wTup, wCall, wListOf, wC2, wIsT, wIsC, wFld, wON, wOS, wSl, wV, wO, wSetIx, wPar, wSwap, wSeqOf, wRng1, wRng2, wFor, wWhile, wYes, wComp, wEnum, wZip, wEnum2, wRgT, wRgL, wAug, dMulT, dMax, wMake, wFz, wCat, wRep, wipeE, D.ty, wIf_true, wIf_false, List.getElem?_cons_zero, List.getElem?_cons_succ, List.set_cons_zero, List.set_cons_succ, dI0_ii, dI_ii, dNeg_i, dGcd_ii, dAbs_i, dInt_i, dInt_b, dBits_i, dLen_t, dLen_l, dTuple_t, dTuple_l, dAdd_ii, dAdd_tt, dAdd_ll, dAdd_ss, dMul_ii, dMul_li, dIs_n, dIs_b, dIsN_n, dRepr_b, rt_0, rt_1, dEq, dNe, dSub, dDiv, dDivU, dMod, dLt, dLe, dGt, dGe, D.isNon, Bool.not_true, Bool.not_false, D.isInt])
      rename_i t k
      refine dIx_t1 ?_
      (try simp only [wSeq, wSet, wSetO, wRet, wIfS, wFrz, wApp, wDrop, wNext, wBreak, wCont, wNever, wVar, wVarB, wC, wBin, wUn, wT, wAnd, wOr, wNot, wAndV, wOrV, wNotV, wIte, wNil, wCons, wTup, wCall, wListOf, wC2, wIsT, wIsC, wFld, wON, wOS, wSl, wV, wO, wSetIx, wPar, wSwap, wSeqOf, wRng1, wRng2, wFor, wWhile, wYes, wComp, wEnum, wZip, wEnum2, wRgT, wRgL, wAug, dMulT, dMax, wMake, wFz, wCat, wRep, wipeE, D.ty, wIf_true, wIf_false, List.getElem?_cons_zero, List.getElem?_cons_succ, List.set_cons_zero, List.set_cons_succ, dI0_ii, dI_ii, dNeg_i, dGcd_ii, dAbs_i, dInt_i, dInt_b, dBits_i, dLen_t, dLen_l, dTuple_t, dTuple_l, dAdd_ii, dAdd_tt, dAdd_ll, dAdd_ss, dMul_ii, dMul_li, dIs_n, dIs_b, dIsN_n, dRepr_b, rt_0, rt_1, dEq, dNe, dSub, dDiv, dDivU, dMod, dLt, dLe, dGt, dGe, D.isNon, Bool.not_true, Bool.not_false])
      refine wIf_dec (fun h => ?_) (fun h => ?_)
      · refine dIx_t0 (dIx_t1 ⟨rfl, _, _, rfl, hsm.1, hsm.2, ⟨rfl, rfl⟩, ?_⟩)
        refine bl_eq ?_ q2
        show (told2 (.int t) (.int k)).isSome = (((Nat.gcd t.natAbs k.natAbs : Nat) : Int) == 1)
        simp only [told2]
        by_cases g : Nat.gcd t.natAbs k.natAbs = 1
        · rw [dif_pos ⟨h, g⟩]
          show true = _
          symm
          rw [g]
          rfl
        · rw [dif_neg fun z => g z.2]
          symm
          simpa using fun z => g (by omega)
      · refine bl_eq ?_ q2
        simp only [told2]
        rw [dif_neg fun z => h z.1]
        rfl
    · have ne2 : (!PyData.eqv (D.int (x :: y :: z :: r).length).py (D.int 2).py) = true := by
        simp only [D.py, PyData.eqv, List.length_cons, Bool.not_eq_true', beq_eq_false_iff_ne]
        omega
      exact ⟨⟨rfl, rfl⟩, wIf_tt ne2 q⟩
  | _ => (try simp only [wSeq, wSet, wSetO, wRet, wIfS, wFrz, wApp, wDrop, wNext, wBreak, wCont, wNever, wVar, wVarB, wC, wBin, wUn, wT, wAnd, wOr, wNot, wAndV, wOrV, wNotV, wIte, wNil, wCons, wTup, wCall, wListOf, wC2, wIsT, wIsC, wFld, wON, wOS, wSl, wV, wO, wSetIx, wPar, wSwap, wSeqOf, wRng1, wRng2, wFor, wWhile, wYes, wComp, wEnum, wZip, wEnum2, wRgT, wRgL, wAug, dMulT, dMax, wMake, wFz, wCat, wRep, wipeE, D.ty, wIf_true, wIf_false, List.getElem?_cons_zero, List.getElem?_cons_succ, List.set_cons_zero, List.set_cons_succ, dI0_ii, dI_ii, dNeg_i, dGcd_ii, dAbs_i, dInt_i, dInt_b, dBits_i, dLen_t, dLen_l, dTuple_t, dTuple_l, dAdd_ii, dAdd_tt, dAdd_ll, dAdd_ss, dMul_ii, dMul_li, dIs_n, dIs_b, dIsN_n, dRepr_b, rt_0, rt_1, dEq, dNe, dSub, dDiv, dDivU, dMod, dLt, dLe, dGt, dGe, D.isNon, Bool.not_true, Bool.not_false, W__law_is_told, f_tuple]); exact q
/-! ### in_tuples -/
mutual
/-- no object in it, not deep, not long -/
def D.fit : Nat → D → Bool
  | _, .ins _ _ => false
  | _, .pen => false
  | _, .fn _ _ _ => false
  | 0, .tup _ => false
  | 0, .lst _ => false
  | n + 1, .tup ds => decide (ds.length < 1000000) && D.fits n ds
  | n + 1, .lst ds => decide (ds.length < 1000000) && D.fits n ds
  | _, _ => true
def D.fits : Nat → List D → Bool
  | _, [] => true
  | n, d :: r => D.fit n d && D.fits n r
end
mutual
def D.tupd : D → D
  | .tup ds => .tup (D.tupds ds)
  | .lst ds => .tup (D.tupds ds)
  | d => d
def D.tupds : List D → List D
  | [] => []
  | d :: r => D.tupd d :: D.tupds r
end
theorem fits_mem {n : Nat} : ∀ {ds : List D} {d : D}, D.fits n ds = true → d ∈ ds → d.fit n = true
  | [], _, _, h => by simp at h
  | a :: r, d, h, hm => by
    simp only [D.fits, Bool.and_eq_true] at h
    rcases List.mem_cons.mp hm with rfl | hm
    · exact h.1
    · exact fits_mem h.2 hm
theorem tupds_map : ∀ (ds : List D), D.tupds ds = ds.map D.tupd
  | [] => rfl
  | d :: r => by simp only [D.tupds, List.map_cons, tupds_map r]
def p_inT (n : Nat) : Spec := fun ds b Q => ∃ d, ds = [d] ∧ d.fit n = true ∧ Q d.tupd b
def W_in_tuples (p_in_tuples : Spec) : WS := (wSeq (wIfS (wNot (wT (wIsT f_tuple_list (wVarB 0)))) (wRet (wVar 0)) wNext) (wRet (wUn dTuple (wFz (wComp [1] (.one 1) (wSeqOf (wVar 0)) wYes (wCall 1 p_in_tuples (wCons (wVar 1) wNil)))))))
theorem hp_in_tuples0 : ∀ ds b Q, ds.length = 1 → p_inT 0 ds b Q → W_in_tuples (fun _ _ _ => False) { nx := fun _ b' => Q .non b', rt := Q } (ds.map Slot.v ++ List.replicate 1 .un) b := by
  rintro ds b Q - ⟨d, rfl, hf, q⟩
  show W_in_tuples _ _ [.v d, .un] b
  cases d <;> first | (simp [D.fit] at hf; done) | ((try simp only [wSeq, wSet, wSetO, wRet, wIfS, wFrz, wApp, wDrop, wNext, wBreak, wCont, wNever, wVar, wVarB, wC, wBin, wUn, wT, wAnd, wOr, wNot, wAndV, wOrV, wNotV, wIte, wNil, wCons, wTup, wCall, wListOf, wC2, wIsT, wIsC, wFld, wON, wOS, wSl, wV, wO, wSetIx, wPar, wSwap, wSeqOf, wRng1, wRng2, wFor, wWhile, wYes, wComp, wEnum, wZip, wEnum2, wRgT, wRgL, wAug, dMulT, dMax, wMake, wFz, wCat, wRep, wipeE, D.ty, wIf_true, wIf_false, List.getElem?_cons_zero, List.getElem?_cons_succ, List.set_cons_zero, List.set_cons_succ, dI0_ii, dI_ii, dNeg_i, dGcd_ii, dAbs_i, dInt_i, dInt_b, dBits_i, dLen_t, dLen_l, dTuple_t, dTuple_l, dAdd_ii, dAdd_tt, dAdd_ll, dAdd_ss, dMul_ii, dMul_li, dIs_n, dIs_b, dIsN_n, dRepr_b, rt_0, rt_1, dEq, dNe, dSub, dDiv, dDivU, dMod, dLt, dLe, dGt, dGe, D.isNon, Bool.not_true, Bool.not_false, W_in_tuples, f_tuple_list]); exact q)
theorem hp_in_tuples (n : Nat) : ∀ ds b Q, ds.length = 1 → p_inT (n + 1) ds b Q → W_in_tuples (p_inT n) { nx := fun _ b' => Q .non b', rt := Q } (ds.map Slot.v ++ List.replicate 1 .un) b := by
  rintro ds b Q - ⟨d, rfl, hf, q⟩
  show W_in_tuples _ _ [.v d, .un] b
  have seq : ∀ es : List D, es.length < 1000000 → D.fits n es = true → Q (.tup (D.tupds es)) b → ∀ s, (cmpL (.one 1) wYes (wCall 1 (p_inT n) (wCons (wVar 1) wNil)) [s, .un] es b fun ds b' => Q (.tup ds) b') := by
    intro es hl hes q s
    refine cmp_map D.tupd es _ (fun d hd => ⟨_, rfl, fun K k => ?_⟩) (by rw [← tupds_map]; exact q)
    (try simp only [wSeq, wSet, wSetO, wRet, wIfS, wFrz, wApp, wDrop, wNext, wBreak, wCont, wNever, wVar, wVarB, wC, wBin, wUn, wT, wAnd, wOr, wNot, wAndV, wOrV, wNotV, wIte, wNil, wCons, wTup, wCall, wListOf, wC2, wIsT, wIsC, wFld, wON, wOS, wSl, wV, wO, wSetIx, wPar, wSwap, wSeqOf, wRng1, wRng2, wFor, wWhile, wYes, wComp, wEnum, wZip, wEnum2, wRgT, wRgL, wAug, dMulT, dMax, wMake, wFz, wCat, wRep, wipeE, D.ty, wIf_true, wIf_false, List.getElem?_cons_zero, List.getElem?_cons_succ, List.set_cons_zero, List.set_cons_succ, dI0_ii, dI_ii, dNeg_i, dGcd_ii, dAbs_i, dInt_i, dInt_b, dBits_i, dLen_t, dLen_l, dTuple_t, dTuple_l, dAdd_ii, dAdd_tt, dAdd_ll, dAdd_ss, dMul_ii, dMul_li, dIs_n, dIs_b, dIsN_n, dRepr_b, rt_0, rt_1, dEq, dNe, dSub, dDiv, dDivU, dMod, dLt, dLe, dGt, dGe, D.isNon, Bool.not_true, Bool.not_false])
    exact ⟨rfl, d, rfl, fits_mem hes hd, k⟩
  cases d <;> try (first | (simp [D.fit] at hf; done) | ((try simp only [wSeq, wSet, wSetO, wRet, wIfS, wFrz, wApp, wDrop, wNext, wBreak, wCont, wNever, wVar, wVarB, wC, wBin, wUn, wT, wAnd, wOr, wNot, wAndV, wOrV, wNotV, wIte, wNil, wCons, wTup, wCall, wListOf, wC2, wIsT, wIsC, wFld, wON, wOS, wSl, wV, wO, wSetIx, wPar, wSwap, wSeqOf, wRng1, wRng2, wFor, wWhile, wYes, wComp, wEnum, wZip, wEnum2, wRgT, wRgL, wAug, dMulT, dMax, wMake, wFz, wCat, wRep, wipeE, D.ty, wIf_true, wIf_false, List.getElem?_cons_zero, List.getElem?_cons_succ, List.set_cons_zero, List.set_cons_succ, dI0_ii, dI_ii, dNeg_i, dGcd_ii, dAbs_i, dInt_i, dInt_b, dBits_i, dLen_t, dLen_l, dTuple_t, dTuple_l, dAdd_ii, dAdd_tt, dAdd_ll, dAdd_ss, dMul_ii, dMul_li, dIs_n, dIs_b, dIsN_n, dRepr_b, rt_0, rt_1, dEq, dNe, dSub, dDiv, dDivU, dMod, dLt, dLe, dGt, dGe, D.isNon, Bool.not_true, Bool.not_false, W_in_tuples, f_tuple_list]); exact q))
  · simp only [D.fit, Bool.and_eq_true, decide_eq_true_eq] at hf
    (try simp only [wSeq, wSet, wSetO, wRet, wIfS, wFrz, wApp, wDrop, wNext, wBreak, wCont, wNever, wVar, wVarB, wC, wBin, wUn, wT, wAnd, wOr, wNot, wAndV, wOrV, wNotV, wIte, wNil, wCons, wTup, wCall, wListOf, wC2, wIsT, wIsC, wFld, wON, wOS, wSl, wV, wO, wSetIx, wPar, wSwap, wSeqOf, wRng1, wRng2, wFor, wWhile, wYes, wComp, wEnum, wZip, wEnum2, wRgT, wRgL, wAug, dMulT, dMax, wMake, wFz, wCat, wRep, wipeE, D.ty, wIf_true, wIf_false, List.getElem?_cons_zero, List.getElem?_cons_succ, List.set_cons_zero, List.set_cons_succ, dI0_ii, dI_ii, dNeg_i, dGcd_ii, dAbs_i, dInt_i, dInt_b, dBits_i, dLen_t, dLen_l, dTuple_t, dTuple_l, dAdd_ii, dAdd_tt, dAdd_ll, dAdd_ss, dMul_ii, dMul_li, dIs_n, dIs_b, dIsN_n, dRepr_b, rt_0, rt_1, dEq, dNe, dSub, dDiv, dDivU, dMod, dLt, dLe, dGt, dGe, D.isNon, Bool.not_true, Bool.not_false, W_in_tuples, f_tuple_list])
    exact ⟨hf.1, seq _ hf.1 hf.2 q _⟩
  · simp only [D.fit, Bool.and_eq_true, decide_eq_true_eq] at hf
    (try simp only [wSeq, wSet, wSetO, wRet, wIfS, wFrz, wApp, wDrop, wNext, wBreak, wCont, wNever, wVar, wVarB, wC, wBin, wUn, wT, wAnd, wOr, wNot, wAndV, wOrV, wNotV, wIte, wNil, wCons, wTup, wCall, wListOf, wC2, wIsT, wIsC, wFld, wON, wOS, wSl, wV, wO, wSetIx, wPar, wSwap, wSeqOf, wRng1, wRng2, wFor, wWhile, wYes, wComp, wEnum, wZip, wEnum2, wRgT, wRgL, wAug, dMulT, dMax, wMake, wFz, wCat, wRep, wipeE, D.ty, wIf_true, wIf_false, List.getElem?_cons_zero, List.getElem?_cons_succ, List.set_cons_zero, List.set_cons_succ, dI0_ii, dI_ii, dNeg_i, dGcd_ii, dAbs_i, dInt_i, dInt_b, dBits_i, dLen_t, dLen_l, dTuple_t, dTuple_l, dAdd_ii, dAdd_tt, dAdd_ll, dAdd_ss, dMul_ii, dMul_li, dIs_n, dIs_b, dIsN_n, dRepr_b, rt_0, rt_1, dEq, dNe, dSub, dDiv, dDivU, dMod, dLt, dLe, dGt, dGe, D.isNon, Bool.not_true, Bool.not_false, W_in_tuples, f_tuple_list])
    exact ⟨hf.1, seq _ hf.1 hf.2 q _⟩
/-! ### loose ratios, rows -/
def LooseR (d : D) (r : Rat) : Prop := (∃ i : Int, d = .int i ∧ r = (i : Rat)) ∨ ∃ t k : Int, d = .tup [.int t, .int k] ∧ 0 < k ∧ r = Rat.divInt t k
def D.loose : D → Bool
  | .int _ => true
  | .tup es => (D.tup es).isPair
  | _ => false
theorem LooseR.loose {d : D} {r : Rat} (h : LooseR d r) : d.loose = true ∧ d.shal = true ∧ d.fit 1 = true ∧ d.tupd = d := by
  rcases h with ⟨i, rfl, _⟩ | ⟨t, k, rfl, hk, _⟩
  · exact ⟨rfl, rfl, rfl, rfl⟩
  · exact ⟨decide_eq_true hk, rfl, rfl, rfl⟩
theorem loose_rt (x : Rat) : LooseR (rt x) x := by
  exact .inr ⟨x.num, x.den, rfl, den_pos x, (Rat.num_divInt_den x).symm⟩
/-- items that stand for the ratios -/
inductive RowR : List D → List Rat → Prop
  | nil : RowR [] []
  | cons {d : D} {r : Rat} {ds : List D} {rs : List Rat} : LooseR d r → RowR ds rs → RowR (d :: ds) (r :: rs)
theorem RowR.len : ∀ {ds : List D} {rs : List Rat}, RowR ds rs → ds.length = rs.length
  | _, _, .nil => rfl
  | _, _, .cons _ h => by simp [h.len]
theorem RowR.mem : ∀ {ds : List D} {rs : List Rat} {d : D}, RowR ds rs → d ∈ ds → ∃ r, LooseR d r
  | _, _, _, .nil, h => by simp at h
  | _, _, _, .cons h1 h2, h => by
    rcases List.mem_cons.mp h with rfl | h
    · exact ⟨_, h1⟩
    · exact h2.mem h
theorem row_rt : ∀ (xs : List Rat), RowR (xs.map rt) xs
  | [] => .nil
  | x :: r => .cons (loose_rt x) (row_rt r)
theorem RowR.tupds : ∀ {ds : List D} {rs : List Rat}, RowR ds rs → D.tupds ds = ds
  | _, _, .nil => rfl
  | _, _, .cons h1 h2 => by simp only [D.tupds, h1.loose.2.2.2, h2.tupds]
theorem RowR.fits : ∀ {ds : List D} {rs : List Rat}, RowR ds rs → D.fits 1 ds = true
  | _, _, .nil => rfl
  | _, _, .cons h1 h2 => by simp only [D.fits, h1.loose.2.2.1, h2.fits, Bool.and_self]
def p_is_loose : Spec := fun ds b Q => ∃ d, ds = [d] ∧ d.shal = true ∧ Q (.bl d.loose) b
def p_told_ratio : Spec := fun ds b Q => ∃ d r, ds = [d] ∧ LooseR d r ∧ Q (rt r) b
def p_loose_row : Spec := fun ds b Q => ∃ es rs, ds = [.tup es] ∧ es.length < 1000000 ∧ RowR es rs ∧ Q (.tup (rs.map rt)) b
def p_in_tuples : Spec := p_inT 9
def p_row_from : Spec := fun ds b Q => ∃ (d : D) (es : List D) (rs : List Rat) (least most : Int), ds = [d, .int least, .int most] ∧ d.fit 9 = true ∧ d.tupd = .tup es ∧ RowR es rs ∧ es.length < 1000000 ∧ least ≤ rs.length ∧ rs.length ≤ most ∧ Q (.tup (rs.map rt)) b
def D.ratRow (m : Int) : D → Bool
  | .tup es => decide ((es.length : Int) = m) && es.all fun e => e.told.isSome
  | _ => false
def D.rowOk : D → Prop
  | .tup es => es.length < 1000000 ∧ ∀ e ∈ es, e.shal = true ∧ e.smallPair
  | d => d.ty.isSome = true
def p_is_ratio_row : Spec := fun ds b Q => ∃ (m : Int) (d : D), ds = [.int m, d] ∧ d.rowOk ∧ Q (.bl (d.ratRow m)) b
def p__law_is_row : Spec := fun ds b Q => ∃ (m : Int) (d : D), ds = [d, .int m] ∧ d.rowOk ∧ Q (.bl (d.ratRow m)) b
/-- is_loose: value -/
def W_is_loose : WS := (wRet (wOrV (wCall 1 p_is_whole (wCons (wVar 0) wNil)) (wAndV (wIsT f_tuple (wVarB 0)) (wCall 1 p_is_pair (wCons (wVar 0) wNil)))))
/-- told_ratio: value -/
def W_told_ratio : WS := (wRet (wIte (wT (wCall 1 p_is_whole (wCons (wVar 0) wNil))) (wTup (wCons (wVar 0) (wCons (wC (.int 1)) wNil))) (wCall 2 p_lowest (wCons (wBin dIx (wVarB 0) (wC (.int 0))) (wCons (wBin dIx (wVarB 0) (wC (.int 1))) wNil)))))
/-- loose_row: value, item -/
def W_loose_row : WS := (wSeq (wIfS (wOr (wNot (wT (wIsT f_tuple (wVarB 0)))) (wNot (wT (wUn dAll (wFz (wComp [1] (.one 1) (wSeqOf (wVar 0)) wYes (wCall 1 p_is_loose (wCons (wVar 1) wNil)))))))) (wRet (wC .non)) wNext) (wRet (wUn dTuple (wFz (wComp [1] (.one 1) (wSeqOf (wVar 0)) wYes (wCall 1 p_told_ratio (wCons (wVar 1) wNil)))))))
/-- row_from: row, least, most, made -/
def W_row_from : WS := (wSeq (wSet 3 (wCall 1 p_loose_row (wCons (wCall 1 p_in_tuples (wCons (wVar 0) wNil)) wNil))) (wSeq (wIfS (wOr (wT (wBin dIs (wVarB 3) (wC .non))) (wNot (wT (wChain dLe dLe (wVarB 1) (wUn dLen (wVarB 3)) (wVarB 2))))) wNever wNext) (wRet (wVar 3))))
/-- is_ratio_row: many, value, item -/
def W_is_ratio_row : WS := (wRet (wAndV (wCall 2 p_is_tuple_of (wCons (wVar 1) (wCons (wVar 0) wNil))) (wUn dAll (wFz (wComp [2] (.one 2) (wSeqOf (wVar 1)) wYes (wCall 1 p_is_told (wCons (wVar 2) wNil)))))))
/-- _law_is_row: thing, long, item -/
def W__law_is_row : WS := (wRet (wAndV (wIsT f_tuple (wVarB 0)) (wAndV (wBin dEq (wUn dLen (wVarB 0)) (wVarB 1)) (wUn dAll (wFz (wComp [2] (.one 2) (wSeqOf (wVar 0)) wYes (wCall 1 p__law_is_told (wCons (wVar 2) wNil))))))))
theorem hp_is_loose : ∀ ds b Q, ds.length = 1 → p_is_loose ds b Q → W_is_loose { nx := fun _ b' => Q .non b', rt := Q } (ds.map Slot.v ++ List.replicate 0 .un) b := by
  rintro ds b Q - ⟨d, rfl, hs, q⟩
  show W_is_loose _ [.v d] b
  have ht : d.ty.isSome = true := by cases d <;> first | rfl | (simp [D.shal] at hs; done)
  (try simp only [wSeq, wSet, wSetO, wRet, wIfS, wFrz, wApp, wDrop, wNext, wBreak, wCont, wNever, wVar, wVarB, wC, wBin, wUn, wT, wAnd, wOr, wNot, wAndV, wOrV, wNotV, wIte, wNil, wCons, wTup, wCall, wListOf, wC2, wIsT, wIsC, wFld, wON, wOS, wSl, wV, wO, wSetIx, wPar, wSwap, wSeqOf, wRng1, wRng2, wFor, wWhile, wYes, wComp, wEnum, wZip, wEnum2, wRgT, wRgL, wAug, dMulT, dMax, wMake, wFz, wCat, wRep, wipeE, D.ty, wIf_true, wIf_false, List.getElem?_cons_zero, List.getElem?_cons_succ, List.set_cons_zero, List.set_cons_succ, dI0_ii, dI_ii, dNeg_i, dGcd_ii, dAbs_i, dInt_i, dInt_b, dBits_i, dLen_t, dLen_l, dTuple_t, dTuple_l, dAdd_ii, dAdd_tt, dAdd_ll, dAdd_ss, dMul_ii, dMul_li, dIs_n, dIs_b, dIsN_n, dRepr_b, rt_0, rt_1, dEq, dNe, dSub, dDiv, dDivU, dMod, dLt, dLe, dGt, dGe, D.isNon, Bool.not_true, Bool.not_false, W_is_loose])
  refine ⟨rfl, d, rfl, ht, ?_⟩
  cases d <;> first | (simp [D.shal] at hs; done) | ((try simp only [wSeq, wSet, wSetO, wRet, wIfS, wFrz, wApp, wDrop, wNext, wBreak, wCont, wNever, wVar, wVarB, wC, wBin, wUn, wT, wAnd, wOr, wNot, wAndV, wOrV, wNotV, wIte, wNil, wCons, wTup, wCall, wListOf, wC2, wIsT, wIsC, wFld, wON, wOS, wSl, wV, wO, wSetIx, wPar, wSwap, wSeqOf, wRng1, wRng2, wFor, wWhile, wYes, wComp, wEnum, wZip, wEnum2, wRgT, wRgL, wAug, dMulT, dMax, wMake, wFz, wCat, wRep, wipeE, D.ty, wIf_true, wIf_false, List.getElem?_cons_zero, List.getElem?_cons_succ, List.set_cons_zero, List.set_cons_succ, dI0_ii, dI_ii, dNeg_i, dGcd_ii, dAbs_i, dInt_i, dInt_b, dBits_i, dLen_t, dLen_l, dTuple_t, dTuple_l, dAdd_ii, dAdd_tt, dAdd_ll, dAdd_ss, dMul_ii, dMul_li, dIs_n, dIs_b, dIsN_n, dRepr_b, rt_0, rt_1, dEq, dNe, dSub, dDiv, dDivU, dMod, dLt, dLe, dGt, dGe, D.isNon, Bool.not_true, Bool.not_false, f_tuple, D.isInt]); exact q) | ((try simp only [wSeq, wSet, wSetO, wRet, wIfS, wFrz, wApp, wDrop, wNext, wBreak, wCont, wNever, wVar, wVarB, wC, wBin, wUn, wT, wAnd, wOr, wNot, wAndV, wOrV, wNotV, wIte, wNil, wCons, wTup, wCall, wListOf, wC2, wIsT, wIsC, wFld, wON, wOS, wSl, wV, wO, wSetIx, wPar, wSwap, wSeqOf, wRng1, wRng2, wFor, wWhile, wYes, wComp, wEnum, wZip, wEnum2, wRgT, wRgL, wAug, dMulT, dMax, wMake, wFz, wCat, wRep, wipeE, D.ty, wIf_true, wIf_false, List.getElem?_cons_zero, List.getElem?_cons_succ, List.set_cons_zero, List.set_cons_succ, dI0_ii, dI_ii, dNeg_i, dGcd_ii, dAbs_i, dInt_i, dInt_b, dBits_i, dLen_t, dLen_l, dTuple_t, dTuple_l, dAdd_ii, dAdd_tt, dAdd_ll, dAdd_ss, dMul_ii, dMul_li, dIs_n, dIs_b, dIsN_n, dRepr_b, rt_0, rt_1, dEq, dNe, dSub, dDiv, dDivU, dMod, dLt, dLe, dGt, dGe, D.isNon, Bool.not_true, Bool.not_false, f_tuple, D.isInt]); exact ⟨rfl, _, rfl, hs, q⟩)
theorem hp_told_ratio : ∀ ds b Q, ds.length = 1 → p_told_ratio ds b Q → W_told_ratio { nx := fun _ b' => Q .non b', rt := Q } (ds.map Slot.v ++ List.replicate 0 .un) b := by
  rintro ds b Q - ⟨d, r, rfl, hl, q⟩
  show W_told_ratio _ [.v d] b
  (try simp only [wSeq, wSet, wSetO, wRet, wIfS, wFrz, wApp, wDrop, wNext, wBreak, wCont, wNever, wVar, wVarB, wC, wBin, wUn, wT, wAnd, wOr, wNot, wAndV, wOrV, wNotV, wIte, wNil, wCons, wTup, wCall, wListOf, wC2, wIsT, wIsC, wFld, wON, wOS, wSl, wV, wO, wSetIx, wPar, wSwap, wSeqOf, wRng1, wRng2, wFor, wWhile, wYes, wComp, wEnum, wZip, wEnum2, wRgT, wRgL, wAug, dMulT, dMax, wMake, wFz, wCat, wRep, wipeE, D.ty, wIf_true, wIf_false, List.getElem?_cons_zero, List.getElem?_cons_succ, List.set_cons_zero, List.set_cons_succ, dI0_ii, dI_ii, dNeg_i, dGcd_ii, dAbs_i, dInt_i, dInt_b, dBits_i, dLen_t, dLen_l, dTuple_t, dTuple_l, dAdd_ii, dAdd_tt, dAdd_ll, dAdd_ss, dMul_ii, dMul_li, dIs_n, dIs_b, dIsN_n, dRepr_b, rt_0, rt_1, dEq, dNe, dSub, dDiv, dDivU, dMod, dLt, dLe, dGt, dGe, D.isNon, Bool.not_true, Bool.not_false, W_told_ratio])
  rcases hl with ⟨i, rfl, rfl⟩ | ⟨t, k, rfl, hk, rfl⟩
  · exact ⟨rfl, _, rfl, rfl, q⟩
  · refine ⟨rfl, _, rfl, rfl, ?_⟩
    (try simp only [wSeq, wSet, wSetO, wRet, wIfS, wFrz, wApp, wDrop, wNext, wBreak, wCont, wNever, wVar, wVarB, wC, wBin, wUn, wT, wAnd, wOr, wNot, wAndV, wOrV, wNotV, wIte, wNil, wCons, wTup, wCall, wListOf, wC2, wIsT, wIsC, wFld, wON, wOS, wSl, wV, wO, wSetIx, wPar, wSwap, wSeqOf, wRng1, wRng2, wFor, wWhile, wYes, wComp, wEnum, wZip, wEnum2, wRgT, wRgL, wAug, dMulT, dMax, wMake, wFz, wCat, wRep, wipeE, D.ty, wIf_true, wIf_false, List.getElem?_cons_zero, List.getElem?_cons_succ, List.set_cons_zero, List.set_cons_succ, dI0_ii, dI_ii, dNeg_i, dGcd_ii, dAbs_i, dInt_i, dInt_b, dBits_i, dLen_t, dLen_l, dTuple_t, dTuple_l, dAdd_ii, dAdd_tt, dAdd_ll, dAdd_ss, dMul_ii, dMul_li, dIs_n, dIs_b, dIsN_n, dRepr_b, rt_0, rt_1, dEq, dNe, dSub, dDiv, dDivU, dMod, dLt, dLe, dGt, dGe, D.isNon, Bool.not_true, Bool.not_false, D.isInt])
    exact dIx_t0 (dIx_t1 ⟨rfl, t, k, rfl, by omega, q⟩)
theorem hp_loose_row : ∀ ds b Q, ds.length = 1 → p_loose_row ds b Q → W_loose_row { nx := fun _ b' => Q .non b', rt := Q } (ds.map Slot.v ++ List.replicate 1 .un) b := by
  rintro ds b Q - ⟨es, rs, rfl, hl, hr, q⟩
  show W_loose_row _ [.v (.tup es), .un] b
  (try simp only [wSeq, wSet, wSetO, wRet, wIfS, wFrz, wApp, wDrop, wNext, wBreak, wCont, wNever, wVar, wVarB, wC, wBin, wUn, wT, wAnd, wOr, wNot, wAndV, wOrV, wNotV, wIte, wNil, wCons, wTup, wCall, wListOf, wC2, wIsT, wIsC, wFld, wON, wOS, wSl, wV, wO, wSetIx, wPar, wSwap, wSeqOf, wRng1, wRng2, wFor, wWhile, wYes, wComp, wEnum, wZip, wEnum2, wRgT, wRgL, wAug, dMulT, dMax, wMake, wFz, wCat, wRep, wipeE, D.ty, wIf_true, wIf_false, List.getElem?_cons_zero, List.getElem?_cons_succ, List.set_cons_zero, List.set_cons_succ, dI0_ii, dI_ii, dNeg_i, dGcd_ii, dAbs_i, dInt_i, dInt_b, dBits_i, dLen_t, dLen_l, dTuple_t, dTuple_l, dAdd_ii, dAdd_tt, dAdd_ll, dAdd_ss, dMul_ii, dMul_li, dIs_n, dIs_b, dIsN_n, dRepr_b, rt_0, rt_1, dEq, dNe, dSub, dDiv, dDivU, dMod, dLt, dLe, dGt, dGe, D.isNon, Bool.not_true, Bool.not_false, W_loose_row, f_tuple])
  refine ⟨hl, cmp_map (fun d => .bl d.loose) es _ (fun d hd => ⟨_, rfl, fun K k => ?_⟩) ?_⟩
  · (try simp only [wSeq, wSet, wSetO, wRet, wIfS, wFrz, wApp, wDrop, wNext, wBreak, wCont, wNever, wVar, wVarB, wC, wBin, wUn, wT, wAnd, wOr, wNot, wAndV, wOrV, wNotV, wIte, wNil, wCons, wTup, wCall, wListOf, wC2, wIsT, wIsC, wFld, wON, wOS, wSl, wV, wO, wSetIx, wPar, wSwap, wSeqOf, wRng1, wRng2, wFor, wWhile, wYes, wComp, wEnum, wZip, wEnum2, wRgT, wRgL, wAug, dMulT, dMax, wMake, wFz, wCat, wRep, wipeE, D.ty, wIf_true, wIf_false, List.getElem?_cons_zero, List.getElem?_cons_succ, List.set_cons_zero, List.set_cons_succ, dI0_ii, dI_ii, dNeg_i, dGcd_ii, dAbs_i, dInt_i, dInt_b, dBits_i, dLen_t, dLen_l, dTuple_t, dTuple_l, dAdd_ii, dAdd_tt, dAdd_ll, dAdd_ss, dMul_ii, dMul_li, dIs_n, dIs_b, dIsN_n, dRepr_b, rt_0, rt_1, dEq, dNe, dSub, dDiv, dDivU, dMod, dLt, dLe, dGt, dGe, D.isNon, Bool.not_true, Bool.not_false])
    obtain ⟨r, hr'⟩ := hr.mem hd
    exact ⟨rfl, d, rfl, hr'.loose.2.1, k⟩
  · have e : es.map (fun d => D.bl d.loose) = (es.map D.loose).map D.bl := by rw [List.map_map]; rfl
    refine ⟨es.map D.loose, e, ?_⟩
    have ha : (es.map D.loose).all id = true := by
      rw [List.all_eq_true]
      intro x hx
      obtain ⟨d, hd, rfl⟩ := List.mem_map.mp hx
      obtain ⟨r, hr'⟩ := hr.mem hd
      exact hr'.loose.1
    rw [ha]
    (try simp only [wSeq, wSet, wSetO, wRet, wIfS, wFrz, wApp, wDrop, wNext, wBreak, wCont, wNever, wVar, wVarB, wC, wBin, wUn, wT, wAnd, wOr, wNot, wAndV, wOrV, wNotV, wIte, wNil, wCons, wTup, wCall, wListOf, wC2, wIsT, wIsC, wFld, wON, wOS, wSl, wV, wO, wSetIx, wPar, wSwap, wSeqOf, wRng1, wRng2, wFor, wWhile, wYes, wComp, wEnum, wZip, wEnum2, wRgT, wRgL, wAug, dMulT, dMax, wMake, wFz, wCat, wRep, wipeE, D.ty, wIf_true, wIf_false, List.getElem?_cons_zero, List.getElem?_cons_succ, List.set_cons_zero, List.set_cons_succ, dI0_ii, dI_ii, dNeg_i, dGcd_ii, dAbs_i, dInt_i, dInt_b, dBits_i, dLen_t, dLen_l, dTuple_t, dTuple_l, dAdd_ii, dAdd_tt, dAdd_ll, dAdd_ss, dMul_ii, dMul_li, dIs_n, dIs_b, dIsN_n, dRepr_b, rt_0, rt_1, dEq, dNe, dSub, dDiv, dDivU, dMod, dLt, dLe, dGt, dGe, D.isNon, Bool.not_true, Bool.not_false])
    refine ⟨hl, ?_⟩
    have run : ∀ (env0 : Env), env0.length = 2 → ∀ (es : List D) (rs : List Rat), RowR es rs → ∀ Q : List D → Nat → Prop, Q (rs.map rt) b → cmpL (.one 1) wYes (wCall 1 p_told_ratio (wCons (wVar 1) wNil)) env0 es b Q := by
      intro env0 he es
      obtain ⟨a, c, rfl⟩ : ∃ a c, env0 = [a, c] := by
        match env0, he with
        | [a, c], _ => exact ⟨a, c, rfl⟩
      induction es with
      | nil =>
        intro rs h Q q
        cases h
        exact q
      | cons d r ih =>
        intro rs h Q q
        cases h with
        | cons h1 h2 =>
          simp only [cmpL, setTg]
          (try simp only [wSeq, wSet, wSetO, wRet, wIfS, wFrz, wApp, wDrop, wNext, wBreak, wCont, wNever, wVar, wVarB, wC, wBin, wUn, wT, wAnd, wOr, wNot, wAndV, wOrV, wNotV, wIte, wNil, wCons, wTup, wCall, wListOf, wC2, wIsT, wIsC, wFld, wON, wOS, wSl, wV, wO, wSetIx, wPar, wSwap, wSeqOf, wRng1, wRng2, wFor, wWhile, wYes, wComp, wEnum, wZip, wEnum2, wRgT, wRgL, wAug, dMulT, dMax, wMake, wFz, wCat, wRep, wipeE, D.ty, wIf_true, wIf_false, List.getElem?_cons_zero, List.getElem?_cons_succ, List.set_cons_zero, List.set_cons_succ, dI0_ii, dI_ii, dNeg_i, dGcd_ii, dAbs_i, dInt_i, dInt_b, dBits_i, dLen_t, dLen_l, dTuple_t, dTuple_l, dAdd_ii, dAdd_tt, dAdd_ll, dAdd_ss, dMul_ii, dMul_li, dIs_n, dIs_b, dIsN_n, dRepr_b, rt_0, rt_1, dEq, dNe, dSub, dDiv, dDivU, dMod, dLt, dLe, dGt, dGe, D.isNon, Bool.not_true, Bool.not_false])
          exact ⟨rfl, d, _, rfl, h1, ih _ h2 _ q⟩
    exact run _ rfl es rs hr _ q
theorem hp_row_from : ∀ ds b Q, ds.length = 3 → p_row_from ds b Q → W_row_from { nx := fun _ b' => Q .non b', rt := Q } (ds.map Slot.v ++ List.replicate 1 .un) b := by
  rintro ds b Q - ⟨d, es, rs, least, most, rfl, hf, ht, hr, hl, h1, h2, q⟩
  show W_row_from _ [.v d, .v (.int least), .v (.int most), .un] b
  (try simp only [wSeq, wSet, wSetO, wRet, wIfS, wFrz, wApp, wDrop, wNext, wBreak, wCont, wNever, wVar, wVarB, wC, wBin, wUn, wT, wAnd, wOr, wNot, wAndV, wOrV, wNotV, wIte, wNil, wCons, wTup, wCall, wListOf, wC2, wIsT, wIsC, wFld, wON, wOS, wSl, wV, wO, wSetIx, wPar, wSwap, wSeqOf, wRng1, wRng2, wFor, wWhile, wYes, wComp, wEnum, wZip, wEnum2, wRgT, wRgL, wAug, dMulT, dMax, wMake, wFz, wCat, wRep, wipeE, D.ty, wIf_true, wIf_false, List.getElem?_cons_zero, List.getElem?_cons_succ, List.set_cons_zero, List.set_cons_succ, dI0_ii, dI_ii, dNeg_i, dGcd_ii, dAbs_i, dInt_i, dInt_b, dBits_i, dLen_t, dLen_l, dTuple_t, dTuple_l, dAdd_ii, dAdd_tt, dAdd_ll, dAdd_ss, dMul_ii, dMul_li, dIs_n, dIs_b, dIsN_n, dRepr_b, rt_0, rt_1, dEq, dNe, dSub, dDiv, dDivU, dMod, dLt, dLe, dGt, dGe, D.isNon, Bool.not_true, Bool.not_false, W_row_from])
  refine ⟨rfl, d, rfl, hf, ?_⟩
  rw [ht]
  refine ⟨rfl, es, rs, rfl, hl, hr, ?_⟩
  (try simp only [wSeq, wSet, wSetO, wRet, wIfS, wFrz, wApp, wDrop, wNext, wBreak, wCont, wNever, wVar, wVarB, wC, wBin, wUn, wT, wAnd, wOr, wNot, wAndV, wOrV, wNotV, wIte, wNil, wCons, wTup, wCall, wListOf, wC2, wIsT, wIsC, wFld, wON, wOS, wSl, wV, wO, wSetIx, wPar, wSwap, wSeqOf, wRng1, wRng2, wFor, wWhile, wYes, wComp, wEnum, wZip, wEnum2, wRgT, wRgL, wAug, dMulT, dMax, wMake, wFz, wCat, wRep, wipeE, D.ty, wIf_true, wIf_false, List.getElem?_cons_zero, List.getElem?_cons_succ, List.set_cons_zero, List.set_cons_succ, dI0_ii, dI_ii, dNeg_i, dGcd_ii, dAbs_i, dInt_i, dInt_b, dBits_i, dLen_t, dLen_l, dTuple_t, dTuple_l, dAdd_ii, dAdd_tt, dAdd_ll, dAdd_ss, dMul_ii, dMul_li, dIs_n, dIs_b, dIsN_n, dRepr_b, rt_0, rt_1, dEq, dNe, dSub, dDiv, dDivU, dMod, dLt, dLe, dGt, dGe, D.isNon, Bool.not_true, Bool.not_false, wChain])
  rw [decide_eq_true (show least ≤ ((rs.map rt).length : Int) by simpa using h1)]
  (try simp only [wSeq, wSet, wSetO, wRet, wIfS, wFrz, wApp, wDrop, wNext, wBreak, wCont, wNever, wVar, wVarB, wC, wBin, wUn, wT, wAnd, wOr, wNot, wAndV, wOrV, wNotV, wIte, wNil, wCons, wTup, wCall, wListOf, wC2, wIsT, wIsC, wFld, wON, wOS, wSl, wV, wO, wSetIx, wPar, wSwap, wSeqOf, wRng1, wRng2, wFor, wWhile, wYes, wComp, wEnum, wZip, wEnum2, wRgT, wRgL, wAug, dMulT, dMax, wMake, wFz, wCat, wRep, wipeE, D.ty, wIf_true, wIf_false, List.getElem?_cons_zero, List.getElem?_cons_succ, List.set_cons_zero, List.set_cons_succ, dI0_ii, dI_ii, dNeg_i, dGcd_ii, dAbs_i, dInt_i, dInt_b, dBits_i, dLen_t, dLen_l, dTuple_t, dTuple_l, dAdd_ii, dAdd_tt, dAdd_ll, dAdd_ss, dMul_ii, dMul_li, dIs_n, dIs_b, dIsN_n, dRepr_b, rt_0, rt_1, dEq, dNe, dSub, dDiv, dDivU, dMod, dLt, dLe, dGt, dGe, D.isNon, Bool.not_true, Bool.not_false])
  rw [decide_eq_true (show ((rs.map rt).length : Int) ≤ most by simpa using h2)]
  (try simp only [wSeq, wSet, wSetO, wRet, wIfS, wFrz, wApp, wDrop, wNext, wBreak, wCont, wNever, wVar, wVarB, wC, wBin, wUn, wT, wAnd, wOr, wNot, wAndV, wOrV, wNotV, wIte, wNil, wCons, wTup, wCall, wListOf, wC2, wIsT, wIsC, wFld, wON, wOS, wSl, wV, wO, wSetIx, wPar, wSwap, wSeqOf, wRng1, wRng2, wFor, wWhile, wYes, wComp, wEnum, wZip, wEnum2, wRgT, wRgL, wAug, dMulT, dMax, wMake, wFz, wCat, wRep, wipeE, D.ty, wIf_true, wIf_false, List.getElem?_cons_zero, List.getElem?_cons_succ, List.set_cons_zero, List.set_cons_succ, dI0_ii, dI_ii, dNeg_i, dGcd_ii, dAbs_i, dInt_i, dInt_b, dBits_i, dLen_t, dLen_l, dTuple_t, dTuple_l, dAdd_ii, dAdd_tt, dAdd_ll, dAdd_ss, dMul_ii, dMul_li, dIs_n, dIs_b, dIsN_n, dRepr_b, rt_0, rt_1, dEq, dNe, dSub, dDiv, dDivU, dMod, dLt, dLe, dGt, dGe, D.isNon, Bool.not_true, Bool.not_false])
  exact q
/-- all of them, by a test -/
theorem all_map {f : D → Bool} (es : List D) : es.map (fun d => D.bl (f d)) = (es.map f).map D.bl ∧ (es.map f).all id = es.all f := by
  constructor
  · rw [List.map_map]; rfl
  · rw [List.all_map]; rfl
theorem hp_is_ratio_row : ∀ ds b Q, ds.length = 2 → p_is_ratio_row ds b Q → W_is_ratio_row { nx := fun _ b' => Q .non b', rt := Q } (ds.map Slot.v ++ List.replicate 1 .un) b := by
  rintro ds b Q - ⟨m, d, rfl, hd, q⟩
  show W_is_ratio_row _ [.v (.int m), .v d, .un] b
  have ht : d.ty.isSome = true := by cases d <;> first | rfl | (simp [D.rowOk, D.ty] at hd; done)
  (try simp only [wSeq, wSet, wSetO, wRet, wIfS, wFrz, wApp, wDrop, wNext, wBreak, wCont, wNever, wVar, wVarB, wC, wBin, wUn, wT, wAnd, wOr, wNot, wAndV, wOrV, wNotV, wIte, wNil, wCons, wTup, wCall, wListOf, wC2, wIsT, wIsC, wFld, wON, wOS, wSl, wV, wO, wSetIx, wPar, wSwap, wSeqOf, wRng1, wRng2, wFor, wWhile, wYes, wComp, wEnum, wZip, wEnum2, wRgT, wRgL, wAug, dMulT, dMax, wMake, wFz, wCat, wRep, wipeE, D.ty, wIf_true, wIf_false, List.getElem?_cons_zero, List.getElem?_cons_succ, List.set_cons_zero, List.set_cons_succ, dI0_ii, dI_ii, dNeg_i, dGcd_ii, dAbs_i, dInt_i, dInt_b, dBits_i, dLen_t, dLen_l, dTuple_t, dTuple_l, dAdd_ii, dAdd_tt, dAdd_ll, dAdd_ss, dMul_ii, dMul_li, dIs_n, dIs_b, dIsN_n, dRepr_b, rt_0, rt_1, dEq, dNe, dSub, dDiv, dDivU, dMod, dLt, dLe, dGt, dGe, D.isNon, Bool.not_true, Bool.not_false, W_is_ratio_row])
  refine ⟨rfl, d, m, rfl, ht, ?_⟩
  cases d <;> try exact q
  rename_i es
  refine wIf_dec (fun h => ?_) (fun h => ?_)
  · refine ⟨hd.1, cmp_map (fun d => .bl d.told.isSome) es _ (fun d hm => ⟨_, rfl, fun K k => ?_⟩) ?_⟩
    · (try simp only [wSeq, wSet, wSetO, wRet, wIfS, wFrz, wApp, wDrop, wNext, wBreak, wCont, wNever, wVar, wVarB, wC, wBin, wUn, wT, wAnd, wOr, wNot, wAndV, wOrV, wNotV, wIte, wNil, wCons, wTup, wCall, wListOf, wC2, wIsT, wIsC, wFld, wON, wOS, wSl, wV, wO, wSetIx, wPar, wSwap, wSeqOf, wRng1, wRng2, wFor, wWhile, wYes, wComp, wEnum, wZip, wEnum2, wRgT, wRgL, wAug, dMulT, dMax, wMake, wFz, wCat, wRep, wipeE, D.ty, wIf_true, wIf_false, List.getElem?_cons_zero, List.getElem?_cons_succ, List.set_cons_zero, List.set_cons_succ, dI0_ii, dI_ii, dNeg_i, dGcd_ii, dAbs_i, dInt_i, dInt_b, dBits_i, dLen_t, dLen_l, dTuple_t, dTuple_l, dAdd_ii, dAdd_tt, dAdd_ll, dAdd_ss, dMul_ii, dMul_li, dIs_n, dIs_b, dIsN_n, dRepr_b, rt_0, rt_1, dEq, dNe, dSub, dDiv, dDivU, dMod, dLt, dLe, dGt, dGe, D.isNon, Bool.not_true, Bool.not_false])
      exact ⟨rfl, d, rfl, (hd.2 d hm).1, k⟩
    · refine ⟨_, (all_map es).1, ?_⟩
      rw [(all_map es).2]
      refine bl_eq ?_ q
      simp only [D.ratRow]
      rw [decide_eq_true h, Bool.true_and]
  · refine bl_eq ?_ q
    simp only [D.ratRow]
    rw [decide_eq_false h, Bool.false_and]
theorem hp__law_is_row : ∀ ds b Q, ds.length = 2 → p__law_is_row ds b Q → W__law_is_row { nx := fun _ b' => Q .non b', rt := Q } (ds.map Slot.v ++ List.replicate 1 .un) b := by
  rintro ds b Q - ⟨m, d, rfl, hd, q⟩
  show W__law_is_row _ [.v d, .v (.int m), .un] b
  have ht : d.ty.isSome = true := by cases d <;> first | rfl | (simp [D.rowOk, D.ty] at hd; done)
  cases d <;> try (first | ((try simp only [wSeq, wSet, wSetO, wRet, wIfS, wFrz, wApp, wDrop, wNext, wBreak, wCont, wNever, wVar, wVarB, wC, wBin, wUn, wT, wAnd, wOr, wNot, wAndV, wOrV, wNotV, wIte, wNil, wCons, wTup, wCall, wListOf, wC2, wIsT, wIsC, wFld, wON, wOS, wSl, wV, wO, wSetIx, wPar, wSwap, wSeqOf, wRng1, wRng2, wFor, wWhile, wYes, wComp, wEnum, wZip, wEnum2, wRgT, wRgL, wAug, dMulT, dMax, wMake, wFz, wCat, wRep, wipeE, D.ty, wIf_true, wIf_false, List.getElem?_cons_zero, List.getElem?_cons_succ, List.set_cons_zero, List.set_cons_succ, dI0_ii, dI_ii, dNeg_i, dGcd_ii, dAbs_i, dInt_i, dInt_b, dBits_i, dLen_t, dLen_l, dTuple_t, dTuple_l, dAdd_ii, dAdd_tt, dAdd_ll, dAdd_ss, dMul_ii, dMul_li, dIs_n, dIs_b, dIsN_n, dRepr_b, rt_0, rt_1, dEq, dNe, dSub, dDiv, dDivU, dMod, dLt, dLe, dGt, dGe, D.isNon, Bool.not_true, Bool.not_false, W__law_is_row, f_tuple]); exact q) | (cases ht; done))
  rename_i es
  (try simp only [wSeq, wSet, wSetO, wRet, wIfS, wFrz, wApp, wDrop, wNext, wBreak, wCont, wNever, wVar, wVarB, wC, wBin, wUn, wT, wAnd, wOr, wNot, wAndV, wOrV, wNotV, wIte, wNil, wCons, wTup, wCall, wListOf, wC2, wIsT, wIsC, wFld, wON, wOS, wSl, wV, wO, wSetIx, wPar, wSwap, wSeqOf, wRng1, wRng2, wFor, wWhile, wYes, wComp, wEnum, wZip, wEnum2, wRgT, wRgL, wAug, dMulT, dMax, wMake, wFz, wCat, wRep, wipeE, D.ty, wIf_true, wIf_false, List.getElem?_cons_zero, List.getElem?_cons_succ, List.set_cons_zero, List.set_cons_succ, dI0_ii, dI_ii, dNeg_i, dGcd_ii, dAbs_i, dInt_i, dInt_b, dBits_i, dLen_t, dLen_l, dTuple_t, dTuple_l, dAdd_ii, dAdd_tt, dAdd_ll, dAdd_ss, dMul_ii, dMul_li, dIs_n, dIs_b, dIsN_n, dRepr_b, rt_0, rt_1, dEq, dNe, dSub, dDiv, dDivU, dMod, dLt, dLe, dGt, dGe, D.isNon, Bool.not_true, Bool.not_false, W__law_is_row, f_tuple])
  refine ⟨⟨rfl, rfl⟩, ?_⟩
  have e : PyData.eqv (D.int (es.length : Int)).py (D.int m).py = decide ((es.length : Int) = m) := by
    simp only [D.py, PyData.eqv]
    by_cases z : (es.length : Int) = m
    · rw [z, decide_eq_true rfl]; simp
    · rw [decide_eq_false z]; simpa using z
  rw [e]
  refine wIf_dec (fun h => ?_) (fun h => ?_)
  · refine ⟨hd.1, cmp_map (fun d => .bl d.told.isSome) es _ (fun d hm => ⟨_, rfl, fun K k => ?_⟩) ?_⟩
    · (try simp only [wSeq, wSet, wSetO, wRet, wIfS, wFrz, wApp, wDrop, wNext, wBreak, wCont, wNever, wVar, wVarB, wC, wBin, wUn, wT, wAnd, wOr, wNot, wAndV, wOrV, wNotV, wIte, wNil, wCons, wTup, wCall, wListOf, wC2, wIsT, wIsC, wFld, wON, wOS, wSl, wV, wO, wSetIx, wPar, wSwap, wSeqOf, wRng1, wRng2, wFor, wWhile, wYes, wComp, wEnum, wZip, wEnum2, wRgT, wRgL, wAug, dMulT, dMax, wMake, wFz, wCat, wRep, wipeE, D.ty, wIf_true, wIf_false, List.getElem?_cons_zero, List.getElem?_cons_succ, List.set_cons_zero, List.set_cons_succ, dI0_ii, dI_ii, dNeg_i, dGcd_ii, dAbs_i, dInt_i, dInt_b, dBits_i, dLen_t, dLen_l, dTuple_t, dTuple_l, dAdd_ii, dAdd_tt, dAdd_ll, dAdd_ss, dMul_ii, dMul_li, dIs_n, dIs_b, dIsN_n, dRepr_b, rt_0, rt_1, dEq, dNe, dSub, dDiv, dDivU, dMod, dLt, dLe, dGt, dGe, D.isNon, Bool.not_true, Bool.not_false])
      exact ⟨rfl, d, rfl, (hd.2 d hm).1, (hd.2 d hm).2, k⟩
    · refine ⟨_, (all_map es).1, ?_⟩
      rw [(all_map es).2]
      refine bl_eq ?_ q
      simp only [D.ratRow]
      rw [decide_eq_true h, Bool.true_and]
  · refine bl_eq ?_ q
    simp only [D.ratRow]
    rw [decide_eq_false h, Bool.false_and]
end En
/-! Sizes by a common denominator; the determinants. -/
namespace En
open PySem PySem.Spec PyProof.Rows L2
/-- x is an int of less than 2 ^ a, over D -/
def FrA (a : Nat) (D : Nat) (x : Rat) : Prop := ∃ n : Int, x * (D : Rat) = (n : Rat) ∧ n.natAbs < 2 ^ a
theorem natAbs_div_le (a b : Int) : (a / b).natAbs ≤ a.natAbs := Int.natAbs_ediv_le_natAbs a b
theorem FrA.sz {a D : Nat} {x : Rat} (h : FrA a D x) (hD : 0 < D) (ha : a ≤ SB) (hd : D < 2 ^ SB) : Sz x := by
  obtain ⟨n, e, hn⟩ := h
  have hD' : (D : Rat) ≠ 0 := by
    intro z
    have : (D : Rat) = ((0 : Nat) : Rat) := z
    have := Rat.natCast_inj.mp this
    omega
  have ex : x = Rat.divInt n (D : Int) := by
    rw [Rat.divInt_eq_div]
    have e2 : ((D : Int) : Rat) = (D : Rat) := rfl
    rw [e2, ← e]
    grind
  subst ex
  have hnn : n.natAbs < 2 ^ SB := Nat.lt_of_lt_of_le hn (Nat.pow_le_pow_right (by decide) ha)
  constructor
  · rw [Rat.num_divInt, Int.sign_eq_one_of_pos (by omega), Int.one_mul]
    exact Nat.lt_of_le_of_lt (natAbs_div_le _ _) hnn
  · rw [Rat.den_divInt, if_neg (by omega)]
    exact Nat.lt_of_le_of_lt (Nat.div_le_self _ _) (by rw [Int.natAbs_natCast]; exact hd)
theorem FrA.mono {a b D : Nat} {x : Rat} (h : FrA a D x) (hab : a ≤ b) : FrA b D x := by
  obtain ⟨n, e, hn⟩ := h
  exact ⟨n, e, Nat.lt_of_lt_of_le hn (Nat.pow_le_pow_right (by decide) hab)⟩
theorem FrA.mul {a b D E : Nat} {x y : Rat} (h : FrA a D x) (h' : FrA b E y) : FrA (a + b) (D * E) (x * y) := by
  obtain ⟨n, e, hn⟩ := h
  obtain ⟨m, e', hm⟩ := h'
  refine ⟨n * m, ?_, natAbs_mul_lt hn hm⟩
  rw [Rat.natCast_mul, Rat.intCast_mul, ← e, ← e']
  grind
theorem FrA.sub {a D : Nat} {x y : Rat} (h : FrA a D x) (h' : FrA a D y) : FrA (a + 1) D (x - y) := by
  obtain ⟨n, e, hn⟩ := h
  obtain ⟨m, e', hm⟩ := h'
  refine ⟨n - m, ?_, natAbs_sub_lt hn hm⟩
  rw [Rat.intCast_sub, ← e, ← e']
  grind
theorem FrA.add {a D : Nat} {x y : Rat} (h : FrA a D x) (h' : FrA a D y) : FrA (a + 1) D (x + y) := by
  obtain ⟨n, e, hn⟩ := h
  obtain ⟨m, e', hm⟩ := h'
  refine ⟨n + m, ?_, natAbs_add_lt hn hm⟩
  rw [Rat.intCast_add, ← e, ← e']
  grind
theorem FrA.neg {a D : Nat} {x : Rat} (h : FrA a D x) : FrA a D (-x) := by
  obtain ⟨n, e, hn⟩ := h
  refine ⟨-n, ?_, by rw [Int.natAbs_neg]; exact hn⟩
  rw [Rat.intCast_neg, ← e]
  grind
theorem FrA.den {a D : Nat} {x : Rat} (h : FrA a D x) (k : Nat) : FrA a (D * k) x → True := fun _ => trivial
/-- over more -/
theorem FrA.up {a b D k : Nat} {x : Rat} (h : FrA a D x) (hk : k < 2 ^ b) : FrA (a + b) (D * k) x := by
  obtain ⟨n, e, hn⟩ := h
  refine ⟨n * (k : Int), ?_, natAbs_mul_lt hn (by rw [Int.natAbs_natCast]; exact hk)⟩
  rw [Rat.natCast_mul, Rat.intCast_mul, ← e]
  have : ((k : Int) : Rat) = (k : Rat) := rfl
  rw [this]
  grind
theorem nat_abs_cast {m : Int} : ((m.natAbs : Nat) : Rat) = (m : Rat) ∨ ((m.natAbs : Nat) : Rat) = -(m : Rat) := by
  rcases Int.natAbs_eq m with h | h
  · left
    have : ((m.natAbs : Int) : Rat) = (m : Rat) := by rw [← h]
    exact this
  · right
    have h2 : (m.natAbs : Int) = -m := by omega
    have : ((m.natAbs : Int) : Rat) = ((-m : Int) : Rat) := by rw [h2]
    rw [Rat.intCast_neg] at this
    exact this
/-- quotients by p, over what p is -/
theorem FrA.quo {a D : Nat} {p : Rat} (hD : 0 < D) (h' : FrA a D p) (h0 : p ≠ 0) : ∃ P : Nat, 0 < P ∧ P < 2 ^ a ∧ ∀ x, FrA a D x → FrA a P (x / p) ∧ ∀ y, FrA a D y → FrA (a + a) (D * P) (x / p * y) ∧ ∀ z, FrA a D z → FrA (a + a + 1) (D * P) (z - x / p * y) := by
  obtain ⟨m, e', hm⟩ := h'
  have hm0 : m ≠ 0 := by
    rintro rfl
    have hD' : (D : Rat) ≠ 0 := fun z => by
      have := Rat.natCast_inj.mp (show (D : Rat) = ((0 : Nat) : Rat) from z)
      omega
    have : p * (D : Rat) = 0 := e'
    rcases Rat.mul_eq_zero.mp this with z | z
    · exact h0 z
    · exact hD' z
  refine ⟨m.natAbs, by omega, hm, fun x hx => ?_⟩
  obtain ⟨n, e, hn⟩ := hx
  refine ⟨?_, fun y hy => ?_⟩
  · rcases nat_abs_cast (m := m) with hc | hc
    · refine ⟨n, ?_, hn⟩
      rw [hc, ← e', ← e]
      grind
    · refine ⟨-n, ?_, by rw [Int.natAbs_neg]; exact hn⟩
      rw [hc, ← e', Rat.intCast_neg, ← e]
      grind
  · have key : FrA (a + a) (D * m.natAbs) (x / p * y) := by
      obtain ⟨k, ek, hk⟩ := hy
      rcases nat_abs_cast (m := m) with hc | hc
      · refine ⟨n * k, ?_, natAbs_mul_lt hn hk⟩
        rw [Rat.natCast_mul, hc, ← e', Rat.intCast_mul, ← e, ← ek]
        grind
      · refine ⟨-(n * k), ?_, by rw [Int.natAbs_neg]; exact natAbs_mul_lt hn hk⟩
        rw [Rat.natCast_mul, hc, ← e', Rat.intCast_neg, Rat.intCast_mul, ← e, ← ek]
        grind
    exact ⟨key, fun z hz => (hz.up hm).sub key⟩
/-! ### rows -/
def rowD (r : List Rat) : D := .lst (r.map rt)
def rowsD (M : List (List Rat)) : List D := M.map rowD
def rowOf (M : List (List Rat)) (i : Nat) : List Rat := M.getD i []
def ent (M : List (List Rat)) (i j : Nat) : Rat := (rowOf M i).getD j 0
def zipSub (r p : List Rat) (z : Rat) : List Rat := (r.zip p).map fun q => q.1 - z * q.2
theorem zipD_rt : ∀ (xs ys : List Rat), zipD (xs.map rt) (ys.map rt) = (xs.zip ys).map fun q => D.tup [rt q.1, rt q.2]
  | [], _ => by simp [zipD]
  | _ :: _, [] => by simp [zipD]
  | x :: r, y :: s => by
    simp only [List.map_cons, zipD, List.zip_cons_cons]
    rw [zipD_rt r s]
theorem cmp_filter {T : Tg} {C : WT} {We : WE} {env0 : Env} {b : Nat} {α : Type} (f f' : α → D) (t : α → Bool) : ∀ (xs : List α) (Q : List D → Nat → Prop),
    (∀ x ∈ xs, ∃ env1, setTg T (f x) env0 = some env1 ∧ (∀ K : Bool → Nat → Prop, K (t x) b → C env1 b K) ∧ (∀ K : D → Nat → Prop, K (f' x) b → We env1 b K)) → Q ((xs.filter t).map f') b → cmpL T C We env0 (xs.map f) b Q
  | [], Q, _, q => q
  | x :: r, Q, h, q => by
    obtain ⟨env1, h1, h2, h3⟩ := h x List.mem_cons_self
    simp only [List.map_cons, cmpL, h1]
    refine h2 _ ?_
    cases ht : t x with
    | true =>
      rw [List.filter_cons_of_pos ht] at q
      exact h3 _ (cmp_filter f f' t r _ (fun y hy => h y (List.mem_cons_of_mem _ hy)) q)
    | false =>
      rw [List.filter_cons_of_neg (by rw [ht]; decide)] at q
      exact cmp_filter f f' t r _ (fun y hy => h y (List.mem_cons_of_mem _ hy)) q
theorem rangeD_nat (k m : Nat) : rangeD (k : Int) m = ((List.range m).map (k + ·)).map fun (i : Nat) => D.int (i : Int) := by
  rw [rangeD, List.map_map]
  refine List.map_congr_left fun i _ => ?_
  show D.int ((k : Int) + (i : Int)) = D.int (((k + i : Nat)) : Int)
  congr 1
theorem eqv_rt (x y : Rat) : PyData.eqv (rt x).py (rt y).py = decide (x = y) := by
  simp only [rt, D.py, D.pys, PyData.eqv, PyData.eqvAll, Bool.and_true]
  by_cases h : x = y
  · subst h
    simp
  · rw [decide_eq_false h]
    by_cases h1 : x.num = y.num
    · have h2 : x.den ≠ y.den := fun z => h (Rat.ext h1 z)
      rw [h1]
      simp only [beq_self_eq_true, Bool.true_and, beq_eq_false_iff_ne]
      omega
    · simp [h1]
theorem eqv_int (i j : Int) : PyData.eqv (D.int i).py (D.int j).py = decide (i = j) := by
  simp only [D.py, PyData.eqv]
  by_cases h : i = j
  · subst h; simp
  · rw [decide_eq_false h]; simpa using h
theorem flat_rt (x : Rat) (n : Nat) : (rt x).flat (n + 1) = true := rfl
def p_less_row : Spec := fun ds b Q => ∃ xs ys z, ds = [rowD xs, rowD ys, rt z] ∧ xs.length = ys.length ∧ xs.length < 1000000 ∧ Sz z ∧ (∀ x ∈ xs, Sz x) ∧ (∀ y ∈ ys, Sz y ∧ Sz (z * y)) ∧ Q (rowD (zipSub xs ys z)) b
/-- less_row: row, other, by, a, b -/
def W_less_row : WS := (wSeq (wIfS (wT (wBin dEq (wVarB 2) (wC kNONE))) (wRet (wFz (wListOf (wVarB 0)))) wNext) (wRet (wFz (wComp [3, 4] (.tup [3, 4]) (wZip (wCons (wVar 0) (wCons (wVar 1) wNil))) wYes (wCall 2 p_lessened (wCons (wVar 3) (wCons (wCall 2 p_scaled (wCons (wVar 2) (wCons (wVar 4) wNil))) wNil)))))))
theorem zipSub_zero : ∀ (xs ys : List Rat), xs.length = ys.length → zipSub xs ys 0 = xs
  | [], _, _ => rfl
  | x :: r, [], h => by simp at h
  | x :: r, y :: s, h => by
    have := zipSub_zero r s (by simpa using h)
    simp only [zipSub, List.zip_cons_cons, List.map_cons] at this ⊢
    rw [this]
    congr 1
    grind
theorem hp_less_row : ∀ ds b Q, ds.length = 3 → p_less_row ds b Q → W_less_row { nx := fun _ b' => Q .non b', rt := Q } (ds.map Slot.v ++ List.replicate 2 .un) b := by
  rintro ds b Q - ⟨xs, ys, z, rfl, hl, hm, hz, hx, hy, q⟩
  show W_less_row _ [.v (.lst (xs.map rt)), .v (.lst (ys.map rt)), .v (rt z), .un, .un] b
  (try simp only [wSeq, wSet, wSetO, wRet, wIfS, wFrz, wApp, wDrop, wNext, wBreak, wCont, wNever, wVar, wVarB, wC, wBin, wUn, wT, wAnd, wOr, wNot, wAndV, wOrV, wNotV, wIte, wNil, wCons, wTup, wCall, wListOf, wC2, wIsT, wIsC, wFld, wON, wOS, wSl, wV, wO, wSetIx, wPar, wSwap, wSeqOf, wRng1, wRng2, wFor, wWhile, wYes, wComp, wEnum, wZip, wEnum2, wRgT, wRgL, wAug, dMulT, dMax, wMake, wFz, wCat, wRep, wipeE, D.ty, wIf_true, wIf_false, List.getElem?_cons_zero, List.getElem?_cons_succ, List.set_cons_zero, List.set_cons_succ, dI0_ii, dI_ii, dNeg_i, dGcd_ii, dAbs_i, dInt_i, dInt_b, dBits_i, dLen_t, dLen_l, dTuple_t, dTuple_l, dAdd_ii, dAdd_tt, dAdd_ll, dAdd_ss, dMul_ii, dMul_li, dIs_n, dIs_b, dIsN_n, dRepr_b, rt_0, rt_1, dEq, dNe, dSub, dDiv, dDivU, dMod, dLt, dLe, dGt, dGe, D.isNon, Bool.not_true, Bool.not_false, W_less_row])
  refine ⟨⟨rfl, rfl⟩, ?_⟩
  rw [kNONE_eq, eqv_rt]
  refine wIf_dec (fun h => ?_) (fun h => ?_)
  · subst h
    rw [zipSub_zero xs ys hl] at q
    exact q
  · rw [zipD_rt]
    refine ⟨by rw [List.length_map, List.length_zip]; omega, cmp_at _ (fun q => rt (q.1 - z * q.2)) _ _ (fun p hp => ⟨_, rfl, fun K k => ?_⟩) ?_⟩
    · (try simp only [wSeq, wSet, wSetO, wRet, wIfS, wFrz, wApp, wDrop, wNext, wBreak, wCont, wNever, wVar, wVarB, wC, wBin, wUn, wT, wAnd, wOr, wNot, wAndV, wOrV, wNotV, wIte, wNil, wCons, wTup, wCall, wListOf, wC2, wIsT, wIsC, wFld, wON, wOS, wSl, wV, wO, wSetIx, wPar, wSwap, wSeqOf, wRng1, wRng2, wFor, wWhile, wYes, wComp, wEnum, wZip, wEnum2, wRgT, wRgL, wAug, dMulT, dMax, wMake, wFz, wCat, wRep, wipeE, D.ty, wIf_true, wIf_false, List.getElem?_cons_zero, List.getElem?_cons_succ, List.set_cons_zero, List.set_cons_succ, dI0_ii, dI_ii, dNeg_i, dGcd_ii, dAbs_i, dInt_i, dInt_b, dBits_i, dLen_t, dLen_l, dTuple_t, dTuple_l, dAdd_ii, dAdd_tt, dAdd_ll, dAdd_ss, dMul_ii, dMul_li, dIs_n, dIs_b, dIsN_n, dRepr_b, rt_0, rt_1, dEq, dNe, dSub, dDiv, dDivU, dMod, dLt, dLe, dGt, dGe, D.isNon, Bool.not_true, Bool.not_false])
      have hp' := List.of_mem_zip (show (p.1, p.2) ∈ xs.zip ys from hp)
      obtain ⟨h1, h2⟩ := hy p.2 hp'.2
      exact ⟨rfl, z, p.2, rfl, hz, h1, trivial, rfl, p.1, z * p.2, rfl, hx _ hp'.1, h2, trivial, k⟩
    · have e : (xs.zip ys).map (fun q => rt (q.1 - z * q.2)) = (zipSub xs ys z).map rt := by
        unfold zipSub
        rw [List.map_map]
        rfl
      rw [e]
      exact q
end En
/-! The determinants. -/
namespace En
open PySem PySem.Spec PyProof.Rows L2
/-! ### rows by place -/
theorem rows_get {M : List (List Rat)} {i : Nat} (h : i < M.length) : (rowsD M)[i]? = some (rowD (rowOf M i)) := by
  unfold rowsD rowOf
  rw [List.getElem?_map, List.getElem?_eq_getElem h, List.getD_eq_getElem?_getD, List.getElem?_eq_getElem h]
  rfl
theorem row_get {r : List Rat} {k : Nat} (h : k < r.length) : (r.map rt)[k]? = some (rt (r.getD k 0)) := by
  rw [List.getElem?_map, List.getElem?_eq_getElem h, List.getD_eq_getElem?_getD, List.getElem?_eq_getElem h]
  rfl
theorem ix_rows {M : List (List Rat)} {i : Nat} {Q : D → Prop} (h : i < M.length) (q : Q (rowD (rowOf M i))) : dIx (.lst (rowsD M)) (.int (i : Int)) Q := dIx_l (rows_get h) q
theorem ix_row {r : List Rat} {k : Nat} {Q : D → Prop} (h : k < r.length) (q : Q (rt (r.getD k 0))) : dIx (rowD r) (.int (k : Int)) Q := dIx_l (row_get h) q
theorem ix_rowT {r : List Rat} {k : Nat} {Q : D → Prop} (h : k < r.length) (q : Q (rt (r.getD k 0))) : dIx (.tup (r.map rt)) (.int (k : Int)) Q := dIx_t (row_get h) q
theorem rowsD_len (M : List (List Rat)) : (rowsD M).length = M.length := List.length_map _
theorem rowOf_set {M : List (List Rat)} {k i : Nat} {r : List Rat} (h : k < M.length) : rowOf (M.set k r) i = if i = k then r else rowOf M i := by
  unfold rowOf
  rw [List.getD_eq_getElem?_getD, List.getD_eq_getElem?_getD]
  by_cases z : i = k
  · subst z
    rw [List.getElem?_set_self h, if_pos rfl]
    rfl
  · rw [List.getElem?_set_ne (fun e => z e.symm), if_neg z]
theorem rowOf_mapIdx {M : List (List Rat)} {f : Nat → List Rat → List Rat} {i : Nat} (h : i < M.length) : rowOf (M.mapIdx f) i = f i (rowOf M i) := by
  unfold rowOf
  rw [List.getD_eq_getElem?_getD, List.getD_eq_getElem?_getD, List.getElem?_mapIdx, List.getElem?_eq_getElem h]
  rfl
theorem zipSub_len {r p : List Rat} {z : Rat} : (zipSub r p z).length = min r.length p.length := by simp [zipSub]
theorem zipSub_get {r p : List Rat} {z : Rat} {j : Nat} (h : j < r.length) (h' : j < p.length) : (zipSub r p z).getD j 0 = r.getD j 0 - z * p.getD j 0 := by
  unfold zipSub
  have h2 : j < (r.zip p).length := by rw [List.length_zip]; omega
  rw [List.getD_eq_getElem?_getD, List.getElem?_map, List.getElem?_eq_getElem h2, List.getElem_zip, List.getD_eq_getElem?_getD, List.getD_eq_getElem?_getD, List.getElem?_eq_getElem h, List.getElem?_eq_getElem h']
  rfl
structure Sq (n : Nat) (M : List (List Rat)) : Prop where
  len : M.length = n
  row : ∀ i, i < n → (rowOf M i).length = n
/-! ### putting away, step by step -/
def heads (M : List (List Rat)) (k : Nat) : List Nat := ((List.range (M.length - k)).map (k + ·)).filter fun i => decide (ent M i k ≠ 0)
def swapR (M : List (List Rat)) (k h : Nat) : List (List Rat) := if h = k then M else (M.set k (rowOf M h)).set h (rowOf M k)
def elimR (M : List (List Rat)) (k m : Nat) : List (List Rat) := M.mapIdx fun i r => if k < i ∧ i < m then zipSub r (rowOf M k) (r.getD k 0 / ent M k k) else r
def detGo : Nat → Nat → List (List Rat) → Rat → Rat
  | 0, _, _, out => out
  | f + 1, k, M, out => match heads M k with
    | [] => 0
    | h :: _ => detGo f (k + 1) (elimR (swapR M k h) k M.length) ((if h = k then out else -out) * ent (swapR M k h) k k)
def detR (M : List (List Rat)) : Rat := detGo M.length 0 M 1
def detFit : Nat → Nat → Nat → Nat → Nat → Bool
  | 0, _, _, _, _ => true
  | f + 1, a, d, ao, dO => decide (a ≤ SB ∧ d ≤ SB ∧ ao + a ≤ SB ∧ dO + d ≤ SB ∧ (f = 0 ∨ (a + a ≤ SB ∧ d + a ≤ SB))) && detFit f (a + a + 1) (d + a) (ao + a) (dO + d)
structure DS (n k : Nat) (M : List (List Rat)) (out R : Rat) : Prop where
  sq : Sq n M
  le : k ≤ n
  ex : ∃ a d ao dO D Do : Nat, (∀ i, k ≤ i → i < n → ∀ j, j < n → FrA a D (ent M i j)) ∧ 0 < D ∧ D < 2 ^ d ∧ FrA ao Do out ∧ 0 < Do ∧ Do < 2 ^ dO ∧ ao ≤ SB ∧ dO ≤ SB ∧ detFit (n - k) a d ao dO = true
  go : detGo (n - k) k M out = R
theorem DS.fin {n : Nat} {M : List (List Rat)} {out R : Rat} (h : DS n n M out R) : out = R := by
  have := h.go
  rw [Nat.sub_self] at this
  exact this
theorem DS.nil {n k : Nat} {M : List (List Rat)} {out R : Rat} (h : DS n k M out R) (hk : k < n) (hh : heads M k = []) : R = 0 := by
  have := h.go
  obtain ⟨f, hf⟩ : ∃ f, n - k = f + 1 := ⟨n - k - 1, by omega⟩
  rw [hf] at this
  simp only [detGo, hh] at this
  exact this.symm
theorem heads_mem {M : List (List Rat)} {k h : Nat} {t : List Nat} (hh : heads M k = h :: t) : k ≤ h ∧ h < M.length ∧ ent M h k ≠ 0 := by
  have hm : h ∈ heads M k := by rw [hh]; exact List.mem_cons_self
  unfold heads at hm
  rw [List.mem_filter, List.mem_map] at hm
  obtain ⟨⟨i, hi, rfl⟩, h2⟩ := hm
  rw [List.mem_range] at hi
  exact ⟨by omega, by omega, of_decide_eq_true h2⟩
theorem swap_row {n : Nat} {M : List (List Rat)} {k h : Nat} (sq : Sq n M) (hk : k < n) (hh : h < n) (i : Nat) : rowOf (swapR M k h) i = if i = k then rowOf M h else if i = h then rowOf M k else rowOf M i := by
  unfold swapR
  by_cases z : h = k
  · subst z
    rw [if_pos rfl]
    split
    · rename_i e; rw [e]
    · rfl
  · rw [if_neg z, rowOf_set (by rw [List.length_set, sq.len]; exact hh), rowOf_set (by rw [sq.len]; exact hk)]
    by_cases z1 : i = h
    · subst z1
      rw [if_pos rfl, if_neg z, if_pos rfl]
    · rw [if_neg z1, if_neg z1]
theorem swap_sq {n : Nat} {M : List (List Rat)} {k h : Nat} (sq : Sq n M) (hk : k < n) (hh : h < n) : Sq n (swapR M k h) := by
  constructor
  · unfold swapR
    split
    · exact sq.len
    · rw [List.length_set, List.length_set]; exact sq.len
  · intro i hi
    rw [swap_row sq hk hh]
    split
    · exact sq.row _ hh
    · split
      · exact sq.row _ hk
      · exact sq.row _ hi
theorem elim_row {n : Nat} {M : List (List Rat)} {k m i : Nat} (sq : Sq n M) (hi : i < n) : rowOf (elimR M k m) i = if k < i ∧ i < m then zipSub (rowOf M i) (rowOf M k) (ent M i k / ent M k k) else rowOf M i := by
  unfold elimR
  rw [rowOf_mapIdx (by rw [sq.len]; exact hi)]
  rfl
theorem elim_sq {n : Nat} {M : List (List Rat)} {k m : Nat} (sq : Sq n M) (hk : k < n) : Sq n (elimR M k m) := by
  constructor
  · unfold elimR
    rw [List.length_mapIdx]
    exact sq.len
  · intro i hi
    rw [elim_row sq hi]
    split
    · rw [zipSub_len, sq.row _ hi, sq.row _ hk, Nat.min_self]
    · exact sq.row _ hi
/-- one step -/
structure DStep (n k h : Nat) (M1 : List (List Rat)) (out1 R : Rat) : Prop where
  sq : Sq n M1
  p0 : ent M1 k k ≠ 0
  so : Sz out1
  sp : Sz (ent M1 k k)
  el : ∀ i, k < i → i < n → Sz (ent M1 i k) ∧ Sz (ent M1 i k / ent M1 k k) ∧ ∀ j, j < n → Sz (ent M1 k j) ∧ Sz (ent M1 i j) ∧ Sz (ent M1 i k / ent M1 k k * ent M1 k j)
  nx : DS n (k + 1) (elimR M1 k n) (out1 * ent M1 k k) R
theorem DS.szo {n k : Nat} {M : List (List Rat)} {out R : Rat} (s : DS n k M out R) : Sz out := by
  obtain ⟨a, d, ao, dO, D, Do, b1, b2, b3, b4, b5, b6, b7, b8, b9⟩ := s.ex
  exact b4.sz b5 b7 (Nat.lt_of_lt_of_le b6 (Nat.pow_le_pow_right (by decide) b8))
theorem DS.step {n k h : Nat} {t : List Nat} {M : List (List Rat)} {out R : Rat} (s : DS n k M out R) (hk : k < n) (hh : heads M k = h :: t) : k ≤ h ∧ h < n ∧ DStep n k h (swapR M k h) (if h = k then out else -out) R := by
  obtain ⟨h1, h2, h3⟩ := heads_mem hh
  rw [s.sq.len] at h2
  refine ⟨h1, h2, ?_⟩
  have sq1 := swap_sq s.sq hk h2
  obtain ⟨a, d, ao, dO, D, Do, b1, b2, b3, b4, b5, b6, b7, b8, b9⟩ := s.ex
  obtain ⟨f, hf⟩ : ∃ f, n - k = f + 1 := ⟨n - k - 1, by omega⟩
  rw [hf] at b9
  simp only [detFit, Bool.and_eq_true, decide_eq_true_eq] at b9
  obtain ⟨⟨c1, c2, c3, c4, c5⟩, c6⟩ := b9
  have low : ∀ {x y : Nat}, x < 2 ^ y → y ≤ SB → x < 2 ^ SB := fun h h' => Nat.lt_of_lt_of_le h (Nat.pow_le_pow_right (by decide) h')
  have B1 : ∀ i, k ≤ i → i < n → ∀ j, j < n → FrA a D (ent (swapR M k h) i j) := by
    intro i hi hn j hj
    unfold ent
    rw [swap_row s.sq hk h2]
    split
    · exact b1 h h1 h2 j hj
    · split
      · exact b1 k (Nat.le_refl _) hk j hj
      · exact b1 i hi hn j hj
  have p0 : ent (swapR M k h) k k ≠ 0 := by
    unfold ent
    rw [swap_row s.sq hk h2, if_pos rfl]
    exact h3
  have fo : FrA ao Do (if h = k then out else -out) := by
    split
    · exact b4
    · exact b4.neg
  have pf := B1 k (Nat.le_refl _) hk k hk
  obtain ⟨P, q1, q2, q3⟩ := FrA.quo b2 pf p0
  refine ⟨sq1, p0, fo.sz b5 b7 (low b6 b8), pf.sz b2 c1 (low b3 c2), fun i hi hn => ?_, ?_⟩
  · have c5' := c5.resolve_left (by omega)
    obtain ⟨r1, r2⟩ := q3 _ (B1 i (by omega) hn k hk)
    refine ⟨(B1 i (by omega) hn k hk).sz b2 c1 (low b3 c2), r1.sz q1 c1 (low q2 c1), fun j hj => ?_⟩
    obtain ⟨r3, r4⟩ := r2 _ (B1 k (Nat.le_refl _) hk j hj)
    exact ⟨(B1 k (Nat.le_refl _) hk j hj).sz b2 c1 (low b3 c2), (B1 i (by omega) hn j hj).sz b2 c1 (low b3 c2), r3.sz (Nat.mul_pos b2 q1) c5'.1 (low (mul_lt_pow b3 q2) c5'.2)⟩
  · refine ⟨elim_sq sq1 hk, hk, ⟨a + a + 1, d + a, ao + a, dO + d, D * P, Do * D, fun i hi hn j hj => ?_, Nat.mul_pos b2 q1, mul_lt_pow b3 q2, fo.mul pf, Nat.mul_pos b5 b2, mul_lt_pow b6 b3, c3, c4, ?_⟩, ?_⟩
    · unfold ent
      rw [elim_row sq1 hn, if_pos ⟨by omega, hn⟩, zipSub_get (by rw [sq1.row _ hn]; exact hj) (by rw [sq1.row _ hk]; exact hj)]
      exact ((q3 _ (B1 i (by omega) hn k hk)).2 _ (B1 k (Nat.le_refl _) hk j hj)).2 _ (B1 i (by omega) hn j hj)
    · rw [show n - (k + 1) = f by omega]
      exact c6
    · have := s.go
      rw [hf] at this
      simp only [detGo, hh] at this
      rw [show n - (k + 1) = f by omega]
      rw [s.sq.len] at this
      exact this
theorem elim_set {n : Nat} {M : List (List Rat)} {k m : Nat} (sq : Sq n M) (hkm : k < m) (hm : m < n) : (elimR M k m).set m (zipSub (rowOf M m) (rowOf M k) (ent M m k / ent M k k)) = elimR M k (m + 1) := by
  refine List.ext_getElem? fun i => ?_
  unfold elimR
  by_cases z : i = m
  · subst z
    rw [List.getElem?_set_self (by rw [List.length_mapIdx, sq.len]; exact hm), List.getElem?_mapIdx, List.getElem?_eq_getElem (by rw [sq.len]; exact hm)]
    simp only [Option.map_some, Nat.lt_succ_self, and_true, if_pos hkm]
    have e : M[i]'(by rw [sq.len]; exact hm) = rowOf M i := by
      unfold rowOf
      rw [List.getD_eq_getElem?_getD, List.getElem?_eq_getElem (by rw [sq.len]; exact hm)]
      rfl
    rw [e]
    rfl
  · rw [List.getElem?_set_ne (fun e => z e.symm), List.getElem?_mapIdx, List.getElem?_mapIdx]
    congr 1
    funext r
    have : (k < i ∧ i < m) ↔ (k < i ∧ i < m + 1) := by omega
    simp only [this]
theorem elim_none {M : List (List Rat)} {k : Nat} : elimR M k (k + 1) = M := by
  refine List.ext_getElem? fun i => ?_
  unfold elimR
  rw [List.getElem?_mapIdx]
  have : ¬ (k < i ∧ i < k + 1) := by omega
  simp only [this, if_false]
  cases M[i]? <;> rfl
/-! ### the program's determinant -/
def tabD (M : List (List Rat)) : D := .tup (M.map fun r => D.tup (r.map rt))
def DetOk (M : List (List Rat)) : Prop := Sq M.length M ∧ M.length ≤ 1000 ∧ ∃ a d D : Nat, (∀ i, i < M.length → ∀ j, j < M.length → FrA a D (ent M i j)) ∧ 0 < D ∧ D < 2 ^ d ∧ detFit M.length a d 1 1 = true
theorem DetOk.ds {M : List (List Rat)} (h : DetOk M) : DS M.length 0 M 1 (detR M) := by
  obtain ⟨sq, _, a, d, D, h1, h2, h3, h4⟩ := h
  exact ⟨sq, Nat.zero_le _, ⟨a, d, 1, 1, D, 1, fun i _ hi j hj => h1 i hi j hj, h2, h3, ⟨1, by decide +kernel, by decide⟩, by decide, by decide, by decide, by decide, by rw [Nat.sub_zero]; exact h4⟩, by rw [Nat.sub_zero]; rfl⟩
def p_determinant_by : Spec := fun ds b Q => ∃ M, ds = [tabD M] ∧ DetOk M ∧ Q (rt (detR M)) b
def tabL (M : List (List Rat)) : D := .lst (M.map fun r => D.lst (r.map rt))
def p_detL : Spec := fun ds b Q => ∃ M, ds = [tabL M] ∧ DetOk M ∧ Q (rt (detR M)) b
def p__law_determinant : Spec := fun ds b Q => p_determinant_by ds b Q ∨ p_detL ds b Q
/-- determinant_by: table, rows, out, k, heads, i, row -/
def W_determinant_by : WS := (wSeq (wPar 1 2 (wO (wComp [6] (.one 6) (wSeqOf (wVar 0)) wYes (wFz (wListOf (wVarB 6))))) (wV (wC kONE))) (wSeq (wFor (.one 3) (wRng1 (wCons (wUn dLen (wVarB 1)) wNil)) (wSeq (wSetO 4 (wComp [5] (.one 5) (wRng2 (wCons (wVar 3) (wCons (wUn dLen (wVarB 1)) wNil))) (wT (wBin dNe (wBin dIx (wBin dIx (wVarB 1) (wVarB 5)) (wVarB 3)) (wC kNONE))) (wVar 5))) (wFrz 4 (wSeq (wIfS (wT (wBin dEq (wUn dLen (wVarB 4)) (wC (.int 0)))) (wRet (wC kNONE)) wNext) (wSeq (wIfS (wT (wBin dNe (wBin dIx (wVarB 4) (wC (.int 0))) (wVarB 3))) (wSeq (wSwap 1 (wBin dIx (wVarB 1) (wBin dIx (wVarB 4) (wC (.int 0)))) (wBin dIx (wVarB 1) (wVarB 3)) (wVar 3) (wBin dIx (wVarB 4) (wC (.int 0)))) (wSet 2 (wCall 1 p_turned_sign (wCons (wVar 2) wNil)))) wNext) (wSeq (wSet 2 (wCall 2 p_scaled (wCons (wVar 2) (wCons (wBin dIx (wBin dIx (wVarB 1) (wVarB 3)) (wVarB 3)) wNil)))) (wFor (.one 5) (wRng2 (wCons (wBin dAdd (wVarB 3) (wC (.int 1))) (wCons (wUn dLen (wVarB 1)) wNil))) (wSetIx 1 (wCall 3 p_less_row (wCons (wBin dIx (wVarB 1) (wVarB 5)) (wCons (wBin dIx (wVarB 1) (wVarB 3)) (wCons (wCall 2 p_parted (wCons (wBin dIx (wBin dIx (wVarB 1) (wVarB 5)) (wVarB 3)) (wCons (wBin dIx (wBin dIx (wVarB 1) (wVarB 3)) (wVarB 3)) wNil))) wNil)))) (wVar 5))))))))) (wRet (wVar 2))))
/-- _law_determinant: table, rows, out, k, heads, i, by, row, a, b -/
def W__law_determinant : WS := (wSeq (wPar 1 2 (wO (wComp [7] (.one 7) (wSeqOf (wVar 0)) wYes (wFz (wListOf (wVarB 7))))) (wV (wTup (wCons (wC (.int 1)) (wCons (wC (.int 1)) wNil))))) (wSeq (wFor (.one 3) (wRng1 (wCons (wUn dLen (wVarB 1)) wNil)) (wSeq (wSetO 4 (wComp [5] (.one 5) (wRng2 (wCons (wVar 3) (wCons (wUn dLen (wVarB 1)) wNil))) (wT (wBin dNe (wBin dIx (wBin dIx (wBin dIx (wVarB 1) (wVarB 5)) (wVarB 3)) (wC (.int 0))) (wC (.int 0)))) (wVar 5))) (wFrz 4 (wSeq (wIfS (wT (wBin dEq (wVarB 4) (wFz wNil))) (wRet (wTup (wCons (wC (.int 0)) (wCons (wC (.int 1)) wNil)))) wNext) (wSeq (wIfS (wT (wBin dNe (wBin dIx (wVarB 4) (wC (.int 0))) (wVarB 3))) (wSeq (wSwap 1 (wBin dIx (wVarB 1) (wBin dIx (wVarB 4) (wC (.int 0)))) (wBin dIx (wVarB 1) (wVarB 3)) (wVar 3) (wBin dIx (wVarB 4) (wC (.int 0)))) (wSet 2 (wCall 2 p__law_minus (wCons (wTup (wCons (wC (.int 0)) (wCons (wC (.int 1)) wNil))) (wCons (wVar 2) wNil))))) wNext) (wSeq (wSet 2 (wCall 2 p__law_times (wCons (wVar 2) (wCons (wBin dIx (wBin dIx (wVarB 1) (wVarB 3)) (wVarB 3)) wNil)))) (wFor (.one 5) (wRng2 (wCons (wBin dAdd (wVarB 3) (wC (.int 1))) (wCons (wUn dLen (wVarB 1)) wNil))) (wSeq (wSet 6 (wCall 2 p__law_share (wCons (wBin dIx (wBin dIx (wVarB 1) (wVarB 5)) (wVarB 3)) (wCons (wBin dIx (wBin dIx (wVarB 1) (wVarB 3)) (wVarB 3)) wNil)))) (wSetIx 1 (wFz (wComp [8, 9] (.tup [8, 9]) (wZip (wCons (wBin dIx (wVarB 1) (wVarB 5)) (wCons (wBin dIx (wVarB 1) (wVarB 3)) wNil))) wYes (wCall 2 p__law_minus (wCons (wVar 8) (wCons (wCall 2 p__law_times (wCons (wVar 6) (wCons (wVar 9) wNil))) wNil))))) (wVar 5)))))))))) (wRet (wVar 2))))
theorem sz_zero : Sz 0 := ⟨Nat.two_pow_pos _, Nat.one_lt_two_pow (by decide)⟩
theorem heads_len {M : List (List Rat)} {k : Nat} : (heads M k).length ≤ M.length := by
  unfold heads
  refine Nat.le_trans (List.length_filter_le _ _) ?_
  rw [List.length_map, List.length_range]
  omega
theorem cut_rng {n k : Nat} (hk : k ≤ n) : rangeD (k : Int) ((n : Int) - (k : Int)).toNat = ((List.range (n - k)).map (k + ·)).map fun (i : Nat) => D.int (i : Int) := by
  rw [show ((n : Int) - (k : Int)).toNat = n - k by omega, rangeD_nat]
theorem hp_determinant_by : ∀ ds b Q, ds.length = 1 → p_determinant_by ds b Q → W_determinant_by { nx := fun _ b' => Q .non b', rt := Q } (ds.map Slot.v ++ List.replicate 6 .un) b := by
  rintro ds b Q - ⟨M, rfl, hM, q⟩
  show W_determinant_by _ [.v (tabD M), .un, .un, .un, .un, .un, .un] b
  have hs := hM.ds
  have hlen := hM.2.1
  generalize detR M = R at q hs
  generalize hn : M.length = n at hs hlen
  (try simp only [wSeq, wSet, wSetO, wRet, wIfS, wFrz, wApp, wDrop, wNext, wBreak, wCont, wNever, wVar, wVarB, wC, wBin, wUn, wT, wAnd, wOr, wNot, wAndV, wOrV, wNotV, wIte, wNil, wCons, wTup, wCall, wListOf, wC2, wIsT, wIsC, wFld, wON, wOS, wSl, wV, wO, wSetIx, wPar, wSwap, wSeqOf, wRng1, wRng2, wFor, wWhile, wYes, wComp, wEnum, wZip, wEnum2, wRgT, wRgL, wAug, dMulT, dMax, wMake, wFz, wCat, wRep, wipeE, D.ty, wIf_true, wIf_false, List.getElem?_cons_zero, List.getElem?_cons_succ, List.set_cons_zero, List.set_cons_succ, dI0_ii, dI_ii, dNeg_i, dGcd_ii, dAbs_i, dInt_i, dInt_b, dBits_i, dLen_t, dLen_l, dTuple_t, dTuple_l, dAdd_ii, dAdd_tt, dAdd_ll, dAdd_ss, dMul_ii, dMul_li, dIs_n, dIs_b, dIsN_n, dRepr_b, rt_0, rt_1, dEq, dNe, dSub, dDiv, dDivU, dMod, dLt, dLe, dGt, dGe, D.isNon, Bool.not_true, Bool.not_false, W_determinant_by])
  refine ⟨by rw [List.length_map]; omega, cmp_at (fun r : List Rat => D.tup (r.map rt)) rowD M _ (fun r hr => ⟨_, rfl, fun K k => by (try simp only [wSeq, wSet, wSetO, wRet, wIfS, wFrz, wApp, wDrop, wNext, wBreak, wCont, wNever, wVar, wVarB, wC, wBin, wUn, wT, wAnd, wOr, wNot, wAndV, wOrV, wNotV, wIte, wNil, wCons, wTup, wCall, wListOf, wC2, wIsT, wIsC, wFld, wON, wOS, wSl, wV, wO, wSetIx, wPar, wSwap, wSeqOf, wRng1, wRng2, wFor, wWhile, wYes, wComp, wEnum, wZip, wEnum2, wRgT, wRgL, wAug, dMulT, dMax, wMake, wFz, wCat, wRep, wipeE, D.ty, wIf_true, wIf_false, List.getElem?_cons_zero, List.getElem?_cons_succ, List.set_cons_zero, List.set_cons_succ, dI0_ii, dI_ii, dNeg_i, dGcd_ii, dAbs_i, dInt_i, dInt_b, dBits_i, dLen_t, dLen_l, dTuple_t, dTuple_l, dAdd_ii, dAdd_tt, dAdd_ll, dAdd_ss, dMul_ii, dMul_li, dIs_n, dIs_b, dIsN_n, dRepr_b, rt_0, rt_1, dEq, dNe, dSub, dDiv, dDivU, dMod, dLt, dLe, dGt, dGe, D.isNon, Bool.not_true, Bool.not_false]); exact k⟩) ?_⟩
  rw [show (M.map rowD).length = n by rw [List.length_map]; exact hn]
  refine ⟨⟨by omega, by omega⟩, ?_⟩
  rw [show rangeD 0 ((n : Nat) : Int).toNat = rangeD ((0 : Nat) : Int) n by rw [Int.toNat_natCast]; rfl, rangeD_nat]
  refine for_rule (I := fun i env b' => b' = b ∧ ∃ (M' : List (List Rat)) (out : Rat) (s3 s4 s5 s6 : Slot), env = [.v (tabD M), .own (rowsD M'), .v (rt out), s3, s4, s5, s6] ∧ DS n i M' out R) ?_ ?_ _ _ ⟨rfl, M, 1, _, _, _, _, rfl, hs⟩
  · rintro k d env b' E' hd ⟨rfl, M', out, s3, s4, s5, s6, rfl, ds⟩ hnx hct hbk hrt
    have hk : k < n := by
      have := (List.getElem?_eq_some_iff.mp hd).1
      simpa using this
    have ed : d = .int ((k : Nat) : Int) := by
      rw [List.getElem?_map, List.getElem?_map, List.getElem?_range (by simpa using hk)] at hd
      simp at hd
      exact hd.symm
    subst ed
    have hl : M'.length = n := ds.sq.len
    refine ⟨_, rfl, ?_⟩
    (try simp only [wSeq, wSet, wSetO, wRet, wIfS, wFrz, wApp, wDrop, wNext, wBreak, wCont, wNever, wVar, wVarB, wC, wBin, wUn, wT, wAnd, wOr, wNot, wAndV, wOrV, wNotV, wIte, wNil, wCons, wTup, wCall, wListOf, wC2, wIsT, wIsC, wFld, wON, wOS, wSl, wV, wO, wSetIx, wPar, wSwap, wSeqOf, wRng1, wRng2, wFor, wWhile, wYes, wComp, wEnum, wZip, wEnum2, wRgT, wRgL, wAug, dMulT, dMax, wMake, wFz, wCat, wRep, wipeE, D.ty, wIf_true, wIf_false, List.getElem?_cons_zero, List.getElem?_cons_succ, List.set_cons_zero, List.set_cons_succ, dI0_ii, dI_ii, dNeg_i, dGcd_ii, dAbs_i, dInt_i, dInt_b, dBits_i, dLen_t, dLen_l, dTuple_t, dTuple_l, dAdd_ii, dAdd_tt, dAdd_ll, dAdd_ss, dMul_ii, dMul_li, dIs_n, dIs_b, dIsN_n, dRepr_b, rt_0, rt_1, dEq, dNe, dSub, dDiv, dDivU, dMod, dLt, dLe, dGt, dGe, D.isNon, Bool.not_true, Bool.not_false])
    have hrl : (rowsD M').length = n := by rw [rowsD_len]; exact hl
    refine ⟨⟨by omega, by omega, by omega, by omega⟩, by rw [rangeD_len]; omega, ?_⟩
    rw [show rangeD (k : Int) (((rowsD M').length : Int) - (k : Int)).toNat = ((List.range (n - k)).map (k + ·)).map fun (i : Nat) => D.int (i : Int) by rw [hrl]; exact cut_rng (Nat.le_of_lt hk)]
    refine cmp_filter _ (fun (i : Nat) => D.int (i : Int)) (fun i => decide (ent M' i k ≠ 0)) _ _ (fun x hx => ⟨_, rfl, fun K hK => ?_, fun K hK => by (try simp only [wSeq, wSet, wSetO, wRet, wIfS, wFrz, wApp, wDrop, wNext, wBreak, wCont, wNever, wVar, wVarB, wC, wBin, wUn, wT, wAnd, wOr, wNot, wAndV, wOrV, wNotV, wIte, wNil, wCons, wTup, wCall, wListOf, wC2, wIsT, wIsC, wFld, wON, wOS, wSl, wV, wO, wSetIx, wPar, wSwap, wSeqOf, wRng1, wRng2, wFor, wWhile, wYes, wComp, wEnum, wZip, wEnum2, wRgT, wRgL, wAug, dMulT, dMax, wMake, wFz, wCat, wRep, wipeE, D.ty, wIf_true, wIf_false, List.getElem?_cons_zero, List.getElem?_cons_succ, List.set_cons_zero, List.set_cons_succ, dI0_ii, dI_ii, dNeg_i, dGcd_ii, dAbs_i, dInt_i, dInt_b, dBits_i, dLen_t, dLen_l, dTuple_t, dTuple_l, dAdd_ii, dAdd_tt, dAdd_ll, dAdd_ss, dMul_ii, dMul_li, dIs_n, dIs_b, dIsN_n, dRepr_b, rt_0, rt_1, dEq, dNe, dSub, dDiv, dDivU, dMod, dLt, dLe, dGt, dGe, D.isNon, Bool.not_true, Bool.not_false]); exact hK⟩) ?_
    · obtain ⟨j, hj, rfl⟩ := List.mem_map.mp hx
      rw [List.mem_range] at hj
      (try simp only [wSeq, wSet, wSetO, wRet, wIfS, wFrz, wApp, wDrop, wNext, wBreak, wCont, wNever, wVar, wVarB, wC, wBin, wUn, wT, wAnd, wOr, wNot, wAndV, wOrV, wNotV, wIte, wNil, wCons, wTup, wCall, wListOf, wC2, wIsT, wIsC, wFld, wON, wOS, wSl, wV, wO, wSetIx, wPar, wSwap, wSeqOf, wRng1, wRng2, wFor, wWhile, wYes, wComp, wEnum, wZip, wEnum2, wRgT, wRgL, wAug, dMulT, dMax, wMake, wFz, wCat, wRep, wipeE, D.ty, wIf_true, wIf_false, List.getElem?_cons_zero, List.getElem?_cons_succ, List.set_cons_zero, List.set_cons_succ, dI0_ii, dI_ii, dNeg_i, dGcd_ii, dAbs_i, dInt_i, dInt_b, dBits_i, dLen_t, dLen_l, dTuple_t, dTuple_l, dAdd_ii, dAdd_tt, dAdd_ll, dAdd_ss, dMul_ii, dMul_li, dIs_n, dIs_b, dIsN_n, dRepr_b, rt_0, rt_1, dEq, dNe, dSub, dDiv, dDivU, dMod, dLt, dLe, dGt, dGe, D.isNon, Bool.not_true, Bool.not_false])
      refine ix_rows (by rw [hl]; omega) (ix_row (by rw [ds.sq.row _ (by omega)]; omega) ?_)
      refine ⟨⟨rfl, rfl⟩, ?_⟩
      rw [kNONE_eq, eqv_rt, ← decide_not]
      exact hK
    · rw [show ((List.range (n - k)).map (k + ·)).filter (fun i => decide (ent M' i k ≠ 0)) = heads M' k by unfold heads; rw [hl]]
      (try simp only [wSeq, wSet, wSetO, wRet, wIfS, wFrz, wApp, wDrop, wNext, wBreak, wCont, wNever, wVar, wVarB, wC, wBin, wUn, wT, wAnd, wOr, wNot, wAndV, wOrV, wNotV, wIte, wNil, wCons, wTup, wCall, wListOf, wC2, wIsT, wIsC, wFld, wON, wOS, wSl, wV, wO, wSetIx, wPar, wSwap, wSeqOf, wRng1, wRng2, wFor, wWhile, wYes, wComp, wEnum, wZip, wEnum2, wRgT, wRgL, wAug, dMulT, dMax, wMake, wFz, wCat, wRep, wipeE, D.ty, wIf_true, wIf_false, List.getElem?_cons_zero, List.getElem?_cons_succ, List.set_cons_zero, List.set_cons_succ, dI0_ii, dI_ii, dNeg_i, dGcd_ii, dAbs_i, dInt_i, dInt_b, dBits_i, dLen_t, dLen_l, dTuple_t, dTuple_l, dAdd_ii, dAdd_tt, dAdd_ll, dAdd_ss, dMul_ii, dMul_li, dIs_n, dIs_b, dIsN_n, dRepr_b, rt_0, rt_1, dEq, dNe, dSub, dDiv, dDivU, dMod, dLt, dLe, dGt, dGe, D.isNon, Bool.not_true, Bool.not_false])
      refine ⟨⟨rfl, rfl⟩, ?_⟩
      rw [eqv_int, List.length_map]
      refine wIf_dec (fun h0 => ?_) (fun h0 => ?_)
      · have hh : heads M' k = [] := List.eq_nil_of_length_eq_zero (by omega)
        rw [hrt]
        have := ds.nil hk hh
        subst this
        exact q
      · obtain ⟨h, t, hh⟩ : ∃ h t, heads M' k = h :: t := by
          cases e : heads M' k with
          | nil => rw [e] at h0; exact absurd rfl h0
          | cons a r => exact ⟨a, r, rfl⟩
        obtain ⟨g1, g2, st⟩ := ds.step hk hh
        rw [hh, List.map_cons]
        -- the rest, from the swapped rows on
        have rest : ∀ (s4 : Slot), wSeq (wSet 2 (wCall 2 p_scaled (wCons (wVar 2) (wCons (wBin dIx (wBin dIx (wVarB 1) (wVarB 3)) (wVarB 3)) wNil)))) (wFor (.one 5) (wRng2 (wCons (wBin dAdd (wVarB 3) (wC (.int 1))) (wCons (wUn dLen (wVarB 1)) wNil))) (wSetIx 1 (wCall 3 p_less_row (wCons (wBin dIx (wVarB 1) (wVarB 5)) (wCons (wBin dIx (wVarB 1) (wVarB 3)) (wCons (wCall 2 p_parted (wCons (wBin dIx (wBin dIx (wVarB 1) (wVarB 5)) (wVarB 3)) (wCons (wBin dIx (wBin dIx (wVarB 1) (wVarB 3)) (wVarB 3)) wNil))) wNil)))) (wVar 5)))
            E' [.v (tabD M), .own (rowsD (swapR M' k h)), .v (rt (if h = k then out else -out)), .v (.int (k : Int)), s4, s5, s6] b' := by
          intro s4
          have hl1 := st.sq.len
          (try simp only [wSeq, wSet, wSetO, wRet, wIfS, wFrz, wApp, wDrop, wNext, wBreak, wCont, wNever, wVar, wVarB, wC, wBin, wUn, wT, wAnd, wOr, wNot, wAndV, wOrV, wNotV, wIte, wNil, wCons, wTup, wCall, wListOf, wC2, wIsT, wIsC, wFld, wON, wOS, wSl, wV, wO, wSetIx, wPar, wSwap, wSeqOf, wRng1, wRng2, wFor, wWhile, wYes, wComp, wEnum, wZip, wEnum2, wRgT, wRgL, wAug, dMulT, dMax, wMake, wFz, wCat, wRep, wipeE, D.ty, wIf_true, wIf_false, List.getElem?_cons_zero, List.getElem?_cons_succ, List.set_cons_zero, List.set_cons_succ, dI0_ii, dI_ii, dNeg_i, dGcd_ii, dAbs_i, dInt_i, dInt_b, dBits_i, dLen_t, dLen_l, dTuple_t, dTuple_l, dAdd_ii, dAdd_tt, dAdd_ll, dAdd_ss, dMul_ii, dMul_li, dIs_n, dIs_b, dIsN_n, dRepr_b, rt_0, rt_1, dEq, dNe, dSub, dDiv, dDivU, dMod, dLt, dLe, dGt, dGe, D.isNon, Bool.not_true, Bool.not_false])
          refine ix_rows (by rw [hl1]; exact hk) (ix_row (by rw [st.sq.row _ hk]; exact hk) ?_)
          refine ⟨rfl, _, _, rfl, st.so, st.sp, trivial, ?_⟩
          rw [rowsD_len, hl1]
          refine ⟨⟨by omega, by omega, by omega, by omega⟩, ?_⟩
          rw [show ((k : Int) + 1) = ((k + 1 : Nat) : Int) by omega, cut_rng hk]
          refine for_rule (I := fun i env b2 => b2 = b' ∧ ∃ (s5 : Slot), env = [.v (tabD M), .own (rowsD (elimR (swapR M' k h) k (k + 1 + i))), .v (rt ((if h = k then out else -out) * ent (swapR M' k h) k k)), .v (.int (k : Int)), s4, s5, s6]) ?_ ?_ _ _ ⟨rfl, s5, by rw [Nat.add_zero, elim_none]; rfl⟩
          · rintro i d env b2 E2 hd ⟨rfl, s5, rfl⟩ hnx2 hct2 hbk2 hrt2
            have hi : i < n - (k + 1) := by
              have := (List.getElem?_eq_some_iff.mp hd).1
              simpa using this
            have ed : d = .int ((k + 1 + i : Nat) : Int) := by
              rw [List.getElem?_map, List.getElem?_map, List.getElem?_range (by simpa using hi)] at hd
              simp at hd
              exact hd.symm
            subst ed
            have him : k + 1 + i < n := by omega
            have hmm : k + 1 + (i + 1) = k + 1 + i + 1 := by omega
            rw [hmm] at hnx2
            have hkm : k < k + 1 + i := by omega
            generalize k + 1 + i = m at him hnx2 hkm
            refine ⟨_, rfl, ?_⟩
            have sqe := elim_sq (m := m) st.sq hk
            have r1 : rowOf (elimR (swapR M' k h) k m) m = rowOf (swapR M' k h) m := by rw [elim_row st.sq him, if_neg (by omega)]
            have r2 : rowOf (elimR (swapR M' k h) k m) k = rowOf (swapR M' k h) k := by rw [elim_row st.sq hk, if_neg (by omega)]
            obtain ⟨z1, z2, z3⟩ := st.el m hkm him
            (try simp only [wSeq, wSet, wSetO, wRet, wIfS, wFrz, wApp, wDrop, wNext, wBreak, wCont, wNever, wVar, wVarB, wC, wBin, wUn, wT, wAnd, wOr, wNot, wAndV, wOrV, wNotV, wIte, wNil, wCons, wTup, wCall, wListOf, wC2, wIsT, wIsC, wFld, wON, wOS, wSl, wV, wO, wSetIx, wPar, wSwap, wSeqOf, wRng1, wRng2, wFor, wWhile, wYes, wComp, wEnum, wZip, wEnum2, wRgT, wRgL, wAug, dMulT, dMax, wMake, wFz, wCat, wRep, wipeE, D.ty, wIf_true, wIf_false, List.getElem?_cons_zero, List.getElem?_cons_succ, List.set_cons_zero, List.set_cons_succ, dI0_ii, dI_ii, dNeg_i, dGcd_ii, dAbs_i, dInt_i, dInt_b, dBits_i, dLen_t, dLen_l, dTuple_t, dTuple_l, dAdd_ii, dAdd_tt, dAdd_ll, dAdd_ss, dMul_ii, dMul_li, dIs_n, dIs_b, dIsN_n, dRepr_b, rt_0, rt_1, dEq, dNe, dSub, dDiv, dDivU, dMod, dLt, dLe, dGt, dGe, D.isNon, Bool.not_true, Bool.not_false])
            refine ix_rows (by rw [sqe.len]; exact him) (ix_rows (by rw [sqe.len]; exact hk) (ix_rows (by rw [sqe.len]; exact him) ?_))
            rw [r1, r2]
            refine ix_row (by rw [st.sq.row _ him]; exact hk) (ix_rows (by rw [sqe.len]; exact hk) ?_)
            rw [r2]
            refine ix_row (by rw [st.sq.row _ hk]; exact hk) ⟨rfl, _, _, rfl, z1, st.sp, st.p0, rfl, _, _, _, rfl, by rw [st.sq.row _ him, st.sq.row _ hk], by rw [st.sq.row _ him]; omega, z2, fun x hx => ?_, fun y hy => ?_, ?_⟩
            · obtain ⟨j, hj, rfl⟩ := List.getElem_of_mem hx
              have hj' : j < n := by rw [st.sq.row _ him] at hj; exact hj
              have := (z3 j hj').2.1
              unfold ent at this
              rw [List.getD_eq_getElem?_getD, List.getElem?_eq_getElem hj] at this
              exact this
            · obtain ⟨j, hj, rfl⟩ := List.getElem_of_mem hy
              have hj' : j < n := by rw [st.sq.row _ hk] at hj; exact hj
              have h1 := (z3 j hj').1
              have h2 := (z3 j hj').2.2
              have e : ent (swapR M' k h) k j = (rowOf (swapR M' k h) k)[j] := by
                unfold ent
                rw [List.getD_eq_getElem?_getD, List.getElem?_eq_getElem hj]
                rfl
              rw [e] at h1 h2
              exact ⟨h1, h2⟩
            · (try simp only [wSeq, wSet, wSetO, wRet, wIfS, wFrz, wApp, wDrop, wNext, wBreak, wCont, wNever, wVar, wVarB, wC, wBin, wUn, wT, wAnd, wOr, wNot, wAndV, wOrV, wNotV, wIte, wNil, wCons, wTup, wCall, wListOf, wC2, wIsT, wIsC, wFld, wON, wOS, wSl, wV, wO, wSetIx, wPar, wSwap, wSeqOf, wRng1, wRng2, wFor, wWhile, wYes, wComp, wEnum, wZip, wEnum2, wRgT, wRgL, wAug, dMulT, dMax, wMake, wFz, wCat, wRep, wipeE, D.ty, wIf_true, wIf_false, List.getElem?_cons_zero, List.getElem?_cons_succ, List.set_cons_zero, List.set_cons_succ, dI0_ii, dI_ii, dNeg_i, dGcd_ii, dAbs_i, dInt_i, dInt_b, dBits_i, dLen_t, dLen_l, dTuple_t, dTuple_l, dAdd_ii, dAdd_tt, dAdd_ll, dAdd_ss, dMul_ii, dMul_li, dIs_n, dIs_b, dIsN_n, dRepr_b, rt_0, rt_1, dEq, dNe, dSub, dDiv, dDivU, dMod, dLt, dLe, dGt, dGe, D.isNon, Bool.not_true, Bool.not_false])
              rw [rowsD_len, sqe.len, ixN_nat' him]
              refine hnx2 _ _ ⟨rfl, .v (.int (m : Int)), ?_⟩
              have e := elim_set st.sq hkm him
              rw [← e]
              unfold rowsD
              rw [List.map_set]
              rfl
          · rintro env b2 ⟨rfl, s5, rfl⟩
            refine hnx _ _ ⟨rfl, _, _, _, _, _, _, rfl, ?_⟩
            have e : k + 1 + ((List.map (fun (i : Nat) => D.int (i : Int)) ((List.range (n - (k + 1))).map (k + 1 + ·))).length) = n := by simp; omega
            rw [e]
            exact st.nx
        refine dIx_l (j := 0) rfl ?_
        (try simp only [wSeq, wSet, wSetO, wRet, wIfS, wFrz, wApp, wDrop, wNext, wBreak, wCont, wNever, wVar, wVarB, wC, wBin, wUn, wT, wAnd, wOr, wNot, wAndV, wOrV, wNotV, wIte, wNil, wCons, wTup, wCall, wListOf, wC2, wIsT, wIsC, wFld, wON, wOS, wSl, wV, wO, wSetIx, wPar, wSwap, wSeqOf, wRng1, wRng2, wFor, wWhile, wYes, wComp, wEnum, wZip, wEnum2, wRgT, wRgL, wAug, dMulT, dMax, wMake, wFz, wCat, wRep, wipeE, D.ty, wIf_true, wIf_false, List.getElem?_cons_zero, List.getElem?_cons_succ, List.set_cons_zero, List.set_cons_succ, dI0_ii, dI_ii, dNeg_i, dGcd_ii, dAbs_i, dInt_i, dInt_b, dBits_i, dLen_t, dLen_l, dTuple_t, dTuple_l, dAdd_ii, dAdd_tt, dAdd_ll, dAdd_ss, dMul_ii, dMul_li, dIs_n, dIs_b, dIsN_n, dRepr_b, rt_0, rt_1, dEq, dNe, dSub, dDiv, dDivU, dMod, dLt, dLe, dGt, dGe, D.isNon, Bool.not_true, Bool.not_false])
        refine ⟨⟨rfl, rfl⟩, ?_⟩
        rw [eqv_int, ← decide_not]
        refine wIf_dec (fun hne => ?_) (fun he => ?_)
        · refine dIx_l (j := 0) rfl (ix_rows (by rw [hl]; exact g2) (ix_rows (by rw [hl]; exact hk) ?_))
          rw [hrl, ixN_nat' hk]
          (try simp only [wSeq, wSet, wSetO, wRet, wIfS, wFrz, wApp, wDrop, wNext, wBreak, wCont, wNever, wVar, wVarB, wC, wBin, wUn, wT, wAnd, wOr, wNot, wAndV, wOrV, wNotV, wIte, wNil, wCons, wTup, wCall, wListOf, wC2, wIsT, wIsC, wFld, wON, wOS, wSl, wV, wO, wSetIx, wPar, wSwap, wSeqOf, wRng1, wRng2, wFor, wWhile, wYes, wComp, wEnum, wZip, wEnum2, wRgT, wRgL, wAug, dMulT, dMax, wMake, wFz, wCat, wRep, wipeE, D.ty, wIf_true, wIf_false, List.getElem?_cons_zero, List.getElem?_cons_succ, List.set_cons_zero, List.set_cons_succ, dI0_ii, dI_ii, dNeg_i, dGcd_ii, dAbs_i, dInt_i, dInt_b, dBits_i, dLen_t, dLen_l, dTuple_t, dTuple_l, dAdd_ii, dAdd_tt, dAdd_ll, dAdd_ss, dMul_ii, dMul_li, dIs_n, dIs_b, dIsN_n, dRepr_b, rt_0, rt_1, dEq, dNe, dSub, dDiv, dDivU, dMod, dLt, dLe, dGt, dGe, D.isNon, Bool.not_true, Bool.not_false])
          refine dIx_l (j := 0) rfl ?_
          (try simp only [wSeq, wSet, wSetO, wRet, wIfS, wFrz, wApp, wDrop, wNext, wBreak, wCont, wNever, wVar, wVarB, wC, wBin, wUn, wT, wAnd, wOr, wNot, wAndV, wOrV, wNotV, wIte, wNil, wCons, wTup, wCall, wListOf, wC2, wIsT, wIsC, wFld, wON, wOS, wSl, wV, wO, wSetIx, wPar, wSwap, wSeqOf, wRng1, wRng2, wFor, wWhile, wYes, wComp, wEnum, wZip, wEnum2, wRgT, wRgL, wAug, dMulT, dMax, wMake, wFz, wCat, wRep, wipeE, D.ty, wIf_true, wIf_false, List.getElem?_cons_zero, List.getElem?_cons_succ, List.set_cons_zero, List.set_cons_succ, dI0_ii, dI_ii, dNeg_i, dGcd_ii, dAbs_i, dInt_i, dInt_b, dBits_i, dLen_t, dLen_l, dTuple_t, dTuple_l, dAdd_ii, dAdd_tt, dAdd_ll, dAdd_ss, dMul_ii, dMul_li, dIs_n, dIs_b, dIsN_n, dRepr_b, rt_0, rt_1, dEq, dNe, dSub, dDiv, dDivU, dMod, dLt, dLe, dGt, dGe, D.isNon, Bool.not_true, Bool.not_false])
          rw [ixN_nat' g2]
          refine ⟨rfl, _, rfl, ?_⟩
          have hne' : ¬ h = k := by omega
          have e : ((rowsD M').set k (rowD (rowOf M' h))).set h (rowD (rowOf M' k)) = rowsD (swapR M' k h) := by
            unfold rowsD swapR
            rw [if_neg hne', List.map_set, List.map_set]
          have := rest (Slot.v (D.lst (D.int (h : Int) :: t.map fun (i : Nat) => D.int (i : Int))))
          rw [if_neg hne'] at this
          rw [e]
          exact this
        · have he' : h = k := by omega
          subst he'
          have := rest (Slot.v (D.lst (D.int (h : Int) :: t.map fun (i : Nat) => D.int (i : Int))))
          unfold swapR at this
          rw [if_pos rfl, if_pos rfl] at this
          exact this
  · rintro env b' ⟨rfl, M', out, s3, s4, s5, s6, rfl, ds⟩
    (try simp only [wSeq, wSet, wSetO, wRet, wIfS, wFrz, wApp, wDrop, wNext, wBreak, wCont, wNever, wVar, wVarB, wC, wBin, wUn, wT, wAnd, wOr, wNot, wAndV, wOrV, wNotV, wIte, wNil, wCons, wTup, wCall, wListOf, wC2, wIsT, wIsC, wFld, wON, wOS, wSl, wV, wO, wSetIx, wPar, wSwap, wSeqOf, wRng1, wRng2, wFor, wWhile, wYes, wComp, wEnum, wZip, wEnum2, wRgT, wRgL, wAug, dMulT, dMax, wMake, wFz, wCat, wRep, wipeE, D.ty, wIf_true, wIf_false, List.getElem?_cons_zero, List.getElem?_cons_succ, List.set_cons_zero, List.set_cons_succ, dI0_ii, dI_ii, dNeg_i, dGcd_ii, dAbs_i, dInt_i, dInt_b, dBits_i, dLen_t, dLen_l, dTuple_t, dTuple_l, dAdd_ii, dAdd_tt, dAdd_ll, dAdd_ss, dMul_ii, dMul_li, dIs_n, dIs_b, dIsN_n, dRepr_b, rt_0, rt_1, dEq, dNe, dSub, dDiv, dDivU, dMod, dLt, dLe, dGt, dGe, D.isNon, Bool.not_true, Bool.not_false])
    rw [show (List.map (fun (i : Nat) => D.int (i : Int)) ((List.range n).map (0 + ·))).length = n by simp] at ds
    have := ds.fin
    subst this
    exact q
theorem hp__law_determinantT : ∀ ds b Q, ds.length = 1 → p_determinant_by ds b Q → W__law_determinant { nx := fun _ b' => Q .non b', rt := Q } (ds.map Slot.v ++ List.replicate 9 .un) b := by
  rintro ds b Q - ⟨M, rfl, hM, q⟩
  show W__law_determinant _ [.v (tabD M), .un, .un, .un, .un, .un, .un, .un, .un, .un] b
  have hs := hM.ds
  have hlen := hM.2.1
  generalize detR M = R at q hs
  generalize hn : M.length = n at hs hlen
  (try simp only [wSeq, wSet, wSetO, wRet, wIfS, wFrz, wApp, wDrop, wNext, wBreak, wCont, wNever, wVar, wVarB, wC, wBin, wUn, wT, wAnd, wOr, wNot, wAndV, wOrV, wNotV, wIte, wNil, wCons, wTup, wCall, wListOf, wC2, wIsT, wIsC, wFld, wON, wOS, wSl, wV, wO, wSetIx, wPar, wSwap, wSeqOf, wRng1, wRng2, wFor, wWhile, wYes, wComp, wEnum, wZip, wEnum2, wRgT, wRgL, wAug, dMulT, dMax, wMake, wFz, wCat, wRep, wipeE, D.ty, wIf_true, wIf_false, List.getElem?_cons_zero, List.getElem?_cons_succ, List.set_cons_zero, List.set_cons_succ, dI0_ii, dI_ii, dNeg_i, dGcd_ii, dAbs_i, dInt_i, dInt_b, dBits_i, dLen_t, dLen_l, dTuple_t, dTuple_l, dAdd_ii, dAdd_tt, dAdd_ll, dAdd_ss, dMul_ii, dMul_li, dIs_n, dIs_b, dIsN_n, dRepr_b, rt_0, rt_1, dEq, dNe, dSub, dDiv, dDivU, dMod, dLt, dLe, dGt, dGe, D.isNon, Bool.not_true, Bool.not_false, W__law_determinant])
  refine ⟨by rw [List.length_map]; omega, cmp_at (fun r : List Rat => D.tup (r.map rt)) rowD M _ (fun r hr => ⟨_, rfl, fun K k => by (try simp only [wSeq, wSet, wSetO, wRet, wIfS, wFrz, wApp, wDrop, wNext, wBreak, wCont, wNever, wVar, wVarB, wC, wBin, wUn, wT, wAnd, wOr, wNot, wAndV, wOrV, wNotV, wIte, wNil, wCons, wTup, wCall, wListOf, wC2, wIsT, wIsC, wFld, wON, wOS, wSl, wV, wO, wSetIx, wPar, wSwap, wSeqOf, wRng1, wRng2, wFor, wWhile, wYes, wComp, wEnum, wZip, wEnum2, wRgT, wRgL, wAug, dMulT, dMax, wMake, wFz, wCat, wRep, wipeE, D.ty, wIf_true, wIf_false, List.getElem?_cons_zero, List.getElem?_cons_succ, List.set_cons_zero, List.set_cons_succ, dI0_ii, dI_ii, dNeg_i, dGcd_ii, dAbs_i, dInt_i, dInt_b, dBits_i, dLen_t, dLen_l, dTuple_t, dTuple_l, dAdd_ii, dAdd_tt, dAdd_ll, dAdd_ss, dMul_ii, dMul_li, dIs_n, dIs_b, dIsN_n, dRepr_b, rt_0, rt_1, dEq, dNe, dSub, dDiv, dDivU, dMod, dLt, dLe, dGt, dGe, D.isNon, Bool.not_true, Bool.not_false]); exact k⟩) ?_⟩
  rw [show (M.map rowD).length = n by rw [List.length_map]; exact hn]
  refine ⟨⟨by omega, by omega⟩, ?_⟩
  rw [show rangeD 0 ((n : Nat) : Int).toNat = rangeD ((0 : Nat) : Int) n by rw [Int.toNat_natCast]; rfl, rangeD_nat]
  refine for_rule (I := fun i env b' => b' = b ∧ ∃ (M' : List (List Rat)) (out : Rat) (s3 s4 s5 s6 s7 s8 s9 : Slot), env = [.v (tabD M), .own (rowsD M'), .v (rt out), s3, s4, s5, s6, s7, s8, s9] ∧ DS n i M' out R) ?_ ?_ _ _ ⟨rfl, M, 1, _, _, _, _, _, _, _, rfl, hs⟩
  · rintro k d env b' E' hd ⟨rfl, M', out, s3, s4, s5, s6, s7, s8, s9, rfl, ds⟩ hnx hct hbk hrt
    have hk : k < n := by
      have := (List.getElem?_eq_some_iff.mp hd).1
      simpa using this
    have ed : d = .int ((k : Nat) : Int) := by
      rw [List.getElem?_map, List.getElem?_map, List.getElem?_range (by simpa using hk)] at hd
      simp at hd
      exact hd.symm
    subst ed
    have hl : M'.length = n := ds.sq.len
    refine ⟨_, rfl, ?_⟩
    (try simp only [wSeq, wSet, wSetO, wRet, wIfS, wFrz, wApp, wDrop, wNext, wBreak, wCont, wNever, wVar, wVarB, wC, wBin, wUn, wT, wAnd, wOr, wNot, wAndV, wOrV, wNotV, wIte, wNil, wCons, wTup, wCall, wListOf, wC2, wIsT, wIsC, wFld, wON, wOS, wSl, wV, wO, wSetIx, wPar, wSwap, wSeqOf, wRng1, wRng2, wFor, wWhile, wYes, wComp, wEnum, wZip, wEnum2, wRgT, wRgL, wAug, dMulT, dMax, wMake, wFz, wCat, wRep, wipeE, D.ty, wIf_true, wIf_false, List.getElem?_cons_zero, List.getElem?_cons_succ, List.set_cons_zero, List.set_cons_succ, dI0_ii, dI_ii, dNeg_i, dGcd_ii, dAbs_i, dInt_i, dInt_b, dBits_i, dLen_t, dLen_l, dTuple_t, dTuple_l, dAdd_ii, dAdd_tt, dAdd_ll, dAdd_ss, dMul_ii, dMul_li, dIs_n, dIs_b, dIsN_n, dRepr_b, rt_0, rt_1, dEq, dNe, dSub, dDiv, dDivU, dMod, dLt, dLe, dGt, dGe, D.isNon, Bool.not_true, Bool.not_false])
    have hrl : (rowsD M').length = n := by rw [rowsD_len]; exact hl
    refine ⟨⟨by omega, by omega, by omega, by omega⟩, by rw [rangeD_len]; omega, ?_⟩
    rw [show rangeD (k : Int) (((rowsD M').length : Int) - (k : Int)).toNat = ((List.range (n - k)).map (k + ·)).map fun (i : Nat) => D.int (i : Int) by rw [hrl]; exact cut_rng (Nat.le_of_lt hk)]
    refine cmp_filter _ (fun (i : Nat) => D.int (i : Int)) (fun i => decide (ent M' i k ≠ 0)) _ _ (fun x hx => ⟨_, rfl, fun K hK => ?_, fun K hK => by (try simp only [wSeq, wSet, wSetO, wRet, wIfS, wFrz, wApp, wDrop, wNext, wBreak, wCont, wNever, wVar, wVarB, wC, wBin, wUn, wT, wAnd, wOr, wNot, wAndV, wOrV, wNotV, wIte, wNil, wCons, wTup, wCall, wListOf, wC2, wIsT, wIsC, wFld, wON, wOS, wSl, wV, wO, wSetIx, wPar, wSwap, wSeqOf, wRng1, wRng2, wFor, wWhile, wYes, wComp, wEnum, wZip, wEnum2, wRgT, wRgL, wAug, dMulT, dMax, wMake, wFz, wCat, wRep, wipeE, D.ty, wIf_true, wIf_false, List.getElem?_cons_zero, List.getElem?_cons_succ, List.set_cons_zero, List.set_cons_succ, dI0_ii, dI_ii, dNeg_i, dGcd_ii, dAbs_i, dInt_i, dInt_b, dBits_i, dLen_t, dLen_l, dTuple_t, dTuple_l, dAdd_ii, dAdd_tt, dAdd_ll, dAdd_ss, dMul_ii, dMul_li, dIs_n, dIs_b, dIsN_n, dRepr_b, rt_0, rt_1, dEq, dNe, dSub, dDiv, dDivU, dMod, dLt, dLe, dGt, dGe, D.isNon, Bool.not_true, Bool.not_false]); exact hK⟩) ?_
    · obtain ⟨j, hj, rfl⟩ := List.mem_map.mp hx
      rw [List.mem_range] at hj
      (try simp only [wSeq, wSet, wSetO, wRet, wIfS, wFrz, wApp, wDrop, wNext, wBreak, wCont, wNever, wVar, wVarB, wC, wBin, wUn, wT, wAnd, wOr, wNot, wAndV, wOrV, wNotV, wIte, wNil, wCons, wTup, wCall, wListOf, wC2, wIsT, wIsC, wFld, wON, wOS, wSl, wV, wO, wSetIx, wPar, wSwap, wSeqOf, wRng1, wRng2, wFor, wWhile, wYes, wComp, wEnum, wZip, wEnum2, wRgT, wRgL, wAug, dMulT, dMax, wMake, wFz, wCat, wRep, wipeE, D.ty, wIf_true, wIf_false, List.getElem?_cons_zero, List.getElem?_cons_succ, List.set_cons_zero, List.set_cons_succ, dI0_ii, dI_ii, dNeg_i, dGcd_ii, dAbs_i, dInt_i, dInt_b, dBits_i, dLen_t, dLen_l, dTuple_t, dTuple_l, dAdd_ii, dAdd_tt, dAdd_ll, dAdd_ss, dMul_ii, dMul_li, dIs_n, dIs_b, dIsN_n, dRepr_b, rt_0, rt_1, dEq, dNe, dSub, dDiv, dDivU, dMod, dLt, dLe, dGt, dGe, D.isNon, Bool.not_true, Bool.not_false])
      refine ix_rows (by rw [hl]; omega) (ix_row (by rw [ds.sq.row _ (by omega)]; omega) ?_)
      (try simp only [wSeq, wSet, wSetO, wRet, wIfS, wFrz, wApp, wDrop, wNext, wBreak, wCont, wNever, wVar, wVarB, wC, wBin, wUn, wT, wAnd, wOr, wNot, wAndV, wOrV, wNotV, wIte, wNil, wCons, wTup, wCall, wListOf, wC2, wIsT, wIsC, wFld, wON, wOS, wSl, wV, wO, wSetIx, wPar, wSwap, wSeqOf, wRng1, wRng2, wFor, wWhile, wYes, wComp, wEnum, wZip, wEnum2, wRgT, wRgL, wAug, dMulT, dMax, wMake, wFz, wCat, wRep, wipeE, D.ty, wIf_true, wIf_false, List.getElem?_cons_zero, List.getElem?_cons_succ, List.set_cons_zero, List.set_cons_succ, dI0_ii, dI_ii, dNeg_i, dGcd_ii, dAbs_i, dInt_i, dInt_b, dBits_i, dLen_t, dLen_l, dTuple_t, dTuple_l, dAdd_ii, dAdd_tt, dAdd_ll, dAdd_ss, dMul_ii, dMul_li, dIs_n, dIs_b, dIsN_n, dRepr_b, rt_0, rt_1, dEq, dNe, dSub, dDiv, dDivU, dMod, dLt, dLe, dGt, dGe, D.isNon, Bool.not_true, Bool.not_false])
      refine ⟨⟨rfl, rfl⟩, ?_⟩
      rw [eqv_int, ← decide_not]
      have e : decide (¬ ((rowOf M' (k + j)).getD k 0).num = 0) = decide (ent M' (k + j) k ≠ 0) := by
        refine decide_eq_decide.mpr ?_
        show ¬ (ent M' (k + j) k).num = 0 ↔ ¬ ent M' (k + j) k = 0
        rw [Rat.num_eq_zero]
      rw [e]
      exact hK
    · rw [show ((List.range (n - k)).map (k + ·)).filter (fun i => decide (ent M' i k ≠ 0)) = heads M' k by unfold heads; rw [hl]]
      (try simp only [wSeq, wSet, wSetO, wRet, wIfS, wFrz, wApp, wDrop, wNext, wBreak, wCont, wNever, wVar, wVarB, wC, wBin, wUn, wT, wAnd, wOr, wNot, wAndV, wOrV, wNotV, wIte, wNil, wCons, wTup, wCall, wListOf, wC2, wIsT, wIsC, wFld, wON, wOS, wSl, wV, wO, wSetIx, wPar, wSwap, wSeqOf, wRng1, wRng2, wFor, wWhile, wYes, wComp, wEnum, wZip, wEnum2, wRgT, wRgL, wAug, dMulT, dMax, wMake, wFz, wCat, wRep, wipeE, D.ty, wIf_true, wIf_false, List.getElem?_cons_zero, List.getElem?_cons_succ, List.set_cons_zero, List.set_cons_succ, dI0_ii, dI_ii, dNeg_i, dGcd_ii, dAbs_i, dInt_i, dInt_b, dBits_i, dLen_t, dLen_l, dTuple_t, dTuple_l, dAdd_ii, dAdd_tt, dAdd_ll, dAdd_ss, dMul_ii, dMul_li, dIs_n, dIs_b, dIsN_n, dRepr_b, rt_0, rt_1, dEq, dNe, dSub, dDiv, dDivU, dMod, dLt, dLe, dGt, dGe, D.isNon, Bool.not_true, Bool.not_false])
      have hfl : ∀ l : List Nat, (D.lst (l.map fun (i : Nat) => D.int (i : Int))).flat 9 = true := fun l => by
        show D.flats 8 _ = true
        induction l with
        | nil => rfl
        | cons a r ih => exact ih
      have heq : ∀ l : List Nat, PyData.eqv (D.lst (l.map fun (i : Nat) => D.int (i : Int))).py (D.lst []).py = decide (l = []) := fun l => by
        cases l with
        | nil => rfl
        | cons a r => simp [D.py, D.pys, PyData.eqv, PyData.eqvAll]
      refine ⟨⟨hfl _, rfl⟩, ?_⟩
      rw [heq]
      refine wIf_dec (fun h0 => ?_) (fun h0 => ?_)
      · have hh : heads M' k = [] := h0
        rw [hrt]
        have := ds.nil hk hh
        subst this
        exact q
      · obtain ⟨h, t, hh⟩ : ∃ h t, heads M' k = h :: t := by
          cases e : heads M' k with
          | nil => exact absurd e h0
          | cons a r => exact ⟨a, r, rfl⟩
        obtain ⟨g1, g2, st⟩ := ds.step hk hh
        rw [hh, List.map_cons]
        -- the rest, from the swapped rows on
        have rest : ∀ (s4 : Slot), (wSeq (wSet 2 (wCall 2 p__law_times (wCons (wVar 2) (wCons (wBin dIx (wBin dIx (wVarB 1) (wVarB 3)) (wVarB 3)) wNil)))) (wFor (.one 5) (wRng2 (wCons (wBin dAdd (wVarB 3) (wC (.int 1))) (wCons (wUn dLen (wVarB 1)) wNil))) (wSeq (wSet 6 (wCall 2 p__law_share (wCons (wBin dIx (wBin dIx (wVarB 1) (wVarB 5)) (wVarB 3)) (wCons (wBin dIx (wBin dIx (wVarB 1) (wVarB 3)) (wVarB 3)) wNil)))) (wSetIx 1 (wFz (wComp [8, 9] (.tup [8, 9]) (wZip (wCons (wBin dIx (wVarB 1) (wVarB 5)) (wCons (wBin dIx (wVarB 1) (wVarB 3)) wNil))) wYes (wCall 2 p__law_minus (wCons (wVar 8) (wCons (wCall 2 p__law_times (wCons (wVar 6) (wCons (wVar 9) wNil))) wNil))))) (wVar 5)))))
            E' [.v (tabD M), .own (rowsD (swapR M' k h)), .v (rt (if h = k then out else -out)), .v (.int (k : Int)), s4, s5, s6, s7, s8, s9] b' := by
          intro s4
          have hl1 := st.sq.len
          (try simp only [wSeq, wSet, wSetO, wRet, wIfS, wFrz, wApp, wDrop, wNext, wBreak, wCont, wNever, wVar, wVarB, wC, wBin, wUn, wT, wAnd, wOr, wNot, wAndV, wOrV, wNotV, wIte, wNil, wCons, wTup, wCall, wListOf, wC2, wIsT, wIsC, wFld, wON, wOS, wSl, wV, wO, wSetIx, wPar, wSwap, wSeqOf, wRng1, wRng2, wFor, wWhile, wYes, wComp, wEnum, wZip, wEnum2, wRgT, wRgL, wAug, dMulT, dMax, wMake, wFz, wCat, wRep, wipeE, D.ty, wIf_true, wIf_false, List.getElem?_cons_zero, List.getElem?_cons_succ, List.set_cons_zero, List.set_cons_succ, dI0_ii, dI_ii, dNeg_i, dGcd_ii, dAbs_i, dInt_i, dInt_b, dBits_i, dLen_t, dLen_l, dTuple_t, dTuple_l, dAdd_ii, dAdd_tt, dAdd_ll, dAdd_ss, dMul_ii, dMul_li, dIs_n, dIs_b, dIsN_n, dRepr_b, rt_0, rt_1, dEq, dNe, dSub, dDiv, dDivU, dMod, dLt, dLe, dGt, dGe, D.isNon, Bool.not_true, Bool.not_false])
          refine ix_rows (by rw [hl1]; exact hk) (ix_row (by rw [st.sq.row _ hk]; exact hk) ?_)
          refine ⟨rfl, _, _, rfl, st.so, st.sp, trivial, ?_⟩
          rw [rowsD_len, hl1]
          refine ⟨⟨by omega, by omega, by omega, by omega⟩, ?_⟩
          rw [show ((k : Int) + 1) = ((k + 1 : Nat) : Int) by omega, cut_rng hk]
          refine for_rule (I := fun i env b2 => b2 = b' ∧ ∃ (s5 s6 : Slot), env = [.v (tabD M), .own (rowsD (elimR (swapR M' k h) k (k + 1 + i))), .v (rt ((if h = k then out else -out) * ent (swapR M' k h) k k)), .v (.int (k : Int)), s4, s5, s6, s7, s8, s9]) ?_ ?_ _ _ ⟨rfl, s5, s6, by rw [Nat.add_zero, elim_none]; rfl⟩
          · rintro i d env b2 E2 hd ⟨rfl, s5, s6, rfl⟩ hnx2 hct2 hbk2 hrt2
            have hi : i < n - (k + 1) := by
              have := (List.getElem?_eq_some_iff.mp hd).1
              simpa using this
            have ed : d = .int ((k + 1 + i : Nat) : Int) := by
              rw [List.getElem?_map, List.getElem?_map, List.getElem?_range (by simpa using hi)] at hd
              simp at hd
              exact hd.symm
            subst ed
            have him : k + 1 + i < n := by omega
            have hmm : k + 1 + (i + 1) = k + 1 + i + 1 := by omega
            rw [hmm] at hnx2
            have hkm : k < k + 1 + i := by omega
            generalize k + 1 + i = m at him hnx2 hkm
            refine ⟨_, rfl, ?_⟩
            have sqe := elim_sq (m := m) st.sq hk
            have r1 : rowOf (elimR (swapR M' k h) k m) m = rowOf (swapR M' k h) m := by rw [elim_row st.sq him, if_neg (by omega)]
            have r2 : rowOf (elimR (swapR M' k h) k m) k = rowOf (swapR M' k h) k := by rw [elim_row st.sq hk, if_neg (by omega)]
            obtain ⟨z1, z2, z3⟩ := st.el m hkm him
            (try simp only [wSeq, wSet, wSetO, wRet, wIfS, wFrz, wApp, wDrop, wNext, wBreak, wCont, wNever, wVar, wVarB, wC, wBin, wUn, wT, wAnd, wOr, wNot, wAndV, wOrV, wNotV, wIte, wNil, wCons, wTup, wCall, wListOf, wC2, wIsT, wIsC, wFld, wON, wOS, wSl, wV, wO, wSetIx, wPar, wSwap, wSeqOf, wRng1, wRng2, wFor, wWhile, wYes, wComp, wEnum, wZip, wEnum2, wRgT, wRgL, wAug, dMulT, dMax, wMake, wFz, wCat, wRep, wipeE, D.ty, wIf_true, wIf_false, List.getElem?_cons_zero, List.getElem?_cons_succ, List.set_cons_zero, List.set_cons_succ, dI0_ii, dI_ii, dNeg_i, dGcd_ii, dAbs_i, dInt_i, dInt_b, dBits_i, dLen_t, dLen_l, dTuple_t, dTuple_l, dAdd_ii, dAdd_tt, dAdd_ll, dAdd_ss, dMul_ii, dMul_li, dIs_n, dIs_b, dIsN_n, dRepr_b, rt_0, rt_1, dEq, dNe, dSub, dDiv, dDivU, dMod, dLt, dLe, dGt, dGe, D.isNon, Bool.not_true, Bool.not_false])
            refine ix_rows (by rw [sqe.len]; exact him) ?_
            rw [r1]
            refine ix_row (by rw [st.sq.row _ him]; exact hk) (ix_rows (by rw [sqe.len]; exact hk) ?_)
            rw [r2]
            refine ix_row (by rw [st.sq.row _ hk]; exact hk) ⟨rfl, _, _, rfl, z1, st.sp, st.p0, ?_⟩
            refine ix_rows (by rw [sqe.len]; exact him) (ix_rows (by rw [sqe.len]; exact hk) ?_)
            rw [r1, r2]
            (try simp only [wSeq, wSet, wSetO, wRet, wIfS, wFrz, wApp, wDrop, wNext, wBreak, wCont, wNever, wVar, wVarB, wC, wBin, wUn, wT, wAnd, wOr, wNot, wAndV, wOrV, wNotV, wIte, wNil, wCons, wTup, wCall, wListOf, wC2, wIsT, wIsC, wFld, wON, wOS, wSl, wV, wO, wSetIx, wPar, wSwap, wSeqOf, wRng1, wRng2, wFor, wWhile, wYes, wComp, wEnum, wZip, wEnum2, wRgT, wRgL, wAug, dMulT, dMax, wMake, wFz, wCat, wRep, wipeE, D.ty, wIf_true, wIf_false, List.getElem?_cons_zero, List.getElem?_cons_succ, List.set_cons_zero, List.set_cons_succ, dI0_ii, dI_ii, dNeg_i, dGcd_ii, dAbs_i, dInt_i, dInt_b, dBits_i, dLen_t, dLen_l, dTuple_t, dTuple_l, dAdd_ii, dAdd_tt, dAdd_ll, dAdd_ss, dMul_ii, dMul_li, dIs_n, dIs_b, dIsN_n, dRepr_b, rt_0, rt_1, dEq, dNe, dSub, dDiv, dDivU, dMod, dLt, dLe, dGt, dGe, D.isNon, Bool.not_true, Bool.not_false, rowD])
            rw [zipD_rt]
            refine ⟨by rw [List.length_map, List.length_zip, st.sq.row _ him]; omega, cmp_at _ (fun q => rt (q.1 - ent (swapR M' k h) m k / ent (swapR M' k h) k k * q.2)) _ _ (fun p hp => ⟨_, rfl, fun K kk => ?_⟩) ?_⟩
            · (try simp only [wSeq, wSet, wSetO, wRet, wIfS, wFrz, wApp, wDrop, wNext, wBreak, wCont, wNever, wVar, wVarB, wC, wBin, wUn, wT, wAnd, wOr, wNot, wAndV, wOrV, wNotV, wIte, wNil, wCons, wTup, wCall, wListOf, wC2, wIsT, wIsC, wFld, wON, wOS, wSl, wV, wO, wSetIx, wPar, wSwap, wSeqOf, wRng1, wRng2, wFor, wWhile, wYes, wComp, wEnum, wZip, wEnum2, wRgT, wRgL, wAug, dMulT, dMax, wMake, wFz, wCat, wRep, wipeE, D.ty, wIf_true, wIf_false, List.getElem?_cons_zero, List.getElem?_cons_succ, List.set_cons_zero, List.set_cons_succ, dI0_ii, dI_ii, dNeg_i, dGcd_ii, dAbs_i, dInt_i, dInt_b, dBits_i, dLen_t, dLen_l, dTuple_t, dTuple_l, dAdd_ii, dAdd_tt, dAdd_ll, dAdd_ss, dMul_ii, dMul_li, dIs_n, dIs_b, dIsN_n, dRepr_b, rt_0, rt_1, dEq, dNe, dSub, dDiv, dDivU, dMod, dLt, dLe, dGt, dGe, D.isNon, Bool.not_true, Bool.not_false])
              have hp' := List.of_mem_zip (show (p.1, p.2) ∈ (rowOf (swapR M' k h) m).zip (rowOf (swapR M' k h) k) from hp)
              have hx : Sz p.1 := by
                obtain ⟨j, hj, e⟩ := List.getElem_of_mem hp'.1
                have hj' : j < n := by rw [st.sq.row _ him] at hj; exact hj
                have := (z3 j hj').2.1
                unfold ent at this
                rw [List.getD_eq_getElem?_getD, List.getElem?_eq_getElem hj, e] at this
                exact this
              have hy : Sz p.2 ∧ Sz (ent (swapR M' k h) m k / ent (swapR M' k h) k k * p.2) := by
                obtain ⟨j, hj, e⟩ := List.getElem_of_mem hp'.2
                have hj' : j < n := by rw [st.sq.row _ hk] at hj; exact hj
                have h1 := (z3 j hj').1
                have h2 := (z3 j hj').2.2
                have e2 : ent (swapR M' k h) k j = p.2 := by
                  unfold ent
                  rw [List.getD_eq_getElem?_getD, List.getElem?_eq_getElem hj, e]
                  rfl
                rw [e2] at h1 h2
                exact ⟨h1, h2⟩
              exact ⟨rfl, _, _, rfl, z2, hy.1, trivial, rfl, _, _, rfl, hx, hy.2, trivial, kk⟩
            · (try simp only [wSeq, wSet, wSetO, wRet, wIfS, wFrz, wApp, wDrop, wNext, wBreak, wCont, wNever, wVar, wVarB, wC, wBin, wUn, wT, wAnd, wOr, wNot, wAndV, wOrV, wNotV, wIte, wNil, wCons, wTup, wCall, wListOf, wC2, wIsT, wIsC, wFld, wON, wOS, wSl, wV, wO, wSetIx, wPar, wSwap, wSeqOf, wRng1, wRng2, wFor, wWhile, wYes, wComp, wEnum, wZip, wEnum2, wRgT, wRgL, wAug, dMulT, dMax, wMake, wFz, wCat, wRep, wipeE, D.ty, wIf_true, wIf_false, List.getElem?_cons_zero, List.getElem?_cons_succ, List.set_cons_zero, List.set_cons_succ, dI0_ii, dI_ii, dNeg_i, dGcd_ii, dAbs_i, dInt_i, dInt_b, dBits_i, dLen_t, dLen_l, dTuple_t, dTuple_l, dAdd_ii, dAdd_tt, dAdd_ll, dAdd_ss, dMul_ii, dMul_li, dIs_n, dIs_b, dIsN_n, dRepr_b, rt_0, rt_1, dEq, dNe, dSub, dDiv, dDivU, dMod, dLt, dLe, dGt, dGe, D.isNon, Bool.not_true, Bool.not_false])
              rw [rowsD_len, sqe.len, ixN_nat' him]
              refine hnx2 _ _ ⟨rfl, .v (.int (m : Int)), .v (rt (ent (swapR M' k h) m k / ent (swapR M' k h) k k)), ?_⟩
              have e := elim_set st.sq hkm him
              have e3 : ((rowOf (swapR M' k h) m).zip (rowOf (swapR M' k h) k)).map (fun q => rt (q.1 - ent (swapR M' k h) m k / ent (swapR M' k h) k k * q.2)) = (zipSub (rowOf (swapR M' k h) m) (rowOf (swapR M' k h) k) (ent (swapR M' k h) m k / ent (swapR M' k h) k k)).map rt := by
                unfold zipSub
                rw [List.map_map]
                rfl
              rw [e3, ← e]
              unfold rowsD
              rw [List.map_set]
              rfl
          · rintro env b2 ⟨rfl, s5, s6, rfl⟩
            refine hnx _ _ ⟨rfl, _, _, _, _, _, _, _, _, _, rfl, ?_⟩
            have e : k + 1 + ((List.map (fun (i : Nat) => D.int (i : Int)) ((List.range (n - (k + 1))).map (k + 1 + ·))).length) = n := by simp; omega
            rw [e]
            exact st.nx
        refine dIx_l (j := 0) rfl ?_
        (try simp only [wSeq, wSet, wSetO, wRet, wIfS, wFrz, wApp, wDrop, wNext, wBreak, wCont, wNever, wVar, wVarB, wC, wBin, wUn, wT, wAnd, wOr, wNot, wAndV, wOrV, wNotV, wIte, wNil, wCons, wTup, wCall, wListOf, wC2, wIsT, wIsC, wFld, wON, wOS, wSl, wV, wO, wSetIx, wPar, wSwap, wSeqOf, wRng1, wRng2, wFor, wWhile, wYes, wComp, wEnum, wZip, wEnum2, wRgT, wRgL, wAug, dMulT, dMax, wMake, wFz, wCat, wRep, wipeE, D.ty, wIf_true, wIf_false, List.getElem?_cons_zero, List.getElem?_cons_succ, List.set_cons_zero, List.set_cons_succ, dI0_ii, dI_ii, dNeg_i, dGcd_ii, dAbs_i, dInt_i, dInt_b, dBits_i, dLen_t, dLen_l, dTuple_t, dTuple_l, dAdd_ii, dAdd_tt, dAdd_ll, dAdd_ss, dMul_ii, dMul_li, dIs_n, dIs_b, dIsN_n, dRepr_b, rt_0, rt_1, dEq, dNe, dSub, dDiv, dDivU, dMod, dLt, dLe, dGt, dGe, D.isNon, Bool.not_true, Bool.not_false])
        refine ⟨⟨rfl, rfl⟩, ?_⟩
        rw [eqv_int, ← decide_not]
        refine wIf_dec (fun hne => ?_) (fun he => ?_)
        · refine dIx_l (j := 0) rfl (ix_rows (by rw [hl]; exact g2) (ix_rows (by rw [hl]; exact hk) ?_))
          rw [hrl, ixN_nat' hk]
          (try simp only [wSeq, wSet, wSetO, wRet, wIfS, wFrz, wApp, wDrop, wNext, wBreak, wCont, wNever, wVar, wVarB, wC, wBin, wUn, wT, wAnd, wOr, wNot, wAndV, wOrV, wNotV, wIte, wNil, wCons, wTup, wCall, wListOf, wC2, wIsT, wIsC, wFld, wON, wOS, wSl, wV, wO, wSetIx, wPar, wSwap, wSeqOf, wRng1, wRng2, wFor, wWhile, wYes, wComp, wEnum, wZip, wEnum2, wRgT, wRgL, wAug, dMulT, dMax, wMake, wFz, wCat, wRep, wipeE, D.ty, wIf_true, wIf_false, List.getElem?_cons_zero, List.getElem?_cons_succ, List.set_cons_zero, List.set_cons_succ, dI0_ii, dI_ii, dNeg_i, dGcd_ii, dAbs_i, dInt_i, dInt_b, dBits_i, dLen_t, dLen_l, dTuple_t, dTuple_l, dAdd_ii, dAdd_tt, dAdd_ll, dAdd_ss, dMul_ii, dMul_li, dIs_n, dIs_b, dIsN_n, dRepr_b, rt_0, rt_1, dEq, dNe, dSub, dDiv, dDivU, dMod, dLt, dLe, dGt, dGe, D.isNon, Bool.not_true, Bool.not_false])
          refine dIx_l (j := 0) rfl ?_
          (try simp only [wSeq, wSet, wSetO, wRet, wIfS, wFrz, wApp, wDrop, wNext, wBreak, wCont, wNever, wVar, wVarB, wC, wBin, wUn, wT, wAnd, wOr, wNot, wAndV, wOrV, wNotV, wIte, wNil, wCons, wTup, wCall, wListOf, wC2, wIsT, wIsC, wFld, wON, wOS, wSl, wV, wO, wSetIx, wPar, wSwap, wSeqOf, wRng1, wRng2, wFor, wWhile, wYes, wComp, wEnum, wZip, wEnum2, wRgT, wRgL, wAug, dMulT, dMax, wMake, wFz, wCat, wRep, wipeE, D.ty, wIf_true, wIf_false, List.getElem?_cons_zero, List.getElem?_cons_succ, List.set_cons_zero, List.set_cons_succ, dI0_ii, dI_ii, dNeg_i, dGcd_ii, dAbs_i, dInt_i, dInt_b, dBits_i, dLen_t, dLen_l, dTuple_t, dTuple_l, dAdd_ii, dAdd_tt, dAdd_ll, dAdd_ss, dMul_ii, dMul_li, dIs_n, dIs_b, dIsN_n, dRepr_b, rt_0, rt_1, dEq, dNe, dSub, dDiv, dDivU, dMod, dLt, dLe, dGt, dGe, D.isNon, Bool.not_true, Bool.not_false])
          rw [ixN_nat' g2]
          refine ⟨rfl, 0, out, rfl, sz_zero, ds.szo, trivial, ?_⟩
          have hne' : ¬ h = k := by omega
          have e : ((rowsD M').set k (rowD (rowOf M' h))).set h (rowD (rowOf M' k)) = rowsD (swapR M' k h) := by
            unfold rowsD swapR
            rw [if_neg hne', List.map_set, List.map_set]
          have := rest (Slot.v (D.lst (D.int (h : Int) :: t.map fun (i : Nat) => D.int (i : Int))))
          rw [if_neg hne'] at this
          dsimp only
          rw [e, show (0 : Rat) - out = -out by grind]
          exact this
        · have he' : h = k := by omega
          subst he'
          have := rest (Slot.v (D.lst (D.int (h : Int) :: t.map fun (i : Nat) => D.int (i : Int))))
          unfold swapR at this
          rw [if_pos rfl, if_pos rfl] at this
          exact this
  · rintro env b' ⟨rfl, M', out, s3, s4, s5, s6, s7, s8, s9, rfl, ds⟩
    (try simp only [wSeq, wSet, wSetO, wRet, wIfS, wFrz, wApp, wDrop, wNext, wBreak, wCont, wNever, wVar, wVarB, wC, wBin, wUn, wT, wAnd, wOr, wNot, wAndV, wOrV, wNotV, wIte, wNil, wCons, wTup, wCall, wListOf, wC2, wIsT, wIsC, wFld, wON, wOS, wSl, wV, wO, wSetIx, wPar, wSwap, wSeqOf, wRng1, wRng2, wFor, wWhile, wYes, wComp, wEnum, wZip, wEnum2, wRgT, wRgL, wAug, dMulT, dMax, wMake, wFz, wCat, wRep, wipeE, D.ty, wIf_true, wIf_false, List.getElem?_cons_zero, List.getElem?_cons_succ, List.set_cons_zero, List.set_cons_succ, dI0_ii, dI_ii, dNeg_i, dGcd_ii, dAbs_i, dInt_i, dInt_b, dBits_i, dLen_t, dLen_l, dTuple_t, dTuple_l, dAdd_ii, dAdd_tt, dAdd_ll, dAdd_ss, dMul_ii, dMul_li, dIs_n, dIs_b, dIsN_n, dRepr_b, rt_0, rt_1, dEq, dNe, dSub, dDiv, dDivU, dMod, dLt, dLe, dGt, dGe, D.isNon, Bool.not_true, Bool.not_false])
    rw [show (List.map (fun (i : Nat) => D.int (i : Int)) ((List.range n).map (0 + ·))).length = n by simp] at ds
    have := ds.fin
    subst this
    exact q
theorem hp__law_determinantL : ∀ ds b Q, ds.length = 1 → p_detL ds b Q → W__law_determinant { nx := fun _ b' => Q .non b', rt := Q } (ds.map Slot.v ++ List.replicate 9 .un) b := by
  rintro ds b Q - ⟨M, rfl, hM, q⟩
  show W__law_determinant _ [.v (tabL M), .un, .un, .un, .un, .un, .un, .un, .un, .un] b
  have hs := hM.ds
  have hlen := hM.2.1
  generalize detR M = R at q hs
  generalize hn : M.length = n at hs hlen
  (try simp only [wSeq, wSet, wSetO, wRet, wIfS, wFrz, wApp, wDrop, wNext, wBreak, wCont, wNever, wVar, wVarB, wC, wBin, wUn, wT, wAnd, wOr, wNot, wAndV, wOrV, wNotV, wIte, wNil, wCons, wTup, wCall, wListOf, wC2, wIsT, wIsC, wFld, wON, wOS, wSl, wV, wO, wSetIx, wPar, wSwap, wSeqOf, wRng1, wRng2, wFor, wWhile, wYes, wComp, wEnum, wZip, wEnum2, wRgT, wRgL, wAug, dMulT, dMax, wMake, wFz, wCat, wRep, wipeE, D.ty, wIf_true, wIf_false, List.getElem?_cons_zero, List.getElem?_cons_succ, List.set_cons_zero, List.set_cons_succ, dI0_ii, dI_ii, dNeg_i, dGcd_ii, dAbs_i, dInt_i, dInt_b, dBits_i, dLen_t, dLen_l, dTuple_t, dTuple_l, dAdd_ii, dAdd_tt, dAdd_ll, dAdd_ss, dMul_ii, dMul_li, dIs_n, dIs_b, dIsN_n, dRepr_b, rt_0, rt_1, dEq, dNe, dSub, dDiv, dDivU, dMod, dLt, dLe, dGt, dGe, D.isNon, Bool.not_true, Bool.not_false, W__law_determinant])
  refine ⟨by rw [List.length_map]; omega, cmp_at (fun r : List Rat => D.lst (r.map rt)) rowD M _ (fun r hr => ⟨_, rfl, fun K k => by (try simp only [wSeq, wSet, wSetO, wRet, wIfS, wFrz, wApp, wDrop, wNext, wBreak, wCont, wNever, wVar, wVarB, wC, wBin, wUn, wT, wAnd, wOr, wNot, wAndV, wOrV, wNotV, wIte, wNil, wCons, wTup, wCall, wListOf, wC2, wIsT, wIsC, wFld, wON, wOS, wSl, wV, wO, wSetIx, wPar, wSwap, wSeqOf, wRng1, wRng2, wFor, wWhile, wYes, wComp, wEnum, wZip, wEnum2, wRgT, wRgL, wAug, dMulT, dMax, wMake, wFz, wCat, wRep, wipeE, D.ty, wIf_true, wIf_false, List.getElem?_cons_zero, List.getElem?_cons_succ, List.set_cons_zero, List.set_cons_succ, dI0_ii, dI_ii, dNeg_i, dGcd_ii, dAbs_i, dInt_i, dInt_b, dBits_i, dLen_t, dLen_l, dTuple_t, dTuple_l, dAdd_ii, dAdd_tt, dAdd_ll, dAdd_ss, dMul_ii, dMul_li, dIs_n, dIs_b, dIsN_n, dRepr_b, rt_0, rt_1, dEq, dNe, dSub, dDiv, dDivU, dMod, dLt, dLe, dGt, dGe, D.isNon, Bool.not_true, Bool.not_false]); exact k⟩) ?_⟩
  rw [show (M.map rowD).length = n by rw [List.length_map]; exact hn]
  refine ⟨⟨by omega, by omega⟩, ?_⟩
  rw [show rangeD 0 ((n : Nat) : Int).toNat = rangeD ((0 : Nat) : Int) n by rw [Int.toNat_natCast]; rfl, rangeD_nat]
  refine for_rule (I := fun i env b' => b' = b ∧ ∃ (M' : List (List Rat)) (out : Rat) (s3 s4 s5 s6 s7 s8 s9 : Slot), env = [.v (tabL M), .own (rowsD M'), .v (rt out), s3, s4, s5, s6, s7, s8, s9] ∧ DS n i M' out R) ?_ ?_ _ _ ⟨rfl, M, 1, _, _, _, _, _, _, _, rfl, hs⟩
  · rintro k d env b' E' hd ⟨rfl, M', out, s3, s4, s5, s6, s7, s8, s9, rfl, ds⟩ hnx hct hbk hrt
    have hk : k < n := by
      have := (List.getElem?_eq_some_iff.mp hd).1
      simpa using this
    have ed : d = .int ((k : Nat) : Int) := by
      rw [List.getElem?_map, List.getElem?_map, List.getElem?_range (by simpa using hk)] at hd
      simp at hd
      exact hd.symm
    subst ed
    have hl : M'.length = n := ds.sq.len
    refine ⟨_, rfl, ?_⟩
    (try simp only [wSeq, wSet, wSetO, wRet, wIfS, wFrz, wApp, wDrop, wNext, wBreak, wCont, wNever, wVar, wVarB, wC, wBin, wUn, wT, wAnd, wOr, wNot, wAndV, wOrV, wNotV, wIte, wNil, wCons, wTup, wCall, wListOf, wC2, wIsT, wIsC, wFld, wON, wOS, wSl, wV, wO, wSetIx, wPar, wSwap, wSeqOf, wRng1, wRng2, wFor, wWhile, wYes, wComp, wEnum, wZip, wEnum2, wRgT, wRgL, wAug, dMulT, dMax, wMake, wFz, wCat, wRep, wipeE, D.ty, wIf_true, wIf_false, List.getElem?_cons_zero, List.getElem?_cons_succ, List.set_cons_zero, List.set_cons_succ, dI0_ii, dI_ii, dNeg_i, dGcd_ii, dAbs_i, dInt_i, dInt_b, dBits_i, dLen_t, dLen_l, dTuple_t, dTuple_l, dAdd_ii, dAdd_tt, dAdd_ll, dAdd_ss, dMul_ii, dMul_li, dIs_n, dIs_b, dIsN_n, dRepr_b, rt_0, rt_1, dEq, dNe, dSub, dDiv, dDivU, dMod, dLt, dLe, dGt, dGe, D.isNon, Bool.not_true, Bool.not_false])
    have hrl : (rowsD M').length = n := by rw [rowsD_len]; exact hl
    refine ⟨⟨by omega, by omega, by omega, by omega⟩, by rw [rangeD_len]; omega, ?_⟩
    rw [show rangeD (k : Int) (((rowsD M').length : Int) - (k : Int)).toNat = ((List.range (n - k)).map (k + ·)).map fun (i : Nat) => D.int (i : Int) by rw [hrl]; exact cut_rng (Nat.le_of_lt hk)]
    refine cmp_filter _ (fun (i : Nat) => D.int (i : Int)) (fun i => decide (ent M' i k ≠ 0)) _ _ (fun x hx => ⟨_, rfl, fun K hK => ?_, fun K hK => by (try simp only [wSeq, wSet, wSetO, wRet, wIfS, wFrz, wApp, wDrop, wNext, wBreak, wCont, wNever, wVar, wVarB, wC, wBin, wUn, wT, wAnd, wOr, wNot, wAndV, wOrV, wNotV, wIte, wNil, wCons, wTup, wCall, wListOf, wC2, wIsT, wIsC, wFld, wON, wOS, wSl, wV, wO, wSetIx, wPar, wSwap, wSeqOf, wRng1, wRng2, wFor, wWhile, wYes, wComp, wEnum, wZip, wEnum2, wRgT, wRgL, wAug, dMulT, dMax, wMake, wFz, wCat, wRep, wipeE, D.ty, wIf_true, wIf_false, List.getElem?_cons_zero, List.getElem?_cons_succ, List.set_cons_zero, List.set_cons_succ, dI0_ii, dI_ii, dNeg_i, dGcd_ii, dAbs_i, dInt_i, dInt_b, dBits_i, dLen_t, dLen_l, dTuple_t, dTuple_l, dAdd_ii, dAdd_tt, dAdd_ll, dAdd_ss, dMul_ii, dMul_li, dIs_n, dIs_b, dIsN_n, dRepr_b, rt_0, rt_1, dEq, dNe, dSub, dDiv, dDivU, dMod, dLt, dLe, dGt, dGe, D.isNon, Bool.not_true, Bool.not_false]); exact hK⟩) ?_
    · obtain ⟨j, hj, rfl⟩ := List.mem_map.mp hx
      rw [List.mem_range] at hj
      (try simp only [wSeq, wSet, wSetO, wRet, wIfS, wFrz, wApp, wDrop, wNext, wBreak, wCont, wNever, wVar, wVarB, wC, wBin, wUn, wT, wAnd, wOr, wNot, wAndV, wOrV, wNotV, wIte, wNil, wCons, wTup, wCall, wListOf, wC2, wIsT, wIsC, wFld, wON, wOS, wSl, wV, wO, wSetIx, wPar, wSwap, wSeqOf, wRng1, wRng2, wFor, wWhile, wYes, wComp, wEnum, wZip, wEnum2, wRgT, wRgL, wAug, dMulT, dMax, wMake, wFz, wCat, wRep, wipeE, D.ty, wIf_true, wIf_false, List.getElem?_cons_zero, List.getElem?_cons_succ, List.set_cons_zero, List.set_cons_succ, dI0_ii, dI_ii, dNeg_i, dGcd_ii, dAbs_i, dInt_i, dInt_b, dBits_i, dLen_t, dLen_l, dTuple_t, dTuple_l, dAdd_ii, dAdd_tt, dAdd_ll, dAdd_ss, dMul_ii, dMul_li, dIs_n, dIs_b, dIsN_n, dRepr_b, rt_0, rt_1, dEq, dNe, dSub, dDiv, dDivU, dMod, dLt, dLe, dGt, dGe, D.isNon, Bool.not_true, Bool.not_false])
      refine ix_rows (by rw [hl]; omega) (ix_row (by rw [ds.sq.row _ (by omega)]; omega) ?_)
      (try simp only [wSeq, wSet, wSetO, wRet, wIfS, wFrz, wApp, wDrop, wNext, wBreak, wCont, wNever, wVar, wVarB, wC, wBin, wUn, wT, wAnd, wOr, wNot, wAndV, wOrV, wNotV, wIte, wNil, wCons, wTup, wCall, wListOf, wC2, wIsT, wIsC, wFld, wON, wOS, wSl, wV, wO, wSetIx, wPar, wSwap, wSeqOf, wRng1, wRng2, wFor, wWhile, wYes, wComp, wEnum, wZip, wEnum2, wRgT, wRgL, wAug, dMulT, dMax, wMake, wFz, wCat, wRep, wipeE, D.ty, wIf_true, wIf_false, List.getElem?_cons_zero, List.getElem?_cons_succ, List.set_cons_zero, List.set_cons_succ, dI0_ii, dI_ii, dNeg_i, dGcd_ii, dAbs_i, dInt_i, dInt_b, dBits_i, dLen_t, dLen_l, dTuple_t, dTuple_l, dAdd_ii, dAdd_tt, dAdd_ll, dAdd_ss, dMul_ii, dMul_li, dIs_n, dIs_b, dIsN_n, dRepr_b, rt_0, rt_1, dEq, dNe, dSub, dDiv, dDivU, dMod, dLt, dLe, dGt, dGe, D.isNon, Bool.not_true, Bool.not_false])
      refine ⟨⟨rfl, rfl⟩, ?_⟩
      rw [eqv_int, ← decide_not]
      have e : decide (¬ ((rowOf M' (k + j)).getD k 0).num = 0) = decide (ent M' (k + j) k ≠ 0) := by
        refine decide_eq_decide.mpr ?_
        show ¬ (ent M' (k + j) k).num = 0 ↔ ¬ ent M' (k + j) k = 0
        rw [Rat.num_eq_zero]
      rw [e]
      exact hK
    · rw [show ((List.range (n - k)).map (k + ·)).filter (fun i => decide (ent M' i k ≠ 0)) = heads M' k by unfold heads; rw [hl]]
      (try simp only [wSeq, wSet, wSetO, wRet, wIfS, wFrz, wApp, wDrop, wNext, wBreak, wCont, wNever, wVar, wVarB, wC, wBin, wUn, wT, wAnd, wOr, wNot, wAndV, wOrV, wNotV, wIte, wNil, wCons, wTup, wCall, wListOf, wC2, wIsT, wIsC, wFld, wON, wOS, wSl, wV, wO, wSetIx, wPar, wSwap, wSeqOf, wRng1, wRng2, wFor, wWhile, wYes, wComp, wEnum, wZip, wEnum2, wRgT, wRgL, wAug, dMulT, dMax, wMake, wFz, wCat, wRep, wipeE, D.ty, wIf_true, wIf_false, List.getElem?_cons_zero, List.getElem?_cons_succ, List.set_cons_zero, List.set_cons_succ, dI0_ii, dI_ii, dNeg_i, dGcd_ii, dAbs_i, dInt_i, dInt_b, dBits_i, dLen_t, dLen_l, dTuple_t, dTuple_l, dAdd_ii, dAdd_tt, dAdd_ll, dAdd_ss, dMul_ii, dMul_li, dIs_n, dIs_b, dIsN_n, dRepr_b, rt_0, rt_1, dEq, dNe, dSub, dDiv, dDivU, dMod, dLt, dLe, dGt, dGe, D.isNon, Bool.not_true, Bool.not_false])
      have hfl : ∀ l : List Nat, (D.lst (l.map fun (i : Nat) => D.int (i : Int))).flat 9 = true := fun l => by
        show D.flats 8 _ = true
        induction l with
        | nil => rfl
        | cons a r ih => exact ih
      have heq : ∀ l : List Nat, PyData.eqv (D.lst (l.map fun (i : Nat) => D.int (i : Int))).py (D.lst []).py = decide (l = []) := fun l => by
        cases l with
        | nil => rfl
        | cons a r => simp [D.py, D.pys, PyData.eqv, PyData.eqvAll]
      refine ⟨⟨hfl _, rfl⟩, ?_⟩
      rw [heq]
      refine wIf_dec (fun h0 => ?_) (fun h0 => ?_)
      · have hh : heads M' k = [] := h0
        rw [hrt]
        have := ds.nil hk hh
        subst this
        exact q
      · obtain ⟨h, t, hh⟩ : ∃ h t, heads M' k = h :: t := by
          cases e : heads M' k with
          | nil => exact absurd e h0
          | cons a r => exact ⟨a, r, rfl⟩
        obtain ⟨g1, g2, st⟩ := ds.step hk hh
        rw [hh, List.map_cons]
        -- the rest, from the swapped rows on
        have rest : ∀ (s4 : Slot), (wSeq (wSet 2 (wCall 2 p__law_times (wCons (wVar 2) (wCons (wBin dIx (wBin dIx (wVarB 1) (wVarB 3)) (wVarB 3)) wNil)))) (wFor (.one 5) (wRng2 (wCons (wBin dAdd (wVarB 3) (wC (.int 1))) (wCons (wUn dLen (wVarB 1)) wNil))) (wSeq (wSet 6 (wCall 2 p__law_share (wCons (wBin dIx (wBin dIx (wVarB 1) (wVarB 5)) (wVarB 3)) (wCons (wBin dIx (wBin dIx (wVarB 1) (wVarB 3)) (wVarB 3)) wNil)))) (wSetIx 1 (wFz (wComp [8, 9] (.tup [8, 9]) (wZip (wCons (wBin dIx (wVarB 1) (wVarB 5)) (wCons (wBin dIx (wVarB 1) (wVarB 3)) wNil))) wYes (wCall 2 p__law_minus (wCons (wVar 8) (wCons (wCall 2 p__law_times (wCons (wVar 6) (wCons (wVar 9) wNil))) wNil))))) (wVar 5)))))
            E' [.v (tabL M), .own (rowsD (swapR M' k h)), .v (rt (if h = k then out else -out)), .v (.int (k : Int)), s4, s5, s6, s7, s8, s9] b' := by
          intro s4
          have hl1 := st.sq.len
          (try simp only [wSeq, wSet, wSetO, wRet, wIfS, wFrz, wApp, wDrop, wNext, wBreak, wCont, wNever, wVar, wVarB, wC, wBin, wUn, wT, wAnd, wOr, wNot, wAndV, wOrV, wNotV, wIte, wNil, wCons, wTup, wCall, wListOf, wC2, wIsT, wIsC, wFld, wON, wOS, wSl, wV, wO, wSetIx, wPar, wSwap, wSeqOf, wRng1, wRng2, wFor, wWhile, wYes, wComp, wEnum, wZip, wEnum2, wRgT, wRgL, wAug, dMulT, dMax, wMake, wFz, wCat, wRep, wipeE, D.ty, wIf_true, wIf_false, List.getElem?_cons_zero, List.getElem?_cons_succ, List.set_cons_zero, List.set_cons_succ, dI0_ii, dI_ii, dNeg_i, dGcd_ii, dAbs_i, dInt_i, dInt_b, dBits_i, dLen_t, dLen_l, dTuple_t, dTuple_l, dAdd_ii, dAdd_tt, dAdd_ll, dAdd_ss, dMul_ii, dMul_li, dIs_n, dIs_b, dIsN_n, dRepr_b, rt_0, rt_1, dEq, dNe, dSub, dDiv, dDivU, dMod, dLt, dLe, dGt, dGe, D.isNon, Bool.not_true, Bool.not_false])
          refine ix_rows (by rw [hl1]; exact hk) (ix_row (by rw [st.sq.row _ hk]; exact hk) ?_)
          refine ⟨rfl, _, _, rfl, st.so, st.sp, trivial, ?_⟩
          rw [rowsD_len, hl1]
          refine ⟨⟨by omega, by omega, by omega, by omega⟩, ?_⟩
          rw [show ((k : Int) + 1) = ((k + 1 : Nat) : Int) by omega, cut_rng hk]
          refine for_rule (I := fun i env b2 => b2 = b' ∧ ∃ (s5 s6 : Slot), env = [.v (tabL M), .own (rowsD (elimR (swapR M' k h) k (k + 1 + i))), .v (rt ((if h = k then out else -out) * ent (swapR M' k h) k k)), .v (.int (k : Int)), s4, s5, s6, s7, s8, s9]) ?_ ?_ _ _ ⟨rfl, s5, s6, by rw [Nat.add_zero, elim_none]; rfl⟩
          · rintro i d env b2 E2 hd ⟨rfl, s5, s6, rfl⟩ hnx2 hct2 hbk2 hrt2
            have hi : i < n - (k + 1) := by
              have := (List.getElem?_eq_some_iff.mp hd).1
              simpa using this
            have ed : d = .int ((k + 1 + i : Nat) : Int) := by
              rw [List.getElem?_map, List.getElem?_map, List.getElem?_range (by simpa using hi)] at hd
              simp at hd
              exact hd.symm
            subst ed
            have him : k + 1 + i < n := by omega
            have hmm : k + 1 + (i + 1) = k + 1 + i + 1 := by omega
            rw [hmm] at hnx2
            have hkm : k < k + 1 + i := by omega
            generalize k + 1 + i = m at him hnx2 hkm
            refine ⟨_, rfl, ?_⟩
            have sqe := elim_sq (m := m) st.sq hk
            have r1 : rowOf (elimR (swapR M' k h) k m) m = rowOf (swapR M' k h) m := by rw [elim_row st.sq him, if_neg (by omega)]
            have r2 : rowOf (elimR (swapR M' k h) k m) k = rowOf (swapR M' k h) k := by rw [elim_row st.sq hk, if_neg (by omega)]
            obtain ⟨z1, z2, z3⟩ := st.el m hkm him
            (try simp only [wSeq, wSet, wSetO, wRet, wIfS, wFrz, wApp, wDrop, wNext, wBreak, wCont, wNever, wVar, wVarB, wC, wBin, wUn, wT, wAnd, wOr, wNot, wAndV, wOrV, wNotV, wIte, wNil, wCons, wTup, wCall, wListOf, wC2, wIsT, wIsC, wFld, wON, wOS, wSl, wV, wO, wSetIx, wPar, wSwap, wSeqOf, wRng1, wRng2, wFor, wWhile, wYes, wComp, wEnum, wZip, wEnum2, wRgT, wRgL, wAug, dMulT, dMax, wMake, wFz, wCat, wRep, wipeE, D.ty, wIf_true, wIf_false, List.getElem?_cons_zero, List.getElem?_cons_succ, List.set_cons_zero, List.set_cons_succ, dI0_ii, dI_ii, dNeg_i, dGcd_ii, dAbs_i, dInt_i, dInt_b, dBits_i, dLen_t, dLen_l, dTuple_t, dTuple_l, dAdd_ii, dAdd_tt, dAdd_ll, dAdd_ss, dMul_ii, dMul_li, dIs_n, dIs_b, dIsN_n, dRepr_b, rt_0, rt_1, dEq, dNe, dSub, dDiv, dDivU, dMod, dLt, dLe, dGt, dGe, D.isNon, Bool.not_true, Bool.not_false])
            refine ix_rows (by rw [sqe.len]; exact him) ?_
            rw [r1]
            refine ix_row (by rw [st.sq.row _ him]; exact hk) (ix_rows (by rw [sqe.len]; exact hk) ?_)
            rw [r2]
            refine ix_row (by rw [st.sq.row _ hk]; exact hk) ⟨rfl, _, _, rfl, z1, st.sp, st.p0, ?_⟩
            refine ix_rows (by rw [sqe.len]; exact him) (ix_rows (by rw [sqe.len]; exact hk) ?_)
            rw [r1, r2]
            (try simp only [wSeq, wSet, wSetO, wRet, wIfS, wFrz, wApp, wDrop, wNext, wBreak, wCont, wNever, wVar, wVarB, wC, wBin, wUn, wT, wAnd, wOr, wNot, wAndV, wOrV, wNotV, wIte, wNil, wCons, wTup, wCall, wListOf, wC2, wIsT, wIsC, wFld, wON, wOS, wSl, wV, wO, wSetIx, wPar, wSwap, wSeqOf, wRng1, wRng2, wFor, wWhile, wYes, wComp, wEnum, wZip, wEnum2, wRgT, wRgL, wAug, dMulT, dMax, wMake, wFz, wCat, wRep, wipeE, D.ty, wIf_true, wIf_false, List.getElem?_cons_zero, List.getElem?_cons_succ, List.set_cons_zero, List.set_cons_succ, dI0_ii, dI_ii, dNeg_i, dGcd_ii, dAbs_i, dInt_i, dInt_b, dBits_i, dLen_t, dLen_l, dTuple_t, dTuple_l, dAdd_ii, dAdd_tt, dAdd_ll, dAdd_ss, dMul_ii, dMul_li, dIs_n, dIs_b, dIsN_n, dRepr_b, rt_0, rt_1, dEq, dNe, dSub, dDiv, dDivU, dMod, dLt, dLe, dGt, dGe, D.isNon, Bool.not_true, Bool.not_false, rowD])
            rw [zipD_rt]
            refine ⟨by rw [List.length_map, List.length_zip, st.sq.row _ him]; omega, cmp_at _ (fun q => rt (q.1 - ent (swapR M' k h) m k / ent (swapR M' k h) k k * q.2)) _ _ (fun p hp => ⟨_, rfl, fun K kk => ?_⟩) ?_⟩
            · (try simp only [wSeq, wSet, wSetO, wRet, wIfS, wFrz, wApp, wDrop, wNext, wBreak, wCont, wNever, wVar, wVarB, wC, wBin, wUn, wT, wAnd, wOr, wNot, wAndV, wOrV, wNotV, wIte, wNil, wCons, wTup, wCall, wListOf, wC2, wIsT, wIsC, wFld, wON, wOS, wSl, wV, wO, wSetIx, wPar, wSwap, wSeqOf, wRng1, wRng2, wFor, wWhile, wYes, wComp, wEnum, wZip, wEnum2, wRgT, wRgL, wAug, dMulT, dMax, wMake, wFz, wCat, wRep, wipeE, D.ty, wIf_true, wIf_false, List.getElem?_cons_zero, List.getElem?_cons_succ, List.set_cons_zero, List.set_cons_succ, dI0_ii, dI_ii, dNeg_i, dGcd_ii, dAbs_i, dInt_i, dInt_b, dBits_i, dLen_t, dLen_l, dTuple_t, dTuple_l, dAdd_ii, dAdd_tt, dAdd_ll, dAdd_ss, dMul_ii, dMul_li, dIs_n, dIs_b, dIsN_n, dRepr_b, rt_0, rt_1, dEq, dNe, dSub, dDiv, dDivU, dMod, dLt, dLe, dGt, dGe, D.isNon, Bool.not_true, Bool.not_false])
              have hp' := List.of_mem_zip (show (p.1, p.2) ∈ (rowOf (swapR M' k h) m).zip (rowOf (swapR M' k h) k) from hp)
              have hx : Sz p.1 := by
                obtain ⟨j, hj, e⟩ := List.getElem_of_mem hp'.1
                have hj' : j < n := by rw [st.sq.row _ him] at hj; exact hj
                have := (z3 j hj').2.1
                unfold ent at this
                rw [List.getD_eq_getElem?_getD, List.getElem?_eq_getElem hj, e] at this
                exact this
              have hy : Sz p.2 ∧ Sz (ent (swapR M' k h) m k / ent (swapR M' k h) k k * p.2) := by
                obtain ⟨j, hj, e⟩ := List.getElem_of_mem hp'.2
                have hj' : j < n := by rw [st.sq.row _ hk] at hj; exact hj
                have h1 := (z3 j hj').1
                have h2 := (z3 j hj').2.2
                have e2 : ent (swapR M' k h) k j = p.2 := by
                  unfold ent
                  rw [List.getD_eq_getElem?_getD, List.getElem?_eq_getElem hj, e]
                  rfl
                rw [e2] at h1 h2
                exact ⟨h1, h2⟩
              exact ⟨rfl, _, _, rfl, z2, hy.1, trivial, rfl, _, _, rfl, hx, hy.2, trivial, kk⟩
            · (try simp only [wSeq, wSet, wSetO, wRet, wIfS, wFrz, wApp, wDrop, wNext, wBreak, wCont, wNever, wVar, wVarB, wC, wBin, wUn, wT, wAnd, wOr, wNot, wAndV, wOrV, wNotV, wIte, wNil, wCons, wTup, wCall, wListOf, wC2, wIsT, wIsC, wFld, wON, wOS, wSl, wV, wO, wSetIx, wPar, wSwap, wSeqOf, wRng1, wRng2, wFor, wWhile, wYes, wComp, wEnum, wZip, wEnum2, wRgT, wRgL, wAug, dMulT, dMax, wMake, wFz, wCat, wRep, wipeE, D.ty, wIf_true, wIf_false, List.getElem?_cons_zero, List.getElem?_cons_succ, List.set_cons_zero, List.set_cons_succ, dI0_ii, dI_ii, dNeg_i, dGcd_ii, dAbs_i, dInt_i, dInt_b, dBits_i, dLen_t, dLen_l, dTuple_t, dTuple_l, dAdd_ii, dAdd_tt, dAdd_ll, dAdd_ss, dMul_ii, dMul_li, dIs_n, dIs_b, dIsN_n, dRepr_b, rt_0, rt_1, dEq, dNe, dSub, dDiv, dDivU, dMod, dLt, dLe, dGt, dGe, D.isNon, Bool.not_true, Bool.not_false])
              rw [rowsD_len, sqe.len, ixN_nat' him]
              refine hnx2 _ _ ⟨rfl, .v (.int (m : Int)), .v (rt (ent (swapR M' k h) m k / ent (swapR M' k h) k k)), ?_⟩
              have e := elim_set st.sq hkm him
              have e3 : ((rowOf (swapR M' k h) m).zip (rowOf (swapR M' k h) k)).map (fun q => rt (q.1 - ent (swapR M' k h) m k / ent (swapR M' k h) k k * q.2)) = (zipSub (rowOf (swapR M' k h) m) (rowOf (swapR M' k h) k) (ent (swapR M' k h) m k / ent (swapR M' k h) k k)).map rt := by
                unfold zipSub
                rw [List.map_map]
                rfl
              rw [e3, ← e]
              unfold rowsD
              rw [List.map_set]
              rfl
          · rintro env b2 ⟨rfl, s5, s6, rfl⟩
            refine hnx _ _ ⟨rfl, _, _, _, _, _, _, _, _, _, rfl, ?_⟩
            have e : k + 1 + ((List.map (fun (i : Nat) => D.int (i : Int)) ((List.range (n - (k + 1))).map (k + 1 + ·))).length) = n := by simp; omega
            rw [e]
            exact st.nx
        refine dIx_l (j := 0) rfl ?_
        (try simp only [wSeq, wSet, wSetO, wRet, wIfS, wFrz, wApp, wDrop, wNext, wBreak, wCont, wNever, wVar, wVarB, wC, wBin, wUn, wT, wAnd, wOr, wNot, wAndV, wOrV, wNotV, wIte, wNil, wCons, wTup, wCall, wListOf, wC2, wIsT, wIsC, wFld, wON, wOS, wSl, wV, wO, wSetIx, wPar, wSwap, wSeqOf, wRng1, wRng2, wFor, wWhile, wYes, wComp, wEnum, wZip, wEnum2, wRgT, wRgL, wAug, dMulT, dMax, wMake, wFz, wCat, wRep, wipeE, D.ty, wIf_true, wIf_false, List.getElem?_cons_zero, List.getElem?_cons_succ, List.set_cons_zero, List.set_cons_succ, dI0_ii, dI_ii, dNeg_i, dGcd_ii, dAbs_i, dInt_i, dInt_b, dBits_i, dLen_t, dLen_l, dTuple_t, dTuple_l, dAdd_ii, dAdd_tt, dAdd_ll, dAdd_ss, dMul_ii, dMul_li, dIs_n, dIs_b, dIsN_n, dRepr_b, rt_0, rt_1, dEq, dNe, dSub, dDiv, dDivU, dMod, dLt, dLe, dGt, dGe, D.isNon, Bool.not_true, Bool.not_false])
        refine ⟨⟨rfl, rfl⟩, ?_⟩
        rw [eqv_int, ← decide_not]
        refine wIf_dec (fun hne => ?_) (fun he => ?_)
        · refine dIx_l (j := 0) rfl (ix_rows (by rw [hl]; exact g2) (ix_rows (by rw [hl]; exact hk) ?_))
          rw [hrl, ixN_nat' hk]
          (try simp only [wSeq, wSet, wSetO, wRet, wIfS, wFrz, wApp, wDrop, wNext, wBreak, wCont, wNever, wVar, wVarB, wC, wBin, wUn, wT, wAnd, wOr, wNot, wAndV, wOrV, wNotV, wIte, wNil, wCons, wTup, wCall, wListOf, wC2, wIsT, wIsC, wFld, wON, wOS, wSl, wV, wO, wSetIx, wPar, wSwap, wSeqOf, wRng1, wRng2, wFor, wWhile, wYes, wComp, wEnum, wZip, wEnum2, wRgT, wRgL, wAug, dMulT, dMax, wMake, wFz, wCat, wRep, wipeE, D.ty, wIf_true, wIf_false, List.getElem?_cons_zero, List.getElem?_cons_succ, List.set_cons_zero, List.set_cons_succ, dI0_ii, dI_ii, dNeg_i, dGcd_ii, dAbs_i, dInt_i, dInt_b, dBits_i, dLen_t, dLen_l, dTuple_t, dTuple_l, dAdd_ii, dAdd_tt, dAdd_ll, dAdd_ss, dMul_ii, dMul_li, dIs_n, dIs_b, dIsN_n, dRepr_b, rt_0, rt_1, dEq, dNe, dSub, dDiv, dDivU, dMod, dLt, dLe, dGt, dGe, D.isNon, Bool.not_true, Bool.not_false])
          refine dIx_l (j := 0) rfl ?_
          (try simp only [wSeq, wSet, wSetO, wRet, wIfS, wFrz, wApp, wDrop, wNext, wBreak, wCont, wNever, wVar, wVarB, wC, wBin, wUn, wT, wAnd, wOr, wNot, wAndV, wOrV, wNotV, wIte, wNil, wCons, wTup, wCall, wListOf, wC2, wIsT, wIsC, wFld, wON, wOS, wSl, wV, wO, wSetIx, wPar, wSwap, wSeqOf, wRng1, wRng2, wFor, wWhile, wYes, wComp, wEnum, wZip, wEnum2, wRgT, wRgL, wAug, dMulT, dMax, wMake, wFz, wCat, wRep, wipeE, D.ty, wIf_true, wIf_false, List.getElem?_cons_zero, List.getElem?_cons_succ, List.set_cons_zero, List.set_cons_succ, dI0_ii, dI_ii, dNeg_i, dGcd_ii, dAbs_i, dInt_i, dInt_b, dBits_i, dLen_t, dLen_l, dTuple_t, dTuple_l, dAdd_ii, dAdd_tt, dAdd_ll, dAdd_ss, dMul_ii, dMul_li, dIs_n, dIs_b, dIsN_n, dRepr_b, rt_0, rt_1, dEq, dNe, dSub, dDiv, dDivU, dMod, dLt, dLe, dGt, dGe, D.isNon, Bool.not_true, Bool.not_false])
          rw [ixN_nat' g2]
          refine ⟨rfl, 0, out, rfl, sz_zero, ds.szo, trivial, ?_⟩
          have hne' : ¬ h = k := by omega
          have e : ((rowsD M').set k (rowD (rowOf M' h))).set h (rowD (rowOf M' k)) = rowsD (swapR M' k h) := by
            unfold rowsD swapR
            rw [if_neg hne', List.map_set, List.map_set]
          have := rest (Slot.v (D.lst (D.int (h : Int) :: t.map fun (i : Nat) => D.int (i : Int))))
          rw [if_neg hne'] at this
          dsimp only
          rw [e, show (0 : Rat) - out = -out by grind]
          exact this
        · have he' : h = k := by omega
          subst he'
          have := rest (Slot.v (D.lst (D.int (h : Int) :: t.map fun (i : Nat) => D.int (i : Int))))
          unfold swapR at this
          rw [if_pos rfl, if_pos rfl] at this
          exact this
  · rintro env b' ⟨rfl, M', out, s3, s4, s5, s6, s7, s8, s9, rfl, ds⟩
    (try simp only [wSeq, wSet, wSetO, wRet, wIfS, wFrz, wApp, wDrop, wNext, wBreak, wCont, wNever, wVar, wVarB, wC, wBin, wUn, wT, wAnd, wOr, wNot, wAndV, wOrV, wNotV, wIte, wNil, wCons, wTup, wCall, wListOf, wC2, wIsT, wIsC, wFld, wON, wOS, wSl, wV, wO, wSetIx, wPar, wSwap, wSeqOf, wRng1, wRng2, wFor, wWhile, wYes, wComp, wEnum, wZip, wEnum2, wRgT, wRgL, wAug, dMulT, dMax, wMake, wFz, wCat, wRep, wipeE, D.ty, wIf_true, wIf_false, List.getElem?_cons_zero, List.getElem?_cons_succ, List.set_cons_zero, List.set_cons_succ, dI0_ii, dI_ii, dNeg_i, dGcd_ii, dAbs_i, dInt_i, dInt_b, dBits_i, dLen_t, dLen_l, dTuple_t, dTuple_l, dAdd_ii, dAdd_tt, dAdd_ll, dAdd_ss, dMul_ii, dMul_li, dIs_n, dIs_b, dIsN_n, dRepr_b, rt_0, rt_1, dEq, dNe, dSub, dDiv, dDivU, dMod, dLt, dLe, dGt, dGe, D.isNon, Bool.not_true, Bool.not_false])
    rw [show (List.map (fun (i : Nat) => D.int (i : Int)) ((List.range n).map (0 + ·))).length = n by simp] at ds
    have := ds.fin
    subst this
    exact q
theorem hp__law_determinant : ∀ ds b Q, ds.length = 1 → p__law_determinant ds b Q → W__law_determinant { nx := fun _ b' => Q .non b', rt := Q } (ds.map Slot.v ++ List.replicate 9 .un) b := fun ds b Q hl h => h.elim (hp__law_determinantT ds b Q hl) (hp__law_determinantL ds b Q hl)
end En
/-! Tables of sums, step minors. -/
namespace En
open PySem PySem.Spec PyProof.Rows L2
def hankR (xs : List Rat) (size start : Nat) : List (List Rat) := (List.range size).map fun i => (List.range size).map fun j => xs.getD (i + j + start) 0
theorem hank_sq {xs : List Rat} {size start : Nat} : Sq size (hankR xs size start) := by
  constructor
  · simp [hankR]
  · intro i hi
    unfold rowOf hankR
    rw [List.getD_eq_getElem?_getD, List.getElem?_map, List.getElem?_range hi]
    simp
theorem hank_ent {xs : List Rat} {size start i j : Nat} (hi : i < size) (hj : j < size) : ent (hankR xs size start) i j = xs.getD (i + j + start) 0 := by
  unfold ent rowOf hankR
  rw [List.getD_eq_getElem?_getD, List.getD_eq_getElem?_getD, List.getElem?_map, List.getElem?_range hi]
  simp only [Option.map_some, Option.getD_some]
  rw [List.getElem?_map, List.getElem?_range hj]
  rfl
def kMOST_ITEMS : D := .int 12
def p_hankel_by : Spec := fun ds b Q => ∃ (xs : List Rat) (size start : Nat), ds = [.tup (xs.map rt), .int (size : Int), .int (start : Int)] ∧ 2 * size + start ≤ xs.length + 1 ∧ size ≤ 1000 ∧ Q (tabD (hankR xs size start)) b
def p__law_square_of : Spec := p_hankel_by
/-- sizes of a row: all its tables' determinants can be told -/
def RowSz (xs : List Rat) : Prop := xs.length ≤ 1000 ∧ ∃ a d D : Nat, 0 < D ∧ D < 2 ^ d ∧ (∀ x ∈ xs, FrA a D x) ∧ ∀ n, n ≤ (xs.length + 1) / 2 → detFit n a d 1 1 = true
theorem FrA.zero {a D : Nat} : FrA a D 0 := ⟨0, by grind, by simpa using Nat.two_pow_pos a⟩
theorem FrA.getD {a D : Nat} {xs : List Rat} (h : ∀ x ∈ xs, FrA a D x) (i : Nat) : FrA a D (xs.getD i 0) := by
  rw [List.getD_eq_getElem?_getD]
  cases e : xs[i]? with
  | none => exact FrA.zero
  | some x => exact h x (List.mem_of_getElem? e)
theorem hank_ok {xs : List Rat} {size start : Nat} (h : RowSz xs) (hs : size ≤ (xs.length + 1) / 2) : DetOk (hankR xs size start) := by
  obtain ⟨hl, a, d, D, h1, h2, h3, h4⟩ := h
  have e : (hankR xs size start).length = size := hank_sq.len
  rw [DetOk, e]
  refine ⟨hank_sq, by omega, a, d, D, fun i hi j hj => ?_, h1, h2, h4 _ hs⟩
  rw [hank_ent hi hj]
  exact FrA.getD h3 _
/-- the m-th minor along the steps -/
def stepM (xs : List Rat) (m : Nat) : Rat := detR (hankR xs ((m + 1) / 2) (if m % 2 = 1 then 0 else 1))
def firstFlat (xs : List Rat) : Option Nat := ((List.range xs.length).map (1 + ·)).find? fun m => decide ((stepM xs m).num ≤ 0)
def optD : Option Nat → D | none => .non | some m => .int (m : Int)
def p_step_minor : Spec := fun ds b Q => ∃ (xs : List Rat) (m : Nat), ds = [.tup (xs.map rt), .int (m : Int)] ∧ 1 ≤ m ∧ m ≤ xs.length ∧ RowSz xs ∧ Q (rt (stepM xs m)) b
def p_first_flat : Spec := fun ds b Q => ∃ (xs : List Rat), ds = [.tup (xs.map rt)] ∧ RowSz xs ∧ Q (optD (firstFlat xs)) b
def p__law_bad_step : Spec := p_first_flat
def p_double_from : Spec := fun ds b Q => ∃ (xs : List Rat), ds = [.tup (xs.map rt)] ∧ 2 ≤ xs.length ∧ xs.length ≤ 12 ∧ xs.length % 2 = 0 ∧ Q (.tup (xs.map rt)) b
/-- hankel_by: row, size, start, i, j -/
def W_hankel_by : WS := (wRet (wUn dTuple (wFz (wComp [3] (.one 3) (wRng1 (wCons (wVar 1) wNil)) wYes (wUn dTuple (wFz (wComp [4] (.one 4) (wRng1 (wCons (wVar 1) wNil)) wYes (wBin dIx (wVarB 0) (wBin dAdd (wBin dAdd (wVarB 3) (wVarB 4)) (wVarB 2))))))))))
/-- _law_square_of: row, size, start, i, j -/
def W__law_square_of : WS := (wRet (wUn dTuple (wFz (wComp [3] (.one 3) (wRng1 (wCons (wVar 1) wNil)) wYes (wUn dTuple (wFz (wComp [4] (.one 4) (wRng1 (wCons (wVar 1) wNil)) wYes (wBin dIx (wVarB 0) (wBin dAdd (wBin dAdd (wVarB 3) (wVarB 4)) (wVarB 2))))))))))
/-- double_from: row, made -/
def W_double_from : WS := (wSeq (wSet 1 (wCall 3 p_row_from (wCons (wVar 0) (wCons (wC (.int 2)) (wCons (wC kMOST_ITEMS) wNil))))) (wSeq (wIfS (wT (wBin dEq (wBin dMod (wUn dLen (wVarB 1)) (wC (.int 2))) (wC (.int 1)))) wNever wNext) (wRet (wVar 1))))
/-- step_minor: row, many -/
def W_step_minor : WS := (wRet (wCall 1 p_determinant_by (wCons (wCall 3 p_hankel_by (wCons (wVar 0) (wCons (wBin dDiv (wBin dAdd (wVarB 1) (wC (.int 1))) (wC (.int 2))) (wCons (wIte (wT (wBin dEq (wBin dMod (wVarB 1) (wC (.int 2))) (wC (.int 1)))) (wC (.int 0)) (wC (.int 1))) wNil)))) wNil)))
/-- first_flat: row, many -/
def W_first_flat : WS := (wSeq (wFor (.one 1) (wRng2 (wCons (wC (.int 1)) (wCons (wBin dAdd (wUn dLen (wVarB 0)) (wC (.int 1))) wNil))) (wIfS (wT (wBin dLe (wBin dIx (wCall 2 p_step_minor (wCons (wVar 0) (wCons (wVar 1) wNil))) (wC (.int 0))) (wC (.int 0)))) (wRet (wVar 1)) wNext)) (wRet (wC .non)))
/-- _law_bad_step: row, many, size, start -/
def W__law_bad_step : WS := (wSeq (wFor (.one 1) (wRng2 (wCons (wC (.int 1)) (wCons (wBin dAdd (wUn dLen (wVarB 0)) (wC (.int 1))) wNil))) (wSeq (wPar 2 3 (wV (wBin dDiv (wUn dInt (wBin dAdd (wVarB 1) (wC (.int 1)))) (wC (.int 2)))) (wV (wIte (wT (wBin dEq (wBin dMod (wUn dInt (wVarB 1)) (wC (.int 2))) (wC (.int 1)))) (wC (.int 0)) (wC (.int 1))))) (wIfS (wT (wBin dLe (wBin dIx (wCall 1 p__law_determinant (wCons (wCall 3 p__law_square_of (wCons (wVar 0) (wCons (wVar 2) (wCons (wVar 3) wNil)))) wNil)) (wC (.int 0))) (wC (.int 0)))) (wRet (wVar 1)) wNext))) (wRet (wC .non)))
theorem hp_hankel_by : ∀ ds b Q, ds.length = 3 → p_hankel_by ds b Q → W_hankel_by { nx := fun _ b' => Q .non b', rt := Q } (ds.map Slot.v ++ List.replicate 2 .un) b := by
  rintro ds b Q - ⟨xs, size, start, rfl, h1, h2, q⟩
  show W_hankel_by _ [.v (.tup (xs.map rt)), .v (.int (size : Int)), .v (.int (start : Int)), .un, .un] b
  (try simp only [wSeq, wSet, wSetO, wRet, wIfS, wFrz, wApp, wDrop, wNext, wBreak, wCont, wNever, wVar, wVarB, wC, wBin, wUn, wT, wAnd, wOr, wNot, wAndV, wOrV, wNotV, wIte, wNil, wCons, wTup, wCall, wListOf, wC2, wIsT, wIsC, wFld, wON, wOS, wSl, wV, wO, wSetIx, wPar, wSwap, wSeqOf, wRng1, wRng2, wFor, wWhile, wYes, wComp, wEnum, wZip, wEnum2, wRgT, wRgL, wAug, dMulT, dMax, wMake, wFz, wCat, wRep, wipeE, D.ty, wIf_true, wIf_false, List.getElem?_cons_zero, List.getElem?_cons_succ, List.set_cons_zero, List.set_cons_succ, dI0_ii, dI_ii, dNeg_i, dGcd_ii, dAbs_i, dInt_i, dInt_b, dBits_i, dLen_t, dLen_l, dTuple_t, dTuple_l, dAdd_ii, dAdd_tt, dAdd_ll, dAdd_ss, dMul_ii, dMul_li, dIs_n, dIs_b, dIsN_n, dRepr_b, rt_0, rt_1, dEq, dNe, dSub, dDiv, dDivU, dMod, dLt, dLe, dGt, dGe, D.isNon, Bool.not_true, Bool.not_false, W_hankel_by])
  rw [show rangeD 0 ((size : Nat) : Int).toNat = rangeD ((0 : Nat) : Int) size by rw [Int.toNat_natCast]; rfl, rangeD_nat]
  refine ⟨⟨by omega, by omega⟩, by simp; omega, cmp_at _ (fun i => .tup (((List.range size).map fun j => xs.getD (i + j + start) 0).map rt)) _ _ (fun i hi => ⟨_, rfl, fun K k => ?_⟩) ?_⟩
  · obtain ⟨i', hi', rfl⟩ := List.mem_map.mp hi
    rw [List.mem_range] at hi'
    (try simp only [wSeq, wSet, wSetO, wRet, wIfS, wFrz, wApp, wDrop, wNext, wBreak, wCont, wNever, wVar, wVarB, wC, wBin, wUn, wT, wAnd, wOr, wNot, wAndV, wOrV, wNotV, wIte, wNil, wCons, wTup, wCall, wListOf, wC2, wIsT, wIsC, wFld, wON, wOS, wSl, wV, wO, wSetIx, wPar, wSwap, wSeqOf, wRng1, wRng2, wFor, wWhile, wYes, wComp, wEnum, wZip, wEnum2, wRgT, wRgL, wAug, dMulT, dMax, wMake, wFz, wCat, wRep, wipeE, D.ty, wIf_true, wIf_false, List.getElem?_cons_zero, List.getElem?_cons_succ, List.set_cons_zero, List.set_cons_succ, dI0_ii, dI_ii, dNeg_i, dGcd_ii, dAbs_i, dInt_i, dInt_b, dBits_i, dLen_t, dLen_l, dTuple_t, dTuple_l, dAdd_ii, dAdd_tt, dAdd_ll, dAdd_ss, dMul_ii, dMul_li, dIs_n, dIs_b, dIsN_n, dRepr_b, rt_0, rt_1, dEq, dNe, dSub, dDiv, dDivU, dMod, dLt, dLe, dGt, dGe, D.isNon, Bool.not_true, Bool.not_false])
    rw [show rangeD 0 ((size : Nat) : Int).toNat = rangeD ((0 : Nat) : Int) size by rw [Int.toNat_natCast]; rfl, rangeD_nat]
    refine ⟨⟨by omega, by omega⟩, by simp; omega, cmp_at _ (fun j => rt (xs.getD (0 + i' + j + start) 0)) _ _ (fun j hj => ⟨_, rfl, fun K k => ?_⟩) ?_⟩
    · obtain ⟨j', hj', rfl⟩ := List.mem_map.mp hj
      rw [List.mem_range] at hj'
      (try simp only [wSeq, wSet, wSetO, wRet, wIfS, wFrz, wApp, wDrop, wNext, wBreak, wCont, wNever, wVar, wVarB, wC, wBin, wUn, wT, wAnd, wOr, wNot, wAndV, wOrV, wNotV, wIte, wNil, wCons, wTup, wCall, wListOf, wC2, wIsT, wIsC, wFld, wON, wOS, wSl, wV, wO, wSetIx, wPar, wSwap, wSeqOf, wRng1, wRng2, wFor, wWhile, wYes, wComp, wEnum, wZip, wEnum2, wRgT, wRgL, wAug, dMulT, dMax, wMake, wFz, wCat, wRep, wipeE, D.ty, wIf_true, wIf_false, List.getElem?_cons_zero, List.getElem?_cons_succ, List.set_cons_zero, List.set_cons_succ, dI0_ii, dI_ii, dNeg_i, dGcd_ii, dAbs_i, dInt_i, dInt_b, dBits_i, dLen_t, dLen_l, dTuple_t, dTuple_l, dAdd_ii, dAdd_tt, dAdd_ll, dAdd_ss, dMul_ii, dMul_li, dIs_n, dIs_b, dIsN_n, dRepr_b, rt_0, rt_1, dEq, dNe, dSub, dDiv, dDivU, dMod, dLt, dLe, dGt, dGe, D.isNon, Bool.not_true, Bool.not_false])
      rw [show (((0 + i' : Nat) : Int) + ((0 + j' : Nat) : Int) + (start : Int)) = ((0 + i' + (0 + j') + start : Nat) : Int) by omega]
      exact ix_rowT (by omega) k
    · rw [List.map_map] at k ⊢
      rw [show (fun j => rt (xs.getD (0 + i' + j + start) 0)) ∘ (0 + ·) = (rt ∘ fun j => xs.getD (0 + i' + j + start) 0) by funext j; show rt (xs.getD (0 + i' + (0 + j) + start) 0) = _; rw [Nat.zero_add j]; rfl]
      exact k
  · rw [List.map_map]
    rw [show ((fun i => D.tup (((List.range size).map fun j => xs.getD (i + j + start) 0).map rt)) ∘ (0 + ·)) = fun i => D.tup (((List.range size).map fun j => xs.getD (i + j + start) 0).map rt) by funext i; show D.tup (((List.range size).map fun j => xs.getD (0 + i + j + start) 0).map rt) = _; rw [Nat.zero_add]]
    have e : tabD (hankR xs size start) = .tup ((List.range size).map fun i => D.tup (((List.range size).map fun j => xs.getD (i + j + start) 0).map rt)) := by
      unfold tabD hankR
      rw [List.map_map]
      rfl
    rw [← e]
    exact q
theorem hp__law_square_of : ∀ ds b Q, ds.length = 3 → p__law_square_of ds b Q → W__law_square_of { nx := fun _ b' => Q .non b', rt := Q } (ds.map Slot.v ++ List.replicate 2 .un) b := hp_hankel_by
theorem hp_double_from : ∀ ds b Q, ds.length = 1 → p_double_from ds b Q → W_double_from { nx := fun _ b' => Q .non b', rt := Q } (ds.map Slot.v ++ List.replicate 1 .un) b := by
  rintro ds b Q - ⟨xs, rfl, h1, h2, h3, q⟩
  show W_double_from _ [.v (.tup (xs.map rt)), .un] b
  have hr := row_rt xs
  have hf : ∀ n, (xs.map rt).length < 1000000 → (D.tup (xs.map rt)).fit (n + 3) = true := fun n h => by
    simp only [D.fit, Bool.and_eq_true, decide_eq_true_eq]
    refine ⟨h, ?_⟩
    clear h hr q h1 h2 h3
    induction xs with
    | nil => rfl
    | cons x r ih => simp only [List.map_cons, D.fits, ih, Bool.and_true]; rfl
  (try simp only [wSeq, wSet, wSetO, wRet, wIfS, wFrz, wApp, wDrop, wNext, wBreak, wCont, wNever, wVar, wVarB, wC, wBin, wUn, wT, wAnd, wOr, wNot, wAndV, wOrV, wNotV, wIte, wNil, wCons, wTup, wCall, wListOf, wC2, wIsT, wIsC, wFld, wON, wOS, wSl, wV, wO, wSetIx, wPar, wSwap, wSeqOf, wRng1, wRng2, wFor, wWhile, wYes, wComp, wEnum, wZip, wEnum2, wRgT, wRgL, wAug, dMulT, dMax, wMake, wFz, wCat, wRep, wipeE, D.ty, wIf_true, wIf_false, List.getElem?_cons_zero, List.getElem?_cons_succ, List.set_cons_zero, List.set_cons_succ, dI0_ii, dI_ii, dNeg_i, dGcd_ii, dAbs_i, dInt_i, dInt_b, dBits_i, dLen_t, dLen_l, dTuple_t, dTuple_l, dAdd_ii, dAdd_tt, dAdd_ll, dAdd_ss, dMul_ii, dMul_li, dIs_n, dIs_b, dIsN_n, dRepr_b, rt_0, rt_1, dEq, dNe, dSub, dDiv, dDivU, dMod, dLt, dLe, dGt, dGe, D.isNon, Bool.not_true, Bool.not_false, W_double_from, kMOST_ITEMS])
  refine ⟨rfl, _, _, _, _, _, rfl, hf 6 (by simp; omega), by simp only [D.tupd, hr.tupds], hr, by simp; omega, by omega, by omega, ?_⟩
  (try simp only [wSeq, wSet, wSetO, wRet, wIfS, wFrz, wApp, wDrop, wNext, wBreak, wCont, wNever, wVar, wVarB, wC, wBin, wUn, wT, wAnd, wOr, wNot, wAndV, wOrV, wNotV, wIte, wNil, wCons, wTup, wCall, wListOf, wC2, wIsT, wIsC, wFld, wON, wOS, wSl, wV, wO, wSetIx, wPar, wSwap, wSeqOf, wRng1, wRng2, wFor, wWhile, wYes, wComp, wEnum, wZip, wEnum2, wRgT, wRgL, wAug, dMulT, dMax, wMake, wFz, wCat, wRep, wipeE, D.ty, wIf_true, wIf_false, List.getElem?_cons_zero, List.getElem?_cons_succ, List.set_cons_zero, List.set_cons_succ, dI0_ii, dI_ii, dNeg_i, dGcd_ii, dAbs_i, dInt_i, dInt_b, dBits_i, dLen_t, dLen_l, dTuple_t, dTuple_l, dAdd_ii, dAdd_tt, dAdd_ll, dAdd_ss, dMul_ii, dMul_li, dIs_n, dIs_b, dIsN_n, dRepr_b, rt_0, rt_1, dEq, dNe, dSub, dDiv, dDivU, dMod, dLt, dLe, dGt, dGe, D.isNon, Bool.not_true, Bool.not_false])
  rw [List.length_map, show ((xs.length : Nat) : Int).fmod 2 = 0 by rw [Int.fmod_eq_emod_of_nonneg _ (by decide)]; omega]
  exact ⟨by decide, ⟨rfl, rfl⟩, q⟩
theorem cdiv2 {i : Int} : CDivG i 2 := ⟨by decide, by decide⟩
theorem half_up (m : Nat) : ((m : Int) + 1).fdiv 2 = (((m + 1) / 2 : Nat) : Int) := by
  rw [Int.fdiv_eq_ediv_of_nonneg _ (by decide)]
  omega
theorem start_of (m : Nat) : (if (decide (((m : Int)).fmod 2 = 1)) = true then (0 : Int) else 1) = ((if m % 2 = 1 then 0 else 1 : Nat) : Int) := by
  rw [Int.fmod_eq_emod_of_nonneg _ (by decide)]
  by_cases h : m % 2 = 1
  · rw [if_pos h, if_pos (decide_eq_true (by omega))]
    rfl
  · rw [if_neg h, if_neg (by rw [decide_eq_true_eq]; omega)]
    rfl
theorem ite_start {m : Nat} {A : D → Prop} (h : A (.int ((if m % 2 = 1 then 0 else 1 : Nat) : Int))) : wIf (PyData.eqv (D.int ((m : Int).fmod 2)).py (D.int 1).py) (A (.int 0)) (A (.int 1)) := by
  rw [eqv_int]
  have := start_of m
  refine wIf_dec (fun z => ?_) (fun z => ?_)
  · rw [if_pos (decide_eq_true z)] at this
    rw [← this] at h
    exact h
  · rw [if_neg (by rw [decide_eq_true_eq]; exact z)] at this
    rw [← this] at h
    exact h
theorem start_le (m : Nat) : 2 * ((m + 1) / 2) + (if m % 2 = 1 then 0 else 1) = m + 1 := by split <;> omega
theorem hp_step_minor : ∀ ds b Q, ds.length = 2 → p_step_minor ds b Q → W_step_minor { nx := fun _ b' => Q .non b', rt := Q } (ds.map Slot.v ++ List.replicate 0 .un) b := by
  rintro ds b Q - ⟨xs, m, rfl, h1, h2, hz, q⟩
  show W_step_minor _ [.v (.tup (xs.map rt)), .v (.int (m : Int))] b
  (try simp only [wSeq, wSet, wSetO, wRet, wIfS, wFrz, wApp, wDrop, wNext, wBreak, wCont, wNever, wVar, wVarB, wC, wBin, wUn, wT, wAnd, wOr, wNot, wAndV, wOrV, wNotV, wIte, wNil, wCons, wTup, wCall, wListOf, wC2, wIsT, wIsC, wFld, wON, wOS, wSl, wV, wO, wSetIx, wPar, wSwap, wSeqOf, wRng1, wRng2, wFor, wWhile, wYes, wComp, wEnum, wZip, wEnum2, wRgT, wRgL, wAug, dMulT, dMax, wMake, wFz, wCat, wRep, wipeE, D.ty, wIf_true, wIf_false, List.getElem?_cons_zero, List.getElem?_cons_succ, List.set_cons_zero, List.set_cons_succ, dI0_ii, dI_ii, dNeg_i, dGcd_ii, dAbs_i, dInt_i, dInt_b, dBits_i, dLen_t, dLen_l, dTuple_t, dTuple_l, dAdd_ii, dAdd_tt, dAdd_ll, dAdd_ss, dMul_ii, dMul_li, dIs_n, dIs_b, dIsN_n, dRepr_b, rt_0, rt_1, dEq, dNe, dSub, dDiv, dDivU, dMod, dLt, dLe, dGt, dGe, D.isNon, Bool.not_true, Bool.not_false, W_step_minor])
  refine ⟨cdiv2, by decide, ⟨rfl, rfl⟩, ?_⟩
  refine ite_start (m := m) (A := fun d => [D.tup (xs.map rt), D.int (((m : Int) + 1).fdiv 2), d].length = 3 ∧ p_hankel_by [D.tup (xs.map rt), D.int (((m : Int) + 1).fdiv 2), d] b fun d b' => [d].length = 1 ∧ p_determinant_by [d] b' fun d b' => Q d b') ?_
  rw [half_up]
  have hl := hz.1
  exact ⟨rfl, xs, _, _, rfl, by rw [start_le]; omega, by omega, rfl, _, rfl, hank_ok hz (by omega), q⟩
theorem find_range {p : Nat → Bool} {n : Nat} : ∀ (k : Nat), k ≤ n → (∀ i, i < k → p (1 + i) = false) → ((List.range n).map (1 + ·)).find? p = ((List.range (n - k)).map (1 + k + ·)).find? p := by
  intro k
  induction k with
  | zero => intro _ _; rfl
  | succ k ih =>
    intro hk h
    rw [ih (by omega) fun i hi => h i (by omega)]
    obtain ⟨m, hm⟩ : ∃ m, n - k = m + 1 := ⟨n - k - 1, by omega⟩
    rw [hm, show n - (k + 1) = m by omega, List.range_succ_eq_map, List.map_cons, List.find?_cons_of_neg (by rw [Nat.add_zero, h k (by omega)]; decide), List.map_map]
    congr 2
    funext i
    show 1 + k + (i + 1) = 1 + (k + 1) + i
    omega
theorem find_here {p : Nat → Bool} {n k : Nat} (hk : k < n) (h : ∀ i, i < k → p (1 + i) = false) (hp : p (1 + k) = true) : ((List.range n).map (1 + ·)).find? p = some (1 + k) := by
  rw [find_range k (Nat.le_of_lt hk) h]
  obtain ⟨m, hm⟩ : ∃ m, n - k = m + 1 := ⟨n - k - 1, by omega⟩
  rw [hm, List.range_succ_eq_map, List.map_cons, List.find?_cons_of_pos (by rw [Nat.add_zero]; exact hp), Nat.add_zero]
theorem find_no {p : Nat → Bool} {n : Nat} (h : ∀ i, i < n → p (1 + i) = false) : ((List.range n).map (1 + ·)).find? p = none := by
  rw [find_range n (Nat.le_refl _) h, Nat.sub_self]
  rfl
theorem hp_first_flat : ∀ ds b Q, ds.length = 1 → p_first_flat ds b Q → W_first_flat { nx := fun _ b' => Q .non b', rt := Q } (ds.map Slot.v ++ List.replicate 1 .un) b := by
  rintro ds b Q - ⟨xs, rfl, hz, q⟩
  show W_first_flat _ [.v (.tup (xs.map rt)), .un] b
  have hl := hz.1
  (try simp only [wSeq, wSet, wSetO, wRet, wIfS, wFrz, wApp, wDrop, wNext, wBreak, wCont, wNever, wVar, wVarB, wC, wBin, wUn, wT, wAnd, wOr, wNot, wAndV, wOrV, wNotV, wIte, wNil, wCons, wTup, wCall, wListOf, wC2, wIsT, wIsC, wFld, wON, wOS, wSl, wV, wO, wSetIx, wPar, wSwap, wSeqOf, wRng1, wRng2, wFor, wWhile, wYes, wComp, wEnum, wZip, wEnum2, wRgT, wRgL, wAug, dMulT, dMax, wMake, wFz, wCat, wRep, wipeE, D.ty, wIf_true, wIf_false, List.getElem?_cons_zero, List.getElem?_cons_succ, List.set_cons_zero, List.set_cons_succ, dI0_ii, dI_ii, dNeg_i, dGcd_ii, dAbs_i, dInt_i, dInt_b, dBits_i, dLen_t, dLen_l, dTuple_t, dTuple_l, dAdd_ii, dAdd_tt, dAdd_ll, dAdd_ss, dMul_ii, dMul_li, dIs_n, dIs_b, dIsN_n, dRepr_b, rt_0, rt_1, dEq, dNe, dSub, dDiv, dDivU, dMod, dLt, dLe, dGt, dGe, D.isNon, Bool.not_true, Bool.not_false, W_first_flat])
  rw [List.length_map]
  refine ⟨⟨by omega, by omega, by omega, by omega⟩, ?_⟩
  rw [show rangeD 1 ((xs.length : Int) + 1 - 1).toNat = rangeD ((1 : Nat) : Int) xs.length by congr 1; omega, rangeD_nat]
  refine for_rule (I := fun i env b' => b' = b ∧ (∃ s, env = [.v (.tup (xs.map rt)), s]) ∧ ∀ j, j < i → decide ((stepM xs (1 + j)).num ≤ 0) = false) ?_ ?_ _ _ ⟨rfl, ⟨_, rfl⟩, fun j hj => by omega⟩
  · rintro i d env b' E' hd ⟨rfl, ⟨s, rfl⟩, hn⟩ hnx hct hbk hrt
    have hi : i < xs.length := by
      have := (List.getElem?_eq_some_iff.mp hd).1
      simpa using this
    have ed : d = .int ((1 + i : Nat) : Int) := by
      rw [List.getElem?_map, List.getElem?_map, List.getElem?_range hi] at hd
      simp at hd
      rw [← hd]
      congr 1
    subst ed
    refine ⟨_, rfl, ?_⟩
    (try simp only [wSeq, wSet, wSetO, wRet, wIfS, wFrz, wApp, wDrop, wNext, wBreak, wCont, wNever, wVar, wVarB, wC, wBin, wUn, wT, wAnd, wOr, wNot, wAndV, wOrV, wNotV, wIte, wNil, wCons, wTup, wCall, wListOf, wC2, wIsT, wIsC, wFld, wON, wOS, wSl, wV, wO, wSetIx, wPar, wSwap, wSeqOf, wRng1, wRng2, wFor, wWhile, wYes, wComp, wEnum, wZip, wEnum2, wRgT, wRgL, wAug, dMulT, dMax, wMake, wFz, wCat, wRep, wipeE, D.ty, wIf_true, wIf_false, List.getElem?_cons_zero, List.getElem?_cons_succ, List.set_cons_zero, List.set_cons_succ, dI0_ii, dI_ii, dNeg_i, dGcd_ii, dAbs_i, dInt_i, dInt_b, dBits_i, dLen_t, dLen_l, dTuple_t, dTuple_l, dAdd_ii, dAdd_tt, dAdd_ll, dAdd_ss, dMul_ii, dMul_li, dIs_n, dIs_b, dIsN_n, dRepr_b, rt_0, rt_1, dEq, dNe, dSub, dDiv, dDivU, dMod, dLt, dLe, dGt, dGe, D.isNon, Bool.not_true, Bool.not_false])
    refine ⟨rfl, xs, 1 + i, rfl, by omega, by omega, hz, ?_⟩
    (try simp only [wSeq, wSet, wSetO, wRet, wIfS, wFrz, wApp, wDrop, wNext, wBreak, wCont, wNever, wVar, wVarB, wC, wBin, wUn, wT, wAnd, wOr, wNot, wAndV, wOrV, wNotV, wIte, wNil, wCons, wTup, wCall, wListOf, wC2, wIsT, wIsC, wFld, wON, wOS, wSl, wV, wO, wSetIx, wPar, wSwap, wSeqOf, wRng1, wRng2, wFor, wWhile, wYes, wComp, wEnum, wZip, wEnum2, wRgT, wRgL, wAug, dMulT, dMax, wMake, wFz, wCat, wRep, wipeE, D.ty, wIf_true, wIf_false, List.getElem?_cons_zero, List.getElem?_cons_succ, List.set_cons_zero, List.set_cons_succ, dI0_ii, dI_ii, dNeg_i, dGcd_ii, dAbs_i, dInt_i, dInt_b, dBits_i, dLen_t, dLen_l, dTuple_t, dTuple_l, dAdd_ii, dAdd_tt, dAdd_ll, dAdd_ss, dMul_ii, dMul_li, dIs_n, dIs_b, dIsN_n, dRepr_b, rt_0, rt_1, dEq, dNe, dSub, dDiv, dDivU, dMod, dLt, dLe, dGt, dGe, D.isNon, Bool.not_true, Bool.not_false])
    refine wIf_dec (fun h => ?_) (fun h => ?_)
    · rw [hrt]
      have e : firstFlat xs = some (1 + i) := find_here hi hn (decide_eq_true h)
      rw [e] at q
      exact q
    · refine hnx _ _ ⟨rfl, ⟨_, rfl⟩, fun j hj => ?_⟩
      by_cases z : j = i
      · subst z
        exact decide_eq_false h
      · exact hn j (by omega)
  · rintro env b' ⟨rfl, ⟨s, rfl⟩, hn⟩
    (try simp only [wSeq, wSet, wSetO, wRet, wIfS, wFrz, wApp, wDrop, wNext, wBreak, wCont, wNever, wVar, wVarB, wC, wBin, wUn, wT, wAnd, wOr, wNot, wAndV, wOrV, wNotV, wIte, wNil, wCons, wTup, wCall, wListOf, wC2, wIsT, wIsC, wFld, wON, wOS, wSl, wV, wO, wSetIx, wPar, wSwap, wSeqOf, wRng1, wRng2, wFor, wWhile, wYes, wComp, wEnum, wZip, wEnum2, wRgT, wRgL, wAug, dMulT, dMax, wMake, wFz, wCat, wRep, wipeE, D.ty, wIf_true, wIf_false, List.getElem?_cons_zero, List.getElem?_cons_succ, List.set_cons_zero, List.set_cons_succ, dI0_ii, dI_ii, dNeg_i, dGcd_ii, dAbs_i, dInt_i, dInt_b, dBits_i, dLen_t, dLen_l, dTuple_t, dTuple_l, dAdd_ii, dAdd_tt, dAdd_ll, dAdd_ss, dMul_ii, dMul_li, dIs_n, dIs_b, dIsN_n, dRepr_b, rt_0, rt_1, dEq, dNe, dSub, dDiv, dDivU, dMod, dLt, dLe, dGt, dGe, D.isNon, Bool.not_true, Bool.not_false])
    have e : firstFlat xs = none := find_no fun i hi => hn i (by simpa using hi)
    rw [e] at q
    exact q
theorem hp__law_bad_step : ∀ ds b Q, ds.length = 1 → p__law_bad_step ds b Q → W__law_bad_step { nx := fun _ b' => Q .non b', rt := Q } (ds.map Slot.v ++ List.replicate 3 .un) b := by
  rintro ds b Q - ⟨xs, rfl, hz, q⟩
  show W__law_bad_step _ [.v (.tup (xs.map rt)), .un, .un, .un] b
  have hl := hz.1
  (try simp only [wSeq, wSet, wSetO, wRet, wIfS, wFrz, wApp, wDrop, wNext, wBreak, wCont, wNever, wVar, wVarB, wC, wBin, wUn, wT, wAnd, wOr, wNot, wAndV, wOrV, wNotV, wIte, wNil, wCons, wTup, wCall, wListOf, wC2, wIsT, wIsC, wFld, wON, wOS, wSl, wV, wO, wSetIx, wPar, wSwap, wSeqOf, wRng1, wRng2, wFor, wWhile, wYes, wComp, wEnum, wZip, wEnum2, wRgT, wRgL, wAug, dMulT, dMax, wMake, wFz, wCat, wRep, wipeE, D.ty, wIf_true, wIf_false, List.getElem?_cons_zero, List.getElem?_cons_succ, List.set_cons_zero, List.set_cons_succ, dI0_ii, dI_ii, dNeg_i, dGcd_ii, dAbs_i, dInt_i, dInt_b, dBits_i, dLen_t, dLen_l, dTuple_t, dTuple_l, dAdd_ii, dAdd_tt, dAdd_ll, dAdd_ss, dMul_ii, dMul_li, dIs_n, dIs_b, dIsN_n, dRepr_b, rt_0, rt_1, dEq, dNe, dSub, dDiv, dDivU, dMod, dLt, dLe, dGt, dGe, D.isNon, Bool.not_true, Bool.not_false, W__law_bad_step])
  rw [List.length_map]
  refine ⟨⟨by omega, by omega, by omega, by omega⟩, ?_⟩
  rw [show rangeD 1 ((xs.length : Int) + 1 - 1).toNat = rangeD ((1 : Nat) : Int) xs.length by congr 1; omega, rangeD_nat]
  refine for_rule (I := fun i env b' => b' = b ∧ (∃ s s2 s3, env = [.v (.tup (xs.map rt)), s, s2, s3]) ∧ ∀ j, j < i → decide ((stepM xs (1 + j)).num ≤ 0) = false) ?_ ?_ _ _ ⟨rfl, ⟨_, _, _, rfl⟩, fun j hj => by omega⟩
  · rintro i d env b' E' hd ⟨rfl, ⟨s, s2, s3, rfl⟩, hn⟩ hnx hct hbk hrt
    have hi : i < xs.length := by
      have := (List.getElem?_eq_some_iff.mp hd).1
      simpa using this
    have ed : d = .int ((1 + i : Nat) : Int) := by
      rw [List.getElem?_map, List.getElem?_map, List.getElem?_range hi] at hd
      simp at hd
      rw [← hd]
      congr 1
    subst ed
    refine ⟨_, rfl, ?_⟩
    (try simp only [wSeq, wSet, wSetO, wRet, wIfS, wFrz, wApp, wDrop, wNext, wBreak, wCont, wNever, wVar, wVarB, wC, wBin, wUn, wT, wAnd, wOr, wNot, wAndV, wOrV, wNotV, wIte, wNil, wCons, wTup, wCall, wListOf, wC2, wIsT, wIsC, wFld, wON, wOS, wSl, wV, wO, wSetIx, wPar, wSwap, wSeqOf, wRng1, wRng2, wFor, wWhile, wYes, wComp, wEnum, wZip, wEnum2, wRgT, wRgL, wAug, dMulT, dMax, wMake, wFz, wCat, wRep, wipeE, D.ty, wIf_true, wIf_false, List.getElem?_cons_zero, List.getElem?_cons_succ, List.set_cons_zero, List.set_cons_succ, dI0_ii, dI_ii, dNeg_i, dGcd_ii, dAbs_i, dInt_i, dInt_b, dBits_i, dLen_t, dLen_l, dTuple_t, dTuple_l, dAdd_ii, dAdd_tt, dAdd_ll, dAdd_ss, dMul_ii, dMul_li, dIs_n, dIs_b, dIsN_n, dRepr_b, rt_0, rt_1, dEq, dNe, dSub, dDiv, dDivU, dMod, dLt, dLe, dGt, dGe, D.isNon, Bool.not_true, Bool.not_false])
    refine ⟨cdiv2, by decide, ⟨rfl, rfl⟩, ?_⟩
    have fin : ∀ st : Nat, st = (if (1 + i) % 2 = 1 then 0 else 1) → ([D.tup (xs.map rt), D.int ((((1 + i : Nat) : Int) + 1).fdiv 2), D.int (st : Int)].length = 3 ∧ p__law_square_of [D.tup (xs.map rt), D.int ((((1 + i : Nat) : Int) + 1).fdiv 2), D.int (st : Int)] b' fun d b' => [d].length = 1 ∧ p__law_determinant [d] b' fun d b'' => dIx d (.int 0) fun d => dI0 (fun i j => D.bl (decide (i ≤ j))) d (.int 0) fun d => match d with
        | .bl c => wIf c (E'.rt (.int ((1 + i : Nat) : Int)) b'') (E'.nx [.v (.tup (xs.map rt)), .v (.int ((1 + i : Nat) : Int)), .v (.int ((((1 + i : Nat) : Int) + 1).fdiv 2)), .v (.int (st : Int))] b'')
        | _ => False) := by
      rintro st rfl
      rw [half_up]
      refine ⟨rfl, xs, _, _, rfl, by rw [start_le]; omega, by omega, rfl, .inl ⟨_, rfl, hank_ok hz (by omega), ?_⟩⟩
      (try simp only [wSeq, wSet, wSetO, wRet, wIfS, wFrz, wApp, wDrop, wNext, wBreak, wCont, wNever, wVar, wVarB, wC, wBin, wUn, wT, wAnd, wOr, wNot, wAndV, wOrV, wNotV, wIte, wNil, wCons, wTup, wCall, wListOf, wC2, wIsT, wIsC, wFld, wON, wOS, wSl, wV, wO, wSetIx, wPar, wSwap, wSeqOf, wRng1, wRng2, wFor, wWhile, wYes, wComp, wEnum, wZip, wEnum2, wRgT, wRgL, wAug, dMulT, dMax, wMake, wFz, wCat, wRep, wipeE, D.ty, wIf_true, wIf_false, List.getElem?_cons_zero, List.getElem?_cons_succ, List.set_cons_zero, List.set_cons_succ, dI0_ii, dI_ii, dNeg_i, dGcd_ii, dAbs_i, dInt_i, dInt_b, dBits_i, dLen_t, dLen_l, dTuple_t, dTuple_l, dAdd_ii, dAdd_tt, dAdd_ll, dAdd_ss, dMul_ii, dMul_li, dIs_n, dIs_b, dIsN_n, dRepr_b, rt_0, rt_1, dEq, dNe, dSub, dDiv, dDivU, dMod, dLt, dLe, dGt, dGe, D.isNon, Bool.not_true, Bool.not_false])
      refine wIf_dec (fun h => ?_) (fun h => ?_)
      · rw [hrt]
        have e : firstFlat xs = some (1 + i) := find_here hi hn (decide_eq_true h)
        rw [e] at q
        exact q
      · refine hnx _ _ ⟨rfl, ⟨_, _, _, rfl⟩, fun j hj => ?_⟩
        by_cases z : j = i
        · subst z
          exact decide_eq_false h
        · exact hn j (by omega)
    rw [eqv_int]
    have := start_of (1 + i)
    refine wIf_dec (fun z => ?_) (fun z => ?_)
    · rw [if_pos (decide_eq_true z)] at this
      exact fin 0 (by omega)
    · rw [if_neg (by rw [decide_eq_true_eq]; exact z)] at this
      exact fin 1 (by omega)
  · rintro env b' ⟨rfl, ⟨s, s2, s3, rfl⟩, hn⟩
    (try simp only [wSeq, wSet, wSetO, wRet, wIfS, wFrz, wApp, wDrop, wNext, wBreak, wCont, wNever, wVar, wVarB, wC, wBin, wUn, wT, wAnd, wOr, wNot, wAndV, wOrV, wNotV, wIte, wNil, wCons, wTup, wCall, wListOf, wC2, wIsT, wIsC, wFld, wON, wOS, wSl, wV, wO, wSetIx, wPar, wSwap, wSeqOf, wRng1, wRng2, wFor, wWhile, wYes, wComp, wEnum, wZip, wEnum2, wRgT, wRgL, wAug, dMulT, dMax, wMake, wFz, wCat, wRep, wipeE, D.ty, wIf_true, wIf_false, List.getElem?_cons_zero, List.getElem?_cons_succ, List.set_cons_zero, List.set_cons_succ, dI0_ii, dI_ii, dNeg_i, dGcd_ii, dAbs_i, dInt_i, dInt_b, dBits_i, dLen_t, dLen_l, dTuple_t, dTuple_l, dAdd_ii, dAdd_tt, dAdd_ll, dAdd_ss, dMul_ii, dMul_li, dIs_n, dIs_b, dIsN_n, dRepr_b, rt_0, rt_1, dEq, dNe, dSub, dDiv, dDivU, dMod, dLt, dLe, dGt, dGe, D.isNon, Bool.not_true, Bool.not_false])
    have e : firstFlat xs = none := find_no fun i hi => hn i (by simpa using hi)
    rw [e] at q
    exact q
end En
/-! Heights: a crude measure of ratios. -/
namespace En
open PySem PySem.Spec PyProof.Rows L2
structure Hz (k : Nat) (x : Rat) : Prop where
  n : x.num.natAbs < 2 ^ k
  d : x.den < 2 ^ k
theorem Hz.sz {x : Rat} {k : Nat} (h : Hz k x) (hk : k ≤ SB) : Sz x := ⟨Nat.lt_of_lt_of_le h.n (Nat.pow_le_pow_right (by decide) hk), Nat.lt_of_lt_of_le h.d (Nat.pow_le_pow_right (by decide) hk)⟩
theorem Hz.mono {x : Rat} {k l : Nat} (h : Hz k x) (hk : k ≤ l) : Hz l x := ⟨Nat.lt_of_lt_of_le h.n (Nat.pow_le_pow_right (by decide) hk), Nat.lt_of_lt_of_le h.d (Nat.pow_le_pow_right (by decide) hk)⟩
theorem natAbs_le_mul {a b : Int} (hb : b ≠ 0) : a.natAbs ≤ (a * b).natAbs := by
  rw [Int.natAbs_mul]
  exact Nat.le_mul_of_pos_right _ (by omega)
theorem hz_divInt {t k : Int} (hk : k ≠ 0) {n : Nat} (h1 : t.natAbs < 2 ^ n) (h2 : k.natAbs < 2 ^ n) : Hz n (Rat.divInt t k) := by
  obtain ⟨e1, e2⟩ := low_eq (t := t) hk
  have f1 := fdiv_dvd (byOf_dvd_t t k) (byOf_ne (t := t) hk)
  have f2 := fdiv_dvd (byOf_dvd_b t k) (byOf_ne (t := t) hk)
  have b0 := byOf_ne (t := t) hk
  constructor
  · rw [e1]
    have := natAbs_le_mul (a := t.fdiv (byOf t k)) b0
    rw [f1] at this
    omega
  · have := natAbs_le_mul (a := k.fdiv (byOf t k)) b0
    rw [f2, ← e2, Int.natAbs_natCast] at this
    omega
section
variable {x y : Rat} {k l : Nat}
theorem Hz.dn (h : Hz k x) : (x.den : Int).natAbs < 2 ^ k := by rw [Int.natAbs_natCast]; exact h.d
theorem two_pow_le {a b n : Nat} (h : a < 2 ^ b) (hb : b ≤ n) : a < 2 ^ n := Nat.lt_of_lt_of_le h (Nat.pow_le_pow_right (by decide) hb)
theorem Hz.add (h : Hz k x) (h' : Hz l y) : Hz (k + l + 1) (x + y) := by
  rw [add_rt]
  refine hz_divInt (dens_ne x y) ?_ (two_pow_le (natAbs_mul_lt h.dn h'.dn) (by omega))
  exact natAbs_add_lt (natAbs_mul_lt h.n h'.dn) (by rw [Nat.add_comm k l]; exact natAbs_mul_lt h'.n h.dn)
theorem Hz.sub (h : Hz k x) (h' : Hz l y) : Hz (k + l + 1) (x - y) := by
  rw [sub_rt]
  refine hz_divInt (dens_ne x y) ?_ (two_pow_le (natAbs_mul_lt h.dn h'.dn) (by omega))
  exact natAbs_sub_lt (natAbs_mul_lt h.n h'.dn) (by rw [Nat.add_comm k l]; exact natAbs_mul_lt h'.n h.dn)
theorem Hz.mul (h : Hz k x) (h' : Hz l y) : Hz (k + l) (x * y) := by
  rw [mul_rt]
  exact hz_divInt (dens_ne x y) (natAbs_mul_lt h.n h'.n) (natAbs_mul_lt h.dn h'.dn)
theorem Hz.div (h : Hz k x) (h' : Hz l y) (h0 : y ≠ 0) : Hz (k + l) (x / y) := by
  rw [div_rt]
  exact hz_divInt (Int.mul_ne_zero (by have := den_pos x; omega) (num_ne h0)) (natAbs_mul_lt h.n h'.dn) (natAbs_mul_lt h.dn h'.n)
theorem Hz.neg (h : Hz k x) : Hz k (-x) := ⟨by rw [Rat.neg_num, Int.natAbs_neg]; exact h.n, by rw [Rat.neg_den]; exact h.d⟩
theorem hz_0 (k : Nat) : Hz (k + 1) 0 := ⟨Nat.two_pow_pos _, Nat.one_lt_two_pow (by omega)⟩
theorem hz_1 (k : Nat) : Hz (k + 1) 1 := ⟨Nat.one_lt_two_pow (by omega), Nat.one_lt_two_pow (by omega)⟩
end
theorem FrA.hz {a D k : Nat} {x : Rat} (h : FrA a D x) (hD : 0 < D) (ha : a ≤ k) (hd : D < 2 ^ k) : Hz k x := by
  obtain ⟨n, e, hn⟩ := h
  have hD' : (D : Rat) ≠ 0 := by
    intro z
    have : D = 0 := by exact_mod_cast z
    omega
  have ex : x = Rat.divInt n (D : Int) := by
    rw [Rat.divInt_eq_div]
    have e2 : ((D : Int) : Rat) = (D : Rat) := rfl
    rw [e2, ← e]
    grind
  rw [ex]
  exact hz_divInt (by omega) (two_pow_le hn ha) (by rw [Int.natAbs_natCast]; exact hd)
/-- all items of a row -/
def HzL (k : Nat) (xs : List Rat) : Prop := ∀ x ∈ xs, Hz k x
theorem HzL.get {k : Nat} {xs : List Rat} (h : HzL (k + 1) xs) (i : Nat) : Hz (k + 1) (xs.getD i 0) := by
  rw [List.getD_eq_getElem?_getD]
  cases e : xs[i]? with
  | none => exact hz_0 k
  | some x => exact h x (List.mem_of_getElem? e)
theorem HzL.mono {k l : Nat} {xs : List Rat} (h : HzL k xs) (hk : k ≤ l) : HzL l xs := fun x hx => (h x hx).mono hk
theorem HzL.sz {k : Nat} {xs : List Rat} (h : HzL k xs) (hk : k ≤ SB) : ∀ x ∈ xs, Sz x := fun x hx => (h x hx).sz hk
end En
/-! What several laws need: rows compared, draws, cuts. -/
namespace En
open PySem PySem.Spec PyProof.Rows L2
def D.tolds (es : List D) : List Rat := es.map fun e => e.told.getD 0
theorem num_pos' {x : Rat} (h : 0 < x.num) : 0 < x := by
  refine Rat.lt_of_le_of_ne (Rat.num_nonneg.mp (by omega)) fun z => ?_
  rw [← z] at h
  exact absurd h (by decide)
theorem pos_num {x : Rat} (h : 0 < x) : 0 < x.num := by
  have h1 := Rat.num_nonneg.mpr (Rat.le_of_lt h)
  have h2 : x.num ≠ 0 := fun z => by
    rw [Rat.num_eq_zero] at z
    rw [z] at h
    exact absurd h (Rat.lt_irrefl)
  omega
theorem flats_rt (n : Nat) : ∀ xs : List Rat, D.flats (n + 1) (xs.map rt) = true
  | [] => rfl
  | x :: r => by simp only [List.map_cons, D.flats, flats_rt n r, Bool.and_true]; rfl
theorem pys_map : ∀ ds : List D, D.pys ds = ds.map D.py
  | [] => rfl
  | d :: r => by simp only [D.pys, List.map_cons, pys_map r]
theorem eqvAll_rt : ∀ xs ys : List Rat, PyData.eqvAll (D.pys (xs.map rt)) (D.pys (ys.map rt)) = decide (xs = ys)
  | [], [] => rfl
  | [], y :: s => by simp [D.pys, PyData.eqvAll]
  | x :: r, [] => by simp [D.pys, PyData.eqvAll]
  | x :: r, y :: s => by
    simp only [List.map_cons, D.pys, PyData.eqvAll]
    rw [eqv_rt, eqvAll_rt r s]
    by_cases h : x = y
    · subst h; simp
    · simp [h]
theorem eqv_rows (xs ys : List Rat) : PyData.eqv (D.tup (xs.map rt)).py (D.tup (ys.map rt)).py = decide (xs = ys) := by
  simp only [D.py, PyData.eqv]
  exact eqvAll_rt xs ys
theorem flat_rows (xs : List Rat) : (D.tup (xs.map rt)).flat 9 = true := flats_rt 7 xs
theorem flat_opt (o : Option Nat) : (optD o).flat 9 = true := by cases o <;> rfl
theorem ty_opt (o : Option Nat) : (optD o).ty.isSome = true := by cases o <;> rfl
theorem eqv_opt (i : Int) (o : Option Nat) : PyData.eqv (D.int i).py (optD o).py = (match o with | some f => decide (i = (f : Int)) | none => false) := by
  cases o with
  | none => rfl
  | some f => exact eqv_int i f
theorem tolds_rt {es : List D} (h : (es.all fun e => e.told.isSome) = true) : es = (D.tolds es).map rt := by
  unfold D.tolds
  rw [List.map_map]
  refine (List.ext_getElem? fun i => ?_)
  rw [List.getElem?_map]
  cases e : es[i]? with
  | none => rfl
  | some d =>
    have hd : d ∈ es := List.mem_of_getElem? e
    have h1 := List.all_eq_true.mp h d hd
    obtain ⟨x, hx⟩ := Option.isSome_iff_exists.mp h1
    show some d = some (rt (d.told.getD 0))
    rw [hx]
    show some d = some (rt x)
    rw [← told_some hx]
theorem anys_map {α : Type} {f : α → Bool} (es : List α) : es.map (fun d => D.bl (f d)) = (es.map f).map D.bl ∧ (es.map f).any id = es.any f := by
  constructor
  · rw [List.map_map]; rfl
  · rw [List.any_map]; rfl
theorem any_not (a : List Rat) : (a.any fun x => decide (x.num ≤ 0)) = !(a.all fun x => decide (¬ x.num ≤ 0)) := by
  induction a with
  | nil => rfl
  | cons x r ih =>
    rw [List.any_cons, List.all_cons, ih, Bool.not_and, decide_not, Bool.not_not]
def p__law_draw : Spec := fun ds b Q => ∃ many : Nat, ds = [.pen, .int (many : Int)] ∧ 1 ≤ many ∧ many ≤ 1000000 ∧ 1 ≤ b ∧ ∀ d : Nat, d < many → Q (.int (d : Int)) (b - 1)
def p__law_pick : Spec := fun ds b Q => ∃ es : List D, ds = [.pen, .lst es] ∧ es ≠ [] ∧ es.length ≤ 1000000 ∧ 1 ≤ b ∧ ∀ e ∈ es, Q e (b - 1)
/-- _law_pick: pen, some -/
def W__law_pick : WS := (wRet (wBin dIx (wVarB 1) (wCall 2 p__law_draw (wCons (wVar 0) (wCons (wUn dLen (wVarB 1)) wNil)))))
theorem hp__law_pick : ∀ ds b Q, ds.length = 2 → p__law_pick ds b Q → W__law_pick { nx := fun _ b' => Q .non b', rt := Q } (ds.map Slot.v ++ List.replicate 0 .un) b := by
  rintro ds b Q - ⟨es, rfl, h0, h1, hb, q⟩
  show W__law_pick _ [.v .pen, .v (.lst es)] b
  (try simp only [wSeq, wSet, wSetO, wRet, wIfS, wFrz, wApp, wDrop, wNext, wBreak, wCont, wNever, wVar, wVarB, wC, wBin, wUn, wT, wAnd, wOr, wNot, wAndV, wOrV, wNotV, wIte, wNil, wCons, wTup, wCall, wListOf, wC2, wIsT, wIsC, wFld, wON, wOS, wSl, wV, wO, wSetIx, wPar, wSwap, wSeqOf, wRng1, wRng2, wFor, wWhile, wYes, wComp, wEnum, wZip, wEnum2, wRgT, wRgL, wAug, dMulT, dMax, wMake, wFz, wCat, wRep, wipeE, D.ty, wIf_true, wIf_false, List.getElem?_cons_zero, List.getElem?_cons_succ, List.set_cons_zero, List.set_cons_succ, dI0_ii, dI_ii, dNeg_i, dGcd_ii, dAbs_i, dInt_i, dInt_b, dBits_i, dLen_t, dLen_l, dTuple_t, dTuple_l, dAdd_ii, dAdd_tt, dAdd_ll, dAdd_ss, dMul_ii, dMul_li, dIs_n, dIs_b, dIsN_n, dRepr_b, rt_0, rt_1, dEq, dNe, dSub, dDiv, dDivU, dMod, dLt, dLe, dGt, dGe, D.isNon, Bool.not_true, Bool.not_false, W__law_pick])
  refine ⟨rfl, es.length, rfl, by have := List.length_pos_iff.mpr h0; omega, h1, hb, fun d hd => ?_⟩
  exact dIx_l (List.getElem?_eq_getElem hd) (q _ (List.getElem_mem hd))
theorem natCast_ne' {n : Nat} (h : 0 < n) : (n : Rat) ≠ 0 := by
  intro z
  have : n = 0 := by exact_mod_cast z
  omega
theorem FrA.nd {a D : Nat} {x : Rat} (h : FrA a D x) (hD : 0 < D) : x.num.natAbs < 2 ^ a ∧ x.den ≤ D := by
  obtain ⟨n, e, hn⟩ := h
  have hD' := natCast_ne' hD
  have ex : x = Rat.divInt n (D : Int) := by
    rw [Rat.divInt_eq_div]
    have e2 : ((D : Int) : Rat) = (D : Rat) := rfl
    rw [e2, ← e]
    grind
  subst ex
  constructor
  · rw [Rat.num_divInt, Int.sign_eq_one_of_pos (by omega), Int.one_mul]
    exact Nat.lt_of_le_of_lt (natAbs_div_le _ _) hn
  · rw [Rat.den_divInt, if_neg (by omega)]
    exact Nat.div_le_self _ _
theorem rt_ok {x : Rat} (h : Sz x) : (rt x).shal = true ∧ (rt x).smallPair := by
  refine ⟨rfl, ?_, ?_⟩
  · exact big_log h.n (by decide) (by decide)
  · exact big_log h.den (by decide) (by decide)
theorem rowOk_of {es : List D} (hl : es.length < 1000000) (h : ∀ e ∈ es, e.shal = true ∧ e.smallPair) : (D.tup es).rowOk := ⟨hl, h⟩
theorem rowOk_rt {a : List Rat} (hl : a.length < 1000000) (h : ∀ x ∈ a, Sz x) : (D.tup (a.map rt)).rowOk := by
  refine ⟨by rw [List.length_map]; exact hl, fun e he => ?_⟩
  obtain ⟨x, hx, rfl⟩ := List.mem_map.mp he
  exact rt_ok (h x hx)
theorem map_inj_rt {a c : List Rat} (h : D.tup (a.map rt) = D.tup (c.map rt)) : a = c := by
  simp only [D.tup.injEq] at h
  exact (List.map_inj_right (fun x y => rt_inj)).mp h
theorem cutD_all {α : Type} (xs : List α) : cutD xs none none = xs := by
  unfold cutD
  show (xs.drop 0).take (xs.length - 0) = xs
  simp
theorem cut_to {α : Type} (xs : List α) (k : Nat) : cutD xs none (some (k : Int)) = xs.take k := by
  unfold cutD
  rw [HT.sIx_nat, HT.sIx_none, List.drop_zero, Nat.sub_zero]
  by_cases h : k ≤ xs.length
  · rw [Nat.min_eq_left h]
  · rw [Nat.min_eq_right (by omega), List.take_of_length_le (Nat.le_refl _), List.take_of_length_le (by omega)]
theorem cut_from {α : Type} (xs : List α) (k : Nat) : cutD xs (some (k : Int)) none = xs.drop k := by
  unfold cutD
  rw [HT.sIx_nat, HT.sIx_none]
  by_cases h : k ≤ xs.length
  · rw [Nat.min_eq_left h, List.take_of_length_le (by simp)]
  · rw [Nat.min_eq_right (by omega), List.drop_length, List.drop_of_length_le (by omega)]
    simp
end En
/-! zip of a list and a tuple. -/
namespace En
open PySem PySem.Spec PyProof.Rows L2
def ItzM (K : PySem.W.Frag) (a b : Addr) : It :=
  ⟨fun i H => ∃ (xs ys : List V) (x y : V), SqL K H a xs ∧ SqT K H b ys ∧ xs[i]? = some x ∧ ys[i]? = some y,
    fun i H v H' => ∃ T x y, v = .ref T ∧ H T = none ∧ H' = upd H T (.tup [x, y]) ∧ (∀ xs, SqL K H a xs → xs[i]? = some x) ∧ ∀ ys, SqT K H b ys → ys[i]? = some y,
    fun i H => ∃ xs ys : List V, SqL K H a xs ∧ SqT K H b ys ∧ i ≤ xs.length ∧ i ≤ ys.length ∧ (i = xs.length ∨ i = ys.length)⟩
theorem sepM {z TI TO i1 i2 a b : Addr} (D : ZipApart z TI TO i1 i2 a b) : ZipSep2 z TI TO i1 i2 [i1, a] [i2, b] where
  TIz := D.TIz
  TOz := D.TOz
  TITO := D.TITO
  TIi1 := D.TIi1
  mem1 := by simp
  zf1 := by simp [D.i1z.symm, D.l1z.symm]
  Tf1 := by simp [D.TOi1, D.l1TO.symm]
  TIi2 := D.TIi2
  mem2 := by simp
  zf2 := by simp [D.i2z.symm, D.l2z.symm]
  Tf2 := by simp [D.TOi2, D.l2TO.symm]
  sep1_2 := by simp [D.i12, D.l2i1.symm]
  sep2_1 := by simp [D.i12.symm, D.l1i2.symm]
theorem turn_zipM {P : Program} {w : World} {K : PySem.W.Frag} {elts : List Expr} {kk : Nat} {tpos : Pos} {a b z TI TO i1 i2 : Addr} (D : ZipApart z TI TO i1 i2 a b) :
    Turn P w K (.Tuple elts kk tpos) (ItzM K a b) [z, TI, TO, i1, i2] z (fun i h => IsZip h z TI TO .none ∧ IsTupOf2 h TI (.ref i1) (.ref i2) ∧ (∃ x y, IsTupOf2 h TO x y) ∧ h.IsListIter i1 a i ∧ h.IsTupleIter i2 b i) where
  mem := by simp
  obj := fun i h st c hc => by
    obtain ⟨hz, hTI, ⟨x, y, hTO⟩, ⟨o1, e1, _, d1⟩, ⟨o2, e2, _, d2⟩⟩ := st
    rcases (show c = z ∨ c = TI ∨ c = TO ∨ c = i1 ∨ c = i2 by simpa using hc) with rfl | rfl | rfl | rfl | rfl
    · exact ⟨_, hz, fun v q => nomatch q⟩
    · exact ⟨_, hTI, fun v q => nomatch q⟩
    · exact ⟨_, hTO, fun v q => nomatch q⟩
    · exact ⟨o1, e1, fun v q => by rw [d1] at q; cases q⟩
    · exact ⟨o2, e2, fun v q => by rw [d2] at q; cases q⟩
  keep := fun i h h' ⟨hz, hTI, ⟨x, y, hTO⟩, h1, h2⟩ k =>
    ⟨k z (by simp) _ hz, k TI (by simp) _ hTI, ⟨x, y, k TO (by simp) _ hTO⟩, h1.at fun o q => k i1 (by simp) o q, h2.at fun o q => k i2 (by simp) o q⟩
  item := by
    intro X hP hw hK hc i pins s σ H E I hf st hg
    subst hP hw hK
    obtain ⟨hz, hTI, ⟨x0, y0, hTO⟩, h1, h2⟩ := st
    obtain ⟨xs, ys, x, y, hqx, hqy, hx, hy⟩ := hg
    obtain ⟨its, rv, p, _⟩ := I.list hqx
    obtain ⟨its2, rv2, p2, _⟩ := I.tuple hqy
    have l1 := rv.length
    have l2 := rv2.length
    have lx := (List.getElem?_eq_some_iff.mp hx).1
    have ly := (List.getElem?_eq_some_iff.mp hy).1
    have hh : X.A.in1.handled = none := I.ok.hd hc
    have hzl : z < s.heap.objs.size := Heap.lt_size hz
    refine wpAny_pyNext_zipD2_item (i := i) (sepM D) (Draws.list hh i1 a D.l1i1 its.toArray) (Draws.tuple hh i2 b D.l2i2 its2.toArray) hz hTI hTO ⟨h1, p.isList⟩ ⟨h2, show s.heap.IsTuple b its2.toArray from p2⟩ (by simp; omega) (by simp; omega) fun u u2 h' tk hu hu2 z' TO' d1 d2 hT hsz hk => ?_
    have hu : its[i]? = some u := by simpa using hu
    have hu2 : its2[i]? = some u2 := by simpa using hu2
    obtain ⟨u', hu', ru⟩ := rv.get hx
    obtain ⟨u2', hu2', ru2⟩ := rv2.get hy
    rw [hu] at hu'
    cases hu'
    rw [hu2] at hu2'
    cases hu2'
    refine ⟨_, rfl, wpAny_letOwnedTupleGo_zip (s := { s with heap := h', toks := tk }) z' fun h'' z'' sb => ?_⟩
    have hT2 : h''.get? s.heap.objs.size = some { cls := .type "tuple", data := .seq #[u, u2] } := (sb.2 _ (Nat.ne_of_gt hzl)).trans hT
    have new : ObjOk X.prog X.w (upd H s.heap.objs.size (.tup [x, y])) h'' s.heap.objs.size (.tup [x, y]) :=
      ⟨by show 2 ≤ sizeLine; decide, [u, u2], .cons ru (.cons ru2 .nil), ⟨_, hT2, rfl, _, rfl⟩⟩
    have I1 : Inv X pins σ (upd H s.heap.objs.size (.tup [x, y])) { s with heap := h'', toks := tk } :=
      I.turnedNew (t' := tk) (ch := [z, TI, TO, i1, i2]) (fun c o hb q => (sb.2 c (fun q' => hb (by simp [q']))).trans (hk c o (fun q' => hb (by simp [q'])) (fun q' => hb (by simp [q'])) (fun q' => hb (by simp [q'])) (fun q' => hb (by simp [q'])) q)) hf (Nat.le_refl _) new
    refine ⟨.ref s.heap.objs.size, _, I1, rfl, ⟨_, x, y, rfl, I.hok.fresh (Nat.le_refl _), rfl, fun l hl => ?_, fun l hl => by rw [I.tuple_inj hl hqy]; exact hy⟩, ⟨z'', ?_, ⟨u, u2, ?_⟩, ?_, ?_⟩, fun c hcm => ?_⟩
    · rw [I.list_inj hl hqx]
      exact hx
    · exact (sb.2 _ D.TIz).trans (hk _ _ D.TIz D.TITO D.TIi1 D.TIi2 hTI)
    · exact (sb.2 _ D.TOz).trans TO'
    · exact d1.1.at fun o q => (sb.2 _ D.i1z).trans q
    · exact d2.1.at fun o q => (sb.2 _ D.i2z).trans q
    · have hlt : c < s.heap.objs.size := by
        rcases (show c = z ∨ c = TI ∨ c = TO ∨ c = i1 ∨ c = i2 by simpa using hcm) with q | q | q | q | q
        · rw [q]; exact hzl
        · rw [q]; exact Heap.lt_size hTI
        · rw [q]; exact Heap.lt_size hTO
        · rw [q]; obtain ⟨_, e1, _⟩ := h1; exact Heap.lt_size e1
        · rw [q]; obtain ⟨_, e2, _⟩ := h2; exact Heap.lt_size e2
      rw [upd_ne (Nat.ne_of_lt hlt)]
      exact (hf c hcm).1
  done := by
    intro X hP hw hK hc i pins s σ H E I hf st hg
    subst hP hw hK
    obtain ⟨hz, hTI, ⟨x0, y0, hTO⟩, h1, h2⟩ := st
    obtain ⟨xs, ys, hqx, hqy, g1, g2, g3⟩ := hg
    obtain ⟨its, rv, p, _⟩ := I.list hqx
    obtain ⟨its2, rv2, p2, _⟩ := I.tuple hqy
    have l1 := rv.length
    have l2 := rv2.length
    have hh : X.A.in1.handled = none := I.ok.hd hc
    exact wpAny_pyNext_zipD2_end (i := i) (sepM D) (Draws.list hh i1 a D.l1i1 its.toArray) (Draws.tuple hh i2 b D.l2i2 its2.toArray) hz hTI hTO ⟨h1, p.isList⟩ ⟨h2, show s.heap.IsTuple b its2.toArray from p2⟩ (by simp; omega) (by simp; omega) (by simp; omega) fun h' tk hk =>
      ⟨rfl, I.turnedL (t' := tk) (ch := [z, TI, TO, i1, i2]) (fun c o hb q => hk c o (fun q' => hb (by simp [q'])) (fun q' => hb (by simp [q'])) (fun q' => hb (by simp [q'])) (fun q' => hb (by simp [q'])) q) hf⟩
  self := fun A i s Q E st h => wpAny_pyIter_zip st.1 h
def iZipM (K : PySem.W.Frag) (ta : TA) : TI := fun σ H R => ta σ H fun vs H1 => ∃ a b xs ys, vs = [.ref a, .ref b] ∧ SqL K H1 a xs ∧ SqT K H1 b ys ∧ R (ItzM K a b) H1
theorem pi_zipM {X : Cx} {e e2 : Expr} {ta : TA} {p pos tpos : Pos} {elts : List Expr} {kk : Nat} (hg : Gl X "zip") (hm : X.mg "zip" = none) (ha : PA X [e, e2] ta)
    (hs : starEach [e, e2] X.env = (false, eval e X.env) :: starEach [e2] X.env := by rfl) (hpl : (backTo pos (starEach [e2] X.env)).any (·.1) = false := by rfl) :
    PI X (.Tuple elts kk tpos) (.Call (.Name "zip" p) [e, e2] [] pos) (iZipM X.K ta) := by
  refine ⟨fun pins s σ H R I h => ?_⟩
  refine Call_ (ld_blt I hg hm PyProof.Rows.boot_zip (PyProof.Rows.callWith_type1 (thn (ha.run pos pins s σ H _ I h) fun us s1 ⟨vs, H1, I1, r1, q1⟩ => ?_) hs hpl))
  obtain ⟨a, b, xs, ys, ex, hqx, hqy, q⟩ := q1
  subst ex
  cases r1 with
  | cons r rr =>
    cases rr with
    | cons r' rr =>
      cases rr
      cases r
      cases r'
      have fresh5 : ∀ c, c ∈ [s1.heap.objs.size + 4, s1.heap.objs.size + 2, s1.heap.objs.size + 3, s1.heap.objs.size, s1.heap.objs.size + 1] → FpOk X pins H1 c := fun c hcm => by
        have hle : s1.heap.objs.size ≤ c := by
          have e' : c = s1.heap.objs.size + 4 ∨ c = s1.heap.objs.size + 2 ∨ c = s1.heap.objs.size + 3 ∨ c = s1.heap.objs.size ∨ c = s1.heap.objs.size + 1 := by simpa using hcm
          rcases e' with z | z | z | z | z <;> exact Nat.le_trans (by first | exact Nat.le_add_right _ _ | exact Nat.le_refl _) (Nat.le_of_eq z.symm)
        exact I1.fpOk hle (I1.hok.fresh hle)
      obtain ⟨its, rv, p1, _⟩ := I1.list hqx
      obtain ⟨its2, rv2, p2, _⟩ := I1.tuple hqy
      obtain ⟨o2, ho2, _⟩ := id p2
      refine zip_begins2 (begins_list a its.toArray) (begins_tuple b its2.toArray) p1.isList (show s1.heap.IsTuple b its2.toArray from p2) fun h' hz hTI hTO g1 g2 hsz hk => wpAny_pyIter_zip hz ?_
      have I2 : Inv X pins σ H1 { s1 with heap := h' } := I1.kept (t' := s1.toks) hk
      exact ⟨s1.heap.objs.size + 4, [s1.heap.objs.size + 4, s1.heap.objs.size + 2, s1.heap.objs.size + 3, s1.heap.objs.size, s1.heap.objs.size + 1], _, _, H1, rfl, I2, turn_zipM (PySem.W.ktu_apart s1.heap.objs.size a b p1.lt (Heap.lt_size ho2)), ⟨hz, hTI, ⟨_, _, hTO⟩, ⟨_, g1, rfl, rfl⟩, ⟨_, g2, rfl, rfl⟩⟩, fresh5, q⟩
theorem walk_zipM {K : PySem.W.Frag} {mg : Str → Option Value} {pa : Addr} {B1 : Addr → Prop} {H1 : Hp} {a b : Addr} {xs ys : List V} {ds es : List D} (h : H1 a = some (.lst xs)) (n : ¬ B1 a) (r : FRs K mg pa B1 H1 xs ds) (h' : TupR K B1 H1 b ys) (r' : FRs K mg pa B1 H1 ys es) : Walk K mg pa (ItzM K a b) B1 H1 (zipD ds es) := fun B H k tr => by
  have h2 := (k a _ h n).1
  have r2 := r.kp k
  have h2' := (h'.kp k).sq
  have r2' := r'.kp k
  refine ⟨fun i d hd => ?_, ⟨xs, ys, .of h2, h2', by rw [r2.length, zipD_length]; omega, by rw [r2'.length, zipD_length]; omega, by rw [r2.length, r2'.length, zipD_length]; omega⟩⟩
  obtain ⟨x, y, h3, h3', rfl⟩ := zipD_get ds es i d hd
  obtain ⟨v, h4, h5⟩ := r2.get h3
  obtain ⟨v', h4', h5'⟩ := r2'.get h3'
  refine ⟨⟨xs, ys, v, v', .of h2, h2', h4, h4'⟩, fun u H' y => ?_⟩
  obtain ⟨T, w, w', rfl, hT, rfl, hw, hw'⟩ := y
  have e1 := hw xs (.of h2)
  rw [h4] at e1
  cases e1
  have e2 := hw' ys h2'
  rw [h4'] at e2
  cases e2
  have s := same_new (o := .tup [v, v']) hT
  exact ⟨s, .tup (.inl ⟨upd_same, fun z => tr T z hT⟩) (.cons (h5.kp (same_kp s)) (.cons (h5'.kp (same_kp s)) .nil))⟩
/-- zip of a list and a tuple -/
def wZipM (W : WL) : WL := fun env b Q => W env b fun ds b1 => match ds with | [.lst xs, .tup ys] => Q (zipD xs ys) b1 | _ => False
theorem qi_zipM {X : Cx} {a c : Expr} {W : WL} {pp pos tpos : Pos} {elts : List Expr} {kk : Nat} (hg : Gl X "zip") (hm : X.mg "zip" = none) (h : QA X [a, c] W) (hs : starEach [a, c] X.env = (false, eval a X.env) :: starEach [c] X.env := by rfl) (hpl : (backTo pos (starEach [c] X.env)).any (·.1) = false := by rfl) :
    QI X (.Tuple elts kk tpos) (.Call (.Name "zip" pp) [a, c] [] pos) (wZipM W) := fun p => ⟨_, pi_zipM hg hm (h p) hs hpl, fun σ H R ⟨B, env, b, Qd, Rl, w, k⟩ => by
  refine ⟨B, env, b, _, Rl, w, fun vs H1 ds b1 R1 e1 f1 hl q => ?_⟩
  split at q
  · cases f1 with
    | cons f2 f3 =>
      cases f3 with
      | cons f4 f5 =>
        cases f5
        cases f2 with
        | lst hh n r =>
          cases f4 with
          | tup t' r' => exact ⟨_, _, _, _, rfl, .of hh, t'.sq, k _ H1 _ b1 R1 e1 (walk_zipM hh n r t' r') q⟩
  · exact q.elim⟩
/-! ### x in l -/
def dIn : Op2 := fun x y Q => match y with | .lst ds => (x.flat 9 = true ∧ (D.lst ds).flat 9 = true) ∧ Q (.bl (ds.any fun z => PyData.eqv z.py x.py)) | _ => False
def dNIn : Op2 := fun x y Q => match y with | .lst ds => (x.flat 9 = true ∧ (D.lst ds).flat 9 = true) ∧ Q (.bl (!ds.any fun z => PyData.eqv z.py x.py)) | _ => False
theorem any_pys (p : PyData → Bool) : ∀ ds : List D, (D.pys ds).any p = ds.any fun z => p z.py
  | [] => rfl
  | d :: r => by simp only [D.pys, List.any_cons, any_pys p r]
section
variable {X : Cx} {a c : Expr} {Wa Wc : WE} {pos : Pos}
theorem ok_in : OpOk X (rInD X.K) dIn := by
  intro p B H σ env b x y dx dy Q Qd R rx ry q k
  cases dy <;> try exact q.elim
  rename_i ds
  obtain ⟨⟨f1, f2⟩, q⟩ := q
  have e : (D.lst ds).py = .list (D.pys ds) := by rw [D.py]
  have d2 := ry.dp f2
  rw [e] at d2
  have s2 := flat_shaped (by decide) f2
  rw [e] at s2
  refine ⟨_, D.pys ds, rx.dp f1, d2, flat_shaped (by decide) f1, s2, ?_⟩
  rw [any_pys]
  exact k _ H _ (Same.refl _) (.bl _) q
theorem ok_nin : OpOk X (rNotInD X.K) dNIn := by
  intro p B H σ env b x y dx dy Q Qd R rx ry q k
  cases dy <;> try exact q.elim
  rename_i ds
  obtain ⟨⟨f1, f2⟩, q⟩ := q
  have e : (D.lst ds).py = .list (D.pys ds) := by rw [D.py]
  have d2 := ry.dp f2
  rw [e] at d2
  have s2 := flat_shaped (by decide) f2
  rw [e] at s2
  refine ⟨_, D.pys ds, rx.dp f1, d2, flat_shaped (by decide) f1, s2, ?_⟩
  rw [any_pys]
  exact k _ H _ (Same.refl _) (.bl _) q
theorem room65 {k : Nat} {A : Around} (r : Room k A) : A.units + 65 < cLine := by have := r.un; omega
theorem qe_in {k : Nat} (hr : Room k X.A) (ha : QB X a Wa) (hc : QB X c Wc) (hm : behindInMarks .In c = false := by rfl) : QE X (.Compare a [.In] [c] pos) (wBin dIn Wa Wc) := qe_cmp (op_inD (room65 hr)) ok_in ha hc hm
theorem qe_nin {k : Nat} (hr : Room k X.A) (ha : QB X a Wa) (hc : QB X c Wc) (hm : behindInMarks .NotIn c = false := by rfl) : QE X (.Compare a [.NotIn] [c] pos) (wBin dNIn Wa Wc) := qe_cmp (op_notInD (room65 hr)) ok_nin ha hc hm
theorem qt_in {k : Nat} (hr : Room k X.A) (ha : QB X a Wa) (hc : QB X c Wc) (hm : behindInMarks .In c = false := by rfl) : QT X (.Compare a [.In] [c] pos) (wT (wBin dIn Wa Wc)) := qt_cmp (op_inD (room65 hr)) ok_in ha hc hm
theorem qt_nin {k : Nat} (hr : Room k X.A) (ha : QB X a Wa) (hc : QB X c Wc) (hm : behindInMarks .NotIn c = false := by rfl) : QT X (.Compare a [.NotIn] [c] pos) (wT (wBin dNIn Wa Wc)) := qt_cmp (op_notInD (room65 hr)) ok_nin ha hc hm
end
end En
/-! Several except clauses, each with the same name. -/
namespace En
open PySem PySem.Spec PyProof.Rows L2
abbrev Suit := Addr → Value → Option Addr → TS
/-- behind a suite the name is gone -/
def offEnd (D : Ends) (i : Nat) : Ends := { nx := fun τ G => D.nx (τ.set i none) G, rt := D.rt, bk := fun τ G => D.bk (τ.set i none) G, ct := fun τ G => D.ct (τ.set i none) G }
def wClauses (K : PySem.W.Frag) (out : WX) (D : Ends) (i : Nat) : List (Value × Suit) → WX
  | [] => out
  | (c, S) :: more => fun cls dd τ G => ∃ hit, PySem.W.exmOne K cls c = some hit ∧ (hit = true → ∀ x, G x = none → S x cls dd (offEnd D i) (τ.set i (some (.ref x))) G) ∧ (hit = false → wClauses K out D i more cls dd τ G)
inductive Clauses (X : Cx) (n : Str) : List ExceptHandler → List (Value × Suit) → Prop
  | done : Clauses X n [] []
  | more {x : Str} {c : Value} {S : Suit} {b0 : Stmt} {bs : List Stmt} {p1 p2 : Pos} {hs : List ExceptHandler} {l : List (Value × Suit)} (nm : Names X x c)
      (su : ∀ (x : Addr) (o : Obj) (cls : Value) (dd : Option Addr) (pn : List (Addr × Obj)), Zc cls dd o → (∃ vs, o.data = .fields vs) → PSs (X.suite x ((x, o) :: pn)) (b0 :: bs) (S x cls dd)) (rest : Clauses X n hs l) :
      Clauses X n (.ExceptHandler (some (.Name x p1)) (some n) (b0 :: bs) p2 :: hs) ((c, S) :: l)
section
variable {X : Cx} {n : Str} {i : Nat} {body : List Stmt} {h0 : ExceptHandler} {hs : List ExceptHandler} {l : List (Value × Suit)} {pos : Pos} {tb : WX → TS} {out : WX}
theorem ps_try_clauses (top : X.stack = X.env :: X.outer) (fr : X.env.frame = some X.env.locals) (nd : X.N.Nodup) (at_ : X.N[i]? = some n) (loc : X.env.kindOf n = some .local) (tk : Takes X out)
    (inner : ∀ (W : WX) (pn : List (Addr × Obj)) (xe : Value → Shared → Prop), Takes (X.tr pn xe) W → PassesOwn (model X.prog X.w) X.A X.env xe → PSs (X.tr pn xe) body (tb W))
    (cl : Clauses X n (h0 :: hs) l) : PS X (.Try body (h0 :: hs) [] [] pos) (fun D τ G => tb (wClauses X.K out D i l) D τ G) := by
  refine ⟨fun pins s τ G D I say => ?_⟩
  have ok := I.ok
  have hfr : X.A.frames = some (X.env :: X.outer) := by rw [ok.frames, top]
  refine wpAny_Try_except ?_
  -- what is asked of an exception that leaves the body
  let caught : Value → Shared → Prop := fun e t => wpAny (model X.prog X.w) X.A (noteFrame e X.env)
    (fun _ t2 => wpAny (model X.prog X.w) X.A (setFlight e none)
      (fun _ t3 => wpAny (model X.prog X.w) X.A (handleBy e X.env (h0 :: hs)) (SP X pins D) X.xe t3) X.xe t2) X.xe t
  have takes : Takes (X.tr (X.pn ++ pins) caught) (wClauses X.K out D i l) := fun u t ask => by
    obtain ⟨x, B, s1, pins1, τ1, G1, cls, dd, rfl, J1, nb, up, sky, nx, os, ag, say1⟩ := ask
    have J : Inv X pins τ1 G1 s1 := J1.ofTry ok
    have skyX : Sky B (X.env :: X.outer) x (Zc cls dd) X.env.locals t.heap := by rw [← top]; exact sky
    refine Sky.land Zc.steady hfr fr skyX fun g1 fly1 up1 => ?_
    have J1' : Inv X pins τ1 G1 { t with heap := g1 } := J.landed nb fly1.1 (up.trans up1) os ag
    obtain ⟨o1, vs1, get1, zc1, dat1⟩ := fly1.there
    have away : x ∉ frs (X.env :: X.outer) := fun hm => by
      obtain ⟨_, o', e', hn⟩ := fly1.2.2.1.mem hm
      cases get1.symm.trans e'
      exact hn _ dat1
    have nLoc : x ≠ X.env.locals := fun z => away (List.mem_filterMap.mpr ⟨X.env, List.mem_cons_self, by rw [fr, z]⟩)
    have nFs : x ∉ X.fs := fun hm => by
      obtain ⟨e, he, q⟩ := List.mem_filterMap.mp hm
      exact away (List.mem_filterMap.mpr ⟨e, List.mem_cons_of_mem _ he, q⟩)
    have T1 := J1'.suite get1 dat1 nx nLoc nFs
    have each : ∀ {ks : List ExceptHandler} {m : List (Value × Suit)}, Clauses X n ks m → wClauses X.K out D i m cls dd τ1 G1 →
        wpAny (model X.prog X.w) X.A (handleBy (.ref x) X.env ks) (SP X pins D) X.xe { t with heap := g1 } := by
      intro ks m hk
      induction hk with
      | done =>
        intro w
        refine wpAny_handleBy_nil ?_
        obtain ⟨f1, f2, f3, o2, vs2, T, oT, tt, get2, zc2, dat2, tr2, hr⟩ := id fly1
        unfold PySem.passOn
        refine wpAny_bind (wpAny_field get2 dat2 tr2 ?_)
        rw [if_neg (show ¬ ((Value.ref T == Value.none) = true) by simp)]
        have leave : wpAny (model X.prog X.w) X.A (setFlight (.ref x) X.env.frame)
            (fun _ t4 => wpAny (model X.prog X.w) X.A (throw (.ref x) : Sem Flow) (SP X pins D) X.xe t4) X.xe { t with heap := g1 } := by
          rw [fr]
          refine HandSPX.setFlight_upZ fly1 fun g2 fly2 up2 => wpAny_throw (tk _ _ ?_)
          exact ⟨x, B, s1, pins, τ1, G1, cls, dd, rfl, J, nb, (up.trans up1).trans up2, .inr (.inr (by rw [top]; exact fly2)), nx, os, ag, w⟩
        first
          | exact wpAny_bind (wpAny_pure (wpAny_bind leave))
          | exact wpAny_bind leave
      | @more y c S b0 bs p1 p2 ks2 m2 nm su rest ih =>
        intro w
        obtain ⟨hit, isHit, yes, no⟩ := w
        refine wpAny_handleBy_cons (codeAny_handlers_test ?_) (by intro q; cases q)
        have ty : PySem.W.Looks (model X.prog X.w) g1 (typeOf (.ref x)) cls := fun A Q E s k q => wpAny_typeOf_ref (k _ _ get1) (by rw [zc1.1]; exact q)
        have look := PySem.W.exm_one (M := model X.prog X.w) (J1'.kIn) ty isHit
        have name : ∀ {Q E : Value → Shared → Prop}, Q c { t with heap := g1 } → wpAny (model X.prog X.w) (X.A.mark (some (.ref x))) (eval (.Name y p1) X.env) Q E { t with heap := g1 } := fun {Q E} q => by
          obtain ⟨gl, db, m1 | ⟨m1, m2, m3⟩⟩ := nm
          · exact ld_glob (X := X.suite x ((x, o1) :: (X.pn ++ pins))) T1 gl m1 q db
          · exact ld_blt (X := X.suite x ((x, o1) :: (X.pn ++ pins))) T1 gl m1 m2 q m3 db
        refine name (look.here ?_)
        cases hit with
        | false =>
          show wpAny _ X.A (handleBy (.ref x) X.env ks2) _ _ _
          exact ih (no rfl)
        | true =>
          refine codeAny_handlers_suite_as (HandSPX.lands_againZ fly1 fun g2 fly2 up2 => ?_)
          have J2 : Inv X pins τ1 G1 { t with heap := g2 } := J.landed nb fly2.1 ((up.trans up1).trans up2) os ag
          obtain ⟨o2, vs2, get2, zc2, dat2⟩ := fly2.there
          refine store_ok (X := X.suite x ((x, o2) :: (X.pn ++ pins))) (v := .ref x) (J2.suite get2 dat2 nx nLoc nFs) nd at_ (.inl loc) rfl (fun t5 T5 => ?_) (.inr loc)
          refine wpAny_mono ((su x o2 cls dd (X.pn ++ pins) zc2 ⟨_, dat2⟩).run [] t5 _ G1 _ T5 (yes rfl x nx)) (fun f t6 fin => ?_) (fun _ _ z => False.elim z)
          have off : ∀ {τ6 : L2.St} {G6 : Hp} {R : Shared → Prop}, Inv (X.suite x ((x, o2) :: (X.pn ++ pins))) [] τ6 G6 t6 → (∀ t7, Inv X pins (τ6.set i none) G6 t7 → R t7) →
              wpAny (model X.prog X.w) X.A (do bindName X.env n .none; unbindBehindTheSuite X.env n p2) (fun _ t7 => R t7) X.xe t6 := fun {τ6 G6 R} T6 r => gone_ok (T6.unsuite ok) nd at_ loc r
          cases f with
          | ret u => obtain ⟨v6, τ6, G6, T6, r6, q6⟩ := fin; exact off T6 fun t7 J7 => ⟨_, _, _, J7, r6, q6⟩
          | next => obtain ⟨τ6, G6, T6, q6⟩ := fin; exact off T6 fun t7 J7 => ⟨_, _, J7, q6⟩
          | brk => obtain ⟨τ6, G6, T6, q6⟩ := fin; exact off T6 fun t7 J7 => ⟨_, _, J7, q6⟩
          | cont => obtain ⟨τ6, G6, T6, q6⟩ := fin; exact off T6 fun t7 J7 => ⟨_, _, J7, q6⟩
    exact each cl say1
  refine wpAny_mono ((inner (wClauses X.K out D i l) (X.pn ++ pins) caught takes PassesOwn.looking).run [] s τ G D (I.toTry _) say) (fun f t fin => ?_) (fun e t he => he)
  cases f with
  | ret u => obtain ⟨v, τ', G', J', r, q⟩ := fin; exact ⟨v, τ', G', J'.ofTry ok, r, q⟩
  | next => obtain ⟨τ', G', J', q⟩ := fin; exact wpAny_execs_nil ⟨τ', G', J'.ofTry ok, q⟩
  | brk => obtain ⟨τ', G', J', q⟩ := fin; exact ⟨τ', G', J'.ofTry ok, q⟩
  | cont => obtain ⟨τ', G', J', q⟩ := fin; exact ⟨τ', G', J'.ofTry ok, q⟩
end
end En
/-! Own exceptions: their making. -/
namespace En
open PySem PySem.Spec PyProof.Rows L2
/-- the base class of the text's errors, over ValueError -/
structure MeF (K : PySem.W.Frag) (M : Addr) : Prop where
  sp : PySem.W.specialIn K (.ref M) "__getattribute__" = some (some (.builtin "type.__getattribute__"))
  ty : PySem.W.typeIn K (.ref M) = some (.type "type")
  rd : PySem.W.readsIn K M (.type "type") = true
  fc : PySem.W.findCls K (.ref M) (.type "type") "__init__" = some (.val (.builtin "ValueError.__init__"))
section
variable {X : Cx} {e : Expr} {es : List Expr} {ta : TA} {p1 p2 pos : Pos} {M : Addr} {x : Str}
/-- MinorError.__init__(self, ..) -/
theorem pe_meinit {pl : Sem Bool} (F : MeF X.K M) (hg : Gl X x) (hm : X.mg x = some (.ref M)) (ha : PA X (e :: es) ta) (hdb : (x == ("__debug__" : Str)) = false := by decide)
    (hc : eval (.Call (.Attribute (.Name x p1) "__init__" p2) (e :: es) [] pos) X.env = (do
      let o ← eval (.Name x p1) X.env
      standAt p2.atName
      let (g, self) ← holding [o] (getMethod o "__init__" pl)
      callWith pos g self (backTo pos (starEach (e :: es) X.env)) (backToKw pos (keywordEach [] X.env))) := by rfl)
    (he : starEach (e :: es) X.env = (false, eval e X.env) :: starEach es X.env := by rfl) (hpl : (backTo pos (starEach es X.env)).any (·.1) = false := by rfl) :
    PE X (.Call (.Attribute (.Name x p1) "__init__" p2) (e :: es) [] pos) (tVeI X.K ta) := ⟨fun pins s σ H Q I ask => by
  refine PySem.W.methodCall_KW (ld_glob I hg hm ?_ hdb) hc
  obtain ⟨m, fr⟩ := I.fr
  refine PySem.W.method_of_cls fr I.ok.mod.kin F.sp (PySem.W.cls_val fr I.ok.mod.kin F.ty F.rd F.fc (by decide +kernel) ?_)
  show wpAny _ _ (callWith pos (Value.builtin "ValueError.__init__") [] (backTo pos (starEach (e :: es) X.env)) []) _ _ _
  refine PyProof.Rows.callWith_method1 (thn (ha.run pos pins _ σ H _ (I.tok _) ask) fun us s1 ⟨vs, H1, I1, r1, x, C, ws, ev, hl, T, ex, q⟩ => ?_) he hpl
  subst ev
  cases r1 with
  | @cons _ u0 _ ur ra rw' =>
    obtain rfl : u0 = Value.ref x := ra
    exact oinit_ok T I1 ex (by have := Paired.length rw'; rw [sizeLine_eq]; omega) fun s2 J => ⟨.non, H1, J, rfl, q⟩⟩
end
/-- what the making of an own exception keeps: its fields, one after another -/
def spExc (K : PySem.W.Frag) (C : Addr) (fs : List Str) : Sp := fun vs H Q _ => ∃ (x : Addr) (ws : List V), vs = .ref x :: ws ∧ ws.length = fs.length ∧ H x = some (exo x C none) ∧
  ∀ d, H d = none → d ≠ x → Q .non (upd (upd H d (exd d (fs.zip ws).reverse)) x (exo x C (some d)))
/-- an own exception class -/
structure ExOk (P : Program) (w : World) (K : PySem.W.Frag) (mg : Str → Option Value) (base : Heap) (k : Nat) (c : Str) (fs : List Str) : Prop where
  ex : ∃ (C f : Addr) (fd : FuncData) (ps : List Str), mg c = some (.ref C) ∧ OexC K C ∧ PySem.W.findIn K (.ref C) "__init__" = some (some (.ref f)) ∧ PySem.W.typeIn K (.ref f) = some (.type "function") ∧ Binds K fd ps [] ∧ FnOk P w K mg base CX0 k f fd ps (spExc K C fs)
theorem upd3 {H : Hp} {d x : Addr} {o o' u : HO} (h : d ≠ x) : upd (upd (upd H d o) x u) d o' = upd (upd H d o') x u := by
  funext b
  by_cases z : b = d
  · subst z
    rw [upd_same, upd_ne h, upd_same]
  · rw [upd_ne z]
    by_cases z2 : b = x
    · subst z2
      rw [upd_same, upd_same]
    · rw [upd_ne z2, upd_ne z2, upd_ne z, upd_ne z]
/-! ### what is wanted of an exception -/
abbrev EX := Str → List (Str × D) → Prop
structure FitsX (K : PySem.W.Frag) (mg : Str → Option Value) (p : Pm) (W : EX) (E : XK) : Prop where
  fit : ∀ c C d fs gs H' b', mg c = some (.ref C) → H' d = some (.xd fs) → FRf K mg p.pa p.O H' fs gs → Ext p.pa p.H0 H' → PenOk p.pa p.ca H' b' → W c gs → E (.ref C) (some d) H'
/-- a context of a def that may raise E -/
def XTk (X : Cx) (E : XK) : Prop := Takes X (fun cls d _ H => E cls d H)
/-- a def that raises: the promise -/
abbrev SpecX := List D → Nat → EX → Prop
def spX (K : PySem.W.Frag) (mg : Str → Option Value) (n : Nat) (pt : SpecX) : Sp := fun vs H _ E => vs.length = n ∧ ∃ pa ca B ds b W, (∀ a, B a → H a ≠ none) ∧ B pa ∧ B ca ∧ PenOk pa ca H b ∧ FRs K mg pa B H vs ds ∧ pt ds b W ∧
  ∀ c C d fs gs H' b', mg c = some (.ref C) → H' d = some (.xd fs) → FRf K mg pa B H' fs gs → Ext pa H H' → PenOk pa ca H' b' → W c gs → E (.ref C) (some d) H'
structure Dx (P : Program) (w : World) (K : PySem.W.Frag) (mg : Str → Option Value) (base : Heap) (k : Nat) (x : Str) (n : Nat) (pt : SpecX) : Prop where
  ex : ∃ (f : Addr) (fd : FuncData) (ps : List Str), mg x = some (.ref f) ∧ PySem.W.keepIn K (.ref f) = true ∧ Binds K fd ps [] ∧ ps.length = n ∧ FnOk P w K mg base (L2.CX P w) k f fd ps (spX K mg n pt)
theorem Dx.mono {P : Program} {w : World} {K : PySem.W.Frag} {mg : Str → Option Value} {base : Heap} {j k : Nat} {x : Str} {n : Nat} {pt : SpecX} (h : Dx P w K mg base j x n pt) (hk : j ≤ k) : Dx P w K mg base k x n pt := by
  obtain ⟨f, fd, ps, h1, h2, h3, h4, h5⟩ := h.ex
  exact ⟨f, fd, ps, h1, h2, h3, h4, h5.mono hk⟩
/-- a call that raises -/
def wCallX (n : Nat) (pt : SpecX) (W : EX) (Wl : WL) : WE := fun env b _ => Wl env b fun ds b1 => ds.length = n ∧ pt ds b1 W
section
variable {X : Cx} {x c : Str} {n k : Nat} {pt : SpecX} {W : EX} {E : XK} {e : Expr} {es : List Expr} {Ws : WL} {pos pp : Pos} {p : Pm} {fs : List Str}
theorem fit_call (fx : FitsX X.K X.mg p W E) {B : Addr → Prop} {H H1 : Hp} {σ : L2.St} {env : Env} {b : Nat} (R1 : Rel X.K X.mg p B H1 σ env b) : ∀ c C d fs gs H' b', X.mg c = some (.ref C) → H' d = some (.xd fs) → FRf X.K X.mg p.pa B H' fs gs → Ext p.pa H1 H' → PenOk p.pa p.ca H' b' → W c gs → E (.ref C) (some d) H' :=
  fun c C d fs gs H' b' h1 h2 h3 h4 h5 h6 => fx.fit c C d fs gs H' b' h1 h2 (h3.kp fun a o ha na => ⟨ha, fun z => na (R1.sub a z)⟩) (R1.ext.trans h4) h5 h6
theorem pe_callX (F : Dx X.prog X.w X.K X.mg X.base k x n pt) (hr : Room k X.A) (tk : XTk X E) (fx : FitsX X.K X.mg p W E) (hg : Gl X x) (ha : QA X (e :: es) Ws) (hdb : (x == ("__debug__" : Str)) = false := by decide)
    (he : starEach (e :: es) X.env = (false, eval e X.env) :: starEach es X.env := by rfl) (hpl : (backTo pos (starEach es X.env)).any (·.1) = false := by rfl) : PE X (.Call (.Name x pp) (e :: es) [] pos) (tOf X.K X.mg p (wCallX n pt W Ws)) := by
  obtain ⟨f, fd, ps, hm, hk, hb, hn, G⟩ := F.ex
  refine PE.le (L2.pe_call (E := E) G hr hg hm hk hb .nil (passes_call tk fun _ _ _ _ h => h) (ha p) hdb he hpl) fun σ H Q ⟨B, env, b, Qd, R, w, kk⟩ => ?_
  refine ⟨B, env, b, _, R, w, fun vs H1 ds b1 R1 e1 f1 hl q => ⟨?_, p.pa, p.ca, B, ds, b1, W, R1.trk, R1.bpa, R1.sub _ R1.oca, R1.pen, ?_, q.2, fit_call fx R1 (H := H)⟩⟩
  · rw [List.append_nil, f1.length]
    exact q.1
  · rw [List.append_nil]
    exact f1
/-- raise C(..) -/
def wRaise (c : Str) (fs : List Str) (W : EX) (Wl : WL) : WS := fun _ env b => Wl env b fun ds b1 => ds.length = fs.length ∧ W c (fs.zip ds).reverse
theorem FRf.rev {K : PySem.W.Frag} {mg : Str → Option Value} {pa : Addr} {B : Addr → Prop} {H : Hp} : ∀ {fs : List (Str × V)} {gs : List (Str × D)}, FRf K mg pa B H fs gs → FRf K mg pa B H fs.reverse gs.reverse
  | _, _, .nil => .nil
  | _, _, .cons h r => by
    rw [List.reverse_cons, List.reverse_cons]
    exact FRf.app h (FRf.rev r)
theorem ps_raiseX (M : ExOk X.prog X.w X.K X.mg X.base k c fs) (hr : Room (k + 1) X.A) (hc : X.calm = true) (tk : XTk X E) (fx : FitsX X.K X.mg p W E) (hg : Gl X c) (ha : QA X (e :: es) Ws) (hs : fs.length ≤ 900 := by decide) (hdb : (c == ("__debug__" : Str)) = false := by decide)
    (he : starEach (e :: es) X.env = (false, eval e X.env) :: starEach es X.env := by rfl) (hpl : (backTo pp (starEach es X.env)).any (·.1) = false := by rfl) {pq : Pos} :
    PS X (.Raise (some (.Call (.Name c pq) (e :: es) [] pp)) none pos) (tS X.K X.mg p (wRaise c fs W Ws)) := by
  obtain ⟨C, f, fd, ps, hm, T, iC, tI, hb, G⟩ := M.ex
  refine PS.le (L2.ps_raise hc tk (pmk_oex T iC tI G hr hb .nil pass0 hg hm (ha p) hdb he hpl)) fun D σ H ⟨B, env, b, En, R, w, f⟩ => ?_
  refine ⟨B, env, b, _, R, w, fun vs H1 ds b1 R1 e1 f1 hl q => ?_⟩
  have hv := f1.length
  refine ⟨by have := q.1; omega, fun x nx => ?_⟩
  rw [List.append_nil]
  refine ⟨x, vs, rfl, by rw [hv]; exact q.1, upd_same, fun d hd hdx => ⟨rfl, d, (fs.zip vs).reverse, upd_same, by rw [upd_ne hdx]; exact upd_same, ?_, ?_⟩⟩
  · rw [upd_ne hdx] at hd
    exact hd
  · have hd1 : H1 d = none := by
      rw [upd_ne hdx] at hd
      exact hd
    have same : Same H1 (upd (del (upd (upd (upd H1 x (exo x C none)) d (exd d (fs.zip vs).reverse)) x (exo x C (some d))) x) d (.xd (fs.zip vs).reverse)) := fun a o ho => by
      have n1 : a ≠ d := ne_of_none ho hd1
      have n2 : a ≠ x := ne_of_none ho nx
      rw [upd_ne n1, del_ne n2, upd_ne n2, upd_ne n1, upd_ne n2]
      exact ho
    exact fx.fit c C d _ _ _ b1 hm upd_same ((FRf.zip (f1.kp fun a o ha na => ⟨same a o ha, fun z => na (R1.sub a z)⟩)).rev) (R1.ext.trans (.same same)) (R1.pen.same same) q.2
end
end En
/-! Defs that raise: their bodies, at one Pm. -/
namespace En
open PySem PySem.Spec PyProof.Rows L2
def wOrE (W1 W2 : WE) : WE := fun env b Q => W1 env b Q ∨ W2 env b Q
section
variable {X : Cx} {st : Stmt} {sts : List Stmt} {e : Expr} {W1 W2 : WS} {We We2 : WE} {Wl : WL} {T : WT} {pos pos' : Pos} {x : Str} {p : Pm}
theorem pe_orE (h1 : PE X e (tOf X.K X.mg p We)) (h2 : PE X e (tOf X.K X.mg p We2)) : PE X e (tOf X.K X.mg p (wOrE We We2)) := ⟨fun pins s σ H Q I ⟨B, env, b, Qd, R, w, k⟩ => by
  rcases w with w | w
  · exact h1.run pins s σ H Q I ⟨B, env, b, Qd, R, w, k⟩
  · exact h2.run pins s σ H Q I ⟨B, env, b, Qd, R, w, k⟩⟩
theorem sp_cons (h1 : PS X st (tS X.K X.mg p W1)) (h2 : PSs X sts (tS X.K X.mg p W2)) : PSs X (st :: sts) (tS X.K X.mg p (wSeq W1 W2)) := PSs.le (pss_cons h1 h2) fun D σ H ⟨B, env, b, E, R, w, f⟩ =>
  ⟨B, env, b, _, R, w, ⟨fun σ' H' B' env' b' R' k q => ⟨B', env', b', E, R', q, f.kp k⟩, f.bk, f.ct, f.rt⟩⟩
theorem sp_one (h1 : PS X st (tS X.K X.mg p W1)) : PSs X [st] (tS X.K X.mg p W1) := PSs.le (pss_one h1) fun D σ H h => h
theorem sp_set (i : Nat) (hN : X.N.Nodup) (hi : X.N[i]? = some x) (hx : Loc X.env.scope x) (h : PE X e (tOf X.K X.mg p We)) (hs : swapsWith e (some (.Name x pos')) pos.line X.env = pure false := by rfl) (hf : X.fn x = true ∨ X.env.scope.names.lookup x = some .local := by first | exact .inl rfl | exact .inr rfl | assumption) :
    PS X (.Assign [.Name x pos'] e pos) (tS X.K X.mg p (wSet i We)) := ⟨fun pins s σ H D I ⟨B, env, b, E, R, w, f⟩ => (ps_set hN hi hx h hs hf).run pins s σ H D I ⟨B, env, b, _, R, w, fun v H1 d b1 R1 e1 f1 q =>
  f.nx _ H1 B _ b1 (R1.setv (len_of I.len R1 hi) f1) (R.ext_kp e1) q⟩⟩
theorem sp_ret (h : PE X e (tOf X.K X.mg p We)) : PS X (.Return (some e) pos) (tS X.K X.mg p (wRet We)) := PS.le (ps_ret h) fun D σ H ⟨B, env, b, E, R, w, f⟩ =>
  ⟨B, env, b, _, R, w, fun v H1 d b1 R1 e1 f1 q => f.rt v H1 d b1 (f1.kp fun a o ha na => ⟨ha, fun z => na (R1.sub a z)⟩) R1.ext R1.pen q⟩
theorem sp_if {a c : List Stmt} {t : Expr} (ht : QT X t T) (h1 : PSs X a (tS X.K X.mg p W1)) (h2 : PSs X c (tS X.K X.mg p W2)) : PS X (.If t a c pos) (tS X.K X.mg p (wIfS T W1 W2)) := PS.le (ps_if (ht p) h1 h2) fun D σ H ⟨B, env, b, E, R, w, f⟩ => by
  refine ⟨B, env, b, _, R, w, fun cc H1 b1 R1 e1 w1 => wIf_ite ?_⟩
  cases cc with
  | true => exact ⟨B, env, b1, E, R1, w1, f.kp (R.ext_kp e1)⟩
  | false => exact ⟨B, env, b1, E, R1, w1, f.kp (R.ext_kp e1)⟩
theorem sp_drop (h : PE X e (tOf X.K X.mg p We)) (hs : swapsWith e none pos.line X.env = pure false := by rfl) : PS X (.Expr e pos) (tS X.K X.mg p (wDrop We)) := PS.le (ps_expr h hs) fun D σ H ⟨B, env, b, E, R, w, f⟩ =>
  ⟨B, env, b, _, R, w, fun v H1 d b1 R1 e1 f1 q => f.nx σ H1 B env b1 R1 (R.ext_kp e1) q⟩
end
section
variable {P : Program} {w : World} {K : PySem.W.Frag} {mg : Str → Option Value} {base : Heap}
theorem dx_of {x qual : Str} {st : Stmt} {f : Addr} {fd : FuncData} {N ps : List Str} {k : Nat} {pt : SpecX} {Wb : EX → WS} (F : Fun K x qual st f fd) (S : FnScope N ps (defScope st)) (hm : mg x = some (.ref f)) (bd : Binds K fd ps [])
    (hb : ∀ (cdv : Value) (A : Around) (outer : List PySem.Env) (s : Shared) (H : Hp) (E : XK) (p : Pm) (W : EX), Room k (A.deeper (envOfC qual (defScope st) s.heap.objs.size f cdv)) → FitsX K mg p W E → XTk (cxOf (L2.CX P w) P w K mg base N qual (defScope st) f cdv A outer s H E) E →
      PSs (cxOf (L2.CX P w) P w K mg base N qual (defScope st) f cdv A outer s H E) (defBody st) (tS K mg p (Wb W)))
    (hp : ∀ ds b W, ds.length = ps.length → pt ds b W → Wb W { nx := fun _ _ => False, rt := fun _ _ => False } (ds.map Slot.v ++ List.replicate (N.length - ps.length) .un) b) : Dx P w K mg base (k + 1) x ps.length pt := by
  refine ⟨f, fd, ps, hm, F.kp, bd, rfl, F.okX S (fun vs H Q E h => h.1) fun cdv A outer s H vs Q E hr h => ?_⟩
  obtain ⟨hl, pa, ca, B, ds, b, W, trk, bpa, bca, po, fr, q, kk⟩ := h
  have tk : XTk (cxOf (L2.CX P w) P w K mg base N qual (defScope st) f cdv A outer s H E) E := takes_of rfl rfl rfl rfl
  refine ⟨_, hb cdv A outer s H E ⟨pa, ca, B, H, N.length⟩ W hr ⟨kk⟩ tk, ?_⟩
  have e := fr.length
  exact ⟨B, _, b, _, start_rel hl (pre_len S) trk bpa bca po fr, hp ds b W (by rw [← e, hl]) q, ⟨fun _ _ _ _ _ _ _ z => z.elim, fun _ _ _ _ _ _ _ z => z.elim, fun _ _ _ _ _ _ _ z => z.elim, fun _ _ _ _ _ _ _ z => z.elim⟩⟩
end
end En
/-! Closures without parameters: what a call of one does. -/
namespace En
open PySem PySem.Spec PyProof.Rows L2
/-- a closure at f, whose captured values are vs: what a call of it raises -/
structure LamOk (P : Program) (w : World) (K : PySem.W.Frag) (mg : Str → Option Value) (base : Heap) (k : Nat) (f : Addr) (vs : List V) (pt : SpecX) : Prop where
  kla : ∃ (oc : Value) (od : Option Addr) (fd : FuncData) (osl : Array (Option Value)), base.get? f = some ⟨oc, od, .func fd, osl⟩
  run : ∀ (A : Around) (outer : List PySem.Env) (s : Shared) (H : Hp) (Q : VK) (E : XK), Room k A → Env0 P w K mg base A outer s H → spX K mg vs.length pt vs H Q E →
    codeAny (model P w) A (.call (.ref f) ⟨[], []⟩) (CR (L2.CX P w) outer P w H s Q E) s
theorem LamOk.mono {P : Program} {w : World} {K : PySem.W.Frag} {mg : Str → Option Value} {base : Heap} {j k : Nat} {f : Addr} {vs : List V} {pt : SpecX} (h : LamOk P w K mg base j f vs pt) (hk : j ≤ k) : LamOk P w K mg base k f vs pt :=
  ⟨h.kla, fun A outer s H Q E hr => h.run A outer s H Q E (hr.mono hk)⟩
abbrev lmEnv (qual : Str) (scope : Scope) (cl : List (Str × Addr)) (L f c' : Addr) : PySem.Env := PySem.W.envX qual scope L f (.ref c') cl
def lmCx (P : Program) (w : World) (K : PySem.W.Frag) (mg : Str → Option Value) (base : Heap) (N : List Str) (qual : Str) (scope : Scope) (cl : List (Str × Addr)) (f c' : Addr) (A : Around) (outer : List PySem.Env) (s : Shared) (H : Hp) (E : XK) : Cx where
  prog := P
  w := w
  K := K
  mg := mg
  base := base
  A := A.deeper (lmEnv qual scope cl s.heap.objs.size f c')
  N := N
  s_0 := s
  H_0 := H
  env := lmEnv qual scope cl s.heap.objs.size f c'
  outer := outer
  stack := lmEnv qual scope cl s.heap.objs.size f c' :: outer
  ex := []
  fn := fun _ => false
  calm := true
  pn := []
  xe := fun e s' => wpAny (model P w) (A.deeper (lmEnv qual scope cl s.heap.objs.size f c')) (leaving (lmEnv qual scope cl s.heap.objs.size f c') e) (fun _ s'' => L2.CX P w outer H s E e s'') (fun e' s'' => L2.CX P w outer H s E e' s'') s'
/-- the closure's names and cells -/
structure LamC (base : Heap) (N : List Str) (scope : Scope) (cl : List (Str × Addr)) (vs : List V) : Prop where
  kind : scope.kind = .function
  co : scope.isCoroutine = false
  gen : scope.isGenerator = false
  own : ∀ y ∈ scope.names, y.2 ≠ .local ∧ y.2 ≠ .cell
  has : ∀ y ∈ scope.names, y.2 = .free → ∃ c, cl.lookup y.1 = some c
  inj : ∀ x y c, cl.lookup x = some c → cl.lookup y = some c → x = y
  cells : ∀ x c, cl.lookup x = some c → ∃ v, base.IsCell c v
  vals : ∀ (i : Nat) (x : Str) (v : V), N[i]? = some x → vs[i]? = some v → Vis scope x → ∃ c u, cl.lookup x = some c ∧ base.IsCell c (some u) ∧ RelV v u
  len : vs.length = N.length
section
variable {P : Program} {w : World} {K : PySem.W.Frag} {mg : Str → Option Value} {base : Heap}
theorem keepCell {h h' : Heap} {c : Addr} {v : Option Value} (k : ∀ b o, h.get? b = some o → h'.get? b = some o) : h.IsCell c v → h'.IsCell c v := fun ⟨o, ho, hd⟩ => ⟨o, k _ _ ho, hd⟩
theorem lm_start {A : Around} {outer : List PySem.Env} {E : XK} {N : List Str} {qual : Str} {scope : Scope} {cl : List (Str × Addr)} {f c' : Addr} {vs : List V} {H : Hp} {s : Shared} {h₁ : Heap} {tk : Nat} (L : LamC base N scope cl vs) (e0 : Env0 P w K mg base A outer s H) (hd : A.handled = none)
    (hns : h₁.Ns s.heap.objs.size fun y => ([] : List (Str × Value)).reverse.lookup y) (kp : ∀ b o, s.heap.get? b = some o → h₁.get? b = some o) :
    Inv (lmCx P w K mg base N qual scope cl f c' A outer s H E) [] (vs.map some) H { s with heap := h₁, toks := tk } := by
  have kb : ∀ b o, base.get? b = some o → h₁.get? b = some o := fun b o e => kp b o (e0.bs b o e).1
  have noA : ∀ b : Addr, b ∉ (lmCx P w K mg base N qual scope cl f c' A outer s H E).ex := fun b z => absurd (show b ∈ ([] : List Addr) from z) (by simp)
  refine ⟨⟨e0.mod, L.kind, rfl, rfl, Nat.le_refl _, fun y z c e1 e2 => L.inj y z c e1 e2, fun y hy => ?_, fun y c z _ => ?_, fun _ => hd, Around.frames_deeper e0.frames, .inr ⟨rfl, rfl⟩, fun b z => absurd z (noA b), e0.bs, e0.bsz, fun b _ _ => noA b,
      fun b z => absurd z (noA b), e0.funs, e0.frf⟩,
    rfl, e0.bare, Un.kept kp, ⟨_, hns, fun i y v e1 e2 e3 => ?_⟩, fun y c e => ?_, e0.hok.fresh (Nat.le_refl _), fun y c e => ?_, fun q hq => absurd (show q ∈ ([] : List (Addr × Obj)) ++ [] from hq) (by simp), e0.hok.kept kp, by simp [L.len]; rfl⟩
  · have hy : scope.names.lookup y = some .cell ∨ scope.names.lookup y = some .free := hy
    rcases hy with hy | hy
    · exact absurd rfl (L.own _ (PySem.mem_of_lookup hy)).2
    · exact L.has _ (PySem.mem_of_lookup hy) rfl
  · have z : false = true := z
    cases z
  · have e3 : Vis scope y := e3
    have e2 : (vs.map some)[i]? = some (some v) := e2
    rw [List.getElem?_map] at e2
    cases hv : vs[i]? with
    | none => rw [hv] at e2; cases e2
    | some v' =>
      rw [hv] at e2
      cases e2
      obtain ⟨c, u, h1, h2, h3⟩ := L.vals i y v e1 hv e3
      refine ⟨u, h3, .inr ⟨?_, c, h1, keepCell kb h2⟩⟩
      rcases e3 with k | k | k
      · exact absurd rfl (L.own _ (PySem.mem_of_lookup k)).1
      · exact .inl k
      · exact .inr k
  · obtain ⟨v, h⟩ := L.cells y c e
    exact ⟨v, keepCell kb h⟩
  · obtain ⟨v, o, ho, hd⟩ := L.cells y c e
    exact (e0.bs c o ho).2
/-- a closure keeps its promise, by its body -/
theorem lam_ok {N : List Str} {qual : Str} {params : Arguments} {body : Expr} {scope : Scope} {cl : List (Str × Addr)} {f c' : Addr} {pm ctv : Value} {vs : List V} {k : Nat} {pt : SpecX} {Wb : EX → WE} (L : LamC base N scope cl vs)
    (of_ : base.get? f = some (PySem.W.kla_obj "<lambda>" qual params body scope cl pm c' ctv)) (oc : ∃ (oc : Obj) (vx : Array Value) (t : Tok), base.get? c' = some oc ∧ oc.data = .fields vx ∧ vx[1]? = some (.str qual t))
    (hbind : bindArgs (PySem.W.kla_fn "<lambda>" qual params body scope cl pm (.ref c') ctv) ⟨[], []⟩ = pure [])
    (hb : ∀ (A : Around) (outer : List PySem.Env) (s : Shared) (H : Hp) (E : XK) (p : Pm) (W : EX), Room k (A.deeper (lmEnv qual scope cl s.heap.objs.size f c')) → FitsX K mg p W E → XTk (lmCx P w K mg base N qual scope cl f c' A outer s H E) E →
      PE (lmCx P w K mg base N qual scope cl f c' A outer s H E) body (tOf K mg p (Wb W)))
    (hp : ∀ ds b W, ds.length = vs.length → pt ds b W → Wb W (ds.map Slot.v) b (fun _ _ => False)) : LamOk P w K mg base (k + 1) f vs pt := by
  refine ⟨⟨_, _, _, _, of_⟩, fun A outer s H Q E hr e0 h => ?_⟩
  obtain ⟨_, pa, ca, B, ds, b, W, trk, bpa, bca, po, fr, q, kk⟩ := h
  obtain ⟨o2, vx, t, hoc, hdc, hvc⟩ := oc
  have of1 := (e0.bs _ _ of_).1
  refine PySem.W.kla_callFunE hr.depth of1 rfl L.co L.gen rfl ⟨c', o2, vx, t, rfl, (e0.bs _ _ hoc).1, hdc, hvc⟩ ?_
  rw [hbind]
  refine wpAny_pure (wpAny_newFunctionEnv (fun y hy => (L.own y hy).2) (fun y hy => absurd hy (by simp)) (fun h₁ hns hsb => ⟨(e0.mod.nolimit.keeps fun b o e => (e0.bs b o e).1).fresh _ hsb, ?_⟩) L.kind)
  show codeAny _ _ (.expr body (lmEnv qual scope cl s.heap.objs.size f c')) _ _
  have kp : ∀ b o, s.heap.get? b = some o → h₁.get? b = some o := fun b o e => hsb.extBut b o (Nat.ne_of_lt (Heap.lt_size e)) (Heap.get?_push_of_some _ e)
  have J : Inv (lmCx P w K mg base N qual scope cl f c' A outer s H E) [] (vs.map some) H { s with heap := h₁, toks := s.toks + ([] : List (Str × Value)).length } := lm_start L e0 hr.hd hns kp
  have tk : XTk (lmCx P w K mg base N qual scope cl f c' A outer s H E) E := takes_of rfl rfl rfl rfl
  have el : vs.length = N.length := L.len
  have R := start_rel (N := N) (n := vs.length) rfl (by omega) trk bpa bca po fr
  have e1 : L2.start N vs = vs.map some := by simp [L2.start, el]
  have e2 : ds.map Slot.v ++ List.replicate (N.length - vs.length) Slot.un = ds.map Slot.v := by simp [el]
  rw [e1, e2] at R
  refine PySem.W.kla_codeExpr (wpAny_mono ((hb A outer s H E ⟨pa, ca, B, H, N.length⟩ W (hr.deeper _) ⟨kk⟩ tk).run [] _ _ H Q J ⟨B, _, b, _, R, hp ds b W fr.length.symm q, fun _ _ _ _ _ _ _ z => z.elim⟩) (fun v s' hq => ?_) fun e s' hq => hq)
  obtain ⟨w', H', J', rv, q⟩ := hq
  exact ⟨w', H', J'.os, J'.bare, J'.base, J'.hok, rv, q⟩
end
/-! ### a call of what a name holds -/
/-- x(), x holding a closure: which, and what is wanted of what it raises -/
def wAct (LL : List (Addr × List V × SpecX)) (i : Nat) (W : EX) : WE := fun env b _ => ∃ f vs ds pt, env[i]? = some (.v (.fn f vs ds)) ∧ (f, vs, pt) ∈ LL ∧ pt ds b W
section
variable {X : Cx} {x : Str} {i k : Nat} {W : EX} {E : XK} {Wx : WX} {p : Pm} {p1 p2 : Pos} {LL : List (Addr × List V × SpecX)}
theorem pe_act (hL : ∀ l ∈ LL, LamOk X.prog X.w X.K X.mg X.base k l.1 l.2.1 l.2.2) (hr : Room k X.A) (tk : Takes X Wx) (hW : ∀ cls d σ H, E cls d H → Wx cls d σ H) (fx : FitsX X.K X.mg p W E)
    (hN : X.N[i]? = some x) (hv : Vis X.env.scope x) (hd : (x == ("__debug__" : Str)) = false := by decide) (hcd : (x == ("__classdict__" : Str)) = false := by decide) :
    PE X (.Call (.Name x p1) [] [] p2) (tOf X.K X.mg p (wAct LL i W)) := by
  refine ⟨fun pins s σ H Q I h => ?_⟩
  obtain ⟨B, env, b, Qd, R, ⟨f, vs, ds, pt, he, hl, hp⟩, kk⟩ := h
  obtain ⟨v0, hs0, hs⟩ := R.slots i _ he
  cases hs with
  | fn fr =>
  have Lk := hL _ hl
  obtain ⟨oc, od, fd, osl, h1⟩ := Lk.kla
  refine wpAny_Call_Name_kw (thn ((pe_var (pos := p1) (i := i) hN hv hd hcd).run pins s σ H (fun v H1 => v = .ref f ∧ H1 = H) I ⟨.ref f, hs0, rfl, rfl⟩) fun u s1 ⟨v, H1, I1, r1, q1⟩ => ?_)
  obtain ⟨ev, eH⟩ := q1
  subst ev
  rw [eH] at I1
  obtain rfl : u = Value.ref f := r1
  have of1 := (I1.bs _ _ h1).1
  refine PySem.W.callWith_F0 ⟨_, _, _, _, of1⟩ ?_
  refine wpAny_call (codeAny_mono (Lk.run X.A X.stack s1 H Q E hr I1.env0 ⟨rfl, p.pa, p.ca, B, ds, b, W, R.trk, R.bpa, R.sub _ R.oca, R.pen, fr, hp, ?_⟩) fun r s' hq => ?_)
  · exact fit_call fx R (H := H)
  · cases r with
    | error e => exact passes_call tk hW pins σ H s1 e s' I1 hq
    | ok fl =>
      cases fl with
      | ret u => exact I1.after hq
      | next => exact False.elim hq
      | brk => exact False.elim hq
      | cont => exact False.elim hq
end
end En
/-! Lambdas made in a law: they are tracked, and so are their code objects and the table. -/
namespace En
open PySem PySem.Spec PyProof.Rows L2
/-- a lambda that was made -/
structure Lm where
  f : Addr
  c : Addr
  pm : Value
  ct : Value
  params : Arguments
  body : Expr
  scope : Scope
abbrev Lm.obj (q : Str) (cells : List (Str × Addr)) (l : Lm) : Obj := PySem.W.kla_obj "<lambda>" q l.params l.body l.scope (cloFrom cells l.scope.names []) l.pm l.c l.ct
def FnH (q : Str) (cells : List (Str × Addr)) (l : Lm) : HO := .ext fun h => h.get? l.f = some (l.obj q cells)
structure Facts (q : Str) (cells : List (Str × Addr)) (P : Addr) (L : List Lm) (H : Hp) : Prop where
  tab : LamX.TabS H P q
  fn : ∀ l ∈ L, H l.f = some (FnH q cells l) ∧ H l.c = some (LamX.CodeO l.c q)
def _root_.L2.HO.seen : HO → Bool | .ext _ => true | .tbl _ => true | _ => false
/-- what of a heap is of lambdas -/
def hx (H : Hp) : Hp := fun a => match H a with | some o => if o.seen then some o else none | none => none
theorem hx_of {H : Hp} {a : Addr} {o : HO} (h : H a = some o) (s : o.seen = true) : hx H a = some o := by unfold hx; rw [h]; simp [s]
theorem of_hx {H : Hp} {a : Addr} {o : HO} (h : hx H a = some o) : H a = some o ∧ o.seen = true := by
  unfold hx at h
  split at h
  · rename_i u e
    split at h
    · cases h
      exact ⟨e, by assumption⟩
    · cases h
  · cases h
theorem hx_no {H : Hp} {a : Addr} {o : HO} (h : H a = some o) (s : o.seen = false) : hx H a = none := by unfold hx; rw [h]; simp [s]
section
variable {q : Str} {cells : List (Str × Addr)} {P : Addr} {L : List Lm} {H H' : Hp}
theorem tabS_of (t : LamX.TabS H P q) (e : ∀ b o, H b = some o → o.seen = true → H' b = some o) : LamX.TabS H' P q := by
  obtain ⟨ps, h1, h2, h3⟩ := t
  refine ⟨ps, e _ _ h1 rfl, h2, fun pos cv hc => ?_⟩
  obtain ⟨c, e1, e2⟩ := h3 pos cv hc
  exact ⟨c, e1, e _ _ e2 rfl⟩
theorem Facts.of (F : Facts q cells P L H) (e : ∀ b o, H b = some o → o.seen = true → H' b = some o) : Facts q cells P L H' :=
  ⟨tabS_of F.tab e, fun l hl => ⟨e _ _ (F.fn l hl).1 rfl, e _ _ (F.fn l hl).2 rfl⟩⟩
theorem Facts.hx (F : Facts q cells P L H) : Facts q cells P L (hx H) := F.of fun b o h s => hx_of h s
end
section
variable {X : Cx} {pins : List (Addr × Obj)} {σ : L2.St} {H : Hp} {s : Shared}
/-- a lambda is made: it is new, and tracked -/
theorem lam_new {q : Str} {c P : Addr} {L : List Lm} {params : Arguments} {body : Expr} {scope : Scope} {pos : Pos} {E : Value → Shared → Prop} {Q : Value → Shared → Prop} (I : Inv X pins σ H s) (TB : LamX.TabB X.base X.mg c P) (hcode : X.env.code = .ref c)
    (hq : q = X.env.qual ++ "<lambda>") (F : Facts q X.env.cells P L H) (hdef : defaultsOf params X.env = ([], [])) (hfree : ∀ y ∈ scope.names, y.2 = .free → ∃ c, X.env.cells.lookup y.1 = some c)
    (h : ∀ (l : Lm) (H1 : Hp) (s' : Shared), l.params = params → l.body = body → l.scope = scope → Inv X pins σ H1 s' → (∀ b o, H b = some o → b ≠ P → H1 b = some o) → H l.f = none → Facts q X.env.cells P (l :: L) H1 → Q (.ref l.f) s') :
    wpAny (model X.prog X.w) X.A (eval (.Lambda params body scope pos) X.env) Q E s := by
  subst hq
  obtain ⟨⟨ps, hP, ht, ha⟩, hF⟩ := F
  refine PySem.W.kla_eval hdef ?_
  have bP : s.heap.BuiltinsAt X.mg P := TB.bm.keeps I.bk
  have hP' : s.heap.get? P = some { cls := .none, data := .fields ps } := I.hok P _ hP
  -- behind the making: a heap with the code object, then the function
  have fin : ∀ {H1 : Hp} {h1 : Heap} {tk : Nat} {c' : Addr} {ctv : Value} {ps1 : Array Value}, Inv X pins σ H1 { s with heap := h1, toks := tk } → s.heap.objs.size ≤ h1.objs.size → (∀ b o, H b = some o → b ≠ P → H1 b = some o) → H1 P = some (.tbl ps1) → TriplesOk ps1.toList →
      (∀ (p' : Pos) (cv : Value), codeAmong p' ps1.toList = some cv → ∃ c0, cv = .ref c0 ∧ H1 c0 = some (LamX.CodeO c0 (X.env.qual ++ "<lambda>"))) → H1 c' = some (LamX.CodeO c' (X.env.qual ++ "<lambda>")) →
      Q (.ref h1.objs.size) { s with heap := h1.push (PySem.W.kla_obj "<lambda>" (X.env.qual ++ "<lambda>") params body scope (cloFrom X.env.cells scope.names []) ((X.mg "__name__").getD .none) c' ctv), toks := tk } := by
    intro H1 h1 tk c' ctv ps1 I1 hsz hk h1P ht1 ha1 hc1
    have nF : H1 h1.objs.size = none := I1.hok.fresh (Nat.le_refl _)
    have e0 : ∀ b o, H1 b = some o → upd H1 h1.objs.size (FnH (X.env.qual ++ "<lambda>") X.env.cells ⟨h1.objs.size, c', (X.mg "__name__").getD .none, ctv, params, body, scope⟩) b = some o := fun b o e => by rw [upd_ne (ne_of_none e nF)]; exact e
    refine h ⟨h1.objs.size, c', (X.mg "__name__").getD .none, ctv, params, body, scope⟩ _ _ rfl rfl rfl (I1.laid (a := h1.objs.size) (o := FnH (X.env.qual ++ "<lambda>") X.env.cells ⟨h1.objs.size, c', (X.mg "__name__").getD .none, ctv, params, body, scope⟩) (t' := tk) (h' := h1.push (PySem.W.kla_obj "<lambda>" (X.env.qual ++ "<lambda>") params body scope (cloFrom X.env.cells scope.names []) ((X.mg "__name__").getD .none) c' ctv)) (fun b u e => Heap.get?_push_of_some _ e) (Nat.le_refl _) ?_) (fun b o e n => e0 b o (hk b o e n)) (I.hok.fresh hsz) ⟨⟨ps1, e0 _ _ h1P, ht1, fun p' cv hcv => ?_⟩, fun l hl => ?_⟩
    · exact ⟨Heap.get?_push_size _ rfl, ⟨_, Heap.get?_push_size _ rfl⟩, fun a b h1 h2 => h2 _ h1⟩
    · obtain ⟨c0, a1, a2⟩ := ha1 p' cv hcv
      exact ⟨c0, a1, e0 _ _ a2⟩
    · rcases List.mem_cons.mp hl with z | z
      · subst z
        exact ⟨upd_same, e0 _ _ hc1⟩
      · obtain ⟨z1, z2⟩ := hF l z
        have n1 : l.f ≠ P := fun e => by rw [e, hP] at z1; cases z1
        have n2 : l.c ≠ P := fun e => by rw [e, hP] at z2; cases z2
        exact ⟨e0 _ _ (hk _ _ z1 n1), e0 _ _ (hk _ _ z2 n2)⟩
  cases hc : codeAmong pos ps.toList with
  | some cv =>
    obtain ⟨c', e, hco⟩ := ha pos cv hc
    subst e
    refine PySem.W.kla_makeFunctionHit (mg := X.mg) (c := c) (P := P) (ps := ps) (closure_ok hfree) I.ok.glob (I.mod.glob.keeps I.bk) hcode (TB.code.keeps I.bk) hP' ht hc bP fun ctv h' tk hx hsz => ?_
    exact fin (I.kept fun b o e => hx b o e) hsz (fun b o e _ => e) hP ht ha hco
  | none =>
    refine PySem.W.kla_makeFunction (mg := X.mg) (c := c) (P := P) (ps := ps) (closure_ok hfree) I.ok.glob (I.mod.glob.keeps I.bk) hcode (TB.code.keeps I.bk) hP' ht hc TB.gP bP fun c' ctv h' tk hx hge hlt hrec htb => ?_
    obtain ⟨c2, oc, vs, t, e2, hoc, hd, hv⟩ := hrec
    cases e2
    have nC : H c' = none := I.hok.fresh hge
    have I1 := LamX.inv_table (t' := tk) (more := #[rawInt pos.line, rawInt pos.col, .ref c']) (h' := h') I hP (fun b o hb e => hx b o hb e) htb hge ⟨oc, vs, t, hoc, hd, hv⟩
    have kp : ∀ b o, H b = some o → b ≠ P → upd (upd H P (.tbl (ps ++ #[rawInt pos.line, rawInt pos.col, .ref c']))) c' (LamX.CodeO c' (X.env.qual ++ "<lambda>")) b = some o := fun b o e n => by
      rw [upd_ne (ne_of_none e nC), upd_ne n]
      exact e
    have eL : (ps ++ #[rawInt pos.line, rawInt pos.col, .ref c']).toList = ps.toList ++ [rawInt pos.line, rawInt pos.col, .ref c'] := by simp
    refine fin I1 (Nat.le_trans hge (Nat.le_of_lt hlt)) kp (by rw [upd_ne (ne_of_none hP nC), upd_same]) (by rw [eL]; exact PySem.TriplesOk_snoc _ _ _ _ ht) (fun p' cv hcv => ?_) upd_same
    rw [eL] at hcv
    rcases LamX.among_app _ ht hcv with z | z
    · obtain ⟨c0, e1, e2⟩ := ha p' cv z
      exact ⟨c0, e1, kp _ _ e2 fun z => by rw [z, hP] at e2; cases e2⟩
    · exact ⟨c', z, upd_same⟩
end
end En
/-! Expressions with lambdas in them; a list of them. -/
namespace En
open PySem PySem.Spec PyProof.Rows L2
/-- what is fixed while lambdas are made: the name, the cells, the table -/
structure LmP where
  q : Str
  cells : List (Str × Addr)
  P : Addr
abbrev FactsL (g : LmP) (L : List Lm) (H : Hp) : Prop := Facts g.q g.cells g.P L H
/-- the state, for lambdas -/
structure RelL (K : PySem.W.Frag) (mg : Str → Option Value) (g : LmP) (L : List Lm) (p : Pm) (B : Addr → Prop) (H : Hp) (σ : L2.St) (env : Env) (b : Nat) : Prop where
  rel : Rel K mg p B H σ env b
  facts : FactsL g L H
  bP : B g.P
  h0 : p.H0 = fun _ => none
abbrev Pm.bare (p : Pm) : Pm := ⟨p.pa, p.ca, p.O, fun _ => none, p.n⟩
section
variable {K : PySem.W.Frag} {mg : Str → Option Value} {g : LmP} {L : List Lm} {p : Pm} {B B' : Addr → Prop} {H H' : Hp} {σ : L2.St} {env : Env} {b b' : Nat}
theorem pen_ne {pa ca : Addr} {H : Hp} {b : Nat} {a : Addr} {o : HO} (h : PenOk pa ca H b) (e : H a = some o) (s : o.seen = true) : a ≠ pa ∧ a ≠ ca := by
  obtain ⟨cells, k, dg, ct, fd, h1, h2, _⟩ := h
  refine ⟨fun z => ?_, fun z => ?_⟩
  · rw [z, h1] at e
    cases e
    cases s
  · rw [z, h2] at e
    cases e
    cases s
/-- rooted anew -/
theorem Rel.bare (R : Rel K mg p B H σ env b) : Rel K mg p.bare B H σ env b :=
  ⟨R.sub, R.trk, R.opa, R.oca, R.pen, fun a o ha _ => (by cases (show (none : Option HO) = some o from ha)), R.len, R.nl, fun i s hs => by
    cases s with
    | un => trivial
    | v d => exact R.slots i _ hs
    | own ds =>
      obtain ⟨q, xs, h1, h2, h3, h4, h5, h6, h7⟩ := R.slots i _ hs
      exact ⟨q, xs, h1, h2, h3, h4, h5, rfl, h7⟩⟩
theorem Facts.ext (F : FactsL g L H) (po : PenOk p.pa p.ca H b) (e : Ext p.pa H H') : FactsL g L H' := F.of fun a o h s => e a o h (pen_ne po h s).1
theorem RelL.step (R : RelL K mg g L p B H σ env b) (R1 : Rel K mg p B H' σ env b') (e : Ext p.pa H H') : RelL K mg g L p B H' σ env b' := ⟨R1, R.facts.ext R.rel.pen e, R.bP, R.h0⟩
/-- the table grows, all else stays -/
theorem RelL.grow (R : RelL K mg g L p B H σ env b) {L' : List Lm} (k : ∀ b o, H b = some o → b ≠ g.P → H' b = some o) (F : FactsL g L' H') : RelL K mg g L' p B H' σ env b ∧ Kp B H B H' := by
  have kp : Kp B H B H' := fun a o ha na => ⟨k a o ha fun z => na (by rw [z]; exact R.bP), na⟩
  obtain ⟨ps, hP, _⟩ := R.facts.tab
  have ne : ∀ {a : Addr} {o : HO}, H a = some o → o.seen = false → a ≠ g.P := fun h s z => by
    rw [z, hP] at h
    cases h
    cases s
  refine ⟨⟨⟨R.rel.sub, fun a ha => ?_, R.rel.opa, R.rel.oca, ?_, fun a o ha _ => ?_, R.rel.len, R.rel.nl, fun i s hs => ?_⟩, F, R.bP, R.h0⟩, kp⟩
  · by_cases z : a = g.P
    · obtain ⟨ps', h1, _⟩ := F.tab
      rw [z, h1]
      simp
    · cases h : H a with
      | none => exact absurd h (R.rel.trk a ha)
      | some o => rw [k a o h z]; simp
  · obtain ⟨cells, kk, dg, ct, fd, h1, h2, r⟩ := R.rel.pen
    exact ⟨cells, kk, dg, ct, fd, k _ _ h1 (ne h1 rfl), k _ _ h2 (ne h2 rfl), r⟩
  · rw [R.h0] at ha
    cases (show (none : Option HO) = some o from ha)
  · have old := R.rel.slots i s hs
    cases s with
    | un => trivial
    | v d =>
      obtain ⟨u, h1, h2⟩ := old
      exact ⟨u, h1, h2.kp kp⟩
    | own ds =>
      obtain ⟨q, xs, h1, h2, h3, h4, h5, h6, h7⟩ := old
      exact ⟨q, xs, h1, k _ _ h2 (ne h2 rfl), h3.kp kp, h4, h5, h6, h7⟩
end
abbrev WEL := List Lm → Env → Nat → (D → Nat → List Lm → Prop) → Prop
abbrev WLL := List Lm → Env → Nat → (List D → Nat → List Lm → Prop) → Prop
def tOfL (K : PySem.W.Frag) (mg : Str → Option Value) (g : LmP) (p : Pm) (W : WEL) : TE := fun σ H Q => ∃ B env b L Qd, RelL K mg g L p B H σ env b ∧ W L env b Qd ∧
  ∀ v H' d b' L', RelL K mg g L' p B H' σ env b' → Kp B H B H' → FR K mg p.pa B H' v d → Qd d b' L' → Q v H'
def tLsL (K : PySem.W.Frag) (mg : Str → Option Value) (g : LmP) (p : Pm) (W : WLL) : TA := fun σ H Q => ∃ B env b L Qd, RelL K mg g L p B H σ env b ∧ W L env b Qd ∧
  ∀ v H' d b' L', RelL K mg g L' p B H' σ env b' → Kp B H B H' → FRs K mg p.pa B H' v d → Qd d b' L' → Q v H'
def wPl (W : WE) : WEL := fun L env b Q => W env b fun d b' => Q d b' L
def wLam (params : Arguments) (body : Expr) (scope : Scope) : WEL := fun L env b Q => ∀ l : Lm, l.params = params → l.body = body → l.scope = scope → Q (.fn l.f [] []) b (l :: L)
def wNilL : WLL := fun L env b Q => Q [] b L
def wConsL (W1 : WEL) (W2 : WLL) : WLL := fun L env b Q => W1 L env b fun d b1 L1 => W2 L1 env b1 fun ds b2 L2 => Q (d :: ds) b2 L2
def wTupL (W : WLL) : WEL := fun L env b Q => W L env b fun ds b' L' => ds.length ≤ 1000 ∧ Q (.tup ds) b' L'
section
variable {X : Cx} {e : Expr} {es : List Expr} {We : WE} {W : WEL} {Ws : WLL} {g : LmP} {p : Pm} {pos : Pos}
theorem pl_pl (h : QE X e We) : PE X e (tOfL X.K X.mg g p (wPl We)) := PE.le (h p) fun σ H Q ⟨B, env, b, L, Qd, R, w, k⟩ =>
  ⟨B, env, b, _, R.rel, w, fun v H' d b' R1 e1 f1 q => k v H' d b' L (R.step R1 e1) (R.rel.ext_kp e1) f1 q⟩
theorem pl_lam {c : Addr} {params : Arguments} {body : Expr} {scope : Scope} (TB : LamX.TabB X.base X.mg c g.P) (hcode : X.env.code = .ref c) (hq : g.q = X.env.qual ++ "<lambda>") (hcl : g.cells = X.env.cells) (hdef : defaultsOf params X.env = ([], [])) (Lm : LamX.LamS X.env.scope scope) :
    PE X (.Lambda params body scope pos) (tOfL X.K X.mg g p (wLam params body scope)) := ⟨fun pins s σ H Q I ⟨B, env, b, L, Qd, R, w, k⟩ => by
  have F : Facts g.q X.env.cells g.P L H := by rw [← hcl]; exact R.facts
  refine lam_new I TB hcode hq F hdef (Lm.has I.ok) fun l H1 s' e1 e2 e3 I1 kk nf F1 => ?_
  rw [← hcl] at F1
  obtain ⟨R1, k1⟩ := R.grow kk F1
  exact ⟨.ref l.f, H1, I1, rfl, k _ H1 _ b _ R1 k1 (.fn .nil) (w l e1 e2 e3)⟩⟩
theorem pl_nil : PA X [] (tLsL X.K X.mg g p wNilL) := ⟨fun pos pins s σ H Q I ⟨B, env, b, L, Qd, R, w, k⟩ => pa_nil.run pos pins s σ H Q I (k [] H [] b L R (.refl _ _) .nil w)⟩
theorem pl_cons (h1 : PE X e (tOfL X.K X.mg g p W)) (h2 : PA X es (tLsL X.K X.mg g p Ws)) (hs : starEach (e :: es) X.env = (false, eval e X.env) :: starEach es X.env := by rfl) : PA X (e :: es) (tLsL X.K X.mg g p (wConsL W Ws)) := ⟨fun pos pins s σ H Q I ⟨B, env, b, L, Qd, R, w, k⟩ =>
  (pa_cons h1 h2 hs).run pos pins s σ H Q I ⟨B, env, b, L, _, R, w, fun v H1 d b1 L1 R1 k1 f1 w1 => ⟨B, env, b1, L1, _, R1, w1, fun vs H2 ds b2 L2 R2 k2 f2 q => k (v :: vs) H2 (d :: ds) b2 L2 R2 (k1.trans k2) (.cons (f1.kp k2) f2) q⟩⟩⟩
theorem pl_tup {x1} (h : PA X es (tLsL X.K X.mg g p Ws)) : PE X (.Tuple es x1 pos) (tOfL X.K X.mg g p (wTupL Ws)) := PE.le (pe_tup h) fun σ H Q ⟨B, env, b, L, Qd, R, w, k⟩ =>
  ⟨B, env, b, L, _, R, w, fun vs H1 ds b1 L1 R1 k1 f1 q => ⟨by have := f1.length; have := line_ge; omega, fun n hx => by
    have same := same_new (o := HO.tup vs) hx
    exact k _ _ (.tup ds) b1 L1 (R1.step (R1.rel.same same) (.same same)) (k1.trans (same_kp same)) (FR.newT R1.rel hx f1) q.2⟩⟩
end
/-- what is wanted behind a statement, lambdas known -/
abbrev KL := List Lm → Env → Nat → Prop
def tKL (K : PySem.W.Frag) (mg : Str → Option Value) (g : LmP) (p : Pm) (κ : KL) : L2.St → Hp → Prop := fun σ H => ∃ B env b L, RelL K mg g L p B H σ env b ∧ κ L env b
abbrev WSL := KL → KL
def tSL (K : PySem.W.Frag) (mg : Str → Option Value) (g : LmP) (p : Pm) (rt : D → Prop) (W : WSL) : TS := fun D σ H => ∃ κ, tKL K mg g p (W κ) σ H ∧ (∀ σ' H', tKL K mg g p κ σ' H' → D.nx σ' H')
section
variable {X : Cx} {x : Str} {e : Expr} {es : List Expr} {st : Stmt} {sts : List Stmt} {W : WEL} {W1 W2 : WSL} {Ws : WLL} {g : LmP} {p : Pm} {pos pos' : Pos} {rt : D → Prop} {i : Nat}
/-- x = [e] -/
theorem sl_list (hN : X.N.Nodup) (hi : X.N[i]? = some x) (hx : Loc X.env.scope x) {lp : Pos} (h : PA X es (tLsL X.K X.mg g p Ws)) (hs : swapsWith (.List es lp) (some (.Name x pos')) pos.line X.env = pure false := by rfl) (hf : X.fn x = true ∨ X.env.scope.names.lookup x = some .local := by first | exact .inl rfl | exact .inr rfl | assumption) :
    PS X (.Assign [.Name x pos'] (.List es lp) pos) (tSL X.K X.mg g p rt fun κ L env b => Ws L env b fun ds b' L' => ds.length ≤ 1000 ∧ κ L' (env.set i (.own ds)) b') := ⟨fun pins s σ H D I ⟨κ, ⟨B, env, b, L, R, w⟩, kk⟩ =>
  (ps_set hN hi hx (pe_lst h) hs hf).run pins s σ H D I ⟨B, env, b, L, _, R, w, fun vs H1 ds b1 L1 R1 k1 f1 q => ⟨by have := f1.length; have := line_ge; omega, fun n hx => kk _ _ ⟨_, _, b1, L1, ⟨by
      have same := same_new (o := HO.lst vs) hx
      have nB : ¬ B n := fun z => R1.rel.trk n z hx
      have R2 := R1.rel.same same
      exact Rel.seto (B0 := B) (R1.rel.more hx) R2 (len_of I.len R1.rel hi) upd_same (f1.kp fun a o e n' => ⟨same a o e, fun z => z.elim n' (ne_of_none e hx)⟩) nB (by rw [R1.h0]), by
        have same := same_new (o := HO.lst vs) hx
        exact R1.facts.of fun a o h _ => same a o h, Or.inl R1.bP, R1.h0⟩, q.2⟩⟩⟩⟩
/-- x.append(e) -/
theorem sl_app {apos cpos px : Pos} (hi : X.N[i]? = some x) (hv : Vis X.env.scope x) (h : PE X e (tOfL X.K X.mg g p W)) (hd : (x == ("__debug__" : Str)) = false := by decide) (hcd : (x == ("__classdict__" : Str)) = false := by decide)
    (hbase : attributeBase (.Name x px) "append" X.env (eval (.Name x px) X.env) = eval (.Name x px) X.env := by rfl)
    (hfew : ((backTo cpos (starEach (e :: []) X.env)).all (fun x => !x.1) && (backToKw cpos (keywordEach [] X.env)).all (fun x => x.1.isSome)
      && decide ((e :: ([] : List Expr)).length + ([] : List Keyword).length + (if ([] : List Keyword).isEmpty then 0 else 1) < 30)) = true := by rfl)
    (hline : (apos.endLine == cpos.line) = true := by rfl) (hs : starEach (e :: []) X.env = (false, eval e X.env) :: starEach [] X.env := by rfl) (hplain : (backTo cpos (starEach [] X.env)).any (·.1) = false := by rfl)
    (hsw : swapsWith (.Call (.Attribute (.Name x px) "append" apos) [e] [] cpos) none pos.line X.env = pure false := by rfl) :
    PS X (.Expr (.Call (.Attribute (.Name x px) "append" apos) [e] [] cpos) pos) (tSL X.K X.mg g p rt fun κ L env b => match env[i]? with | some (.own ds) => W L env b fun d b' L' => ds.length ≤ 1000 ∧ κ L' (env.set i (.own (ds ++ [d]))) b' | _ => False) :=
  PS.le (ps_expr (pe_bm PySem.F.plainAttrs_list PySem.F.slot_list_append PySem.F.type_list_append mt_append (pe_var hi hv hd hcd) (pa_cons h pa_nil hs) hbase hfew hline hs hplain) hsw) fun D σ H ⟨κ, ⟨B, env, b, L, R, w⟩, kk⟩ => by
    have hl := line_ge
    dsimp only at w
    split at w
    · rename_i ds ho
      obtain ⟨q, xs, h1, h2, h3, h4⟩ := R.rel.slots i _ ho
      refine ⟨.ref q, h1, .inl ⟨rfl, xs, .of h2⟩, B, env, b, L, _, R, w, fun v H1 d b1 L1 R1 k1 f1 qd => ?_⟩
      obtain ⟨q', xs', g1, g2, g3, g4⟩ := R1.rel.slots i _ ho
      have eq' : q = q' := by
        rw [h1] at g1
        simpa using g1
      subst eq'
      have hlen := g3.length
      refine ⟨q, xs', v, rfl, rfl, g2, by have := qd.1; omega, ?_⟩
      obtain ⟨R2, k2⟩ := R1.rel.put ho h1 (g3.append (.cons f1 .nil)) (xs := xs')
      refine kk _ _ ⟨_, _, b1, L1, ⟨R2, R1.facts.of fun a o h s => ?_, R1.bP, R1.h0⟩, qd.2⟩
      rw [upd_ne fun z => ?_]
      · exact h
      · rw [z, g2] at h
        cases h
        cases s
    · exact w.elim
theorem sl_cons (h1 : PS X st (tSL X.K X.mg g p rt W1)) (h2 : PSs X sts (tSL X.K X.mg g p rt W2)) : PSs X (st :: sts) (tSL X.K X.mg g p rt fun κ => W1 (W2 κ)) := PSs.le (pss_cons h1 h2) fun D σ H ⟨κ, h, kk⟩ => ⟨W2 κ, h, fun σ' H' h' => ⟨κ, h', kk⟩⟩
end
end En
/-! Where it is known that no repr is under way: repr of rows; defs that need it. -/
namespace En
open PySem PySem.Spec PyProof.Rows L2
mutual
theorem py_nd : ∀ d : D, d.py.hasDict = false
  | .non => by simp only [D.py, PyData.hasDict]
  | .bl b => by simp only [D.py, PyData.hasDict]
  | .int i => by simp only [D.py, PyData.hasDict]
  | .str s => by simp only [D.py, PyData.hasDict]
  | .tup ds => by simp only [D.py, PyData.hasDict]; exact pys_nd ds
  | .lst ds => by simp only [D.py, PyData.hasDict]; exact pys_nd ds
  | .ins _ _ => by simp only [D.py, PyData.hasDict]
  | .pen => by simp only [D.py, PyData.hasDict]
  | .fn _ _ _ => by simp only [D.py, PyData.hasDict]
theorem pys_nd : ∀ ds : List D, PyData.hasDictAll (D.pys ds) = false
  | [] => by simp only [D.pys, PyData.hasDictAll]
  | d :: ds => by simp only [D.pys, PyData.hasDictAll, py_nd d, pys_nd ds, Bool.or_self]
end
mutual
theorem py_dp : ∀ (n : Nat) (d : D), d.flat n = true → d.py.depth ≤ n
  | _, .non, _ => by simp only [D.py, PyData.depth]; omega
  | _, .bl b, _ => by simp only [D.py, PyData.depth]; omega
  | _, .int i, _ => by simp only [D.py, PyData.depth]; omega
  | _, .str s, _ => by simp only [D.py, PyData.depth]; omega
  | 0, .tup ds, h => by simp [D.flat] at h
  | n + 1, .tup ds, h => by
    have := pys_dp n ds (by simpa [D.flat] using h)
    simp only [D.py, PyData.depth]; omega
  | 0, .lst ds, h => by simp [D.flat] at h
  | n + 1, .lst ds, h => by
    have := pys_dp n ds (by simpa [D.flat] using h)
    simp only [D.py, PyData.depth]; omega
  | _, .ins _ _, _ => by simp only [D.py, PyData.depth]; omega
  | _, .pen, _ => by simp only [D.py, PyData.depth]; omega
  | _, .fn _ _ _, _ => by simp only [D.py, PyData.depth]; omega
theorem pys_dp : ∀ (n : Nat) (ds : List D), D.flats n ds = true → PyData.depthAll (D.pys ds) ≤ n
  | _, [], _ => by simp only [D.pys, PyData.depthAll]; omega
  | n, d :: ds, h => by
    simp only [D.flats, Bool.and_eq_true] at h
    have h1 := py_dp n d h.1
    have h2 := pys_dp n ds h.2
    simp only [D.pys, PyData.depthAll]; omega
end
/-- repr of what may be shown -/
structure Shows (d : D) : Prop where
  fl : d.flat 20 = true
  sh : d.py.showable = true
  sz : d.py.shown.length ≤ sizeLine
def dRepG : D → (D → Prop) → Prop := fun d Q => Shows d ∧ Q (.str d.py.shown)
def rRepG (K : PySem.W.Frag) : List V → Hp → VK → Prop := fun xs H Q => ∃ (v : V) (d : D), xs = [v] ∧ Dp K H v d.py ∧ Shows d ∧ Q (.str d.py.shown) H
section
variable {X : Cx} {e : Expr} {W : WE} {pos pp : Pos} {k : Nat}
theorem repr_any {A : Around} {prog : Program} {w : World} {h0 : Heap} {u : Value} {d : PyData} {as : List Addr} {s : Shared} {Q E : Value → Shared → Prop} (r : Reads h0 u d as) (hs : d.showable = true) (nd : d.hasDict = false) (hg : A.guards = some []) (hu : A.units + (d.depth + 1) < cLine) (hk0 : ∀ b o, h0.get? b = some o → s.heap.get? b = some o) (hsz : d.shown.length ≤ sizeLine)
    (hQ : ∀ h' t tk, (∀ b o, s.heap.get? b = some o → h'.get? b = some o) → Q (.str d.shown t) { s with heap := h', toks := tk }) : wpAny (model prog w) A (call (.builtin "repr") [u]) Q E s := by
  cases r with
  | none => simp only [PyData.shown] at hQ; exact PySem.P.repr_of_none (hQ s.heap _ _ fun _ _ e => e)
  | bool b => simp only [PyData.shown] at hQ; exact PySem.P.repr_of_bool (hQ s.heap _ _ fun _ _ e => e)
  | int i t =>
    have hs' : i.natAbs.log2 < 1920 := by simpa [PyData.showable] using hs
    simp only [PyData.shown] at hQ
    exact PySem.P.repr_of_int hs' (hQ s.heap _ _ fun _ _ e => e)
  | str x t =>
    have hsz' : (reprText x).length ≤ sizeLine := by simpa [PyData.shown] using hsz
    simp only [PyData.shown] at hQ
    exact PySem.P.repr_of_str (hQ s.heap _ _ fun _ _ e => e) hsz'
  | list a b c d => exact repr_of_reads' (.list a b c d) hs (PyData.noDict_hsm nd) hg hu hk0 hQ hsz
  | tuple a b c d => exact repr_of_reads' (.tuple a b c d) hs (PyData.noDict_hsm nd) hg hu hk0 hQ hsz
  | dict a b c d e => exact repr_of_reads' (.dict a b c d e) hs (PyData.noDict_hsm nd) hg hu hk0 hQ hsz
theorem call_repG (hg : X.A.guards = some []) (hr : Room k X.A) : CallR X (.builtin "repr") (rRepG X.K) := by
  intro pins s σ H xs us Q I r h
  obtain ⟨v, d, rfl, f, sh, q⟩ := h
  obtain ⟨u, rfl, ru⟩ := vals1 r
  obtain ⟨as, rd⟩ := Dp.reads I _ _ _ f ru
  have dp := py_dp 20 d sh.fl
  have hu := hr.un
  exact repr_any rd sh.sh (py_nd d) hg (by omega) (fun _ _ e => e) sh.sz fun h' t tk kk => ⟨.str _, H, I.kept kk, ⟨_, rfl⟩, q⟩
theorem c1_repG : C1Ok X (rRepG X.K) dRepG := by
  intro p B H σ env b x dx Q Qd R rx q k
  exact ⟨x, dx, rfl, RR.dp rx q.1.fl, q.1, k _ H _ (Same.refl _) (.str _) q.2⟩
theorem qe_repG (hA : X.A.guards = some []) (hr : Room k X.A) (hg : Gl X "repr") (hm : X.mg "repr" = none) (h : QB X e W) (he : starEach [e] X.env = (false, eval e X.env) :: starEach [] X.env := by rfl) (hpl : (backTo pos (starEach [] X.env)).any (·.1) = false := by rfl) :
    QE X (.Call (.Name "repr" pp) [e] [] pos) (wUn dRepG W) := qe_b1 (call_repG hA hr) c1_repG hg hm (by decide +kernel) h (by decide) (by decide) he hpl
end
/-! ### texts compared -/
def dEqS : Op2 := fun x y Q => match x, y with | .str a, .str b => Q (.bl (decide (a = b))) | _, _ => False
def dNeS : Op2 := fun x y Q => match x, y with | .str a, .str b => Q (.bl (!decide (a = b))) | _, _ => False
section
variable {X : Cx} {a c : Expr} {Wa Wc : WE} {pos : Pos}
theorem dec_strV (a b : Str) : decide (V.str a = V.str b) = decide (a = b) := by
  by_cases h : a = b <;> simp [h]
theorem ok_eqS : OpOk X rEq dEqS := by
  intro p B H σ env b x y dx dy Q Qd R rx ry q k
  cases dx <;> try exact q.elim
  cases dy <;> try exact q.elim
  rw [rx.str, ry.str]
  refine ⟨rfl, ?_⟩
  rw [dec_strV]
  exact k _ H _ (Same.refl _) (.bl _) q
theorem ok_neS : OpOk X rNe dNeS := by
  intro p B H σ env b x y dx dy Q Qd R rx ry q k
  cases dx <;> try exact q.elim
  cases dy <;> try exact q.elim
  rw [rx.str, ry.str]
  refine ⟨rfl, ?_⟩
  rw [dec_strV]
  exact k _ H _ (Same.refl _) (.bl _) q
theorem qe_eqS (ha : QB X a Wa) (hc : QB X c Wc) : QE X (.Compare a [.Eq] [c] pos) (wBin dEqS Wa Wc) := qe_cmp op_eq ok_eqS ha hc (nomark _)
theorem qe_neS (ha : QB X a Wa) (hc : QB X c Wc) : QE X (.Compare a [.NotEq] [c] pos) (wBin dNeS Wa Wc) := qe_cmp op_ne ok_neS ha hc (nomark _)
theorem qt_eqS (ha : QB X a Wa) (hc : QB X c Wc) : QT X (.Compare a [.Eq] [c] pos) (wT (wBin dEqS Wa Wc)) := qt_cmp op_eq ok_eqS ha hc (nomark _)
theorem qt_neS (ha : QB X a Wa) (hc : QB X c Wc) : QT X (.Compare a [.NotEq] [c] pos) (wT (wBin dNeS Wa Wc)) := qt_cmp op_ne ok_neS ha hc (nomark _)
end
/-! ### defs that need it -/
structure DfG (P : Program) (w : World) (K : PySem.W.Frag) (mg : Str → Option Value) (base : Heap) (k : Nat) (x : Str) (n : Nat) (pt : Spec) : Prop where
  ex : ∃ (f : Addr) (fd : FuncData) (ps : List Str), mg x = some (.ref f) ∧ PySem.W.keepIn K (.ref f) = true ∧ Binds K fd ps [] ∧ ps.length = n ∧
    ∀ (A : Around) (outer : List PySem.Env) (s : Shared) (H : Hp) (args : Args) (us : List Value) (vs : List V) (Q : VK) (E : XK), A.guards = some [] → Room k A → Env0 P w K mg base A outer s H → BindsTo s fd args (ps.zip us) → Vals vs us → spOf K mg n pt vs H Q E →
      codeAny (model P w) A (.call (.ref f) args) (CR CX0 outer P w H s Q E) s
theorem DfG.mono {P : Program} {w : World} {K : PySem.W.Frag} {mg : Str → Option Value} {base : Heap} {j k : Nat} {x : Str} {n : Nat} {pt : Spec} (h : DfG P w K mg base j x n pt) (hk : j ≤ k) : DfG P w K mg base k x n pt := by
  obtain ⟨f, fd, ps, h1, h2, h3, h4, h5⟩ := h.ex
  exact ⟨f, fd, ps, h1, h2, h3, h4, fun A outer s H args us vs Q E hA hr => h5 A outer s H args us vs Q E hA (hr.mono hk)⟩
section
variable {P : Program} {w : World} {K : PySem.W.Frag} {mg : Str → Option Value} {base : Heap}
theorem dfg_of {x qual : Str} {st : Stmt} {f : Addr} {fd : FuncData} {N ps : List Str} {k : Nat} {pt : Spec} {W : WS} (F : Fun K x qual st f fd) (S : FnScope N ps (defScope st)) (hm : mg x = some (.ref f)) (bd : Binds K fd ps [])
    (hb : ∀ (cdv : Value) (A : Around) (outer : List PySem.Env) (s : Shared) (H : Hp) (E : XK), A.guards = some [] → Room k (A.deeper (envOfC qual (defScope st) s.heap.objs.size f cdv)) → QSs (cxOf CX0 P w K mg base N qual (defScope st) f cdv A outer s H E).nox (defBody st) W)
    (hp : ∀ ds b Q, ds.length = ps.length → pt ds b Q → W { nx := fun _ b' => Q .non b', rt := Q } (ds.map Slot.v ++ List.replicate (N.length - ps.length) .un) b) : DfG P w K mg base (k + 1) x ps.length pt := by
  refine ⟨f, fd, ps, hm, F.kp, bd, rfl, fun A outer s H args us vs Q E hA hr e0 hbd r h => ?_⟩
  obtain ⟨hl, pa, ca, B, ds, b, Qd, trk, bpa, bca, po, fr, q, kk⟩ := h
  obtain ⟨oc, od, kV, doc, pm, an, cdv, ct, osl, rfl, lk, hcd⟩ := F.ex
  refine LamX.run_ofS lk hcd S hr e0 hbd r hl fun hr' => ?_
  refine ⟨_, (hb cdv A outer s H E hA hr' ⟨pa, ca, B, H, N.length⟩).nox, ?_⟩
  have e := fr.length
  refine ⟨B, _, b, _, start_rel hl (pre_len S) trk bpa bca po fr, hp ds b Qd (by rw [← e, hl]) q, ⟨fun σ' H' B' env' b' R' k' q' => kk .non H' .non b' R'.ext R'.pen .non q', fun _ _ _ _ _ _ _ z => z.elim, fun _ _ _ _ _ _ _ z => z.elim, fun v H' d b' f' e' po' q' => kk v H' d b' e' po' f' q'⟩⟩
end
section
variable {X : Cx} {x : Str} {n k : Nat} {pt : Spec} {e : Expr} {es : List Expr} {Ws : WL} {pos pp : Pos}
theorem qe_callG (F : DfG X.prog X.w X.K X.mg X.base k x n pt) (hA : X.A.guards = some []) (hr : Room k X.A) (hg : Gl X x) (ha : QA X (e :: es) Ws) (hdb : (x == ("__debug__" : Str)) = false := by decide)
    (he : starEach (e :: es) X.env = (false, eval e X.env) :: starEach es X.env := by rfl) (hpl : (backTo pos (starEach es X.env)).any (·.1) = false := by rfl) : QE X (.Call (.Name x pp) (e :: es) [] pos) (wCall n pt Ws) := fun p => by
  obtain ⟨f, fd, ps, hm, hk, hb, hn, G⟩ := F.ex
  refine ⟨fun pins s σ H Q I ⟨B, env, b, Qd, R, w, kk⟩ => ?_⟩
  refine wpAny_Call_Name_kw (ld_glob I hg hm ?_ hdb)
  refine PySem.W.callWith_K (h₀ := X.base) I.ok.mod.kin hk (thn ((ha p).run pos pins s σ H (fun vs H1 => spOf X.K X.mg n pt vs H1 Q E0) I ⟨B, env, b, _, R, w, fun vs H1 ds b1 R1 e1 f1 hl q => ⟨?_, p.pa, p.ca, B, ds, b1, Qd, R1.trk, R1.bpa, R1.sub _ R1.oca, R1.pen, f1, q.2, fun v H' d b' e2 po f2 qd => kk v H' d b' (R1.step e2 po) (e1.trans e2) f2 qd⟩⟩) fun us s1 ⟨vs, H1, I1, r, q⟩ => ⟨I1.kIn, ?_⟩) he hpl
  · rw [f1.length]
    exact q.1
  · have hl : us.length = ps.length := by rw [← r.length, q.1, hn]
    refine wpAny_call (codeAny_mono (G X.A X.stack s1 H1 ⟨us, []⟩ us vs Q E0 hA hr I1.env0 (by have := hb s1 us I1.kIn (by rw [List.append_nil]; exact hl); rwa [List.append_nil] at this) r q) fun r s' hq => ?_)
    cases r with
    | error e => exact (show False from hq).elim
    | ok fl =>
      cases fl with
      | ret u => exact I1.after hq
      | next => exact False.elim hq
      | brk => exact False.elim hq
      | cont => exact False.elim hq
end
end En
/-! try: work() / except C as n: return (tag, n.f, ..), several clauses. -/
namespace En
open PySem PySem.Spec PyProof.Rows L2
abbrev CL := List (Str × Str × List Str)
/-- what is told of an exception -/
def looks (gs : List (Str × D)) : List Str → Option (List D)
  | [] => some []
  | f :: fs => match gs.lookup f, looks gs fs with | some d, some ds => some (d :: ds) | _, _ => none
def toldC : CL → Str → List (Str × D) → Option D
  | [], _, _ => none
  | (c', tag, fs) :: cs, c, gs => if c == c' then (looks gs fs).map fun ds => .tup (.str tag :: ds) else toldC cs c gs
structure ExcF (K : PySem.W.Frag) (mg : Str → Option Value) (cs : CL) : Prop where
  cls : ∀ q ∈ cs, ∃ C, mg q.1 = some (.ref C) ∧ XfC K C ∧ ∀ f ∈ q.2.2, PySem.W.findIn K (.ref C) f = some none
  exm : ∀ q ∈ cs, ∀ q' ∈ cs, ∀ C C', mg q.1 = some (.ref C) → mg q'.1 = some (.ref C') → PySem.W.exmOne K (.ref C) (.ref C') = some (q.1 == q'.1)
inductive Atts (X : Cx) (n : Str) : List Expr → List Str → Prop
  | nil : Atts X n [] []
  | cons {f : Str} {p1 p2 : Pos} {es : List Expr} {fs : List Str} (hb : attributeBase (.Name n p1) f X.env (eval (.Name n p1) X.env) = eval (.Name n p1) X.env) (hs : starEach (.Attribute (.Name n p1) f p2 :: es) X.env = (false, eval (.Attribute (.Name n p1) f p2) X.env) :: starEach es X.env) (r : Atts X n es fs) :
      Atts X n (.Attribute (.Name n p1) f p2 :: es) (f :: fs)
inductive Fcls (X : Cx) (n : Str) : List ExceptHandler → CL → Prop
  | done : Fcls X n [] []
  | more {c tag : Str} {fs : List Str} {es : List Expr} {hs : List ExceptHandler} {cs : CL} {p1 p2 p3 p4 p5 : Pos} {j} {x1} (hg : Gl X c) (hd : (c == ("__debug__" : Str)) = false) (at_ : Atts X n es fs)
      (hs0 : starEach (.Constant (.str tag) j p2 :: es) X.env = (false, eval (.Constant (.str tag) j p2) X.env) :: starEach es X.env) (r : Fcls X n hs cs) :
      Fcls X n (.ExceptHandler (some (.Name c p1)) (some n) [.Return (some (.Tuple (.Constant (.str tag) j p2 :: es) x1 p3)) p4] p5 :: hs) ((c, tag, fs) :: cs)
def tXfs (a : Addr) (cls : Value) (d : Option Addr) (C : Addr) (i : Nat) : List Str → TA
  | [] => tNil
  | f :: fs => tCons (tXf a cls d C f (tVar i)) (tXfs a cls d C i fs)
section
variable {X : Cx} {n : Str} {i : Nat}
theorem pa_atts {a C : Addr} {oe : Obj} {cls : Value} {d : Option Addr} {pn : List (Addr × Obj)} (T : XfC X.K C) (hz : Zc cls d oe) (hf : ∃ vs, oe.data = .fields vs) (hN : X.N[i]? = some n) (hv : Vis X.env.scope n) (hd : (n == ("__debug__" : Str)) = false) (hcd : (n == ("__classdict__" : Str)) = false) :
    ∀ {es : List Expr} {fs : List Str}, Atts X n es fs → (∀ f ∈ fs, PySem.W.findIn X.K (.ref C) f = some none) → PA (X.suite a ((a, oe) :: pn)) es (tXfs a cls d C i fs)
  | _, _, .nil, _ => pa_nil
  | _, _, .cons hb hs r, no => pa_cons (pe_xf T (no _ List.mem_cons_self) hz hf (pe_var (X := X.suite a ((a, oe) :: pn)) hN hv hd hcd) hb) (pa_atts T hz hf hN hv hd hcd r fun f h => no f (List.mem_cons_of_mem _ h)) hs
theorem sat_atts {K : PySem.W.Frag} {mg : Str → Option Value} {pa : Addr} {B : Addr → Prop} {a C dd : Addr} {σ : L2.St} {H : Hp} {F : List (Str × V)} {gs : List (Str × D)} (hs : σ[i]? = some (some (.ref a))) (hd : H dd = some (.xd F)) (r : FRf K mg pa B H F gs) :
    ∀ {fs : List Str} {ds : List D} {Q : List V → Hp → Prop}, looks gs fs = some ds → (∀ vs, FRs K mg pa B H vs ds → Q vs H) → tXfs a (.ref C) (some dd) C i fs σ H Q
  | [], ds, Q, h, q => by
    cases h
    exact q [] .nil
  | f :: fs, ds, Q, h, q => by
    unfold looks at h
    cases hl : gs.lookup f with
    | none => rw [hl] at h; cases h
    | some d =>
      cases h2 : looks gs fs with
      | none => rw [hl, h2] at h; cases h
      | some es =>
        rw [hl, h2] at h
        cases h
        obtain ⟨v, e1, e2⟩ := FRf.lookup r hl
        exact ⟨.ref a, hs, rfl, rfl, dd, F, v, rfl, hd, e1, sat_atts hs hd r h2 fun vs f2 => q (v :: vs) (.cons e2 f2)⟩
/-- the clauses, and what they say of what flies -/
theorem clauses_of (hN : X.N[i]? = some n) (hv : Vis X.env.scope n) (hd : (n == ("__debug__" : Str)) = false) (hcd : (n == ("__classdict__" : Str)) = false) :
    ∀ {hs : List ExceptHandler} {cs : CL}, Fcls X n hs cs → ExcF X.K X.mg cs → ∃ l, Clauses X n hs l ∧
      ∀ (out : WX) (De : Ends) (τ : L2.St) (G : Hp) (c : Str) (tag : Str) (fs0 : List Str) (C dd : Addr) (F : List (Str × V)) (gs : List (Str × D)) (t : En.D) (pa : Addr) (B : Addr → Prop), (∀ q ∈ cs, ∀ C', X.mg q.1 = some (.ref C') → PySem.W.exmOne X.K (.ref C) (.ref C') = some (c == q.1)) → X.mg c = some (.ref C) → i < τ.length → G dd = some (.xd F) → FRf X.K X.mg pa B G F gs → toldC cs c gs = some t →
        (∀ m vs ds, t = .tup ds → FRs X.K X.mg pa B G vs ds → G m = none → vs.length ≤ sizeLine ∧ De.rt (.ref m) (upd G m (.tup vs))) → (∀ vs ds, t = .tup ds → FRs X.K X.mg pa B G vs ds → vs.length ≤ sizeLine) → wClauses X.K out De i l (.ref C) (some dd) τ G
  | _, _, .done, _ => ⟨[], .done, fun out D τ G c tag fs0 C dd F gs t pa B _ _ _ _ _ ht => by cases ht⟩
  | _, _, .more (c := c') (tag := tag') (fs := fs) (cs := cs) (es := es) (hs := hs) hg hdb at_ hs0 r, EF => by
    obtain ⟨l, h1, h2⟩ := clauses_of hN hv hd hcd r ⟨fun q hq => EF.cls q (List.mem_cons_of_mem _ hq), fun q hq q' hq' => EF.exm q (List.mem_cons_of_mem _ hq) q' (List.mem_cons_of_mem _ hq')⟩
    obtain ⟨C', m1, T, no⟩ := EF.cls _ List.mem_cons_self
    refine ⟨(.ref C', fun x cls dd => tRet (tTup (tCons (tC (.str tag')) (tXfs x cls dd C' i fs)))) :: l, .more ⟨hg, hdb, .inl m1⟩ (fun x o cls dd pn hz hf => pss_one (ps_ret (pe_tup (pa_cons pe_str (pa_atts T hz hf hN hv hd hcd at_ no) hs0)))) h1, ?_⟩
    intro out D τ G c tag fs0 C dd F gs t pa B hx mc hi hG r2 ht k1 k2
    refine ⟨c == c', hx _ List.mem_cons_self C' m1, fun hit x nx => ?_, fun hit => ?_⟩
    · have e : c = c' := by simpa using hit
      subst e
      rw [mc] at m1
      cases m1
      unfold toldC at ht
      rw [if_pos (by simp)] at ht
      cases hl : looks gs fs with
      | none => rw [hl] at ht; cases ht
      | some ds =>
        rw [hl] at ht
        have ht' : En.D.tup (.str tag' :: ds) = t := by simpa using ht
        refine sat_atts (K := X.K) (mg := X.mg) (pa := pa) (B := B) (by simp [hi]) hG r2 hl fun vs f2 => ⟨k2 _ _ ht'.symm (.cons (.str _) f2), fun m hm => (k1 m _ _ ht'.symm (.cons (.str _) f2) hm).2⟩
    · refine h2 out D τ G c tag fs0 C dd F gs t pa B (fun q hq => hx q (List.mem_cons_of_mem _ hq)) mc hi hG r2 ?_ k1 k2
      unfold toldC at ht
      rwa [if_neg (by simp [hit])] at ht
theorem takes_len {W : WX} (t : Takes X W) : Takes X (fun c d σ H => σ.length = X.N.length → W c d σ H) := fun u s' ⟨a, B, sI, pins, σ, H, cls, d, e, I, nb, up, sky, na, os, ag, w⟩ =>
  t u s' ⟨a, B, sI, pins, σ, H, cls, d, e, I, nb, up, sky, na, os, ag, w I.len⟩
end
def wFault (LL : List (Addr × List V × SpecX)) (i : Nat) (cs : CL) : WS := fun E env b => wAct LL i (fun c gs => c ∈ cs.map (·.1) ∧ ∃ t, toldC cs c gs = some t ∧ ∀ b', E.rt t b') env b (fun _ _ => False)
theorem looks_len {gs : List (Str × D)} : ∀ {fs : List Str} {ds : List D}, looks gs fs = some ds → ds.length = fs.length
  | [], ds, h => by cases h; rfl
  | f :: fs, ds, h => by
    unfold looks at h
    cases hl : gs.lookup f with
    | none => rw [hl] at h; cases h
    | some d =>
      cases h2 : looks gs fs with
      | none => rw [hl, h2] at h; cases h
      | some es =>
        rw [hl, h2] at h
        cases h
        simp [looks_len h2]
theorem told_len {c : Str} {gs : List (Str × D)} : ∀ {cs : CL} {ds : List D}, (∀ q ∈ cs, q.2.2.length ≤ 900) → toldC cs c gs = some (.tup ds) → ds.length ≤ 1000
  | [], ds, _, h => by cases h
  | (c', tag, fs) :: cs, ds, hs, h => by
    unfold toldC at h
    split at h
    · cases hl : looks gs fs with
      | none => rw [hl] at h; cases h
      | some es =>
        rw [hl] at h
        have e : D.tup (.str tag :: es) = .tup ds := by simpa using h
        cases e
        have := hs _ List.mem_cons_self
        have := looks_len hl
        simp at *
        omega
    · exact told_len (fun q hq => hs q (List.mem_cons_of_mem _ hq)) h
theorem ps_fault {X : Cx} {x n : Str} {i j k : Nat} {p : Pm} {p1 p2 p3 pos : Pos} {h0 : ExceptHandler} {hs : List ExceptHandler} {cs : CL} {LL : List (Addr × List V × SpecX)} (hO : ∀ a, p.O a → p.H0 a ≠ none) (hL : ∀ l ∈ LL, LamOk X.prog X.w X.K X.mg X.base k l.1 l.2.1 l.2.2) (hr : Room k X.A)
    (top : X.stack = X.env :: X.outer) (fr : X.env.frame = some X.env.locals) (nd : X.N.Nodup) (hx : X.N[j]? = some x) (hvx : Vis X.env.scope x) (at_ : X.N[i]? = some n) (loc : X.env.kindOf n = some .local) (tk : Takes X (fun _ _ _ _ => False)) (EF : ExcF X.K X.mg cs) (cl : Fcls X n (h0 :: hs) cs) (few : ∀ q ∈ cs, q.2.2.length ≤ 900)
    (hsw : swapsWith (.Call (.Name x p1) [] [] p2) none p3.line X.env = pure false := by rfl)
    (hd : (x == ("__debug__" : Str)) = false := by decide) (hcd : (x == ("__classdict__" : Str)) = false := by decide) (hd' : (n == ("__debug__" : Str)) = false := by decide) (hcd' : (n == ("__classdict__" : Str)) = false := by decide) :
    PS X (.Try [.Expr (.Call (.Name x p1) [] [] p2) p3] (h0 :: hs) [] [] pos) (tS X.K X.mg p (wFault LL j cs)) := by
  obtain ⟨l, cl1, cl2⟩ := clauses_of (i := i) at_ (.inl loc) hd' hcd' cl EF
  refine PS.le (ps_try_clauses (out := fun _ _ _ _ => False) (tb := fun W D σ H => ∃ (E' : XK) (WX : EX), (∀ cls d σ' H', E' cls d H' → σ'.length = X.N.length → W cls d σ' H') ∧ FitsX X.K X.mg p WX E' ∧ tDrop (tOf X.K X.mg p (wAct LL j WX)) D σ H) top fr nd at_ loc tk (fun W pn xe tk' hp => ⟨fun pins s σ H D I ⟨E', WX, h1, h2, h3⟩ => ?_⟩) cl1) fun D σ H ⟨B, env, b, E, R, w, f⟩ => ?_
  · exact (pss_one (ps_expr (pe_act (X := X.tr pn xe) (E := E') hL hr (takes_len tk') (fun cls d σ' H' he hl => h1 cls d σ' H' he hl) h2 hx hvx hd hcd) hsw)).run pins s σ H D I h3
  · refine ⟨fun cls d H' => ∃ c C dd F gs b', X.mg c = some (.ref C) ∧ cls = .ref C ∧ d = some dd ∧ H' dd = some (.xd F) ∧ FRf X.K X.mg p.pa p.O H' F gs ∧ Ext p.pa p.H0 H' ∧ PenOk p.pa p.ca H' b' ∧ c ∈ cs.map (·.1) ∧ ∃ t, toldC cs c gs = some t ∧ ∀ b', E.rt t b', _, ?_, ⟨fun c C d F gs H' b' h1 h2 h3 h4 h5 h6 => ⟨c, C, d, F, gs, b', h1, rfl, rfl, h2, h3, h4, h5, h6⟩⟩, B, env, b, _, R, w, fun _ _ _ _ _ _ _ z => z.elim⟩
    rintro cls d σ' H' ⟨c, C, dd, F, gs, b', h1, rfl, rfl, h2, h3, h4, h5, h6, t, h7, h8⟩ hl
    have hi : i < σ'.length := by
      rw [hl]
      exact (List.getElem?_eq_some_iff.mp at_).1
    obtain ⟨q, hq, e⟩ := List.mem_map.mp h6
    subst e
    have trk : ∀ a, p.O a → H' a ≠ none := fun a ha => by
      by_cases z : a = p.pa
      · obtain ⟨_, _, _, _, _, e1, _⟩ := h5
        rw [z, e1]
        simp
      · cases e : p.H0 a with
        | none => exact absurd e (hO a ha)
        | some o => rw [h4 a o e z]; simp
    have small : ∀ ds, t = .tup ds → ds.length ≤ 1000 := fun ds e => told_len few (by rw [← e]; exact h7)
    refine cl2 _ D σ' H' q.1 q.2.1 q.2.2 C dd F gs t p.pa p.O (fun q' hq' C' m' => EF.exm q hq q' hq' C C' h1 m') h1 hi h2 h3 h7 (fun m vs ds et f2 hm => ?_) (fun vs ds et f2 => by have := f2.length; have := small ds et; have := line_ge; omega)
    subst et
    have same := same_new (o := HO.tup vs) hm
    refine ⟨by have := f2.length; have := small ds rfl; have := line_ge; omega, f.rt _ _ (.tup ds) b' (.tup (.inl ⟨upd_same, fun z => trk m z hm⟩) (f2.kp (same_kp same))) (h4.trans (.same same)) (h5.same same) (h8 b')⟩
end En
/-! Lambdas handed to a def: they are no more tracked, but fixed for the callee. -/
namespace En
open PySem PySem.Spec PyProof.Rows L2
def dropL (L : List Lm) (H : Hp) : Hp := fun a => if (∃ l ∈ L, l.f = a ∨ l.c = a) then none else H a
open Classical in
theorem dropL_of {L : List Lm} {H : Hp} {a : Addr} {o : HO} (h : dropL L H a = some o) : H a = some o ∧ ¬ ∃ l ∈ L, l.f = a ∨ l.c = a := by
  unfold dropL at h
  split at h
  · cases h
  · exact ⟨h, by assumption⟩
theorem dropL_none {L : List Lm} {H : Hp} {a : Addr} (h : H a = none) : dropL L H a = none := by
  unfold dropL
  split
  · rfl
  · exact h
theorem dropL_in {L : List Lm} {H : Hp} {l : Lm} (h : l ∈ L) : dropL L H l.f = none ∧ dropL L H l.c = none := by
  unfold dropL
  exact ⟨if_pos ⟨l, h, .inl rfl⟩, if_pos ⟨l, h, .inr rfl⟩⟩
/-- nothing but lambdas and their code objects is dropped -/
theorem dropL_keep {g : LmP} {L : List Lm} {H : Hp} {a : Addr} {o : HO} (F : FactsL g L H) (h : H a = some o) (no : ∀ φ, o ≠ .ext φ) : dropL L H a = some o := by
  unfold dropL
  rw [if_neg]
  · exact h
  · rintro ⟨l, hl, z | z⟩
    · have e := (F.fn l hl).1
      rw [z, h] at e
      exact no _ (Option.some.inj e)
    · have e := (F.fn l hl).2
      rw [z, h] at e
      exact no _ (Option.some.inj e)
section
variable {X : Cx} {pins : List (Addr × Obj)} {σ : L2.St} {H : Hp} {s : Shared} {g : LmP} {L : List Lm}
theorem Inv.dropL (I : Inv X pins σ H s) (F : FactsL g L H) : Inv X pins σ (dropL L H) s :=
  ⟨I.ok, I.os, I.bare, ⟨I.base.keep, I.base.slot, fun b o h n x => dropL_none (I.base.free b o h n x), I.base.there, fun b xs h => dropL_keep F (I.base.tups b xs h) fun φ z => (by cases z), fun b o u h => dropL_keep F (I.base.frzs b o u h) fun φ z => (by cases z),
    fun b ps h => (I.base.tbls b ps h).imp fun more e => dropL_keep F e fun φ z => (by cases z)⟩, I.loc, I.cell, dropL_none I.free, fun x c h => dropL_none (I.freeC x c h), fun p hp => ⟨(I.pin p hp).1, dropL_none (I.pin p hp).2.1, (I.pin p hp).2.2⟩,
    fun a o h => (I.hok a o (dropL_of h).1).stay (fun _ _ _ e => e) (fun b e => dropL_keep F e fun φ z => (by cases z)) (fun b xs e => dropL_keep F e fun φ z => (by cases z)), I.len⟩
/-- the heap that is fixed for a callee: all that is not tracked, but the frames -/
def fixed (X : Cx) (H : Hp) (s : Shared) : Heap := hidT s.heap fun a => if a ∈ frs X.stack then some (.own 0) else H a
theorem fixed_get (I : Inv X pins σ H s) {b : Addr} {o : Obj} (e : s.heap.get? b = some o) (n : H b = none) (f : b ∉ frs X.stack) : (fixed X H s).get? b = some o := hidT_get e (by rw [if_neg f]; exact n)
theorem of_fixed {b : Addr} {o : Obj} (e : (fixed X H s).get? b = some o) : s.heap.get? b = some o ∧ H b = none ∧ b ∉ frs X.stack := by
  obtain ⟨h1, h2⟩ := of_hidT e
  split at h2
  · cases h2
  · exact ⟨h1, h2, by assumption⟩
theorem fixed_base (I : Inv X pins σ H s) : ∀ b o, X.base.get? b = some o → (fixed X H s).get? b = some o := fun b o e =>
  fixed_get I (I.bs b o e).1 (I.bs b o e).2 fun z => by
    obtain ⟨h1, _⟩ := I.stack.mem z
    rw [e] at h1
    cases h1
theorem frames_fixed (I : Inv X pins σ H s) : ∀ {l : List PySem.Env}, s.heap.FunFrames X.base l → (∀ b ∈ frs l, b ∈ frs X.stack) → s.heap.FunFrames (fixed X H s) l
  | [], _, _ => trivial
  | env :: rest, ⟨hk, ⟨L, o, hf, hn, ho, hd⟩, hr⟩, sub => ⟨hk, ⟨L, o, hf, by
      cases e : (fixed X H s).get? L with
      | none => rfl
      | some o' => exact absurd (sub L (List.mem_filterMap.mpr ⟨env, List.mem_cons_self, hf⟩)) (of_fixed e).2.2, ho, hd⟩, frames_fixed I hr fun b hb => sub b (by
      obtain ⟨e, he, q⟩ := List.mem_filterMap.mp hb
      exact List.mem_filterMap.mpr ⟨e, List.mem_cons_of_mem _ he, q⟩)⟩
theorem fixed_env0 (I : Inv X pins σ H s) : Env0 X.prog X.w X.K X.mg (fixed X H s) X.A X.stack s H :=
  ⟨I.ok.frames, ⟨fun b o e => fixed_base I b o (I.ok.mod.kin b o e), I.ok.mod.glob.keeps (fixed_base I), I.ok.mod.blt.imp fun mb h => ⟨h.1.keeps (fixed_base I), h.2⟩, I.ok.mod.nolimit.keeps (fixed_base I)⟩,
    fun b o e => ⟨(of_fixed e).1, (of_fixed e).2.1⟩, Nat.le_of_eq (hidT_size _ _), frames_fixed I I.stack fun _ h => h, I.stkFree, I.hok, I.bare⟩
end
/-! ### which values a lambda has captured -/
inductive CapOk (N : List Str) (env : Env) : List Str → List D → Prop
  | nil : CapOk N env [] []
  | cons {y : Str} {d : D} {ys : List Str} {ds : List D} (ix : Nat) (hN : N[ix]? = some y) (he : env[ix]? = some (.v d)) (r : CapOk N env ys ds) : CapOk N env (y :: ys) (d :: ds)
/-- a lambda of the text: its names, what a call of it raises -/
structure LmS where
  caps : List Str
  params : Arguments
  body : Expr
  scope : Scope
  pt : SpecX
structure Item where
  l : Lm
  S : LmS
  ds : List D
  due : D
abbrev LLs := List (Addr × List V × SpecX)
section
variable {X : Cx} {pins : List (Addr × Obj)} {σ : L2.St} {H : Hp} {s : Shared} {g : LmP} {L : List Lm} {p : Pm} {B : Addr → Prop} {env : Env} {b : Nat}
theorem caps_vals (R : Rel X.K X.mg p B H σ env b) : ∀ {ys : List Str} {ds : List D}, CapOk X.N env ys ds → ∃ vs, FRs X.K X.mg p.pa B H vs ds ∧ vs.length = ys.length ∧ ∀ (i : Nat) (y : Str) (v : V), ys[i]? = some y → vs[i]? = some v → ∃ (ix : Nat), X.N[ix]? = some y ∧ σ[ix]? = some (some v)
  | _, _, .nil => ⟨[], .nil, rfl, fun i y v h => by simp at h⟩
  | _, _, .cons ix hN he r => by
    obtain ⟨vs, h1, h2, h3⟩ := caps_vals R r
    obtain ⟨v, e1, e2⟩ := R.slots ix _ he
    refine ⟨v :: vs, .cons e2 h1, by simp [h2], fun i y w hy hw => ?_⟩
    cases i with
    | zero =>
      simp at hy hw
      subst hy
      subst hw
      exact ⟨ix, hN, e1⟩
    | succ i => exact h3 i y w (by simpa using hy) (by simpa using hw)
theorem lamC_of (I : Inv X pins σ H s) (hout : X.outer = []) {S : LmS} {vs : List V} (Ls : LamX.LamS X.env.scope S.scope) (hl : vs.length = S.caps.length) (hv : ∀ (i : Nat) (y : Str) (v : V), S.caps[i]? = some y → vs[i]? = some v → ∃ (ix : Nat), X.N[ix]? = some y ∧ σ[ix]? = some (some v)) :
    LamC (fixed X H s) S.caps S.scope (cloFrom X.env.cells S.scope.names []) vs := by
  have hfree := Ls.has I.ok
  have cm : ∀ {y c}, (cloFrom X.env.cells S.scope.names []).lookup y = some c → X.env.cells.lookup y = some c := fun {y c} e => by
    rcases cloFrom_mem (PySem.mem_of_lookup e) with hm | ⟨h1, h2⟩
    · cases hm
    · obtain ⟨c1, hc⟩ := hfree _ h1 rfl
      have hc : X.env.cells.lookup y = some c1 := hc
      have e2 : c = c1 := by
        rw [h2, hc] <;> rfl
      rw [e2]
      exact hc
  have look : ∀ {y}, (y, NameKind.free) ∈ S.scope.names → ∃ c, (cloFrom X.env.cells S.scope.names []).lookup y = some c := fun {y} hy => mem_lookup (cloFrom_has (cells := X.env.cells) (acc := []) hy)
  have cell : ∀ {y c v}, X.env.cells.lookup y = some c → s.heap.IsCell c v → (fixed X H s).IsCell c v := fun {y c v} hc ⟨o, ho, hd⟩ => ⟨o, fixed_get I ho (I.freeC y c hc) fun z => by
    rcases List.mem_cons.mp (I.stkSub c z) with e | e
    · exact I.cne y c hc e
    · have e : c ∈ frs X.outer := e
      rw [hout] at e
      simp [frs] at e, hd⟩
  refine ⟨Ls.kind, Ls.co, Ls.gen, Ls.own, fun y hy e => look (by rw [← e]; exact hy), fun x y c h1 h2 => I.ok.inj x y c (cm h1) (cm h2), fun x c h => ?_, fun i x v h1 h2 h3 => ?_, hl⟩
  · obtain ⟨v, h1⟩ := I.cell x c (cm h)
    exact ⟨v, cell (cm h) h1⟩
  · have fr : (x, NameKind.free) ∈ S.scope.names := by
      rcases h3 with k | k | k
      · exact absurd rfl (Ls.own _ (PySem.mem_of_lookup k)).1
      · exact absurd rfl (Ls.own _ (PySem.mem_of_lookup k)).2
      · exact PySem.mem_of_lookup k
    obtain ⟨c, hc⟩ := look fr
    obtain ⟨ix, n1, n2⟩ := hv i x v h1 h2
    obtain ⟨m, hn, hlk⟩ := I.loc
    have hvis : Vis X.env.scope x := (Ls.free _ fr rfl).elim (fun k => .inr (.inl k)) (fun k => .inr (.inr k))
    obtain ⟨u, r, q⟩ := hlk ix x v n1 n2 hvis
    rcases q with ⟨k', _⟩ | ⟨_, c3, e', z⟩
    · have k' : X.env.scope.names.lookup x = some .local := k'
      rcases Ls.free _ fr rfl with k2 | k2 <;> rw [show X.env.scope.names.lookup x = _ from k2] at k' <;> cases k'
    · have c1 := cm hc
      rw [c1] at e'
      cases e'
      exact ⟨c, u, hc, cell c1 z, r⟩
end
end En
/-! return g(tries): the list of lambdas is handed to the def that calls them. -/
namespace En
open PySem PySem.Spec PyProof.Rows L2
section
variable {K : PySem.W.Frag} {mg : Str → Option Value} {pa : Addr} {B B' : Addr → Prop} {H H' : Hp}
def Kd (B : Addr → Prop) (H : Hp) (B' : Addr → Prop) (H' : Hp) : Prop := ∀ a o, H a = some o → (∀ φ, o ≠ .ext φ) → ¬ B a → H' a = some o ∧ ¬ B' a
theorem TupR.kd {a : Addr} {xs : List V} (h : TupR K B H a xs) (k : Kd B H B' H') : TupR K B' H' a xs := by
  rcases h with ⟨h, n⟩ | h
  · exact .inl (k _ _ h (fun φ z => by cases z) n)
  · exact .inr h
mutual
theorem FR.kd (k : Kd B H B' H') : ∀ {v : V} {d : D}, FR K mg pa B H v d → FR K mg pa B' H' v d
  | _, _, .non => .non
  | _, _, .bl b => .bl b
  | _, _, .int i => .int i
  | _, _, .str s => .str s
  | _, _, .tup h r => .tup (h.kd k) (FRs.kd k r)
  | _, _, .lst h n r => .lst (k _ _ h (fun φ z => by cases z) n).1 (k _ _ h (fun φ z => by cases z) n).2 (FRs.kd k r)
  | _, _, .ins m c g h n r => .ins m c g (k _ _ h (fun φ z => by cases z) n).1 (k _ _ h (fun φ z => by cases z) n).2 (FRf.kd k r)
  | _, _, .pen => .pen
  | _, _, .fn r => .fn (FRs.kd k r)
theorem FRs.kd (k : Kd B H B' H') : ∀ {vs : List V} {ds : List D}, FRs K mg pa B H vs ds → FRs K mg pa B' H' vs ds
  | _, _, .nil => .nil
  | _, _, .cons h r => .cons (FR.kd k h) (FRs.kd k r)
theorem FRf.kd (k : Kd B H B' H') : ∀ {vs : List (Str × V)} {ds : List (Str × D)}, FRf K mg pa B H vs ds → FRf K mg pa B' H' vs ds
  | _, _, .nil => .nil
  | _, _, .cons h r => .cons (FR.kd k h) (FRf.kd k r)
end
/-- the values that were captured are told now -/
theorem conv {gv : Item → List V} : ∀ (Z : List Item) (xs : List V), FRs K mg pa B H xs (Z.map fun z => D.tup [.fn z.l.f [] [], z.due]) → (∀ z ∈ Z, FRs K mg pa B H (gv z) z.ds) → FRs K mg pa B H xs (Z.map fun z => D.tup [.fn z.l.f (gv z) z.ds, z.due]) := by
  intro Z
  induction Z with
  | nil => intro xs h _; exact h
  | cons z Z ih =>
    intro xs h hz
    rw [List.map_cons] at h ⊢
    cases h with
    | cons h1 h2 =>
      refine .cons ?_ (ih _ h2 fun z' h' => hz z' (List.mem_cons_of_mem _ h'))
      cases h1 with
      | tup t r =>
        cases r with
        | cons r1 r2 =>
          cases r1 with
          | fn r3 => exact .tup t (.cons (.fn (hz z List.mem_cons_self)) r2)
end
/-- whether each call raises what is due -/
def pDue (LL : LLs) (cs : CL) : Spec := fun ds b Q => ∃ (Z : List Item) (gv : Item → List V), ds = [.lst (Z.map fun z => D.tup [.fn z.l.f (gv z) z.ds, z.due])] ∧ Z.length ≤ 1000 ∧
  (∀ z ∈ Z, (z.l.f, gv z, z.S.pt) ∈ LL ∧ Shows z.due ∧ ∀ (b' : Nat) (W : EX), (∀ c gs, c ∈ cs.map (·.1) → toldC cs c gs = some z.due → W c gs) → z.S.pt z.ds b' W) ∧ ∀ b', Q (.bl true) b'
structure ItemOk (N : List Str) (env : Env) (L : List Lm) (Ss : List LmS) (cs : CL) (z : Item) : Prop where
  l : z.l ∈ L
  S : z.S ∈ Ss
  e1 : z.l.params = z.S.params
  e2 : z.l.body = z.S.body
  e3 : z.l.scope = z.S.scope
  cap : CapOk N env z.S.caps z.ds
  sh : Shows z.due
  says : ∀ (b' : Nat) (W : EX), (∀ c gs, c ∈ cs.map (·.1) → toldC cs c gs = some z.due → W c gs) → z.S.pt z.ds b' W
def tDue (X : Cx) (g : LmP) (p : Pm) (i : Nat) (Ss : List LmS) (cs : CL) : TE := fun σ H Q => ∃ (B : Addr → Prop) (env : Env) (b : Nat) (L : List Lm) (Z : List Item), RelL X.K X.mg g L p B H σ env b ∧ Z.length ≤ 1000 ∧ env[i]? = some (.own (Z.map fun z => D.tup [.fn z.l.f [] [], z.due])) ∧
  (∀ z ∈ Z, ItemOk X.N env L Ss cs z) ∧ ∀ H', Q (.bl true) H'
/-- what a lambda of the text keeps, wherever it is fixed -/
def LamFam (P : Program) (w : World) (K : PySem.W.Frag) (mg : Str → Option Value) (q : Str) (k : Nat) (S : LmS) : Prop := ∀ (base : Heap) (f c' : Addr) (pm ctv : Value) (cl : List (Str × Addr)) (vs : List V), Mod K mg base → base.NoSeer → LamC base S.caps S.scope cl vs →
  base.get? f = some (PySem.W.kla_obj "<lambda>" q S.params S.body S.scope cl pm c' ctv) → (∃ (oc : Obj) (vx : Array Value) (t : Tok), base.get? c' = some oc ∧ oc.data = .fields vx ∧ vx[1]? = some (.str q t)) → LamOk P w K mg base k f vs S.pt
section
variable {X : Cx} {g : LmP} {p : Pm} {x tr : Str} {i k k0 : Nat} {Ss : List LmS} {cs : CL} {p1 p2 pos : Pos}
theorem pe_due (hA : X.A.guards = some []) (hr : Room k X.A) (hout : X.outer = []) (seer : X.base.NoSeer) (gq : g.q = X.env.qual ++ "<lambda>") (gc : g.cells = X.env.cells)
    (G : ∀ base : Heap, Mod X.K X.mg base → base.NoSeer → ∀ LL : LLs, (∀ l ∈ LL, LamOk X.prog X.w X.K X.mg base k0 l.1 l.2.1 l.2.2) → DfG X.prog X.w X.K X.mg base k x 1 (pDue LL cs))
    (GL : ∀ S ∈ Ss, LamX.LamS X.env.scope S.scope ∧ LamFam X.prog X.w X.K X.mg g.q k0 S)
    (hg : Gl X x) (hN : X.N[i]? = some tr) (hv : Vis X.env.scope tr) (hdb : (x == ("__debug__" : Str)) = false := by decide) (hd : (tr == ("__debug__" : Str)) = false := by decide) (hcd : (tr == ("__classdict__" : Str)) = false := by decide)
    (he : starEach [.Name tr p1] X.env = (false, eval (.Name tr p1) X.env) :: starEach [] X.env := by rfl) (hpl : (backTo pos (starEach [] X.env)).any (·.1) = false := by rfl) :
    PE X (.Call (.Name x p2) [.Name tr p1] [] pos) (tDue X g p i Ss cs) := by
  refine ⟨fun pins s σ H Q I ⟨B, env, b, L, Z, R, hz, henv, items, kq⟩ => ?_⟩
  have mod0 := I.ok.mod
  obtain ⟨f, fd, ps, hm, hk, -⟩ := (G X.base mod0 seer [] (fun l hl => by cases hl)).ex
  obtain ⟨q, xs, h1, h2, h3, h4, h5, -, -⟩ := R.rel.slots i _ henv
  refine wpAny_Call_Name_kw (ld_glob I hg hm ?_ hdb)
  refine PySem.W.callWith_K (h₀ := X.base) I.ok.mod.kin hk (thn ((pa_cons (pe_var (pos := p1) (i := i) hN hv hd hcd) pa_nil he).run pos pins s σ H (fun vs H1 => vs = [.ref q] ∧ H1 = H) I ⟨.ref q, h1, rfl, rfl⟩) fun us s1 ⟨vs, H1, I1, r, ev, eH⟩ => ⟨I1.kIn, ?_⟩) he hpl
  subst ev
  rw [eH] at I1
  have I3 := Inv.dropL I1 R.facts
  have E0' := fixed_env0 I3
  have seer' : (fixed X (dropL L H) s1).NoSeer := seer.keeps (fixed_base I3)
  -- the values that the lambdas have captured
  obtain ⟨gv, hgv⟩ : ∃ gv : Item → List V, ∀ z ∈ Z, FRs X.K X.mg p.pa B H (gv z) z.ds ∧ (gv z).length = z.S.caps.length ∧ ∀ (i : Nat) (y : Str) (v : V), z.S.caps[i]? = some y → (gv z)[i]? = some v → ∃ (ix : Nat), X.N[ix]? = some y ∧ σ[ix]? = some (some v) := by
    have : ∀ z : Item, ∃ vs : List V, z ∈ Z → FRs X.K X.mg p.pa B H vs z.ds ∧ vs.length = z.S.caps.length ∧ ∀ (i : Nat) (y : Str) (v : V), z.S.caps[i]? = some y → vs[i]? = some v → ∃ (ix : Nat), X.N[ix]? = some y ∧ σ[ix]? = some (some v) := fun z => by
      by_cases hz : z ∈ Z
      · obtain ⟨vs, a1, a2, a3⟩ := caps_vals R.rel (items z hz).cap
        exact ⟨vs, fun _ => ⟨a1, a2, a3⟩⟩
      · exact ⟨[], fun h => absurd h hz⟩
    exact ⟨fun z => (this z).choose, fun z hz => (this z).choose_spec hz⟩
  have acts : ∀ l ∈ (Z.map fun z => ((z.l.f, gv z, z.S.pt) : Addr × List V × SpecX)), LamOk X.prog X.w X.K X.mg (fixed X (dropL L H) s1) k0 l.1 l.2.1 l.2.2 := fun l hl => by
    obtain ⟨z, hz, rfl⟩ := List.mem_map.mp hl
    have iz := items z hz
    obtain ⟨Ls, Lf⟩ := GL _ iz.S
    obtain ⟨a1, a2, a3⟩ := hgv z hz
    obtain ⟨f1, f2⟩ := R.facts.fn _ iz.l
    obtain ⟨d1, d2⟩ := dropL_in (H := H) iz.l
    have nf : ∀ {a : Addr} {o : HO}, H a = some o → a ∉ frs X.stack := fun h z => by
      rw [I1.stkFree _ z] at h
      cases h
    have o1 : s1.heap.get? z.l.f = some (z.l.obj g.q g.cells) := (I1.hok _ _ f1).1
    obtain ⟨oc, vx, t, e1, e2, e3⟩ := (I1.hok _ _ f2).1
    refine Lf _ z.l.f z.l.c z.l.pm z.l.ct (cloFrom X.env.cells z.S.scope.names []) _ E0'.mod seer' (lamC_of I3 hout Ls a2 a3) ?_ ⟨oc, vx, t, fixed_get I3 e1 d2 (nf f2), e2, e3⟩
    have := fixed_get I3 o1 d1 (nf f1)
    rw [this]
    unfold Lm.obj
    rw [iz.e1, iz.e2, iz.e3, gc]
  obtain ⟨f', fd', ps', hm', hk', hb', hn', G'⟩ := (G _ E0'.mod seer' _ acts).ex
  have ef : f' = f := by
    have := hm.symm.trans hm'
    simpa using this.symm
  subst ef
  have kd : Kd B H (fun a => a = p.pa ∨ a = p.ca) (dropL L H) := fun a o ha no nb => ⟨dropL_keep R.facts ha no, fun z => by
    rcases z with z | z
    · exact nb (by rw [z]; exact R.rel.bpa)
    · exact nb (by rw [z]; exact R.rel.sub _ R.rel.oca)⟩
  obtain ⟨cells, kk, dg, ct, fdd, n1, n2, n3⟩ := R.rel.pen
  have po : PenOk p.pa p.ca (dropL L H) b := ⟨cells, kk, dg, ct, fdd, dropL_keep R.facts n1 (fun φ z => by cases z), dropL_keep R.facts n2 (fun φ z => by cases z), n3⟩
  have nq : ¬ (q = p.pa ∨ q = p.ca) := fun z => by
    rcases z with z | z
    · exact h5 (by rw [z]; exact R.rel.opa)
    · exact h5 (by rw [z]; exact R.rel.oca)
  have hl : us.length = ps'.length := by rw [← r.length, hn']; rfl
  refine wpAny_call (codeAny_mono (G' X.A X.stack s1 (dropL L H) ⟨us, []⟩ us [.ref q] Q E0 hA hr E0' (by have := hb' s1 us I1.kIn (by rw [List.append_nil]; exact hl); rwa [List.append_nil] at this) r ⟨rfl, p.pa, p.ca, _, [.lst (Z.map fun z => D.tup [.fn z.l.f (gv z) z.ds, z.due])], b, fun d b' => d = .bl true, fun a ha => ?_, .inl rfl, .inr rfl, po,
      .cons (.lst (dropL_keep R.facts h2 fun φ z => by cases z) nq ((conv Z xs h3 fun z hz => (hgv z hz).1).kd kd)) .nil, ⟨Z, gv, rfl, hz, fun z hz => ⟨List.mem_map.mpr ⟨z, hz, rfl⟩, (items z hz).sh, (items z hz).says⟩, fun b' => rfl⟩, fun v H' d b' e2 po2 f2 qd => ?_⟩) fun r s' hq => ?_)
  · rcases ha with z | z
    · rw [z, dropL_keep R.facts n1 (fun φ z => by cases z)]
      simp
    · rw [z, dropL_keep R.facts n2 (fun φ z => by cases z)]
      simp
  · subst qd
    cases f2
    exact kq H'
  · cases r with
    | error e => exact (show False from hq).elim
    | ok fl =>
      cases fl with
      | ret u =>
        obtain ⟨v, H', J, rv, q⟩ := I3.after hq
        exact ⟨v, H', J, rv, q⟩
      | next => exact False.elim hq
      | brk => exact False.elim hq
      | cont => exact False.elim hq
end
end En
/-! The tail of a law: lambdas made, listed, handed on. -/
namespace En
open PySem PySem.Spec PyProof.Rows L2
/-- the end: the list is handed on -/
def kDue (N : List Str) (i : Nat) (Ss : List LmS) (cs : CL) : KL := fun L env b => ∃ Z : List Item, Z.length ≤ 1000 ∧ env[i]? = some (.own (Z.map fun z => D.tup [.fn z.l.f [] [], z.due])) ∧ ∀ z ∈ Z, ItemOk N env L Ss cs z
def tEnd (K : PySem.W.Frag) (mg : Str → Option Value) (g : LmP) (p : Pm) (κ : KL) : TS := fun D σ H => tKL K mg g p κ σ H ∧ ∀ H', D.rt (.bl true) H'
/-- a law's body: what it is to return is known -/
def tSR (K : PySem.W.Frag) (mg : Str → Option Value) (p : Pm) (W : WS) : TS := fun D σ H => tS K mg p W D σ H ∧ ∀ H', D.rt (.bl true) H'
/-- the tail of a law as a statement's reading -/
def wTail (κ : KL) : WS := fun _ env b => κ [] env b
section
variable {X : Cx} {st : Stmt} {sts : List Stmt} {W1 : WSL} {Wa Wb : WS} {κ : KL} {g : LmP} {p : Pm} {rt : D → Prop} {e : Expr} {pos : Pos}
theorem sl_seq (h1 : PS X st (tSL X.K X.mg g p rt W1)) (h2 : PSs X sts (tEnd X.K X.mg g p κ)) : PSs X (st :: sts) (tEnd X.K X.mg g p (W1 κ)) := PSs.le (pss_cons h1 h2) fun D σ H ⟨h, hr⟩ => ⟨κ, h, fun σ' H' h' => ⟨h', hr⟩⟩
theorem sl_last {i : Nat} {Ss : List LmS} {cs : CL} (h : PE X e (tDue X g p i Ss cs)) : PSs X [.Return (some e) pos] (tEnd X.K X.mg g p (kDue X.N i Ss cs)) := PSs.le (pss_one (ps_ret h)) fun D σ H ⟨⟨B, env, b, L, R, Z, h1, h2, h3⟩, hr⟩ => ⟨B, env, b, L, Z, R, h1, h2, h3, hr⟩
theorem sr_tail (hP : p.H0 g.P = some (.tbl #[])) (hO : p.O g.P) (hne : g.P ≠ p.pa) (h : PSs X sts (tEnd X.K X.mg g p.bare κ)) : PSs X sts (tSR X.K X.mg p (wTail κ)) := PSs.le h fun D σ H ⟨⟨B, env, b, E, R, w, f⟩, hr⟩ => by
  have hb : B g.P := R.sub _ hO
  have ht : H g.P = some (.tbl #[]) := by
    exact R.ext _ _ hP hne
  exact ⟨⟨B, env, b, [], ⟨R.bare, ⟨.nil ht, fun l hl => by cases hl⟩, hb, rfl⟩, w⟩, hr⟩
theorem sr_cons (h1 : PS X st (tS X.K X.mg p Wa)) (h2 : PSs X sts (tSR X.K X.mg p Wb)) : PSs X (st :: sts) (tSR X.K X.mg p (wSeq Wa Wb)) := PSs.le (pss_cons h1 h2) fun D σ H ⟨⟨B, env, b, E, R, w, f⟩, hr⟩ =>
  ⟨B, env, b, _, R, w, ⟨fun σ' H' B' env' b' R' k q => ⟨⟨B', env', b', E, R', q, f.kp k⟩, hr⟩, f.bk, f.ct, f.rt⟩⟩
end
end En
/-! A law that makes lambdas: from the caller on. -/
namespace En
open PySem PySem.Spec PyProof.Rows L2
def spPen (K : PySem.W.Frag) : Sp := fun vs H Q _ => ∃ (a : Addr) (ns : List Int), vs = [.ref a] ∧ SqL K H a (ns.map V.int) ∧ ns.length ≤ 63 ∧
  ∀ (H' : Hp) (p ca : Addr) (fd : Int), Same H H' → H p = none → H ca = none → p ≠ ca → H' p = some (.dK [(.inr "cells", .ref ca), (.inr "at", .int 0), (.inr "digits", .int 0), (.inr "count", .int 0), (.inr "fold", .int fd)]) → H' ca = some (.lst (ns.map V.int)) → 0 ≤ fd → fd < 2 ^ 32 → Q (.ref p) H'
/-- the law's promise: called by the caller, its table known -/
def LawC (P : Program) (w : World) (K : PySem.W.Frag) (mg : Str → Option Value) (base : Heap) (f Pt : Addr) : Prop :=
  ∀ (s : Shared) (H : Hp) (a : Addr) (ns : List Int), Env0 P w K mg base callerA [] s H → SqL K H a (ns.map V.int) → ns.length ≤ 63 → H Pt = some (.tbl #[]) →
    codeAny (model P w) callerA (.call (.ref f) ⟨[.ref a], []⟩) (CR CX0 [] P w H s (fun v _ => v = .bl true) E0) s
theorem pss_ex {X : Cx} {sts : List Stmt} {C : Pm → Prop} {t : Pm → TS} (h : ∀ p, C p → PSs X sts (t p)) : PSs X sts (fun D σ H => ∃ p, C p ∧ t p D σ H) := ⟨fun pins s σ H D I ⟨p, c, w⟩ => (h p c).run pins s σ H D I w⟩
section
variable {P : Program} {w : World} {K : PySem.W.Frag} {mg : Str → Option Value} {base : Heap}
theorem lawC_of {st : Stmt} {N : List Str} {rest : List Stmt} {f fP c Pt : Addr} {fdP : FuncData} {oc kV doc pm ct : Value} {od an : Option Addr} {osl : Array (Option Value)} {q1 q2 q3 q4 q5 : Pos} {k : Nat} {W : WS}
    (lk : K.lookup f = some ⟨oc, od, .func (PySem.W.fnOf "law" "law" (defArgs st) (defBody st) (defScope st) .none kV doc pm an (.ref c) ct), osl⟩) (hcd : PySem.W.codeIn K (.ref c) "law" = true) (S : FnScope N ["script"] (defScope st))
    (hb : ∀ (s : Shared) (v : Value), BindsTo s (PySem.W.fnOf "law" "law" (defArgs st) (defBody st) (defScope st) .none kV doc pm an (.ref c) ct) ⟨[v], []⟩ [("script", v)])
    (shape : defBody st = .Assign [.Name "pen" q1] (.Call (.Name "_law_pen" q2) [.Name "script" q3] [] q4) q5 :: rest) (h0 : N[0]? = some ("script" : Str)) (h1 : N[1]? = some ("pen" : Str))
    (v0 : Vis (defScope st) "script") (v1 : Loc (defScope st) "pen") (gp : (defScope st).names.lookup ("_law_pen" : Str) = some NameKind.globalImplicit)
    (GP : FnOk P w K mg base CX0 1 fP fdP ["script"] (spPen K)) (hmP : mg "_law_pen" = some (.ref fP)) (kpP : PySem.W.keepIn K (.ref fP) = true) (bdP : Binds K fdP ["script"] []) (hr : Room (k + 2) callerA)
    (hbody : ∀ (s : Shared) (H : Hp) (p : Pm), Room (k + 1) (callerA.deeper (envOfC "law" (defScope st) s.heap.objs.size f (.ref c))) → p.H0 Pt = some (.tbl #[]) ∧ p.O Pt ∧ Pt ≠ p.pa →
      PSs (cxOf CX0 P w K mg base N "law" (defScope st) f (.ref c) callerA [] s H E0).nox rest (tSR K mg p W))
    (hp : W { nx := fun _ _ => False, rt := fun d _ => d = .bl true } (.un :: .v .pen :: List.replicate (N.length - 2) .un) (2 ^ 40)) : LawC P w K mg base f Pt := by
  intro s H a ns e0 hS hlen hT
  refine LamX.run_ofS (vs := [.ref a]) (us := [.ref a]) lk hcd S hr e0 (hb s (.ref a)) (.cons rfl .nil) rfl fun hr' => ?_
  have restP := pss_ex (C := fun p => p.H0 Pt = some (.tbl #[]) ∧ p.O Pt ∧ Pt ≠ p.pa) fun p hp => hbody s H p hr' hp
  rw [shape]
  refine ⟨_, (pss_cons (ps_set (i := 1) S.nd h1 v1 (pe_call (X := (cxOf CX0 P w K mg base N "law" (defScope st) f (.ref c) callerA [] s H E0).nox) GP (hr'.mono (by omega)) gp hmP kpP bdP .nil pass0 (pa_cons (pe_var (i := 0) h0 v0) pa_nil))) restP).nox, ?_⟩
  have hN2 : 2 ≤ N.length := by have := (List.getElem?_eq_some_iff.mp h1).1; omega
  have e1 : L2.start N [V.ref a] = some (.ref a) :: List.replicate (N.length - 1) none := by simp [L2.start]
  refine ⟨.ref a, ?_, a, ns, rfl, hS, hlen, fun H1 pa ca fdv sm np nc hne hp1 hc hf0 hf1 => ?_⟩
  · rw [e1]
    rfl
  · have hP1 := sm _ _ hT
    have n1 : Pt ≠ pa := fun z => by rw [z, np] at hT; cases hT
    refine ⟨⟨pa, ca, fun x => x = pa ∨ x = ca ∨ x = Pt, H1, N.length⟩, ⟨hP1, .inr (.inr rfl), n1⟩, ⟨fun x => x = pa ∨ x = ca ∨ x = Pt, _, 2 ^ 40, _, ⟨fun _ h => h, fun x hx => ?_, .inl rfl, .inr (.inl rfl), ⟨ns, 0, 0, 0, fdv, hp1, hc, Nat.zero_le _, hlen, by omega, by omega, by decide, hf0, hf1⟩, Ext.refl _ _, ?_, ?_, fun i s hs => ?_⟩, hp, ⟨fun _ _ _ _ _ _ _ z => z.elim, fun _ _ _ _ _ _ _ z => z.elim, fun _ _ _ _ _ _ _ z => z.elim, fun v H' d b' fv _ _ e => ?_⟩⟩, fun H' => rfl⟩
    · rcases hx with rfl | rfl | rfl
      · rw [hp1]; simp
      · rw [hc]; simp
      · rw [hP1]; simp
    · rw [e1]
      simp
      omega
    · simp
      omega
    · by_cases h : i = 1
      · subst h
        have : s = .v .pen := by simpa using hs.symm
        subst this
        refine ⟨.ref pa, ?_, .pen⟩
        rw [e1]
        have h2 : 1 < (some (V.ref a) :: List.replicate (N.length - 1) none).length := by simp; omega
        exact List.getElem?_set_self h2
      · have : s = .un := by
          match i, h, hs with
          | 0, _, hs => simpa using hs.symm
          | i + 2, _, hs =>
            have hs : (List.replicate (N.length - 2) Slot.un)[i]? = some s := by simpa using hs
            rw [List.getElem?_replicate] at hs
            split at hs
            · cases hs; rfl
            · cases hs
        subst this
        trivial
    · have e : d = .bl true := e
      subst e
      cases fv
      rfl
end
end En
/-! The end of a law that makes lambdas. -/
namespace En
open PySem PySem.Spec PyProof.Rows L2
section
variable {h : Heap} {H : Hp} {oA oT : Obj}
theorem hid2_get (hA : ∀ b o, H b ≠ none → h.get? b = some o → o = oA ∨ o = oT) {b : Addr} {o : Obj} (e : h.get? b = some o) (n1 : o ≠ oA) (n2 : o ≠ oT) : (hidT h H).get? b = some o := hidT_get e (by
  by_cases z : H b = none
  · exact z
  · rcases hA b o z e with y | y
    · exact absurd y n1
    · exact absurd y n2)
theorem hid2_ns (hA : ∀ b o, H b ≠ none → h.get? b = some o → o = oA ∨ o = oT) (dA : ∀ es ep, oA.data ≠ .dict es ep) (dT : ∀ es ep, oT.data ≠ .dict es ep) {b : Addr} {m : Str → Option Value} (n : h.Ns b m) : (hidT h H).Ns b m := by
  obtain ⟨o, es, ep, e, d, r⟩ := n
  exact ⟨o, es, ep, hid2_get hA e (fun z => dA es ep (by rw [← z]; exact d)) (fun z => dT es ep (by rw [← z]; exact d)), d, r⟩
end
theorem call_lam {P : Program} {w : World} {K : PySem.W.Frag} {mg mb : Str → Option Value} {f a c Pt : Addr} {s : Shared} {us : List Value} {ns : List Int}
    (inK : K.In s.heap) (nsG : s.heap.Ns mainGlobals mg) (nsB : s.heap.Ns builtinsNs mb) (boot : ∀ y : Str, y ≠ "__name__" → mb y = bootBuiltins y) (lim : s.heap.NoLimit) (seer : s.heap.NoSeer) (noG : s.gens = #[])
    (hT : s.heap.get? Pt = some { cls := .none, data := .fields #[] }) (nT : K.lookup Pt = none) (C : PySem.W.CodeHd s.heap c Pt)
    (hbm : ∃ (bm : Addr) (ob : Obj), mg "__builtins__" = some (.ref bm) ∧ bm ≠ builtinsNs ∧ s.heap.get? bm = some ob ∧ ob.cls = .type "module" ∧ ob.dict = some builtinsNs ∧ ob.data = .plain)
    (obj : s.heap.get? a = some { cls := .type "list", data := .seq us.toArray }) (whole : IntsAre us ns) (short : ns.length ≤ 63)
    (F : ∀ base : Heap, K.In base → base.Ns mainGlobals mg → base.NoSeer → LamX.TabB base mg c Pt → LawC P w K mg base f Pt) :
    codeAny (model P w) callerA (.call (.ref f) ⟨[.ref a], []⟩)
      (fun r t => r = .ok (.ret (.bool true)) ∧ OldK s.heap t.heap ∧ t.os = s.os ∧ AllBare t.gens) s := by
  have vs := vals_ints whole
  have len := whole.length
  have naT : a ≠ Pt := fun z => by
    rw [z, hT] at obj
    cases obj
  have core : ∀ H : Hp, H Pt = some (.tbl #[]) → (∀ b, b ≠ Pt → H b = none ∨ b = a ∧ ∃ o xs, H b = some (.frz o (.lst xs))) → SqL K H a (ns.map V.int) → HOk P w H s.heap → (H a ≠ none → K.lookup a = none) →
      codeAny (model P w) callerA (.call (.ref f) ⟨[.ref a], []⟩)
        (fun r t => r = .ok (.ret (.bool true)) ∧ OldK s.heap t.heap ∧ t.os = s.os ∧ AllBare t.gens) s := fun H hP hO seq hok out => by
    have hA : ∀ b o, H b ≠ none → s.heap.get? b = some o → o = { cls := .type "list", data := .seq us.toArray } ∨ o = { cls := .none, data := .fields #[] } := fun b o z e => by
      by_cases hb : b = Pt
      · rw [hb, hT] at e
        exact .inr (Option.some.inj e).symm
      · rcases hO b hb with y | ⟨y, _⟩
        · exact absurd y z
        · rw [y, obj] at e
          exact .inl (Option.some.inj e).symm
    have kB : K.In (hidT s.heap H) := fun b o e => by
      refine hidT_get (inK b o e) ?_
      by_cases z : H b = none
      · exact z
      · by_cases hb : b = Pt
        · rw [hb, nT] at e
          cases e
        · rcases hO b hb with y | ⟨y, _⟩
          · exact y
          · rw [y] at e z
            rw [out z] at e
            cases e
    have ns_ : ∀ {b : Addr} {m : Str → Option Value}, s.heap.Ns b m → (hidT s.heap H).Ns b m := fun n => hid2_ns hA (fun es ep z => by cases z) (fun es ep z => by cases z) n
    have cls_ : ∀ {b : Addr} {o : Obj} {T : String}, s.heap.get? b = some o → o.cls = .type T → T ≠ "list" → (hidT s.heap H).get? b = some o := fun {b o T} e cT nT => hid2_get hA e (fun z => by
      rw [z] at cT
      exact nT (Value.type.inj (show Value.type "list" = Value.type T from cT)).symm) (fun z => by
      rw [z] at cT
      cases (show Value.none = Value.type T from cT))
    have gB := ns_ nsG
    have modB : Mod K mg (hidT s.heap H) := ⟨kB, gB, ⟨mb, ns_ nsB, boot⟩, by
      obtain ⟨m, l1, l2⟩ := lim
      exact ⟨m, ns_ l1, l2⟩⟩
    have seerB : (hidT s.heap H).NoSeer := by
      obtain ⟨⟨m1, s1, s2⟩, ⟨m2, t1, t2⟩, ⟨m3, i1, i2⟩, mg', bm, ob, g1, g2, g3, g4, g5⟩ := seer
      exact ⟨⟨m1, ns_ s1, s2⟩, ⟨m2, ns_ t1, t2⟩, ⟨m3, ns_ i1, i2⟩, mg', bm, ob, ns_ g1, g2, cls_ g3 g4 (by decide), g4, g5⟩
    have nG : ∀ {b : Addr} {o : Obj}, s.heap.get? b = some o → (∀ es ep, o.data ≠ .dict es ep) → b ≠ mainGlobals := fun {b o} e d z => by
      obtain ⟨o', es, ep, e', d', _⟩ := nsG
      rw [z, e'] at e
      cases e
      exact d es ep d'
    have TB : LamX.TabB (hidT s.heap H) mg c Pt := by
      refine ⟨?_, ?_, fun z => nG hT (fun es ep z => by cases z) z.symm⟩
      · obtain ⟨o, vx, file, tf, flags, tg, inF, text, tt, e1, r1, r⟩ := C
        exact ⟨o, vx, file, tf, flags, tg, inF, text, tt, cls_ e1 r1 (by decide), r1, r⟩
      · obtain ⟨bm, ob, b1, b2, b3, b4, b5, b6⟩ := hbm
        exact ⟨bm, ob, b1, b2, nG b3 (fun es ep z => by rw [b6] at z; cases z), (fun z => by rw [z, hT] at b3; cases b3; cases b6), cls_ b3 b4 (by decide), b4, b5, b6⟩
    have env0 : Env0 P w K mg (hidT s.heap H) callerA [] s H := ⟨rfl, modB, fun b o e => of_hidT e, Nat.le_of_eq (hidT_size _ _), trivial, fun b hb => absurd (show b ∈ ([] : List Addr) from hb) List.not_mem_nil, hok, .of_eq noG⟩
    refine codeAny_mono (F _ kB gB seerB TB s H a ns env0 seq short hP) fun r t h => ?_
    match r, h with
    | .error e, h => exact (show False from h).elim
    | .ok .next, h => exact False.elim h
    | .ok .brk, h => exact False.elim h
    | .ok .cont, h => exact False.elim h
    | .ok (.ret u), ⟨v, H', o1, o2, un, hok', rel, q⟩ =>
      obtain rfl : v = .bl true := q
      obtain rfl : u = Value.bool true := rel
      have key : ∀ b o, b ≠ Pt → s.heap.get? b = some o → t.heap.get? b = some o := fun b o nb e => by
        rcases hO b nb with z | ⟨_, ob, xs, z⟩
        · exact un.keep b o e z (fun y => absurd (show b ∈ ([] : List Addr) from y) List.not_mem_nil) (by simp)
        · obtain ⟨p1, _⟩ := hok b _ z
          obtain ⟨p2, _⟩ := hok' b _ (un.frzs b ob _ z)
          cases e.symm.trans p1
          exact p2
      obtain ⟨more, hm⟩ := un.tbls Pt #[] hP
      have grown : t.heap.get? Pt = some { cls := .none, data := .fields (#[] ++ more) } := hok' Pt _ hm
      refine ⟨rfl, ⟨fun b o e => ?_, fun b o e => ?_⟩, o1, o2⟩
      · by_cases hb : b = Pt
        · rw [hb] at e ⊢
          rw [hT] at e
          cases e
          exact .inr (.inl ⟨(C.tab hT).isCodeTable, rfl, #[], more, rfl, grown⟩)
        · exact .inl (key b o hb e)
      · by_cases hb : b = Pt
        · rw [hb]
          exact ⟨_, grown⟩
        · exact ⟨o, key b o hb e⟩
  have hl : ns.length ≤ sizeLine := by have := line_ge; omega
  cases hk : K.lookup a with
  | some o =>
    cases (inK a o hk).symm.trans obj
    refine core (fun b => if b = Pt then some (.tbl #[]) else none) (if_pos rfl) (fun b hb => .inl (if_neg hb)) (.inr ⟨_, us.toArray, _, hk, rfl, rfl, rfl, by rw [List.size_toArray, len]; exact hl, by simpa using vs⟩) (fun b u z => ?_) fun z => absurd (if_neg naT) z
    by_cases hb : b = Pt
    · cases (if_pos hb).symm.trans z
      rw [hb]
      exact hT
    · cases (if_neg hb).symm.trans z
  | none =>
    refine core (fun b => if b = Pt then some (.tbl #[]) else if b = a then some (.frz { cls := .type "list", data := .seq us.toArray } (.lst (ns.map V.int))) else none) (if_pos rfl) (fun b hb => ?_) (.inl (.inr ⟨{ cls := .type "list", data := .seq us.toArray }, (if_neg naT).trans (if_pos rfl)⟩)) (fun b u z => ?_) fun _ => hk
    · by_cases hb2 : b = a
      · exact .inr ⟨hb2, _, _, (if_neg hb).trans (if_pos hb2)⟩
      · exact .inl ((if_neg hb).trans (if_neg hb2))
    · by_cases hb : b = Pt
      · cases (if_pos hb).symm.trans z
        rw [hb]
        exact hT
      · have z1 := (if_neg hb).symm.trans z
        by_cases hb2 : b = a
        · cases (if_pos hb2).symm.trans z1
          rw [hb2]
          exact ⟨obj, by rw [List.length_map]; exact hl, us, _, vs, obj⟩
        · cases (if_neg hb2).symm.trans z1
theorem walk_lam {l : PySem.W.OpenLaw} {q : Program} {loose : List Str} {XP : (Str → Option Value) → Heap → Prop} {YP : World → Heap → Prop} {d : DefRec} {K : Params → PySem.W.Frag}
    (most : l.most = some 63) (plain : d.params.defaults = []) (quiet : importsNone q = true)
    (said : ∀ (w : World) (h : Heap), YP w h → (K w.params).In h)
    (F : ∀ (w : World) (mg : Str → Option Value) (fa : Addr) (h : Heap), YP w h → (K w.params).In h → h.Ns mainGlobals mg → mg d.name = some (.ref fa) →
      ∃ c Pt : Addr, h.get? Pt = some { cls := .none, data := .fields #[] } ∧ (K w.params).lookup Pt = none ∧ PySem.W.CodeHd h c Pt ∧
        ∀ base : Heap, (K w.params).In base → base.Ns mainGlobals mg → base.NoSeer → LamX.TabB base mg c Pt → LawC l.prog w (K w.params) mg base fa Pt) :
    PySem.W.WalkO q loose XP YP l.row.toRowW d [] (fun f vs => PySem.call f vs) := by
  refine Att.attach_call most plain fun w s0 s mg mb fa o pm cd doc a vs ns G Y ho hd hcd hmg hobj hints hlen hg => ?_
  have inK := said w _ Y
  obtain ⟨c, Pt, h1, h2, h3, hF⟩ := F w mg fa _ Y inK G.T.g hmg
  exact call_lam inK G.T.g G.T.b G.T.builtins G.T.nolimit (G.T.seer quiet) hg h1 h2 h3 G.T.bmain hobj hints hlen hF
end En
/-! The making of the text's errors: MinorError.__init__, then a field or two. -/
namespace En
open PySem PySem.Spec PyProof.Rows L2
section
variable {P : Program} {w : World} {K : PySem.W.Frag} {mg : Str → Option Value} {base : Heap}
def tMe (K : PySem.W.Frag) (msg : Str) : TE := tVeI K (tCons (tVar 0) (tCons (tC (.str msg)) tNil))
theorem exOk1 {c qual a1 f1 msg : Str} {st : Stmt} {C f : Addr} {fd : FuncData} (F : Fun K "__init__" qual st f fd) (S : FnScope ["self", a1] ["self", a1] (defScope st)) (hm : mg c = some (.ref C)) (T : OexC K C) (iC : PySem.W.findIn K (.ref C) "__init__" = some (some (.ref f)))
    (tI : PySem.W.typeIn K (.ref f) = some (.type "function")) (bd : Binds K fd ["self", a1] []) (no1 : PySem.W.findIn K (.ref C) f1 = some none)
    (hb : ∀ (cdv : Value) (A : Around) (outer : List PySem.Env) (s : Shared) (H : Hp) (E : XK), PSs (cxOf CX0 P w K mg base ["self", a1] qual (defScope st) f cdv A outer s H E).nox (defBody st)
      (fun D σ H => tDrop (tMe K msg) { D with nx := fun σ' H' => tOst K f1 (tVar 0) (tVar 1) D σ' H' } σ H)) : ExOk P w K mg base 1 c [f1] := by
  refine ⟨C, f, fd, ["self", a1], hm, T, iC, tI, bd, F.ok (k := 0) S (fun vs H Q E h => ?_) fun cdv A outer s H vs Q E hr h => ?_⟩
  · obtain ⟨x, ws, rfl, hl, _⟩ := h
    simpa using hl
  · obtain ⟨x, ws, rfl, hl, hx, hq⟩ := h
    obtain ⟨w1, rfl⟩ : ∃ w1, ws = [w1] := by
      match ws, hl with
      | [w1], _ => exact ⟨w1, rfl⟩
    refine ⟨_, hb cdv A outer s H E, .ref x, rfl, x, C, [.str msg], rfl, by simp, T, hx, w1, rfl, .ref x, rfl, x, C, rfl, T, no1, .inl ⟨hx, fun dx hd ne => hq dx hd ne⟩⟩
theorem exOk2 {c qual a1 a2 f1 f2 msg : Str} {st : Stmt} {C f : Addr} {fd : FuncData} (F : Fun K "__init__" qual st f fd) (S : FnScope ["self", a1, a2] ["self", a1, a2] (defScope st)) (hm : mg c = some (.ref C)) (T : OexC K C) (iC : PySem.W.findIn K (.ref C) "__init__" = some (some (.ref f)))
    (tI : PySem.W.typeIn K (.ref f) = some (.type "function")) (bd : Binds K fd ["self", a1, a2] []) (no1 : PySem.W.findIn K (.ref C) f1 = some none) (no2 : PySem.W.findIn K (.ref C) f2 = some none)
    (hb : ∀ (cdv : Value) (A : Around) (outer : List PySem.Env) (s : Shared) (H : Hp) (E : XK), PSs (cxOf CX0 P w K mg base ["self", a1, a2] qual (defScope st) f cdv A outer s H E).nox (defBody st)
      (fun D σ H => tDrop (tMe K msg) { D with nx := fun σ' H' => tOst K f1 (tVar 0) (tVar 1) { D with nx := fun σ2 H2 => tOst K f2 (tVar 0) (tVar 2) D σ2 H2 } σ' H' } σ H)) : ExOk P w K mg base 1 c [f1, f2] := by
  refine ⟨C, f, fd, ["self", a1, a2], hm, T, iC, tI, bd, F.ok (k := 0) S (fun vs H Q E h => ?_) fun cdv A outer s H vs Q E hr h => ?_⟩
  · obtain ⟨x, ws, rfl, hl, _⟩ := h
    simpa using hl
  · obtain ⟨x, ws, rfl, hl, hx, hq⟩ := h
    obtain ⟨w1, w2, rfl⟩ : ∃ w1 w2, ws = [w1, w2] := by
      match ws, hl with
      | [w1, w2], _ => exact ⟨w1, w2, rfl⟩
    refine ⟨_, hb cdv A outer s H E, .ref x, rfl, x, C, [.str msg], rfl, by simp, T, hx, w1, rfl, .ref x, rfl, x, C, rfl, T, no1, .inl ⟨hx, fun dx hd ne => ?_⟩⟩
    refine ⟨w2, rfl, .ref x, rfl, x, C, rfl, T, no2, .inr ⟨dx, [(f1, w1)], upd_same, by rw [upd_ne ne]; exact upd_same, by simp, ?_⟩⟩
    rw [upd3 ne]
    exact hq dx hd ne
end
end En
/-! Several names given the items of a tuple. -/
namespace En
open PySem PySem.Spec PyProof.Rows L2
def wTg (T : Tg) (W : WE) : WS := fun E env b => W env b fun d b' => match setTg T d env with | some env1 => E.nx env1 b' | none => False
theorem qs_tg {X : Cx} {tg e : Expr} {T : Tg} {We : WE} {pos : Pos} (h : QE X e We) (hg : QG X tg T) (hs : swapsWithSole [tg] e pos.line X.env = pure false := by rfl) (hw : swappedStores [tg] e X.env = pure none := by rfl)
    (h1 : (assignEach [tg] X.env).map (·.2) = [assign tg X.env] := by rfl) : QS X (.Assign [tg] e pos) (wTg T We) := fun p => ⟨fun pins s σ H D I ⟨B, env, b, E, R, w, f⟩ => by
  obtain ⟨g, pg, kg⟩ := hg
  exact (ps_asg (h p) pg hs hw h1).run pins s σ H D I ⟨B, env, b, _, R, w, fun v H1 d b1 R1 e1 f1 q => by
    split at q
    · rename_i env1 hset
      exact kg p v d σ H1 B env env1 b1 _ R1 f1 hset (by rw [R1.len]; exact I.len.symm) fun σ' R' _ => f.nx σ' H1 B env1 b1 R' (R.ext_kp e1) q
    · exact q.elim⟩⟩
end En
/-! _law_fault and _law_are_due. -/
namespace En
open PySem PySem.Spec PyProof.Rows L2
section
variable {P : Program} {w : World} {K : PySem.W.Frag} {mg : Str → Option Value} {base : Heap}
/-- a def by its body, told at one Pm whose own addresses are tracked -/
theorem df_ofP {x qual : Str} {st : Stmt} {f : Addr} {fd : FuncData} {N ps : List Str} {k : Nat} {pt : Spec} {W : WS} (F : Fun K x qual st f fd) (S : FnScope N ps (defScope st)) (hm : mg x = some (.ref f)) (bd : Binds K fd ps [])
    (hb : ∀ (cdv : Value) (A : Around) (outer : List PySem.Env) (s : Shared) (H : Hp) (E : XK) (p : Pm), (∀ a, p.O a → p.H0 a ≠ none) → Room k (A.deeper (envOfC qual (defScope st) s.heap.objs.size f cdv)) → PSs (cxOf CX0 P w K mg base N qual (defScope st) f cdv A outer s H E).nox (defBody st) (tS K mg p W))
    (hp : ∀ ds b Q, ds.length = ps.length → pt ds b Q → W { nx := fun _ b' => Q .non b', rt := Q } (ds.map Slot.v ++ List.replicate (N.length - ps.length) .un) b) : Df P w K mg base (k + 1) x ps.length pt := by
  refine ⟨f, fd, ps, hm, F.kp, bd, rfl, F.ok S (fun vs H Q E h => h.1) fun cdv A outer s H vs Q E hr h => ?_⟩
  obtain ⟨hl, pa, ca, B, ds, b, Qd, trk, bpa, bca, po, fr, q, kk⟩ := h
  refine ⟨_, hb cdv A outer s H E ⟨pa, ca, B, H, N.length⟩ trk hr, ?_⟩
  have e := fr.length
  refine ⟨B, _, b, _, start_rel hl (pre_len S) trk bpa bca po fr, hp ds b Qd (by rw [← e, hl]) q, ⟨fun σ' H' B' env' b' R' k' q' => kk .non H' .non b' R'.ext R'.pen .non q', fun _ _ _ _ _ _ _ z => z.elim, fun _ _ _ _ _ _ _ z => z.elim, fun v H' d b' f' e' po' q' => kk v H' d b' e' po' f' q'⟩⟩
end
def pFault (LL : LLs) (cs : CL) : Spec := fun ds b Q => ∃ f vs cs' pt, ds = [.fn f vs cs'] ∧ (f, vs, pt) ∈ LL ∧ pt cs' b (fun c gs => c ∈ cs.map (·.1) ∧ ∃ t, toldC cs c gs = some t ∧ ∀ b', Q t b')
theorem hpFault {LL : LLs} {cs : CL} : ∀ ds b Q, ds.length = 1 → pFault LL cs ds b Q → wSeq (wFault LL 0 cs) (wRet (wC .non)) { nx := fun _ b' => Q .non b', rt := Q } (ds.map Slot.v ++ List.replicate 1 .un) b := by
  rintro ds b Q - ⟨f, vs, cs', pt, rfl, h1, h2⟩
  exact ⟨f, vs, cs', pt, rfl, h1, h2⟩
def W__law_are_due (p__law_fault : Spec) : WS := (wRet (wUn dAll (wFz (wComp [1, 2] (.tup [1, 2]) (wSeqOf (wVar 0)) wYes (wBin dEqS (wUn dRepG (wCall 1 p__law_fault (wCons (wVar 1) wNil))) (wUn dRepG (wVarB 2)))))))
theorem cmp_eachB {T : Tg} {We : WE} {env0 : Env} {y : D} : ∀ (xs : List D) (b : Nat) (Q : List D → Nat → Prop), (∀ x ∈ xs, ∃ env1, setTg T x env0 = some env1 ∧ ∀ (b : Nat) (K : D → Nat → Prop), (∀ b', K y b') → We env1 b K) → (∀ b', Q (List.replicate xs.length y) b') → cmpL T wYes We env0 xs b Q
  | [], b, Q, _, q => q b
  | x :: r, b, Q, h, q => by
    obtain ⟨env1, h1, h2⟩ := h x List.mem_cons_self
    simp only [cmpL, h1]
    show We env1 b _
    exact h2 b _ fun b' => cmp_eachB r b' _ (fun z hz => h z (List.mem_cons_of_mem _ hz)) q
theorem hpDue {LL : LLs} {cs : CL} : ∀ ds b Q, ds.length = 1 → pDue LL cs ds b Q → W__law_are_due (pFault LL cs) { nx := fun _ b' => Q .non b', rt := Q } (ds.map Slot.v ++ List.replicate 2 .un) b := by
  rintro ds b Q - ⟨Z, gv, rfl, hz, hZ, q⟩
  show W__law_are_due _ _ [.v (.lst (Z.map fun z => D.tup [.fn z.l.f (gv z) z.ds, z.due])), .un, .un] b
  (try simp only [wSeq, wSet, wSetO, wRet, wIfS, wFrz, wApp, wDrop, wNext, wBreak, wCont, wNever, wVar, wVarB, wC, wBin, wUn, wT, wAnd, wOr, wNot, wAndV, wOrV, wNotV, wIte, wNil, wCons, wTup, wCall, wListOf, wC2, wIsT, wIsC, wFld, wON, wOS, wSl, wV, wO, wSetIx, wPar, wSwap, wSeqOf, wRng1, wRng2, wFor, wWhile, wYes, wComp, wEnum, wZip, wEnum2, wRgT, wRgL, wAug, dMulT, dMax, wMake, wFz, wCat, wRep, wipeE, D.ty, wIf_true, wIf_false, List.getElem?_cons_zero, List.getElem?_cons_succ, List.set_cons_zero, List.set_cons_succ, dI0_ii, dI_ii, dNeg_i, dGcd_ii, dAbs_i, dInt_i, dInt_b, dBits_i, dLen_t, dLen_l, dTuple_t, dTuple_l, dAdd_ii, dAdd_tt, dAdd_ll, dAdd_ss, dMul_ii, dMul_li, dIs_n, dIs_b, dIsN_n, dRepr_b, rt_0, rt_1, dEq, dNe, dSub, dDiv, dDivU, dMod, dLt, dLe, dGt, dGe, D.isNon, Bool.not_true, Bool.not_false, W__law_are_due])
  refine ⟨by first | omega | (simp; omega), cmp_eachB (y := .bl true) _ _ _ (fun x hx => ?_) fun b' => ?_⟩
  · obtain ⟨z, hz', rfl⟩ := List.mem_map.mp hx
    obtain ⟨h1, h2, h3⟩ := hZ z hz'
    refine ⟨_, rfl, fun b1 K kk => ?_⟩
    (try simp only [wSeq, wSet, wSetO, wRet, wIfS, wFrz, wApp, wDrop, wNext, wBreak, wCont, wNever, wVar, wVarB, wC, wBin, wUn, wT, wAnd, wOr, wNot, wAndV, wOrV, wNotV, wIte, wNil, wCons, wTup, wCall, wListOf, wC2, wIsT, wIsC, wFld, wON, wOS, wSl, wV, wO, wSetIx, wPar, wSwap, wSeqOf, wRng1, wRng2, wFor, wWhile, wYes, wComp, wEnum, wZip, wEnum2, wRgT, wRgL, wAug, dMulT, dMax, wMake, wFz, wCat, wRep, wipeE, D.ty, wIf_true, wIf_false, List.getElem?_cons_zero, List.getElem?_cons_succ, List.set_cons_zero, List.set_cons_succ, dI0_ii, dI_ii, dNeg_i, dGcd_ii, dAbs_i, dInt_i, dInt_b, dBits_i, dLen_t, dLen_l, dTuple_t, dTuple_l, dAdd_ii, dAdd_tt, dAdd_ll, dAdd_ss, dMul_ii, dMul_li, dIs_n, dIs_b, dIsN_n, dRepr_b, rt_0, rt_1, dEq, dNe, dSub, dDiv, dDivU, dMod, dLt, dLe, dGt, dGe, D.isNon, Bool.not_true, Bool.not_false])
    refine ⟨rfl, _, _, _, _, rfl, h1, ?_⟩
    refine h3 _ _ fun c gs h4 h5 => ⟨h4, _, h5, fun b' => ⟨h2, ?_⟩⟩
    (try simp only [wSeq, wSet, wSetO, wRet, wIfS, wFrz, wApp, wDrop, wNext, wBreak, wCont, wNever, wVar, wVarB, wC, wBin, wUn, wT, wAnd, wOr, wNot, wAndV, wOrV, wNotV, wIte, wNil, wCons, wTup, wCall, wListOf, wC2, wIsT, wIsC, wFld, wON, wOS, wSl, wV, wO, wSetIx, wPar, wSwap, wSeqOf, wRng1, wRng2, wFor, wWhile, wYes, wComp, wEnum, wZip, wEnum2, wRgT, wRgL, wAug, dMulT, dMax, wMake, wFz, wCat, wRep, wipeE, D.ty, wIf_true, wIf_false, List.getElem?_cons_zero, List.getElem?_cons_succ, List.set_cons_zero, List.set_cons_succ, dI0_ii, dI_ii, dNeg_i, dGcd_ii, dAbs_i, dInt_i, dInt_b, dBits_i, dLen_t, dLen_l, dTuple_t, dTuple_l, dAdd_ii, dAdd_tt, dAdd_ll, dAdd_ss, dMul_ii, dMul_li, dIs_n, dIs_b, dIsN_n, dRepr_b, rt_0, rt_1, dEq, dNe, dSub, dDiv, dDivU, dMod, dLt, dLe, dGt, dGe, D.isNon, Bool.not_true, Bool.not_false])
    refine ⟨h2, ?_⟩
    show K (.bl (decide (z.due.py.shown = z.due.py.shown))) b'
    rw [decide_eq_true rfl]
    exact kk b'
  · refine ⟨List.replicate _ true, by rw [List.map_replicate], ?_⟩
    rw [show (List.replicate (Z.map fun z => D.tup [.fn z.l.f (gv z) z.ds, z.due]).length true).all id = true by simp]
    exact q b'
end En
/-! Sums of powers. -/
namespace En
open PySem PySem.Spec PyProof.Rows L2
def sumR (xs : List Rat) : Rat := xs.foldl (· + ·) 0
theorem sumR_snoc (xs : List Rat) (x : Rat) : sumR (xs ++ [x]) = sumR xs + x := by simp [sumR, List.foldl_append]
theorem take_next {α : Type} {xs : List α} {i : Nat} {x : α} (h : xs[i]? = some x) : xs.take (i + 1) = xs.take i ++ [x] := by rw [List.take_succ, h]; rfl
theorem sum_hz {h : Nat} : ∀ (n : Nat) (xs : List Rat), xs.length ≤ n → HzL (h + 1) xs → Hz (xs.length * (h + 2) + 1) (sumR xs) := by
  intro n xs
  suffices H : ∀ (ys : List Rat) (z : Rat) (a : Nat), Hz (a + 1) z → HzL (h + 1) ys → Hz (a + ys.length * (h + 2) + 1) (ys.foldl (· + ·) z) by
    intro _ hx
    have := H xs 0 0 (hz_0 0) hx
    simpa [sumR] using this
  intro ys
  induction ys with
  | nil => intro z a hz _; simpa using hz
  | cons y ys ih =>
    intro z a hz hy
    have h1 : Hz (a + (h + 2) + 1) (z + y) := (hz.add (hy y List.mem_cons_self)).mono (by omega)
    have := ih (z + y) (a + (h + 2)) h1 fun x hx => hy x (List.mem_cons_of_mem _ hx)
    refine this.mono ?_
    rw [List.length_cons, Nat.add_mul]
    omega
def hereR (ps ws : List Rat) : Nat → List Rat
  | 0 => ws
  | k + 1 => List.zipWith (· * ·) (hereR ps ws k) ps
def powL (ps ws : List Rat) (n : Nat) : List Rat := (List.range n).map fun k => sumR (hereR ps ws k)
theorem powL_next (ps ws : List Rat) (n : Nat) : powL ps ws (n + 1) = powL ps ws n ++ [sumR (hereR ps ws n)] := by simp [powL, List.range_succ]
theorem here_len {ps ws : List Rat} (h : ws.length = ps.length) : ∀ k, (hereR ps ws k).length = ps.length
  | 0 => h
  | k + 1 => by simp [hereR, here_len h k]
theorem zipW_mem {α β γ : Type} {f : α → β → γ} : ∀ {xs : List α} {ys : List β} {z : γ}, z ∈ List.zipWith f xs ys → ∃ x ∈ xs, ∃ y ∈ ys, z = f x y
  | [], _, _, h => by simp at h
  | _ :: _, [], _, h => by simp at h
  | x :: xs, y :: ys, z, h => by
    rw [List.zipWith_cons_cons] at h
    rcases List.mem_cons.mp h with rfl | h
    · exact ⟨x, List.mem_cons_self, y, List.mem_cons_self, rfl⟩
    · obtain ⟨x', h1, y', h2, e⟩ := zipW_mem h
      exact ⟨x', List.mem_cons_of_mem _ h1, y', List.mem_cons_of_mem _ h2, e⟩
theorem here_hz {ps ws : List Rat} {h g : Nat} (hw : HzL (h + 1) ws) (hp : HzL g ps) : ∀ k, HzL (h + k * g + 1) (hereR ps ws k)
  | 0 => by simpa [hereR] using hw
  | k + 1 => fun x hx => by
    obtain ⟨a, ha, b, hb, rfl⟩ := zipW_mem hx
    exact ((here_hz hw hp k a ha).mul (hp b hb)).mono (by rw [Nat.add_mul]; omega)
/-- heights of sums of powers -/
structure PwOk (ps ws : List Rat) (many : Nat) : Prop where
  len : ws.length = ps.length
  few : ps.length ≤ 1000
  m : many ≤ 1000
  hz : ∃ h g, HzL (h + 1) ws ∧ HzL g ps ∧ (ps.length + 1) * (h + many * g + 2) + 1 ≤ SB
theorem PwOk.at {ps ws : List Rat} {many k : Nat} (o : PwOk ps ws many) (hk : k ≤ many) : ∃ t, HzL (t + 1) (hereR ps ws k) ∧ (ps.length + 1) * (t + 2) + 1 ≤ SB := by
  obtain ⟨h, g, h1, h2, h3⟩ := o.hz
  refine ⟨h + k * g, here_hz h1 h2 k, Nat.le_trans (Nat.add_le_add_right (Nat.mul_le_mul_left _ ?_) 1) h3⟩
  have := Nat.mul_le_mul_right g hk
  omega
def p__law_sum : Spec := fun ds b Q => ∃ (xs : List Rat) (t : Nat), ds = [.lst (xs.map rt)] ∧ xs.length ≤ 1000 ∧ HzL (t + 1) xs ∧ (xs.length + 1) * (t + 2) + 1 ≤ SB ∧ Q (rt (sumR xs)) b
def p_power_row : Spec := fun ds b Q => ∃ (ps ws : List Rat) (many : Nat), ds = [.tup (ps.map rt), .tup (ws.map rt), .int (many : Int)] ∧ PwOk ps ws many ∧ Q (.tup ((powL ps ws many).map rt)) b
def p__law_power_row : Spec := p_power_row
def p_need_between : Spec := fun ds b Q => ∃ (s : D) (n lo hi : Int), ds = [s, .int n, .int lo, .int hi] ∧ lo ≤ n ∧ n ≤ hi ∧ Q .non b
/-- need_between: what, number, low, high -/
def W_need_between : WS := (wSeq (wIfS (wNot (wT (wCall 1 p_is_whole (wCons (wVar 1) wNil)))) wNever wNext) (wIfS (wOr (wAnd (wT (wBin dIsN (wVarB 2) (wC .non))) (wT (wBin dLt (wVarB 1) (wVarB 2)))) (wAnd (wT (wBin dIsN (wVarB 3) (wC .non))) (wT (wBin dGt (wVarB 1) (wVarB 3))))) wNever wNext))
/-- power_row: points, weights, many, out, here, lap, total, item, point -/
def W_power_row : WS := (wSeq (wPar 3 4 (wO wNil) (wV (wFz (wListOf (wVarB 1))))) (wSeq (wFor (.one 5) (wRng1 (wCons (wVar 2) wNil)) (wSeq (wSet 6 (wC kNONE)) (wSeq (wFor (.one 7) (wSeqOf (wVar 4)) (wSet 6 (wCall 2 p_summed (wCons (wVar 6) (wCons (wVar 7) wNil))))) (wSeq (wApp 3 (wVar 6)) (wSeq (wSetO 4 (wComp [7, 8] (.tup [7, 8]) (wZipM (wCons (wVar 4) (wCons (wVar 0) wNil))) wYes (wCall 2 p_scaled (wCons (wVar 7) (wCons (wVar 8) wNil))))) (wFrz 4 wNext)))))) (wRet (wUn dTuple (wVarB 3)))))
/-- _law_sum: rows, found, item -/
def W__law_sum : WS := (wSeq (wSet 1 (wTup (wCons (wC (.int 0)) (wCons (wC (.int 1)) wNil)))) (wSeq (wFor (.one 2) (wSeqOf (wVar 0)) (wSet 1 (wCall 2 p__law_plus (wCons (wVar 1) (wCons (wVar 2) wNil))))) (wRet (wVar 1))))
/-- _law_power_row: points, weights, many, found, here, lap, a, b -/
def W__law_power_row : WS := (wSeq (wPar 3 4 (wO wNil) (wV (wFz (wListOf (wVarB 1))))) (wSeq (wFor (.one 5) (wRng1 (wCons (wVar 2) wNil)) (wSeq (wApp 3 (wCall 1 p__law_sum (wCons (wVar 4) wNil))) (wSeq (wSetO 4 (wComp [6, 7] (.tup [6, 7]) (wZipM (wCons (wVar 4) (wCons (wVar 0) wNil))) wYes (wCall 2 p__law_times (wCons (wVar 6) (wCons (wVar 7) wNil))))) (wFrz 4 wNext)))) (wRet (wUn dTuple (wVarB 3)))))
/-- the sum, by a loop -/
theorem sum_loop {xs : List Rat} {t : Nat} (hx : HzL (t + 1) xs) (ht : (xs.length + 1) * (t + 2) + 1 ≤ SB) {i : Nat} {x : Rat} (h : xs[i]? = some x) : Sz (sumR (xs.take i)) ∧ Sz x := by
  have hi := (List.getElem?_eq_some_iff.mp h).1
  constructor
  · refine (sum_hz _ (xs.take i) (Nat.le_refl _) fun y hy => hx y (List.mem_of_mem_take hy)).sz ?_
    rw [List.length_take]
    have := Nat.mul_le_mul_right (t + 2) (show min i xs.length ≤ xs.length + 1 by omega)
    omega
  · refine (hx x (List.mem_of_getElem? h)).sz ?_
    have := Nat.mul_le_mul_right (t + 2) (show 1 ≤ xs.length + 1 by omega)
    omega
theorem get_map {α : Type} {f : α → D} {xs : List α} {i : Nat} {d : D} (h : (xs.map f)[i]? = some d) : ∃ x, xs[i]? = some x ∧ d = f x := by
  rw [List.getElem?_map] at h
  cases e : xs[i]? with
  | none => rw [e] at h; cases h
  | some x => rw [e] at h; cases h; exact ⟨x, rfl, rfl⟩
theorem hp__law_sum : ∀ ds b Q, ds.length = 1 → p__law_sum ds b Q → W__law_sum { nx := fun _ b' => Q .non b', rt := Q } (ds.map Slot.v ++ List.replicate 2 .un) b := by
  rintro ds b Q - ⟨xs, t, rfl, hl, hx, ht, q⟩
  show W__law_sum _ [.v (.lst (xs.map rt)), .un, .un] b
  (try simp only [wSeq, wSet, wSetO, wRet, wIfS, wFrz, wApp, wDrop, wNext, wBreak, wCont, wNever, wVar, wVarB, wC, wBin, wUn, wT, wAnd, wOr, wNot, wAndV, wOrV, wNotV, wIte, wNil, wCons, wTup, wCall, wListOf, wC2, wIsT, wIsC, wFld, wON, wOS, wSl, wV, wO, wSetIx, wPar, wSwap, wSeqOf, wRng1, wRng2, wFor, wWhile, wYes, wComp, wEnum, wZip, wEnum2, wRgT, wRgL, wAug, dMulT, dMax, wMake, wFz, wCat, wRep, wipeE, D.ty, wIf_true, wIf_false, List.getElem?_cons_zero, List.getElem?_cons_succ, List.set_cons_zero, List.set_cons_succ, dI0_ii, dI_ii, dNeg_i, dGcd_ii, dAbs_i, dInt_i, dInt_b, dBits_i, dLen_t, dLen_l, dTuple_t, dTuple_l, dAdd_ii, dAdd_tt, dAdd_ll, dAdd_ss, dMul_ii, dMul_li, dIs_n, dIs_b, dIsN_n, dRepr_b, rt_0, rt_1, dEq, dNe, dSub, dDiv, dDivU, dMod, dLt, dLe, dGt, dGe, D.isNon, Bool.not_true, Bool.not_false, W__law_sum])
  refine for_rule (I := fun i env b' => b' = b ∧ ∃ s2, env = [.v (.lst (xs.map rt)), .v (rt (sumR (xs.take i))), s2]) ?_ ?_ _ _ ⟨rfl, _, rfl⟩
  · rintro i d env b' E' hd ⟨rfl, s2, rfl⟩ hnx hct hbk hrt
    obtain ⟨x, h1, rfl⟩ := get_map hd
    obtain ⟨z1, z2⟩ := sum_loop hx ht h1
    refine ⟨_, rfl, ?_⟩
    (try simp only [wSeq, wSet, wSetO, wRet, wIfS, wFrz, wApp, wDrop, wNext, wBreak, wCont, wNever, wVar, wVarB, wC, wBin, wUn, wT, wAnd, wOr, wNot, wAndV, wOrV, wNotV, wIte, wNil, wCons, wTup, wCall, wListOf, wC2, wIsT, wIsC, wFld, wON, wOS, wSl, wV, wO, wSetIx, wPar, wSwap, wSeqOf, wRng1, wRng2, wFor, wWhile, wYes, wComp, wEnum, wZip, wEnum2, wRgT, wRgL, wAug, dMulT, dMax, wMake, wFz, wCat, wRep, wipeE, D.ty, wIf_true, wIf_false, List.getElem?_cons_zero, List.getElem?_cons_succ, List.set_cons_zero, List.set_cons_succ, dI0_ii, dI_ii, dNeg_i, dGcd_ii, dAbs_i, dInt_i, dInt_b, dBits_i, dLen_t, dLen_l, dTuple_t, dTuple_l, dAdd_ii, dAdd_tt, dAdd_ll, dAdd_ss, dMul_ii, dMul_li, dIs_n, dIs_b, dIsN_n, dRepr_b, rt_0, rt_1, dEq, dNe, dSub, dDiv, dDivU, dMod, dLt, dLe, dGt, dGe, D.isNon, Bool.not_true, Bool.not_false])
    refine ⟨rfl, _, _, rfl, z1, z2, trivial, hnx _ _ ⟨rfl, .v (rt x), ?_⟩⟩
    rw [take_next h1, sumR_snoc]
  · rintro env b' ⟨rfl, s2, rfl⟩
    (try simp only [wSeq, wSet, wSetO, wRet, wIfS, wFrz, wApp, wDrop, wNext, wBreak, wCont, wNever, wVar, wVarB, wC, wBin, wUn, wT, wAnd, wOr, wNot, wAndV, wOrV, wNotV, wIte, wNil, wCons, wTup, wCall, wListOf, wC2, wIsT, wIsC, wFld, wON, wOS, wSl, wV, wO, wSetIx, wPar, wSwap, wSeqOf, wRng1, wRng2, wFor, wWhile, wYes, wComp, wEnum, wZip, wEnum2, wRgT, wRgL, wAug, dMulT, dMax, wMake, wFz, wCat, wRep, wipeE, D.ty, wIf_true, wIf_false, List.getElem?_cons_zero, List.getElem?_cons_succ, List.set_cons_zero, List.set_cons_succ, dI0_ii, dI_ii, dNeg_i, dGcd_ii, dAbs_i, dInt_i, dInt_b, dBits_i, dLen_t, dLen_l, dTuple_t, dTuple_l, dAdd_ii, dAdd_tt, dAdd_ll, dAdd_ss, dMul_ii, dMul_li, dIs_n, dIs_b, dIsN_n, dRepr_b, rt_0, rt_1, dEq, dNe, dSub, dDiv, dDivU, dMod, dLt, dLe, dGt, dGe, D.isNon, Bool.not_true, Bool.not_false])
    rw [List.length_map, List.take_length]
    exact q
theorem hp_need_between : ∀ ds b Q, ds.length = 4 → p_need_between ds b Q → W_need_between { nx := fun _ b' => Q .non b', rt := Q } (ds.map Slot.v ++ List.replicate 0 .un) b := by
  rintro ds b Q - ⟨s, n, lo, hi, rfl, h1, h2, q⟩
  show W_need_between _ [.v s, .v (.int n), .v (.int lo), .v (.int hi)] b
  (try simp only [wSeq, wSet, wSetO, wRet, wIfS, wFrz, wApp, wDrop, wNext, wBreak, wCont, wNever, wVar, wVarB, wC, wBin, wUn, wT, wAnd, wOr, wNot, wAndV, wOrV, wNotV, wIte, wNil, wCons, wTup, wCall, wListOf, wC2, wIsT, wIsC, wFld, wON, wOS, wSl, wV, wO, wSetIx, wPar, wSwap, wSeqOf, wRng1, wRng2, wFor, wWhile, wYes, wComp, wEnum, wZip, wEnum2, wRgT, wRgL, wAug, dMulT, dMax, wMake, wFz, wCat, wRep, wipeE, D.ty, wIf_true, wIf_false, List.getElem?_cons_zero, List.getElem?_cons_succ, List.set_cons_zero, List.set_cons_succ, dI0_ii, dI_ii, dNeg_i, dGcd_ii, dAbs_i, dInt_i, dInt_b, dBits_i, dLen_t, dLen_l, dTuple_t, dTuple_l, dAdd_ii, dAdd_tt, dAdd_ll, dAdd_ss, dMul_ii, dMul_li, dIs_n, dIs_b, dIsN_n, dRepr_b, rt_0, rt_1, dEq, dNe, dSub, dDiv, dDivU, dMod, dLt, dLe, dGt, dGe, D.isNon, Bool.not_true, Bool.not_false, W_need_between])
  refine ⟨rfl, _, rfl, rfl, ?_⟩
  rw [show (D.int n).isInt = true by first | rfl | simp [D.isInt] | decide]
  (try simp only [wSeq, wSet, wSetO, wRet, wIfS, wFrz, wApp, wDrop, wNext, wBreak, wCont, wNever, wVar, wVarB, wC, wBin, wUn, wT, wAnd, wOr, wNot, wAndV, wOrV, wNotV, wIte, wNil, wCons, wTup, wCall, wListOf, wC2, wIsT, wIsC, wFld, wON, wOS, wSl, wV, wO, wSetIx, wPar, wSwap, wSeqOf, wRng1, wRng2, wFor, wWhile, wYes, wComp, wEnum, wZip, wEnum2, wRgT, wRgL, wAug, dMulT, dMax, wMake, wFz, wCat, wRep, wipeE, D.ty, wIf_true, wIf_false, List.getElem?_cons_zero, List.getElem?_cons_succ, List.set_cons_zero, List.set_cons_succ, dI0_ii, dI_ii, dNeg_i, dGcd_ii, dAbs_i, dInt_i, dInt_b, dBits_i, dLen_t, dLen_l, dTuple_t, dTuple_l, dAdd_ii, dAdd_tt, dAdd_ll, dAdd_ss, dMul_ii, dMul_li, dIs_n, dIs_b, dIsN_n, dRepr_b, rt_0, rt_1, dEq, dNe, dSub, dDiv, dDivU, dMod, dLt, dLe, dGt, dGe, D.isNon, Bool.not_true, Bool.not_false])
  rw [decide_eq_false (by omega : ¬ n < lo)]
  (try simp only [wSeq, wSet, wSetO, wRet, wIfS, wFrz, wApp, wDrop, wNext, wBreak, wCont, wNever, wVar, wVarB, wC, wBin, wUn, wT, wAnd, wOr, wNot, wAndV, wOrV, wNotV, wIte, wNil, wCons, wTup, wCall, wListOf, wC2, wIsT, wIsC, wFld, wON, wOS, wSl, wV, wO, wSetIx, wPar, wSwap, wSeqOf, wRng1, wRng2, wFor, wWhile, wYes, wComp, wEnum, wZip, wEnum2, wRgT, wRgL, wAug, dMulT, dMax, wMake, wFz, wCat, wRep, wipeE, D.ty, wIf_true, wIf_false, List.getElem?_cons_zero, List.getElem?_cons_succ, List.set_cons_zero, List.set_cons_succ, dI0_ii, dI_ii, dNeg_i, dGcd_ii, dAbs_i, dInt_i, dInt_b, dBits_i, dLen_t, dLen_l, dTuple_t, dTuple_l, dAdd_ii, dAdd_tt, dAdd_ll, dAdd_ss, dMul_ii, dMul_li, dIs_n, dIs_b, dIsN_n, dRepr_b, rt_0, rt_1, dEq, dNe, dSub, dDiv, dDivU, dMod, dLt, dLe, dGt, dGe, D.isNon, Bool.not_true, Bool.not_false])
  rw [decide_eq_false (by omega : ¬ hi < n)]
  (try simp only [wSeq, wSet, wSetO, wRet, wIfS, wFrz, wApp, wDrop, wNext, wBreak, wCont, wNever, wVar, wVarB, wC, wBin, wUn, wT, wAnd, wOr, wNot, wAndV, wOrV, wNotV, wIte, wNil, wCons, wTup, wCall, wListOf, wC2, wIsT, wIsC, wFld, wON, wOS, wSl, wV, wO, wSetIx, wPar, wSwap, wSeqOf, wRng1, wRng2, wFor, wWhile, wYes, wComp, wEnum, wZip, wEnum2, wRgT, wRgL, wAug, dMulT, dMax, wMake, wFz, wCat, wRep, wipeE, D.ty, wIf_true, wIf_false, List.getElem?_cons_zero, List.getElem?_cons_succ, List.set_cons_zero, List.set_cons_succ, dI0_ii, dI_ii, dNeg_i, dGcd_ii, dAbs_i, dInt_i, dInt_b, dBits_i, dLen_t, dLen_l, dTuple_t, dTuple_l, dAdd_ii, dAdd_tt, dAdd_ll, dAdd_ss, dMul_ii, dMul_li, dIs_n, dIs_b, dIsN_n, dRepr_b, rt_0, rt_1, dEq, dNe, dSub, dDiv, dDivU, dMod, dLt, dLe, dGt, dGe, D.isNon, Bool.not_true, Bool.not_false])
  exact q
theorem zip_mul {xs ys : List Rat} : (xs.zip ys).map (fun q => rt (q.1 * q.2)) = (List.zipWith (· * ·) xs ys).map rt := by
  rw [← List.map_uncurry_zip_eq_zipWith, List.map_map]
  rfl
theorem hp__law_power_row : ∀ ds b Q, ds.length = 3 → p__law_power_row ds b Q → W__law_power_row { nx := fun _ b' => Q .non b', rt := Q } (ds.map Slot.v ++ List.replicate 5 .un) b := by
  rintro ds b Q - ⟨ps, ws, many, rfl, ok, q⟩
  show W__law_power_row _ [.v (.tup (ps.map rt)), .v (.tup (ws.map rt)), .v (.int (many : Int)), .un, .un, .un, .un, .un] b
  have hm := ok.m
  (try simp only [wSeq, wSet, wSetO, wRet, wIfS, wFrz, wApp, wDrop, wNext, wBreak, wCont, wNever, wVar, wVarB, wC, wBin, wUn, wT, wAnd, wOr, wNot, wAndV, wOrV, wNotV, wIte, wNil, wCons, wTup, wCall, wListOf, wC2, wIsT, wIsC, wFld, wON, wOS, wSl, wV, wO, wSetIx, wPar, wSwap, wSeqOf, wRng1, wRng2, wFor, wWhile, wYes, wComp, wEnum, wZip, wEnum2, wRgT, wRgL, wAug, dMulT, dMax, wMake, wFz, wCat, wRep, wipeE, D.ty, wIf_true, wIf_false, List.getElem?_cons_zero, List.getElem?_cons_succ, List.set_cons_zero, List.set_cons_succ, dI0_ii, dI_ii, dNeg_i, dGcd_ii, dAbs_i, dInt_i, dInt_b, dBits_i, dLen_t, dLen_l, dTuple_t, dTuple_l, dAdd_ii, dAdd_tt, dAdd_ll, dAdd_ss, dMul_ii, dMul_li, dIs_n, dIs_b, dIsN_n, dRepr_b, rt_0, rt_1, dEq, dNe, dSub, dDiv, dDivU, dMod, dLt, dLe, dGt, dGe, D.isNon, Bool.not_true, Bool.not_false, W__law_power_row])
  refine ⟨⟨by omega, by omega⟩, ?_⟩
  rw [show rangeD 0 ((many : Nat) : Int).toNat = rangeD ((0 : Nat) : Int) many by rw [Int.toNat_natCast]; rfl, rangeD_nat]
  refine for_rule (I := fun i env b' => b' = b ∧ ∃ s5 s6 s7, env = [.v (.tup (ps.map rt)), .v (.tup (ws.map rt)), .v (.int (many : Int)), .own ((powL ps ws i).map rt), .v (.lst ((hereR ps ws i).map rt)), s5, s6, s7]) ?_ ?_ _ _ ⟨rfl, _, _, _, rfl⟩
  · rintro i d env b' E' hd ⟨rfl, s5, s6, s7, rfl⟩ hnx hct hbk hrt
    obtain ⟨k, hk1, rfl⟩ := get_map hd
    have hi : i < many := by
      have := (List.getElem?_eq_some_iff.mp hd).1
      simpa using this
    obtain ⟨t, ht1, ht2⟩ := ok.at (k := i) (by omega)
    have hl := here_len ok.len i
    have few := ok.few
    refine ⟨_, rfl, ?_⟩
    (try simp only [wSeq, wSet, wSetO, wRet, wIfS, wFrz, wApp, wDrop, wNext, wBreak, wCont, wNever, wVar, wVarB, wC, wBin, wUn, wT, wAnd, wOr, wNot, wAndV, wOrV, wNotV, wIte, wNil, wCons, wTup, wCall, wListOf, wC2, wIsT, wIsC, wFld, wON, wOS, wSl, wV, wO, wSetIx, wPar, wSwap, wSeqOf, wRng1, wRng2, wFor, wWhile, wYes, wComp, wEnum, wZip, wEnum2, wRgT, wRgL, wAug, dMulT, dMax, wMake, wFz, wCat, wRep, wipeE, D.ty, wIf_true, wIf_false, List.getElem?_cons_zero, List.getElem?_cons_succ, List.set_cons_zero, List.set_cons_succ, dI0_ii, dI_ii, dNeg_i, dGcd_ii, dAbs_i, dInt_i, dInt_b, dBits_i, dLen_t, dLen_l, dTuple_t, dTuple_l, dAdd_ii, dAdd_tt, dAdd_ll, dAdd_ss, dMul_ii, dMul_li, dIs_n, dIs_b, dIsN_n, dRepr_b, rt_0, rt_1, dEq, dNe, dSub, dDiv, dDivU, dMod, dLt, dLe, dGt, dGe, D.isNon, Bool.not_true, Bool.not_false])
    refine ⟨rfl, hereR ps ws i, t, rfl, by omega, ht1, by rw [hl]; exact ht2, by simp [powL]; omega, ?_⟩
    (try simp only [wSeq, wSet, wSetO, wRet, wIfS, wFrz, wApp, wDrop, wNext, wBreak, wCont, wNever, wVar, wVarB, wC, wBin, wUn, wT, wAnd, wOr, wNot, wAndV, wOrV, wNotV, wIte, wNil, wCons, wTup, wCall, wListOf, wC2, wIsT, wIsC, wFld, wON, wOS, wSl, wV, wO, wSetIx, wPar, wSwap, wSeqOf, wRng1, wRng2, wFor, wWhile, wYes, wComp, wEnum, wZip, wEnum2, wRgT, wRgL, wAug, dMulT, dMax, wMake, wFz, wCat, wRep, wipeE, D.ty, wIf_true, wIf_false, List.getElem?_cons_zero, List.getElem?_cons_succ, List.set_cons_zero, List.set_cons_succ, dI0_ii, dI_ii, dNeg_i, dGcd_ii, dAbs_i, dInt_i, dInt_b, dBits_i, dLen_t, dLen_l, dTuple_t, dTuple_l, dAdd_ii, dAdd_tt, dAdd_ll, dAdd_ss, dMul_ii, dMul_li, dIs_n, dIs_b, dIsN_n, dRepr_b, rt_0, rt_1, dEq, dNe, dSub, dDiv, dDivU, dMod, dLt, dLe, dGt, dGe, D.isNon, Bool.not_true, Bool.not_false, wZipM])
    rw [zipD_rt]
    refine ⟨by simp; omega, cmp_at _ (fun q : Rat × Rat => rt (q.1 * q.2)) _ _ (fun x hx => ⟨_, rfl, fun K kk => ?_⟩) ?_⟩
    · (try simp only [wSeq, wSet, wSetO, wRet, wIfS, wFrz, wApp, wDrop, wNext, wBreak, wCont, wNever, wVar, wVarB, wC, wBin, wUn, wT, wAnd, wOr, wNot, wAndV, wOrV, wNotV, wIte, wNil, wCons, wTup, wCall, wListOf, wC2, wIsT, wIsC, wFld, wON, wOS, wSl, wV, wO, wSetIx, wPar, wSwap, wSeqOf, wRng1, wRng2, wFor, wWhile, wYes, wComp, wEnum, wZip, wEnum2, wRgT, wRgL, wAug, dMulT, dMax, wMake, wFz, wCat, wRep, wipeE, D.ty, wIf_true, wIf_false, List.getElem?_cons_zero, List.getElem?_cons_succ, List.set_cons_zero, List.set_cons_succ, dI0_ii, dI_ii, dNeg_i, dGcd_ii, dAbs_i, dInt_i, dInt_b, dBits_i, dLen_t, dLen_l, dTuple_t, dTuple_l, dAdd_ii, dAdd_tt, dAdd_ll, dAdd_ss, dMul_ii, dMul_li, dIs_n, dIs_b, dIsN_n, dRepr_b, rt_0, rt_1, dEq, dNe, dSub, dDiv, dDivU, dMod, dLt, dLe, dGt, dGe, D.isNon, Bool.not_true, Bool.not_false])
      have hz1 : Sz x.1 := by
        refine (ht1 x.1 (List.of_mem_zip hx).1).sz ?_
        have := Nat.mul_le_mul_right (t + 2) (show 1 ≤ ps.length + 1 by omega)
        omega
      have hz2 : Sz x.2 := by
        obtain ⟨h, g, g1, g2, g3⟩ := ok.hz
        refine (g2 x.2 (List.of_mem_zip hx).2).sz ?_
        have e1 := Nat.mul_le_mul_right g (show 1 ≤ many by omega)
        have e2 := Nat.mul_le_mul_right (h + many * g + 2) (show 1 ≤ ps.length + 1 by omega)
        omega
      exact ⟨rfl, x.1, x.2, rfl, hz1, hz2, trivial, kk⟩
    · (try simp only [wSeq, wSet, wSetO, wRet, wIfS, wFrz, wApp, wDrop, wNext, wBreak, wCont, wNever, wVar, wVarB, wC, wBin, wUn, wT, wAnd, wOr, wNot, wAndV, wOrV, wNotV, wIte, wNil, wCons, wTup, wCall, wListOf, wC2, wIsT, wIsC, wFld, wON, wOS, wSl, wV, wO, wSetIx, wPar, wSwap, wSeqOf, wRng1, wRng2, wFor, wWhile, wYes, wComp, wEnum, wZip, wEnum2, wRgT, wRgL, wAug, dMulT, dMax, wMake, wFz, wCat, wRep, wipeE, D.ty, wIf_true, wIf_false, List.getElem?_cons_zero, List.getElem?_cons_succ, List.set_cons_zero, List.set_cons_succ, dI0_ii, dI_ii, dNeg_i, dGcd_ii, dAbs_i, dInt_i, dInt_b, dBits_i, dLen_t, dLen_l, dTuple_t, dTuple_l, dAdd_ii, dAdd_tt, dAdd_ll, dAdd_ss, dMul_ii, dMul_li, dIs_n, dIs_b, dIsN_n, dRepr_b, rt_0, rt_1, dEq, dNe, dSub, dDiv, dDivU, dMod, dLt, dLe, dGt, dGe, D.isNon, Bool.not_true, Bool.not_false])
      rw [zip_mul]
      refine hnx _ _ ⟨rfl, .v (.int (k : Int)), s6, s7, ?_⟩
      rw [powL_next]
      simp [hereR]
  · rintro env b' ⟨rfl, s5, s6, s7, rfl⟩
    (try simp only [wSeq, wSet, wSetO, wRet, wIfS, wFrz, wApp, wDrop, wNext, wBreak, wCont, wNever, wVar, wVarB, wC, wBin, wUn, wT, wAnd, wOr, wNot, wAndV, wOrV, wNotV, wIte, wNil, wCons, wTup, wCall, wListOf, wC2, wIsT, wIsC, wFld, wON, wOS, wSl, wV, wO, wSetIx, wPar, wSwap, wSeqOf, wRng1, wRng2, wFor, wWhile, wYes, wComp, wEnum, wZip, wEnum2, wRgT, wRgL, wAug, dMulT, dMax, wMake, wFz, wCat, wRep, wipeE, D.ty, wIf_true, wIf_false, List.getElem?_cons_zero, List.getElem?_cons_succ, List.set_cons_zero, List.set_cons_succ, dI0_ii, dI_ii, dNeg_i, dGcd_ii, dAbs_i, dInt_i, dInt_b, dBits_i, dLen_t, dLen_l, dTuple_t, dTuple_l, dAdd_ii, dAdd_tt, dAdd_ll, dAdd_ss, dMul_ii, dMul_li, dIs_n, dIs_b, dIsN_n, dRepr_b, rt_0, rt_1, dEq, dNe, dSub, dDiv, dDivU, dMod, dLt, dLe, dGt, dGe, D.isNon, Bool.not_true, Bool.not_false])
    rw [show (List.map (fun (i : Nat) => D.int (i : Int)) (List.map (fun x => 0 + x) (List.range many))).length = many by simp]
    exact q
theorem hp_power_row : ∀ ds b Q, ds.length = 3 → p_power_row ds b Q → W_power_row { nx := fun _ b' => Q .non b', rt := Q } (ds.map Slot.v ++ List.replicate 6 .un) b := by
  rintro ds b Q - ⟨ps, ws, many, rfl, ok, q⟩
  show W_power_row _ [.v (.tup (ps.map rt)), .v (.tup (ws.map rt)), .v (.int (many : Int)), .un, .un, .un, .un, .un, .un] b
  have hm := ok.m
  (try simp only [wSeq, wSet, wSetO, wRet, wIfS, wFrz, wApp, wDrop, wNext, wBreak, wCont, wNever, wVar, wVarB, wC, wBin, wUn, wT, wAnd, wOr, wNot, wAndV, wOrV, wNotV, wIte, wNil, wCons, wTup, wCall, wListOf, wC2, wIsT, wIsC, wFld, wON, wOS, wSl, wV, wO, wSetIx, wPar, wSwap, wSeqOf, wRng1, wRng2, wFor, wWhile, wYes, wComp, wEnum, wZip, wEnum2, wRgT, wRgL, wAug, dMulT, dMax, wMake, wFz, wCat, wRep, wipeE, D.ty, wIf_true, wIf_false, List.getElem?_cons_zero, List.getElem?_cons_succ, List.set_cons_zero, List.set_cons_succ, dI0_ii, dI_ii, dNeg_i, dGcd_ii, dAbs_i, dInt_i, dInt_b, dBits_i, dLen_t, dLen_l, dTuple_t, dTuple_l, dAdd_ii, dAdd_tt, dAdd_ll, dAdd_ss, dMul_ii, dMul_li, dIs_n, dIs_b, dIsN_n, dRepr_b, rt_0, rt_1, dEq, dNe, dSub, dDiv, dDivU, dMod, dLt, dLe, dGt, dGe, D.isNon, Bool.not_true, Bool.not_false, W_power_row])
  refine ⟨⟨by omega, by omega⟩, ?_⟩
  rw [show rangeD 0 ((many : Nat) : Int).toNat = rangeD ((0 : Nat) : Int) many by rw [Int.toNat_natCast]; rfl, rangeD_nat]
  refine for_rule (I := fun i env b' => b' = b ∧ ∃ s5 s6 s7 s8, env = [.v (.tup (ps.map rt)), .v (.tup (ws.map rt)), .v (.int (many : Int)), .own ((powL ps ws i).map rt), .v (.lst ((hereR ps ws i).map rt)), s5, s6, s7, s8]) ?_ ?_ _ _ ⟨rfl, _, _, _, _, rfl⟩
  · rintro i d env b' E' hd ⟨rfl, s5, s6, s7, s8, rfl⟩ hnx hct hbk hrt
    obtain ⟨k, hk1, rfl⟩ := get_map hd
    have hi : i < many := by
      have := (List.getElem?_eq_some_iff.mp hd).1
      simpa using this
    obtain ⟨t, ht1, ht2⟩ := ok.at (k := i) (by omega)
    have hl := here_len ok.len i
    have few := ok.few
    refine ⟨_, rfl, ?_⟩
    (try simp only [wSeq, wSet, wSetO, wRet, wIfS, wFrz, wApp, wDrop, wNext, wBreak, wCont, wNever, wVar, wVarB, wC, wBin, wUn, wT, wAnd, wOr, wNot, wAndV, wOrV, wNotV, wIte, wNil, wCons, wTup, wCall, wListOf, wC2, wIsT, wIsC, wFld, wON, wOS, wSl, wV, wO, wSetIx, wPar, wSwap, wSeqOf, wRng1, wRng2, wFor, wWhile, wYes, wComp, wEnum, wZip, wEnum2, wRgT, wRgL, wAug, dMulT, dMax, wMake, wFz, wCat, wRep, wipeE, D.ty, wIf_true, wIf_false, List.getElem?_cons_zero, List.getElem?_cons_succ, List.set_cons_zero, List.set_cons_succ, dI0_ii, dI_ii, dNeg_i, dGcd_ii, dAbs_i, dInt_i, dInt_b, dBits_i, dLen_t, dLen_l, dTuple_t, dTuple_l, dAdd_ii, dAdd_tt, dAdd_ll, dAdd_ss, dMul_ii, dMul_li, dIs_n, dIs_b, dIsN_n, dRepr_b, rt_0, rt_1, dEq, dNe, dSub, dDiv, dDivU, dMod, dLt, dLe, dGt, dGe, D.isNon, Bool.not_true, Bool.not_false])
    refine for_rule (I := fun j env b2 => b2 = b' ∧ ∃ s7 s8, env = [.v (.tup (ps.map rt)), .v (.tup (ws.map rt)), .v (.int (many : Int)), .own ((powL ps ws i).map rt), .v (.lst ((hereR ps ws i).map rt)), .v (.int (k : Int)), .v (rt (sumR ((hereR ps ws i).take j))), s7, s8]) ?_ ?_ _ _ ⟨rfl, s7, s8, rfl⟩
    · rintro j d2 env2 b2 E2 hd2 ⟨rfl, s7, s8, rfl⟩ hnx2 hct2 hbk2 hrt2
      obtain ⟨x, h1, rfl⟩ := get_map hd2
      obtain ⟨z1, z2⟩ := sum_loop ht1 (by rw [hl]; exact ht2) h1
      refine ⟨_, rfl, ?_⟩
      (try simp only [wSeq, wSet, wSetO, wRet, wIfS, wFrz, wApp, wDrop, wNext, wBreak, wCont, wNever, wVar, wVarB, wC, wBin, wUn, wT, wAnd, wOr, wNot, wAndV, wOrV, wNotV, wIte, wNil, wCons, wTup, wCall, wListOf, wC2, wIsT, wIsC, wFld, wON, wOS, wSl, wV, wO, wSetIx, wPar, wSwap, wSeqOf, wRng1, wRng2, wFor, wWhile, wYes, wComp, wEnum, wZip, wEnum2, wRgT, wRgL, wAug, dMulT, dMax, wMake, wFz, wCat, wRep, wipeE, D.ty, wIf_true, wIf_false, List.getElem?_cons_zero, List.getElem?_cons_succ, List.set_cons_zero, List.set_cons_succ, dI0_ii, dI_ii, dNeg_i, dGcd_ii, dAbs_i, dInt_i, dInt_b, dBits_i, dLen_t, dLen_l, dTuple_t, dTuple_l, dAdd_ii, dAdd_tt, dAdd_ll, dAdd_ss, dMul_ii, dMul_li, dIs_n, dIs_b, dIsN_n, dRepr_b, rt_0, rt_1, dEq, dNe, dSub, dDiv, dDivU, dMod, dLt, dLe, dGt, dGe, D.isNon, Bool.not_true, Bool.not_false])
      refine ⟨rfl, _, _, rfl, z1, z2, trivial, hnx2 _ _ ⟨rfl, .v (rt x), s8, ?_⟩⟩
      rw [take_next h1, sumR_snoc]
    · rintro env2 b2 ⟨rfl, s7, s8, rfl⟩
      (try simp only [wSeq, wSet, wSetO, wRet, wIfS, wFrz, wApp, wDrop, wNext, wBreak, wCont, wNever, wVar, wVarB, wC, wBin, wUn, wT, wAnd, wOr, wNot, wAndV, wOrV, wNotV, wIte, wNil, wCons, wTup, wCall, wListOf, wC2, wIsT, wIsC, wFld, wON, wOS, wSl, wV, wO, wSetIx, wPar, wSwap, wSeqOf, wRng1, wRng2, wFor, wWhile, wYes, wComp, wEnum, wZip, wEnum2, wRgT, wRgL, wAug, dMulT, dMax, wMake, wFz, wCat, wRep, wipeE, D.ty, wIf_true, wIf_false, List.getElem?_cons_zero, List.getElem?_cons_succ, List.set_cons_zero, List.set_cons_succ, dI0_ii, dI_ii, dNeg_i, dGcd_ii, dAbs_i, dInt_i, dInt_b, dBits_i, dLen_t, dLen_l, dTuple_t, dTuple_l, dAdd_ii, dAdd_tt, dAdd_ll, dAdd_ss, dMul_ii, dMul_li, dIs_n, dIs_b, dIsN_n, dRepr_b, rt_0, rt_1, dEq, dNe, dSub, dDiv, dDivU, dMod, dLt, dLe, dGt, dGe, D.isNon, Bool.not_true, Bool.not_false])
      rw [show (List.map rt (hereR ps ws i)).length = (hereR ps ws i).length by simp, List.take_length]
      refine ⟨by simp [powL]; omega, ?_⟩
      (try simp only [wSeq, wSet, wSetO, wRet, wIfS, wFrz, wApp, wDrop, wNext, wBreak, wCont, wNever, wVar, wVarB, wC, wBin, wUn, wT, wAnd, wOr, wNot, wAndV, wOrV, wNotV, wIte, wNil, wCons, wTup, wCall, wListOf, wC2, wIsT, wIsC, wFld, wON, wOS, wSl, wV, wO, wSetIx, wPar, wSwap, wSeqOf, wRng1, wRng2, wFor, wWhile, wYes, wComp, wEnum, wZip, wEnum2, wRgT, wRgL, wAug, dMulT, dMax, wMake, wFz, wCat, wRep, wipeE, D.ty, wIf_true, wIf_false, List.getElem?_cons_zero, List.getElem?_cons_succ, List.set_cons_zero, List.set_cons_succ, dI0_ii, dI_ii, dNeg_i, dGcd_ii, dAbs_i, dInt_i, dInt_b, dBits_i, dLen_t, dLen_l, dTuple_t, dTuple_l, dAdd_ii, dAdd_tt, dAdd_ll, dAdd_ss, dMul_ii, dMul_li, dIs_n, dIs_b, dIsN_n, dRepr_b, rt_0, rt_1, dEq, dNe, dSub, dDiv, dDivU, dMod, dLt, dLe, dGt, dGe, D.isNon, Bool.not_true, Bool.not_false, wZipM])
      rw [zipD_rt]
      refine ⟨by simp; omega, cmp_at _ (fun q : Rat × Rat => rt (q.1 * q.2)) _ _ (fun x hx => ⟨_, rfl, fun K kk => ?_⟩) ?_⟩
      · (try simp only [wSeq, wSet, wSetO, wRet, wIfS, wFrz, wApp, wDrop, wNext, wBreak, wCont, wNever, wVar, wVarB, wC, wBin, wUn, wT, wAnd, wOr, wNot, wAndV, wOrV, wNotV, wIte, wNil, wCons, wTup, wCall, wListOf, wC2, wIsT, wIsC, wFld, wON, wOS, wSl, wV, wO, wSetIx, wPar, wSwap, wSeqOf, wRng1, wRng2, wFor, wWhile, wYes, wComp, wEnum, wZip, wEnum2, wRgT, wRgL, wAug, dMulT, dMax, wMake, wFz, wCat, wRep, wipeE, D.ty, wIf_true, wIf_false, List.getElem?_cons_zero, List.getElem?_cons_succ, List.set_cons_zero, List.set_cons_succ, dI0_ii, dI_ii, dNeg_i, dGcd_ii, dAbs_i, dInt_i, dInt_b, dBits_i, dLen_t, dLen_l, dTuple_t, dTuple_l, dAdd_ii, dAdd_tt, dAdd_ll, dAdd_ss, dMul_ii, dMul_li, dIs_n, dIs_b, dIsN_n, dRepr_b, rt_0, rt_1, dEq, dNe, dSub, dDiv, dDivU, dMod, dLt, dLe, dGt, dGe, D.isNon, Bool.not_true, Bool.not_false])
        have hz1 : Sz x.1 := by
          refine (ht1 x.1 (List.of_mem_zip hx).1).sz ?_
          have := Nat.mul_le_mul_right (t + 2) (show 1 ≤ ps.length + 1 by omega)
          omega
        have hz2 : Sz x.2 := by
          obtain ⟨h, g, g1, g2, g3⟩ := ok.hz
          refine (g2 x.2 (List.of_mem_zip hx).2).sz ?_
          have e1 := Nat.mul_le_mul_right g (show 1 ≤ many by omega)
          have e2 := Nat.mul_le_mul_right (h + many * g + 2) (show 1 ≤ ps.length + 1 by omega)
          omega
        exact ⟨rfl, x.1, x.2, rfl, hz1, hz2, trivial, kk⟩
      · (try simp only [wSeq, wSet, wSetO, wRet, wIfS, wFrz, wApp, wDrop, wNext, wBreak, wCont, wNever, wVar, wVarB, wC, wBin, wUn, wT, wAnd, wOr, wNot, wAndV, wOrV, wNotV, wIte, wNil, wCons, wTup, wCall, wListOf, wC2, wIsT, wIsC, wFld, wON, wOS, wSl, wV, wO, wSetIx, wPar, wSwap, wSeqOf, wRng1, wRng2, wFor, wWhile, wYes, wComp, wEnum, wZip, wEnum2, wRgT, wRgL, wAug, dMulT, dMax, wMake, wFz, wCat, wRep, wipeE, D.ty, wIf_true, wIf_false, List.getElem?_cons_zero, List.getElem?_cons_succ, List.set_cons_zero, List.set_cons_succ, dI0_ii, dI_ii, dNeg_i, dGcd_ii, dAbs_i, dInt_i, dInt_b, dBits_i, dLen_t, dLen_l, dTuple_t, dTuple_l, dAdd_ii, dAdd_tt, dAdd_ll, dAdd_ss, dMul_ii, dMul_li, dIs_n, dIs_b, dIsN_n, dRepr_b, rt_0, rt_1, dEq, dNe, dSub, dDiv, dDivU, dMod, dLt, dLe, dGt, dGe, D.isNon, Bool.not_true, Bool.not_false])
        rw [zip_mul]
        refine hnx _ _ ⟨rfl, .v (.int (k : Int)), .v (rt (sumR (hereR ps ws i))), s7, s8, ?_⟩
        rw [powL_next]
        simp [hereR]
  · rintro env b' ⟨rfl, s5, s6, s7, s8, rfl⟩
    (try simp only [wSeq, wSet, wSetO, wRet, wIfS, wFrz, wApp, wDrop, wNext, wBreak, wCont, wNever, wVar, wVarB, wC, wBin, wUn, wT, wAnd, wOr, wNot, wAndV, wOrV, wNotV, wIte, wNil, wCons, wTup, wCall, wListOf, wC2, wIsT, wIsC, wFld, wON, wOS, wSl, wV, wO, wSetIx, wPar, wSwap, wSeqOf, wRng1, wRng2, wFor, wWhile, wYes, wComp, wEnum, wZip, wEnum2, wRgT, wRgL, wAug, dMulT, dMax, wMake, wFz, wCat, wRep, wipeE, D.ty, wIf_true, wIf_false, List.getElem?_cons_zero, List.getElem?_cons_succ, List.set_cons_zero, List.set_cons_succ, dI0_ii, dI_ii, dNeg_i, dGcd_ii, dAbs_i, dInt_i, dInt_b, dBits_i, dLen_t, dLen_l, dTuple_t, dTuple_l, dAdd_ii, dAdd_tt, dAdd_ll, dAdd_ss, dMul_ii, dMul_li, dIs_n, dIs_b, dIsN_n, dRepr_b, rt_0, rt_1, dEq, dNe, dSub, dDiv, dDivU, dMod, dLt, dLe, dGt, dGe, D.isNon, Bool.not_true, Bool.not_false])
    rw [show (List.map (fun (i : Nat) => D.int (i : Int)) (List.map (fun x => 0 + x) (List.range many))).length = many by simp]
    exact q
/-! ### as they are passed -/
/-- a row as it may be passed: numbers, pairs, tuples or lists -/
def Passed (d : D) (rs : List Rat) : Prop := d.fit 9 = true ∧ ∃ es, d.tupd = .tup es ∧ RowR es rs ∧ es.length < 1000000
theorem passed_rt (xs : List Rat) (h : xs.length < 1000000) : Passed (.tup (xs.map rt)) xs := by
  have hr := row_rt xs
  refine ⟨?_, xs.map rt, by simp only [D.tupd, hr.tupds], hr, by simpa using h⟩
  simp only [D.fit, Bool.and_eq_true, decide_eq_true_eq]
  refine ⟨by simpa using h, ?_⟩
  clear h hr
  induction xs with
  | nil => rfl
  | cons x r ih => simp only [List.map_cons, D.fits, ih, Bool.and_true]; rfl
def kMOST : D := .int 6
def p_power_sums : Spec := fun ds b Q => ∃ (d e : D) (ps ws : List Rat) (many : Nat), ds = [d, e, .int (many : Int)] ∧ Passed d ps ∧ Passed e ws ∧ 1 ≤ ps.length ∧ ps.length ≤ 6 ∧ 1 ≤ many ∧ many ≤ 12 ∧ PwOk ps ws many ∧ Q (.tup ((powL ps ws many).map rt)) b
def p_hankel : Spec := fun ds b Q => ∃ (d : D) (xs : List Rat) (size start : Nat), ds = [d, .int (size : Int), .int (start : Int)] ∧ Passed d xs ∧ 1 ≤ xs.length ∧ xs.length ≤ 12 ∧ 1 ≤ size ∧ size ≤ 6 ∧ start ≤ 1 ∧ 2 * size + start ≤ xs.length + 1 ∧ Q (tabD (hankR xs size start)) b
/-- power_sums: points, weights, many, first, second -/
def W_power_sums : WS := (wSeq (wSet 3 (wCall 3 p_row_from (wCons (wVar 0) (wCons (wC (.int 1)) (wCons (wC kMOST) wNil))))) (wSeq (wSet 4 (wCall 3 p_row_from (wCons (wVar 1) (wCons (wUn dLen (wVarB 3)) (wCons (wUn dLen (wVarB 3)) wNil))))) (wSeq (wDrop (wCall 4 p_need_between (wCons (wC (.str "many")) (wCons (wVar 2) (wCons (wC (.int 1)) (wCons (wC kMOST_ITEMS) wNil)))))) (wRet (wCall 3 p_power_row (wCons (wVar 3) (wCons (wVar 4) (wCons (wVar 2) wNil))))))))
/-- hankel: row, size, start, made -/
def W_hankel : WS := (wSeq (wSet 3 (wCall 3 p_row_from (wCons (wVar 0) (wCons (wC (.int 1)) (wCons (wC kMOST_ITEMS) wNil))))) (wSeq (wDrop (wCall 4 p_need_between (wCons (wC (.str "size")) (wCons (wVar 1) (wCons (wC (.int 1)) (wCons (wC kMOST) wNil)))))) (wSeq (wDrop (wCall 4 p_need_between (wCons (wC (.str "start")) (wCons (wVar 2) (wCons (wC (.int 0)) (wCons (wC (.int 1)) wNil)))))) (wSeq (wIfS (wT (wBin dLt (wUn dLen (wVarB 3)) (wBin dAdd (wBin dSub (wBin dMul (wC (.int 2)) (wVarB 1)) (wC (.int 1))) (wVarB 2)))) wNever wNext) (wRet (wCall 3 p_hankel_by (wCons (wVar 3) (wCons (wVar 1) (wCons (wVar 2) wNil)))))))))
theorem hp_power_sums : ∀ ds b Q, ds.length = 3 → p_power_sums ds b Q → W_power_sums { nx := fun _ b' => Q .non b', rt := Q } (ds.map Slot.v ++ List.replicate 2 .un) b := by
  rintro ds b Q - ⟨d, e, ps, ws, many, rfl, ⟨f1, es, t1, r1, l1⟩, ⟨f2, es2, t2, r2, l2⟩, h1, h2, h3, h4, ok, q⟩
  show W_power_sums _ [.v d, .v e, .v (.int (many : Int)), .un, .un] b
  have hl := ok.len
  (try simp only [wSeq, wSet, wSetO, wRet, wIfS, wFrz, wApp, wDrop, wNext, wBreak, wCont, wNever, wVar, wVarB, wC, wBin, wUn, wT, wAnd, wOr, wNot, wAndV, wOrV, wNotV, wIte, wNil, wCons, wTup, wCall, wListOf, wC2, wIsT, wIsC, wFld, wON, wOS, wSl, wV, wO, wSetIx, wPar, wSwap, wSeqOf, wRng1, wRng2, wFor, wWhile, wYes, wComp, wEnum, wZip, wEnum2, wRgT, wRgL, wAug, dMulT, dMax, wMake, wFz, wCat, wRep, wipeE, D.ty, wIf_true, wIf_false, List.getElem?_cons_zero, List.getElem?_cons_succ, List.set_cons_zero, List.set_cons_succ, dI0_ii, dI_ii, dNeg_i, dGcd_ii, dAbs_i, dInt_i, dInt_b, dBits_i, dLen_t, dLen_l, dTuple_t, dTuple_l, dAdd_ii, dAdd_tt, dAdd_ll, dAdd_ss, dMul_ii, dMul_li, dIs_n, dIs_b, dIsN_n, dRepr_b, rt_0, rt_1, dEq, dNe, dSub, dDiv, dDivU, dMod, dLt, dLe, dGt, dGe, D.isNon, Bool.not_true, Bool.not_false, W_power_sums, kMOST, kMOST_ITEMS])
  refine ⟨rfl, d, es, ps, 1, 6, rfl, f1, t1, r1, l1, by omega, by omega, ?_⟩
  (try simp only [wSeq, wSet, wSetO, wRet, wIfS, wFrz, wApp, wDrop, wNext, wBreak, wCont, wNever, wVar, wVarB, wC, wBin, wUn, wT, wAnd, wOr, wNot, wAndV, wOrV, wNotV, wIte, wNil, wCons, wTup, wCall, wListOf, wC2, wIsT, wIsC, wFld, wON, wOS, wSl, wV, wO, wSetIx, wPar, wSwap, wSeqOf, wRng1, wRng2, wFor, wWhile, wYes, wComp, wEnum, wZip, wEnum2, wRgT, wRgL, wAug, dMulT, dMax, wMake, wFz, wCat, wRep, wipeE, D.ty, wIf_true, wIf_false, List.getElem?_cons_zero, List.getElem?_cons_succ, List.set_cons_zero, List.set_cons_succ, dI0_ii, dI_ii, dNeg_i, dGcd_ii, dAbs_i, dInt_i, dInt_b, dBits_i, dLen_t, dLen_l, dTuple_t, dTuple_l, dAdd_ii, dAdd_tt, dAdd_ll, dAdd_ss, dMul_ii, dMul_li, dIs_n, dIs_b, dIsN_n, dRepr_b, rt_0, rt_1, dEq, dNe, dSub, dDiv, dDivU, dMod, dLt, dLe, dGt, dGe, D.isNon, Bool.not_true, Bool.not_false])
  rw [List.length_map]
  refine ⟨rfl, e, es2, ws, (ps.length : Int), (ps.length : Int), rfl, f2, t2, r2, l2, by omega, by omega, ?_⟩
  (try simp only [wSeq, wSet, wSetO, wRet, wIfS, wFrz, wApp, wDrop, wNext, wBreak, wCont, wNever, wVar, wVarB, wC, wBin, wUn, wT, wAnd, wOr, wNot, wAndV, wOrV, wNotV, wIte, wNil, wCons, wTup, wCall, wListOf, wC2, wIsT, wIsC, wFld, wON, wOS, wSl, wV, wO, wSetIx, wPar, wSwap, wSeqOf, wRng1, wRng2, wFor, wWhile, wYes, wComp, wEnum, wZip, wEnum2, wRgT, wRgL, wAug, dMulT, dMax, wMake, wFz, wCat, wRep, wipeE, D.ty, wIf_true, wIf_false, List.getElem?_cons_zero, List.getElem?_cons_succ, List.set_cons_zero, List.set_cons_succ, dI0_ii, dI_ii, dNeg_i, dGcd_ii, dAbs_i, dInt_i, dInt_b, dBits_i, dLen_t, dLen_l, dTuple_t, dTuple_l, dAdd_ii, dAdd_tt, dAdd_ll, dAdd_ss, dMul_ii, dMul_li, dIs_n, dIs_b, dIsN_n, dRepr_b, rt_0, rt_1, dEq, dNe, dSub, dDiv, dDivU, dMod, dLt, dLe, dGt, dGe, D.isNon, Bool.not_true, Bool.not_false])
  refine ⟨rfl, _, (many : Int), 1, 12, rfl, by omega, by omega, ?_⟩
  (try simp only [wSeq, wSet, wSetO, wRet, wIfS, wFrz, wApp, wDrop, wNext, wBreak, wCont, wNever, wVar, wVarB, wC, wBin, wUn, wT, wAnd, wOr, wNot, wAndV, wOrV, wNotV, wIte, wNil, wCons, wTup, wCall, wListOf, wC2, wIsT, wIsC, wFld, wON, wOS, wSl, wV, wO, wSetIx, wPar, wSwap, wSeqOf, wRng1, wRng2, wFor, wWhile, wYes, wComp, wEnum, wZip, wEnum2, wRgT, wRgL, wAug, dMulT, dMax, wMake, wFz, wCat, wRep, wipeE, D.ty, wIf_true, wIf_false, List.getElem?_cons_zero, List.getElem?_cons_succ, List.set_cons_zero, List.set_cons_succ, dI0_ii, dI_ii, dNeg_i, dGcd_ii, dAbs_i, dInt_i, dInt_b, dBits_i, dLen_t, dLen_l, dTuple_t, dTuple_l, dAdd_ii, dAdd_tt, dAdd_ll, dAdd_ss, dMul_ii, dMul_li, dIs_n, dIs_b, dIsN_n, dRepr_b, rt_0, rt_1, dEq, dNe, dSub, dDiv, dDivU, dMod, dLt, dLe, dGt, dGe, D.isNon, Bool.not_true, Bool.not_false])
  exact ⟨rfl, ps, ws, many, rfl, ok, q⟩
theorem hp_hankel : ∀ ds b Q, ds.length = 3 → p_hankel ds b Q → W_hankel { nx := fun _ b' => Q .non b', rt := Q } (ds.map Slot.v ++ List.replicate 1 .un) b := by
  rintro ds b Q - ⟨d, xs, size, start, rfl, ⟨f1, es, t1, r1, l1⟩, h1, h2, h3, h4, h5, h6, q⟩
  show W_hankel _ [.v d, .v (.int (size : Int)), .v (.int (start : Int)), .un] b
  (try simp only [wSeq, wSet, wSetO, wRet, wIfS, wFrz, wApp, wDrop, wNext, wBreak, wCont, wNever, wVar, wVarB, wC, wBin, wUn, wT, wAnd, wOr, wNot, wAndV, wOrV, wNotV, wIte, wNil, wCons, wTup, wCall, wListOf, wC2, wIsT, wIsC, wFld, wON, wOS, wSl, wV, wO, wSetIx, wPar, wSwap, wSeqOf, wRng1, wRng2, wFor, wWhile, wYes, wComp, wEnum, wZip, wEnum2, wRgT, wRgL, wAug, dMulT, dMax, wMake, wFz, wCat, wRep, wipeE, D.ty, wIf_true, wIf_false, List.getElem?_cons_zero, List.getElem?_cons_succ, List.set_cons_zero, List.set_cons_succ, dI0_ii, dI_ii, dNeg_i, dGcd_ii, dAbs_i, dInt_i, dInt_b, dBits_i, dLen_t, dLen_l, dTuple_t, dTuple_l, dAdd_ii, dAdd_tt, dAdd_ll, dAdd_ss, dMul_ii, dMul_li, dIs_n, dIs_b, dIsN_n, dRepr_b, rt_0, rt_1, dEq, dNe, dSub, dDiv, dDivU, dMod, dLt, dLe, dGt, dGe, D.isNon, Bool.not_true, Bool.not_false, W_hankel, kMOST, kMOST_ITEMS])
  refine ⟨rfl, d, es, xs, 1, 12, rfl, f1, t1, r1, l1, by omega, by omega, ?_⟩
  (try simp only [wSeq, wSet, wSetO, wRet, wIfS, wFrz, wApp, wDrop, wNext, wBreak, wCont, wNever, wVar, wVarB, wC, wBin, wUn, wT, wAnd, wOr, wNot, wAndV, wOrV, wNotV, wIte, wNil, wCons, wTup, wCall, wListOf, wC2, wIsT, wIsC, wFld, wON, wOS, wSl, wV, wO, wSetIx, wPar, wSwap, wSeqOf, wRng1, wRng2, wFor, wWhile, wYes, wComp, wEnum, wZip, wEnum2, wRgT, wRgL, wAug, dMulT, dMax, wMake, wFz, wCat, wRep, wipeE, D.ty, wIf_true, wIf_false, List.getElem?_cons_zero, List.getElem?_cons_succ, List.set_cons_zero, List.set_cons_succ, dI0_ii, dI_ii, dNeg_i, dGcd_ii, dAbs_i, dInt_i, dInt_b, dBits_i, dLen_t, dLen_l, dTuple_t, dTuple_l, dAdd_ii, dAdd_tt, dAdd_ll, dAdd_ss, dMul_ii, dMul_li, dIs_n, dIs_b, dIsN_n, dRepr_b, rt_0, rt_1, dEq, dNe, dSub, dDiv, dDivU, dMod, dLt, dLe, dGt, dGe, D.isNon, Bool.not_true, Bool.not_false])
  refine ⟨rfl, _, (size : Int), 1, 6, rfl, by omega, by omega, ?_⟩
  (try simp only [wSeq, wSet, wSetO, wRet, wIfS, wFrz, wApp, wDrop, wNext, wBreak, wCont, wNever, wVar, wVarB, wC, wBin, wUn, wT, wAnd, wOr, wNot, wAndV, wOrV, wNotV, wIte, wNil, wCons, wTup, wCall, wListOf, wC2, wIsT, wIsC, wFld, wON, wOS, wSl, wV, wO, wSetIx, wPar, wSwap, wSeqOf, wRng1, wRng2, wFor, wWhile, wYes, wComp, wEnum, wZip, wEnum2, wRgT, wRgL, wAug, dMulT, dMax, wMake, wFz, wCat, wRep, wipeE, D.ty, wIf_true, wIf_false, List.getElem?_cons_zero, List.getElem?_cons_succ, List.set_cons_zero, List.set_cons_succ, dI0_ii, dI_ii, dNeg_i, dGcd_ii, dAbs_i, dInt_i, dInt_b, dBits_i, dLen_t, dLen_l, dTuple_t, dTuple_l, dAdd_ii, dAdd_tt, dAdd_ll, dAdd_ss, dMul_ii, dMul_li, dIs_n, dIs_b, dIsN_n, dRepr_b, rt_0, rt_1, dEq, dNe, dSub, dDiv, dDivU, dMod, dLt, dLe, dGt, dGe, D.isNon, Bool.not_true, Bool.not_false])
  refine ⟨rfl, _, (start : Int), 0, 1, rfl, by omega, by omega, ?_⟩
  (try simp only [wSeq, wSet, wSetO, wRet, wIfS, wFrz, wApp, wDrop, wNext, wBreak, wCont, wNever, wVar, wVarB, wC, wBin, wUn, wT, wAnd, wOr, wNot, wAndV, wOrV, wNotV, wIte, wNil, wCons, wTup, wCall, wListOf, wC2, wIsT, wIsC, wFld, wON, wOS, wSl, wV, wO, wSetIx, wPar, wSwap, wSeqOf, wRng1, wRng2, wFor, wWhile, wYes, wComp, wEnum, wZip, wEnum2, wRgT, wRgL, wAug, dMulT, dMax, wMake, wFz, wCat, wRep, wipeE, D.ty, wIf_true, wIf_false, List.getElem?_cons_zero, List.getElem?_cons_succ, List.set_cons_zero, List.set_cons_succ, dI0_ii, dI_ii, dNeg_i, dGcd_ii, dAbs_i, dInt_i, dInt_b, dBits_i, dLen_t, dLen_l, dTuple_t, dTuple_l, dAdd_ii, dAdd_tt, dAdd_ll, dAdd_ss, dMul_ii, dMul_li, dIs_n, dIs_b, dIsN_n, dRepr_b, rt_0, rt_1, dEq, dNe, dSub, dDiv, dDivU, dMod, dLt, dLe, dGt, dGe, D.isNon, Bool.not_true, Bool.not_false])
  rw [List.length_map]
  refine ⟨cmulW_of (k := 8) (l := 8) (by decide) (by omega) (by decide) (by decide) (by decide), ?_⟩
  rw [decide_eq_false (by omega)]
  (try simp only [wSeq, wSet, wSetO, wRet, wIfS, wFrz, wApp, wDrop, wNext, wBreak, wCont, wNever, wVar, wVarB, wC, wBin, wUn, wT, wAnd, wOr, wNot, wAndV, wOrV, wNotV, wIte, wNil, wCons, wTup, wCall, wListOf, wC2, wIsT, wIsC, wFld, wON, wOS, wSl, wV, wO, wSetIx, wPar, wSwap, wSeqOf, wRng1, wRng2, wFor, wWhile, wYes, wComp, wEnum, wZip, wEnum2, wRgT, wRgL, wAug, dMulT, dMax, wMake, wFz, wCat, wRep, wipeE, D.ty, wIf_true, wIf_false, List.getElem?_cons_zero, List.getElem?_cons_succ, List.set_cons_zero, List.set_cons_succ, dI0_ii, dI_ii, dNeg_i, dGcd_ii, dAbs_i, dInt_i, dInt_b, dBits_i, dLen_t, dLen_l, dTuple_t, dTuple_l, dAdd_ii, dAdd_tt, dAdd_ll, dAdd_ss, dMul_ii, dMul_li, dIs_n, dIs_b, dIsN_n, dRepr_b, rt_0, rt_1, dEq, dNe, dSub, dDiv, dDivU, dMod, dLt, dLe, dGt, dGe, D.isNon, Bool.not_true, Bool.not_false])
  exact ⟨rfl, xs, size, start, rfl, by omega, by omega, q⟩
end En
/-! Tables: turned, products, of powers, with a row along the middle. -/
namespace En
open PySem PySem.Spec PyProof.Rows L2
def trR (M : List (List Rat)) (m : Nat) : List (List Rat) := (List.range m).map fun k => M.map (·.getD k 0)
def prodR (xs ys : List Rat) : List Rat := List.zipWith (· * ·) xs ys
def dotR (xs ys : List Rat) : Rat := sumR (prodR xs ys)
def mulT (A B : List (List Rat)) (m : Nat) : List (List Rat) := A.map fun r => (trR B m).map fun c => dotR r c
def pwR (p : Rat) : Nat → Rat
  | 0 => 1
  | k + 1 => pwR p k * p
def powT (ps : List Rat) (many : Nat) : List (List Rat) := ps.map fun p => (List.range many).map (pwR p)
def diagR (xs : List Rat) : List (List Rat) := (List.range xs.length).map fun i => (List.range xs.length).map fun j => if i = j then xs.getD i 0 else 0
/-- m columns, not too many rows -/
structure Rect (m : Nat) (M : List (List Rat)) : Prop where
  ne : M ≠ []
  few : M.length ≤ 1000
  fewc : m ≤ 1000
  row : ∀ r ∈ M, r.length = m
structure DotOk (xs ys : List Rat) : Prop where
  len : xs.length = ys.length
  few : xs.length ≤ 1000
  hz : ∃ a b, HzL (a + 1) xs ∧ HzL (b + 1) ys ∧ (xs.length + 1) * (a + b + 3) + 1 ≤ SB
def p_turned_by : Spec := fun ds b Q => ∃ M m, ds = [tabD M] ∧ Rect m M ∧ Q (tabD (trR M m)) b
def p_table_from : Spec := fun ds b Q => ∃ M m, ds = [tabD M] ∧ Rect m M ∧ M.length ≤ 6 ∧ 1 ≤ m ∧ m ≤ 6 ∧ Q (tabD M) b
def p_turned : Spec := fun ds b Q => ∃ M m, ds = [tabD M] ∧ Rect m M ∧ M.length ≤ 6 ∧ 1 ≤ m ∧ m ≤ 6 ∧ Q (tabD (trR M m)) b
def p_dot_of : Spec := fun ds b Q => ∃ xs ys, ds = [.tup (xs.map rt), .tup (ys.map rt)] ∧ DotOk xs ys ∧ Q (rt (dotR xs ys)) b
def p_product_by : Spec := fun ds b Q => ∃ A B m, ds = [tabD A, tabD B] ∧ A.length ≤ 1000 ∧ Rect m B ∧ (∀ r ∈ A, ∀ c ∈ trR B m, DotOk r c) ∧ Q (tabD (mulT A B m)) b
def p_product : Spec := fun ds b Q => ∃ A B n m, ds = [tabD A, tabD B] ∧ Rect n A ∧ A.length ≤ 6 ∧ 1 ≤ n ∧ n ≤ 6 ∧ B.length = n ∧ Rect m B ∧ 1 ≤ m ∧ m ≤ 6 ∧ (∀ r ∈ A, ∀ c ∈ trR B m, DotOk r c) ∧ Q (tabD (mulT A B m)) b
def p_power_table : Spec := fun ds b Q => ∃ (ps : List Rat) (many : Nat) (g : Nat), ds = [.tup (ps.map rt), .int (many : Int)] ∧ 1 ≤ ps.length ∧ ps.length ≤ 6 ∧ 1 ≤ many ∧ many ≤ 6 ∧ HzL g ps ∧ 7 * (g + 1) ≤ SB ∧ Q (tabD (powT ps many)) b
def p_diagonal_by : Spec := fun ds b Q => ∃ xs, ds = [.tup (xs.map rt)] ∧ xs.length ≤ 1000 ∧ Q (tabD (diagR xs)) b
def p_diagonal_table : Spec := fun ds b Q => ∃ xs, ds = [.tup (xs.map rt)] ∧ 1 ≤ xs.length ∧ xs.length ≤ 6 ∧ Q (tabD (diagR xs)) b
/-- table_from: table, made, rows, row -/
def W_table_from : WS := (wSeq (wSet 1 (wCall 1 p_in_tuples (wCons (wVar 0) wNil))) (wSeq (wIfS (wOr (wNot (wT (wIsT f_tuple (wVarB 1)))) (wNot (wT (wChain dLe dLe (wC (.int 1)) (wUn dLen (wVarB 1)) (wC kMOST))))) wNever wNext) (wSeq (wSet 2 (wFz (wComp [3] (.one 3) (wSeqOf (wVar 1)) wYes (wCall 1 p_loose_row (wCons (wVar 3) wNil))))) (wSeq (wIfS (wOr (wT (wBin dIn (wC .non) (wVarB 2))) (wOr (wNot (wT (wChain dLe dLe (wC (.int 1)) (wUn dLen (wBin dIx (wVarB 2) (wC (.int 0)))) (wC kMOST)))) (wNot (wT (wUn dAll (wFz (wComp [3] (.one 3) (wSeqOf (wVar 2)) wYes (wBin dEq (wUn dLen (wVarB 3)) (wUn dLen (wBin dIx (wVarB 2) (wC (.int 0)))))))))))) wNever wNext) (wRet (wUn dTuple (wVarB 2)))))))
/-- turned_by: table, k, row -/
def W_turned_by : WS := (wRet (wUn dTuple (wFz (wComp [1] (.one 1) (wRng1 (wCons (wUn dLen (wBin dIx (wVarB 0) (wC (.int 0)))) wNil)) wYes (wUn dTuple (wFz (wComp [2] (.one 2) (wSeqOf (wVar 0)) wYes (wBin dIx (wVarB 2) (wVarB 1)))))))))
/-- turned: table -/
def W_turned : WS := (wRet (wCall 1 p_turned_by (wCons (wCall 1 p_table_from (wCons (wVar 0) wNil)) wNil)))
/-- dot_of: one, other, out, a, b -/
def W_dot_of : WS := (wSeq (wSet 2 (wC kNONE)) (wSeq (wFor (.tup [3, 4]) (wZip (wCons (wVar 0) (wCons (wVar 1) wNil))) (wIfS (wAnd (wT (wBin dNe (wVarB 3) (wC kNONE))) (wT (wBin dNe (wVarB 4) (wC kNONE)))) (wSet 2 (wCall 2 p_summed (wCons (wVar 2) (wCons (wCall 2 p_scaled (wCons (wVar 3) (wCons (wVar 4) wNil))) wNil)))) wNext)) (wRet (wVar 2))))
/-- product_by: one, other, columns, row, column -/
def W_product_by : WS := (wSeq (wSet 2 (wCall 1 p_turned_by (wCons (wVar 1) wNil))) (wRet (wUn dTuple (wFz (wComp [3] (.one 3) (wSeqOf (wVar 0)) wYes (wUn dTuple (wFz (wComp [4] (.one 4) (wSeqOf (wVar 2)) wYes (wCall 2 p_dot_of (wCons (wVar 3) (wCons (wVar 4) wNil)))))))))))
/-- product: one, other, first, second -/
def W_product : WS := (wSeq (wPar 2 3 (wV (wCall 1 p_table_from (wCons (wVar 0) wNil))) (wV (wCall 1 p_table_from (wCons (wVar 1) wNil)))) (wSeq (wIfS (wT (wBin dNe (wUn dLen (wBin dIx (wVarB 2) (wC (.int 0)))) (wUn dLen (wVarB 3)))) wNever wNext) (wRet (wCall 2 p_product_by (wCons (wVar 2) (wCons (wVar 3) wNil))))))
/-- power_table: points, many, made, out, point, row -/
def W_power_table : WS := (wSeq (wSet 2 (wCall 3 p_row_from (wCons (wVar 0) (wCons (wC (.int 1)) (wCons (wC kMOST) wNil))))) (wSeq (wDrop (wCall 4 p_need_between (wCons (wC (.str "many")) (wCons (wVar 1) (wCons (wC (.int 1)) (wCons (wC kMOST) wNil)))))) (wSeq (wSetO 3 wNil) (wSeq (wFor (.one 4) (wSeqOf (wVar 2)) (wSeq (wSetO 5 (wCons (wC kONE) wNil)) (wSeq (wWhile (wT (wBin dLt (wUn dLen (wVarB 5)) (wVarB 1))) (wApp 5 (wCall 2 p_scaled (wCons (wBin dIx (wVarB 5) (wUn dNeg (wC (.int 1)))) (wCons (wVar 4) wNil))))) (wApp 3 (wUn dTuple (wVarB 5)))))) (wRet (wUn dTuple (wVarB 3)))))))
/-- diagonal_by: row, i, j -/
def W_diagonal_by : WS := (wRet (wUn dTuple (wFz (wComp [1] (.one 1) (wRng1 (wCons (wUn dLen (wVarB 0)) wNil)) wYes (wUn dTuple (wFz (wComp [2] (.one 2) (wRng1 (wCons (wUn dLen (wVarB 0)) wNil)) wYes (wIte (wT (wBin dEq (wVarB 1) (wVarB 2))) (wBin dIx (wVarB 0) (wVarB 1)) (wC kNONE)))))))))
/-- diagonal_table: row -/
def W_diagonal_table : WS := (wRet (wCall 1 p_diagonal_by (wCons (wCall 3 p_row_from (wCons (wVar 0) (wCons (wC (.int 1)) (wCons (wC kMOST) wNil)))) wNil)))
theorem rng_nat (n : Nat) : rangeD 0 ((n : Nat) : Int).toNat = (List.range n).map fun (i : Nat) => D.int (i : Int) := by
  rw [rangeD, Int.toNat_natCast]
  refine List.map_congr_left fun i _ => ?_
  show D.int ((0 : Int) + (i : Int)) = _
  rw [Int.zero_add]
theorem hp_turned_by : ∀ ds b Q, ds.length = 1 → p_turned_by ds b Q → W_turned_by { nx := fun _ b' => Q .non b', rt := Q } (ds.map Slot.v ++ List.replicate 2 .un) b := by
  rintro ds b Q - ⟨M, m, rfl, R, q⟩
  show W_turned_by _ [.v (tabD M), .un, .un] b
  have hf := R.few
  have hfc := R.fewc
  obtain ⟨r0, M', hM⟩ : ∃ r0 M', M = r0 :: M' := by
    cases M with
    | nil => exact absurd rfl R.ne
    | cons r M => exact ⟨r, M, rfl⟩
  have h0 : r0.length = m := R.row r0 (by rw [hM]; exact List.mem_cons_self)
  (try simp only [wSeq, wSet, wSetO, wRet, wIfS, wFrz, wApp, wDrop, wNext, wBreak, wCont, wNever, wVar, wVarB, wC, wBin, wUn, wT, wAnd, wOr, wNot, wAndV, wOrV, wNotV, wIte, wNil, wCons, wTup, wCall, wListOf, wC2, wIsT, wIsC, wFld, wON, wOS, wSl, wV, wO, wSetIx, wPar, wSwap, wSeqOf, wRng1, wRng2, wFor, wWhile, wYes, wComp, wEnum, wZip, wEnum2, wRgT, wRgL, wAug, dMulT, dMax, wMake, wFz, wCat, wRep, wipeE, D.ty, wIf_true, wIf_false, List.getElem?_cons_zero, List.getElem?_cons_succ, List.set_cons_zero, List.set_cons_succ, dI0_ii, dI_ii, dNeg_i, dGcd_ii, dAbs_i, dInt_i, dInt_b, dBits_i, dLen_t, dLen_l, dTuple_t, dTuple_l, dAdd_ii, dAdd_tt, dAdd_ll, dAdd_ss, dMul_ii, dMul_li, dIs_n, dIs_b, dIsN_n, dRepr_b, rt_0, rt_1, dEq, dNe, dSub, dDiv, dDivU, dMod, dLt, dLe, dGt, dGe, D.isNon, Bool.not_true, Bool.not_false, W_turned_by])
  refine dIx_t (j := 0) (d := .tup (r0.map rt)) (by rw [hM]; rfl) ?_
  (try simp only [wSeq, wSet, wSetO, wRet, wIfS, wFrz, wApp, wDrop, wNext, wBreak, wCont, wNever, wVar, wVarB, wC, wBin, wUn, wT, wAnd, wOr, wNot, wAndV, wOrV, wNotV, wIte, wNil, wCons, wTup, wCall, wListOf, wC2, wIsT, wIsC, wFld, wON, wOS, wSl, wV, wO, wSetIx, wPar, wSwap, wSeqOf, wRng1, wRng2, wFor, wWhile, wYes, wComp, wEnum, wZip, wEnum2, wRgT, wRgL, wAug, dMulT, dMax, wMake, wFz, wCat, wRep, wipeE, D.ty, wIf_true, wIf_false, List.getElem?_cons_zero, List.getElem?_cons_succ, List.set_cons_zero, List.set_cons_succ, dI0_ii, dI_ii, dNeg_i, dGcd_ii, dAbs_i, dInt_i, dInt_b, dBits_i, dLen_t, dLen_l, dTuple_t, dTuple_l, dAdd_ii, dAdd_tt, dAdd_ll, dAdd_ss, dMul_ii, dMul_li, dIs_n, dIs_b, dIsN_n, dRepr_b, rt_0, rt_1, dEq, dNe, dSub, dDiv, dDivU, dMod, dLt, dLe, dGt, dGe, D.isNon, Bool.not_true, Bool.not_false])
  rw [List.length_map, h0, rng_nat]
  refine ⟨⟨by omega, by omega⟩, by first | omega | (simp; omega), cmp_at (fun (i : Nat) => D.int (i : Int)) (fun k => .tup ((M.map (·.getD k 0)).map rt)) _ _ (fun k hk => ⟨_, rfl, fun K kk => ?_⟩) ?_⟩
  · rw [List.mem_range] at hk
    (try simp only [wSeq, wSet, wSetO, wRet, wIfS, wFrz, wApp, wDrop, wNext, wBreak, wCont, wNever, wVar, wVarB, wC, wBin, wUn, wT, wAnd, wOr, wNot, wAndV, wOrV, wNotV, wIte, wNil, wCons, wTup, wCall, wListOf, wC2, wIsT, wIsC, wFld, wON, wOS, wSl, wV, wO, wSetIx, wPar, wSwap, wSeqOf, wRng1, wRng2, wFor, wWhile, wYes, wComp, wEnum, wZip, wEnum2, wRgT, wRgL, wAug, dMulT, dMax, wMake, wFz, wCat, wRep, wipeE, D.ty, wIf_true, wIf_false, List.getElem?_cons_zero, List.getElem?_cons_succ, List.set_cons_zero, List.set_cons_succ, dI0_ii, dI_ii, dNeg_i, dGcd_ii, dAbs_i, dInt_i, dInt_b, dBits_i, dLen_t, dLen_l, dTuple_t, dTuple_l, dAdd_ii, dAdd_tt, dAdd_ll, dAdd_ss, dMul_ii, dMul_li, dIs_n, dIs_b, dIsN_n, dRepr_b, rt_0, rt_1, dEq, dNe, dSub, dDiv, dDivU, dMod, dLt, dLe, dGt, dGe, D.isNon, Bool.not_true, Bool.not_false, tabD])
    refine ⟨by first | omega | (simp; omega), cmp_at (fun r : List Rat => D.tup (r.map rt)) (fun r => rt (r.getD k 0)) _ _ (fun r hr => ⟨_, rfl, fun K2 k2 => ?_⟩) ?_⟩
    · (try simp only [wSeq, wSet, wSetO, wRet, wIfS, wFrz, wApp, wDrop, wNext, wBreak, wCont, wNever, wVar, wVarB, wC, wBin, wUn, wT, wAnd, wOr, wNot, wAndV, wOrV, wNotV, wIte, wNil, wCons, wTup, wCall, wListOf, wC2, wIsT, wIsC, wFld, wON, wOS, wSl, wV, wO, wSetIx, wPar, wSwap, wSeqOf, wRng1, wRng2, wFor, wWhile, wYes, wComp, wEnum, wZip, wEnum2, wRgT, wRgL, wAug, dMulT, dMax, wMake, wFz, wCat, wRep, wipeE, D.ty, wIf_true, wIf_false, List.getElem?_cons_zero, List.getElem?_cons_succ, List.set_cons_zero, List.set_cons_succ, dI0_ii, dI_ii, dNeg_i, dGcd_ii, dAbs_i, dInt_i, dInt_b, dBits_i, dLen_t, dLen_l, dTuple_t, dTuple_l, dAdd_ii, dAdd_tt, dAdd_ll, dAdd_ss, dMul_ii, dMul_li, dIs_n, dIs_b, dIsN_n, dRepr_b, rt_0, rt_1, dEq, dNe, dSub, dDiv, dDivU, dMod, dLt, dLe, dGt, dGe, D.isNon, Bool.not_true, Bool.not_false])
      exact ix_rowT (by rw [R.row r hr]; exact hk) k2
    · (try simp only [wSeq, wSet, wSetO, wRet, wIfS, wFrz, wApp, wDrop, wNext, wBreak, wCont, wNever, wVar, wVarB, wC, wBin, wUn, wT, wAnd, wOr, wNot, wAndV, wOrV, wNotV, wIte, wNil, wCons, wTup, wCall, wListOf, wC2, wIsT, wIsC, wFld, wON, wOS, wSl, wV, wO, wSetIx, wPar, wSwap, wSeqOf, wRng1, wRng2, wFor, wWhile, wYes, wComp, wEnum, wZip, wEnum2, wRgT, wRgL, wAug, dMulT, dMax, wMake, wFz, wCat, wRep, wipeE, D.ty, wIf_true, wIf_false, List.getElem?_cons_zero, List.getElem?_cons_succ, List.set_cons_zero, List.set_cons_succ, dI0_ii, dI_ii, dNeg_i, dGcd_ii, dAbs_i, dInt_i, dInt_b, dBits_i, dLen_t, dLen_l, dTuple_t, dTuple_l, dAdd_ii, dAdd_tt, dAdd_ll, dAdd_ss, dMul_ii, dMul_li, dIs_n, dIs_b, dIsN_n, dRepr_b, rt_0, rt_1, dEq, dNe, dSub, dDiv, dDivU, dMod, dLt, dLe, dGt, dGe, D.isNon, Bool.not_true, Bool.not_false])
      rw [List.map_map] at kk
      exact kk
  · (try simp only [wSeq, wSet, wSetO, wRet, wIfS, wFrz, wApp, wDrop, wNext, wBreak, wCont, wNever, wVar, wVarB, wC, wBin, wUn, wT, wAnd, wOr, wNot, wAndV, wOrV, wNotV, wIte, wNil, wCons, wTup, wCall, wListOf, wC2, wIsT, wIsC, wFld, wON, wOS, wSl, wV, wO, wSetIx, wPar, wSwap, wSeqOf, wRng1, wRng2, wFor, wWhile, wYes, wComp, wEnum, wZip, wEnum2, wRgT, wRgL, wAug, dMulT, dMax, wMake, wFz, wCat, wRep, wipeE, D.ty, wIf_true, wIf_false, List.getElem?_cons_zero, List.getElem?_cons_succ, List.set_cons_zero, List.set_cons_succ, dI0_ii, dI_ii, dNeg_i, dGcd_ii, dAbs_i, dInt_i, dInt_b, dBits_i, dLen_t, dLen_l, dTuple_t, dTuple_l, dAdd_ii, dAdd_tt, dAdd_ll, dAdd_ss, dMul_ii, dMul_li, dIs_n, dIs_b, dIsN_n, dRepr_b, rt_0, rt_1, dEq, dNe, dSub, dDiv, dDivU, dMod, dLt, dLe, dGt, dGe, D.isNon, Bool.not_true, Bool.not_false])
    have e : tabD (trR M m) = .tup ((List.range m).map fun k => D.tup ((M.map (·.getD k 0)).map rt)) := by
      unfold tabD trR
      rw [List.map_map]
      rfl
    rw [← e]
    exact q
theorem tab_fit {M : List (List Rat)} {m : Nat} (R : Rect m M) (n : Nat) : (tabD M).fit (n + 4) = true := by
  have hf := R.few
  unfold tabD
  simp only [D.fit, Bool.and_eq_true, decide_eq_true_eq]
  refine ⟨by first | omega | (simp; omega), ?_⟩
  have hr := R.row
  have hfc := R.fewc
  clear R hf
  induction M with
  | nil => rfl
  | cons r M ih =>
    simp only [List.map_cons, D.fits, Bool.and_eq_true]
    refine ⟨?_, ih fun r' h' => hr r' (List.mem_cons_of_mem _ h')⟩
    have hl := hr r List.mem_cons_self
    simp only [D.fit, Bool.and_eq_true, decide_eq_true_eq]
    refine ⟨by first | omega | (simp; omega), ?_⟩
    clear ih hl hr
    induction r with
    | nil => rfl
    | cons x r ih => simp only [List.map_cons, D.fits, ih, Bool.and_true]; rfl
theorem tab_tupd (M : List (List Rat)) : (tabD M).tupd = tabD M := by
  unfold tabD
  rw [D.tupd]
  congr 1
  induction M with
  | nil => rfl
  | cons r M ih =>
    simp only [List.map_cons, D.tupds, ih, D.tupd, (row_rt r).tupds]
theorem flat_tab (n : Nat) (M : List (List Rat)) : D.flats (n + 2) (M.map fun r => D.tup (r.map rt)) = true := by
  induction M with
  | nil => rfl
  | cons r M ih =>
    simp only [List.map_cons, D.flats, ih, Bool.and_true]
    show D.flats (n + 1) (r.map rt) = true
    exact flats_rt n r
theorem all_true {α : Type} (xs : List α) : xs.map (fun _ => D.bl true) = (List.replicate xs.length true).map D.bl := by
  rw [List.map_const', List.map_replicate]
theorem hp_table_from : ∀ ds b Q, ds.length = 1 → p_table_from ds b Q → W_table_from { nx := fun _ b' => Q .non b', rt := Q } (ds.map Slot.v ++ List.replicate 3 .un) b := by
  rintro ds b Q - ⟨M, m, rfl, R, h1, h2, h3, q⟩
  show W_table_from _ [.v (tabD M), .un, .un, .un] b
  have hf := R.few
  obtain ⟨r0, M', hM⟩ : ∃ r0 M', M = r0 :: M' := by
    cases M with
    | nil => exact absurd rfl R.ne
    | cons r M => exact ⟨r, M, rfl⟩
  have h0 : r0.length = m := R.row r0 (by rw [hM]; exact List.mem_cons_self)
  have hM1 : 1 ≤ M.length := by rw [hM]; simp
  (try simp only [wSeq, wSet, wSetO, wRet, wIfS, wFrz, wApp, wDrop, wNext, wBreak, wCont, wNever, wVar, wVarB, wC, wBin, wUn, wT, wAnd, wOr, wNot, wAndV, wOrV, wNotV, wIte, wNil, wCons, wTup, wCall, wListOf, wC2, wIsT, wIsC, wFld, wON, wOS, wSl, wV, wO, wSetIx, wPar, wSwap, wSeqOf, wRng1, wRng2, wFor, wWhile, wYes, wComp, wEnum, wZip, wEnum2, wRgT, wRgL, wAug, dMulT, dMax, wMake, wFz, wCat, wRep, wipeE, D.ty, wIf_true, wIf_false, List.getElem?_cons_zero, List.getElem?_cons_succ, List.set_cons_zero, List.set_cons_succ, dI0_ii, dI_ii, dNeg_i, dGcd_ii, dAbs_i, dInt_i, dInt_b, dBits_i, dLen_t, dLen_l, dTuple_t, dTuple_l, dAdd_ii, dAdd_tt, dAdd_ll, dAdd_ss, dMul_ii, dMul_li, dIs_n, dIs_b, dIsN_n, dRepr_b, rt_0, rt_1, dEq, dNe, dSub, dDiv, dDivU, dMod, dLt, dLe, dGt, dGe, D.isNon, Bool.not_true, Bool.not_false, W_table_from, kMOST])
  refine ⟨rfl, tabD M, rfl, tab_fit R 5, ?_⟩
  rw [tab_tupd]
  (try simp only [wSeq, wSet, wSetO, wRet, wIfS, wFrz, wApp, wDrop, wNext, wBreak, wCont, wNever, wVar, wVarB, wC, wBin, wUn, wT, wAnd, wOr, wNot, wAndV, wOrV, wNotV, wIte, wNil, wCons, wTup, wCall, wListOf, wC2, wIsT, wIsC, wFld, wON, wOS, wSl, wV, wO, wSetIx, wPar, wSwap, wSeqOf, wRng1, wRng2, wFor, wWhile, wYes, wComp, wEnum, wZip, wEnum2, wRgT, wRgL, wAug, dMulT, dMax, wMake, wFz, wCat, wRep, wipeE, D.ty, wIf_true, wIf_false, List.getElem?_cons_zero, List.getElem?_cons_succ, List.set_cons_zero, List.set_cons_succ, dI0_ii, dI_ii, dNeg_i, dGcd_ii, dAbs_i, dInt_i, dInt_b, dBits_i, dLen_t, dLen_l, dTuple_t, dTuple_l, dAdd_ii, dAdd_tt, dAdd_ll, dAdd_ss, dMul_ii, dMul_li, dIs_n, dIs_b, dIsN_n, dRepr_b, rt_0, rt_1, dEq, dNe, dSub, dDiv, dDivU, dMod, dLt, dLe, dGt, dGe, D.isNon, Bool.not_true, Bool.not_false, f_tuple, wChain, tabD])
  rw [List.length_map, decide_eq_true (show (1 : Int) ≤ (M.length : Int) by omega)]
  (try simp only [wSeq, wSet, wSetO, wRet, wIfS, wFrz, wApp, wDrop, wNext, wBreak, wCont, wNever, wVar, wVarB, wC, wBin, wUn, wT, wAnd, wOr, wNot, wAndV, wOrV, wNotV, wIte, wNil, wCons, wTup, wCall, wListOf, wC2, wIsT, wIsC, wFld, wON, wOS, wSl, wV, wO, wSetIx, wPar, wSwap, wSeqOf, wRng1, wRng2, wFor, wWhile, wYes, wComp, wEnum, wZip, wEnum2, wRgT, wRgL, wAug, dMulT, dMax, wMake, wFz, wCat, wRep, wipeE, D.ty, wIf_true, wIf_false, List.getElem?_cons_zero, List.getElem?_cons_succ, List.set_cons_zero, List.set_cons_succ, dI0_ii, dI_ii, dNeg_i, dGcd_ii, dAbs_i, dInt_i, dInt_b, dBits_i, dLen_t, dLen_l, dTuple_t, dTuple_l, dAdd_ii, dAdd_tt, dAdd_ll, dAdd_ss, dMul_ii, dMul_li, dIs_n, dIs_b, dIsN_n, dRepr_b, rt_0, rt_1, dEq, dNe, dSub, dDiv, dDivU, dMod, dLt, dLe, dGt, dGe, D.isNon, Bool.not_true, Bool.not_false])
  rw [decide_eq_true (show (M.length : Int) ≤ 6 by omega)]
  (try simp only [wSeq, wSet, wSetO, wRet, wIfS, wFrz, wApp, wDrop, wNext, wBreak, wCont, wNever, wVar, wVarB, wC, wBin, wUn, wT, wAnd, wOr, wNot, wAndV, wOrV, wNotV, wIte, wNil, wCons, wTup, wCall, wListOf, wC2, wIsT, wIsC, wFld, wON, wOS, wSl, wV, wO, wSetIx, wPar, wSwap, wSeqOf, wRng1, wRng2, wFor, wWhile, wYes, wComp, wEnum, wZip, wEnum2, wRgT, wRgL, wAug, dMulT, dMax, wMake, wFz, wCat, wRep, wipeE, D.ty, wIf_true, wIf_false, List.getElem?_cons_zero, List.getElem?_cons_succ, List.set_cons_zero, List.set_cons_succ, dI0_ii, dI_ii, dNeg_i, dGcd_ii, dAbs_i, dInt_i, dInt_b, dBits_i, dLen_t, dLen_l, dTuple_t, dTuple_l, dAdd_ii, dAdd_tt, dAdd_ll, dAdd_ss, dMul_ii, dMul_li, dIs_n, dIs_b, dIsN_n, dRepr_b, rt_0, rt_1, dEq, dNe, dSub, dDiv, dDivU, dMod, dLt, dLe, dGt, dGe, D.isNon, Bool.not_true, Bool.not_false])
  refine ⟨by first | omega | (simp; omega), cmp_at (fun r : List Rat => D.tup (r.map rt)) (fun r => D.tup (r.map rt)) _ _ (fun r hr => ⟨_, rfl, fun K kk => ?_⟩) ?_⟩
  · (try simp only [wSeq, wSet, wSetO, wRet, wIfS, wFrz, wApp, wDrop, wNext, wBreak, wCont, wNever, wVar, wVarB, wC, wBin, wUn, wT, wAnd, wOr, wNot, wAndV, wOrV, wNotV, wIte, wNil, wCons, wTup, wCall, wListOf, wC2, wIsT, wIsC, wFld, wON, wOS, wSl, wV, wO, wSetIx, wPar, wSwap, wSeqOf, wRng1, wRng2, wFor, wWhile, wYes, wComp, wEnum, wZip, wEnum2, wRgT, wRgL, wAug, dMulT, dMax, wMake, wFz, wCat, wRep, wipeE, D.ty, wIf_true, wIf_false, List.getElem?_cons_zero, List.getElem?_cons_succ, List.set_cons_zero, List.set_cons_succ, dI0_ii, dI_ii, dNeg_i, dGcd_ii, dAbs_i, dInt_i, dInt_b, dBits_i, dLen_t, dLen_l, dTuple_t, dTuple_l, dAdd_ii, dAdd_tt, dAdd_ll, dAdd_ss, dMul_ii, dMul_li, dIs_n, dIs_b, dIsN_n, dRepr_b, rt_0, rt_1, dEq, dNe, dSub, dDiv, dDivU, dMod, dLt, dLe, dGt, dGe, D.isNon, Bool.not_true, Bool.not_false])
    have hl := R.row r hr
    exact ⟨rfl, r.map rt, r, rfl, by first | omega | (simp; omega), row_rt r, kk⟩
  · (try simp only [wSeq, wSet, wSetO, wRet, wIfS, wFrz, wApp, wDrop, wNext, wBreak, wCont, wNever, wVar, wVarB, wC, wBin, wUn, wT, wAnd, wOr, wNot, wAndV, wOrV, wNotV, wIte, wNil, wCons, wTup, wCall, wListOf, wC2, wIsT, wIsC, wFld, wON, wOS, wSl, wV, wO, wSetIx, wPar, wSwap, wSeqOf, wRng1, wRng2, wFor, wWhile, wYes, wComp, wEnum, wZip, wEnum2, wRgT, wRgL, wAug, dMulT, dMax, wMake, wFz, wCat, wRep, wipeE, D.ty, wIf_true, wIf_false, List.getElem?_cons_zero, List.getElem?_cons_succ, List.set_cons_zero, List.set_cons_succ, dI0_ii, dI_ii, dNeg_i, dGcd_ii, dAbs_i, dInt_i, dInt_b, dBits_i, dLen_t, dLen_l, dTuple_t, dTuple_l, dAdd_ii, dAdd_tt, dAdd_ll, dAdd_ss, dMul_ii, dMul_li, dIs_n, dIs_b, dIsN_n, dRepr_b, rt_0, rt_1, dEq, dNe, dSub, dDiv, dDivU, dMod, dLt, dLe, dGt, dGe, D.isNon, Bool.not_true, Bool.not_false, dIn])
    refine ⟨⟨rfl, flat_tab 6 M⟩, ?_⟩
    rw [show (List.any (List.map (fun r : List Rat => D.tup (r.map rt)) M) fun z => PyData.eqv z.py D.non.py) = false by
      rw [List.any_eq_false]
      intro z hz
      obtain ⟨r, hr, rfl⟩ := List.mem_map.mp hz
      simp [D.py, PyData.eqv]]
    (try simp only [wSeq, wSet, wSetO, wRet, wIfS, wFrz, wApp, wDrop, wNext, wBreak, wCont, wNever, wVar, wVarB, wC, wBin, wUn, wT, wAnd, wOr, wNot, wAndV, wOrV, wNotV, wIte, wNil, wCons, wTup, wCall, wListOf, wC2, wIsT, wIsC, wFld, wON, wOS, wSl, wV, wO, wSetIx, wPar, wSwap, wSeqOf, wRng1, wRng2, wFor, wWhile, wYes, wComp, wEnum, wZip, wEnum2, wRgT, wRgL, wAug, dMulT, dMax, wMake, wFz, wCat, wRep, wipeE, D.ty, wIf_true, wIf_false, List.getElem?_cons_zero, List.getElem?_cons_succ, List.set_cons_zero, List.set_cons_succ, dI0_ii, dI_ii, dNeg_i, dGcd_ii, dAbs_i, dInt_i, dInt_b, dBits_i, dLen_t, dLen_l, dTuple_t, dTuple_l, dAdd_ii, dAdd_tt, dAdd_ll, dAdd_ss, dMul_ii, dMul_li, dIs_n, dIs_b, dIsN_n, dRepr_b, rt_0, rt_1, dEq, dNe, dSub, dDiv, dDivU, dMod, dLt, dLe, dGt, dGe, D.isNon, Bool.not_true, Bool.not_false])
    refine dIx_l (j := 0) (d := .tup (r0.map rt)) (by rw [hM]; rfl) ?_
    (try simp only [wSeq, wSet, wSetO, wRet, wIfS, wFrz, wApp, wDrop, wNext, wBreak, wCont, wNever, wVar, wVarB, wC, wBin, wUn, wT, wAnd, wOr, wNot, wAndV, wOrV, wNotV, wIte, wNil, wCons, wTup, wCall, wListOf, wC2, wIsT, wIsC, wFld, wON, wOS, wSl, wV, wO, wSetIx, wPar, wSwap, wSeqOf, wRng1, wRng2, wFor, wWhile, wYes, wComp, wEnum, wZip, wEnum2, wRgT, wRgL, wAug, dMulT, dMax, wMake, wFz, wCat, wRep, wipeE, D.ty, wIf_true, wIf_false, List.getElem?_cons_zero, List.getElem?_cons_succ, List.set_cons_zero, List.set_cons_succ, dI0_ii, dI_ii, dNeg_i, dGcd_ii, dAbs_i, dInt_i, dInt_b, dBits_i, dLen_t, dLen_l, dTuple_t, dTuple_l, dAdd_ii, dAdd_tt, dAdd_ll, dAdd_ss, dMul_ii, dMul_li, dIs_n, dIs_b, dIsN_n, dRepr_b, rt_0, rt_1, dEq, dNe, dSub, dDiv, dDivU, dMod, dLt, dLe, dGt, dGe, D.isNon, Bool.not_true, Bool.not_false])
    rw [List.length_map, h0, decide_eq_true (show (1 : Int) ≤ (m : Int) by omega)]
    (try simp only [wSeq, wSet, wSetO, wRet, wIfS, wFrz, wApp, wDrop, wNext, wBreak, wCont, wNever, wVar, wVarB, wC, wBin, wUn, wT, wAnd, wOr, wNot, wAndV, wOrV, wNotV, wIte, wNil, wCons, wTup, wCall, wListOf, wC2, wIsT, wIsC, wFld, wON, wOS, wSl, wV, wO, wSetIx, wPar, wSwap, wSeqOf, wRng1, wRng2, wFor, wWhile, wYes, wComp, wEnum, wZip, wEnum2, wRgT, wRgL, wAug, dMulT, dMax, wMake, wFz, wCat, wRep, wipeE, D.ty, wIf_true, wIf_false, List.getElem?_cons_zero, List.getElem?_cons_succ, List.set_cons_zero, List.set_cons_succ, dI0_ii, dI_ii, dNeg_i, dGcd_ii, dAbs_i, dInt_i, dInt_b, dBits_i, dLen_t, dLen_l, dTuple_t, dTuple_l, dAdd_ii, dAdd_tt, dAdd_ll, dAdd_ss, dMul_ii, dMul_li, dIs_n, dIs_b, dIsN_n, dRepr_b, rt_0, rt_1, dEq, dNe, dSub, dDiv, dDivU, dMod, dLt, dLe, dGt, dGe, D.isNon, Bool.not_true, Bool.not_false])
    rw [decide_eq_true (show (m : Int) ≤ 6 by omega)]
    (try simp only [wSeq, wSet, wSetO, wRet, wIfS, wFrz, wApp, wDrop, wNext, wBreak, wCont, wNever, wVar, wVarB, wC, wBin, wUn, wT, wAnd, wOr, wNot, wAndV, wOrV, wNotV, wIte, wNil, wCons, wTup, wCall, wListOf, wC2, wIsT, wIsC, wFld, wON, wOS, wSl, wV, wO, wSetIx, wPar, wSwap, wSeqOf, wRng1, wRng2, wFor, wWhile, wYes, wComp, wEnum, wZip, wEnum2, wRgT, wRgL, wAug, dMulT, dMax, wMake, wFz, wCat, wRep, wipeE, D.ty, wIf_true, wIf_false, List.getElem?_cons_zero, List.getElem?_cons_succ, List.set_cons_zero, List.set_cons_succ, dI0_ii, dI_ii, dNeg_i, dGcd_ii, dAbs_i, dInt_i, dInt_b, dBits_i, dLen_t, dLen_l, dTuple_t, dTuple_l, dAdd_ii, dAdd_tt, dAdd_ll, dAdd_ss, dMul_ii, dMul_li, dIs_n, dIs_b, dIsN_n, dRepr_b, rt_0, rt_1, dEq, dNe, dSub, dDiv, dDivU, dMod, dLt, dLe, dGt, dGe, D.isNon, Bool.not_true, Bool.not_false])
    refine ⟨by first | omega | (simp; omega), cmp_at (fun r : List Rat => D.tup (r.map rt)) (fun r => D.bl true) _ _ (fun r hr => ⟨_, rfl, fun K kk => ?_⟩) ?_⟩
    · (try simp only [wSeq, wSet, wSetO, wRet, wIfS, wFrz, wApp, wDrop, wNext, wBreak, wCont, wNever, wVar, wVarB, wC, wBin, wUn, wT, wAnd, wOr, wNot, wAndV, wOrV, wNotV, wIte, wNil, wCons, wTup, wCall, wListOf, wC2, wIsT, wIsC, wFld, wON, wOS, wSl, wV, wO, wSetIx, wPar, wSwap, wSeqOf, wRng1, wRng2, wFor, wWhile, wYes, wComp, wEnum, wZip, wEnum2, wRgT, wRgL, wAug, dMulT, dMax, wMake, wFz, wCat, wRep, wipeE, D.ty, wIf_true, wIf_false, List.getElem?_cons_zero, List.getElem?_cons_succ, List.set_cons_zero, List.set_cons_succ, dI0_ii, dI_ii, dNeg_i, dGcd_ii, dAbs_i, dInt_i, dInt_b, dBits_i, dLen_t, dLen_l, dTuple_t, dTuple_l, dAdd_ii, dAdd_tt, dAdd_ll, dAdd_ss, dMul_ii, dMul_li, dIs_n, dIs_b, dIsN_n, dRepr_b, rt_0, rt_1, dEq, dNe, dSub, dDiv, dDivU, dMod, dLt, dLe, dGt, dGe, D.isNon, Bool.not_true, Bool.not_false])
      refine dIx_l (j := 0) (d := .tup (r0.map rt)) (by rw [hM]; rfl) ?_
      (try simp only [wSeq, wSet, wSetO, wRet, wIfS, wFrz, wApp, wDrop, wNext, wBreak, wCont, wNever, wVar, wVarB, wC, wBin, wUn, wT, wAnd, wOr, wNot, wAndV, wOrV, wNotV, wIte, wNil, wCons, wTup, wCall, wListOf, wC2, wIsT, wIsC, wFld, wON, wOS, wSl, wV, wO, wSetIx, wPar, wSwap, wSeqOf, wRng1, wRng2, wFor, wWhile, wYes, wComp, wEnum, wZip, wEnum2, wRgT, wRgL, wAug, dMulT, dMax, wMake, wFz, wCat, wRep, wipeE, D.ty, wIf_true, wIf_false, List.getElem?_cons_zero, List.getElem?_cons_succ, List.set_cons_zero, List.set_cons_succ, dI0_ii, dI_ii, dNeg_i, dGcd_ii, dAbs_i, dInt_i, dInt_b, dBits_i, dLen_t, dLen_l, dTuple_t, dTuple_l, dAdd_ii, dAdd_tt, dAdd_ll, dAdd_ss, dMul_ii, dMul_li, dIs_n, dIs_b, dIsN_n, dRepr_b, rt_0, rt_1, dEq, dNe, dSub, dDiv, dDivU, dMod, dLt, dLe, dGt, dGe, D.isNon, Bool.not_true, Bool.not_false])
      refine ⟨⟨rfl, rfl⟩, ?_⟩
      rw [List.length_map, List.length_map, h0, R.row r hr]
      rw [show PyData.eqv (D.int (m : Int)).py (D.int (m : Int)).py = true by simp [D.py, PyData.eqv]]
      exact kk
    · refine ⟨_, all_true M, ?_⟩
      rw [show (List.replicate M.length true).all id = true by simp]
      (try simp only [wSeq, wSet, wSetO, wRet, wIfS, wFrz, wApp, wDrop, wNext, wBreak, wCont, wNever, wVar, wVarB, wC, wBin, wUn, wT, wAnd, wOr, wNot, wAndV, wOrV, wNotV, wIte, wNil, wCons, wTup, wCall, wListOf, wC2, wIsT, wIsC, wFld, wON, wOS, wSl, wV, wO, wSetIx, wPar, wSwap, wSeqOf, wRng1, wRng2, wFor, wWhile, wYes, wComp, wEnum, wZip, wEnum2, wRgT, wRgL, wAug, dMulT, dMax, wMake, wFz, wCat, wRep, wipeE, D.ty, wIf_true, wIf_false, List.getElem?_cons_zero, List.getElem?_cons_succ, List.set_cons_zero, List.set_cons_succ, dI0_ii, dI_ii, dNeg_i, dGcd_ii, dAbs_i, dInt_i, dInt_b, dBits_i, dLen_t, dLen_l, dTuple_t, dTuple_l, dAdd_ii, dAdd_tt, dAdd_ll, dAdd_ss, dMul_ii, dMul_li, dIs_n, dIs_b, dIsN_n, dRepr_b, rt_0, rt_1, dEq, dNe, dSub, dDiv, dDivU, dMod, dLt, dLe, dGt, dGe, D.isNon, Bool.not_true, Bool.not_false])
      exact q
end En
/-! Tables, their products. -/
namespace En
open PySem PySem.Spec PyProof.Rows L2
theorem hp_turned : ∀ ds b Q, ds.length = 1 → p_turned ds b Q → W_turned { nx := fun _ b' => Q .non b', rt := Q } (ds.map Slot.v ++ List.replicate 0 .un) b := by
  rintro ds b Q - ⟨M, m, rfl, R, h1, h2, h3, q⟩
  show W_turned _ [.v (tabD M)] b
  (try simp only [wSeq, wSet, wSetO, wRet, wIfS, wFrz, wApp, wDrop, wNext, wBreak, wCont, wNever, wVar, wVarB, wC, wBin, wUn, wT, wAnd, wOr, wNot, wAndV, wOrV, wNotV, wIte, wNil, wCons, wTup, wCall, wListOf, wC2, wIsT, wIsC, wFld, wON, wOS, wSl, wV, wO, wSetIx, wPar, wSwap, wSeqOf, wRng1, wRng2, wFor, wWhile, wYes, wComp, wEnum, wZip, wEnum2, wRgT, wRgL, wAug, dMulT, dMax, wMake, wFz, wCat, wRep, wipeE, D.ty, wIf_true, wIf_false, List.getElem?_cons_zero, List.getElem?_cons_succ, List.set_cons_zero, List.set_cons_succ, dI0_ii, dI_ii, dNeg_i, dGcd_ii, dAbs_i, dInt_i, dInt_b, dBits_i, dLen_t, dLen_l, dTuple_t, dTuple_l, dAdd_ii, dAdd_tt, dAdd_ll, dAdd_ss, dMul_ii, dMul_li, dIs_n, dIs_b, dIsN_n, dRepr_b, rt_0, rt_1, dEq, dNe, dSub, dDiv, dDivU, dMod, dLt, dLe, dGt, dGe, D.isNon, Bool.not_true, Bool.not_false, W_turned])
  refine ⟨rfl, M, m, rfl, R, h1, h2, h3, ?_⟩
  (try simp only [wSeq, wSet, wSetO, wRet, wIfS, wFrz, wApp, wDrop, wNext, wBreak, wCont, wNever, wVar, wVarB, wC, wBin, wUn, wT, wAnd, wOr, wNot, wAndV, wOrV, wNotV, wIte, wNil, wCons, wTup, wCall, wListOf, wC2, wIsT, wIsC, wFld, wON, wOS, wSl, wV, wO, wSetIx, wPar, wSwap, wSeqOf, wRng1, wRng2, wFor, wWhile, wYes, wComp, wEnum, wZip, wEnum2, wRgT, wRgL, wAug, dMulT, dMax, wMake, wFz, wCat, wRep, wipeE, D.ty, wIf_true, wIf_false, List.getElem?_cons_zero, List.getElem?_cons_succ, List.set_cons_zero, List.set_cons_succ, dI0_ii, dI_ii, dNeg_i, dGcd_ii, dAbs_i, dInt_i, dInt_b, dBits_i, dLen_t, dLen_l, dTuple_t, dTuple_l, dAdd_ii, dAdd_tt, dAdd_ll, dAdd_ss, dMul_ii, dMul_li, dIs_n, dIs_b, dIsN_n, dRepr_b, rt_0, rt_1, dEq, dNe, dSub, dDiv, dDivU, dMod, dLt, dLe, dGt, dGe, D.isNon, Bool.not_true, Bool.not_false])
  exact ⟨rfl, M, m, rfl, R, q⟩
theorem prod_get {xs ys : List Rat} {i : Nat} {q : Rat × Rat} (h : (xs.zip ys)[i]? = some q) : (prodR xs ys)[i]? = some (q.1 * q.2) := by
  unfold prodR
  rw [← List.map_uncurry_zip_eq_zipWith, List.getElem?_map, h]
  rfl
theorem prod_len {xs ys : List Rat} (h : xs.length = ys.length) : (prodR xs ys).length = xs.length := by simp [prodR, h]
theorem dot_hz {xs ys : List Rat} {a b : Nat} (hx : HzL (a + 1) xs) (hy : HzL (b + 1) ys) : HzL (a + b + 2) (prodR xs ys) := fun z hz => by
  obtain ⟨x, h1, y, h2, rfl⟩ := zipW_mem hz
  exact ((hx x h1).mul (hy y h2)).mono (by omega)
theorem hp_dot_of : ∀ ds b Q, ds.length = 2 → p_dot_of ds b Q → W_dot_of { nx := fun _ b' => Q .non b', rt := Q } (ds.map Slot.v ++ List.replicate 3 .un) b := by
  rintro ds b Q - ⟨xs, ys, rfl, ok, q⟩
  show W_dot_of _ [.v (.tup (xs.map rt)), .v (.tup (ys.map rt)), .un, .un, .un] b
  obtain ⟨a, c, ha, hc, hs⟩ := ok.hz
  have hl := ok.len
  have few := ok.few
  have hp : HzL ((a + c + 1) + 1) (prodR xs ys) := dot_hz ha hc
  have hpl := prod_len hl
  (try simp only [wSeq, wSet, wSetO, wRet, wIfS, wFrz, wApp, wDrop, wNext, wBreak, wCont, wNever, wVar, wVarB, wC, wBin, wUn, wT, wAnd, wOr, wNot, wAndV, wOrV, wNotV, wIte, wNil, wCons, wTup, wCall, wListOf, wC2, wIsT, wIsC, wFld, wON, wOS, wSl, wV, wO, wSetIx, wPar, wSwap, wSeqOf, wRng1, wRng2, wFor, wWhile, wYes, wComp, wEnum, wZip, wEnum2, wRgT, wRgL, wAug, dMulT, dMax, wMake, wFz, wCat, wRep, wipeE, D.ty, wIf_true, wIf_false, List.getElem?_cons_zero, List.getElem?_cons_succ, List.set_cons_zero, List.set_cons_succ, dI0_ii, dI_ii, dNeg_i, dGcd_ii, dAbs_i, dInt_i, dInt_b, dBits_i, dLen_t, dLen_l, dTuple_t, dTuple_l, dAdd_ii, dAdd_tt, dAdd_ll, dAdd_ss, dMul_ii, dMul_li, dIs_n, dIs_b, dIsN_n, dRepr_b, rt_0, rt_1, dEq, dNe, dSub, dDiv, dDivU, dMod, dLt, dLe, dGt, dGe, D.isNon, Bool.not_true, Bool.not_false, W_dot_of, kNONE_eq])
  rw [zipD_rt]
  refine for_rule (I := fun i env b' => b' = b ∧ ∃ s3 s4, env = [.v (.tup (xs.map rt)), .v (.tup (ys.map rt)), .v (rt (sumR ((prodR xs ys).take i))), s3, s4]) ?_ ?_ _ _ ⟨rfl, _, _, rfl⟩
  · rintro i d env b' E' hd ⟨rfl, s3, s4, rfl⟩ hnx hct hbk hrt
    obtain ⟨z, hz, rfl⟩ := get_map hd
    have hg := prod_get hz
    obtain ⟨z1, z2⟩ := sum_loop hp (by rw [hpl]; exact hs) hg
    have hm := List.of_mem_zip (List.mem_of_getElem? hz)
    have k1 := Nat.mul_le_mul_right (a + c + 3) (show 1 ≤ xs.length + 1 by omega)
    have sx : Sz z.1 := (ha z.1 hm.1).sz (by omega)
    have sy : Sz z.2 := (hc z.2 hm.2).sz (by omega)
    have nxt : (prodR xs ys).take (i + 1) = (prodR xs ys).take i ++ [z.1 * z.2] := take_next hg
    refine ⟨_, rfl, ?_⟩
    (try simp only [wSeq, wSet, wSetO, wRet, wIfS, wFrz, wApp, wDrop, wNext, wBreak, wCont, wNever, wVar, wVarB, wC, wBin, wUn, wT, wAnd, wOr, wNot, wAndV, wOrV, wNotV, wIte, wNil, wCons, wTup, wCall, wListOf, wC2, wIsT, wIsC, wFld, wON, wOS, wSl, wV, wO, wSetIx, wPar, wSwap, wSeqOf, wRng1, wRng2, wFor, wWhile, wYes, wComp, wEnum, wZip, wEnum2, wRgT, wRgL, wAug, dMulT, dMax, wMake, wFz, wCat, wRep, wipeE, D.ty, wIf_true, wIf_false, List.getElem?_cons_zero, List.getElem?_cons_succ, List.set_cons_zero, List.set_cons_succ, dI0_ii, dI_ii, dNeg_i, dGcd_ii, dAbs_i, dInt_i, dInt_b, dBits_i, dLen_t, dLen_l, dTuple_t, dTuple_l, dAdd_ii, dAdd_tt, dAdd_ll, dAdd_ss, dMul_ii, dMul_li, dIs_n, dIs_b, dIsN_n, dRepr_b, rt_0, rt_1, dEq, dNe, dSub, dDiv, dDivU, dMod, dLt, dLe, dGt, dGe, D.isNon, Bool.not_true, Bool.not_false, kNONE_eq])
    refine ⟨⟨flat_rt _ _, flat_rt _ _⟩, ?_⟩
    rw [eqv_rt, ← decide_not]
    refine wIf_dec (fun h => ?_) (fun h => ?_)
    · refine ⟨⟨flat_rt _ _, flat_rt _ _⟩, ?_⟩
      rw [eqv_rt, ← decide_not]
      refine wIf_dec (fun h2 => ?_) (fun h2 => ?_)
      · (try simp only [wSeq, wSet, wSetO, wRet, wIfS, wFrz, wApp, wDrop, wNext, wBreak, wCont, wNever, wVar, wVarB, wC, wBin, wUn, wT, wAnd, wOr, wNot, wAndV, wOrV, wNotV, wIte, wNil, wCons, wTup, wCall, wListOf, wC2, wIsT, wIsC, wFld, wON, wOS, wSl, wV, wO, wSetIx, wPar, wSwap, wSeqOf, wRng1, wRng2, wFor, wWhile, wYes, wComp, wEnum, wZip, wEnum2, wRgT, wRgL, wAug, dMulT, dMax, wMake, wFz, wCat, wRep, wipeE, D.ty, wIf_true, wIf_false, List.getElem?_cons_zero, List.getElem?_cons_succ, List.set_cons_zero, List.set_cons_succ, dI0_ii, dI_ii, dNeg_i, dGcd_ii, dAbs_i, dInt_i, dInt_b, dBits_i, dLen_t, dLen_l, dTuple_t, dTuple_l, dAdd_ii, dAdd_tt, dAdd_ll, dAdd_ss, dMul_ii, dMul_li, dIs_n, dIs_b, dIsN_n, dRepr_b, rt_0, rt_1, dEq, dNe, dSub, dDiv, dDivU, dMod, dLt, dLe, dGt, dGe, D.isNon, Bool.not_true, Bool.not_false])
        refine ⟨rfl, z.1, z.2, rfl, sx, sy, trivial, rfl, _, _, rfl, z1, z2, trivial, hnx _ _ ⟨rfl, .v (rt z.1), .v (rt z.2), ?_⟩⟩
        rw [nxt, sumR_snoc]
      · (try simp only [wSeq, wSet, wSetO, wRet, wIfS, wFrz, wApp, wDrop, wNext, wBreak, wCont, wNever, wVar, wVarB, wC, wBin, wUn, wT, wAnd, wOr, wNot, wAndV, wOrV, wNotV, wIte, wNil, wCons, wTup, wCall, wListOf, wC2, wIsT, wIsC, wFld, wON, wOS, wSl, wV, wO, wSetIx, wPar, wSwap, wSeqOf, wRng1, wRng2, wFor, wWhile, wYes, wComp, wEnum, wZip, wEnum2, wRgT, wRgL, wAug, dMulT, dMax, wMake, wFz, wCat, wRep, wipeE, D.ty, wIf_true, wIf_false, List.getElem?_cons_zero, List.getElem?_cons_succ, List.set_cons_zero, List.set_cons_succ, dI0_ii, dI_ii, dNeg_i, dGcd_ii, dAbs_i, dInt_i, dInt_b, dBits_i, dLen_t, dLen_l, dTuple_t, dTuple_l, dAdd_ii, dAdd_tt, dAdd_ll, dAdd_ss, dMul_ii, dMul_li, dIs_n, dIs_b, dIsN_n, dRepr_b, rt_0, rt_1, dEq, dNe, dSub, dDiv, dDivU, dMod, dLt, dLe, dGt, dGe, D.isNon, Bool.not_true, Bool.not_false])
        have e : z.2 = 0 := Classical.not_not.mp h2
        refine hnx _ _ ⟨rfl, .v (rt z.1), .v (rt z.2), ?_⟩
        rw [nxt, sumR_snoc, e, Rat.mul_zero, Rat.add_zero]
    · (try simp only [wSeq, wSet, wSetO, wRet, wIfS, wFrz, wApp, wDrop, wNext, wBreak, wCont, wNever, wVar, wVarB, wC, wBin, wUn, wT, wAnd, wOr, wNot, wAndV, wOrV, wNotV, wIte, wNil, wCons, wTup, wCall, wListOf, wC2, wIsT, wIsC, wFld, wON, wOS, wSl, wV, wO, wSetIx, wPar, wSwap, wSeqOf, wRng1, wRng2, wFor, wWhile, wYes, wComp, wEnum, wZip, wEnum2, wRgT, wRgL, wAug, dMulT, dMax, wMake, wFz, wCat, wRep, wipeE, D.ty, wIf_true, wIf_false, List.getElem?_cons_zero, List.getElem?_cons_succ, List.set_cons_zero, List.set_cons_succ, dI0_ii, dI_ii, dNeg_i, dGcd_ii, dAbs_i, dInt_i, dInt_b, dBits_i, dLen_t, dLen_l, dTuple_t, dTuple_l, dAdd_ii, dAdd_tt, dAdd_ll, dAdd_ss, dMul_ii, dMul_li, dIs_n, dIs_b, dIsN_n, dRepr_b, rt_0, rt_1, dEq, dNe, dSub, dDiv, dDivU, dMod, dLt, dLe, dGt, dGe, D.isNon, Bool.not_true, Bool.not_false])
      have e : z.1 = 0 := Classical.not_not.mp h
      refine hnx _ _ ⟨rfl, .v (rt z.1), .v (rt z.2), ?_⟩
      rw [nxt, sumR_snoc, e, Rat.zero_mul, Rat.add_zero]
  · rintro env b' ⟨rfl, s3, s4, rfl⟩
    (try simp only [wSeq, wSet, wSetO, wRet, wIfS, wFrz, wApp, wDrop, wNext, wBreak, wCont, wNever, wVar, wVarB, wC, wBin, wUn, wT, wAnd, wOr, wNot, wAndV, wOrV, wNotV, wIte, wNil, wCons, wTup, wCall, wListOf, wC2, wIsT, wIsC, wFld, wON, wOS, wSl, wV, wO, wSetIx, wPar, wSwap, wSeqOf, wRng1, wRng2, wFor, wWhile, wYes, wComp, wEnum, wZip, wEnum2, wRgT, wRgL, wAug, dMulT, dMax, wMake, wFz, wCat, wRep, wipeE, D.ty, wIf_true, wIf_false, List.getElem?_cons_zero, List.getElem?_cons_succ, List.set_cons_zero, List.set_cons_succ, dI0_ii, dI_ii, dNeg_i, dGcd_ii, dAbs_i, dInt_i, dInt_b, dBits_i, dLen_t, dLen_l, dTuple_t, dTuple_l, dAdd_ii, dAdd_tt, dAdd_ll, dAdd_ss, dMul_ii, dMul_li, dIs_n, dIs_b, dIsN_n, dRepr_b, rt_0, rt_1, dEq, dNe, dSub, dDiv, dDivU, dMod, dLt, dLe, dGt, dGe, D.isNon, Bool.not_true, Bool.not_false])
    have e : (prodR xs ys).take ((xs.zip ys).map fun q => D.tup [rt q.1, rt q.2]).length = prodR xs ys := by
      rw [List.take_of_length_le]
      rw [hpl]
      simp [hl]
    rw [e]
    exact q
theorem hp_product_by : ∀ ds b Q, ds.length = 2 → p_product_by ds b Q → W_product_by { nx := fun _ b' => Q .non b', rt := Q } (ds.map Slot.v ++ List.replicate 3 .un) b := by
  rintro ds b Q - ⟨A, B, m, rfl, hA, R, ok, q⟩
  show W_product_by _ [.v (tabD A), .v (tabD B), .un, .un, .un] b
  (try simp only [wSeq, wSet, wSetO, wRet, wIfS, wFrz, wApp, wDrop, wNext, wBreak, wCont, wNever, wVar, wVarB, wC, wBin, wUn, wT, wAnd, wOr, wNot, wAndV, wOrV, wNotV, wIte, wNil, wCons, wTup, wCall, wListOf, wC2, wIsT, wIsC, wFld, wON, wOS, wSl, wV, wO, wSetIx, wPar, wSwap, wSeqOf, wRng1, wRng2, wFor, wWhile, wYes, wComp, wEnum, wZip, wEnum2, wRgT, wRgL, wAug, dMulT, dMax, wMake, wFz, wCat, wRep, wipeE, D.ty, wIf_true, wIf_false, List.getElem?_cons_zero, List.getElem?_cons_succ, List.set_cons_zero, List.set_cons_succ, dI0_ii, dI_ii, dNeg_i, dGcd_ii, dAbs_i, dInt_i, dInt_b, dBits_i, dLen_t, dLen_l, dTuple_t, dTuple_l, dAdd_ii, dAdd_tt, dAdd_ll, dAdd_ss, dMul_ii, dMul_li, dIs_n, dIs_b, dIsN_n, dRepr_b, rt_0, rt_1, dEq, dNe, dSub, dDiv, dDivU, dMod, dLt, dLe, dGt, dGe, D.isNon, Bool.not_true, Bool.not_false, W_product_by])
  refine ⟨rfl, B, m, rfl, R, ?_⟩
  (try simp only [wSeq, wSet, wSetO, wRet, wIfS, wFrz, wApp, wDrop, wNext, wBreak, wCont, wNever, wVar, wVarB, wC, wBin, wUn, wT, wAnd, wOr, wNot, wAndV, wOrV, wNotV, wIte, wNil, wCons, wTup, wCall, wListOf, wC2, wIsT, wIsC, wFld, wON, wOS, wSl, wV, wO, wSetIx, wPar, wSwap, wSeqOf, wRng1, wRng2, wFor, wWhile, wYes, wComp, wEnum, wZip, wEnum2, wRgT, wRgL, wAug, dMulT, dMax, wMake, wFz, wCat, wRep, wipeE, D.ty, wIf_true, wIf_false, List.getElem?_cons_zero, List.getElem?_cons_succ, List.set_cons_zero, List.set_cons_succ, dI0_ii, dI_ii, dNeg_i, dGcd_ii, dAbs_i, dInt_i, dInt_b, dBits_i, dLen_t, dLen_l, dTuple_t, dTuple_l, dAdd_ii, dAdd_tt, dAdd_ll, dAdd_ss, dMul_ii, dMul_li, dIs_n, dIs_b, dIsN_n, dRepr_b, rt_0, rt_1, dEq, dNe, dSub, dDiv, dDivU, dMod, dLt, dLe, dGt, dGe, D.isNon, Bool.not_true, Bool.not_false, tabD])
  refine ⟨by first | omega | (simp; omega), cmp_at (fun r : List Rat => D.tup (r.map rt)) (fun r => D.tup (((trR B m).map fun c => dotR r c).map rt)) _ _ (fun r hr => ⟨_, rfl, fun K kk => ?_⟩) ?_⟩
  · (try simp only [wSeq, wSet, wSetO, wRet, wIfS, wFrz, wApp, wDrop, wNext, wBreak, wCont, wNever, wVar, wVarB, wC, wBin, wUn, wT, wAnd, wOr, wNot, wAndV, wOrV, wNotV, wIte, wNil, wCons, wTup, wCall, wListOf, wC2, wIsT, wIsC, wFld, wON, wOS, wSl, wV, wO, wSetIx, wPar, wSwap, wSeqOf, wRng1, wRng2, wFor, wWhile, wYes, wComp, wEnum, wZip, wEnum2, wRgT, wRgL, wAug, dMulT, dMax, wMake, wFz, wCat, wRep, wipeE, D.ty, wIf_true, wIf_false, List.getElem?_cons_zero, List.getElem?_cons_succ, List.set_cons_zero, List.set_cons_succ, dI0_ii, dI_ii, dNeg_i, dGcd_ii, dAbs_i, dInt_i, dInt_b, dBits_i, dLen_t, dLen_l, dTuple_t, dTuple_l, dAdd_ii, dAdd_tt, dAdd_ll, dAdd_ss, dMul_ii, dMul_li, dIs_n, dIs_b, dIsN_n, dRepr_b, rt_0, rt_1, dEq, dNe, dSub, dDiv, dDivU, dMod, dLt, dLe, dGt, dGe, D.isNon, Bool.not_true, Bool.not_false])
    have ht : (trR B m).length = m := by simp [trR]
    have := R.fewc
    refine ⟨by first | omega | (simp; omega), cmp_at (fun c : List Rat => D.tup (c.map rt)) (fun c => rt (dotR r c)) _ _ (fun c hc => ⟨_, rfl, fun K2 k2 => ?_⟩) ?_⟩
    · (try simp only [wSeq, wSet, wSetO, wRet, wIfS, wFrz, wApp, wDrop, wNext, wBreak, wCont, wNever, wVar, wVarB, wC, wBin, wUn, wT, wAnd, wOr, wNot, wAndV, wOrV, wNotV, wIte, wNil, wCons, wTup, wCall, wListOf, wC2, wIsT, wIsC, wFld, wON, wOS, wSl, wV, wO, wSetIx, wPar, wSwap, wSeqOf, wRng1, wRng2, wFor, wWhile, wYes, wComp, wEnum, wZip, wEnum2, wRgT, wRgL, wAug, dMulT, dMax, wMake, wFz, wCat, wRep, wipeE, D.ty, wIf_true, wIf_false, List.getElem?_cons_zero, List.getElem?_cons_succ, List.set_cons_zero, List.set_cons_succ, dI0_ii, dI_ii, dNeg_i, dGcd_ii, dAbs_i, dInt_i, dInt_b, dBits_i, dLen_t, dLen_l, dTuple_t, dTuple_l, dAdd_ii, dAdd_tt, dAdd_ll, dAdd_ss, dMul_ii, dMul_li, dIs_n, dIs_b, dIsN_n, dRepr_b, rt_0, rt_1, dEq, dNe, dSub, dDiv, dDivU, dMod, dLt, dLe, dGt, dGe, D.isNon, Bool.not_true, Bool.not_false])
      exact ⟨rfl, r, c, rfl, ok r hr c hc, k2⟩
    · (try simp only [wSeq, wSet, wSetO, wRet, wIfS, wFrz, wApp, wDrop, wNext, wBreak, wCont, wNever, wVar, wVarB, wC, wBin, wUn, wT, wAnd, wOr, wNot, wAndV, wOrV, wNotV, wIte, wNil, wCons, wTup, wCall, wListOf, wC2, wIsT, wIsC, wFld, wON, wOS, wSl, wV, wO, wSetIx, wPar, wSwap, wSeqOf, wRng1, wRng2, wFor, wWhile, wYes, wComp, wEnum, wZip, wEnum2, wRgT, wRgL, wAug, dMulT, dMax, wMake, wFz, wCat, wRep, wipeE, D.ty, wIf_true, wIf_false, List.getElem?_cons_zero, List.getElem?_cons_succ, List.set_cons_zero, List.set_cons_succ, dI0_ii, dI_ii, dNeg_i, dGcd_ii, dAbs_i, dInt_i, dInt_b, dBits_i, dLen_t, dLen_l, dTuple_t, dTuple_l, dAdd_ii, dAdd_tt, dAdd_ll, dAdd_ss, dMul_ii, dMul_li, dIs_n, dIs_b, dIsN_n, dRepr_b, rt_0, rt_1, dEq, dNe, dSub, dDiv, dDivU, dMod, dLt, dLe, dGt, dGe, D.isNon, Bool.not_true, Bool.not_false])
      rw [List.map_map] at kk
      exact kk
  · (try simp only [wSeq, wSet, wSetO, wRet, wIfS, wFrz, wApp, wDrop, wNext, wBreak, wCont, wNever, wVar, wVarB, wC, wBin, wUn, wT, wAnd, wOr, wNot, wAndV, wOrV, wNotV, wIte, wNil, wCons, wTup, wCall, wListOf, wC2, wIsT, wIsC, wFld, wON, wOS, wSl, wV, wO, wSetIx, wPar, wSwap, wSeqOf, wRng1, wRng2, wFor, wWhile, wYes, wComp, wEnum, wZip, wEnum2, wRgT, wRgL, wAug, dMulT, dMax, wMake, wFz, wCat, wRep, wipeE, D.ty, wIf_true, wIf_false, List.getElem?_cons_zero, List.getElem?_cons_succ, List.set_cons_zero, List.set_cons_succ, dI0_ii, dI_ii, dNeg_i, dGcd_ii, dAbs_i, dInt_i, dInt_b, dBits_i, dLen_t, dLen_l, dTuple_t, dTuple_l, dAdd_ii, dAdd_tt, dAdd_ll, dAdd_ss, dMul_ii, dMul_li, dIs_n, dIs_b, dIsN_n, dRepr_b, rt_0, rt_1, dEq, dNe, dSub, dDiv, dDivU, dMod, dLt, dLe, dGt, dGe, D.isNon, Bool.not_true, Bool.not_false])
    have e : tabD (mulT A B m) = .tup (A.map fun r => D.tup (((trR B m).map fun c => dotR r c).map rt)) := by
      unfold tabD mulT
      rw [List.map_map]
      rfl
    rw [← e]
    exact q
theorem hp_product : ∀ ds b Q, ds.length = 2 → p_product ds b Q → W_product { nx := fun _ b' => Q .non b', rt := Q } (ds.map Slot.v ++ List.replicate 2 .un) b := by
  rintro ds b Q - ⟨A, B, n, m, rfl, RA, h1, h2, h3, hB, RB, h4, h5, ok, q⟩
  show W_product _ [.v (tabD A), .v (tabD B), .un, .un] b
  obtain ⟨r0, A', hM⟩ : ∃ r0 M', A = r0 :: M' := by
    cases A with
    | nil => exact absurd rfl RA.ne
    | cons r M => exact ⟨r, M, rfl⟩
  have h0 : r0.length = n := RA.row r0 (by rw [hM]; exact List.mem_cons_self)
  (try simp only [wSeq, wSet, wSetO, wRet, wIfS, wFrz, wApp, wDrop, wNext, wBreak, wCont, wNever, wVar, wVarB, wC, wBin, wUn, wT, wAnd, wOr, wNot, wAndV, wOrV, wNotV, wIte, wNil, wCons, wTup, wCall, wListOf, wC2, wIsT, wIsC, wFld, wON, wOS, wSl, wV, wO, wSetIx, wPar, wSwap, wSeqOf, wRng1, wRng2, wFor, wWhile, wYes, wComp, wEnum, wZip, wEnum2, wRgT, wRgL, wAug, dMulT, dMax, wMake, wFz, wCat, wRep, wipeE, D.ty, wIf_true, wIf_false, List.getElem?_cons_zero, List.getElem?_cons_succ, List.set_cons_zero, List.set_cons_succ, dI0_ii, dI_ii, dNeg_i, dGcd_ii, dAbs_i, dInt_i, dInt_b, dBits_i, dLen_t, dLen_l, dTuple_t, dTuple_l, dAdd_ii, dAdd_tt, dAdd_ll, dAdd_ss, dMul_ii, dMul_li, dIs_n, dIs_b, dIsN_n, dRepr_b, rt_0, rt_1, dEq, dNe, dSub, dDiv, dDivU, dMod, dLt, dLe, dGt, dGe, D.isNon, Bool.not_true, Bool.not_false, W_product])
  refine ⟨rfl, A, n, rfl, RA, h1, h2, h3, ?_⟩
  (try simp only [wSeq, wSet, wSetO, wRet, wIfS, wFrz, wApp, wDrop, wNext, wBreak, wCont, wNever, wVar, wVarB, wC, wBin, wUn, wT, wAnd, wOr, wNot, wAndV, wOrV, wNotV, wIte, wNil, wCons, wTup, wCall, wListOf, wC2, wIsT, wIsC, wFld, wON, wOS, wSl, wV, wO, wSetIx, wPar, wSwap, wSeqOf, wRng1, wRng2, wFor, wWhile, wYes, wComp, wEnum, wZip, wEnum2, wRgT, wRgL, wAug, dMulT, dMax, wMake, wFz, wCat, wRep, wipeE, D.ty, wIf_true, wIf_false, List.getElem?_cons_zero, List.getElem?_cons_succ, List.set_cons_zero, List.set_cons_succ, dI0_ii, dI_ii, dNeg_i, dGcd_ii, dAbs_i, dInt_i, dInt_b, dBits_i, dLen_t, dLen_l, dTuple_t, dTuple_l, dAdd_ii, dAdd_tt, dAdd_ll, dAdd_ss, dMul_ii, dMul_li, dIs_n, dIs_b, dIsN_n, dRepr_b, rt_0, rt_1, dEq, dNe, dSub, dDiv, dDivU, dMod, dLt, dLe, dGt, dGe, D.isNon, Bool.not_true, Bool.not_false])
  refine ⟨rfl, B, m, rfl, RB, by omega, h4, h5, ?_⟩
  (try simp only [wSeq, wSet, wSetO, wRet, wIfS, wFrz, wApp, wDrop, wNext, wBreak, wCont, wNever, wVar, wVarB, wC, wBin, wUn, wT, wAnd, wOr, wNot, wAndV, wOrV, wNotV, wIte, wNil, wCons, wTup, wCall, wListOf, wC2, wIsT, wIsC, wFld, wON, wOS, wSl, wV, wO, wSetIx, wPar, wSwap, wSeqOf, wRng1, wRng2, wFor, wWhile, wYes, wComp, wEnum, wZip, wEnum2, wRgT, wRgL, wAug, dMulT, dMax, wMake, wFz, wCat, wRep, wipeE, D.ty, wIf_true, wIf_false, List.getElem?_cons_zero, List.getElem?_cons_succ, List.set_cons_zero, List.set_cons_succ, dI0_ii, dI_ii, dNeg_i, dGcd_ii, dAbs_i, dInt_i, dInt_b, dBits_i, dLen_t, dLen_l, dTuple_t, dTuple_l, dAdd_ii, dAdd_tt, dAdd_ll, dAdd_ss, dMul_ii, dMul_li, dIs_n, dIs_b, dIsN_n, dRepr_b, rt_0, rt_1, dEq, dNe, dSub, dDiv, dDivU, dMod, dLt, dLe, dGt, dGe, D.isNon, Bool.not_true, Bool.not_false])
  refine dIx_t (j := 0) (d := .tup (r0.map rt)) (by rw [hM]; rfl) ?_
  (try simp only [wSeq, wSet, wSetO, wRet, wIfS, wFrz, wApp, wDrop, wNext, wBreak, wCont, wNever, wVar, wVarB, wC, wBin, wUn, wT, wAnd, wOr, wNot, wAndV, wOrV, wNotV, wIte, wNil, wCons, wTup, wCall, wListOf, wC2, wIsT, wIsC, wFld, wON, wOS, wSl, wV, wO, wSetIx, wPar, wSwap, wSeqOf, wRng1, wRng2, wFor, wWhile, wYes, wComp, wEnum, wZip, wEnum2, wRgT, wRgL, wAug, dMulT, dMax, wMake, wFz, wCat, wRep, wipeE, D.ty, wIf_true, wIf_false, List.getElem?_cons_zero, List.getElem?_cons_succ, List.set_cons_zero, List.set_cons_succ, dI0_ii, dI_ii, dNeg_i, dGcd_ii, dAbs_i, dInt_i, dInt_b, dBits_i, dLen_t, dLen_l, dTuple_t, dTuple_l, dAdd_ii, dAdd_tt, dAdd_ll, dAdd_ss, dMul_ii, dMul_li, dIs_n, dIs_b, dIsN_n, dRepr_b, rt_0, rt_1, dEq, dNe, dSub, dDiv, dDivU, dMod, dLt, dLe, dGt, dGe, D.isNon, Bool.not_true, Bool.not_false, tabD])
  refine ⟨⟨rfl, rfl⟩, ?_⟩
  rw [show PyData.eqv (D.int ((r0.map rt).length : Int)).py (D.int ((B.map fun r => D.tup (r.map rt)).length : Int)).py = true by simp [D.py, PyData.eqv, h0, hB]]
  (try simp only [wSeq, wSet, wSetO, wRet, wIfS, wFrz, wApp, wDrop, wNext, wBreak, wCont, wNever, wVar, wVarB, wC, wBin, wUn, wT, wAnd, wOr, wNot, wAndV, wOrV, wNotV, wIte, wNil, wCons, wTup, wCall, wListOf, wC2, wIsT, wIsC, wFld, wON, wOS, wSl, wV, wO, wSetIx, wPar, wSwap, wSeqOf, wRng1, wRng2, wFor, wWhile, wYes, wComp, wEnum, wZip, wEnum2, wRgT, wRgL, wAug, dMulT, dMax, wMake, wFz, wCat, wRep, wipeE, D.ty, wIf_true, wIf_false, List.getElem?_cons_zero, List.getElem?_cons_succ, List.set_cons_zero, List.set_cons_succ, dI0_ii, dI_ii, dNeg_i, dGcd_ii, dAbs_i, dInt_i, dInt_b, dBits_i, dLen_t, dLen_l, dTuple_t, dTuple_l, dAdd_ii, dAdd_tt, dAdd_ll, dAdd_ss, dMul_ii, dMul_li, dIs_n, dIs_b, dIsN_n, dRepr_b, rt_0, rt_1, dEq, dNe, dSub, dDiv, dDivU, dMod, dLt, dLe, dGt, dGe, D.isNon, Bool.not_true, Bool.not_false])
  exact ⟨rfl, A, B, m, rfl, RA.few, RB, ok, q⟩
theorem hp_diagonal_by : ∀ ds b Q, ds.length = 1 → p_diagonal_by ds b Q → W_diagonal_by { nx := fun _ b' => Q .non b', rt := Q } (ds.map Slot.v ++ List.replicate 2 .un) b := by
  rintro ds b Q - ⟨xs, rfl, hl, q⟩
  show W_diagonal_by _ [.v (.tup (xs.map rt)), .un, .un] b
  (try simp only [wSeq, wSet, wSetO, wRet, wIfS, wFrz, wApp, wDrop, wNext, wBreak, wCont, wNever, wVar, wVarB, wC, wBin, wUn, wT, wAnd, wOr, wNot, wAndV, wOrV, wNotV, wIte, wNil, wCons, wTup, wCall, wListOf, wC2, wIsT, wIsC, wFld, wON, wOS, wSl, wV, wO, wSetIx, wPar, wSwap, wSeqOf, wRng1, wRng2, wFor, wWhile, wYes, wComp, wEnum, wZip, wEnum2, wRgT, wRgL, wAug, dMulT, dMax, wMake, wFz, wCat, wRep, wipeE, D.ty, wIf_true, wIf_false, List.getElem?_cons_zero, List.getElem?_cons_succ, List.set_cons_zero, List.set_cons_succ, dI0_ii, dI_ii, dNeg_i, dGcd_ii, dAbs_i, dInt_i, dInt_b, dBits_i, dLen_t, dLen_l, dTuple_t, dTuple_l, dAdd_ii, dAdd_tt, dAdd_ll, dAdd_ss, dMul_ii, dMul_li, dIs_n, dIs_b, dIsN_n, dRepr_b, rt_0, rt_1, dEq, dNe, dSub, dDiv, dDivU, dMod, dLt, dLe, dGt, dGe, D.isNon, Bool.not_true, Bool.not_false, W_diagonal_by])
  rw [List.length_map, rng_nat]
  refine ⟨⟨by omega, by omega⟩, by first | omega | (simp; omega), cmp_at (fun (i : Nat) => D.int (i : Int)) (fun i => .tup (((List.range xs.length).map fun j => if i = j then xs.getD i 0 else 0).map rt)) _ _ (fun i hi => ⟨_, rfl, fun K kk => ?_⟩) ?_⟩
  · rw [List.mem_range] at hi
    (try simp only [wSeq, wSet, wSetO, wRet, wIfS, wFrz, wApp, wDrop, wNext, wBreak, wCont, wNever, wVar, wVarB, wC, wBin, wUn, wT, wAnd, wOr, wNot, wAndV, wOrV, wNotV, wIte, wNil, wCons, wTup, wCall, wListOf, wC2, wIsT, wIsC, wFld, wON, wOS, wSl, wV, wO, wSetIx, wPar, wSwap, wSeqOf, wRng1, wRng2, wFor, wWhile, wYes, wComp, wEnum, wZip, wEnum2, wRgT, wRgL, wAug, dMulT, dMax, wMake, wFz, wCat, wRep, wipeE, D.ty, wIf_true, wIf_false, List.getElem?_cons_zero, List.getElem?_cons_succ, List.set_cons_zero, List.set_cons_succ, dI0_ii, dI_ii, dNeg_i, dGcd_ii, dAbs_i, dInt_i, dInt_b, dBits_i, dLen_t, dLen_l, dTuple_t, dTuple_l, dAdd_ii, dAdd_tt, dAdd_ll, dAdd_ss, dMul_ii, dMul_li, dIs_n, dIs_b, dIsN_n, dRepr_b, rt_0, rt_1, dEq, dNe, dSub, dDiv, dDivU, dMod, dLt, dLe, dGt, dGe, D.isNon, Bool.not_true, Bool.not_false])
    rw [List.length_map, rng_nat]
    refine ⟨⟨by omega, by omega⟩, by first | omega | (simp; omega), cmp_at (fun (i : Nat) => D.int (i : Int)) (fun j => rt (if i = j then xs.getD i 0 else 0)) _ _ (fun j hj => ⟨_, rfl, fun K2 k2 => ?_⟩) ?_⟩
    · (try simp only [wSeq, wSet, wSetO, wRet, wIfS, wFrz, wApp, wDrop, wNext, wBreak, wCont, wNever, wVar, wVarB, wC, wBin, wUn, wT, wAnd, wOr, wNot, wAndV, wOrV, wNotV, wIte, wNil, wCons, wTup, wCall, wListOf, wC2, wIsT, wIsC, wFld, wON, wOS, wSl, wV, wO, wSetIx, wPar, wSwap, wSeqOf, wRng1, wRng2, wFor, wWhile, wYes, wComp, wEnum, wZip, wEnum2, wRgT, wRgL, wAug, dMulT, dMax, wMake, wFz, wCat, wRep, wipeE, D.ty, wIf_true, wIf_false, List.getElem?_cons_zero, List.getElem?_cons_succ, List.set_cons_zero, List.set_cons_succ, dI0_ii, dI_ii, dNeg_i, dGcd_ii, dAbs_i, dInt_i, dInt_b, dBits_i, dLen_t, dLen_l, dTuple_t, dTuple_l, dAdd_ii, dAdd_tt, dAdd_ll, dAdd_ss, dMul_ii, dMul_li, dIs_n, dIs_b, dIsN_n, dRepr_b, rt_0, rt_1, dEq, dNe, dSub, dDiv, dDivU, dMod, dLt, dLe, dGt, dGe, D.isNon, Bool.not_true, Bool.not_false])
      refine ⟨⟨rfl, rfl⟩, ?_⟩
      have e : PyData.eqv (D.int (i : Int)).py (D.int (j : Int)).py = decide (i = j) := by
        simp only [D.py, PyData.eqv]
        by_cases z : i = j
        · simp [z]
        · simp [z]
          omega
      rw [e]
      refine wIf_dec (fun h => ?_) (fun h => ?_)
      · (try simp only [wSeq, wSet, wSetO, wRet, wIfS, wFrz, wApp, wDrop, wNext, wBreak, wCont, wNever, wVar, wVarB, wC, wBin, wUn, wT, wAnd, wOr, wNot, wAndV, wOrV, wNotV, wIte, wNil, wCons, wTup, wCall, wListOf, wC2, wIsT, wIsC, wFld, wON, wOS, wSl, wV, wO, wSetIx, wPar, wSwap, wSeqOf, wRng1, wRng2, wFor, wWhile, wYes, wComp, wEnum, wZip, wEnum2, wRgT, wRgL, wAug, dMulT, dMax, wMake, wFz, wCat, wRep, wipeE, D.ty, wIf_true, wIf_false, List.getElem?_cons_zero, List.getElem?_cons_succ, List.set_cons_zero, List.set_cons_succ, dI0_ii, dI_ii, dNeg_i, dGcd_ii, dAbs_i, dInt_i, dInt_b, dBits_i, dLen_t, dLen_l, dTuple_t, dTuple_l, dAdd_ii, dAdd_tt, dAdd_ll, dAdd_ss, dMul_ii, dMul_li, dIs_n, dIs_b, dIsN_n, dRepr_b, rt_0, rt_1, dEq, dNe, dSub, dDiv, dDivU, dMod, dLt, dLe, dGt, dGe, D.isNon, Bool.not_true, Bool.not_false])
        rw [if_pos h] at k2
        exact ix_rowT hi k2
      · (try simp only [wSeq, wSet, wSetO, wRet, wIfS, wFrz, wApp, wDrop, wNext, wBreak, wCont, wNever, wVar, wVarB, wC, wBin, wUn, wT, wAnd, wOr, wNot, wAndV, wOrV, wNotV, wIte, wNil, wCons, wTup, wCall, wListOf, wC2, wIsT, wIsC, wFld, wON, wOS, wSl, wV, wO, wSetIx, wPar, wSwap, wSeqOf, wRng1, wRng2, wFor, wWhile, wYes, wComp, wEnum, wZip, wEnum2, wRgT, wRgL, wAug, dMulT, dMax, wMake, wFz, wCat, wRep, wipeE, D.ty, wIf_true, wIf_false, List.getElem?_cons_zero, List.getElem?_cons_succ, List.set_cons_zero, List.set_cons_succ, dI0_ii, dI_ii, dNeg_i, dGcd_ii, dAbs_i, dInt_i, dInt_b, dBits_i, dLen_t, dLen_l, dTuple_t, dTuple_l, dAdd_ii, dAdd_tt, dAdd_ll, dAdd_ss, dMul_ii, dMul_li, dIs_n, dIs_b, dIsN_n, dRepr_b, rt_0, rt_1, dEq, dNe, dSub, dDiv, dDivU, dMod, dLt, dLe, dGt, dGe, D.isNon, Bool.not_true, Bool.not_false, kNONE_eq])
        rw [if_neg h] at k2
        exact k2
    · (try simp only [wSeq, wSet, wSetO, wRet, wIfS, wFrz, wApp, wDrop, wNext, wBreak, wCont, wNever, wVar, wVarB, wC, wBin, wUn, wT, wAnd, wOr, wNot, wAndV, wOrV, wNotV, wIte, wNil, wCons, wTup, wCall, wListOf, wC2, wIsT, wIsC, wFld, wON, wOS, wSl, wV, wO, wSetIx, wPar, wSwap, wSeqOf, wRng1, wRng2, wFor, wWhile, wYes, wComp, wEnum, wZip, wEnum2, wRgT, wRgL, wAug, dMulT, dMax, wMake, wFz, wCat, wRep, wipeE, D.ty, wIf_true, wIf_false, List.getElem?_cons_zero, List.getElem?_cons_succ, List.set_cons_zero, List.set_cons_succ, dI0_ii, dI_ii, dNeg_i, dGcd_ii, dAbs_i, dInt_i, dInt_b, dBits_i, dLen_t, dLen_l, dTuple_t, dTuple_l, dAdd_ii, dAdd_tt, dAdd_ll, dAdd_ss, dMul_ii, dMul_li, dIs_n, dIs_b, dIsN_n, dRepr_b, rt_0, rt_1, dEq, dNe, dSub, dDiv, dDivU, dMod, dLt, dLe, dGt, dGe, D.isNon, Bool.not_true, Bool.not_false])
      rw [List.map_map] at kk
      exact kk
  · (try simp only [wSeq, wSet, wSetO, wRet, wIfS, wFrz, wApp, wDrop, wNext, wBreak, wCont, wNever, wVar, wVarB, wC, wBin, wUn, wT, wAnd, wOr, wNot, wAndV, wOrV, wNotV, wIte, wNil, wCons, wTup, wCall, wListOf, wC2, wIsT, wIsC, wFld, wON, wOS, wSl, wV, wO, wSetIx, wPar, wSwap, wSeqOf, wRng1, wRng2, wFor, wWhile, wYes, wComp, wEnum, wZip, wEnum2, wRgT, wRgL, wAug, dMulT, dMax, wMake, wFz, wCat, wRep, wipeE, D.ty, wIf_true, wIf_false, List.getElem?_cons_zero, List.getElem?_cons_succ, List.set_cons_zero, List.set_cons_succ, dI0_ii, dI_ii, dNeg_i, dGcd_ii, dAbs_i, dInt_i, dInt_b, dBits_i, dLen_t, dLen_l, dTuple_t, dTuple_l, dAdd_ii, dAdd_tt, dAdd_ll, dAdd_ss, dMul_ii, dMul_li, dIs_n, dIs_b, dIsN_n, dRepr_b, rt_0, rt_1, dEq, dNe, dSub, dDiv, dDivU, dMod, dLt, dLe, dGt, dGe, D.isNon, Bool.not_true, Bool.not_false])
    have e : tabD (diagR xs) = .tup ((List.range xs.length).map fun i => D.tup (((List.range xs.length).map fun j => if i = j then xs.getD i 0 else 0).map rt)) := by
      unfold tabD diagR
      rw [List.map_map]
      rfl
    rw [← e]
    exact q
theorem hp_diagonal_table : ∀ ds b Q, ds.length = 1 → p_diagonal_table ds b Q → W_diagonal_table { nx := fun _ b' => Q .non b', rt := Q } (ds.map Slot.v ++ List.replicate 0 .un) b := by
  rintro ds b Q - ⟨xs, rfl, h1, h2, q⟩
  show W_diagonal_table _ [.v (.tup (xs.map rt))] b
  obtain ⟨f1, es, t1, r1, l1⟩ := passed_rt xs (by omega)
  (try simp only [wSeq, wSet, wSetO, wRet, wIfS, wFrz, wApp, wDrop, wNext, wBreak, wCont, wNever, wVar, wVarB, wC, wBin, wUn, wT, wAnd, wOr, wNot, wAndV, wOrV, wNotV, wIte, wNil, wCons, wTup, wCall, wListOf, wC2, wIsT, wIsC, wFld, wON, wOS, wSl, wV, wO, wSetIx, wPar, wSwap, wSeqOf, wRng1, wRng2, wFor, wWhile, wYes, wComp, wEnum, wZip, wEnum2, wRgT, wRgL, wAug, dMulT, dMax, wMake, wFz, wCat, wRep, wipeE, D.ty, wIf_true, wIf_false, List.getElem?_cons_zero, List.getElem?_cons_succ, List.set_cons_zero, List.set_cons_succ, dI0_ii, dI_ii, dNeg_i, dGcd_ii, dAbs_i, dInt_i, dInt_b, dBits_i, dLen_t, dLen_l, dTuple_t, dTuple_l, dAdd_ii, dAdd_tt, dAdd_ll, dAdd_ss, dMul_ii, dMul_li, dIs_n, dIs_b, dIsN_n, dRepr_b, rt_0, rt_1, dEq, dNe, dSub, dDiv, dDivU, dMod, dLt, dLe, dGt, dGe, D.isNon, Bool.not_true, Bool.not_false, W_diagonal_table, kMOST])
  refine ⟨rfl, _, es, xs, 1, 6, rfl, f1, t1, r1, l1, by omega, by omega, ?_⟩
  (try simp only [wSeq, wSet, wSetO, wRet, wIfS, wFrz, wApp, wDrop, wNext, wBreak, wCont, wNever, wVar, wVarB, wC, wBin, wUn, wT, wAnd, wOr, wNot, wAndV, wOrV, wNotV, wIte, wNil, wCons, wTup, wCall, wListOf, wC2, wIsT, wIsC, wFld, wON, wOS, wSl, wV, wO, wSetIx, wPar, wSwap, wSeqOf, wRng1, wRng2, wFor, wWhile, wYes, wComp, wEnum, wZip, wEnum2, wRgT, wRgL, wAug, dMulT, dMax, wMake, wFz, wCat, wRep, wipeE, D.ty, wIf_true, wIf_false, List.getElem?_cons_zero, List.getElem?_cons_succ, List.set_cons_zero, List.set_cons_succ, dI0_ii, dI_ii, dNeg_i, dGcd_ii, dAbs_i, dInt_i, dInt_b, dBits_i, dLen_t, dLen_l, dTuple_t, dTuple_l, dAdd_ii, dAdd_tt, dAdd_ll, dAdd_ss, dMul_ii, dMul_li, dIs_n, dIs_b, dIsN_n, dRepr_b, rt_0, rt_1, dEq, dNe, dSub, dDiv, dDivU, dMod, dLt, dLe, dGt, dGe, D.isNon, Bool.not_true, Bool.not_false])
  exact ⟨rfl, xs, rfl, by omega, q⟩
end En
/-! Tables of powers; what a law draws and hands on. -/
namespace En
open PySem PySem.Spec PyProof.Rows L2
theorem ixN_m1' {n : Nat} : ixN (n + 1) (-1) = some n := by
  unfold ixN
  rw [if_neg (by omega), if_pos (by omega)]
  congr 1
  omega
theorem dIx_l1 {es : List D} {n : Nat} {d : D} {Q : D → Prop} (h : es[n]? = some d) (hl : es.length = n + 1) (q : Q d) : dIx (.lst es) (.int (-1)) Q := by
  have e : atI es (-1) = some d := by
    unfold atI
    rw [hl, ixN_m1']
    exact h
  simp only [dIx, e]
  exact q
theorem pw_hz {g : Nat} {p : Rat} (h : Hz g p) : ∀ k, Hz (k * g + 1) (pwR p k)
  | 0 => by simpa [pwR] using hz_1 0
  | k + 1 => ((pw_hz h k).mul h).mono (by rw [Nat.add_mul]; omega)
theorem hp_power_table : ∀ ds b Q, ds.length = 2 → p_power_table ds b Q → W_power_table { nx := fun _ b' => Q .non b', rt := Q } (ds.map Slot.v ++ List.replicate 4 .un) b := by
  rintro ds b Q - ⟨ps, many, g, rfl, h1, h2, h3, h4, hg, hs, q⟩
  show W_power_table _ [.v (.tup (ps.map rt)), .v (.int (many : Int)), .un, .un, .un, .un] b
  obtain ⟨f1, es, t1, r1, l1⟩ := passed_rt ps (by omega)
  (try simp only [wSeq, wSet, wSetO, wRet, wIfS, wFrz, wApp, wDrop, wNext, wBreak, wCont, wNever, wVar, wVarB, wC, wBin, wUn, wT, wAnd, wOr, wNot, wAndV, wOrV, wNotV, wIte, wNil, wCons, wTup, wCall, wListOf, wC2, wIsT, wIsC, wFld, wON, wOS, wSl, wV, wO, wSetIx, wPar, wSwap, wSeqOf, wRng1, wRng2, wFor, wWhile, wYes, wComp, wEnum, wZip, wEnum2, wRgT, wRgL, wAug, dMulT, dMax, wMake, wFz, wCat, wRep, wipeE, D.ty, wIf_true, wIf_false, List.getElem?_cons_zero, List.getElem?_cons_succ, List.set_cons_zero, List.set_cons_succ, dI0_ii, dI_ii, dNeg_i, dGcd_ii, dAbs_i, dInt_i, dInt_b, dBits_i, dLen_t, dLen_l, dTuple_t, dTuple_l, dAdd_ii, dAdd_tt, dAdd_ll, dAdd_ss, dMul_ii, dMul_li, dIs_n, dIs_b, dIsN_n, dRepr_b, rt_0, rt_1, dEq, dNe, dSub, dDiv, dDivU, dMod, dLt, dLe, dGt, dGe, D.isNon, Bool.not_true, Bool.not_false, W_power_table, kMOST])
  refine ⟨rfl, _, es, ps, 1, 6, rfl, f1, t1, r1, l1, by omega, by omega, ?_⟩
  (try simp only [wSeq, wSet, wSetO, wRet, wIfS, wFrz, wApp, wDrop, wNext, wBreak, wCont, wNever, wVar, wVarB, wC, wBin, wUn, wT, wAnd, wOr, wNot, wAndV, wOrV, wNotV, wIte, wNil, wCons, wTup, wCall, wListOf, wC2, wIsT, wIsC, wFld, wON, wOS, wSl, wV, wO, wSetIx, wPar, wSwap, wSeqOf, wRng1, wRng2, wFor, wWhile, wYes, wComp, wEnum, wZip, wEnum2, wRgT, wRgL, wAug, dMulT, dMax, wMake, wFz, wCat, wRep, wipeE, D.ty, wIf_true, wIf_false, List.getElem?_cons_zero, List.getElem?_cons_succ, List.set_cons_zero, List.set_cons_succ, dI0_ii, dI_ii, dNeg_i, dGcd_ii, dAbs_i, dInt_i, dInt_b, dBits_i, dLen_t, dLen_l, dTuple_t, dTuple_l, dAdd_ii, dAdd_tt, dAdd_ll, dAdd_ss, dMul_ii, dMul_li, dIs_n, dIs_b, dIsN_n, dRepr_b, rt_0, rt_1, dEq, dNe, dSub, dDiv, dDivU, dMod, dLt, dLe, dGt, dGe, D.isNon, Bool.not_true, Bool.not_false])
  refine ⟨rfl, _, (many : Int), 1, 6, rfl, by omega, by omega, ?_⟩
  (try simp only [wSeq, wSet, wSetO, wRet, wIfS, wFrz, wApp, wDrop, wNext, wBreak, wCont, wNever, wVar, wVarB, wC, wBin, wUn, wT, wAnd, wOr, wNot, wAndV, wOrV, wNotV, wIte, wNil, wCons, wTup, wCall, wListOf, wC2, wIsT, wIsC, wFld, wON, wOS, wSl, wV, wO, wSetIx, wPar, wSwap, wSeqOf, wRng1, wRng2, wFor, wWhile, wYes, wComp, wEnum, wZip, wEnum2, wRgT, wRgL, wAug, dMulT, dMax, wMake, wFz, wCat, wRep, wipeE, D.ty, wIf_true, wIf_false, List.getElem?_cons_zero, List.getElem?_cons_succ, List.set_cons_zero, List.set_cons_succ, dI0_ii, dI_ii, dNeg_i, dGcd_ii, dAbs_i, dInt_i, dInt_b, dBits_i, dLen_t, dLen_l, dTuple_t, dTuple_l, dAdd_ii, dAdd_tt, dAdd_ll, dAdd_ss, dMul_ii, dMul_li, dIs_n, dIs_b, dIsN_n, dRepr_b, rt_0, rt_1, dEq, dNe, dSub, dDiv, dDivU, dMod, dLt, dLe, dGt, dGe, D.isNon, Bool.not_true, Bool.not_false])
  refine for_rule (I := fun i env b' => b' = b ∧ ∃ s4 s5, env = [.v (.tup (ps.map rt)), .v (.int (many : Int)), .v (.tup (ps.map rt)), .own ((ps.take i).map fun p => D.tup (((List.range many).map (pwR p)).map rt)), s4, s5]) ?_ ?_ _ _ ⟨rfl, _, _, rfl⟩
  · rintro i d env b' E' hd ⟨rfl, s4, s5, rfl⟩ hnx hct hbk hrt
    obtain ⟨p, hp, rfl⟩ := get_map hd
    have hgp := hg p (List.mem_of_getElem? hp)
    have hi := (List.getElem?_eq_some_iff.mp hp).1
    refine ⟨_, rfl, ?_⟩
    (try simp only [wSeq, wSet, wSetO, wRet, wIfS, wFrz, wApp, wDrop, wNext, wBreak, wCont, wNever, wVar, wVarB, wC, wBin, wUn, wT, wAnd, wOr, wNot, wAndV, wOrV, wNotV, wIte, wNil, wCons, wTup, wCall, wListOf, wC2, wIsT, wIsC, wFld, wON, wOS, wSl, wV, wO, wSetIx, wPar, wSwap, wSeqOf, wRng1, wRng2, wFor, wWhile, wYes, wComp, wEnum, wZip, wEnum2, wRgT, wRgL, wAug, dMulT, dMax, wMake, wFz, wCat, wRep, wipeE, D.ty, wIf_true, wIf_false, List.getElem?_cons_zero, List.getElem?_cons_succ, List.set_cons_zero, List.set_cons_succ, dI0_ii, dI_ii, dNeg_i, dGcd_ii, dAbs_i, dInt_i, dInt_b, dBits_i, dLen_t, dLen_l, dTuple_t, dTuple_l, dAdd_ii, dAdd_tt, dAdd_ll, dAdd_ss, dMul_ii, dMul_li, dIs_n, dIs_b, dIsN_n, dRepr_b, rt_0, rt_1, dEq, dNe, dSub, dDiv, dDivU, dMod, dLt, dLe, dGt, dGe, D.isNon, Bool.not_true, Bool.not_false, kONE_eq])
    refine while_rule (I := fun m env b2 => b2 = b' ∧ ∃ k, m + k = many ∧ 1 ≤ k ∧ env = [.v (.tup (ps.map rt)), .v (.int (many : Int)), .v (.tup (ps.map rt)), .own ((ps.take i).map fun p => D.tup (((List.range many).map (pwR p)).map rt)), .v (rt p), .own (((List.range k).map (pwR p)).map rt)]) ?_ (many - 1) _ _ ⟨rfl, 1, by omega, by omega, rfl⟩
    rintro m env b2 K ⟨rfl, k, hk, hk1, rfl⟩ kt kf
    (try simp only [wSeq, wSet, wSetO, wRet, wIfS, wFrz, wApp, wDrop, wNext, wBreak, wCont, wNever, wVar, wVarB, wC, wBin, wUn, wT, wAnd, wOr, wNot, wAndV, wOrV, wNotV, wIte, wNil, wCons, wTup, wCall, wListOf, wC2, wIsT, wIsC, wFld, wON, wOS, wSl, wV, wO, wSetIx, wPar, wSwap, wSeqOf, wRng1, wRng2, wFor, wWhile, wYes, wComp, wEnum, wZip, wEnum2, wRgT, wRgL, wAug, dMulT, dMax, wMake, wFz, wCat, wRep, wipeE, D.ty, wIf_true, wIf_false, List.getElem?_cons_zero, List.getElem?_cons_succ, List.set_cons_zero, List.set_cons_succ, dI0_ii, dI_ii, dNeg_i, dGcd_ii, dAbs_i, dInt_i, dInt_b, dBits_i, dLen_t, dLen_l, dTuple_t, dTuple_l, dAdd_ii, dAdd_tt, dAdd_ll, dAdd_ss, dMul_ii, dMul_li, dIs_n, dIs_b, dIsN_n, dRepr_b, rt_0, rt_1, dEq, dNe, dSub, dDiv, dDivU, dMod, dLt, dLe, dGt, dGe, D.isNon, Bool.not_true, Bool.not_false])
    rw [List.length_map, List.length_map, List.length_range]
    by_cases hlt : k < many
    · rw [decide_eq_true (show (k : Int) < (many : Int) by omega)]
      refine kt _ ⟨m - 1, by omega, fun E2 hn hc2 hb2 hr2 => ?_⟩
      (try simp only [wSeq, wSet, wSetO, wRet, wIfS, wFrz, wApp, wDrop, wNext, wBreak, wCont, wNever, wVar, wVarB, wC, wBin, wUn, wT, wAnd, wOr, wNot, wAndV, wOrV, wNotV, wIte, wNil, wCons, wTup, wCall, wListOf, wC2, wIsT, wIsC, wFld, wON, wOS, wSl, wV, wO, wSetIx, wPar, wSwap, wSeqOf, wRng1, wRng2, wFor, wWhile, wYes, wComp, wEnum, wZip, wEnum2, wRgT, wRgL, wAug, dMulT, dMax, wMake, wFz, wCat, wRep, wipeE, D.ty, wIf_true, wIf_false, List.getElem?_cons_zero, List.getElem?_cons_succ, List.set_cons_zero, List.set_cons_succ, dI0_ii, dI_ii, dNeg_i, dGcd_ii, dAbs_i, dInt_i, dInt_b, dBits_i, dLen_t, dLen_l, dTuple_t, dTuple_l, dAdd_ii, dAdd_tt, dAdd_ll, dAdd_ss, dMul_ii, dMul_li, dIs_n, dIs_b, dIsN_n, dRepr_b, rt_0, rt_1, dEq, dNe, dSub, dDiv, dDivU, dMod, dLt, dLe, dGt, dGe, D.isNon, Bool.not_true, Bool.not_false])
      refine dIx_l1 (n := k - 1) (d := rt (pwR p (k - 1))) (by rw [List.getElem?_map, List.getElem?_map, List.getElem?_range (by omega)]; rfl) (by simp; omega) ?_
      have e1 : pwR p k = pwR p (k - 1) * p := by
        obtain ⟨k', rfl⟩ : ∃ k', k = k' + 1 := ⟨k - 1, by omega⟩
        rfl
      have hgs : (k - 1) * g + 1 ≤ SB := by
        have := Nat.mul_le_mul_right g (show k - 1 ≤ 6 by omega)
        omega
      refine ⟨rfl, _, _, rfl, (pw_hz hgp _).sz hgs, hgp.sz (by omega), trivial, by simp; omega, hn _ _ ⟨rfl, k + 1, by omega, by omega, ?_⟩⟩
      simp [List.range_succ, e1]
    · rw [decide_eq_false (show ¬ (k : Int) < (many : Int) by omega)]
      refine kf _ ?_
      have ek : k = many := by omega
      subst ek
      (try simp only [wSeq, wSet, wSetO, wRet, wIfS, wFrz, wApp, wDrop, wNext, wBreak, wCont, wNever, wVar, wVarB, wC, wBin, wUn, wT, wAnd, wOr, wNot, wAndV, wOrV, wNotV, wIte, wNil, wCons, wTup, wCall, wListOf, wC2, wIsT, wIsC, wFld, wON, wOS, wSl, wV, wO, wSetIx, wPar, wSwap, wSeqOf, wRng1, wRng2, wFor, wWhile, wYes, wComp, wEnum, wZip, wEnum2, wRgT, wRgL, wAug, dMulT, dMax, wMake, wFz, wCat, wRep, wipeE, D.ty, wIf_true, wIf_false, List.getElem?_cons_zero, List.getElem?_cons_succ, List.set_cons_zero, List.set_cons_succ, dI0_ii, dI_ii, dNeg_i, dGcd_ii, dAbs_i, dInt_i, dInt_b, dBits_i, dLen_t, dLen_l, dTuple_t, dTuple_l, dAdd_ii, dAdd_tt, dAdd_ll, dAdd_ss, dMul_ii, dMul_li, dIs_n, dIs_b, dIsN_n, dRepr_b, rt_0, rt_1, dEq, dNe, dSub, dDiv, dDivU, dMod, dLt, dLe, dGt, dGe, D.isNon, Bool.not_true, Bool.not_false])
      refine ⟨by simp; omega, hnx _ _ ⟨rfl, .v (rt p), .own (((List.range k).map (pwR p)).map rt), ?_⟩⟩
      rw [take_next hp, List.map_append]
      rfl
  · rintro env b' ⟨rfl, s4, s5, rfl⟩
    (try simp only [wSeq, wSet, wSetO, wRet, wIfS, wFrz, wApp, wDrop, wNext, wBreak, wCont, wNever, wVar, wVarB, wC, wBin, wUn, wT, wAnd, wOr, wNot, wAndV, wOrV, wNotV, wIte, wNil, wCons, wTup, wCall, wListOf, wC2, wIsT, wIsC, wFld, wON, wOS, wSl, wV, wO, wSetIx, wPar, wSwap, wSeqOf, wRng1, wRng2, wFor, wWhile, wYes, wComp, wEnum, wZip, wEnum2, wRgT, wRgL, wAug, dMulT, dMax, wMake, wFz, wCat, wRep, wipeE, D.ty, wIf_true, wIf_false, List.getElem?_cons_zero, List.getElem?_cons_succ, List.set_cons_zero, List.set_cons_succ, dI0_ii, dI_ii, dNeg_i, dGcd_ii, dAbs_i, dInt_i, dInt_b, dBits_i, dLen_t, dLen_l, dTuple_t, dTuple_l, dAdd_ii, dAdd_tt, dAdd_ll, dAdd_ss, dMul_ii, dMul_li, dIs_n, dIs_b, dIsN_n, dRepr_b, rt_0, rt_1, dEq, dNe, dSub, dDiv, dDivU, dMod, dLt, dLe, dGt, dGe, D.isNon, Bool.not_true, Bool.not_false])
    rw [List.length_map, List.take_length]
    have e : tabD (powT ps many) = .tup (ps.map fun p => D.tup (((List.range many).map (pwR p)).map rt)) := by
      unfold tabD powT
      rw [List.map_map]
      rfl
    rw [← e]
    exact q
theorem eqv_int' (i j : Int) : PyData.eqv (D.int i).py (D.int j).py = decide (i = j) := by
  simp only [D.py, PyData.eqv]
  by_cases z : i = j <;> simp [z]
/-! ### what a law draws and hands on -/
/-- a small ratio that is drawn -/
def SmallR (x : Rat) : Prop := ∃ t k : Int, -4 ≤ t ∧ t ≤ 4 ∧ 1 ≤ k ∧ k ≤ 3 ∧ x = Rat.divInt t k
theorem SmallR.hz {x : Rat} (h : SmallR x) : Hz 3 x := by
  obtain ⟨t, k, h1, h2, h3, h4, rfl⟩ := h
  exact hz_divInt (by omega) (by omega) (by omega)
/-- a ratio, as it is handed on -/
def HandR (d : D) (x : Rat) : Prop := d.fit 8 = true ∧ LooseR d.tupd x
def p__law_ratio : Spec := fun ds b Q => ds = [.pen, .int 4] ∧ 2 ≤ b ∧ ∀ x b', SmallR x → b ≤ b' + 2 → Q (rt x) b'
def p__law_handed : Spec := fun ds b Q => ∃ x, ds = [.pen, rt x] ∧ Sz x ∧ 3 ≤ b ∧ ∀ d b', HandR d x → b ≤ b' + 3 → Q d b'
def p__law_passed : Spec := fun ds b Q => ∃ ys, ds = [.pen, .lst ys] ∧ 1 ≤ b ∧ ∀ d b', (d = .tup ys ∨ d = .lst ys) → b ≤ b' + 1 → Q d b'
def p__law_given_row : Spec := fun ds b Q => ∃ xs : List Rat, ds = [.pen, .tup (xs.map rt)] ∧ xs.length ≤ 1000 ∧ (∀ x ∈ xs, Sz x) ∧ 3 * xs.length + 1 ≤ b ∧ ∀ d b', Passed d xs → b ≤ b' + (3 * xs.length + 1) → Q d b'
/-- _law_ratio: pen, most -/
def W__law_ratio : WS := (wRet (wCall 2 p__law_q (wCons (wBin dSub (wCall 2 p__law_draw (wCons (wVar 0) (wCons (wBin dAdd (wBin dMul (wC (.int 2)) (wVarB 1)) (wC (.int 1))) wNil))) (wVarB 1)) (wCons (wCall 2 p__law_pick (wCons (wVar 0) (wCons (wFz (wCons (wC (.int 1)) (wCons (wC (.int 1)) (wCons (wC (.int 2)) (wCons (wC (.int 3)) wNil))))) wNil))) wNil))))
/-- _law_handed: pen, ratio, by -/
def W__law_handed : WS := (wSeq (wIfS (wAnd (wT (wBin dEq (wBin dIx (wVarB 1) (wC (.int 1))) (wC (.int 1)))) (wT (wBin dEq (wCall 2 p__law_draw (wCons (wVar 0) (wCons (wC (.int 2)) wNil))) (wC (.int 0))))) (wRet (wBin dIx (wVarB 1) (wC (.int 0)))) wNext) (wSeq (wSet 2 (wCall 2 p__law_pick (wCons (wVar 0) (wCons (wFz (wCons (wC (.int 1)) (wCons (wC (.int 1)) (wCons (wC (.int 2)) (wCons (wC (.int 5)) wNil))))) wNil)))) (wRet (wCall 2 p__law_pick (wCons (wVar 0) (wCons (wFz (wCons (wTup (wCons (wBin dMul (wBin dIx (wVarB 1) (wC (.int 0))) (wVarB 2)) (wCons (wBin dMul (wBin dIx (wVarB 1) (wC (.int 1))) (wVarB 2)) wNil))) (wCons (wFz (wCons (wBin dMul (wBin dIx (wVarB 1) (wC (.int 0))) (wVarB 2)) (wCons (wBin dMul (wBin dIx (wVarB 1) (wC (.int 1))) (wVarB 2)) wNil))) wNil))) wNil))))))
/-- _law_passed: pen, row -/
def W__law_passed : WS := (wRet (wCall 2 p__law_pick (wCons (wVar 0) (wCons (wFz (wCons (wUn dTuple (wVarB 1)) (wCons (wFz (wListOf (wVarB 1))) wNil))) wNil))))
/-- _law_given_row: pen, row, item -/
def W__law_given_row : WS := (wRet (wCall 2 p__law_passed (wCons (wVar 0) (wCons (wFz (wComp [2] (.one 2) (wSeqOf (wVar 1)) wYes (wCall 2 p__law_handed (wCons (wVar 0) (wCons (wVar 2) wNil))))) wNil))))
theorem hp__law_ratio : ∀ ds b Q, ds.length = 2 → p__law_ratio ds b Q → W__law_ratio { nx := fun _ b' => Q .non b', rt := Q } (ds.map Slot.v ++ List.replicate 0 .un) b := by
  rintro ds b Q - ⟨rfl, hb, q⟩
  show W__law_ratio _ [.v .pen, .v (.int 4)] b
  (try simp only [wSeq, wSet, wSetO, wRet, wIfS, wFrz, wApp, wDrop, wNext, wBreak, wCont, wNever, wVar, wVarB, wC, wBin, wUn, wT, wAnd, wOr, wNot, wAndV, wOrV, wNotV, wIte, wNil, wCons, wTup, wCall, wListOf, wC2, wIsT, wIsC, wFld, wON, wOS, wSl, wV, wO, wSetIx, wPar, wSwap, wSeqOf, wRng1, wRng2, wFor, wWhile, wYes, wComp, wEnum, wZip, wEnum2, wRgT, wRgL, wAug, dMulT, dMax, wMake, wFz, wCat, wRep, wipeE, D.ty, wIf_true, wIf_false, List.getElem?_cons_zero, List.getElem?_cons_succ, List.set_cons_zero, List.set_cons_succ, dI0_ii, dI_ii, dNeg_i, dGcd_ii, dAbs_i, dInt_i, dInt_b, dBits_i, dLen_t, dLen_l, dTuple_t, dTuple_l, dAdd_ii, dAdd_tt, dAdd_ll, dAdd_ss, dMul_ii, dMul_li, dIs_n, dIs_b, dIsN_n, dRepr_b, rt_0, rt_1, dEq, dNe, dSub, dDiv, dDivU, dMod, dLt, dLe, dGt, dGe, D.isNon, Bool.not_true, Bool.not_false, W__law_ratio])
  refine ⟨cmulW_of (k := 8) (l := 8) (by decide) (by decide) (by decide) (by decide) (by decide), rfl, 9, rfl, by omega, by omega, by omega, fun d hd => ?_⟩
  (try simp only [wSeq, wSet, wSetO, wRet, wIfS, wFrz, wApp, wDrop, wNext, wBreak, wCont, wNever, wVar, wVarB, wC, wBin, wUn, wT, wAnd, wOr, wNot, wAndV, wOrV, wNotV, wIte, wNil, wCons, wTup, wCall, wListOf, wC2, wIsT, wIsC, wFld, wON, wOS, wSl, wV, wO, wSetIx, wPar, wSwap, wSeqOf, wRng1, wRng2, wFor, wWhile, wYes, wComp, wEnum, wZip, wEnum2, wRgT, wRgL, wAug, dMulT, dMax, wMake, wFz, wCat, wRep, wipeE, D.ty, wIf_true, wIf_false, List.getElem?_cons_zero, List.getElem?_cons_succ, List.set_cons_zero, List.set_cons_succ, dI0_ii, dI_ii, dNeg_i, dGcd_ii, dAbs_i, dInt_i, dInt_b, dBits_i, dLen_t, dLen_l, dTuple_t, dTuple_l, dAdd_ii, dAdd_tt, dAdd_ll, dAdd_ss, dMul_ii, dMul_li, dIs_n, dIs_b, dIsN_n, dRepr_b, rt_0, rt_1, dEq, dNe, dSub, dDiv, dDivU, dMod, dLt, dLe, dGt, dGe, D.isNon, Bool.not_true, Bool.not_false])
  refine ⟨rfl, [.int 1, .int 1, .int 2, .int 3], rfl, by simp, by decide, by omega, fun e he => ?_⟩
  have key : ∀ k : Int, 1 ≤ k → k ≤ 3 → e = .int k → wCall 2 p__law_q (fun _ b Q => Q [.int ((d : Int) - 4), e] b) [] (b - 1 - 1) Q := fun k h1 h2 e' => by
    subst e'
    refine ⟨rfl, _, k, rfl, by omega, ?_, ?_, q _ _ ⟨_, k, by omega, by omega, h1, h2, rfl⟩ (by omega)⟩
    · have := log2_lt (n := ((d : Int) - 4).natAbs) (k := 20) (by omega) (by decide)
      omega
    · have := log2_lt (n := k.natAbs) (k := 20) (by omega) (by decide)
      omega
  simp only [List.mem_cons, List.not_mem_nil, or_false] at he
  rcases he with rfl | rfl | rfl | rfl
  · exact key 1 (by omega) (by omega) rfl
  · exact key 1 (by omega) (by omega) rfl
  · exact key 2 (by omega) (by omega) rfl
  · exact key 3 (by omega) (by omega) rfl
theorem hand_int {x : Rat} (h : x.den = 1) : HandR (.int x.num) x := ⟨rfl, .inl ⟨x.num, rfl, Rat.ext (by simp) (by simp [h])⟩⟩
theorem hand_pair {x : Rat} {k : Int} (hk : 1 ≤ k) : LooseR (.tup [.int (x.num * k), .int ((x.den : Int) * k)]) x := .inr ⟨_, _, rfl, Int.mul_pos (den_pos x) (by omega), by
  rw [Rat.divInt_mul_right (by omega)]
  exact (Rat.num_divInt_den x).symm⟩
theorem hp__law_handed : ∀ ds b Q, ds.length = 2 → p__law_handed ds b Q → W__law_handed { nx := fun _ b' => Q .non b', rt := Q } (ds.map Slot.v ++ List.replicate 1 .un) b := by
  rintro ds b Q - ⟨x, rfl, sx, hb, q⟩
  show W__law_handed _ [.v .pen, .v (rt x), .un] b
  -- the pair
  have pair : ∀ b1, b ≤ b1 + 1 → wSeq (wSet 2 (wCall 2 p__law_pick (wCons (wVar 0) (wCons (wFz (wCons (wC (.int 1)) (wCons (wC (.int 1)) (wCons (wC (.int 2)) (wCons (wC (.int 5)) wNil))))) wNil)))) (wRet (wCall 2 p__law_pick (wCons (wVar 0) (wCons (wFz (wCons (wTup (wCons (wBin dMul (wBin dIx (wVarB 1) (wC (.int 0))) (wVarB 2)) (wCons (wBin dMul (wBin dIx (wVarB 1) (wC (.int 1))) (wVarB 2)) wNil))) (wCons (wFz (wCons (wBin dMul (wBin dIx (wVarB 1) (wC (.int 0))) (wVarB 2)) (wCons (wBin dMul (wBin dIx (wVarB 1) (wC (.int 1))) (wVarB 2)) wNil))) wNil))) wNil)))) { nx := fun _ b' => Q .non b', rt := Q } [.v .pen, .v (rt x), .un] b1 := fun b1 hb1 => by
    (try simp only [wSeq, wSet, wSetO, wRet, wIfS, wFrz, wApp, wDrop, wNext, wBreak, wCont, wNever, wVar, wVarB, wC, wBin, wUn, wT, wAnd, wOr, wNot, wAndV, wOrV, wNotV, wIte, wNil, wCons, wTup, wCall, wListOf, wC2, wIsT, wIsC, wFld, wON, wOS, wSl, wV, wO, wSetIx, wPar, wSwap, wSeqOf, wRng1, wRng2, wFor, wWhile, wYes, wComp, wEnum, wZip, wEnum2, wRgT, wRgL, wAug, dMulT, dMax, wMake, wFz, wCat, wRep, wipeE, D.ty, wIf_true, wIf_false, List.getElem?_cons_zero, List.getElem?_cons_succ, List.set_cons_zero, List.set_cons_succ, dI0_ii, dI_ii, dNeg_i, dGcd_ii, dAbs_i, dInt_i, dInt_b, dBits_i, dLen_t, dLen_l, dTuple_t, dTuple_l, dAdd_ii, dAdd_tt, dAdd_ll, dAdd_ss, dMul_ii, dMul_li, dIs_n, dIs_b, dIsN_n, dRepr_b, rt_0, rt_1, dEq, dNe, dSub, dDiv, dDivU, dMod, dLt, dLe, dGt, dGe, D.isNon, Bool.not_true, Bool.not_false])
    refine ⟨rfl, [.int 1, .int 1, .int 2, .int 5], rfl, by simp, by decide, by omega, fun e he => ?_⟩
    have hk : ∃ k : Int, 1 ≤ k ∧ k ≤ 5 ∧ e = .int k := by
      simp only [List.mem_cons, List.not_mem_nil, or_false] at he
      rcases he with rfl | rfl | rfl | rfl
      · exact ⟨1, by omega, by omega, rfl⟩
      · exact ⟨1, by omega, by omega, rfl⟩
      · exact ⟨2, by omega, by omega, rfl⟩
      · exact ⟨5, by omega, by omega, rfl⟩
    obtain ⟨k, k1, k2, rfl⟩ := hk
    (try simp only [wSeq, wSet, wSetO, wRet, wIfS, wFrz, wApp, wDrop, wNext, wBreak, wCont, wNever, wVar, wVarB, wC, wBin, wUn, wT, wAnd, wOr, wNot, wAndV, wOrV, wNotV, wIte, wNil, wCons, wTup, wCall, wListOf, wC2, wIsT, wIsC, wFld, wON, wOS, wSl, wV, wO, wSetIx, wPar, wSwap, wSeqOf, wRng1, wRng2, wFor, wWhile, wYes, wComp, wEnum, wZip, wEnum2, wRgT, wRgL, wAug, dMulT, dMax, wMake, wFz, wCat, wRep, wipeE, D.ty, wIf_true, wIf_false, List.getElem?_cons_zero, List.getElem?_cons_succ, List.set_cons_zero, List.set_cons_succ, dI0_ii, dI_ii, dNeg_i, dGcd_ii, dAbs_i, dInt_i, dInt_b, dBits_i, dLen_t, dLen_l, dTuple_t, dTuple_l, dAdd_ii, dAdd_tt, dAdd_ll, dAdd_ss, dMul_ii, dMul_li, dIs_n, dIs_b, dIsN_n, dRepr_b, rt_0, rt_1, dEq, dNe, dSub, dDiv, dDivU, dMod, dLt, dLe, dGt, dGe, D.isNon, Bool.not_true, Bool.not_false])
    have m1 : CMulW x.num k := cmulW_of (k := SB) (l := 3) sx.n (by omega) (by decide) (by decide) (by decide)
    have m2 : CMulW (x.den : Int) k := cmulW_of (k := SB) (l := 3) (by rw [Int.natAbs_natCast]; exact sx.d) (by omega) (by decide) (by decide) (by decide)
    refine ⟨m1, m2, m1, m2, rfl, [.tup [.int (x.num * k), .int ((x.den : Int) * k)], .lst [.int (x.num * k), .int ((x.den : Int) * k)]], rfl, by simp, by simp, by omega, fun e he => ?_⟩
    have hl := hand_pair (x := x) k1
    simp only [List.mem_cons, List.not_mem_nil, or_false] at he
    rcases he with rfl | rfl
    · exact q _ _ ⟨rfl, hl⟩ (by omega)
    · exact q _ _ ⟨rfl, hl⟩ (by omega)
  (try simp only [wSeq, wSet, wSetO, wRet, wIfS, wFrz, wApp, wDrop, wNext, wBreak, wCont, wNever, wVar, wVarB, wC, wBin, wUn, wT, wAnd, wOr, wNot, wAndV, wOrV, wNotV, wIte, wNil, wCons, wTup, wCall, wListOf, wC2, wIsT, wIsC, wFld, wON, wOS, wSl, wV, wO, wSetIx, wPar, wSwap, wSeqOf, wRng1, wRng2, wFor, wWhile, wYes, wComp, wEnum, wZip, wEnum2, wRgT, wRgL, wAug, dMulT, dMax, wMake, wFz, wCat, wRep, wipeE, D.ty, wIf_true, wIf_false, List.getElem?_cons_zero, List.getElem?_cons_succ, List.set_cons_zero, List.set_cons_succ, dI0_ii, dI_ii, dNeg_i, dGcd_ii, dAbs_i, dInt_i, dInt_b, dBits_i, dLen_t, dLen_l, dTuple_t, dTuple_l, dAdd_ii, dAdd_tt, dAdd_ll, dAdd_ss, dMul_ii, dMul_li, dIs_n, dIs_b, dIsN_n, dRepr_b, rt_0, rt_1, dEq, dNe, dSub, dDiv, dDivU, dMod, dLt, dLe, dGt, dGe, D.isNon, Bool.not_true, Bool.not_false, W__law_handed])
  refine ⟨⟨rfl, rfl⟩, ?_⟩
  rw [eqv_int']
  refine wIf_dec (fun h => ?_) (fun h => ?_)
  · refine ⟨rfl, 2, rfl, by omega, by omega, by omega, fun d hd => ?_⟩
    refine ⟨⟨rfl, rfl⟩, ?_⟩
    rw [eqv_int']
    refine wIf_dec (fun h2 => ?_) (fun h2 => ?_)
    · exact q _ _ (hand_int (by omega)) (by omega)
    · exact pair (b - 1) (by omega)
  · exact pair b (by omega)
theorem hp__law_passed : ∀ ds b Q, ds.length = 2 → p__law_passed ds b Q → W__law_passed { nx := fun _ b' => Q .non b', rt := Q } (ds.map Slot.v ++ List.replicate 0 .un) b := by
  rintro ds b Q - ⟨ys, rfl, hb, q⟩
  show W__law_passed _ [.v .pen, .v (.lst ys)] b
  (try simp only [wSeq, wSet, wSetO, wRet, wIfS, wFrz, wApp, wDrop, wNext, wBreak, wCont, wNever, wVar, wVarB, wC, wBin, wUn, wT, wAnd, wOr, wNot, wAndV, wOrV, wNotV, wIte, wNil, wCons, wTup, wCall, wListOf, wC2, wIsT, wIsC, wFld, wON, wOS, wSl, wV, wO, wSetIx, wPar, wSwap, wSeqOf, wRng1, wRng2, wFor, wWhile, wYes, wComp, wEnum, wZip, wEnum2, wRgT, wRgL, wAug, dMulT, dMax, wMake, wFz, wCat, wRep, wipeE, D.ty, wIf_true, wIf_false, List.getElem?_cons_zero, List.getElem?_cons_succ, List.set_cons_zero, List.set_cons_succ, dI0_ii, dI_ii, dNeg_i, dGcd_ii, dAbs_i, dInt_i, dInt_b, dBits_i, dLen_t, dLen_l, dTuple_t, dTuple_l, dAdd_ii, dAdd_tt, dAdd_ll, dAdd_ss, dMul_ii, dMul_li, dIs_n, dIs_b, dIsN_n, dRepr_b, rt_0, rt_1, dEq, dNe, dSub, dDiv, dDivU, dMod, dLt, dLe, dGt, dGe, D.isNon, Bool.not_true, Bool.not_false, W__law_passed])
  refine ⟨rfl, [.tup ys, .lst ys], rfl, by simp, by simp, hb, fun e he => ?_⟩
  simp only [List.mem_cons, List.not_mem_nil, or_false] at he
  rcases he with rfl | rfl
  · exact q _ _ (.inl rfl) (by omega)
  · exact q _ _ (.inr rfl) (by omega)
theorem hands_row : ∀ {xs : List Rat} {ys : List D}, ys.length = xs.length → (∀ (i : Nat) (x : Rat) (y : D), xs[i]? = some x → ys[i]? = some y → HandR y x) → RowR (D.tupds ys) xs ∧ D.fits 8 ys = true
  | [], [], _, _ => ⟨.nil, rfl⟩
  | x :: xs, y :: ys, hl, h => by
    obtain ⟨r1, r2⟩ := hands_row (xs := xs) (ys := ys) (by simpa using hl) fun i a c ha hc => h (i + 1) a c (by simpa using ha) (by simpa using hc)
    obtain ⟨f1, f2⟩ := h 0 x y rfl rfl
    exact ⟨by rw [D.tupds]; exact .cons f2 r1, by rw [D.fits, f1, r2]; rfl⟩
  | [], _ :: _, hl, _ => by simp at hl
  | _ :: _, [], hl, _ => by simp at hl
theorem hp__law_given_row : ∀ ds b Q, ds.length = 2 → p__law_given_row ds b Q → W__law_given_row { nx := fun _ b' => Q .non b', rt := Q } (ds.map Slot.v ++ List.replicate 1 .un) b := by
  rintro ds b Q - ⟨xs, rfl, hl, hs, hb, q⟩
  show W__law_given_row _ [.v .pen, .v (.tup (xs.map rt)), .un] b
  (try simp only [wSeq, wSet, wSetO, wRet, wIfS, wFrz, wApp, wDrop, wNext, wBreak, wCont, wNever, wVar, wVarB, wC, wBin, wUn, wT, wAnd, wOr, wNot, wAndV, wOrV, wNotV, wIte, wNil, wCons, wTup, wCall, wListOf, wC2, wIsT, wIsC, wFld, wON, wOS, wSl, wV, wO, wSetIx, wPar, wSwap, wSeqOf, wRng1, wRng2, wFor, wWhile, wYes, wComp, wEnum, wZip, wEnum2, wRgT, wRgL, wAug, dMulT, dMax, wMake, wFz, wCat, wRep, wipeE, D.ty, wIf_true, wIf_false, List.getElem?_cons_zero, List.getElem?_cons_succ, List.set_cons_zero, List.set_cons_succ, dI0_ii, dI_ii, dNeg_i, dGcd_ii, dAbs_i, dInt_i, dInt_b, dBits_i, dLen_t, dLen_l, dTuple_t, dTuple_l, dAdd_ii, dAdd_tt, dAdd_ll, dAdd_ss, dMul_ii, dMul_li, dIs_n, dIs_b, dIsN_n, dRepr_b, rt_0, rt_1, dEq, dNe, dSub, dDiv, dDivU, dMod, dLt, dLe, dGt, dGe, D.isNon, Bool.not_true, Bool.not_false, W__law_given_row])
  refine ⟨by first | omega | (simp; omega), cmp_any rt (fun x y => HandR y x) 3 xs b _ (by omega) (fun x hx => ⟨_, rfl, fun b1 K hb1 kk => ?_⟩) fun ys b1 hyl hyp hb1 => ?_⟩
  · (try simp only [wSeq, wSet, wSetO, wRet, wIfS, wFrz, wApp, wDrop, wNext, wBreak, wCont, wNever, wVar, wVarB, wC, wBin, wUn, wT, wAnd, wOr, wNot, wAndV, wOrV, wNotV, wIte, wNil, wCons, wTup, wCall, wListOf, wC2, wIsT, wIsC, wFld, wON, wOS, wSl, wV, wO, wSetIx, wPar, wSwap, wSeqOf, wRng1, wRng2, wFor, wWhile, wYes, wComp, wEnum, wZip, wEnum2, wRgT, wRgL, wAug, dMulT, dMax, wMake, wFz, wCat, wRep, wipeE, D.ty, wIf_true, wIf_false, List.getElem?_cons_zero, List.getElem?_cons_succ, List.set_cons_zero, List.set_cons_succ, dI0_ii, dI_ii, dNeg_i, dGcd_ii, dAbs_i, dInt_i, dInt_b, dBits_i, dLen_t, dLen_l, dTuple_t, dTuple_l, dAdd_ii, dAdd_tt, dAdd_ll, dAdd_ss, dMul_ii, dMul_li, dIs_n, dIs_b, dIsN_n, dRepr_b, rt_0, rt_1, dEq, dNe, dSub, dDiv, dDivU, dMod, dLt, dLe, dGt, dGe, D.isNon, Bool.not_true, Bool.not_false])
    exact ⟨rfl, x, rfl, hs x hx, hb1, fun d b' hd hb' => kk d b' hd hb'⟩
  · obtain ⟨r1, r2⟩ := hands_row hyl hyp
    have few : ys.length < 1000000 := by omega
    refine ⟨rfl, ys, rfl, by omega, fun d b' hd hb' => q d b' ?_ (by omega)⟩
    have tl : (D.tupds ys).length < 1000000 := by rw [r1.len]; omega
    rcases hd with rfl | rfl
    · exact ⟨by simp only [D.fit, Bool.and_eq_true, decide_eq_true_eq]; exact ⟨few, r2⟩, _, by rw [D.tupd], r1, tl⟩
    · exact ⟨by simp only [D.fit, Bool.and_eq_true, decide_eq_true_eq]; exact ⟨few, r2⟩, _, by rw [D.tupd], r1, tl⟩
end En
/-! What is shown is not long. -/
namespace En
open PySem PySem.Spec PyProof.Rows L2
theorem shown_tup (ds : List D) : (D.tup ds).py.shown = tupleText (PyData.shownAll (D.pys ds)) := by simp only [D.py, PyData.shown]
theorem shownAll_eq : ∀ ds : List D, PyData.shownAll (D.pys ds) = ds.map fun d => d.py.shown
  | [] => by simp only [D.pys, PyData.shownAll, List.map_nil]
  | d :: ds => by simp only [D.pys, PyData.shownAll, List.map_cons, shownAll_eq ds]
theorem sum_le {L : Nat} : ∀ (l : List Nat), (∀ x ∈ l, x ≤ L) → l.sum ≤ l.length * L
  | [], _ => by simp
  | x :: l, h => by
    have h1 := h x List.mem_cons_self
    have h2 := sum_le l fun y hy => h y (List.mem_cons_of_mem _ hy)
    rw [List.sum_cons, List.length_cons, Nat.add_mul]
    omega
theorem tup_len {ds : List D} {L : Nat} (h : ∀ d ∈ ds, d.py.shown.length ≤ L) : (D.tup ds).py.shown.length ≤ ds.length * (L + 2) + 3 := by
  rw [shown_tup, shownAll_eq]
  refine Nat.le_trans (tupleText_len_le _) ?_
  rw [List.length_map, List.map_map]
  have := sum_le (L := L) ((ds.map fun d => d.py.shown.length)) fun x hx => by
    obtain ⟨d, hd, rfl⟩ := List.mem_map.mp hx
    exact h d hd
  rw [List.length_map] at this
  have e : ((fun (x : Str) => x.length) ∘ fun (d : D) => d.py.shown) = fun d => d.py.shown.length := rfl
  rw [e, Nat.mul_add]
  omega
theorem int_len {i : Int} (h : i.natAbs < 2 ^ 1900) : (D.int i).py.shown.length ≤ 1901 := by
  have := int_text_length_le (a := i) (k := 1900) (by decide) (log2_lt h (by decide))
  simp only [D.py, PyData.shown]
  rw [PySem.ofString_length]
  exact this
theorem int_show {i : Int} (h : i.natAbs < 2 ^ 1900) : (D.int i).py.showable = true := by
  simp only [D.py, PyData.showable, decide_eq_true_eq]
  have := log2_lt h (by decide)
  omega
theorem rt_len {x : Rat} (h : Hz 1900 x) : (rt x).py.shown.length ≤ 3809 := by
  refine Nat.le_trans (tup_len (L := 1901) fun d hd => ?_) (by simp)
  simp only [List.mem_cons, List.not_mem_nil, or_false] at hd
  rcases hd with rfl | rfl
  · exact int_len h.n
  · exact int_len h.dn
theorem showable_tup {ds : List D} (h : ∀ d ∈ ds, d.py.showable = true) : (D.tup ds).py.showable = true := by
  simp only [D.py, PyData.showable]
  induction ds with
  | nil => simp only [D.pys, PyData.showableAll]
  | cons d ds ih =>
    simp only [D.pys, PyData.showableAll, h d List.mem_cons_self, ih fun e he => h e (List.mem_cons_of_mem _ he), Bool.and_self]
theorem rt_show {x : Rat} (h : Hz 1900 x) : (rt x).py.showable = true := showable_tup fun d hd => by
  simp only [List.mem_cons, List.not_mem_nil, or_false] at hd
  rcases hd with rfl | rfl
  · exact int_show h.n
  · exact int_show h.dn
theorem row_len {xs : List Rat} (h : HzL 1900 xs) (hl : xs.length ≤ 20) : (D.tup (xs.map rt)).py.shown.length ≤ 76223 := by
  refine Nat.le_trans (tup_len (L := 3809) fun d hd => ?_) ?_
  · obtain ⟨x, hx, rfl⟩ := List.mem_map.mp hd
    exact rt_len (h x hx)
  · rw [List.length_map]
    omega
theorem row_show {xs : List Rat} (h : HzL 1900 xs) : (D.tup (xs.map rt)).py.showable = true := showable_tup fun d hd => by
  obtain ⟨x, hx, rfl⟩ := List.mem_map.mp hd
  exact rt_show (h x hx)
theorem shows_row {xs : List Rat} (h : HzL 1900 xs) (hl : xs.length ≤ 20) : Shows (.tup (xs.map rt)) := ⟨flats_rt 18 xs, row_show h, Nat.le_trans (row_len h hl) (by decide)⟩
theorem shows_tab {M : List (List Rat)} (h : ∀ r ∈ M, HzL 1900 r ∧ r.length ≤ 20) (hl : M.length ≤ 20) : Shows (tabD M) := by
  refine ⟨flat_tab 17 M, showable_tup fun d hd => ?_, Nat.le_trans (tup_len (L := 76223) fun d hd => ?_) ?_⟩
  · obtain ⟨r, hr, rfl⟩ := List.mem_map.mp hd
    exact row_show (h r hr).1
  · obtain ⟨r, hr, rfl⟩ := List.mem_map.mp hd
    exact row_len (h r hr).1 (h r hr).2
  · rw [List.length_map]
    have : sizeLine = 16777216 := by decide
    omega
end En
/-! The plain laws of sums of powers. -/
namespace En
theorem sumR_cons (x : Rat) (xs : List Rat) : sumR (x :: xs) = x + sumR xs := by
  have H : ∀ (ys : List Rat) (z : Rat), ys.foldl (· + ·) z = z + ys.foldl (· + ·) 0 := by
    intro ys
    induction ys with
    | nil => intro z; simp [Rat.add_zero]
    | cons y ys ih =>
      intro z
      rw [List.foldl_cons, List.foldl_cons, ih (z + y), ih (0 + y)]
      grind
  unfold sumR
  rw [List.foldl_cons, H xs (0 + x)]
  grind
theorem sumR_nil : sumR [] = 0 := rfl
theorem pwR_add (p : Rat) (a : Nat) : ∀ b, pwR p (a + b) = pwR p a * pwR p b
  | 0 => by simp [pwR, Rat.mul_one]
  | b + 1 => by
    show pwR p (a + b) * p = pwR p a * (pwR p b * p)
    rw [pwR_add p a b]
    grind
theorem pwR_mul (c p : Rat) : ∀ k, pwR (c * p) k = pwR c k * pwR p k
  | 0 => by simp [pwR, Rat.mul_one]
  | k + 1 => by
    show pwR (c * p) k * (c * p) = pwR c k * c * (pwR p k * p)
    rw [pwR_mul c p k]
    grind
/-- weights times powers -/
def wpR (k : Nat) : List Rat → List Rat → List Rat := List.zipWith fun w p => w * pwR p k
theorem here_eq : ∀ (k : Nat) (ws ps : List Rat), ws.length = ps.length → hereR ps ws k = wpR k ws ps := by
  intro k
  induction k with
  | zero =>
    intro ws
    induction ws with
    | nil => intro ps h; simp [hereR, wpR]
    | cons w ws ih =>
      intro ps h
      cases ps with
      | nil => simp at h
      | cons p ps =>
        have := ih ps (by simpa using h)
        simp only [hereR, wpR, List.zipWith_cons_cons, pwR, Rat.mul_one] at this ⊢
        rw [← this]
  | succ k ih =>
    intro ws ps h
    show List.zipWith (· * ·) (hereR ps ws k) ps = _
    rw [ih ws ps h]
    clear ih
    induction ws generalizing ps with
    | nil => simp [wpR]
    | cons w ws ih =>
      cases ps with
      | nil => simp at h
      | cons p ps =>
        have := ih ps (by simpa using h)
        simp only [wpR, List.zipWith_cons_cons, List.cons.injEq] at this ⊢
        refine ⟨?_, this⟩
        show w * pwR p k * p = w * (pwR p k * p)
        grind
theorem powL_get {ps ws : List Rat} {many k : Nat} (hk : k < many) : (powL ps ws many).getD k 0 = sumR (hereR ps ws k) := by
  unfold powL
  rw [List.getD_eq_getElem?_getD, List.getElem?_map, List.getElem?_range hk]
  rfl
/-! ### a sum with one item that is not 0 -/
theorem sum_zero (f : Nat → Rat) : ∀ n, (∀ i, i < n → f i = 0) → sumR ((List.range n).map f) = 0
  | 0, _ => rfl
  | n + 1, h => by
    rw [List.range_succ, List.map_append, List.map_cons, List.map_nil, sumR_snoc, sum_zero f n fun i hi => h i (by omega), h n (by omega), Rat.add_zero]
theorem sum_one (f : Nat → Rat) (k : Nat) : ∀ n, k < n → (∀ i, i < n → i ≠ k → f i = 0) → sumR ((List.range n).map f) = f k
  | 0, h, _ => absurd h (by omega)
  | n + 1, h, hz => by
    rw [List.range_succ, List.map_append, List.map_cons, List.map_nil, sumR_snoc]
    by_cases e : k = n
    · subst e
      rw [sum_zero f k fun i hi => hz i (by omega) (by omega)]
      grind
    · rw [sum_one f k n (by omega) fun i hi => hz i (by omega), hz n (by omega) fun z => e z.symm, Rat.add_zero]
theorem zip_range (u : List Rat) (g : Nat → Rat) : List.zipWith (· * ·) u ((List.range u.length).map g) = (List.range u.length).map fun i => u.getD i 0 * g i := by
  apply List.ext_getElem?
  intro i
  rw [List.getElem?_zipWith, List.getElem?_map, List.getElem?_map]
  by_cases h : i < u.length
  · rw [List.getElem?_range h, List.getElem?_eq_getElem h]
    show some (u[i] * g i) = some (u.getD i 0 * g i)
    rw [List.getD_eq_getElem?_getD, List.getElem?_eq_getElem h]
    rfl
  · rw [List.getElem?_eq_none (l := u) (by omega), List.getElem?_eq_none (l := List.range u.length) (by simp; omega)]
    rfl
/-- a row by the middle -/
theorem dot_diag {u led : List Rat} (h : u.length = led.length) : (trR (diagR led) led.length).map (fun c => dotR u c) = List.zipWith (· * ·) u led := by
  apply List.ext_getElem?
  intro k
  unfold trR
  rw [List.map_map, List.getElem?_map, List.getElem?_zipWith]
  by_cases hk : k < led.length
  · rw [List.getElem?_range hk, List.getElem?_eq_getElem hk, List.getElem?_eq_getElem (by omega : k < u.length)]
    show some (dotR u ((diagR led).map (·.getD k 0))) = some (u[k] * led[k])
    have e : (diagR led).map (·.getD k 0) = (List.range u.length).map fun i => if i = k then led.getD i 0 else 0 := by
      unfold diagR
      rw [List.map_map, h]
      refine List.map_congr_left fun i hi => ?_
      show List.getD _ k 0 = _
      rw [List.getD_eq_getElem?_getD, List.getElem?_map, List.getElem?_range hk]
      rfl
    unfold dotR prodR
    rw [e, zip_range, sum_one _ k _ (by omega) fun i hi ne => by rw [if_neg ne, Rat.mul_zero]]
    rw [if_pos rfl, List.getD_eq_getElem?_getD, List.getD_eq_getElem?_getD, List.getElem?_eq_getElem hk, List.getElem?_eq_getElem (by omega : k < u.length)]
    rfl
  · rw [List.getElem?_eq_none (by simpa using hk), List.getElem?_eq_none (by omega)]
    rfl
theorem tr_pow {ps : List Rat} {size : Nat} : trR (powT ps size) size = (List.range size).map fun a => ps.map fun p => pwR p a := by
  unfold trR powT
  refine List.map_congr_left fun a ha => ?_
  rw [List.map_map]
  refine List.map_congr_left fun p hp => ?_
  show List.getD _ a 0 = _
  rw [List.getD_eq_getElem?_getD, List.getElem?_map, List.getElem?_range (List.mem_range.mp ha)]
  rfl
def ledR (ps ws : List Rat) (start : Nat) : List Rat := if start = 1 then List.zipWith (· * ·) ws ps else ws
theorem led_len {ps ws : List Rat} (h : ws.length = ps.length) (s : Nat) : (ledR ps ws s).length = ps.length := by
  unfold ledR
  split
  · simp [h]
  · exact h
theorem led_eq {ps ws : List Rat} {s : Nat} (hs : s ≤ 1) (h : ws.length = ps.length) : ledR ps ws s = wpR s ws ps := by
  rw [← here_eq s ws ps h]
  unfold ledR
  have : s = 0 ∨ s = 1 := by omega
  rcases this with rfl | rfl
  · rfl
  · rfl
theorem mid_eq (a b s : Nat) : ∀ (ws ps : List Rat), ws.length = ps.length → List.zipWith (· * ·) (List.zipWith (· * ·) (ps.map fun p => pwR p a) (wpR s ws ps)) (ps.map fun p => pwR p b) = wpR (a + b + s) ws ps := by
  intro ws
  induction ws with
  | nil => intro ps h; cases ps <;> simp [wpR] at h ⊢
  | cons w ws ih =>
    intro ps h
    cases ps with
    | nil => simp at h
    | cons p ps =>
      have := ih ps (by simpa using h)
      simp only [wpR, List.zipWith_cons_cons, List.map_cons, List.cons.injEq] at this ⊢
      refine ⟨?_, this⟩
      rw [pwR_add, pwR_add]
      grind
/-- the table of sums is a product of powers, weights and powers -/
theorem vander {ps ws : List Rat} {many size s : Nat} (h : ws.length = ps.length) (hs : s ≤ 1) (hm : 2 * size + s ≤ many + 1) :
    mulT (mulT (trR (powT ps size) size) (diagR (ledR ps ws s)) ps.length) (powT ps size) size = hankR (powL ps ws many) size s := by
  unfold mulT hankR
  rw [tr_pow, List.map_map, List.map_map]
  refine List.map_congr_left fun a ha => ?_
  have ha' := List.mem_range.mp ha
  show ((List.range size).map fun b => ps.map fun p => pwR p b).map (fun c => dotR ((trR (diagR (ledR ps ws s)) ps.length).map fun c => dotR (ps.map fun p => pwR p a) c) c) = _
  have ll := led_len h s
  have e : (trR (diagR (ledR ps ws s)) ps.length).map (fun c => dotR (ps.map fun p => pwR p a) c) = List.zipWith (· * ·) (ps.map fun p => pwR p a) (ledR ps ws s) := by
    rw [← ll]
    exact dot_diag (by simp [ll])
  rw [e, List.map_map]
  refine List.map_congr_left fun b hb => ?_
  have hb' := List.mem_range.mp hb
  show dotR _ (ps.map fun p => pwR p b) = _
  rw [powL_get (by omega), here_eq _ _ _ h, led_eq hs h]
  unfold dotR prodR
  rw [mid_eq a b s ws ps h]
/-! ### moved by a ratio; put together -/
theorem sum_scale (c : Rat) : ∀ xs : List Rat, sumR (xs.map (c * ·)) = c * sumR xs
  | [] => by rw [List.map_nil, sumR_nil, Rat.mul_zero]
  | x :: xs => by
    rw [List.map_cons, sumR_cons, sumR_cons, sum_scale c xs]
    grind
theorem moved_sum (c : Rat) {ps ws : List Rat} (h : ws.length = ps.length) (k : Nat) : sumR (hereR (ps.map (c * ·)) ws k) = pwR c k * sumR (hereR ps ws k) := by
  rw [here_eq k ws _ (by simpa using h), here_eq k ws ps h, ← sum_scale]
  congr 1
  clear h
  induction ws generalizing ps with
  | nil => simp [wpR]
  | cons w ws ih =>
    cases ps with
    | nil => simp [wpR]
    | cons p ps =>
      have := ih (ps := ps)
      simp only [wpR, List.map_cons, List.zipWith_cons_cons, List.cons.injEq] at this ⊢
      refine ⟨?_, this⟩
      rw [pwR_mul]
      grind
theorem sum_app : ∀ xs ys : List Rat, sumR (xs ++ ys) = sumR xs + sumR ys
  | [], ys => by rw [List.nil_append, sumR_nil]; grind
  | x :: xs, ys => by
    rw [List.cons_append, sumR_cons, sumR_cons, sum_app xs ys]
    grind
theorem put_sum {ps ws : List Rat} (h : ws.length = ps.length) (c k : Nat) : sumR (hereR (ps.take c) (ws.take c) k) + sumR (hereR (ps.drop c) (ws.drop c) k) = sumR (hereR ps ws k) := by
  rw [here_eq k _ _ (by simp [h]), here_eq k _ _ (by simp [h]), here_eq k ws ps h, ← sum_app]
  congr 1
  unfold wpR
  rw [← List.take_zipWith, ← List.drop_zipWith, List.take_append_drop]
end En
/-! The case of k78. -/
namespace En
open PySem PySem.Spec PyProof.Rows L2
def p__law_case78 : Spec := fun ds b Q => ds = [.pen] ∧ 100 ≤ b ∧ ∀ b', b ≤ b' + 100 → Q (.bl true) b'
theorem choose_rts {P : Rat → Prop} : ∀ {ys : List D}, (∀ y ∈ ys, ∃ x, P x ∧ y = rt x) → ∃ xs : List Rat, ys = xs.map rt ∧ ∀ x ∈ xs, P x
  | [], _ => ⟨[], rfl, fun x h => by cases h⟩
  | y :: ys, h => by
    obtain ⟨x, hx, rfl⟩ := h y List.mem_cons_self
    obtain ⟨xs, rfl, hxs⟩ := choose_rts (ys := ys) fun z hz => h z (List.mem_cons_of_mem _ hz)
    refine ⟨x :: xs, rfl, fun z hz => ?_⟩
    rcases List.mem_cons.mp hz with rfl | hz
    · exact hx
    · exact hxs z hz
theorem mem_get {ys : List D} {y : D} (h : y ∈ ys) : ∃ i : Nat, ys[i]? = some y := by
  obtain ⟨i, hi, e⟩ := List.getElem_of_mem h
  exact ⟨i, by rw [List.getElem?_eq_getElem hi, e]⟩
/-- a row of small ratios is drawn -/
theorem draw_row {We : WE} {i : Nat} {env0 : Env} {n b : Nat} {Q : List D → Nat → Prop} (hn : n ≤ 100) (hb : 2 * n ≤ b) (h : ∀ d : D, ∃ env1, setTg (.one i) d env0 = some env1 ∧ ∀ (b : Nat) (K : D → Nat → Prop), 2 ≤ b → (∀ x b', SmallR x → b ≤ b' + 2 → K (rt x) b') → We env1 b K)
    (q : ∀ (xs : List Rat) b', xs.length = n → (∀ x ∈ xs, SmallR x) → b ≤ b' + 2 * n → Q (xs.map rt) b') : cmpL (.one i) wYes We env0 ((List.range n).map fun (j : Nat) => D.int (j : Int)) b Q := by
  refine cmp_any (fun (j : Nat) => D.int (j : Int)) (fun _ y => ∃ x, SmallR x ∧ y = rt x) 2 (List.range n) b _ (by simpa using hb) (fun j hj => ?_) fun ys b1 hyl hyp hb1 => ?_
  · obtain ⟨env1, h1, h2⟩ := h (.int (j : Int))
    exact ⟨env1, h1, fun b K hb k => h2 b K hb fun x b' hx hb' => k _ b' ⟨x, hx, rfl⟩ hb'⟩
  · obtain ⟨xs, rfl, hxs⟩ := choose_rts (P := SmallR) (ys := ys) fun y hy => by
      obtain ⟨k, hk⟩ := mem_get hy
      have hl := (List.getElem?_eq_some_iff.mp hk).1
      exact hyp k k y (List.getElem?_range (by simpa [hyl] using hl)) hk
    exact q xs b1 (by simpa using hyl) hxs (by simpa using hb1)
theorem small_hz {xs : List Rat} (h : ∀ x ∈ xs, SmallR x) : HzL 3 xs := fun x hx => (h x hx).hz
theorem pwOk_small {ps ws : List Rat} {many h g : Nat} (hl : ws.length = ps.length) (h5 : ps.length ≤ 6) (hm : many ≤ 12) (hw : HzL (h + 1) ws) (hp : HzL g ps) (hh : h ≤ 50) (hg : g ≤ 50) : PwOk ps ws many := by
  refine ⟨hl, by omega, by omega, h, g, hw, hp, ?_⟩
  have h1 : many * g ≤ 12 * 50 := Nat.mul_le_mul hm hg
  have h2 : (ps.length + 1) * (h + many * g + 2) ≤ 7 * 652 := Nat.mul_le_mul (by omega) (by omega)
  have : SB = 499000 := rfl
  omega
theorem powL_hz {ps ws : List Rat} {many h g : Nat} (hl : ws.length = ps.length) (h5 : ps.length ≤ 6) (hm : many ≤ 12) (hw : HzL (h + 1) ws) (hp : HzL g ps) (hh : h ≤ 10) (hg : g ≤ 10) : HzL 900 (powL ps ws many) := fun x hx => by
  obtain ⟨k, hk, rfl⟩ := List.mem_map.mp hx
  have hk' := List.mem_range.mp hk
  refine (sum_hz _ _ (Nat.le_refl _) (here_hz hw hp k)).mono ?_
  rw [here_len hl]
  have h1 : k * g ≤ 12 * 10 := Nat.mul_le_mul (by omega) hg
  have h2 : ps.length * (h + k * g + 2) ≤ 6 * 132 := Nat.mul_le_mul (by omega) (by omega)
  omega
theorem powL_len {ps ws : List Rat} {many : Nat} : (powL ps ws many).length = many := by simp [powL]
theorem flats_ints (n : Nat) : ∀ l : List Nat, D.flats n (l.map fun (i : Nat) => D.int (i : Int)) = true
  | [] => rfl
  | x :: l => by
    simp only [List.map_cons, D.flats, flats_ints n l, Bool.and_true]
    cases n <;> rfl
theorem eqv_tab_refl (M : List (List Rat)) : PyData.eqv (tabD M).py (tabD M).py = true := by
  unfold tabD
  simp only [D.py, PyData.eqv]
  induction M with
  | nil => rfl
  | cons r M ih =>
    simp only [List.map_cons, D.pys, PyData.eqvAll, ih, Bool.and_true]
    have := eqv_rows r r
    rw [decide_eq_true rfl] at this
    exact this
theorem pow_rect {ps : List Rat} {s : Nat} (h1 : 1 ≤ ps.length) (h2 : ps.length ≤ 6) (hs : s ≤ 6) : Rect s (powT ps s) := ⟨fun z => by
  have : (powT ps s).length = 0 := by rw [z]; rfl
  rw [powT, List.length_map] at this
  omega, by simp [powT]; omega, by omega, fun r hr => by
  obtain ⟨p, hp, rfl⟩ := List.mem_map.mp hr
  simp⟩
theorem trpow_rect {ps : List Rat} {s : Nat} (h1 : 1 ≤ s) (h2 : ps.length ≤ 6) (hs : s ≤ 6) : Rect ps.length (trR (powT ps s) s) := by
  rw [tr_pow]
  refine ⟨fun z => ?_, by simp; omega, by omega, fun r hr => ?_⟩
  · have := congrArg List.length z
    simp at this
    omega
  · obtain ⟨a, ha, rfl⟩ := List.mem_map.mp hr
    simp
theorem diag_rect {xs : List Rat} (h1 : 1 ≤ xs.length) (h2 : xs.length ≤ 6) : Rect xs.length (diagR xs) := ⟨fun z => by
  have : (diagR xs).length = 0 := by rw [z]; rfl
  rw [diagR, List.length_map, List.length_range] at this
  omega, by simp [diagR]; omega, by omega, fun r hr => by
  obtain ⟨p, hp, rfl⟩ := List.mem_map.mp hr
  simp⟩
theorem mul_rect {A B : List (List Rat)} {n m : Nat} (R : Rect n A) (hm : m ≤ 1000) : Rect m (mulT A B m) := ⟨fun z => R.ne (by simpa [mulT] using z), by simp [mulT]; exact R.few, hm, fun r hr => by
  obtain ⟨p, hp, rfl⟩ := List.mem_map.mp hr
  simp [trR]⟩
theorem trpow_hz {ps : List Rat} {s : Nat} (hp : HzL 3 ps) (hs : s ≤ 6) : ∀ r ∈ trR (powT ps s) s, HzL 20 r ∧ r.length = ps.length := fun r hr => by
  rw [tr_pow] at hr
  obtain ⟨a, ha, rfl⟩ := List.mem_map.mp hr
  have ha' := List.mem_range.mp ha
  refine ⟨fun x hx => ?_, by simp⟩
  obtain ⟨p, hp', rfl⟩ := List.mem_map.mp hx
  exact (pw_hz (hp p hp') a).mono (by omega)
theorem trdiag_hz {xs : List Rat} (hx : HzL 10 xs) : ∀ c ∈ trR (diagR xs) xs.length, HzL 10 c ∧ c.length = xs.length := fun c hc => by
  obtain ⟨k, hk, rfl⟩ := List.mem_map.mp hc
  refine ⟨fun x h => ?_, by simp [diagR]⟩
  obtain ⟨r, hr, rfl⟩ := List.mem_map.mp h
  obtain ⟨i, hi, rfl⟩ := List.mem_map.mp hr
  rw [List.getD_eq_getElem?_getD, List.getElem?_map, List.getElem?_range (List.mem_range.mp hk)]
  show Hz 10 (if i = k then xs.getD i 0 else 0)
  split
  · exact HzL.get (k := 9) hx i
  · exact hz_0 9
theorem dotOk_of {xs ys : List Rat} (hl : xs.length = ys.length) (h6 : xs.length ≤ 6) (hx : HzL 500 xs) (hy : HzL 500 ys) : DotOk xs ys := ⟨hl, by omega, 499, 499, hx, hy, by
  have := Nat.mul_le_mul_right (499 + 499 + 3) (show xs.length + 1 ≤ 7 by omega)
  have : SB = 499000 := rfl
  omega⟩
theorem mul_hz {A : List (List Rat)} {xs : List Rat} (h6 : xs.length ≤ 6) (hx : HzL 10 xs) (hA : ∀ r ∈ A, HzL 20 r ∧ r.length = xs.length) : ∀ r ∈ mulT A (diagR xs) xs.length, HzL 500 r ∧ r.length = xs.length := fun r hr => by
  obtain ⟨u, hu, rfl⟩ := List.mem_map.mp hr
  refine ⟨fun x h => ?_, by simp [trR]⟩
  obtain ⟨c, hc, rfl⟩ := List.mem_map.mp h
  obtain ⟨c1, c2⟩ := trdiag_hz hx c hc
  obtain ⟨a1, a2⟩ := hA u hu
  have hp := dot_hz (a := 19) (b := 9) a1 c1
  refine (sum_hz (h := 29) _ (prodR u c) (Nat.le_refl _) hp).mono ?_
  rw [prod_len (by omega), a2]
  have := Nat.mul_le_mul_right (29 + 2) h6
  omega
/-- _law_case: pen, few, points, weights, many, row, start, sizes, size, table, led, powers, by, far, here, k, cut, one, two, a, b, item -/
def W__law_case : WS := (wSeq (wSet 1 (wBin dAdd (wC (.int 1)) (wCall 2 p__law_draw (wCons (wVar 0) (wCons (wC (.int 5)) wNil))))) (wSeq (wPar 2 3 (wV (wUn dTuple (wFz (wComp [15] (.one 15) (wRng1 (wCons (wVar 1) wNil)) wYes (wCall 2 p__law_ratio (wCons (wVar 0) (wCons (wC (.int 4)) wNil))))))) (wV (wUn dTuple (wFz (wComp [15] (.one 15) (wRng1 (wCons (wVar 1) wNil)) wYes (wCall 2 p__law_ratio (wCons (wVar 0) (wCons (wC (.int 4)) wNil)))))))) (wSeq (wSet 4 (wBin dAdd (wC (.int 1)) (wCall 2 p__law_draw (wCons (wVar 0) (wCons (wC (.int 12)) wNil))))) (wSeq (wSet 5 (wCall 3 p_power_sums (wCons (wCall 2 p__law_given_row (wCons (wVar 0) (wCons (wVar 2) wNil))) (wCons (wCall 2 p__law_given_row (wCons (wVar 0) (wCons (wVar 3) wNil))) (wCons (wVar 4) wNil))))) (wSeq (wIfS (wT (wBin dNeS (wUn dRepG (wVarB 5)) (wUn dRepG (wCall 3 p__law_power_row (wCons (wVar 2) (wCons (wVar 3) (wCons (wVar 4) wNil))))))) (wRet (wC (.bl false))) wNext) (wSeq (wSet 6 (wCall 2 p__law_draw (wCons (wVar 0) (wCons (wC (.int 2)) wNil)))) (wSeq (wSetO 7 (wComp [8] (.one 8) (wRng2 (wCons (wC (.int 1)) (wCons (wC (.int 7)) wNil))) (wT (wBin dLe (wBin dAdd (wBin dSub (wBin dMul (wC (.int 2)) (wVarB 8)) (wC (.int 1))) (wVarB 6)) (wVarB 4))) (wVar 8))) (wFrz 7 (wSeq (wIfS (wT (wBin dNe (wVarB 7) (wFz wNil))) (wSeq (wSet 8 (wCall 2 p__law_pick (wCons (wVar 0) (wCons (wVar 7) wNil)))) (wSeq (wSet 9 (wCall 3 p_hankel (wCons (wCall 2 p__law_given_row (wCons (wVar 0) (wCons (wVar 5) wNil))) (wCons (wVar 8) (wCons (wVar 6) wNil))))) (wSeq (wIfS (wT (wBin dNeS (wUn dRepG (wVarB 9)) (wUn dRepG (wCall 3 p__law_square_of (wCons (wVar 5) (wCons (wVar 8) (wCons (wVar 6) wNil))))))) (wRet (wC (.bl false))) wNext) (wSeq (wSet 10 (wIte (wT (wBin dEq (wVarB 6) (wC (.int 1)))) (wUn dTuple (wFz (wComp [19, 20] (.tup [19, 20]) (wZip (wCons (wVar 3) (wCons (wVar 2) wNil))) wYes (wCall 2 p__law_times (wCons (wVar 19) (wCons (wVar 20) wNil)))))) (wVar 3))) (wSeq (wSet 11 (wCall 2 p_power_table (wCons (wVar 2) (wCons (wVar 8) wNil)))) (wIfS (wT (wBin dNe (wCall 2 p_product (wCons (wCall 2 p_product (wCons (wCall 1 p_turned (wCons (wVar 11) wNil)) (wCons (wCall 1 p_diagonal_table (wCons (wVar 10) wNil)) wNil))) (wCons (wVar 11) wNil))) (wVarB 9))) (wRet (wC (.bl false))) wNext)))))) wNext) (wSeq (wSet 12 (wCall 2 p__law_pick (wCons (wVar 0) (wCons (wFz (wCons (wTup (wCons (wC (.int 2)) (wCons (wC (.int 1)) wNil))) (wCons (wTup (wCons (wUn dNeg (wC (.int 1))) (wCons (wC (.int 1)) wNil))) (wCons (wTup (wCons (wC (.int 1)) (wCons (wC (.int 2)) wNil))) wNil)))) wNil)))) (wSeq (wSet 13 (wCall 3 p_power_sums (wCons (wUn dTuple (wFz (wComp [21] (.one 21) (wSeqOf (wVar 2)) wYes (wCall 2 p__law_times (wCons (wVar 12) (wCons (wVar 21) wNil)))))) (wCons (wVar 3) (wCons (wVar 4) wNil))))) (wSeq (wSet 14 (wTup (wCons (wC (.int 1)) (wCons (wC (.int 1)) wNil)))) (wSeq (wFor (.one 15) (wRng1 (wCons (wVar 4) wNil)) (wSeq (wIfS (wT (wBin dNe (wBin dIx (wVarB 13) (wVarB 15)) (wCall 2 p__law_times (wCons (wVar 14) (wCons (wBin dIx (wVarB 5) (wVarB 15)) wNil))))) (wRet (wC (.bl false))) wNext) (wSet 14 (wCall 2 p__law_times (wCons (wVar 14) (wCons (wVar 12) wNil)))))) (wSeq (wSet 16 (wBin dAdd (wC (.int 1)) (wCall 2 p__law_draw (wCons (wVar 0) (wCons (wVar 1) wNil))))) (wSeq (wIfS (wT (wBin dLt (wVarB 16) (wVarB 1))) (wSeq (wPar 17 18 (wV (wCall 3 p_power_sums (wCons (wSl (wVarB 2) wON (wOS (wVar 16))) (wCons (wSl (wVarB 3) wON (wOS (wVar 16))) (wCons (wVar 4) wNil))))) (wV (wCall 3 p_power_sums (wCons (wSl (wVarB 2) (wOS (wVar 16)) wON) (wCons (wSl (wVarB 3) (wOS (wVar 16)) wON) (wCons (wVar 4) wNil)))))) (wRet (wBin dEq (wUn dTuple (wFz (wComp [19, 20] (.tup [19, 20]) (wZip (wCons (wVar 17) (wCons (wVar 18) wNil))) wYes (wCall 2 p__law_plus (wCons (wVar 19) (wCons (wVar 20) wNil)))))) (wVarB 5)))) wNext) (wRet (wC (.bl true))))))))))))))))))
def W_tail78 : WS := (wSeq (wSet 12 (wCall 2 p__law_pick (wCons (wVar 0) (wCons (wFz (wCons (wTup (wCons (wC (.int 2)) (wCons (wC (.int 1)) wNil))) (wCons (wTup (wCons (wUn dNeg (wC (.int 1))) (wCons (wC (.int 1)) wNil))) (wCons (wTup (wCons (wC (.int 1)) (wCons (wC (.int 2)) wNil))) wNil)))) wNil)))) (wSeq (wSet 13 (wCall 3 p_power_sums (wCons (wUn dTuple (wFz (wComp [21] (.one 21) (wSeqOf (wVar 2)) wYes (wCall 2 p__law_times (wCons (wVar 12) (wCons (wVar 21) wNil)))))) (wCons (wVar 3) (wCons (wVar 4) wNil))))) (wSeq (wSet 14 (wTup (wCons (wC (.int 1)) (wCons (wC (.int 1)) wNil)))) (wSeq (wFor (.one 15) (wRng1 (wCons (wVar 4) wNil)) (wSeq (wIfS (wT (wBin dNe (wBin dIx (wVarB 13) (wVarB 15)) (wCall 2 p__law_times (wCons (wVar 14) (wCons (wBin dIx (wVarB 5) (wVarB 15)) wNil))))) (wRet (wC (.bl false))) wNext) (wSet 14 (wCall 2 p__law_times (wCons (wVar 14) (wCons (wVar 12) wNil)))))) (wSeq (wSet 16 (wBin dAdd (wC (.int 1)) (wCall 2 p__law_draw (wCons (wVar 0) (wCons (wVar 1) wNil))))) (wSeq (wIfS (wT (wBin dLt (wVarB 16) (wVarB 1))) (wSeq (wPar 17 18 (wV (wCall 3 p_power_sums (wCons (wSl (wVarB 2) wON (wOS (wVar 16))) (wCons (wSl (wVarB 3) wON (wOS (wVar 16))) (wCons (wVar 4) wNil))))) (wV (wCall 3 p_power_sums (wCons (wSl (wVarB 2) (wOS (wVar 16)) wON) (wCons (wSl (wVarB 3) (wOS (wVar 16)) wON) (wCons (wVar 4) wNil)))))) (wRet (wBin dEq (wUn dTuple (wFz (wComp [19, 20] (.tup [19, 20]) (wZip (wCons (wVar 17) (wCons (wVar 18) wNil))) wYes (wCall 2 p__law_plus (wCons (wVar 19) (wCons (wVar 20) wNil)))))) (wVarB 5)))) wNext) (wRet (wC (.bl true)))))))))
/-- from the factor on -/
theorem tail78 {Q : D → Nat → Prop} {n many b b0 : Nat} {ps ws row : List Rat} {s6 s7 s8 s9 s10 s11 : Slot} (hpl : ps.length = n) (hwl : ws.length = n) (hn1 : 1 ≤ n) (hn : n ≤ 5) (hm1 : 1 ≤ many) (hm : many ≤ 12) (zp : HzL 3 ps) (zw : HzL 3 ws) (hrow : powL ps ws many = row) (hb : b0 ≤ b + 98) (hb2 : 2 ≤ b) (q : ∀ b', b0 ≤ b' + 100 → Q (.bl true) b') :
    W_tail78 { nx := fun _ b' => Q .non b', rt := Q } [.v .pen, .v (.int (n : Int)), .v (.tup (ps.map rt)), .v (.tup (ws.map rt)), .v (.int (many : Int)), .v (.tup (row.map rt)), s6, s7, s8, s9, s10, s11, .un, .un, .un, .un, .un, .un, .un, .un, .un, .un] b := by
  have hl : ws.length = ps.length := by omega
  subst hrow
  have hrl : (powL ps ws many).length = many := powL_len
  (try simp only [wSeq, wSet, wSetO, wRet, wIfS, wFrz, wApp, wDrop, wNext, wBreak, wCont, wNever, wVar, wVarB, wC, wBin, wUn, wT, wAnd, wOr, wNot, wAndV, wOrV, wNotV, wIte, wNil, wCons, wTup, wCall, wListOf, wC2, wIsT, wIsC, wFld, wON, wOS, wSl, wV, wO, wSetIx, wPar, wSwap, wSeqOf, wRng1, wRng2, wFor, wWhile, wYes, wComp, wEnum, wZip, wEnum2, wRgT, wRgL, wAug, dMulT, dMax, wMake, wFz, wCat, wRep, wipeE, D.ty, wIf_true, wIf_false, List.getElem?_cons_zero, List.getElem?_cons_succ, List.set_cons_zero, List.set_cons_succ, dI0_ii, dI_ii, dNeg_i, dGcd_ii, dAbs_i, dInt_i, dInt_b, dBits_i, dLen_t, dLen_l, dTuple_t, dTuple_l, dAdd_ii, dAdd_tt, dAdd_ll, dAdd_ss, dMul_ii, dMul_li, dIs_n, dIs_b, dIsN_n, dRepr_b, rt_0, rt_1, dEq, dNe, dSub, dDiv, dDivU, dMod, dLt, dLe, dGt, dGe, D.isNon, Bool.not_true, Bool.not_false, W_tail78])
  refine ⟨rfl, [.tup [.int 2, .int 1], .tup [.int (-1), .int 1], .tup [.int 1, .int 2]], rfl, by simp, by simp, by omega, fun e he => ?_⟩
  obtain ⟨c, hc, rfl⟩ : ∃ c : Rat, Hz 2 c ∧ e = rt c := by
    simp only [List.mem_cons, List.not_mem_nil, or_false] at he
    rcases he with rfl | rfl | rfl
    · exact ⟨2, ⟨by decide, by decide⟩, rfl⟩
    · exact ⟨-1, ⟨by decide, by decide⟩, rfl⟩
    · exact ⟨1 / 2, ⟨by decide +kernel, by decide +kernel⟩, by show _ = D.tup [.int (1 / 2 : Rat).num, .int ((1 / 2 : Rat).den : Int)]; rw [show (1 / 2 : Rat).num = 1 by decide +kernel, show (1 / 2 : Rat).den = 2 by decide +kernel]; rfl⟩
  clear he
  have zcp : HzL 5 (ps.map (c * ·)) := fun x hx => by
    obtain ⟨p, hp, rfl⟩ := List.mem_map.mp hx
    exact (hc.mul (zp p hp)).mono (by decide)
  refine ⟨by first | omega | (simp; omega), cmp_at rt (fun p => rt (c * p)) _ _ (fun p hp => ⟨_, rfl, fun K kk => ?_⟩) ?_⟩
  · (try simp only [wSeq, wSet, wSetO, wRet, wIfS, wFrz, wApp, wDrop, wNext, wBreak, wCont, wNever, wVar, wVarB, wC, wBin, wUn, wT, wAnd, wOr, wNot, wAndV, wOrV, wNotV, wIte, wNil, wCons, wTup, wCall, wListOf, wC2, wIsT, wIsC, wFld, wON, wOS, wSl, wV, wO, wSetIx, wPar, wSwap, wSeqOf, wRng1, wRng2, wFor, wWhile, wYes, wComp, wEnum, wZip, wEnum2, wRgT, wRgL, wAug, dMulT, dMax, wMake, wFz, wCat, wRep, wipeE, D.ty, wIf_true, wIf_false, List.getElem?_cons_zero, List.getElem?_cons_succ, List.set_cons_zero, List.set_cons_succ, dI0_ii, dI_ii, dNeg_i, dGcd_ii, dAbs_i, dInt_i, dInt_b, dBits_i, dLen_t, dLen_l, dTuple_t, dTuple_l, dAdd_ii, dAdd_tt, dAdd_ll, dAdd_ss, dMul_ii, dMul_li, dIs_n, dIs_b, dIsN_n, dRepr_b, rt_0, rt_1, dEq, dNe, dSub, dDiv, dDivU, dMod, dLt, dLe, dGt, dGe, D.isNon, Bool.not_true, Bool.not_false])
    exact ⟨rfl, c, p, rfl, hc.sz (by decide), (zp p hp).sz (by decide), trivial, kk⟩
  · (try simp only [wSeq, wSet, wSetO, wRet, wIfS, wFrz, wApp, wDrop, wNext, wBreak, wCont, wNever, wVar, wVarB, wC, wBin, wUn, wT, wAnd, wOr, wNot, wAndV, wOrV, wNotV, wIte, wNil, wCons, wTup, wCall, wListOf, wC2, wIsT, wIsC, wFld, wON, wOS, wSl, wV, wO, wSetIx, wPar, wSwap, wSeqOf, wRng1, wRng2, wFor, wWhile, wYes, wComp, wEnum, wZip, wEnum2, wRgT, wRgL, wAug, dMulT, dMax, wMake, wFz, wCat, wRep, wipeE, D.ty, wIf_true, wIf_false, List.getElem?_cons_zero, List.getElem?_cons_succ, List.set_cons_zero, List.set_cons_succ, dI0_ii, dI_ii, dNeg_i, dGcd_ii, dAbs_i, dInt_i, dInt_b, dBits_i, dLen_t, dLen_l, dTuple_t, dTuple_l, dAdd_ii, dAdd_tt, dAdd_ll, dAdd_ss, dMul_ii, dMul_li, dIs_n, dIs_b, dIsN_n, dRepr_b, rt_0, rt_1, dEq, dNe, dSub, dDiv, dDivU, dMod, dLt, dLe, dGt, dGe, D.isNon, Bool.not_true, Bool.not_false])
    rw [show ps.map (fun p => rt (c * p)) = (ps.map (c * ·)).map rt by rw [List.map_map]; rfl]
    refine ⟨rfl, _, _, ps.map (c * ·), ws, many, rfl, passed_rt _ (by simp; omega), passed_rt _ (by omega), by simp; omega, by simp; omega, hm1, hm, pwOk_small (h := 2) (g := 5) (by simp [hl]) (by simp; omega) hm zw zcp (by decide) (by decide), ?_⟩
    (try simp only [wSeq, wSet, wSetO, wRet, wIfS, wFrz, wApp, wDrop, wNext, wBreak, wCont, wNever, wVar, wVarB, wC, wBin, wUn, wT, wAnd, wOr, wNot, wAndV, wOrV, wNotV, wIte, wNil, wCons, wTup, wCall, wListOf, wC2, wIsT, wIsC, wFld, wON, wOS, wSl, wV, wO, wSetIx, wPar, wSwap, wSeqOf, wRng1, wRng2, wFor, wWhile, wYes, wComp, wEnum, wZip, wEnum2, wRgT, wRgL, wAug, dMulT, dMax, wMake, wFz, wCat, wRep, wipeE, D.ty, wIf_true, wIf_false, List.getElem?_cons_zero, List.getElem?_cons_succ, List.set_cons_zero, List.set_cons_succ, dI0_ii, dI_ii, dNeg_i, dGcd_ii, dAbs_i, dInt_i, dInt_b, dBits_i, dLen_t, dLen_l, dTuple_t, dTuple_l, dAdd_ii, dAdd_tt, dAdd_ll, dAdd_ss, dMul_ii, dMul_li, dIs_n, dIs_b, dIsN_n, dRepr_b, rt_0, rt_1, dEq, dNe, dSub, dDiv, dDivU, dMod, dLt, dLe, dGt, dGe, D.isNon, Bool.not_true, Bool.not_false])
    have zr : HzL 900 (powL ps ws many) := powL_hz (h := 2) (g := 3) hl (by omega) hm zw zp (by decide) (by decide)
    rw [rng_nat]
    refine ⟨⟨by omega, by omega⟩, for_rule (I := fun i env b' => b' = b - 1 ∧ ∃ s15, env = [.v .pen, .v (.int (n : Int)), .v (.tup (ps.map rt)), .v (.tup (ws.map rt)), .v (.int (many : Int)), .v (.tup ((powL ps ws many).map rt)), s6, s7, s8, s9, s10, s11, .v (rt c), .v (.tup ((powL (ps.map (c * ·)) ws many).map rt)), .v (rt (pwR c i)), s15, .un, .un, .un, .un, .un, .un]) ?_ ?_ _ _ ⟨rfl, _, rfl⟩⟩
    · rintro i d env b' E' hd ⟨rfl, s15, rfl⟩ hnx hct hbk hrt
      obtain ⟨k, hk, rfl⟩ := get_map hd
      have hi : i < many := by
        have := (List.getElem?_eq_some_iff.mp hk).1
        simpa using this
      have ek : k = i := by
        rw [List.getElem?_range hi] at hk
        exact (Option.some.inj hk).symm
      subst ek
      refine ⟨_, rfl, ?_⟩
      (try simp only [wSeq, wSet, wSetO, wRet, wIfS, wFrz, wApp, wDrop, wNext, wBreak, wCont, wNever, wVar, wVarB, wC, wBin, wUn, wT, wAnd, wOr, wNot, wAndV, wOrV, wNotV, wIte, wNil, wCons, wTup, wCall, wListOf, wC2, wIsT, wIsC, wFld, wON, wOS, wSl, wV, wO, wSetIx, wPar, wSwap, wSeqOf, wRng1, wRng2, wFor, wWhile, wYes, wComp, wEnum, wZip, wEnum2, wRgT, wRgL, wAug, dMulT, dMax, wMake, wFz, wCat, wRep, wipeE, D.ty, wIf_true, wIf_false, List.getElem?_cons_zero, List.getElem?_cons_succ, List.set_cons_zero, List.set_cons_succ, dI0_ii, dI_ii, dNeg_i, dGcd_ii, dAbs_i, dInt_i, dInt_b, dBits_i, dLen_t, dLen_l, dTuple_t, dTuple_l, dAdd_ii, dAdd_tt, dAdd_ll, dAdd_ss, dMul_ii, dMul_li, dIs_n, dIs_b, dIsN_n, dRepr_b, rt_0, rt_1, dEq, dNe, dSub, dDiv, dDivU, dMod, dLt, dLe, dGt, dGe, D.isNon, Bool.not_true, Bool.not_false])
      refine ix_rowT (by rw [powL_len]; exact hi) (ix_rowT (by omega) ?_)
      have z1 : Sz (pwR c k) := (pw_hz hc k).sz (by have : SB = 499000 := rfl; omega)
      have z2 : Sz ((powL ps ws many).getD k 0) := ((zr.mono (by decide : 900 ≤ 900 + 1)).get k).sz (by decide)
      refine ⟨rfl, _, _, rfl, z1, z2, trivial, ⟨flat_rt _ _, flat_rt _ _⟩, ?_⟩
      rw [eqv_rt, powL_get hi, moved_sum c hl, powL_get hi, decide_eq_true rfl]
      (try simp only [wSeq, wSet, wSetO, wRet, wIfS, wFrz, wApp, wDrop, wNext, wBreak, wCont, wNever, wVar, wVarB, wC, wBin, wUn, wT, wAnd, wOr, wNot, wAndV, wOrV, wNotV, wIte, wNil, wCons, wTup, wCall, wListOf, wC2, wIsT, wIsC, wFld, wON, wOS, wSl, wV, wO, wSetIx, wPar, wSwap, wSeqOf, wRng1, wRng2, wFor, wWhile, wYes, wComp, wEnum, wZip, wEnum2, wRgT, wRgL, wAug, dMulT, dMax, wMake, wFz, wCat, wRep, wipeE, D.ty, wIf_true, wIf_false, List.getElem?_cons_zero, List.getElem?_cons_succ, List.set_cons_zero, List.set_cons_succ, dI0_ii, dI_ii, dNeg_i, dGcd_ii, dAbs_i, dInt_i, dInt_b, dBits_i, dLen_t, dLen_l, dTuple_t, dTuple_l, dAdd_ii, dAdd_tt, dAdd_ll, dAdd_ss, dMul_ii, dMul_li, dIs_n, dIs_b, dIsN_n, dRepr_b, rt_0, rt_1, dEq, dNe, dSub, dDiv, dDivU, dMod, dLt, dLe, dGt, dGe, D.isNon, Bool.not_true, Bool.not_false])
      refine ⟨rfl, _, _, rfl, z1, hc.sz (by decide), trivial, hnx _ _ ⟨rfl, .v (.int (k : Int)), ?_⟩⟩
      rfl
    · rintro env b' ⟨rfl, s15, rfl⟩
      (try simp only [wSeq, wSet, wSetO, wRet, wIfS, wFrz, wApp, wDrop, wNext, wBreak, wCont, wNever, wVar, wVarB, wC, wBin, wUn, wT, wAnd, wOr, wNot, wAndV, wOrV, wNotV, wIte, wNil, wCons, wTup, wCall, wListOf, wC2, wIsT, wIsC, wFld, wON, wOS, wSl, wV, wO, wSetIx, wPar, wSwap, wSeqOf, wRng1, wRng2, wFor, wWhile, wYes, wComp, wEnum, wZip, wEnum2, wRgT, wRgL, wAug, dMulT, dMax, wMake, wFz, wCat, wRep, wipeE, D.ty, wIf_true, wIf_false, List.getElem?_cons_zero, List.getElem?_cons_succ, List.set_cons_zero, List.set_cons_succ, dI0_ii, dI_ii, dNeg_i, dGcd_ii, dAbs_i, dInt_i, dInt_b, dBits_i, dLen_t, dLen_l, dTuple_t, dTuple_l, dAdd_ii, dAdd_tt, dAdd_ll, dAdd_ss, dMul_ii, dMul_li, dIs_n, dIs_b, dIsN_n, dRepr_b, rt_0, rt_1, dEq, dNe, dSub, dDiv, dDivU, dMod, dLt, dLe, dGt, dGe, D.isNon, Bool.not_true, Bool.not_false])
      refine ⟨rfl, n, rfl, hn1, by omega, by omega, fun d hd => ?_⟩
      (try simp only [wSeq, wSet, wSetO, wRet, wIfS, wFrz, wApp, wDrop, wNext, wBreak, wCont, wNever, wVar, wVarB, wC, wBin, wUn, wT, wAnd, wOr, wNot, wAndV, wOrV, wNotV, wIte, wNil, wCons, wTup, wCall, wListOf, wC2, wIsT, wIsC, wFld, wON, wOS, wSl, wV, wO, wSetIx, wPar, wSwap, wSeqOf, wRng1, wRng2, wFor, wWhile, wYes, wComp, wEnum, wZip, wEnum2, wRgT, wRgL, wAug, dMulT, dMax, wMake, wFz, wCat, wRep, wipeE, D.ty, wIf_true, wIf_false, List.getElem?_cons_zero, List.getElem?_cons_succ, List.set_cons_zero, List.set_cons_succ, dI0_ii, dI_ii, dNeg_i, dGcd_ii, dAbs_i, dInt_i, dInt_b, dBits_i, dLen_t, dLen_l, dTuple_t, dTuple_l, dAdd_ii, dAdd_tt, dAdd_ll, dAdd_ss, dMul_ii, dMul_li, dIs_n, dIs_b, dIsN_n, dRepr_b, rt_0, rt_1, dEq, dNe, dSub, dDiv, dDivU, dMod, dLt, dLe, dGt, dGe, D.isNon, Bool.not_true, Bool.not_false])
      rw [show (1 : Int) + (d : Int) = ((d + 1 : Nat) : Int) by omega]
      refine wIf_dec (fun h => ?_) (fun h => ?_)
      · rw [cut_to, cut_to, cut_from, cut_from, ← List.map_take, ← List.map_take, ← List.map_drop, ← List.map_drop]
        refine ⟨rfl, _, _, ps.take (d + 1), ws.take (d + 1), many, rfl, passed_rt _ (by simp; omega), passed_rt _ (by simp; omega), by simp; omega, by simp; omega, hm1, hm, pwOk_small (h := 2) (g := 3) (by simp [hl]) (by simp; omega) hm (fun x hx => zw x (List.mem_of_mem_take hx)) (fun x hx => zp x (List.mem_of_mem_take hx)) (by decide) (by decide), ?_⟩
        refine ⟨rfl, _, _, ps.drop (d + 1), ws.drop (d + 1), many, rfl, passed_rt _ (by simp; omega), passed_rt _ (by simp; omega), by simp; omega, by simp; omega, hm1, hm, pwOk_small (h := 2) (g := 3) (by simp [hl]) (by simp; omega) hm (fun x hx => zw x (List.mem_of_mem_drop hx)) (fun x hx => zp x (List.mem_of_mem_drop hx)) (by decide) (by decide), ?_⟩
        (try simp only [wSeq, wSet, wSetO, wRet, wIfS, wFrz, wApp, wDrop, wNext, wBreak, wCont, wNever, wVar, wVarB, wC, wBin, wUn, wT, wAnd, wOr, wNot, wAndV, wOrV, wNotV, wIte, wNil, wCons, wTup, wCall, wListOf, wC2, wIsT, wIsC, wFld, wON, wOS, wSl, wV, wO, wSetIx, wPar, wSwap, wSeqOf, wRng1, wRng2, wFor, wWhile, wYes, wComp, wEnum, wZip, wEnum2, wRgT, wRgL, wAug, dMulT, dMax, wMake, wFz, wCat, wRep, wipeE, D.ty, wIf_true, wIf_false, List.getElem?_cons_zero, List.getElem?_cons_succ, List.set_cons_zero, List.set_cons_succ, dI0_ii, dI_ii, dNeg_i, dGcd_ii, dAbs_i, dInt_i, dInt_b, dBits_i, dLen_t, dLen_l, dTuple_t, dTuple_l, dAdd_ii, dAdd_tt, dAdd_ll, dAdd_ss, dMul_ii, dMul_li, dIs_n, dIs_b, dIsN_n, dRepr_b, rt_0, rt_1, dEq, dNe, dSub, dDiv, dDivU, dMod, dLt, dLe, dGt, dGe, D.isNon, Bool.not_true, Bool.not_false])
        rw [zipD_rt]
        have za : HzL 900 (powL (ps.take (d + 1)) (ws.take (d + 1)) many) := powL_hz (h := 2) (g := 3) (by simp [hl]) (by simp; omega) hm (fun x hx => zw x (List.mem_of_mem_take hx)) (fun x hx => zp x (List.mem_of_mem_take hx)) (by decide) (by decide)
        have zb : HzL 900 (powL (ps.drop (d + 1)) (ws.drop (d + 1)) many) := powL_hz (h := 2) (g := 3) (by simp [hl]) (by simp; omega) hm (fun x hx => zw x (List.mem_of_mem_drop hx)) (fun x hx => zp x (List.mem_of_mem_drop hx)) (by decide) (by decide)
        refine ⟨by first | omega | (simp [powL]; omega), cmp_at _ (fun z : Rat × Rat => rt (z.1 + z.2)) _ _ (fun z hz => ⟨_, rfl, fun K kk => ?_⟩) ?_⟩
        · (try simp only [wSeq, wSet, wSetO, wRet, wIfS, wFrz, wApp, wDrop, wNext, wBreak, wCont, wNever, wVar, wVarB, wC, wBin, wUn, wT, wAnd, wOr, wNot, wAndV, wOrV, wNotV, wIte, wNil, wCons, wTup, wCall, wListOf, wC2, wIsT, wIsC, wFld, wON, wOS, wSl, wV, wO, wSetIx, wPar, wSwap, wSeqOf, wRng1, wRng2, wFor, wWhile, wYes, wComp, wEnum, wZip, wEnum2, wRgT, wRgL, wAug, dMulT, dMax, wMake, wFz, wCat, wRep, wipeE, D.ty, wIf_true, wIf_false, List.getElem?_cons_zero, List.getElem?_cons_succ, List.set_cons_zero, List.set_cons_succ, dI0_ii, dI_ii, dNeg_i, dGcd_ii, dAbs_i, dInt_i, dInt_b, dBits_i, dLen_t, dLen_l, dTuple_t, dTuple_l, dAdd_ii, dAdd_tt, dAdd_ll, dAdd_ss, dMul_ii, dMul_li, dIs_n, dIs_b, dIsN_n, dRepr_b, rt_0, rt_1, dEq, dNe, dSub, dDiv, dDivU, dMod, dLt, dLe, dGt, dGe, D.isNon, Bool.not_true, Bool.not_false])
          have hm' := List.of_mem_zip hz
          exact ⟨rfl, z.1, z.2, rfl, (za _ hm'.1).sz (by decide), (zb _ hm'.2).sz (by decide), trivial, kk⟩
        · (try simp only [wSeq, wSet, wSetO, wRet, wIfS, wFrz, wApp, wDrop, wNext, wBreak, wCont, wNever, wVar, wVarB, wC, wBin, wUn, wT, wAnd, wOr, wNot, wAndV, wOrV, wNotV, wIte, wNil, wCons, wTup, wCall, wListOf, wC2, wIsT, wIsC, wFld, wON, wOS, wSl, wV, wO, wSetIx, wPar, wSwap, wSeqOf, wRng1, wRng2, wFor, wWhile, wYes, wComp, wEnum, wZip, wEnum2, wRgT, wRgL, wAug, dMulT, dMax, wMake, wFz, wCat, wRep, wipeE, D.ty, wIf_true, wIf_false, List.getElem?_cons_zero, List.getElem?_cons_succ, List.set_cons_zero, List.set_cons_succ, dI0_ii, dI_ii, dNeg_i, dGcd_ii, dAbs_i, dInt_i, dInt_b, dBits_i, dLen_t, dLen_l, dTuple_t, dTuple_l, dAdd_ii, dAdd_tt, dAdd_ll, dAdd_ss, dMul_ii, dMul_li, dIs_n, dIs_b, dIsN_n, dRepr_b, rt_0, rt_1, dEq, dNe, dSub, dDiv, dDivU, dMod, dLt, dLe, dGt, dGe, D.isNon, Bool.not_true, Bool.not_false])
          have e : ((powL (ps.take (d + 1)) (ws.take (d + 1)) many).zip (powL (ps.drop (d + 1)) (ws.drop (d + 1)) many)).map (fun z : Rat × Rat => rt (z.1 + z.2)) = (powL ps ws many).map rt := by
            unfold powL
            rw [List.zip_map', List.map_map, List.map_map]
            refine List.map_congr_left fun k hk => ?_
            show rt (sumR _ + sumR _) = rt _
            rw [put_sum hl]
          rw [e]
          refine ⟨⟨flats_rt 7 _, flats_rt 7 _⟩, ?_⟩
          rw [eqv_rows, decide_eq_true rfl]
          exact q _ (by omega)
      · exact q _ (by omega)
theorem hp__law_case78 : ∀ ds b Q, ds.length = 1 → p__law_case78 ds b Q → W__law_case { nx := fun _ b' => Q .non b', rt := Q } (ds.map Slot.v ++ List.replicate 21 .un) b := by
  rintro ds b Q - ⟨rfl, hb, q⟩
  show W__law_case _ [.v .pen, .un, .un, .un, .un, .un, .un, .un, .un, .un, .un, .un, .un, .un, .un, .un, .un, .un, .un, .un, .un, .un] b
  (try simp only [wSeq, wSet, wSetO, wRet, wIfS, wFrz, wApp, wDrop, wNext, wBreak, wCont, wNever, wVar, wVarB, wC, wBin, wUn, wT, wAnd, wOr, wNot, wAndV, wOrV, wNotV, wIte, wNil, wCons, wTup, wCall, wListOf, wC2, wIsT, wIsC, wFld, wON, wOS, wSl, wV, wO, wSetIx, wPar, wSwap, wSeqOf, wRng1, wRng2, wFor, wWhile, wYes, wComp, wEnum, wZip, wEnum2, wRgT, wRgL, wAug, dMulT, dMax, wMake, wFz, wCat, wRep, wipeE, D.ty, wIf_true, wIf_false, List.getElem?_cons_zero, List.getElem?_cons_succ, List.set_cons_zero, List.set_cons_succ, dI0_ii, dI_ii, dNeg_i, dGcd_ii, dAbs_i, dInt_i, dInt_b, dBits_i, dLen_t, dLen_l, dTuple_t, dTuple_l, dAdd_ii, dAdd_tt, dAdd_ll, dAdd_ss, dMul_ii, dMul_li, dIs_n, dIs_b, dIsN_n, dRepr_b, rt_0, rt_1, dEq, dNe, dSub, dDiv, dDivU, dMod, dLt, dLe, dGt, dGe, D.isNon, Bool.not_true, Bool.not_false, W__law_case])
  refine ⟨rfl, 5, rfl, by omega, by omega, by omega, fun few0 hfew => ?_⟩
  obtain ⟨n, hn⟩ : ∃ n, n = few0 + 1 := ⟨_, rfl⟩
  (try simp only [wSeq, wSet, wSetO, wRet, wIfS, wFrz, wApp, wDrop, wNext, wBreak, wCont, wNever, wVar, wVarB, wC, wBin, wUn, wT, wAnd, wOr, wNot, wAndV, wOrV, wNotV, wIte, wNil, wCons, wTup, wCall, wListOf, wC2, wIsT, wIsC, wFld, wON, wOS, wSl, wV, wO, wSetIx, wPar, wSwap, wSeqOf, wRng1, wRng2, wFor, wWhile, wYes, wComp, wEnum, wZip, wEnum2, wRgT, wRgL, wAug, dMulT, dMax, wMake, wFz, wCat, wRep, wipeE, D.ty, wIf_true, wIf_false, List.getElem?_cons_zero, List.getElem?_cons_succ, List.set_cons_zero, List.set_cons_succ, dI0_ii, dI_ii, dNeg_i, dGcd_ii, dAbs_i, dInt_i, dInt_b, dBits_i, dLen_t, dLen_l, dTuple_t, dTuple_l, dAdd_ii, dAdd_tt, dAdd_ll, dAdd_ss, dMul_ii, dMul_li, dIs_n, dIs_b, dIsN_n, dRepr_b, rt_0, rt_1, dEq, dNe, dSub, dDiv, dDivU, dMod, dLt, dLe, dGt, dGe, D.isNon, Bool.not_true, Bool.not_false])
  rw [show (1 : Int) + (few0 : Int) = (n : Int) by omega]
  refine ⟨⟨by omega, by omega⟩, ?_⟩
  rw [rng_nat]
  refine ⟨by simp; omega, draw_row (by omega) (by omega) (fun d => ⟨_, rfl, fun b K hb kk => by (try simp only [wSeq, wSet, wSetO, wRet, wIfS, wFrz, wApp, wDrop, wNext, wBreak, wCont, wNever, wVar, wVarB, wC, wBin, wUn, wT, wAnd, wOr, wNot, wAndV, wOrV, wNotV, wIte, wNil, wCons, wTup, wCall, wListOf, wC2, wIsT, wIsC, wFld, wON, wOS, wSl, wV, wO, wSetIx, wPar, wSwap, wSeqOf, wRng1, wRng2, wFor, wWhile, wYes, wComp, wEnum, wZip, wEnum2, wRgT, wRgL, wAug, dMulT, dMax, wMake, wFz, wCat, wRep, wipeE, D.ty, wIf_true, wIf_false, List.getElem?_cons_zero, List.getElem?_cons_succ, List.set_cons_zero, List.set_cons_succ, dI0_ii, dI_ii, dNeg_i, dGcd_ii, dAbs_i, dInt_i, dInt_b, dBits_i, dLen_t, dLen_l, dTuple_t, dTuple_l, dAdd_ii, dAdd_tt, dAdd_ll, dAdd_ss, dMul_ii, dMul_li, dIs_n, dIs_b, dIsN_n, dRepr_b, rt_0, rt_1, dEq, dNe, dSub, dDiv, dDivU, dMod, dLt, dLe, dGt, dGe, D.isNon, Bool.not_true, Bool.not_false]); exact ⟨rfl, rfl, hb, kk⟩⟩) fun ps b1 hpl hps hb1 => ?_⟩
  (try simp only [wSeq, wSet, wSetO, wRet, wIfS, wFrz, wApp, wDrop, wNext, wBreak, wCont, wNever, wVar, wVarB, wC, wBin, wUn, wT, wAnd, wOr, wNot, wAndV, wOrV, wNotV, wIte, wNil, wCons, wTup, wCall, wListOf, wC2, wIsT, wIsC, wFld, wON, wOS, wSl, wV, wO, wSetIx, wPar, wSwap, wSeqOf, wRng1, wRng2, wFor, wWhile, wYes, wComp, wEnum, wZip, wEnum2, wRgT, wRgL, wAug, dMulT, dMax, wMake, wFz, wCat, wRep, wipeE, D.ty, wIf_true, wIf_false, List.getElem?_cons_zero, List.getElem?_cons_succ, List.set_cons_zero, List.set_cons_succ, dI0_ii, dI_ii, dNeg_i, dGcd_ii, dAbs_i, dInt_i, dInt_b, dBits_i, dLen_t, dLen_l, dTuple_t, dTuple_l, dAdd_ii, dAdd_tt, dAdd_ll, dAdd_ss, dMul_ii, dMul_li, dIs_n, dIs_b, dIsN_n, dRepr_b, rt_0, rt_1, dEq, dNe, dSub, dDiv, dDivU, dMod, dLt, dLe, dGt, dGe, D.isNon, Bool.not_true, Bool.not_false])
  refine ⟨⟨by omega, by omega⟩, ?_⟩
  refine ⟨by simp; omega, draw_row (by omega) (by omega) (fun d => ⟨_, rfl, fun b K hb kk => by (try simp only [wSeq, wSet, wSetO, wRet, wIfS, wFrz, wApp, wDrop, wNext, wBreak, wCont, wNever, wVar, wVarB, wC, wBin, wUn, wT, wAnd, wOr, wNot, wAndV, wOrV, wNotV, wIte, wNil, wCons, wTup, wCall, wListOf, wC2, wIsT, wIsC, wFld, wON, wOS, wSl, wV, wO, wSetIx, wPar, wSwap, wSeqOf, wRng1, wRng2, wFor, wWhile, wYes, wComp, wEnum, wZip, wEnum2, wRgT, wRgL, wAug, dMulT, dMax, wMake, wFz, wCat, wRep, wipeE, D.ty, wIf_true, wIf_false, List.getElem?_cons_zero, List.getElem?_cons_succ, List.set_cons_zero, List.set_cons_succ, dI0_ii, dI_ii, dNeg_i, dGcd_ii, dAbs_i, dInt_i, dInt_b, dBits_i, dLen_t, dLen_l, dTuple_t, dTuple_l, dAdd_ii, dAdd_tt, dAdd_ll, dAdd_ss, dMul_ii, dMul_li, dIs_n, dIs_b, dIsN_n, dRepr_b, rt_0, rt_1, dEq, dNe, dSub, dDiv, dDivU, dMod, dLt, dLe, dGt, dGe, D.isNon, Bool.not_true, Bool.not_false]); exact ⟨rfl, rfl, hb, kk⟩⟩) fun ws b2 hwl hws hb2 => ?_⟩
  (try simp only [wSeq, wSet, wSetO, wRet, wIfS, wFrz, wApp, wDrop, wNext, wBreak, wCont, wNever, wVar, wVarB, wC, wBin, wUn, wT, wAnd, wOr, wNot, wAndV, wOrV, wNotV, wIte, wNil, wCons, wTup, wCall, wListOf, wC2, wIsT, wIsC, wFld, wON, wOS, wSl, wV, wO, wSetIx, wPar, wSwap, wSeqOf, wRng1, wRng2, wFor, wWhile, wYes, wComp, wEnum, wZip, wEnum2, wRgT, wRgL, wAug, dMulT, dMax, wMake, wFz, wCat, wRep, wipeE, D.ty, wIf_true, wIf_false, List.getElem?_cons_zero, List.getElem?_cons_succ, List.set_cons_zero, List.set_cons_succ, dI0_ii, dI_ii, dNeg_i, dGcd_ii, dAbs_i, dInt_i, dInt_b, dBits_i, dLen_t, dLen_l, dTuple_t, dTuple_l, dAdd_ii, dAdd_tt, dAdd_ll, dAdd_ss, dMul_ii, dMul_li, dIs_n, dIs_b, dIsN_n, dRepr_b, rt_0, rt_1, dEq, dNe, dSub, dDiv, dDivU, dMod, dLt, dLe, dGt, dGe, D.isNon, Bool.not_true, Bool.not_false])
  refine ⟨rfl, 12, rfl, by omega, by omega, by omega, fun many0 hmany => ?_⟩
  obtain ⟨many, hmn⟩ : ∃ m, m = many0 + 1 := ⟨_, rfl⟩
  (try simp only [wSeq, wSet, wSetO, wRet, wIfS, wFrz, wApp, wDrop, wNext, wBreak, wCont, wNever, wVar, wVarB, wC, wBin, wUn, wT, wAnd, wOr, wNot, wAndV, wOrV, wNotV, wIte, wNil, wCons, wTup, wCall, wListOf, wC2, wIsT, wIsC, wFld, wON, wOS, wSl, wV, wO, wSetIx, wPar, wSwap, wSeqOf, wRng1, wRng2, wFor, wWhile, wYes, wComp, wEnum, wZip, wEnum2, wRgT, wRgL, wAug, dMulT, dMax, wMake, wFz, wCat, wRep, wipeE, D.ty, wIf_true, wIf_false, List.getElem?_cons_zero, List.getElem?_cons_succ, List.set_cons_zero, List.set_cons_succ, dI0_ii, dI_ii, dNeg_i, dGcd_ii, dAbs_i, dInt_i, dInt_b, dBits_i, dLen_t, dLen_l, dTuple_t, dTuple_l, dAdd_ii, dAdd_tt, dAdd_ll, dAdd_ss, dMul_ii, dMul_li, dIs_n, dIs_b, dIsN_n, dRepr_b, rt_0, rt_1, dEq, dNe, dSub, dDiv, dDivU, dMod, dLt, dLe, dGt, dGe, D.isNon, Bool.not_true, Bool.not_false])
  rw [show (1 : Int) + (many0 : Int) = (many : Int) by omega]
  have hl : ws.length = ps.length := by omega
  have zw := small_hz hws
  have zp := small_hz hps
  have ok : PwOk ps ws many := pwOk_small (h := 2) (g := 3) hl (by omega) (by omega) zw zp (by decide) (by decide)
  have zr : HzL 900 (powL ps ws many) := powL_hz (h := 2) (g := 3) hl (by omega) (by omega) zw zp (by decide) (by decide)
  refine ⟨rfl, ps, rfl, by omega, fun x hx => (zp x hx).sz (by decide), by omega, fun d b3 hd hb3 => ?_⟩
  refine ⟨rfl, ws, rfl, by omega, fun x hx => (zw x hx).sz (by decide), by omega, fun e b4 he hb4 => ?_⟩
  refine ⟨rfl, d, e, ps, ws, many, rfl, hd, he, by omega, by omega, by omega, by omega, ok, ?_⟩
  have sh : Shows (.tup ((powL ps ws many).map rt)) := shows_row (fun x hx => (zr x hx).mono (by decide)) (by rw [powL_len]; omega)
  refine ⟨sh, rfl, ps, ws, many, rfl, ok, sh, ?_⟩
  (try simp only [wSeq, wSet, wSetO, wRet, wIfS, wFrz, wApp, wDrop, wNext, wBreak, wCont, wNever, wVar, wVarB, wC, wBin, wUn, wT, wAnd, wOr, wNot, wAndV, wOrV, wNotV, wIte, wNil, wCons, wTup, wCall, wListOf, wC2, wIsT, wIsC, wFld, wON, wOS, wSl, wV, wO, wSetIx, wPar, wSwap, wSeqOf, wRng1, wRng2, wFor, wWhile, wYes, wComp, wEnum, wZip, wEnum2, wRgT, wRgL, wAug, dMulT, dMax, wMake, wFz, wCat, wRep, wipeE, D.ty, wIf_true, wIf_false, List.getElem?_cons_zero, List.getElem?_cons_succ, List.set_cons_zero, List.set_cons_succ, dI0_ii, dI_ii, dNeg_i, dGcd_ii, dAbs_i, dInt_i, dInt_b, dBits_i, dLen_t, dLen_l, dTuple_t, dTuple_l, dAdd_ii, dAdd_tt, dAdd_ll, dAdd_ss, dMul_ii, dMul_li, dIs_n, dIs_b, dIsN_n, dRepr_b, rt_0, rt_1, dEq, dNe, dSub, dDiv, dDivU, dMod, dLt, dLe, dGt, dGe, D.isNon, Bool.not_true, Bool.not_false, dNeS, decide_true])
  refine ⟨rfl, 2, rfl, by omega, by omega, by omega, fun start hst => ?_⟩
  generalize hrow : powL ps ws many = row at *
  have hrl : row.length = many := by rw [← hrow]; exact powL_len
  rw [show rangeD 1 ((7 : Int) - 1).toNat = ((List.range 6).map (fun (x : Nat) => 1 + x)).map fun (i : Nat) => D.int (i : Int) from rangeD_nat 1 6]
  refine ⟨⟨by omega, by omega, by omega, by omega⟩, by simp, ?_⟩
  refine cmp_filter _ (fun (i : Nat) => D.int (i : Int)) (fun (s : Nat) => decide (2 * (s : Int) - 1 + (start : Int) ≤ (many : Int))) _ _ (fun x hx => ⟨_, rfl, fun K hK => ?_, fun K hK => by (try simp only [wSeq, wSet, wSetO, wRet, wIfS, wFrz, wApp, wDrop, wNext, wBreak, wCont, wNever, wVar, wVarB, wC, wBin, wUn, wT, wAnd, wOr, wNot, wAndV, wOrV, wNotV, wIte, wNil, wCons, wTup, wCall, wListOf, wC2, wIsT, wIsC, wFld, wON, wOS, wSl, wV, wO, wSetIx, wPar, wSwap, wSeqOf, wRng1, wRng2, wFor, wWhile, wYes, wComp, wEnum, wZip, wEnum2, wRgT, wRgL, wAug, dMulT, dMax, wMake, wFz, wCat, wRep, wipeE, D.ty, wIf_true, wIf_false, List.getElem?_cons_zero, List.getElem?_cons_succ, List.set_cons_zero, List.set_cons_succ, dI0_ii, dI_ii, dNeg_i, dGcd_ii, dAbs_i, dInt_i, dInt_b, dBits_i, dLen_t, dLen_l, dTuple_t, dTuple_l, dAdd_ii, dAdd_tt, dAdd_ll, dAdd_ss, dMul_ii, dMul_li, dIs_n, dIs_b, dIsN_n, dRepr_b, rt_0, rt_1, dEq, dNe, dSub, dDiv, dDivU, dMod, dLt, dLe, dGt, dGe, D.isNon, Bool.not_true, Bool.not_false]); exact hK⟩) ?_
  · obtain ⟨j, hj, rfl⟩ := List.mem_map.mp hx
    rw [List.mem_range] at hj
    (try simp only [wSeq, wSet, wSetO, wRet, wIfS, wFrz, wApp, wDrop, wNext, wBreak, wCont, wNever, wVar, wVarB, wC, wBin, wUn, wT, wAnd, wOr, wNot, wAndV, wOrV, wNotV, wIte, wNil, wCons, wTup, wCall, wListOf, wC2, wIsT, wIsC, wFld, wON, wOS, wSl, wV, wO, wSetIx, wPar, wSwap, wSeqOf, wRng1, wRng2, wFor, wWhile, wYes, wComp, wEnum, wZip, wEnum2, wRgT, wRgL, wAug, dMulT, dMax, wMake, wFz, wCat, wRep, wipeE, D.ty, wIf_true, wIf_false, List.getElem?_cons_zero, List.getElem?_cons_succ, List.set_cons_zero, List.set_cons_succ, dI0_ii, dI_ii, dNeg_i, dGcd_ii, dAbs_i, dInt_i, dInt_b, dBits_i, dLen_t, dLen_l, dTuple_t, dTuple_l, dAdd_ii, dAdd_tt, dAdd_ll, dAdd_ss, dMul_ii, dMul_li, dIs_n, dIs_b, dIsN_n, dRepr_b, rt_0, rt_1, dEq, dNe, dSub, dDiv, dDivU, dMod, dLt, dLe, dGt, dGe, D.isNon, Bool.not_true, Bool.not_false])
    exact ⟨cmulW_of (k := 8) (l := 8) (by decide) (by omega) (by decide) (by decide) (by decide), hK⟩
  · generalize hL : ((List.range 6).map (fun (x : Nat) => 1 + x)).filter (fun (s : Nat) => decide (2 * (s : Int) - 1 + (start : Int) ≤ (many : Int))) = L
    have hLm : ∀ s ∈ L, 1 ≤ s ∧ s ≤ 6 ∧ 2 * s + start ≤ many + 1 := fun s hs => by
      rw [← hL, List.mem_filter] at hs
      obtain ⟨hs1, hs2⟩ := hs
      obtain ⟨j, hj, rfl⟩ := List.mem_map.mp hs1
      rw [List.mem_range] at hj
      have := of_decide_eq_true hs2
      exact ⟨by omega, by omega, by omega⟩
    have hLl : L.length ≤ 6 := by
      rw [← hL]
      refine Nat.le_trans (List.length_filter_le _ _) (by simp)
    clear hL
    (try simp only [wSeq, wSet, wSetO, wRet, wIfS, wFrz, wApp, wDrop, wNext, wBreak, wCont, wNever, wVar, wVarB, wC, wBin, wUn, wT, wAnd, wOr, wNot, wAndV, wOrV, wNotV, wIte, wNil, wCons, wTup, wCall, wListOf, wC2, wIsT, wIsC, wFld, wON, wOS, wSl, wV, wO, wSetIx, wPar, wSwap, wSeqOf, wRng1, wRng2, wFor, wWhile, wYes, wComp, wEnum, wZip, wEnum2, wRgT, wRgL, wAug, dMulT, dMax, wMake, wFz, wCat, wRep, wipeE, D.ty, wIf_true, wIf_false, List.getElem?_cons_zero, List.getElem?_cons_succ, List.set_cons_zero, List.set_cons_succ, dI0_ii, dI_ii, dNeg_i, dGcd_ii, dAbs_i, dInt_i, dInt_b, dBits_i, dLen_t, dLen_l, dTuple_t, dTuple_l, dAdd_ii, dAdd_tt, dAdd_ll, dAdd_ss, dMul_ii, dMul_li, dIs_n, dIs_b, dIsN_n, dRepr_b, rt_0, rt_1, dEq, dNe, dSub, dDiv, dDivU, dMod, dLt, dLe, dGt, dGe, D.isNon, Bool.not_true, Bool.not_false])
    refine ⟨⟨flats_ints 8 L, rfl⟩, ?_⟩
    cases L with
    | nil => exact tail78 (b := b4 - 1) hpl hwl (by omega) (by omega) (by omega) (by omega) zp zw hrow (by omega) (by omega) q
    | cons s0 L' =>
      rw [show (!PyData.eqv (D.lst ((s0 :: L').map fun (i : Nat) => D.int (i : Int))).py (D.lst []).py) = true by simp [D.py, D.pys, PyData.eqv, PyData.eqvAll]]
      (try simp only [wSeq, wSet, wSetO, wRet, wIfS, wFrz, wApp, wDrop, wNext, wBreak, wCont, wNever, wVar, wVarB, wC, wBin, wUn, wT, wAnd, wOr, wNot, wAndV, wOrV, wNotV, wIte, wNil, wCons, wTup, wCall, wListOf, wC2, wIsT, wIsC, wFld, wON, wOS, wSl, wV, wO, wSetIx, wPar, wSwap, wSeqOf, wRng1, wRng2, wFor, wWhile, wYes, wComp, wEnum, wZip, wEnum2, wRgT, wRgL, wAug, dMulT, dMax, wMake, wFz, wCat, wRep, wipeE, D.ty, wIf_true, wIf_false, List.getElem?_cons_zero, List.getElem?_cons_succ, List.set_cons_zero, List.set_cons_succ, dI0_ii, dI_ii, dNeg_i, dGcd_ii, dAbs_i, dInt_i, dInt_b, dBits_i, dLen_t, dLen_l, dTuple_t, dTuple_l, dAdd_ii, dAdd_tt, dAdd_ll, dAdd_ss, dMul_ii, dMul_li, dIs_n, dIs_b, dIsN_n, dRepr_b, rt_0, rt_1, dEq, dNe, dSub, dDiv, dDivU, dMod, dLt, dLe, dGt, dGe, D.isNon, Bool.not_true, Bool.not_false])
      refine ⟨rfl, _, rfl, by simp, by simp at hLl ⊢; omega, by omega, fun e2 he2 => ?_⟩
      obtain ⟨s, hs, rfl⟩ := List.mem_map.mp he2
      obtain ⟨s1, s2, s3⟩ := hLm s hs
      (try simp only [wSeq, wSet, wSetO, wRet, wIfS, wFrz, wApp, wDrop, wNext, wBreak, wCont, wNever, wVar, wVarB, wC, wBin, wUn, wT, wAnd, wOr, wNot, wAndV, wOrV, wNotV, wIte, wNil, wCons, wTup, wCall, wListOf, wC2, wIsT, wIsC, wFld, wON, wOS, wSl, wV, wO, wSetIx, wPar, wSwap, wSeqOf, wRng1, wRng2, wFor, wWhile, wYes, wComp, wEnum, wZip, wEnum2, wRgT, wRgL, wAug, dMulT, dMax, wMake, wFz, wCat, wRep, wipeE, D.ty, wIf_true, wIf_false, List.getElem?_cons_zero, List.getElem?_cons_succ, List.set_cons_zero, List.set_cons_succ, dI0_ii, dI_ii, dNeg_i, dGcd_ii, dAbs_i, dInt_i, dInt_b, dBits_i, dLen_t, dLen_l, dTuple_t, dTuple_l, dAdd_ii, dAdd_tt, dAdd_ll, dAdd_ss, dMul_ii, dMul_li, dIs_n, dIs_b, dIsN_n, dRepr_b, rt_0, rt_1, dEq, dNe, dSub, dDiv, dDivU, dMod, dLt, dLe, dGt, dGe, D.isNon, Bool.not_true, Bool.not_false])
      refine ⟨rfl, row, rfl, by omega, fun x hx => (zr x hx).sz (by decide), by omega, fun d2 b6 hd2 hb6 => ?_⟩
      refine ⟨rfl, d2, row, s, start, rfl, hd2, by omega, by omega, s1, s2, by omega, by omega, ?_⟩
      have sht : Shows (tabD (hankR row s start)) := by
        refine shows_tab (fun r hr => ?_) (by simp [hankR]; omega)
        obtain ⟨i, hi, rfl⟩ := List.mem_map.mp hr
        refine ⟨fun x hx => ?_, by simp; omega⟩
        obtain ⟨j, hj, rfl⟩ := List.mem_map.mp hx
        exact ((zr.mono (by decide : 900 ≤ 900 + 1)).get _).mono (by decide)
      refine ⟨sht, rfl, row, s, start, rfl, by omega, by omega, sht, ?_⟩
      (try simp only [wSeq, wSet, wSetO, wRet, wIfS, wFrz, wApp, wDrop, wNext, wBreak, wCont, wNever, wVar, wVarB, wC, wBin, wUn, wT, wAnd, wOr, wNot, wAndV, wOrV, wNotV, wIte, wNil, wCons, wTup, wCall, wListOf, wC2, wIsT, wIsC, wFld, wON, wOS, wSl, wV, wO, wSetIx, wPar, wSwap, wSeqOf, wRng1, wRng2, wFor, wWhile, wYes, wComp, wEnum, wZip, wEnum2, wRgT, wRgL, wAug, dMulT, dMax, wMake, wFz, wCat, wRep, wipeE, D.ty, wIf_true, wIf_false, List.getElem?_cons_zero, List.getElem?_cons_succ, List.set_cons_zero, List.set_cons_succ, dI0_ii, dI_ii, dNeg_i, dGcd_ii, dAbs_i, dInt_i, dInt_b, dBits_i, dLen_t, dLen_l, dTuple_t, dTuple_l, dAdd_ii, dAdd_tt, dAdd_ll, dAdd_ss, dMul_ii, dMul_li, dIs_n, dIs_b, dIsN_n, dRepr_b, rt_0, rt_1, dEq, dNe, dSub, dDiv, dDivU, dMod, dLt, dLe, dGt, dGe, D.isNon, Bool.not_true, Bool.not_false, dNeS, decide_true])
      refine ⟨⟨rfl, rfl⟩, ?_⟩
      rw [eqv_int']
      have zl0 : HzL 10 (ledR ps ws start) := by
        unfold ledR
        split
        · intro x hx
          obtain ⟨a, ha, c, hc, rfl⟩ := zipW_mem hx
          exact ((zw a ha).mul (zp c hc)).mono (by decide)
        · exact fun x hx => (zw x hx).mono (by decide)
      refine wIf_dec (fun h => ?_) (fun h => ?_)
      · rw [zipD_rt]
        refine ⟨by first | omega | (simp; omega), cmp_at _ (fun z : Rat × Rat => rt (z.1 * z.2)) _ _ (fun z hz => ⟨_, rfl, fun K kk => ?_⟩) ?_⟩
        · (try simp only [wSeq, wSet, wSetO, wRet, wIfS, wFrz, wApp, wDrop, wNext, wBreak, wCont, wNever, wVar, wVarB, wC, wBin, wUn, wT, wAnd, wOr, wNot, wAndV, wOrV, wNotV, wIte, wNil, wCons, wTup, wCall, wListOf, wC2, wIsT, wIsC, wFld, wON, wOS, wSl, wV, wO, wSetIx, wPar, wSwap, wSeqOf, wRng1, wRng2, wFor, wWhile, wYes, wComp, wEnum, wZip, wEnum2, wRgT, wRgL, wAug, dMulT, dMax, wMake, wFz, wCat, wRep, wipeE, D.ty, wIf_true, wIf_false, List.getElem?_cons_zero, List.getElem?_cons_succ, List.set_cons_zero, List.set_cons_succ, dI0_ii, dI_ii, dNeg_i, dGcd_ii, dAbs_i, dInt_i, dInt_b, dBits_i, dLen_t, dLen_l, dTuple_t, dTuple_l, dAdd_ii, dAdd_tt, dAdd_ll, dAdd_ss, dMul_ii, dMul_li, dIs_n, dIs_b, dIsN_n, dRepr_b, rt_0, rt_1, dEq, dNe, dSub, dDiv, dDivU, dMod, dLt, dLe, dGt, dGe, D.isNon, Bool.not_true, Bool.not_false])
          have hm' := List.of_mem_zip hz
          exact ⟨rfl, z.1, z.2, rfl, (zw _ hm'.1).sz (by decide), (zp _ hm'.2).sz (by decide), trivial, kk⟩
        rw [zip_mul, show List.zipWith (· * ·) ws ps = ledR ps ws start by unfold ledR; rw [if_pos (by omega)]]
        generalize hle : ledR ps ws start = led at zl0 ⊢
        have zl := zl0
        have ll : led.length = ps.length := by rw [← hle]; exact led_len hl start
        refine ⟨rfl, ps, s, 3, rfl, by omega, by omega, s1, s2, zp, by decide, ?_⟩
        refine ⟨rfl, powT ps s, s, rfl, pow_rect (by omega) (by omega) s2, by simp [powT]; omega, s1, s2, ?_⟩
        refine ⟨rfl, led, rfl, by omega, by omega, ?_⟩
        refine ⟨rfl, trR (powT ps s) s, diagR led, ps.length, led.length, rfl, trpow_rect s1 (by omega) s2, by simp [trR]; omega, by omega, by omega, by simp [diagR]; omega, diag_rect (by omega) (by omega), by omega, by omega, fun r hr c hc => ?_, ?_⟩
        · obtain ⟨a1, a2⟩ := trpow_hz zp s2 r hr
          obtain ⟨c1, c2⟩ := trdiag_hz zl c hc
          exact dotOk_of (by omega) (by omega) (fun x hx => (a1 x hx).mono (by decide)) (fun x hx => (c1 x hx).mono (by decide))
        refine ⟨rfl, mulT (trR (powT ps s) s) (diagR led) led.length, powT ps s, led.length, s, rfl, mul_rect (trpow_rect s1 (by omega) s2) (by omega), by simp [mulT, trR]; omega, by omega, by omega, by simp [powT]; omega, pow_rect (by omega) (by omega) s2, s1, s2, fun r hr c hc => ?_, ?_⟩
        · obtain ⟨a1, a2⟩ := mul_hz (by omega) zl (fun r hr => by rw [ll]; exact trpow_hz zp s2 r hr) r hr
          obtain ⟨c1, c2⟩ := trpow_hz zp s2 c hc
          exact dotOk_of (by omega) (by omega) a1 (fun x hx => (c1 x hx).mono (by decide))
        have ev := vander (ps := ps) (ws := ws) (many := many) (size := s) (s := start) hl (by omega) s3
        rw [hle, hrow, ← ll] at ev
        rw [ev]
        refine ⟨⟨flat_tab 6 _, flat_tab 6 _⟩, ?_⟩
        rw [eqv_tab_refl]
        (try simp only [wSeq, wSet, wSetO, wRet, wIfS, wFrz, wApp, wDrop, wNext, wBreak, wCont, wNever, wVar, wVarB, wC, wBin, wUn, wT, wAnd, wOr, wNot, wAndV, wOrV, wNotV, wIte, wNil, wCons, wTup, wCall, wListOf, wC2, wIsT, wIsC, wFld, wON, wOS, wSl, wV, wO, wSetIx, wPar, wSwap, wSeqOf, wRng1, wRng2, wFor, wWhile, wYes, wComp, wEnum, wZip, wEnum2, wRgT, wRgL, wAug, dMulT, dMax, wMake, wFz, wCat, wRep, wipeE, D.ty, wIf_true, wIf_false, List.getElem?_cons_zero, List.getElem?_cons_succ, List.set_cons_zero, List.set_cons_succ, dI0_ii, dI_ii, dNeg_i, dGcd_ii, dAbs_i, dInt_i, dInt_b, dBits_i, dLen_t, dLen_l, dTuple_t, dTuple_l, dAdd_ii, dAdd_tt, dAdd_ll, dAdd_ss, dMul_ii, dMul_li, dIs_n, dIs_b, dIsN_n, dRepr_b, rt_0, rt_1, dEq, dNe, dSub, dDiv, dDivU, dMod, dLt, dLe, dGt, dGe, D.isNon, Bool.not_true, Bool.not_false])
        exact tail78 (b := b6) hpl hwl (by omega) (by omega) (by omega) (by omega) zp zw hrow (by omega) (by omega) q
      · have hle : ledR ps ws start = ws := by unfold ledR; rw [if_neg (by omega)]
        have zl : HzL 10 ws := by rw [← hle]; exact zl0
        have ll : ws.length = ps.length := by rw [← hle]; exact led_len hl start
        refine ⟨rfl, ps, s, 3, rfl, by omega, by omega, s1, s2, zp, by decide, ?_⟩
        refine ⟨rfl, powT ps s, s, rfl, pow_rect (by omega) (by omega) s2, by simp [powT]; omega, s1, s2, ?_⟩
        refine ⟨rfl, ws, rfl, by omega, by omega, ?_⟩
        refine ⟨rfl, trR (powT ps s) s, diagR ws, ps.length, ws.length, rfl, trpow_rect s1 (by omega) s2, by simp [trR]; omega, by omega, by omega, by simp [diagR]; omega, diag_rect (by omega) (by omega), by omega, by omega, fun r hr c hc => ?_, ?_⟩
        · obtain ⟨a1, a2⟩ := trpow_hz zp s2 r hr
          obtain ⟨c1, c2⟩ := trdiag_hz zl c hc
          exact dotOk_of (by omega) (by omega) (fun x hx => (a1 x hx).mono (by decide)) (fun x hx => (c1 x hx).mono (by decide))
        refine ⟨rfl, mulT (trR (powT ps s) s) (diagR ws) ws.length, powT ps s, ws.length, s, rfl, mul_rect (trpow_rect s1 (by omega) s2) (by omega), by simp [mulT, trR]; omega, by omega, by omega, by simp [powT]; omega, pow_rect (by omega) (by omega) s2, s1, s2, fun r hr c hc => ?_, ?_⟩
        · obtain ⟨a1, a2⟩ := mul_hz (by omega) zl (fun r hr => by rw [ll]; exact trpow_hz zp s2 r hr) r hr
          obtain ⟨c1, c2⟩ := trpow_hz zp s2 c hc
          exact dotOk_of (by omega) (by omega) a1 (fun x hx => (c1 x hx).mono (by decide))
        have ev := vander (ps := ps) (ws := ws) (many := many) (size := s) (s := start) hl (by omega) s3
        rw [hle, hrow, ← ll] at ev
        rw [ev]
        refine ⟨⟨flat_tab 6 _, flat_tab 6 _⟩, ?_⟩
        rw [eqv_tab_refl]
        (try simp only [wSeq, wSet, wSetO, wRet, wIfS, wFrz, wApp, wDrop, wNext, wBreak, wCont, wNever, wVar, wVarB, wC, wBin, wUn, wT, wAnd, wOr, wNot, wAndV, wOrV, wNotV, wIte, wNil, wCons, wTup, wCall, wListOf, wC2, wIsT, wIsC, wFld, wON, wOS, wSl, wV, wO, wSetIx, wPar, wSwap, wSeqOf, wRng1, wRng2, wFor, wWhile, wYes, wComp, wEnum, wZip, wEnum2, wRgT, wRgL, wAug, dMulT, dMax, wMake, wFz, wCat, wRep, wipeE, D.ty, wIf_true, wIf_false, List.getElem?_cons_zero, List.getElem?_cons_succ, List.set_cons_zero, List.set_cons_succ, dI0_ii, dI_ii, dNeg_i, dGcd_ii, dAbs_i, dInt_i, dInt_b, dBits_i, dLen_t, dLen_l, dTuple_t, dTuple_l, dAdd_ii, dAdd_tt, dAdd_ll, dAdd_ss, dMul_ii, dMul_li, dIs_n, dIs_b, dIsN_n, dRepr_b, rt_0, rt_1, dEq, dNe, dSub, dDiv, dDivU, dMod, dLt, dLe, dGt, dGe, D.isNon, Bool.not_true, Bool.not_false])
        exact tail78 (b := b6) hpl hwl (by omega) (by omega) (by omega) (by omega) zp zw hrow (by omega) (by omega) q
end En
/-! What is raised. -/
namespace En
open PySem PySem.Spec PyProof.Rows L2
/-- no row of told ratios -/
def D.noRow : D → Prop
  | .tup es => es.length < 1000000 ∧ (∀ e ∈ es, e.shal = true) ∧ (es.all D.loose) = false
  | d => d.ty.isSome = true
def p_loose_row2 : Spec := fun ds b Q => p_loose_row ds b Q ∨ ∃ d : D, ds = [d] ∧ d.noRow ∧ Q .non b
/-- row_from raises -/
def badRow (d : D) (lo hi : Int) : Prop := d.fit 9 = true ∧ (d.tupd.noRow ∨ ∃ es rs, d.tupd = .tup es ∧ RowR es rs ∧ es.length < 1000000 ∧ ¬ (lo ≤ rs.length ∧ (rs.length : Int) ≤ hi))
def px_row_from : SpecX := fun ds b W => ∃ d lo hi, ds = [d, .int lo, .int hi] ∧ badRow d lo hi ∧ W "BadRow" [("row", d)]
def badNum (d : D) (lo hi : Int) : Prop := d.ty.isSome = true ∧ (d.isInt = false ∨ ∃ n, d = .int n ∧ ¬ (lo ≤ n ∧ n ≤ hi))
def px_need_between : SpecX := fun ds b W => ∃ s d lo hi, ds = [s, d, .int lo, .int hi] ∧ badNum d lo hi ∧ W "BadNumber" [("number", d), ("what", s)]
def px_power_sums : SpecX := fun ds b W => ∃ d e m, ds = [d, e, m] ∧ ((badRow d 1 6 ∧ W "BadRow" [("row", d)]) ∨ ∃ ps : List Rat, Passed d ps ∧ 1 ≤ ps.length ∧ ps.length ≤ 6 ∧
  ((badRow e ps.length ps.length ∧ W "BadRow" [("row", e)]) ∨ ∃ ws : List Rat, Passed e ws ∧ ws.length = ps.length ∧ badNum m 1 12 ∧ W "BadNumber" [("number", m), ("what", .str "many")]))
def px_hankel : SpecX := fun ds b W => ∃ d sz st, ds = [d, sz, st] ∧ ((badRow d 1 12 ∧ W "BadRow" [("row", d)]) ∨ ∃ xs : List Rat, Passed d xs ∧ 1 ≤ xs.length ∧ xs.length ≤ 12 ∧
  ((badNum sz 1 6 ∧ W "BadNumber" [("number", sz), ("what", .str "size")]) ∨ ∃ size : Nat, sz = .int (size : Int) ∧ 1 ≤ size ∧ size ≤ 6 ∧
    ((badNum st 0 1 ∧ W "BadNumber" [("number", st), ("what", .str "start")]) ∨ ∃ start : Nat, st = .int (start : Int) ∧ start ≤ 1 ∧ xs.length < 2 * size - 1 + start ∧ W "Unlike" [("what", .str "size")])))
/-- row_from: row, least, most, made -/
def Wx_row_from (We : EX) : WS := (wSeq (wSet 3 (wCall 1 p_loose_row2 (wCons (wCall 1 p_in_tuples (wCons (wVar 0) wNil)) wNil))) (wSeq (wIfS (wOr (wT (wBin dIs (wVarB 3) (wC .non))) (wNot (wT (wChain dLe dLe (wVarB 1) (wUn dLen (wVarB 3)) (wVarB 2))))) (wRaise "BadRow" ["row"] We (wCons (wVar 0) wNil)) wNext) (wRet (wVar 3))))
/-- need_between: what, number, low, high -/
def Wx_need_between (We : EX) : WS := (wSeq (wIfS (wNot (wT (wCall 1 p_is_whole (wCons (wVar 1) wNil)))) (wRaise "BadNumber" ["what", "number"] We (wCons (wVar 0) (wCons (wVar 1) wNil))) wNext) (wIfS (wOr (wAnd (wT (wBin dIsN (wVarB 2) (wC .non))) (wT (wBin dLt (wVarB 1) (wVarB 2)))) (wAnd (wT (wBin dIsN (wVarB 3) (wC .non))) (wT (wBin dGt (wVarB 1) (wVarB 3))))) (wRaise "BadNumber" ["what", "number"] We (wCons (wVar 0) (wCons (wVar 1) wNil))) wNext))
/-- power_sums: points, weights, many, first, second -/
def Wx_power_sums (We : EX) : WS := (wSeq (wSet 3 (wOrE (wCall 3 p_row_from (wCons (wVar 0) (wCons (wC (.int 1)) (wCons (wC kMOST) wNil)))) (wCallX 3 px_row_from We (wCons (wVar 0) (wCons (wC (.int 1)) (wCons (wC kMOST) wNil)))))) (wSeq (wSet 4 (wOrE (wCall 3 p_row_from (wCons (wVar 1) (wCons (wUn dLen (wVarB 3)) (wCons (wUn dLen (wVarB 3)) wNil)))) (wCallX 3 px_row_from We (wCons (wVar 1) (wCons (wUn dLen (wVarB 3)) (wCons (wUn dLen (wVarB 3)) wNil)))))) (wSeq (wDrop (wOrE (wCall 4 p_need_between (wCons (wC (.str "many")) (wCons (wVar 2) (wCons (wC (.int 1)) (wCons (wC kMOST_ITEMS) wNil))))) (wCallX 4 px_need_between We (wCons (wC (.str "many")) (wCons (wVar 2) (wCons (wC (.int 1)) (wCons (wC kMOST_ITEMS) wNil))))))) (wRet (wCall 3 p_power_row (wCons (wVar 3) (wCons (wVar 4) (wCons (wVar 2) wNil))))))))
/-- hankel: row, size, start, made -/
def Wx_hankel (We : EX) : WS := (wSeq (wSet 3 (wOrE (wCall 3 p_row_from (wCons (wVar 0) (wCons (wC (.int 1)) (wCons (wC kMOST_ITEMS) wNil)))) (wCallX 3 px_row_from We (wCons (wVar 0) (wCons (wC (.int 1)) (wCons (wC kMOST_ITEMS) wNil)))))) (wSeq (wDrop (wOrE (wCall 4 p_need_between (wCons (wC (.str "size")) (wCons (wVar 1) (wCons (wC (.int 1)) (wCons (wC kMOST) wNil))))) (wCallX 4 px_need_between We (wCons (wC (.str "size")) (wCons (wVar 1) (wCons (wC (.int 1)) (wCons (wC kMOST) wNil))))))) (wSeq (wDrop (wOrE (wCall 4 p_need_between (wCons (wC (.str "start")) (wCons (wVar 2) (wCons (wC (.int 0)) (wCons (wC (.int 1)) wNil))))) (wCallX 4 px_need_between We (wCons (wC (.str "start")) (wCons (wVar 2) (wCons (wC (.int 0)) (wCons (wC (.int 1)) wNil))))))) (wSeq (wIfS (wT (wBin dLt (wUn dLen (wVarB 3)) (wBin dAdd (wBin dSub (wBin dMul (wC (.int 2)) (wVarB 1)) (wC (.int 1))) (wVarB 2)))) (wRaise "Unlike" ["what"] We (wCons (wC (.str "size")) wNil)) wNext) (wRet (wCall 3 p_hankel_by (wCons (wVar 3) (wCons (wVar 1) (wCons (wVar 2) wNil)))))))))
abbrev EnX : Ens := { nx := fun _ _ => False, rt := fun _ _ => False }
theorem hp_loose_row2 : ∀ ds b Q, ds.length = 1 → p_loose_row2 ds b Q → W_loose_row { nx := fun _ b' => Q .non b', rt := Q } (ds.map Slot.v ++ List.replicate 1 .un) b := by
  rintro ds b Q hl (h | ⟨d, rfl, hd, q⟩)
  · exact hp_loose_row ds b Q hl h
  · show W_loose_row _ [.v d, .un] b
    have ht : d.ty.isSome = true := by cases d <;> first | rfl | (simp [D.noRow, D.ty] at hd; done)
    cases d <;> try (first | ((try simp only [wSeq, wSet, wSetO, wRet, wIfS, wFrz, wApp, wDrop, wNext, wBreak, wCont, wNever, wVar, wVarB, wC, wBin, wUn, wT, wAnd, wOr, wNot, wAndV, wOrV, wNotV, wIte, wNil, wCons, wTup, wCall, wListOf, wC2, wIsT, wIsC, wFld, wON, wOS, wSl, wV, wO, wSetIx, wPar, wSwap, wSeqOf, wRng1, wRng2, wFor, wWhile, wYes, wComp, wEnum, wZip, wEnum2, wRgT, wRgL, wAug, dMulT, dMax, wMake, wFz, wCat, wRep, wipeE, D.ty, wIf_true, wIf_false, List.getElem?_cons_zero, List.getElem?_cons_succ, List.set_cons_zero, List.set_cons_succ, dI0_ii, dI_ii, dNeg_i, dGcd_ii, dAbs_i, dInt_i, dInt_b, dBits_i, dLen_t, dLen_l, dTuple_t, dTuple_l, dAdd_ii, dAdd_tt, dAdd_ll, dAdd_ss, dMul_ii, dMul_li, dIs_n, dIs_b, dIsN_n, dRepr_b, rt_0, rt_1, dEq, dNe, dSub, dDiv, dDivU, dMod, dLt, dLe, dGt, dGe, D.isNon, Bool.not_true, Bool.not_false, W_loose_row, f_tuple]); exact q) | (cases ht; done))
    rename_i es
    obtain ⟨h1, h2, h3⟩ := hd
    (try simp only [wSeq, wSet, wSetO, wRet, wIfS, wFrz, wApp, wDrop, wNext, wBreak, wCont, wNever, wVar, wVarB, wC, wBin, wUn, wT, wAnd, wOr, wNot, wAndV, wOrV, wNotV, wIte, wNil, wCons, wTup, wCall, wListOf, wC2, wIsT, wIsC, wFld, wON, wOS, wSl, wV, wO, wSetIx, wPar, wSwap, wSeqOf, wRng1, wRng2, wFor, wWhile, wYes, wComp, wEnum, wZip, wEnum2, wRgT, wRgL, wAug, dMulT, dMax, wMake, wFz, wCat, wRep, wipeE, D.ty, wIf_true, wIf_false, List.getElem?_cons_zero, List.getElem?_cons_succ, List.set_cons_zero, List.set_cons_succ, dI0_ii, dI_ii, dNeg_i, dGcd_ii, dAbs_i, dInt_i, dInt_b, dBits_i, dLen_t, dLen_l, dTuple_t, dTuple_l, dAdd_ii, dAdd_tt, dAdd_ll, dAdd_ss, dMul_ii, dMul_li, dIs_n, dIs_b, dIsN_n, dRepr_b, rt_0, rt_1, dEq, dNe, dSub, dDiv, dDivU, dMod, dLt, dLe, dGt, dGe, D.isNon, Bool.not_true, Bool.not_false, W_loose_row, f_tuple])
    refine ⟨h1, cmp_map (fun d => .bl d.loose) es _ (fun d hd => ⟨_, rfl, fun K k => ?_⟩) ?_⟩
    · (try simp only [wSeq, wSet, wSetO, wRet, wIfS, wFrz, wApp, wDrop, wNext, wBreak, wCont, wNever, wVar, wVarB, wC, wBin, wUn, wT, wAnd, wOr, wNot, wAndV, wOrV, wNotV, wIte, wNil, wCons, wTup, wCall, wListOf, wC2, wIsT, wIsC, wFld, wON, wOS, wSl, wV, wO, wSetIx, wPar, wSwap, wSeqOf, wRng1, wRng2, wFor, wWhile, wYes, wComp, wEnum, wZip, wEnum2, wRgT, wRgL, wAug, dMulT, dMax, wMake, wFz, wCat, wRep, wipeE, D.ty, wIf_true, wIf_false, List.getElem?_cons_zero, List.getElem?_cons_succ, List.set_cons_zero, List.set_cons_succ, dI0_ii, dI_ii, dNeg_i, dGcd_ii, dAbs_i, dInt_i, dInt_b, dBits_i, dLen_t, dLen_l, dTuple_t, dTuple_l, dAdd_ii, dAdd_tt, dAdd_ll, dAdd_ss, dMul_ii, dMul_li, dIs_n, dIs_b, dIsN_n, dRepr_b, rt_0, rt_1, dEq, dNe, dSub, dDiv, dDivU, dMod, dLt, dLe, dGt, dGe, D.isNon, Bool.not_true, Bool.not_false])
      exact ⟨rfl, d, rfl, h2 d hd, k⟩
    · refine ⟨es.map D.loose, by rw [List.map_map]; rfl, ?_⟩
      rw [show (es.map D.loose).all id = false by rw [List.all_map]; exact h3]
      (try simp only [wSeq, wSet, wSetO, wRet, wIfS, wFrz, wApp, wDrop, wNext, wBreak, wCont, wNever, wVar, wVarB, wC, wBin, wUn, wT, wAnd, wOr, wNot, wAndV, wOrV, wNotV, wIte, wNil, wCons, wTup, wCall, wListOf, wC2, wIsT, wIsC, wFld, wON, wOS, wSl, wV, wO, wSetIx, wPar, wSwap, wSeqOf, wRng1, wRng2, wFor, wWhile, wYes, wComp, wEnum, wZip, wEnum2, wRgT, wRgL, wAug, dMulT, dMax, wMake, wFz, wCat, wRep, wipeE, D.ty, wIf_true, wIf_false, List.getElem?_cons_zero, List.getElem?_cons_succ, List.set_cons_zero, List.set_cons_succ, dI0_ii, dI_ii, dNeg_i, dGcd_ii, dAbs_i, dInt_i, dInt_b, dBits_i, dLen_t, dLen_l, dTuple_t, dTuple_l, dAdd_ii, dAdd_tt, dAdd_ll, dAdd_ss, dMul_ii, dMul_li, dIs_n, dIs_b, dIsN_n, dRepr_b, rt_0, rt_1, dEq, dNe, dSub, dDiv, dDivU, dMod, dLt, dLe, dGt, dGe, D.isNon, Bool.not_true, Bool.not_false])
      exact q
theorem hpx_row_from : ∀ ds b W, ds.length = 3 → px_row_from ds b W → Wx_row_from W EnX (ds.map Slot.v ++ List.replicate 1 .un) b := by
  rintro ds b W - ⟨d, lo, hi, rfl, ⟨hf, hb⟩, w⟩
  show Wx_row_from W _ [.v d, .v (.int lo), .v (.int hi), .un] b
  (try simp only [wSeq, wSet, wSetO, wRet, wIfS, wFrz, wApp, wDrop, wNext, wBreak, wCont, wNever, wVar, wVarB, wC, wBin, wUn, wT, wAnd, wOr, wNot, wAndV, wOrV, wNotV, wIte, wNil, wCons, wTup, wCall, wListOf, wC2, wIsT, wIsC, wFld, wON, wOS, wSl, wV, wO, wSetIx, wPar, wSwap, wSeqOf, wRng1, wRng2, wFor, wWhile, wYes, wComp, wEnum, wZip, wEnum2, wRgT, wRgL, wAug, dMulT, dMax, wMake, wFz, wCat, wRep, wipeE, D.ty, wIf_true, wIf_false, List.getElem?_cons_zero, List.getElem?_cons_succ, List.set_cons_zero, List.set_cons_succ, dI0_ii, dI_ii, dNeg_i, dGcd_ii, dAbs_i, dInt_i, dInt_b, dBits_i, dLen_t, dLen_l, dTuple_t, dTuple_l, dAdd_ii, dAdd_tt, dAdd_ll, dAdd_ss, dMul_ii, dMul_li, dIs_n, dIs_b, dIsN_n, dRepr_b, rt_0, rt_1, dEq, dNe, dSub, dDiv, dDivU, dMod, dLt, dLe, dGt, dGe, D.isNon, Bool.not_true, Bool.not_false, Wx_row_from, wRaise])
  refine ⟨rfl, d, rfl, hf, ?_⟩
  rcases hb with hb | ⟨es, rs, h1, h2, h3, h4⟩
  · refine ⟨rfl, .inr ⟨_, rfl, hb, ?_⟩⟩
    (try simp only [wSeq, wSet, wSetO, wRet, wIfS, wFrz, wApp, wDrop, wNext, wBreak, wCont, wNever, wVar, wVarB, wC, wBin, wUn, wT, wAnd, wOr, wNot, wAndV, wOrV, wNotV, wIte, wNil, wCons, wTup, wCall, wListOf, wC2, wIsT, wIsC, wFld, wON, wOS, wSl, wV, wO, wSetIx, wPar, wSwap, wSeqOf, wRng1, wRng2, wFor, wWhile, wYes, wComp, wEnum, wZip, wEnum2, wRgT, wRgL, wAug, dMulT, dMax, wMake, wFz, wCat, wRep, wipeE, D.ty, wIf_true, wIf_false, List.getElem?_cons_zero, List.getElem?_cons_succ, List.set_cons_zero, List.set_cons_succ, dI0_ii, dI_ii, dNeg_i, dGcd_ii, dAbs_i, dInt_i, dInt_b, dBits_i, dLen_t, dLen_l, dTuple_t, dTuple_l, dAdd_ii, dAdd_tt, dAdd_ll, dAdd_ss, dMul_ii, dMul_li, dIs_n, dIs_b, dIsN_n, dRepr_b, rt_0, rt_1, dEq, dNe, dSub, dDiv, dDivU, dMod, dLt, dLe, dGt, dGe, D.isNon, Bool.not_true, Bool.not_false])
    exact ⟨rfl, w⟩
  · rw [h1]
    refine ⟨rfl, .inl ⟨es, rs, rfl, h3, h2, ?_⟩⟩
    (try simp only [wSeq, wSet, wSetO, wRet, wIfS, wFrz, wApp, wDrop, wNext, wBreak, wCont, wNever, wVar, wVarB, wC, wBin, wUn, wT, wAnd, wOr, wNot, wAndV, wOrV, wNotV, wIte, wNil, wCons, wTup, wCall, wListOf, wC2, wIsT, wIsC, wFld, wON, wOS, wSl, wV, wO, wSetIx, wPar, wSwap, wSeqOf, wRng1, wRng2, wFor, wWhile, wYes, wComp, wEnum, wZip, wEnum2, wRgT, wRgL, wAug, dMulT, dMax, wMake, wFz, wCat, wRep, wipeE, D.ty, wIf_true, wIf_false, List.getElem?_cons_zero, List.getElem?_cons_succ, List.set_cons_zero, List.set_cons_succ, dI0_ii, dI_ii, dNeg_i, dGcd_ii, dAbs_i, dInt_i, dInt_b, dBits_i, dLen_t, dLen_l, dTuple_t, dTuple_l, dAdd_ii, dAdd_tt, dAdd_ll, dAdd_ss, dMul_ii, dMul_li, dIs_n, dIs_b, dIsN_n, dRepr_b, rt_0, rt_1, dEq, dNe, dSub, dDiv, dDivU, dMod, dLt, dLe, dGt, dGe, D.isNon, Bool.not_true, Bool.not_false, wChain])
    by_cases z : lo ≤ ((rs.map rt).length : Int)
    · rw [decide_eq_true z]
      (try simp only [wSeq, wSet, wSetO, wRet, wIfS, wFrz, wApp, wDrop, wNext, wBreak, wCont, wNever, wVar, wVarB, wC, wBin, wUn, wT, wAnd, wOr, wNot, wAndV, wOrV, wNotV, wIte, wNil, wCons, wTup, wCall, wListOf, wC2, wIsT, wIsC, wFld, wON, wOS, wSl, wV, wO, wSetIx, wPar, wSwap, wSeqOf, wRng1, wRng2, wFor, wWhile, wYes, wComp, wEnum, wZip, wEnum2, wRgT, wRgL, wAug, dMulT, dMax, wMake, wFz, wCat, wRep, wipeE, D.ty, wIf_true, wIf_false, List.getElem?_cons_zero, List.getElem?_cons_succ, List.set_cons_zero, List.set_cons_succ, dI0_ii, dI_ii, dNeg_i, dGcd_ii, dAbs_i, dInt_i, dInt_b, dBits_i, dLen_t, dLen_l, dTuple_t, dTuple_l, dAdd_ii, dAdd_tt, dAdd_ll, dAdd_ss, dMul_ii, dMul_li, dIs_n, dIs_b, dIsN_n, dRepr_b, rt_0, rt_1, dEq, dNe, dSub, dDiv, dDivU, dMod, dLt, dLe, dGt, dGe, D.isNon, Bool.not_true, Bool.not_false])
      rw [decide_eq_false (show ¬ ((rs.map rt).length : Int) ≤ hi from fun y => h4 ⟨by simpa using z, by simpa using y⟩)]
      (try simp only [wSeq, wSet, wSetO, wRet, wIfS, wFrz, wApp, wDrop, wNext, wBreak, wCont, wNever, wVar, wVarB, wC, wBin, wUn, wT, wAnd, wOr, wNot, wAndV, wOrV, wNotV, wIte, wNil, wCons, wTup, wCall, wListOf, wC2, wIsT, wIsC, wFld, wON, wOS, wSl, wV, wO, wSetIx, wPar, wSwap, wSeqOf, wRng1, wRng2, wFor, wWhile, wYes, wComp, wEnum, wZip, wEnum2, wRgT, wRgL, wAug, dMulT, dMax, wMake, wFz, wCat, wRep, wipeE, D.ty, wIf_true, wIf_false, List.getElem?_cons_zero, List.getElem?_cons_succ, List.set_cons_zero, List.set_cons_succ, dI0_ii, dI_ii, dNeg_i, dGcd_ii, dAbs_i, dInt_i, dInt_b, dBits_i, dLen_t, dLen_l, dTuple_t, dTuple_l, dAdd_ii, dAdd_tt, dAdd_ll, dAdd_ss, dMul_ii, dMul_li, dIs_n, dIs_b, dIsN_n, dRepr_b, rt_0, rt_1, dEq, dNe, dSub, dDiv, dDivU, dMod, dLt, dLe, dGt, dGe, D.isNon, Bool.not_true, Bool.not_false])
      exact ⟨rfl, w⟩
    · rw [decide_eq_false z]
      (try simp only [wSeq, wSet, wSetO, wRet, wIfS, wFrz, wApp, wDrop, wNext, wBreak, wCont, wNever, wVar, wVarB, wC, wBin, wUn, wT, wAnd, wOr, wNot, wAndV, wOrV, wNotV, wIte, wNil, wCons, wTup, wCall, wListOf, wC2, wIsT, wIsC, wFld, wON, wOS, wSl, wV, wO, wSetIx, wPar, wSwap, wSeqOf, wRng1, wRng2, wFor, wWhile, wYes, wComp, wEnum, wZip, wEnum2, wRgT, wRgL, wAug, dMulT, dMax, wMake, wFz, wCat, wRep, wipeE, D.ty, wIf_true, wIf_false, List.getElem?_cons_zero, List.getElem?_cons_succ, List.set_cons_zero, List.set_cons_succ, dI0_ii, dI_ii, dNeg_i, dGcd_ii, dAbs_i, dInt_i, dInt_b, dBits_i, dLen_t, dLen_l, dTuple_t, dTuple_l, dAdd_ii, dAdd_tt, dAdd_ll, dAdd_ss, dMul_ii, dMul_li, dIs_n, dIs_b, dIsN_n, dRepr_b, rt_0, rt_1, dEq, dNe, dSub, dDiv, dDivU, dMod, dLt, dLe, dGt, dGe, D.isNon, Bool.not_true, Bool.not_false])
      exact ⟨rfl, w⟩
theorem hpx_need_between : ∀ ds b W, ds.length = 4 → px_need_between ds b W → Wx_need_between W EnX (ds.map Slot.v ++ List.replicate 0 .un) b := by
  rintro ds b W - ⟨s, d, lo, hi, rfl, ⟨ht, hb⟩, w⟩
  show Wx_need_between W _ [.v s, .v d, .v (.int lo), .v (.int hi)] b
  (try simp only [wSeq, wSet, wSetO, wRet, wIfS, wFrz, wApp, wDrop, wNext, wBreak, wCont, wNever, wVar, wVarB, wC, wBin, wUn, wT, wAnd, wOr, wNot, wAndV, wOrV, wNotV, wIte, wNil, wCons, wTup, wCall, wListOf, wC2, wIsT, wIsC, wFld, wON, wOS, wSl, wV, wO, wSetIx, wPar, wSwap, wSeqOf, wRng1, wRng2, wFor, wWhile, wYes, wComp, wEnum, wZip, wEnum2, wRgT, wRgL, wAug, dMulT, dMax, wMake, wFz, wCat, wRep, wipeE, D.ty, wIf_true, wIf_false, List.getElem?_cons_zero, List.getElem?_cons_succ, List.set_cons_zero, List.set_cons_succ, dI0_ii, dI_ii, dNeg_i, dGcd_ii, dAbs_i, dInt_i, dInt_b, dBits_i, dLen_t, dLen_l, dTuple_t, dTuple_l, dAdd_ii, dAdd_tt, dAdd_ll, dAdd_ss, dMul_ii, dMul_li, dIs_n, dIs_b, dIsN_n, dRepr_b, rt_0, rt_1, dEq, dNe, dSub, dDiv, dDivU, dMod, dLt, dLe, dGt, dGe, D.isNon, Bool.not_true, Bool.not_false, Wx_need_between, wRaise])
  refine ⟨rfl, d, rfl, ht, ?_⟩
  rcases hb with hb | ⟨n, rfl, hn⟩
  · rw [hb]
    (try simp only [wSeq, wSet, wSetO, wRet, wIfS, wFrz, wApp, wDrop, wNext, wBreak, wCont, wNever, wVar, wVarB, wC, wBin, wUn, wT, wAnd, wOr, wNot, wAndV, wOrV, wNotV, wIte, wNil, wCons, wTup, wCall, wListOf, wC2, wIsT, wIsC, wFld, wON, wOS, wSl, wV, wO, wSetIx, wPar, wSwap, wSeqOf, wRng1, wRng2, wFor, wWhile, wYes, wComp, wEnum, wZip, wEnum2, wRgT, wRgL, wAug, dMulT, dMax, wMake, wFz, wCat, wRep, wipeE, D.ty, wIf_true, wIf_false, List.getElem?_cons_zero, List.getElem?_cons_succ, List.set_cons_zero, List.set_cons_succ, dI0_ii, dI_ii, dNeg_i, dGcd_ii, dAbs_i, dInt_i, dInt_b, dBits_i, dLen_t, dLen_l, dTuple_t, dTuple_l, dAdd_ii, dAdd_tt, dAdd_ll, dAdd_ss, dMul_ii, dMul_li, dIs_n, dIs_b, dIsN_n, dRepr_b, rt_0, rt_1, dEq, dNe, dSub, dDiv, dDivU, dMod, dLt, dLe, dGt, dGe, D.isNon, Bool.not_true, Bool.not_false])
    exact ⟨rfl, w⟩
  · rw [show (D.int n).isInt = true by rfl]
    (try simp only [wSeq, wSet, wSetO, wRet, wIfS, wFrz, wApp, wDrop, wNext, wBreak, wCont, wNever, wVar, wVarB, wC, wBin, wUn, wT, wAnd, wOr, wNot, wAndV, wOrV, wNotV, wIte, wNil, wCons, wTup, wCall, wListOf, wC2, wIsT, wIsC, wFld, wON, wOS, wSl, wV, wO, wSetIx, wPar, wSwap, wSeqOf, wRng1, wRng2, wFor, wWhile, wYes, wComp, wEnum, wZip, wEnum2, wRgT, wRgL, wAug, dMulT, dMax, wMake, wFz, wCat, wRep, wipeE, D.ty, wIf_true, wIf_false, List.getElem?_cons_zero, List.getElem?_cons_succ, List.set_cons_zero, List.set_cons_succ, dI0_ii, dI_ii, dNeg_i, dGcd_ii, dAbs_i, dInt_i, dInt_b, dBits_i, dLen_t, dLen_l, dTuple_t, dTuple_l, dAdd_ii, dAdd_tt, dAdd_ll, dAdd_ss, dMul_ii, dMul_li, dIs_n, dIs_b, dIsN_n, dRepr_b, rt_0, rt_1, dEq, dNe, dSub, dDiv, dDivU, dMod, dLt, dLe, dGt, dGe, D.isNon, Bool.not_true, Bool.not_false])
    by_cases z : n < lo
    · rw [decide_eq_true z]
      (try simp only [wSeq, wSet, wSetO, wRet, wIfS, wFrz, wApp, wDrop, wNext, wBreak, wCont, wNever, wVar, wVarB, wC, wBin, wUn, wT, wAnd, wOr, wNot, wAndV, wOrV, wNotV, wIte, wNil, wCons, wTup, wCall, wListOf, wC2, wIsT, wIsC, wFld, wON, wOS, wSl, wV, wO, wSetIx, wPar, wSwap, wSeqOf, wRng1, wRng2, wFor, wWhile, wYes, wComp, wEnum, wZip, wEnum2, wRgT, wRgL, wAug, dMulT, dMax, wMake, wFz, wCat, wRep, wipeE, D.ty, wIf_true, wIf_false, List.getElem?_cons_zero, List.getElem?_cons_succ, List.set_cons_zero, List.set_cons_succ, dI0_ii, dI_ii, dNeg_i, dGcd_ii, dAbs_i, dInt_i, dInt_b, dBits_i, dLen_t, dLen_l, dTuple_t, dTuple_l, dAdd_ii, dAdd_tt, dAdd_ll, dAdd_ss, dMul_ii, dMul_li, dIs_n, dIs_b, dIsN_n, dRepr_b, rt_0, rt_1, dEq, dNe, dSub, dDiv, dDivU, dMod, dLt, dLe, dGt, dGe, D.isNon, Bool.not_true, Bool.not_false])
      exact ⟨rfl, w⟩
    · rw [decide_eq_false z]
      (try simp only [wSeq, wSet, wSetO, wRet, wIfS, wFrz, wApp, wDrop, wNext, wBreak, wCont, wNever, wVar, wVarB, wC, wBin, wUn, wT, wAnd, wOr, wNot, wAndV, wOrV, wNotV, wIte, wNil, wCons, wTup, wCall, wListOf, wC2, wIsT, wIsC, wFld, wON, wOS, wSl, wV, wO, wSetIx, wPar, wSwap, wSeqOf, wRng1, wRng2, wFor, wWhile, wYes, wComp, wEnum, wZip, wEnum2, wRgT, wRgL, wAug, dMulT, dMax, wMake, wFz, wCat, wRep, wipeE, D.ty, wIf_true, wIf_false, List.getElem?_cons_zero, List.getElem?_cons_succ, List.set_cons_zero, List.set_cons_succ, dI0_ii, dI_ii, dNeg_i, dGcd_ii, dAbs_i, dInt_i, dInt_b, dBits_i, dLen_t, dLen_l, dTuple_t, dTuple_l, dAdd_ii, dAdd_tt, dAdd_ll, dAdd_ss, dMul_ii, dMul_li, dIs_n, dIs_b, dIsN_n, dRepr_b, rt_0, rt_1, dEq, dNe, dSub, dDiv, dDivU, dMod, dLt, dLe, dGt, dGe, D.isNon, Bool.not_true, Bool.not_false])
      rw [decide_eq_true (show hi < n by omega)]
      (try simp only [wSeq, wSet, wSetO, wRet, wIfS, wFrz, wApp, wDrop, wNext, wBreak, wCont, wNever, wVar, wVarB, wC, wBin, wUn, wT, wAnd, wOr, wNot, wAndV, wOrV, wNotV, wIte, wNil, wCons, wTup, wCall, wListOf, wC2, wIsT, wIsC, wFld, wON, wOS, wSl, wV, wO, wSetIx, wPar, wSwap, wSeqOf, wRng1, wRng2, wFor, wWhile, wYes, wComp, wEnum, wZip, wEnum2, wRgT, wRgL, wAug, dMulT, dMax, wMake, wFz, wCat, wRep, wipeE, D.ty, wIf_true, wIf_false, List.getElem?_cons_zero, List.getElem?_cons_succ, List.set_cons_zero, List.set_cons_succ, dI0_ii, dI_ii, dNeg_i, dGcd_ii, dAbs_i, dInt_i, dInt_b, dBits_i, dLen_t, dLen_l, dTuple_t, dTuple_l, dAdd_ii, dAdd_tt, dAdd_ll, dAdd_ss, dMul_ii, dMul_li, dIs_n, dIs_b, dIsN_n, dRepr_b, rt_0, rt_1, dEq, dNe, dSub, dDiv, dDivU, dMod, dLt, dLe, dGt, dGe, D.isNon, Bool.not_true, Bool.not_false])
      exact ⟨rfl, w⟩
theorem hpx_power_sums : ∀ ds b W, ds.length = 3 → px_power_sums ds b W → Wx_power_sums W EnX (ds.map Slot.v ++ List.replicate 2 .un) b := by
  rintro ds b W - ⟨d, e, m, rfl, h⟩
  show Wx_power_sums W _ [.v d, .v e, .v m, .un, .un] b
  (try simp only [wSeq, wSet, wSetO, wRet, wIfS, wFrz, wApp, wDrop, wNext, wBreak, wCont, wNever, wVar, wVarB, wC, wBin, wUn, wT, wAnd, wOr, wNot, wAndV, wOrV, wNotV, wIte, wNil, wCons, wTup, wCall, wListOf, wC2, wIsT, wIsC, wFld, wON, wOS, wSl, wV, wO, wSetIx, wPar, wSwap, wSeqOf, wRng1, wRng2, wFor, wWhile, wYes, wComp, wEnum, wZip, wEnum2, wRgT, wRgL, wAug, dMulT, dMax, wMake, wFz, wCat, wRep, wipeE, D.ty, wIf_true, wIf_false, List.getElem?_cons_zero, List.getElem?_cons_succ, List.set_cons_zero, List.set_cons_succ, dI0_ii, dI_ii, dNeg_i, dGcd_ii, dAbs_i, dInt_i, dInt_b, dBits_i, dLen_t, dLen_l, dTuple_t, dTuple_l, dAdd_ii, dAdd_tt, dAdd_ll, dAdd_ss, dMul_ii, dMul_li, dIs_n, dIs_b, dIsN_n, dRepr_b, rt_0, rt_1, dEq, dNe, dSub, dDiv, dDivU, dMod, dLt, dLe, dGt, dGe, D.isNon, Bool.not_true, Bool.not_false, Wx_power_sums, wOrE, wCallX, kMOST, kMOST_ITEMS])
  rcases h with ⟨hb, w⟩ | ⟨ps, ⟨f1, es, t1, r1, l1⟩, h1, h2, h⟩
  · exact .inr ⟨rfl, d, 1, 6, rfl, hb, w⟩
  · refine .inl ⟨rfl, d, es, ps, 1, 6, rfl, f1, t1, r1, l1, by omega, by omega, ?_⟩
    (try simp only [wSeq, wSet, wSetO, wRet, wIfS, wFrz, wApp, wDrop, wNext, wBreak, wCont, wNever, wVar, wVarB, wC, wBin, wUn, wT, wAnd, wOr, wNot, wAndV, wOrV, wNotV, wIte, wNil, wCons, wTup, wCall, wListOf, wC2, wIsT, wIsC, wFld, wON, wOS, wSl, wV, wO, wSetIx, wPar, wSwap, wSeqOf, wRng1, wRng2, wFor, wWhile, wYes, wComp, wEnum, wZip, wEnum2, wRgT, wRgL, wAug, dMulT, dMax, wMake, wFz, wCat, wRep, wipeE, D.ty, wIf_true, wIf_false, List.getElem?_cons_zero, List.getElem?_cons_succ, List.set_cons_zero, List.set_cons_succ, dI0_ii, dI_ii, dNeg_i, dGcd_ii, dAbs_i, dInt_i, dInt_b, dBits_i, dLen_t, dLen_l, dTuple_t, dTuple_l, dAdd_ii, dAdd_tt, dAdd_ll, dAdd_ss, dMul_ii, dMul_li, dIs_n, dIs_b, dIsN_n, dRepr_b, rt_0, rt_1, dEq, dNe, dSub, dDiv, dDivU, dMod, dLt, dLe, dGt, dGe, D.isNon, Bool.not_true, Bool.not_false])
    rw [List.length_map]
    rcases h with ⟨hb, w⟩ | ⟨ws, ⟨f2, es2, t2, r2, l2⟩, h3, hb, w⟩
    · exact .inr ⟨rfl, e, _, _, rfl, hb, w⟩
    · refine .inl ⟨rfl, e, es2, ws, (ps.length : Int), (ps.length : Int), rfl, f2, t2, r2, l2, by omega, by omega, ?_⟩
      (try simp only [wSeq, wSet, wSetO, wRet, wIfS, wFrz, wApp, wDrop, wNext, wBreak, wCont, wNever, wVar, wVarB, wC, wBin, wUn, wT, wAnd, wOr, wNot, wAndV, wOrV, wNotV, wIte, wNil, wCons, wTup, wCall, wListOf, wC2, wIsT, wIsC, wFld, wON, wOS, wSl, wV, wO, wSetIx, wPar, wSwap, wSeqOf, wRng1, wRng2, wFor, wWhile, wYes, wComp, wEnum, wZip, wEnum2, wRgT, wRgL, wAug, dMulT, dMax, wMake, wFz, wCat, wRep, wipeE, D.ty, wIf_true, wIf_false, List.getElem?_cons_zero, List.getElem?_cons_succ, List.set_cons_zero, List.set_cons_succ, dI0_ii, dI_ii, dNeg_i, dGcd_ii, dAbs_i, dInt_i, dInt_b, dBits_i, dLen_t, dLen_l, dTuple_t, dTuple_l, dAdd_ii, dAdd_tt, dAdd_ll, dAdd_ss, dMul_ii, dMul_li, dIs_n, dIs_b, dIsN_n, dRepr_b, rt_0, rt_1, dEq, dNe, dSub, dDiv, dDivU, dMod, dLt, dLe, dGt, dGe, D.isNon, Bool.not_true, Bool.not_false])
      exact .inr ⟨rfl, _, m, 1, 12, rfl, hb, w⟩
theorem hpx_hankel : ∀ ds b W, ds.length = 3 → px_hankel ds b W → Wx_hankel W EnX (ds.map Slot.v ++ List.replicate 1 .un) b := by
  rintro ds b W - ⟨d, sz, st, rfl, h⟩
  show Wx_hankel W _ [.v d, .v sz, .v st, .un] b
  (try simp only [wSeq, wSet, wSetO, wRet, wIfS, wFrz, wApp, wDrop, wNext, wBreak, wCont, wNever, wVar, wVarB, wC, wBin, wUn, wT, wAnd, wOr, wNot, wAndV, wOrV, wNotV, wIte, wNil, wCons, wTup, wCall, wListOf, wC2, wIsT, wIsC, wFld, wON, wOS, wSl, wV, wO, wSetIx, wPar, wSwap, wSeqOf, wRng1, wRng2, wFor, wWhile, wYes, wComp, wEnum, wZip, wEnum2, wRgT, wRgL, wAug, dMulT, dMax, wMake, wFz, wCat, wRep, wipeE, D.ty, wIf_true, wIf_false, List.getElem?_cons_zero, List.getElem?_cons_succ, List.set_cons_zero, List.set_cons_succ, dI0_ii, dI_ii, dNeg_i, dGcd_ii, dAbs_i, dInt_i, dInt_b, dBits_i, dLen_t, dLen_l, dTuple_t, dTuple_l, dAdd_ii, dAdd_tt, dAdd_ll, dAdd_ss, dMul_ii, dMul_li, dIs_n, dIs_b, dIsN_n, dRepr_b, rt_0, rt_1, dEq, dNe, dSub, dDiv, dDivU, dMod, dLt, dLe, dGt, dGe, D.isNon, Bool.not_true, Bool.not_false, Wx_hankel, wOrE, wCallX, wRaise, kMOST, kMOST_ITEMS])
  rcases h with ⟨hb, w⟩ | ⟨xs, ⟨f1, es, t1, r1, l1⟩, h1, h2, h⟩
  · exact .inr ⟨rfl, d, 1, 12, rfl, hb, w⟩
  · refine .inl ⟨rfl, d, es, xs, 1, 12, rfl, f1, t1, r1, l1, by omega, by omega, ?_⟩
    (try simp only [wSeq, wSet, wSetO, wRet, wIfS, wFrz, wApp, wDrop, wNext, wBreak, wCont, wNever, wVar, wVarB, wC, wBin, wUn, wT, wAnd, wOr, wNot, wAndV, wOrV, wNotV, wIte, wNil, wCons, wTup, wCall, wListOf, wC2, wIsT, wIsC, wFld, wON, wOS, wSl, wV, wO, wSetIx, wPar, wSwap, wSeqOf, wRng1, wRng2, wFor, wWhile, wYes, wComp, wEnum, wZip, wEnum2, wRgT, wRgL, wAug, dMulT, dMax, wMake, wFz, wCat, wRep, wipeE, D.ty, wIf_true, wIf_false, List.getElem?_cons_zero, List.getElem?_cons_succ, List.set_cons_zero, List.set_cons_succ, dI0_ii, dI_ii, dNeg_i, dGcd_ii, dAbs_i, dInt_i, dInt_b, dBits_i, dLen_t, dLen_l, dTuple_t, dTuple_l, dAdd_ii, dAdd_tt, dAdd_ll, dAdd_ss, dMul_ii, dMul_li, dIs_n, dIs_b, dIsN_n, dRepr_b, rt_0, rt_1, dEq, dNe, dSub, dDiv, dDivU, dMod, dLt, dLe, dGt, dGe, D.isNon, Bool.not_true, Bool.not_false])
    rcases h with ⟨hb, w⟩ | ⟨size, rfl, h3, h4, h⟩
    · exact .inr ⟨rfl, _, sz, 1, 6, rfl, hb, w⟩
    · refine .inl ⟨rfl, _, (size : Int), 1, 6, rfl, by omega, by omega, ?_⟩
      (try simp only [wSeq, wSet, wSetO, wRet, wIfS, wFrz, wApp, wDrop, wNext, wBreak, wCont, wNever, wVar, wVarB, wC, wBin, wUn, wT, wAnd, wOr, wNot, wAndV, wOrV, wNotV, wIte, wNil, wCons, wTup, wCall, wListOf, wC2, wIsT, wIsC, wFld, wON, wOS, wSl, wV, wO, wSetIx, wPar, wSwap, wSeqOf, wRng1, wRng2, wFor, wWhile, wYes, wComp, wEnum, wZip, wEnum2, wRgT, wRgL, wAug, dMulT, dMax, wMake, wFz, wCat, wRep, wipeE, D.ty, wIf_true, wIf_false, List.getElem?_cons_zero, List.getElem?_cons_succ, List.set_cons_zero, List.set_cons_succ, dI0_ii, dI_ii, dNeg_i, dGcd_ii, dAbs_i, dInt_i, dInt_b, dBits_i, dLen_t, dLen_l, dTuple_t, dTuple_l, dAdd_ii, dAdd_tt, dAdd_ll, dAdd_ss, dMul_ii, dMul_li, dIs_n, dIs_b, dIsN_n, dRepr_b, rt_0, rt_1, dEq, dNe, dSub, dDiv, dDivU, dMod, dLt, dLe, dGt, dGe, D.isNon, Bool.not_true, Bool.not_false])
      rcases h with ⟨hb, w⟩ | ⟨start, rfl, h5, h6, w⟩
      · exact .inr ⟨rfl, _, st, 0, 1, rfl, hb, w⟩
      · refine .inl ⟨rfl, _, (start : Int), 0, 1, rfl, by omega, by omega, ?_⟩
        (try simp only [wSeq, wSet, wSetO, wRet, wIfS, wFrz, wApp, wDrop, wNext, wBreak, wCont, wNever, wVar, wVarB, wC, wBin, wUn, wT, wAnd, wOr, wNot, wAndV, wOrV, wNotV, wIte, wNil, wCons, wTup, wCall, wListOf, wC2, wIsT, wIsC, wFld, wON, wOS, wSl, wV, wO, wSetIx, wPar, wSwap, wSeqOf, wRng1, wRng2, wFor, wWhile, wYes, wComp, wEnum, wZip, wEnum2, wRgT, wRgL, wAug, dMulT, dMax, wMake, wFz, wCat, wRep, wipeE, D.ty, wIf_true, wIf_false, List.getElem?_cons_zero, List.getElem?_cons_succ, List.set_cons_zero, List.set_cons_succ, dI0_ii, dI_ii, dNeg_i, dGcd_ii, dAbs_i, dInt_i, dInt_b, dBits_i, dLen_t, dLen_l, dTuple_t, dTuple_l, dAdd_ii, dAdd_tt, dAdd_ll, dAdd_ss, dMul_ii, dMul_li, dIs_n, dIs_b, dIsN_n, dRepr_b, rt_0, rt_1, dEq, dNe, dSub, dDiv, dDivU, dMod, dLt, dLe, dGt, dGe, D.isNon, Bool.not_true, Bool.not_false])
        rw [List.length_map]
        refine ⟨cmulW_of (k := 8) (l := 8) (by decide) (by omega) (by decide) (by decide) (by decide), ?_⟩
        rw [decide_eq_true (by omega)]
        (try simp only [wSeq, wSet, wSetO, wRet, wIfS, wFrz, wApp, wDrop, wNext, wBreak, wCont, wNever, wVar, wVarB, wC, wBin, wUn, wT, wAnd, wOr, wNot, wAndV, wOrV, wNotV, wIte, wNil, wCons, wTup, wCall, wListOf, wC2, wIsT, wIsC, wFld, wON, wOS, wSl, wV, wO, wSetIx, wPar, wSwap, wSeqOf, wRng1, wRng2, wFor, wWhile, wYes, wComp, wEnum, wZip, wEnum2, wRgT, wRgL, wAug, dMulT, dMax, wMake, wFz, wCat, wRep, wipeE, D.ty, wIf_true, wIf_false, List.getElem?_cons_zero, List.getElem?_cons_succ, List.set_cons_zero, List.set_cons_succ, dI0_ii, dI_ii, dNeg_i, dGcd_ii, dAbs_i, dInt_i, dInt_b, dBits_i, dLen_t, dLen_l, dTuple_t, dTuple_l, dAdd_ii, dAdd_tt, dAdd_ll, dAdd_ss, dMul_ii, dMul_li, dIs_n, dIs_b, dIsN_n, dRepr_b, rt_0, rt_1, dEq, dNe, dSub, dDiv, dDivU, dMod, dLt, dLe, dGt, dGe, D.isNon, Bool.not_true, Bool.not_false])
        exact ⟨rfl, w⟩
end En
/-! What the law of k78 hands to the defs that raise. -/
namespace En
open PySem PySem.Spec PyProof.Rows L2
theorem ones_row : ∀ n : Nat, RowR (List.replicate n (D.int 1)) (List.replicate n 1)
  | 0 => .nil
  | n + 1 => by
    rw [List.replicate_succ, List.replicate_succ]
    exact .cons (.inl ⟨1, rfl, rfl⟩) (ones_row n)
theorem ints_row {ns : List Int} : RowR (ns.map D.int) (ns.map fun (i : Int) => (i : Rat)) := by
  induction ns with
  | nil => exact .nil
  | cons n ns ih => exact .cons (.inl ⟨n, rfl, rfl⟩) ih
theorem passed_ints (ns : List Int) (h : ns.length < 1000000) : Passed (.tup (ns.map D.int)) (ns.map fun (i : Int) => (i : Rat)) := by
  have hr := ints_row (ns := ns)
  refine ⟨?_, ns.map D.int, by simp only [D.tupd, hr.tupds], hr, by simpa using h⟩
  simp only [D.fit, Bool.and_eq_true, decide_eq_true_eq]
  refine ⟨by simpa using h, ?_⟩
  clear h hr
  induction ns with
  | nil => rfl
  | cons x r ih => simp only [List.map_cons, D.fits, ih, Bool.and_true]; rfl
theorem bad_any {d : D} {lo hi : Int} (h1 : d.fit 9 = true) (h2 : d.tupd.noRow) : badRow d lo hi := ⟨h1, .inl h2⟩
theorem bad_len {ns : List Int} {lo hi : Int} (h : ns.length < 1000000) (hb : ¬ (lo ≤ (ns.length : Int) ∧ (ns.length : Int) ≤ hi)) : badRow (.tup (ns.map D.int)) lo hi := by
  obtain ⟨h1, es, h2, h3, h4⟩ := passed_ints ns h
  exact ⟨h1, .inr ⟨es, _, h2, h3, h4, by simpa using hb⟩⟩
def bads : List D := [.non, .int 5, .tup [], .tup [.str "1"], .tup [.bl true], .tup [.tup [.int 1, .int 0]], .tup [.int 1, .int 1, .int 1, .int 1, .int 1, .int 1, .int 1], .str "1"]
def wrongs : List D := [.non, .int 5, .tup [], .tup [.int 1, .int 2], .tup [.str "1"], .tup [.bl true]]
def fars : List D := [.int 0, .int 13, .non, .bl true, .str "2"]
def lows : List D := [.int 0, .int 7, .non, .bl true]
def starts : List D := [.int 2, .int (-1), .non, .bl true]
def longs : List D := [.non, .int 5, .tup [], .tup [.str "1"], .tup [.bl true], .tup [.int 1, .int 1, .int 1, .int 1, .int 1, .int 1, .int 1, .int 1, .int 1, .int 1, .int 1, .int 1, .int 1]]
theorem noStr {s : Str} : (D.tup [.str s]).tupd.noRow := ⟨by simp [D.tupds], by simp [D.tupds, D.tupd, D.shal], by simp [D.tupds, D.tupd, D.loose]⟩
theorem noBl : (D.tup [.bl true]).tupd.noRow := ⟨by decide, by simp [D.tupds, D.tupd, D.shal], by simp [D.tupds, D.tupd, D.loose]⟩
theorem bad_bads {d : D} (h : d ∈ bads) : badRow d 1 6 := by
  simp only [bads, List.mem_cons, List.not_mem_nil, or_false] at h
  rcases h with rfl | rfl | rfl | rfl | rfl | rfl | rfl | rfl
  · exact bad_any rfl rfl
  · exact bad_any rfl rfl
  · exact bad_len (ns := []) (by decide) (by decide)
  · exact bad_any rfl noStr
  · exact bad_any rfl noBl
  · exact bad_any rfl ⟨by decide, by simp [D.tupds, D.tupd, D.shal, D.ty], by simp [D.tupds, D.tupd, D.loose, D.isPair, pair2]⟩
  · exact bad_len (ns := [1, 1, 1, 1, 1, 1, 1]) (by decide) (by decide)
  · exact bad_any rfl rfl
theorem bad_wrongs {d : D} (h : d ∈ wrongs) : badRow d 1 1 := by
  simp only [wrongs, List.mem_cons, List.not_mem_nil, or_false] at h
  rcases h with rfl | rfl | rfl | rfl | rfl | rfl
  · exact bad_any rfl rfl
  · exact bad_any rfl rfl
  · exact bad_len (ns := []) (by decide) (by decide)
  · exact bad_len (ns := [1, 2]) (by decide) (by decide)
  · exact bad_any rfl noStr
  · exact bad_any rfl noBl
theorem bad_longs {d : D} (h : d ∈ longs) : badRow d 1 12 := by
  simp only [longs, List.mem_cons, List.not_mem_nil, or_false] at h
  rcases h with rfl | rfl | rfl | rfl | rfl | rfl
  · exact bad_any rfl rfl
  · exact bad_any rfl rfl
  · exact bad_len (ns := []) (by decide) (by decide)
  · exact bad_any rfl noStr
  · exact bad_any rfl noBl
  · exact bad_len (ns := [1, 1, 1, 1, 1, 1, 1, 1, 1, 1, 1, 1, 1]) (by decide) (by decide)
theorem bad_fars {d : D} (h : d ∈ fars) : badNum d 1 12 := by
  simp only [fars, List.mem_cons, List.not_mem_nil, or_false] at h
  rcases h with rfl | rfl | rfl | rfl | rfl
  · exact ⟨rfl, .inr ⟨0, rfl, by decide⟩⟩
  · exact ⟨rfl, .inr ⟨13, rfl, by decide⟩⟩
  · exact ⟨rfl, .inl rfl⟩
  · exact ⟨rfl, .inl rfl⟩
  · exact ⟨rfl, .inl rfl⟩
theorem bad_lows {d : D} (h : d ∈ lows) : badNum d 1 6 := by
  simp only [lows, List.mem_cons, List.not_mem_nil, or_false] at h
  rcases h with rfl | rfl | rfl | rfl
  · exact ⟨rfl, .inr ⟨0, rfl, by decide⟩⟩
  · exact ⟨rfl, .inr ⟨7, rfl, by decide⟩⟩
  · exact ⟨rfl, .inl rfl⟩
  · exact ⟨rfl, .inl rfl⟩
theorem bad_starts {d : D} (h : d ∈ starts) : badNum d 0 1 := by
  simp only [starts, List.mem_cons, List.not_mem_nil, or_false] at h
  rcases h with rfl | rfl | rfl | rfl
  · exact ⟨rfl, .inr ⟨2, rfl, by decide⟩⟩
  · exact ⟨rfl, .inr ⟨-1, rfl, by decide⟩⟩
  · exact ⟨rfl, .inl rfl⟩
  · exact ⟨rfl, .inl rfl⟩
theorem shows_in {tag : List D} {l : List D} (h : ∀ d ∈ l, ((D.tup (tag ++ [d])).flat 20 && (D.tup (tag ++ [d])).py.showable && decide ((D.tup (tag ++ [d])).py.shown.length ≤ sizeLine)) = true) {d : D} (hd : d ∈ l) : Shows (.tup (tag ++ [d])) := by
  have := h d hd
  simp only [Bool.and_eq_true, decide_eq_true_eq] at this
  exact ⟨this.1.1, this.1.2, this.2⟩
def shB (tag : List D) (l : List D) : Bool := l.all fun d => (D.tup (tag ++ [d])).flat 20 && (D.tup (tag ++ [d])).py.showable && decide ((D.tup (tag ++ [d])).py.shown.length ≤ sizeLine)
theorem shows_by {tag : List D} {l : List D} (h : shB tag l = true) {d : D} (hd : d ∈ l) : Shows (.tup (tag ++ [d])) := shows_in (fun d hd => List.all_eq_true.mp h d hd) hd
theorem sh_bads {d : D} (h : d ∈ bads) : Shows (.tup [.str "row", d]) := shows_by (tag := [.str "row"]) (by decide +kernel) h
theorem sh_wrongs {d : D} (h : d ∈ wrongs) : Shows (.tup [.str "row", d]) := shows_by (tag := [.str "row"]) (by decide +kernel) h
theorem sh_longs {d : D} (h : d ∈ longs) : Shows (.tup [.str "row", d]) := shows_by (tag := [.str "row"]) (by decide +kernel) h
theorem sh_fars {d : D} (h : d ∈ fars) : Shows (.tup [.str "number", .str "many", d]) := shows_by (tag := [.str "number", .str "many"]) (by decide +kernel) h
theorem sh_lows {d : D} (h : d ∈ lows) : Shows (.tup [.str "number", .str "size", d]) := shows_by (tag := [.str "number", .str "size"]) (by decide +kernel) h
theorem sh_starts {d : D} (h : d ∈ starts) : Shows (.tup [.str "number", .str "start", d]) := shows_by (tag := [.str "number", .str "start"]) (by decide +kernel) h
theorem sh_last : Shows (.tup [.str "unlike", .str "size"]) := shows_by (tag := [.str "unlike"]) (l := [.str "size"]) (by decide +kernel) List.mem_cons_self
end En
namespace En.K78
open PySem PySem.Spec PyProof.Rows L2 En
theorem un64 {k : Nat} {A : Around} (r : Room k A) : A.units + 64 < cLine := by have := r.un; omega
def topS (i : Nat) : Stmt := PySem.Challenge.pw_everyminor_k78_sums_of_powers_and_tables.main.body.getD i (.Pass ⟨0, 0, 0, 0⟩)
/-- the module's def x -/
structure Dd (K : PySem.W.Frag) (mg : Str → Option Value) (x : Str) (st : Stmt) (ps : List Str) : Prop where
  ex : ∃ (f : Addr) (fd : FuncData), mg x = some (.ref f) ∧ Fun K x x st f fd ∧ Binds K fd ps []
/-- what the module's names hold -/
structure TB (K : PySem.W.Frag) (mg : Str → Option Value) : Prop where
  b_isinstance : mg "isinstance" = none
  b_int : mg "int" = none
  b_bool : mg "bool" = none
  b_tuple : mg "tuple" = none
  b_list : mg "list" = none
  b_len : mg "len" = none
  b_abs : mg "abs" = none
  b_range : mg "range" = none
  b_zip : mg "zip" = none
  b_all : mg "all" = none
  b_repr : mg "repr" = none
  b_gcd : mg "gcd" = some (.builtin "math.gcd")
  v_NONE : ∃ (v : V) (u : Value), mg "NONE" = some u ∧ RelV v u ∧ ∀ (pa : Addr) (B : Addr → Prop) (H : Hp), FR K mg pa B H v kNONE
  v_ONE : ∃ (v : V) (u : Value), mg "ONE" = some u ∧ RelV v u ∧ ∀ (pa : Addr) (B : Addr → Prop) (H : Hp), FR K mg pa B H v kONE
  v_MOST : ∃ (v : V) (u : Value), mg "MOST" = some u ∧ RelV v u ∧ ∀ (pa : Addr) (B : Addr → Prop) (H : Hp), FR K mg pa B H v kMOST
  v_MOST_ITEMS : ∃ (v : V) (u : Value), mg "MOST_ITEMS" = some u ∧ RelV v u ∧ ∀ (pa : Addr) (B : Addr → Prop) (H : Hp), FR K mg pa B H v kMOST_ITEMS
section
variable {X : Cx} {pos : Pos}
theorem TB.c_NONE (T : TB X.K X.mg) (hg : Gl X "NONE") : QE X (.Name "NONE" pos) (wC kNONE) := by
  obtain ⟨v, u, h1, h2, h3⟩ := T.v_NONE
  exact qe_glob hg h1 h2 h3
theorem TB.c_ONE (T : TB X.K X.mg) (hg : Gl X "ONE") : QE X (.Name "ONE" pos) (wC kONE) := by
  obtain ⟨v, u, h1, h2, h3⟩ := T.v_ONE
  exact qe_glob hg h1 h2 h3
theorem TB.c_MOST (T : TB X.K X.mg) (hg : Gl X "MOST") : QE X (.Name "MOST" pos) (wC kMOST) := by
  obtain ⟨v, u, h1, h2, h3⟩ := T.v_MOST
  exact qe_glob hg h1 h2 h3
theorem TB.c_MOST_ITEMS (T : TB X.K X.mg) (hg : Gl X "MOST_ITEMS") : QE X (.Name "MOST_ITEMS" pos) (wC kMOST_ITEMS) := by
  obtain ⟨v, u, h1, h2, h3⟩ := T.v_MOST_ITEMS
  exact qe_glob hg h1 h2 h3
end
abbrev p__law_case : Spec := p__law_case78
abbrev hp__law_case := @hp__law_case78
def cs78 : CL := [("BadLot", "lot", ["lot"]), ("BadNumber", "number", ["what", "number"]), ("BadRow", "row", ["row"]), ("BadTable", "table", ["table"]), ("TooMany", "many", ["what", "many", "limit"]), ("Unlike", "unlike", ["what"])]
/-- an error class -/
structure DeC (K : PySem.W.Frag) (mg : Str → Option Value) (c qual : Str) (st : Stmt) (ps fs : List Str) : Prop where
  ex : ∃ (C f : Addr) (fd : FuncData), mg c = some (.ref C) ∧ OexC K C ∧ PySem.W.findIn K (.ref C) "__init__" = some (some (.ref f)) ∧ PySem.W.typeIn K (.ref f) = some (.type "function") ∧ Binds K fd ps [] ∧ Fun K "__init__" qual st f fd ∧ ∀ f ∈ fs, PySem.W.findIn K (.ref C) f = some none
section
variable {P : Program} {w : World} {K : PySem.W.Frag} {mg : Str → Option Value} {base : Heap}
theorem d_is_whole (T : TB K mg) (Z : TZ P base)  (h : Dd K mg "is_whole" (topS 10) ["value"]) : Df P w K mg base 1 "is_whole" 1 p_is_whole := by
  obtain ⟨f, fd, hm, F, bd⟩ := h.ex
  have nd : (["value"] : List Str).Nodup := by decide
  exact df_of (N := ["value"]) (ps := ["value"]) (W := W_is_whole) F ⟨rfl, rfl, rfl, by decide +kernel, rfl, by decide +kernel, by decide +kernel⟩ hm bd
    (fun cdv A outer s H E hr => (qss_one (qs_ret (qe_and (qe_isT (by rfl) T.b_isinstance (by rfl) T.b_int (by decide +kernel) is_int (qb_var 0)) (qe_one (qe_not (qe_isT (by rfl) T.b_isinstance (by rfl) T.b_bool (by decide +kernel) is_bool (qb_var 0))))))))
    hp_is_whole
theorem d_need_between (T : TB K mg) (Z : TZ P base) (D_is_whole : Df P w K mg base 1 "is_whole" 1 p_is_whole) (h : Dd K mg "need_between" (topS 12) ["what", "number", "low", "high"]) : Df P w K mg base 2 "need_between" 4 p_need_between := by
  obtain ⟨f, fd, hm, F, bd⟩ := h.ex
  have nd : (["what", "number", "low", "high"] : List Str).Nodup := by decide
  exact df_of (N := ["what", "number", "low", "high"]) (ps := ["what", "number", "low", "high"]) (W := W_need_between) F ⟨rfl, rfl, rfl, by decide +kernel, rfl, by decide +kernel, by decide +kernel⟩ hm bd
    (fun cdv A outer s H E hr => (qss_cons (qs_if (qt_not (qt_val (qe_call D_is_whole (hr.mono (by decide)) (by rfl) (qa_cons (qe_var 1) qa_nil)))) (qss_one qs_never) qss_nil) (qss_one (qs_if (qt_of (qw_or (qt_of (qw_and (qt_isN (qb_var 2) qe_non.b) (qw_and1 (qt_lt (qb_var 1) (qb_var 2))))) (qw_or1 (qt_of (qw_and (qt_isN (qb_var 3) qe_non.b) (qw_and1 (qt_gt (qb_var 1) (qb_var 3)))))))) (qss_one qs_never) qss_nil))))
    hp_need_between
theorem d_is_pair (T : TB K mg) (Z : TZ P base) (D_is_whole : Df P w K mg base 1 "is_whole" 1 p_is_whole) (h : Dd K mg "is_pair" (topS 14) ["value"]) : Df P w K mg base 2 "is_pair" 1 p_is_pair := by
  obtain ⟨f, fd, hm, F, bd⟩ := h.ex
  have nd : (["value"] : List Str).Nodup := by decide
  exact df_of (N := ["value"]) (ps := ["value"]) (W := W_is_pair) F ⟨rfl, rfl, rfl, by decide +kernel, rfl, by decide +kernel, by decide +kernel⟩ hm bd
    (fun cdv A outer s H E hr => (qss_cons (qs_if (qt_of (qw_or (qt_not (qt_val (qe_isT2 (by rfl) T.b_isinstance (by rfl) T.b_tuple (by decide +kernel) (by rfl) T.b_list (by decide +kernel) is_tuple_list (qb_var 0)))) (qw_or1 (qt_ne (un64 hr) (qe_len (by rfl) T.b_len (qb_var 0)).b qe_int.b)))) (qss_one (qs_ret qe_bl)) qss_nil) (qss_one (qs_ret (qe_and (qe_call D_is_whole (hr.mono (by decide)) (by rfl) (qa_cons (qe_ix (qb_var 0) qe_int.b) qa_nil)) (qe_and (qe_call D_is_whole (hr.mono (by decide)) (by rfl) (qa_cons (qe_ix (qb_var 0) qe_int.b) qa_nil)) (qe_one (qe_gt (qe_ix (qb_var 0) qe_int.b).b qe_int.b))))))))
    hp_is_pair
theorem d_lowest (T : TB K mg) (Z : TZ P base)  (h : Dd K mg "lowest" (topS 15) ["top", "bottom"]) : Df P w K mg base 33 "lowest" 2 p_lowest := by
  obtain ⟨f, fd, hm, F, bd⟩ := h.ex
  have nd : (["top", "bottom", "by"] : List Str).Nodup := by decide
  exact df_of (N := ["top", "bottom", "by"]) (ps := ["top", "bottom"]) (W := W_lowest) F ⟨rfl, rfl, rfl, by decide +kernel, rfl, by decide +kernel, by decide +kernel⟩ hm bd
    (fun cdv A outer s H E hr => (qss_cons (qs_set 2 nd rfl (by first | exact .inl rfl | exact .inr rfl) (qe_ite (qt_gt (qb_var 1) qe_int.b) (qe_gcd (by rfl) T.b_gcd (qa_cons (qe_var 0) (qa_cons (qe_var 1) qa_nil))) (qe_neg (qe_gcd (by rfl) T.b_gcd (qa_cons (qe_var 0) (qa_cons (qe_var 1) qa_nil))).b))) (qss_one (qs_ret (qe_tup (qa_cons (qe_divU (seer_of Z hr (by decide) rfl rfl) (qb_var 0) (qb_var 2)) (qa_cons (qe_divU (seer_of Z hr (by decide) rfl rfl) (qb_var 1) (qb_var 2)) qa_nil)))))))
    hp_lowest
theorem d_summed (T : TB K mg) (Z : TZ P base) (D_lowest : Df P w K mg base 33 "lowest" 2 p_lowest) (h : Dd K mg "summed" (topS 16) ["one", "other"]) : Df P w K mg base 34 "summed" 2 p_summed := by
  obtain ⟨f, fd, hm, F, bd⟩ := h.ex
  have nd : (["one", "other"] : List Str).Nodup := by decide
  exact df_of (N := ["one", "other"]) (ps := ["one", "other"]) (W := W_summed) F ⟨rfl, rfl, rfl, by decide +kernel, rfl, by decide +kernel, by decide +kernel⟩ hm bd
    (fun cdv A outer s H E hr => (qss_one (qs_ret (qe_call D_lowest (hr.mono (by decide)) (by rfl) (qa_cons (qe_add (qe_mul (qe_ix (qb_var 0) qe_int.b).b (qe_ix (qb_var 1) qe_int.b).b).b (qe_mul (qe_ix (qb_var 1) qe_int.b).b (qe_ix (qb_var 0) qe_int.b).b).b) (qa_cons (qe_mul (qe_ix (qb_var 0) qe_int.b).b (qe_ix (qb_var 1) qe_int.b).b) qa_nil))))))
    hp_summed
theorem d_scaled (T : TB K mg) (Z : TZ P base) (D_lowest : Df P w K mg base 33 "lowest" 2 p_lowest) (h : Dd K mg "scaled" (topS 17) ["one", "other"]) : Df P w K mg base 34 "scaled" 2 p_scaled := by
  obtain ⟨f, fd, hm, F, bd⟩ := h.ex
  have nd : (["one", "other"] : List Str).Nodup := by decide
  exact df_of (N := ["one", "other"]) (ps := ["one", "other"]) (W := W_scaled) F ⟨rfl, rfl, rfl, by decide +kernel, rfl, by decide +kernel, by decide +kernel⟩ hm bd
    (fun cdv A outer s H E hr => (qss_one (qs_ret (qe_call D_lowest (hr.mono (by decide)) (by rfl) (qa_cons (qe_mul (qe_ix (qb_var 0) qe_int.b).b (qe_ix (qb_var 1) qe_int.b).b) (qa_cons (qe_mul (qe_ix (qb_var 0) qe_int.b).b (qe_ix (qb_var 1) qe_int.b).b) qa_nil))))))
    hp_scaled
theorem d_is_loose (T : TB K mg) (Z : TZ P base) (D_is_whole : Df P w K mg base 1 "is_whole" 1 p_is_whole) (D_is_pair : Df P w K mg base 2 "is_pair" 1 p_is_pair) (h : Dd K mg "is_loose" (topS 22) ["value"]) : Df P w K mg base 3 "is_loose" 1 p_is_loose := by
  obtain ⟨f, fd, hm, F, bd⟩ := h.ex
  have nd : (["value"] : List Str).Nodup := by decide
  exact df_of (N := ["value"]) (ps := ["value"]) (W := W_is_loose) F ⟨rfl, rfl, rfl, by decide +kernel, rfl, by decide +kernel, by decide +kernel⟩ hm bd
    (fun cdv A outer s H E hr => (qss_one (qs_ret (qe_or (qe_call D_is_whole (hr.mono (by decide)) (by rfl) (qa_cons (qe_var 0) qa_nil)) (qe_one (qe_and (qe_isT (by rfl) T.b_isinstance (by rfl) T.b_tuple (by decide +kernel) is_tuple (qb_var 0)) (qe_one (qe_call D_is_pair (hr.mono (by decide)) (by rfl) (qa_cons (qe_var 0) qa_nil)))))))))
    hp_is_loose
theorem d_told_ratio (T : TB K mg) (Z : TZ P base) (D_is_whole : Df P w K mg base 1 "is_whole" 1 p_is_whole) (D_lowest : Df P w K mg base 33 "lowest" 2 p_lowest) (h : Dd K mg "told_ratio" (topS 23) ["value"]) : Df P w K mg base 34 "told_ratio" 1 p_told_ratio := by
  obtain ⟨f, fd, hm, F, bd⟩ := h.ex
  have nd : (["value"] : List Str).Nodup := by decide
  exact df_of (N := ["value"]) (ps := ["value"]) (W := W_told_ratio) F ⟨rfl, rfl, rfl, by decide +kernel, rfl, by decide +kernel, by decide +kernel⟩ hm bd
    (fun cdv A outer s H E hr => (qss_one (qs_ret (qe_ite (qt_val (qe_call D_is_whole (hr.mono (by decide)) (by rfl) (qa_cons (qe_var 0) qa_nil))) (qe_tup (qa_cons (qe_var 0) (qa_cons qe_int qa_nil))) (qe_call D_lowest (hr.mono (by decide)) (by rfl) (qa_cons (qe_ix (qb_var 0) qe_int.b) (qa_cons (qe_ix (qb_var 0) qe_int.b) qa_nil)))))))
    hp_told_ratio
theorem d_loose_row (T : TB K mg) (Z : TZ P base) (D_is_loose : Df P w K mg base 3 "is_loose" 1 p_is_loose) (D_told_ratio : Df P w K mg base 34 "told_ratio" 1 p_told_ratio) (h : Dd K mg "loose_row" (topS 24) ["value"]) : Df P w K mg base 35 "loose_row" 1 p_loose_row := by
  obtain ⟨f, fd, hm, F, bd⟩ := h.ex
  have nd : (["value", "item"] : List Str).Nodup := by decide
  exact df_of (N := ["value", "item"]) (ps := ["value"]) (W := W_loose_row) F ⟨rfl, rfl, rfl, by decide +kernel, rfl, by decide +kernel, by decide +kernel⟩ hm bd
    (fun cdv A outer s H E hr => (qss_cons (qs_if (qt_of (qw_or (qt_not (qt_val (qe_isT (by rfl) T.b_isinstance (by rfl) T.b_tuple (by decide +kernel) is_tuple (qb_var 0)))) (qw_or1 (qt_not (qt_val (qe_all rfl (by rfl) T.b_all (qf_comp (own := [("item", 1)]) (T := (.one 1)) rfl nd (qi_seq (qe_var 0)) (blkOk_by (by kernel_rfl)) (by decide) (hg_name 1 nd rfl) (fun _ _ _ _ _ => qts_nil) (fun _ _ _ _ _ => (qe_call D_is_loose (hr.mono (by decide)) (by rfl) (qa_cons (qe_var 1) qa_nil)))).qe.b)))))) (qss_one (qs_ret qe_non)) qss_nil) (qss_one (qs_ret (qe_tuple (by rfl) T.b_tuple (qf_comp (own := [("item", 1)]) (T := (.one 1)) rfl nd (qi_seq (qe_var 0)) (blkOk_by (by kernel_rfl)) (by decide) (hg_name 1 nd rfl) (fun _ _ _ _ _ => qts_nil) (fun _ _ _ _ _ => (qe_call D_told_ratio (hr.mono (by decide)) (by rfl) (qa_cons (qe_var 1) qa_nil)))).qe.b)))))
    hp_loose_row
theorem d_loose_row2 (T : TB K mg) (Z : TZ P base) (D_is_loose : Df P w K mg base 3 "is_loose" 1 p_is_loose) (D_told_ratio : Df P w K mg base 34 "told_ratio" 1 p_told_ratio) (h : Dd K mg "loose_row" (topS 24) ["value"]) : Df P w K mg base 35 "loose_row" 1 p_loose_row2 := by
  obtain ⟨f, fd, hm, F, bd⟩ := h.ex
  have nd : (["value", "item"] : List Str).Nodup := by decide
  exact df_of (N := ["value", "item"]) (ps := ["value"]) (W := W_loose_row) F ⟨rfl, rfl, rfl, by decide +kernel, rfl, by decide +kernel, by decide +kernel⟩ hm bd
    (fun cdv A outer s H E hr => (qss_cons (qs_if (qt_of (qw_or (qt_not (qt_val (qe_isT (by rfl) T.b_isinstance (by rfl) T.b_tuple (by decide +kernel) is_tuple (qb_var 0)))) (qw_or1 (qt_not (qt_val (qe_all rfl (by rfl) T.b_all (qf_comp (own := [("item", 1)]) (T := (.one 1)) rfl nd (qi_seq (qe_var 0)) (blkOk_by (by kernel_rfl)) (by decide) (hg_name 1 nd rfl) (fun _ _ _ _ _ => qts_nil) (fun _ _ _ _ _ => (qe_call D_is_loose (hr.mono (by decide)) (by rfl) (qa_cons (qe_var 1) qa_nil)))).qe.b)))))) (qss_one (qs_ret qe_non)) qss_nil) (qss_one (qs_ret (qe_tuple (by rfl) T.b_tuple (qf_comp (own := [("item", 1)]) (T := (.one 1)) rfl nd (qi_seq (qe_var 0)) (blkOk_by (by kernel_rfl)) (by decide) (hg_name 1 nd rfl) (fun _ _ _ _ _ => qts_nil) (fun _ _ _ _ _ => (qe_call D_told_ratio (hr.mono (by decide)) (by rfl) (qa_cons (qe_var 1) qa_nil)))).qe.b)))))
    hp_loose_row2
theorem d_row_from (T : TB K mg) (Z : TZ P base) (D_loose_row : Df P w K mg base 35 "loose_row" 1 p_loose_row) (D_in_tuples : Df P w K mg base 11 "in_tuples" 1 p_in_tuples) (h : Dd K mg "row_from" (topS 25) ["row", "least", "most"]) : Df P w K mg base 36 "row_from" 3 p_row_from := by
  obtain ⟨f, fd, hm, F, bd⟩ := h.ex
  have nd : (["row", "least", "most", "made"] : List Str).Nodup := by decide
  exact df_of (N := ["row", "least", "most", "made"]) (ps := ["row", "least", "most"]) (W := W_row_from) F ⟨rfl, rfl, rfl, by decide +kernel, rfl, by decide +kernel, by decide +kernel⟩ hm bd
    (fun cdv A outer s H E hr => (qss_cons (qs_set 3 nd rfl (by first | exact .inl rfl | exact .inr rfl) (qe_call D_loose_row (hr.mono (by decide)) (by rfl) (qa_cons (qe_call D_in_tuples (hr.mono (by decide)) (by rfl) (qa_cons (qe_var 0) qa_nil)) qa_nil))) (qss_cons (qs_if (qt_of (qw_or (qt_is (qb_var 3) qe_non.b) (qw_or1 (qt_not (qt_chain op_le op_le ok_le ok_le (qb_var 1) (qe_len (by rfl) T.b_len (qb_var 3)).b (qb_var 2)))))) (qss_one qs_never) qss_nil) (qss_one (qs_ret (qe_var 3))))))
    hp_row_from
theorem d_table_from (T : TB K mg) (Z : TZ P base) (D_in_tuples : Df P w K mg base 11 "in_tuples" 1 p_in_tuples) (D_loose_row : Df P w K mg base 35 "loose_row" 1 p_loose_row) (h : Dd K mg "table_from" (topS 26) ["table"]) : Df P w K mg base 36 "table_from" 1 p_table_from := by
  obtain ⟨f, fd, hm, F, bd⟩ := h.ex
  have nd : (["table", "made", "rows", "row"] : List Str).Nodup := by decide
  exact df_of (N := ["table", "made", "rows", "row"]) (ps := ["table"]) (W := W_table_from) F ⟨rfl, rfl, rfl, by decide +kernel, rfl, by decide +kernel, by decide +kernel⟩ hm bd
    (fun cdv A outer s H E hr => (qss_cons (qs_set 1 nd rfl (by first | exact .inl rfl | exact .inr rfl) (qe_call D_in_tuples (hr.mono (by decide)) (by rfl) (qa_cons (qe_var 0) qa_nil))) (qss_cons (qs_if (qt_of (qw_or (qt_not (qt_val (qe_isT (by rfl) T.b_isinstance (by rfl) T.b_tuple (by decide +kernel) is_tuple (qb_var 1)))) (qw_or1 (qt_not (qt_chain op_le op_le ok_le ok_le qe_int.b (qe_len (by rfl) T.b_len (qb_var 1)).b (T.c_MOST (by rfl)).b))))) (qss_one qs_never) qss_nil) (qss_cons (qs_set 2 nd rfl (by first | exact .inl rfl | exact .inr rfl) (qf_comp (own := [("row", 3)]) (T := (.one 3)) rfl nd (qi_seq (qe_var 1)) (blkOk_by (by kernel_rfl)) (by decide) (hg_name 3 nd rfl) (fun _ _ _ _ _ => qts_nil) (fun _ _ _ _ _ => (qe_call D_loose_row (hr.mono (by decide)) (by rfl) (qa_cons (qe_var 3) qa_nil)))).qe) (qss_cons (qs_if (qt_of (qw_or (qt_in hr qe_non.b (qb_var 2)) (qw_or (qt_not (qt_chain op_le op_le ok_le ok_le qe_int.b (qe_len (by rfl) T.b_len (qe_ix (qb_var 2) qe_int.b).b).b (T.c_MOST (by rfl)).b)) (qw_or1 (qt_not (qt_val (qe_all rfl (by rfl) T.b_all (qf_comp (own := [("row", 3)]) (T := (.one 3)) rfl nd (qi_seq (qe_var 2)) (blkOk_by (by kernel_rfl)) (by decide) (hg_name 3 nd rfl) (fun _ _ _ _ _ => qts_nil) (fun _ _ _ _ _ => (qe_eq (un64 hr) (qe_len (by rfl) T.b_len (qb_var 3)).b (qe_len (by rfl) T.b_len (qe_ix (qb_var 2) qe_int.b).b).b))).qe.b))))))) (qss_one qs_never) qss_nil) (qss_one (qs_ret (qe_tuple (by rfl) T.b_tuple (qb_var 2)))))))))
    hp_table_from
theorem d_turned_by (T : TB K mg) (Z : TZ P base)  (h : Dd K mg "turned_by" (topS 27) ["table"]) : Df P w K mg base 1 "turned_by" 1 p_turned_by := by
  obtain ⟨f, fd, hm, F, bd⟩ := h.ex
  have nd : (["table", "k", "row"] : List Str).Nodup := by decide
  exact df_of (N := ["table", "k", "row"]) (ps := ["table"]) (W := W_turned_by) F ⟨rfl, rfl, rfl, by decide +kernel, rfl, by decide +kernel, by decide +kernel⟩ hm bd
    (fun cdv A outer s H E hr => (qss_one (qs_ret (qe_tuple (by rfl) T.b_tuple (qf_comp (own := [("k", 1)]) (T := (.one 1)) rfl nd (qi_range1 (by rfl) T.b_range (qa_cons (qe_len (by rfl) T.b_len (qe_ix (qb_var 0) qe_int.b).b) qa_nil)) (blkOk_by (by kernel_rfl)) (by decide) (hg_name 1 nd rfl) (fun _ _ _ _ _ => qts_nil) (fun _ _ _ _ _ => (qe_tuple (by rfl) T.b_tuple (qf_comp (own := [("row", 2)]) (T := (.one 2)) rfl nd (qi_seq (qe_var 0)) (blkOk_by (by kernel_rfl)) (by decide) (hg_name 2 nd rfl) (fun _ _ _ _ _ => qts_nil) (fun _ _ _ _ _ => (qe_ix (qb_var 2) (qb_var 1)))).qe.b))).qe.b))))
    hp_turned_by
theorem d_turned (T : TB K mg) (Z : TZ P base) (D_turned_by : Df P w K mg base 1 "turned_by" 1 p_turned_by) (D_table_from : Df P w K mg base 36 "table_from" 1 p_table_from) (h : Dd K mg "turned" (topS 28) ["table"]) : Df P w K mg base 37 "turned" 1 p_turned := by
  obtain ⟨f, fd, hm, F, bd⟩ := h.ex
  have nd : (["table"] : List Str).Nodup := by decide
  exact df_of (N := ["table"]) (ps := ["table"]) (W := W_turned) F ⟨rfl, rfl, rfl, by decide +kernel, rfl, by decide +kernel, by decide +kernel⟩ hm bd
    (fun cdv A outer s H E hr => (qss_one (qs_ret (qe_call D_turned_by (hr.mono (by decide)) (by rfl) (qa_cons (qe_call D_table_from (hr.mono (by decide)) (by rfl) (qa_cons (qe_var 0) qa_nil)) qa_nil)))))
    hp_turned
theorem d_dot_of (T : TB K mg) (Z : TZ P base) (D_summed : Df P w K mg base 34 "summed" 2 p_summed) (D_scaled : Df P w K mg base 34 "scaled" 2 p_scaled) (h : Dd K mg "dot_of" (topS 29) ["one", "other"]) : Df P w K mg base 35 "dot_of" 2 p_dot_of := by
  obtain ⟨f, fd, hm, F, bd⟩ := h.ex
  have nd : (["one", "other", "out", "a", "b"] : List Str).Nodup := by decide
  exact df_of (N := ["one", "other", "out", "a", "b"]) (ps := ["one", "other"]) (W := W_dot_of) F ⟨rfl, rfl, rfl, by decide +kernel, rfl, by decide +kernel, by decide +kernel⟩ hm bd
    (fun cdv A outer s H E hr => (qss_cons (qs_set 2 nd rfl (by first | exact .inl rfl | exact .inr rfl) (T.c_NONE (by rfl))) (qss_cons (qs_for PassesOwn.never rfl (qi_zip (by rfl) T.b_zip (qa_cons (qe_var 0) (qa_cons (qe_var 1) qa_nil))) (qg_tup rfl (qgs_cons (qg_name 3 nd rfl (by first | exact .inl rfl | exact .inr rfl)) (qgs_cons (qg_name 4 nd rfl (by first | exact .inl rfl | exact .inr rfl)) qgs_nil))) (qss_one (qs_if (qt_of (qw_and (qt_ne (un64 hr) (qb_var 3) (T.c_NONE (by rfl)).b) (qw_and1 (qt_ne (un64 hr) (qb_var 4) (T.c_NONE (by rfl)).b)))) (qss_one (qs_set 2 nd rfl (by first | exact .inl rfl | exact .inr rfl) (qe_call D_summed (hr.mono (by decide)) (by rfl) (qa_cons (qe_var 2) (qa_cons (qe_call D_scaled (hr.mono (by decide)) (by rfl) (qa_cons (qe_var 3) (qa_cons (qe_var 4) qa_nil))) qa_nil))))) qss_nil))) (qss_one (qs_ret (qe_var 2))))))
    hp_dot_of
theorem d_product_by (T : TB K mg) (Z : TZ P base) (D_turned_by : Df P w K mg base 1 "turned_by" 1 p_turned_by) (D_dot_of : Df P w K mg base 35 "dot_of" 2 p_dot_of) (h : Dd K mg "product_by" (topS 30) ["one", "other"]) : Df P w K mg base 36 "product_by" 2 p_product_by := by
  obtain ⟨f, fd, hm, F, bd⟩ := h.ex
  have nd : (["one", "other", "columns", "row", "column"] : List Str).Nodup := by decide
  exact df_of (N := ["one", "other", "columns", "row", "column"]) (ps := ["one", "other"]) (W := W_product_by) F ⟨rfl, rfl, rfl, by decide +kernel, rfl, by decide +kernel, by decide +kernel⟩ hm bd
    (fun cdv A outer s H E hr => (qss_cons (qs_set 2 nd rfl (by first | exact .inl rfl | exact .inr rfl) (qe_call D_turned_by (hr.mono (by decide)) (by rfl) (qa_cons (qe_var 1) qa_nil))) (qss_one (qs_ret (qe_tuple (by rfl) T.b_tuple (qf_comp (own := [("row", 3)]) (T := (.one 3)) rfl nd (qi_seq (qe_var 0)) (blkOk_by (by kernel_rfl)) (by decide) (hg_name 3 nd rfl) (fun _ _ _ _ _ => qts_nil) (fun _ _ _ _ _ => (qe_tuple (by rfl) T.b_tuple (qf_comp (own := [("column", 4)]) (T := (.one 4)) rfl nd (qi_seq (qe_var 2)) (blkOk_by (by kernel_rfl)) (by decide) (hg_name 4 nd rfl) (fun _ _ _ _ _ => qts_nil) (fun _ _ _ _ _ => (qe_call D_dot_of (hr.mono (by decide)) (by rfl) (qa_cons (qe_var 3) (qa_cons (qe_var 4) qa_nil))))).qe.b))).qe.b)))))
    hp_product_by
theorem d_product (T : TB K mg) (Z : TZ P base) (D_table_from : Df P w K mg base 36 "table_from" 1 p_table_from) (D_product_by : Df P w K mg base 36 "product_by" 2 p_product_by) (h : Dd K mg "product" (topS 31) ["one", "other"]) : Df P w K mg base 37 "product" 2 p_product := by
  obtain ⟨f, fd, hm, F, bd⟩ := h.ex
  have nd : (["one", "other", "first", "second"] : List Str).Nodup := by decide
  exact df_of (N := ["one", "other", "first", "second"]) (ps := ["one", "other"]) (W := W_product) F ⟨rfl, rfl, rfl, by decide +kernel, rfl, by decide +kernel, by decide +kernel⟩ hm bd
    (fun cdv A outer s H E hr => (qss_cons (qs_par 2 3 rfl nd rfl rfl (by decide) rfl rfl (qe_call D_table_from (hr.mono (by decide)) (by rfl) (qa_cons (qe_var 0) qa_nil)).v (qe_call D_table_from (hr.mono (by decide)) (by rfl) (qa_cons (qe_var 1) qa_nil)).v) (qss_cons (qs_if (qt_ne (un64 hr) (qe_len (by rfl) T.b_len (qe_ix (qb_var 2) qe_int.b).b).b (qe_len (by rfl) T.b_len (qb_var 3)).b) (qss_one qs_never) qss_nil) (qss_one (qs_ret (qe_call D_product_by (hr.mono (by decide)) (by rfl) (qa_cons (qe_var 2) (qa_cons (qe_var 3) qa_nil))))))))
    hp_product
theorem d_power_row (T : TB K mg) (Z : TZ P base) (D_summed : Df P w K mg base 34 "summed" 2 p_summed) (D_scaled : Df P w K mg base 34 "scaled" 2 p_scaled) (h : Dd K mg "power_row" (topS 34) ["points", "weights", "many"]) : Df P w K mg base 35 "power_row" 3 p_power_row := by
  obtain ⟨f, fd, hm, F, bd⟩ := h.ex
  have nd : (["points", "weights", "many", "out", "here", "lap", "total", "item", "point"] : List Str).Nodup := by decide
  exact df_of (N := ["points", "weights", "many", "out", "here", "lap", "total", "item", "point"]) (ps := ["points", "weights", "many"]) (W := W_power_row) F ⟨rfl, rfl, rfl, by decide +kernel, rfl, by decide +kernel, by decide +kernel⟩ hm bd
    (fun cdv A outer s H E hr => (qss_cons (qs_par 3 4 rfl nd rfl rfl (by decide) rfl rfl (qf_lst qa_nil).v (qf_list (by rfl) T.b_list (qb_var 1)).qe.v) (qss_cons (qs_for PassesOwn.never rfl (qi_range1 (by rfl) T.b_range (qa_cons (qe_var 2) qa_nil)) (qg_name 5 nd rfl (by first | exact .inl rfl | exact .inr rfl)) (qss_cons (qs_set 6 nd rfl (by first | exact .inl rfl | exact .inr rfl) (T.c_NONE (by rfl))) (qss_cons (qs_for PassesOwn.never rfl (qi_seq (qe_var 4)) (qg_name 7 nd rfl (by first | exact .inl rfl | exact .inr rfl)) (qss_one (qs_set 6 nd rfl (by first | exact .inl rfl | exact .inr rfl) (qe_call D_summed (hr.mono (by decide)) (by rfl) (qa_cons (qe_var 6) (qa_cons (qe_var 7) qa_nil)))))) (qss_cons (qs_app 3 rfl (by first | exact .inl rfl | exact .inr (.inl rfl)) (qe_var 6)) (qss_cons (qs_setComp 4 (own := [("item", 7), ("point", 8)]) (T := (.tup [7, 8])) rfl nd rfl rfl (sw_true rfl rfl rfl (by decide +kernel)) (qi_zipM (by rfl) T.b_zip (qa_cons (qe_var 4) (qa_cons (qe_var 0) qa_nil))) (blkOk_by (by kernel_rfl)) (by decide) (hg_pair 7 8 rfl nd rfl rfl) (fun _ _ _ _ _ => qts_nil) (fun _ _ _ _ _ => (qe_call D_scaled (hr.mono (by decide)) (by rfl) (qa_cons (qe_var 7) (qa_cons (qe_var 8) qa_nil))))) (qss_frz 4 qss_nil)))))) (qss_one (qs_ret (qe_tuple (by rfl) T.b_tuple (qb_var 3)))))))
    hp_power_row
theorem d_power_sums (T : TB K mg) (Z : TZ P base) (D_row_from : Df P w K mg base 36 "row_from" 3 p_row_from) (D_need_between : Df P w K mg base 2 "need_between" 4 p_need_between) (D_power_row : Df P w K mg base 35 "power_row" 3 p_power_row) (h : Dd K mg "power_sums" (topS 35) ["points", "weights", "many"]) : Df P w K mg base 37 "power_sums" 3 p_power_sums := by
  obtain ⟨f, fd, hm, F, bd⟩ := h.ex
  have nd : (["points", "weights", "many", "first", "second"] : List Str).Nodup := by decide
  exact df_of (N := ["points", "weights", "many", "first", "second"]) (ps := ["points", "weights", "many"]) (W := W_power_sums) F ⟨rfl, rfl, rfl, by decide +kernel, rfl, by decide +kernel, by decide +kernel⟩ hm bd
    (fun cdv A outer s H E hr => (qss_cons (qs_set 3 nd rfl (by first | exact .inl rfl | exact .inr rfl) (qe_call D_row_from (hr.mono (by decide)) (by rfl) (qa_cons (qe_var 0) (qa_cons qe_int (qa_cons (T.c_MOST (by rfl)) qa_nil))))) (qss_cons (qs_set 4 nd rfl (by first | exact .inl rfl | exact .inr rfl) (qe_call D_row_from (hr.mono (by decide)) (by rfl) (qa_cons (qe_var 1) (qa_cons (qe_len (by rfl) T.b_len (qb_var 3)) (qa_cons (qe_len (by rfl) T.b_len (qb_var 3)) qa_nil))))) (qss_cons (qs_drop (qe_call D_need_between (hr.mono (by decide)) (by rfl) (qa_cons qe_str (qa_cons (qe_var 2) (qa_cons qe_int (qa_cons (T.c_MOST_ITEMS (by rfl)) qa_nil)))))) (qss_one (qs_ret (qe_call D_power_row (hr.mono (by decide)) (by rfl) (qa_cons (qe_var 3) (qa_cons (qe_var 4) (qa_cons (qe_var 2) qa_nil))))))))))
    hp_power_sums
theorem d_hankel_by (T : TB K mg) (Z : TZ P base)  (h : Dd K mg "hankel_by" (topS 36) ["row", "size", "start"]) : Df P w K mg base 1 "hankel_by" 3 p_hankel_by := by
  obtain ⟨f, fd, hm, F, bd⟩ := h.ex
  have nd : (["row", "size", "start", "i", "j"] : List Str).Nodup := by decide
  exact df_of (N := ["row", "size", "start", "i", "j"]) (ps := ["row", "size", "start"]) (W := W_hankel_by) F ⟨rfl, rfl, rfl, by decide +kernel, rfl, by decide +kernel, by decide +kernel⟩ hm bd
    (fun cdv A outer s H E hr => (qss_one (qs_ret (qe_tuple (by rfl) T.b_tuple (qf_comp (own := [("i", 3)]) (T := (.one 3)) rfl nd (qi_range1 (by rfl) T.b_range (qa_cons (qe_var 1) qa_nil)) (blkOk_by (by kernel_rfl)) (by decide) (hg_name 3 nd rfl) (fun _ _ _ _ _ => qts_nil) (fun _ _ _ _ _ => (qe_tuple (by rfl) T.b_tuple (qf_comp (own := [("j", 4)]) (T := (.one 4)) rfl nd (qi_range1 (by rfl) T.b_range (qa_cons (qe_var 1) qa_nil)) (blkOk_by (by kernel_rfl)) (by decide) (hg_name 4 nd rfl) (fun _ _ _ _ _ => qts_nil) (fun _ _ _ _ _ => (qe_ix (qb_var 0) (qe_add (qe_add (qb_var 3) (qb_var 4)).b (qb_var 2)).b))).qe.b))).qe.b))))
    hp_hankel_by
theorem d_hankel (T : TB K mg) (Z : TZ P base) (D_row_from : Df P w K mg base 36 "row_from" 3 p_row_from) (D_need_between : Df P w K mg base 2 "need_between" 4 p_need_between) (D_hankel_by : Df P w K mg base 1 "hankel_by" 3 p_hankel_by) (h : Dd K mg "hankel" (topS 37) ["row", "size", "start"]) : Df P w K mg base 37 "hankel" 3 p_hankel := by
  obtain ⟨f, fd, hm, F, bd⟩ := h.ex
  have nd : (["row", "size", "start", "made"] : List Str).Nodup := by decide
  exact df_of (N := ["row", "size", "start", "made"]) (ps := ["row", "size", "start"]) (W := W_hankel) F ⟨rfl, rfl, rfl, by decide +kernel, rfl, by decide +kernel, by decide +kernel⟩ hm bd
    (fun cdv A outer s H E hr => (qss_cons (qs_set 3 nd rfl (by first | exact .inl rfl | exact .inr rfl) (qe_call D_row_from (hr.mono (by decide)) (by rfl) (qa_cons (qe_var 0) (qa_cons qe_int (qa_cons (T.c_MOST_ITEMS (by rfl)) qa_nil))))) (qss_cons (qs_drop (qe_call D_need_between (hr.mono (by decide)) (by rfl) (qa_cons qe_str (qa_cons (qe_var 1) (qa_cons qe_int (qa_cons (T.c_MOST (by rfl)) qa_nil)))))) (qss_cons (qs_drop (qe_call D_need_between (hr.mono (by decide)) (by rfl) (qa_cons qe_str (qa_cons (qe_var 2) (qa_cons qe_int (qa_cons qe_int qa_nil)))))) (qss_cons (qs_if (qt_lt (qe_len (by rfl) T.b_len (qb_var 3)).b (qe_add (qe_sub (qe_mul qe_int.b (qb_var 1)).b qe_int.b).b (qb_var 2)).b) (qss_one qs_never) qss_nil) (qss_one (qs_ret (qe_call D_hankel_by (hr.mono (by decide)) (by rfl) (qa_cons (qe_var 3) (qa_cons (qe_var 1) (qa_cons (qe_var 2) qa_nil)))))))))))
    hp_hankel
theorem d_power_table (T : TB K mg) (Z : TZ P base) (D_row_from : Df P w K mg base 36 "row_from" 3 p_row_from) (D_need_between : Df P w K mg base 2 "need_between" 4 p_need_between) (D_scaled : Df P w K mg base 34 "scaled" 2 p_scaled) (h : Dd K mg "power_table" (topS 39) ["points", "many"]) : Df P w K mg base 37 "power_table" 2 p_power_table := by
  obtain ⟨f, fd, hm, F, bd⟩ := h.ex
  have nd : (["points", "many", "made", "out", "point", "row"] : List Str).Nodup := by decide
  exact df_of (N := ["points", "many", "made", "out", "point", "row"]) (ps := ["points", "many"]) (W := W_power_table) F ⟨rfl, rfl, rfl, by decide +kernel, rfl, by decide +kernel, by decide +kernel⟩ hm bd
    (fun cdv A outer s H E hr => (qss_cons (qs_set 2 nd rfl (by first | exact .inl rfl | exact .inr rfl) (qe_call D_row_from (hr.mono (by decide)) (by rfl) (qa_cons (qe_var 0) (qa_cons qe_int (qa_cons (T.c_MOST (by rfl)) qa_nil))))) (qss_cons (qs_drop (qe_call D_need_between (hr.mono (by decide)) (by rfl) (qa_cons qe_str (qa_cons (qe_var 1) (qa_cons qe_int (qa_cons (T.c_MOST (by rfl)) qa_nil)))))) (qss_cons (qs_setF 3 nd rfl (by first | exact .inl rfl | exact .inr rfl) (qf_lst qa_nil)) (qss_cons (qs_for PassesOwn.never rfl (qi_seq (qe_var 2)) (qg_name 4 nd rfl (by first | exact .inl rfl | exact .inr rfl)) (qss_cons (qs_setF 5 nd rfl (by first | exact .inl rfl | exact .inr rfl) (qf_lst (qa_cons (T.c_ONE (by rfl)) qa_nil))) (qss_cons (qs_while PassesOwn.never (qt_lt (qe_len (by rfl) T.b_len (qb_var 5)).b (qb_var 1)) (qss_one (qs_app 5 rfl (by first | exact .inl rfl | exact .inr (.inl rfl)) (qe_call D_scaled (hr.mono (by decide)) (by rfl) (qa_cons (qe_ix (qb_var 5) (qe_neg qe_int.b).b) (qa_cons (qe_var 4) qa_nil)))))) (qss_one (qs_app 3 rfl (by first | exact .inl rfl | exact .inr (.inl rfl)) (qe_tuple (by rfl) T.b_tuple (qb_var 5))))))) (qss_one (qs_ret (qe_tuple (by rfl) T.b_tuple (qb_var 3)))))))))
    hp_power_table
theorem d_diagonal_by (T : TB K mg) (Z : TZ P base)  (h : Dd K mg "diagonal_by" (topS 40) ["row"]) : Df P w K mg base 1 "diagonal_by" 1 p_diagonal_by := by
  obtain ⟨f, fd, hm, F, bd⟩ := h.ex
  have nd : (["row", "i", "j"] : List Str).Nodup := by decide
  exact df_of (N := ["row", "i", "j"]) (ps := ["row"]) (W := W_diagonal_by) F ⟨rfl, rfl, rfl, by decide +kernel, rfl, by decide +kernel, by decide +kernel⟩ hm bd
    (fun cdv A outer s H E hr => (qss_one (qs_ret (qe_tuple (by rfl) T.b_tuple (qf_comp (own := [("i", 1)]) (T := (.one 1)) rfl nd (qi_range1 (by rfl) T.b_range (qa_cons (qe_len (by rfl) T.b_len (qb_var 0)) qa_nil)) (blkOk_by (by kernel_rfl)) (by decide) (hg_name 1 nd rfl) (fun _ _ _ _ _ => qts_nil) (fun _ _ _ _ _ => (qe_tuple (by rfl) T.b_tuple (qf_comp (own := [("j", 2)]) (T := (.one 2)) rfl nd (qi_range1 (by rfl) T.b_range (qa_cons (qe_len (by rfl) T.b_len (qb_var 0)) qa_nil)) (blkOk_by (by kernel_rfl)) (by decide) (hg_name 2 nd rfl) (fun _ _ _ _ _ => qts_nil) (fun _ _ _ _ _ => (qe_ite (qt_eq (un64 hr) (qb_var 1) (qb_var 2)) (qe_ix (qb_var 0) (qb_var 1)) (T.c_NONE (by rfl))))).qe.b))).qe.b))))
    hp_diagonal_by
theorem d_diagonal_table (T : TB K mg) (Z : TZ P base) (D_diagonal_by : Df P w K mg base 1 "diagonal_by" 1 p_diagonal_by) (D_row_from : Df P w K mg base 36 "row_from" 3 p_row_from) (h : Dd K mg "diagonal_table" (topS 41) ["row"]) : Df P w K mg base 37 "diagonal_table" 1 p_diagonal_table := by
  obtain ⟨f, fd, hm, F, bd⟩ := h.ex
  have nd : (["row"] : List Str).Nodup := by decide
  exact df_of (N := ["row"]) (ps := ["row"]) (W := W_diagonal_table) F ⟨rfl, rfl, rfl, by decide +kernel, rfl, by decide +kernel, by decide +kernel⟩ hm bd
    (fun cdv A outer s H E hr => (qss_one (qs_ret (qe_call D_diagonal_by (hr.mono (by decide)) (by rfl) (qa_cons (qe_call D_row_from (hr.mono (by decide)) (by rfl) (qa_cons (qe_var 0) (qa_cons qe_int (qa_cons (T.c_MOST (by rfl)) qa_nil)))) qa_nil)))))
    hp_diagonal_table
theorem d__law_pick (T : TB K mg) (Z : TZ P base) (D__law_draw : Df P w K mg base 1 "_law_draw" 2 p__law_draw) (h : Dd K mg "_law_pick" (topS 45) ["pen", "some"]) : Df P w K mg base 2 "_law_pick" 2 p__law_pick := by
  obtain ⟨f, fd, hm, F, bd⟩ := h.ex
  have nd : (["pen", "some"] : List Str).Nodup := by decide
  exact df_of (N := ["pen", "some"]) (ps := ["pen", "some"]) (W := W__law_pick) F ⟨rfl, rfl, rfl, by decide +kernel, rfl, by decide +kernel, by decide +kernel⟩ hm bd
    (fun cdv A outer s H E hr => (qss_one (qs_ret (qe_ix (qb_var 1) (qe_call D__law_draw (hr.mono (by decide)) (by rfl) (qa_cons (qe_var 0) (qa_cons (qe_len (by rfl) T.b_len (qb_var 1)) qa_nil))).b))))
    hp__law_pick
theorem d__law_gcd (T : TB K mg) (Z : TZ P base)  (h : Dd K mg "_law_gcd" (topS 46) ["one", "two"]) : Df P w K mg base 1 "_law_gcd" 2 p__law_gcd := by
  obtain ⟨f, fd, hm, F, bd⟩ := h.ex
  have nd : (["one", "two", "lap"] : List Str).Nodup := by decide
  exact df_of (N := ["one", "two", "lap"]) (ps := ["one", "two"]) (W := W__law_gcd) F ⟨rfl, rfl, rfl, by decide +kernel, rfl, by decide +kernel, by decide +kernel⟩ hm bd
    (fun cdv A outer s H E hr => (qss_cons (qs_par 0 1 rfl nd rfl rfl (by decide) rfl rfl (qe_abs (by rfl) T.b_abs (qb_var 0)).v (qe_abs (by rfl) T.b_abs (qb_var 1)).v) (qss_cons (qs_for PassesOwn.never rfl (qi_range1 (by rfl) T.b_range (qa_cons (qe_add qe_int.b (qe_mul qe_int.b (qe_bits (qe_intc (by rfl) T.b_int (qb_var 1)).b).b).b) qa_nil)) (qg_name 2 nd rfl (by first | exact .inl rfl | exact .inr rfl)) (qss_cons (qs_if (qt_eq (un64 hr) (qb_var 1) qe_int.b) (qss_one qs_break) qss_nil) (qss_one (qs_par 0 1 rfl nd rfl rfl (by decide) rfl rfl (qe_var 1).v (qe_mod (qe_intc (by rfl) T.b_int (qb_var 0)).b (qb_var 1)).v)))) (qss_one (qs_ret (qe_var 0))))))
    hp__law_gcd
theorem d__law_q (T : TB K mg) (Z : TZ P base) (D__law_gcd : Df P w K mg base 1 "_law_gcd" 2 p__law_gcd) (h : Dd K mg "_law_q" (topS 47) ["top", "bottom"]) : Df P w K mg base 33 "_law_q" 2 p__law_q := by
  obtain ⟨f, fd, hm, F, bd⟩ := h.ex
  have nd : (["top", "bottom", "by"] : List Str).Nodup := by decide
  exact df_of (N := ["top", "bottom", "by"]) (ps := ["top", "bottom"]) (W := W__law_q) F ⟨rfl, rfl, rfl, by decide +kernel, rfl, by decide +kernel, by decide +kernel⟩ hm bd
    (fun cdv A outer s H E hr => (qss_cons (qs_set 2 nd rfl (by first | exact .inl rfl | exact .inr rfl) (qe_call D__law_gcd (hr.mono (by decide)) (by rfl) (qa_cons (qe_var 0) (qa_cons (qe_var 1) qa_nil)))) (qss_cons (qs_set 2 nd rfl (by first | exact .inl rfl | exact .inr rfl) (qe_ite (qt_lt (qb_var 1) qe_int.b) (qe_neg (qb_var 2)) (qe_var 2))) (qss_one (qs_ret (qe_tup (qa_cons (qe_divU (seer_of Z hr (by decide) rfl rfl) (qb_var 0) (qb_var 2)) (qa_cons (qe_divU (seer_of Z hr (by decide) rfl rfl) (qb_var 1) (qb_var 2)) qa_nil))))))))
    hp__law_q
theorem d__law_plus (T : TB K mg) (Z : TZ P base) (D__law_q : Df P w K mg base 33 "_law_q" 2 p__law_q) (h : Dd K mg "_law_plus" (topS 48) ["one", "two"]) : Df P w K mg base 34 "_law_plus" 2 p__law_plus := by
  obtain ⟨f, fd, hm, F, bd⟩ := h.ex
  have nd : (["one", "two"] : List Str).Nodup := by decide
  exact df_of (N := ["one", "two"]) (ps := ["one", "two"]) (W := W__law_plus) F ⟨rfl, rfl, rfl, by decide +kernel, rfl, by decide +kernel, by decide +kernel⟩ hm bd
    (fun cdv A outer s H E hr => (qss_one (qs_ret (qe_call D__law_q (hr.mono (by decide)) (by rfl) (qa_cons (qe_add (qe_mul (qe_ix (qb_var 0) qe_int.b).b (qe_ix (qb_var 1) qe_int.b).b).b (qe_mul (qe_ix (qb_var 1) qe_int.b).b (qe_ix (qb_var 0) qe_int.b).b).b) (qa_cons (qe_mul (qe_ix (qb_var 0) qe_int.b).b (qe_ix (qb_var 1) qe_int.b).b) qa_nil))))))
    hp__law_plus
theorem d__law_times (T : TB K mg) (Z : TZ P base) (D__law_q : Df P w K mg base 33 "_law_q" 2 p__law_q) (h : Dd K mg "_law_times" (topS 49) ["one", "two"]) : Df P w K mg base 34 "_law_times" 2 p__law_times := by
  obtain ⟨f, fd, hm, F, bd⟩ := h.ex
  have nd : (["one", "two"] : List Str).Nodup := by decide
  exact df_of (N := ["one", "two"]) (ps := ["one", "two"]) (W := W__law_times) F ⟨rfl, rfl, rfl, by decide +kernel, rfl, by decide +kernel, by decide +kernel⟩ hm bd
    (fun cdv A outer s H E hr => (qss_one (qs_ret (qe_call D__law_q (hr.mono (by decide)) (by rfl) (qa_cons (qe_mul (qe_ix (qb_var 0) qe_int.b).b (qe_ix (qb_var 1) qe_int.b).b) (qa_cons (qe_mul (qe_ix (qb_var 0) qe_int.b).b (qe_ix (qb_var 1) qe_int.b).b) qa_nil))))))
    hp__law_times
theorem d__law_handed (T : TB K mg) (Z : TZ P base) (D__law_draw : Df P w K mg base 1 "_law_draw" 2 p__law_draw) (D__law_pick : Df P w K mg base 2 "_law_pick" 2 p__law_pick) (h : Dd K mg "_law_handed" (topS 50) ["pen", "ratio"]) : Df P w K mg base 3 "_law_handed" 2 p__law_handed := by
  obtain ⟨f, fd, hm, F, bd⟩ := h.ex
  have nd : (["pen", "ratio", "by"] : List Str).Nodup := by decide
  exact df_of (N := ["pen", "ratio", "by"]) (ps := ["pen", "ratio"]) (W := W__law_handed) F ⟨rfl, rfl, rfl, by decide +kernel, rfl, by decide +kernel, by decide +kernel⟩ hm bd
    (fun cdv A outer s H E hr => (qss_cons (qs_if (qt_of (qw_and (qt_eq (un64 hr) (qe_ix (qb_var 1) qe_int.b).b qe_int.b) (qw_and1 (qt_eq (un64 hr) (qe_call D__law_draw (hr.mono (by decide)) (by rfl) (qa_cons (qe_var 0) (qa_cons qe_int qa_nil))).b qe_int.b)))) (qss_one (qs_ret (qe_ix (qb_var 1) qe_int.b))) qss_nil) (qss_cons (qs_set 2 nd rfl (by first | exact .inl rfl | exact .inr rfl) (qe_call D__law_pick (hr.mono (by decide)) (by rfl) (qa_cons (qe_var 0) (qa_cons (qf_lst (qa_cons qe_int (qa_cons qe_int (qa_cons qe_int (qa_cons qe_int qa_nil))))).qe qa_nil)))) (qss_one (qs_ret (qe_call D__law_pick (hr.mono (by decide)) (by rfl) (qa_cons (qe_var 0) (qa_cons (qf_lst (qa_cons (qe_tup (qa_cons (qe_mul (qe_ix (qb_var 1) qe_int.b).b (qb_var 2)) (qa_cons (qe_mul (qe_ix (qb_var 1) qe_int.b).b (qb_var 2)) qa_nil))) (qa_cons (qf_lst (qa_cons (qe_mul (qe_ix (qb_var 1) qe_int.b).b (qb_var 2)) (qa_cons (qe_mul (qe_ix (qb_var 1) qe_int.b).b (qb_var 2)) qa_nil))).qe qa_nil))).qe qa_nil))))))))
    hp__law_handed
theorem d__law_passed (T : TB K mg) (Z : TZ P base) (D__law_pick : Df P w K mg base 2 "_law_pick" 2 p__law_pick) (h : Dd K mg "_law_passed" (topS 51) ["pen", "row"]) : Df P w K mg base 3 "_law_passed" 2 p__law_passed := by
  obtain ⟨f, fd, hm, F, bd⟩ := h.ex
  have nd : (["pen", "row"] : List Str).Nodup := by decide
  exact df_of (N := ["pen", "row"]) (ps := ["pen", "row"]) (W := W__law_passed) F ⟨rfl, rfl, rfl, by decide +kernel, rfl, by decide +kernel, by decide +kernel⟩ hm bd
    (fun cdv A outer s H E hr => (qss_one (qs_ret (qe_call D__law_pick (hr.mono (by decide)) (by rfl) (qa_cons (qe_var 0) (qa_cons (qf_lst (qa_cons (qe_tuple (by rfl) T.b_tuple (qb_var 1)) (qa_cons (qf_list (by rfl) T.b_list (qb_var 1)).qe qa_nil))).qe qa_nil))))))
    hp__law_passed
theorem d__law_ratio (T : TB K mg) (Z : TZ P base) (D__law_q : Df P w K mg base 33 "_law_q" 2 p__law_q) (D__law_draw : Df P w K mg base 1 "_law_draw" 2 p__law_draw) (D__law_pick : Df P w K mg base 2 "_law_pick" 2 p__law_pick) (h : Dd K mg "_law_ratio" (topS 52) ["pen", "most"]) : Df P w K mg base 34 "_law_ratio" 2 p__law_ratio := by
  obtain ⟨f, fd, hm, F, bd⟩ := h.ex
  have nd : (["pen", "most"] : List Str).Nodup := by decide
  exact df_of (N := ["pen", "most"]) (ps := ["pen", "most"]) (W := W__law_ratio) F ⟨rfl, rfl, rfl, by decide +kernel, rfl, by decide +kernel, by decide +kernel⟩ hm bd
    (fun cdv A outer s H E hr => (qss_one (qs_ret (qe_call D__law_q (hr.mono (by decide)) (by rfl) (qa_cons (qe_sub (qe_call D__law_draw (hr.mono (by decide)) (by rfl) (qa_cons (qe_var 0) (qa_cons (qe_add (qe_mul qe_int.b (qb_var 1)).b qe_int.b) qa_nil))).b (qb_var 1)) (qa_cons (qe_call D__law_pick (hr.mono (by decide)) (by rfl) (qa_cons (qe_var 0) (qa_cons (qf_lst (qa_cons qe_int (qa_cons qe_int (qa_cons qe_int (qa_cons qe_int qa_nil))))).qe qa_nil))) qa_nil))))))
    hp__law_ratio
theorem d__law_sum (T : TB K mg) (Z : TZ P base) (D__law_plus : Df P w K mg base 34 "_law_plus" 2 p__law_plus) (h : Dd K mg "_law_sum" (topS 53) ["rows"]) : Df P w K mg base 35 "_law_sum" 1 p__law_sum := by
  obtain ⟨f, fd, hm, F, bd⟩ := h.ex
  have nd : (["rows", "found", "item"] : List Str).Nodup := by decide
  exact df_of (N := ["rows", "found", "item"]) (ps := ["rows"]) (W := W__law_sum) F ⟨rfl, rfl, rfl, by decide +kernel, rfl, by decide +kernel, by decide +kernel⟩ hm bd
    (fun cdv A outer s H E hr => (qss_cons (qs_set 1 nd rfl (by first | exact .inl rfl | exact .inr rfl) (qe_tup (qa_cons qe_int (qa_cons qe_int qa_nil)))) (qss_cons (qs_for PassesOwn.never rfl (qi_seq (qe_var 0)) (qg_name 2 nd rfl (by first | exact .inl rfl | exact .inr rfl)) (qss_one (qs_set 1 nd rfl (by first | exact .inl rfl | exact .inr rfl) (qe_call D__law_plus (hr.mono (by decide)) (by rfl) (qa_cons (qe_var 1) (qa_cons (qe_var 2) qa_nil)))))) (qss_one (qs_ret (qe_var 1))))))
    hp__law_sum
theorem d__law_given_row (T : TB K mg) (Z : TZ P base) (D__law_passed : Df P w K mg base 3 "_law_passed" 2 p__law_passed) (D__law_handed : Df P w K mg base 3 "_law_handed" 2 p__law_handed) (h : Dd K mg "_law_given_row" (topS 56) ["pen", "row"]) : Df P w K mg base 4 "_law_given_row" 2 p__law_given_row := by
  obtain ⟨f, fd, hm, F, bd⟩ := h.ex
  have nd : (["pen", "row", "item"] : List Str).Nodup := by decide
  exact df_of (N := ["pen", "row", "item"]) (ps := ["pen", "row"]) (W := W__law_given_row) F ⟨rfl, rfl, rfl, by decide +kernel, rfl, by decide +kernel, by decide +kernel⟩ hm bd
    (fun cdv A outer s H E hr => (qss_one (qs_ret (qe_call D__law_passed (hr.mono (by decide)) (by rfl) (qa_cons (qe_var 0) (qa_cons (qf_comp (own := [("item", 2)]) (T := (.one 2)) rfl nd (qi_seq (qe_var 1)) (blkOk_by (by kernel_rfl)) (by decide) (hg_name 2 nd rfl) (fun _ _ _ _ _ => qts_nil) (fun _ _ _ _ _ => (qe_call D__law_handed (hr.mono (by decide)) (by rfl) (qa_cons (qe_var 0) (qa_cons (qe_var 2) qa_nil))))).qe qa_nil))))))
    hp__law_given_row
theorem d__law_power_row (T : TB K mg) (Z : TZ P base) (D__law_sum : Df P w K mg base 35 "_law_sum" 1 p__law_sum) (D__law_times : Df P w K mg base 34 "_law_times" 2 p__law_times) (h : Dd K mg "_law_power_row" (topS 57) ["points", "weights", "many"]) : Df P w K mg base 36 "_law_power_row" 3 p__law_power_row := by
  obtain ⟨f, fd, hm, F, bd⟩ := h.ex
  have nd : (["points", "weights", "many", "found", "here", "lap", "a", "b"] : List Str).Nodup := by decide
  exact df_of (N := ["points", "weights", "many", "found", "here", "lap", "a", "b"]) (ps := ["points", "weights", "many"]) (W := W__law_power_row) F ⟨rfl, rfl, rfl, by decide +kernel, rfl, by decide +kernel, by decide +kernel⟩ hm bd
    (fun cdv A outer s H E hr => (qss_cons (qs_par 3 4 rfl nd rfl rfl (by decide) rfl rfl (qf_lst qa_nil).v (qf_list (by rfl) T.b_list (qb_var 1)).qe.v) (qss_cons (qs_for PassesOwn.never rfl (qi_range1 (by rfl) T.b_range (qa_cons (qe_var 2) qa_nil)) (qg_name 5 nd rfl (by first | exact .inl rfl | exact .inr rfl)) (qss_cons (qs_app 3 rfl (by first | exact .inl rfl | exact .inr (.inl rfl)) (qe_call D__law_sum (hr.mono (by decide)) (by rfl) (qa_cons (qe_var 4) qa_nil))) (qss_cons (qs_setComp 4 (own := [("a", 6), ("b", 7)]) (T := (.tup [6, 7])) rfl nd rfl rfl (sw_true rfl rfl rfl (by decide +kernel)) (qi_zipM (by rfl) T.b_zip (qa_cons (qe_var 4) (qa_cons (qe_var 0) qa_nil))) (blkOk_by (by kernel_rfl)) (by decide) (hg_pair 6 7 rfl nd rfl rfl) (fun _ _ _ _ _ => qts_nil) (fun _ _ _ _ _ => (qe_call D__law_times (hr.mono (by decide)) (by rfl) (qa_cons (qe_var 6) (qa_cons (qe_var 7) qa_nil))))) (qss_frz 4 qss_nil)))) (qss_one (qs_ret (qe_tuple (by rfl) T.b_tuple (qb_var 3)))))))
    hp__law_power_row
theorem d__law_square_of (T : TB K mg) (Z : TZ P base)  (h : Dd K mg "_law_square_of" (topS 58) ["row", "size", "start"]) : Df P w K mg base 1 "_law_square_of" 3 p__law_square_of := by
  obtain ⟨f, fd, hm, F, bd⟩ := h.ex
  have nd : (["row", "size", "start", "i", "j"] : List Str).Nodup := by decide
  exact df_of (N := ["row", "size", "start", "i", "j"]) (ps := ["row", "size", "start"]) (W := W__law_square_of) F ⟨rfl, rfl, rfl, by decide +kernel, rfl, by decide +kernel, by decide +kernel⟩ hm bd
    (fun cdv A outer s H E hr => (qss_one (qs_ret (qe_tuple (by rfl) T.b_tuple (qf_comp (own := [("i", 3)]) (T := (.one 3)) rfl nd (qi_range1 (by rfl) T.b_range (qa_cons (qe_var 1) qa_nil)) (blkOk_by (by kernel_rfl)) (by decide) (hg_name 3 nd rfl) (fun _ _ _ _ _ => qts_nil) (fun _ _ _ _ _ => (qe_tuple (by rfl) T.b_tuple (qf_comp (own := [("j", 4)]) (T := (.one 4)) rfl nd (qi_range1 (by rfl) T.b_range (qa_cons (qe_var 1) qa_nil)) (blkOk_by (by kernel_rfl)) (by decide) (hg_name 4 nd rfl) (fun _ _ _ _ _ => qts_nil) (fun _ _ _ _ _ => (qe_ix (qb_var 0) (qe_add (qe_add (qb_var 3) (qb_var 4)).b (qb_var 2)).b))).qe.b))).qe.b))))
    hp__law_square_of
theorem d__law_case (T : TB K mg) (Z : TZ P base) (D__law_draw : Df P w K mg base 1 "_law_draw" 2 p__law_draw) (D__law_ratio : Df P w K mg base 34 "_law_ratio" 2 p__law_ratio) (D_power_sums : Df P w K mg base 37 "power_sums" 3 p_power_sums) (D__law_given_row : Df P w K mg base 4 "_law_given_row" 2 p__law_given_row) (D__law_power_row : Df P w K mg base 36 "_law_power_row" 3 p__law_power_row) (D__law_pick : Df P w K mg base 2 "_law_pick" 2 p__law_pick) (D_hankel : Df P w K mg base 37 "hankel" 3 p_hankel) (D__law_square_of : Df P w K mg base 1 "_law_square_of" 3 p__law_square_of) (D__law_times : Df P w K mg base 34 "_law_times" 2 p__law_times) (D_power_table : Df P w K mg base 37 "power_table" 2 p_power_table) (D_product : Df P w K mg base 37 "product" 2 p_product) (D_turned : Df P w K mg base 37 "turned" 1 p_turned) (D_diagonal_table : Df P w K mg base 37 "diagonal_table" 1 p_diagonal_table) (D__law_plus : Df P w K mg base 34 "_law_plus" 2 p__law_plus) (h : Dd K mg "_law_case" (topS 59) ["pen"]) : DfG P w K mg base 38 "_law_case" 1 p__law_case := by
  obtain ⟨f, fd, hm, F, bd⟩ := h.ex
  have nd : (["pen", "few", "points", "weights", "many", "row", "start", "sizes", "size", "table", "led", "powers", "by", "far", "here", "k", "cut", "one", "two", "a", "b", "item"] : List Str).Nodup := by decide
  exact dfg_of (N := ["pen", "few", "points", "weights", "many", "row", "start", "sizes", "size", "table", "led", "powers", "by", "far", "here", "k", "cut", "one", "two", "a", "b", "item"]) (ps := ["pen"]) (W := W__law_case) F ⟨rfl, rfl, rfl, by decide +kernel, rfl, by decide +kernel, by decide +kernel⟩ hm bd
    (fun cdv A outer s H E hA hr => (qss_cons (qs_set 1 nd rfl (by first | exact .inl rfl | exact .inr rfl) (qe_add qe_int.b (qe_call D__law_draw (hr.mono (by decide)) (by rfl) (qa_cons (qe_var 0) (qa_cons qe_int qa_nil))).b)) (qss_cons (qs_par 2 3 rfl nd rfl rfl (by decide) rfl rfl (qe_tuple (by rfl) T.b_tuple (qf_comp (own := [("k", 15)]) (T := (.one 15)) rfl nd (qi_range1 (by rfl) T.b_range (qa_cons (qe_var 1) qa_nil)) (blkOk_by (by kernel_rfl)) (by decide) (hg_name 15 nd rfl) (fun _ _ _ _ _ => qts_nil) (fun _ _ _ _ _ => (qe_call D__law_ratio (hr.mono (by decide)) (by rfl) (qa_cons (qe_var 0) (qa_cons qe_int qa_nil))))).qe.b).v (qe_tuple (by rfl) T.b_tuple (qf_comp (own := [("k", 15)]) (T := (.one 15)) rfl nd (qi_range1 (by rfl) T.b_range (qa_cons (qe_var 1) qa_nil)) (blkOk_by (by kernel_rfl)) (by decide) (hg_name 15 nd rfl) (fun _ _ _ _ _ => qts_nil) (fun _ _ _ _ _ => (qe_call D__law_ratio (hr.mono (by decide)) (by rfl) (qa_cons (qe_var 0) (qa_cons qe_int qa_nil))))).qe.b).v) (qss_cons (qs_set 4 nd rfl (by first | exact .inl rfl | exact .inr rfl) (qe_add qe_int.b (qe_call D__law_draw (hr.mono (by decide)) (by rfl) (qa_cons (qe_var 0) (qa_cons qe_int qa_nil))).b)) (qss_cons (qs_set 5 nd rfl (by first | exact .inl rfl | exact .inr rfl) (qe_call D_power_sums (hr.mono (by decide)) (by rfl) (qa_cons (qe_call D__law_given_row (hr.mono (by decide)) (by rfl) (qa_cons (qe_var 0) (qa_cons (qe_var 2) qa_nil))) (qa_cons (qe_call D__law_given_row (hr.mono (by decide)) (by rfl) (qa_cons (qe_var 0) (qa_cons (qe_var 3) qa_nil))) (qa_cons (qe_var 4) qa_nil))))) (qss_cons (qs_if (qt_neS (qe_repG hA hr (by rfl) T.b_repr (qb_var 5)).b (qe_repG hA hr (by rfl) T.b_repr (qe_call D__law_power_row (hr.mono (by decide)) (by rfl) (qa_cons (qe_var 2) (qa_cons (qe_var 3) (qa_cons (qe_var 4) qa_nil)))).b).b) (qss_one (qs_ret qe_bl)) qss_nil) (qss_cons (qs_set 6 nd rfl (by first | exact .inl rfl | exact .inr rfl) (qe_call D__law_draw (hr.mono (by decide)) (by rfl) (qa_cons (qe_var 0) (qa_cons qe_int qa_nil)))) (qss_cons (qs_setComp 7 (own := [("size", 8)]) (T := (.one 8)) rfl nd rfl rfl (sw_true rfl rfl rfl (by decide +kernel)) (qi_range2 (by rfl) T.b_range (qa_cons qe_int (qa_cons qe_int qa_nil))) (blkOk_by (by kernel_rfl)) (by decide) (hg_name 8 nd rfl) (fun _ _ _ _ _ => (qts_one (qt_le (qe_add (qe_sub (qe_mul qe_int.b (qb_var 8)).b qe_int.b).b (qb_var 6)).b (qb_var 4)))) (fun _ _ _ _ _ => (qe_var 8))) (qss_frz 7 (qss_cons (qs_if (qt_ne (un64 hr) (qb_var 7) (qf_lst qa_nil).qe.b) (qss_cons (qs_set 8 nd rfl (by first | exact .inl rfl | exact .inr rfl) (qe_call D__law_pick (hr.mono (by decide)) (by rfl) (qa_cons (qe_var 0) (qa_cons (qe_var 7) qa_nil)))) (qss_cons (qs_set 9 nd rfl (by first | exact .inl rfl | exact .inr rfl) (qe_call D_hankel (hr.mono (by decide)) (by rfl) (qa_cons (qe_call D__law_given_row (hr.mono (by decide)) (by rfl) (qa_cons (qe_var 0) (qa_cons (qe_var 5) qa_nil))) (qa_cons (qe_var 8) (qa_cons (qe_var 6) qa_nil))))) (qss_cons (qs_if (qt_neS (qe_repG hA hr (by rfl) T.b_repr (qb_var 9)).b (qe_repG hA hr (by rfl) T.b_repr (qe_call D__law_square_of (hr.mono (by decide)) (by rfl) (qa_cons (qe_var 5) (qa_cons (qe_var 8) (qa_cons (qe_var 6) qa_nil)))).b).b) (qss_one (qs_ret qe_bl)) qss_nil) (qss_cons (qs_set 10 nd rfl (by first | exact .inl rfl | exact .inr rfl) (qe_ite (qt_eq (un64 hr) (qb_var 6) qe_int.b) (qe_tuple (by rfl) T.b_tuple (qf_comp (own := [("a", 19), ("b", 20)]) (T := (.tup [19, 20])) rfl nd (qi_zip (by rfl) T.b_zip (qa_cons (qe_var 3) (qa_cons (qe_var 2) qa_nil))) (blkOk_by (by kernel_rfl)) (by decide) (hg_pair 19 20 rfl nd rfl rfl) (fun _ _ _ _ _ => qts_nil) (fun _ _ _ _ _ => (qe_call D__law_times (hr.mono (by decide)) (by rfl) (qa_cons (qe_var 19) (qa_cons (qe_var 20) qa_nil))))).qe.b) (qe_var 3))) (qss_cons (qs_set 11 nd rfl (by first | exact .inl rfl | exact .inr rfl) (qe_call D_power_table (hr.mono (by decide)) (by rfl) (qa_cons (qe_var 2) (qa_cons (qe_var 8) qa_nil)))) (qss_one (qs_if (qt_ne (un64 hr) (qe_call D_product (hr.mono (by decide)) (by rfl) (qa_cons (qe_call D_product (hr.mono (by decide)) (by rfl) (qa_cons (qe_call D_turned (hr.mono (by decide)) (by rfl) (qa_cons (qe_var 11) qa_nil)) (qa_cons (qe_call D_diagonal_table (hr.mono (by decide)) (by rfl) (qa_cons (qe_var 10) qa_nil)) qa_nil))) (qa_cons (qe_var 11) qa_nil))).b (qb_var 9)) (qss_one (qs_ret qe_bl)) qss_nil))))))) qss_nil) (qss_cons (qs_set 12 nd rfl (by first | exact .inl rfl | exact .inr rfl) (qe_call D__law_pick (hr.mono (by decide)) (by rfl) (qa_cons (qe_var 0) (qa_cons (qf_lst (qa_cons (qe_tup (qa_cons qe_int (qa_cons qe_int qa_nil))) (qa_cons (qe_tup (qa_cons (qe_neg qe_int.b) (qa_cons qe_int qa_nil))) (qa_cons (qe_tup (qa_cons qe_int (qa_cons qe_int qa_nil))) qa_nil)))).qe qa_nil)))) (qss_cons (qs_set 13 nd rfl (by first | exact .inl rfl | exact .inr rfl) (qe_call D_power_sums (hr.mono (by decide)) (by rfl) (qa_cons (qe_tuple (by rfl) T.b_tuple (qf_comp (own := [("item", 21)]) (T := (.one 21)) rfl nd (qi_seq (qe_var 2)) (blkOk_by (by kernel_rfl)) (by decide) (hg_name 21 nd rfl) (fun _ _ _ _ _ => qts_nil) (fun _ _ _ _ _ => (qe_call D__law_times (hr.mono (by decide)) (by rfl) (qa_cons (qe_var 12) (qa_cons (qe_var 21) qa_nil))))).qe.b) (qa_cons (qe_var 3) (qa_cons (qe_var 4) qa_nil))))) (qss_cons (qs_set 14 nd rfl (by first | exact .inl rfl | exact .inr rfl) (qe_tup (qa_cons qe_int (qa_cons qe_int qa_nil)))) (qss_cons (qs_for PassesOwn.never rfl (qi_range1 (by rfl) T.b_range (qa_cons (qe_var 4) qa_nil)) (qg_name 15 nd rfl (by first | exact .inl rfl | exact .inr rfl)) (qss_cons (qs_if (qt_ne (un64 hr) (qe_ix (qb_var 13) (qb_var 15)).b (qe_call D__law_times (hr.mono (by decide)) (by rfl) (qa_cons (qe_var 14) (qa_cons (qe_ix (qb_var 5) (qb_var 15)) qa_nil))).b) (qss_one (qs_ret qe_bl)) qss_nil) (qss_one (qs_set 14 nd rfl (by first | exact .inl rfl | exact .inr rfl) (qe_call D__law_times (hr.mono (by decide)) (by rfl) (qa_cons (qe_var 14) (qa_cons (qe_var 12) qa_nil))))))) (qss_cons (qs_set 16 nd rfl (by first | exact .inl rfl | exact .inr rfl) (qe_add qe_int.b (qe_call D__law_draw (hr.mono (by decide)) (by rfl) (qa_cons (qe_var 0) (qa_cons (qe_var 1) qa_nil))).b)) (qss_cons (qs_if (qt_lt (qb_var 16) (qb_var 1)) (qss_cons (qs_par 17 18 rfl nd rfl rfl (by decide) rfl rfl (qe_call D_power_sums (hr.mono (by decide)) (by rfl) (qa_cons (qe_sl (qb_var 2) qo_n (qo_s (qe_var 16))) (qa_cons (qe_sl (qb_var 3) qo_n (qo_s (qe_var 16))) (qa_cons (qe_var 4) qa_nil)))).v (qe_call D_power_sums (hr.mono (by decide)) (by rfl) (qa_cons (qe_sl (qb_var 2) (qo_s (qe_var 16)) qo_n) (qa_cons (qe_sl (qb_var 3) (qo_s (qe_var 16)) qo_n) (qa_cons (qe_var 4) qa_nil)))).v) (qss_one (qs_ret (qe_eq (un64 hr) (qe_tuple (by rfl) T.b_tuple (qf_comp (own := [("a", 19), ("b", 20)]) (T := (.tup [19, 20])) rfl nd (qi_zip (by rfl) T.b_zip (qa_cons (qe_var 17) (qa_cons (qe_var 18) qa_nil))) (blkOk_by (by kernel_rfl)) (by decide) (hg_pair 19 20 rfl nd rfl rfl) (fun _ _ _ _ _ => qts_nil) (fun _ _ _ _ _ => (qe_call D__law_plus (hr.mono (by decide)) (by rfl) (qa_cons (qe_var 19) (qa_cons (qe_var 20) qa_nil))))).qe.b).b (qb_var 5))))) qss_nil) (qss_one (qs_ret qe_bl))))))))))))))))))
    hp__law_case
theorem e_BadRow (hM : ∃ M, mg "MinorError" = some (.ref M) ∧ MeF K M) (h : DeC K mg "BadRow" "BadRow.__init__" (inClass (topS 5) 0) ["self", "row"] ["row"]) : ExOk P w K mg base 1 "BadRow" ["row"] := by
  obtain ⟨M, hmM, MF⟩ := hM
  obtain ⟨C, f, fd, hm, OT, iC, tI, bd, F, no⟩ := h.ex
  exact exOk1 (msg := "A value that is no such row.") F ⟨rfl, rfl, rfl, by decide +kernel, rfl, by decide +kernel, by decide +kernel⟩ hm OT iC tI bd (no _ (by decide))
    (fun cdv A outer s H E => PSs.le (pss_cons (ps_expr (pe_meinit MF (by rfl) hmM (pa_cons (pe_var (i := 0) rfl (.inl rfl)) (pa_cons pe_str pa_nil)))) (pss_one (ps_ost (pe_var (i := 0) rfl (.inl rfl)) (pe_var (i := 1) rfl (.inl rfl))))) fun D σ H h => h)
theorem e_BadNumber (hM : ∃ M, mg "MinorError" = some (.ref M) ∧ MeF K M) (h : DeC K mg "BadNumber" "BadNumber.__init__" (inClass (topS 3) 0) ["self", "what", "number"] ["what", "number"]) : ExOk P w K mg base 1 "BadNumber" ["what", "number"] := by
  obtain ⟨M, hmM, MF⟩ := hM
  obtain ⟨C, f, fd, hm, OT, iC, tI, bd, F, no⟩ := h.ex
  exact exOk2 (msg := "A number that is not allowed here.") F ⟨rfl, rfl, rfl, by decide +kernel, rfl, by decide +kernel, by decide +kernel⟩ hm OT iC tI bd (no _ (by decide)) (no _ (by decide))
    (fun cdv A outer s H E => PSs.le (pss_cons (ps_expr (pe_meinit MF (by rfl) hmM (pa_cons (pe_var (i := 0) rfl (.inl rfl)) (pa_cons pe_str pa_nil)))) (pss_cons (ps_ost (pe_var (i := 0) rfl (.inl rfl)) (pe_var (i := 1) rfl (.inl rfl))) (pss_one (ps_ost (pe_var (i := 0) rfl (.inl rfl)) (pe_var (i := 2) rfl (.inl rfl)))))) fun D σ H h => h)
theorem e_Unlike (hM : ∃ M, mg "MinorError" = some (.ref M) ∧ MeF K M) (h : DeC K mg "Unlike" "Unlike.__init__" (inClass (topS 7) 0) ["self", "what"] ["what"]) : ExOk P w K mg base 1 "Unlike" ["what"] := by
  obtain ⟨M, hmM, MF⟩ := hM
  obtain ⟨C, f, fd, hm, OT, iC, tI, bd, F, no⟩ := h.ex
  exact exOk1 (msg := "Things that do not fit together.") F ⟨rfl, rfl, rfl, by decide +kernel, rfl, by decide +kernel, by decide +kernel⟩ hm OT iC tI bd (no _ (by decide))
    (fun cdv A outer s H E => PSs.le (pss_cons (ps_expr (pe_meinit MF (by rfl) hmM (pa_cons (pe_var (i := 0) rfl (.inl rfl)) (pa_cons pe_str pa_nil)))) (pss_one (ps_ost (pe_var (i := 0) rfl (.inl rfl)) (pe_var (i := 1) rfl (.inl rfl))))) fun D σ H h => h)
theorem x_row_from (T : TB K mg) (D_loose_row2 : Df P w K mg base 35 "loose_row" 1 p_loose_row2) (D_in_tuples : Df P w K mg base 11 "in_tuples" 1 p_in_tuples) (E_BadRow : ExOk P w K mg base 1 "BadRow" ["row"]) (h : Dd K mg "row_from" (topS 25) ["row", "least", "most"]) : Dx P w K mg base 36 "row_from" 3 px_row_from := by
  obtain ⟨f, fd, hm, F, bd⟩ := h.ex
  have nd : (["row", "least", "most", "made"] : List Str).Nodup := by decide
  exact dx_of (N := ["row", "least", "most", "made"]) (ps := ["row", "least", "most"]) (Wb := Wx_row_from) F ⟨rfl, rfl, rfl, by decide +kernel, rfl, by decide +kernel, by decide +kernel⟩ hm bd
    (fun cdv A outer s H E p We hr fx tk => (sp_cons (sp_set 3 nd rfl (by first | exact .inl rfl | exact .inr rfl) ((qe_call D_loose_row2 (hr.mono (by decide)) (by rfl) (qa_cons (qe_call D_in_tuples (hr.mono (by decide)) (by rfl) (qa_cons (qe_var 0) qa_nil)) qa_nil)) p)) (sp_cons (sp_if (qt_of (qw_or (qt_is (qb_var 3) qe_non.b) (qw_or1 (qt_not (qt_chain op_le op_le ok_le ok_le (qb_var 1) (qe_len (by rfl) T.b_len (qb_var 3)).b (qb_var 2)))))) (sp_one (ps_raiseX E_BadRow (hr.mono (by decide)) rfl tk fx (by rfl) (qa_cons (qe_var 0) qa_nil))) (qss_nil p)) (sp_one (sp_ret ((qe_var 3) p)))))) hpx_row_from
theorem x_need_between (T : TB K mg) (D_is_whole : Df P w K mg base 1 "is_whole" 1 p_is_whole) (E_BadNumber : ExOk P w K mg base 1 "BadNumber" ["what", "number"]) (h : Dd K mg "need_between" (topS 12) ["what", "number", "low", "high"]) : Dx P w K mg base 3 "need_between" 4 px_need_between := by
  obtain ⟨f, fd, hm, F, bd⟩ := h.ex
  have nd : (["what", "number", "low", "high"] : List Str).Nodup := by decide
  exact dx_of (N := ["what", "number", "low", "high"]) (ps := ["what", "number", "low", "high"]) (Wb := Wx_need_between) F ⟨rfl, rfl, rfl, by decide +kernel, rfl, by decide +kernel, by decide +kernel⟩ hm bd
    (fun cdv A outer s H E p We hr fx tk => (sp_cons (sp_if (qt_not (qt_val (qe_call D_is_whole (hr.mono (by decide)) (by rfl) (qa_cons (qe_var 1) qa_nil)))) (sp_one (ps_raiseX E_BadNumber (hr.mono (by decide)) rfl tk fx (by rfl) (qa_cons (qe_var 0) (qa_cons (qe_var 1) qa_nil)))) (qss_nil p)) (sp_one (sp_if (qt_of (qw_or (qt_of (qw_and (qt_isN (qb_var 2) qe_non.b) (qw_and1 (qt_lt (qb_var 1) (qb_var 2))))) (qw_or1 (qt_of (qw_and (qt_isN (qb_var 3) qe_non.b) (qw_and1 (qt_gt (qb_var 1) (qb_var 3)))))))) (sp_one (ps_raiseX E_BadNumber (hr.mono (by decide)) rfl tk fx (by rfl) (qa_cons (qe_var 0) (qa_cons (qe_var 1) qa_nil)))) (qss_nil p))))) hpx_need_between
theorem x_power_sums (T : TB K mg) (D_row_from : Df P w K mg base 36 "row_from" 3 p_row_from) (D_need_between : Df P w K mg base 2 "need_between" 4 p_need_between) (D_power_row : Df P w K mg base 35 "power_row" 3 p_power_row) (X_row_from : Dx P w K mg base 36 "row_from" 3 px_row_from) (X_need_between : Dx P w K mg base 3 "need_between" 4 px_need_between) (h : Dd K mg "power_sums" (topS 35) ["points", "weights", "many"]) : Dx P w K mg base 37 "power_sums" 3 px_power_sums := by
  obtain ⟨f, fd, hm, F, bd⟩ := h.ex
  have nd : (["points", "weights", "many", "first", "second"] : List Str).Nodup := by decide
  exact dx_of (N := ["points", "weights", "many", "first", "second"]) (ps := ["points", "weights", "many"]) (Wb := Wx_power_sums) F ⟨rfl, rfl, rfl, by decide +kernel, rfl, by decide +kernel, by decide +kernel⟩ hm bd
    (fun cdv A outer s H E p We hr fx tk => (sp_cons (sp_set 3 nd rfl (by first | exact .inl rfl | exact .inr rfl) (pe_orE ((qe_call D_row_from (hr.mono (by decide)) (by rfl) (qa_cons (qe_var 0) (qa_cons qe_int (qa_cons (T.c_MOST (by rfl)) qa_nil)))) p) (pe_callX X_row_from (hr.mono (by decide)) tk fx (by rfl) (qa_cons (qe_var 0) (qa_cons qe_int (qa_cons (T.c_MOST (by rfl)) qa_nil)))))) (sp_cons (sp_set 4 nd rfl (by first | exact .inl rfl | exact .inr rfl) (pe_orE ((qe_call D_row_from (hr.mono (by decide)) (by rfl) (qa_cons (qe_var 1) (qa_cons (qe_len (by rfl) T.b_len (qb_var 3)) (qa_cons (qe_len (by rfl) T.b_len (qb_var 3)) qa_nil)))) p) (pe_callX X_row_from (hr.mono (by decide)) tk fx (by rfl) (qa_cons (qe_var 1) (qa_cons (qe_len (by rfl) T.b_len (qb_var 3)) (qa_cons (qe_len (by rfl) T.b_len (qb_var 3)) qa_nil)))))) (sp_cons (sp_drop (pe_orE ((qe_call D_need_between (hr.mono (by decide)) (by rfl) (qa_cons qe_str (qa_cons (qe_var 2) (qa_cons qe_int (qa_cons (T.c_MOST_ITEMS (by rfl)) qa_nil))))) p) (pe_callX X_need_between (hr.mono (by decide)) tk fx (by rfl) (qa_cons qe_str (qa_cons (qe_var 2) (qa_cons qe_int (qa_cons (T.c_MOST_ITEMS (by rfl)) qa_nil))))))) (sp_one (sp_ret ((qe_call D_power_row (hr.mono (by decide)) (by rfl) (qa_cons (qe_var 3) (qa_cons (qe_var 4) (qa_cons (qe_var 2) qa_nil)))) p))))))) hpx_power_sums
theorem x_hankel (T : TB K mg) (D_row_from : Df P w K mg base 36 "row_from" 3 p_row_from) (D_need_between : Df P w K mg base 2 "need_between" 4 p_need_between) (D_hankel_by : Df P w K mg base 1 "hankel_by" 3 p_hankel_by) (X_row_from : Dx P w K mg base 36 "row_from" 3 px_row_from) (X_need_between : Dx P w K mg base 3 "need_between" 4 px_need_between) (E_Unlike : ExOk P w K mg base 1 "Unlike" ["what"]) (h : Dd K mg "hankel" (topS 37) ["row", "size", "start"]) : Dx P w K mg base 37 "hankel" 3 px_hankel := by
  obtain ⟨f, fd, hm, F, bd⟩ := h.ex
  have nd : (["row", "size", "start", "made"] : List Str).Nodup := by decide
  exact dx_of (N := ["row", "size", "start", "made"]) (ps := ["row", "size", "start"]) (Wb := Wx_hankel) F ⟨rfl, rfl, rfl, by decide +kernel, rfl, by decide +kernel, by decide +kernel⟩ hm bd
    (fun cdv A outer s H E p We hr fx tk => (sp_cons (sp_set 3 nd rfl (by first | exact .inl rfl | exact .inr rfl) (pe_orE ((qe_call D_row_from (hr.mono (by decide)) (by rfl) (qa_cons (qe_var 0) (qa_cons qe_int (qa_cons (T.c_MOST_ITEMS (by rfl)) qa_nil)))) p) (pe_callX X_row_from (hr.mono (by decide)) tk fx (by rfl) (qa_cons (qe_var 0) (qa_cons qe_int (qa_cons (T.c_MOST_ITEMS (by rfl)) qa_nil)))))) (sp_cons (sp_drop (pe_orE ((qe_call D_need_between (hr.mono (by decide)) (by rfl) (qa_cons qe_str (qa_cons (qe_var 1) (qa_cons qe_int (qa_cons (T.c_MOST (by rfl)) qa_nil))))) p) (pe_callX X_need_between (hr.mono (by decide)) tk fx (by rfl) (qa_cons qe_str (qa_cons (qe_var 1) (qa_cons qe_int (qa_cons (T.c_MOST (by rfl)) qa_nil))))))) (sp_cons (sp_drop (pe_orE ((qe_call D_need_between (hr.mono (by decide)) (by rfl) (qa_cons qe_str (qa_cons (qe_var 2) (qa_cons qe_int (qa_cons qe_int qa_nil))))) p) (pe_callX X_need_between (hr.mono (by decide)) tk fx (by rfl) (qa_cons qe_str (qa_cons (qe_var 2) (qa_cons qe_int (qa_cons qe_int qa_nil))))))) (sp_cons (sp_if (qt_lt (qe_len (by rfl) T.b_len (qb_var 3)).b (qe_add (qe_sub (qe_mul qe_int.b (qb_var 1)).b qe_int.b).b (qb_var 2)).b) (sp_one (ps_raiseX E_Unlike (hr.mono (by decide)) rfl tk fx (by rfl) (qa_cons qe_str qa_nil))) (qss_nil p)) (sp_one (sp_ret ((qe_call D_hankel_by (hr.mono (by decide)) (by rfl) (qa_cons (qe_var 3) (qa_cons (qe_var 1) (qa_cons (qe_var 2) qa_nil)))) p)))))))) hpx_hankel
theorem d__law_fault (EF : ExcF K mg cs78) {LL : LLs} (hL : ∀ l ∈ LL, LamOk P w K mg base 38 l.1 l.2.1 l.2.2) (h : Dd K mg "_law_fault" (topS 54) ["work"]) : Df P w K mg base 39 "_law_fault" 1 (pFault LL cs78) := by
  obtain ⟨f, fd, hm, F, bd⟩ := h.ex
  have nd : (["work", "fault"] : List Str).Nodup := by decide
  exact df_ofP (N := ["work", "fault"]) (ps := ["work"]) (W := wSeq (wFault LL 0 cs78) (wRet (wC .non))) F ⟨rfl, rfl, rfl, by decide +kernel, rfl, by decide +kernel, by decide +kernel⟩ hm bd
    (fun cdv A outer s H E p hO hr => sp_cons (ps_fault (i := 1) (j := 0) hO hL hr rfl rfl nd rfl (.inl rfl) rfl rfl LamX.takes0 EF (.more (by rfl) (by decide) (.cons (by rfl) (by rfl) .nil) (by rfl) (.more (by rfl) (by decide) (.cons (by rfl) (by rfl) (.cons (by rfl) (by rfl) .nil)) (by rfl) (.more (by rfl) (by decide) (.cons (by rfl) (by rfl) .nil) (by rfl) (.more (by rfl) (by decide) (.cons (by rfl) (by rfl) .nil) (by rfl) (.more (by rfl) (by decide) (.cons (by rfl) (by rfl) (.cons (by rfl) (by rfl) (.cons (by rfl) (by rfl) .nil))) (by rfl) (.more (by rfl) (by decide) (.cons (by rfl) (by rfl) .nil) (by rfl) .done)))))) (by decide)) (sp_one (sp_ret (qe_non p)))) hpFault
theorem d__law_are_due (T : TB K mg) {LL : LLs} (D__law_fault : Df P w K mg base 39 "_law_fault" 1 (pFault LL cs78)) (h : Dd K mg "_law_are_due" (topS 55) ["tries"]) : DfG P w K mg base 40 "_law_are_due" 1 (pDue LL cs78) := by
  obtain ⟨f, fd, hm, F, bd⟩ := h.ex
  have nd : (["tries", "work", "due"] : List Str).Nodup := by decide
  exact dfg_of (N := ["tries", "work", "due"]) (ps := ["tries"]) (W := W__law_are_due (pFault LL cs78)) F ⟨rfl, rfl, rfl, by decide +kernel, rfl, by decide +kernel, by decide +kernel⟩ hm bd
    (fun cdv A outer s H E hA hr => (qss_one (qs_ret (qe_all rfl (by rfl) T.b_all (qf_comp (own := [("work", 1), ("due", 2)]) (T := (.tup [1, 2])) rfl nd (qi_seq (qe_var 0)) (blkOk_by (by kernel_rfl)) (by decide) (hg_pair 1 2 rfl nd rfl rfl) (fun _ _ _ _ _ => qts_nil) (fun _ _ _ _ _ => (qe_eqS (qe_repG hA hr (by rfl) T.b_repr (qe_call D__law_fault (hr.mono (by decide)) (by rfl) (qa_cons (qe_var 1) qa_nil)).b).b (qe_repG hA hr (by rfl) T.b_repr (qb_var 2)).b))).qe.b)))) hpDue
end
end En.K78
namespace En.K78
open PySem PySem.Spec PyProof.Rows L2 En
abbrev penL (ca : Addr) (k dg ct fd : Int) : List (Key × V) := [(.inr "cells", .ref ca), (.inr "at", .int k), (.inr "digits", .int dg), (.inr "count", .int ct), (.inr "fold", .int fd)]
section
variable {ca : Addr} {k dg ct fd x : Int}
theorem pl_cells : valV (penL ca k dg ct fd) (.inr "cells") = some (.ref ca) := by rfl
theorem pl_at : valV (penL ca k dg ct fd) (.inr "at") = some (.int k) := by rfl
theorem pl_digits : valV (penL ca k dg ct fd) (.inr "digits") = some (.int dg) := by rfl
theorem pl_count : valV (penL ca k dg ct fd) (.inr "count") = some (.int ct) := by rfl
theorem pl_fold : valV (penL ca k dg ct fd) (.inr "fold") = some (.int fd) := by rfl
theorem pp_at : putK (penL ca k dg ct fd) (.inr "at") (.int x) = penL ca x dg ct fd := by rfl
theorem pp_digits : putK (penL ca k dg ct fd) (.inr "digits") (.int x) = penL ca k x ct fd := by rfl
theorem pp_count : putK (penL ca k dg ct fd) (.inr "count") (.int x) = penL ca k dg x fd := by rfl
theorem pp_fold : putK (penL ca k dg ct fd) (.inr "fold") (.int x) = penL ca k dg ct x := by rfl
end
/-- reading pen[key] -/
theorem rdP {σ : L2.St} {H : Hp} {Q : VK} {pa : Addr} {L : List (Key × V)} {key : Str} {v : V} (hσ : σ[0]? = some (some (.ref pa))) (hp : H pa = some (.dK L)) (hv : valV L (.inr key) = some v) (q : Q v H) : tDGet (tVar 0) (tC (.str key)) σ H Q :=
  ⟨.ref pa, hσ, pa, v, rfl, by have h := DGet.k (k := .inr key) hp; rw [hv] at h; exact h, q⟩
/-- pen[key] = v -/
theorem wrP {σ : L2.St} {H : Hp} {D : Ends} {pa : Addr} {L L' : List (Key × V)} {key : Str} {v : V} (hσ : σ[0]? = some (some (.ref pa))) (hl : L.length < 100) (hp : H pa = some (.dK L)) (he : putK L (.inr key) v = L') (q : D.nx σ (upd H pa (.dK L'))) :
    tVar 0 σ H fun x H2 => tC (.str key) σ H2 fun y H3 => ∃ a H4, x = .ref a ∧ DPut H3 a y v H4 ∧ D.nx σ H4 :=
  ⟨.ref pa, hσ, pa, _, rfl, DPut.k (k := .inr key) hp (by have := line_ge; omega), by rw [he]; exact q⟩
theorem noSl {i : Expr} (h : ∀ ov iv, subscripted i false ov iv = operate [ov, iv] (getItem ov iv) := by intro _ _; rfl) : NoSl i := h
theorem upd_upd {H : Hp} {a : Addr} {o o' : HO} : upd (upd H a o) a o' = upd H a o' := by
  funext b
  by_cases h : b = a
  · subst h; rw [upd_same, upd_same]
  · rw [upd_ne h, upd_ne h, upd_ne h]
section
variable {P : Program} {w : World} {K : PySem.W.Frag} {mg : Str → Option Value} {base : Heap}
theorem d__law_draw (T : TB K mg) (h : Dd K mg "_law_draw" (topS 44) ["pen", "many"]) : Df P w K mg base 1 "_law_draw" 2 p__law_draw := by
  obtain ⟨f, fd, hm, F, bd⟩ := h.ex
  have nd : (["pen", "many", "cell", "digit", "blend"] : List Str).Nodup := by decide
  refine ⟨f, fd, _, hm, F.kp, bd, rfl, F.ok (N := ["pen", "many", "cell", "digit", "blend"]) ⟨rfl, rfl, rfl, by decide +kernel, rfl, by decide +kernel, by decide +kernel⟩ (fun vs H Q E h => h.1) fun cdv A outer s H vs Q E hr h => ?_⟩
  obtain ⟨hl, pa, ca, B, ds, b, Qd, trk, bpa, bca, po, fr, ⟨many, rfl, hm1, hm2, hb, q⟩, kk⟩ := h
  cases fr with
  | cons f1 f2 =>
    cases f2 with
    | cons f3 f4 =>
      cases f4
      cases f1
      cases f3
      obtain ⟨cells, k, dg, ct, fdv, hp, hc, hk, hcl, hdg, hct, hctb, hf0, hf1⟩ := po
      have hne : pa ≠ ca := by
        rintro rfl
        rw [hp] at hc
        cases hc
      have hu : (cxOf CX0 P w K mg base ["pen", "many", "cell", "digit", "blend"] "_law_draw" (defScope (topS 44)) f cdv A outer s H E).nox.A.units + 1 < cLine := by
        have := hr.un
        show (A.deeper _).units + 1 < cLine
        omega
      -- from the second if on
      obtain ⟨tt, htt, hw⟩ : ∃ tt, PSs (cxOf CX0 P w K mg base ["pen", "many", "cell", "digit", "blend"] "_law_draw" (defScope (topS 44)) f cdv A outer s H E).nox ((defBody (topS 44)).drop 2) tt ∧
          ∀ (σ : L2.St) (k' : Nat) (dg' fd' : Int), σ[0]? = some (some (.ref pa)) → σ[1]? = some (some (.int (many : Int))) → σ.length = 5 → k' ≤ cells.length → 0 ≤ dg' → 0 ≤ fd' → fd' < 2 ^ 32 →
            tt { nx := fun _ H' => Q .non H', rt := Q } σ (upd H pa (.dK (penL ca k' dg' (ct + 1) fd'))) := by
        refine ⟨_, pss_cons (ps_if (pt_cmpR op_gt (pe_dget hu (pe_var (i := 0) rfl (.inl rfl)) pe_str noSl) pe_int (nomark _))
            (pss_cons (ps_set (i := 3) nd rfl (.inl rfl) (pe_op op_modN (pe_callTy call_int1 (by rfl) T.b_int (by decide +kernel) (pa_cons (pe_dget hu (pe_var (i := 0) rfl (.inl rfl)) pe_str noSl) pa_nil)) (pe_var (i := 1) rfl (.inl rfl))))
            (pss_cons (ps_dput hu (pe_var (i := 0) rfl (.inl rfl)) pe_str (pe_op op_fdivG (pe_dget hu (pe_var (i := 0) rfl (.inl rfl)) pe_str noSl) (pe_var (i := 1) rfl (.inl rfl))) rfl)
            (pss_one (ps_ret (pe_var (i := 3) rfl (.inl rfl)))))) pss_nil)
          (pss_cons (ps_set (i := 4) nd rfl (.inl rfl) (pe_op op_add (pe_op op_add (pe_dget hu (pe_var (i := 0) rfl (.inl rfl)) pe_str noSl) (pe_op op_mulW (pe_dget hu (pe_var (i := 0) rfl (.inl rfl)) pe_str noSl) pe_int)) pe_int))
          (pss_one (ps_ret (pe_op op_modN (pe_op op_fdivG (pe_callTy call_int1 (by rfl) T.b_int (by decide +kernel) (pa_cons (pe_op op_modN (pe_op op_pow (pe_var (i := 4) rfl (.inl rfl)) pe_int) pe_int) pa_nil)) pe_int) (pe_var (i := 1) rfl (.inl rfl)))))), ?_⟩
        intro σ k' dg' fd' hσ hσ1 hlen hk' hdg' hf0' hf1'
        have hp1 : upd H pa (.dK (penL ca k' dg' (ct + 1) fd')) pa = some (.dK (penL ca k' dg' (ct + 1) fd')) := upd_same
        have hmp : (0 : Int) < (many : Int) := by omega
        have fin : ∀ (dg'' : Int) (r : Int), 0 ≤ dg'' → 0 ≤ r → r < (many : Int) → Q (.int r) (upd H pa (.dK (penL ca k' dg'' (ct + 1) fd'))) := by
          intro dg'' r h1 h2 h3
          obtain ⟨d, rfl⟩ := Int.eq_ofNat_of_zero_le h2
          refine kk (.int (d : Int)) _ (.int (d : Int)) (b - 1) (fun a o ha na => by rw [upd_ne na]; exact ha) ⟨cells, k', dg'', ct + 1, fd', upd_same, by rw [upd_ne hne.symm]; exact hc, hk', hcl, h1, by omega, by omega, hf0', hf1'⟩ (.int _) (q d (by omega))
        have hmod : ∀ a : Int, 0 ≤ a.fmod (many : Int) ∧ a.fmod (many : Int) < (many : Int) := fun a => ⟨Int.fmod_nonneg_of_pos a hmp, Int.fmod_lt_of_pos a hmp⟩
        have hm2 : CDivG dg' (many : Int) := ⟨by omega, by
          have := log2_lt (n := many) (k := 20) (by omega) (by decide)
          rw [Int.natAbs_natCast]
          omega⟩
        refine rdP hσ hp1 pl_digits ⟨dg', 0, rfl, rfl, _, rfl, ite2 (fun e => ?_) (fun e => ?_)⟩
        · have hσ' : (σ.set 3 (some (.int (dg'.fmod (many : Int)))))[0]? = some (some (.ref pa)) := by rw [List.getElem?_set_ne (by decide)]; exact hσ
          have hσ1' : (σ.set 3 (some (.int (dg'.fmod (many : Int)))))[1]? = some (some (.int (many : Int))) := by rw [List.getElem?_set_ne (by decide)]; exact hσ1
          refine rdP hσ hp1 pl_digits (.inl ⟨dg', rfl, _, hσ1, dg', many, rfl, rfl, by omega, ?_⟩)
          refine rdP hσ' hp1 pl_digits ⟨_, hσ1', dg', many, rfl, rfl, hm2, ?_⟩
          refine wrP (L' := penL ca k' (dg'.fdiv (many : Int)) (ct + 1) fd') hσ' (by show 5 < 100; decide) hp1 pp_digits ?_
          refine ⟨_, List.getElem?_set_self (by rw [hlen]; decide), ?_⟩
          rw [upd_upd]
          refine fin _ _ ?_ (hmod _).1 (hmod _).2
          rw [Int.fdiv_eq_ediv_of_nonneg _ (by omega)]
          exact Int.ediv_nonneg hdg' (by omega)
        · refine rdP hσ hp1 pl_fold (rdP hσ hp1 pl_count ⟨ct + 1, 6421, rfl, rfl, ?_, fd', (ct + 1) * 6421, rfl, rfl, _, _, rfl, rfl, ?_⟩)
          · exact cmulW_of (k := 64) (l := 20) (by omega) (by decide) (by decide) (by decide) (by decide)
          · have hg : (σ.set 4 (some (.int (fd' + (ct + 1) * 6421 + 131))))[4]? = some (some (.int (fd' + (ct + 1) * 6421 + 131))) := List.getElem?_set_self (by rw [hlen]; decide)
            have hσ1' : (σ.set 4 (some (.int (fd' + (ct + 1) * 6421 + 131))))[1]? = some (some (.int (many : Int))) := by rw [List.getElem?_set_ne (by decide)]; exact hσ1
            refine ⟨_, hg, _, 47, rfl, rfl, ⟨by decide, by decide, by omega⟩, _, 2305843009213693951, rfl, rfl, (show (2305843009213693951 : Int) ≠ 0 by decide), .inl ⟨_, rfl, _, 512, rfl, rfl, ⟨by decide, by decide⟩, _, hσ1', _, many, rfl, rfl, by omega, ?_⟩⟩
            exact fin _ _ hdg' (hmod _).1 (hmod _).2
      refine ⟨_, pss_cons (ps_dput hu (pe_var (i := 0) rfl (.inl rfl)) pe_str (pe_op op_add (pe_dget hu (pe_var (i := 0) rfl (.inl rfl)) pe_str noSl) pe_int) rfl)
        (pss_cons (ps_if (PW.pt (pw_and (pt_cmpR op_eq (pe_dget hu (pe_var (i := 0) rfl (.inl rfl)) pe_str noSl) pe_int (nomark _)) (pw_and1 (pt_cmpR op_lt (pe_dget hu (pe_var (i := 0) rfl (.inl rfl)) pe_str noSl) (pe_callB call_len_seq (by rfl) T.b_len PySem.boot_len (pa_cons (pe_dget hu (pe_var (i := 0) rfl (.inl rfl)) pe_str noSl) pa_nil)) (nomark _)))))
          (pss_cons (ps_set (i := 2) nd rfl (.inl rfl) (pe_ix ix_list (pe_dget hu (pe_var (i := 0) rfl (.inl rfl)) pe_str noSl) (pe_dget hu (pe_var (i := 0) rfl (.inl rfl)) pe_str noSl) (fun _ _ => rfl)))
          (pss_cons (ps_dput hu (pe_var (i := 0) rfl (.inl rfl)) pe_str (pe_op op_add (pe_dget hu (pe_var (i := 0) rfl (.inl rfl)) pe_str noSl) pe_int) rfl)
          (pss_one (ps_if (pt_cmpR op_ge (pe_var (i := 2) rfl (.inl rfl)) (pe_op op_pow pe_int pe_int) (nomark _))
            (pss_one (ps_dput hu (pe_var (i := 0) rfl (.inl rfl)) pe_str (pe_op op_sub (pe_var (i := 2) rfl (.inl rfl)) (pe_op op_pow pe_int pe_int)) rfl))
            (pss_one (ps_dput hu (pe_var (i := 0) rfl (.inl rfl)) pe_str (pe_op op_modN (pe_callTy call_int1 (by rfl) T.b_int (by decide +kernel) (pa_cons (pe_op op_add (pe_op op_mulW (pe_dget hu (pe_var (i := 0) rfl (.inl rfl)) pe_str noSl) pe_int) (pe_var (i := 2) rfl (.inl rfl))) pa_nil)) pe_int) rfl)))))) pss_nil) htt), ?_⟩
      have h0 : (L2.start ["pen", "many", "cell", "digit", "blend"] [.ref pa, .int (many : Int)])[0]? = some (some (.ref pa)) := rfl
      refine rdP h0 hp pl_count ⟨ct, 1, rfl, rfl, ?_⟩
      refine wrP (L' := penL ca k dg (ct + 1) fdv) h0 (by show 5 < 100; decide) hp pp_count ?_
      have hp1 : upd H pa (.dK (penL ca k dg (ct + 1) fdv)) pa = some (.dK (penL ca k dg (ct + 1) fdv)) := upd_same
      have hc1 : ∀ L, upd H pa (.dK L) ca = some (.lst (cells.map V.int)) := fun L => by rw [upd_ne hne.symm]; exact hc
      have nocell : tt { nx := fun _ H' => Q .non H', rt := Q } (L2.start ["pen", "many", "cell", "digit", "blend"] [.ref pa, .int (many : Int)]) (upd H pa (.dK (penL ca k dg (ct + 1) fdv))) := hw _ k dg fdv h0 rfl rfl hk hdg hf0 hf1
      refine rdP h0 hp1 pl_digits ⟨rfl, _, rfl, ite2 (fun e1 => ?_) (fun e1 => ?_)⟩
      · refine rdP h0 hp1 pl_at (rdP h0 hp1 pl_cells ⟨ca, _, rfl, .inl (.of (hc1 _)), ?_⟩)
        refine ⟨k, _, rfl, rfl, _, rfl, ite2 (fun e2 => ?_) (fun e2 => ?_)⟩
        · rw [List.length_map] at e2
          have hk2 : k < cells.length := by
            have := of_decide_eq_true e2
            omega
          have hx : (cells.map V.int)[k]? = some (.int cells[k]) := by rw [List.getElem?_map, List.getElem?_eq_getElem hk2]; rfl
          generalize cells[k] = cell at hx
          refine rdP h0 hp1 pl_cells (rdP h0 hp1 pl_at ⟨ca, _, k, .int cell, rfl, rfl, .of (hc1 _), atI_nat hx, ?_⟩)
          have h0' : ((L2.start ["pen", "many", "cell", "digit", "blend"] [.ref pa, .int (many : Int)]).set 2 (some (.int cell)))[0]? = some (some (.ref pa)) := rfl
          refine rdP h0' hp1 pl_at ⟨k, 1, rfl, rfl, ?_⟩
          refine wrP (L' := penL ca ((k : Int) + 1) dg (ct + 1) fdv) h0' (by show 5 < 100; decide) hp1 pp_at ?_
          rw [upd_upd]
          have hp2 : upd H pa (.dK (penL ca ((k : Int) + 1) dg (ct + 1) fdv)) pa = some (.dK (penL ca ((k : Int) + 1) dg (ct + 1) fdv)) := upd_same
          refine ⟨.int cell, rfl, 10, 18, rfl, rfl, ⟨by decide, by decide, by decide⟩, cell, _, rfl, rfl, _, rfl, ite2 (fun e3 => ?_) (fun e3 => ?_)⟩
          · refine ⟨.int cell, rfl, 10, 18, rfl, rfl, ⟨by decide, by decide, by decide⟩, cell, _, rfl, rfl, ?_⟩
            refine wrP (L' := penL ca ((k : Int) + 1) (cell - 10 ^ (18 : Int).toNat) (ct + 1) fdv) h0' (by show 5 < 100; decide) hp2 pp_digits ?_
            rw [upd_upd]
            have := of_decide_eq_true e3
            exact hw _ (k + 1) _ fdv rfl rfl rfl (by omega) (by omega) hf0 hf1
          · refine rdP h0' hp2 pl_fold ⟨fdv, 30727, rfl, rfl, ?_, .int cell, rfl, _, cell, rfl, rfl, .inl ⟨_, rfl, _, 2147483179, rfl, rfl, (show (2147483179 : Int) ≠ 0 by decide), ?_⟩⟩
            · exact cmulW_of (k := 32) (l := 20) (by omega) (by decide) (by decide) (by decide) (by decide)
            · refine wrP (L' := penL ca ((k : Int) + 1) dg (ct + 1) ((fdv * 30727 + cell).fmod 2147483179)) h0' (by show 5 < 100; decide) hp2 pp_fold ?_
              rw [upd_upd]
              have f1 := Int.fmod_nonneg_of_pos (fdv * 30727 + cell) (show (0 : Int) < 2147483179 by decide)
              have f2 := Int.fmod_lt_of_pos (fdv * 30727 + cell) (show (0 : Int) < 2147483179 by decide)
              exact hw _ (k + 1) dg _ rfl rfl rfl (by omega) hdg f1 (by omega)
        · exact nocell
      · exact nocell
end
end En.K78
namespace En.K78
open PySem PySem.Spec PyProof.Rows L2 En
section
variable {P : Program} {w : World} {K : PySem.W.Frag} {mg : Str → Option Value} {base : Heap}
theorem df_false {x qual : Str} {st : Stmt} {f : Addr} {fd : FuncData} {N ps : List Str} (F : Fun K x qual st f fd) (S : FnScope N ps (defScope st)) (hm : mg x = some (.ref f)) (bd : Binds K fd ps []) : Df P w K mg base 1 x ps.length (fun _ _ _ => False) :=
  df_of (W := fun _ _ _ => False) F S hm bd (fun cdv A outer s H E hr p => ⟨fun pins s σ H D I ⟨_, _, _, _, _, h, _⟩ => h.elim⟩) (fun ds b Q hl h => h.elim)
theorem d_inT (T : TB K mg) (h : Dd K mg "in_tuples" (topS 11) ["value"]) : ∀ n, Df P w K mg base (n + 2) "in_tuples" 1 (p_inT n) := by
  obtain ⟨f, fd, hm, F, bd⟩ := h.ex
  have nd : (["value", "item"] : List Str).Nodup := by decide
  have S : FnScope ["value", "item"] ["value"] (defScope (topS 11)) := ⟨rfl, rfl, rfl, by decide +kernel, rfl, by decide +kernel, by decide +kernel⟩
  have step : ∀ (k : Nat) (q q' : Spec), Df P w K mg base k "in_tuples" 1 q → (∀ ds b Q, ds.length = 1 → q' ds b Q → W_in_tuples q { nx := fun _ b' => Q .non b', rt := Q } (ds.map Slot.v ++ List.replicate 1 .un) b) → Df P w K mg base (k + 1) "in_tuples" 1 q' := by
    intro k q q' D_in_tuples hp
    exact df_of (N := ["value", "item"]) (ps := ["value"]) (W := W_in_tuples q) F S hm bd
      (fun cdv A outer s H E hr => (qss_cons (qs_if (qt_not (qt_val (qe_isT2 (by rfl) T.b_isinstance (by rfl) T.b_tuple (by decide +kernel) (by rfl) T.b_list (by decide +kernel) is_tuple_list (qb_var 0)))) (qss_one (qs_ret (qe_var 0))) qss_nil) (qss_one (qs_ret (qe_tuple (by rfl) T.b_tuple (qf_comp (own := [("item", 1)]) (T := (.one 1)) rfl nd (qi_seq (qe_var 0)) (blkOk_by (by kernel_rfl)) (by decide) (hg_name 1 nd rfl) (fun _ _ _ _ _ => qts_nil) (fun _ _ _ _ _ => (qe_call D_in_tuples hr (by rfl) (qa_cons (qe_var 1) qa_nil)))).qe.b))))) hp
  intro n
  induction n with
  | zero => exact step 1 _ _ (df_false F S hm bd) hp_in_tuples0
  | succ n ih => exact step (n + 2) _ _ ih (hp_in_tuples n)
/-! ### the pen -/
def spPen (K : PySem.W.Frag) : Sp := fun vs H Q _ => ∃ (a : Addr) (ns : List Int), vs = [.ref a] ∧ SqL K H a (ns.map V.int) ∧ ns.length ≤ 63 ∧
  ∀ (H' : Hp) (p ca : Addr) (fd : Int), Same H H' → H p = none → H ca = none → p ≠ ca → H' p = some (.dK (penL ca 0 0 0 fd)) → H' ca = some (.lst (ns.map V.int)) → 0 ≤ fd → fd < 2 ^ 32 → Q (.ref p) H'
theorem ok_pen (T : TB K mg) {f : Addr} {fd : FuncData} (F : Fun K "_law_pen" "_law_pen" (topS 43) f fd) : FnOk P w K mg base CX0 1 f fd ["script"] (spPen K) := by
  have nd : (["script", "fold", "cell"] : List Str).Nodup := by decide
  refine F.ok (N := ["script", "fold", "cell"]) ⟨rfl, rfl, rfl, by decide +kernel, rfl, by decide +kernel, by decide +kernel⟩ (fun vs H Q E h => ?_) fun cdv A outer s H vs Q E hr h => ?_
  · obtain ⟨a, ns, rfl, _⟩ := h
    rfl
  · obtain ⟨a, ns, rfl, hS, hlen, q⟩ := h
    refine ⟨_, pss_cons (ps_set (i := 1) nd rfl (.inl rfl) pe_int)
      (pss_cons (ps_for PassesOwn.never rfl (pi_list (pe_var (i := 0) rfl (.inl rfl))) (pg_name (i := 2) nd rfl (.inl rfl))
        (pss_one (ps_set (i := 1) nd rfl (.inl rfl) (pe_op op_modN (pe_callTy call_int1 (by rfl) T.b_int (by decide +kernel) (pa_cons (pe_op op_add (pe_op op_mulW (pe_var (i := 1) rfl (.inl rfl)) pe_int) (pe_var (i := 2) rfl (.inl rfl))) pa_nil)) pe_int))))
      (pss_one (ps_ret (pe_disp (pps_cons pe_str (pe_callTy call_list_of (by rfl) T.b_list (by decide +kernel) (pa_cons (pe_var (i := 0) rfl (.inl rfl)) pa_nil)) (pps_cons pe_str pe_int (pps_cons pe_str pe_int (pps_cons pe_str pe_int (pps_cons pe_str (pe_var (i := 1) rfl (.inl rfl)) pps_nil))))) (by decide) (by decide) (by decide) (by decide))))), ?_⟩
    refine ⟨.ref a, rfl, a, rfl, ⟨_, hS⟩, fun i m σ H3 => ∃ (fd : Int) (y : Option V), σ = [some (.ref a), some (.int fd), y] ∧ i + m = ns.length ∧ H3 = H ∧ 0 ≤ fd ∧ fd < 2 ^ 32, ⟨ns.length, 0, none, rfl, by omega, rfl, by omega, by omega⟩, fun i m σ H3 hW => ?_⟩
    obtain ⟨fd, y, rfl, em, rfl, hf0, hf1⟩ := hW
    by_cases hi : i < ns.length
    · have g : (ns.map V.int)[i]? = some (.int ns[i]) := by
        rw [List.getElem?_map, List.getElem?_eq_getElem hi]
        rfl
      refine .inr ⟨⟨_, _, hS, g⟩, fun σ' H' => ∃ (fd : Int) (y : Option V), σ' = [some (.ref a), some (.int fd), y] ∧ H' = H3 ∧ 0 ≤ fd ∧ fd < 2 ^ 32, fun σ' H' hN => ?_, fun v H' hy => ?_⟩
      · obtain ⟨fd', y', e1, e2, e3, e4⟩ := hN
        exact ⟨m - 1, by omega, fd', y', e1, by omega, e2, e3, e4⟩
      · obtain ⟨rfl, fv⟩ := hy
        have ev : v = .int ns[i] := Option.some.inj ((fv _ hS).symm.trans g)
        subst ev
        generalize ns[i] = cell
        refine ⟨_, rfl, fd, 139, rfl, rfl, cmulW_of (k := 32) (l := 8) (by omega) (by decide) (by decide) (by decide) (by decide), .int cell, rfl, _, cell, rfl, rfl, .inl ⟨_, rfl, _, 999999491, rfl, rfl, (show (999999491 : Int) ≠ 0 by decide), ?_⟩⟩
        have f1 := Int.fmod_nonneg_of_pos (fd * 139 + cell) (show (0 : Int) < 999999491 by decide)
        have f2 := Int.fmod_lt_of_pos (fd * 139 + cell) (show (0 : Int) < 999999491 by decide)
        exact ⟨_, some (.int cell), rfl, rfl, f1, by omega⟩
    · refine .inl ⟨⟨_, hS, by rw [List.length_map]; omega⟩, fun p hp => ?_⟩
      have sm := same_new (o := .dK []) hp
      refine ⟨.ref a, rfl, a, _, rfl, .inl (sm.seq hS), fun l hl => ?_⟩
      have hlp : l ≠ p := fun z => by rw [z, upd_same] at hl; cases hl
      have hl0 : H3 l = none := by rw [upd_ne hlp] at hl; exact hl
      refine ⟨.int fd, rfl, by rw [upd_ne hlp.symm]; exact upd_same, [(.inr "cells", .ref l), (.inr "at", .int 0), (.inr "digits", .int 0), (.inr "count", .int 0), (.inr "fold", .int fd)], rfl, by show 5 ≤ 15; decide, ?_⟩
      refine q _ p l fd (fun b o e => ?_) hp hl0 hlp.symm upd_same ?_ hf0 hf1
      · rw [upd_ne (ne_of_none e hp), upd_ne (ne_of_none e hl0), upd_ne (ne_of_none e hp)]
        exact e
      · rw [upd_ne hlp]
        exact upd_same
end
/-! ### the lambdas -/
def lamOf : Stmt → Option (Arguments × Expr × Scope)
  | .Assign _ (.List [.Tuple [.Lambda p b sc _, _] _ _] _) _ => some (p, b, sc)
  | .Expr (.Call _ [.Tuple [.Lambda p b sc _, _] _ _] _ _) _ => some (p, b, sc)
  | _ => none
def lamAt (k : Nat) : Option (Arguments × Expr × Scope) := lamOf ((defBody (topS 60)).getD k (.Pass ⟨0, 0, 0, 0⟩))
def lamP (k : Nat) : Arguments := match lamAt k with | some (p, _, _) => p | none => ⟨[], [], none, [], [], none, []⟩
def lamB (k : Nat) : Expr := match lamAt k with | some (_, b, _) => b | none => .Constant .none 0 ⟨0, 0, 0, 0⟩
def lamC (k : Nat) : Scope := match lamAt k with | some (_, _, sc) => sc | none => defScope (topS 60)
def S_0 : LmS := ⟨["bad", "wrong", "far"], lamP 5, lamB 5, lamC 5, fun ds b W => ∃ d_bad d_wrong d_far : D, ds = [d_bad, d_wrong, d_far] ∧ px_power_sums [d_bad, d_wrong, d_far] b W⟩
def S_1 : LmS := ⟨["wrong", "far"], lamP 6, lamB 6, lamC 6, fun ds b W => ∃ d_wrong d_far : D, ds = [d_wrong, d_far] ∧ px_power_sums [(.tup [(.int 1)]), d_wrong, d_far] b W⟩
def S_2 : LmS := ⟨["far"], lamP 7, lamB 7, lamC 7, fun ds b W => ∃ d_far : D, ds = [d_far] ∧ px_power_sums [(.tup [(.int 1)]), (.tup [(.int 2)]), d_far] b W⟩
def S_3 : LmS := ⟨["long", "low", "start"], lamP 8, lamB 8, lamC 8, fun ds b W => ∃ d_long d_low d_start : D, ds = [d_long, d_low, d_start] ∧ px_hankel [d_long, d_low, d_start] b W⟩
def S_4 : LmS := ⟨["low", "start"], lamP 9, lamB 9, lamC 9, fun ds b W => ∃ d_low d_start : D, ds = [d_low, d_start] ∧ px_hankel [(.tup [(.int 1), (.int 2), (.int 3)]), d_low, d_start] b W⟩
def S_5 : LmS := ⟨["start"], lamP 10, lamB 10, lamC 10, fun ds b W => ∃ d_start : D, ds = [d_start] ∧ px_hankel [(.tup [(.int 1), (.int 2), (.int 3)]), (.int 2), d_start] b W⟩
def S_6 : LmS := ⟨[], lamP 11, lamB 11, lamC 11, fun ds b W => ds = [] ∧ px_hankel [(.tup [(.int 1), (.int 2), (.int 3)]), (.int 2), (.int 1)] b W⟩
def Ss : List LmS := [S_0, S_1, S_2, S_3, S_4, S_5, S_6]
section
variable {P : Program} {w : World} {K : PySem.W.Frag} {mg : Str → Option Value} {base : Heap}
theorem fam_0 (XF_power_sums : ∀ base : Heap, Mod K mg base → base.NoSeer → Dx P w K mg base 37 "power_sums" 3 px_power_sums) (XF_hankel : ∀ base : Heap, Mod K mg base → base.NoSeer → Dx P w K mg base 37 "hankel" 3 px_hankel) (q : Str) : LamFam P w K mg q 38 S_0 := fun base f c' pm ctv cl vs hM hS hC hf hc =>
  lam_ok (k := 37) (Wb := fun W => wCallX 3 px_power_sums W (wCons (wVar 0) (wCons (wVar 1) (wCons (wVar 2) wNil)))) hC hf hc rfl (fun A outer s H E p W hr fx tk => pe_callX (XF_power_sums base hM hS) (hr.mono (by decide)) tk fx (by rfl) (qa_cons (qe_var 0) (qa_cons (qe_var 1) (qa_cons (qe_var 2) qa_nil)))) fun ds b W hl h => by
    obtain ⟨d_bad, d_wrong, d_far, rfl, h⟩ := h
    exact ⟨rfl, h⟩
theorem fam_1 (XF_power_sums : ∀ base : Heap, Mod K mg base → base.NoSeer → Dx P w K mg base 37 "power_sums" 3 px_power_sums) (XF_hankel : ∀ base : Heap, Mod K mg base → base.NoSeer → Dx P w K mg base 37 "hankel" 3 px_hankel) (q : Str) : LamFam P w K mg q 38 S_1 := fun base f c' pm ctv cl vs hM hS hC hf hc =>
  lam_ok (k := 37) (Wb := fun W => wCallX 3 px_power_sums W (wCons (wTup (wCons (wC (.int 1)) wNil)) (wCons (wVar 0) (wCons (wVar 1) wNil)))) hC hf hc rfl (fun A outer s H E p W hr fx tk => pe_callX (XF_power_sums base hM hS) (hr.mono (by decide)) tk fx (by rfl) (qa_cons (qe_tup (qa_cons qe_int qa_nil)) (qa_cons (qe_var 0) (qa_cons (qe_var 1) qa_nil)))) fun ds b W hl h => by
    obtain ⟨d_wrong, d_far, rfl, h⟩ := h
    exact ⟨rfl, h⟩
theorem fam_2 (XF_power_sums : ∀ base : Heap, Mod K mg base → base.NoSeer → Dx P w K mg base 37 "power_sums" 3 px_power_sums) (XF_hankel : ∀ base : Heap, Mod K mg base → base.NoSeer → Dx P w K mg base 37 "hankel" 3 px_hankel) (q : Str) : LamFam P w K mg q 38 S_2 := fun base f c' pm ctv cl vs hM hS hC hf hc =>
  lam_ok (k := 37) (Wb := fun W => wCallX 3 px_power_sums W (wCons (wTup (wCons (wC (.int 1)) wNil)) (wCons (wTup (wCons (wC (.int 2)) wNil)) (wCons (wVar 0) wNil)))) hC hf hc rfl (fun A outer s H E p W hr fx tk => pe_callX (XF_power_sums base hM hS) (hr.mono (by decide)) tk fx (by rfl) (qa_cons (qe_tup (qa_cons qe_int qa_nil)) (qa_cons (qe_tup (qa_cons qe_int qa_nil)) (qa_cons (qe_var 0) qa_nil)))) fun ds b W hl h => by
    obtain ⟨d_far, rfl, h⟩ := h
    exact ⟨rfl, h⟩
theorem fam_3 (XF_power_sums : ∀ base : Heap, Mod K mg base → base.NoSeer → Dx P w K mg base 37 "power_sums" 3 px_power_sums) (XF_hankel : ∀ base : Heap, Mod K mg base → base.NoSeer → Dx P w K mg base 37 "hankel" 3 px_hankel) (q : Str) : LamFam P w K mg q 38 S_3 := fun base f c' pm ctv cl vs hM hS hC hf hc =>
  lam_ok (k := 37) (Wb := fun W => wCallX 3 px_hankel W (wCons (wVar 0) (wCons (wVar 1) (wCons (wVar 2) wNil)))) hC hf hc rfl (fun A outer s H E p W hr fx tk => pe_callX (XF_hankel base hM hS) (hr.mono (by decide)) tk fx (by rfl) (qa_cons (qe_var 0) (qa_cons (qe_var 1) (qa_cons (qe_var 2) qa_nil)))) fun ds b W hl h => by
    obtain ⟨d_long, d_low, d_start, rfl, h⟩ := h
    exact ⟨rfl, h⟩
theorem fam_4 (XF_power_sums : ∀ base : Heap, Mod K mg base → base.NoSeer → Dx P w K mg base 37 "power_sums" 3 px_power_sums) (XF_hankel : ∀ base : Heap, Mod K mg base → base.NoSeer → Dx P w K mg base 37 "hankel" 3 px_hankel) (q : Str) : LamFam P w K mg q 38 S_4 := fun base f c' pm ctv cl vs hM hS hC hf hc =>
  lam_ok (k := 37) (Wb := fun W => wCallX 3 px_hankel W (wCons (wTup (wCons (wC (.int 1)) (wCons (wC (.int 2)) (wCons (wC (.int 3)) wNil)))) (wCons (wVar 0) (wCons (wVar 1) wNil)))) hC hf hc rfl (fun A outer s H E p W hr fx tk => pe_callX (XF_hankel base hM hS) (hr.mono (by decide)) tk fx (by rfl) (qa_cons (qe_tup (qa_cons qe_int (qa_cons qe_int (qa_cons qe_int qa_nil)))) (qa_cons (qe_var 0) (qa_cons (qe_var 1) qa_nil)))) fun ds b W hl h => by
    obtain ⟨d_low, d_start, rfl, h⟩ := h
    exact ⟨rfl, h⟩
theorem fam_5 (XF_power_sums : ∀ base : Heap, Mod K mg base → base.NoSeer → Dx P w K mg base 37 "power_sums" 3 px_power_sums) (XF_hankel : ∀ base : Heap, Mod K mg base → base.NoSeer → Dx P w K mg base 37 "hankel" 3 px_hankel) (q : Str) : LamFam P w K mg q 38 S_5 := fun base f c' pm ctv cl vs hM hS hC hf hc =>
  lam_ok (k := 37) (Wb := fun W => wCallX 3 px_hankel W (wCons (wTup (wCons (wC (.int 1)) (wCons (wC (.int 2)) (wCons (wC (.int 3)) wNil)))) (wCons (wC (.int 2)) (wCons (wVar 0) wNil)))) hC hf hc rfl (fun A outer s H E p W hr fx tk => pe_callX (XF_hankel base hM hS) (hr.mono (by decide)) tk fx (by rfl) (qa_cons (qe_tup (qa_cons qe_int (qa_cons qe_int (qa_cons qe_int qa_nil)))) (qa_cons qe_int (qa_cons (qe_var 0) qa_nil)))) fun ds b W hl h => by
    obtain ⟨d_start, rfl, h⟩ := h
    exact ⟨rfl, h⟩
theorem fam_6 (XF_power_sums : ∀ base : Heap, Mod K mg base → base.NoSeer → Dx P w K mg base 37 "power_sums" 3 px_power_sums) (XF_hankel : ∀ base : Heap, Mod K mg base → base.NoSeer → Dx P w K mg base 37 "hankel" 3 px_hankel) (q : Str) : LamFam P w K mg q 38 S_6 := fun base f c' pm ctv cl vs hM hS hC hf hc =>
  lam_ok (k := 37) (Wb := fun W => wCallX 3 px_hankel W (wCons (wTup (wCons (wC (.int 1)) (wCons (wC (.int 2)) (wCons (wC (.int 3)) wNil)))) (wCons (wC (.int 2)) (wCons (wC (.int 1)) wNil)))) hC hf hc rfl (fun A outer s H E p W hr fx tk => pe_callX (XF_hankel base hM hS) (hr.mono (by decide)) tk fx (by rfl) (qa_cons (qe_tup (qa_cons qe_int (qa_cons qe_int (qa_cons qe_int qa_nil)))) (qa_cons qe_int (qa_cons qe_int qa_nil)))) fun ds b W hl h => by
    obtain ⟨rfl, h⟩ := h
    exact ⟨rfl, h⟩
theorem fams (XF_power_sums : ∀ base : Heap, Mod K mg base → base.NoSeer → Dx P w K mg base 37 "power_sums" 3 px_power_sums) (XF_hankel : ∀ base : Heap, Mod K mg base → base.NoSeer → Dx P w K mg base 37 "hankel" 3 px_hankel) (q : Str) : ∀ S ∈ Ss, LamX.LamS (defScope (topS 60)) S.scope ∧ LamFam P w K mg q 38 S := by
  intro S hS
  simp only [Ss, List.mem_cons, List.not_mem_nil, or_false] at hS
  rcases hS with rfl | rfl | rfl | rfl | rfl | rfl | rfl
  · exact ⟨LamX.lamS_by (by decide +kernel), fam_0 XF_power_sums XF_hankel q⟩
  · exact ⟨LamX.lamS_by (by decide +kernel), fam_1 XF_power_sums XF_hankel q⟩
  · exact ⟨LamX.lamS_by (by decide +kernel), fam_2 XF_power_sums XF_hankel q⟩
  · exact ⟨LamX.lamS_by (by decide +kernel), fam_3 XF_power_sums XF_hankel q⟩
  · exact ⟨LamX.lamS_by (by decide +kernel), fam_4 XF_power_sums XF_hankel q⟩
  · exact ⟨LamX.lamS_by (by decide +kernel), fam_5 XF_power_sums XF_hankel q⟩
  · exact ⟨LamX.lamS_by (by decide +kernel), fam_6 XF_power_sums XF_hankel q⟩
end
theorem qs_at {X : Cx} {st : Stmt} {W : WS} (p : Pm) (h : QS X st W) : PS X st (tS X.K X.mg p W) := h p
def wLst (i : Nat) (Ws : WLL) (κ : KL) : KL := fun L env b => Ws L env b fun ds b' L' => ds.length ≤ 1000 ∧ κ L' (env.set i (.own ds)) b'
def wAppL (i : Nat) (W : WEL) (κ : KL) : KL := fun L env b => match env[i]? with | some (.own ds) => W L env b fun d b' L' => ds.length ≤ 1000 ∧ κ L' (env.set i (.own (ds ++ [d]))) b' | _ => False
def kap : KL := (wLst 8 (wConsL (wTupL (wConsL (wLam (lamP 5) (lamB 5) (lamC 5)) (wConsL (wPl (wTup (wCons (wC (.str "row")) (wCons (wVar 2) wNil)))) wNilL))) wNilL) (wAppL 8 (wTupL (wConsL (wLam (lamP 6) (lamB 6) (lamC 6)) (wConsL (wPl (wTup (wCons (wC (.str "row")) (wCons (wVar 3) wNil)))) wNilL))) (wAppL 8 (wTupL (wConsL (wLam (lamP 7) (lamB 7) (lamC 7)) (wConsL (wPl (wTup (wCons (wC (.str "number")) (wCons (wC (.str "many")) (wCons (wVar 4) wNil))))) wNilL))) (wAppL 8 (wTupL (wConsL (wLam (lamP 8) (lamB 8) (lamC 8)) (wConsL (wPl (wTup (wCons (wC (.str "row")) (wCons (wVar 7) wNil)))) wNilL))) (wAppL 8 (wTupL (wConsL (wLam (lamP 9) (lamB 9) (lamC 9)) (wConsL (wPl (wTup (wCons (wC (.str "number")) (wCons (wC (.str "size")) (wCons (wVar 5) wNil))))) wNilL))) (wAppL 8 (wTupL (wConsL (wLam (lamP 10) (lamB 10) (lamC 10)) (wConsL (wPl (wTup (wCons (wC (.str "number")) (wCons (wC (.str "start")) (wCons (wVar 6) wNil))))) wNilL))) (wAppL 8 (wTupL (wConsL (wLam (lamP 11) (lamB 11) (lamC 11)) (wConsL (wPl (wTup (wCons (wC (.str "unlike")) (wCons (wC (.str "size")) wNil)))) wNilL))) (kDue ["script", "pen", "bad", "wrong", "far", "low", "start", "long", "tries", "lap"] 8 Ss cs78))))))))
def W_law : WS := (wSeq (wIfS (wNot (wT (wUn dAll (wFz (wComp [9] (.one 9) (wRng1 (wCons (wC (.int 4)) wNil)) wYes (wCall 1 p__law_case (wCons (wVar 1) wNil))))))) (wRet (wC (.bl false))) wNext) (wSeq (wPar 2 3 (wV (wCall 2 p__law_pick (wCons (wVar 1) (wCons (wFz (wCons (wC .non) (wCons (wC (.int 5)) (wCons (wTup wNil) (wCons (wTup (wCons (wC (.str "1")) wNil)) (wCons (wTup (wCons (wC (.bl true)) wNil)) (wCons (wTup (wCons (wTup (wCons (wC (.int 1)) (wCons (wC (.int 0)) wNil))) wNil)) (wCons (wBin dMulT (wTup (wCons (wC (.int 1)) wNil)) (wC (.int 7))) (wCons (wC (.str "1")) wNil))))))))) wNil)))) (wV (wCall 2 p__law_pick (wCons (wVar 1) (wCons (wFz (wCons (wC .non) (wCons (wC (.int 5)) (wCons (wTup wNil) (wCons (wTup (wCons (wC (.int 1)) (wCons (wC (.int 2)) wNil))) (wCons (wTup (wCons (wC (.str "1")) wNil)) (wCons (wTup (wCons (wC (.bl true)) wNil)) wNil))))))) wNil))))) (wSeq (wTg (.tup [4, 5, 6]) (wTup (wCons (wCall 2 p__law_pick (wCons (wVar 1) (wCons (wFz (wCons (wC (.int 0)) (wCons (wC (.int 13)) (wCons (wC .non) (wCons (wC (.bl true)) (wCons (wC (.str "2")) wNil)))))) wNil))) (wCons (wCall 2 p__law_pick (wCons (wVar 1) (wCons (wFz (wCons (wC (.int 0)) (wCons (wC (.int 7)) (wCons (wC .non) (wCons (wC (.bl true)) wNil))))) wNil))) (wCons (wCall 2 p__law_pick (wCons (wVar 1) (wCons (wFz (wCons (wC (.int 2)) (wCons (wUn dNeg (wC (.int 1))) (wCons (wC .non) (wCons (wC (.bl true)) wNil))))) wNil))) wNil))))) (wSeq (wSet 7 (wCall 2 p__law_pick (wCons (wVar 1) (wCons (wFz (wCons (wC .non) (wCons (wC (.int 5)) (wCons (wTup wNil) (wCons (wTup (wCons (wC (.str "1")) wNil)) (wCons (wTup (wCons (wC (.bl true)) wNil)) (wCons (wBin dMulT (wTup (wCons (wC (.int 1)) wNil)) (wC (.int 13))) wNil))))))) wNil)))) (wTail (kap))))))
section
variable {P : Program} {w : World} {K : PySem.W.Frag} {mg : Str → Option Value} {base : Heap}
theorem ok_law (T : TB K mg) (D__law_case : DfG P w K mg base 38 "_law_case" 1 p__law_case) (D__law_pick : Df P w K mg base 2 "_law_pick" 2 p__law_pick) (XF_power_sums : ∀ base : Heap, Mod K mg base → base.NoSeer → Dx P w K mg base 37 "power_sums" 3 px_power_sums) (XF_hankel : ∀ base : Heap, Mod K mg base → base.NoSeer → Dx P w K mg base 37 "hankel" 3 px_hankel)
    (DU : ∀ base : Heap, Mod K mg base → base.NoSeer → ∀ LL : LLs, (∀ l ∈ LL, LamOk P w K mg base 38 l.1 l.2.1 l.2.2) → DfG P w K mg base 40 "_law_are_due" 1 (pDue LL cs78))
    {f fP c Pt : Addr} {fdP : FuncData} {oc kV doc pm ct : Value} {od an : Option Addr} {osl : Array (Option Value)}
    (lk : K.lookup f = some ⟨oc, od, .func (PySem.W.fnOf "law" "law" (defArgs (topS 60)) (defBody (topS 60)) (defScope (topS 60)) .none kV doc pm an (.ref c) ct), osl⟩) (hcd : PySem.W.codeIn K (.ref c) "law" = true)
    (hb : ∀ (s : Shared) (v : Value), BindsTo s (PySem.W.fnOf "law" "law" (defArgs (topS 60)) (defBody (topS 60)) (defScope (topS 60)) .none kV doc pm an (.ref c) ct) ⟨[v], []⟩ [("script", v)])
    (FP : Fun K "_law_pen" "_law_pen" (topS 43) fP fdP) (hmP : mg "_law_pen" = some (.ref fP)) (bdP : Binds K fdP ["script"] []) (TBc : LamX.TabB base mg c Pt) (seer : base.NoSeer) 
    (hp : W_law { nx := fun _ _ => False, rt := fun d _ => d = .bl true } (.un :: .v .pen :: List.replicate 8 .un) (2 ^ 40)) : LawC P w K mg base f Pt := by
  have nd : (["script", "pen", "bad", "wrong", "far", "low", "start", "long", "tries", "lap"] : List Str).Nodup := by decide
  refine lawC_of (N := ["script", "pen", "bad", "wrong", "far", "low", "start", "long", "tries", "lap"]) (k := 39) (W := W_law) lk hcd ⟨rfl, rfl, rfl, by decide +kernel, rfl, by decide +kernel, by decide +kernel⟩ hb rfl rfl rfl (by first | exact Or.inl rfl | exact Or.inr (Or.inl rfl)) (by first | exact .inl rfl | exact .inr rfl) (by rfl) (ok_pen T FP) hmP FP.kp bdP ⟨rfl, by decide, by decide⟩ (fun s H p hr hP => ?_) hp
  have hA : callerA.guards = some [] := rfl
  exact (sr_cons (qs_at p (qs_if (qt_not (qt_val (qe_all rfl (by rfl) T.b_all (qf_comp (own := [("lap", 9)]) (T := (.one 9)) rfl nd (qi_range1 (by rfl) T.b_range (qa_cons qe_int qa_nil)) (blkOk_by (by kernel_rfl)) (by decide) (hg_name 9 nd rfl) (fun _ _ _ _ _ => qts_nil) (fun _ _ _ _ _ => (qe_callG D__law_case hA (hr.mono (by decide)) (by rfl) (qa_cons (qe_var 1) qa_nil)))).qe.b))) (qss_one (qs_ret qe_bl)) qss_nil)) (sr_cons (qs_at p (qs_parT 2 3 rfl nd rfl rfl (by decide) (by first | exact .inl rfl | exact .inr rfl) (by first | exact .inl rfl | exact .inr rfl) (qe_call D__law_pick (hr.mono (by decide)) (by rfl) (qa_cons (qe_var 1) (qa_cons (qf_lst (qa_cons qe_non (qa_cons qe_int (qa_cons (qe_tup qa_nil) (qa_cons (qe_tup (qa_cons qe_str qa_nil)) (qa_cons (qe_tup (qa_cons qe_bl qa_nil)) (qa_cons (qe_tup (qa_cons (qe_tup (qa_cons qe_int (qa_cons qe_int qa_nil))) qa_nil)) (qa_cons (qe_mulT (qe_tup (qa_cons qe_int qa_nil)).b qe_int.b) (qa_cons qe_str qa_nil))))))))).qe qa_nil))).v (qe_call D__law_pick (hr.mono (by decide)) (by rfl) (qa_cons (qe_var 1) (qa_cons (qf_lst (qa_cons qe_non (qa_cons qe_int (qa_cons (qe_tup qa_nil) (qa_cons (qe_tup (qa_cons qe_int (qa_cons qe_int qa_nil))) (qa_cons (qe_tup (qa_cons qe_str qa_nil)) (qa_cons (qe_tup (qa_cons qe_bl qa_nil)) qa_nil))))))).qe qa_nil))).v)) (sr_cons (qs_at p (qs_tg (qe_tup (qa_cons (qe_call D__law_pick (hr.mono (by decide)) (by rfl) (qa_cons (qe_var 1) (qa_cons (qf_lst (qa_cons qe_int (qa_cons qe_int (qa_cons qe_non (qa_cons qe_bl (qa_cons qe_str qa_nil)))))).qe qa_nil))) (qa_cons (qe_call D__law_pick (hr.mono (by decide)) (by rfl) (qa_cons (qe_var 1) (qa_cons (qf_lst (qa_cons qe_int (qa_cons qe_int (qa_cons qe_non (qa_cons qe_bl qa_nil))))).qe qa_nil))) (qa_cons (qe_call D__law_pick (hr.mono (by decide)) (by rfl) (qa_cons (qe_var 1) (qa_cons (qf_lst (qa_cons qe_int (qa_cons (qe_neg qe_int.b) (qa_cons qe_non (qa_cons qe_bl qa_nil))))).qe qa_nil))) qa_nil)))) (qg_tup rfl (qgs_cons (qg_name 4 nd rfl (by first | exact .inl rfl | exact .inr rfl)) (qgs_cons (qg_name 5 nd rfl (by first | exact .inl rfl | exact .inr rfl)) (qgs_cons (qg_name 6 nd rfl (by first | exact .inl rfl | exact .inr rfl)) qgs_nil)))))) (sr_cons (qs_at p (qs_set 7 nd rfl (by first | exact .inl rfl | exact .inr rfl) (qe_call D__law_pick (hr.mono (by decide)) (by rfl) (qa_cons (qe_var 1) (qa_cons (qf_lst (qa_cons qe_non (qa_cons qe_int (qa_cons (qe_tup qa_nil) (qa_cons (qe_tup (qa_cons qe_str qa_nil)) (qa_cons (qe_tup (qa_cons qe_bl qa_nil)) (qa_cons (qe_mulT (qe_tup (qa_cons qe_int qa_nil)).b qe_int.b) qa_nil))))))).qe qa_nil))))) (sr_tail (g := ⟨(envOfC "law" (defScope (topS 60)) s.heap.objs.size f (.ref c)).qual ++ "<lambda>", (envOfC "law" (defScope (topS 60)) s.heap.objs.size f (.ref c)).cells, Pt⟩) hP.1 hP.2.1 hP.2.2 (sl_seq (rt := fun _ => False) (sl_list nd rfl (by first | exact .inl rfl | exact .inr rfl) (pl_cons (pl_tup (pl_cons (pl_lam TBc rfl rfl rfl rfl (LamX.lamS_by (sc := defScope (topS 60)) (by decide +kernel))) (pl_cons (pl_pl (qe_tup (qa_cons qe_str (qa_cons (qe_var 2) qa_nil)))) pl_nil))) pl_nil)) (sl_seq (rt := fun _ => False) (sl_app rfl (by first | exact .inl rfl | exact .inr (.inl rfl)) (pl_tup (pl_cons (pl_lam TBc rfl rfl rfl rfl (LamX.lamS_by (sc := defScope (topS 60)) (by decide +kernel))) (pl_cons (pl_pl (qe_tup (qa_cons qe_str (qa_cons (qe_var 3) qa_nil)))) pl_nil)))) (sl_seq (rt := fun _ => False) (sl_app rfl (by first | exact .inl rfl | exact .inr (.inl rfl)) (pl_tup (pl_cons (pl_lam TBc rfl rfl rfl rfl (LamX.lamS_by (sc := defScope (topS 60)) (by decide +kernel))) (pl_cons (pl_pl (qe_tup (qa_cons qe_str (qa_cons qe_str (qa_cons (qe_var 4) qa_nil))))) pl_nil)))) (sl_seq (rt := fun _ => False) (sl_app rfl (by first | exact .inl rfl | exact .inr (.inl rfl)) (pl_tup (pl_cons (pl_lam TBc rfl rfl rfl rfl (LamX.lamS_by (sc := defScope (topS 60)) (by decide +kernel))) (pl_cons (pl_pl (qe_tup (qa_cons qe_str (qa_cons (qe_var 7) qa_nil)))) pl_nil)))) (sl_seq (rt := fun _ => False) (sl_app rfl (by first | exact .inl rfl | exact .inr (.inl rfl)) (pl_tup (pl_cons (pl_lam TBc rfl rfl rfl rfl (LamX.lamS_by (sc := defScope (topS 60)) (by decide +kernel))) (pl_cons (pl_pl (qe_tup (qa_cons qe_str (qa_cons qe_str (qa_cons (qe_var 5) qa_nil))))) pl_nil)))) (sl_seq (rt := fun _ => False) (sl_app rfl (by first | exact .inl rfl | exact .inr (.inl rfl)) (pl_tup (pl_cons (pl_lam TBc rfl rfl rfl rfl (LamX.lamS_by (sc := defScope (topS 60)) (by decide +kernel))) (pl_cons (pl_pl (qe_tup (qa_cons qe_str (qa_cons qe_str (qa_cons (qe_var 6) qa_nil))))) pl_nil)))) (sl_seq (rt := fun _ => False) (sl_app rfl (by first | exact .inl rfl | exact .inr (.inl rfl)) (pl_tup (pl_cons (pl_lam TBc rfl rfl rfl rfl (LamX.lamS_by (sc := defScope (topS 60)) (by decide +kernel))) (pl_cons (pl_pl (qe_tup (qa_cons qe_str (qa_cons qe_str qa_nil)))) pl_nil)))) (sl_last (pe_due hA (hr.mono (by decide)) rfl seer rfl rfl DU (fams XF_power_sums XF_hankel _) (by rfl) rfl (by first | exact .inl rfl | exact .inr (.inl rfl))))))))))))))))
end
end En.K78
namespace En.K78
open PySem PySem.Spec PyProof.Rows L2 En
abbrev EL : Ens := { nx := fun _ _ => False, rt := fun d _ => d = .bl true }
/-- the dues -/
theorem kap_ok {bad wrong far low start long : D} (h1 : bad ∈ bads) (h2 : wrong ∈ wrongs) (h3 : far ∈ fars) (h4 : low ∈ lows) (h5 : start ∈ starts) (h6 : long ∈ longs) (s9 : Slot) (b : Nat) :
    kap [] [.un, .v .pen, .v bad, .v wrong, .v far, .v low, .v start, .v long, .un, s9] b := by
  (try simp only [wSeq, wSet, wSetO, wRet, wIfS, wFrz, wApp, wDrop, wNext, wBreak, wCont, wNever, wVar, wVarB, wC, wBin, wUn, wT, wAnd, wOr, wNot, wAndV, wOrV, wNotV, wIte, wNil, wCons, wTup, wCall, wListOf, wC2, wIsT, wIsC, wFld, wON, wOS, wSl, wV, wO, wSetIx, wPar, wSwap, wSeqOf, wRng1, wRng2, wFor, wWhile, wYes, wComp, wEnum, wZip, wEnum2, wRgT, wRgL, wAug, dMulT, dMax, wMake, wFz, wCat, wRep, wipeE, D.ty, wIf_true, wIf_false, List.getElem?_cons_zero, List.getElem?_cons_succ, List.set_cons_zero, List.set_cons_succ, dI0_ii, dI_ii, dNeg_i, dGcd_ii, dAbs_i, dInt_i, dInt_b, dBits_i, dLen_t, dLen_l, dTuple_t, dTuple_l, dAdd_ii, dAdd_tt, dAdd_ll, dAdd_ss, dMul_ii, dMul_li, dIs_n, dIs_b, dIsN_n, dRepr_b, rt_0, rt_1, dEq, dNe, dSub, dDiv, dDivU, dMod, dLt, dLe, dGt, dGe, D.isNon, Bool.not_true, Bool.not_false, kap, wLst, wAppL, wTupL, wConsL, wNilL, wLam, wPl])
  intro l0 a0 b0 c0
  refine ⟨by simp, by simp, ?_⟩
  (try simp only [wSeq, wSet, wSetO, wRet, wIfS, wFrz, wApp, wDrop, wNext, wBreak, wCont, wNever, wVar, wVarB, wC, wBin, wUn, wT, wAnd, wOr, wNot, wAndV, wOrV, wNotV, wIte, wNil, wCons, wTup, wCall, wListOf, wC2, wIsT, wIsC, wFld, wON, wOS, wSl, wV, wO, wSetIx, wPar, wSwap, wSeqOf, wRng1, wRng2, wFor, wWhile, wYes, wComp, wEnum, wZip, wEnum2, wRgT, wRgL, wAug, dMulT, dMax, wMake, wFz, wCat, wRep, wipeE, D.ty, wIf_true, wIf_false, List.getElem?_cons_zero, List.getElem?_cons_succ, List.set_cons_zero, List.set_cons_succ, dI0_ii, dI_ii, dNeg_i, dGcd_ii, dAbs_i, dInt_i, dInt_b, dBits_i, dLen_t, dLen_l, dTuple_t, dTuple_l, dAdd_ii, dAdd_tt, dAdd_ll, dAdd_ss, dMul_ii, dMul_li, dIs_n, dIs_b, dIsN_n, dRepr_b, rt_0, rt_1, dEq, dNe, dSub, dDiv, dDivU, dMod, dLt, dLe, dGt, dGe, D.isNon, Bool.not_true, Bool.not_false, wAppL, wTupL, wConsL, wNilL, wLam, wPl])
  intro l1 a1 b1 c1
  refine ⟨by simp, by simp, ?_⟩
  (try simp only [wSeq, wSet, wSetO, wRet, wIfS, wFrz, wApp, wDrop, wNext, wBreak, wCont, wNever, wVar, wVarB, wC, wBin, wUn, wT, wAnd, wOr, wNot, wAndV, wOrV, wNotV, wIte, wNil, wCons, wTup, wCall, wListOf, wC2, wIsT, wIsC, wFld, wON, wOS, wSl, wV, wO, wSetIx, wPar, wSwap, wSeqOf, wRng1, wRng2, wFor, wWhile, wYes, wComp, wEnum, wZip, wEnum2, wRgT, wRgL, wAug, dMulT, dMax, wMake, wFz, wCat, wRep, wipeE, D.ty, wIf_true, wIf_false, List.getElem?_cons_zero, List.getElem?_cons_succ, List.set_cons_zero, List.set_cons_succ, dI0_ii, dI_ii, dNeg_i, dGcd_ii, dAbs_i, dInt_i, dInt_b, dBits_i, dLen_t, dLen_l, dTuple_t, dTuple_l, dAdd_ii, dAdd_tt, dAdd_ll, dAdd_ss, dMul_ii, dMul_li, dIs_n, dIs_b, dIsN_n, dRepr_b, rt_0, rt_1, dEq, dNe, dSub, dDiv, dDivU, dMod, dLt, dLe, dGt, dGe, D.isNon, Bool.not_true, Bool.not_false, wAppL, wTupL, wConsL, wNilL, wLam, wPl])
  intro l2 a2 b2 c2
  refine ⟨by simp, by simp, ?_⟩
  (try simp only [wSeq, wSet, wSetO, wRet, wIfS, wFrz, wApp, wDrop, wNext, wBreak, wCont, wNever, wVar, wVarB, wC, wBin, wUn, wT, wAnd, wOr, wNot, wAndV, wOrV, wNotV, wIte, wNil, wCons, wTup, wCall, wListOf, wC2, wIsT, wIsC, wFld, wON, wOS, wSl, wV, wO, wSetIx, wPar, wSwap, wSeqOf, wRng1, wRng2, wFor, wWhile, wYes, wComp, wEnum, wZip, wEnum2, wRgT, wRgL, wAug, dMulT, dMax, wMake, wFz, wCat, wRep, wipeE, D.ty, wIf_true, wIf_false, List.getElem?_cons_zero, List.getElem?_cons_succ, List.set_cons_zero, List.set_cons_succ, dI0_ii, dI_ii, dNeg_i, dGcd_ii, dAbs_i, dInt_i, dInt_b, dBits_i, dLen_t, dLen_l, dTuple_t, dTuple_l, dAdd_ii, dAdd_tt, dAdd_ll, dAdd_ss, dMul_ii, dMul_li, dIs_n, dIs_b, dIsN_n, dRepr_b, rt_0, rt_1, dEq, dNe, dSub, dDiv, dDivU, dMod, dLt, dLe, dGt, dGe, D.isNon, Bool.not_true, Bool.not_false, wAppL, wTupL, wConsL, wNilL, wLam, wPl])
  intro l3 a3 b3 c3
  refine ⟨by simp, by simp, ?_⟩
  (try simp only [wSeq, wSet, wSetO, wRet, wIfS, wFrz, wApp, wDrop, wNext, wBreak, wCont, wNever, wVar, wVarB, wC, wBin, wUn, wT, wAnd, wOr, wNot, wAndV, wOrV, wNotV, wIte, wNil, wCons, wTup, wCall, wListOf, wC2, wIsT, wIsC, wFld, wON, wOS, wSl, wV, wO, wSetIx, wPar, wSwap, wSeqOf, wRng1, wRng2, wFor, wWhile, wYes, wComp, wEnum, wZip, wEnum2, wRgT, wRgL, wAug, dMulT, dMax, wMake, wFz, wCat, wRep, wipeE, D.ty, wIf_true, wIf_false, List.getElem?_cons_zero, List.getElem?_cons_succ, List.set_cons_zero, List.set_cons_succ, dI0_ii, dI_ii, dNeg_i, dGcd_ii, dAbs_i, dInt_i, dInt_b, dBits_i, dLen_t, dLen_l, dTuple_t, dTuple_l, dAdd_ii, dAdd_tt, dAdd_ll, dAdd_ss, dMul_ii, dMul_li, dIs_n, dIs_b, dIsN_n, dRepr_b, rt_0, rt_1, dEq, dNe, dSub, dDiv, dDivU, dMod, dLt, dLe, dGt, dGe, D.isNon, Bool.not_true, Bool.not_false, wAppL, wTupL, wConsL, wNilL, wLam, wPl])
  intro l4 a4 b4 c4
  refine ⟨by simp, by simp, ?_⟩
  (try simp only [wSeq, wSet, wSetO, wRet, wIfS, wFrz, wApp, wDrop, wNext, wBreak, wCont, wNever, wVar, wVarB, wC, wBin, wUn, wT, wAnd, wOr, wNot, wAndV, wOrV, wNotV, wIte, wNil, wCons, wTup, wCall, wListOf, wC2, wIsT, wIsC, wFld, wON, wOS, wSl, wV, wO, wSetIx, wPar, wSwap, wSeqOf, wRng1, wRng2, wFor, wWhile, wYes, wComp, wEnum, wZip, wEnum2, wRgT, wRgL, wAug, dMulT, dMax, wMake, wFz, wCat, wRep, wipeE, D.ty, wIf_true, wIf_false, List.getElem?_cons_zero, List.getElem?_cons_succ, List.set_cons_zero, List.set_cons_succ, dI0_ii, dI_ii, dNeg_i, dGcd_ii, dAbs_i, dInt_i, dInt_b, dBits_i, dLen_t, dLen_l, dTuple_t, dTuple_l, dAdd_ii, dAdd_tt, dAdd_ll, dAdd_ss, dMul_ii, dMul_li, dIs_n, dIs_b, dIsN_n, dRepr_b, rt_0, rt_1, dEq, dNe, dSub, dDiv, dDivU, dMod, dLt, dLe, dGt, dGe, D.isNon, Bool.not_true, Bool.not_false, wAppL, wTupL, wConsL, wNilL, wLam, wPl])
  intro l5 a5 b5 c5
  refine ⟨by simp, by simp, ?_⟩
  (try simp only [wSeq, wSet, wSetO, wRet, wIfS, wFrz, wApp, wDrop, wNext, wBreak, wCont, wNever, wVar, wVarB, wC, wBin, wUn, wT, wAnd, wOr, wNot, wAndV, wOrV, wNotV, wIte, wNil, wCons, wTup, wCall, wListOf, wC2, wIsT, wIsC, wFld, wON, wOS, wSl, wV, wO, wSetIx, wPar, wSwap, wSeqOf, wRng1, wRng2, wFor, wWhile, wYes, wComp, wEnum, wZip, wEnum2, wRgT, wRgL, wAug, dMulT, dMax, wMake, wFz, wCat, wRep, wipeE, D.ty, wIf_true, wIf_false, List.getElem?_cons_zero, List.getElem?_cons_succ, List.set_cons_zero, List.set_cons_succ, dI0_ii, dI_ii, dNeg_i, dGcd_ii, dAbs_i, dInt_i, dInt_b, dBits_i, dLen_t, dLen_l, dTuple_t, dTuple_l, dAdd_ii, dAdd_tt, dAdd_ll, dAdd_ss, dMul_ii, dMul_li, dIs_n, dIs_b, dIsN_n, dRepr_b, rt_0, rt_1, dEq, dNe, dSub, dDiv, dDivU, dMod, dLt, dLe, dGt, dGe, D.isNon, Bool.not_true, Bool.not_false, wAppL, wTupL, wConsL, wNilL, wLam, wPl])
  intro l6 a6 b6 c6
  refine ⟨by simp, by simp, ?_⟩
  refine ⟨[⟨l0, S_0, [bad, wrong, far], .tup [.str "row", bad]⟩, ⟨l1, S_1, [wrong, far], .tup [.str "row", wrong]⟩, ⟨l2, S_2, [far], .tup [.str "number", .str "many", far]⟩, ⟨l3, S_3, [long, low, start], .tup [.str "row", long]⟩, ⟨l4, S_4, [low, start], .tup [.str "number", .str "size", low]⟩, ⟨l5, S_5, [start], .tup [.str "number", .str "start", start]⟩, ⟨l6, S_6, [], .tup [.str "unlike", .str "size"]⟩], by simp, rfl, fun z hz => ?_⟩
  simp only [List.mem_cons, List.not_mem_nil, or_false] at hz
  rcases hz with rfl | rfl | rfl | rfl | rfl | rfl | rfl
  · exact ⟨by simp, by simp [Ss], a0, b0, c0, (.cons 2 rfl rfl (.cons 3 rfl rfl (.cons 4 rfl rfl .nil))), sh_bads h1, fun b' W hW => ⟨bad, wrong, far, rfl, bad, wrong, far, rfl, .inl ⟨bad_bads h1, hW _ _ (by decide) rfl⟩⟩⟩
  · exact ⟨by simp, by simp [Ss], a1, b1, c1, (.cons 3 rfl rfl (.cons 4 rfl rfl .nil)), sh_wrongs h2, fun b' W hW => ⟨wrong, far, rfl, _, wrong, far, rfl, .inr ⟨_, passed_ints [1] (by decide), by simp, by simp, .inl ⟨bad_wrongs h2, hW _ _ (by decide) rfl⟩⟩⟩⟩
  · exact ⟨by simp, by simp [Ss], a2, b2, c2, (.cons 4 rfl rfl .nil), sh_fars h3, fun b' W hW => ⟨far, rfl, _, _, far, rfl, .inr ⟨_, passed_ints [1] (by decide), by simp, by simp, .inr ⟨_, passed_ints [2] (by decide), rfl, bad_fars h3, hW _ _ (by decide) rfl⟩⟩⟩⟩
  · exact ⟨by simp, by simp [Ss], a3, b3, c3, (.cons 7 rfl rfl (.cons 5 rfl rfl (.cons 6 rfl rfl .nil))), sh_longs h6, fun b' W hW => ⟨long, low, start, rfl, long, low, start, rfl, .inl ⟨bad_longs h6, hW _ _ (by decide) rfl⟩⟩⟩
  · exact ⟨by simp, by simp [Ss], a4, b4, c4, (.cons 5 rfl rfl (.cons 6 rfl rfl .nil)), sh_lows h4, fun b' W hW => ⟨low, start, rfl, _, low, start, rfl, .inr ⟨_, passed_ints [1, 2, 3] (by decide), by simp, by simp, .inl ⟨bad_lows h4, hW _ _ (by decide) rfl⟩⟩⟩⟩
  · exact ⟨by simp, by simp [Ss], a5, b5, c5, (.cons 6 rfl rfl .nil), sh_starts h5, fun b' W hW => ⟨start, rfl, _, _, start, rfl, .inr ⟨_, passed_ints [1, 2, 3] (by decide), by simp, by simp, .inr ⟨2, rfl, by decide, by decide, .inl ⟨bad_starts h5, hW _ _ (by decide) rfl⟩⟩⟩⟩⟩
  · exact ⟨by simp, by simp [Ss], a6, b6, c6, .nil, sh_last, fun b' W hW => ⟨rfl, _, _, _, rfl, .inr ⟨_, passed_ints [1, 2, 3] (by decide), by simp, by simp, .inr ⟨2, rfl, by decide, by decide, .inr ⟨1, rfl, by decide, by simp, hW _ _ (by decide) rfl⟩⟩⟩⟩⟩
theorem law_ok : W_law EL (.un :: .v .pen :: List.replicate 8 .un) (2 ^ 40) := by
  show W_law EL [.un, .v .pen, .un, .un, .un, .un, .un, .un, .un, .un] (2 ^ 40)
  (try simp only [wSeq, wSet, wSetO, wRet, wIfS, wFrz, wApp, wDrop, wNext, wBreak, wCont, wNever, wVar, wVarB, wC, wBin, wUn, wT, wAnd, wOr, wNot, wAndV, wOrV, wNotV, wIte, wNil, wCons, wTup, wCall, wListOf, wC2, wIsT, wIsC, wFld, wON, wOS, wSl, wV, wO, wSetIx, wPar, wSwap, wSeqOf, wRng1, wRng2, wFor, wWhile, wYes, wComp, wEnum, wZip, wEnum2, wRgT, wRgL, wAug, dMulT, dMax, wMake, wFz, wCat, wRep, wipeE, D.ty, wIf_true, wIf_false, List.getElem?_cons_zero, List.getElem?_cons_succ, List.set_cons_zero, List.set_cons_succ, dI0_ii, dI_ii, dNeg_i, dGcd_ii, dAbs_i, dInt_i, dInt_b, dBits_i, dLen_t, dLen_l, dTuple_t, dTuple_l, dAdd_ii, dAdd_tt, dAdd_ll, dAdd_ss, dMul_ii, dMul_li, dIs_n, dIs_b, dIsN_n, dRepr_b, rt_0, rt_1, dEq, dNe, dSub, dDiv, dDivU, dMod, dLt, dLe, dGt, dGe, D.isNon, Bool.not_true, Bool.not_false, W_law, wTail, wTg, setTg, setAll])
  refine ⟨⟨by decide, by decide⟩, by decide, ?_⟩
  refine cmp_any (fun (i : Nat) => D.int ((0 : Int) + (i : Int))) (fun _ y => y = .bl true) 100 (List.range (4 : Int).toNat) _ _ (by decide) (fun i hi => ⟨_, rfl, fun b1 K1 hb1 kk => ?_⟩) fun ys b1 hyl hyp hb1 => ?_
  · (try simp only [wSeq, wSet, wSetO, wRet, wIfS, wFrz, wApp, wDrop, wNext, wBreak, wCont, wNever, wVar, wVarB, wC, wBin, wUn, wT, wAnd, wOr, wNot, wAndV, wOrV, wNotV, wIte, wNil, wCons, wTup, wCall, wListOf, wC2, wIsT, wIsC, wFld, wON, wOS, wSl, wV, wO, wSetIx, wPar, wSwap, wSeqOf, wRng1, wRng2, wFor, wWhile, wYes, wComp, wEnum, wZip, wEnum2, wRgT, wRgL, wAug, dMulT, dMax, wMake, wFz, wCat, wRep, wipeE, D.ty, wIf_true, wIf_false, List.getElem?_cons_zero, List.getElem?_cons_succ, List.set_cons_zero, List.set_cons_succ, dI0_ii, dI_ii, dNeg_i, dGcd_ii, dAbs_i, dInt_i, dInt_b, dBits_i, dLen_t, dLen_l, dTuple_t, dTuple_l, dAdd_ii, dAdd_tt, dAdd_ll, dAdd_ss, dMul_ii, dMul_li, dIs_n, dIs_b, dIsN_n, dRepr_b, rt_0, rt_1, dEq, dNe, dSub, dDiv, dDivU, dMod, dLt, dLe, dGt, dGe, D.isNon, Bool.not_true, Bool.not_false])
    exact ⟨rfl, rfl, hb1, fun b' hb' => kk _ b' rfl hb'⟩
  · have e : ys = (List.replicate 4 true).map D.bl := by
      have h4 : ys.length = 4 := by simpa using hyl
      refine List.ext_getElem? fun i => ?_
      by_cases hi : i < 4
      · have h1 := hyp i i _ (List.getElem?_range (by simpa using hi)) (List.getElem?_eq_getElem (by omega))
        rw [List.getElem?_eq_getElem (by omega), h1]
        have h5 : i = 0 ∨ i = 1 ∨ i = 2 ∨ i = 3 := by omega
        rcases h5 with rfl | rfl | rfl | rfl <;> rfl
      · rw [List.getElem?_eq_none (by omega)]
        simp [hi]
    have hb2 : 100 ≤ b1 := by
      have : 100 * (List.range (4 : Int).toNat).length = 400 := rfl
      omega
    refine ⟨_, e, ?_⟩
    (try simp only [wSeq, wSet, wSetO, wRet, wIfS, wFrz, wApp, wDrop, wNext, wBreak, wCont, wNever, wVar, wVarB, wC, wBin, wUn, wT, wAnd, wOr, wNot, wAndV, wOrV, wNotV, wIte, wNil, wCons, wTup, wCall, wListOf, wC2, wIsT, wIsC, wFld, wON, wOS, wSl, wV, wO, wSetIx, wPar, wSwap, wSeqOf, wRng1, wRng2, wFor, wWhile, wYes, wComp, wEnum, wZip, wEnum2, wRgT, wRgL, wAug, dMulT, dMax, wMake, wFz, wCat, wRep, wipeE, D.ty, wIf_true, wIf_false, List.getElem?_cons_zero, List.getElem?_cons_succ, List.set_cons_zero, List.set_cons_succ, dI0_ii, dI_ii, dNeg_i, dGcd_ii, dAbs_i, dInt_i, dInt_b, dBits_i, dLen_t, dLen_l, dTuple_t, dTuple_l, dAdd_ii, dAdd_tt, dAdd_ll, dAdd_ss, dMul_ii, dMul_li, dIs_n, dIs_b, dIsN_n, dRepr_b, rt_0, rt_1, dEq, dNe, dSub, dDiv, dDivU, dMod, dLt, dLe, dGt, dGe, D.isNon, Bool.not_true, Bool.not_false])
    rw [show (!(List.replicate 4 true).all id) = false by decide]
    (try simp only [wSeq, wSet, wSetO, wRet, wIfS, wFrz, wApp, wDrop, wNext, wBreak, wCont, wNever, wVar, wVarB, wC, wBin, wUn, wT, wAnd, wOr, wNot, wAndV, wOrV, wNotV, wIte, wNil, wCons, wTup, wCall, wListOf, wC2, wIsT, wIsC, wFld, wON, wOS, wSl, wV, wO, wSetIx, wPar, wSwap, wSeqOf, wRng1, wRng2, wFor, wWhile, wYes, wComp, wEnum, wZip, wEnum2, wRgT, wRgL, wAug, dMulT, dMax, wMake, wFz, wCat, wRep, wipeE, D.ty, wIf_true, wIf_false, List.getElem?_cons_zero, List.getElem?_cons_succ, List.set_cons_zero, List.set_cons_succ, dI0_ii, dI_ii, dNeg_i, dGcd_ii, dAbs_i, dInt_i, dInt_b, dBits_i, dLen_t, dLen_l, dTuple_t, dTuple_l, dAdd_ii, dAdd_tt, dAdd_ll, dAdd_ss, dMul_ii, dMul_li, dIs_n, dIs_b, dIsN_n, dRepr_b, rt_0, rt_1, dEq, dNe, dSub, dDiv, dDivU, dMod, dLt, dLe, dGt, dGe, D.isNon, Bool.not_true, Bool.not_false])
    refine ⟨⟨by simp, by decide, by decide, by simp⟩, rfl, bads, rfl, by simp [bads], by simp [bads], by omega, fun d hd => ?_⟩
    refine ⟨rfl, wrongs, rfl, by simp [wrongs], by simp [wrongs], by omega, fun d1 hd1 => ?_⟩
    refine ⟨rfl, fars, rfl, by simp [fars], by simp [fars], by omega, fun d2 hd2 => ?_⟩
    refine ⟨rfl, lows, rfl, by simp [lows], by simp [lows], by omega, fun d3 hd3 => ?_⟩
    refine ⟨rfl, starts, rfl, by simp [starts], by simp [starts], by omega, fun d4 hd4 => ?_⟩
    refine ⟨⟨by simp, by decide, by decide, by simp⟩, rfl, longs, rfl, by simp [longs], by simp [longs], by omega, fun d5 hd5 => ?_⟩
    exact kap_ok hd hd1 hd2 hd3 hd4 hd5 _ _
end En.K78
namespace En.K78
open PySem PySem.Spec PyProof.Rows L2 En
section
variable {K : PySem.W.Frag} {mg : Str → Option Value} {h : Heap}
theorem dd_of {x : Str} {st : Stmt} {ps : List Str} {f : Addr} {od an : Option Addr} {sl : Array (Option Value)} {oc kV dc pm cd ct : Value} (X : K.In h) (G : h.Ns mainGlobals mg)
    (hb : ∀ (kV doc pm : Value) (an : Option Addr) (cdv ct : Value) (us : List Value), us.length = ps.length → bindArgs (PySem.W.fnOf x x (defArgs st) (defBody st) (defScope st) .none kV doc pm an cdv ct) ⟨us, []⟩ = pure (ps.zip us))
    (a : PySem.W.nsIn K mainGlobals x = some (some (.ref f))) (l : K.lookup f = some ⟨oc, od, .func (PySem.W.fnOf x x (defArgs st) (defBody st) (defScope st) .none kV dc pm an cd ct), sl⟩) (c : PySem.W.codeIn K cd x = true) (k : PySem.W.keepIn K (.ref f) = true) : Dd K mg x st ps :=
  ⟨f, _, PySem.W.mg_of X G a, fun_mk l c k, (fun_mk l c k).binds hb⟩
structure DdLaw (K : PySem.W.Frag) (mg : Str → Option Value) (st : Stmt) : Prop where
  ex : ∃ (f : Addr) (fd : FuncData), mg "law" = some (.ref f) ∧ Fun K "law" "law" st f fd ∧ ∀ (s : Shared) (v : Value), BindsTo s fd ⟨[v], []⟩ [("script", v)]
theorem ddlaw_of {st : Stmt} {f : Addr} {od an : Option Addr} {sl : Array (Option Value)} {oc kV dc pm cd ct : Value} (X : K.In h) (G : h.Ns mainGlobals mg)
    (hb : ∀ (kV doc pm : Value) (an : Option Addr) (cdv ct : Value) (s : Shared) (v : Value), BindsTo s (PySem.W.fnOf "law" "law" (defArgs st) (defBody st) (defScope st) .none kV doc pm an cdv ct) ⟨[v], []⟩ [("script", v)])
    (a : PySem.W.nsIn K mainGlobals "law" = some (some (.ref f))) (l : K.lookup f = some ⟨oc, od, .func (PySem.W.fnOf "law" "law" (defArgs st) (defBody st) (defScope st) .none kV dc pm an cd ct), sl⟩) (c : PySem.W.codeIn K cd "law" = true) (k : PySem.W.keepIn K (.ref f) = true) : DdLaw K mg st :=
  ⟨f, _, PySem.W.mg_of X G a, fun_mk l c k, hb _ _ _ _ _ _⟩
/-- a plain class with its making -/
structure Dc (K : PySem.W.Frag) (mg : Str → Option Value) (c qual : Str) (st : Stmt) (ps fs : List Str) : Prop where
  ex : ∃ (C f : Addr) (fd : FuncData), mg c = some (.ref C) ∧ Mk K C f ∧ ClsF K C ∧ (∀ f ∈ fs, NoAttr K C f) ∧ Fun K "__init__" qual st f fd ∧ Binds K fd ps []
theorem dc_of {c qual : Str} {st : Stmt} {ps fs : List Str} {C f : Addr} {od an : Option Addr} {sl : Array (Option Value)} {oc kV dc pm cd ct : Value} (X : K.In h) (G : h.Ns mainGlobals mg)
    (hb : ∀ (kV doc pm : Value) (an : Option Addr) (cdv ct : Value) (us : List Value), us.length = ps.length → bindArgs (PySem.W.fnOf "__init__" qual (defArgs st) (defBody st) (defScope st) .none kV doc pm an cdv ct) ⟨us, []⟩ = pure (ps.zip us))
    (aC : PySem.W.nsIn K mainGlobals c = some (some (.ref C)))
    (a1 : PySem.W.findIn K (.ref C) "__init__" = some (some (.ref f))) (i1 : PySem.W.isFn K (.ref f) = true) (l1 : K.lookup f = some ⟨oc, od, .func (PySem.W.fnOf "__init__" qual (defArgs st) (defBody st) (defScope st) .none kV dc pm an cd ct), sl⟩) (c1 : PySem.W.codeIn K cd qual = true) (k1 : PySem.W.keepIn K (.ref f) = true)
    (pg : PySem.W.plainGet K C Str.empty = true) (hd : PySem.W.hasDictIn K C = true) (po : PySem.W.plainOver K C = true) (sa : PySem.W.findIn K (.ref C) "__setattr__" = some (some (.builtin "object.__setattr__"))) (mk : PySem.W.makesIn K C = true) (kc : PySem.W.keepIn K (.ref C) = true)
    (ha : PySem.W.findIn K (.ref C) "__class__" = some (some (.builtin "object.__class__"))) (hn : PySem.W.specialIn K (.builtin "object.__class__") "__get__" = some (some (.builtin "getset_descriptor.__get__"))) (ht : PySem.W.takesIn K (.builtin "object.__class__") = some true) (hm : PySem.W.mroIn K C (.type "object") = some true)
    (na : ∀ f ∈ fs, NoAttr K C f) : Dc K mg c qual st ps fs :=
  ⟨C, f, _, PySem.W.mg_of X G aC, ⟨mk, a1, i1, kc⟩, ⟨⟨pg, hd, po, sa⟩, ha, hn, ht, hm⟩, na, fun_mk l1 c1 k1, (fun_mk l1 c1 k1).binds hb⟩
theorem ty_all {p : Ty → Prop} (a : p .non) (b : p .bl) (c : p .int) (d : p .str) (e : p .tup) (f : p .lst) : ∀ t, p t := fun t => by cases t <;> assumption
theorem vtup_of {x : Str} {a : Addr} {od : Option Addr} {sl : Array (Option Value)} {its : Array Value} {n : Nat} {xs : List V} {ds : List D} (X : K.In h) (G : h.Ns mainGlobals mg) (r : ∀ (pa : Addr) (B : Addr → Prop) (H : Hp), FRs K mg pa B H xs ds)
    (e : PySem.W.nsIn K mainGlobals x = some (some (.ref a))) (l : K.lookup a = some ⟨.type "tuple", od, .seq its n, sl⟩) (hz : its.size ≤ sizeLine) (v : Vals xs its.toList) :
    ∃ (v : V) (u : Value), mg x = some u ∧ RelV v u ∧ ∀ (pa : Addr) (B : Addr → Prop) (H : Hp), FR K mg pa B H v (.tup ds) :=
  ⟨.ref a, .ref a, PySem.W.mg_of X G e, rfl, fun pa B H => .tup (.inr ⟨_, its, n, l, rfl, rfl, hz, v⟩) (r pa B H)⟩
theorem vtup2_of {x : Str} {a : Addr} {od : Option Addr} {sl : Array (Option Value)} {i j : Int} {t u : Tok} {n : Nat} (X : K.In h) (G : h.Ns mainGlobals mg)
    (e : PySem.W.nsIn K mainGlobals x = some (some (.ref a))) (l : K.lookup a = some ⟨.type "tuple", od, .seq #[.int i t, .int j u] n, sl⟩) :
    ∃ (v : V) (u : Value), mg x = some u ∧ RelV v u ∧ ∀ (pa : Addr) (B : Addr → Prop) (H : Hp), FR K mg pa B H v (.tup [.int i, .int j]) :=
  ⟨.ref a, .ref a, PySem.W.mg_of X G e, rfl, fun pa B H => .tup (xs := [V.int i, V.int j]) (.inr ⟨_, _, n, l, rfl, rfl, by show 2 ≤ sizeLine; decide, .cons ⟨t, rfl⟩ (.cons ⟨u, rfl⟩ .nil)⟩) (.cons (.int i) (.cons (.int j) .nil))⟩
theorem kit1 {t : Value} {C : Addr} {b : Bool} (i : PySem.W.isClsIn K C = true) (ty : PySem.W.typeIn K (.ref C) = some (.type "type")) (ne : (t == Value.ref C) = false) (s : PySem.W.subIn K t (.ref C) = some b) : PySem.W.kitOne K t (.ref C) = some b := by
  unfold PySem.W.kitOne
  rw [ne, if_neg Bool.false_ne_true]
  have i' : (PySem.W.clsIn K C).isSome = true := i
  show (if ((PySem.W.clsIn K C).isSome && PySem.W.typeIn K (.ref C) == some (.type "type")) = true then PySem.W.subIn K t (.ref C) else none) = some b
  rw [i', ty]
  exact s
theorem isc_of {c : Str} {cls : List Str} {C : Addr} (X : K.In h) (G : h.Ns mainGlobals mg) (aC : PySem.W.nsIn K mainGlobals c = some (some (.ref C))) (i : PySem.W.isClsIn K C = true) (ty : PySem.W.typeIn K (.ref C) = some (.type "type"))
    (t1 : PySem.W.subIn K (.type "NoneType") (.ref C) = some false) (t2 : PySem.W.subIn K (.type "bool") (.ref C) = some false) (t3 : PySem.W.subIn K (.type "int") (.ref C) = some false) (t4 : PySem.W.subIn K (.type "str") (.ref C) = some false) (t5 : PySem.W.subIn K (.type "tuple") (.ref C) = some false) (t6 : PySem.W.subIn K (.type "list") (.ref C) = some false)
    (cc : ∀ c' ∈ cls, ∀ C', mg c' = some (.ref C') → PySem.W.kitOne K (.ref C') (.ref C) = some (c' == c)) : IsC K mg cls c :=
  ⟨C, PySem.W.mg_of X G aC, fun t => by cases t <;> exact kit1 i ty rfl (by assumption), cc⟩
theorem kit_same {c : Str} {C C' : Addr} (X : K.In h) (G : h.Ns mainGlobals mg) (hC : mg c = some (.ref C')) (n1 : PySem.W.nsIn K mainGlobals c = some (some (.ref C))) : PySem.W.kitOne K (.ref C') (.ref C) = some true := by
  have e := (PySem.W.mg_of X G n1).symm.trans hC
  cases e
  unfold PySem.W.kitOne
  rw [if_pos (by simp)]
theorem kit_of {c : Str} {a C C' : Addr} (X : K.In h) (G : h.Ns mainGlobals mg) (hC : mg c = some (.ref C')) (n1 : PySem.W.nsIn K mainGlobals c = some (some (.ref a))) (i : PySem.W.isClsIn K C = true) (ty : PySem.W.typeIn K (.ref C) = some (.type "type")) (s : PySem.W.subIn K (.ref a) (.ref C) = some false) (ne : (Value.ref a == Value.ref C) = false) : PySem.W.kitOne K (.ref C') (.ref C) = some false := by
  have e := (PySem.W.mg_of X G n1).symm.trans hC
  cases e
  exact kit1 i ty ne s
theorem vint_of {x : Str} {i : Int} {t : Tok} (X : K.In h) (G : h.Ns mainGlobals mg) (e : PySem.W.nsIn K mainGlobals x = some (some (.int i t))) :
    ∃ (v : V) (u : Value), mg x = some u ∧ RelV v u ∧ ∀ (pa : Addr) (B : Addr → Prop) (H : Hp), FR K mg pa B H v (.int i) :=
  ⟨.int i, _, PySem.W.mg_of X G e, ⟨t, rfl⟩, fun pa B H => .int i⟩
end
section
variable {K : PySem.W.Frag} {mg : Str → Option Value} {h : Heap}
theorem dec_of {c qual : Str} {st : Stmt} {ps fs : List Str} {C f : Addr} {od an : Option Addr} {sl : Array (Option Value)} {oc kV dc pm cd ct : Value} {nm q N bs sn sub ab col dd k0 k1 k2 k3 k5} {bm} (X : K.In h) (G : h.Ns mainGlobals mg)
    (hb : ∀ (kV doc pm : Value) (an : Option Addr) (cdv ct : Value) (us : List Value), us.length = ps.length → bindArgs (PySem.W.fnOf "__init__" qual (defArgs st) (defBody st) (defScope st) .none kV doc pm an cdv ct) ⟨us, []⟩ = pure (ps.zip us))
    (aC : PySem.W.nsIn K mainGlobals c = some (some (.ref C))) (lC : K.lookup C = some (excClassObj nm q C N bs bm true sn sub ab col dd k0 k1 k2 k3 k5 "ValueError.__new__")) (rv : PySem.HandSPX.refsVE bm = true)
    (sa : PySem.W.findIn K (.ref C) "__setattr__" = some (some (.builtin "object.__setattr__"))) (exC : PySem.W.subIn K (.ref C) (.type "BaseException") = some true) (tyC : PySem.W.typeIn K (.ref C) = some (.type "type")) (kC : PySem.W.keepIn K (.ref C) = true)
    (a1 : PySem.W.findIn K (.ref C) "__init__" = some (some (.ref f))) (tI : PySem.W.typeIn K (.ref f) = some (.type "function")) (l1 : K.lookup f = some ⟨oc, od, .func (PySem.W.fnOf "__init__" qual (defArgs st) (defBody st) (defScope st) .none kV dc pm an cd ct), sl⟩) (c1 : PySem.W.codeIn K cd qual = true) (k1' : PySem.W.keepIn K (.ref f) = true)
    (na : ∀ f ∈ fs, PySem.W.findIn K (.ref C) f = some none) : DeC K mg c qual st ps fs :=
  ⟨C, f, _, PySem.W.mg_of X G aC, ⟨⟨_, _, _, _, _, _, _, _, _, _, _, _, _, _, _, lC, rv⟩, sa, exC, tyC, kC⟩, a1, tI, (fun_mk l1 c1 k1').binds hb, fun_mk l1 c1 k1', na⟩
theorem me_of {M : Addr} (X : K.In h) (G : h.Ns mainGlobals mg) (a : PySem.W.nsIn K mainGlobals "MinorError" = some (some (.ref M))) (sp : PySem.W.specialIn K (.ref M) "__getattribute__" = some (some (.builtin "type.__getattribute__"))) (ty : PySem.W.typeIn K (.ref M) = some (.type "type"))
    (rd : PySem.W.readsIn K M (.type "type") = true) (fc : PySem.W.findCls K (.ref M) (.type "type") "__init__" = some (.val (.builtin "ValueError.__init__"))) : ∃ M, mg "MinorError" = some (.ref M) ∧ MeF K M := ⟨M, PySem.W.mg_of X G a, sp, ty, rd, fc⟩
/-- a class that a clause names -/
structure ClC (K : PySem.W.Frag) (mg : Str → Option Value) (c : Str) (fs : List Str) (C : Addr) : Prop where
  m : mg c = some (.ref C)
  x : XfC K C
  f : ∀ f ∈ fs, PySem.W.findIn K (.ref C) f = some none
theorem clc_of {c : Str} {fs : List Str} {C : Addr} (X : K.In h) (G : h.Ns mainGlobals mg) (a : PySem.W.nsIn K mainGlobals c = some (some (.ref C))) (x1 : PySem.W.findIn K (.ref C) "__getattribute__" = some (some (.builtin "BaseException.__getattribute__"))) (x2 : PySem.W.findIn K (.ref C) "__getattr__" = some none) (x3 : PySem.W.subIn K (.ref C) (.type "BaseException") = some true) (x4 : PySem.W.hasDictIn K C = true) (f : ∀ f ∈ fs, PySem.W.findIn K (.ref C) f = some none) : ClC K mg c fs C := ⟨PySem.W.mg_of X G a, ⟨x1, x2, x3, x4⟩, f⟩
theorem exm_of {a C : Addr} {b : Bool} (s1 : PySem.W.subIn K (.ref C) (.type "BaseException") = some true) (i : PySem.W.isClsIn K C = true) (ty : PySem.W.typeIn K (.ref C) = some (.type "type")) (s : PySem.W.subIn K (.ref a) (.ref C) = some b) : PySem.W.exmOne K (.ref a) (.ref C) = some b := by
  have i' : (PySem.W.clsIn K C).isSome = true := i
  unfold PySem.W.exmOne
  rw [s1, if_pos (by decide)]
  show (if ((PySem.W.clsIn K C).isSome && PySem.W.typeIn K (.ref C) == some (.type "type")) = true then PySem.W.subIn K (.ref a) (.ref C) else none) = some b
  rw [i', ty]
  exact s
theorem look_mem {a : Addr} {o : Obj} : ∀ {l : List (Addr × Obj)}, l.lookup a = some o → (a, o) ∈ l
  | [], h => by simp at h
  | (b, u) :: l, h => by
    rw [List.lookup_cons] at h
    by_cases e : (a == b) = true
    · rw [e] at h
      have e2 : a = b := by simpa using e
      subst e2
      cases h
      exact List.mem_cons_self
    · have e' : (a == b) = false := by simpa using e
      rw [e'] at h
      exact List.mem_cons_of_mem _ (look_mem h)
theorem nT_of {K : Params → PySem.W.Frag} {as : List Addr} {e : ∀ P, as = (K P).map (·.1)} {ts : List Addr} {w : World} {h : Heap} (Y : (PySem.W.kmHook K as e ts).says w h) {a : Addr} (n : as.contains a = false) : (K w.params).lookup a = none := by
  have e' := e w.params
  cases q : (K w.params).lookup a with
  | none => rfl
  | some o =>
    have hm : a ∈ as := by
      rw [e']
      exact List.mem_map.mpr ⟨(a, o), look_mem q, rfl⟩
    have : as.contains a = true := by simpa using hm
    rw [n] at this
    cases this
theorem cd_of {c Pt : Addr} {od : Option Addr} {vs : Array Value} {sl : Array (Option Value)} {file : Str} {tf : Tok} {flags text : Int} {tg tt : Tok} {inF : Bool} (X : K.In h) (l : K.lookup c = some ⟨.type "code", od, .fields vs, sl⟩) (h1 : vs[11]? = some (.ref Pt)) (h2 : vs.getD 11 .none = .ref Pt) (h3 : vs.getD 18 .none = .str file tf) (h4 : vs.getD 7 .none = .int flags tg) (h5 : vs.getD 9 .none = .bool inF) (h6 : vs.getD 10 .none = .int text tt) (h7 : c ≠ Pt) : PySem.W.CodeHd h c Pt := ⟨_, vs, file, tf, flags, tg, inF, text, tt, X _ _ l, rfl, rfl, h1, h2, h3, h4, h5, h6, h7⟩
theorem excF_of {C0 C1 C2 C3 C4 C5 : Addr} (c0 : ClC K mg "BadLot" ["lot"] C0) (c1 : ClC K mg "BadNumber" ["what", "number"] C1) (c2 : ClC K mg "BadRow" ["row"] C2) (c3 : ClC K mg "BadTable" ["table"] C3) (c4 : ClC K mg "TooMany" ["what", "many", "limit"] C4) (c5 : ClC K mg "Unlike" ["what"] C5)
    (e00 : PySem.W.exmOne K (.ref C0) (.ref C0) = some true) (e01 : PySem.W.exmOne K (.ref C0) (.ref C1) = some false) (e02 : PySem.W.exmOne K (.ref C0) (.ref C2) = some false) (e03 : PySem.W.exmOne K (.ref C0) (.ref C3) = some false) (e04 : PySem.W.exmOne K (.ref C0) (.ref C4) = some false) (e05 : PySem.W.exmOne K (.ref C0) (.ref C5) = some false) (e10 : PySem.W.exmOne K (.ref C1) (.ref C0) = some false) (e11 : PySem.W.exmOne K (.ref C1) (.ref C1) = some true) (e12 : PySem.W.exmOne K (.ref C1) (.ref C2) = some false) (e13 : PySem.W.exmOne K (.ref C1) (.ref C3) = some false) (e14 : PySem.W.exmOne K (.ref C1) (.ref C4) = some false) (e15 : PySem.W.exmOne K (.ref C1) (.ref C5) = some false) (e20 : PySem.W.exmOne K (.ref C2) (.ref C0) = some false) (e21 : PySem.W.exmOne K (.ref C2) (.ref C1) = some false) (e22 : PySem.W.exmOne K (.ref C2) (.ref C2) = some true) (e23 : PySem.W.exmOne K (.ref C2) (.ref C3) = some false) (e24 : PySem.W.exmOne K (.ref C2) (.ref C4) = some false) (e25 : PySem.W.exmOne K (.ref C2) (.ref C5) = some false) (e30 : PySem.W.exmOne K (.ref C3) (.ref C0) = some false) (e31 : PySem.W.exmOne K (.ref C3) (.ref C1) = some false) (e32 : PySem.W.exmOne K (.ref C3) (.ref C2) = some false) (e33 : PySem.W.exmOne K (.ref C3) (.ref C3) = some true) (e34 : PySem.W.exmOne K (.ref C3) (.ref C4) = some false) (e35 : PySem.W.exmOne K (.ref C3) (.ref C5) = some false) (e40 : PySem.W.exmOne K (.ref C4) (.ref C0) = some false) (e41 : PySem.W.exmOne K (.ref C4) (.ref C1) = some false) (e42 : PySem.W.exmOne K (.ref C4) (.ref C2) = some false) (e43 : PySem.W.exmOne K (.ref C4) (.ref C3) = some false) (e44 : PySem.W.exmOne K (.ref C4) (.ref C4) = some true) (e45 : PySem.W.exmOne K (.ref C4) (.ref C5) = some false) (e50 : PySem.W.exmOne K (.ref C5) (.ref C0) = some false) (e51 : PySem.W.exmOne K (.ref C5) (.ref C1) = some false) (e52 : PySem.W.exmOne K (.ref C5) (.ref C2) = some false) (e53 : PySem.W.exmOne K (.ref C5) (.ref C3) = some false) (e54 : PySem.W.exmOne K (.ref C5) (.ref C4) = some false) (e55 : PySem.W.exmOne K (.ref C5) (.ref C5) = some true) : ExcF K mg cs78 := by
  refine ⟨fun q hq => ?_, fun q hq q' hq' C C' h1 h2 => ?_⟩
  · simp only [cs78, List.mem_cons, List.not_mem_nil, or_false] at hq
    rcases hq with rfl | rfl | rfl | rfl | rfl | rfl
    · exact ⟨C0, c0.m, c0.x, c0.f⟩
    · exact ⟨C1, c1.m, c1.x, c1.f⟩
    · exact ⟨C2, c2.m, c2.x, c2.f⟩
    · exact ⟨C3, c3.m, c3.x, c3.f⟩
    · exact ⟨C4, c4.m, c4.x, c4.f⟩
    · exact ⟨C5, c5.m, c5.x, c5.f⟩
  · simp only [cs78, List.mem_cons, List.not_mem_nil, or_false] at hq hq'
    rcases hq with rfl | rfl | rfl | rfl | rfl | rfl
    · cases c0.m.symm.trans h1
      rcases hq' with rfl | rfl | rfl | rfl | rfl | rfl
      · cases c0.m.symm.trans h2
        exact e00
      · cases c1.m.symm.trans h2
        exact e01
      · cases c2.m.symm.trans h2
        exact e02
      · cases c3.m.symm.trans h2
        exact e03
      · cases c4.m.symm.trans h2
        exact e04
      · cases c5.m.symm.trans h2
        exact e05
    · cases c1.m.symm.trans h1
      rcases hq' with rfl | rfl | rfl | rfl | rfl | rfl
      · cases c0.m.symm.trans h2
        exact e10
      · cases c1.m.symm.trans h2
        exact e11
      · cases c2.m.symm.trans h2
        exact e12
      · cases c3.m.symm.trans h2
        exact e13
      · cases c4.m.symm.trans h2
        exact e14
      · cases c5.m.symm.trans h2
        exact e15
    · cases c2.m.symm.trans h1
      rcases hq' with rfl | rfl | rfl | rfl | rfl | rfl
      · cases c0.m.symm.trans h2
        exact e20
      · cases c1.m.symm.trans h2
        exact e21
      · cases c2.m.symm.trans h2
        exact e22
      · cases c3.m.symm.trans h2
        exact e23
      · cases c4.m.symm.trans h2
        exact e24
      · cases c5.m.symm.trans h2
        exact e25
    · cases c3.m.symm.trans h1
      rcases hq' with rfl | rfl | rfl | rfl | rfl | rfl
      · cases c0.m.symm.trans h2
        exact e30
      · cases c1.m.symm.trans h2
        exact e31
      · cases c2.m.symm.trans h2
        exact e32
      · cases c3.m.symm.trans h2
        exact e33
      · cases c4.m.symm.trans h2
        exact e34
      · cases c5.m.symm.trans h2
        exact e35
    · cases c4.m.symm.trans h1
      rcases hq' with rfl | rfl | rfl | rfl | rfl | rfl
      · cases c0.m.symm.trans h2
        exact e40
      · cases c1.m.symm.trans h2
        exact e41
      · cases c2.m.symm.trans h2
        exact e42
      · cases c3.m.symm.trans h2
        exact e43
      · cases c4.m.symm.trans h2
        exact e44
      · cases c5.m.symm.trans h2
        exact e45
    · cases c5.m.symm.trans h1
      rcases hq' with rfl | rfl | rfl | rfl | rfl | rfl
      · cases c0.m.symm.trans h2
        exact e50
      · cases c1.m.symm.trans h2
        exact e51
      · cases c2.m.symm.trans h2
        exact e52
      · cases c3.m.symm.trans h2
        exact e53
      · cases c4.m.symm.trans h2
        exact e54
      · cases c5.m.symm.trans h2
        exact e55
end
section
variable {P : Program} {w : World} {K : PySem.W.Frag} {mg : Str → Option Value} {base : Heap}
/-- all that is proved of the text's defs, wherever nothing sees divisions -/
structure All78 (P : Program) (w : World) (K : PySem.W.Frag) (mg : Str → Option Value) (base : Heap) : Prop where
  case : DfG P w K mg base 38 "_law_case" 1 p__law_case
  pick : Df P w K mg base 2 "_law_pick" 2 p__law_pick
  ps : Dx P w K mg base 37 "power_sums" 3 px_power_sums
  hk : Dx P w K mg base 37 "hankel" 3 px_hankel
  due : ∀ LL : LLs, (∀ l ∈ LL, LamOk P w K mg base 38 l.1 l.2.1 l.2.2) → DfG P w K mg base 40 "_law_are_due" 1 (pDue LL cs78)
theorem all_mk (htree : P.given.tree = none) (T : TB K mg)
    (hM : ∃ M, mg "MinorError" = some (.ref M) ∧ MeF K M)
    (EF : ExcF K mg cs78)
    (hE_BadRow : DeC K mg "BadRow" "BadRow.__init__" (inClass (topS 5) 0) ["self", "row"] ["row"])
    (hE_BadNumber : DeC K mg "BadNumber" "BadNumber.__init__" (inClass (topS 3) 0) ["self", "what", "number"] ["what", "number"])
    (hE_Unlike : DeC K mg "Unlike" "Unlike.__init__" (inClass (topS 7) 0) ["self", "what"] ["what"])
    (h_is_whole : Dd K mg "is_whole" (topS 10) ["value"])
    (h_need_between : Dd K mg "need_between" (topS 12) ["what", "number", "low", "high"])
    (h_is_pair : Dd K mg "is_pair" (topS 14) ["value"])
    (h_lowest : Dd K mg "lowest" (topS 15) ["top", "bottom"])
    (h_summed : Dd K mg "summed" (topS 16) ["one", "other"])
    (h_scaled : Dd K mg "scaled" (topS 17) ["one", "other"])
    (h_is_loose : Dd K mg "is_loose" (topS 22) ["value"])
    (h_told_ratio : Dd K mg "told_ratio" (topS 23) ["value"])
    (h_loose_row : Dd K mg "loose_row" (topS 24) ["value"])
    (h_row_from : Dd K mg "row_from" (topS 25) ["row", "least", "most"])
    (h_table_from : Dd K mg "table_from" (topS 26) ["table"])
    (h_turned_by : Dd K mg "turned_by" (topS 27) ["table"])
    (h_turned : Dd K mg "turned" (topS 28) ["table"])
    (h_dot_of : Dd K mg "dot_of" (topS 29) ["one", "other"])
    (h_product_by : Dd K mg "product_by" (topS 30) ["one", "other"])
    (h_product : Dd K mg "product" (topS 31) ["one", "other"])
    (h_power_row : Dd K mg "power_row" (topS 34) ["points", "weights", "many"])
    (h_power_sums : Dd K mg "power_sums" (topS 35) ["points", "weights", "many"])
    (h_hankel_by : Dd K mg "hankel_by" (topS 36) ["row", "size", "start"])
    (h_hankel : Dd K mg "hankel" (topS 37) ["row", "size", "start"])
    (h_power_table : Dd K mg "power_table" (topS 39) ["points", "many"])
    (h_diagonal_by : Dd K mg "diagonal_by" (topS 40) ["row"])
    (h_diagonal_table : Dd K mg "diagonal_table" (topS 41) ["row"])
    (h__law_pick : Dd K mg "_law_pick" (topS 45) ["pen", "some"])
    (h__law_gcd : Dd K mg "_law_gcd" (topS 46) ["one", "two"])
    (h__law_q : Dd K mg "_law_q" (topS 47) ["top", "bottom"])
    (h__law_plus : Dd K mg "_law_plus" (topS 48) ["one", "two"])
    (h__law_times : Dd K mg "_law_times" (topS 49) ["one", "two"])
    (h__law_handed : Dd K mg "_law_handed" (topS 50) ["pen", "ratio"])
    (h__law_passed : Dd K mg "_law_passed" (topS 51) ["pen", "row"])
    (h__law_ratio : Dd K mg "_law_ratio" (topS 52) ["pen", "most"])
    (h__law_sum : Dd K mg "_law_sum" (topS 53) ["rows"])
    (h__law_given_row : Dd K mg "_law_given_row" (topS 56) ["pen", "row"])
    (h__law_power_row : Dd K mg "_law_power_row" (topS 57) ["points", "weights", "many"])
    (h__law_square_of : Dd K mg "_law_square_of" (topS 58) ["row", "size", "start"])
    (h__law_case : Dd K mg "_law_case" (topS 59) ["pen"])
    (h_in_tuples : Dd K mg "in_tuples" (topS 11) ["value"])
    (h__law_draw : Dd K mg "_law_draw" (topS 44) ["pen", "many"])
    (h__law_fault : Dd K mg "_law_fault" (topS 54) ["work"])
    (h__law_are_due : Dd K mg "_law_are_due" (topS 55) ["tries"]) (seer : base.NoSeer) : All78 P w K mg base := by
  have Z : TZ P base := ⟨htree, seer⟩
  have D_in_tuples := d_inT (P := P) (w := w) (base := base) T h_in_tuples 9
  have D__law_draw := d__law_draw (P := P) (w := w) (base := base) T h__law_draw
  have D_is_whole := d_is_whole (P := P) (w := w) (base := base) T Z  h_is_whole
  have D_need_between := d_need_between (P := P) (w := w) (base := base) T Z D_is_whole h_need_between
  have D_is_pair := d_is_pair (P := P) (w := w) (base := base) T Z D_is_whole h_is_pair
  have D_lowest := d_lowest (P := P) (w := w) (base := base) T Z  h_lowest
  have D_summed := d_summed (P := P) (w := w) (base := base) T Z D_lowest h_summed
  have D_scaled := d_scaled (P := P) (w := w) (base := base) T Z D_lowest h_scaled
  have D_is_loose := d_is_loose (P := P) (w := w) (base := base) T Z D_is_whole D_is_pair h_is_loose
  have D_told_ratio := d_told_ratio (P := P) (w := w) (base := base) T Z D_is_whole D_lowest h_told_ratio
  have D_loose_row := d_loose_row (P := P) (w := w) (base := base) T Z D_is_loose D_told_ratio h_loose_row
  have D_loose_row2 := d_loose_row2 (P := P) (w := w) (base := base) T Z D_is_loose D_told_ratio h_loose_row
  have D_row_from := d_row_from (P := P) (w := w) (base := base) T Z D_loose_row D_in_tuples h_row_from
  have D_table_from := d_table_from (P := P) (w := w) (base := base) T Z D_in_tuples D_loose_row h_table_from
  have D_turned_by := d_turned_by (P := P) (w := w) (base := base) T Z  h_turned_by
  have D_turned := d_turned (P := P) (w := w) (base := base) T Z D_turned_by D_table_from h_turned
  have D_dot_of := d_dot_of (P := P) (w := w) (base := base) T Z D_summed D_scaled h_dot_of
  have D_product_by := d_product_by (P := P) (w := w) (base := base) T Z D_turned_by D_dot_of h_product_by
  have D_product := d_product (P := P) (w := w) (base := base) T Z D_table_from D_product_by h_product
  have D_power_row := d_power_row (P := P) (w := w) (base := base) T Z D_summed D_scaled h_power_row
  have D_power_sums := d_power_sums (P := P) (w := w) (base := base) T Z D_row_from D_need_between D_power_row h_power_sums
  have D_hankel_by := d_hankel_by (P := P) (w := w) (base := base) T Z  h_hankel_by
  have D_hankel := d_hankel (P := P) (w := w) (base := base) T Z D_row_from D_need_between D_hankel_by h_hankel
  have D_power_table := d_power_table (P := P) (w := w) (base := base) T Z D_row_from D_need_between D_scaled h_power_table
  have D_diagonal_by := d_diagonal_by (P := P) (w := w) (base := base) T Z  h_diagonal_by
  have D_diagonal_table := d_diagonal_table (P := P) (w := w) (base := base) T Z D_diagonal_by D_row_from h_diagonal_table
  have D__law_pick := d__law_pick (P := P) (w := w) (base := base) T Z D__law_draw h__law_pick
  have D__law_gcd := d__law_gcd (P := P) (w := w) (base := base) T Z  h__law_gcd
  have D__law_q := d__law_q (P := P) (w := w) (base := base) T Z D__law_gcd h__law_q
  have D__law_plus := d__law_plus (P := P) (w := w) (base := base) T Z D__law_q h__law_plus
  have D__law_times := d__law_times (P := P) (w := w) (base := base) T Z D__law_q h__law_times
  have D__law_handed := d__law_handed (P := P) (w := w) (base := base) T Z D__law_draw D__law_pick h__law_handed
  have D__law_passed := d__law_passed (P := P) (w := w) (base := base) T Z D__law_pick h__law_passed
  have D__law_ratio := d__law_ratio (P := P) (w := w) (base := base) T Z D__law_q D__law_draw D__law_pick h__law_ratio
  have D__law_sum := d__law_sum (P := P) (w := w) (base := base) T Z D__law_plus h__law_sum
  have D__law_given_row := d__law_given_row (P := P) (w := w) (base := base) T Z D__law_passed D__law_handed h__law_given_row
  have D__law_power_row := d__law_power_row (P := P) (w := w) (base := base) T Z D__law_sum D__law_times h__law_power_row
  have D__law_square_of := d__law_square_of (P := P) (w := w) (base := base) T Z  h__law_square_of
  have D__law_case := d__law_case (P := P) (w := w) (base := base) T Z D__law_draw D__law_ratio D_power_sums D__law_given_row D__law_power_row D__law_pick D_hankel D__law_square_of D__law_times D_power_table D_product D_turned D_diagonal_table D__law_plus h__law_case
  have E_BadRow := e_BadRow (P := P) (w := w) (base := base) hM hE_BadRow
  have E_BadNumber := e_BadNumber (P := P) (w := w) (base := base) hM hE_BadNumber
  have E_Unlike := e_Unlike (P := P) (w := w) (base := base) hM hE_Unlike
  have X_row_from := x_row_from (P := P) (w := w) (base := base) T D_loose_row2 D_in_tuples  E_BadRow h_row_from
  have X_need_between := x_need_between (P := P) (w := w) (base := base) T D_is_whole  E_BadNumber h_need_between
  have X_power_sums := x_power_sums (P := P) (w := w) (base := base) T D_row_from D_need_between D_power_row X_row_from X_need_between  h_power_sums
  have X_hankel := x_hankel (P := P) (w := w) (base := base) T D_row_from D_need_between D_hankel_by X_row_from X_need_between E_Unlike h_hankel
  exact ⟨D__law_case, D__law_pick, X_power_sums, X_hankel, fun LL hL => d__law_are_due T (d__law_fault EF hL h__law_fault) h__law_are_due⟩
theorem fin78 {l : PySem.W.OpenLaw} {h : Heap} {fa f c Pt : Addr} {oc kV doc pm ct : Value} {od an : Option Addr} {osl : Array (Option Value)} (htree : l.prog.given.tree = none) (KX : K.In h) (G : h.Ns mainGlobals mg) (hfa : mg "law" = some (.ref fa))
    (a : PySem.W.nsIn K mainGlobals "law" = some (some (.ref f)))
    (lk : K.lookup f = some ⟨oc, od, .func (PySem.W.fnOf "law" "law" (defArgs (topS 60)) (defBody (topS 60)) (defScope (topS 60)) .none kV doc pm an (.ref c) ct), osl⟩) (hcd : PySem.W.codeIn K (.ref c) "law" = true)
    (hb : ∀ (s : Shared) (v : Value), BindsTo s (PySem.W.fnOf "law" "law" (defArgs (topS 60)) (defBody (topS 60)) (defScope (topS 60)) .none kV doc pm an (.ref c) ct) ⟨[v], []⟩ [("script", v)])
    (T : TB K mg)
    (hM : ∃ M, mg "MinorError" = some (.ref M) ∧ MeF K M)
    (EF : ExcF K mg cs78)
    (hE_BadRow : DeC K mg "BadRow" "BadRow.__init__" (inClass (topS 5) 0) ["self", "row"] ["row"])
    (hE_BadNumber : DeC K mg "BadNumber" "BadNumber.__init__" (inClass (topS 3) 0) ["self", "what", "number"] ["what", "number"])
    (hE_Unlike : DeC K mg "Unlike" "Unlike.__init__" (inClass (topS 7) 0) ["self", "what"] ["what"])
    (h_is_whole : Dd K mg "is_whole" (topS 10) ["value"])
    (h_need_between : Dd K mg "need_between" (topS 12) ["what", "number", "low", "high"])
    (h_is_pair : Dd K mg "is_pair" (topS 14) ["value"])
    (h_lowest : Dd K mg "lowest" (topS 15) ["top", "bottom"])
    (h_summed : Dd K mg "summed" (topS 16) ["one", "other"])
    (h_scaled : Dd K mg "scaled" (topS 17) ["one", "other"])
    (h_is_loose : Dd K mg "is_loose" (topS 22) ["value"])
    (h_told_ratio : Dd K mg "told_ratio" (topS 23) ["value"])
    (h_loose_row : Dd K mg "loose_row" (topS 24) ["value"])
    (h_row_from : Dd K mg "row_from" (topS 25) ["row", "least", "most"])
    (h_table_from : Dd K mg "table_from" (topS 26) ["table"])
    (h_turned_by : Dd K mg "turned_by" (topS 27) ["table"])
    (h_turned : Dd K mg "turned" (topS 28) ["table"])
    (h_dot_of : Dd K mg "dot_of" (topS 29) ["one", "other"])
    (h_product_by : Dd K mg "product_by" (topS 30) ["one", "other"])
    (h_product : Dd K mg "product" (topS 31) ["one", "other"])
    (h_power_row : Dd K mg "power_row" (topS 34) ["points", "weights", "many"])
    (h_power_sums : Dd K mg "power_sums" (topS 35) ["points", "weights", "many"])
    (h_hankel_by : Dd K mg "hankel_by" (topS 36) ["row", "size", "start"])
    (h_hankel : Dd K mg "hankel" (topS 37) ["row", "size", "start"])
    (h_power_table : Dd K mg "power_table" (topS 39) ["points", "many"])
    (h_diagonal_by : Dd K mg "diagonal_by" (topS 40) ["row"])
    (h_diagonal_table : Dd K mg "diagonal_table" (topS 41) ["row"])
    (h__law_pick : Dd K mg "_law_pick" (topS 45) ["pen", "some"])
    (h__law_gcd : Dd K mg "_law_gcd" (topS 46) ["one", "two"])
    (h__law_q : Dd K mg "_law_q" (topS 47) ["top", "bottom"])
    (h__law_plus : Dd K mg "_law_plus" (topS 48) ["one", "two"])
    (h__law_times : Dd K mg "_law_times" (topS 49) ["one", "two"])
    (h__law_handed : Dd K mg "_law_handed" (topS 50) ["pen", "ratio"])
    (h__law_passed : Dd K mg "_law_passed" (topS 51) ["pen", "row"])
    (h__law_ratio : Dd K mg "_law_ratio" (topS 52) ["pen", "most"])
    (h__law_sum : Dd K mg "_law_sum" (topS 53) ["rows"])
    (h__law_given_row : Dd K mg "_law_given_row" (topS 56) ["pen", "row"])
    (h__law_power_row : Dd K mg "_law_power_row" (topS 57) ["points", "weights", "many"])
    (h__law_square_of : Dd K mg "_law_square_of" (topS 58) ["row", "size", "start"])
    (h__law_case : Dd K mg "_law_case" (topS 59) ["pen"])
    (h_in_tuples : Dd K mg "in_tuples" (topS 11) ["value"])
    (h__law_draw : Dd K mg "_law_draw" (topS 44) ["pen", "many"])
    (h__law_fault : Dd K mg "_law_fault" (topS 54) ["work"])
    (h__law_are_due : Dd K mg "_law_are_due" (topS 55) ["tries"]) (h__law_pen : Dd K mg "_law_pen" (topS 43) ["script"]) :
    ∀ base : Heap, K.In base → base.Ns mainGlobals mg → base.NoSeer → LamX.TabB base mg c Pt → LawC l.prog w K mg base fa Pt := by
  intro base _ _ seer TBc
  have e := (PySem.W.mg_of KX G a).symm.trans hfa
  cases e
  have A : ∀ base : Heap, base.NoSeer → All78 l.prog w K mg base := fun base seer => all_mk htree T hM EF hE_BadRow hE_BadNumber hE_Unlike h_is_whole h_need_between h_is_pair h_lowest h_summed h_scaled h_is_loose h_told_ratio h_loose_row h_row_from h_table_from h_turned_by h_turned h_dot_of h_product_by h_product h_power_row h_power_sums h_hankel_by h_hankel h_power_table h_diagonal_by h_diagonal_table h__law_pick h__law_gcd h__law_q h__law_plus h__law_times h__law_handed h__law_passed h__law_ratio h__law_sum h__law_given_row h__law_power_row h__law_square_of h__law_case h_in_tuples h__law_draw h__law_fault h__law_are_due seer
  obtain ⟨fP, fdP, hmP, FP, bdP⟩ := h__law_pen.ex
  exact ok_law T (A base seer).case (A base seer).pick (fun b _ hs => (A b hs).ps) (fun b _ hs => (A b hs).hk) (fun b _ hs LL hL => (A b hs).due LL hL) lk hcd hb FP hmP bdP TBc seer law_ok
end
end En.K78
open PySem PySem.W PyProof.Rows
set_option maxRecDepth 100000 in
set_option maxHeartbeats 0 in
theorem PySem.Challenge.cw_everyminor_k78_sums_of_powers_and_tables_holds : PySem.Challenge.rw_everyminor_k78_sums_of_powers_and_tables.Holds := by
  w_on; o_law; k_head; (case hw => w_witness2)
  k_fill
  refine En.walk_lam (l := PySem.Challenge.rw_everyminor_k78_sums_of_powers_and_tables) rfl rfl (by decide +kernel) (fun w h Y => PySem.W.km_in_of Y) ?F
  case F =>
    intro w mg fa h Y KX G hmg
    refine' ⟨_, 434, PySem.W.km_tabs_of Y 434 (by simp), En.K78.nT_of Y (by decide), En.K78.cd_of KX ?cd ?d1 ?d2 ?d3 ?d4 ?d5 ?d6 ?d7, En.K78.fin78 (l := PySem.Challenge.rw_everyminor_k78_sums_of_powers_and_tables) rfl KX G hmg ?la ?ll ?lc (fun _ _ => .of_eq rfl) ?T ?hM ?EF ?hE_BadRow ?hE_BadNumber ?hE_Unlike ?h_is_whole ?h_need_between ?h_is_pair ?h_lowest ?h_summed ?h_scaled ?h_is_loose ?h_told_ratio ?h_loose_row ?h_row_from ?h_table_from ?h_turned_by ?h_turned ?h_dot_of ?h_product_by ?h_product ?h_power_row ?h_power_sums ?h_hankel_by ?h_hankel ?h_power_table ?h_diagonal_by ?h_diagonal_table ?h__law_pick ?h__law_gcd ?h__law_q ?h__law_plus ?h__law_times ?h__law_handed ?h__law_passed ?h__law_ratio ?h__law_sum ?h__law_given_row ?h__law_power_row ?h__law_square_of ?h__law_case ?h_in_tuples ?h__law_draw ?h__law_fault ?h__law_are_due ?h__law_pen⟩
    (case la => k_is); (case ll => k_is); (case lc => k_is); (case cd => k_is)
    (case d1 => rfl); (case d2 => rfl); (case d3 => rfl); (case d4 => rfl); (case d5 => rfl); (case d6 => rfl); (case d7 => decide)
    case T =>
      refine' ⟨PySem.W.mg_none_of KX G ?b_isinstance, PySem.W.mg_none_of KX G ?b_int, PySem.W.mg_none_of KX G ?b_bool, PySem.W.mg_none_of KX G ?b_tuple, PySem.W.mg_none_of KX G ?b_list, PySem.W.mg_none_of KX G ?b_len, PySem.W.mg_none_of KX G ?b_abs, PySem.W.mg_none_of KX G ?b_range, PySem.W.mg_none_of KX G ?b_zip, PySem.W.mg_none_of KX G ?b_all, PySem.W.mg_none_of KX G ?b_repr, PySem.W.mg_of KX G ?b_gcd, En.K78.vtup2_of KX G ?e_NONE ?l_NONE, En.K78.vtup2_of KX G ?e_ONE ?l_ONE, En.K78.vint_of KX G ?e_MOST, En.K78.vint_of KX G ?e_MOST_ITEMS⟩
      (case b_isinstance => k_is); (case b_int => k_is); (case b_bool => k_is); (case b_tuple => k_is); (case b_list => k_is); (case b_len => k_is); (case b_abs => k_is); (case b_range => k_is); (case b_zip => k_is); (case b_all => k_is); (case b_repr => k_is); (case b_gcd => k_is); (case e_NONE => k_is); (case l_NONE => k_is); (case e_ONE => k_is); (case l_ONE => k_is); (case e_MOST => k_is); (case e_MOST_ITEMS => k_is)
    case hM =>
      refine' En.K78.me_of KX G ?a ?sp ?ty ?rd ?fc
      (case a => k_is); (case sp => k_is); (case ty => k_is); (case rd => k_is); (case fc => k_is)
    case EF =>
      refine' En.K78.excF_of (En.K78.clc_of KX G ?a0 ?xa0 ?xb0 ?xc0 ?xd0 ?f0) (En.K78.clc_of KX G ?a1 ?xa1 ?xb1 ?xc1 ?xd1 ?f1) (En.K78.clc_of KX G ?a2 ?xa2 ?xb2 ?xc2 ?xd2 ?f2) (En.K78.clc_of KX G ?a3 ?xa3 ?xb3 ?xc3 ?xd3 ?f3) (En.K78.clc_of KX G ?a4 ?xa4 ?xb4 ?xc4 ?xd4 ?f4) (En.K78.clc_of KX G ?a5 ?xa5 ?xb5 ?xc5 ?xd5 ?f5) (En.K78.exm_of ?p00 ?q00 ?r00 ?s00) (En.K78.exm_of ?p01 ?q01 ?r01 ?s01) (En.K78.exm_of ?p02 ?q02 ?r02 ?s02) (En.K78.exm_of ?p03 ?q03 ?r03 ?s03) (En.K78.exm_of ?p04 ?q04 ?r04 ?s04) (En.K78.exm_of ?p05 ?q05 ?r05 ?s05) (En.K78.exm_of ?p10 ?q10 ?r10 ?s10) (En.K78.exm_of ?p11 ?q11 ?r11 ?s11) (En.K78.exm_of ?p12 ?q12 ?r12 ?s12) (En.K78.exm_of ?p13 ?q13 ?r13 ?s13) (En.K78.exm_of ?p14 ?q14 ?r14 ?s14) (En.K78.exm_of ?p15 ?q15 ?r15 ?s15) (En.K78.exm_of ?p20 ?q20 ?r20 ?s20) (En.K78.exm_of ?p21 ?q21 ?r21 ?s21) (En.K78.exm_of ?p22 ?q22 ?r22 ?s22) (En.K78.exm_of ?p23 ?q23 ?r23 ?s23) (En.K78.exm_of ?p24 ?q24 ?r24 ?s24) (En.K78.exm_of ?p25 ?q25 ?r25 ?s25) (En.K78.exm_of ?p30 ?q30 ?r30 ?s30) (En.K78.exm_of ?p31 ?q31 ?r31 ?s31) (En.K78.exm_of ?p32 ?q32 ?r32 ?s32) (En.K78.exm_of ?p33 ?q33 ?r33 ?s33) (En.K78.exm_of ?p34 ?q34 ?r34 ?s34) (En.K78.exm_of ?p35 ?q35 ?r35 ?s35) (En.K78.exm_of ?p40 ?q40 ?r40 ?s40) (En.K78.exm_of ?p41 ?q41 ?r41 ?s41) (En.K78.exm_of ?p42 ?q42 ?r42 ?s42) (En.K78.exm_of ?p43 ?q43 ?r43 ?s43) (En.K78.exm_of ?p44 ?q44 ?r44 ?s44) (En.K78.exm_of ?p45 ?q45 ?r45 ?s45) (En.K78.exm_of ?p50 ?q50 ?r50 ?s50) (En.K78.exm_of ?p51 ?q51 ?r51 ?s51) (En.K78.exm_of ?p52 ?q52 ?r52 ?s52) (En.K78.exm_of ?p53 ?q53 ?r53 ?s53) (En.K78.exm_of ?p54 ?q54 ?r54 ?s54) (En.K78.exm_of ?p55 ?q55 ?r55 ?s55)
      (case a0 => k_is)
      (case a1 => k_is)
      (case a2 => k_is)
      (case a3 => k_is)
      (case a4 => k_is)
      (case a5 => k_is)
      (case xa0 => k_is); (case xb0 => k_is); (case xc0 => k_is); (case xd0 => k_is)
      (case xa1 => k_is); (case xb1 => k_is); (case xc1 => k_is); (case xd1 => k_is)
      (case xa2 => k_is); (case xb2 => k_is); (case xc2 => k_is); (case xd2 => k_is)
      (case xa3 => k_is); (case xb3 => k_is); (case xc3 => k_is); (case xd3 => k_is)
      (case xa4 => k_is); (case xb4 => k_is); (case xc4 => k_is); (case xd4 => k_is)
      (case xa5 => k_is); (case xb5 => k_is); (case xc5 => k_is); (case xd5 => k_is)
      case f0 =>
        intro f hf
        simp only [List.mem_cons, List.not_mem_nil, or_false] at hf
        subst hf
        show PySem.W.findIn _ (.ref _) _ = some none
        k_is
      case f1 =>
        intro f hf
        simp only [List.mem_cons, List.not_mem_nil, or_false] at hf
        rcases hf with rfl | rfl
        all_goals show PySem.W.findIn _ (.ref _) _ = some none
        all_goals k_is
      case f2 =>
        intro f hf
        simp only [List.mem_cons, List.not_mem_nil, or_false] at hf
        subst hf
        show PySem.W.findIn _ (.ref _) _ = some none
        k_is
      case f3 =>
        intro f hf
        simp only [List.mem_cons, List.not_mem_nil, or_false] at hf
        subst hf
        show PySem.W.findIn _ (.ref _) _ = some none
        k_is
      case f4 =>
        intro f hf
        simp only [List.mem_cons, List.not_mem_nil, or_false] at hf
        rcases hf with rfl | rfl | rfl
        all_goals show PySem.W.findIn _ (.ref _) _ = some none
        all_goals k_is
      case f5 =>
        intro f hf
        simp only [List.mem_cons, List.not_mem_nil, or_false] at hf
        subst hf
        show PySem.W.findIn _ (.ref _) _ = some none
        k_is
      (case p00 => k_is); (case q00 => k_is); (case r00 => k_is); (case s00 => k_is)
      (case p01 => k_is); (case q01 => k_is); (case r01 => k_is); (case s01 => k_is)
      (case p02 => k_is); (case q02 => k_is); (case r02 => k_is); (case s02 => k_is)
      (case p03 => k_is); (case q03 => k_is); (case r03 => k_is); (case s03 => k_is)
      (case p04 => k_is); (case q04 => k_is); (case r04 => k_is); (case s04 => k_is)
      (case p05 => k_is); (case q05 => k_is); (case r05 => k_is); (case s05 => k_is)
      (case p10 => k_is); (case q10 => k_is); (case r10 => k_is); (case s10 => k_is)
      (case p11 => k_is); (case q11 => k_is); (case r11 => k_is); (case s11 => k_is)
      (case p12 => k_is); (case q12 => k_is); (case r12 => k_is); (case s12 => k_is)
      (case p13 => k_is); (case q13 => k_is); (case r13 => k_is); (case s13 => k_is)
      (case p14 => k_is); (case q14 => k_is); (case r14 => k_is); (case s14 => k_is)
      (case p15 => k_is); (case q15 => k_is); (case r15 => k_is); (case s15 => k_is)
      (case p20 => k_is); (case q20 => k_is); (case r20 => k_is); (case s20 => k_is)
      (case p21 => k_is); (case q21 => k_is); (case r21 => k_is); (case s21 => k_is)
      (case p22 => k_is); (case q22 => k_is); (case r22 => k_is); (case s22 => k_is)
      (case p23 => k_is); (case q23 => k_is); (case r23 => k_is); (case s23 => k_is)
      (case p24 => k_is); (case q24 => k_is); (case r24 => k_is); (case s24 => k_is)
      (case p25 => k_is); (case q25 => k_is); (case r25 => k_is); (case s25 => k_is)
      (case p30 => k_is); (case q30 => k_is); (case r30 => k_is); (case s30 => k_is)
      (case p31 => k_is); (case q31 => k_is); (case r31 => k_is); (case s31 => k_is)
      (case p32 => k_is); (case q32 => k_is); (case r32 => k_is); (case s32 => k_is)
      (case p33 => k_is); (case q33 => k_is); (case r33 => k_is); (case s33 => k_is)
      (case p34 => k_is); (case q34 => k_is); (case r34 => k_is); (case s34 => k_is)
      (case p35 => k_is); (case q35 => k_is); (case r35 => k_is); (case s35 => k_is)
      (case p40 => k_is); (case q40 => k_is); (case r40 => k_is); (case s40 => k_is)
      (case p41 => k_is); (case q41 => k_is); (case r41 => k_is); (case s41 => k_is)
      (case p42 => k_is); (case q42 => k_is); (case r42 => k_is); (case s42 => k_is)
      (case p43 => k_is); (case q43 => k_is); (case r43 => k_is); (case s43 => k_is)
      (case p44 => k_is); (case q44 => k_is); (case r44 => k_is); (case s44 => k_is)
      (case p45 => k_is); (case q45 => k_is); (case r45 => k_is); (case s45 => k_is)
      (case p50 => k_is); (case q50 => k_is); (case r50 => k_is); (case s50 => k_is)
      (case p51 => k_is); (case q51 => k_is); (case r51 => k_is); (case s51 => k_is)
      (case p52 => k_is); (case q52 => k_is); (case r52 => k_is); (case s52 => k_is)
      (case p53 => k_is); (case q53 => k_is); (case r53 => k_is); (case s53 => k_is)
      (case p54 => k_is); (case q54 => k_is); (case r54 => k_is); (case s54 => k_is)
      (case p55 => k_is); (case q55 => k_is); (case r55 => k_is); (case s55 => k_is)
    case hE_BadRow =>
      refine' En.K78.dec_of KX G (fun _ _ _ _ _ _ us hl => match us, hl with | [_, _], _ => rfl) ?aC ?lC ?rv ?sa ?exC ?tyC ?kC ?a1 ?tI ?l1 ?c1 ?k1 ?na
      (case aC => k_is); (case lC => k_is); (case sa => k_is); (case exC => k_is); (case tyC => k_is); (case kC => k_is); (case a1 => k_is); (case tI => k_is); (case l1 => k_is); (case c1 => k_is); (case k1 => k_is)
      case rv => first | k_is | decide +kernel | rfl
      case na =>
        intro f hf
        simp only [List.mem_cons, List.not_mem_nil, or_false] at hf
        subst hf
        show PySem.W.findIn _ (.ref _) _ = some none
        k_is
    case hE_BadNumber =>
      refine' En.K78.dec_of KX G (fun _ _ _ _ _ _ us hl => match us, hl with | [_, _, _], _ => rfl) ?aC ?lC ?rv ?sa ?exC ?tyC ?kC ?a1 ?tI ?l1 ?c1 ?k1 ?na
      (case aC => k_is); (case lC => k_is); (case sa => k_is); (case exC => k_is); (case tyC => k_is); (case kC => k_is); (case a1 => k_is); (case tI => k_is); (case l1 => k_is); (case c1 => k_is); (case k1 => k_is)
      case rv => first | k_is | decide +kernel | rfl
      case na =>
        intro f hf
        simp only [List.mem_cons, List.not_mem_nil, or_false] at hf
        rcases hf with rfl | rfl
        all_goals show PySem.W.findIn _ (.ref _) _ = some none
        all_goals k_is
    case hE_Unlike =>
      refine' En.K78.dec_of KX G (fun _ _ _ _ _ _ us hl => match us, hl with | [_, _], _ => rfl) ?aC ?lC ?rv ?sa ?exC ?tyC ?kC ?a1 ?tI ?l1 ?c1 ?k1 ?na
      (case aC => k_is); (case lC => k_is); (case sa => k_is); (case exC => k_is); (case tyC => k_is); (case kC => k_is); (case a1 => k_is); (case tI => k_is); (case l1 => k_is); (case c1 => k_is); (case k1 => k_is)
      case rv => first | k_is | decide +kernel | rfl
      case na =>
        intro f hf
        simp only [List.mem_cons, List.not_mem_nil, or_false] at hf
        subst hf
        show PySem.W.findIn _ (.ref _) _ = some none
        k_is
    case h_is_whole =>
      refine' En.K78.dd_of KX G (fun _ _ _ _ _ _ us hl => match us, hl with | [_], _ => rfl) ?a ?l ?c ?k
      (case a => k_is); (case l => k_is); (case c => k_is); (case k => k_is)
    case h_need_between =>
      refine' En.K78.dd_of KX G (fun _ _ _ _ _ _ us hl => match us, hl with | [_, _, _, _], _ => rfl) ?a ?l ?c ?k
      (case a => k_is); (case l => k_is); (case c => k_is); (case k => k_is)
    case h_is_pair =>
      refine' En.K78.dd_of KX G (fun _ _ _ _ _ _ us hl => match us, hl with | [_], _ => rfl) ?a ?l ?c ?k
      (case a => k_is); (case l => k_is); (case c => k_is); (case k => k_is)
    case h_lowest =>
      refine' En.K78.dd_of KX G (fun _ _ _ _ _ _ us hl => match us, hl with | [_, _], _ => rfl) ?a ?l ?c ?k
      (case a => k_is); (case l => k_is); (case c => k_is); (case k => k_is)
    case h_summed =>
      refine' En.K78.dd_of KX G (fun _ _ _ _ _ _ us hl => match us, hl with | [_, _], _ => rfl) ?a ?l ?c ?k
      (case a => k_is); (case l => k_is); (case c => k_is); (case k => k_is)
    case h_scaled =>
      refine' En.K78.dd_of KX G (fun _ _ _ _ _ _ us hl => match us, hl with | [_, _], _ => rfl) ?a ?l ?c ?k
      (case a => k_is); (case l => k_is); (case c => k_is); (case k => k_is)
    case h_is_loose =>
      refine' En.K78.dd_of KX G (fun _ _ _ _ _ _ us hl => match us, hl with | [_], _ => rfl) ?a ?l ?c ?k
      (case a => k_is); (case l => k_is); (case c => k_is); (case k => k_is)
    case h_told_ratio =>
      refine' En.K78.dd_of KX G (fun _ _ _ _ _ _ us hl => match us, hl with | [_], _ => rfl) ?a ?l ?c ?k
      (case a => k_is); (case l => k_is); (case c => k_is); (case k => k_is)
    case h_loose_row =>
      refine' En.K78.dd_of KX G (fun _ _ _ _ _ _ us hl => match us, hl with | [_], _ => rfl) ?a ?l ?c ?k
      (case a => k_is); (case l => k_is); (case c => k_is); (case k => k_is)
    case h_row_from =>
      refine' En.K78.dd_of KX G (fun _ _ _ _ _ _ us hl => match us, hl with | [_, _, _], _ => rfl) ?a ?l ?c ?k
      (case a => k_is); (case l => k_is); (case c => k_is); (case k => k_is)
    case h_table_from =>
      refine' En.K78.dd_of KX G (fun _ _ _ _ _ _ us hl => match us, hl with | [_], _ => rfl) ?a ?l ?c ?k
      (case a => k_is); (case l => k_is); (case c => k_is); (case k => k_is)
    case h_turned_by =>
      refine' En.K78.dd_of KX G (fun _ _ _ _ _ _ us hl => match us, hl with | [_], _ => rfl) ?a ?l ?c ?k
      (case a => k_is); (case l => k_is); (case c => k_is); (case k => k_is)
    case h_turned =>
      refine' En.K78.dd_of KX G (fun _ _ _ _ _ _ us hl => match us, hl with | [_], _ => rfl) ?a ?l ?c ?k
      (case a => k_is); (case l => k_is); (case c => k_is); (case k => k_is)
    case h_dot_of =>
      refine' En.K78.dd_of KX G (fun _ _ _ _ _ _ us hl => match us, hl with | [_, _], _ => rfl) ?a ?l ?c ?k
      (case a => k_is); (case l => k_is); (case c => k_is); (case k => k_is)
    case h_product_by =>
      refine' En.K78.dd_of KX G (fun _ _ _ _ _ _ us hl => match us, hl with | [_, _], _ => rfl) ?a ?l ?c ?k
      (case a => k_is); (case l => k_is); (case c => k_is); (case k => k_is)
    case h_product =>
      refine' En.K78.dd_of KX G (fun _ _ _ _ _ _ us hl => match us, hl with | [_, _], _ => rfl) ?a ?l ?c ?k
      (case a => k_is); (case l => k_is); (case c => k_is); (case k => k_is)
    case h_power_row =>
      refine' En.K78.dd_of KX G (fun _ _ _ _ _ _ us hl => match us, hl with | [_, _, _], _ => rfl) ?a ?l ?c ?k
      (case a => k_is); (case l => k_is); (case c => k_is); (case k => k_is)
    case h_power_sums =>
      refine' En.K78.dd_of KX G (fun _ _ _ _ _ _ us hl => match us, hl with | [_, _, _], _ => rfl) ?a ?l ?c ?k
      (case a => k_is); (case l => k_is); (case c => k_is); (case k => k_is)
    case h_hankel_by =>
      refine' En.K78.dd_of KX G (fun _ _ _ _ _ _ us hl => match us, hl with | [_, _, _], _ => rfl) ?a ?l ?c ?k
      (case a => k_is); (case l => k_is); (case c => k_is); (case k => k_is)
    case h_hankel =>
      refine' En.K78.dd_of KX G (fun _ _ _ _ _ _ us hl => match us, hl with | [_, _, _], _ => rfl) ?a ?l ?c ?k
      (case a => k_is); (case l => k_is); (case c => k_is); (case k => k_is)
    case h_power_table =>
      refine' En.K78.dd_of KX G (fun _ _ _ _ _ _ us hl => match us, hl with | [_, _], _ => rfl) ?a ?l ?c ?k
      (case a => k_is); (case l => k_is); (case c => k_is); (case k => k_is)
    case h_diagonal_by =>
      refine' En.K78.dd_of KX G (fun _ _ _ _ _ _ us hl => match us, hl with | [_], _ => rfl) ?a ?l ?c ?k
      (case a => k_is); (case l => k_is); (case c => k_is); (case k => k_is)
    case h_diagonal_table =>
      refine' En.K78.dd_of KX G (fun _ _ _ _ _ _ us hl => match us, hl with | [_], _ => rfl) ?a ?l ?c ?k
      (case a => k_is); (case l => k_is); (case c => k_is); (case k => k_is)
    case h__law_pick =>
      refine' En.K78.dd_of KX G (fun _ _ _ _ _ _ us hl => match us, hl with | [_, _], _ => rfl) ?a ?l ?c ?k
      (case a => k_is); (case l => k_is); (case c => k_is); (case k => k_is)
    case h__law_gcd =>
      refine' En.K78.dd_of KX G (fun _ _ _ _ _ _ us hl => match us, hl with | [_, _], _ => rfl) ?a ?l ?c ?k
      (case a => k_is); (case l => k_is); (case c => k_is); (case k => k_is)
    case h__law_q =>
      refine' En.K78.dd_of KX G (fun _ _ _ _ _ _ us hl => match us, hl with | [_, _], _ => rfl) ?a ?l ?c ?k
      (case a => k_is); (case l => k_is); (case c => k_is); (case k => k_is)
    case h__law_plus =>
      refine' En.K78.dd_of KX G (fun _ _ _ _ _ _ us hl => match us, hl with | [_, _], _ => rfl) ?a ?l ?c ?k
      (case a => k_is); (case l => k_is); (case c => k_is); (case k => k_is)
    case h__law_times =>
      refine' En.K78.dd_of KX G (fun _ _ _ _ _ _ us hl => match us, hl with | [_, _], _ => rfl) ?a ?l ?c ?k
      (case a => k_is); (case l => k_is); (case c => k_is); (case k => k_is)
    case h__law_handed =>
      refine' En.K78.dd_of KX G (fun _ _ _ _ _ _ us hl => match us, hl with | [_, _], _ => rfl) ?a ?l ?c ?k
      (case a => k_is); (case l => k_is); (case c => k_is); (case k => k_is)
    case h__law_passed =>
      refine' En.K78.dd_of KX G (fun _ _ _ _ _ _ us hl => match us, hl with | [_, _], _ => rfl) ?a ?l ?c ?k
      (case a => k_is); (case l => k_is); (case c => k_is); (case k => k_is)
    case h__law_ratio =>
      refine' En.K78.dd_of KX G (fun _ _ _ _ _ _ us hl => match us, hl with | [_, _], _ => rfl) ?a ?l ?c ?k
      (case a => k_is); (case l => k_is); (case c => k_is); (case k => k_is)
    case h__law_sum =>
      refine' En.K78.dd_of KX G (fun _ _ _ _ _ _ us hl => match us, hl with | [_], _ => rfl) ?a ?l ?c ?k
      (case a => k_is); (case l => k_is); (case c => k_is); (case k => k_is)
    case h__law_given_row =>
      refine' En.K78.dd_of KX G (fun _ _ _ _ _ _ us hl => match us, hl with | [_, _], _ => rfl) ?a ?l ?c ?k
      (case a => k_is); (case l => k_is); (case c => k_is); (case k => k_is)
    case h__law_power_row =>
      refine' En.K78.dd_of KX G (fun _ _ _ _ _ _ us hl => match us, hl with | [_, _, _], _ => rfl) ?a ?l ?c ?k
      (case a => k_is); (case l => k_is); (case c => k_is); (case k => k_is)
    case h__law_square_of =>
      refine' En.K78.dd_of KX G (fun _ _ _ _ _ _ us hl => match us, hl with | [_, _, _], _ => rfl) ?a ?l ?c ?k
      (case a => k_is); (case l => k_is); (case c => k_is); (case k => k_is)
    case h__law_case =>
      refine' En.K78.dd_of KX G (fun _ _ _ _ _ _ us hl => match us, hl with | [_], _ => rfl) ?a ?l ?c ?k
      (case a => k_is); (case l => k_is); (case c => k_is); (case k => k_is)
    case h_in_tuples =>
      refine' En.K78.dd_of KX G (fun _ _ _ _ _ _ us hl => match us, hl with | [_], _ => rfl) ?a ?l ?c ?k
      (case a => k_is); (case l => k_is); (case c => k_is); (case k => k_is)
    case h__law_draw =>
      refine' En.K78.dd_of KX G (fun _ _ _ _ _ _ us hl => match us, hl with | [_, _], _ => rfl) ?a ?l ?c ?k
      (case a => k_is); (case l => k_is); (case c => k_is); (case k => k_is)
    case h__law_fault =>
      refine' En.K78.dd_of KX G (fun _ _ _ _ _ _ us hl => match us, hl with | [_], _ => rfl) ?a ?l ?c ?k
      (case a => k_is); (case l => k_is); (case c => k_is); (case k => k_is)
    case h__law_are_due =>
      refine' En.K78.dd_of KX G (fun _ _ _ _ _ _ us hl => match us, hl with | [_], _ => rfl) ?a ?l ?c ?k
      (case a => k_is); (case l => k_is); (case c => k_is); (case k => k_is)
    case h__law_pen =>
      refine' En.K78.dd_of KX G (fun _ _ _ _ _ _ us hl => match us, hl with | [_], _ => rfl) ?a ?l ?c ?k
      (case a => k_is); (case l => k_is); (case c => k_is); (case k => k_is)
