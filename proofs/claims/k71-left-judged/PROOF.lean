import PyProof.Rows.All
import Wide.All
import OpenK.AllK
import Wide.FinOn
import HandS.ForMost
import HandS.ForExc
import HandS.Wide
import HandS.Gcd
import HandS.Zip
import HandS.TupAny
import HandS.TupMul
import HandS.Style
import HandS.IsInst
import HandS.WideBits
import HandS.RaiseMore
import HandS.Zip0
import HandS.Conv
import PySem.Challenge.RW_everyminor_k71_zeros_to_the_left_judged
set_option Elab.async false
set_option linter.all false
set_option maxRecDepth 100000
set_option maxHeartbeats 4000000
/-! The engine, part 1: deep values, what represents them, the state relation. -/
namespace En
open PySem PySem.Spec PyProof.Rows L2
/-- a deep value -/
inductive D where
  | non | bl (b : Bool) | int (i : Int) | str (s : Str) | tup (ds : List D) | lst (ds : List D) | ins (c : Str) (fs : List (Str × D)) | pen
/-- what a plain class of the text has -/
structure ClsF (K : PySem.W.Frag) (C : Addr) : Prop where
  cl : Cls K C
  ha : PySem.W.findIn K (.ref C) "__class__" = some (some (.builtin "object.__class__"))
  hn : PySem.W.specialIn K (.builtin "object.__class__") "__get__" = some (some (.builtin "getset_descriptor.__get__"))
  htk : PySem.W.takesIn K (.builtin "object.__class__") = some true
  hm : PySem.W.mroIn K C (.type "object") = some true
/-- what an engine proof keeps fixed: the pen's dict, what is owned by others, the heap at the entry -/
structure Pm where
  pa : Addr
  ca : Addr
  O : Addr → Prop
  H0 : Hp
  n : Nat
/-- a tuple's items, tracked or of the module -/
def TupR (K : PySem.W.Frag) (B : Addr → Prop) (H : Hp) (a : Addr) (xs : List V) : Prop :=
  (H a = some (.tup xs) ∧ ¬ B a) ∨
    ∃ (o : Obj) (its : Array Value) (n : Nat), K.lookup a = some o ∧ o.cls = .type "tuple" ∧ o.data = .seq its n ∧ its.size ≤ sizeLine ∧ Vals xs its.toList
theorem TupR.sq {K : PySem.W.Frag} {B : Addr → Prop} {H : Hp} {a : Addr} {xs : List V} (h : TupR K B H a xs) : SqT K H a xs := by
  rcases h with h | h
  · exact .inl (.inl h.1)
  · exact .inr h
section
variable (K : PySem.W.Frag) (mg : Str → Option Value) (pa : Addr) (B : Addr → Prop) (H : Hp)
mutual
/-- v stands for d, for good: nothing that it reaches is in B -/
inductive FR : V → D → Prop
  | non : FR .non .non
  | bl (b : Bool) : FR (.bl b) (.bl b)
  | int (i : Int) : FR (.int i) (.int i)
  | str (s : Str) : FR (.str s) (.str s)
  | tup {a : Addr} {xs : List V} {ds : List D} : TupR K B H a xs → FRs xs ds → FR (.ref a) (.tup ds)
  | lst {a : Addr} {xs : List V} {ds : List D} : H a = some (.lst xs) → ¬ B a → FRs xs ds → FR (.ref a) (.lst ds)
  | ins {a C dx : Addr} {c : Str} {fs : List (Str × V)} {gs : List (Str × D)} : mg c = some (.ref C) → ClsF K C → (∀ f ∈ gs, NoAttr K C f.1) → H a = some (.ins C dx fs) → ¬ B a → FRf fs gs → FR (.ref a) (.ins c gs)
  | pen : FR (.ref pa) .pen
inductive FRs : List V → List D → Prop
  | nil : FRs [] []
  | cons {v : V} {vs : List V} {d : D} {ds : List D} : FR v d → FRs vs ds → FRs (v :: vs) (d :: ds)
inductive FRf : List (Str × V) → List (Str × D) → Prop
  | nil : FRf [] []
  | cons {n : Str} {v : V} {vs : List (Str × V)} {d : D} {ds : List (Str × D)} : FR v d → FRf vs ds → FRf ((n, v) :: vs) ((n, d) :: ds)
end
end
/-- what is not in B stays, and stays out of B -/
def Kp (B : Addr → Prop) (H : Hp) (B' : Addr → Prop) (H' : Hp) : Prop := ∀ a o, H a = some o → ¬ B a → H' a = some o ∧ ¬ B' a
theorem Kp.refl (B : Addr → Prop) (H : Hp) : Kp B H B H := fun _ _ h n => ⟨h, n⟩
theorem Kp.trans {B B1 B2 : Addr → Prop} {H H1 H2 : Hp} (a : Kp B H B1 H1) (b : Kp B1 H1 B2 H2) : Kp B H B2 H2 := fun x o h n =>
  let ⟨h1, n1⟩ := a x o h n
  b x o h1 n1
/-- all but the pen stays -/
def Ext (pa : Addr) (H H' : Hp) : Prop := ∀ a o, H a = some o → a ≠ pa → H' a = some o
theorem Ext.refl (pa : Addr) (H : Hp) : Ext pa H H := fun _ _ h _ => h
theorem Ext.trans {pa : Addr} {H H1 H2 : Hp} (a : Ext pa H H1) (b : Ext pa H1 H2) : Ext pa H H2 := fun x o h n => b x o (a x o h n) n
theorem Ext.same {pa : Addr} {H H' : Hp} (h : Same H H') : Ext pa H H' := fun a o e _ => h a o e
theorem Ext.kp {pa : Addr} {B : Addr → Prop} {H H' : Hp} (h : Ext pa H H') (hp : B pa) : Kp B H B H' := fun a o e n => ⟨h a o e (fun q => n (by rw [q]; exact hp)), n⟩
theorem same_new {H : Hp} {q : Addr} {o : HO} (h : H q = none) : Same H (upd H q o) := fun b u e => by
  rw [upd_ne (ne_of_none e h)]
  exact e
section
variable {K : PySem.W.Frag} {mg : Str → Option Value} {pa : Addr} {B B' : Addr → Prop} {H H' : Hp}
theorem TupR.kp {a : Addr} {xs : List V} (h : TupR K B H a xs) (k : Kp B H B' H') : TupR K B' H' a xs := by
  rcases h with ⟨h, n⟩ | h
  · exact .inl (k _ _ h n)
  · exact .inr h
mutual
theorem FR.kp (k : Kp B H B' H') : ∀ {v : V} {d : D}, FR K mg pa B H v d → FR K mg pa B' H' v d
  | _, _, .non => .non
  | _, _, .bl b => .bl b
  | _, _, .int i => .int i
  | _, _, .str s => .str s
  | _, _, .tup h r => .tup (h.kp k) (FRs.kp k r)
  | _, _, .lst h n r => .lst (k _ _ h n).1 (k _ _ h n).2 (FRs.kp k r)
  | _, _, .ins m c g h n r => .ins m c g (k _ _ h n).1 (k _ _ h n).2 (FRf.kp k r)
  | _, _, .pen => .pen
theorem FRs.kp (k : Kp B H B' H') : ∀ {vs : List V} {ds : List D}, FRs K mg pa B H vs ds → FRs K mg pa B' H' vs ds
  | _, _, .nil => .nil
  | _, _, .cons h r => .cons (FR.kp k h) (FRs.kp k r)
theorem FRf.kp (k : Kp B H B' H') : ∀ {vs : List (Str × V)} {ds : List (Str × D)}, FRf K mg pa B H vs ds → FRf K mg pa B' H' vs ds
  | _, _, .nil => .nil
  | _, _, .cons h r => .cons (FR.kp k h) (FRf.kp k r)
end
theorem FR.ext {v : V} {d : D} (h : FR K mg pa B H v d) (e : Ext pa H H') (hp : B pa) : FR K mg pa B H' v d := h.kp (e.kp hp)
theorem FRs.ext {v : List V} {d : List D} (h : FRs K mg pa B H v d) (e : Ext pa H H') (hp : B pa) : FRs K mg pa B H' v d := h.kp (e.kp hp)
theorem FRs.length : ∀ {vs : List V} {ds : List D}, FRs K mg pa B H vs ds → vs.length = ds.length
  | _, _, .nil => rfl
  | _, _, .cons _ r => by
    have := FRs.length r
    simp only [List.length_cons]
    omega
theorem FRs.get : ∀ {vs : List V} {ds : List D} {i : Nat} {d : D}, FRs K mg pa B H vs ds → ds[i]? = some d → ∃ v, vs[i]? = some v ∧ FR K mg pa B H v d
  | _, _, _, _, .nil, e => by simp at e
  | _, _, 0, _, .cons h _, e => by
    simp at e
    subst e
    exact ⟨_, rfl, h⟩
  | _, _, i + 1, d, .cons _ r, e => by
    obtain ⟨v, h1, h2⟩ := FRs.get (i := i) r (by simpa using e)
    exact ⟨v, by simpa using h1, h2⟩
theorem FRs.append : ∀ {vs ws : List V} {ds es : List D}, FRs K mg pa B H vs ds → FRs K mg pa B H ws es → FRs K mg pa B H (vs ++ ws) (ds ++ es)
  | _, _, _, _, .nil, s => s
  | _, _, _, _, .cons h r, s => .cons h (FRs.append r s)
theorem FRs.take : ∀ {vs : List V} {ds : List D} (n : Nat), FRs K mg pa B H vs ds → FRs K mg pa B H (vs.take n) (ds.take n)
  | _, _, 0, _ => .nil
  | _, _, _ + 1, .nil => .nil
  | _, _, n + 1, .cons h r => .cons h (FRs.take n r)
theorem FRs.drop : ∀ {vs : List V} {ds : List D} (n : Nat), FRs K mg pa B H vs ds → FRs K mg pa B H (vs.drop n) (ds.drop n)
  | _, _, 0, r => r
  | _, _, _ + 1, .nil => .nil
  | _, _, n + 1, .cons _ r => FRs.drop n r
theorem FRs.set {x : V} {u : D} (h : FR K mg pa B H x u) : ∀ {vs : List V} {ds : List D} (i : Nat), FRs K mg pa B H vs ds → FRs K mg pa B H (vs.set i x) (ds.set i u)
  | _, _, _, .nil => .nil
  | _, _, 0, .cons _ r => .cons h r
  | _, _, i + 1, .cons q r => .cons q (FRs.set h i r)
theorem FRs.repl {x : V} {u : D} (h : FR K mg pa B H x u) : ∀ (n : Nat), FRs K mg pa B H (List.replicate n x) (List.replicate n u)
  | 0 => .nil
  | n + 1 => .cons h (FRs.repl h n)
theorem FRs.reps {xs : List V} {us : List D} (h : FRs K mg pa B H xs us) : ∀ (n : Nat), FRs K mg pa B H (List.replicate n xs).flatten (List.replicate n us).flatten
  | 0 => .nil
  | n + 1 => by
    rw [List.replicate_succ, List.replicate_succ, List.flatten_cons, List.flatten_cons]
    exact FRs.append h (FRs.reps h n)
theorem FRs.reverse : ∀ {vs : List V} {ds : List D}, FRs K mg pa B H vs ds → FRs K mg pa B H vs.reverse ds.reverse
  | _, _, .nil => .nil
  | _, _, .cons h r => by
    rw [List.reverse_cons, List.reverse_cons]
    exact FRs.append (FRs.reverse r) (.cons h .nil)
theorem FRs.ints : ∀ {vs : List V} {ns : List Int}, FRs K mg pa B H vs (ns.map D.int) → vs = ns.map V.int
  | _, [], h => by cases h; rfl
  | _, n :: ns, h => by
    cases h with
    | cons h r =>
      cases h
      rw [FRs.ints r]
      rfl
theorem FRs.bools : ∀ {vs : List V} {ns : List Bool}, FRs K mg pa B H vs (ns.map D.bl) → vs = ns.map V.bl
  | _, [], h => by cases h; rfl
  | _, n :: ns, h => by
    cases h with
    | cons h r =>
      cases h
      rw [FRs.bools r]
      rfl
theorem FRs.strs : ∀ {vs : List V} {ns : List Str}, FRs K mg pa B H vs (ns.map D.str) → vs = ns.map V.str
  | _, [], h => by cases h; rfl
  | _, n :: ns, h => by
    cases h with
    | cons h r =>
      cases h
      rw [FRs.strs r]
      rfl
theorem FRs.of_ints : ∀ (ns : List Int), FRs K mg pa B H (ns.map V.int) (ns.map D.int)
  | [] => .nil
  | n :: ns => .cons (.int n) (FRs.of_ints ns)
theorem FRf.lookup : ∀ {vs : List (Str × V)} {ds : List (Str × D)} {n : Str} {d : D}, FRf K mg pa B H vs ds → ds.lookup n = some d → ∃ v, vs.lookup n = some v ∧ FR K mg pa B H v d
  | _, _, _, _, .nil, e => by simp at e
  | _, _, n, d, .cons (n := m) h r, e => by
    rw [List.lookup_cons] at e
    rw [List.lookup_cons]
    by_cases q : (n == m) = true
    · rw [q] at e ⊢
      simp at e
      subst e
      exact ⟨_, rfl, h⟩
    · have q' : (n == m) = false := by simpa using q
      rw [q'] at e ⊢
      exact FRf.lookup r e
end
/-- the pen's dict -/
def PenOk (pa ca : Addr) (H : Hp) (b : Nat) : Prop := ∃ (cells : List Int) (k : Nat) (dg ct fd : Int),
  H pa = some (.dK [(.inr "cells", .ref ca), (.inr "at", .int k), (.inr "digits", .int dg), (.inr "count", .int ct), (.inr "fold", .int fd)]) ∧
  H ca = some (.lst (cells.map V.int)) ∧ k ≤ cells.length ∧ cells.length ≤ 63 ∧ 0 ≤ dg ∧ 0 ≤ ct ∧ ct + b ≤ 2 ^ 40 ∧ 0 ≤ fd ∧ fd < 2 ^ 32
theorem PenOk.same {pa ca : Addr} {H H' : Hp} {b : Nat} (h : PenOk pa ca H b) (s : Same H H') : PenOk pa ca H' b := by
  obtain ⟨cells, k, dg, ct, fd, h1, h2, r⟩ := h
  exact ⟨cells, k, dg, ct, fd, s _ _ h1, s _ _ h2, r⟩
theorem PenOk.mono {pa ca : Addr} {H : Hp} {b c : Nat} (h : PenOk pa ca H b) (s : c ≤ b) : PenOk pa ca H c := by
  obtain ⟨cells, k, dg, ct, fd, h1, h2, h3, h4, h5, h6, h7, r⟩ := h
  exact ⟨cells, k, dg, ct, fd, h1, h2, h3, h4, h5, h6, by omega, r⟩
theorem PenOk.put {pa ca q : Addr} {o : HO} {H : Hp} {b : Nat} (h : PenOk pa ca H b) (h1 : q ≠ pa) (h2 : q ≠ ca) : PenOk pa ca (upd H q o) b := by
  obtain ⟨cells, k, dg, ct, fd, e1, e2, r⟩ := h
  exact ⟨cells, k, dg, ct, fd, by rw [upd_ne h1.symm]; exact e1, by rw [upd_ne h2.symm]; exact e2, r⟩
/-! ### the names' values -/
inductive Slot where
  | un | v (d : D) | own (ds : List D)
abbrev Env := List Slot
section
variable (K : PySem.W.Frag) (mg : Str → Option Value)
def SlotR (p : Pm) (B : Addr → Prop) (H : Hp) (σ : L2.St) (env : Env) (i : Nat) : Slot → Prop
  | .un => True
  | .v d => ∃ u, σ[i]? = some (some u) ∧ FR K mg p.pa B H u d
  | .own ds => ∃ q xs, σ[i]? = some (some (.ref q)) ∧ H q = some (.lst xs) ∧ FRs K mg p.pa B H xs ds ∧ B q ∧ ¬ p.O q ∧ p.H0 q = none ∧
      ∀ j ds', j ≠ i → env[j]? = some (.own ds') → σ[j]? ≠ some (some (.ref q))
structure Rel (p : Pm) (B : Addr → Prop) (H : Hp) (σ : L2.St) (env : Env) (b : Nat) : Prop where
  sub : ∀ a, p.O a → B a
  trk : ∀ a, B a → H a ≠ none
  opa : p.O p.pa
  oca : p.O p.ca
  pen : PenOk p.pa p.ca H b
  ext : Ext p.pa p.H0 H
  len : env.length = σ.length
  nl : env.length = p.n
  slots : ∀ i s, env[i]? = some s → SlotR K mg p B H σ env i s
end
section
variable {K : PySem.W.Frag} {mg : Str → Option Value} {p : Pm} {B B' : Addr → Prop} {H H' : Hp} {σ : L2.St} {env : Env} {b b' : Nat}
theorem Rel.bpa (R : Rel K mg p B H σ env b) : B p.pa := R.sub _ R.opa
theorem PenOk.ne {pa ca : Addr} {a : Addr} {xs : List V} (h : PenOk pa ca H b) (e : H a = some (.lst xs)) : a ≠ pa := by
  obtain ⟨cells, k, dg, ct, fd, h1, _⟩ := h
  intro q
  rw [q, h1] at e
  cases e
theorem Rel.step (R : Rel K mg p B H σ env b) (e : Ext p.pa H H') (q : PenOk p.pa p.ca H' b') : Rel K mg p B H' σ env b' := by
  have hp := R.bpa
  refine ⟨R.sub, fun a ha => ?_, R.opa, R.oca, q, R.ext.trans e, R.len, R.nl, fun i s h => ?_⟩
  · have h0 := R.trk a ha
    by_cases z : a = p.pa
    · obtain ⟨cells, k, dg, ct, fd, h1, _⟩ := q
      rw [z, h1]
      simp
    · cases h1 : H a with
      | none => exact absurd h1 h0
      | some o =>
        rw [e a o h1 z]
        simp
  · have hs := R.slots i s h
    cases s with
    | un => trivial
    | v d =>
      obtain ⟨u, h1, h2⟩ := hs
      exact ⟨u, h1, h2.ext e hp⟩
    | own ds =>
      obtain ⟨a, xs, h1, h2, h3, h4⟩ := hs
      exact ⟨a, xs, h1, e _ _ h2 (R.pen.ne h2), h3.ext e hp, h4⟩
theorem Rel.same (R : Rel K mg p B H σ env b) (s : Same H H') : Rel K mg p B H' σ env b := R.step (.same s) (R.pen.same s)
theorem Rel.bud (R : Rel K mg p B H σ env b) (h : b' ≤ b) : Rel K mg p B H σ env b' := R.step (Ext.refl _ _) (R.pen.mono h)
/-- B may grow by what is new -/
theorem Rel.stepM (R : Rel K mg p B H σ env b) {q : Addr} (h : H q = none) (hq : H' q ≠ none) (e : Ext p.pa H H') (po : PenOk p.pa p.ca H' b') : Rel K mg p (fun a => B a ∨ a = q) H' σ env b' := by
  have R' := R.step e po
  have kp : Kp B H (fun a => B a ∨ a = q) H' := fun a u e1 n => ⟨(e.kp R.bpa a u e1 n).1, fun z => z.elim n (ne_of_none e1 h)⟩
  refine ⟨fun a ha => .inl (R.sub a ha), fun a ha => ?_, R.opa, R.oca, po, R'.ext, R.len, R.nl, fun i s' hs => ?_⟩
  · rcases ha with ha | ha
    · exact R'.trk a ha
    · rw [ha]
      exact hq
  · have hs' := R.slots i s' hs
    cases s' with
    | un => trivial
    | v d =>
      obtain ⟨u, h1, h2⟩ := hs'
      exact ⟨u, h1, h2.kp kp⟩
    | own ds =>
      obtain ⟨a, xs, h1, h2, h3, h4, h5⟩ := hs'
      exact ⟨a, xs, h1, e _ _ h2 (R.pen.ne h2), h3.kp kp, .inl h4, h5⟩
theorem Rel.more (R : Rel K mg p B H σ env b) {q : Addr} {o : HO} (h : H q = none) : Rel K mg p (fun a => B a ∨ a = q) (upd H q o) σ env b :=
  R.stepM h (by rw [upd_same]; simp) (.same (same_new h)) (R.pen.same (same_new h))
theorem Rel.new0 (R : Rel K mg p B H σ env b) {q : Addr} (h : H q = none) : p.H0 q = none := by
  cases e : p.H0 q with
  | none => rfl
  | some o =>
    by_cases z : q = p.pa
    · exact absurd h (by rw [z]; exact R.trk _ R.bpa)
    · rw [R.ext q o e z] at h
      cases h
end
/-! ### readings made of pure ones -/
abbrev WE := Env → Nat → (D → Nat → Prop) → Prop
abbrev WL := Env → Nat → (List D → Nat → Prop) → Prop
section
variable (K : PySem.W.Frag) (mg : Str → Option Value)
def tOf (p : Pm) (W : WE) : TE := fun σ H Q => ∃ B env b Qd, Rel K mg p B H σ env b ∧ W env b Qd ∧
  ∀ v H' d b', Rel K mg p B H' σ env b' → Ext p.pa H H' → FR K mg p.pa B H' v d → Qd d b' → Q v H'
/-- it can be read now -/
def RR (pa : Addr) (B : Addr → Prop) (H : Hp) (v : V) (d : D) : Prop := FR K mg pa B H v d ∨ ∃ q xs ds, v = .ref q ∧ d = .lst ds ∧ H q = some (.lst xs) ∧ FRs K mg pa B H xs ds
def tBr (p : Pm) (W : WE) : TE := fun σ H Q => ∃ B env b Qd, Rel K mg p B H σ env b ∧ W env b Qd ∧
  ∀ v H' d b', Rel K mg p B H' σ env b' → Ext p.pa H H' → RR K mg p.pa B H' v d → Qd d b' → Q v H'
def tFr (p : Pm) (W : WL) : TE := fun σ H Q => ∃ B env b Qd, Rel K mg p B H σ env b ∧ W env b Qd ∧
  ∀ q xs H' ds b', Rel K mg p B H' σ env b' → Rel K mg p (fun a => B a ∨ a = q) H' σ env b' → Ext p.pa H H' → H' q = some (.lst xs) → FRs K mg p.pa (fun a => B a ∨ a = q) H' xs ds → ¬ B q → H q = none → Qd ds b' → Q (.ref q) H'
end
/-- an expression: a value for good -/
def QE (X : Cx) (e : Expr) (W : WE) : Prop := ∀ p, PE X e (tOf X.K X.mg p W)
/-- an expression that is read at once -/
def QB (X : Cx) (e : Expr) (W : WE) : Prop := ∀ p, PE X e (tBr X.K X.mg p W)
/-- an expression that makes a new list -/
def QF (X : Cx) (e : Expr) (W : WL) : Prop := ∀ p, PE X e (tFr X.K X.mg p W)
theorem PE.le {X : Cx} {e : Expr} {t t' : TE} (h : PE X e t) (m : ∀ σ H Q, t' σ H Q → t σ H Q) : PE X e t' := ⟨fun pins s σ H Q I hw => h.run pins s σ H Q I (m _ _ _ hw)⟩
section
variable {X : Cx} {e : Expr}
theorem QE.b {W : WE} (h : QE X e W) : QB X e W := fun p => PE.le (h p) fun σ H Q ⟨B, env, b, Qd, R, w, k⟩ =>
  ⟨B, env, b, Qd, R, w, fun v H' d b' R' x f q => k v H' d b' R' x (.inl f) q⟩
/-- a new list as a value for good -/
def wFz (W : WL) : WE := fun env b Q => W env b fun ds b' => Q (.lst ds) b'
theorem QF.qe {W : WL} (h : QF X e W) : QE X e (wFz W) := fun p => PE.le (h p) fun σ H Q ⟨B, env, b, Qd, R, w, k⟩ =>
  ⟨B, env, b, _, R, w, fun q xs H' ds b' R' _ x h1 h2 h3 h4 qd => k (.ref q) H' (.lst ds) b' R' x (.lst h1 h3 (h2.kp fun a o e n => ⟨e, fun z => n (.inl z)⟩)) qd⟩
end
end En
/-! The engine, part 2: expressions. -/
namespace En
open PySem PySem.Spec PyProof.Rows L2
/-- a choice by a bool -/
def wIf (c : Bool) (A B : Prop) : Prop := match c with | true => A | false => B
theorem wIf_t {A B : Prop} (h : A) : wIf true A B := h
theorem wIf_f {A B : Prop} (h : B) : wIf false A B := h
theorem wIf_of {c : Bool} {A B : Prop} (h1 : c = true → A) (h2 : c = false → B) : wIf c A B := by
  cases c with
  | true => exact h1 rfl
  | false => exact h2 rfl
theorem wIf_d {c A B : Prop} [Decidable c] (h1 : c → A) (h2 : ¬ c → B) : wIf (decide c) A B := by
  by_cases h : c
  · rw [decide_eq_true h]
    exact h1 h
  · rw [decide_eq_false h]
    exact h2 h
theorem wIf_ite {c : Bool} {A B : Prop} (h : wIf c A B) : if c = true then A else B := by
  cases c with
  | true => exact iteT h
  | false => exact iteF h
section
variable {K : PySem.W.Frag} {mg : Str → Option Value} {p : Pm} {B B' : Addr → Prop} {H H' : Hp} {σ : L2.St} {env : Env} {b b' : Nat} {v : V} {d : D}
theorem RR.ext (h : RR K mg p.pa B H v d) (R : Rel K mg p B H σ env b) (e : Ext p.pa H H') : RR K mg p.pa B H' v d := by
  rcases h with h | ⟨q, xs, ds, rfl, rfl, h, r⟩
  · exact .inl (h.ext e R.bpa)
  · exact .inr ⟨q, xs, ds, rfl, rfl, e _ _ h (R.pen.ne h), r.ext e R.bpa⟩
theorem RR.int {i : Int} (h : RR K mg p.pa B H v (.int i)) : v = .int i := by
  rcases h with h | ⟨q, xs, ds, rfl, h, _⟩
  · cases h; rfl
  · cases h
theorem RR.bl {i : Bool} (h : RR K mg p.pa B H v (.bl i)) : v = .bl i := by
  rcases h with h | ⟨q, xs, ds, rfl, h, _⟩
  · cases h; rfl
  · cases h
theorem RR.str {i : Str} (h : RR K mg p.pa B H v (.str i)) : v = .str i := by
  rcases h with h | ⟨q, xs, ds, rfl, h, _⟩
  · cases h; rfl
  · cases h
theorem RR.non (h : RR K mg p.pa B H v .non) : v = .non := by
  rcases h with h | ⟨q, xs, ds, rfl, h, _⟩
  · cases h; rfl
  · cases h
theorem RR.lst {ds : List D} (h : RR K mg p.pa B H v (.lst ds)) : ∃ q xs, v = .ref q ∧ H q = some (.lst xs) ∧ FRs K mg p.pa B H xs ds := by
  rcases h with h | ⟨q, xs, es, rfl, e, h, r⟩
  · cases h with
    | lst h n r => exact ⟨_, _, rfl, h, r⟩
  · cases e
    exact ⟨q, xs, rfl, h, r⟩
theorem RR.tup {ds : List D} (h : RR K mg p.pa B H v (.tup ds)) : ∃ q xs, v = .ref q ∧ SqT K H q xs ∧ TupR K B H q xs ∧ FRs K mg p.pa B H xs ds := by
  rcases h with h | ⟨q, xs, es, rfl, e, h, r⟩
  · cases h with
    | tup h r => exact ⟨_, _, rfl, h.sq, h, r⟩
  · cases e
theorem Rel.ext_kp (R : Rel K mg p B H σ env b) (e : Ext p.pa H H') : Kp B H B H' := e.kp R.bpa
/-- a new tuple, a new list stand for good -/
theorem FR.newT {xs : List V} {ds : List D} (R : Rel K mg p B H σ env b) {q : Addr} (h : H q = none) (r : FRs K mg p.pa B H xs ds) : FR K mg p.pa B (upd H q (.tup xs)) (.ref q) (.tup ds) :=
  .tup (.inl ⟨upd_same, fun z => R.trk q z h⟩) (r.ext (.same (same_new h)) R.bpa)
theorem FR.newL {xs : List V} {ds : List D} (R : Rel K mg p B H σ env b) {q : Addr} (h : H q = none) (r : FRs K mg p.pa B H xs ds) : FR K mg p.pa B (upd H q (.lst xs)) (.ref q) (.lst ds) :=
  .lst upd_same (fun z => R.trk q z h) (r.ext (.same (same_new h)) R.bpa)
end
/-! ### names, constants -/
def wVar (i : Nat) : WE := fun env b Q => match env[i]? with | some (.v d) => Q d b | _ => False
def wVarB (i : Nat) : WE := fun env b Q => match env[i]? with | some (.v d) => Q d b | some (.own ds) => Q (.lst ds) b | _ => False
def wC (d : D) : WE := fun _ b Q => Q d b
section
variable {X : Cx}
theorem qe_var (i : Nat) {x : Str} {pos : Pos} (hN : X.N[i]? = some x := by rfl) (hv : Vis X.env.scope x := by first | exact Or.inl rfl | exact Or.inr (Or.inl rfl) | exact Or.inr (Or.inr rfl)) (hd : (x == ("__debug__" : Str)) = false := by decide)
    (hcd : (x == ("__classdict__" : Str)) = false := by decide) : QE X (.Name x pos) (wVar i) := fun p => PE.le (pe_var hN hv hd hcd) fun σ H Q ⟨B, env, b, Qd, R, w, k⟩ => by
  unfold wVar at w
  split at w
  · rename_i d h
    obtain ⟨u, h1, h2⟩ := R.slots i _ h
    exact ⟨u, h1, k u H d b R (.refl _ _) h2 w⟩
  · exact w.elim
theorem qb_var (i : Nat) {x : Str} {pos : Pos} (hN : X.N[i]? = some x := by rfl) (hv : Vis X.env.scope x := by first | exact Or.inl rfl | exact Or.inr (Or.inl rfl) | exact Or.inr (Or.inr rfl)) (hd : (x == ("__debug__" : Str)) = false := by decide)
    (hcd : (x == ("__classdict__" : Str)) = false := by decide) : QB X (.Name x pos) (wVarB i) := fun p => PE.le (pe_var hN hv hd hcd) fun σ H Q ⟨B, env, b, Qd, R, w, k⟩ => by
  unfold wVarB at w
  split at w
  · rename_i d h
    obtain ⟨u, h1, h2⟩ := R.slots i _ h
    exact ⟨u, h1, k u H d b R (.refl _ _) (.inl h2) w⟩
  · rename_i ds h
    obtain ⟨q, xs, h1, h2, h3, _⟩ := R.slots i _ h
    exact ⟨.ref q, h1, k (.ref q) H (.lst ds) b R (.refl _ _) (.inr ⟨q, xs, ds, rfl, rfl, h2, h3⟩) w⟩
  · exact w.elim
theorem qe_c {e : Expr} {v : V} {d : D} (h : PE X e (tC v)) (f : ∀ (pa : Addr) (B : Addr → Prop) (H : Hp), FR X.K X.mg pa B H v d) : QE X e (wC d) := fun p => PE.le h fun σ H Q ⟨B, env, b, Qd, R, w, k⟩ =>
  k v H d b R (.refl _ _) (f _ _ _) w
theorem qe_int {i : Int} {j pos} : QE X (.Constant (.int i) j pos) (wC (.int i)) := qe_c pe_int fun _ _ _ => .int i
theorem qe_bl {i : Bool} {j pos} : QE X (.Constant (.bool i) j pos) (wC (.bl i)) := qe_c pe_bl fun _ _ _ => .bl i
theorem qe_str {i : Str} {j pos} : QE X (.Constant (.str i) j pos) (wC (.str i)) := qe_c pe_str fun _ _ _ => .str i
theorem qe_non {j pos} : QE X (.Constant .none j pos) (wC .non) := qe_c pe_non fun _ _ _ => .non
/-- a constant of the module -/
theorem qe_glob {x : Str} {v : V} {u : Value} {d : D} {pos : Pos} (hg : Gl X x) (hm : X.mg x = some u) (r : RelV v u) (f : ∀ (pa : Addr) (B : Addr → Prop) (H : Hp), FR X.K X.mg pa B H v d) (hd : (x == ("__debug__" : Str)) = false := by decide) : QE X (.Name x pos) (wC d) :=
  qe_c (pe_glob hg hm r hd) f
end
/-! ### operators -/
abbrev Op2 := D → D → (D → Prop) → Prop
def OpOk (X : Cx) (r : R2) (op : Op2) : Prop := ∀ (p : Pm) (B : Addr → Prop) (H : Hp) (σ : L2.St) (env : Env) (b : Nat) (x y : V) (dx dy : D) (Q : VK) (Qd : D → Prop), Rel X.K X.mg p B H σ env b →
  RR X.K X.mg p.pa B H x dx → RR X.K X.mg p.pa B H y dy → op dx dy Qd → (∀ v H' d, Same H H' → FR X.K X.mg p.pa B H' v d → Qd d → Q v H') → r x y H Q
def wBin (op : Op2) (Wa Wb : WE) : WE := fun env b Q => Wa env b fun x b1 => Wb env b1 fun y b2 => op x y fun d => Q d b2
section
variable {X : Cx} {a c : Expr} {Wa Wc : WE} {pos : Pos}
theorem bin_le {r : R2} {op : Op2} (ok : OpOk X r op) {p : Pm} {σ : L2.St} {H : Hp} {Q : VK} (h : tOf X.K X.mg p (wBin op Wa Wc) σ H Q) : tOp r (tBr X.K X.mg p Wa) (tBr X.K X.mg p Wc) σ H Q := by
  obtain ⟨B, env, b, Qd, R, w, k⟩ := h
  refine ⟨B, env, b, _, R, w, fun x H1 dx b1 R1 e1 fx w1 => ⟨B, env, b1, _, R1, w1, fun y H2 dy b2 R2 e2 fy w2 => ?_⟩⟩
  exact ok p B H2 σ env b2 x y dx dy Q _ R2 (fx.ext R1 e2) fy w2 fun v H' d s f q => k v H' d b2 (R2.same s) ((e1.trans e2).trans (.same s)) f q
theorem qe_bin {o : Operator} {r : R2} {op : Op2} (ho : OpR X (binaryOp o) r) (ok : OpOk X r op) (ha : QB X a Wa) (hc : QB X c Wc) : QE X (.BinOp a o c pos) (wBin op Wa Wc) := fun p =>
  PE.le (pe_op ho (ha p) (hc p)) fun σ H Q h => bin_le ok h
theorem qe_cmp {o : CmpOp} {r : R2} {op : Op2} (ho : OpR X (compareOp o) r) (ok : OpOk X r op) (ha : QB X a Wa) (hc : QB X c Wc) (hm : behindInMarks o c = false) : QE X (.Compare a [o] [c] pos) (wBin op Wa Wc) := fun p =>
  PE.le (pe_cmpR ho (ha p) (hc p) hm) fun σ H Q h => bin_le ok h
theorem OpR.or {f : Value → Value → Sem Value} {r r' : R2} (h : OpR X f r) (h' : OpR X f r') : OpR X f (fun x y H Q => r x y H Q ∨ r' x y H Q) := by
  intro pins s σ H x y v u Q I rx ry q
  rcases q with q | q
  · exact h pins s σ H x y v u Q I rx ry q
  · exact h' pins s σ H x y v u Q I rx ry q
end
/-- ints -/
def dI (C : Int → Int → Prop) (g : Int → Int → D) : Op2
  | .int i, .int j, Q => C i j ∧ Q (g i j)
  | _, _, _ => False
def dI0 (g : Int → Int → D) : Op2
  | .int i, .int j, Q => Q (g i j)
  | _, _, _ => False
def dAdd : Op2
  | .int i, .int j, Q => Q (.int (i + j))
  | .str s, .str t, Q => s.length + t.length ≤ 1000000 ∧ Q (.str (s ++ t))
  | .tup xs, .tup ys, Q => xs.length + ys.length ≤ 1000000 ∧ Q (.tup (xs ++ ys))
  | .lst xs, .lst ys, Q => xs.length + ys.length ≤ 1000000 ∧ Q (.lst (xs ++ ys))
  | _, _, _ => False
def CDivG (_ j : Int) : Prop := j ≠ 0 ∧ j.natAbs.log2 < 9000
def dMul : Op2
  | .int i, .int j, Q => CMulW i j ∧ Q (.int (i * j))
  | .lst xs, .int k, Q => (xs.length * k.toNat ≤ 1000000 ∧ -(2 ^ 63) ≤ k ∧ k < 2 ^ 63) ∧ Q (.lst (List.replicate k.toNat xs).flatten)
  | _, _, _ => False
section
variable {X : Cx}
theorem line_ge : 1000000 < sizeLine := by decide
theorem ok_I {C : Int → Int → Prop} {g : Int → Int → V} {gd : Int → Int → D} (h : ∀ (p : Pm) (B : Addr → Prop) (H : Hp) i j, FR X.K X.mg p.pa B H (g i j) (gd i j)) : OpOk X (rI C g) (dI C gd) := by
  intro p B H σ env b x y dx dy Q Qd R rx ry q k
  cases dx <;> cases dy <;> try exact q.elim
  exact ⟨_, _, rx.int, ry.int, q.1, k _ H _ (Same.refl _) (h p B H _ _) q.2⟩
theorem ok_I0 {g : Int → Int → V} {gd : Int → Int → D} (h : ∀ (p : Pm) (B : Addr → Prop) (H : Hp) i j, FR X.K X.mg p.pa B H (g i j) (gd i j)) : OpOk X (rI0 g) (dI0 gd) := by
  intro p B H σ env b x y dx dy Q Qd R rx ry q k
  cases dx <;> cases dy <;> try exact q.elim
  exact ⟨_, _, rx.int, ry.int, k _ H _ (Same.refl _) (h p B H _ _) q⟩
abbrev rAddA (K : PySem.W.Frag) : R2 := fun x y H Q => rI0 (fun i j => .int (i + j)) x y H Q ∨ (∃ i j, x = .str i ∧ y = .str j ∧ i.length + j.length ≤ sizeLine ∧ Q (.str (i ++ j)) H) ∨ rCatA K x y H Q ∨ rCat x y H Q
theorem op_addA : OpR X (binaryOp .Add) (rAddA X.K) := OpR.or op_add (OpR.or op_add_str (OpR.or op_catA op_cat))
theorem ok_add : OpOk X (rAddA X.K) dAdd := by
  intro p B H σ env b x y dx dy Q Qd R rx ry q k
  have hl := line_ge
  cases dx <;> cases dy <;> try exact q.elim
  · exact .inl ⟨_, _, rx.int, ry.int, k _ H _ (Same.refl _) (.int _) q⟩
  · exact .inr (.inl ⟨_, _, rx.str, ry.str, by have := q.1; omega, k _ H _ (Same.refl _) (.str _) q.2⟩)
  · obtain ⟨q1, xs, rfl, h1, t1, r1⟩ := rx.tup
    obtain ⟨q2, ys, rfl, h2, t2, r2⟩ := ry.tup
    have e1 := r1.length
    have e2 := r2.length
    refine .inr (.inr (.inl ⟨q1, q2, xs, ys, rfl, rfl, h1, h2, by have := q.1; omega, fun z => ?_, fun _ z => ?_, fun _ _ n hn => ?_⟩))
    · subst z
      cases r1
      exact k _ H _ (Same.refl _) (.tup t2 r2) (by simpa using q.2)
    · subst z
      cases r2
      exact k _ H _ (Same.refl _) (.tup t1 r1) (by simpa using q.2)
    · exact k _ _ _ (same_new hn) (FR.newT R hn (r1.append r2)) q.2
  · obtain ⟨q1, xs, rfl, h1, r1⟩ := rx.lst
    obtain ⟨q2, ys, rfl, h2, r2⟩ := ry.lst
    have e1 := r1.length
    have e2 := r2.length
    refine .inr (.inr (.inr ⟨q1, q2, xs, ys, rfl, rfl, h1, h2, by have := q.1; omega, fun n hn => ?_⟩))
    exact k _ _ _ (same_new hn) (FR.newL R hn (r1.append r2)) q.2
theorem op_fdivG : OpR X (binaryOp .FloorDiv) (rI CDivG fun i j => .int (i.fdiv j)) := opI fun _ _ _ _ _ _ _ hc q => floordiv_int hc.1 q (.inl (PyProof.noPylong_of_log2 hc.2))
abbrev rMulA (K : PySem.W.Frag) : R2 := fun x y H Q => rI CMulW (fun i j => .int (i * j)) x y H Q ∨ rRep x y H Q
theorem op_mulA : OpR X (binaryOp .Mult) (rMulA X.K) := OpR.or op_mulW op_rep
theorem ok_mul : OpOk X (rMulA X.K) dMul := by
  intro p B H σ env b x y dx dy Q Qd R rx ry q k
  have hl := line_ge
  cases dx <;> cases dy <;> try exact q.elim
  · exact .inl ⟨_, _, rx.int, ry.int, q.1, k _ H _ (Same.refl _) (.int _) q.2⟩
  · obtain ⟨q1, xs, rfl, h1, r1⟩ := rx.lst
    have e1 := r1.length
    obtain ⟨⟨q0, q1', q2⟩, q3⟩ := q
    refine .inr ⟨q1, _, xs, rfl, ry.int, h1, q1', q2, by rw [e1]; omega, fun n hn => ?_⟩
    exact k _ _ _ (same_new hn) (FR.newL R hn (r1.reps _)) q3
end
section
variable {X : Cx} {a c : Expr} {Wa Wc : WE} {pos : Pos}
theorem qe_add (ha : QB X a Wa) (hc : QB X c Wc) : QE X (.BinOp a .Add c pos) (wBin dAdd Wa Wc) := qe_bin op_addA ok_add ha hc
theorem qe_mul (ha : QB X a Wa) (hc : QB X c Wc) : QE X (.BinOp a .Mult c pos) (wBin dMul Wa Wc) := qe_bin op_mulA ok_mul ha hc
theorem qe_sub (ha : QB X a Wa) (hc : QB X c Wc) : QE X (.BinOp a .Sub c pos) (wBin (dI0 fun i j => .int (i - j)) Wa Wc) := qe_bin op_sub (ok_I0 fun _ _ _ _ _ => .int _) ha hc
theorem qe_div (ha : QB X a Wa) (hc : QB X c Wc) : QE X (.BinOp a .FloorDiv c pos) (wBin (dI CDivG fun i j => .int (i.fdiv j)) Wa Wc) := qe_bin op_fdivG (ok_I fun _ _ _ _ _ => .int _) ha hc
theorem qe_mod (ha : QB X a Wa) (hc : QB X c Wc) : QE X (.BinOp a .Mod c pos) (wBin (dI (fun _ j => j ≠ 0) fun i j => .int (i.fmod j)) Wa Wc) := qe_bin op_modN (ok_I fun _ _ _ _ _ => .int _) ha hc
theorem qe_lt (ha : QB X a Wa) (hc : QB X c Wc) : QE X (.Compare a [.Lt] [c] pos) (wBin (dI0 fun i j => .bl (decide (i < j))) Wa Wc) := qe_cmp op_lt (ok_I0 fun _ _ _ _ _ => .bl _) ha hc (nomark _)
theorem qe_le (ha : QB X a Wa) (hc : QB X c Wc) : QE X (.Compare a [.LtE] [c] pos) (wBin (dI0 fun i j => .bl (decide (i ≤ j))) Wa Wc) := qe_cmp op_le (ok_I0 fun _ _ _ _ _ => .bl _) ha hc (nomark _)
theorem qe_gt (ha : QB X a Wa) (hc : QB X c Wc) : QE X (.Compare a [.Gt] [c] pos) (wBin (dI0 fun i j => .bl (decide (j < i))) Wa Wc) := qe_cmp op_gt (ok_I0 fun _ _ _ _ _ => .bl _) ha hc (nomark _)
theorem qe_ge (ha : QB X a Wa) (hc : QB X c Wc) : QE X (.Compare a [.GtE] [c] pos) (wBin (dI0 fun i j => .bl (decide (j ≤ i))) Wa Wc) := qe_cmp op_ge (ok_I0 fun _ _ _ _ _ => .bl _) ha hc (nomark _)
end
/-! ### == and != of data -/
mutual
def D.py : D → PyData
  | .non => .none
  | .bl b => .bool b
  | .int i => .int i
  | .str s => .str s
  | .tup ds => .tuple (D.pys ds)
  | .lst ds => .list (D.pys ds)
  | .ins _ _ => .none
  | .pen => .none
def D.pys : List D → List PyData
  | [] => []
  | d :: r => D.py d :: D.pys r
end
mutual
/-- no object of a class in it, not deep -/
def D.flat : Nat → D → Bool
  | _, .ins _ _ => false
  | _, .pen => false
  | 0, .tup _ => false
  | 0, .lst _ => false
  | n + 1, .tup ds => D.flats n ds
  | n + 1, .lst ds => D.flats n ds
  | _, .str s => PyData.strOk s
  | _, _ => true
def D.flats : Nat → List D → Bool
  | _, [] => true
  | n, d :: r => D.flat n d && D.flats n r
end
section
variable {K : PySem.W.Frag} {mg : Str → Option Value} {pa : Addr} {B : Addr → Prop} {H : Hp}
mutual
theorem FR.dp : ∀ {v : V} {d : D} {n : Nat}, FR K mg pa B H v d → d.flat n = true → Dp K H v d.py
  | _, _, _, .non, _ => .non
  | _, _, _, .bl b, _ => .bl b
  | _, _, _, .int i, _ => .int i
  | _, _, _, .str s, _ => .str s
  | _, _, 0, .tup h r, f => by simp [D.flat] at f
  | _, _, n + 1, .tup h r, f => by
    unfold D.py
    exact .tup h.sq (FRs.dp (n := n) r (by simpa [D.flat] using f))
  | _, _, 0, .lst h _ r, f => by simp [D.flat] at f
  | _, _, n + 1, .lst h _ r, f => by
    unfold D.py
    exact .lst (.inl (.inl h)) (FRs.dp (n := n) r (by simpa [D.flat] using f))
  | _, _, n, .ins _ _ _ _ _ _, f => by cases n <;> simp [D.flat] at f
  | _, _, n, .pen, f => by cases n <;> simp [D.flat] at f
theorem FRs.dp : ∀ {vs : List V} {ds : List D} {n : Nat}, FRs K mg pa B H vs ds → D.flats n ds = true → DpAll K H vs (D.pys ds)
  | _, _, _, .nil, _ => by
    unfold D.pys
    exact .nil
  | _, _, n, .cons h r, f => by
    simp only [D.flats, Bool.and_eq_true] at f
    unfold D.pys
    exact .cons (FR.dp h f.1) (FRs.dp r f.2)
end
theorem RR.dp {v : V} {d : D} {n : Nat} (h : RR K mg pa B H v d) (f : d.flat n = true) : Dp K H v d.py := by
  rcases h with h | ⟨q, xs, ds, rfl, rfl, h, r⟩
  · exact h.dp f
  · cases n with
    | zero => simp [D.flat] at f
    | succ n =>
      unfold D.py
      exact .lst (.inl (.inl h)) (FRs.dp (n := n) r (by simpa [D.flat] using f))
end
mutual
theorem flat_lay : ∀ (d : D) (n : Nat), d.flat n = true → d.py.canLay0 = true
  | .non, _, _ => rfl
  | .bl _, _, _ => rfl
  | .int _, _, _ => rfl
  | .str s, n, f => by
    have f' : PyData.strOk s = true := by cases n <;> simpa [D.flat] using f
    simpa [D.py, PyData.canLay0] using f'
  | .tup ds, 0, f => by simp [D.flat] at f
  | .lst ds, 0, f => by simp [D.flat] at f
  | .tup ds, n + 1, f => by
    simp only [D.py, PyData.canLay0]
    exact flats_lay ds n (by simpa [D.flat] using f)
  | .lst ds, n + 1, f => by
    simp only [D.py, PyData.canLay0]
    exact flats_lay ds n (by simpa [D.flat] using f)
  | .ins _ _, n, f => by cases n <;> simp [D.flat] at f
  | .pen, n, f => by cases n <;> simp [D.flat] at f
theorem flats_lay : ∀ (ds : List D) (n : Nat), D.flats n ds = true → PyData.canLayAll0 (D.pys ds) = true
  | [], _, _ => rfl
  | d :: r, n, f => by
    simp only [D.flats, Bool.and_eq_true] at f
    simp only [D.pys, PyData.canLayAll0, Bool.and_eq_true]
    exact ⟨flat_lay d n f.1, flats_lay r n f.2⟩
end
mutual
theorem flat_depth : ∀ (d : D) (n : Nat), d.flat n = true → d.py.depth ≤ n
  | .non, _, _ => by simp [D.py, PyData.depth]
  | .bl _, _, _ => by simp [D.py, PyData.depth]
  | .int _, _, _ => by simp [D.py, PyData.depth]
  | .str s, n, f => by simp [D.py, PyData.depth]
  | .tup ds, 0, f => by simp [D.flat] at f
  | .lst ds, 0, f => by simp [D.flat] at f
  | .tup ds, n + 1, f => by
    simp only [D.py, PyData.depth]
    have := flats_depth ds n (by simpa [D.flat] using f)
    omega
  | .lst ds, n + 1, f => by
    simp only [D.py, PyData.depth]
    have := flats_depth ds n (by simpa [D.flat] using f)
    omega
  | .ins _ _, n, f => by cases n <;> simp [D.flat] at f
  | .pen, n, f => by cases n <;> simp [D.flat] at f
theorem flats_depth : ∀ (ds : List D) (n : Nat), D.flats n ds = true → PyData.depthAll (D.pys ds) ≤ n
  | [], _, _ => by simp [D.pys, PyData.depthAll]
  | d :: r, n, f => by
    simp only [D.flats, Bool.and_eq_true] at f
    simp only [D.pys, PyData.depthAll]
    have h1 := flat_depth d n f.1
    have h2 := flats_depth r n f.2
    omega
end
theorem flat_shaped {d : D} {n : Nat} (hn : n ≤ 64) (f : d.flat n = true) : SeqAt.shaped d.py = true := by
  unfold SeqAt.shaped
  rw [flat_lay d n f, Bool.true_and]
  exact decide_eq_true (Nat.le_trans (flat_depth d n f) hn)
def dEq : Op2 := fun x y Q => (x.flat 9 = true ∧ y.flat 9 = true) ∧ Q (.bl (PyData.eqv x.py y.py))
def dNe : Op2 := fun x y Q => (x.flat 9 = true ∧ y.flat 9 = true) ∧ Q (.bl (!PyData.eqv x.py y.py))
section
variable {X : Cx} {a c : Expr} {Wa Wc : WE} {pos : Pos}
theorem ok_eq : OpOk X (rEqD X.K) dEq := by
  intro p B H σ env b x y dx dy Q Qd R rx ry q k
  obtain ⟨⟨f1, f2⟩, q⟩ := q
  exact ⟨_, _, rx.dp f1, ry.dp f2, flat_shaped (by decide) f1, flat_shaped (by decide) f2, k _ H _ (Same.refl _) (.bl _) q⟩
theorem ok_ne : OpOk X (rNeD X.K) dNe := by
  intro p B H σ env b x y dx dy Q Qd R rx ry q k
  obtain ⟨⟨f1, f2⟩, q⟩ := q
  exact ⟨_, _, rx.dp f1, ry.dp f2, flat_shaped (by decide) f1, flat_shaped (by decide) f2, k _ H _ (Same.refl _) (.bl _) q⟩
theorem qe_eq (hu : X.A.units + 64 < cLine) (ha : QB X a Wa) (hc : QB X c Wc) : QE X (.Compare a [.Eq] [c] pos) (wBin dEq Wa Wc) := qe_cmp (op_eqD hu) ok_eq ha hc (nomark _)
theorem qe_ne (hu : X.A.units + 64 < cLine) (ha : QB X a Wa) (hc : QB X c Wc) : QE X (.Compare a [.NotEq] [c] pos) (wBin dNe Wa Wc) := qe_cmp (op_neD hu) ok_ne ha hc (nomark _)
end
/-! ### is None, is True -/
def D.isNon : D → Bool | .non => true | _ => false
theorem RR.isNon {K : PySem.W.Frag} {mg : Str → Option Value} {pa : Addr} {B : Addr → Prop} {H : Hp} {v : V} {d : D} (h : RR K mg pa B H v d) : decide (v = .non) = d.isNon := by
  rcases h with h | ⟨q, xs, ds, rfl, rfl, _, _⟩
  · cases h <;> rfl
  · rfl
def dIs : Op2 := fun x y Q => match y with
  | .non => Q (.bl x.isNon)
  | .bl c => (match x with | .bl b => Q (.bl (b == c)) | _ => False)
  | _ => False
def dIsN : Op2 := fun x y Q => match y with
  | .non => Q (.bl (!x.isNon))
  | .bl c => (match x with | .bl b => Q (.bl (!(b == c))) | _ => False)
  | _ => False
section
variable {X : Cx} {a c : Expr} {Wa Wc : WE} {pos : Pos}
theorem dec_beq (a b : Bool) : decide (a = b) = (a == b) := by cases a <;> cases b <;> rfl
abbrev rIsA : R2 := fun x y H Q => (y = .non ∧ Q (.bl (decide (x = .non))) H) ∨ rIsB x y H Q
abbrev rIsNA : R2 := fun x y H Q => (y = .non ∧ Q (.bl (!decide (x = .non))) H) ∨ rNotB x y H Q
theorem ok_is : OpOk X rIsA dIs := by
  intro p B H σ env b x y dx dy Q Qd R rx ry q k
  unfold dIs at q
  cases dy <;> try exact q.elim
  · exact .inl ⟨ry.non, by rw [rx.isNon]; exact k _ H _ (Same.refl _) (.bl _) q⟩
  · cases dx <;> try exact q.elim
    exact .inr ⟨_, _, rx.bl, ry.bl, by rw [dec_beq]; exact k _ H _ (Same.refl _) (.bl _) q⟩
theorem ok_isN : OpOk X rIsNA dIsN := by
  intro p B H σ env b x y dx dy Q Qd R rx ry q k
  unfold dIsN at q
  cases dy <;> try exact q.elim
  · exact .inl ⟨ry.non, by rw [rx.isNon]; exact k _ H _ (Same.refl _) (.bl _) q⟩
  · cases dx <;> try exact q.elim
    exact .inr ⟨_, _, rx.bl, ry.bl, by rw [dec_beq]; exact k _ H _ (Same.refl _) (.bl _) q⟩
theorem qe_is (ha : QB X a Wa) (hc : QB X c Wc) : QE X (.Compare a [.Is] [c] pos) (wBin dIs Wa Wc) := qe_cmp (OpR.or op_isN op_isBl) ok_is ha hc (nomark _)
theorem qe_isN (ha : QB X a Wa) (hc : QB X c Wc) : QE X (.Compare a [.IsNot] [c] pos) (wBin dIsN Wa Wc) := qe_cmp (OpR.or op_notN op_notBl) ok_isN ha hc (nomark _)
/-- a op b op c of ints -/
def wChain (op op' : Op2) (Wa Wb Wc : WE) : WE := fun env b Q => Wa env b fun x b1 => Wb env b1 fun y b2 => op x y fun z => match z with
  | .bl k => wIf k (Wc env b2 fun w b3 => op' y w fun d => Q d b3) (Q (.bl false) b2)
  | _ => False
theorem qe_chain {e : Expr} {We : WE} {o o' : CmpOp} {r r' : R2} {op op' : Op2} (ho : OpR X (compareOp o) r) (ho' : OpR X (compareOp o') r') (ok : OpOk X r op) (ok' : OpOk X r' op') (ha : QB X a Wa) (hc : QB X c Wc) (he : QB X e We)
    (hm : lastMarks [o, o'] [c, e] = false := by with_unfolding_all rfl) : QE X (.Compare a [o, o'] [c, e] pos) (wChain op op' Wa Wc We) := fun p =>
  PE.le (pe_chain ho ho' (ha p) (hc p) (he p) hm) fun σ H Q h => by
    obtain ⟨B, env, b, Qd, R, w, k⟩ := h
    refine ⟨B, env, b, _, R, w, fun x H1 dx b1 R1 e1 fx w1 => ⟨B, env, b1, _, R1, w1, fun y H2 dy b2 R2 e2 fy w2 => ?_⟩⟩
    refine ok p B H2 σ env b2 x y dx dy _ _ R2 (fx.ext R1 e2) fy w2 fun v H' d s f q => ?_
    cases d <;> try exact q.elim
    rename_i kk
    cases f
    refine ⟨kk, rfl, ?_⟩
    cases kk with
    | false => exact iteF (k _ _ _ _ (R2.same s) ((e1.trans e2).trans (.same s)) (.bl _) q)
    | true =>
      refine iteT ⟨B, env, b2, _, R2.same s, q, fun z H4 dz b4 R4 e4 fz w4 => ?_⟩
      exact ok' p B H4 σ env b4 y z dy dz Q _ R4 ((fy.ext R2 (.same s)).ext (R2.same s) e4) fz w4 fun v H5 d5 s5 f5 q5 => k v H5 d5 b4 (R4.same s5) ((((e1.trans e2).trans (.same s)).trans e4).trans (.same s5)) f5 q5
theorem ok_lt : OpOk X (rI0 fun i j => .bl (decide (i < j))) (dI0 fun i j => .bl (decide (i < j))) := ok_I0 fun _ _ _ _ _ => .bl _
theorem ok_le : OpOk X (rI0 fun i j => .bl (decide (i ≤ j))) (dI0 fun i j => .bl (decide (i ≤ j))) := ok_I0 fun _ _ _ _ _ => .bl _
/-! ### unary -/
def wUn (op : D → (D → Prop) → Prop) (Wa : WE) : WE := fun env b Q => Wa env b fun x b1 => op x fun d => Q d b1
def dNeg : D → (D → Prop) → Prop
  | .int i, Q => Q (.int (-i))
  | _, _ => False
theorem qe_neg (ha : QB X a Wa) : QE X (.UnaryOp .USub a pos) (wUn dNeg Wa) := fun p => PE.le (pe_un un_neg (ha p)) fun σ H Q h => by
  obtain ⟨B, env, b, Qd, R, w, k⟩ := h
  refine ⟨B, env, b, _, R, w, fun x H1 dx b1 R1 e1 fx w1 => ?_⟩
  cases dx <;> try exact w1.elim
  exact ⟨_, fx.int, k _ _ _ _ R1 e1 (.int _) w1⟩
end
/-! ### tests -/
abbrev WT := Env → Nat → (Bool → Nat → Prop) → Prop
def tT (K : PySem.W.Frag) (mg : Str → Option Value) (p : Pm) (W : WT) : TT := fun σ H Q => ∃ B env b Qd, Rel K mg p B H σ env b ∧ W env b Qd ∧
  ∀ c H' b', Rel K mg p B H' σ env b' → Ext p.pa H H' → Qd c b' → Q c H'
def QT (X : Cx) (e : Expr) (W : WT) : Prop := ∀ p, PT X e (tT X.K X.mg p W)
def QW (X : Cx) (e : Expr) (W : WT) : Prop := ∀ p, PW X e (tT X.K X.mg p W)
theorem PT.le {X : Cx} {e : Expr} {t t' : TT} (h : PT X e t) (m : ∀ σ H Q, t' σ H Q → t σ H Q) : PT X e t' := ⟨fun pins s σ H Q I hw => h.run pins s σ H Q I (m _ _ _ hw)⟩
theorem PW.le {X : Cx} {e : Expr} {t t' : TT} (h : PW X e t) (m : ∀ σ H Q, t' σ H Q → t σ H Q) : PW X e t' := ⟨fun wh pins s σ H Q I hw => h.run wh pins s σ H Q I (m _ _ _ hw)⟩
def wT (W : WE) : WT := fun env b Q => W env b fun d b' => match d with | .bl c => Q c b' | _ => False
def wAnd (W1 W2 : WT) : WT := fun env b Q => W1 env b fun c b1 => wIf c (W2 env b1 Q) (Q false b1)
def wOr (W1 W2 : WT) : WT := fun env b Q => W1 env b fun c b1 => wIf c (Q true b1) (W2 env b1 Q)
def wNot (W : WT) : WT := fun env b Q => W env b fun c b1 => Q (!c) b1
section
variable {X : Cx} {a c : Expr} {Wa Wc : WE} {pos : Pos} {T1 T2 : WT} {rest : List Expr}
theorem tB_le {p : Pm} {σ : L2.St} {H : Hp} {Q : Bool → Hp → Prop} (h : tT X.K X.mg p (wT Wa) σ H Q) : tB (tOf X.K X.mg p Wa) σ H Q := by
  obtain ⟨B, env, b, Qd, R, w, k⟩ := h
  refine ⟨B, env, b, _, R, w, fun v H' d b' R' e' f q => ?_⟩
  cases d <;> try exact q.elim
  cases f
  exact ⟨_, rfl, k _ _ _ R' e' q⟩
/-- an expression with a bool, not a comparison, not and, or, not -/
theorem qt_val (h : QE X a Wa) (he : ∀ whole, isTrue a X.env whole = (do let v ← whole; standAt a.pos; holding [v] (truthy v)) := by intro _; rfl) : QT X a (wT Wa) := fun p => PT.le (pt_val (h p) he) fun σ H Q q => tB_le q
theorem qt_cmp {o : CmpOp} {r : R2} {op : Op2} (ho : OpR X (compareOp o) r) (ok : OpOk X r op) (ha : QB X a Wa) (hc : QB X c Wc) (hm : behindInMarks o c = false) : QT X (.Compare a [o] [c] pos) (wT (wBin op Wa Wc)) := fun p =>
  PT.le (pt_cmpR ho (ha p) (hc p) hm) fun σ H Q h => by
    obtain ⟨B, env, b, Qd, R, w, k⟩ := h
    refine ⟨B, env, b, _, R, w, fun x H1 dx b1 R1 e1 fx w1 => ⟨B, env, b1, _, R1, w1, fun y H2 dy b2 R2 e2 fy w2 => ?_⟩⟩
    refine ok p B H2 σ env b2 x y dx dy _ _ R2 (fx.ext R1 e2) fy w2 fun v H' d s f q => ?_
    cases d <;> try exact q.elim
    cases f
    exact ⟨_, rfl, k _ _ _ (R2.same s) ((e1.trans e2).trans (.same s)) q⟩
theorem qt_lt (ha : QB X a Wa) (hc : QB X c Wc) : QT X (.Compare a [.Lt] [c] pos) (wT (wBin (dI0 fun i j => .bl (decide (i < j))) Wa Wc)) := qt_cmp op_lt (ok_I0 fun _ _ _ _ _ => .bl _) ha hc (nomark _)
theorem qt_le (ha : QB X a Wa) (hc : QB X c Wc) : QT X (.Compare a [.LtE] [c] pos) (wT (wBin (dI0 fun i j => .bl (decide (i ≤ j))) Wa Wc)) := qt_cmp op_le (ok_I0 fun _ _ _ _ _ => .bl _) ha hc (nomark _)
theorem qt_gt (ha : QB X a Wa) (hc : QB X c Wc) : QT X (.Compare a [.Gt] [c] pos) (wT (wBin (dI0 fun i j => .bl (decide (j < i))) Wa Wc)) := qt_cmp op_gt (ok_I0 fun _ _ _ _ _ => .bl _) ha hc (nomark _)
theorem qt_ge (ha : QB X a Wa) (hc : QB X c Wc) : QT X (.Compare a [.GtE] [c] pos) (wT (wBin (dI0 fun i j => .bl (decide (j ≤ i))) Wa Wc)) := qt_cmp op_ge (ok_I0 fun _ _ _ _ _ => .bl _) ha hc (nomark _)
theorem qt_eq (hu : X.A.units + 64 < cLine) (ha : QB X a Wa) (hc : QB X c Wc) : QT X (.Compare a [.Eq] [c] pos) (wT (wBin dEq Wa Wc)) := qt_cmp (op_eqD hu) ok_eq ha hc (nomark _)
theorem qt_ne (hu : X.A.units + 64 < cLine) (ha : QB X a Wa) (hc : QB X c Wc) : QT X (.Compare a [.NotEq] [c] pos) (wT (wBin dNe Wa Wc)) := qt_cmp (op_neD hu) ok_ne ha hc (nomark _)
theorem qt_is (ha : QB X a Wa) (hc : QB X c Wc) : QT X (.Compare a [.Is] [c] pos) (wT (wBin dIs Wa Wc)) := qt_cmp (OpR.or op_isN op_isBl) ok_is ha hc (nomark _)
theorem qt_isN (ha : QB X a Wa) (hc : QB X c Wc) : QT X (.Compare a [.IsNot] [c] pos) (wT (wBin dIsN Wa Wc)) := qt_cmp (OpR.or op_notN op_notBl) ok_isN ha hc (nomark _)
theorem qt_chain {e : Expr} {We : WE} {o o' : CmpOp} {r r' : R2} {op op' : Op2} (ho : OpR X (compareOp o) r) (ho' : OpR X (compareOp o') r') (ok : OpOk X r op) (ok' : OpOk X r' op') (ha : QB X a Wa) (hc : QB X c Wc) (he : QB X e We)
    (hm : lastMarks [o, o'] [c, e] = false := by with_unfolding_all rfl) : QT X (.Compare a [o, o'] [c, e] pos) (wT (wChain op op' Wa Wc We)) := fun p =>
  PT.le (pt_chain ho ho' (ha p) (hc p) (he p) hm) fun σ H Q h => by
    obtain ⟨B, env, b, Qd, R, w, k⟩ := h
    refine ⟨B, env, b, _, R, w, fun x H1 dx b1 R1 e1 fx w1 => ⟨B, env, b1, _, R1, w1, fun y H2 dy b2 R2 e2 fy w2 => ?_⟩⟩
    refine ok p B H2 σ env b2 x y dx dy _ _ R2 (fx.ext R1 e2) fy w2 fun v H' d s f q => ?_
    cases d <;> try exact q.elim
    rename_i kk
    cases f
    refine ⟨kk, rfl, ?_⟩
    cases kk with
    | false => exact iteF ⟨_, rfl, k _ _ _ (R2.same s) ((e1.trans e2).trans (.same s)) q⟩
    | true =>
      refine iteT ⟨B, env, b2, _, R2.same s, q, fun z H4 dz b4 R4 e4 fz w4 => ?_⟩
      refine ok' p B H4 σ env b4 y z dy dz _ _ R4 ((fy.ext R2 (.same s)).ext (R2.same s) e4) fz w4 fun v H5 d5 s5 f5 q5 => ?_
      cases d5 <;> try exact q5.elim
      cases f5
      exact ⟨_, rfl, k _ _ _ (R4.same s5) ((((e1.trans e2).trans (.same s)).trans e4).trans (.same s5)) q5⟩
theorem qt_of (h : QW X a T1) : QT X a T1 := fun p => (h p).pt
theorem qw_and1 (h : QT X a T1) : QW X (.BoolOp .And [a] pos) T1 := fun p => pw_and1 (h p)
theorem qw_or1 (h : QT X a T1) : QW X (.BoolOp .Or [a] pos) T1 := fun p => pw_or1 (h p)
theorem qw_and (h : QT X a T1) (h2 : QW X (.BoolOp .And (c :: rest) pos) T2) : QW X (.BoolOp .And (a :: c :: rest) pos) (wAnd T1 T2) := fun p => PW.le (pw_and (h p) (h2 p)) fun σ H Q ⟨B, env, b, Qd, R, w, k⟩ => by
  refine ⟨B, env, b, _, R, w, fun cc H1 b1 R1 e1 w1 => wIf_ite ?_⟩
  cases cc with
  | true => exact ⟨B, env, b1, _, R1, w1, fun c' H2 b2 R2 e2 q => k c' H2 b2 R2 (e1.trans e2) q⟩
  | false => exact k _ _ _ R1 e1 w1
theorem qw_or (h : QT X a T1) (h2 : QW X (.BoolOp .Or (c :: rest) pos) T2) : QW X (.BoolOp .Or (a :: c :: rest) pos) (wOr T1 T2) := fun p => PW.le (pw_or (h p) (h2 p)) fun σ H Q ⟨B, env, b, Qd, R, w, k⟩ => by
  refine ⟨B, env, b, _, R, w, fun cc H1 b1 R1 e1 w1 => wIf_ite ?_⟩
  cases cc with
  | true => exact k _ _ _ R1 e1 w1
  | false => exact ⟨B, env, b1, _, R1, w1, fun c' H2 b2 R2 e2 q => k c' H2 b2 R2 (e1.trans e2) q⟩
theorem qt_not (h : QT X a T1) : QT X (.UnaryOp .Not a pos) (wNot T1) := fun p => PT.le (pt_not (h p)) fun σ H Q ⟨B, env, b, Qd, R, w, k⟩ =>
  ⟨B, env, b, _, R, w, fun c' H2 b2 R2 e2 q => k _ H2 b2 R2 e2 q⟩
/-! as values -/
def wAndV (W1 W2 : WE) : WE := fun env b Q => W1 env b fun d b1 => match d with | .bl c => wIf c (W2 env b1 Q) (Q (.bl false) b1) | _ => False
def wOrV (W1 W2 : WE) : WE := fun env b Q => W1 env b fun d b1 => match d with | .bl c => wIf c (Q (.bl true) b1) (W2 env b1 Q) | _ => False
def wNotV (W1 : WE) : WE := fun env b Q => W1 env b fun d b1 => match d with | .bl c => Q (.bl (!c)) b1 | _ => False
theorem qe_one {o} (h : QE X a Wa) : QE X (.BoolOp o [a] pos) Wa := fun p => pe_one (h p)
theorem qe_and (h : QE X a Wa) (h2 : QE X (.BoolOp .And (c :: rest) pos) Wc) : QE X (.BoolOp .And (a :: c :: rest) pos) (wAndV Wa Wc) := fun p => PE.le (pe_and (h p) (h2 p)) fun σ H Q ⟨B, env, b, Qd, R, w, k⟩ => by
  refine ⟨B, env, b, _, R, w, fun v H1 d b1 R1 e1 f w1 => ?_⟩
  cases d <;> try exact w1.elim
  rename_i cc
  cases f
  refine ⟨cc, rfl, wIf_ite ?_⟩
  cases cc with
  | true => exact ⟨B, env, b1, _, R1, w1, fun v' H2 d2 b2 R2 e2 f2 q => k v' H2 d2 b2 R2 (e1.trans e2) f2 q⟩
  | false => exact k _ _ _ _ R1 e1 (.bl _) w1
theorem qe_or (h : QE X a Wa) (h2 : QE X (.BoolOp .Or (c :: rest) pos) Wc) : QE X (.BoolOp .Or (a :: c :: rest) pos) (wOrV Wa Wc) := fun p => PE.le (pe_or (h p) (h2 p)) fun σ H Q ⟨B, env, b, Qd, R, w, k⟩ => by
  refine ⟨B, env, b, _, R, w, fun v H1 d b1 R1 e1 f w1 => ?_⟩
  cases d <;> try exact w1.elim
  rename_i cc
  cases f
  refine ⟨cc, rfl, wIf_ite ?_⟩
  cases cc with
  | true => exact k _ _ _ _ R1 e1 (.bl _) w1
  | false => exact ⟨B, env, b1, _, R1, w1, fun v' H2 d2 b2 R2 e2 f2 q => k v' H2 d2 b2 R2 (e1.trans e2) f2 q⟩
theorem qe_not (h : QE X a Wa) : QE X (.UnaryOp .Not a pos) (wNotV Wa) := fun p => PE.le (pe_not (h p)) fun σ H Q ⟨B, env, b, Qd, R, w, k⟩ => by
  refine ⟨B, env, b, _, R, w, fun v H1 d b1 R1 e1 f w1 => ?_⟩
  cases d <;> try exact w1.elim
  cases f
  exact ⟨_, rfl, k _ _ _ _ R1 e1 (.bl _) w1⟩
def wIte (T : WT) (Wa Wc : WE) : WE := fun env b Q => T env b fun c b1 => wIf c (Wa env b1 Q) (Wc env b1 Q)
theorem qe_ite {t : Expr} (ht : QT X t T1) (ha : QE X a Wa) (hc : QE X c Wc) : QE X (.IfExp t a c pos) (wIte T1 Wa Wc) := fun p => PE.le (pe_ifExp (ht p) (ha p) (hc p)) fun σ H Q ⟨B, env, b, Qd, R, w, k⟩ => by
  refine ⟨B, env, b, _, R, w, fun cc H1 b1 R1 e1 w1 => wIf_ite ?_⟩
  cases cc with
  | true => exact ⟨B, env, b1, _, R1, w1, fun v' H2 d2 b2 R2 e2 f2 q => k v' H2 d2 b2 R2 (e1.trans e2) f2 q⟩
  | false => exact ⟨B, env, b1, _, R1, w1, fun v' H2 d2 b2 R2 e2 f2 q => k v' H2 d2 b2 R2 (e1.trans e2) f2 q⟩
end
end En
/-! The engine, part 3: argument lists, calls, places. -/
namespace En
open PySem PySem.Spec PyProof.Rows L2
/-! ### argument lists, displays -/
def tA (K : PySem.W.Frag) (mg : Str → Option Value) (p : Pm) (n : Nat) (W : WL) : TA := fun σ H Q => ∃ B env b Qd, Rel K mg p B H σ env b ∧ W env b Qd ∧
  ∀ vs H' ds b', Rel K mg p B H' σ env b' → Ext p.pa H H' → FRs K mg p.pa B H' vs ds → ds.length = n → Qd ds b' → Q vs H'
def QA (X : Cx) (es : List Expr) (W : WL) : Prop := ∀ p, PA X es (tA X.K X.mg p es.length W)
theorem PA.le {X : Cx} {e : List Expr} {t t' : TA} (h : PA X e t) (m : ∀ σ H Q, t' σ H Q → t σ H Q) : PA X e t' := ⟨fun pos pins s σ H Q I hw => h.run pos pins s σ H Q I (m _ _ _ hw)⟩
def wNil : WL := fun _ b Q => Q [] b
def wCons (W : WE) (Ws : WL) : WL := fun env b Q => W env b fun d b1 => Ws env b1 fun ds b2 => Q (d :: ds) b2
def wTup (W : WL) : WE := fun env b Q => W env b fun ds b1 => Q (.tup ds) b1
section
variable {X : Cx} {e : Expr} {es : List Expr} {We : WE} {Ws : WL} {pos : Pos}
theorem qa_nil : QA X [] wNil := fun p => PA.le pa_nil fun σ H Q ⟨B, env, b, Qd, R, w, k⟩ => k [] H [] b R (.refl _ _) .nil rfl w
theorem qa_cons (h : QE X e We) (hr : QA X es Ws) (hs : starEach (e :: es) X.env = (false, eval e X.env) :: starEach es X.env := by rfl) : QA X (e :: es) (wCons We Ws) := fun p => PA.le (pa_cons (h p) (hr p) hs) fun σ H Q ⟨B, env, b, Qd, R, w, k⟩ =>
  ⟨B, env, b, _, R, w, fun v H1 d b1 R1 e1 f1 w1 => ⟨B, env, b1, _, R1, w1, fun vs H2 ds b2 R2 e2 f2 hl q => k (v :: vs) H2 (d :: ds) b2 R2 (e1.trans e2) (.cons (f1.ext e2 R.bpa) f2) (by simp [hl]) q⟩⟩
theorem qe_tup {x1} (h : QA X es Ws) (hl : es.length ≤ 1000 := by decide) : QE X (.Tuple es x1 pos) (wTup Ws) := fun p => PE.le (pe_tup (h p)) fun σ H Q ⟨B, env, b, Qd, R, w, k⟩ =>
  ⟨B, env, b, _, R, w, fun vs H1 ds b1 R1 e1 f1 hn q => ⟨by have := f1.length; have := line_ge; omega, fun n hx => k (.ref n) _ (.tup ds) b1 (R1.same (same_new hx)) (e1.trans (.same (same_new hx))) (FR.newT R1 hx f1) q⟩⟩
theorem qf_lst (h : QA X es Ws) (hl : es.length ≤ 1000 := by decide) : QF X (.List es pos) Ws := fun p => PE.le (pe_lst (h p)) fun σ H Q ⟨B, env, b, Qd, R, w, k⟩ =>
  ⟨B, env, b, _, R, w, fun vs H1 ds b1 R1 e1 f1 hn q => ⟨by have := f1.length; have := line_ge; omega, fun n hx => by
    refine k n vs _ ds b1 (R1.same (same_new hx)) (R1.more hx) (e1.trans (.same (same_new hx))) upd_same (f1.kp fun a o e n' => ⟨same_new hx a o e, fun z => z.elim n' (ne_of_none e hx)⟩) (fun z => R1.trk n z hx) ?_ q
    cases hh : H n with
    | none => rfl
    | some o =>
      by_cases z : n = p.pa
      · exact absurd hx (by rw [z]; exact R1.trk _ R1.bpa)
      · rw [e1 n o hh z] at hx
        cases hx⟩⟩
end
/-! ### a def's promise -/
abbrev Spec := List D → Nat → (D → Nat → Prop) → Prop
def spOf (K : PySem.W.Frag) (mg : Str → Option Value) (n : Nat) (pt : Spec) : Sp := fun vs H Q _ => vs.length = n ∧ ∃ pa ca B ds b Qd, (∀ a, B a → H a ≠ none) ∧ B pa ∧ B ca ∧ PenOk pa ca H b ∧ FRs K mg pa B H vs ds ∧ pt ds b Qd ∧
  ∀ v H' d b', Ext pa H H' → PenOk pa ca H' b' → FR K mg pa B H' v d → Qd d b' → Q v H'
/-- the def at f keeps the promise pt -/
structure Df (P : Program) (w : World) (K : PySem.W.Frag) (mg : Str → Option Value) (base : Heap) (k : Nat) (x : Str) (n : Nat) (pt : Spec) : Prop where
  ex : ∃ (f : Addr) (fd : FuncData) (ps : List Str), mg x = some (.ref f) ∧ PySem.W.keepIn K (.ref f) = true ∧ Binds K fd ps [] ∧ ps.length = n ∧ FnOk P w K mg base CX0 k f fd ps (spOf K mg n pt)
theorem Df.mono {P : Program} {w : World} {K : PySem.W.Frag} {mg : Str → Option Value} {base : Heap} {j k : Nat} {x : Str} {n : Nat} {pt : Spec} (h : Df P w K mg base j x n pt) (hk : j ≤ k) : Df P w K mg base k x n pt := by
  obtain ⟨f, fd, ps, h1, h2, h3, h4, h5⟩ := h.ex
  exact ⟨f, fd, ps, h1, h2, h3, h4, h5.mono hk⟩
def wCall (n : Nat) (pt : Spec) (W : WL) : WE := fun env b Q => W env b fun ds b1 => ds.length = n ∧ pt ds b1 Q
section
variable {X : Cx} {x : Str} {n k : Nat} {pt : Spec} {e : Expr} {es : List Expr} {Ws : WL} {pos pp : Pos}
theorem qe_call (F : Df X.prog X.w X.K X.mg X.base k x n pt) (hr : Room k X.A) (hg : Gl X x) (ha : QA X (e :: es) Ws) (hdb : (x == ("__debug__" : Str)) = false := by decide)
    (he : starEach (e :: es) X.env = (false, eval e X.env) :: starEach es X.env := by rfl) (hpl : (backTo pos (starEach es X.env)).any (·.1) = false := by rfl) : QE X (.Call (.Name x pp) (e :: es) [] pos) (wCall n pt Ws) := fun p => by
  obtain ⟨f, fd, ps, hm, hk, hb, hn, G⟩ := F.ex
  refine PE.le (pe_call (E := E0) G hr hg hm hk hb .nil pass0 (ha p) hdb he hpl) fun σ H Q ⟨B, env, b, Qd, R, w, kk⟩ => ?_
  refine ⟨B, env, b, _, R, w, fun vs H1 ds b1 R1 e1 f1 hl q => ⟨?_, p.pa, p.ca, B, ds, b1, Qd, R1.trk, R1.bpa, R1.sub _ R1.oca, R1.pen, ?_, q.2, fun v H' d b' e2 po f2 qd => kk v H' d b' (R1.step e2 po) (e1.trans e2) f2 qd⟩⟩
  · rw [List.append_nil, f1.length]
    exact q.1
  · rw [List.append_nil]
    exact f1
end
/-! ### built-ins of one argument -/
def C1Ok (X : Cx) (r : List V → Hp → VK → Prop) (f : D → (D → Prop) → Prop) : Prop := ∀ (p : Pm) (B : Addr → Prop) (H : Hp) (σ : L2.St) (env : Env) (b : Nat) (x : V) (dx : D) (Q : VK) (Qd : D → Prop), Rel X.K X.mg p B H σ env b →
  RR X.K X.mg p.pa B H x dx → f dx Qd → (∀ v H' d, Same H H' → FR X.K X.mg p.pa B H' v d → Qd d → Q v H') → r [x] H Q
section
variable {X : Cx} {x : Str} {e : Expr} {W : WE} {pos pp : Pos} {bid T : String} {r : List V → Hp → VK → Prop} {f : D → (D → Prop) → Prop}
theorem c1_le (ok : C1Ok X r f) {p : Pm} {σ : L2.St} {H : Hp} {Q : VK} (h : tOf X.K X.mg p (wUn f W) σ H Q) : tCB r (tCons (tBr X.K X.mg p W) tNil) σ H Q := by
  obtain ⟨B, env, b, Qd, R, w, k⟩ := h
  refine ⟨B, env, b, _, R, w, fun v H1 d b1 R1 e1 f1 w1 => ?_⟩
  exact ok p B H1 σ env b1 v d Q _ R1 f1 w1 fun v' H' d' s f2 q => k v' H' d' b1 (R1.same s) (e1.trans (.same s)) f2 q
theorem qe_b1 (hc : CallR X (.builtin bid) r) (ok : C1Ok X r f) (hg : Gl X x) (hm : X.mg x = none) (hv : bootBuiltins x = some (.builtin bid)) (h : QB X e W) (hn : x ≠ "__name__" := by decide) (hdb : (x == ("__debug__" : Str)) = false := by decide)
    (he : starEach [e] X.env = (false, eval e X.env) :: starEach [] X.env := by rfl) (hpl : (backTo pos (starEach [] X.env)).any (·.1) = false := by rfl) : QE X (.Call (.Name x pp) [e] [] pos) (wUn f W) := fun p =>
  PE.le (pe_callB hc hg hm hv (pa_cons (h p) pa_nil he) hn hdb he hpl) fun σ H Q h => c1_le ok h
theorem qe_t1 (hc : CallR X (.type T) r) (ok : C1Ok X r f) (hg : Gl X x) (hm : X.mg x = none) (hv : bootBuiltins x = some (.type T)) (h : QB X e W) (hn : x ≠ "__name__" := by decide) (hdb : (x == ("__debug__" : Str)) = false := by decide)
    (he : starEach [e] X.env = (false, eval e X.env) :: starEach [] X.env := by rfl) (hpl : (backTo pos (starEach [] X.env)).any (·.1) = false := by rfl) : QE X (.Call (.Name x pp) [e] [] pos) (wUn f W) := fun p =>
  PE.le (pe_callTy hc hg hm hv (pa_cons (h p) pa_nil he) hn hdb he hpl) fun σ H Q h => c1_le ok h
def dLen : D → (D → Prop) → Prop
  | .tup ds, Q => Q (.int ds.length)
  | .lst ds, Q => Q (.int ds.length)
  | .str s, Q => s.length ≤ 1000000 ∧ Q (.int s.length)
  | _, _ => False
theorem c1_len : C1Ok X (fun xs H Q => (∃ p ys, xs = [.ref p] ∧ (SqL X.K H p ys ∨ SqT X.K H p ys) ∧ Q (.int ys.length) H) ∨ (∃ z, xs = [.str z] ∧ z.length ≤ sizeLine ∧ Q (.int z.length) H)) dLen := by
  intro p B H σ env b x dx Q Qd R rx q k
  have hl := line_ge
  cases dx <;> try exact q.elim
  · exact .inr ⟨_, by rw [rx.str], by have := q.1; omega, k _ H _ (Same.refl _) (.int _) q.2⟩
  · obtain ⟨a, xs, rfl, h1, _, r1⟩ := rx.tup
    exact .inl ⟨a, xs, rfl, .inr h1, by rw [r1.length]; exact k _ H _ (Same.refl _) (.int _) q⟩
  · obtain ⟨a, xs, rfl, h1, r1⟩ := rx.lst
    exact .inl ⟨a, xs, rfl, .inl (.of h1), by rw [r1.length]; exact k _ H _ (Same.refl _) (.int _) q⟩
theorem qe_len (hg : Gl X "len") (hm : X.mg "len" = none) (h : QB X e W) (he : starEach [e] X.env = (false, eval e X.env) :: starEach [] X.env := by rfl) (hpl : (backTo pos (starEach [] X.env)).any (·.1) = false := by rfl) :
    QE X (.Call (.Name "len" pp) [e] [] pos) (wUn dLen W) := qe_b1 (CallR.or call_len_seq call_len_str) c1_len hg hm PySem.boot_len h (by decide) (by decide) he hpl
def dTuple : D → (D → Prop) → Prop
  | .tup ds, Q => Q (.tup ds)
  | .lst ds, Q => Q (.tup ds)
  | _, _ => False
theorem c1_tuple : C1Ok X (fun xs H Q => ∃ p ys, xs = [.ref p] ∧ ((SqL X.K H p ys ∧ ∀ l, H l = none → Q (.ref l) (upd H l (.tup ys))) ∨ (SqT X.K H p ys ∧ Q (.ref p) H))) dTuple := by
  intro p B H σ env b x dx Q Qd R rx q k
  cases dx <;> try exact q.elim
  · obtain ⟨a, xs, rfl, h1, t1, r1⟩ := rx.tup
    exact ⟨a, xs, rfl, .inr ⟨h1, k _ H _ (Same.refl _) (.tup t1 r1) q⟩⟩
  · obtain ⟨a, xs, rfl, h1, r1⟩ := rx.lst
    exact ⟨a, xs, rfl, .inl ⟨.of h1, fun l hl => k _ _ _ (same_new hl) (FR.newT R hl r1) q⟩⟩
theorem qe_tuple (hg : Gl X "tuple") (hm : X.mg "tuple" = none) (h : QB X e W) (he : starEach [e] X.env = (false, eval e X.env) :: starEach [] X.env := by rfl) (hpl : (backTo pos (starEach [] X.env)).any (·.1) = false := by rfl) :
    QE X (.Call (.Name "tuple" pp) [e] [] pos) (wUn dTuple W) := qe_t1 call_tuple_of c1_tuple hg hm (by decide +kernel) h (by decide) (by decide) he hpl
/-- all, any of bools -/
def D.bools : List D → Option (List Bool)
  | [] => some []
  | .bl b :: r => (D.bools r).map (b :: ·)
  | _ :: _ => none
theorem bools_eq : ∀ {ds : List D} {bs : List Bool}, D.bools ds = some bs → ds = bs.map D.bl
  | [], bs, h => by
    simp [D.bools] at h
    subst h
    rfl
  | .bl b :: r, bs, h => by
    simp only [D.bools, Option.map_eq_some_iff] at h
    obtain ⟨cs, h1, rfl⟩ := h
    rw [bools_eq h1]
    rfl
  | .non :: _, _, h => by simp [D.bools] at h
  | .int _ :: _, _, h => by simp [D.bools] at h
  | .str _ :: _, _, h => by simp [D.bools] at h
  | .tup _ :: _, _, h => by simp [D.bools] at h
  | .lst _ :: _, _, h => by simp [D.bools] at h
  | .ins _ _ :: _, _, h => by simp [D.bools] at h
  | .pen :: _, _, h => by simp [D.bools] at h
theorem bools_map : ∀ (bs : List Bool), D.bools (bs.map D.bl) = some bs
  | [] => rfl
  | b :: r => by simp [D.bools, bools_map r]
def dAll : D → (D → Prop) → Prop
  | .lst ds, Q => ∃ bs : List Bool, ds = bs.map D.bl ∧ Q (.bl (bs.all id))
  | _, _ => False
def dAny : D → (D → Prop) → Prop
  | .lst ds, Q => ∃ bs : List Bool, ds = bs.map D.bl ∧ Q (.bl (bs.any id))
  | _, _ => False
theorem c1_all : C1Ok X (rAll X.K) dAll := by
  intro p B H σ env b x dx Q Qd R rx q k
  cases dx <;> try exact q.elim
  obtain ⟨bs, rfl, q⟩ := q
  obtain ⟨a, xs, rfl, h1, r1⟩ := rx.lst
  exact ⟨a, bs, rfl, .of (by rw [h1, r1.bools]), k _ H _ (Same.refl _) (.bl _) q⟩
theorem c1_any : C1Ok X (rAny X.K) dAny := by
  intro p B H σ env b x dx Q Qd R rx q k
  cases dx <;> try exact q.elim
  obtain ⟨bs, rfl, q⟩ := q
  obtain ⟨a, xs, rfl, h1, r1⟩ := rx.lst
  exact ⟨a, bs, rfl, .of (by rw [h1, r1.bools]), k _ H _ (Same.refl _) (.bl _) q⟩
theorem qe_all (hc : X.calm = true) (hg : Gl X "all") (hm : X.mg "all" = none) (h : QB X e W) (he : starEach [e] X.env = (false, eval e X.env) :: starEach [] X.env := by rfl) (hpl : (backTo pos (starEach [] X.env)).any (·.1) = false := by rfl) :
    QE X (.Call (.Name "all" pp) [e] [] pos) (wUn dAll W) := qe_b1 (cr_all hc) c1_all hg hm (by decide +kernel) h (by decide) (by decide) he hpl
theorem qe_any (hc : X.calm = true) (hg : Gl X "any") (hm : X.mg "any" = none) (h : QB X e W) (he : starEach [e] X.env = (false, eval e X.env) :: starEach [] X.env := by rfl) (hpl : (backTo pos (starEach [] X.env)).any (·.1) = false := by rfl) :
    QE X (.Call (.Name "any" pp) [e] [] pos) (wUn dAny W) := qe_b1 (cr_any hc) c1_any hg hm (by decide +kernel) h (by decide) (by decide) he hpl
def dAbs : D → (D → Prop) → Prop
  | .int i, Q => Q (.int (if i < 0 then -i else i))
  | _, _ => False
theorem c1_abs : C1Ok X (fun xs H Q => ∃ i, xs = [.int i] ∧ Q (.int (if i < 0 then -i else i)) H) dAbs := by
  intro p B H σ env b x dx Q Qd R rx q k
  cases dx <;> try exact q.elim
  exact ⟨_, by rw [rx.int], k _ H _ (Same.refl _) (.int _) q⟩
theorem qe_abs (hg : Gl X "abs") (hm : X.mg "abs" = none) (h : QB X e W) (he : starEach [e] X.env = (false, eval e X.env) :: starEach [] X.env := by rfl) (hpl : (backTo pos (starEach [] X.env)).any (·.1) = false := by rfl) :
    QE X (.Call (.Name "abs" pp) [e] [] pos) (wUn dAbs W) := qe_b1 call_abs c1_abs hg hm (by decide +kernel) h (by decide) (by decide) he hpl
def dInt : D → (D → Prop) → Prop
  | .int i, Q => Q (.int i)
  | .bl k, Q => Q (.int (if k then 1 else 0))
  | _, _ => False
theorem c1_int : C1Ok X (fun xs H Q => (∃ i, xs = [.int i] ∧ Q (.int i) H) ∨ ∃ k, xs = [.bl k] ∧ Q (.int (if k then 1 else 0)) H) dInt := by
  intro p B H σ env b x dx Q Qd R rx q k
  cases dx <;> try exact q.elim
  · exact .inr ⟨_, by rw [rx.bl], k _ H _ (Same.refl _) (.int _) q⟩
  · exact .inl ⟨_, by rw [rx.int], k _ H _ (Same.refl _) (.int _) q⟩
theorem qe_intc (hg : Gl X "int") (hm : X.mg "int" = none) (h : QB X e W) (he : starEach [e] X.env = (false, eval e X.env) :: starEach [] X.env := by rfl) (hpl : (backTo pos (starEach [] X.env)).any (·.1) = false := by rfl) :
    QE X (.Call (.Name "int" pp) [e] [] pos) (wUn dInt W) := qe_t1 call_int1 c1_int hg hm (by decide +kernel) h (by decide) (by decide) he hpl
/-- list(x): a new list -/
def wListOf (W : WE) : WL := fun env b Q => W env b fun d b1 => match d with | .tup ds => Q ds b1 | .lst ds => Q ds b1 | _ => False
theorem fresh_back {p : Pm} {K : PySem.W.Frag} {mg : Str → Option Value} {B : Addr → Prop} {H H1 : Hp} {σ : L2.St} {env : Env} {b : Nat} (R1 : Rel K mg p B H1 σ env b) (e1 : Ext p.pa H H1) {n : Addr} (hx : H1 n = none) : H n = none := by
  cases hh : H n with
  | none => rfl
  | some o =>
    by_cases z : n = p.pa
    · exact absurd hx (by rw [z]; exact R1.trk _ R1.bpa)
    · rw [e1 n o hh z] at hx
      cases hx
theorem fresh_more {K : PySem.W.Frag} {mg : Str → Option Value} {pa : Addr} {B : Addr → Prop} {H1 : Hp} {n : Addr} {o : HO} {vs : List V} {ds : List D} (hx : H1 n = none) (f1 : FRs K mg pa B H1 vs ds) : FRs K mg pa (fun a => B a ∨ a = n) (upd H1 n o) vs ds :=
  f1.kp fun a o e n' => ⟨same_new hx a o e, fun z => z.elim n' (ne_of_none e hx)⟩
theorem qf_list (hg : Gl X "list") (hm : X.mg "list" = none) (h : QB X e W) (he : starEach [e] X.env = (false, eval e X.env) :: starEach [] X.env := by rfl) (hpl : (backTo pos (starEach [] X.env)).any (·.1) = false := by rfl) :
    QF X (.Call (.Name "list" pp) [e] [] pos) (wListOf W) := fun p =>
  PE.le (pe_callTy call_list_of hg hm (by decide +kernel) (pa_cons (h p) pa_nil he) (by decide) (by decide) he hpl) fun σ H Q ⟨B, env, b, Qd, R, w, k⟩ => by
    refine ⟨B, env, b, _, R, w, fun v H1 d b1 R1 e1 f1 w1 => ?_⟩
    cases d <;> try exact w1.elim
    · obtain ⟨a, xs, rfl, h1, t1, r1⟩ := f1.tup
      exact ⟨a, xs, rfl, .inr h1, fun l hl => k l xs _ _ b1 (R1.same (same_new hl)) (R1.more hl) (e1.trans (.same (same_new hl))) upd_same (fresh_more hl r1) (fun z => R1.trk l z hl) (fresh_back R1 e1 hl) w1⟩
    · obtain ⟨a, xs, rfl, h1, r1⟩ := f1.lst
      exact ⟨a, xs, rfl, .inl (.of h1), fun l hl => k l xs _ _ b1 (R1.same (same_new hl)) (R1.more hl) (e1.trans (.same (same_new hl))) upd_same (fresh_more hl r1) (fun z => R1.trk l z hl) (fresh_back R1 e1 hl) w1⟩
end
/-! ### gcd and other calls of two plain arguments -/
def wC2 (op : Op2) (W : WL) : WE := fun env b Q => W env b fun ds b1 => match ds with | [x, y] => op x y fun d => Q d b1 | _ => False
def dGcd : Op2
  | .int i, .int j, Q => Q (.int ((Nat.gcd i.natAbs j.natAbs : Nat) : Int))
  | _, _, _ => False
section
variable {X : Cx} {x : Str} {e e' : Expr} {es : List Expr} {W : WL} {pos pp : Pos}
theorem qe_gcd (hg : Gl X "gcd") (hm : X.mg "gcd" = some (.builtin "math.gcd")) (h : QA X (e :: es) W) (he : starEach (e :: es) X.env = (false, eval e X.env) :: starEach es X.env := by rfl) (hpl : (backTo pos (starEach es X.env)).any (·.1) = false := by rfl) :
    QE X (.Call (.Name "gcd" pp) (e :: es) [] pos) (wC2 dGcd W) := fun p =>
  PE.le (pe_callBfun cr_gcd hg hm (h p) (by decide) he hpl) fun σ H Q ⟨B, env, b, Qd, R, w, k⟩ => by
    refine ⟨B, env, b, _, R, w, fun vs H1 ds b1 R1 e1 f1 hl q => ?_⟩
    split at q
    · rename_i x y
      cases x <;> cases y <;> try exact q.elim
      cases f1 with
      | cons a1 a2 =>
        cases a1
        cases a2 with
        | cons a3 a4 =>
          cases a3
          cases a4
          exact ⟨_, _, rfl, k _ H1 _ b1 R1 e1 (.int _) q⟩
    · exact q.elim
end
end En
/-! The engine, part 4: isinstance, attributes, places, slices. -/
namespace En
open PySem PySem.Spec PyProof.Rows L2
/-! ### isinstance -/
inductive Ty where | non | bl | int | str | tup | lst
def Ty.name : Ty → String | .non => "NoneType" | .bl => "bool" | .int => "int" | .str => "str" | .tup => "tuple" | .lst => "list"
def D.ty : D → Option Ty
  | .non => some .non | .bl _ => some .bl | .int _ => some .int | .str _ => some .str | .tup _ => some .tup | .lst _ => some .lst | _ => none
section
variable {X : Cx} {p : Pm} {B : Addr → Prop} {H : Hp} {σ : L2.St} {env : Env} {b : Nat} {v : V} {d : D}
theorem RR.ty {K : PySem.W.Frag} {mg : Str → Option Value} {pa : Addr} {t : Ty} (h : RR K mg pa B H v d) (ht : d.ty = some t) : TyX K H v (.type t.name) := by
  cases d <;> simp [D.ty] at ht <;> subst ht
  · rcases h with h | ⟨_, _, _, _, h, _⟩ <;> cases h; exact .base .non
  · rcases h with h | ⟨_, _, _, _, h, _⟩ <;> cases h; exact .base (.bl _)
  · rcases h with h | ⟨_, _, _, _, h, _⟩ <;> cases h; exact .base (.int _)
  · rcases h with h | ⟨_, _, _, _, h, _⟩ <;> cases h; exact .base (.str _)
  · obtain ⟨q, xs, rfl, h1, t1, r1⟩ : ∃ q xs, v = .ref q ∧ SqT K H q xs ∧ TupR K B H q xs ∧ FRs K mg pa B H xs _ := by
      rcases h with h | ⟨_, _, _, _, h, _⟩
      · cases h with
        | tup h r => exact ⟨_, _, rfl, h.sq, h, r⟩
      · cases h
    rcases t1 with ⟨t1, _⟩ | ⟨o, its, n, hk, hc, _⟩
    · exact .base (.tup t1)
    · exact .kTuple hk hc
  · obtain ⟨q, xs, rfl, h1⟩ : ∃ q xs, v = .ref q ∧ H q = some (.lst xs) := by
      rcases h with h | ⟨q, xs, ds, rfl, _, h, _⟩
      · cases h with
        | lst h n r => exact ⟨_, _, rfl, h⟩
      · exact ⟨q, xs, rfl, h⟩
    exact .base (.lst h1)
theorem FR.tyI {K : PySem.W.Frag} {mg : Str → Option Value} {pa : Addr} {c : Str} {gs : List (Str × D)} (h : FR K mg pa B H v (.ins c gs)) : ∃ C, mg c = some (.ref C) ∧ TyX K H v (.ref C) := by
  cases h with
  | ins m cf _ h n r => exact ⟨_, m, .base (.ins h cf.cl cf.ha cf.hn cf.htk cf.hm)⟩
end
/-- isinstance with a built-in class: by the kind -/
def wIsT (f : Ty → Bool) (W : WE) : WE := fun env b Q => W env b fun d b1 => match d.ty with | some t => Q (.bl (f t)) b1 | none => False
/-- isinstance with an own class: cls the classes that may be there -/
def wIsC (cls : List Str) (c : Str) (W : WE) : WE := fun env b Q => W env b fun d b1 => match d with
  | .ins c' _ => c' ∈ cls ∧ Q (.bl (c' == c)) b1
  | .pen => False
  | _ => Q (.bl false) b1
structure IsC (K : PySem.W.Frag) (mg : Str → Option Value) (cls : List Str) (c : Str) : Prop where
  ex : ∃ C, mg c = some (.ref C) ∧ (∀ t : Ty, PySem.W.kitOne K (.type t.name) (.ref C) = some false) ∧ ∀ c' ∈ cls, ∀ C', mg c' = some (.ref C') → PySem.W.kitOne K (.ref C') (.ref C) = some (c' == c)
section
variable {X : Cx} {e : Expr} {W : WE} {pos pp p1 p2 tp : Pos} {T T1 T2 : Str} {t0 : String} {t1 : String}
theorem qe_isT {f : Ty → Bool} (hg : Gl X "isinstance") (hm : X.mg "isinstance" = none) (hgT : Gl X T) (hmT : X.mg T = none) (hv : bootBuiltins T = some (.type t0)) (hk : ∀ t : Ty, kitB t.name t0 = some (f t)) (h : QB X e W) (hn : T ≠ "__name__" := by decide) (hd : (T == ("__debug__" : Str)) = false := by decide)
    (he : starEach [e, .Name T p1] X.env = (false, eval e X.env) :: starEach [.Name T p1] X.env := by rfl) (hpl : (backTo pos (starEach [.Name T p1] X.env)).any (·.1) = false := by rfl) : QE X (.Call (.Name "isinstance" pp) [e, .Name T p1] [] pos) (wIsT f W) := fun p =>
  PE.le (pe_callB call_isi hg hm (by decide +kernel) (pa_cons (h p) (pa_cons (pe_bltn (v := .ty t0) hgT hmT hv rfl hn hd) pa_nil) he) (by decide) (by decide) he hpl) fun σ H Q ⟨B, env, b, Qd, R, w, k⟩ => by
    refine ⟨B, env, b, _, R, w, fun v H1 d b1 R1 e1 f1 q => ?_⟩
    split at q
    · rename_i t ht
      exact ⟨v, .ty t0, _, _, f t, rfl, .ty t0, f1.ty ht, kit_ty (hk t), k _ H1 _ b1 R1 e1 (.bl _) q⟩
    · exact q.elim
theorem qe_isT2 {f : Ty → Bool} {tpos : Pos} {k2} (hg : Gl X "isinstance") (hm : X.mg "isinstance" = none) (hg1 : Gl X T1) (hm1 : X.mg T1 = none) (hv1 : bootBuiltins T1 = some (.type t0)) (hg2 : Gl X T2) (hm2 : X.mg T2 = none) (hv2 : bootBuiltins T2 = some (.type t1))
    (hk : ∀ t : Ty, ∃ c1 c2, kitB t.name t0 = some c1 ∧ kitB t.name t1 = some c2 ∧ f t = (c1 || c2)) (h : QB X e W) (hn1 : T1 ≠ "__name__" := by decide) (hd1 : (T1 == ("__debug__" : Str)) = false := by decide) (hn2 : T2 ≠ "__name__" := by decide) (hd2 : (T2 == ("__debug__" : Str)) = false := by decide)
    (he : starEach [e, .Tuple [.Name T1 p1, .Name T2 p2] k2 tpos] X.env = (false, eval e X.env) :: starEach [.Tuple [.Name T1 p1, .Name T2 p2] k2 tpos] X.env := by rfl) (hpl : (backTo pos (starEach [.Tuple [.Name T1 p1, .Name T2 p2] k2 tpos] X.env)).any (·.1) = false := by rfl) :
    QE X (.Call (.Name "isinstance" pp) [e, .Tuple [.Name T1 p1, .Name T2 p2] k2 tpos] [] pos) (wIsT f W) := fun p =>
  PE.le (pe_callB call_isiT hg hm (by decide +kernel) (pa_cons (h p) (pa_cons (pe_tup (pa_cons (pe_bltn (v := .ty t0) hg1 hm1 hv1 rfl hn1 hd1) (pa_cons (pe_bltn (v := .ty t1) hg2 hm2 hv2 rfl hn2 hd2) pa_nil))) pa_nil) he) (by decide) (by decide) he hpl) fun σ H Q ⟨B, env, b, Qd, R, w, k⟩ => by
    refine ⟨B, env, b, _, R, w, fun v H1 d b1 R1 e1 f1 q => ?_⟩
    split at q
    · rename_i t ht
      obtain ⟨c1, c2, h1, h2, hf⟩ := hk t
      refine ⟨by show 2 ≤ sizeLine; decide, fun n hn => ?_⟩
      have s := same_new (o := .tup [.ty t0, .ty t1]) hn
      have f2 := f1.ext R1 (.same s)
      refine ⟨v, n, [.ty t0, .ty t1], _, [.type t0, .type t1], f t, rfl, upd_same, .cons (.ty _) (.cons (.ty _) .nil), f2.ty ht, ?_, k _ _ _ b1 (R1.same s) (e1.trans (.same s)) (.bl _) q⟩
      refine kitAny_cons (kit_ty h1) (fun z => kitAny_cons (kit_ty h2) (fun z2 => ?_) fun z2 => ?_) fun z => ?_
      · rw [hf, z, z2]
        exact kitAny_nil
      · rw [hf, z2]
        simp
      · rw [hf, z]
        rfl
    · exact q.elim
theorem qe_isC {cls : List Str} {c : Str} (hg : Gl X "isinstance") (hm : X.mg "isinstance" = none) (hgT : Gl X c) (I : IsC X.K X.mg cls c) (h : QB X e W) (hd : (c == ("__debug__" : Str)) = false := by decide)
    (he : starEach [e, .Name c p1] X.env = (false, eval e X.env) :: starEach [.Name c p1] X.env := by rfl) (hpl : (backTo pos (starEach [.Name c p1] X.env)).any (·.1) = false := by rfl) : QE X (.Call (.Name "isinstance" pp) [e, .Name c p1] [] pos) (wIsC cls c W) := fun p => by
  obtain ⟨C, hmC, hT, hC⟩ := I.ex
  refine PE.le (pe_callB call_isi hg hm (by decide +kernel) (pa_cons (h p) (pa_cons (pe_glob (v := .ref C) hgT hmC rfl hd) pa_nil) he) (by decide) (by decide) he hpl) fun σ H Q ⟨B, env, b, Qd, R, w, k⟩ => ?_
  refine ⟨B, env, b, _, R, w, fun v H1 d b1 R1 e1 f1 q => ?_⟩
  have go : ∀ t : Ty, d.ty = some t → Qd (.bl false) b1 → rIsi X.K [v, .ref C] H1 Q := fun t ht q => ⟨v, .ref C, _, _, false, rfl, .own C, f1.ty ht, hT t, k _ H1 _ b1 R1 e1 (.bl _) q⟩
  cases d with
  | ins c' gs =>
    have f2 : FR X.K X.mg p.pa B H1 v (.ins c' gs) := by
      rcases f1 with h | ⟨_, _, _, _, h, _⟩
      · exact h
      · cases h
    obtain ⟨C', h1, h2⟩ := f2.tyI
    exact ⟨v, .ref C, _, _, _, rfl, .own C, h2, hC c' q.1 C' h1, k _ H1 _ b1 R1 e1 (.bl _) q.2⟩
  | pen => exact q.elim
  | non => exact go .non rfl q
  | bl _ => exact go .bl rfl q
  | int _ => exact go .int rfl q
  | str _ => exact go .str rfl q
  | tup _ => exact go .tup rfl q
  | lst _ => exact go .lst rfl q
/-! ### attributes -/
def wFld (f : Str) (W : WE) : WE := fun env b Q => W env b fun d b1 => match d with
  | .ins _ gs => (match gs.lookup f with | some d => Q d b1 | none => False)
  | _ => False
theorem mem_of_lk {α : Type} : ∀ {l : List (Str × α)} {n : Str} {d : α}, l.lookup n = some d → (n, d) ∈ l
  | [], _, _, h => by simp at h
  | (m, x) :: r, n, d, h => by
    rw [List.lookup_cons] at h
    by_cases q : (n == m) = true
    · rw [q] at h
      simp at h
      have : n = m := by simpa using q
      subst this
      subst h
      exact List.mem_cons_self
    · have q' : (n == m) = false := by simpa using q
      rw [q'] at h
      exact List.mem_cons_of_mem _ (mem_of_lk h)
theorem qe_fld {f : Str} (h : QE X e W) (hb : attributeBase e f X.env (eval e X.env) = eval e X.env := by rfl) : QE X (.Attribute e f pos) (wFld f W) := fun p => PE.le (pe_fld (h p) hb) fun σ H Q ⟨B, env, b, Qd, R, w, k⟩ => by
  refine ⟨B, env, b, _, R, w, fun v H1 d b1 R1 e1 f1 q => ?_⟩
  cases f1 <;> try exact q.elim
  rename_i m cf na h n r
  dsimp only at q
  split at q
  · rename_i d hl
    obtain ⟨v, h1, h2⟩ := r.lookup hl
    exact ⟨_, _, _, _, v, rfl, h, cf.cl, na _ (mem_of_lk hl), h1, k v H1 d b1 R1 e1 h2 q⟩
  · exact q.elim
end
/-! ### places -/
def dIx : Op2
  | .tup ds, .int i, Q => (match atI ds i with | some d => Q d | none => False)
  | .lst ds, .int i, Q => (match atI ds i with | some d => Q d | none => False)
  | .str s, .int i, Q => s.length ≤ 1000000 ∧ (match atI s.cps.toList i with | some c => Q (.str ⟨#[c]⟩) | none => False)
  | _, _, _ => False
theorem FRs.atI {K : PySem.W.Frag} {mg : Str → Option Value} {pa : Addr} {B : Addr → Prop} {H : Hp} {vs : List V} {ds : List D} {i : Int} {d : D} (r : FRs K mg pa B H vs ds) (h : L2.atI ds i = some d) : ∃ v, L2.atI vs i = some v ∧ FR K mg pa B H v d := by
  unfold L2.atI at h ⊢
  rw [r.length]
  cases e : ixN ds.length i with
  | none => rw [e] at h; simp at h
  | some j =>
    rw [e] at h
    exact r.get (i := j) h
section
variable {X : Cx} {a c : Expr} {Wa Wc : WE} {pos : Pos}
theorem ok_ix : OpOk X (rIx X.K) dIx := by
  intro p B H σ env b x y dx dy Q Qd R rx ry q k
  have hl := line_ge
  cases dx <;> cases dy <;> try exact q.elim
  · obtain ⟨q0, q⟩ := q
    split at q
    · rename_i cc hc
      exact .inr (.inr ⟨_, _, cc, rx.str, ry.int, by omega, hc, k _ H _ (Same.refl _) (.str _) q⟩)
    · exact q.elim
  · unfold dIx at q
    obtain ⟨n, xs, rfl, h1, _, r1⟩ := rx.tup
    dsimp only at q
    split at q
    · rename_i d hd
      obtain ⟨v, h2, h3⟩ := r1.atI hd
      exact .inr (.inl ⟨n, xs, _, v, rfl, ry.int, h1, h2, k _ H _ (Same.refl _) h3 q⟩)
    · exact q.elim
  · unfold dIx at q
    obtain ⟨n, xs, rfl, h1, r1⟩ := rx.lst
    dsimp only at q
    split at q
    · rename_i d hd
      obtain ⟨v, h2, h3⟩ := r1.atI hd
      exact .inl ⟨n, xs, _, v, rfl, ry.int, .of h1, h2, k _ H _ (Same.refl _) h3 q⟩
    · exact q.elim
theorem qe_ix (ha : QB X a Wa) (hc : QB X c Wc) (hs : PlainIx c := by intro _ _; rfl) : QE X (.Subscript a c pos) (wBin dIx Wa Wc) := fun p => PE.le (pe_ix ix_seq (ha p) (hc p) hs) fun σ H Q h => bin_le ok_ix h
end
/-! ### slices -/
/-- the items of xs[lo:hi] -/
def cutD {α : Type} (xs : List α) (lo hi : Option Int) : List α := (xs.drop (HT.sIx xs.length 0 lo)).take (HT.sIx xs.length xs.length hi - HT.sIx xs.length 0 lo)
abbrev WO := Env → Nat → (Option Int → Nat → Prop) → Prop
def tO (K : PySem.W.Frag) (mg : Str → Option Value) (p : Pm) (W : WO) : TO := fun σ H Q => ∃ B env b Qd, Rel K mg p B H σ env b ∧ W env b Qd ∧ ∀ o H' b', Rel K mg p B H' σ env b' → Ext p.pa H H' → Qd o b' → Q o H'
def QO (X : Cx) (e : Option Expr) (W : WO) : Prop := ∀ p, PO X e (tO X.K X.mg p W)
theorem PO.le {X : Cx} {e : Option Expr} {t t' : TO} (h : PO X e t) (m : ∀ σ H Q, t' σ H Q → t σ H Q) : PO X e t' := ⟨fun pins s σ H Q I hw => h.run pins s σ H Q I (m _ _ _ hw)⟩
def wON : WO := fun _ b Q => Q none b
def wOS (W : WE) : WO := fun env b Q => W env b fun d b1 => match d with | .int i => Q (some i) b1 | _ => False
def wSl (W : WE) (Wl Wh : WO) : WE := fun env b Q => W env b fun d b1 => Wl env b1 fun lo b2 => Wh env b2 fun hi b3 => match d with
  | .tup ds => Q (.tup (cutD ds lo hi)) b3
  | .lst ds => Q (.lst (cutD ds lo hi)) b3
  | .str s => s.length ≤ 1000000 ∧ Q (.str (cutS s lo hi)) b3
  | _ => False
section
variable {X : Cx} {e : Expr} {lo hi : Option Expr} {W : WE} {Wl Wh : WO} {pos p2 : Pos}
theorem qo_n : QO X none wON := fun p => PO.le po_none fun σ H Q ⟨B, env, b, Qd, R, w, k⟩ => k none H b R (.refl _ _) w
theorem qo_s (h : QE X e W) : QO X (some e) (wOS W) := fun p => PO.le (po_some (h p)) fun σ H Q ⟨B, env, b, Qd, R, w, k⟩ => by
  refine ⟨B, env, b, _, R, w, fun v H1 d b1 R1 e1 f1 q => ?_⟩
  cases f1 <;> try exact q.elim
  exact ⟨_, rfl, k _ H1 b1 R1 e1 q⟩
theorem qe_sl (h : QB X e W) (hl : QO X lo Wl) (hh : QO X hi Wh) : QE X (.Subscript e (.Slice lo hi none p2) pos) (wSl W Wl Wh) := fun p =>
  PE.le (pe_slice (SlR.or sl_list (SlR.or sl_tupA sl_str)) (h p) (hl p) (hh p)) fun σ H Q ⟨B, env, b, Qd, R, w, k⟩ => by
    have hl := line_ge
    refine ⟨B, env, b, _, R, w, fun v H1 d b1 R1 e1 f1 q => ⟨B, env, b1, _, R1, q, fun o1 H2 b2 R2 e2 q2 => ⟨B, env, b2, _, R2, q2, fun o2 H3 b3 R3 e3 q3 => ?_⟩⟩⟩
    have f3 := (f1.ext R1 e2).ext R2 e3
    cases d <;> try exact q3.elim
    · exact .inr (.inr ⟨_, f3.str, by have := q3.1; omega, k _ H3 _ b3 R3 ((e1.trans e2).trans e3) (.str _) q3.2⟩)
    · obtain ⟨n, xs, rfl, h1, t1, r1⟩ := f3.tup
      have hlen := r1.length
      rename_i ds
      have rc : FRs X.K X.mg p.pa B H3 (cutV xs o1 o2) (cutD ds o1 o2) := by
        unfold cutV cutD
        rw [hlen]
        exact (r1.drop _).take _
      refine .inr (.inl ⟨n, xs, rfl, h1, fun z => ?_, fun z l hl => ?_⟩)
      · refine k _ H3 _ b3 R3 ((e1.trans e2).trans e3) (.tup t1 ?_) q3
        unfold cutD
        rw [← hlen, z.1, z.2, List.drop_zero, Nat.sub_zero, hlen, List.take_length]
        exact r1
      · exact k _ _ _ b3 (R3.same (same_new hl)) (((e1.trans e2).trans e3).trans (.same (same_new hl))) (FR.newT R3 hl rc) q3
    · obtain ⟨n, xs, rfl, h1, r1⟩ := f3.lst
      have hlen := r1.length
      rename_i ds
      have rc : FRs X.K X.mg p.pa B H3 (cutV xs o1 o2) (cutD ds o1 o2) := by
        unfold cutV cutD
        rw [hlen]
        exact (r1.drop _).take _
      exact .inl ⟨n, xs, rfl, .of h1, fun l hl => k _ _ _ b3 (R3.same (same_new hl)) (((e1.trans e2).trans e3).trans (.same (same_new hl))) (FR.newL R3 hl rc) q3⟩
end
/-! ### int.bit_length -/
def dBits : D → (D → Prop) → Prop
  | .int i, Q => Q (.int (Builtin.Int.intBits i : Nat))
  | _, _ => False
#check @pe_bits
#print tBits
end En
/-! The engine, part 5: statements, loops, comprehensions. -/
namespace En
open PySem PySem.Spec PyProof.Rows L2
/-! ### slots are stored -/
section
variable {K : PySem.W.Frag} {mg : Str → Option Value} {p : Pm} {B : Addr → Prop} {H H' : Hp} {σ : L2.St} {env : Env} {b : Nat}
theorem Rel.setv (R : Rel K mg p B H σ env b) {i : Nat} {v : V} {d : D} (hi : i < env.length) (f : FR K mg p.pa B H v d) : Rel K mg p B H (σ.set i (some v)) (env.set i (.v d)) b := by
  refine ⟨R.sub, R.trk, R.opa, R.oca, R.pen, R.ext, by rw [List.length_set, List.length_set]; exact R.len, by rw [List.length_set]; exact R.nl, fun j s h => ?_⟩
  by_cases q : j = i
  · subst q
    rw [List.getElem?_set_self hi] at h
    cases h
    exact ⟨v, by rw [List.getElem?_set_self (by rw [← R.len]; exact hi)], f⟩
  · rw [List.getElem?_set_ne (Ne.symm q)] at h
    have hs := R.slots j s h
    cases s with
    | un => trivial
    | v d' =>
      obtain ⟨u, h1, h2⟩ := hs
      exact ⟨u, by rw [List.getElem?_set_ne (Ne.symm q)]; exact h1, h2⟩
    | own ds =>
      obtain ⟨a, xs, h1, h2, h3, h4, h5, h6, h7⟩ := hs
      refine ⟨a, xs, by rw [List.getElem?_set_ne (Ne.symm q)]; exact h1, h2, h3, h4, h5, h6, fun k ds' hk hd => ?_⟩
      by_cases z : k = i
      · subst z
        rw [List.getElem?_set_self hi] at hd
        cases hd
      · rw [List.getElem?_set_ne (Ne.symm z)] at hd ⊢
        exact h7 k ds' hk hd
/-- a slot becomes an own list: q is new -/
theorem Rel.seto {B0 : Addr → Prop} {q : Addr} {xs : List V} {ds : List D} (R : Rel K mg p (fun a => B a ∨ a = q) H σ env b) (R0 : Rel K mg p B H σ env b) {i : Nat} (hi : i < env.length) (hq : H q = some (.lst xs)) (f : FRs K mg p.pa (fun a => B a ∨ a = q) H xs ds) (nB : ¬ B q) (n0 : p.H0 q = none) :
    Rel K mg p (fun a => B a ∨ a = q) H (σ.set i (some (.ref q))) (env.set i (.own ds)) b := by
  have nO : ¬ p.O q := fun z => nB (R0.sub q z)
  have hl : i < σ.length := by rw [← R.len]; exact hi
  refine ⟨R.sub, R.trk, R.opa, R.oca, R.pen, R.ext, by rw [List.length_set, List.length_set]; exact R.len, by rw [List.length_set]; exact R.nl, fun j s h => ?_⟩
  by_cases z : j = i
  · subst z
    rw [List.getElem?_set_self hi] at h
    cases h
    refine ⟨q, xs, by rw [List.getElem?_set_self hl], hq, f, .inr rfl, nO, n0, fun k ds' hk hd => ?_⟩
    rw [List.getElem?_set_ne (Ne.symm hk)] at hd ⊢
    obtain ⟨a, ys, h1, h2, h3, h4, _⟩ := R0.slots k _ hd
    rw [h1]
    intro e
    have e' : a = q := by simpa using e
    exact nB (e' ▸ h4)
  · rw [List.getElem?_set_ne (Ne.symm z)] at h
    have hs := R.slots j s h
    have hs0 := R0.slots j s h
    cases s with
    | un => trivial
    | v d' =>
      obtain ⟨u, h1, h2⟩ := hs
      exact ⟨u, by rw [List.getElem?_set_ne (Ne.symm z)]; exact h1, h2⟩
    | own ds2 =>
      obtain ⟨a, ys, h1, h2, h3, h4, h5, h6, h7⟩ := hs
      obtain ⟨a', _, h1', _, _, h4', _⟩ := hs0
      have ea : a = a' := by
        rw [h1] at h1'
        simpa using h1'
      have nq : a ≠ q := fun e => nB (by rw [← e, ea]; exact h4')
      refine ⟨a, ys, by rw [List.getElem?_set_ne (Ne.symm z)]; exact h1, h2, h3, h4, h5, h6, fun k ds' hk hd => ?_⟩
      by_cases y : k = i
      · subst y
        rw [List.getElem?_set_self hl]
        intro e
        exact nq (by simpa using e.symm)
      · rw [List.getElem?_set_ne (Ne.symm y)] at hd ⊢
        exact h7 k ds' hk hd
/-- an own list is kept for good -/
theorem Rel.frz (R : Rel K mg p B H σ env b) {i : Nat} {ds : List D} (h : env[i]? = some (.own ds)) : ∃ B', Rel K mg p B' H σ (env.set i (.v (.lst ds))) b ∧ Kp B H B' H := by
  obtain ⟨q, xs, h1, h2, h3, h4, h5, h6, h7⟩ := R.slots i _ h
  have hi : i < env.length := (List.getElem?_eq_some_iff.mp h).1
  have kp : Kp B H (fun a => B a ∧ a ≠ q) H := fun a o e n => ⟨e, fun z => n z.1⟩
  refine ⟨fun a => B a ∧ a ≠ q, ⟨fun a ha => ⟨R.sub a ha, fun z => h5 (z ▸ ha)⟩, fun a ha => R.trk a ha.1, R.opa, R.oca, R.pen, R.ext, by rw [List.length_set]; exact R.len, by rw [List.length_set]; exact R.nl, fun j s hs => ?_⟩, kp⟩
  by_cases z : j = i
  · subst z
    rw [List.getElem?_set_self hi] at hs
    cases hs
    exact ⟨.ref q, h1, .lst h2 (fun z => z.2 rfl) (h3.kp kp)⟩
  · rw [List.getElem?_set_ne (Ne.symm z)] at hs
    have hj := R.slots j s hs
    cases s with
    | un => trivial
    | v d =>
      obtain ⟨u, g1, g2⟩ := hj
      exact ⟨u, g1, g2.kp kp⟩
    | own es =>
      obtain ⟨a, ys, g1, g2, g3, g4, g5, g6, g7⟩ := hj
      refine ⟨a, ys, g1, g2, g3.kp kp, ⟨g4, fun e => ?_⟩, g5, g6, fun k ds' hk hd => ?_⟩
      · exact h7 j es z hs (by rw [g1, e])
      · by_cases y : k = i
        · subst y
          rw [List.getElem?_set_self hi] at hd
          cases hd
        · rw [List.getElem?_set_ne (Ne.symm y)] at hd
          exact g7 k ds' hk hd
/-- an own list changes -/
theorem Rel.put (R : Rel K mg p B H σ env b) {i : Nat} {ds es : List D} {q : Addr} {xs ys : List V} (h : env[i]? = some (.own ds)) (h1 : σ[i]? = some (some (.ref q))) (f : FRs K mg p.pa B H ys es) :
    Rel K mg p B (upd H q (.lst ys)) σ (env.set i (.own es)) b ∧ Kp B H B (upd H q (.lst ys)) := by
  obtain ⟨q', xs', h1', h2, h3, h4, h5, h6, h7⟩ := R.slots i _ h
  rw [h1] at h1'
  have e : q = q' := by simpa using h1'
  subst e
  have hi : i < env.length := (List.getElem?_eq_some_iff.mp h).1
  have kp : Kp B H B (upd H q (.lst ys)) := fun a o e n => ⟨by rw [upd_ne (fun z => n (by rw [z]; exact h4))]; exact e, n⟩
  refine ⟨⟨R.sub, fun a ha => ?_, R.opa, R.oca, R.pen.put (fun z => h5 (z ▸ R.opa)) (fun z => h5 (z ▸ R.oca)), fun a o ha na => ?_, by rw [List.length_set]; exact R.len, by rw [List.length_set]; exact R.nl, fun j s hs => ?_⟩, kp⟩
  · by_cases z : a = q
    · rw [z, upd_same]
      simp
    · rw [upd_ne z]
      exact R.trk a ha
  · rw [upd_ne (fun z => by rw [z, h6] at ha; cases ha)]
    exact R.ext a o ha na
  · by_cases z : j = i
    · subst z
      rw [List.getElem?_set_self hi] at hs
      cases hs
      refine ⟨q, ys, h1, upd_same, f.kp kp, h4, h5, h6, fun k ds' hk hd => ?_⟩
      rw [List.getElem?_set_ne (Ne.symm hk)] at hd
      exact h7 k ds' hk hd
    · rw [List.getElem?_set_ne (Ne.symm z)] at hs
      have hj := R.slots j s hs
      cases s with
      | un => trivial
      | v d =>
        obtain ⟨u, g1, g2⟩ := hj
        exact ⟨u, g1, g2.kp kp⟩
      | own es' =>
        obtain ⟨a, ys', g1, g2, g3, g4, g5, g6, g7⟩ := hj
        have na : a ≠ q := fun e => h7 j es' z hs (by rw [g1, e])
        refine ⟨a, ys', g1, by rw [upd_ne na]; exact g2, g3.kp kp, g4, g5, g6, fun k ds' hk hd => ?_⟩
        by_cases y : k = i
        · subst y
          rw [h1]
          intro e
          exact na (by simpa using e.symm)
        · rw [List.getElem?_set_ne (Ne.symm y)] at hd
          exact g7 k ds' hk hd
/-- names forgotten -/
def wipeE (env : Env) : List Nat → Env
  | [] => env
  | v :: vs => (wipeE env vs).set v .un
theorem Rel.unset (R : Rel K mg p B H σ env b) (i : Nat) : Rel K mg p B H (σ.set i none) (env.set i .un) b := by
  refine ⟨R.sub, R.trk, R.opa, R.oca, R.pen, R.ext, by rw [List.length_set, List.length_set]; exact R.len, by rw [List.length_set]; exact R.nl, fun j s h => ?_⟩
  by_cases q : j = i
  · subst q
    by_cases hi : j < env.length
    · rw [List.getElem?_set_self hi] at h
      cases h
      trivial
    · rw [List.getElem?_eq_none (by rw [List.length_set]; omega)] at h
      cases h
  · rw [List.getElem?_set_ne (Ne.symm q)] at h
    have hs := R.slots j s h
    cases s with
    | un => trivial
    | v d' =>
      obtain ⟨u, h1, h2⟩ := hs
      exact ⟨u, by rw [List.getElem?_set_ne (Ne.symm q)]; exact h1, h2⟩
    | own ds =>
      obtain ⟨a, xs, h1, h2, h3, h4, h5, h6, h7⟩ := hs
      refine ⟨a, xs, by rw [List.getElem?_set_ne (Ne.symm q)]; exact h1, h2, h3, h4, h5, h6, fun k ds' hk hd => ?_⟩
      by_cases z : k = i
      · subst z
        by_cases hi : k < env.length
        · rw [List.getElem?_set_self hi] at hd
          cases hd
        · rw [List.getElem?_eq_none (by rw [List.length_set]; omega)] at hd
          cases hd
      · rw [List.getElem?_set_ne (Ne.symm z)] at hd ⊢
        exact h7 k ds' hk hd
theorem Rel.wipe (R : Rel K mg p B H σ env b) : ∀ vs : List Nat, Rel K mg p B H (wipe σ vs) (wipeE env vs) b
  | [] => R
  | v :: vs => (Rel.wipe R vs).unset v
end
/-! ### statements -/
structure Ens where
  nx : Env → Nat → Prop
  rt : D → Nat → Prop
  bk : Env → Nat → Prop := fun _ _ => False
  ct : Env → Nat → Prop := fun _ _ => False
abbrev WS := Ens → Env → Nat → Prop
/-- the ends fit -/
structure Fits (K : PySem.W.Frag) (mg : Str → Option Value) (p : Pm) (B : Addr → Prop) (H : Hp) (E : Ens) (D : Ends) : Prop where
  nx : ∀ σ' H' B' env' b', Rel K mg p B' H' σ' env' b' → Kp B H B' H' → E.nx env' b' → D.nx σ' H'
  bk : ∀ σ' H' B' env' b', Rel K mg p B' H' σ' env' b' → Kp B H B' H' → E.bk env' b' → D.bk σ' H'
  ct : ∀ σ' H' B' env' b', Rel K mg p B' H' σ' env' b' → Kp B H B' H' → E.ct env' b' → D.ct σ' H'
  rt : ∀ v H' d b', FR K mg p.pa p.O H' v d → Ext p.pa p.H0 H' → PenOk p.pa p.ca H' b' → E.rt d b' → D.rt v H'
theorem Fits.kp {K : PySem.W.Frag} {mg : Str → Option Value} {p : Pm} {B B' : Addr → Prop} {H H' : Hp} {E : Ens} {D : Ends} (f : Fits K mg p B H E D) (k : Kp B H B' H') : Fits K mg p B' H' E D :=
  ⟨fun σ' H2 B2 env' b' R k2 e => f.nx σ' H2 B2 env' b' R (k.trans k2) e, fun σ' H2 B2 env' b' R k2 e => f.bk σ' H2 B2 env' b' R (k.trans k2) e, fun σ' H2 B2 env' b' R k2 e => f.ct σ' H2 B2 env' b' R (k.trans k2) e, f.rt⟩
def tS (K : PySem.W.Frag) (mg : Str → Option Value) (p : Pm) (W : WS) : TS := fun D σ H => ∃ B env b E, Rel K mg p B H σ env b ∧ W E env b ∧ Fits K mg p B H E D
def QS (X : Cx) (st : Stmt) (W : WS) : Prop := ∀ p, PS X st (tS X.K X.mg p W)
def QSs (X : Cx) (st : List Stmt) (W : WS) : Prop := ∀ p, PSs X st (tS X.K X.mg p W)
theorem PS.le {X : Cx} {st : Stmt} {t t' : TS} (h : PS X st t) (m : ∀ D σ H, t' D σ H → t D σ H) : PS X st t' := ⟨fun pins s σ H D I hw => h.run pins s σ H D I (m _ _ _ hw)⟩
theorem PSs.le {X : Cx} {st : List Stmt} {t t' : TS} (h : PSs X st t) (m : ∀ D σ H, t' D σ H → t D σ H) : PSs X st t' := ⟨fun pins s σ H D I hw => h.run pins s σ H D I (m _ _ _ hw)⟩
def wNext : WS := fun E env b => E.nx env b
def wSeq (W1 W2 : WS) : WS := fun E env b => W1 { E with nx := W2 E } env b
def wBreak : WS := fun E env b => E.bk env b
def wCont : WS := fun E env b => E.ct env b
def wSet (i : Nat) (W : WE) : WS := fun E env b => W env b fun d b' => E.nx (env.set i (.v d)) b'
def wSetO (i : Nat) (W : WL) : WS := fun E env b => W env b fun ds b' => E.nx (env.set i (.own ds)) b'
def wRet (W : WE) : WS := fun E env b => W env b fun d b' => E.rt d b'
def wIfS (T : WT) (W1 W2 : WS) : WS := fun E env b => T env b fun c b1 => wIf c (W1 E env b1) (W2 E env b1)
def wFrz (i : Nat) (W : WS) : WS := fun E env b => match env[i]? with | some (.own ds) => W E (env.set i (.v (.lst ds))) b | _ => False
def wApp (i : Nat) (W : WE) : WS := fun E env b => match env[i]? with | some (.own ds) => W env b fun d b' => ds.length < 1000000 ∧ E.nx (env.set i (.own (ds ++ [d]))) b' | _ => False
def wDrop (W : WE) : WS := fun E env b => W env b fun _ b' => E.nx env b'
section
variable {X : Cx} {st : Stmt} {sts : List Stmt} {e : Expr} {W1 W2 : WS} {We : WE} {Wl : WL} {T : WT} {pos pos' : Pos} {x : Str}
theorem qss_nil : QSs X [] wNext := fun p => PSs.le pss_nil fun D σ H ⟨B, env, b, E, R, w, f⟩ => f.nx σ H B env b R (.refl _ _) w
theorem qss_cons (h1 : QS X st W1) (h2 : QSs X sts W2) : QSs X (st :: sts) (wSeq W1 W2) := fun p => PSs.le (pss_cons (h1 p) (h2 p)) fun D σ H ⟨B, env, b, E, R, w, f⟩ =>
  ⟨B, env, b, _, R, w, ⟨fun σ' H' B' env' b' R' k q => ⟨B', env', b', E, R', q, f.kp k⟩, f.bk, f.ct, f.rt⟩⟩
theorem qss_one (h1 : QS X st W1) : QSs X [st] W1 := fun p => PSs.le (pss_one (h1 p)) fun D σ H h => h
theorem qss_frz (i : Nat) (h : QSs X sts W1) : QSs X sts (wFrz i W1) := fun p => PSs.le (h p) fun D σ H ⟨B, env, b, E, R, w, f⟩ => by
  unfold wFrz at w
  split at w
  · rename_i ds hs
    obtain ⟨B', R', k⟩ := R.frz hs
    exact ⟨B', _, b, E, R', w, f.kp k⟩
  · exact w.elim
theorem qs_pass : QS X (.Pass pos) wNext := fun p => PS.le ps_pass fun D σ H ⟨B, env, b, E, R, w, f⟩ => f.nx σ H B env b R (.refl _ _) w
theorem qs_break : QS X (.Break pos) wBreak := fun p => PS.le ps_break fun D σ H ⟨B, env, b, E, R, w, f⟩ => f.bk σ H B env b R (.refl _ _) w
theorem qs_cont : QS X (.Continue pos) wCont := fun p => PS.le ps_continue fun D σ H ⟨B, env, b, E, R, w, f⟩ => f.ct σ H B env b R (.refl _ _) w
theorem len_of {p : Pm} {B : Addr → Prop} {H : Hp} {σ : L2.St} {env : Env} {b : Nat} {i : Nat} (I : σ.length = X.N.length) (R : Rel X.K X.mg p B H σ env b) (hi : X.N[i]? = some x) : i < env.length := by
  rw [R.len, I]
  exact (List.getElem?_eq_some_iff.mp hi).1
theorem qs_set (i : Nat) (hN : X.N.Nodup) (hi : X.N[i]? = some x) (hx : Loc X.env.scope x) (h : QE X e We) (hs : swapsWith e (some (.Name x pos')) pos.line X.env = pure false := by rfl) (hf : X.fn x = true ∨ X.env.scope.names.lookup x = some .local := by first | exact .inl rfl | exact .inr rfl | assumption) :
    QS X (.Assign [.Name x pos'] e pos) (wSet i We) := fun p => ⟨fun pins s σ H D I ⟨B, env, b, E, R, w, f⟩ => (ps_set hN hi hx (h p) hs hf).run pins s σ H D I ⟨B, env, b, _, R, w, fun v H1 d b1 R1 e1 f1 q =>
  f.nx _ H1 B _ b1 (R1.setv (len_of I.len R1 hi) f1) (R.ext_kp e1) q⟩⟩
theorem qs_setF (i : Nat) (hN : X.N.Nodup) (hi : X.N[i]? = some x) (hx : Loc X.env.scope x) (h : QF X e Wl) (hs : swapsWith e (some (.Name x pos')) pos.line X.env = pure false := by rfl) (hf : X.fn x = true ∨ X.env.scope.names.lookup x = some .local := by first | exact .inl rfl | exact .inr rfl | assumption) :
    QS X (.Assign [.Name x pos'] e pos) (wSetO i Wl) := fun p => ⟨fun pins s σ H D I ⟨B, env, b, E, R, w, f⟩ => (ps_set hN hi hx (h p) hs hf).run pins s σ H D I ⟨B, env, b, _, R, w, fun q xs H1 ds b1 R1 R2 e1 hq fq nB n q' =>
  f.nx _ H1 _ _ b1 (R2.seto (B0 := B) R1 (len_of I.len R1 hi) hq fq nB (R.new0 n)) (fun a o ha na => ⟨(R.ext_kp e1 a o ha na).1, fun z => z.elim na (ne_of_none ha n)⟩) q'⟩⟩
theorem qs_ret (h : QE X e We) : QS X (.Return (some e) pos) (wRet We) := fun p => PS.le (ps_ret (h p)) fun D σ H ⟨B, env, b, E, R, w, f⟩ =>
  ⟨B, env, b, _, R, w, fun v H1 d b1 R1 e1 f1 q => f.rt v H1 d b1 (f1.kp fun a o ha na => ⟨ha, fun z => na (R1.sub a z)⟩) R1.ext R1.pen q⟩
theorem qs_if {a c : List Stmt} {t : Expr} (ht : QT X t T) (h1 : QSs X a W1) (h2 : QSs X c W2) : QS X (.If t a c pos) (wIfS T W1 W2) := fun p => PS.le (ps_if (ht p) (h1 p) (h2 p)) fun D σ H ⟨B, env, b, E, R, w, f⟩ => by
  refine ⟨B, env, b, _, R, w, fun cc H1 b1 R1 e1 w1 => wIf_ite ?_⟩
  cases cc with
  | true => exact ⟨B, env, b1, E, R1, w1, f.kp (R.ext_kp e1)⟩
  | false => exact ⟨B, env, b1, E, R1, w1, f.kp (R.ext_kp e1)⟩
theorem qs_never : QS X st (fun _ _ _ => False) := fun p => PS.le ps_never fun D σ H ⟨B, env, b, E, R, w, f⟩ => w.elim
theorem qs_drop (h : QE X e We) (hs : swapsWith e none pos.line X.env = pure false := by rfl) : QS X (.Expr e pos) (wDrop We) := fun p => PS.le (ps_expr (h p) hs) fun D σ H ⟨B, env, b, E, R, w, f⟩ =>
  ⟨B, env, b, _, R, w, fun v H1 d b1 R1 e1 f1 q => f.nx σ H1 B env b1 R1 (R.ext_kp e1) q⟩
/-- x.append(e) -/
theorem qs_app (i : Nat) {apos cpos px : Pos} (hi : X.N[i]? = some x) (hv : Vis X.env.scope x) (h : QE X e We) (hd : (x == ("__debug__" : Str)) = false := by decide) (hcd : (x == ("__classdict__" : Str)) = false := by decide)
    (hbase : attributeBase (.Name x px) "append" X.env (eval (.Name x px) X.env) = eval (.Name x px) X.env := by rfl)
    (hfew : ((backTo cpos (starEach (e :: []) X.env)).all (fun x => !x.1) && (backToKw cpos (keywordEach [] X.env)).all (fun x => x.1.isSome)
      && decide ((e :: ([] : List Expr)).length + ([] : List Keyword).length + (if ([] : List Keyword).isEmpty then 0 else 1) < 30)) = true := by rfl)
    (hline : (apos.endLine == cpos.line) = true := by rfl) (hs : starEach (e :: []) X.env = (false, eval e X.env) :: starEach [] X.env := by rfl) (hplain : (backTo cpos (starEach [] X.env)).any (·.1) = false := by rfl)
    (hsw : swapsWith (.Call (.Attribute (.Name x px) "append" apos) [e] [] cpos) none pos.line X.env = pure false := by rfl) :
    QS X (.Expr (.Call (.Attribute (.Name x px) "append" apos) [e] [] cpos) pos) (wApp i We) := fun p =>
  PS.le (ps_expr (pe_bm PySem.F.plainAttrs_list PySem.F.slot_list_append PySem.F.type_list_append mt_append (pe_var hi hv hd hcd) (pa_cons (h p) pa_nil hs) hbase hfew hline hs hplain) hsw) fun D σ H ⟨B, env, b, E, R, w, f⟩ => by
    have hl := line_ge
    unfold wApp at w
    split at w
    · rename_i ds ho
      obtain ⟨q, xs, h1, h2, h3, h4⟩ := R.slots i _ ho
      refine ⟨.ref q, h1, .inl ⟨rfl, xs, .of h2⟩, B, env, b, _, R, w, fun v H1 d b1 R1 e1 f1 qd => ?_⟩
      obtain ⟨q', xs', g1, g2, g3, g4⟩ := R1.slots i _ ho
      have eq' : q = q' := by
        rw [h1] at g1
        simpa using g1
      subst eq'
      have hlen := g3.length
      refine ⟨q, xs', v, rfl, rfl, g2, by have := qd.1; omega, ?_⟩
      obtain ⟨R2, k2⟩ := R1.put ho h1 (g3.append (.cons f1 .nil)) (xs := xs')
      exact f.nx σ _ B _ b1 R2 ((R.ext_kp e1).trans k2) qd.2
    · exact w.elim
end
/-! ### what a name is given: a value for good, or a new list of its own -/
abbrev WV := Env → Nat → (Slot → Nat → Prop) → Prop
def SlotV (K : PySem.W.Frag) (mg : Str → Option Value) (p : Pm) (B : Addr → Prop) (H : Hp) (σ : L2.St) (env : Env) (v : V) : Slot → Prop
  | .un => False
  | .v d => FR K mg p.pa B H v d
  | .own ds => ∃ q xs, v = .ref q ∧ H q = some (.lst xs) ∧ FRs K mg p.pa B H xs ds ∧ B q ∧ ¬ p.O q ∧ p.H0 q = none ∧ ∀ (j : Nat) (ds' : List D), env[j]? = some (.own ds') → σ[j]? ≠ some (some (.ref q))
def tV (K : PySem.W.Frag) (mg : Str → Option Value) (p : Pm) (W : WV) : TE := fun σ H Q => ∃ B env b Qd, Rel K mg p B H σ env b ∧ W env b Qd ∧
  ∀ (v : V) (H' : Hp) (sl : Slot) (b' : Nat) (B' : Addr → Prop), Rel K mg p B' H' σ env b' → (∀ a, B a → B' a) → Kp B H B' H' → Ext p.pa H H' → SlotV K mg p B' H' σ env v sl → (∀ (q : Addr) (ds : List D), sl = Slot.own ds → v = V.ref q → H q = none) → Qd sl b' → Q v H'
def QV (X : Cx) (e : Expr) (W : WV) : Prop := ∀ p, PE X e (tV X.K X.mg p W)
def wV (W : WE) : WV := fun env b Q => W env b fun d b' => Q (.v d) b'
def wO (W : WL) : WV := fun env b Q => W env b fun ds b' => Q (.own ds) b'
section
variable {X : Cx} {e : Expr} {We : WE} {Wl : WL}
theorem QE.v (h : QE X e We) : QV X e (wV We) := fun p => PE.le (h p) fun σ H Q ⟨B, env, b, Qd, R, w, k⟩ =>
  ⟨B, env, b, _, R, w, fun v H' d b' R' x f q => k v H' (.v d) b' B R' (fun _ h => h) (R.ext_kp x) x f (fun _ _ e => nomatch e) q⟩
theorem QF.v (h : QF X e Wl) : QV X e (wO Wl) := fun p => PE.le (h p) fun σ H Q ⟨B, env, b, Qd, R, w, k⟩ =>
  ⟨B, env, b, _, R, w, fun q xs H' ds b' R1 R2 x hq fq nB n qd => k (.ref q) H' (.own ds) b' _ R2 (fun _ h => .inl h) (fun a o ha na => ⟨(R.ext_kp x a o ha na).1, fun z => z.elim na (ne_of_none ha n)⟩) x
    ⟨q, xs, rfl, hq, fq, .inr rfl, fun z => nB (R.sub q z), R.new0 n, fun j ds' hj => by
      obtain ⟨a, ys, h1, h2, h3, h4, _⟩ := R1.slots j _ hj
      rw [h1]
      intro e
      have e' : a = q := by simpa using e
      exact nB (e' ▸ h4)⟩ (fun q' _ _ e => by cases e; exact n) qd⟩
end
section
variable {K : PySem.W.Frag} {mg : Str → Option Value} {p : Pm} {B B' : Addr → Prop} {H H' : Hp} {σ : L2.St} {env : Env} {b b' : Nat} {v : V} {sl : Slot}
theorem Rel.setS (R : Rel K mg p B H σ env b) {i : Nat} (hi : i < env.length) (f : SlotV K mg p B H σ env v sl) : Rel K mg p B H (σ.set i (some v)) (env.set i sl) b := by
  cases sl with
  | un => exact f.elim
  | v d => exact R.setv hi f
  | own ds =>
    obtain ⟨q, xs, rfl, hq, fq, bq, nO, n0, al⟩ := f
    have hl : i < σ.length := by rw [← R.len]; exact hi
    refine ⟨R.sub, R.trk, R.opa, R.oca, R.pen, R.ext, by rw [List.length_set, List.length_set]; exact R.len, by rw [List.length_set]; exact R.nl, fun j s h => ?_⟩
    by_cases z : j = i
    · subst z
      rw [List.getElem?_set_self hi] at h
      cases h
      refine ⟨q, xs, by rw [List.getElem?_set_self hl], hq, fq, bq, nO, n0, fun k ds' hk hd => ?_⟩
      rw [List.getElem?_set_ne (Ne.symm hk)] at hd ⊢
      exact al k ds' hd
    · rw [List.getElem?_set_ne (Ne.symm z)] at h
      have hs := R.slots j s h
      cases s with
      | un => trivial
      | v d' =>
        obtain ⟨u, h1, h2⟩ := hs
        exact ⟨u, by rw [List.getElem?_set_ne (Ne.symm z)]; exact h1, h2⟩
      | own ds2 =>
        obtain ⟨a, ys, h1, h2, h3, h4, h5, h6, h7⟩ := hs
        refine ⟨a, ys, by rw [List.getElem?_set_ne (Ne.symm z)]; exact h1, h2, h3, h4, h5, h6, fun k ds' hk hd => ?_⟩
        by_cases y : k = i
        · subst y
          rw [List.getElem?_set_self hl]
          intro e
          have e' : q = a := by simpa using e
          exact al j ds2 h (by rw [h1, e'])
        · rw [List.getElem?_set_ne (Ne.symm y)] at hd ⊢
          exact h7 k ds' hk hd
theorem SlotV.step (R : Rel K mg p B H σ env b) (f : SlotV K mg p B H σ env v sl) (s : ∀ a, B a → B' a) (k : Kp B H B' H') (e : Ext p.pa H H') : SlotV K mg p B' H' σ env v sl := by
  cases sl with
  | un => exact f
  | v d => exact FR.kp k f
  | own ds =>
    obtain ⟨q, xs, rfl, hq, fq, bq, nO, n0, al⟩ := f
    exact ⟨q, xs, rfl, e _ _ hq (R.pen.ne hq), fq.kp k, s _ bq, nO, n0, al⟩
/-- another slot is stored: the value is no such list -/
theorem SlotV.stored {v' : V} {sl' : Slot} {i : Nat} (f : SlotV K mg p B H σ env v sl) (hi : i < env.length) (hl : i < σ.length) (h : ∀ (q q' : Addr) (ds ds' : List D), sl = Slot.own ds → v = V.ref q → sl' = Slot.own ds' → v' = V.ref q' → q ≠ q') (g : SlotV K mg p B H σ env v' sl') : SlotV K mg p B H (σ.set i (some v')) (env.set i sl') v sl := by
  cases sl with
  | un => exact f
  | v d => exact f
  | own ds =>
    obtain ⟨q, xs, rfl, hq, fq, bq, nO, n0, al⟩ := f
    refine ⟨q, xs, rfl, hq, fq, bq, nO, n0, fun j ds' hj => ?_⟩
    by_cases z : j = i
    · subst z
      rw [List.getElem?_set_self hi] at hj
      rw [List.getElem?_set_self hl]
      have hs : sl' = .own ds' := by simpa using hj
      subst hs
      obtain ⟨q', _, rfl, _⟩ := g
      intro e
      exact h q q' ds ds' rfl rfl rfl rfl (by simpa using e.symm)
    · rw [List.getElem?_set_ne (Ne.symm z)] at hj ⊢
      exact al j ds' hj
end
/-! ### x[i] = e, pairs of names, pairs of places -/
def wSetIx (n : Nat) (W : WE) (Wi : WE) : WS := fun E env b => match env[n]? with
  | some (.own ds) => W env b fun d b1 => Wi env b1 fun kd b2 => (match kd with
    | .int k => (match ixN ds.length k with | some j => E.nx (env.set n (.own (ds.set j d))) b2 | none => False)
    | _ => False)
  | _ => False
/-- a, b = e1, e2 -/
def wPar (i j : Nat) (W1 W2 : WV) : WS := fun E env b => W1 env b fun s1 b1 => W2 env b1 fun s2 b2 => E.nx ((env.set i s1).set j s2) b2
/-- x[i], x[j] = e1, e2 -/
def wSwap (n : Nat) (W1 W2 Wi Wj : WE) : WS := fun E env b => match env[n]? with
  | some (.own ds) => W1 env b fun d b1 => W2 env b1 fun d' b2 => Wi env b2 fun kd b3 => (match kd with
    | .int k => (match ixN ds.length k with
      | some j => Wj (env.set n (.own (ds.set j d))) b3 fun kd' b4 => (match kd' with
        | .int k' => (match ixN ds.length k' with | some j' => E.nx (env.set n (.own ((ds.set j d).set j' d'))) b4 | none => False)
        | _ => False)
      | none => False)
    | _ => False)
  | _ => False
section
variable {X : Cx} {e e1 e2 o i1 i2 : Expr} {W1 W2 We Wi Wj : WE} {V1 V2 : WV} {Wl : WL} {pos px py pt spos : Pos} {x y : Str} {k2 kt : Nat} {pt2 : Pos}
theorem put_step {p : Pm} {B : Addr → Prop} {H : Hp} {σ : L2.St} {env : Env} {b n : Nat} {ds : List D} {K : PySem.W.Frag} {mg : Str → Option Value} (R : Rel K mg p B H σ env b) (ho : env[n]? = some (.own ds)) :
    ∃ q xs, σ[n]? = some (some (.ref q)) ∧ H q = some (.lst xs) ∧ xs.length = ds.length ∧ FRs K mg p.pa B H xs ds := by
  obtain ⟨q, xs, h1, h2, h3, _⟩ := R.slots n _ ho
  exact ⟨q, xs, h1, h2, h3.length, h3⟩
theorem qs_setix (n : Nat) {p1 : Pos} (hi : X.N[n]? = some x) (hv : Vis X.env.scope x) (h : QE X e We) (hix : QE X i1 Wi) (hd : (x == ("__debug__" : Str)) = false := by decide) (hcd : (x == ("__classdict__" : Str)) = false := by decide)
    (ha : ∀ v, assign (.Subscript (.Name x px) i1 p1) X.env v = (do
      let ov ← holding [v] (eval (.Name x px) X.env)
      let iv ← holding [v, ov] (eval i1 X.env)
      standAt p1
      holding [v, ov, iv] (setItem ov iv v)
      release [v, ov, iv] []) := by intro _; rfl)
    (hs : swapsWithSole [.Subscript (.Name x px) i1 p1] e pos.line X.env = pure false := by rfl) (hw : swappedStores [.Subscript (.Name x px) i1 p1] e X.env = pure none := by rfl)
    (h1 : (assignEach [.Subscript (.Name x px) i1 p1] X.env).map (·.2) = [assign (.Subscript (.Name x px) i1 p1) X.env] := by rfl) : QS X (.Assign [.Subscript (.Name x px) i1 p1] e pos) (wSetIx n We Wi) := fun p =>
  PS.le (ps_asg (h p) (pg_sub (pe_var hi hv hd hcd) (hix p) set_list ha) hs hw h1) fun D σ H ⟨B, env, b, E, R, w, f⟩ => by
    unfold wSetIx at w
    split at w
    · rename_i ds ho
      refine ⟨B, env, b, _, R, w, fun v H1 d b1 R1 e1 f1 w1 => ?_⟩
      obtain ⟨q, xs, g1, g2, g3, g4⟩ := put_step R1 ho
      refine ⟨.ref q, g1, B, env, b1, _, R1, w1, fun u H2 kd b2 R2 e2 f2 w2 => ?_⟩
      obtain ⟨q', xs', g1', g2', g3', g4'⟩ := put_step R2 ho
      rw [g1] at g1'
      have eq' : q = q' := by simpa using g1'
      subst eq'
      cases f2 <;> try exact w2.elim
      dsimp only at w2
      split at w2
      · rename_i k j hj
        refine ⟨q, xs', _, j, rfl, rfl, g2', by rw [g3']; exact hj, ?_⟩
        obtain ⟨R3, k3⟩ := R2.put ho g1 (g4'.set (f1.ext e2 R.bpa) j) (xs := xs')
        exact f.nx σ _ B _ b2 R3 (((R.ext_kp e1).trans (R1.ext_kp e2)).trans k3) w2
      · exact w2.elim
    · exact w.elim
theorem qs_par (i j : Nat) (hc : X.calm = true) (hN : X.N.Nodup) (hi : X.N[i]? = some x) (hj : X.N[j]? = some y) (hij : i ≠ j) (hx : X.env.scope.names.lookup x = some .local) (hy : X.env.scope.names.lookup y = some .local) (h1 : QV X e1 V1) (h2 : QV X e2 V2)
    (hw : swappedStores [.Tuple [.Name x px, .Name y py] kt pt] (.Tuple [e1, e2] k2 pt2) X.env = pure (some [x, y]) := by rfl) (hs : swapsWithSole [.Tuple [.Name x px, .Name y py] kt pt] (.Tuple [e1, e2] k2 pt2) pos.line X.env = pure false := by rfl)
    (hs1 : starEach [e1, e2] X.env = (false, eval e1 X.env) :: starEach [e2] X.env := by rfl) (hs2 : starEach [e2] X.env = (false, eval e2 X.env) :: starEach [] X.env := by rfl) :
    QS X (.Assign [.Tuple [.Name x px, .Name y py] kt pt] (.Tuple [e1, e2] k2 pt2) pos) (wPar i j V1 V2) := fun p => ⟨fun pins s σ H D I ⟨B, env, b, E, R, w, f⟩ =>
  (ps_par hc hN hi hj hij hx hy (pa_cons (h1 p) (pa_cons (h2 p) pa_nil hs2) hs1) hw hs).run pins s σ H D I
    ⟨B, env, b, _, R, w, fun v H1 sl b1 B1 R1 su k1 e1 f1 n1 w1 => ⟨B1, env, b1, _, R1, w1, fun v' H2 sl' b2 B2 R2 su2 k2' e2 f2 n2 w2 => ⟨v, v', rfl, by
      have li := len_of I.len R1 hi
      have lj := len_of I.len R1 hj
      have f1' := f1.step R1 su2 k2' e2
      have R3 := R2.setS li f1'
      have f2' := f2.stored (v' := v) (sl' := sl) li (by rw [← R1.len]; exact li) (fun q q' ds ds' z1 z2 z3 z4 z5 => by
        subst z3 z4
        obtain ⟨q3, xs3, e3, h3, _⟩ := f1
        cases e3
        have := n2 q ds z1 z2
        rw [z5, h3] at this
        cases this) f1'
      exact f.nx _ H2 B2 _ b2 (R3.setS (by rw [List.length_set]; exact lj) f2') (k1.trans k2') w2⟩⟩⟩⟩
/-- the same where a name is a cell -/
theorem qs_parT (i j : Nat) (hc : X.calm = true) (hN : X.N.Nodup) (hi : X.N[i]? = some x) (hj : X.N[j]? = some y) (hij : i ≠ j) (hx : Loc X.env.scope x) (hy : Loc X.env.scope y) (h1 : QV X e1 V1) (h2 : QV X e2 V2)
    (hfx : X.fn x = true ∨ X.env.scope.names.lookup x = some .local := by first | exact .inl rfl | exact .inr rfl | assumption) (hfy : X.fn y = true ∨ X.env.scope.names.lookup y = some .local := by first | exact .inl rfl | exact .inr rfl | assumption)
    (hw : swappedStores [.Tuple [.Name x px, .Name y py] kt pt] (.Tuple [e1, e2] k2 pt2) X.env = pure none := by rfl) (hs : swapsWithSole [.Tuple [.Name x px, .Name y py] kt pt] (.Tuple [e1, e2] k2 pt2) pos.line X.env = pure false := by rfl)
    (ha : (assignEach [.Tuple [.Name x px, .Name y py] kt pt] X.env).map (·.2) = [assign (.Tuple [.Name x px, .Name y py] kt pt) X.env] := by rfl)
    (hn : (assignEach [.Name x px, .Name y py] X.env).length = 2 := by rfl) (hst : (assignEach [.Name x px, .Name y py] X.env).findIdx? (·.1) = none := by rfl)
    (hs1 : starEach [e1, e2] X.env = (false, eval e1 X.env) :: starEach [e2] X.env := by rfl) (hs2 : starEach [e2] X.env = (false, eval e2 X.env) :: starEach [] X.env := by rfl)
    (hc1 : (assignEach [.Name x px, .Name y py] X.env).map (·.2) = assign (.Name x px) X.env :: (assignEach [.Name y py] X.env).map (·.2) := by rfl) (hc2 : (assignEach [.Name y py] X.env).map (·.2) = assign (.Name y py) X.env :: (assignEach [] X.env).map (·.2) := by rfl) :
    QS X (.Assign [.Tuple [.Name x px, .Name y py] kt pt] (.Tuple [e1, e2] k2 pt2) pos) (wPar i j V1 V2) := fun p => ⟨fun pins s σ H D I ⟨B, env, b, E, R, w, f⟩ =>
  (ps_asg (pe_tup (pa_cons (h1 p) (pa_cons (h2 p) pa_nil hs2) hs1)) (pg_tup hc (pgs_cons (pg_name hN hi hx hfx) (pgs_cons (pg_name hN hj hy hfy) pgs_nil hc2) hc1) hn hst) hs hw ha).run pins s σ H D I
    ⟨B, env, b, _, R, w, fun v H1 sl b1 B1 R1 su k1 e1 f1 n1 w1 => ⟨B1, env, b1, _, R1, w1, fun v' H2 sl' b2 B2 R2 su2 k2' e2 f2 n2 w2 => ⟨by show 2 ≤ sizeLine; decide, fun t ht => by
      have sm := same_new (o := .tup [v, v']) ht
      have R2' := R2.same sm
      have li := len_of I.len R1 hi
      have lj := len_of I.len R1 hj
      have f1' := (f1.step R1 su2 k2' e2).step R2 (fun _ h => h) (R2.ext_kp (.same sm)) (.same sm)
      have f20 := f2.step R2 (fun _ h => h) (R2.ext_kp (.same sm)) (.same sm)
      have R3 := R2'.setS li f1'
      have f2' := f20.stored (v' := v) (sl' := sl) li (by rw [← R1.len]; exact li) (fun q q' ds ds' z1 z2 z3 z4 z5 => by
        subst z3 z4
        obtain ⟨q3, xs3, e3, h3, _⟩ := f1
        cases e3
        have := n2 q ds z1 z2
        rw [z5, h3] at this
        cases this) f1'
      refine ⟨t, [v, v'], rfl, .of upd_same, rfl, v, [v'], rfl, v', [], rfl, rfl, ?_⟩
      exact f.nx _ _ B2 _ b2 (R3.setS (by rw [List.length_set]; exact lj) f2') ((k1.trans k2').trans (R2.ext_kp (.same sm))) w2⟩⟩⟩⟩
theorem qs_swap (n : Nat) {p1 p2 px2 : Pos} (hc : X.calm = true) (hi : X.N[n]? = some x) (hv : Vis X.env.scope x) (h1 : QE X e1 W1) (h2 : QE X e2 W2) (hi1 : QE X i1 Wi) (hi2 : QE X i2 Wj) (hd : (x == ("__debug__" : Str)) = false := by decide) (hcd : (x == ("__classdict__" : Str)) = false := by decide)
    (ha1 : ∀ v, assign (.Subscript (.Name x px) i1 p1) X.env v = (do
      let ov ← holding [v] (eval (.Name x px) X.env)
      let iv ← holding [v, ov] (eval i1 X.env)
      standAt p1
      holding [v, ov, iv] (setItem ov iv v)
      release [v, ov, iv] []) := by intro _; rfl)
    (ha2 : ∀ v, assign (.Subscript (.Name x px2) i2 p2) X.env v = (do
      let ov ← holding [v] (eval (.Name x px2) X.env)
      let iv ← holding [v, ov] (eval i2 X.env)
      standAt p2
      holding [v, ov, iv] (setItem ov iv v)
      release [v, ov, iv] []) := by intro _; rfl)
    (hw : swappedStores [.Tuple [.Subscript (.Name x px) i1 p1, .Subscript (.Name x px2) i2 p2] kt pt] (.Tuple [e1, e2] k2 pt2) X.env = pure none := by rfl) (hs : swapsWithSole [.Tuple [.Subscript (.Name x px) i1 p1, .Subscript (.Name x px2) i2 p2] kt pt] (.Tuple [e1, e2] k2 pt2) pos.line X.env = pure false := by rfl)
    (ha : (assignEach [.Tuple [.Subscript (.Name x px) i1 p1, .Subscript (.Name x px2) i2 p2] kt pt] X.env).map (·.2) = [assign (.Tuple [.Subscript (.Name x px) i1 p1, .Subscript (.Name x px2) i2 p2] kt pt) X.env] := by rfl)
    (hn : (assignEach [.Subscript (.Name x px) i1 p1, .Subscript (.Name x px2) i2 p2] X.env).length = 2 := by rfl) (hst : (assignEach [.Subscript (.Name x px) i1 p1, .Subscript (.Name x px2) i2 p2] X.env).findIdx? (·.1) = none := by rfl)
    (hs1 : starEach [e1, e2] X.env = (false, eval e1 X.env) :: starEach [e2] X.env := by rfl) (hs2 : starEach [e2] X.env = (false, eval e2 X.env) :: starEach [] X.env := by rfl)
    (hc1 : (assignEach [.Subscript (.Name x px) i1 p1, .Subscript (.Name x px2) i2 p2] X.env).map (·.2) = assign (.Subscript (.Name x px) i1 p1) X.env :: (assignEach [.Subscript (.Name x px2) i2 p2] X.env).map (·.2) := by rfl)
    (hc2 : (assignEach [.Subscript (.Name x px2) i2 p2] X.env).map (·.2) = assign (.Subscript (.Name x px2) i2 p2) X.env :: (assignEach [] X.env).map (·.2) := by rfl) :
    QS X (.Assign [.Tuple [.Subscript (.Name x px) i1 p1, .Subscript (.Name x px2) i2 p2] kt pt] (.Tuple [e1, e2] k2 pt2) pos) (wSwap n W1 W2 Wi Wj) := fun p =>
  PS.le (ps_asg (pe_tup (pa_cons (h1 p) (pa_cons (h2 p) pa_nil hs2) hs1)) (pg_tup hc (pgs_cons (pg_sub (pe_var hi hv hd hcd) (hi1 p) set_list ha1) (pgs_cons (pg_sub (pe_var hi hv hd hcd) (hi2 p) set_list ha2) pgs_nil hc2) hc1) hn hst) hs hw ha) fun D σ H ⟨B, env, b, E, R, w, f⟩ => by
    unfold wSwap at w
    split at w
    · rename_i ds ho
      refine ⟨B, env, b, _, R, w, fun v H1 d b1 R1 e1 f1 w1 => ⟨B, env, b1, _, R1, w1, fun v' H2 d' b2 R2 e2 f2 w2 => ⟨by show 2 ≤ sizeLine; decide, fun t ht => ?_⟩⟩⟩
      have sm := same_new (o := .tup [v, v']) ht
      have R2' := R2.same sm
      have f1' := (f1.ext e2 R.bpa).ext (.same sm) R.bpa
      have f2' := f2.ext (.same sm) R.bpa
      refine ⟨t, [v, v'], rfl, .of upd_same, rfl, v, [v'], rfl, ?_⟩
      obtain ⟨q, xs, g1, g2, g3, g4⟩ := put_step R2' ho
      refine ⟨.ref q, g1, B, env, b2, _, R2', w2, fun u H3 kd b3 R3 e3 f3 w3 => ?_⟩
      obtain ⟨q', xs', g1', g2', g3', g4'⟩ := put_step R3 ho
      rw [g1] at g1'
      have eq' : q = q' := by simpa using g1'
      subst eq'
      cases f3 <;> try exact w3.elim
      dsimp only at w3
      split at w3
      · rename_i k j hj
        refine ⟨q, xs', _, j, rfl, rfl, g2', by rw [g3']; exact hj, ?_⟩
        obtain ⟨R4, k4⟩ := R3.put ho g1 (g4'.set (f1'.ext e3 R.bpa) j) (xs := xs')
        have hnl : n < env.length := (List.getElem?_eq_some_iff.mp ho).1
        have ho4 : (env.set n (.own (ds.set j d)))[n]? = some (.own (ds.set j d)) := List.getElem?_set_self hnl
        refine ⟨v', [], rfl, .ref q, g1, B, _, b3, _, R4, w3, fun u5 H5 kd5 b5 R5 e5 f5 w5 => ?_⟩
        obtain ⟨q6, xs6, g16, g26, g36, g46⟩ := put_step R5 ho4
        rw [g1] at g16
        have eq6 : q = q6 := by simpa using g16
        subst eq6
        cases f5 <;> try exact w5.elim
        dsimp only at w5
        split at w5
        · rename_i k' j' hj'
          refine ⟨q, xs6, _, j', rfl, rfl, g26, by rw [g36, List.length_set]; exact hj', rfl, ?_⟩
          have k04 := ((((R.ext_kp e1).trans (R1.ext_kp e2)).trans (R2.ext_kp (.same sm))).trans (R2'.ext_kp e3)).trans k4
          obtain ⟨R7, k7⟩ := R5.put ho4 g1 (g46.set (f2'.kp (((R2'.ext_kp e3).trans k4).trans (R4.ext_kp e5))) j') (xs := xs6)
          rw [List.set_set] at R7
          exact f.nx σ _ B _ b5 R7 ((k04.trans (R4.ext_kp e5)).trans k7) w5
        · exact w5.elim
      · exact w3.elim
    · exact w.elim
end
end En
/-! The engine, part 6: walks, loops, comprehensions, defs. -/
namespace En
open PySem PySem.Spec PyProof.Rows L2
/-! ### targets -/
inductive Tg where | one (i : Nat) | tup (is : List Nat)
def setAll : List Nat → List D → Env → Option Env
  | [], [], env => some env
  | i :: is, d :: ds, env => setAll is ds (env.set i (.v d))
  | _, _, _ => none
def setTg : Tg → D → Env → Option Env
  | .one i, d, env => some (env.set i (.v d))
  | .tup is, .tup ds, env => setAll is ds env
  | .tup _, _, _ => none
def Tg.ixs : Tg → List Nat | .one i => [i] | .tup is => is
/-- the reading fits the pure target -/
def TgOk (X : Cx) (T : Tg) (g : TG) : Prop := ∀ (p : Pm) (v : V) (d : D) (σ : L2.St) (H : Hp) (B : Addr → Prop) (env env' : Env) (b : Nat) (Q : L2.St → Hp → Prop), Rel X.K X.mg p B H σ env b → FR X.K X.mg p.pa B H v d → setTg T d env = some env' → X.N.length = env.length →
  (∀ σ', Rel X.K X.mg p B H σ' env' b → (∀ vs : List Nat, (∀ i ∈ T.ixs, i ∈ vs) → wipe σ' vs = wipe σ vs) → Q σ' H) → g v σ H Q
def QG (X : Cx) (tg : Expr) (T : Tg) : Prop := ∃ g, PG X tg g ∧ TgOk X T g
theorem wipe_set {σ : L2.St} {i : Nat} {o : Option V} : ∀ {vs : List Nat}, i ∈ vs → wipe (σ.set i o) vs = wipe σ vs
  | [], h => by simp at h
  | v :: vs, h => by
    unfold wipe
    by_cases z : v = i
    · subst z
      by_cases hv : v ∈ vs
      · rw [wipe_set hv]
      · have e : ∀ (vs : List Nat), v ∉ vs → wipe (σ.set v o) vs = (wipe σ vs).set v o := by
          intro vs
          induction vs with
          | nil => intro _; rfl
          | cons a r ih =>
            intro h
            have h1 : v ≠ a := fun z => h (by rw [z]; exact List.mem_cons_self)
            unfold wipe
            rw [ih fun z => h (List.mem_cons_of_mem _ z), List.set_comm _ _ h1]
        rw [e vs hv, List.set_set]
    · have hv : i ∈ vs := by
        rcases List.mem_cons.mp h with z' | z'
        · exact absurd z'.symm z
        · exact z'
      rw [wipe_set hv]
section
variable {X : Cx} {x y : Str} {pos px py : Pos}
theorem qg_name (i : Nat) (hN : X.N.Nodup) (hi : X.N[i]? = some x) (hx : Loc X.env.scope x) (hf : X.fn x = true ∨ X.env.scope.names.lookup x = some .local := by first | exact .inl rfl | exact .inr rfl | assumption) : QG X (.Name x pos) (.one i) :=
  ⟨gName i, pg_name hN hi hx hf, fun p v d σ H B env env' b Q R f h hl k => by
    simp only [setTg, Option.some.injEq] at h
    subst h
    exact k _ (R.setv (by rw [← hl]; exact (List.getElem?_eq_some_iff.mp hi).1) f) fun vs hv => wipe_set (hv i (by simp [Tg.ixs]))⟩
/-- the targets of a tuple -/
def QGs (X : Cx) (ts : List Expr) (is : List Nat) : Prop := ∃ g, PGs X ts g ∧ ∀ (p : Pm) (vs : List V) (ds : List D) (σ : L2.St) (H : Hp) (B : Addr → Prop) (env env' : Env) (b : Nat) (Q : L2.St → Hp → Prop), Rel X.K X.mg p B H σ env b → FRs X.K X.mg p.pa B H vs ds → setAll is ds env = some env' → X.N.length = env.length →
  (∀ σ', Rel X.K X.mg p B H σ' env' b → (∀ ws : List Nat, (∀ i ∈ is, i ∈ ws) → wipe σ' ws = wipe σ ws) → Q σ' H) → g vs σ H Q
theorem qgs_nil : QGs X [] [] := ⟨gNil, pgs_nil, fun p vs ds σ H B env env' b Q R f h hl k => by
  cases ds with
  | nil =>
    cases f
    simp only [setAll, Option.some.injEq] at h
    subst h
    exact ⟨rfl, k σ R fun _ _ => rfl⟩
  | cons a r => simp [setAll] at h⟩
theorem qgs_cons {e : Expr} {es : List Expr} {i : Nat} {is : List Nat} (h1 : QG X e (.one i)) (h2 : QGs X es is) (hs : (assignEach (e :: es) X.env).map (·.2) = assign e X.env :: (assignEach es X.env).map (·.2) := by rfl) : QGs X (e :: es) (i :: is) := by
  obtain ⟨g1, p1, k1⟩ := h1
  obtain ⟨g2, p2, k2⟩ := h2
  refine ⟨gCons g1 g2, pgs_cons p1 p2 hs, fun p vs ds σ H B env env' b Q R f h hl k => ?_⟩
  cases ds with
  | nil => simp [setAll] at h
  | cons d r =>
    cases f with
    | cons f1 f2 =>
      simp only [setAll] at h
      refine ⟨_, _, rfl, k1 p _ d σ H B env _ b _ R f1 rfl hl fun σ1 R1 hw1 => ?_⟩
      refine k2 p _ r σ1 H B _ env' b Q R1 f2 h (by rw [List.length_set]; exact hl) fun σ2 R2 hw2 => ?_
      exact k σ2 R2 fun ws hws => (hw2 ws fun j hj => hws j (List.mem_cons_of_mem _ hj)).trans (hw1 ws fun j hj => hws j (by simp [Tg.ixs] at hj; subst hj; exact List.mem_cons_self))
theorem qg_tup {es : List Expr} {k : Nat} {is : List Nat} (hc : X.calm = true) (h : QGs X es is) (hn : (assignEach es X.env).length = is.length := by rfl) (hst : (assignEach es X.env).findIdx? (·.1) = none := by rfl) : QG X (.Tuple es k pos) (.tup is) := by
  obtain ⟨g, pg, kk⟩ := h
  refine ⟨gTup X.K is.length g, pg_tup hc pg hn hst, fun p v d σ H B env env' b Q R f h hl k => ?_⟩
  cases f with
  | tup t r =>
    simp only [setTg] at h
    have hlen : ∀ (is : List Nat) (ds : List D) (env : Env), setAll is ds env = some env' → ds.length = is.length := by
      intro is
      induction is with
      | nil => intro ds env h; cases ds with | nil => rfl | cons a r => simp [setAll] at h
      | cons i is ih => intro ds env h; cases ds with
        | nil => simp [setAll] at h
        | cons a r => simp only [setAll] at h; simp [ih r _ h]
    exact ⟨_, _, rfl, t.sq, by rw [r.length]; exact hlen is _ env h, kk p _ _ σ H B env env' b Q R r h hl fun σ' R' hw => k σ' R' hw⟩
  | _ => simp [setTg] at h
end
/-! ### what is walked -/
/-- J walks ds, as long as what is not in B stays -/
def Walk (K : PySem.W.Frag) (mg : Str → Option Value) (pa : Addr) (J : It) (B1 : Addr → Prop) (H1 : Hp) (ds : List D) : Prop := ∀ B H, Kp B1 H1 B H → (∀ a, B a → H a ≠ none) →
  (∀ i d, ds[i]? = some d → J.go i H ∧ ∀ x H', J.yld i H x H' → Same H H' ∧ FR K mg pa B H' x d) ∧ J.stop ds.length H
def QI (X : Cx) (tg it : Expr) (W : WL) : Prop := ∀ p, ∃ wi, PI X tg it wi ∧ ∀ σ H R, (∃ B env b Qd, Rel X.K X.mg p B H σ env b ∧ W env b Qd ∧
  ∀ J H1 ds b', Rel X.K X.mg p B H1 σ env b' → Ext p.pa H H1 → Walk X.K X.mg p.pa J B H1 ds → Qd ds b' → R J H1) → wi σ H R
section
variable {X : Cx} {tg it : Expr}
theorem PI.or {w1 w2 : TI} (h1 : PI X tg it w1) (h2 : PI X tg it w2) : PI X tg it (fun σ H R => w1 σ H R ∨ w2 σ H R) := ⟨fun pins s σ H R I h => by
  rcases h with h | h
  · exact h1.run pins s σ H R I h
  · exact h2.run pins s σ H R I h⟩
theorem PI.le {w1 w2 : TI} (h1 : PI X tg it w1) (m : ∀ σ H R, w2 σ H R → w1 σ H R) : PI X tg it w2 := ⟨fun pins s σ H R I h => h1.run pins s σ H R I (m _ _ _ h)⟩
theorem sqL_inj {K : PySem.W.Frag} {H : Hp} {a : Addr} {xs : List V} {v : V} {i : Nat} (h : SqL K H a xs) {J : ∀ ys, SqL K H a ys → ys[i]? = some v} : xs[i]? = some v := J xs h
theorem walk_lst {K : PySem.W.Frag} {mg : Str → Option Value} {pa : Addr} {B1 : Addr → Prop} {H1 : Hp} {a : Addr} {xs : List V} {ds : List D} (h : H1 a = some (.lst xs)) (n : ¬ B1 a) (r : FRs K mg pa B1 H1 xs ds) : Walk K mg pa (Itl K a) B1 H1 ds := fun B H k _ => by
  have h2 := (k a _ h n).1
  have r2 := r.kp k
  refine ⟨fun i d hd => ?_, ⟨xs, .of h2, by rw [r2.length]; exact Nat.le_refl _⟩⟩
  obtain ⟨v, h3, h4⟩ := r2.get hd
  refine ⟨⟨xs, v, .of h2, h3⟩, fun x H' y => ?_⟩
  obtain ⟨e, y⟩ := y
  subst e
  have := y xs (.of h2)
  rw [h3] at this
  cases this
  exact ⟨.refl _, h4⟩
theorem walk_tup {K : PySem.W.Frag} {mg : Str → Option Value} {pa : Addr} {B1 : Addr → Prop} {H1 : Hp} {a : Addr} {xs : List V} {ds : List D} (h : TupR K B1 H1 a xs) (r : FRs K mg pa B1 H1 xs ds) : Walk K mg pa (Itt K a) B1 H1 ds := fun B H k _ => by
  have h2 := (h.kp k).sq
  have r2 := r.kp k
  refine ⟨fun i d hd => ?_, ⟨xs, h2, by rw [r2.length]; exact Nat.le_refl _⟩⟩
  obtain ⟨v, h3, h4⟩ := r2.get hd
  refine ⟨⟨xs, v, h2, h3⟩, fun x H' y => ?_⟩
  obtain ⟨e, y⟩ := y
  subst e
  have := y xs h2
  rw [h3] at this
  cases this
  exact ⟨.refl _, h4⟩
def wSeqOf (W : WE) : WL := fun env b Q => W env b fun d b1 => match d with | .tup ds => Q ds b1 | .lst ds => Q ds b1 | _ => False
def iSeq (K : PySem.W.Frag) (tl : TE) : TI := fun σ H R => tl σ H fun x H1 => ∃ a, x = .ref a ∧ ((∃ xs, SqL K H1 a xs ∧ R (Itl K a) H1) ∨ (∃ xs, SqT K H1 a xs ∧ R (Itt K a) H1))
theorem pi_seq {l : Expr} {tl : TE} (hl : PE X l tl) : PI X tg l (iSeq X.K tl) := by
  refine ⟨fun pins s σ H R I h => ?_⟩
  refine thn (hl.run pins s σ H _ I h) fun v s1 ⟨x, H1, I1, r1, q1⟩ => ?_
  obtain ⟨a, e, q⟩ := q1
  subst e
  cases r1
  have fp : ∀ b ∈ [s1.heap.objs.size], FpOk X pins H1 b := fun b hb => by
    have e : b = s1.heap.objs.size := by simpa using hb
    subst e
    exact I1.fpOk (Nat.le_refl _) (I1.hok.fresh (Nat.le_refl _))
  rcases q with ⟨xs, hq, q⟩ | ⟨xs, hq, q⟩
  · obtain ⟨its, rv, p, hz⟩ := I1.list hq
    refine wpAny_pyIter_list p.isList ?_
    exact ⟨s1.heap.objs.size, [s1.heap.objs.size], _, _, H1, rfl, I1.kept (t' := s1.toks) fun b o e => Heap.get?_push_of_some _ e, turn_list a _, ⟨_, Heap.get?_push_size _ rfl, rfl, rfl⟩, fp, q⟩
  · obtain ⟨its, rv, p, hz⟩ := I1.tuple hq
    refine wpAny_pyIter_tuple (show s1.heap.IsTuple a its.toArray from p) ?_
    exact ⟨s1.heap.objs.size, [s1.heap.objs.size], _, _, H1, rfl, I1.kept (t' := s1.toks) fun b o e => Heap.get?_push_of_some _ e, turn_tuple a _, ⟨_, Heap.get?_push_size _ rfl, rfl, rfl⟩, fp, q⟩
theorem qi_seq {W : WE} (h : QE X it W) : QI X tg it (wSeqOf W) := fun p => ⟨_, pi_seq (h p), fun σ H R ⟨B, env, b, Qd, Rl, w, k⟩ => by
  refine ⟨B, env, b, _, Rl, w, fun v H1 d b1 R1 e1 f1 q => ?_⟩
  cases f1 <;> try exact q.elim
  · rename_i t r
    exact ⟨_, rfl, .inr ⟨_, t.sq, k _ H1 _ b1 R1 e1 (walk_tup t r) q⟩⟩
  · rename_i hh n r
    exact ⟨_, rfl, .inl ⟨_, .of hh, k _ H1 _ b1 R1 e1 (walk_lst hh n r) q⟩⟩⟩
/-- range -/
def rangeD (lo : Int) (n : Nat) : List D := (List.range n).map fun (i : Nat) => D.int (lo + i)
theorem walk_rng {K : PySem.W.Frag} {mg : Str → Option Value} {pa : Addr} {B1 : Addr → Prop} {H1 : Hp} {lo : Int} {n : Nat} : Walk K mg pa (Itr lo n) B1 H1 (rangeD lo n) := fun B H k _ => by
  refine ⟨fun i d hd => ?_, by simp [rangeD, Itr]⟩
  have hi : i < n := by
    have := (List.getElem?_eq_some_iff.mp hd).1
    simpa [rangeD] using this
  refine ⟨hi, fun x H' y => ?_⟩
  obtain ⟨e, rfl⟩ := y
  subst e
  have : d = .int (lo + i) := by
    simp [rangeD, hi] at hd
    exact hd.symm
  subst this
  exact ⟨.refl _, .int _⟩
def wRng1 (W : WL) : WL := fun env b Q => W env b fun ds b1 => match ds with | [.int j] => (-(2 ^ 62) ≤ j ∧ j < 2 ^ 62) ∧ Q (rangeD 0 j.toNat) b1 | _ => False
def wRng2 (W : WL) : WL := fun env b Q => W env b fun ds b1 => match ds with | [.int i, .int j] => (-(2 ^ 62) ≤ i ∧ i < 2 ^ 62 ∧ -(2 ^ 62) ≤ j ∧ j < 2 ^ 62) ∧ Q (rangeD i (j - i).toNat) b1 | _ => False
section
variable {a c : Expr} {W : WL} {pp pos : Pos}
theorem qi_range1 (hg : Gl X "range") (hm : X.mg "range" = none) (h : QA X [a] W) (hs : starEach [a] X.env = [(false, eval a X.env)] := by rfl) : QI X tg (.Call (.Name "range" pp) [a] [] pos) (wRng1 W) := fun p => ⟨_, pi_range1 hg hm (h p) hs, fun σ H R ⟨B, env, b, Qd, Rl, w, k⟩ => by
  refine ⟨B, env, b, _, Rl, w, fun vs H1 ds b1 R1 e1 f1 hl q => ?_⟩
  split at q
  · cases f1 with
    | cons f2 f3 =>
      cases f2
      cases f3
      exact ⟨_, rfl, q.1.1, q.1.2, k _ H1 _ b1 R1 e1 walk_rng q.2⟩
  · exact q.elim⟩
theorem qi_range2 (hg : Gl X "range") (hm : X.mg "range" = none) (h : QA X [a, c] W) (hs : starEach [a, c] X.env = [(false, eval a X.env), (false, eval c X.env)] := by rfl) (hs2 : starEach [c] X.env = [(false, eval c X.env)] := by rfl) : QI X tg (.Call (.Name "range" pp) [a, c] [] pos) (wRng2 W) := fun p => ⟨_, pi_range2 hg hm (h p) hs hs2, fun σ H R ⟨B, env, b, Qd, Rl, w, k⟩ => by
  refine ⟨B, env, b, _, Rl, w, fun vs H1 ds b1 R1 e1 f1 hl q => ?_⟩
  split at q
  · cases f1 with
    | cons f2 f3 =>
      cases f2
      cases f3 with
      | cons f4 f5 =>
        cases f4
        cases f5
        exact ⟨_, _, rfl, q.1, k _ H1 _ b1 R1 e1 walk_rng q.2⟩
  · exact q.elim⟩
end
end
/-! ### loops -/
def forL (T : Tg) (W : WS) : List D → Ens → Env → Nat → Prop
  | [], E, env, b => E.nx env b
  | d :: r, E, env, b => match setTg T d env with
    | some env1 => W { nx := fun e b => forL T W r E e b, ct := fun e b => forL T W r E e b, bk := E.nx, rt := E.rt } env1 b
    | none => False
def wFor (T : Tg) (WI : WL) (W : WS) : WS := fun E env b => WI env b fun ds b1 => forL T W ds E env b1
def whL (C : WT) (W : WS) (E : Ens) : Nat → Env → Nat → Prop
  | 0, _, _ => False
  | n + 1, env, b => C env b fun c b1 => wIf c (W { nx := fun e b => whL C W E n e b, ct := fun e b => whL C W E n e b, bk := E.nx, rt := E.rt } env b1) (E.nx env b1)
def wWhile (C : WT) (W : WS) : WS := fun E env b => ∃ n, whL C W E n env b
section
variable {X : Cx} {tg it : Expr} {body : List Stmt} {T : Tg} {WI : WL} {W : WS} {C : WT} {pos : Pos}
theorem qs_for (hp : PassesOwn (model X.prog X.w) X.A X.env X.xe) (hc : X.calm = true) (hi : QI X tg it WI) (hg : QG X tg T) (hb : QSs X body W) (hs : ∀ x, foldedSetIterable it X.env x = pure x := by intro _; rfl) : QS X (.For tg it body [] pos) (wFor T WI W) := fun p => by
  obtain ⟨wi, pi, ki⟩ := hi p
  obtain ⟨g, pg, kg⟩ := hg
  refine ⟨fun pins s σ H D I ⟨B, env, b, E, R, w, f⟩ => (ps_for hp hc pi pg (hb p) hs).run pins s σ H D I ?_⟩
  have hlen : X.N.length = env.length := by rw [R.len]; exact I.len.symm
  refine ki σ H _ ⟨B, env, b, _, R, w, fun J H1 ds b1 R1 e1 wk q => ?_⟩
  have f1 := f.kp (R.ext_kp e1)
  refine ⟨fun i m σ H => m = ds.length - i ∧ i ≤ ds.length ∧ ∃ B' env b, Rel X.K X.mg p B' H σ env b ∧ Kp B H1 B' H ∧ forL T W (ds.drop i) E env b, ⟨ds.length, rfl, Nat.zero_le _, B, env, b1, R1, .refl _ _, q⟩, ?_⟩
  rintro i m σ2 H2 ⟨rfl, hi, B2, env2, b2, R2, k2, q2⟩
  obtain ⟨w1, w2⟩ := wk B2 H2 k2 R2.trk
  by_cases hlt : i < ds.length
  · have hd : ds[i]? = some ds[i] := List.getElem?_eq_getElem hlt
    rw [List.drop_eq_getElem_cons hlt] at q2
    simp only [forL] at q2
    obtain ⟨g1, g2⟩ := w1 i _ hd
    refine .inr ⟨g1, fun σ' H' => ∃ B' env b, Rel X.K X.mg p B' H' σ' env b ∧ Kp B H1 B' H' ∧ forL T W (ds.drop (i + 1)) E env b, fun σ' H' h => ⟨ds.length - (i + 1), by omega, rfl, hlt, h⟩, fun x H' y => ?_⟩
    obtain ⟨sm, fx⟩ := g2 x H' y
    split at q2
    · rename_i env3 he
      have R3 := R2.same sm
      have k3 := k2.trans (R2.ext_kp (.same sm))
      refine kg p x _ σ2 H' B2 env2 env3 b2 _ R3 fx he (by rw [hlen, R.nl, R2.nl]) fun σ4 R4 _ => ?_
      refine ⟨B2, env3, b2, _, R4, q2, ⟨fun σ5 H5 B5 env5 b5 R5 k5 q5 => ?_, fun σ5 H5 B5 env5 b5 R5 k5 q5 => f1.nx σ5 H5 B5 env5 b5 R5 (k3.trans k5) q5, fun σ5 H5 B5 env5 b5 R5 k5 q5 => ?_, f1.rt⟩⟩
      · exact ⟨B5, env5, b5, R5, k3.trans k5, q5⟩
      · exact ⟨B5, env5, b5, R5, k3.trans k5, q5⟩
    · exact q2.elim
  · have e : i = ds.length := by omega
    subst e
    rw [List.drop_length] at q2
    exact .inl ⟨w2, f1.nx σ2 H2 B2 env2 b2 R2 k2 q2⟩
theorem qs_while {t : Expr} (hp : PassesOwn (model X.prog X.w) X.A X.env X.xe) (ht : QT X t C) (hb : QSs X body W) : QS X (.While t body [] pos) (wWhile C W) := fun p => PS.le (ps_while hp (ht p) (hb p)) fun D σ H ⟨B, env, b, E, R, w, f⟩ => by
  obtain ⟨n, w⟩ := w
  refine ⟨fun m σ' H' => ∃ B' env b, Rel X.K X.mg p B' H' σ' env b ∧ Kp B H B' H' ∧ whL C W E m env b, ⟨n, B, env, b, R, .refl _ _, w⟩, ?_⟩
  rintro m σ2 H2 ⟨B2, env2, b2, R2, k2, q2⟩
  cases m with
  | zero => exact q2.elim
  | succ m =>
    refine ⟨B2, env2, b2, _, R2, q2, fun c H3 b3 R3 e3 q3 => wIf_ite ?_⟩
    have k3 := k2.trans (R2.ext_kp e3)
    cases c with
    | true =>
      exact ⟨fun σ' H' => ∃ B' env b, Rel X.K X.mg p B' H' σ' env b ∧ Kp B H B' H' ∧ whL C W E m env b, fun σ' H' h => ⟨m, Nat.lt_succ_self _, h⟩, B2, env2, b3, _, R3, q3,
        ⟨fun σ5 H5 B5 env5 b5 R5 k5 q5 => ⟨B5, env5, b5, R5, k3.trans k5, q5⟩, fun σ5 H5 B5 env5 b5 R5 k5 q5 => f.nx σ5 H5 B5 env5 b5 R5 (k3.trans k5) q5, fun σ5 H5 B5 env5 b5 R5 k5 q5 => ⟨B5, env5, b5, R5, k3.trans k5, q5⟩, f.rt⟩⟩
    | false => exact f.nx σ2 H3 B2 env2 b3 R3 k3 q3
end
/-! ### comprehensions -/
def wYes : WT := fun _ b Q => Q true b
def QTs (X : Cx) (ifs : List Expr) (C : WT) : Prop := ∀ p, PTs X ifs (tT X.K X.mg p C)
theorem PTs.le {X : Cx} {e : List Expr} {t t' : TT} (h : PTs X e t) (m : ∀ σ H Q, t' σ H Q → t σ H Q) : PTs X e t' := ⟨fun pins s σ H Q I hw => h.run pins s σ H Q I (m _ _ _ hw)⟩
theorem qts_nil {X : Cx} : QTs X [] wYes := fun p => PTs.le pts_nil fun σ H Q ⟨B, env, b, Qd, R, w, k⟩ => k true H b R (.refl _ _) w
theorem qts_one {X : Cx} {c : Expr} {C : WT} (h : QT X c C) : QTs X [c] C := fun p => pts_one (h p)
def cmpL (T : Tg) (C : WT) (We : WE) (env0 : Env) : List D → Nat → (List D → Nat → Prop) → Prop
  | [], b, Q => Q [] b
  | d :: r, b, Q => match setTg T d env0 with
    | some env1 => C env1 b fun c b1 => wIf c (We env1 b1 fun x b2 => cmpL T C We env0 r b2 fun xs b3 => Q (x :: xs) b3) (cmpL T C We env0 r b1 Q)
    | none => False
def wComp (vs : List Nat) (T : Tg) (WI : WL) (C : WT) (We : WE) : WL := fun env b Q => WI env b fun ds b1 => ds.length < 1000000 ∧ cmpL T C We (wipeE env vs) ds b1 Q
section
variable {X : Cx} {tg it elt : Expr} {ifs : List Expr} {T : Tg} {WI : WL} {C : WT} {We : WE} {scope : Scope} {own : List (Str × Nat)} {pos spos py : Pos} {y : Str}
/-- the comprehension's reading from the pure one -/
theorem comp_le {p : Pm} {wi : TI} {g : TG} (ki : ∀ σ H R, (∃ B env b Qd, Rel X.K X.mg p B H σ env b ∧ WI env b Qd ∧ ∀ J H1 ds b', Rel X.K X.mg p B H1 σ env b' → Ext p.pa H H1 → Walk X.K X.mg p.pa J B H1 ds → Qd ds b' → R J H1) → wi σ H R)
    (kg : TgOk X T g) (hsub : ∀ i ∈ T.ixs, i ∈ own.map (·.2)) {σ : L2.St} {H : Hp} {Q : VK} (hl : σ.length = X.N.length) (h : tFr X.K X.mg p (wComp (own.map (·.2)) T WI C We) σ H Q) : tLc wi g (tT X.K X.mg p C) (tOf X.K X.mg p We) (own.map (·.2)) σ H Q := by
  obtain ⟨B, env, b, Qd, R, w, k⟩ := h
  refine ki σ H _ ⟨B, env, b, _, R, w, fun J H1 ds b1 R1 e1 wk q => ?_⟩
  obtain ⟨hsz, q⟩ := q
  have hline := line_ge
  intro D hD
  have hD0 : H D = none := fresh_back R1 e1 hD
  have nB : ¬ B D := fun z => R1.trk D z hD
  -- the state of the walk
  let Inv' : Nat → Hp → Prop := fun i H' => ∃ acc dacc b' Qr, H' D = some (.lst acc) ∧ FRs X.K X.mg p.pa (fun a => B a ∨ a = D) H' acc dacc ∧ Ext p.pa H1 H' ∧ PenOk p.pa p.ca H' b' ∧ acc.length ≤ i ∧
    cmpL T C We (wipeE env (own.map (·.2))) (ds.drop i) b' Qr ∧ ∀ xs b2, Qr xs b2 → Qd (dacc ++ xs) b2
  have relM : ∀ {H' : Hp} {b' : Nat}, H' D ≠ none → Ext p.pa H1 H' → PenOk p.pa p.ca H' b' → Rel X.K X.mg p (fun a => B a ∨ a = D) H' σ env b' := fun h1 h2 h3 => R1.stepM hD h1 h2 h3
  have kpD : ∀ {H' : Hp}, H' D ≠ none → Ext p.pa H1 H' → Kp B H1 (fun a => B a ∨ a = D) H' := fun h1 h2 a o ha na => ⟨(R1.ext_kp h2 a o ha na).1, fun z => z.elim na (ne_of_none ha hD)⟩
  refine ⟨fun i m H' => m = ds.length - i ∧ i ≤ ds.length ∧ Inv' i H', ⟨ds.length, rfl, Nat.zero_le _, [], [], b1, Qd, upd_same, .nil, .same (same_new hD), R1.pen.same (same_new hD), Nat.le_refl _, q, fun xs b2 h => h⟩, ?_⟩
  rintro i m H2 ⟨rfl, hi, acc, dacc, b2, Qr, hacc, facc, ext2, pen2, hai, q2, hQ⟩
  have nD : H2 D ≠ none := by rw [hacc]; simp
  have RM := relM nD ext2 pen2
  obtain ⟨w1, w2⟩ := wk _ H2 (kpD nD ext2) RM.trk
  by_cases hlt : i < ds.length
  · have hd : ds[i]? = some ds[i] := List.getElem?_eq_getElem hlt
    rw [List.drop_eq_getElem_cons hlt] at q2
    simp only [cmpL] at q2
    obtain ⟨g1, g2⟩ := w1 i _ hd
    refine .inr ⟨g1, Inv' (i + 1), fun H' h => ⟨ds.length - (i + 1), by omega, rfl, hlt, h⟩, fun x H' yy => ?_⟩
    obtain ⟨sm, fx⟩ := g2 x H' yy
    split at q2
    · rename_i env1 he
      have RM' := RM.same sm
      have RW := RM'.wipe (own.map (·.2))
      refine kg p x _ _ H' _ _ env1 b2 _ RW fx he (by rw [← hl, ← R.len, RW.nl, R.nl]) fun σ4 R4 hw => ?_
      refine ⟨?_, _, env1, b2, _, R4, q2, fun c H5 b5 R5 e5 q5 => ?_⟩
      · have e1 := hw (own.map (·.2)) hsub
        rw [e1]
        -- wiping twice is wiping once
        have idem : ∀ (vs : List Nat), wipe (wipe σ vs) vs = wipe σ vs := by
          have put : ∀ (vs : List Nat) (τ : L2.St) (i : Nat), i ∈ vs → wipe (τ.set i none) vs = wipe τ vs := fun vs τ i h => wipe_set h
          have many : ∀ (us vs : List Nat), (∀ u ∈ us, u ∈ vs) → wipe (wipe σ us) vs = wipe σ vs := by
            intro us
            induction us with
            | nil => intro vs _; rfl
            | cons u us ih =>
              intro vs h
              show wipe ((wipe σ us).set u none) vs = _
              rw [put vs _ u (h u List.mem_cons_self)]
              exact ih vs fun a ha => h a (List.mem_cons_of_mem _ ha)
          exact fun vs => many vs vs fun _ h => h
        exact idem _
      · have ext5 : Ext p.pa H1 H5 := (ext2.trans (.same sm)).trans e5
        have hacc5 : H5 D = some (.lst acc) := e5 _ _ (sm _ _ hacc) (R4.pen.ne (sm _ _ hacc))
        have facc5 := (facc.ext (.same sm) RM.bpa).ext e5 RM.bpa
        refine wIf_ite ?_
        cases c with
        | true =>
          refine ⟨_, env1, b5, _, R5, q5, fun v6 H6 d6 b6 R6 e6 f6 q6 => ?_⟩
          have hacc6 : H6 D = some (.lst acc) := e6 _ _ hacc5 (R5.pen.ne hacc5)
          have facc6 := facc5.ext e6 RM.bpa
          refine ⟨acc, hacc6, by omega, acc ++ [v6], dacc ++ [d6], b6, _, upd_same, ?_, ?_, ?_, by simp; omega, q6, fun xs b7 h => ?_⟩
          · refine (facc6.append (.cons f6 .nil)).kp fun a o ha na => ⟨by rw [upd_ne (fun z => na (.inr z))]; exact ha, na⟩
          · intro a o ha na
            rw [upd_ne (fun z => by rw [z, hD] at ha; cases ha)]
            exact (ext5.trans e6) a o ha na
          · have nDp : D ≠ p.pa := fun z => nB (z ▸ R.bpa)
            have nDc : D ≠ p.ca := fun z => nB (z ▸ R.sub _ R.oca)
            exact R6.pen.put nDp nDc
          · have := hQ _ _ h
            simpa using this
        | false =>
          exact ⟨acc, dacc, b5, Qr, hacc5, facc5, ext5, R5.pen, by omega, q5, hQ⟩
    · exact q2.elim
  · have e : i = ds.length := by omega
    subst e
    rw [List.drop_length] at q2
    simp only [cmpL] at q2
    have := hQ _ _ q2
    rw [List.append_nil] at this
    exact .inl ⟨w2, k D acc H2 dacc b2 (R1.step ext2 pen2) RM (e1.trans ext2) hacc facc nB hD0 this⟩
theorem qf_comp (hc : X.calm = true) (hN : X.N.Nodup) (hi : QI X tg it WI) (ok : BlkOk X.N X.env.scope scope own) (hsub : ∀ i ∈ T.ixs, i ∈ own.map (·.2))
    (hg : ∃ g, (∀ (s : Shared) (H : Hp) (C' : Addr) (cl : List (Str × Addr)) (fp : List Addr), PG (X.blk s H scope (compEnvC scope cl C' X.env) fp) tg g) ∧ TgOk X T g)
    (ht : ∀ (s : Shared) (H : Hp) (C' : Addr) (cl : List (Str × Addr)) (fp : List Addr), QTs (X.blk s H scope (compEnvC scope cl C' X.env) fp) ifs C) (he : ∀ (s : Shared) (H : Hp) (C' : Addr) (cl : List (Str × Addr)) (fp : List Addr), QE (X.blk s H scope (compEnvC scope cl C' X.env) fp) elt We)
    (hs : ∀ x, foldedSetIterable it X.env x = pure x := by intro _; rfl) : QF X (.ListComp elt [⟨tg, it, ifs, 0⟩] scope pos) (wComp (own.map (·.2)) T WI C We) := fun p => by
  obtain ⟨wi, pi, ki⟩ := hi p
  obtain ⟨g, pg, kg⟩ := hg
  have base := pe_lc (own := own) (te := tOf X.K X.mg p We) (tt := tT X.K X.mg p C) hc hN pi ok pg (fun s H C' cl fp => ht s H C' cl fp p) (fun s H C' cl fp => he s H C' cl fp p) hs (pos := pos)
  exact ⟨fun pins s σ H Q I h => base.run pins s σ H Q I (comp_le ki kg hsub I.len h)⟩
/-- name = [..], the name a plain local -/
theorem qs_setComp (i : Nat) (hc : X.calm = true) (hN : X.N.Nodup) (hy : X.N[i]? = some y) (hyl : X.env.scope.names.lookup y = some .local) (hsw : swapsWith (.ListComp elt [⟨tg, it, ifs, 0⟩] scope pos) (some (.Name y py)) spos.line X.env = pure true)
    (hi : QI X tg it WI) (ok : BlkOk X.N X.env.scope scope own) (hsub : ∀ i ∈ T.ixs, i ∈ own.map (·.2))
    (hg : ∃ g, (∀ (s : Shared) (H : Hp) (C' : Addr) (cl : List (Str × Addr)) (fp : List Addr), PG (X.blk s H scope (compEnvC scope cl C' X.env) fp) tg g) ∧ TgOk X T g)
    (ht : ∀ (s : Shared) (H : Hp) (C' : Addr) (cl : List (Str × Addr)) (fp : List Addr), QTs (X.blk s H scope (compEnvC scope cl C' X.env) fp) ifs C) (he : ∀ (s : Shared) (H : Hp) (C' : Addr) (cl : List (Str × Addr)) (fp : List Addr), QE (X.blk s H scope (compEnvC scope cl C' X.env) fp) elt We)
    (hs : ∀ x, foldedSetIterable it X.env x = pure x := by intro _; rfl) : QS X (.Assign [.Name y py] (.ListComp elt [⟨tg, it, ifs, 0⟩] scope pos) spos) (wSetO i (wComp (own.map (·.2)) T WI C We)) := fun p => by
  obtain ⟨wi, pi, ki⟩ := hi p
  obtain ⟨g, pg, kg⟩ := hg
  have base := ps_setLc (own := own) (te := tOf X.K X.mg p We) (tt := tT X.K X.mg p C) hc hN hy hyl hsw pi ok pg (fun s H C' cl fp => ht s H C' cl fp p) (fun s H C' cl fp => he s H C' cl fp p) hs
  refine ⟨fun pins s σ H D I ⟨B, env, b, E, R, w, f⟩ => base.run pins s σ H D I (comp_le (T := T) (WI := WI) (C := C) (We := We) (Q := fun x H1 => gName i x σ H1 D.nx) ki kg hsub I.len ⟨B, env, b, _, R, w, fun q xs H1 ds b1 R1 R2 e1 hq fq nB n q' => ?_⟩)⟩
  exact f.nx _ H1 _ _ b1 (R2.seto (B0 := B) R1 (len_of I.len R1 hy) hq fq nB (R.new0 n)) (fun a o ha na => ⟨(R.ext_kp e1 a o ha na).1, fun z => z.elim na (ne_of_none ha n)⟩) q'
end
end En
/-! The engine, part 7: enumerate, zip, defs by their bodies, objects made. -/
namespace En
open PySem PySem.Spec PyProof.Rows L2
/-! ### enumerate, zip -/
def enumD (n : Nat) : List D → List D
  | [] => []
  | d :: r => .tup [.int (n : Nat), d] :: enumD (n + 1) r
theorem enumD_get : ∀ (ds : List D) (n i : Nat) (d : D), (enumD n ds)[i]? = some d → ∃ x, ds[i]? = some x ∧ d = .tup [.int ((n + i : Nat) : Int), x]
  | [], _, _, _, h => by simp [enumD] at h
  | x :: r, n, 0, d, h => by
    simp [enumD] at h
    exact ⟨x, rfl, by simp [← h]⟩
  | x :: r, n, i + 1, d, h => by
    obtain ⟨y, h1, h2⟩ := enumD_get r (n + 1) i d (by simpa [enumD] using h)
    exact ⟨y, by simpa using h1, by rw [h2]; congr 3; omega⟩
theorem enumD_length : ∀ (ds : List D) (n : Nat), (enumD n ds).length = ds.length
  | [], _ => rfl
  | _ :: r, n => by simp [enumD, enumD_length r (n + 1)]
def zipD : List D → List D → List D
  | a :: r, b :: s => .tup [a, b] :: zipD r s
  | _, _ => []
theorem zipD_get : ∀ (xs ys : List D) (i : Nat) (d : D), (zipD xs ys)[i]? = some d → ∃ x y, xs[i]? = some x ∧ ys[i]? = some y ∧ d = .tup [x, y]
  | [], _, _, _, h => by simp [zipD] at h
  | _ :: _, [], _, _, h => by simp [zipD] at h
  | a :: r, b :: s, 0, d, h => by
    simp [zipD] at h
    exact ⟨a, b, rfl, rfl, h.symm⟩
  | a :: r, b :: s, i + 1, d, h => by
    obtain ⟨x, y, h1, h2, h3⟩ := zipD_get r s i d (by simpa [zipD] using h)
    exact ⟨x, y, by simpa using h1, by simpa using h2, h3⟩
theorem zipD_length : ∀ (xs ys : List D), (zipD xs ys).length = min xs.length ys.length
  | [], _ => by simp [zipD]
  | _ :: _, [] => by simp [zipD]
  | a :: r, b :: s => by
    simp only [zipD, List.length_cons, zipD_length r s]
    omega
theorem FRs.fn {K : PySem.W.Frag} {mg : Str → Option Value} {pa : Addr} {B : Addr → Prop} {H : Hp} {vs : List V} {ds : List D} {i : Nat} {d : D} {v : V} (r : FRs K mg pa B H vs ds) (hd : ds[i]? = some d) (hv : vs[i]? = some v) : FR K mg pa B H v d := by
  obtain ⟨v', h1, h2⟩ := r.get hd
  rw [hv] at h1
  cases h1
  exact h2
theorem same_kp {B : Addr → Prop} {H H' : Hp} (s : Same H H') : Kp B H B H' := fun a o h n => ⟨s a o h, n⟩
theorem walk_enum {K : PySem.W.Frag} {mg : Str → Option Value} {pa : Addr} {B1 : Addr → Prop} {H1 : Hp} {a : Addr} {xs : List V} {ds : List D} (h : H1 a = some (.lst xs)) (n : ¬ B1 a) (r : FRs K mg pa B1 H1 xs ds) : Walk K mg pa (Ite K a) B1 H1 (enumD 0 ds) := fun B H k tr => by
  have h2 := (k a _ h n).1
  have r2 := r.kp k
  refine ⟨fun i d hd => ?_, ⟨xs, .of h2, by rw [r2.length, enumD_length]; exact Nat.le_refl _⟩⟩
  obtain ⟨x, h3, rfl⟩ := enumD_get ds 0 i d hd
  obtain ⟨v, h4, h5⟩ := r2.get h3
  refine ⟨⟨xs, v, .of h2, h4⟩, fun u H' y => ?_⟩
  obtain ⟨T, w, rfl, hT, rfl, hw⟩ := y
  have := hw xs (.of h2)
  rw [h4] at this
  cases this
  have s := same_new (o := .tup [.int (i : Nat), v]) hT
  refine ⟨s, .tup (.inl ⟨upd_same, fun z => tr T z hT⟩) (.cons ?_ (.cons (h5.kp (same_kp s)) .nil))⟩
  rw [Nat.zero_add]
  exact .int _
theorem walk_zipL {K : PySem.W.Frag} {mg : Str → Option Value} {pa : Addr} {B1 : Addr → Prop} {H1 : Hp} {a b : Addr} {xs ys : List V} {ds es : List D} (h : H1 a = some (.lst xs)) (n : ¬ B1 a) (r : FRs K mg pa B1 H1 xs ds) (h' : H1 b = some (.lst ys)) (n' : ¬ B1 b) (r' : FRs K mg pa B1 H1 ys es) : Walk K mg pa (Itz K a b) B1 H1 (zipD ds es) := fun B H k tr => by
  have h2 := (k a _ h n).1
  have r2 := r.kp k
  have h2' := (k b _ h' n').1
  have r2' := r'.kp k
  refine ⟨fun i d hd => ?_, ⟨xs, ys, .of h2, .of h2', by rw [r2.length, r2'.length, zipD_length]; omega⟩⟩
  obtain ⟨x, y, h3, h3', rfl⟩ := zipD_get ds es i d hd
  obtain ⟨v, h4, h5⟩ := r2.get h3
  obtain ⟨v', h4', h5'⟩ := r2'.get h3'
  refine ⟨⟨xs, ys, v, v', .of h2, .of h2', h4, h4'⟩, fun u H' y => ?_⟩
  obtain ⟨T, w, w', rfl, hT, rfl, hw, hw'⟩ := y
  have e1 := hw xs (.of h2)
  rw [h4] at e1
  cases e1
  have e2 := hw' ys (.of h2')
  rw [h4'] at e2
  cases e2
  have s := same_new (o := .tup [v, v']) hT
  exact ⟨s, .tup (.inl ⟨upd_same, fun z => tr T z hT⟩) (.cons (h5.kp (same_kp s)) (.cons (h5'.kp (same_kp s)) .nil))⟩
theorem walk_zipT {K : PySem.W.Frag} {mg : Str → Option Value} {pa : Addr} {B1 : Addr → Prop} {H1 : Hp} {a b : Addr} {xs ys : List V} {ds es : List D} (h : TupR K B1 H1 a xs) (r : FRs K mg pa B1 H1 xs ds) (h' : TupR K B1 H1 b ys) (r' : FRs K mg pa B1 H1 ys es) : Walk K mg pa (RZ.ItzT K a b) B1 H1 (zipD ds es) := fun B H k tr => by
  have h2 := (h.kp k).sq
  have r2 := r.kp k
  have h2' := (h'.kp k).sq
  have r2' := r'.kp k
  refine ⟨fun i d hd => ?_, ⟨xs, ys, h2, h2', by rw [r2.length, r2'.length, zipD_length]; omega⟩⟩
  obtain ⟨x, y, h3, h3', rfl⟩ := zipD_get ds es i d hd
  obtain ⟨v, h4, h5⟩ := r2.get h3
  obtain ⟨v', h4', h5'⟩ := r2'.get h3'
  refine ⟨⟨xs, ys, v, v', h2, h2', h4, h4'⟩, fun u H' y => ?_⟩
  obtain ⟨T, w, w', rfl, hT, rfl, hw, hw'⟩ := y
  have e1 := hw xs h2
  rw [h4] at e1
  cases e1
  have e2 := hw' ys h2'
  rw [h4'] at e2
  cases e2
  have s := same_new (o := .tup [v, v']) hT
  exact ⟨s, .tup (.inl ⟨upd_same, fun z => tr T z hT⟩) (.cons (h5.kp (same_kp s)) (.cons (h5'.kp (same_kp s)) .nil))⟩
def wEnum (W : WL) : WL := fun env b Q => W env b fun ds b1 => match ds with | [.lst xs] => Q (enumD 0 xs) b1 | _ => False
def wZip (W : WL) : WL := fun env b Q => W env b fun ds b1 => match ds with | [.lst xs, .lst ys] => Q (zipD xs ys) b1 | [.tup xs, .tup ys] => Q (zipD xs ys) b1 | _ => False
section
variable {X : Cx} {a c : Expr} {W : WL} {pp pos tpos : Pos} {elts : List Expr} {kk : Nat}
theorem qi_enum (hg : Gl X "enumerate") (hm : X.mg "enumerate" = none) (h : QA X [a] W) (hs : starEach [a] X.env = [(false, eval a X.env)] := by rfl) : QI X (.Tuple elts kk tpos) (.Call (.Name "enumerate" pp) [a] [] pos) (wEnum W) := fun p => ⟨_, pi_enum hg hm (h p) hs, fun σ H R ⟨B, env, b, Qd, Rl, w, k⟩ => by
  refine ⟨B, env, b, _, Rl, w, fun vs H1 ds b1 R1 e1 f1 hl q => ?_⟩
  split at q
  · cases f1 with
    | cons f2 f3 =>
      cases f3
      cases f2 with
      | lst hh n r => exact ⟨_, _, rfl, .of hh, k _ H1 _ b1 R1 e1 (walk_enum hh n r) q⟩
  · exact q.elim⟩
theorem qi_zip (hg : Gl X "zip") (hm : X.mg "zip" = none) (h : QA X [a, c] W) (hs : starEach [a, c] X.env = (false, eval a X.env) :: starEach [c] X.env := by rfl) (hpl : (backTo pos (starEach [c] X.env)).any (·.1) = false := by rfl) :
    QI X (.Tuple elts kk tpos) (.Call (.Name "zip" pp) [a, c] [] pos) (wZip W) := fun p => ⟨_, RZ.pi_zipA hg hm (h p) hs hpl, fun σ H R ⟨B, env, b, Qd, Rl, w, k⟩ => by
  refine ⟨B, env, b, _, Rl, w, fun vs H1 ds b1 R1 e1 f1 hl q => ?_⟩
  split at q
  · cases f1 with
    | cons f2 f3 =>
      cases f3 with
      | cons f4 f5 =>
        cases f5
        cases f2 with
        | lst hh n r =>
          cases f4 with
          | lst hh' n' r' => exact ⟨_, _, _, _, rfl, .inl ⟨.of hh, .of hh', k _ H1 _ b1 R1 e1 (walk_zipL hh n r hh' n' r') q⟩⟩
  · cases f1 with
    | cons f2 f3 =>
      cases f3 with
      | cons f4 f5 =>
        cases f5
        cases f2 with
        | tup t r =>
          cases f4 with
          | tup t' r' => exact ⟨_, _, _, _, rfl, .inr ⟨t.sq, t'.sq, k _ H1 _ b1 R1 e1 (walk_zipT t r t' r') q⟩⟩
  · exact q.elim⟩
end
/-! ### the target of a comprehension -/
section
variable {X : Cx} {x y : Str} {px py pos : Pos} {scope : Scope}
theorem tgOk_name {i : Nat} (hi : X.N[i]? = some x) : TgOk X (.one i) (gName i) := fun p v d σ H B env env' b Q R f h hl k => by
  simp only [setTg, Option.some.injEq] at h
  subst h
  exact k _ (R.setv (by rw [← hl]; exact (List.getElem?_eq_some_iff.mp hi).1) f) fun vs hv => wipe_set (hv i (by simp [Tg.ixs]))
theorem hg_name (i : Nat) (hN : X.N.Nodup) (hi : X.N[i]? = some x) (hx : ∀ (C' : Addr) (cl : List (Str × Addr)), Loc (compEnvC scope cl C' X.env).scope x := by intro _ _; first | exact Or.inl rfl | exact Or.inr rfl)
    (hf : (∀ (s : Shared) (H : Hp) (C' : Addr) (cl : List (Str × Addr)) (fp : List Addr), (X.blk s H scope (compEnvC scope cl C' X.env) fp).fn x = true ∨ (X.blk s H scope (compEnvC scope cl C' X.env) fp).env.scope.names.lookup x = some .local) := by intro _ _ _ _ _; first | exact .inl rfl | exact .inr rfl) :
    ∃ g, (∀ (s : Shared) (H : Hp) (C' : Addr) (cl : List (Str × Addr)) (fp : List Addr), PG (X.blk s H scope (compEnvC scope cl C' X.env) fp) (.Name x pos) g) ∧ TgOk X (.one i) g :=
  ⟨gName i, fun s H C' cl fp => pg_name (X := X.blk s H scope (compEnvC scope cl C' X.env) fp) hN hi (hx C' cl) (hf s H C' cl fp), tgOk_name hi⟩
theorem hg_pair (i j : Nat) {kk : Nat} (hc : X.calm = true) (hN : X.N.Nodup) (hi : X.N[i]? = some x) (hj : X.N[j]? = some y) (hx : ∀ (C' : Addr) (cl : List (Str × Addr)), Loc (compEnvC scope cl C' X.env).scope x := by intro _ _; first | exact Or.inl rfl | exact Or.inr rfl)
    (hy : ∀ (C' : Addr) (cl : List (Str × Addr)), Loc (compEnvC scope cl C' X.env).scope y := by intro _ _; first | exact Or.inl rfl | exact Or.inr rfl)
    (hf : (∀ (s : Shared) (H : Hp) (C' : Addr) (cl : List (Str × Addr)) (fp : List Addr), (X.blk s H scope (compEnvC scope cl C' X.env) fp).fn x = true ∨ (X.blk s H scope (compEnvC scope cl C' X.env) fp).env.scope.names.lookup x = some .local) := by intro _ _ _ _ _; first | exact .inl rfl | exact .inr rfl)
    (hf2 : (∀ (s : Shared) (H : Hp) (C' : Addr) (cl : List (Str × Addr)) (fp : List Addr), (X.blk s H scope (compEnvC scope cl C' X.env) fp).fn y = true ∨ (X.blk s H scope (compEnvC scope cl C' X.env) fp).env.scope.names.lookup y = some .local) := by intro _ _ _ _ _; first | exact .inl rfl | exact .inr rfl) :
    ∃ g, (∀ (s : Shared) (H : Hp) (C' : Addr) (cl : List (Str × Addr)) (fp : List Addr), PG (X.blk s H scope (compEnvC scope cl C' X.env) fp) (.Tuple [.Name x px, .Name y py] kk pos) g) ∧ TgOk X (.tup [i, j]) g := by
  refine ⟨gTup X.K 2 (gCons (gName i) (gCons (gName j) gNil)), fun s H C' cl fp => pg_tup (X := X.blk s H scope (compEnvC scope cl C' X.env) fp) hc (pgs_cons (pg_name hN hi (hx C' cl) (hf s H C' cl fp)) (pgs_cons (pg_name hN hj (hy C' cl) (hf2 s H C' cl fp)) pgs_nil)), ?_⟩
  intro p v d σ H B env env' b Q R f h hl k
  cases f with
  | tup t r =>
    simp only [setTg] at h
    rename_i a xs ds
    match ds, h, r with
    | [d1, d2], h, r =>
      simp only [setAll, Option.some.injEq] at h
      subst h
      cases r with
      | cons r1 r2 =>
        cases r2 with
        | cons r3 r4 =>
          cases r4
          refine ⟨_, _, rfl, t.sq, rfl, _, _, rfl, _, _, rfl, rfl, ?_⟩
          have li : i < env.length := by rw [← hl]; exact (List.getElem?_eq_some_iff.mp hi).1
          have lj : j < (env.set i (.v d1)).length := by rw [List.length_set, ← hl]; exact (List.getElem?_eq_some_iff.mp hj).1
          refine k _ ((R.setv li r1).setv lj r3) fun vs hv => ?_
          rw [wipe_set (hv j (by simp [Tg.ixs])), wipe_set (hv i (by simp [Tg.ixs]))]
    | [], h, _ => simp [setAll] at h
    | [_], h, _ => simp [setAll] at h
    | _ :: _ :: _ :: _, h, _ => simp [setAll] at h
  | _ => simp [setTg] at h
end
/-! ### a def by its body -/
section
variable {P : Program} {w : World} {K : PySem.W.Frag} {mg : Str → Option Value} {base : Heap}
theorem start_rel {pa ca : Addr} {B : Addr → Prop} {H : Hp} {vs : List V} {ds : List D} {N : List Str} {n b : Nat} (hl : vs.length = n) (hN : n ≤ N.length) (trk : ∀ a, B a → H a ≠ none) (bpa : B pa) (bca : B ca) (po : PenOk pa ca H b) (f : FRs K mg pa B H vs ds) :
    Rel K mg ⟨pa, ca, B, H, N.length⟩ B H (L2.start N vs) (ds.map Slot.v ++ List.replicate (N.length - n) .un) b := by
  have e := f.length
  refine ⟨fun _ h => h, trk, bpa, bca, po, .refl _ _, by simp [L2.start, ← e, hl], by simp [← e, hl]; omega, fun i s h => ?_⟩
  by_cases hi : i < ds.length
  · rw [List.getElem?_append_left (by simpa using hi), List.getElem?_map, List.getElem?_eq_getElem hi] at h
    simp at h
    subst h
    obtain ⟨v, h1, h2⟩ := f.get (List.getElem?_eq_getElem hi)
    refine ⟨v, ?_, h2⟩
    unfold L2.start
    rw [List.getElem?_append_left (by simp [e]; exact hi), List.getElem?_map, h1]
    rfl
  · rw [List.getElem?_append_right (by simpa using hi), List.getElem?_replicate] at h
    split at h <;> simp at h
    subst h
    trivial
theorem pre_len {N ps : List Str} {sc : Scope} (S : FnScope N ps sc) : ps.length ≤ N.length := by
  have := congrArg List.length S.pre
  rw [List.length_take] at this
  omega
theorem df_of {x qual : Str} {st : Stmt} {f : Addr} {fd : FuncData} {N ps : List Str} {k : Nat} {pt : Spec} {W : WS} (F : Fun K x qual st f fd) (S : FnScope N ps (defScope st)) (hm : mg x = some (.ref f)) (bd : Binds K fd ps [])
    (hb : ∀ (cdv : Value) (A : Around) (outer : List PySem.Env) (s : Shared) (H : Hp) (E : XK), Room k (A.deeper (envOfC qual (defScope st) s.heap.objs.size f cdv)) → QSs (cxOf CX0 P w K mg base N qual (defScope st) f cdv A outer s H E).nox (defBody st) W)
    (hp : ∀ ds b Q, ds.length = ps.length → pt ds b Q → W { nx := fun _ b' => Q .non b', rt := Q } (ds.map Slot.v ++ List.replicate (N.length - ps.length) .un) b) : Df P w K mg base (k + 1) x ps.length pt := by
  refine ⟨f, fd, ps, hm, F.kp, bd, rfl, F.ok S (fun vs H Q E h => h.1) fun cdv A outer s H vs Q E hr h => ?_⟩
  obtain ⟨hl, pa, ca, B, ds, b, Qd, trk, bpa, bca, po, fr, q, kk⟩ := h
  refine ⟨_, hb cdv A outer s H E hr ⟨pa, ca, B, H, N.length⟩, ?_⟩
  have e := fr.length
  refine ⟨B, _, b, _, start_rel hl (pre_len S) trk bpa bca po fr, hp ds b Qd (by rw [← e, hl]) q, ⟨fun σ' H' B' env' b' R' k' q' => kk .non H' .non b' R'.ext R'.pen .non q', fun _ _ _ _ _ _ _ z => z.elim, fun _ _ _ _ _ _ _ z => z.elim, fun v H' d b' f' e' po' q' => kk v H' d b' e' po' f' q'⟩⟩
end
/-! ### objects: made by C(..), the fields stored one after another -/
def cpD : D → D
  | .lst ds => .tup ds
  | d => d
/-- no objects among them -/
def noObj (ds : List D) : Bool := ds.all fun d => d.ty.isSome
def spInit (K : PySem.W.Frag) (mg : Str → Option Value) (C : Addr) (fs : List Str) : Sp := fun vs H Q _ => vs.length = fs.length + 1 ∧ ∃ x dx pa ca B ds b rest, vs = .ref x :: rest ∧ noObj ds = true ∧ H x = some (.ins C dx []) ∧ x ≠ pa ∧ x ≠ ca ∧ ¬ B x ∧ (∀ a, B a → H a ≠ none) ∧ B pa ∧ B ca ∧ PenOk pa ca H b ∧ FRs K mg pa (fun a => B a ∨ a = x) H rest ds ∧
  ∀ H' ws b', (∀ a o, H a = some o → a ≠ x → a ≠ pa → H' a = some o) → PenOk pa ca H' b → H' x = some (.ins C dx (fs.zip ws)) → FRs K mg pa B H' ws (ds.map cpD) → b' = b → Q .non H'
structure MkOk (P : Program) (w : World) (K : PySem.W.Frag) (mg : Str → Option Value) (base : Heap) (k : Nat) (c : Str) (fs : List Str) : Prop where
  ex : ∃ (C f : Addr) (fd : FuncData) (ps : List Str), mg c = some (.ref C) ∧ Mk K C f ∧ ClsF K C ∧ (∀ f ∈ fs, NoAttr K C f) ∧ Binds K fd ps [] ∧ ps.length = fs.length + 1 ∧ FnOk P w K mg base CX0 k f fd ps (spInit K mg C fs)
def wMake (c : Str) (fs : List Str) (W : WL) : WE := fun env b Q => W env b fun ds b1 => (decide (ds.length = fs.length) && noObj ds) = true ∧ Q (.ins c (fs.zip (ds.map cpD))) b1
theorem FRf.zip {K : PySem.W.Frag} {mg : Str → Option Value} {pa : Addr} {B : Addr → Prop} {H : Hp} : ∀ {fs : List Str} {ws : List V} {ds : List D}, FRs K mg pa B H ws ds → FRf K mg pa B H (fs.zip ws) (fs.zip ds)
  | [], _, _, _ => .nil
  | _ :: _, _, _, .nil => .nil
  | f :: fs, _, _, .cons h r => .cons h (FRf.zip r)
section
variable {X : Cx} {c : Str} {fs : List Str} {k : Nat} {e : Expr} {es : List Expr} {Ws : WL} {pos pp : Pos}
theorem qe_make (M : MkOk X.prog X.w X.K X.mg X.base k c fs) (hr : Room (k + 1) X.A) (hg : Gl X c) (ha : QA X (e :: es) Ws) (hdb : (c == ("__debug__" : Str)) = false := by decide)
    (he : starEach (e :: es) X.env = (false, eval e X.env) :: starEach es X.env := by rfl) (hpl : (backTo pos (starEach es X.env)).any (·.1) = false := by rfl) : QE X (.Call (.Name c pp) (e :: es) [] pos) (wMake c fs Ws) := fun p => by
  obtain ⟨C, f, fd, ps, hm, mk, cf, na, bd, hn, G⟩ := M.ex
  refine PE.le (pe_make (E := E0) mk G hr hg hm bd .nil pass0 (ha p) hdb he hpl) fun σ H Q ⟨B, env, b, Qd, R, w, kk⟩ => ?_
  refine ⟨B, env, b, _, R, w, fun vs H1 ds b1 R1 e1 f1 hl q => fun x dx nx nd ne => ?_⟩
  rw [List.append_nil]
  have hv := f1.length
  have qq := q.1
  rw [Bool.and_eq_true, decide_eq_true_eq] at qq
  have s1 : Same H1 (upd (upd H1 dx (.own x)) x (.ins C dx [])) := fun a o ho => by
    rw [upd_ne (ne_of_none ho nx), upd_ne (ne_of_none ho nd)]
    exact ho
  have nB : ¬ B x := fun z => R1.trk x z nx
  refine ⟨by simp [hv, qq.1], x, dx, p.pa, p.ca, B, ds, b1, vs, rfl, qq.2, upd_same, fun z => nB (z ▸ R1.bpa), fun z => nB (z ▸ R1.sub _ R1.oca), nB, fun a ha => ?_, R1.bpa, R1.sub _ R1.oca, R1.pen.same s1, f1.kp (fun a o ha na => ⟨s1 a o ha, fun z => z.elim na (ne_of_none ha nx)⟩), fun H' ws b' h1 h2 h3 h4 _ => ⟨rfl, ?_⟩⟩
  · have := R1.trk a ha
    cases hh : H1 a with
    | none => exact absurd hh this
    | some o => rw [s1 a o hh]; simp
  · have ext : Ext p.pa H1 H' := fun a o ho na => h1 a o (s1 a o ho) (ne_of_none ho nx) na
    refine kk (.ref x) H' _ b1 (R1.step ext h2) (e1.trans ext) (.ins hm cf (fun g hg => ?_) h3 nB (FRf.zip h4)) q.2
    exact na _ (List.of_mem_zip hg).1
end
/-! the making itself -/
def tI (K : PySem.W.Frag) (mg : Str → Option Value) (x C dx : Addr) (p : Pm) (W : (List (Str × D) → Nat → Prop) → Env → List (Str × D) → Nat → Prop) : TS := fun D σ H => ∃ B env gs fv b Qd, Rel K mg p B H σ env b ∧ B x ∧ p.H0 x = none ∧ x ≠ p.pa ∧ x ≠ p.ca ∧ H x = some (.ins C dx fv) ∧ FRf K mg p.pa B H fv gs ∧ σ[0]? = some (some (.ref x)) ∧ W Qd env gs b ∧
  ∀ H' fv' gs' b' B', Rel K mg p B' H' σ env b' → B' x → H' x = some (.ins C dx fv') → FRf K mg p.pa B' H' fv' gs' → Qd gs' b' → D.nx σ H'
abbrev WIn := (List (Str × D) → Nat → Prop) → Env → List (Str × D) → Nat → Prop
def wInF (f : Str) (W : WE) : WIn := fun Q env gs b => W env b fun d b' => (f ∉ gs.map (·.1) ∧ gs.length < 900) ∧ Q (gs ++ [(f, d)]) b'
def wInS (W1 W2 : WIn) : WIn := fun Q env gs b => W1 (fun gs' b' => W2 Q env gs' b') env gs b
theorem putF_new {f : Str} {v : V} : ∀ {fs : List (Str × V)}, f ∉ fs.map (·.1) → putF f v fs = fs ++ [(f, v)]
  | [], _ => rfl
  | (g, y) :: r, h => by
    have h1 : g ≠ f := fun z => h (by simp [z])
    have h2 : f ∉ r.map (·.1) := fun z => h (by simp only [List.map_cons, List.mem_cons]; exact .inr z)
    unfold putF
    rw [if_neg h1, putF_new h2]
    rfl
theorem FRf.keys {K : PySem.W.Frag} {mg : Str → Option Value} {pa : Addr} {B : Addr → Prop} {H : Hp} : ∀ {fs : List (Str × V)} {gs : List (Str × D)}, FRf K mg pa B H fs gs → fs.map (·.1) = gs.map (·.1)
  | _, _, .nil => rfl
  | _, _, .cons h r => by simp [FRf.keys r]
theorem FRf.app {K : PySem.W.Frag} {mg : Str → Option Value} {pa : Addr} {B : Addr → Prop} {H : Hp} {f : Str} {v : V} {d : D} (h : FR K mg pa B H v d) : ∀ {fs : List (Str × V)} {gs : List (Str × D)}, FRf K mg pa B H fs gs → FRf K mg pa B H (fs ++ [(f, v)]) (gs ++ [(f, d)])
  | _, _, .nil => .cons h .nil
  | _, _, .cons h' r => .cons h' (FRf.app h r)
section
variable {X : Cx} {e : Expr} {We : WE} {pos pos' ps : Pos} {f self : Str} {x C dx : Addr} {p : Pm}
theorem ps_in (h : QE X e We) (hi : X.N[0]? = some self) (hv : Vis X.env.scope self) (cl : Cls X.K C) (na : NoAttr X.K C f) (hs : swapsWith e (some (.Attribute (.Name self ps) f pos')) pos.line X.env = pure false := by rfl) (hd : (self == ("__debug__" : Str)) = false := by decide) (hcd : (self == ("__classdict__" : Str)) = false := by decide) :
    PS X (.Assign [.Attribute (.Name self ps) f pos'] e pos) (tI X.K X.mg x C dx p (wInF f We)) := PS.le (ps_fld (pe_var hi hv hd hcd) (h p) hs) fun D σ H ⟨B, env, gs, fv, b, Qd, R, bx, n0, np, nc, hx, ff, h0, w, kk⟩ => by
  refine ⟨B, env, b, _, R, w, fun v H1 d b1 R1 e1 f1 q => ⟨.ref x, h0, x, C, dx, fv, rfl, e1 _ _ hx np, cl, na, ?_, ?_⟩⟩
  · have h1 := congrArg List.length ff.keys
    simp only [List.length_map] at h1
    have := q.1.2
    omega
  · have hx1 := e1 _ _ hx np
    have ff1 := ff.kp (R.ext_kp e1)
    have hn : f ∉ fv.map (·.1) := by rw [ff.keys]; exact q.1.1
    have kp : Kp B H1 B (upd H1 x (.ins C dx (putF f v fv))) := fun a o ha n => ⟨by rw [upd_ne (fun z => n (by rw [z]; exact bx))]; exact ha, n⟩
    refine kk _ (putF f v fv) (gs ++ [(f, d)]) b1 B ⟨R1.sub, fun a ha => ?_, R1.opa, R1.oca, R1.pen.put np nc, fun a o ha na' => ?_, R1.len, R1.nl, fun i s hs => ?_⟩ bx upd_same ?_ q.2
    · by_cases z : a = x
      · rw [z, upd_same]; simp
      · rw [upd_ne z]; exact R1.trk a ha
    · rw [upd_ne (fun z => by rw [z, n0] at ha; cases ha)]
      exact R1.ext a o ha na'
    · have hq := R1.slots i s hs
      cases s with
      | un => trivial
      | v d' =>
        obtain ⟨u, g1, g2⟩ := hq
        exact ⟨u, g1, g2.kp kp⟩
      | own ds =>
        obtain ⟨a, ys, g1, g2, g3, g4⟩ := hq
        exact ⟨a, ys, g1, by rw [upd_ne (fun z => by rw [z, hx1] at g2; cases g2)]; exact g2, g3.kp kp, g4⟩
    · have g1 := FRf.app (f := f) (f1.kp kp) (ff1.kp kp)
      rw [← putF_new hn] at g1
      exact g1
theorem pss_in {st : Stmt} {sts : List Stmt} {W1 W2 : WIn} (h1 : PS X st (tI X.K X.mg x C dx p W1)) (h2 : PSs X sts (tI X.K X.mg x C dx p W2)) : PSs X (st :: sts) (tI X.K X.mg x C dx p (wInS W1 W2)) := PSs.le (pss_cons h1 h2) fun D σ H ⟨B, env, gs, fv, b, Qd, R, bx, n0, np, nc, hx, ff, h0, w, kk⟩ =>
  ⟨B, env, gs, fv, b, _, R, bx, n0, np, nc, hx, ff, h0, w, fun H' fv' gs' b' B' R' bx' hx' ff' q => ⟨B', env, gs', fv', b', Qd, R', bx', n0, np, nc, hx', ff', h0, q, kk⟩⟩
end
section
variable {P : Program} {w : World} {K : PySem.W.Frag} {mg : Str → Option Value} {base : Heap}
theorem mk_of {c qual : Str} {st : Stmt} {C f : Addr} {fd : FuncData} {N ps fs : List Str} {k : Nat} {W : WIn} (F : Fun K "__init__" qual st f fd) (S : FnScope N ps (defScope st)) (hm : mg c = some (.ref C)) (mk : Mk K C f) (cf : ClsF K C) (na : ∀ f ∈ fs, NoAttr K C f) (bd : Binds K fd ps []) (hps : ps.length = fs.length + 1)
    (hb : ∀ (cdv : Value) (A : Around) (outer : List PySem.Env) (s : Shared) (H : Hp) (E : XK) (x dx : Addr) (p : Pm), Room k (A.deeper (envOfC qual (defScope st) s.heap.objs.size f cdv)) → PSs (cxOf CX0 P w K mg base N qual (defScope st) f cdv A outer s H E).nox (defBody st) (tI K mg x C dx p W))
    (hp : ∀ (ds : List D) (b : Nat), ds.length = fs.length → noObj ds = true → W (fun gs b' => gs = fs.zip (ds.map cpD) ∧ b' = b) (.un :: ds.map Slot.v ++ List.replicate (N.length - ps.length) .un) [] b) : MkOk P w K mg base (k + 1) c fs := by
  refine ⟨C, f, fd, ps, hm, mk, cf, na, bd, hps, F.ok S (fun vs H Q E h => by rw [h.1, hps]) fun cdv A outer s H vs Q E hr h => ?_⟩
  obtain ⟨hl, x, dx, pa, ca, B, ds, b, rest, rfl, hno, hx, np, nc, nB, trk, bpa, bca, po, fr, kk⟩ := h
  have hv := fr.length
  have hl' : rest.length = fs.length := by simpa using hl
  refine ⟨_, hb cdv A outer s H E x dx ⟨pa, ca, fun a => B a ∨ a = x, fun a => if a = x then none else H a, N.length⟩ hr, ?_⟩
  have base := start_rel (N := N) (n := ps.length) (vs := .ref x :: rest) (ds := .non :: ds) (K := K) (mg := mg) (pa := pa) (ca := ca) (B := fun a => B a ∨ a = x) (H := H) (b := b)
  have R0 : Rel K mg ⟨pa, ca, fun a => B a ∨ a = x, fun a => if a = x then none else H a, N.length⟩ (fun a => B a ∨ a = x) H (L2.start N (.ref x :: rest)) (.un :: ds.map Slot.v ++ List.replicate (N.length - ps.length) .un) b := by
    have hpl := pre_len S
    refine ⟨fun _ h => h, fun a ha => ?_, .inl bpa, .inl bca, po, fun a o ha na => ?_, ?_, ?_, fun i s h => ?_⟩
    · rcases ha with ha | ha
      · exact trk a ha
      · rw [ha, hx]; simp
    · dsimp only at ha
      split at ha
      · cases ha
      · exact ha
    · simp [L2.start, ← hv, hps, hl']
    · simp [← hv, hps, hl']; omega
    · cases i with
      | zero =>
        simp at h
        subst h
        trivial
      | succ i =>
        by_cases hi : i < ds.length
        · rw [List.cons_append, List.getElem?_cons_succ, List.getElem?_append_left (by simpa using hi), List.getElem?_map, List.getElem?_eq_getElem hi] at h
          simp at h
          subst h
          obtain ⟨v, h1, h2⟩ := fr.get (List.getElem?_eq_getElem hi)
          refine ⟨v, ?_, h2⟩
          unfold L2.start
          rw [List.map_cons, List.cons_append, List.getElem?_cons_succ, List.getElem?_append_left (by simp [hv]; exact hi), List.getElem?_map, h1]
          rfl
        · rw [List.cons_append, List.getElem?_cons_succ, List.getElem?_append_right (by simpa using hi), List.getElem?_replicate] at h
          split at h <;> simp at h
          subst h
          trivial
  refine ⟨_, _, [], [], b, _, R0, .inr rfl, if_pos rfl, np, nc, hx, .nil, by simp [L2.start], hp ds b (by rw [← hv, hl']) hno, fun H' fv' gs' b' B' R' bx' hx' ff' q => ?_⟩
  obtain ⟨q1, q2⟩ := q
  subst q1 q2
  -- the fields are there
  have split_ : ∀ (fs : List Str) (es : List D) (fv : List (Str × V)), fs.length = es.length → FRf K mg pa B' H' fv (fs.zip es) → ∃ ws, fv = fs.zip ws ∧ FRs K mg pa B' H' ws es := by
    intro fs
    induction fs with
    | nil =>
      intro es fv hlen h
      cases es with
      | nil =>
        cases h
        exact ⟨[], rfl, .nil⟩
      | cons a r => simp at hlen
    | cons g gs ih =>
      intro es fv hlen h
      cases es with
      | nil => simp at hlen
      | cons a r =>
        cases h with
        | cons h1 h2 =>
          obtain ⟨ws, e1, e2⟩ := ih r _ (by simpa using hlen) h2
          exact ⟨_ :: ws, by rw [e1]; rfl, .cons h1 e2⟩
  obtain ⟨ws, e1, e2⟩ := split_ fs (ds.map cpD) fv' (by simp [← hv, hl']) ff'
  refine kk H' ws b' (fun a o ha na nap => R'.ext a o (by show (if a = x then none else H a) = some o; rw [if_neg na]; exact ha) nap) R'.pen (by rw [hx', e1]) (e2.kp fun a o ha na => ⟨ha, fun z => na (R'.sub a (.inl z))⟩) rfl
end
end En
/-! The engine, part 8: slices by steps, sums of tuples and lists, repr of a bool, wide division, short names. -/
namespace En
open PySem PySem.Spec PyProof.Rows L2
/-! ### slices by a step -/
/-- the items of xs[lo:hi:st] -/
def cutStep {α : Type} (xs : List α) (lo hi : Option Int) (st : Int) : List α :=
  (List.range (Builtin.Slice.slicePlaces (Builtin.Slice.sliceAdjust lo hi st xs.length).1 (Builtin.Slice.sliceAdjust lo hi st xs.length).2 st)).filterMap fun (k : Nat) => xs[((Builtin.Slice.sliceAdjust lo hi st xs.length).1 + (k : Int) * st).toNat]?
section
variable {prog : Program} {w : World} {A : Around} {E : Value → Shared → Prop} {s : Shared}
theorem sliceApplied_step {sl : Addr} {vl vu vs : Value} {lo hi : Option Int} {c : Int} {n : Nat} {Q : Int × Int × Nat → Shared → Prop} (hs : s.heap.IsSliceOf sl vl vu vs) (pl : IsPart vl lo) (pu : IsPart vu hi) (ps : IsPart vs (some c)) (h0 : c ≠ 0)
    (h : Q ((Builtin.Slice.sliceAdjust lo hi c (n : Int)).1, c, Builtin.Slice.slicePlaces (Builtin.Slice.sliceAdjust lo hi c (n : Int)).1 (Builtin.Slice.sliceAdjust lo hi c (n : Int)).2 c) s) : wpAny (model prog w) A (Builtin.Slice.sliceApplied (.ref sl) (pure (n : Int))) Q E s := by
  obtain ⟨os, hos, hcs, hds⟩ := _root_.id hs
  unfold Builtin.Slice.sliceApplied Builtin.Slice.sliceFields
  refine wpAny_bind (wpAny_bind (wpAny_field hos hds (x := vl) rfl (wpAny_bind (wpAny_field hos hds (x := vu) rfl (wpAny_bind (wpAny_field hos hds (x := vs) rfl (wpAny_pure ?_)))))))
  refine wpAny_bind (HT.slicePart_ ps ?_)
  show wpAny _ _ (if ((c : Int) == 0) = true then _ else _) _ _ s
  rw [if_neg (by simpa using h0)]
  refine wpAny_bind (HT.slicePart_ pl (wpAny_bind (HT.slicePart_ pu (wpAny_bind (wpAny_pure ?_)))))
  show wpAny _ _ (match Builtin.Slice.sliceAdjust lo hi c (n : Int) with | (lo, hi) => pure (lo, (c : Int), Builtin.Slice.slicePlaces lo hi c)) _ _ s
  exact wpAny_pure h
theorem getItem_tuple_step {t sl : Addr} {items : Array Value} {vl vu vs : Value} {lo hi : Option Int} {c : Int} {Q : Value → Shared → Prop} (ht : IsTup s.heap t items) (hs : s.heap.IsSliceOf sl vl vu vs) (pl : IsPart vl lo) (pu : IsPart vu hi) (ps : IsPart vs (some c)) (h0 : c ≠ 0) (h1 : c ≠ 1)
    (h : Q (.ref s.heap.objs.size) { s with heap := s.heap.push { cls := .type "tuple", data := .seq (cutStep items.toList lo hi c).toArray } })
    (hsz : (cutStep items.toList lo hi c).length ≤ sizeLine) : wpAny (model prog w) A (getItem (.ref t) (.ref sl)) Q E s := by
  have htake : sizeOk (.seq (cutStep items.toList lo hi c).toArray) := by
    show (cutStep items.toList lo hi c).toArray.size ≤ sizeLine
    rw [List.size_toArray]
    exact hsz
  obtain ⟨os, hos, hcs, hds⟩ := _root_.id hs
  have hTs : s.TypeIs (.ref sl) "slice" := ⟨os, hos, hcs⟩
  unfold getItem
  try with_reducible refine wpAny_holding ?_
  first | refine wpAny_bind (wpAny_pure ?_) | skip
  refine wpAny_bind (wpAny_sequenceKey ht.typeIs (by decide) ?_)
  refine wpAny_bind (wpAny_callSpecial?_slot (name := Str.ofString "__getitem__") ht.typeIs PyProof.Rows.slot_tuple_getitem
    (wpAny_call_entry PyProof.Rows.slot_tuple_getitem ht.typeIs entry_tuple_getitem ?_ (args_tuple_getitem _ _)))
  show wpAny _ _ (Builtin.Tuple.tupleItemsOf (.ref t) >>= _) _ _ s
  refine wpAny_bind (tupleItemsOf_ ht ?_)
  refine wpAny_bind (wpAny_typeOf hTs ?_)
  rw [if_pos (by decide)]
  refine wpAny_bind (sliceApplied_step hs pl pu ps h0 ?_)
  have hno : ∀ (a : Int) (b : Bool), ¬ ((a == 0 && c == 1 && b) = true) := by
    intro a b q
    rw [Bool.and_eq_true, Bool.and_eq_true] at q
    exact h1 (eq_of_beq q.1.2)
  dsimp only
  refine wpAny_ite_false (decide_eq_false (hno _ _)) ?_
  have e : ((List.range (Builtin.Slice.slicePlaces (Builtin.Slice.sliceAdjust lo hi c (items.size : Int)).1 (Builtin.Slice.sliceAdjust lo hi c (items.size : Int)).2 c)).filterMap fun (k : Nat) => items[((Builtin.Slice.sliceAdjust lo hi c (items.size : Int)).1 + (k : Int) * c).toNat]?).toArray = (cutStep items.toList lo hi c).toArray := by
    unfold cutStep
    rw [Array.length_toList]
    simp only [Array.getElem?_toList]
  rw [e]
  first
    | exact wpAny_bind (m := Builtin.Tuple.tupleExact _) (wpAny_newObj_type (wpAny_pure ⟨_, rfl, wpAny_pure h⟩) htake)
    | exact wpAny_bind (m := Builtin.Tuple.tupleExact _) (wpAny_newObj_type (wpAny_bind (wpAny_pure (wpAny_pure ⟨_, rfl, wpAny_pure h⟩))) htake)
    | exact wpAny_bind (wpAny_bind (m := Builtin.Tuple.tupleExact _) (wpAny_newObj_type (wpAny_pure (wpAny_pure ⟨_, rfl, wpAny_pure h⟩)) htake))
    | exact wpAny_bind (wpAny_bind (m := Builtin.Tuple.tupleExact _) (wpAny_newObj_type (wpAny_pure ⟨_, rfl, wpAny_pure h⟩) htake))
end
theorem vals_filt {xs : List V} {us : List Value} (r : Vals xs us) (f : Nat → Nat) : ∀ (l : List Nat), Vals (l.filterMap fun k => xs[f k]?) (l.filterMap fun k => us[f k]?)
  | [] => .nil
  | k :: l => by
    rw [List.filterMap_cons, List.filterMap_cons]
    cases h : xs[f k]? with
    | none =>
      rw [r.none_of h]
      exact vals_filt r f l
    | some x =>
      obtain ⟨u, h1, h2⟩ := r.get h
      rw [h1]
      exact .cons h2 (vals_filt r f l)
theorem frs_filt {K : PySem.W.Frag} {mg : Str → Option Value} {pa : Addr} {B : Addr → Prop} {H : Hp} {xs : List V} {us : List D} (r : FRs K mg pa B H xs us) (f : Nat → Nat) : ∀ (l : List Nat), FRs K mg pa B H (l.filterMap fun k => xs[f k]?) (l.filterMap fun k => us[f k]?)
  | [] => .nil
  | k :: l => by
    rw [List.filterMap_cons, List.filterMap_cons]
    cases h : us[f k]? with
    | none =>
      have : xs[f k]? = none := by
        rw [List.getElem?_eq_none_iff] at h ⊢
        rw [r.length]
        exact h
      rw [this]
      exact frs_filt r f l
    | some x =>
      obtain ⟨u, h1, h2⟩ := r.get h
      rw [h1]
      exact .cons h2 (frs_filt r f l)
theorem filt_le {α : Type} {xs : List α} {f : Nat → Nat} : ∀ (l : List Nat), (l.filterMap fun k => xs[f k]?).length ≤ l.length := fun l => List.length_filterMap_le _ _
def dStep (st : Int) (d : D) (lo hi : Option Int) (Q : D → Prop) : Prop := match d with
  | .tup ds => (st ≠ 0 ∧ st ≠ 1 ∧ (cutStep ds lo hi st).length ≤ 1000000) ∧ Q (.tup (cutStep ds lo hi st))
  | _ => False
def wSls (W : WE) (Wl Wh Ws : WO) : WE := fun env b Q => W env b fun d b1 => Wl env b1 fun lo b2 => Wh env b2 fun hi b3 => Ws env b3 fun st b4 => match st with
  | some c => dStep c d lo hi fun r => Q r b4
  | none => False
section
variable {X : Cx} {e : Expr} {lo hi : Option Expr} {st : Expr} {W : WE} {Wl Wh Ws : WO} {pos p2 : Pos} {te : TE} {tl th tc : TO}
def rSlS (K : PySem.W.Frag) : V → Option Int → Option Int → Option Int → Hp → VK → Prop := fun x lo hi st H Q => ∃ a xs c, x = .ref a ∧ st = some c ∧ SqT K H a xs ∧ c ≠ 0 ∧ c ≠ 1 ∧ (cutStep xs lo hi c).length ≤ sizeLine ∧ ∀ p, H p = none → Q (.ref p) (upd H p (.tup (cutStep xs lo hi c)))
def tSls (K : PySem.W.Frag) (te : TE) (tl th tc : TO) : TE := fun σ H Q => te σ H fun x H1 => tl σ H1 fun l H2 => th σ H2 fun u H3 => tc σ H3 fun c H4 => rSlS K x l u c H4 Q
/-- t[lo:hi:step] of a tuple -/
theorem pe_slstep (he : PE X e te) (hl : PO X lo tl) (hu : PO X hi th) (hc : PO X (some st) tc) : PE X (.Subscript e (.Slice lo hi (some st) p2) pos) (tSls X.K te tl th tc) := by
  refine ⟨fun pins s σ H Q I h => ?_⟩
  refine Subscript_ (thn (he.run pins s σ H _ I h) fun v s1 ⟨x, H1, I1, r1, q1⟩ => ?_)
  refine wpAny_Slice (thn (hl.run pins s1 σ H1 _ I1 q1) fun vl s2 ⟨l, H2, I2, pl, q2⟩ => thn (hu.run pins s2 σ H2 _ I2 q2) fun vu s3 ⟨u, H3, I3, pu, q3⟩ => thn (hc.run pins s3 σ H3 _ I3 q3) fun vs s4 ⟨c', H4, I4, ps, q4⟩ => ?_)
  obtain ⟨a, xs, c, rfl, rfl, hT, h0, h1, hz, q⟩ := q4
  cases r1
  have I5 : Inv X pins σ H4 { s4 with heap := s4.heap.push { cls := .type "slice", data := .fields #[vl, vu, vs] } } := I4.kept (t' := s4.toks) fun b ob q => Heap.get?_push_of_some _ q
  obtain ⟨its, r, ht, hsz⟩ := I5.tuple hT
  have hlen : its.length = xs.length := r.length.symm
  show wpAny (model X.prog X.w) X.A (subscriptTail e (.Slice lo hi (some st) p2) (.ref a) (.ref s4.heap.objs.size)) (EP X pins σ Q) X.xe { s4 with heap := s4.heap.push { cls := .type "slice", data := .fields #[vl, vu, vs] } }
  have rc : Vals (cutStep xs l u c) (cutStep its l u c) := by
    unfold cutStep
    rw [hlen]
    exact vals_filt r _ _
  refine tail_any (ops := [.ref a, .ref s4.heap.objs.size]) ht.typeIs PyProof.Rows.slot_tuple_getitem.lookup ?_ (by rfl)
  refine getItem_tuple_step ht (Heap.IsSliceOf.new ..) pl pu ps h0 h1 ?_ (by rw [← rc.length]; exact hz)
  refine ⟨.ref _, _, I5.laid (t' := s4.toks) (o := .tup (cutStep xs l u c)) (fun b ob q => Heap.get?_push_of_some _ q) (Nat.le_refl _) ?_, rfl, q _ (I5.hok.fresh (Nat.le_refl _))⟩
  exact ⟨hz, _, rc, IsTup.new _ _⟩
theorem qe_sls (h : QB X e W) (hl : QO X lo Wl) (hh : QO X hi Wh) (hs : QO X (some st) Ws) : QE X (.Subscript e (.Slice lo hi (some st) p2) pos) (wSls W Wl Wh Ws) := fun p =>
  PE.le (pe_slstep (h p) (hl p) (hh p) (hs p)) fun σ H Q ⟨B, env, b, Qd, R, w, k⟩ => by
    have hl := line_ge
    refine ⟨B, env, b, _, R, w, fun v H1 d b1 R1 e1 f1 q => ⟨B, env, b1, _, R1, q, fun o1 H2 b2 R2 e2 q2 => ⟨B, env, b2, _, R2, q2, fun o2 H3 b3 R3 e3 q3 => ⟨B, env, b3, _, R3, q3, fun o3 H4 b4 R4 e4 q4 => ?_⟩⟩⟩⟩
    have f3 := ((f1.ext R1 e2).ext R2 e3).ext R3 e4
    cases o3 with
    | none => exact q4.elim
    | some c =>
      unfold dStep at q4
      cases d <;> try exact q4.elim
      obtain ⟨n, xs, rfl, h1, t1, r1⟩ := f3.tup
      have hlen := r1.length
      rename_i ds
      have rc : FRs X.K X.mg p.pa B H4 (cutStep xs o1 o2 c) (cutStep ds o1 o2 c) := by
        unfold cutStep
        rw [hlen]
        exact frs_filt r1 _ _
      obtain ⟨⟨g0, g1, g2⟩, q4⟩ := q4
      exact ⟨n, xs, c, rfl, rfl, h1, g0, g1, by rw [rc.length]; omega, fun l hl => k _ _ _ b4 (R4.same (same_new hl)) ((((e1.trans e2).trans e3).trans e4).trans (.same (same_new hl))) (FR.newT R4 hl rc) q4⟩
end
/-! ### the reverse of a tuple -/
theorem filt_rev {α : Type} (xs : List α) : ∀ n, n ≤ xs.length → ((List.range n).filterMap fun (k : Nat) => xs[((xs.length : Int) - 1 + (k : Int) * -1).toNat]?) = xs.reverse.take n
  | 0, _ => by simp
  | n + 1, h => by
    have e : ((xs.length : Int) - 1 + (n : Int) * -1).toNat = xs.length - 1 - n := by omega
    rw [List.range_succ, List.filterMap_append, filt_rev xs n (by omega), List.filterMap_cons, List.filterMap_nil]
    rw [e, List.getElem?_eq_getElem (show xs.length - 1 - n < xs.length by omega), List.take_add_one, List.getElem?_reverse (by omega), List.getElem?_eq_getElem (show xs.length - 1 - n < xs.length by omega)]
    rfl
theorem cut_rev {α : Type} (xs : List α) : cutStep xs none none (-1) = xs.reverse := by
  unfold cutStep
  have h1 : ((-1 : Int) < 0) := by omega
  have h2 : ¬ ((-1 : Int) > 0) := by omega
  have e1 : Builtin.Slice.sliceAdjust none none (-1) (xs.length : Int) = ((xs.length : Int) - 1, -1) := by
    unfold Builtin.Slice.sliceAdjust
    simp only [h1, if_true]
  rw [e1]
  have e2 : Builtin.Slice.slicePlaces ((xs.length : Int) - 1) (-1) (-1) = xs.length := by
    unfold Builtin.Slice.slicePlaces
    simp only [h2, if_false]
    split
    · rename_i h
      have : ((xs.length : Int) - 1 - -1 - 1) / - -1 = (xs.length : Int) - 1 := by
        rw [show (- -1 : Int) = 1 by rfl, Int.ediv_one]
        omega
      rw [this]
      omega
    · omega
  dsimp only
  rw [e2, filt_rev xs _ (Nat.le_refl _), List.take_of_length_le (by simp)]
/-! ### int.bit_length -/
section
variable {X : Cx} {e : Expr} {W : WE} {pos apos : Pos}
theorem qe_bits (h : QB X e W) (hbase : attributeBase e "bit_length" X.env (eval e X.env) = eval e X.env := by rfl) (hline : (apos.endLine == pos.line) = true := by rfl) : QE X (.Call (.Attribute e "bit_length" apos) [] [] pos) (wUn dBits W) := fun p => PE.le (pe_bits (h p) hbase hline) fun σ H Q ⟨B, env, b, Qd, R, w, k⟩ => by
  refine ⟨B, env, b, _, R, w, fun x H1 dx b1 R1 e1 fx w1 => ?_⟩
  cases dx <;> try exact w1.elim
  exact ⟨_, fx.int, k _ _ _ _ R1 e1 (.int _) w1⟩
end
/-! ### lists: a + b, a * n as new lists -/
def wCat (Wa Wb : WE) : WL := fun env b Q => Wa env b fun x b1 => Wb env b1 fun y b2 => match x, y with
  | .lst xs, .lst ys => xs.length + ys.length ≤ 1000000 ∧ Q (xs ++ ys) b2
  | _, _ => False
def wRep (Wa Wb : WE) : WL := fun env b Q => Wa env b fun x b1 => Wb env b1 fun y b2 => match x, y with
  | .lst xs, .int k => (xs.length * k.toNat ≤ 1000000 ∧ -(2 ^ 63) ≤ k ∧ k < 2 ^ 63) ∧ Q (List.replicate k.toNat xs).flatten b2
  | _, _ => False
section
variable {X : Cx} {a c : Expr} {Wa Wc : WE} {pos : Pos}
theorem qf_cat (ha : QB X a Wa) (hc : QB X c Wc) : QF X (.BinOp a .Add c pos) (wCat Wa Wc) := fun p =>
  PE.le (pe_op op_cat (ha p) (hc p)) fun σ H Q ⟨B, env, b, Qd, R, w, k⟩ => by
    have hl := line_ge
    refine ⟨B, env, b, _, R, w, fun x H1 dx b1 R1 e1 fx w1 => ⟨B, env, b1, _, R1, w1, fun y H2 dy b2 R2 e2 fy q => ?_⟩⟩
    have fx2 := fx.ext R1 e2
    cases dx <;> try exact q.elim
    cases dy <;> try exact q.elim
    obtain ⟨a1, xs, rfl, h1, r1⟩ := fx2.lst
    obtain ⟨a2, ys, rfl, h2, r2⟩ := fy.lst
    have e3 := r1.length
    have e4 := r2.length
    have e := e1.trans e2
    exact ⟨a1, a2, xs, ys, rfl, rfl, h1, h2, by have := q.1; omega, fun l hl => k l _ _ _ b2 (R2.same (same_new hl)) (R2.more hl) (e.trans (.same (same_new hl))) upd_same (fresh_more hl (r1.append r2)) (fun z => R2.trk l z hl) (fresh_back R2 e hl) q.2⟩
theorem qf_rep (ha : QB X a Wa) (hc : QB X c Wc) : QF X (.BinOp a .Mult c pos) (wRep Wa Wc) := fun p =>
  PE.le (pe_op op_rep (ha p) (hc p)) fun σ H Q ⟨B, env, b, Qd, R, w, k⟩ => by
    have hl := line_ge
    refine ⟨B, env, b, _, R, w, fun x H1 dx b1 R1 e1 fx w1 => ⟨B, env, b1, _, R1, w1, fun y H2 dy b2 R2 e2 fy q => ?_⟩⟩
    have fx2 := fx.ext R1 e2
    cases dx <;> try exact q.elim
    cases dy <;> try exact q.elim
    obtain ⟨a1, xs, rfl, h1, r1⟩ := fx2.lst
    have e3 := r1.length
    have e := e1.trans e2
    obtain ⟨⟨q0, q1, q2⟩, q3⟩ := q
    exact ⟨a1, _, xs, rfl, fy.int, h1, q1, q2, by rw [e3]; omega, fun l hl => k l _ _ _ b2 (R2.same (same_new hl)) (R2.more hl) (e.trans (.same (same_new hl))) upd_same (fresh_more hl (r1.reps _)) (fun z => R2.trk l z hl) (fresh_back R2 e hl) q3⟩
end
/-! ### t[::-1] -/
def dRev : D → (D → Prop) → Prop := fun d Q => dStep (-1) d none none Q
theorem dRev_tup {ds : List D} {Q : D → Prop} (h : ds.length ≤ 1000000) (q : Q (.tup ds.reverse)) : dRev (.tup ds) Q := by
  refine ⟨⟨by decide, by decide, ?_⟩, ?_⟩
  · rw [cut_rev]; simpa using h
  · rw [cut_rev]; exact q
section
variable {X : Cx} {e : Expr} {W : WE} {pos p2 q1 q2 pp : Pos} {x : Str} {j : Nat}
theorem qe_rev (h : QB X e W) : QE X (.Subscript e (.Slice none none (some (.UnaryOp .USub (.Constant (.int 1) j q1) q2)) p2) pos) (wUn dRev W) :=
  qe_sls h qo_n qo_n (qo_s (qe_neg qe_int.b))
/-! ### repr of a bool -/
def boolStr (k : Bool) : Str := if k then "True" else "False"
def dRepr : D → (D → Prop) → Prop
  | .bl k, Q => Q (.str (boolStr k))
  | .int i, Q => i.natAbs.log2 < 1920 ∧ Q (.str (toString i))
  | _, _ => False
theorem call_repr_bl : CallR X (.builtin "repr") (fun xs H Q => ∃ k, xs = [.bl k] ∧ Q (.str (boolStr k)) H) := by
  intro pins s σ H xs us Q I r h
  obtain ⟨i, rfl, q⟩ := h
  obtain ⟨u, rfl, rfl⟩ := vals1 r
  exact PySem.P.repr_of_bool ⟨.str _, H, I.tok _, ⟨_, rfl⟩, q⟩
theorem c1_repr : C1Ok X (fun xs H Q => (∃ k, xs = [.bl k] ∧ Q (.str (boolStr k)) H) ∨ (∃ i, xs = [.int i] ∧ i.natAbs.log2 < 1920 ∧ Q (.str (toString i)) H)) dRepr := by
  intro p B H σ env b x dx Q Qd R rx q k
  cases dx <;> try exact q.elim
  · exact .inl ⟨_, by rw [rx.bl], k _ H _ (Same.refl _) (.str _) q⟩
  · exact .inr ⟨_, by rw [rx.int], q.1, k _ H _ (Same.refl _) (.str _) q.2⟩
theorem qe_repr (hg : Gl X "repr") (hm : X.mg "repr" = none) (h : QB X e W) (he : starEach [e] X.env = (false, eval e X.env) :: starEach [] X.env := by rfl) (hpl : (backTo pos (starEach [] X.env)).any (·.1) = false := by rfl) :
    QE X (.Call (.Name "repr" pp) [e] [] pos) (wUn dRepr W) := qe_b1 (CallR.or call_repr_bl SkE.call_repr_int) c1_repr hg hm (by decide +kernel) h (by decide) (by decide) he hpl
end
/-! ### short names -/
abbrev dSub : Op2 := dI0 fun i j => .int (i - j)
abbrev dDiv : Op2 := dI CDivG fun i j => .int (i.fdiv j)
abbrev dMod : Op2 := dI (fun _ j => j ≠ 0) fun i j => .int (i.fmod j)
abbrev dLt : Op2 := dI0 fun i j => .bl (decide (i < j))
abbrev dLe : Op2 := dI0 fun i j => .bl (decide (i ≤ j))
abbrev dGt : Op2 := dI0 fun i j => .bl (decide (j < i))
abbrev dGe : Op2 := dI0 fun i j => .bl (decide (j ≤ i))
def wNever : WS := fun _ _ _ => False
end En
/-! The engine, part 9: enumerate of a tuple. -/
namespace En
open PySem PySem.Spec PyProof.Rows L2
open AutoSeq1 (wpAny_loadPart')
section
variable {prog : Program} {w : World} {A : Around} {E : Value → Shared → Prop} {s : Shared}
theorem enumT_new (tp : Addr) (xs : Array Value) (m : Nat) (dd : Option Addr) (ss : Array (Option Value)) :
    Meets (Builtin.«enumerate.__new__» ⟨[.type "enumerate", .ref tp], []⟩) (fun _ Z t => t.heap.get? tp = some { cls := .type "tuple", dict := dd, data := .seq xs m, slots := ss } ∧
      Z (.ok (.ret (.ref (t.heap.push { cls := .type "tuple_iterator", data := .fields #[.ref tp, .int 0 0] }).objs.size)))
        { t with heap := (t.heap.push { cls := .type "tuple_iterator", data := .fields #[.ref tp, .int 0 0] }).push { cls := .type "enumerate", data := .fields #[.none, .bool false, .ref t.heap.objs.size, rawInt 0, .none, .none] } }) :=
  .of_wp fun prog w A Z t g => by
    obtain ⟨hh, gg, dg, tk, oo⟩ := t; obtain ⟨g1, g2⟩ := g
    have hsubE := sub_enumerate
    have tupE : Heap.IsTuple (Shared.heap ⟨hh, gg, dg, tk, oo⟩) tp xs := ⟨_, g1, rfl, m, rfl⟩
    wp_walk using wpAny_loadPart' g1
    refine wpAny_stack_any fun frames => wpAny_pure ?_
    split
    · rename_i cc _ _ _ _ _
      cases (cc == Value.type "enumerate") <;>
        (wp_walk using wpAny_loadPart' g1, wpAny_pyIter_tuple tupE
         exact ⟨_, rfl, g2⟩)
    · wp_walk using wpAny_loadPart' g1, wpAny_pyIter_tuple tupE
      exact ⟨_, rfl, g2⟩
theorem enumT_call {tp : Addr} {xs : Array Value} {Z : Value → Shared → Prop} (ht : s.heap.IsTuple tp xs)
    (k : ∀ g, IsEnum g (s.heap.objs.size + 1) s.heap.objs.size 0 .none → g.IsTupleIter s.heap.objs.size tp 0 → g.objs.size = s.heap.objs.size + 2 → (∀ c u, s.heap.get? c = some u → g.get? c = some u) → Z (.ref (s.heap.objs.size + 1)) { s with heap := g }) :
    wpAny (model prog w) A (call (.type "enumerate") [.ref tp]) Z E s := by
  obtain ⟨⟨cc, dd, dt, ss⟩, g1, g2, m, g3⟩ := ht
  have e1 : cc = .type "tuple" := g2
  have e2 : dt = .seq xs m := g3
  subst e1 e2
  refine callType_new F.called_enumerate (by decide) (F.typeCall_enumerate_1 _) (F.newCall_enumerate_1 _) (fun z => F.args_object_init_2 z _) F.entry_enumerate_new (enumT_new tp xs m dd ss) ⟨g1, ?_⟩
  have z1 : (s.heap.push { cls := .type "tuple_iterator", data := .fields #[.ref tp, .int 0 0] }).objs.size = s.heap.objs.size + 1 := Heap.size_push ..
  show _ ∧ _
  rw [z1]
  have it0 : IsEnum ((s.heap.push { cls := .type "tuple_iterator", data := .fields #[.ref tp, .int 0 0] }).push { cls := .type "enumerate", data := .fields #[.none, .bool false, .ref s.heap.objs.size, rawInt 0, .none, .none] }) (s.heap.objs.size + 1) s.heap.objs.size 0 .none := by
    have q := Heap.get?_push_size (s.heap.push { cls := .type "tuple_iterator", data := .fields #[.ref tp, .int 0 0] }) (o := { cls := .type "enumerate", data := .fields #[.none, .bool false, .ref s.heap.objs.size, rawInt 0, .none, .none] }) rfl
    rw [z1] at q
    exact q
  exact ⟨⟨_, it0, rfl⟩, k _ it0 ⟨_, Heap.get?_push_of_some _ (Heap.get?_push_size _ rfl), rfl, rfl⟩ (by rw [Heap.size_push, z1]) fun c u q => Heap.get?_push_of_some _ (Heap.get?_push_of_some _ q)⟩
/-- one turn -/
theorem enumT_item {en ti tp : Addr} {i : Nat} {xs : Array Value} {x prev : Value} {Z : Option Value → Shared → Prop} (he : IsEnum s.heap en ti i prev) (hi : s.heap.IsTupleIter ti tp i) (ht : s.heap.IsTuple tp xs) (hx : xs[i]? = some x) (ne : en ≠ ti)
    (k : ∀ g, IsEnumOut g en ti ((i : Int) + 1) x s.heap.objs.size → g.IsTupleIter ti tp (i + 1) → g.get? s.heap.objs.size = some { cls := .type "tuple", data := .seq #[.int i s.toks, x] } → g.objs.size = s.heap.objs.size + 1 →
      (∀ c u, c ≠ en → c ≠ ti → s.heap.get? c = some u → g.get? c = some u) → Z (some (.ref s.heap.objs.size)) { s with heap := g, toks := s.toks + 1 }) : wpAny (model prog w) A (pyNext (.ref en)) Z E s := by
  have tyE : s.TypeIs (.ref en) "enumerate" := ⟨_, he, rfl⟩
  unfold pyNext
  refine wpAny_bind (wpAny_attempt (wpAny_callSpecial?_slot (name := Str.ofString "__next__") tyE F.slot_enumerate_next (wpAny_call_entry F.slot_enumerate_next tyE F.entry_enumerate_next ?_ (F.args_enumerate_next_1 _))))
  obtain ⟨hp, gl, dg, tk, oo⟩ := s
  show wpAny _ _ (field (.ref en) 2 >>= _) _ _ _
  refine wpAny_bind (wpAny_field he rfl (x := .ref ti) rfl (wpAny_bind (RZ.nextOf_tuple_item hi ht hx fun g1 i1 sb1 => ?_)))
  replace sb1 : Heap.SameBut ti hp g1 := sb1
  have e1 : IsEnum g1 en ti i prev := (sb1.2 en ne).trans he
  show wpAny _ _ (field (.ref en) 3 >>= _) _ _ ⟨g1, gl, dg, tk, oo⟩
  refine wpAny_bind (wpAny_field e1 rfl (x := rawInt i) rfl ?_)
  show wpAny _ _ (field (.ref en) 4 >>= _) _ _ ⟨g1, gl, dg, tk, oo⟩
  refine wpAny_bind (wpAny_field e1 rfl (x := .none) rfl ?_)
  show wpAny _ _ (mkInt i >>= _) _ _ ⟨g1, gl, dg, tk, oo⟩
  refine wpAny_bind (wpAny_mkInt ?_)
  show wpAny _ _ (setField (.ref en) 3 (rawInt ((i : Int) + 1)) >>= _) _ _ ⟨g1, gl, dg, tk + 1, oo⟩
  refine wpAny_bind (wpAny_setField_rec e1 (by simp) fun g2 e2 sb2 => ?_)
  replace sb2 : Heap.SameBut en g1 g2 := sb2
  replace e2 : IsEnum g2 en ti ((i : Int) + 1) prev := e2
  show wpAny _ _ (setField (.ref en) 4 .none >>= _) _ _ ⟨g2, gl, dg, tk + 1, oo⟩
  refine wpAny_bind (wpAny_setField_rec e2 (by simp) fun g3 e3 sb3 => ?_)
  replace sb3 : Heap.SameBut en g2 g3 := sb3
  replace e3 : IsEnum g3 en ti ((i : Int) + 1) prev := e3
  show wpAny _ _ (newTuple [.int i tk, x] >>= _) _ _ ⟨g3, gl, dg, tk + 1, oo⟩
  refine wpAny_bind (wpAny_newTuple ?_)
  have e4 : IsEnum (g3.push { cls := .type "tuple", data := .seq #[.int i tk, x] }) en ti ((i : Int) + 1) prev := Heap.get?_push_of_some _ e3
  generalize eg4 : g3.push { cls := .type "tuple", data := .seq #[.int i tk, x] } = g4 at e4
  have zz : g3.objs.size = hp.objs.size := by rw [sb3.1, sb2.1, sb1.1]
  have zl : en < hp.objs.size := Heap.lt_size he
  have p4 : g4.get? hp.objs.size = some { cls := .type "tuple", data := .seq #[.int i tk, x] } := by rw [← eg4, ← zz]; exact Heap.get?_push_size _ rfl
  have z4 : g4.objs.size = hp.objs.size + 1 := by rw [← eg4, Heap.size_push, zz]
  have k4 : ∀ c u, c ≠ en → c ≠ ti → hp.get? c = some u → g4.get? c = some u := fun c u n1 n2 q => by rw [← eg4]; exact Heap.get?_push_of_some _ (sb3.extBut c u n1 (sb2.extBut c u n1 (sb1.extBut c u n2 q)))
  have i4 : g4.IsTupleIter ti tp (i + 1) := by
    obtain ⟨u, u1, u2⟩ := (i1.extBut sb2.extBut (Ne.symm ne)).extBut sb3.extBut (Ne.symm ne)
    rw [← eg4]
    exact ⟨u, Heap.get?_push_of_some _ u1, u2⟩
  show wpAny _ _ (Builtin.SmallTypes.ownedTupleIsFree (.ref en) >>= _) _ _ ⟨g4, gl, dg, tk + 1, oo⟩
  rw [zz]
  clear eg4 e3 sb3 e2 sb2 e1 sb1 i1 zz g3 g2 g1
  refine wpAny_bind ?_
  unfold Builtin.SmallTypes.ownedTupleIsFree
  refine wpAny_bind (wpAny_field e4 rfl (x := .none) rfl (wpAny_pure ?_))
  simp only [if_true]
  refine wpAny_bind (wpAny_rule (wpAny_bind (wpAny_field e4 rfl (x := prev) rfl (wpAny_bind (wpAny_setField_rec e4 (by simp) fun g5 e5 sb5 => ?_)))))
  replace sb5 : Heap.SameBut en g4 g5 := sb5
  replace e5 : IsEnum g5 en ti ((i : Int) + 1) x := e5
  show wpAny _ _ (Builtin.SmallTypes.ownedTupleHandOut (.ref en) (.ref hp.objs.size) >>= _) _ _ ⟨g5, gl, dg, tk + 1, oo⟩
  refine wpAny_bind ?_
  unfold Builtin.SmallTypes.ownedTupleHandOut
  refine wpAny_bind (wpAny_setField_rec e5 (by simp) fun g6 e6 sb6 => ?_)
  replace sb6 : Heap.SameBut en g5 g6 := sb6
  replace e6 : IsEnumOut g6 en ti ((i : Int) + 1) x hp.objs.size := e6
  refine wpAny_setField_rec e6 (by simp) fun g7 e7 sb7 => ?_
  replace sb7 : Heap.SameBut en g6 g7 := sb7
  replace e7 : IsEnumOut g7 en ti ((i : Int) + 1) x hp.objs.size := e7
  have nz := Nat.ne_of_gt zl
  refine wpAny_bind (wpAny_letGo (wpAny_pure ⟨_, rfl, wpAny_pure (k g7 e7 (((i4.extBut sb5.extBut (Ne.symm ne)).extBut sb6.extBut (Ne.symm ne)).extBut sb7.extBut (Ne.symm ne)) (sb7.extBut _ _ nz (sb6.extBut _ _ nz (sb5.extBut _ _ nz p4))) (by rw [sb7.1, sb6.1, sb5.1, z4]) fun c u n1 n2 q => sb7.extBut c u n1 (sb6.extBut c u n1 (sb5.extBut c u n1 (k4 c u n1 n2 q))))⟩))
theorem enumT_end {en ti tp : Addr} {i : Nat} {xs : Array Value} {prev : Value} {Z : Option Value → Shared → Prop} (hh : A.handled = none) (he : IsEnum s.heap en ti i prev) (hi : s.heap.IsTupleIter ti tp i) (ht : s.heap.IsTuple tp xs) (hx : xs[i]? = none)
    (k : ∀ g, Heap.ExtBut ti s.heap g → Z none { s with heap := g }) : wpAny (model prog w) A (pyNext (.ref en)) Z E s := by
  have tyE : s.TypeIs (.ref en) "enumerate" := ⟨_, he, rfl⟩
  unfold pyNext
  refine wpAny_bind (wpAny_attempt (wpAny_callSpecial?_slot (name := Str.ofString "__next__") tyE F.slot_enumerate_next (wpAny_call_entry F.slot_enumerate_next tyE F.entry_enumerate_next ?_ (F.args_enumerate_next_1 _))))
  show wpAny _ _ (field (.ref en) 2 >>= _) _ _ _
  refine wpAny_bind (wpAny_field he rfl (x := .ref ti) rfl (wpAny_bind (RZ.nextOf_tuple_end hh hi ht hx fun g y sb yy => ?_)))
  obtain ⟨u, u1, u2⟩ := yy
  exact wpAny_bind (wpAny_isInstance (T := "StopIteration") (b := true) ⟨u, u1, u2⟩ isSubtype_stop (wpAny_pure (k _ sb)))
end
/-- the tuple at a, each item in a new pair -/
def ItET (K : PySem.W.Frag) (a : Addr) : It :=
  ⟨fun i H => ∃ (xs : List V) (x : V), SqT K H a xs ∧ xs[i]? = some x, fun i H v H' => ∃ P x, v = .ref P ∧ H P = none ∧ H' = upd H P (.tup [.int (i : Nat), x]) ∧ ∀ xs, SqT K H a xs → xs[i]? = some x, fun i H => ∃ xs : List V, SqT K H a xs ∧ xs.length ≤ i⟩
theorem turn_enumT {P : Program} {w : World} {K : PySem.W.Frag} {elts : List Expr} {kk : Nat} {tpos : Pos} (a e t : Addr) :
    Turn P w K (.Tuple elts kk tpos) (ItET K a) [e, t] e (fun i h => (∃ prev, IsEnum h e t ((i : Nat) : Int) prev) ∧ h.IsTupleIter t a i ∧ e ≠ t) where
  mem := by simp
  obj := fun i h st c hc => by
    obtain ⟨⟨prev, he⟩, ⟨u, u1, u2, u3⟩, _⟩ := st
    rcases (show c = e ∨ c = t by simpa using hc) with z | z
    · rw [z]; exact ⟨_, he, fun v q => nomatch q⟩
    · rw [z]; exact ⟨u, u1, fun v q => by rw [u3] at q; cases q⟩
  keep := fun i h h' st k => by
    obtain ⟨⟨prev, he⟩, ⟨u, u1, u2⟩, ne⟩ := st
    exact ⟨⟨prev, k e (by simp) _ he⟩, ⟨u, k t (by simp) _ u1, u2⟩, ne⟩
  item := by
    intro X hP hw hK hc i pins s σ H E I hf st hg
    subst hP hw hK
    obtain ⟨⟨prev, he⟩, hit, ne⟩ := st
    obtain ⟨xs, x, hq, hx⟩ := hg
    obtain ⟨its, rv, p, hz⟩ := I.tuple hq
    obtain ⟨u, hu, ru⟩ := rv.get hx
    have le := Heap.lt_size he
    have lt : t < s.heap.objs.size := by obtain ⟨_, q, _⟩ := hit; exact Heap.lt_size q
    refine enumT_item he hit p (x := u) (by simpa using hu) ne fun g go gi gT gz gk => ⟨_, rfl, wpAny_letOwnedTupleGo_enum (s := { s with heap := g, toks := s.toks + 1 }) go fun g2 g2e sb => ?_⟩
    have T2 : g2.get? s.heap.objs.size = some { cls := .type "tuple", data := .seq #[.int i s.toks, u] } := (sb.2 _ (Nat.ne_of_gt le)).trans gT
    have okT : ObjOk X.prog X.w (upd H s.heap.objs.size (.tup [.int (i : Nat), x])) g2 s.heap.objs.size (.tup [.int (i : Nat), x]) :=
      ⟨by show 2 ≤ sizeLine; decide, [.int i s.toks, u], .cons ⟨_, rfl⟩ (.cons ru .nil), ⟨_, T2, rfl, _, rfl⟩⟩
    have I1 : Inv X pins σ (upd H s.heap.objs.size (.tup [.int (i : Nat), x])) { s with heap := g2, toks := s.toks + 1 } :=
      I.turnedNew (ch := [e, t]) (fun c ob hb q => (sb.2 c (fun z => hb (by simp [z]))).trans (gk c ob (fun z => hb (by simp [z])) (fun z => hb (by simp [z])) q)) hf (Nat.le_refl _) okT
    have it2 : g2.IsTupleIter t a (i + 1) := by
      obtain ⟨o, o1, o2⟩ := gi
      exact ⟨o, (sb.2 t (Ne.symm ne)).trans o1, o2⟩
    refine ⟨.ref s.heap.objs.size, _, I1, rfl, ⟨_, x, rfl, I.hok.fresh (Nat.le_refl _), rfl, fun ys hy => ?_⟩, ⟨⟨u, ?_⟩, it2, ne⟩, fun c hcc => ?_⟩
    · obtain ⟨its2, rv2, p2, _⟩ := I.tuple hy
      have e1 : its2 = its := by
        obtain ⟨o1, q1, _, n1, d1⟩ := p
        obtain ⟨o2, q2, _, n2, d2⟩ := p2
        rw [q1] at q2
        cases q2
        rw [d1] at d2
        injection d2 with d3
        have := congrArg Array.toList d3
        simpa using this.symm
      subst e1
      rw [Vals.inj rv2 rv]
      exact hx
    · have e1 : ((i + 1 : Nat) : Int) = (i : Int) + 1 := by omega
      rw [e1]
      exact g2e
    · have lc : c < s.heap.objs.size := by
        rcases (show c = e ∨ c = t by simpa using hcc) with z | z
        · rw [z]; exact le
        · rw [z]; exact lt
      rw [upd_ne (Nat.ne_of_lt lc)]
      exact (hf c hcc).1
  done := by
    intro X hP hw hK hc i pins s σ H E I hf st hg
    subst hP hw hK
    obtain ⟨⟨prev, he⟩, hit, ne⟩ := st
    obtain ⟨xs, hq, hx⟩ := hg
    obtain ⟨its, rv, p, hz⟩ := I.tuple hq
    obtain ⟨f0, f1, f2, f3, f4, f5⟩ := hf t (by simp)
    have hl := rv.length
    exact enumT_end (I.ok.hd hc) he hit p (by simp; omega) fun g sb => ⟨rfl, I.turned (t' := s.toks) (fun c o hb q => sb c o hb q) f0 f1 f3 f4 f5⟩
  self := fun A i s Q E st h => by
    obtain ⟨⟨_, he⟩, _⟩ := st
    exact wpAny_pyIter_enum he h
def iEnum2 (K : PySem.W.Frag) (ta : TA) : TI := fun σ H R => ta σ H fun vs H1 => ∃ a, vs = [.ref a] ∧ ((∃ xs, SqL K H1 a xs ∧ R (Ite K a) H1) ∨ ∃ xs, SqT K H1 a xs ∧ R (ItET K a) H1)
theorem pi_enum2 {X : Cx} {e : Expr} {ta : TA} {p pos tpos : Pos} {elts : List Expr} {kk : Nat} (hg : Gl X "enumerate") (hm : X.mg "enumerate" = none) (ha : PA X [e] ta) (hs : starEach [e] X.env = [(false, eval e X.env)] := by rfl) :
    PI X (.Tuple elts kk tpos) (.Call (.Name "enumerate" p) [e] [] pos) (iEnum2 X.K ta) := ⟨fun pins s σ H R I h => by
  refine Call_ (ld_blt I hg hm boot_enumerate (PyProof.Rows.callWith_type1 (thn (ha.run pos pins s σ H _ I h) fun us s1 ⟨vs, H1, I1, r1, q1⟩ => ?_) hs rfl))
  obtain ⟨a, ex, q1⟩ := q1
  subst ex
  obtain ⟨u, rfl, r⟩ := vals1 r1
  cases r
  have fr : ∀ c, c ∈ [s1.heap.objs.size + 1, s1.heap.objs.size] → s1.heap.objs.size ≤ c := fun c hc => by
    rcases (show c = s1.heap.objs.size + 1 ∨ c = s1.heap.objs.size by simpa using hc) with z | z
    · rw [z]; exact Nat.le_succ _
    · rw [z]; exact Nat.le_refl _
  rcases q1 with ⟨xs, hq, q⟩ | ⟨xs, hq, q⟩
  · obtain ⟨its, rv, p', hz⟩ := I1.list hq
    refine call_enumerate_list p'.isList fun g he hit hsz hk => wpAny_pyIter_enum he ?_
    have I2 : Inv X pins σ H1 { s1 with heap := g } := I1.kept (t' := s1.toks) hk
    exact ⟨s1.heap.objs.size + 1, [s1.heap.objs.size + 1, s1.heap.objs.size], _, _, H1, rfl, I2, turn_enum a (s1.heap.objs.size + 1) s1.heap.objs.size, ⟨⟨.none, he⟩, hit, Nat.succ_ne_self _⟩, fun c hc => I1.fpOk (fr c hc) (I1.hok.fresh (fr c hc)), q⟩
  · obtain ⟨its, rv, p', hz⟩ := I1.tuple hq
    refine enumT_call p' fun g he hit hsz hk => wpAny_pyIter_enum he ?_
    have I2 : Inv X pins σ H1 { s1 with heap := g } := I1.kept (t' := s1.toks) hk
    exact ⟨s1.heap.objs.size + 1, [s1.heap.objs.size + 1, s1.heap.objs.size], _, _, H1, rfl, I2, turn_enumT a (s1.heap.objs.size + 1) s1.heap.objs.size, ⟨⟨.none, he⟩, hit, Nat.succ_ne_self _⟩, fun c hc => I1.fpOk (fr c hc) (I1.hok.fresh (fr c hc)), q⟩⟩
theorem walk_enumT {K : PySem.W.Frag} {mg : Str → Option Value} {pa : Addr} {B1 : Addr → Prop} {H1 : Hp} {a : Addr} {xs : List V} {ds : List D} (h : TupR K B1 H1 a xs) (r : FRs K mg pa B1 H1 xs ds) : Walk K mg pa (ItET K a) B1 H1 (enumD 0 ds) := fun B H k tr => by
  have h2 := (h.kp k).sq
  have r2 := r.kp k
  refine ⟨fun i d hd => ?_, ⟨xs, h2, by rw [r2.length, enumD_length]; exact Nat.le_refl _⟩⟩
  obtain ⟨x, h3, rfl⟩ := enumD_get ds 0 i d hd
  obtain ⟨v, h4, h5⟩ := r2.get h3
  refine ⟨⟨xs, v, h2, h4⟩, fun u H' y => ?_⟩
  obtain ⟨T, w, rfl, hT, rfl, hw⟩ := y
  have := hw xs h2
  rw [h4] at this
  cases this
  have s := same_new (o := .tup [.int (i : Nat), v]) hT
  refine ⟨s, .tup (.inl ⟨upd_same, fun z => tr T z hT⟩) (.cons ?_ (.cons (h5.kp (same_kp s)) .nil))⟩
  rw [Nat.zero_add]
  exact .int _
/-- enumerate of a list or of a tuple -/
def wEnum2 (W : WL) : WL := fun env b Q => W env b fun ds b1 => match ds with | [.lst xs] => Q (enumD 0 xs) b1 | [.tup xs] => Q (enumD 0 xs) b1 | _ => False
theorem qi_enum2 {X : Cx} {a : Expr} {W : WL} {pp pos tpos : Pos} {elts : List Expr} {kk : Nat} (hg : Gl X "enumerate") (hm : X.mg "enumerate" = none) (h : QA X [a] W) (hs : starEach [a] X.env = [(false, eval a X.env)] := by rfl) : QI X (.Tuple elts kk tpos) (.Call (.Name "enumerate" pp) [a] [] pos) (wEnum2 W) := fun p =>
  ⟨_, pi_enum2 hg hm (h p) hs, fun σ H R ⟨B, env, b, Qd, Rl, w, k⟩ => by
    refine ⟨B, env, b, _, Rl, w, fun vs H1 ds b1 R1 e1 f1 hl q => ?_⟩
    split at q
    · cases f1 with
      | cons f2 f3 =>
        cases f3
        cases f2 with
        | lst hh n r => exact ⟨_, rfl, .inl ⟨_, .of hh, k _ H1 _ b1 R1 e1 (walk_enum hh n r) q⟩⟩
    · cases f1 with
      | cons f2 f3 =>
        cases f3
        cases f2 with
        | tup t r => exact ⟨_, rfl, .inr ⟨_, t.sq, k _ H1 _ b1 R1 e1 (walk_enumT t r) q⟩⟩
    · exact q.elim⟩
end En
/-! The engine, part 10: tuple * int of any size, ranges as tuples and lists, max, name -= e. -/
namespace En
open PySem PySem.Spec PyProof.Rows L2
open AutoSeq1 (wpAny_loadPart')
/-- tuple * 1 -/
theorem tupOne (tp : Addr) (xs : Array Value) (m : Nat) (dd : Option Addr) (ss : Array (Option Value)) (u : Tok) :
    Meets (Builtin.«tuple.__mul__» ⟨[.ref tp, .int 1 u], []⟩) (fun _ Z t => t.heap.get? tp = some { cls := .type "tuple", dict := dd, data := .seq xs m, slots := ss } ∧ Z (.ok (.ret (Value.ref tp))) t) :=
  .of_wp fun prog w A Z t g => by
    obtain ⟨hh, gg, dg, tk, oo⟩ := t
    obtain ⟨g1, g2⟩ := g
    have idx := AutoSeq1.idx_int
    have c1 : (xs.isEmpty || (1 : Int) == 1) = true := by simp
    wp_walk using wpAny_loadPart' g1
    repeat (first
      | (refine wpAny_ite_true (decide_eq_true c1) ?_; wp_walk using wpAny_loadPart' g1)
      | (refine wpAny_ite_false (decide_eq_false (by decide)) ?_; wp_walk using wpAny_loadPart' g1))
    exact ⟨_, rfl, g2⟩
/-- tuple * 0, and less -/
theorem tupNo (tp : Addr) (xs : Array Value) (m : Nat) (dd : Option Addr) (ss : Array (Option Value)) (k : Int) (u : Tok) (c0 : (decide (k < -(2 ^ 63)) || decide (k ≥ 2 ^ 63)) = false) (c1 : (xs.isEmpty || k == 1) = false) (c2 : (decide (k ≤ 0) || xs.isEmpty) = true) :
    Meets (Builtin.«tuple.__mul__» ⟨[.ref tp, .int k u], []⟩) (fun _ Z t => t.heap.get? tp = some { cls := .type "tuple", dict := dd, data := .seq xs m, slots := ss } ∧
      Z (.ok (.ret (Value.ref t.heap.objs.size))) { t with heap := t.heap.push { cls := .type "tuple", data := .seq #[] }, toks := t.toks }) :=
  .of_wp fun prog w A Z t g => by
    obtain ⟨hh, gg, dg, tk, oo⟩ := t
    obtain ⟨g1, g2⟩ := g
    have idx := AutoSeq1.idx_int
    wp_walk using wpAny_loadPart' g1
    repeat (first
      | (refine wpAny_ite_false (decide_eq_false (by rw [c0]; exact Bool.false_ne_true)) ?_; wp_walk using wpAny_loadPart' g1)
      | (refine wpAny_ite_false (decide_eq_false (by rw [c1]; exact Bool.false_ne_true)) ?_; wp_walk using wpAny_loadPart' g1)
      | (refine wpAny_ite_true (decide_eq_true c2) ?_; wp_walk using wpAny_loadPart' g1))
    exact ⟨_, rfl, g2⟩
/-- t * k, t not empty -/
def rRepA (K : PySem.W.Frag) : R2 := fun x y H Q => ∃ a k xs, x = .ref a ∧ y = .int k ∧ SqT K H a xs ∧ xs ≠ [] ∧ -1000 ≤ k ∧ k ≤ 1000 ∧ xs.length ≤ 1000 ∧ (k = 1 → Q (.ref a) H) ∧ (k ≠ 1 → ∀ p, H p = none → Q (.ref p) (upd H p (.tup (List.replicate k.toNat xs).flatten)))
theorem op_repA {X : Cx} : OpR X (binaryOp .Mult) (rRepA X.K) := by
  intro pins s σ H x y v u Q I rx ry h
  obtain ⟨a, k, xs, rfl, rfl, hT, hne, h1, h2, hz, q1, q2⟩ := h
  by_cases hk : 2 ≤ k
  · exact op_repT pins s σ H _ _ v u Q I rx ry ⟨a, k, xs, rfl, rfl, hT, hne, hk, h2, hz, q2 (by omega)⟩
  cases rx
  obtain ⟨t, rfl⟩ := ry
  obtain ⟨its, r, ⟨⟨cc, dd, dt, ss⟩, ho, hc, n, hd⟩, hs⟩ := I.tuple hT
  have e1 : cc = .type "tuple" := hc
  have e2 : dt = .seq its.toArray n := hd
  subst e1 e2
  have hlen : its.length = xs.length := r.length.symm
  have hi : its.toArray.isEmpty = false := by
    cases its with
    | nil => exact absurd (List.eq_nil_of_length_eq_zero hlen.symm) hne
    | cons a b => rfl
  by_cases h1k : k = 1
  · subst h1k
    refine wpAny_binaryOp_repeat_ref (T := "tuple") (U := "int") (by decide) ⟨_, ho, rfl⟩ (fun z => typeIs_int z 1 t) noFill_tuple_mul F.fills_int_mul F.slot_int_rmul repeat_tuple F.slot_int_index.lookup
      (call_meets F.slot_int_rmul (typeIs_int s 1 t) F.entry_int_rmul (F.args_int_rmul_2 _ _) (int_rmul_tuple 1 t a its.toArray n dd ss) ⟨ho, rfl, ⟨_, ho, rfl⟩, call_meets F.slot_tuple_mul ⟨_, ho, rfl⟩ F.entry_tuple_mul (F.args_tuple_mul_2 _ _) (tupOne a its.toArray n dd ss t) ⟨ho, ?_⟩⟩)
    exact ⟨.ref a, H, I, rfl, q1 rfl⟩
  · have h0 : k ≤ 0 := by omega
    have c0 : (decide (k < -(2 ^ 63)) || decide (k ≥ 2 ^ 63)) = false := by rw [decide_eq_false (by omega), decide_eq_false (by omega)]; rfl
    have c1 : (its.toArray.isEmpty || k == 1) = false := by rw [hi, Bool.false_or]; exact beq_eq_false_iff_ne.mpr h1k
    have c2 : (decide (k ≤ 0) || its.toArray.isEmpty) = true := by rw [decide_eq_true h0]; rfl
    refine wpAny_binaryOp_repeat_ref (T := "tuple") (U := "int") (by decide) ⟨_, ho, rfl⟩ (fun z => typeIs_int z k t) noFill_tuple_mul F.fills_int_mul F.slot_int_rmul repeat_tuple F.slot_int_index.lookup
      (call_meets F.slot_int_rmul (typeIs_int s k t) F.entry_int_rmul (F.args_int_rmul_2 _ _) (int_rmul_tuple k t a its.toArray n dd ss) ⟨ho, rfl, ⟨_, ho, rfl⟩, call_meets F.slot_tuple_mul ⟨_, ho, rfl⟩ F.entry_tuple_mul (F.args_tuple_mul_2 _ _) (tupNo a its.toArray n dd ss k t c0 c1 c2) ⟨ho, ?_⟩⟩)
    have e3 : (List.replicate k.toNat xs).flatten = [] := by rw [show k.toNat = 0 by omega]; rfl
    have q3 := q2 h1k _ (I.hok.fresh (Nat.le_refl _))
    rw [e3] at q3
    exact ⟨.ref s.heap.objs.size, _, I.laid (t' := s.toks) (o := .tup []) (fun b ob q => Heap.get?_push_of_some _ q) (Nat.le_refl _) ⟨Nat.zero_le _, [], .nil, IsTup.new _ _⟩, rfl, q3⟩
/-! ### as readings -/
def dMulT : Op2
  | .tup xs, .int k, Q => (xs ≠ [] ∧ -1000 ≤ k ∧ k ≤ 1000 ∧ xs.length ≤ 1000) ∧ Q (.tup (List.replicate k.toNat xs).flatten)
  | _, _, _ => False
section
variable {X : Cx} {a c e : Expr} {Wa Wc W : WE} {pos pp : Pos}
theorem ok_mulT : OpOk X (rRepA X.K) dMulT := by
  intro p B H σ env b x y dx dy Q Qd R rx ry q k
  cases dx <;> cases dy <;> try exact q.elim
  rename_i ds kk
  obtain ⟨⟨g0, g1, g2, g3⟩, q⟩ := q
  obtain ⟨n, xs, rfl, h1, t1, r1⟩ := rx.tup
  have e1 := r1.length
  refine ⟨n, kk, xs, rfl, ry.int, h1, fun z => g0 ?_, g1, g2, by omega, fun z => ?_, fun z l hl => ?_⟩
  · subst z
    cases r1
    rfl
  · subst z
    have e2 : (List.replicate (1 : Int).toNat ds).flatten = ds := by simp
    rw [e2] at q
    exact k _ H _ (Same.refl _) (.tup t1 r1) q
  · exact k _ _ _ (same_new hl) (FR.newT R hl (r1.reps _)) q
theorem qe_mulT (ha : QB X a Wa) (hc : QB X c Wc) : QE X (.BinOp a .Mult c pos) (wBin dMulT Wa Wc) := qe_bin op_repA ok_mulT ha hc
/-- max(e, f) of ints -/
def dMax : Op2
  | .int i, .int j, Q => Q (.int (if j > i then j else i))
  | _, _, _ => False
theorem qe_max2 {es : List Expr} {Wl : WL} (hcm : X.calm = true) (hg : Gl X "max") (hm : X.mg "max" = none) (h : QA X (e :: es) Wl) (he : starEach (e :: es) X.env = (false, eval e X.env) :: starEach es X.env := by rfl) (hpl : (backTo pos (starEach es X.env)).any (·.1) = false := by rfl) :
    QE X (.Call (.Name "max" pp) (e :: es) [] pos) (wC2 dMax Wl) := fun p =>
  PE.le (pe_callB (call_max2 hcm) hg hm (by decide +kernel) (h p) (by decide) (by decide) he hpl) fun σ H Q ⟨B, env, b, Qd, R, w, k⟩ => by
    refine ⟨B, env, b, _, R, w, fun vs H1 ds b1 R1 e1 f1 hl q => ?_⟩
    split at q
    · rename_i x y
      cases x <;> cases y <;> try exact q.elim
      cases f1 with
      | cons a1 a2 =>
        cases a1
        cases a2 with
        | cons a3 a4 =>
          cases a3
          cases a4
          exact ⟨_, _, rfl, k _ H1 _ b1 R1 e1 (.int _) q⟩
    · exact q.elim
/-- tuple(range(n)), list(range(n)) -/
theorem frs_rg {K : PySem.W.Frag} {mg : Str → Option Value} {pa : Addr} {B : Addr → Prop} {H : Hp} (n : Int) : FRs K mg pa B H (rgV 0 n) (rangeD 0 n.toNat) := by
  unfold rgV rangeD
  rw [Int.sub_zero]
  generalize List.range n.toNat = l
  induction l with
  | nil => exact .nil
  | cons i r ih => exact .cons (.int _) ih
def wRgT (W : WE) : WE := fun env b Q => W env b fun d b1 => match d with | .int n => (-1000 ≤ n ∧ n ≤ 1000) ∧ Q (.tup (rangeD 0 n.toNat)) b1 | _ => False
def wRgL (W : WE) : WL := fun env b Q => W env b fun d b1 => match d with | .int n => (-1000 ≤ n ∧ n ≤ 1000) ∧ Q (rangeD 0 n.toNat) b1 | _ => False
theorem rgOk {n : Int} (h : -1000 ≤ n ∧ n ≤ 1000) : RgOk 0 n := ⟨by omega, by omega, by omega, by omega, by omega⟩
theorem qe_rgT {p1 : Pos} (hcm : X.calm = true) (hg : Gl X "tuple") (hm : X.mg "tuple" = none) (hg2 : Gl X "range") (hm2 : X.mg "range" = none) (h : QE X e W) (na : starEach [e] X.env = (false, eval e X.env) :: starEach [] X.env := by rfl)
    (na2 : starEach [.Call (.Name "range" pp) [e] [] p1] X.env = (false, eval (.Call (.Name "range" pp) [e] [] p1) X.env) :: starEach [] X.env := by rfl) {p2 : Pos} : QE X (.Call (.Name "tuple" p2) [.Call (.Name "range" pp) [e] [] p1] [] pos) (wRgT W) := fun p =>
  PE.le (pe_tupRg hcm hg hm (prg_1 hg2 hm2 (h p) na) na2) fun σ H Q ⟨B, env, b, Qd, R, w, k⟩ => by
    refine ⟨B, env, b, _, R, w, fun v H1 d b1 R1 e1 f1 q => ?_⟩
    cases d <;> try exact q.elim
    cases f1
    exact ⟨_, rfl, rgOk q.1, fun l hl => k _ _ _ b1 (R1.same (same_new hl)) (e1.trans (.same (same_new hl))) (FR.newT R1 hl (frs_rg _)) q.2⟩
theorem qf_rgL {p1 : Pos} (hcm : X.calm = true) (hg : Gl X "list") (hm : X.mg "list" = none) (hg2 : Gl X "range") (hm2 : X.mg "range" = none) (h : QE X e W) (na : starEach [e] X.env = (false, eval e X.env) :: starEach [] X.env := by rfl)
    (na2 : starEach [.Call (.Name "range" pp) [e] [] p1] X.env = (false, eval (.Call (.Name "range" pp) [e] [] p1) X.env) :: starEach [] X.env := by rfl) {p2 : Pos} : QF X (.Call (.Name "list" p2) [.Call (.Name "range" pp) [e] [] p1] [] pos) (wRgL W) := fun p =>
  PE.le (pe_listRg hcm hg hm (prg_1 hg2 hm2 (h p) na) na2) fun σ H Q ⟨B, env, b, Qd, R, w, k⟩ => by
    refine ⟨B, env, b, _, R, w, fun v H1 d b1 R1 e1 f1 q => ?_⟩
    cases d <;> try exact q.elim
    cases f1
    exact ⟨_, rfl, rgOk q.1, fun l hl => k l _ _ _ b1 (R1.same (same_new hl)) (R1.more hl) (e1.trans (.same (same_new hl))) upd_same (fresh_more hl (frs_rg _)) (fun z => R1.trk l z hl) (fresh_back R1 e1 hl) q.2⟩
/-- name -= e, name += e of ints -/
def wAug (i : Nat) (g : Int → Int → Int) (W : WE) : WS := fun E env b => match env[i]? with
  | some (.v (.int x)) => W env b fun d b1 => (match d with | .int y => E.nx (env.set i (.v (.int (g x y)))) b1 | _ => False)
  | _ => False
theorem qs_aug (i : Nat) {op : Operator} {g : Int → Int → Int} {x : Str} {pos' : Pos} (ho : PIp X op (ipI g)) (hN : X.N.Nodup) (hi : X.N[i]? = some x) (hx : Loc X.env.scope x) (h : QE X e W) (hf : X.fn x = true ∨ X.env.scope.names.lookup x = some .local := by first | exact .inl rfl | exact .inr rfl | assumption) :
    QS X (.AugAssign (.Name x pos') op e pos) (wAug i g W) := fun p => ⟨fun pins s σ H D I ⟨B, env, b, E, R, w, f⟩ => (ps_aug hN hi hx (h p) ho hf).run pins s σ H D I (by
  unfold wAug at w
  split at w
  · rename_i z hz
    obtain ⟨u, h1, h2⟩ := R.slots i _ hz
    cases h2
    refine ⟨_, h1, B, env, b, _, R, w, fun v H1 d b1 R1 e1 f1 q => ?_⟩
    cases d <;> try exact q.elim
    cases f1
    exact ⟨z, _, rfl, rfl, f.nx _ H1 B _ b1 (R1.setv (len_of I.len R1 hi) (.int _)) (R.ext_kp e1) q⟩
  · exact w.elim)⟩
end
end En
/-! The engine, part 11: division of ints of any size. -/
namespace En
open PySem PySem.Spec PyProof.Rows L2
/-- division may go by _pylong: nothing sees it, and there is room for its frames -/
structure Seer (X : Cx) : Prop where
  tree : X.prog.given.tree = none
  base : X.base.NoSeer
  dep : X.A.depth + Builtin.pylongFrames < recursionLimit
  top : ∃ e l, X.stack = e :: l ∧ e.scope.isGenerator = false ∧ e.scope.isCoroutine = false ∧ e.builtins = builtinsNs ∧ e.globals = mainGlobals
theorem Seer.at_ {X : Cx} (S : Seer X) {pins : List (Addr × Obj)} {σ : L2.St} {H : Hp} {s : Shared} (I : Inv X pins σ H s) : SeerAt (model X.prog X.w) X.A s.heap := by
  obtain ⟨e, l, h1, h2, h3, h4, h5⟩ := S.top
  exact SeerAt.of (S.base.keeps fun b o q => I.bk b o q) S.tree (by rw [I.ok.frames, h1]) h2 h3 h4 h5
theorem op_fdivU {X : Cx} (S : Seer X) : OpR X (binaryOp .FloorDiv) (rI (fun _ j => j ≠ 0) fun i j => .int (i.fdiv j)) := by
  intro pins s σ H x y v u Q I rx ry h
  obtain ⟨i, j, rfl, rfl, hc, q⟩ := h
  obtain ⟨t, rfl⟩ := rx
  obtain ⟨t', rfl⟩ := ry
  exact floordiv_int hc ⟨.int (i.fdiv j), H, I.tok _, ⟨_, rfl⟩, q⟩ (.inr (PySem.PylongRoom.of I.nolimit S.dep (S.at_ I)))
abbrev dDivU : Op2 := dI (fun _ j => j ≠ 0) fun i j => .int (i.fdiv j)
section
variable {X : Cx} {a c : Expr} {Wa Wc : WE} {pos : Pos}
theorem qe_divU (S : Seer X) (ha : QB X a Wa) (hc : QB X c Wc) : QE X (.BinOp a .FloorDiv c pos) (wBin dDivU Wa Wc) := qe_bin (op_fdivU S) (ok_I fun _ _ _ _ _ => .int _) ha hc
end
/-- what division leans on -/
structure TZ (P : Program) (base : Heap) : Prop where
  tree : P.given.tree = none
  seer : base.NoSeer
theorem seer_of {P : Program} {w : World} {K : PySem.W.Frag} {mg : Str → Option Value} {base : Heap} {N : List Str} {qual : Str} {scope : Scope} {f : Addr} {cd : Value} {A : Around} {outer : List PySem.Env} {s : Shared} {H : Hp} {E : XK} {k : Nat}
    (Z : TZ P base) (hr : Room k (A.deeper (envOfC qual scope s.heap.objs.size f cd))) (hk : 32 ≤ k) (hg : scope.isGenerator = false) (hc : scope.isCoroutine = false) : Seer (cxOf CX0 P w K mg base N qual scope f cd A outer s H E).nox :=
  ⟨Z.tree, Z.seer, by
    have h1 := hr.dp
    have h2 : Builtin.pylongFrames = 100 := rfl
    show (A.deeper (envOfC qual scope s.heap.objs.size f cd)).depth + Builtin.pylongFrames < recursionLimit
    omega, ⟨_, _, rfl, hg, hc, rfl, rfl⟩⟩
end En
/-! The end of a law: as the hand layer's, but the base is known to hold no seer of divisions. -/
namespace En
open PySem PySem.Spec PyProof.Rows L2
theorem hid_none {h : Heap} {H : Hp} {a : Addr} {o0 : Obj} (hA : ∀ b, H b ≠ none → b = a) (ha : h.get? a = some o0) {b : Addr} {o : Obj} (e : h.get? b = some o) (ne : o ≠ o0) : H b = none := by
  by_cases z : H b = none
  · exact z
  · obtain rfl := hA b z
    exact absurd (Option.some.inj (e.symm.trans ha)) ne
theorem hid_ns {h : Heap} {H : Hp} {a : Addr} {xs : Array Value} (hA : ∀ b, H b ≠ none → b = a) (ha : h.get? a = some { cls := .type "list", data := .seq xs }) {b : Addr} {m : Str → Option Value} (n : h.Ns b m) : (hidT h H).Ns b m := by
  obtain ⟨o, es, ep, e, d, r⟩ := n
  refine ⟨o, es, ep, hidT_get e (hid_none hA ha e fun z => ?_), d, r⟩
  rw [z] at d
  cases (show Data.seq xs = Data.dict es ep from d)
theorem hid_seer {h : Heap} {H : Hp} {a : Addr} {xs : Array Value} (hA : ∀ b, H b ≠ none → b = a) (ha : h.get? a = some { cls := .type "list", data := .seq xs }) (S : h.NoSeer) : (hidT h H).NoSeer := by
  obtain ⟨⟨m1, s1, s2⟩, ⟨m2, t1, t2⟩, ⟨m3, i1, i2⟩, mg, bm, ob, g1, g2, g3, g4, g5⟩ := S
  refine ⟨⟨m1, hid_ns hA ha s1, s2⟩, ⟨m2, hid_ns hA ha t1, t2⟩, ⟨m3, hid_ns hA ha i1, i2⟩, mg, bm, ob, hid_ns hA ha g1, g2, hidT_get g3 (hid_none hA ha g3 fun z => ?_), g4, g5⟩
  rw [z] at g4
  exact absurd (Value.type.inj (show Value.type "list" = Value.type "module" from g4)) (by decide)
theorem call_seen {P : Program} {w : World} {K : PySem.W.Frag} {mg mb : Str → Option Value} {CX : CXT} {k : Nat} {f a : Addr} {fd : FuncData} {x : Str} {sp : Sp} {s : Shared} {us : List Value} {ns : List Int}
    (inK : K.In s.heap) (nsG : s.heap.Ns mainGlobals mg) (nsB : s.heap.Ns builtinsNs mb) (boot : ∀ y : Str, y ≠ "__name__" → mb y = bootBuiltins y) (lim : s.heap.NoLimit) (seer : s.heap.NoSeer) (noG : s.gens = #[])
    (obj : s.heap.get? a = some { cls := .type "list", data := .seq us.toArray }) (whole : IntsAre us ns) (short : ns.length ≤ sizeLine) (room : Room k callerA)
    (F : ∀ base : Heap, K.In base → base.Ns mainGlobals mg → base.NoSeer → FnOk P w K mg base CX k f fd [x] sp)
    (bind : ∀ (t : Shared) (u : Value), BindsTo t fd ⟨[u], []⟩ [(x, u)])
    (says : ∀ H : Hp, Only H → SqL K H a (ns.map V.int) → sp [.ref a] H (fun v _ => v = .bl true) fun _ _ _ => False)
    (calm : ∀ H e t, CX [] H s (fun _ _ _ => False) e t → False) :
    codeAny (model P w) callerA (.call (.ref f) ⟨[.ref a], []⟩)
      (fun r t => r = .ok (.ret (.bool true)) ∧ OldK s.heap t.heap ∧ t.os = s.os ∧ AllBare t.gens) s := by
  have vs := vals_ints whole
  have len := whole.length
  -- what may be tracked: nothing, or the script
  have main : ∀ H : Hp, Only H → SqL K H a (ns.map V.int) → HOk P w H s.heap → (∀ b, H b ≠ none → b = a) → (H a ≠ none → K.lookup a = none) →
      codeAny (model P w) callerA (.call (.ref f) ⟨[.ref a], []⟩)
        (fun r t => r = .ok (.ret (.bool true)) ∧ OldK s.heap t.heap ∧ t.os = s.os ∧ AllBare t.gens) s := fun H only seq hok one out => by
    have kB : K.In (hidT s.heap H) := fun b o e => by
      refine hidT_get (inK b o e) ?_
      by_cases z : H b = none
      · exact z
      · obtain rfl := one b z
        rw [out z] at e
        cases e
    have gB := hid_ns one obj nsG
    have modB : Mod K mg (hidT s.heap H) := ⟨kB, gB, ⟨mb, hid_ns one obj nsB, boot⟩, by
      obtain ⟨m, l1, l2⟩ := lim
      exact ⟨m, hid_ns one obj l1, l2⟩⟩
    have env0 : Env0 P w K mg (hidT s.heap H) callerA [] s H := ⟨rfl, modB, fun b o e => of_hidT e, Nat.le_of_eq (hidT_size _ _), trivial, fun b hb => absurd (show b ∈ ([] : List Addr) from hb) List.not_mem_nil, hok, .of_eq noG⟩
    have run := (F _ kB gB (hid_seer one obj seer)).run callerA [] s H ⟨[.ref a], []⟩ [.ref a] [.ref a] _ _ room env0 (bind s (.ref a)) (.cons rfl .nil) (says H only seq)
    refine codeAny_mono run fun r t h => ?_
    match r, h with
    | .error e, h => exact (calm H e t h).elim
    | .ok .next, h => exact False.elim h
    | .ok .brk, h => exact False.elim h
    | .ok .cont, h => exact False.elim h
    | .ok (.ret u), ⟨v, H', o1, o2, un, hok', rel, q⟩ =>
      obtain rfl : v = .bl true := q
      obtain rfl : u = Value.bool true := rel
      refine ⟨rfl, OldK.of_keep fun b o e => ?_, o1, o2⟩
      by_cases z : H b = none
      · exact un.keep b o e z (fun y => absurd (show b ∈ ([] : List Addr) from y) List.not_mem_nil) (by simp)
      · rcases only b with y | ⟨ob, xs, y⟩
        · exact absurd y z
        · obtain ⟨p1, _⟩ := hok b _ y
          obtain ⟨p2, _⟩ := hok' b _ (un.frzs b ob _ y)
          cases e.symm.trans p1
          exact p2
  by_cases known : K.lookup a = none
  · refine main (fun b => if b = a then some (.frz { cls := .type "list", data := .seq us.toArray } (.lst (ns.map V.int))) else none) (fun b => ?_) (.inl (.inr ⟨{ cls := .type "list", data := .seq us.toArray }, if_pos rfl⟩)) (fun b u z => ?_) (fun b z => ?_) fun _ => known
    · by_cases hb : b = a
      · exact .inr ⟨_, _, if_pos hb⟩
      · exact .inl (if_neg hb)
    · by_cases hb : b = a
      · subst hb
        cases (if_pos rfl).symm.trans z
        exact ⟨obj, by rw [List.length_map]; exact short, us, _, vs, obj⟩
      · cases (if_neg hb).symm.trans z
    · by_cases hb : b = a
      · exact hb
      · exact absurd (if_neg hb) z
  · obtain ⟨o, ho⟩ := Option.ne_none_iff_exists'.mp known
    cases (inK a o ho).symm.trans obj
    exact main (fun _ => none) (fun _ => .inl rfl) (.inr ⟨_, us.toArray, _, ho, rfl, rfl, rfl, by rw [List.size_toArray, len]; exact short, by simpa using vs⟩) (fun b u z => by cases (show (none : Option HO) = some u from z)) (fun b z => absurd rfl z) fun z => absurd rfl z
theorem walk_seen {l : PySem.W.OpenLaw} {n k : Nat} {q : Program} {loose : List Str} {XP : (Str → Option Value) → Heap → Prop} {YP : World → Heap → Prop} {d : DefRec} {K : Params → PySem.W.Frag} {CX : World → CXT} {sp : World → Sp} {x : Str}
    (most : l.most = some n) (small : n ≤ sizeLine) (plain : d.params.defaults = []) (quiet : importsNone q = true) (room : Room k callerA)
    (said : ∀ (w : World) (h : Heap), YP w h → (K w.params).In h)
    (F : ∀ (w : World) (mg : Str → Option Value) (fa : Addr) (h : Heap), (K w.params).In h → h.Ns mainGlobals mg → mg d.name = some (.ref fa) →
      ∃ fd : FuncData, (∀ (t : Shared) (u : Value), BindsTo t fd ⟨[u], []⟩ [(x, u)]) ∧
        ∀ base : Heap, (K w.params).In base → base.Ns mainGlobals mg → base.NoSeer → FnOk l.prog w (K w.params) mg base (CX w) k fa fd [x] (sp w))
    (says : ∀ (w : World) (H : Hp) (a : Addr) (ns : List Int), ns.length ≤ n → Only H → SqL (K w.params) H a (ns.map V.int) → sp w [.ref a] H (fun v _ => v = .bl true) fun _ _ _ => False)
    (calm : ∀ (w : World) (H : Hp) (s : Shared) (e : Value) (t : Shared), CX w [] H s (fun _ _ _ => False) e t → False) :
    PySem.W.WalkO q loose XP YP l.row.toRowW d [] (fun f vs => PySem.call f vs) := by
  refine Att.attach_call most plain fun w s0 s mg mb fa o pm cd doc a vs ns G Y ho hd hcd hmg hobj hints hlen hg => ?_
  have inK := said w _ Y
  obtain ⟨fd, hb, hF⟩ := F w mg fa _ inK G.T.g hmg
  exact call_seen inK G.T.g G.T.b G.T.builtins G.T.nolimit (G.T.seer quiet) hg hobj hints (Nat.le_trans hlen small) room hF hb (fun H only seq => says w H a ns hlen only seq) fun H e t => calm w H s e t
end En
/-! Pure rules: loops, comprehensions, places, ratios. -/
namespace En
open PySem PySem.Spec PyProof.Rows L2
theorem wIf_tt {c : Bool} {A B : Prop} (h : c = true) (h1 : A) : wIf c A B := by subst h; exact h1
theorem wIf_ff {c : Bool} {A B : Prop} (h : c = false) (h1 : B) : wIf c A B := by subst h; exact h1
@[simp] theorem wIf_true {A B : Prop} : wIf true A B = A := rfl
@[simp] theorem wIf_false {A B : Prop} : wIf false A B = B := rfl
/-! ### how operators read -/
section
variable {i j : Int} {k k' : Bool} {Q : D → Prop} {xs ys : List D} {s s' : Str} {C : Int → Int → Prop} {g : Int → Int → D} {d : D}
theorem dI0_ii : dI0 g (.int i) (.int j) Q = Q (g i j) := rfl
theorem dI_ii : dI C g (.int i) (.int j) Q = (C i j ∧ Q (g i j)) := rfl
theorem dNeg_i : dNeg (.int i) Q = Q (.int (-i)) := rfl
theorem dGcd_ii : dGcd (.int i) (.int j) Q = Q (.int ((Nat.gcd i.natAbs j.natAbs : Nat) : Int)) := rfl
theorem dAbs_i : dAbs (.int i) Q = Q (.int (if i < 0 then -i else i)) := rfl
theorem dInt_i : dInt (.int i) Q = Q (.int i) := rfl
theorem dInt_b : dInt (.bl k) Q = Q (.int (if k then 1 else 0)) := rfl
theorem dBits_i : dBits (.int i) Q = Q (.int (Builtin.Int.intBits i : Nat)) := rfl
theorem dLen_t : dLen (.tup xs) Q = Q (.int xs.length) := rfl
theorem dLen_l : dLen (.lst xs) Q = Q (.int xs.length) := rfl
theorem dTuple_t : dTuple (.tup xs) Q = Q (.tup xs) := rfl
theorem dTuple_l : dTuple (.lst xs) Q = Q (.tup xs) := rfl
theorem dAdd_ii : dAdd (.int i) (.int j) Q = Q (.int (i + j)) := rfl
theorem dAdd_tt : dAdd (.tup xs) (.tup ys) Q = (xs.length + ys.length ≤ 1000000 ∧ Q (.tup (xs ++ ys))) := rfl
theorem dAdd_ll : dAdd (.lst xs) (.lst ys) Q = (xs.length + ys.length ≤ 1000000 ∧ Q (.lst (xs ++ ys))) := rfl
theorem dAdd_ss : dAdd (.str s) (.str s') Q = (s.length + s'.length ≤ 1000000 ∧ Q (.str (s ++ s'))) := rfl
theorem dMul_ii : dMul (.int i) (.int j) Q = (CMulW i j ∧ Q (.int (i * j))) := rfl
theorem dMul_li : dMul (.lst xs) (.int j) Q = ((xs.length * j.toNat ≤ 1000000 ∧ -(2 ^ 63) ≤ j ∧ j < 2 ^ 63) ∧ Q (.lst (List.replicate j.toNat xs).flatten)) := rfl
theorem dIs_n : dIs d .non Q = Q (.bl d.isNon) := rfl
theorem dIs_b : dIs (.bl k) (.bl k') Q = Q (.bl (k == k')) := rfl
theorem dIsN_n : dIsN d .non Q = Q (.bl (!d.isNon)) := rfl
theorem dRepr_b : dRepr (.bl k) Q = Q (.str (boolStr k)) := rfl
end
/-! ### loops -/
theorem for_rule {T : Tg} {W : WS} {E : Ens} {ds : List D} (I : Nat → Env → Nat → Prop)
    (step : ∀ (i : Nat) (d : D) (env : Env) (b : Nat) (E' : Ens), ds[i]? = some d → I i env b → (∀ e b, I (i + 1) e b → E'.nx e b) → (∀ e b, I (i + 1) e b → E'.ct e b) → E'.bk = E.nx → E'.rt = E.rt → ∃ env1, setTg T d env = some env1 ∧ W E' env1 b)
    (fin : ∀ env b, I ds.length env b → E.nx env b) : ∀ (env : Env) (b : Nat), I 0 env b → forL T W ds E env b := by
  have go : ∀ (n i : Nat), n + i = ds.length → ∀ env b, I i env b → forL T W (ds.drop i) E env b := by
    intro n
    induction n with
    | zero =>
      intro i hi env b h
      rw [List.drop_of_length_le (by omega)]
      have : i = ds.length := by omega
      subst this
      exact fin env b h
    | succ n ih =>
      intro i hi env b h
      have hl : i < ds.length := by omega
      rw [List.drop_eq_getElem_cons hl]
      simp only [forL]
      obtain ⟨env1, h1, h2⟩ := step i _ env b { nx := fun e b => forL T W (ds.drop (i + 1)) E e b, ct := fun e b => forL T W (ds.drop (i + 1)) E e b, bk := E.nx, rt := E.rt } (List.getElem?_eq_getElem hl) h (fun e b h => ih (i + 1) (by omega) e b h) (fun e b h => ih (i + 1) (by omega) e b h) rfl rfl
      rw [h1]
      exact h2
  intro env b h
  exact go ds.length 0 (by omega) env b h
theorem while_rule {C : WT} {W : WS} {E : Ens} (I : Nat → Env → Nat → Prop)
    (step : ∀ (m : Nat) (env : Env) (b : Nat) (K : Bool → Nat → Prop), I m env b → (∀ b1, (∃ m', m = m' + 1 ∧ ∀ (E' : Ens), (∀ e b, I m' e b → E'.nx e b) → (∀ e b, I m' e b → E'.ct e b) → E'.bk = E.nx → E'.rt = E.rt → W E' env b1) → K true b1) → (∀ b1, E.nx env b1 → K false b1) → C env b K) : ∀ (m : Nat) (env : Env) (b : Nat), I m env b → ∃ n, whL C W E n env b := by
  have go : ∀ (m n : Nat), m < n → ∀ env b, I m env b → whL C W E n env b := by
    intro m
    induction m with
    | zero =>
      intro n hn env b h
      obtain ⟨n, rfl⟩ : ∃ k, n = k + 1 := ⟨n - 1, by omega⟩
      simp only [whL]
      refine step 0 env b _ h (fun b1 ⟨m', e, _⟩ => by omega) (fun b1 h1 => h1)
    | succ m ih =>
      intro n hn env b h
      obtain ⟨n, rfl⟩ : ∃ k, n = k + 1 := ⟨n - 1, by omega⟩
      simp only [whL]
      refine step (m + 1) env b _ h (fun b1 ⟨m', e, h1⟩ => ?_) (fun b1 h1 => h1)
      obtain rfl : m' = m := by omega
      exact h1 _ (fun e b h => ih n (by omega) e b h) (fun e b h => ih n (by omega) e b h) rfl rfl
  intro m env b h
  exact ⟨m + 1, go m (m + 1) (by omega) env b h⟩
/-! ### comprehensions -/
theorem cmp_rule {T : Tg} {C : WT} {We : WE} {env0 : Env} {b : Nat} (g : D → Option D) : ∀ (ds : List D) (Q : List D → Nat → Prop),
    (∀ d ∈ ds, ∃ env1, setTg T d env0 = some env1 ∧ ∀ (K1 : D → Nat → Prop) (K2 : Nat → Prop), (∀ x, g d = some x → K1 x b) → (g d = none → K2 b) → C env1 b fun c b1 => wIf c (We env1 b1 K1) (K2 b1)) →
    Q (ds.filterMap g) b → cmpL T C We env0 ds b Q
  | [], Q, _, q => q
  | d :: r, Q, h, q => by
    obtain ⟨env1, h1, h2⟩ := h d List.mem_cons_self
    simp only [cmpL, h1]
    refine h2 _ _ (fun x hx => ?_) (fun hx => ?_)
    · refine cmp_rule g r _ (fun d hd => h d (List.mem_cons_of_mem _ hd)) ?_
      rw [List.filterMap_cons, hx] at q
      exact q
    · refine cmp_rule g r _ (fun d hd => h d (List.mem_cons_of_mem _ hd)) ?_
      rw [List.filterMap_cons, hx] at q
      exact q
theorem cmp_map {T : Tg} {We : WE} {env0 : Env} {b : Nat} (g : D → D) (ds : List D) (Q : List D → Nat → Prop)
    (h : ∀ d ∈ ds, ∃ env1, setTg T d env0 = some env1 ∧ ∀ (K : D → Nat → Prop), K (g d) b → We env1 b K) (q : Q (ds.map g) b) : cmpL T wYes We env0 ds b Q := by
  refine cmp_rule (fun d => some (g d)) ds Q (fun d hd => ?_) (by
    rw [show (fun d => some (g d)) = some ∘ g from rfl, List.filterMap_eq_map]
    exact q)
  obtain ⟨env1, h1, h2⟩ := h d hd
  exact ⟨env1, h1, fun K1 K2 k1 _ => h2 K1 (k1 _ rfl)⟩
/-- by place -/
theorem cmp_at {T : Tg} {We : WE} {env0 : Env} {b : Nat} {α : Type} (f : α → D) (g : α → D) : ∀ (xs : List α) (Q : List D → Nat → Prop)
    (h : ∀ x ∈ xs, ∃ env1, setTg T (f x) env0 = some env1 ∧ ∀ (K : D → Nat → Prop), K (g x) b → We env1 b K) (q : Q (xs.map g) b), cmpL T wYes We env0 (xs.map f) b Q
  | [], Q, _, q => q
  | x :: r, Q, h, q => by
    obtain ⟨env1, h1, h2⟩ := h x List.mem_cons_self
    simp only [List.map_cons, cmpL, h1]
    show We env1 b _
    exact h2 _ (cmp_at f g r _ (fun y hy => h y (List.mem_cons_of_mem _ hy)) q)
/-- each costs at most c of what is left, and is any of P -/
theorem cmp_any {T : Tg} {We : WE} {env0 : Env} {α : Type} (f : α → D) (P : α → D → Prop) (c : Nat) : ∀ (xs : List α) (b : Nat) (Q : List D → Nat → Prop)
    (_ : c * xs.length ≤ b) (h : ∀ x ∈ xs, ∃ env1, setTg T (f x) env0 = some env1 ∧ ∀ (b : Nat) (K : D → Nat → Prop), c ≤ b → (∀ y b', P x y → b ≤ b' + c → K y b') → We env1 b K)
    (q : ∀ ys b', ys.length = xs.length → (∀ (i : Nat) (x : α) (y : D), xs[i]? = some x → ys[i]? = some y → P x y) → b ≤ b' + c * xs.length → Q ys b'), cmpL T wYes We env0 (xs.map f) b Q
  | [], b, Q, _, _, q => q [] b rfl (fun i x y h => by simp at h) (by simp)
  | x :: r, b, Q, hb, h, q => by
    obtain ⟨env1, h1, h2⟩ := h x List.mem_cons_self
    simp only [List.length_cons, Nat.mul_add, Nat.mul_one] at hb q
    simp only [List.map_cons, cmpL, h1]
    show We env1 b _
    refine h2 b _ (by omega) fun y b' py hb' => ?_
    refine cmp_any f P c r b' _ (by omega) (fun y hy => h y (List.mem_cons_of_mem _ hy)) fun ys b2 hl hp hb2 => ?_
    refine q (y :: ys) b2 (by simp [hl]) (fun i x' y' hx hy => ?_) (by omega)
    cases i with
    | zero =>
      simp at hx hy
      subst hx hy
      exact py
    | succ i => exact hp i x' y' (by simpa using hx) (by simpa using hy)
/-! ### places -/
theorem ixN_nat' {n j : Nat} (hj : j < n) : ixN n (j : Int) = some j := by
  unfold ixN
  rw [if_pos (by omega), if_pos (by omega), Int.toNat_natCast]
theorem atI_nat' {α : Type} {xs : List α} {j : Nat} {x : α} (h : xs[j]? = some x) : atI xs (j : Int) = some x := by
  have hj := (List.getElem?_eq_some_iff.mp h).1
  unfold atI
  rw [ixN_nat' hj]
  exact h
theorem dIx_t {ds : List D} {j : Nat} {d : D} {Q : D → Prop} (h : ds[j]? = some d) (q : Q d) : dIx (.tup ds) (.int (j : Int)) Q := by
  simp only [dIx, atI_nat' h]
  exact q
theorem dIx_l {ds : List D} {j : Nat} {d : D} {Q : D → Prop} (h : ds[j]? = some d) (q : Q d) : dIx (.lst ds) (.int (j : Int)) Q := by
  simp only [dIx, atI_nat' h]
  exact q
theorem dIx_t0 {d : D} {r : List D} {Q : D → Prop} (q : Q d) : dIx (.tup (d :: r)) (.int 0) Q := dIx_t (j := 0) rfl q
theorem dIx_t1 {c d : D} {r : List D} {Q : D → Prop} (q : Q d) : dIx (.tup (c :: d :: r)) (.int 1) Q := dIx_t (j := 1) rfl q
theorem rangeD_eq (lo : Int) (n : Nat) : rangeD lo n = (List.range n).map fun (i : Nat) => D.int (lo + i) := rfl
theorem rangeD_get {lo : Int} {n i : Nat} {d : D} (h : (rangeD lo n)[i]? = some d) : i < n ∧ d = .int (lo + i) := by
  have hi : i < n := by
    have := (List.getElem?_eq_some_iff.mp h).1
    simpa [rangeD] using this
  refine ⟨hi, ?_⟩
  simp [rangeD, hi] at h
  exact h.symm
theorem rangeD_len {lo : Int} {n : Nat} : (rangeD lo n).length = n := by simp [rangeD]
/-! ### ratios -/
def rt (r : Rat) : D := .tup [.int r.num, .int (r.den : Int)]
theorem rt_inj {x y : Rat} (h : rt x = rt y) : x = y := by
  simp only [rt, D.tup.injEq, List.cons.injEq, D.int.injEq] at h
  exact Rat.ext h.1 (by omega)
theorem den_pos (x : Rat) : 0 < (x.den : Int) := by have := x.den_pos; omega
theorem rt_0 {x : Rat} {Q : D → Prop} : dIx (rt x) (.int 0) Q = Q (.int x.num) := rfl
theorem rt_1 {x : Rat} {Q : D → Prop} : dIx (rt x) (.int 1) Q = Q (.int (x.den : Int)) := rfl
/-- what fits -/
def SB : Nat := 499000
structure Sz (x : Rat) : Prop where
  n : x.num.natAbs < 2 ^ SB
  d : x.den < 2 ^ SB
theorem log2_lt {n k : Nat} (h : n < 2 ^ k) (hk : 0 < k) : n.log2 < k := by
  by_cases z : n = 0
  · subst z
    simpa using hk
  · exact (Nat.log2_lt z).mpr h
theorem mul_lt_pow {a b k l : Nat} (h : a < 2 ^ k) (h' : b < 2 ^ l) : a * b < 2 ^ (k + l) := by
  rw [Nat.pow_add]
  exact Nat.mul_lt_mul'' h h'
theorem cmulW_of {i j : Int} {k l : Nat} (h : i.natAbs < 2 ^ k) (h' : j.natAbs < 2 ^ l) (hk : 0 < k) (hl : 0 < l) (s : k + l ≤ 1000000) : CMulW i j := by
  have h1 := log2_lt h hk
  have h2 := log2_lt h' hl
  show i.natAbs.log2 + j.natAbs.log2 < 1000000
  omega
/-- what lowest makes of top and bottom -/
def byOf (t b : Int) : Int := if 0 < b then ((Nat.gcd t.natAbs b.natAbs : Nat) : Int) else -((Nat.gcd t.natAbs b.natAbs : Nat) : Int)
theorem sign_neg' {b : Int} (h : b < 0) : b.sign = -1 := Int.sign_eq_neg_one_of_neg h
theorem gcd_ne {t b : Int} (hb : b ≠ 0) : ((Nat.gcd t.natAbs b.natAbs : Nat) : Int) ≠ 0 := by
  have : 0 < Nat.gcd t.natAbs b.natAbs := Nat.gcd_pos_of_pos_right _ (by omega)
  omega
theorem byOf_ne {t b : Int} (hb : b ≠ 0) : byOf t b ≠ 0 := by
  unfold byOf
  have := gcd_ne (t := t) hb
  split <;> omega
theorem byOf_abs (t b : Int) : (byOf t b).natAbs = Nat.gcd t.natAbs b.natAbs := by
  unfold byOf
  split <;> omega
theorem byOf_dvd_t (t b : Int) : byOf t b ∣ t := by
  unfold byOf
  have h : ((Nat.gcd t.natAbs b.natAbs : Nat) : Int) ∣ t := Int.ofNat_dvd_left.2 (Nat.gcd_dvd_left _ _)
  split
  · exact h
  · exact Int.neg_dvd.2 h
theorem byOf_dvd_b (t b : Int) : byOf t b ∣ b := by
  unfold byOf
  have h : ((Nat.gcd t.natAbs b.natAbs : Nat) : Int) ∣ b := Int.ofNat_dvd_left.2 (Nat.gcd_dvd_right _ _)
  split
  · exact h
  · exact Int.neg_dvd.2 h
theorem fdiv_dvd {a b : Int} (h : b ∣ a) (hb : b ≠ 0) : a.fdiv b * b = a := by
  rw [Int.fdiv_eq_ediv_of_dvd h]
  exact Int.ediv_mul_cancel h
theorem low_den_pos {t b : Int} (hb : b ≠ 0) : 0 < b.fdiv (byOf t b) := by
  have h := fdiv_dvd (byOf_dvd_b t b) (byOf_ne (t := t) hb)
  have hg := gcd_ne (t := t) hb
  unfold byOf at h ⊢
  split at h
  · rename_i hp
    rw [if_pos hp]
    generalize b.fdiv _ = q at h
    rcases Int.lt_trichotomy q 0 with z | z | z
    · exfalso
      have : q * ((Nat.gcd t.natAbs b.natAbs : Nat) : Int) ≤ 0 := Int.mul_nonpos_of_nonpos_of_nonneg (by omega) (by omega)
      omega
    · subst z
      simp at h
      omega
    · exact z
  · rename_i hp
    rw [if_neg hp]
    generalize b.fdiv _ = q at h
    rcases Int.lt_trichotomy q 0 with z | z | z
    · exfalso
      have : 0 ≤ q * -((Nat.gcd t.natAbs b.natAbs : Nat) : Int) := Int.mul_nonneg_of_nonpos_of_nonpos (by omega) (by omega)
      omega
    · subst z
      simp at h
      omega
    · exact z
theorem low_gcd {t b : Int} (hb : b ≠ 0) : Nat.gcd (t.fdiv (byOf t b)).natAbs (b.fdiv (byOf t b)).natAbs = 1 := by
  have h1 := fdiv_dvd (byOf_dvd_t t b) (byOf_ne (t := t) hb)
  have h2 := fdiv_dvd (byOf_dvd_b t b) (byOf_ne (t := t) hb)
  have a := byOf_abs t b
  have hg := gcd_ne (t := t) hb
  generalize t.fdiv _ = x at h1
  generalize b.fdiv _ = y at h2
  have e1 : t.natAbs = x.natAbs * Nat.gcd t.natAbs b.natAbs := by rw [← a, ← Int.natAbs_mul, h1]
  have e2 : b.natAbs = y.natAbs * Nat.gcd t.natAbs b.natAbs := by rw [← a, ← Int.natAbs_mul, h2]
  have e3 : Nat.gcd (x.natAbs * Nat.gcd t.natAbs b.natAbs) (y.natAbs * Nat.gcd t.natAbs b.natAbs) = Nat.gcd t.natAbs b.natAbs := by rw [← e1, ← e2]
  rw [Nat.gcd_mul_right] at e3
  have hp : 0 < Nat.gcd t.natAbs b.natAbs := by omega
  exact Nat.eq_of_mul_eq_mul_right hp (by rw [e3, Nat.one_mul])
/-- the ratio in lowest terms -/
theorem low_eq {t b : Int} (hb : b ≠ 0) : (Rat.divInt t b).num = t.fdiv (byOf t b) ∧ ((Rat.divInt t b).den : Int) = b.fdiv (byOf t b) := by
  have hp := low_den_pos (t := t) hb
  have hg := low_gcd (t := t) hb
  have h1 := fdiv_dvd (byOf_dvd_t t b) (byOf_ne (t := t) hb)
  have h2 := fdiv_dvd (byOf_dvd_b t b) (byOf_ne (t := t) hb)
  generalize t.fdiv (byOf t b) = x at hg h1
  generalize hy : b.fdiv (byOf t b) = y at hp hg h2
  have e : Rat.divInt t b = ⟨x, y.natAbs, by omega, by show Nat.gcd x.natAbs y.natAbs = 1; exact hg⟩ := by
    have e2 : (⟨x, y.natAbs, by omega, by show Nat.gcd x.natAbs y.natAbs = 1; exact hg⟩ : Rat) = Rat.divInt x y := by
      rw [← Rat.num_divInt_den ⟨x, y.natAbs, by omega, by show Nat.gcd x.natAbs y.natAbs = 1; exact hg⟩]
      show Rat.divInt x (y.natAbs : Int) = Rat.divInt x y
      rw [Int.natAbs_of_nonneg (by omega)]
    rw [e2]
    have hb' := byOf_ne (t := t) hb
    generalize byOf t b = c at h1 h2 hb'
    subst h1 h2
    exact Rat.divInt_mul_right hb'
  rw [e]
  exact ⟨rfl, by show ((y.natAbs : Nat) : Int) = y; omega⟩
end En
/-! The ratio defs of the program and of the laws: what they promise, and that their bodies do so. -/
namespace En
open PySem PySem.Spec PyProof.Rows L2
def f_int : Ty → Bool | .int => true | .bl => true | _ => false
def f_bool : Ty → Bool | .bl => true | _ => false
def f_tuple : Ty → Bool | .tup => true | _ => false
def f_list : Ty → Bool | .lst => true | _ => false
def f_tuple_list : Ty → Bool | .tup => true | .lst => true | _ => false
def f_str : Ty → Bool | .str => true | _ => false
theorem is_int : ∀ t : Ty, kitB t.name "int" = some (f_int t) := by intro t; cases t <;> decide +kernel
theorem is_bool : ∀ t : Ty, kitB t.name "bool" = some (f_bool t) := by intro t; cases t <;> decide +kernel
theorem is_tuple : ∀ t : Ty, kitB t.name "tuple" = some (f_tuple t) := by intro t; cases t <;> decide +kernel
theorem is_list : ∀ t : Ty, kitB t.name "list" = some (f_list t) := by intro t; cases t <;> decide +kernel
theorem is_str : ∀ t : Ty, kitB t.name "str" = some (f_str t) := by intro t; cases t <;> decide +kernel
theorem is_tuple_list : ∀ t : Ty, ∃ c1 c2, kitB t.name "tuple" = some c1 ∧ kitB t.name "list" = some c2 ∧ f_tuple_list t = (c1 || c2) := by
  intro t
  exact ⟨f_tuple t, f_list t, is_tuple t, is_list t, by cases t <;> rfl⟩
def kNONE : D := .tup [.int 0, .int 1]
def kONE : D := .tup [.int 1, .int 1]
theorem kNONE_eq : kNONE = rt 0 := rfl
theorem kONE_eq : kONE = rt 1 := rfl
/-! ### the values' kinds -/
def D.isInt : D → Bool | .int _ => true | _ => false
/-- no object of a class here or one step below -/
def D.shal : D → Bool
  | .ins _ _ => false
  | .pen => false
  | .tup ds => ds.all fun d => d.ty.isSome
  | .lst ds => ds.all fun d => d.ty.isSome
  | _ => true
def pair2 : D → D → Bool | .int _, .int k => decide (0 < k) | _, _ => false
def D.isPair : D → Bool
  | .tup [x, y] => pair2 x y
  | .lst [x, y] => pair2 x y
  | _ => false
def told2 : D → D → Option Rat
  | .int t, .int k => if h : 0 < k ∧ Nat.gcd t.natAbs k.natAbs = 1 then some ⟨t, k.natAbs, by omega, h.2⟩ else none
  | _, _ => none
/-- a ratio in lowest terms, above it its ratio -/
def D.told : D → Option Rat
  | .tup [x, y] => told2 x y
  | _ => none
theorem told_rt (x : Rat) : (rt x).told = some x := by
  have h : 0 < (x.den : Int) ∧ Nat.gcd x.num.natAbs (x.den : Int).natAbs = 1 := ⟨den_pos x, by rw [Int.natAbs_natCast]; exact x.reduced⟩
  simp only [rt, D.told, told2]
  rw [dif_pos h]
  congr 1
theorem told_some {d : D} {x : Rat} (h : d.told = some x) : d = rt x := by
  unfold D.told at h
  split at h
  · unfold told2 at h
    split at h
    · rename_i t k
      split at h
      · rename_i hh
        simp only [Option.some.injEq] at h
        subst h
        have e : ((k.natAbs : Nat) : Int) = k := by have := hh.1; omega
        show D.tup [.int t, .int k] = D.tup [.int t, .int ((k.natAbs : Nat) : Int)]
        rw [e]
      · cases h
    · cases h
  · cases h
def p_is_whole : Spec := fun ds b Q => ∃ d, ds = [d] ∧ d.ty.isSome = true ∧ Q (.bl d.isInt) b
def p_is_tuple_of : Spec := fun ds b Q => ∃ d m, ds = [d, .int m] ∧ d.ty.isSome = true ∧ Q (.bl (match d with | .tup es => decide ((es.length : Int) = m) | _ => false)) b
def p_copied : Spec := fun ds b Q => ∃ d, ds = [d] ∧ d.ty.isSome = true ∧ Q (cpD d) b
def p_is_pair : Spec := fun ds b Q => ∃ d, ds = [d] ∧ d.shal = true ∧ Q (.bl d.isPair) b
def p_lowest : Spec := fun ds b Q => ∃ t k, ds = [.int t, .int k] ∧ k ≠ 0 ∧ Q (rt (Rat.divInt t k)) b
def p_is_told : Spec := fun ds b Q => ∃ d, ds = [d] ∧ d.shal = true ∧ Q (.bl d.told.isSome) b
def p_bin (op : Rat → Rat → Rat) (C : Rat → Rat → Prop) : Spec := fun ds b Q => ∃ x y, ds = [rt x, rt y] ∧ Sz x ∧ Sz y ∧ C x y ∧ Q (rt (op x y)) b
def p_summed : Spec := p_bin (· + ·) fun _ _ => True
def p_lessened : Spec := p_bin (· - ·) fun _ _ => True
def p_scaled : Spec := p_bin (· * ·) fun _ _ => True
def p_parted : Spec := p_bin (· / ·) fun _ y => y ≠ 0
def p_turned_sign : Spec := fun ds b Q => ∃ x, ds = [rt x] ∧ Q (rt (-x)) b
def p__law_is_int : Spec := p_is_whole
def p__law_gcd : Spec := fun ds b Q => ∃ t k, ds = [.int t, .int k] ∧ t.natAbs.log2 < 1000000 ∧ k.natAbs.log2 < 1000000 ∧ Q (.int ((Nat.gcd t.natAbs k.natAbs : Nat) : Int)) b
def p__law_q : Spec := fun ds b Q => ∃ t k, ds = [.int t, .int k] ∧ k ≠ 0 ∧ t.natAbs.log2 < 1000000 ∧ k.natAbs.log2 < 1000000 ∧ Q (rt (Rat.divInt t k)) b
def p__law_plus : Spec := p_bin (· + ·) fun _ _ => True
def p__law_minus : Spec := p_bin (· - ·) fun _ _ => True
def p__law_times : Spec := p_bin (· * ·) fun _ _ => True
def p__law_share : Spec := p_bin (· / ·) fun _ y => y ≠ 0
/-- told by the law: sizes for its gcd -/
def D.smallPair : D → Prop
  | .tup [.int t, .int k] => t.natAbs.log2 < 1000000 ∧ k.natAbs.log2 < 1000000
  | _ => True
def p__law_is_told : Spec := fun ds b Q => ∃ d, ds = [d] ∧ d.shal = true ∧ d.smallPair ∧ Q (.bl d.told.isSome) b
/-- is_whole: value -/
def W_is_whole : WS := (wRet (wAndV (wIsT f_int (wVarB 0)) (wNotV (wIsT f_bool (wVarB 0)))))
/-- is_tuple_of: value, many -/
def W_is_tuple_of : WS := (wRet (wAndV (wIsT f_tuple (wVarB 0)) (wBin dEq (wUn dLen (wVarB 0)) (wVarB 1))))
/-- copied: value -/
def W_copied : WS := (wRet (wIte (wT (wIsT f_list (wVarB 0))) (wUn dTuple (wVarB 0)) (wVar 0)))
/-- is_pair: value -/
def W_is_pair : WS := (wSeq (wIfS (wOr (wNot (wT (wIsT f_tuple_list (wVarB 0)))) (wT (wBin dNe (wUn dLen (wVarB 0)) (wC (.int 2))))) (wRet (wC (.bl false))) wNext) (wRet (wAndV (wCall 1 p_is_whole (wCons (wBin dIx (wVarB 0) (wC (.int 0))) wNil)) (wAndV (wCall 1 p_is_whole (wCons (wBin dIx (wVarB 0) (wC (.int 1))) wNil)) (wBin dGt (wBin dIx (wVarB 0) (wC (.int 1))) (wC (.int 0)))))))
/-- lowest: top, bottom, by -/
def W_lowest : WS := (wSeq (wSet 2 (wIte (wT (wBin dGt (wVarB 1) (wC (.int 0)))) (wC2 dGcd (wCons (wVar 0) (wCons (wVar 1) wNil))) (wUn dNeg (wC2 dGcd (wCons (wVar 0) (wCons (wVar 1) wNil)))))) (wRet (wTup (wCons (wBin dDivU (wVarB 0) (wVarB 2)) (wCons (wBin dDivU (wVarB 1) (wVarB 2)) wNil)))))
/-- is_told: value -/
def W_is_told : WS := (wRet (wAndV (wIsT f_tuple (wVarB 0)) (wAndV (wCall 1 p_is_pair (wCons (wVar 0) wNil)) (wBin dEq (wC2 dGcd (wCons (wBin dIx (wVarB 0) (wC (.int 0))) (wCons (wBin dIx (wVarB 0) (wC (.int 1))) wNil))) (wC (.int 1))))))
/-- summed: one, other -/
def W_summed : WS := (wRet (wCall 2 p_lowest (wCons (wBin dAdd (wBin dMul (wBin dIx (wVarB 0) (wC (.int 0))) (wBin dIx (wVarB 1) (wC (.int 1)))) (wBin dMul (wBin dIx (wVarB 1) (wC (.int 0))) (wBin dIx (wVarB 0) (wC (.int 1))))) (wCons (wBin dMul (wBin dIx (wVarB 0) (wC (.int 1))) (wBin dIx (wVarB 1) (wC (.int 1)))) wNil))))
/-- lessened: one, other -/
def W_lessened : WS := (wRet (wCall 2 p_lowest (wCons (wBin dSub (wBin dMul (wBin dIx (wVarB 0) (wC (.int 0))) (wBin dIx (wVarB 1) (wC (.int 1)))) (wBin dMul (wBin dIx (wVarB 1) (wC (.int 0))) (wBin dIx (wVarB 0) (wC (.int 1))))) (wCons (wBin dMul (wBin dIx (wVarB 0) (wC (.int 1))) (wBin dIx (wVarB 1) (wC (.int 1)))) wNil))))
/-- scaled: one, other -/
def W_scaled : WS := (wRet (wCall 2 p_lowest (wCons (wBin dMul (wBin dIx (wVarB 0) (wC (.int 0))) (wBin dIx (wVarB 1) (wC (.int 0)))) (wCons (wBin dMul (wBin dIx (wVarB 0) (wC (.int 1))) (wBin dIx (wVarB 1) (wC (.int 1)))) wNil))))
/-- parted: one, other -/
def W_parted : WS := (wRet (wCall 2 p_lowest (wCons (wBin dMul (wBin dIx (wVarB 0) (wC (.int 0))) (wBin dIx (wVarB 1) (wC (.int 1)))) (wCons (wBin dMul (wBin dIx (wVarB 0) (wC (.int 1))) (wBin dIx (wVarB 1) (wC (.int 0)))) wNil))))
/-- turned_sign: one -/
def W_turned_sign : WS := (wRet (wTup (wCons (wUn dNeg (wBin dIx (wVarB 0) (wC (.int 0)))) (wCons (wBin dIx (wVarB 0) (wC (.int 1))) wNil))))
/-- _law_is_int: thing -/
def W__law_is_int : WS := (wRet (wAndV (wIsT f_int (wVarB 0)) (wNotV (wIsT f_bool (wVarB 0)))))
/-- _law_gcd: one, two, lap -/
def W__law_gcd : WS := (wSeq (wPar 0 1 (wV (wUn dAbs (wVarB 0))) (wV (wUn dAbs (wVarB 1)))) (wSeq (wFor (.one 2) (wRng1 (wCons (wBin dAdd (wC (.int 4)) (wBin dMul (wC (.int 2)) (wUn dBits (wUn dInt (wVarB 1))))) wNil)) (wSeq (wIfS (wT (wBin dEq (wVarB 1) (wC (.int 0)))) wBreak wNext) (wPar 0 1 (wV (wVar 1)) (wV (wBin dMod (wUn dInt (wVarB 0)) (wVarB 1)))))) (wRet (wVar 0))))
/-- _law_q: top, bottom, by -/
def W__law_q : WS := (wSeq (wSet 2 (wCall 2 p__law_gcd (wCons (wVar 0) (wCons (wVar 1) wNil)))) (wSeq (wSet 2 (wIte (wT (wBin dLt (wVarB 1) (wC (.int 0)))) (wUn dNeg (wVarB 2)) (wVar 2))) (wRet (wTup (wCons (wBin dDivU (wVarB 0) (wVarB 2)) (wCons (wBin dDivU (wVarB 1) (wVarB 2)) wNil))))))
/-- _law_plus: one, two -/
def W__law_plus : WS := (wRet (wCall 2 p__law_q (wCons (wBin dAdd (wBin dMul (wBin dIx (wVarB 0) (wC (.int 0))) (wBin dIx (wVarB 1) (wC (.int 1)))) (wBin dMul (wBin dIx (wVarB 1) (wC (.int 0))) (wBin dIx (wVarB 0) (wC (.int 1))))) (wCons (wBin dMul (wBin dIx (wVarB 0) (wC (.int 1))) (wBin dIx (wVarB 1) (wC (.int 1)))) wNil))))
/-- _law_minus: one, two -/
def W__law_minus : WS := (wRet (wCall 2 p__law_q (wCons (wBin dSub (wBin dMul (wBin dIx (wVarB 0) (wC (.int 0))) (wBin dIx (wVarB 1) (wC (.int 1)))) (wBin dMul (wBin dIx (wVarB 1) (wC (.int 0))) (wBin dIx (wVarB 0) (wC (.int 1))))) (wCons (wBin dMul (wBin dIx (wVarB 0) (wC (.int 1))) (wBin dIx (wVarB 1) (wC (.int 1)))) wNil))))
/-- _law_times: one, two -/
def W__law_times : WS := (wRet (wCall 2 p__law_q (wCons (wBin dMul (wBin dIx (wVarB 0) (wC (.int 0))) (wBin dIx (wVarB 1) (wC (.int 0)))) (wCons (wBin dMul (wBin dIx (wVarB 0) (wC (.int 1))) (wBin dIx (wVarB 1) (wC (.int 1)))) wNil))))
/-- _law_share: one, two -/
def W__law_share : WS := (wRet (wCall 2 p__law_q (wCons (wBin dMul (wBin dIx (wVarB 0) (wC (.int 0))) (wBin dIx (wVarB 1) (wC (.int 1)))) (wCons (wBin dMul (wBin dIx (wVarB 0) (wC (.int 1))) (wBin dIx (wVarB 1) (wC (.int 0)))) wNil))))
/-- _law_is_told: thing -/
def W__law_is_told : WS := (wSeq (wIfS (wOr (wNot (wT (wIsT f_tuple (wVarB 0)))) (wOr (wT (wBin dNe (wUn dLen (wVarB 0)) (wC (.int 2)))) (wOr (wNot (wT (wCall 1 p__law_is_int (wCons (wBin dIx (wVarB 0) (wC (.int 0))) wNil)))) (wNot (wT (wCall 1 p__law_is_int (wCons (wBin dIx (wVarB 0) (wC (.int 1))) wNil))))))) (wRet (wC (.bl false))) wNext) (wRet (wAndV (wBin dGt (wBin dIx (wVarB 0) (wC (.int 1))) (wC (.int 0))) (wBin dEq (wCall 2 p__law_gcd (wCons (wBin dIx (wVarB 0) (wC (.int 0))) (wCons (wBin dIx (wVarB 0) (wC (.int 1))) wNil))) (wC (.int 1))))))
theorem hp_is_whole : ∀ ds b Q, ds.length = 1 → p_is_whole ds b Q → W_is_whole { nx := fun _ b' => Q .non b', rt := Q } (ds.map Slot.v ++ List.replicate 0 .un) b := by
  rintro ds b Q - ⟨d, rfl, ht, q⟩
  show W_is_whole _ [.v d] b
  cases d <;> first | (simp [D.ty] at ht; done) | ((try simp only [wSeq, wSet, wSetO, wRet, wIfS, wFrz, wApp, wDrop, wNext, wBreak, wCont, wNever, wVar, wVarB, wC, wBin, wUn, wT, wAnd, wOr, wNot, wAndV, wOrV, wNotV, wIte, wNil, wCons, wTup, wCall, wListOf, wC2, wIsT, wIsC, wFld, wON, wOS, wSl, wV, wO, wSetIx, wPar, wSwap, wSeqOf, wRng1, wRng2, wFor, wWhile, wYes, wComp, wEnum, wZip, wEnum2, wRgT, wRgL, wAug, dMulT, dMax, wMake, wFz, wCat, wRep, wipeE, D.ty, wIf_true, wIf_false, List.getElem?_cons_zero, List.getElem?_cons_succ, List.set_cons_zero, List.set_cons_succ, dI0_ii, dI_ii, dNeg_i, dGcd_ii, dAbs_i, dInt_i, dInt_b, dBits_i, dLen_t, dLen_l, dTuple_t, dTuple_l, dAdd_ii, dAdd_tt, dAdd_ll, dAdd_ss, dMul_ii, dMul_li, dIs_n, dIs_b, dIsN_n, dRepr_b, rt_0, rt_1, dEq, dNe, dSub, dDiv, dDivU, dMod, dLt, dLe, dGt, dGe, D.isNon, Bool.not_true, Bool.not_false, W_is_whole, f_int, f_bool]); exact q)
theorem hp__law_is_int : ∀ ds b Q, ds.length = 1 → p__law_is_int ds b Q → W__law_is_int { nx := fun _ b' => Q .non b', rt := Q } (ds.map Slot.v ++ List.replicate 0 .un) b := hp_is_whole
theorem hp_is_tuple_of : ∀ ds b Q, ds.length = 2 → p_is_tuple_of ds b Q → W_is_tuple_of { nx := fun _ b' => Q .non b', rt := Q } (ds.map Slot.v ++ List.replicate 0 .un) b := by
  rintro ds b Q - ⟨d, m, rfl, ht, q⟩
  show W_is_tuple_of _ [.v d, .v (.int m)] b
  cases d <;> first | (simp [D.ty] at ht; done) | ((try simp only [wSeq, wSet, wSetO, wRet, wIfS, wFrz, wApp, wDrop, wNext, wBreak, wCont, wNever, wVar, wVarB, wC, wBin, wUn, wT, wAnd, wOr, wNot, wAndV, wOrV, wNotV, wIte, wNil, wCons, wTup, wCall, wListOf, wC2, wIsT, wIsC, wFld, wON, wOS, wSl, wV, wO, wSetIx, wPar, wSwap, wSeqOf, wRng1, wRng2, wFor, wWhile, wYes, wComp, wEnum, wZip, wEnum2, wRgT, wRgL, wAug, dMulT, dMax, wMake, wFz, wCat, wRep, wipeE, D.ty, wIf_true, wIf_false, List.getElem?_cons_zero, List.getElem?_cons_succ, List.set_cons_zero, List.set_cons_succ, dI0_ii, dI_ii, dNeg_i, dGcd_ii, dAbs_i, dInt_i, dInt_b, dBits_i, dLen_t, dLen_l, dTuple_t, dTuple_l, dAdd_ii, dAdd_tt, dAdd_ll, dAdd_ss, dMul_ii, dMul_li, dIs_n, dIs_b, dIsN_n, dRepr_b, rt_0, rt_1, dEq, dNe, dSub, dDiv, dDivU, dMod, dLt, dLe, dGt, dGe, D.isNon, Bool.not_true, Bool.not_false, W_is_tuple_of, f_tuple]); first | exact q | exact ⟨⟨rfl, rfl⟩, q⟩)
theorem hp_copied : ∀ ds b Q, ds.length = 1 → p_copied ds b Q → W_copied { nx := fun _ b' => Q .non b', rt := Q } (ds.map Slot.v ++ List.replicate 0 .un) b := by
  rintro ds b Q - ⟨d, rfl, ht, q⟩
  show W_copied _ [.v d] b
  cases d <;> first | (simp [D.ty] at ht; done) | ((try simp only [wSeq, wSet, wSetO, wRet, wIfS, wFrz, wApp, wDrop, wNext, wBreak, wCont, wNever, wVar, wVarB, wC, wBin, wUn, wT, wAnd, wOr, wNot, wAndV, wOrV, wNotV, wIte, wNil, wCons, wTup, wCall, wListOf, wC2, wIsT, wIsC, wFld, wON, wOS, wSl, wV, wO, wSetIx, wPar, wSwap, wSeqOf, wRng1, wRng2, wFor, wWhile, wYes, wComp, wEnum, wZip, wEnum2, wRgT, wRgL, wAug, dMulT, dMax, wMake, wFz, wCat, wRep, wipeE, D.ty, wIf_true, wIf_false, List.getElem?_cons_zero, List.getElem?_cons_succ, List.set_cons_zero, List.set_cons_succ, dI0_ii, dI_ii, dNeg_i, dGcd_ii, dAbs_i, dInt_i, dInt_b, dBits_i, dLen_t, dLen_l, dTuple_t, dTuple_l, dAdd_ii, dAdd_tt, dAdd_ll, dAdd_ss, dMul_ii, dMul_li, dIs_n, dIs_b, dIsN_n, dRepr_b, rt_0, rt_1, dEq, dNe, dSub, dDiv, dDivU, dMod, dLt, dLe, dGt, dGe, D.isNon, Bool.not_true, Bool.not_false, W_copied, f_list]); exact q)
/-- a test whose value is known -/
theorem bl_eq {a c : Bool} (h : a = c) {Q : D → Nat → Prop} {b : Nat} (q : Q (.bl a) b) : Q (.bl c) b := h ▸ q
theorem hp_is_pair : ∀ ds b Q, ds.length = 1 → p_is_pair ds b Q → W_is_pair { nx := fun _ b' => Q .non b', rt := Q } (ds.map Slot.v ++ List.replicate 0 .un) b := by
  rintro ds b Q - ⟨d, rfl, ht, q⟩
  show W_is_pair _ [.v d] b
  have seq : ∀ (es : List D), (es.all fun d => d.ty.isSome) = true → ∀ (dd : D), (dd = .tup es ∨ dd = .lst es) → Q (.bl dd.isPair) b → W_is_pair { nx := fun _ b' => Q .non b', rt := Q } [.v dd] b := by
    intro es hes dd hdd q
    have e2 : ∀ n : Int, PyData.eqv (D.int n).py (D.int 2).py = decide (n = 2) := fun n => rfl
    rcases es with _ | ⟨x, _ | ⟨y, _ | ⟨z, r⟩⟩⟩
    · rcases hdd with rfl | rfl <;> ((try simp only [wSeq, wSet, wSetO, wRet, wIfS, wFrz, wApp, wDrop, wNext, wBreak, wCont, wNever, wVar, wVarB, wC, wBin, wUn, wT, wAnd, wOr, wNot, wAndV, wOrV, wNotV, wIte, wNil, wCons, wTup, wCall, wListOf, wC2, wIsT, wIsC, wFld, wON, wOS, wSl, wV, wO, wSetIx, wPar, wSwap, wSeqOf, wRng1, wRng2, wFor, wWhile, wYes, wComp, wEnum, wZip, wEnum2, wRgT, wRgL, wAug, dMulT, dMax, wMake, wFz, wCat, wRep, wipeE, D.ty, wIf_true, wIf_false, List.getElem?_cons_zero, List.getElem?_cons_succ, List.set_cons_zero, List.set_cons_succ, dI0_ii, dI_ii, dNeg_i, dGcd_ii, dAbs_i, dInt_i, dInt_b, dBits_i, dLen_t, dLen_l, dTuple_t, dTuple_l, dAdd_ii, dAdd_tt, dAdd_ll, dAdd_ss, dMul_ii, dMul_li, dIs_n, dIs_b, dIsN_n, dRepr_b, rt_0, rt_1, dEq, dNe, dSub, dDiv, dDivU, dMod, dLt, dLe, dGt, dGe, D.isNon, Bool.not_true, Bool.not_false, W_is_pair, f_tuple_list]); exact ⟨⟨rfl, rfl⟩, q⟩)
    · rcases hdd with rfl | rfl <;> ((try simp only [wSeq, wSet, wSetO, wRet, wIfS, wFrz, wApp, wDrop, wNext, wBreak, wCont, wNever, wVar, wVarB, wC, wBin, wUn, wT, wAnd, wOr, wNot, wAndV, wOrV, wNotV, wIte, wNil, wCons, wTup, wCall, wListOf, wC2, wIsT, wIsC, wFld, wON, wOS, wSl, wV, wO, wSetIx, wPar, wSwap, wSeqOf, wRng1, wRng2, wFor, wWhile, wYes, wComp, wEnum, wZip, wEnum2, wRgT, wRgL, wAug, dMulT, dMax, wMake, wFz, wCat, wRep, wipeE, D.ty, wIf_true, wIf_false, List.getElem?_cons_zero, List.getElem?_cons_succ, List.set_cons_zero, List.set_cons_succ, dI0_ii, dI_ii, dNeg_i, dGcd_ii, dAbs_i, dInt_i, dInt_b, dBits_i, dLen_t, dLen_l, dTuple_t, dTuple_l, dAdd_ii, dAdd_tt, dAdd_ll, dAdd_ss, dMul_ii, dMul_li, dIs_n, dIs_b, dIsN_n, dRepr_b, rt_0, rt_1, dEq, dNe, dSub, dDiv, dDivU, dMod, dLt, dLe, dGt, dGe, D.isNon, Bool.not_true, Bool.not_false, W_is_pair, f_tuple_list]); exact ⟨⟨rfl, rfl⟩, q⟩)
    · have hx : x.ty.isSome = true := by simp at hes; exact hes.1
      have hy : y.ty.isSome = true := by simp at hes; exact hes.2
      rcases hdd with rfl | rfl
      · (try simp only [wSeq, wSet, wSetO, wRet, wIfS, wFrz, wApp, wDrop, wNext, wBreak, wCont, wNever, wVar, wVarB, wC, wBin, wUn, wT, wAnd, wOr, wNot, wAndV, wOrV, wNotV, wIte, wNil, wCons, wTup, wCall, wListOf, wC2, wIsT, wIsC, wFld, wON, wOS, wSl, wV, wO, wSetIx, wPar, wSwap, wSeqOf, wRng1, wRng2, wFor, wWhile, wYes, wComp, wEnum, wZip, wEnum2, wRgT, wRgL, wAug, dMulT, dMax, wMake, wFz, wCat, wRep, wipeE, D.ty, wIf_true, wIf_false, List.getElem?_cons_zero, List.getElem?_cons_succ, List.set_cons_zero, List.set_cons_succ, dI0_ii, dI_ii, dNeg_i, dGcd_ii, dAbs_i, dInt_i, dInt_b, dBits_i, dLen_t, dLen_l, dTuple_t, dTuple_l, dAdd_ii, dAdd_tt, dAdd_ll, dAdd_ss, dMul_ii, dMul_li, dIs_n, dIs_b, dIsN_n, dRepr_b, rt_0, rt_1, dEq, dNe, dSub, dDiv, dDivU, dMod, dLt, dLe, dGt, dGe, D.isNon, Bool.not_true, Bool.not_false, W_is_pair, f_tuple_list])
        refine ⟨⟨rfl, rfl⟩, wIf_ff rfl (dIx_t0 ⟨rfl, x, rfl, hx, ?_⟩)⟩
        cases x <;> try exact q
        (try simp only [wSeq, wSet, wSetO, wRet, wIfS, wFrz, wApp, wDrop, wNext, wBreak, wCont, wNever, wVar, wVarB, wC, wBin, wUn, wT, wAnd, wOr, wNot, wAndV, wOrV, wNotV, wIte, wNil, wCons, wTup, wCall, wListOf, wC2, wIsT, wIsC, wFld, wON, wOS, wSl, wV, wO, wSetIx, wPar, wSwap, wSeqOf, wRng1, wRng2, wFor, wWhile, wYes, wComp, wEnum, wZip, wEnum2, wRgT, wRgL, wAug, dMulT, dMax, wMake, wFz, wCat, wRep, wipeE, D.ty, wIf_true, wIf_false, List.getElem?_cons_zero, List.getElem?_cons_succ, List.set_cons_zero, List.set_cons_succ, dI0_ii, dI_ii, dNeg_i, dGcd_ii, dAbs_i, dInt_i, dInt_b, dBits_i, dLen_t, dLen_l, dTuple_t, dTuple_l, dAdd_ii, dAdd_tt, dAdd_ll, dAdd_ss, dMul_ii, dMul_li, dIs_n, dIs_b, dIsN_n, dRepr_b, rt_0, rt_1, dEq, dNe, dSub, dDiv, dDivU, dMod, dLt, dLe, dGt, dGe, D.isNon, Bool.not_true, Bool.not_false, D.isInt])
        refine dIx_t1 ⟨rfl, y, rfl, hy, ?_⟩
        cases y <;> try exact q
      · (try simp only [wSeq, wSet, wSetO, wRet, wIfS, wFrz, wApp, wDrop, wNext, wBreak, wCont, wNever, wVar, wVarB, wC, wBin, wUn, wT, wAnd, wOr, wNot, wAndV, wOrV, wNotV, wIte, wNil, wCons, wTup, wCall, wListOf, wC2, wIsT, wIsC, wFld, wON, wOS, wSl, wV, wO, wSetIx, wPar, wSwap, wSeqOf, wRng1, wRng2, wFor, wWhile, wYes, wComp, wEnum, wZip, wEnum2, wRgT, wRgL, wAug, dMulT, dMax, wMake, wFz, wCat, wRep, wipeE, D.ty, wIf_true, wIf_false, List.getElem?_cons_zero, List.getElem?_cons_succ, List.set_cons_zero, List.set_cons_succ, dI0_ii, dI_ii, dNeg_i, dGcd_ii, dAbs_i, dInt_i, dInt_b, dBits_i, dLen_t, dLen_l, dTuple_t, dTuple_l, dAdd_ii, dAdd_tt, dAdd_ll, dAdd_ss, dMul_ii, dMul_li, dIs_n, dIs_b, dIsN_n, dRepr_b, rt_0, rt_1, dEq, dNe, dSub, dDiv, dDivU, dMod, dLt, dLe, dGt, dGe, D.isNon, Bool.not_true, Bool.not_false, W_is_pair, f_tuple_list])
        refine ⟨⟨rfl, rfl⟩, wIf_ff rfl (dIx_l (j := 0) rfl ⟨rfl, x, rfl, hx, ?_⟩)⟩
        cases x <;> try exact q
        (try simp only [wSeq, wSet, wSetO, wRet, wIfS, wFrz, wApp, wDrop, wNext, wBreak, wCont, wNever, wVar, wVarB, wC, wBin, wUn, wT, wAnd, wOr, wNot, wAndV, wOrV, wNotV, wIte, wNil, wCons, wTup, wCall, wListOf, wC2, wIsT, wIsC, wFld, wON, wOS, wSl, wV, wO, wSetIx, wPar, wSwap, wSeqOf, wRng1, wRng2, wFor, wWhile, wYes, wComp, wEnum, wZip, wEnum2, wRgT, wRgL, wAug, dMulT, dMax, wMake, wFz, wCat, wRep, wipeE, D.ty, wIf_true, wIf_false, List.getElem?_cons_zero, List.getElem?_cons_succ, List.set_cons_zero, List.set_cons_succ, dI0_ii, dI_ii, dNeg_i, dGcd_ii, dAbs_i, dInt_i, dInt_b, dBits_i, dLen_t, dLen_l, dTuple_t, dTuple_l, dAdd_ii, dAdd_tt, dAdd_ll, dAdd_ss, dMul_ii, dMul_li, dIs_n, dIs_b, dIsN_n, dRepr_b, rt_0, rt_1, dEq, dNe, dSub, dDiv, dDivU, dMod, dLt, dLe, dGt, dGe, D.isNon, Bool.not_true, Bool.not_false, D.isInt])
        refine dIx_l (j := 1) rfl ⟨rfl, y, rfl, hy, ?_⟩
        cases y <;> try exact q
    · have q' : Q (.bl false) b := by rcases hdd with rfl | rfl <;> exact q
      have ne2 : (!PyData.eqv (D.int (x :: y :: z :: r).length).py (D.int 2).py) = true := by
        simp only [D.py, PyData.eqv, List.length_cons, Bool.not_eq_true', beq_eq_false_iff_ne]
        omega
      rcases hdd with rfl | rfl <;> ((try simp only [wSeq, wSet, wSetO, wRet, wIfS, wFrz, wApp, wDrop, wNext, wBreak, wCont, wNever, wVar, wVarB, wC, wBin, wUn, wT, wAnd, wOr, wNot, wAndV, wOrV, wNotV, wIte, wNil, wCons, wTup, wCall, wListOf, wC2, wIsT, wIsC, wFld, wON, wOS, wSl, wV, wO, wSetIx, wPar, wSwap, wSeqOf, wRng1, wRng2, wFor, wWhile, wYes, wComp, wEnum, wZip, wEnum2, wRgT, wRgL, wAug, dMulT, dMax, wMake, wFz, wCat, wRep, wipeE, D.ty, wIf_true, wIf_false, List.getElem?_cons_zero, List.getElem?_cons_succ, List.set_cons_zero, List.set_cons_succ, dI0_ii, dI_ii, dNeg_i, dGcd_ii, dAbs_i, dInt_i, dInt_b, dBits_i, dLen_t, dLen_l, dTuple_t, dTuple_l, dAdd_ii, dAdd_tt, dAdd_ll, dAdd_ss, dMul_ii, dMul_li, dIs_n, dIs_b, dIsN_n, dRepr_b, rt_0, rt_1, dEq, dNe, dSub, dDiv, dDivU, dMod, dLt, dLe, dGt, dGe, D.isNon, Bool.not_true, Bool.not_false, W_is_pair, f_tuple_list]); exact ⟨⟨rfl, rfl⟩, wIf_tt ne2 q'⟩)
  cases d with
  | tup es => exact seq es ht _ (.inl rfl) q
  | lst es => exact seq es ht _ (.inr rfl) q
  | ins _ _ => cases ht
  | pen => cases ht
  | _ => (try simp only [wSeq, wSet, wSetO, wRet, wIfS, wFrz, wApp, wDrop, wNext, wBreak, wCont, wNever, wVar, wVarB, wC, wBin, wUn, wT, wAnd, wOr, wNot, wAndV, wOrV, wNotV, wIte, wNil, wCons, wTup, wCall, wListOf, wC2, wIsT, wIsC, wFld, wON, wOS, wSl, wV, wO, wSetIx, wPar, wSwap, wSeqOf, wRng1, wRng2, wFor, wWhile, wYes, wComp, wEnum, wZip, wEnum2, wRgT, wRgL, wAug, dMulT, dMax, wMake, wFz, wCat, wRep, wipeE, D.ty, wIf_true, wIf_false, List.getElem?_cons_zero, List.getElem?_cons_succ, List.set_cons_zero, List.set_cons_succ, dI0_ii, dI_ii, dNeg_i, dGcd_ii, dAbs_i, dInt_i, dInt_b, dBits_i, dLen_t, dLen_l, dTuple_t, dTuple_l, dAdd_ii, dAdd_tt, dAdd_ll, dAdd_ss, dMul_ii, dMul_li, dIs_n, dIs_b, dIsN_n, dRepr_b, rt_0, rt_1, dEq, dNe, dSub, dDiv, dDivU, dMod, dLt, dLe, dGt, dGe, D.isNon, Bool.not_true, Bool.not_false, W_is_pair, f_tuple_list]); exact q
theorem wIf_dec {p : Prop} [Decidable p] {A B : Prop} (h1 : p → A) (h2 : ¬ p → B) : wIf (decide p) A B := by
  by_cases h : p
  · rw [decide_eq_true h]; exact h1 h
  · rw [decide_eq_false h]; exact h2 h
theorem hp_lowest : ∀ ds b Q, ds.length = 2 → p_lowest ds b Q → W_lowest { nx := fun _ b' => Q .non b', rt := Q } (ds.map Slot.v ++ List.replicate 1 .un) b := by
  rintro ds b Q - ⟨t, k, rfl, hk, q⟩
  show W_lowest _ [.v (.int t), .v (.int k), .un] b
  obtain ⟨e1, e2⟩ := low_eq (t := t) hk
  have q' : Q (.tup [.int (t.fdiv (byOf t k)), .int (k.fdiv (byOf t k))]) b := by
    rw [← e1, ← e2]
    exact q
  have hb := byOf_ne (t := t) hk
  (try simp only [wSeq, wSet, wSetO, wRet, wIfS, wFrz, wApp, wDrop, wNext, wBreak, wCont, wNever, wVar, wVarB, wC, wBin, wUn, wT, wAnd, wOr, wNot, wAndV, wOrV, wNotV, wIte, wNil, wCons, wTup, wCall, wListOf, wC2, wIsT, wIsC, wFld, wON, wOS, wSl, wV, wO, wSetIx, wPar, wSwap, wSeqOf, wRng1, wRng2, wFor, wWhile, wYes, wComp, wEnum, wZip, wEnum2, wRgT, wRgL, wAug, dMulT, dMax, wMake, wFz, wCat, wRep, wipeE, D.ty, wIf_true, wIf_false, List.getElem?_cons_zero, List.getElem?_cons_succ, List.set_cons_zero, List.set_cons_succ, dI0_ii, dI_ii, dNeg_i, dGcd_ii, dAbs_i, dInt_i, dInt_b, dBits_i, dLen_t, dLen_l, dTuple_t, dTuple_l, dAdd_ii, dAdd_tt, dAdd_ll, dAdd_ss, dMul_ii, dMul_li, dIs_n, dIs_b, dIsN_n, dRepr_b, rt_0, rt_1, dEq, dNe, dSub, dDiv, dDivU, dMod, dLt, dLe, dGt, dGe, D.isNon, Bool.not_true, Bool.not_false, W_lowest])
  refine wIf_dec (fun h => ?_) (fun h => ?_)
  · have e : byOf t k = ((Nat.gcd t.natAbs k.natAbs : Nat) : Int) := if_pos h
    rw [← e]
    exact ⟨hb, hb, q'⟩
  · have e : byOf t k = -((Nat.gcd t.natAbs k.natAbs : Nat) : Int) := if_neg h
    rw [← e]
    exact ⟨hb, hb, q'⟩
theorem hp_is_told : ∀ ds b Q, ds.length = 1 → p_is_told ds b Q → W_is_told { nx := fun _ b' => Q .non b', rt := Q } (ds.map Slot.v ++ List.replicate 0 .un) b := by
  rintro ds b Q - ⟨d, rfl, hs, q⟩
  show W_is_told _ [.v d] b
  cases d with
  | ins _ _ => cases hs
  | pen => cases hs
  | tup es =>
    (try simp only [wSeq, wSet, wSetO, wRet, wIfS, wFrz, wApp, wDrop, wNext, wBreak, wCont, wNever, wVar, wVarB, wC, wBin, wUn, wT, wAnd, wOr, wNot, wAndV, wOrV, wNotV, wIte, wNil, wCons, wTup, wCall, wListOf, wC2, wIsT, wIsC, wFld, wON, wOS, wSl, wV, wO, wSetIx, wPar, wSwap, wSeqOf, wRng1, wRng2, wFor, wWhile, wYes, wComp, wEnum, wZip, wEnum2, wRgT, wRgL, wAug, dMulT, dMax, wMake, wFz, wCat, wRep, wipeE, D.ty, wIf_true, wIf_false, List.getElem?_cons_zero, List.getElem?_cons_succ, List.set_cons_zero, List.set_cons_succ, dI0_ii, dI_ii, dNeg_i, dGcd_ii, dAbs_i, dInt_i, dInt_b, dBits_i, dLen_t, dLen_l, dTuple_t, dTuple_l, dAdd_ii, dAdd_tt, dAdd_ll, dAdd_ss, dMul_ii, dMul_li, dIs_n, dIs_b, dIsN_n, dRepr_b, rt_0, rt_1, dEq, dNe, dSub, dDiv, dDivU, dMod, dLt, dLe, dGt, dGe, D.isNon, Bool.not_true, Bool.not_false, W_is_told, f_tuple])
    refine ⟨rfl, _, rfl, hs, ?_⟩
    rcases es with _ | ⟨x, _ | ⟨y, _ | ⟨z, r⟩⟩⟩
    · exact q
    · exact q
    · show wIf (pair2 x y) _ _
      have q2 : Q (.bl (told2 x y).isSome) b := q
      cases x <;> try exact q2
      cases y <;> try exact q2
      rename_i t k
      refine wIf_dec (fun h => ?_) (fun h => ?_)
      · refine dIx_t0 (dIx_t1 ⟨⟨rfl, rfl⟩, ?_⟩)
        refine bl_eq ?_ q2
        show (told2 (.int t) (.int k)).isSome = (((Nat.gcd t.natAbs k.natAbs : Nat) : Int) == 1)
        simp only [told2]
        by_cases g : Nat.gcd t.natAbs k.natAbs = 1
        · rw [dif_pos ⟨h, g⟩]
          show true = _
          symm
          rw [g]
          rfl
        · rw [dif_neg fun z => g z.2]
          symm
          simpa using fun z => g (by omega)
      · refine bl_eq ?_ q2
        simp only [told2]
        rw [dif_neg fun z => h z.1]
        rfl
    · exact q
  | _ => (try simp only [wSeq, wSet, wSetO, wRet, wIfS, wFrz, wApp, wDrop, wNext, wBreak, wCont, wNever, wVar, wVarB, wC, wBin, wUn, wT, wAnd, wOr, wNot, wAndV, wOrV, wNotV, wIte, wNil, wCons, wTup, wCall, wListOf, wC2, wIsT, wIsC, wFld, wON, wOS, wSl, wV, wO, wSetIx, wPar, wSwap, wSeqOf, wRng1, wRng2, wFor, wWhile, wYes, wComp, wEnum, wZip, wEnum2, wRgT, wRgL, wAug, dMulT, dMax, wMake, wFz, wCat, wRep, wipeE, D.ty, wIf_true, wIf_false, List.getElem?_cons_zero, List.getElem?_cons_succ, List.set_cons_zero, List.set_cons_succ, dI0_ii, dI_ii, dNeg_i, dGcd_ii, dAbs_i, dInt_i, dInt_b, dBits_i, dLen_t, dLen_l, dTuple_t, dTuple_l, dAdd_ii, dAdd_tt, dAdd_ll, dAdd_ss, dMul_ii, dMul_li, dIs_n, dIs_b, dIsN_n, dRepr_b, rt_0, rt_1, dEq, dNe, dSub, dDiv, dDivU, dMod, dLt, dLe, dGt, dGe, D.isNon, Bool.not_true, Bool.not_false, W_is_told, f_tuple]); exact q
/-! sizes -/
theorem Sz.den {x : Rat} (h : Sz x) : (x.den : Int).natAbs < 2 ^ SB := by rw [Int.natAbs_natCast]; exact h.d
theorem sz_mul {a b : Int} (h : a.natAbs < 2 ^ SB) (h' : b.natAbs < 2 ^ SB) : CMulW a b := cmulW_of h h' (by decide) (by decide) (by decide)
theorem natAbs_mul_lt {a b : Int} {k l : Nat} (h : a.natAbs < 2 ^ k) (h' : b.natAbs < 2 ^ l) : (a * b).natAbs < 2 ^ (k + l) := by
  rw [Int.natAbs_mul]
  exact mul_lt_pow h h'
theorem natAbs_add_lt {a b : Int} {k : Nat} (h : a.natAbs < 2 ^ k) (h' : b.natAbs < 2 ^ k) : (a + b).natAbs < 2 ^ (k + 1) := by
  have := Int.natAbs_add_le a b
  rw [Nat.pow_succ]
  omega
theorem natAbs_sub_lt {a b : Int} {k : Nat} (h : a.natAbs < 2 ^ k) (h' : b.natAbs < 2 ^ k) : (a - b).natAbs < 2 ^ (k + 1) := by
  have := Int.natAbs_sub_le a b
  rw [Nat.pow_succ]
  omega
theorem dens_ne (x y : Rat) : (x.den : Int) * (y.den : Int) ≠ 0 := Int.mul_ne_zero (by have := den_pos x; omega) (by have := den_pos y; omega)
theorem add_rt (x y : Rat) : x + y = Rat.divInt (x.num * y.den + y.num * x.den) (x.den * y.den) := by
  conv => lhs; rw [← Rat.num_divInt_den x, ← Rat.num_divInt_den y]
  exact Rat.divInt_add_divInt _ _ (by have := den_pos x; omega) (by have := den_pos y; omega)
theorem sub_rt (x y : Rat) : x - y = Rat.divInt (x.num * y.den - y.num * x.den) (x.den * y.den) := by
  conv => lhs; rw [← Rat.num_divInt_den x, ← Rat.num_divInt_den y]
  rw [Rat.sub_eq_add_neg, Rat.neg_divInt, Rat.divInt_add_divInt _ _ (by have := den_pos x; omega) (by have := den_pos y; omega), Int.neg_mul, ← Int.sub_eq_add_neg]
theorem mul_rt (x y : Rat) : x * y = Rat.divInt (x.num * y.num) (x.den * y.den) := by
  conv => lhs; rw [← Rat.num_divInt_den x, ← Rat.num_divInt_den y]
  exact Rat.divInt_mul_divInt _ _
theorem div_rt (x y : Rat) : x / y = Rat.divInt (x.num * y.den) (x.den * y.num) := by
  conv => lhs; rw [← Rat.num_divInt_den x, ← Rat.num_divInt_den y]
  rw [Rat.div_def, Rat.inv_divInt, Rat.divInt_mul_divInt]
theorem rt_ix0 {x : Rat} {Q : D → Prop} (q : Q (.int x.num)) : dIx (rt x) (.int 0) Q := dIx_t0 q
theorem rt_ix1 {x : Rat} {Q : D → Prop} (q : Q (.int (x.den : Int))) : dIx (rt x) (.int 1) Q := dIx_t1 q
theorem hp_summed : ∀ ds b Q, ds.length = 2 → p_summed ds b Q → W_summed { nx := fun _ b' => Q .non b', rt := Q } (ds.map Slot.v ++ List.replicate 0 .un) b := by
  rintro ds b Q - ⟨x, y, rfl, hx, hy, -, q⟩
  show W_summed _ [.v (rt x), .v (rt y)] b
  (try simp only [wSeq, wSet, wSetO, wRet, wIfS, wFrz, wApp, wDrop, wNext, wBreak, wCont, wNever, wVar, wVarB, wC, wBin, wUn, wT, wAnd, wOr, wNot, wAndV, wOrV, wNotV, wIte, wNil, wCons, wTup, wCall, wListOf, wC2, wIsT, wIsC, wFld, wON, wOS, wSl, wV, wO, wSetIx, wPar, wSwap, wSeqOf, wRng1, wRng2, wFor, wWhile, wYes, wComp, wEnum, wZip, wEnum2, wRgT, wRgL, wAug, dMulT, dMax, wMake, wFz, wCat, wRep, wipeE, D.ty, wIf_true, wIf_false, List.getElem?_cons_zero, List.getElem?_cons_succ, List.set_cons_zero, List.set_cons_succ, dI0_ii, dI_ii, dNeg_i, dGcd_ii, dAbs_i, dInt_i, dInt_b, dBits_i, dLen_t, dLen_l, dTuple_t, dTuple_l, dAdd_ii, dAdd_tt, dAdd_ll, dAdd_ss, dMul_ii, dMul_li, dIs_n, dIs_b, dIsN_n, dRepr_b, rt_0, rt_1, dEq, dNe, dSub, dDiv, dDivU, dMod, dLt, dLe, dGt, dGe, D.isNon, Bool.not_true, Bool.not_false, W_summed])
  refine ⟨sz_mul hx.n hy.den, sz_mul hy.n hx.den, sz_mul hx.den hy.den, rfl, _, _, rfl, dens_ne x y, ?_⟩
  rw [← add_rt]
  exact q
theorem hp_lessened : ∀ ds b Q, ds.length = 2 → p_lessened ds b Q → W_lessened { nx := fun _ b' => Q .non b', rt := Q } (ds.map Slot.v ++ List.replicate 0 .un) b := by
  rintro ds b Q - ⟨x, y, rfl, hx, hy, -, q⟩
  show W_lessened _ [.v (rt x), .v (rt y)] b
  (try simp only [wSeq, wSet, wSetO, wRet, wIfS, wFrz, wApp, wDrop, wNext, wBreak, wCont, wNever, wVar, wVarB, wC, wBin, wUn, wT, wAnd, wOr, wNot, wAndV, wOrV, wNotV, wIte, wNil, wCons, wTup, wCall, wListOf, wC2, wIsT, wIsC, wFld, wON, wOS, wSl, wV, wO, wSetIx, wPar, wSwap, wSeqOf, wRng1, wRng2, wFor, wWhile, wYes, wComp, wEnum, wZip, wEnum2, wRgT, wRgL, wAug, dMulT, dMax, wMake, wFz, wCat, wRep, wipeE, D.ty, wIf_true, wIf_false, List.getElem?_cons_zero, List.getElem?_cons_succ, List.set_cons_zero, List.set_cons_succ, dI0_ii, dI_ii, dNeg_i, dGcd_ii, dAbs_i, dInt_i, dInt_b, dBits_i, dLen_t, dLen_l, dTuple_t, dTuple_l, dAdd_ii, dAdd_tt, dAdd_ll, dAdd_ss, dMul_ii, dMul_li, dIs_n, dIs_b, dIsN_n, dRepr_b, rt_0, rt_1, dEq, dNe, dSub, dDiv, dDivU, dMod, dLt, dLe, dGt, dGe, D.isNon, Bool.not_true, Bool.not_false, W_lessened])
  refine ⟨sz_mul hx.n hy.den, sz_mul hy.n hx.den, sz_mul hx.den hy.den, rfl, _, _, rfl, dens_ne x y, ?_⟩
  rw [← sub_rt]
  exact q
theorem hp_scaled : ∀ ds b Q, ds.length = 2 → p_scaled ds b Q → W_scaled { nx := fun _ b' => Q .non b', rt := Q } (ds.map Slot.v ++ List.replicate 0 .un) b := by
  rintro ds b Q - ⟨x, y, rfl, hx, hy, -, q⟩
  show W_scaled _ [.v (rt x), .v (rt y)] b
  (try simp only [wSeq, wSet, wSetO, wRet, wIfS, wFrz, wApp, wDrop, wNext, wBreak, wCont, wNever, wVar, wVarB, wC, wBin, wUn, wT, wAnd, wOr, wNot, wAndV, wOrV, wNotV, wIte, wNil, wCons, wTup, wCall, wListOf, wC2, wIsT, wIsC, wFld, wON, wOS, wSl, wV, wO, wSetIx, wPar, wSwap, wSeqOf, wRng1, wRng2, wFor, wWhile, wYes, wComp, wEnum, wZip, wEnum2, wRgT, wRgL, wAug, dMulT, dMax, wMake, wFz, wCat, wRep, wipeE, D.ty, wIf_true, wIf_false, List.getElem?_cons_zero, List.getElem?_cons_succ, List.set_cons_zero, List.set_cons_succ, dI0_ii, dI_ii, dNeg_i, dGcd_ii, dAbs_i, dInt_i, dInt_b, dBits_i, dLen_t, dLen_l, dTuple_t, dTuple_l, dAdd_ii, dAdd_tt, dAdd_ll, dAdd_ss, dMul_ii, dMul_li, dIs_n, dIs_b, dIsN_n, dRepr_b, rt_0, rt_1, dEq, dNe, dSub, dDiv, dDivU, dMod, dLt, dLe, dGt, dGe, D.isNon, Bool.not_true, Bool.not_false, W_scaled])
  refine ⟨sz_mul hx.n hy.n, sz_mul hx.den hy.den, rfl, _, _, rfl, dens_ne x y, ?_⟩
  rw [← mul_rt]
  exact q
theorem num_ne {y : Rat} (h : y ≠ 0) : y.num ≠ 0 := by simpa using h
theorem hp_parted : ∀ ds b Q, ds.length = 2 → p_parted ds b Q → W_parted { nx := fun _ b' => Q .non b', rt := Q } (ds.map Slot.v ++ List.replicate 0 .un) b := by
  rintro ds b Q - ⟨x, y, rfl, hx, hy, h0, q⟩
  show W_parted _ [.v (rt x), .v (rt y)] b
  have hn : (x.den : Int) * y.num ≠ 0 := Int.mul_ne_zero (by have := den_pos x; omega) (num_ne h0)
  (try simp only [wSeq, wSet, wSetO, wRet, wIfS, wFrz, wApp, wDrop, wNext, wBreak, wCont, wNever, wVar, wVarB, wC, wBin, wUn, wT, wAnd, wOr, wNot, wAndV, wOrV, wNotV, wIte, wNil, wCons, wTup, wCall, wListOf, wC2, wIsT, wIsC, wFld, wON, wOS, wSl, wV, wO, wSetIx, wPar, wSwap, wSeqOf, wRng1, wRng2, wFor, wWhile, wYes, wComp, wEnum, wZip, wEnum2, wRgT, wRgL, wAug, dMulT, dMax, wMake, wFz, wCat, wRep, wipeE, D.ty, wIf_true, wIf_false, List.getElem?_cons_zero, List.getElem?_cons_succ, List.set_cons_zero, List.set_cons_succ, dI0_ii, dI_ii, dNeg_i, dGcd_ii, dAbs_i, dInt_i, dInt_b, dBits_i, dLen_t, dLen_l, dTuple_t, dTuple_l, dAdd_ii, dAdd_tt, dAdd_ll, dAdd_ss, dMul_ii, dMul_li, dIs_n, dIs_b, dIsN_n, dRepr_b, rt_0, rt_1, dEq, dNe, dSub, dDiv, dDivU, dMod, dLt, dLe, dGt, dGe, D.isNon, Bool.not_true, Bool.not_false, W_parted])
  refine ⟨sz_mul hx.n hy.den, sz_mul hx.den hy.n, rfl, _, _, rfl, hn, ?_⟩
  rw [← div_rt]
  exact q
theorem hp_turned_sign : ∀ ds b Q, ds.length = 1 → p_turned_sign ds b Q → W_turned_sign { nx := fun _ b' => Q .non b', rt := Q } (ds.map Slot.v ++ List.replicate 0 .un) b := by
  rintro ds b Q - ⟨x, rfl, q⟩
  show W_turned_sign _ [.v (rt x)] b
  (try simp only [wSeq, wSet, wSetO, wRet, wIfS, wFrz, wApp, wDrop, wNext, wBreak, wCont, wNever, wVar, wVarB, wC, wBin, wUn, wT, wAnd, wOr, wNot, wAndV, wOrV, wNotV, wIte, wNil, wCons, wTup, wCall, wListOf, wC2, wIsT, wIsC, wFld, wON, wOS, wSl, wV, wO, wSetIx, wPar, wSwap, wSeqOf, wRng1, wRng2, wFor, wWhile, wYes, wComp, wEnum, wZip, wEnum2, wRgT, wRgL, wAug, dMulT, dMax, wMake, wFz, wCat, wRep, wipeE, D.ty, wIf_true, wIf_false, List.getElem?_cons_zero, List.getElem?_cons_succ, List.set_cons_zero, List.set_cons_succ, dI0_ii, dI_ii, dNeg_i, dGcd_ii, dAbs_i, dInt_i, dInt_b, dBits_i, dLen_t, dLen_l, dTuple_t, dTuple_l, dAdd_ii, dAdd_tt, dAdd_ll, dAdd_ss, dMul_ii, dMul_li, dIs_n, dIs_b, dIsN_n, dRepr_b, rt_0, rt_1, dEq, dNe, dSub, dDiv, dDivU, dMod, dLt, dLe, dGt, dGe, D.isNon, Bool.not_true, Bool.not_false, W_turned_sign])
  exact q
theorem hp__law_q : ∀ ds b Q, ds.length = 2 → p__law_q ds b Q → W__law_q { nx := fun _ b' => Q .non b', rt := Q } (ds.map Slot.v ++ List.replicate 1 .un) b := by
  rintro ds b Q - ⟨t, k, rfl, hk, h1, h2, q⟩
  show W__law_q _ [.v (.int t), .v (.int k), .un] b
  obtain ⟨e1, e2⟩ := low_eq (t := t) hk
  have q' : Q (.tup [.int (t.fdiv (byOf t k)), .int (k.fdiv (byOf t k))]) b := by
    rw [← e1, ← e2]
    exact q
  have hb := byOf_ne (t := t) hk
  (try simp only [wSeq, wSet, wSetO, wRet, wIfS, wFrz, wApp, wDrop, wNext, wBreak, wCont, wNever, wVar, wVarB, wC, wBin, wUn, wT, wAnd, wOr, wNot, wAndV, wOrV, wNotV, wIte, wNil, wCons, wTup, wCall, wListOf, wC2, wIsT, wIsC, wFld, wON, wOS, wSl, wV, wO, wSetIx, wPar, wSwap, wSeqOf, wRng1, wRng2, wFor, wWhile, wYes, wComp, wEnum, wZip, wEnum2, wRgT, wRgL, wAug, dMulT, dMax, wMake, wFz, wCat, wRep, wipeE, D.ty, wIf_true, wIf_false, List.getElem?_cons_zero, List.getElem?_cons_succ, List.set_cons_zero, List.set_cons_succ, dI0_ii, dI_ii, dNeg_i, dGcd_ii, dAbs_i, dInt_i, dInt_b, dBits_i, dLen_t, dLen_l, dTuple_t, dTuple_l, dAdd_ii, dAdd_tt, dAdd_ll, dAdd_ss, dMul_ii, dMul_li, dIs_n, dIs_b, dIsN_n, dRepr_b, rt_0, rt_1, dEq, dNe, dSub, dDiv, dDivU, dMod, dLt, dLe, dGt, dGe, D.isNon, Bool.not_true, Bool.not_false, W__law_q])
  refine ⟨rfl, _, _, rfl, h1, h2, wIf_dec (fun h => ?_) (fun h => ?_)⟩
  · have e : byOf t k = -((Nat.gcd t.natAbs k.natAbs : Nat) : Int) := if_neg (by omega)
    (try simp only [wSeq, wSet, wSetO, wRet, wIfS, wFrz, wApp, wDrop, wNext, wBreak, wCont, wNever, wVar, wVarB, wC, wBin, wUn, wT, wAnd, wOr, wNot, wAndV, wOrV, wNotV, wIte, wNil, wCons, wTup, wCall, wListOf, wC2, wIsT, wIsC, wFld, wON, wOS, wSl, wV, wO, wSetIx, wPar, wSwap, wSeqOf, wRng1, wRng2, wFor, wWhile, wYes, wComp, wEnum, wZip, wEnum2, wRgT, wRgL, wAug, dMulT, dMax, wMake, wFz, wCat, wRep, wipeE, D.ty, wIf_true, wIf_false, List.getElem?_cons_zero, List.getElem?_cons_succ, List.set_cons_zero, List.set_cons_succ, dI0_ii, dI_ii, dNeg_i, dGcd_ii, dAbs_i, dInt_i, dInt_b, dBits_i, dLen_t, dLen_l, dTuple_t, dTuple_l, dAdd_ii, dAdd_tt, dAdd_ll, dAdd_ss, dMul_ii, dMul_li, dIs_n, dIs_b, dIsN_n, dRepr_b, rt_0, rt_1, dEq, dNe, dSub, dDiv, dDivU, dMod, dLt, dLe, dGt, dGe, D.isNon, Bool.not_true, Bool.not_false])
    rw [← e]
    exact ⟨hb, hb, q'⟩
  · have e : byOf t k = ((Nat.gcd t.natAbs k.natAbs : Nat) : Int) := if_pos (by omega)
    (try simp only [wSeq, wSet, wSetO, wRet, wIfS, wFrz, wApp, wDrop, wNext, wBreak, wCont, wNever, wVar, wVarB, wC, wBin, wUn, wT, wAnd, wOr, wNot, wAndV, wOrV, wNotV, wIte, wNil, wCons, wTup, wCall, wListOf, wC2, wIsT, wIsC, wFld, wON, wOS, wSl, wV, wO, wSetIx, wPar, wSwap, wSeqOf, wRng1, wRng2, wFor, wWhile, wYes, wComp, wEnum, wZip, wEnum2, wRgT, wRgL, wAug, dMulT, dMax, wMake, wFz, wCat, wRep, wipeE, D.ty, wIf_true, wIf_false, List.getElem?_cons_zero, List.getElem?_cons_succ, List.set_cons_zero, List.set_cons_succ, dI0_ii, dI_ii, dNeg_i, dGcd_ii, dAbs_i, dInt_i, dInt_b, dBits_i, dLen_t, dLen_l, dTuple_t, dTuple_l, dAdd_ii, dAdd_tt, dAdd_ll, dAdd_ss, dMul_ii, dMul_li, dIs_n, dIs_b, dIsN_n, dRepr_b, rt_0, rt_1, dEq, dNe, dSub, dDiv, dDivU, dMod, dLt, dLe, dGt, dGe, D.isNon, Bool.not_true, Bool.not_false])
    rw [← e]
    exact ⟨hb, hb, q'⟩
theorem big_log {a : Int} {n : Nat} (h : a.natAbs < 2 ^ n) (hn : 0 < n) (hs : n ≤ 1000000) : a.natAbs.log2 < 1000000 := by
  have := log2_lt h hn
  omega
theorem num_den_lt {x y : Rat} (hx : Sz x) (hy : Sz y) : (x.num * y.den).natAbs < 2 ^ (SB + SB) := natAbs_mul_lt hx.n hy.den
theorem hp__law_plus : ∀ ds b Q, ds.length = 2 → p__law_plus ds b Q → W__law_plus { nx := fun _ b' => Q .non b', rt := Q } (ds.map Slot.v ++ List.replicate 0 .un) b := by
  rintro ds b Q - ⟨x, y, rfl, hx, hy, -, q⟩
  show W__law_plus _ [.v (rt x), .v (rt y)] b
  (try simp only [wSeq, wSet, wSetO, wRet, wIfS, wFrz, wApp, wDrop, wNext, wBreak, wCont, wNever, wVar, wVarB, wC, wBin, wUn, wT, wAnd, wOr, wNot, wAndV, wOrV, wNotV, wIte, wNil, wCons, wTup, wCall, wListOf, wC2, wIsT, wIsC, wFld, wON, wOS, wSl, wV, wO, wSetIx, wPar, wSwap, wSeqOf, wRng1, wRng2, wFor, wWhile, wYes, wComp, wEnum, wZip, wEnum2, wRgT, wRgL, wAug, dMulT, dMax, wMake, wFz, wCat, wRep, wipeE, D.ty, wIf_true, wIf_false, List.getElem?_cons_zero, List.getElem?_cons_succ, List.set_cons_zero, List.set_cons_succ, dI0_ii, dI_ii, dNeg_i, dGcd_ii, dAbs_i, dInt_i, dInt_b, dBits_i, dLen_t, dLen_l, dTuple_t, dTuple_l, dAdd_ii, dAdd_tt, dAdd_ll, dAdd_ss, dMul_ii, dMul_li, dIs_n, dIs_b, dIsN_n, dRepr_b, rt_0, rt_1, dEq, dNe, dSub, dDiv, dDivU, dMod, dLt, dLe, dGt, dGe, D.isNon, Bool.not_true, Bool.not_false, W__law_plus])
  refine ⟨sz_mul hx.n hy.den, sz_mul hy.n hx.den, sz_mul hx.den hy.den, rfl, _, _, rfl, dens_ne x y, big_log (natAbs_add_lt (num_den_lt hx hy) (num_den_lt hy hx)) (by decide) (by decide), big_log (natAbs_mul_lt hx.den hy.den) (by decide) (by decide), ?_⟩
  rw [← add_rt]
  exact q
theorem hp__law_minus : ∀ ds b Q, ds.length = 2 → p__law_minus ds b Q → W__law_minus { nx := fun _ b' => Q .non b', rt := Q } (ds.map Slot.v ++ List.replicate 0 .un) b := by
  rintro ds b Q - ⟨x, y, rfl, hx, hy, -, q⟩
  show W__law_minus _ [.v (rt x), .v (rt y)] b
  (try simp only [wSeq, wSet, wSetO, wRet, wIfS, wFrz, wApp, wDrop, wNext, wBreak, wCont, wNever, wVar, wVarB, wC, wBin, wUn, wT, wAnd, wOr, wNot, wAndV, wOrV, wNotV, wIte, wNil, wCons, wTup, wCall, wListOf, wC2, wIsT, wIsC, wFld, wON, wOS, wSl, wV, wO, wSetIx, wPar, wSwap, wSeqOf, wRng1, wRng2, wFor, wWhile, wYes, wComp, wEnum, wZip, wEnum2, wRgT, wRgL, wAug, dMulT, dMax, wMake, wFz, wCat, wRep, wipeE, D.ty, wIf_true, wIf_false, List.getElem?_cons_zero, List.getElem?_cons_succ, List.set_cons_zero, List.set_cons_succ, dI0_ii, dI_ii, dNeg_i, dGcd_ii, dAbs_i, dInt_i, dInt_b, dBits_i, dLen_t, dLen_l, dTuple_t, dTuple_l, dAdd_ii, dAdd_tt, dAdd_ll, dAdd_ss, dMul_ii, dMul_li, dIs_n, dIs_b, dIsN_n, dRepr_b, rt_0, rt_1, dEq, dNe, dSub, dDiv, dDivU, dMod, dLt, dLe, dGt, dGe, D.isNon, Bool.not_true, Bool.not_false, W__law_minus])
  refine ⟨sz_mul hx.n hy.den, sz_mul hy.n hx.den, sz_mul hx.den hy.den, rfl, _, _, rfl, dens_ne x y, big_log (natAbs_sub_lt (num_den_lt hx hy) (num_den_lt hy hx)) (by decide) (by decide), big_log (natAbs_mul_lt hx.den hy.den) (by decide) (by decide), ?_⟩
  rw [← sub_rt]
  exact q
theorem hp__law_times : ∀ ds b Q, ds.length = 2 → p__law_times ds b Q → W__law_times { nx := fun _ b' => Q .non b', rt := Q } (ds.map Slot.v ++ List.replicate 0 .un) b := by
  rintro ds b Q - ⟨x, y, rfl, hx, hy, -, q⟩
  show W__law_times _ [.v (rt x), .v (rt y)] b
  (try simp only [wSeq, wSet, wSetO, wRet, wIfS, wFrz, wApp, wDrop, wNext, wBreak, wCont, wNever, wVar, wVarB, wC, wBin, wUn, wT, wAnd, wOr, wNot, wAndV, wOrV, wNotV, wIte, wNil, wCons, wTup, wCall, wListOf, wC2, wIsT, wIsC, wFld, wON, wOS, wSl, wV, wO, wSetIx, wPar, wSwap, wSeqOf, wRng1, wRng2, wFor, wWhile, wYes, wComp, wEnum, wZip, wEnum2, wRgT, wRgL, wAug, dMulT, dMax, wMake, wFz, wCat, wRep, wipeE, D.ty, wIf_true, wIf_false, List.getElem?_cons_zero, List.getElem?_cons_succ, List.set_cons_zero, List.set_cons_succ, dI0_ii, dI_ii, dNeg_i, dGcd_ii, dAbs_i, dInt_i, dInt_b, dBits_i, dLen_t, dLen_l, dTuple_t, dTuple_l, dAdd_ii, dAdd_tt, dAdd_ll, dAdd_ss, dMul_ii, dMul_li, dIs_n, dIs_b, dIsN_n, dRepr_b, rt_0, rt_1, dEq, dNe, dSub, dDiv, dDivU, dMod, dLt, dLe, dGt, dGe, D.isNon, Bool.not_true, Bool.not_false, W__law_times])
  refine ⟨sz_mul hx.n hy.n, sz_mul hx.den hy.den, rfl, _, _, rfl, dens_ne x y, big_log (natAbs_mul_lt hx.n hy.n) (by decide) (by decide), big_log (natAbs_mul_lt hx.den hy.den) (by decide) (by decide), ?_⟩
  rw [← mul_rt]
  exact q
theorem hp__law_share : ∀ ds b Q, ds.length = 2 → p__law_share ds b Q → W__law_share { nx := fun _ b' => Q .non b', rt := Q } (ds.map Slot.v ++ List.replicate 0 .un) b := by
  rintro ds b Q - ⟨x, y, rfl, hx, hy, h0, q⟩
  show W__law_share _ [.v (rt x), .v (rt y)] b
  have hn : (x.den : Int) * y.num ≠ 0 := Int.mul_ne_zero (by have := den_pos x; omega) (num_ne h0)
  (try simp only [wSeq, wSet, wSetO, wRet, wIfS, wFrz, wApp, wDrop, wNext, wBreak, wCont, wNever, wVar, wVarB, wC, wBin, wUn, wT, wAnd, wOr, wNot, wAndV, wOrV, wNotV, wIte, wNil, wCons, wTup, wCall, wListOf, wC2, wIsT, wIsC, wFld, wON, wOS, wSl, wV, wO, wSetIx, wPar, wSwap, wSeqOf, wRng1, wRng2, wFor, wWhile, wYes, wComp, wEnum, wZip, wEnum2, wRgT, wRgL, wAug, dMulT, dMax, wMake, wFz, wCat, wRep, wipeE, D.ty, wIf_true, wIf_false, List.getElem?_cons_zero, List.getElem?_cons_succ, List.set_cons_zero, List.set_cons_succ, dI0_ii, dI_ii, dNeg_i, dGcd_ii, dAbs_i, dInt_i, dInt_b, dBits_i, dLen_t, dLen_l, dTuple_t, dTuple_l, dAdd_ii, dAdd_tt, dAdd_ll, dAdd_ss, dMul_ii, dMul_li, dIs_n, dIs_b, dIsN_n, dRepr_b, rt_0, rt_1, dEq, dNe, dSub, dDiv, dDivU, dMod, dLt, dLe, dGt, dGe, D.isNon, Bool.not_true, Bool.not_false, W__law_share])
  refine ⟨sz_mul hx.n hy.den, sz_mul hx.den hy.n, rfl, _, _, rfl, hn, big_log (natAbs_mul_lt hx.n hy.den) (by decide) (by decide), big_log (natAbs_mul_lt hx.den hy.n) (by decide) (by decide), ?_⟩
  rw [← div_rt]
  exact q
/-! Euclid -/
theorem mod_half {a c : Nat} (h : 0 < c) (hc : c ≤ a) : 2 * (a % c) < a + 1 := by
  have h1 := Nat.mod_lt a h
  have h2 := Nat.div_add_mod a c
  have h3 : 1 ≤ a / c := Nat.div_pos hc h
  have h4 : c * 1 ≤ c * (a / c) := Nat.mul_le_mul_left c h3
  omega
theorem hp__law_gcd : ∀ ds b Q, ds.length = 2 → p__law_gcd ds b Q → W__law_gcd { nx := fun _ b' => Q .non b', rt := Q } (ds.map Slot.v ++ List.replicate 1 .un) b := by
  rintro ds b Q - ⟨t, k, rfl, h1, h2, q⟩
  show W__law_gcd _ [.v (.int t), .v (.int k), .un] b
  have eabs : ∀ i : Int, (if i < 0 then -i else i) = ((i.natAbs : Nat) : Int) := fun i => by split <;> omega
  (try simp only [wSeq, wSet, wSetO, wRet, wIfS, wFrz, wApp, wDrop, wNext, wBreak, wCont, wNever, wVar, wVarB, wC, wBin, wUn, wT, wAnd, wOr, wNot, wAndV, wOrV, wNotV, wIte, wNil, wCons, wTup, wCall, wListOf, wC2, wIsT, wIsC, wFld, wON, wOS, wSl, wV, wO, wSetIx, wPar, wSwap, wSeqOf, wRng1, wRng2, wFor, wWhile, wYes, wComp, wEnum, wZip, wEnum2, wRgT, wRgL, wAug, dMulT, dMax, wMake, wFz, wCat, wRep, wipeE, D.ty, wIf_true, wIf_false, List.getElem?_cons_zero, List.getElem?_cons_succ, List.set_cons_zero, List.set_cons_succ, dI0_ii, dI_ii, dNeg_i, dGcd_ii, dAbs_i, dInt_i, dInt_b, dBits_i, dLen_t, dLen_l, dTuple_t, dTuple_l, dAdd_ii, dAdd_tt, dAdd_ll, dAdd_ss, dMul_ii, dMul_li, dIs_n, dIs_b, dIsN_n, dRepr_b, rt_0, rt_1, dEq, dNe, dSub, dDiv, dDivU, dMod, dLt, dLe, dGt, dGe, D.isNon, Bool.not_true, Bool.not_false, W__law_gcd, eabs])
  have hbits : (Builtin.Int.intBits ((k.natAbs : Nat) : Int)) ≤ k.natAbs.log2 + 1 := by
    unfold Builtin.Int.intBits
    split
    · omega
    · rw [Int.natAbs_natCast]
      exact Nat.le_refl _
  have hb0 : k.natAbs < 2 ^ (Builtin.Int.intBits ((k.natAbs : Nat) : Int)) := by
    unfold Builtin.Int.intBits
    split
    · rename_i h
      have : ((k.natAbs : Nat) : Int) = 0 := by simpa using h
      have : k.natAbs = 0 := by omega
      rw [this]
      decide
    · rw [Int.natAbs_natCast]
      exact Nat.lt_log2_self
  generalize Builtin.Int.intBits ((k.natAbs : Nat) : Int) = n at hbits hb0
  refine ⟨cmulW_of (k := 2) (l := 64) (by decide) (by rw [Int.natAbs_natCast]; exact Nat.lt_of_lt_of_le (show n < 1000001 by omega) (by decide)) (by decide) (by decide) (by decide), ⟨by omega, by omega⟩, ?_⟩
  have len : (rangeD 0 (4 + 2 * (n : Int)).toNat).length = 4 + 2 * n := by rw [rangeD_len]; omega
  refine for_rule (I := fun i env b' => b' = b ∧ ∃ (x y : Nat) (s : Slot), env = [.v (.int (x : Int)), .v (.int (y : Int)), s] ∧ Nat.gcd x y = Nat.gcd t.natAbs k.natAbs ∧ (i = 0 → y < 2 ^ n) ∧ (1 ≤ i → y < x ∨ y = 0) ∧ (1 ≤ i → y = 0 ∨ x * y * 2 ^ i < 2 ^ (2 * n + 1))) ?_ ?_ _ _ ⟨rfl, _, _, _, rfl, rfl, fun h => hb0, fun h => by omega, fun h => by omega⟩
  · rintro i d env b' E' hd ⟨rfl, x, y, s, rfl, hg, h0, h3, h4⟩ hnx hct hbk hrt
    refine ⟨_, rfl, ?_⟩
    (try simp only [wSeq, wSet, wSetO, wRet, wIfS, wFrz, wApp, wDrop, wNext, wBreak, wCont, wNever, wVar, wVarB, wC, wBin, wUn, wT, wAnd, wOr, wNot, wAndV, wOrV, wNotV, wIte, wNil, wCons, wTup, wCall, wListOf, wC2, wIsT, wIsC, wFld, wON, wOS, wSl, wV, wO, wSetIx, wPar, wSwap, wSeqOf, wRng1, wRng2, wFor, wWhile, wYes, wComp, wEnum, wZip, wEnum2, wRgT, wRgL, wAug, dMulT, dMax, wMake, wFz, wCat, wRep, wipeE, D.ty, wIf_true, wIf_false, List.getElem?_cons_zero, List.getElem?_cons_succ, List.set_cons_zero, List.set_cons_succ, dI0_ii, dI_ii, dNeg_i, dGcd_ii, dAbs_i, dInt_i, dInt_b, dBits_i, dLen_t, dLen_l, dTuple_t, dTuple_l, dAdd_ii, dAdd_tt, dAdd_ll, dAdd_ss, dMul_ii, dMul_li, dIs_n, dIs_b, dIsN_n, dRepr_b, rt_0, rt_1, dEq, dNe, dSub, dDiv, dDivU, dMod, dLt, dLe, dGt, dGe, D.isNon, Bool.not_true, Bool.not_false])
    have ey : PyData.eqv (D.int (y : Int)).py (D.int 0).py = decide (y = 0) := by
      simp only [D.py, PyData.eqv]
      by_cases z : y = 0
      · subst z; rfl
      · rw [decide_eq_false z]
        simpa using z
    refine ⟨⟨rfl, rfl⟩, ?_⟩
    rw [ey]
    refine wIf_dec (fun hz => ?_) (fun hz => ?_)
    · subst hz
      rw [hbk]
      (try simp only [wSeq, wSet, wSetO, wRet, wIfS, wFrz, wApp, wDrop, wNext, wBreak, wCont, wNever, wVar, wVarB, wC, wBin, wUn, wT, wAnd, wOr, wNot, wAndV, wOrV, wNotV, wIte, wNil, wCons, wTup, wCall, wListOf, wC2, wIsT, wIsC, wFld, wON, wOS, wSl, wV, wO, wSetIx, wPar, wSwap, wSeqOf, wRng1, wRng2, wFor, wWhile, wYes, wComp, wEnum, wZip, wEnum2, wRgT, wRgL, wAug, dMulT, dMax, wMake, wFz, wCat, wRep, wipeE, D.ty, wIf_true, wIf_false, List.getElem?_cons_zero, List.getElem?_cons_succ, List.set_cons_zero, List.set_cons_succ, dI0_ii, dI_ii, dNeg_i, dGcd_ii, dAbs_i, dInt_i, dInt_b, dBits_i, dLen_t, dLen_l, dTuple_t, dTuple_l, dAdd_ii, dAdd_tt, dAdd_ll, dAdd_ss, dMul_ii, dMul_li, dIs_n, dIs_b, dIsN_n, dRepr_b, rt_0, rt_1, dEq, dNe, dSub, dDiv, dDivU, dMod, dLt, dLe, dGt, dGe, D.isNon, Bool.not_true, Bool.not_false])
      have : x = Nat.gcd t.natAbs k.natAbs := by rw [← hg, Nat.gcd_zero_right]
      rw [this]
      exact q
    · refine ⟨by omega, hnx _ _ ⟨rfl, y, x % y, .v d, ?_, ?_, fun h => by omega, fun _ => .inl (Nat.mod_lt _ (by omega)), fun _ => ?_⟩⟩
      · rw [show (x : Int).fmod (y : Int) = ((x % y : Nat) : Int) from (Int.fmod_eq_emod_of_nonneg _ (by omega)).trans (by omega)]
      · rw [Nat.gcd_comm, ← Nat.gcd_rec, Nat.gcd_comm, hg]
      · by_cases hm : x % y = 0
        · exact .inl hm
        · refine .inr ?_
          by_cases hi : i = 0
          · subst hi
            have hy := h0 rfl
            have hm1 := Nat.mod_lt x (show y > 0 by omega)
            have : y * (x % y) < 2 ^ n * 2 ^ n := Nat.mul_lt_mul'' hy (by omega)
            have e : 2 ^ (2 * n + 1) = 2 ^ n * 2 ^ n * 2 := by rw [Nat.pow_succ, Nat.two_mul, Nat.pow_add]
            rw [e, Nat.zero_add, Nat.pow_one]
            omega
          · have h4' := (h4 (by omega)).resolve_left hz
            have h3' := (h3 (by omega)).resolve_right hz
            have hh := mod_half (a := x) (c := y) (by omega) (by omega)
            have hle : 2 * (x % y) ≤ x := by omega
            have : y * (2 * (x % y)) ≤ y * x := Nat.mul_le_mul_left y hle
            have e : y * (x % y) * 2 ^ (i + 1) = y * (2 * (x % y)) * 2 ^ i := by rw [Nat.pow_succ, ← Nat.mul_assoc, Nat.mul_comm (y * (x % y) * 2 ^ i) 2]; simp only [Nat.mul_assoc, Nat.mul_left_comm]
            rw [e]
            refine Nat.lt_of_le_of_lt (Nat.mul_le_mul_right _ this) ?_
            rw [Nat.mul_comm y x]
            exact h4'
  · rintro env b' ⟨rfl, x, y, s, rfl, hg, h0, h3, h4⟩
    have hy : y = 0 := by
      by_cases hz : y = 0
      · exact hz
      · exfalso
        have h := (h4 (by omega)).resolve_left hz
        have z := (h3 (by omega)).resolve_right hz
        · · have : 1 ≤ x * y := Nat.mul_pos (by omega) (by omega)
            have h5 : 1 * 2 ^ (rangeD 0 (4 + 2 * (n : Int)).toNat).length ≤ x * y * 2 ^ (rangeD 0 (4 + 2 * (n : Int)).toNat).length := Nat.mul_le_mul_right _ this
            rw [len] at h h5
            have h6 : (2 : Nat) ^ (2 * n + 1) ≤ 2 ^ (4 + 2 * n) := Nat.pow_le_pow_right (by decide) (by omega)
            omega
    subst hy
    (try simp only [wSeq, wSet, wSetO, wRet, wIfS, wFrz, wApp, wDrop, wNext, wBreak, wCont, wNever, wVar, wVarB, wC, wBin, wUn, wT, wAnd, wOr, wNot, wAndV, wOrV, wNotV, wIte, wNil, wCons, wTup, wCall, wListOf, wC2, wIsT, wIsC, wFld, wON, wOS, wSl, wV, wO, wSetIx, wPar, wSwap, wSeqOf, wRng1, wRng2, wFor, wWhile, wYes, wComp, wEnum, wZip, wEnum2, wRgT, wRgL, wAug, dMulT, dMax, wMake, wFz, wCat, wRep, wipeE, D.ty, wIf_true, wIf_false, List.getElem?_cons_zero, List.getElem?_cons_succ, List.set_cons_zero, List.set_cons_succ, dI0_ii, dI_ii, dNeg_i, dGcd_ii, dAbs_i, dInt_i, dInt_b, dBits_i, dLen_t, dLen_l, dTuple_t, dTuple_l, dAdd_ii, dAdd_tt, dAdd_ll, dAdd_ss, dMul_ii, dMul_li, dIs_n, dIs_b, dIsN_n, dRepr_b, rt_0, rt_1, dEq, dNe, dSub, dDiv, dDivU, dMod, dLt, dLe, dGt, dGe, D.isNon, Bool.not_true, Bool.not_false])
    have : x = Nat.gcd t.natAbs k.natAbs := by rw [← hg, Nat.gcd_zero_right]
    rw [this]
    exact q
end En
/-! Rows of ratios, and the determinants. -/
namespace En
open PySem PySem.Spec PyProof.Rows L2
theorem hp__law_is_told : ∀ ds b Q, ds.length = 1 → p__law_is_told ds b Q → W__law_is_told { nx := fun _ b' => Q .non b', rt := Q } (ds.map Slot.v ++ List.replicate 0 .un) b := by
  rintro ds b Q - ⟨d, rfl, hs, hsm, q⟩
  show W__law_is_told _ [.v d] b
  cases d with
  | ins _ _ => cases hs
  | pen => cases hs
  | tup es =>
    (try simp only [wSeq, wSet, wSetO, wRet, wIfS, wFrz, wApp, wDrop, wNext, wBreak, wCont, wNever, wVar, wVarB, wC, wBin, wUn, wT, wAnd, wOr, wNot, wAndV, wOrV, wNotV, wIte, wNil, wCons, wTup, wCall, wListOf, wC2, wIsT, wIsC, wFld, wON, wOS, wSl, wV, wO, wSetIx, wPar, wSwap, wSeqOf, wRng1, wRng2, wFor, wWhile, wYes, wComp, wEnum, wZip, wEnum2, wRgT, wRgL, wAug, dMulT, dMax, wMake, wFz, wCat, wRep, wipeE, D.ty, wIf_true, wIf_false, List.getElem?_cons_zero, List.getElem?_cons_succ, List.set_cons_zero, List.set_cons_succ, dI0_ii, dI_ii, dNeg_i, dGcd_ii, dAbs_i, dInt_i, dInt_b, dBits_i, dLen_t, dLen_l, dTuple_t, dTuple_l, dAdd_ii, dAdd_tt, dAdd_ll, dAdd_ss, dMul_ii, dMul_li, dIs_n, dIs_b, dIsN_n, dRepr_b, rt_0, rt_1, dEq, dNe, dSub, dDiv, dDivU, dMod, dLt, dLe, dGt, dGe, D.isNon, Bool.not_true, Bool.not_false, W__law_is_told, f_tuple])
    rcases es with _ | ⟨x, _ | ⟨y, _ | ⟨z, r⟩⟩⟩
    · exact ⟨⟨rfl, rfl⟩, wIf_tt rfl q⟩
    · exact ⟨⟨rfl, rfl⟩, wIf_tt rfl q⟩
    · have hx : x.ty.isSome = true := by simp [D.shal] at hs; exact hs.1
      have hy : y.ty.isSome = true := by simp [D.shal] at hs; exact hs.2
      have q2 : Q (.bl (told2 x y).isSome) b := q
      refine ⟨⟨rfl, rfl⟩, wIf_ff rfl (dIx_t0 ⟨rfl, x, rfl, hx, ?_⟩)⟩
      cases x <;> try exact q2
      (try simp only [wSeq, wSet, wSetO, wRet, wIfS, wFrz, wApp, wDrop, wNext, wBreak, wCont, wNever, wVar, wVarB, wC, wBin, wUn, wT, wAnd, wOr, wNot, wAndV, wOrV, wNotV, wIte, wNil, wCons, wTup, wCall, wListOf, wC2, wIsT, wIsC, wFld, wON, wOS, wSl, wV, wO, wSetIx, wPar, wSwap, wSeqOf, wRng1, wRng2, wFor, wWhile, wYes, wComp, wEnum, wZip, wEnum2, wRgT, wRgL, wAug, dMulT, dMax, wMake, wFz, wCat, wRep, wipeE, D.ty, wIf_true, wIf_false, List.getElem?_cons_zero, List.getElem?_cons_succ, List.set_cons_zero, List.set_cons_succ, dI0_ii, dI_ii, dNeg_i, dGcd_ii, dAbs_i, dInt_i, dInt_b, dBits_i, dLen_t, dLen_l, dTuple_t, dTuple_l, dAdd_ii, dAdd_tt, dAdd_ll, dAdd_ss, dMul_ii, dMul_li, dIs_n, dIs_b, dIsN_n, dRepr_b, rt_0, rt_1, dEq, dNe, dSub, dDiv, dDivU, dMod, dLt, dLe, dGt, dGe, D.isNon, Bool.not_true, Bool.not_false, D.isInt])
      refine dIx_t1 ⟨rfl, y, rfl, hy, ?_⟩
      cases y <;> try exact q2
      (try simp only [wSeq, wSet, wSetO, wRet, wIfS, wFrz, wApp, wDrop, wNext, wBreak, wCont, wNever, wVar, wVarB, wC, wBin, wUn, wT, wAnd, wOr, wNot, wAndV, wOrV, wNotV, wIte, wNil, wCons, wTup, wCall, wListOf, wC2, wIsT, wIsC, wFld, wON, wOS, wSl, wV, wO, wSetIx, wPar, wSwap, wSeqOf, wRng1, wRng2, wFor, wWhile, wYes, wComp, wEnum, wZip, wEnum2, wRgT, wRgL, wAug, dMulT, dMax, wMake, wFz, wCat, wRep, wipeE, D.ty, wIf_true, wIf_false, List.getElem?_cons_zero, List.getElem?_cons_succ, List.set_cons_zero, List.set_cons_succ, dI0_ii, dI_ii, dNeg_i, dGcd_ii, dAbs_i, dInt_i, dInt_b, dBits_i, dLen_t, dLen_l, dTuple_t, dTuple_l, dAdd_ii, dAdd_tt, dAdd_ll, dAdd_ss, dMul_ii, dMul_li, dIs_n, dIs_b, dIsN_n, dRepr_b, rt_0, rt_1, dEq, dNe, dSub, dDiv, dDivU, dMod, dLt, dLe, dGt, dGe, D.isNon, Bool.not_true, Bool.not_false, D.isInt])
      rename_i t k
      refine dIx_t1 ?_
      (try simp only [wSeq, wSet, wSetO, wRet, wIfS, wFrz, wApp, wDrop, wNext, wBreak, wCont, wNever, wVar, wVarB, wC, wBin, wUn, wT, wAnd, wOr, wNot, wAndV, wOrV, wNotV, wIte, wNil, wCons, wTup, wCall, wListOf, wC2, wIsT, wIsC, wFld, wON, wOS, wSl, wV, wO, wSetIx, wPar, wSwap, wSeqOf, wRng1, wRng2, wFor, wWhile, wYes, wComp, wEnum, wZip, wEnum2, wRgT, wRgL, wAug, dMulT, dMax, wMake, wFz, wCat, wRep, wipeE, D.ty, wIf_true, wIf_false, List.getElem?_cons_zero, List.getElem?_cons_succ, List.set_cons_zero, List.set_cons_succ, dI0_ii, dI_ii, dNeg_i, dGcd_ii, dAbs_i, dInt_i, dInt_b, dBits_i, dLen_t, dLen_l, dTuple_t, dTuple_l, dAdd_ii, dAdd_tt, dAdd_ll, dAdd_ss, dMul_ii, dMul_li, dIs_n, dIs_b, dIsN_n, dRepr_b, rt_0, rt_1, dEq, dNe, dSub, dDiv, dDivU, dMod, dLt, dLe, dGt, dGe, D.isNon, Bool.not_true, Bool.not_false])
      refine wIf_dec (fun h => ?_) (fun h => ?_)
      · refine dIx_t0 (dIx_t1 ⟨rfl, _, _, rfl, hsm.1, hsm.2, ⟨rfl, rfl⟩, ?_⟩)
        refine bl_eq ?_ q2
        show (told2 (.int t) (.int k)).isSome = (((Nat.gcd t.natAbs k.natAbs : Nat) : Int) == 1)
        simp only [told2]
        by_cases g : Nat.gcd t.natAbs k.natAbs = 1
        · rw [dif_pos ⟨h, g⟩]
          show true = _
          symm
          rw [g]
          rfl
        · rw [dif_neg fun z => g z.2]
          symm
          simpa using fun z => g (by omega)
      · refine bl_eq ?_ q2
        simp only [told2]
        rw [dif_neg fun z => h z.1]
        rfl
    · have ne2 : (!PyData.eqv (D.int (x :: y :: z :: r).length).py (D.int 2).py) = true := by
        simp only [D.py, PyData.eqv, List.length_cons, Bool.not_eq_true', beq_eq_false_iff_ne]
        omega
      exact ⟨⟨rfl, rfl⟩, wIf_tt ne2 q⟩
  | _ => (try simp only [wSeq, wSet, wSetO, wRet, wIfS, wFrz, wApp, wDrop, wNext, wBreak, wCont, wNever, wVar, wVarB, wC, wBin, wUn, wT, wAnd, wOr, wNot, wAndV, wOrV, wNotV, wIte, wNil, wCons, wTup, wCall, wListOf, wC2, wIsT, wIsC, wFld, wON, wOS, wSl, wV, wO, wSetIx, wPar, wSwap, wSeqOf, wRng1, wRng2, wFor, wWhile, wYes, wComp, wEnum, wZip, wEnum2, wRgT, wRgL, wAug, dMulT, dMax, wMake, wFz, wCat, wRep, wipeE, D.ty, wIf_true, wIf_false, List.getElem?_cons_zero, List.getElem?_cons_succ, List.set_cons_zero, List.set_cons_succ, dI0_ii, dI_ii, dNeg_i, dGcd_ii, dAbs_i, dInt_i, dInt_b, dBits_i, dLen_t, dLen_l, dTuple_t, dTuple_l, dAdd_ii, dAdd_tt, dAdd_ll, dAdd_ss, dMul_ii, dMul_li, dIs_n, dIs_b, dIsN_n, dRepr_b, rt_0, rt_1, dEq, dNe, dSub, dDiv, dDivU, dMod, dLt, dLe, dGt, dGe, D.isNon, Bool.not_true, Bool.not_false, W__law_is_told, f_tuple]); exact q
/-! ### in_tuples -/
mutual
/-- no object in it, not deep, not long -/
def D.fit : Nat → D → Bool
  | _, .ins _ _ => false
  | _, .pen => false
  | 0, .tup _ => false
  | 0, .lst _ => false
  | n + 1, .tup ds => decide (ds.length < 1000000) && D.fits n ds
  | n + 1, .lst ds => decide (ds.length < 1000000) && D.fits n ds
  | _, _ => true
def D.fits : Nat → List D → Bool
  | _, [] => true
  | n, d :: r => D.fit n d && D.fits n r
end
mutual
def D.tupd : D → D
  | .tup ds => .tup (D.tupds ds)
  | .lst ds => .tup (D.tupds ds)
  | d => d
def D.tupds : List D → List D
  | [] => []
  | d :: r => D.tupd d :: D.tupds r
end
theorem fits_mem {n : Nat} : ∀ {ds : List D} {d : D}, D.fits n ds = true → d ∈ ds → d.fit n = true
  | [], _, _, h => by simp at h
  | a :: r, d, h, hm => by
    simp only [D.fits, Bool.and_eq_true] at h
    rcases List.mem_cons.mp hm with rfl | hm
    · exact h.1
    · exact fits_mem h.2 hm
theorem tupds_map : ∀ (ds : List D), D.tupds ds = ds.map D.tupd
  | [] => rfl
  | d :: r => by simp only [D.tupds, List.map_cons, tupds_map r]
def p_inT (n : Nat) : Spec := fun ds b Q => ∃ d, ds = [d] ∧ d.fit n = true ∧ Q d.tupd b
def W_in_tuples (p_in_tuples : Spec) : WS := (wSeq (wIfS (wNot (wT (wIsT f_tuple_list (wVarB 0)))) (wRet (wVar 0)) wNext) (wRet (wUn dTuple (wFz (wComp [1] (.one 1) (wSeqOf (wVar 0)) wYes (wCall 1 p_in_tuples (wCons (wVar 1) wNil)))))))
theorem hp_in_tuples0 : ∀ ds b Q, ds.length = 1 → p_inT 0 ds b Q → W_in_tuples (fun _ _ _ => False) { nx := fun _ b' => Q .non b', rt := Q } (ds.map Slot.v ++ List.replicate 1 .un) b := by
  rintro ds b Q - ⟨d, rfl, hf, q⟩
  show W_in_tuples _ _ [.v d, .un] b
  cases d <;> first | (simp [D.fit] at hf; done) | ((try simp only [wSeq, wSet, wSetO, wRet, wIfS, wFrz, wApp, wDrop, wNext, wBreak, wCont, wNever, wVar, wVarB, wC, wBin, wUn, wT, wAnd, wOr, wNot, wAndV, wOrV, wNotV, wIte, wNil, wCons, wTup, wCall, wListOf, wC2, wIsT, wIsC, wFld, wON, wOS, wSl, wV, wO, wSetIx, wPar, wSwap, wSeqOf, wRng1, wRng2, wFor, wWhile, wYes, wComp, wEnum, wZip, wEnum2, wRgT, wRgL, wAug, dMulT, dMax, wMake, wFz, wCat, wRep, wipeE, D.ty, wIf_true, wIf_false, List.getElem?_cons_zero, List.getElem?_cons_succ, List.set_cons_zero, List.set_cons_succ, dI0_ii, dI_ii, dNeg_i, dGcd_ii, dAbs_i, dInt_i, dInt_b, dBits_i, dLen_t, dLen_l, dTuple_t, dTuple_l, dAdd_ii, dAdd_tt, dAdd_ll, dAdd_ss, dMul_ii, dMul_li, dIs_n, dIs_b, dIsN_n, dRepr_b, rt_0, rt_1, dEq, dNe, dSub, dDiv, dDivU, dMod, dLt, dLe, dGt, dGe, D.isNon, Bool.not_true, Bool.not_false, W_in_tuples, f_tuple_list]); exact q)
theorem hp_in_tuples (n : Nat) : ∀ ds b Q, ds.length = 1 → p_inT (n + 1) ds b Q → W_in_tuples (p_inT n) { nx := fun _ b' => Q .non b', rt := Q } (ds.map Slot.v ++ List.replicate 1 .un) b := by
  rintro ds b Q - ⟨d, rfl, hf, q⟩
  show W_in_tuples _ _ [.v d, .un] b
  have seq : ∀ es : List D, es.length < 1000000 → D.fits n es = true → Q (.tup (D.tupds es)) b → ∀ s, (cmpL (.one 1) wYes (wCall 1 (p_inT n) (wCons (wVar 1) wNil)) [s, .un] es b fun ds b' => Q (.tup ds) b') := by
    intro es hl hes q s
    refine cmp_map D.tupd es _ (fun d hd => ⟨_, rfl, fun K k => ?_⟩) (by rw [← tupds_map]; exact q)
    (try simp only [wSeq, wSet, wSetO, wRet, wIfS, wFrz, wApp, wDrop, wNext, wBreak, wCont, wNever, wVar, wVarB, wC, wBin, wUn, wT, wAnd, wOr, wNot, wAndV, wOrV, wNotV, wIte, wNil, wCons, wTup, wCall, wListOf, wC2, wIsT, wIsC, wFld, wON, wOS, wSl, wV, wO, wSetIx, wPar, wSwap, wSeqOf, wRng1, wRng2, wFor, wWhile, wYes, wComp, wEnum, wZip, wEnum2, wRgT, wRgL, wAug, dMulT, dMax, wMake, wFz, wCat, wRep, wipeE, D.ty, wIf_true, wIf_false, List.getElem?_cons_zero, List.getElem?_cons_succ, List.set_cons_zero, List.set_cons_succ, dI0_ii, dI_ii, dNeg_i, dGcd_ii, dAbs_i, dInt_i, dInt_b, dBits_i, dLen_t, dLen_l, dTuple_t, dTuple_l, dAdd_ii, dAdd_tt, dAdd_ll, dAdd_ss, dMul_ii, dMul_li, dIs_n, dIs_b, dIsN_n, dRepr_b, rt_0, rt_1, dEq, dNe, dSub, dDiv, dDivU, dMod, dLt, dLe, dGt, dGe, D.isNon, Bool.not_true, Bool.not_false])
    exact ⟨rfl, d, rfl, fits_mem hes hd, k⟩
  cases d <;> try (first | (simp [D.fit] at hf; done) | ((try simp only [wSeq, wSet, wSetO, wRet, wIfS, wFrz, wApp, wDrop, wNext, wBreak, wCont, wNever, wVar, wVarB, wC, wBin, wUn, wT, wAnd, wOr, wNot, wAndV, wOrV, wNotV, wIte, wNil, wCons, wTup, wCall, wListOf, wC2, wIsT, wIsC, wFld, wON, wOS, wSl, wV, wO, wSetIx, wPar, wSwap, wSeqOf, wRng1, wRng2, wFor, wWhile, wYes, wComp, wEnum, wZip, wEnum2, wRgT, wRgL, wAug, dMulT, dMax, wMake, wFz, wCat, wRep, wipeE, D.ty, wIf_true, wIf_false, List.getElem?_cons_zero, List.getElem?_cons_succ, List.set_cons_zero, List.set_cons_succ, dI0_ii, dI_ii, dNeg_i, dGcd_ii, dAbs_i, dInt_i, dInt_b, dBits_i, dLen_t, dLen_l, dTuple_t, dTuple_l, dAdd_ii, dAdd_tt, dAdd_ll, dAdd_ss, dMul_ii, dMul_li, dIs_n, dIs_b, dIsN_n, dRepr_b, rt_0, rt_1, dEq, dNe, dSub, dDiv, dDivU, dMod, dLt, dLe, dGt, dGe, D.isNon, Bool.not_true, Bool.not_false, W_in_tuples, f_tuple_list]); exact q))
  · simp only [D.fit, Bool.and_eq_true, decide_eq_true_eq] at hf
    (try simp only [wSeq, wSet, wSetO, wRet, wIfS, wFrz, wApp, wDrop, wNext, wBreak, wCont, wNever, wVar, wVarB, wC, wBin, wUn, wT, wAnd, wOr, wNot, wAndV, wOrV, wNotV, wIte, wNil, wCons, wTup, wCall, wListOf, wC2, wIsT, wIsC, wFld, wON, wOS, wSl, wV, wO, wSetIx, wPar, wSwap, wSeqOf, wRng1, wRng2, wFor, wWhile, wYes, wComp, wEnum, wZip, wEnum2, wRgT, wRgL, wAug, dMulT, dMax, wMake, wFz, wCat, wRep, wipeE, D.ty, wIf_true, wIf_false, List.getElem?_cons_zero, List.getElem?_cons_succ, List.set_cons_zero, List.set_cons_succ, dI0_ii, dI_ii, dNeg_i, dGcd_ii, dAbs_i, dInt_i, dInt_b, dBits_i, dLen_t, dLen_l, dTuple_t, dTuple_l, dAdd_ii, dAdd_tt, dAdd_ll, dAdd_ss, dMul_ii, dMul_li, dIs_n, dIs_b, dIsN_n, dRepr_b, rt_0, rt_1, dEq, dNe, dSub, dDiv, dDivU, dMod, dLt, dLe, dGt, dGe, D.isNon, Bool.not_true, Bool.not_false, W_in_tuples, f_tuple_list])
    exact ⟨hf.1, seq _ hf.1 hf.2 q _⟩
  · simp only [D.fit, Bool.and_eq_true, decide_eq_true_eq] at hf
    (try simp only [wSeq, wSet, wSetO, wRet, wIfS, wFrz, wApp, wDrop, wNext, wBreak, wCont, wNever, wVar, wVarB, wC, wBin, wUn, wT, wAnd, wOr, wNot, wAndV, wOrV, wNotV, wIte, wNil, wCons, wTup, wCall, wListOf, wC2, wIsT, wIsC, wFld, wON, wOS, wSl, wV, wO, wSetIx, wPar, wSwap, wSeqOf, wRng1, wRng2, wFor, wWhile, wYes, wComp, wEnum, wZip, wEnum2, wRgT, wRgL, wAug, dMulT, dMax, wMake, wFz, wCat, wRep, wipeE, D.ty, wIf_true, wIf_false, List.getElem?_cons_zero, List.getElem?_cons_succ, List.set_cons_zero, List.set_cons_succ, dI0_ii, dI_ii, dNeg_i, dGcd_ii, dAbs_i, dInt_i, dInt_b, dBits_i, dLen_t, dLen_l, dTuple_t, dTuple_l, dAdd_ii, dAdd_tt, dAdd_ll, dAdd_ss, dMul_ii, dMul_li, dIs_n, dIs_b, dIsN_n, dRepr_b, rt_0, rt_1, dEq, dNe, dSub, dDiv, dDivU, dMod, dLt, dLe, dGt, dGe, D.isNon, Bool.not_true, Bool.not_false, W_in_tuples, f_tuple_list])
    exact ⟨hf.1, seq _ hf.1 hf.2 q _⟩
/-! ### loose ratios, rows -/
def LooseR (d : D) (r : Rat) : Prop := (∃ i : Int, d = .int i ∧ r = (i : Rat)) ∨ ∃ t k : Int, d = .tup [.int t, .int k] ∧ 0 < k ∧ r = Rat.divInt t k
def D.loose : D → Bool
  | .int _ => true
  | .tup es => (D.tup es).isPair
  | _ => false
theorem LooseR.loose {d : D} {r : Rat} (h : LooseR d r) : d.loose = true ∧ d.shal = true ∧ d.fit 1 = true ∧ d.tupd = d := by
  rcases h with ⟨i, rfl, _⟩ | ⟨t, k, rfl, hk, _⟩
  · exact ⟨rfl, rfl, rfl, rfl⟩
  · exact ⟨decide_eq_true hk, rfl, rfl, rfl⟩
theorem loose_rt (x : Rat) : LooseR (rt x) x := by
  exact .inr ⟨x.num, x.den, rfl, den_pos x, (Rat.num_divInt_den x).symm⟩
/-- items that stand for the ratios -/
inductive RowR : List D → List Rat → Prop
  | nil : RowR [] []
  | cons {d : D} {r : Rat} {ds : List D} {rs : List Rat} : LooseR d r → RowR ds rs → RowR (d :: ds) (r :: rs)
theorem RowR.len : ∀ {ds : List D} {rs : List Rat}, RowR ds rs → ds.length = rs.length
  | _, _, .nil => rfl
  | _, _, .cons _ h => by simp [h.len]
theorem RowR.mem : ∀ {ds : List D} {rs : List Rat} {d : D}, RowR ds rs → d ∈ ds → ∃ r, LooseR d r
  | _, _, _, .nil, h => by simp at h
  | _, _, _, .cons h1 h2, h => by
    rcases List.mem_cons.mp h with rfl | h
    · exact ⟨_, h1⟩
    · exact h2.mem h
theorem row_rt : ∀ (xs : List Rat), RowR (xs.map rt) xs
  | [] => .nil
  | x :: r => .cons (loose_rt x) (row_rt r)
theorem RowR.tupds : ∀ {ds : List D} {rs : List Rat}, RowR ds rs → D.tupds ds = ds
  | _, _, .nil => rfl
  | _, _, .cons h1 h2 => by simp only [D.tupds, h1.loose.2.2.2, h2.tupds]
theorem RowR.fits : ∀ {ds : List D} {rs : List Rat}, RowR ds rs → D.fits 1 ds = true
  | _, _, .nil => rfl
  | _, _, .cons h1 h2 => by simp only [D.fits, h1.loose.2.2.1, h2.fits, Bool.and_self]
def p_is_loose : Spec := fun ds b Q => ∃ d, ds = [d] ∧ d.shal = true ∧ Q (.bl d.loose) b
def p_told_ratio : Spec := fun ds b Q => ∃ d r, ds = [d] ∧ LooseR d r ∧ Q (rt r) b
def p_loose_row : Spec := fun ds b Q => ∃ es rs, ds = [.tup es] ∧ es.length < 1000000 ∧ RowR es rs ∧ Q (.tup (rs.map rt)) b
def p_in_tuples : Spec := p_inT 9
def p_row_from : Spec := fun ds b Q => ∃ (d : D) (es : List D) (rs : List Rat) (least most : Int), ds = [d, .int least, .int most] ∧ d.fit 9 = true ∧ d.tupd = .tup es ∧ RowR es rs ∧ es.length < 1000000 ∧ least ≤ rs.length ∧ rs.length ≤ most ∧ Q (.tup (rs.map rt)) b
def D.ratRow (m : Int) : D → Bool
  | .tup es => decide ((es.length : Int) = m) && es.all fun e => e.told.isSome
  | _ => false
def D.rowOk : D → Prop
  | .tup es => es.length < 1000000 ∧ ∀ e ∈ es, e.shal = true ∧ e.smallPair
  | d => d.ty.isSome = true
def p_is_ratio_row : Spec := fun ds b Q => ∃ (m : Int) (d : D), ds = [.int m, d] ∧ d.rowOk ∧ Q (.bl (d.ratRow m)) b
def p__law_is_row : Spec := fun ds b Q => ∃ (m : Int) (d : D), ds = [d, .int m] ∧ d.rowOk ∧ Q (.bl (d.ratRow m)) b
/-- is_loose: value -/
def W_is_loose : WS := (wRet (wOrV (wCall 1 p_is_whole (wCons (wVar 0) wNil)) (wAndV (wIsT f_tuple (wVarB 0)) (wCall 1 p_is_pair (wCons (wVar 0) wNil)))))
/-- told_ratio: value -/
def W_told_ratio : WS := (wRet (wIte (wT (wCall 1 p_is_whole (wCons (wVar 0) wNil))) (wTup (wCons (wVar 0) (wCons (wC (.int 1)) wNil))) (wCall 2 p_lowest (wCons (wBin dIx (wVarB 0) (wC (.int 0))) (wCons (wBin dIx (wVarB 0) (wC (.int 1))) wNil)))))
/-- loose_row: value, item -/
def W_loose_row : WS := (wSeq (wIfS (wOr (wNot (wT (wIsT f_tuple (wVarB 0)))) (wNot (wT (wUn dAll (wFz (wComp [1] (.one 1) (wSeqOf (wVar 0)) wYes (wCall 1 p_is_loose (wCons (wVar 1) wNil)))))))) (wRet (wC .non)) wNext) (wRet (wUn dTuple (wFz (wComp [1] (.one 1) (wSeqOf (wVar 0)) wYes (wCall 1 p_told_ratio (wCons (wVar 1) wNil)))))))
/-- row_from: row, least, most, made -/
def W_row_from : WS := (wSeq (wSet 3 (wCall 1 p_loose_row (wCons (wCall 1 p_in_tuples (wCons (wVar 0) wNil)) wNil))) (wSeq (wIfS (wOr (wT (wBin dIs (wVarB 3) (wC .non))) (wNot (wT (wChain dLe dLe (wVarB 1) (wUn dLen (wVarB 3)) (wVarB 2))))) wNever wNext) (wRet (wVar 3))))
/-- is_ratio_row: many, value, item -/
def W_is_ratio_row : WS := (wRet (wAndV (wCall 2 p_is_tuple_of (wCons (wVar 1) (wCons (wVar 0) wNil))) (wUn dAll (wFz (wComp [2] (.one 2) (wSeqOf (wVar 1)) wYes (wCall 1 p_is_told (wCons (wVar 2) wNil)))))))
/-- _law_is_row: thing, long, item -/
def W__law_is_row : WS := (wRet (wAndV (wIsT f_tuple (wVarB 0)) (wAndV (wBin dEq (wUn dLen (wVarB 0)) (wVarB 1)) (wUn dAll (wFz (wComp [2] (.one 2) (wSeqOf (wVar 0)) wYes (wCall 1 p__law_is_told (wCons (wVar 2) wNil))))))))
theorem hp_is_loose : ∀ ds b Q, ds.length = 1 → p_is_loose ds b Q → W_is_loose { nx := fun _ b' => Q .non b', rt := Q } (ds.map Slot.v ++ List.replicate 0 .un) b := by
  rintro ds b Q - ⟨d, rfl, hs, q⟩
  show W_is_loose _ [.v d] b
  have ht : d.ty.isSome = true := by cases d <;> first | rfl | (simp [D.shal] at hs; done)
  (try simp only [wSeq, wSet, wSetO, wRet, wIfS, wFrz, wApp, wDrop, wNext, wBreak, wCont, wNever, wVar, wVarB, wC, wBin, wUn, wT, wAnd, wOr, wNot, wAndV, wOrV, wNotV, wIte, wNil, wCons, wTup, wCall, wListOf, wC2, wIsT, wIsC, wFld, wON, wOS, wSl, wV, wO, wSetIx, wPar, wSwap, wSeqOf, wRng1, wRng2, wFor, wWhile, wYes, wComp, wEnum, wZip, wEnum2, wRgT, wRgL, wAug, dMulT, dMax, wMake, wFz, wCat, wRep, wipeE, D.ty, wIf_true, wIf_false, List.getElem?_cons_zero, List.getElem?_cons_succ, List.set_cons_zero, List.set_cons_succ, dI0_ii, dI_ii, dNeg_i, dGcd_ii, dAbs_i, dInt_i, dInt_b, dBits_i, dLen_t, dLen_l, dTuple_t, dTuple_l, dAdd_ii, dAdd_tt, dAdd_ll, dAdd_ss, dMul_ii, dMul_li, dIs_n, dIs_b, dIsN_n, dRepr_b, rt_0, rt_1, dEq, dNe, dSub, dDiv, dDivU, dMod, dLt, dLe, dGt, dGe, D.isNon, Bool.not_true, Bool.not_false, W_is_loose])
  refine ⟨rfl, d, rfl, ht, ?_⟩
  cases d <;> first | (simp [D.shal] at hs; done) | ((try simp only [wSeq, wSet, wSetO, wRet, wIfS, wFrz, wApp, wDrop, wNext, wBreak, wCont, wNever, wVar, wVarB, wC, wBin, wUn, wT, wAnd, wOr, wNot, wAndV, wOrV, wNotV, wIte, wNil, wCons, wTup, wCall, wListOf, wC2, wIsT, wIsC, wFld, wON, wOS, wSl, wV, wO, wSetIx, wPar, wSwap, wSeqOf, wRng1, wRng2, wFor, wWhile, wYes, wComp, wEnum, wZip, wEnum2, wRgT, wRgL, wAug, dMulT, dMax, wMake, wFz, wCat, wRep, wipeE, D.ty, wIf_true, wIf_false, List.getElem?_cons_zero, List.getElem?_cons_succ, List.set_cons_zero, List.set_cons_succ, dI0_ii, dI_ii, dNeg_i, dGcd_ii, dAbs_i, dInt_i, dInt_b, dBits_i, dLen_t, dLen_l, dTuple_t, dTuple_l, dAdd_ii, dAdd_tt, dAdd_ll, dAdd_ss, dMul_ii, dMul_li, dIs_n, dIs_b, dIsN_n, dRepr_b, rt_0, rt_1, dEq, dNe, dSub, dDiv, dDivU, dMod, dLt, dLe, dGt, dGe, D.isNon, Bool.not_true, Bool.not_false, f_tuple, D.isInt]); exact q) | ((try simp only [wSeq, wSet, wSetO, wRet, wIfS, wFrz, wApp, wDrop, wNext, wBreak, wCont, wNever, wVar, wVarB, wC, wBin, wUn, wT, wAnd, wOr, wNot, wAndV, wOrV, wNotV, wIte, wNil, wCons, wTup, wCall, wListOf, wC2, wIsT, wIsC, wFld, wON, wOS, wSl, wV, wO, wSetIx, wPar, wSwap, wSeqOf, wRng1, wRng2, wFor, wWhile, wYes, wComp, wEnum, wZip, wEnum2, wRgT, wRgL, wAug, dMulT, dMax, wMake, wFz, wCat, wRep, wipeE, D.ty, wIf_true, wIf_false, List.getElem?_cons_zero, List.getElem?_cons_succ, List.set_cons_zero, List.set_cons_succ, dI0_ii, dI_ii, dNeg_i, dGcd_ii, dAbs_i, dInt_i, dInt_b, dBits_i, dLen_t, dLen_l, dTuple_t, dTuple_l, dAdd_ii, dAdd_tt, dAdd_ll, dAdd_ss, dMul_ii, dMul_li, dIs_n, dIs_b, dIsN_n, dRepr_b, rt_0, rt_1, dEq, dNe, dSub, dDiv, dDivU, dMod, dLt, dLe, dGt, dGe, D.isNon, Bool.not_true, Bool.not_false, f_tuple, D.isInt]); exact ⟨rfl, _, rfl, hs, q⟩)
theorem hp_told_ratio : ∀ ds b Q, ds.length = 1 → p_told_ratio ds b Q → W_told_ratio { nx := fun _ b' => Q .non b', rt := Q } (ds.map Slot.v ++ List.replicate 0 .un) b := by
  rintro ds b Q - ⟨d, r, rfl, hl, q⟩
  show W_told_ratio _ [.v d] b
  (try simp only [wSeq, wSet, wSetO, wRet, wIfS, wFrz, wApp, wDrop, wNext, wBreak, wCont, wNever, wVar, wVarB, wC, wBin, wUn, wT, wAnd, wOr, wNot, wAndV, wOrV, wNotV, wIte, wNil, wCons, wTup, wCall, wListOf, wC2, wIsT, wIsC, wFld, wON, wOS, wSl, wV, wO, wSetIx, wPar, wSwap, wSeqOf, wRng1, wRng2, wFor, wWhile, wYes, wComp, wEnum, wZip, wEnum2, wRgT, wRgL, wAug, dMulT, dMax, wMake, wFz, wCat, wRep, wipeE, D.ty, wIf_true, wIf_false, List.getElem?_cons_zero, List.getElem?_cons_succ, List.set_cons_zero, List.set_cons_succ, dI0_ii, dI_ii, dNeg_i, dGcd_ii, dAbs_i, dInt_i, dInt_b, dBits_i, dLen_t, dLen_l, dTuple_t, dTuple_l, dAdd_ii, dAdd_tt, dAdd_ll, dAdd_ss, dMul_ii, dMul_li, dIs_n, dIs_b, dIsN_n, dRepr_b, rt_0, rt_1, dEq, dNe, dSub, dDiv, dDivU, dMod, dLt, dLe, dGt, dGe, D.isNon, Bool.not_true, Bool.not_false, W_told_ratio])
  rcases hl with ⟨i, rfl, rfl⟩ | ⟨t, k, rfl, hk, rfl⟩
  · exact ⟨rfl, _, rfl, rfl, q⟩
  · refine ⟨rfl, _, rfl, rfl, ?_⟩
    (try simp only [wSeq, wSet, wSetO, wRet, wIfS, wFrz, wApp, wDrop, wNext, wBreak, wCont, wNever, wVar, wVarB, wC, wBin, wUn, wT, wAnd, wOr, wNot, wAndV, wOrV, wNotV, wIte, wNil, wCons, wTup, wCall, wListOf, wC2, wIsT, wIsC, wFld, wON, wOS, wSl, wV, wO, wSetIx, wPar, wSwap, wSeqOf, wRng1, wRng2, wFor, wWhile, wYes, wComp, wEnum, wZip, wEnum2, wRgT, wRgL, wAug, dMulT, dMax, wMake, wFz, wCat, wRep, wipeE, D.ty, wIf_true, wIf_false, List.getElem?_cons_zero, List.getElem?_cons_succ, List.set_cons_zero, List.set_cons_succ, dI0_ii, dI_ii, dNeg_i, dGcd_ii, dAbs_i, dInt_i, dInt_b, dBits_i, dLen_t, dLen_l, dTuple_t, dTuple_l, dAdd_ii, dAdd_tt, dAdd_ll, dAdd_ss, dMul_ii, dMul_li, dIs_n, dIs_b, dIsN_n, dRepr_b, rt_0, rt_1, dEq, dNe, dSub, dDiv, dDivU, dMod, dLt, dLe, dGt, dGe, D.isNon, Bool.not_true, Bool.not_false, D.isInt])
    exact dIx_t0 (dIx_t1 ⟨rfl, t, k, rfl, by omega, q⟩)
theorem hp_loose_row : ∀ ds b Q, ds.length = 1 → p_loose_row ds b Q → W_loose_row { nx := fun _ b' => Q .non b', rt := Q } (ds.map Slot.v ++ List.replicate 1 .un) b := by
  rintro ds b Q - ⟨es, rs, rfl, hl, hr, q⟩
  show W_loose_row _ [.v (.tup es), .un] b
  (try simp only [wSeq, wSet, wSetO, wRet, wIfS, wFrz, wApp, wDrop, wNext, wBreak, wCont, wNever, wVar, wVarB, wC, wBin, wUn, wT, wAnd, wOr, wNot, wAndV, wOrV, wNotV, wIte, wNil, wCons, wTup, wCall, wListOf, wC2, wIsT, wIsC, wFld, wON, wOS, wSl, wV, wO, wSetIx, wPar, wSwap, wSeqOf, wRng1, wRng2, wFor, wWhile, wYes, wComp, wEnum, wZip, wEnum2, wRgT, wRgL, wAug, dMulT, dMax, wMake, wFz, wCat, wRep, wipeE, D.ty, wIf_true, wIf_false, List.getElem?_cons_zero, List.getElem?_cons_succ, List.set_cons_zero, List.set_cons_succ, dI0_ii, dI_ii, dNeg_i, dGcd_ii, dAbs_i, dInt_i, dInt_b, dBits_i, dLen_t, dLen_l, dTuple_t, dTuple_l, dAdd_ii, dAdd_tt, dAdd_ll, dAdd_ss, dMul_ii, dMul_li, dIs_n, dIs_b, dIsN_n, dRepr_b, rt_0, rt_1, dEq, dNe, dSub, dDiv, dDivU, dMod, dLt, dLe, dGt, dGe, D.isNon, Bool.not_true, Bool.not_false, W_loose_row, f_tuple])
  refine ⟨hl, cmp_map (fun d => .bl d.loose) es _ (fun d hd => ⟨_, rfl, fun K k => ?_⟩) ?_⟩
  · (try simp only [wSeq, wSet, wSetO, wRet, wIfS, wFrz, wApp, wDrop, wNext, wBreak, wCont, wNever, wVar, wVarB, wC, wBin, wUn, wT, wAnd, wOr, wNot, wAndV, wOrV, wNotV, wIte, wNil, wCons, wTup, wCall, wListOf, wC2, wIsT, wIsC, wFld, wON, wOS, wSl, wV, wO, wSetIx, wPar, wSwap, wSeqOf, wRng1, wRng2, wFor, wWhile, wYes, wComp, wEnum, wZip, wEnum2, wRgT, wRgL, wAug, dMulT, dMax, wMake, wFz, wCat, wRep, wipeE, D.ty, wIf_true, wIf_false, List.getElem?_cons_zero, List.getElem?_cons_succ, List.set_cons_zero, List.set_cons_succ, dI0_ii, dI_ii, dNeg_i, dGcd_ii, dAbs_i, dInt_i, dInt_b, dBits_i, dLen_t, dLen_l, dTuple_t, dTuple_l, dAdd_ii, dAdd_tt, dAdd_ll, dAdd_ss, dMul_ii, dMul_li, dIs_n, dIs_b, dIsN_n, dRepr_b, rt_0, rt_1, dEq, dNe, dSub, dDiv, dDivU, dMod, dLt, dLe, dGt, dGe, D.isNon, Bool.not_true, Bool.not_false])
    obtain ⟨r, hr'⟩ := hr.mem hd
    exact ⟨rfl, d, rfl, hr'.loose.2.1, k⟩
  · have e : es.map (fun d => D.bl d.loose) = (es.map D.loose).map D.bl := by rw [List.map_map]; rfl
    refine ⟨es.map D.loose, e, ?_⟩
    have ha : (es.map D.loose).all id = true := by
      rw [List.all_eq_true]
      intro x hx
      obtain ⟨d, hd, rfl⟩ := List.mem_map.mp hx
      obtain ⟨r, hr'⟩ := hr.mem hd
      exact hr'.loose.1
    rw [ha]
    (try simp only [wSeq, wSet, wSetO, wRet, wIfS, wFrz, wApp, wDrop, wNext, wBreak, wCont, wNever, wVar, wVarB, wC, wBin, wUn, wT, wAnd, wOr, wNot, wAndV, wOrV, wNotV, wIte, wNil, wCons, wTup, wCall, wListOf, wC2, wIsT, wIsC, wFld, wON, wOS, wSl, wV, wO, wSetIx, wPar, wSwap, wSeqOf, wRng1, wRng2, wFor, wWhile, wYes, wComp, wEnum, wZip, wEnum2, wRgT, wRgL, wAug, dMulT, dMax, wMake, wFz, wCat, wRep, wipeE, D.ty, wIf_true, wIf_false, List.getElem?_cons_zero, List.getElem?_cons_succ, List.set_cons_zero, List.set_cons_succ, dI0_ii, dI_ii, dNeg_i, dGcd_ii, dAbs_i, dInt_i, dInt_b, dBits_i, dLen_t, dLen_l, dTuple_t, dTuple_l, dAdd_ii, dAdd_tt, dAdd_ll, dAdd_ss, dMul_ii, dMul_li, dIs_n, dIs_b, dIsN_n, dRepr_b, rt_0, rt_1, dEq, dNe, dSub, dDiv, dDivU, dMod, dLt, dLe, dGt, dGe, D.isNon, Bool.not_true, Bool.not_false])
    refine ⟨hl, ?_⟩
    have run : ∀ (env0 : Env), env0.length = 2 → ∀ (es : List D) (rs : List Rat), RowR es rs → ∀ Q : List D → Nat → Prop, Q (rs.map rt) b → cmpL (.one 1) wYes (wCall 1 p_told_ratio (wCons (wVar 1) wNil)) env0 es b Q := by
      intro env0 he es
      obtain ⟨a, c, rfl⟩ : ∃ a c, env0 = [a, c] := by
        match env0, he with
        | [a, c], _ => exact ⟨a, c, rfl⟩
      induction es with
      | nil =>
        intro rs h Q q
        cases h
        exact q
      | cons d r ih =>
        intro rs h Q q
        cases h with
        | cons h1 h2 =>
          simp only [cmpL, setTg]
          (try simp only [wSeq, wSet, wSetO, wRet, wIfS, wFrz, wApp, wDrop, wNext, wBreak, wCont, wNever, wVar, wVarB, wC, wBin, wUn, wT, wAnd, wOr, wNot, wAndV, wOrV, wNotV, wIte, wNil, wCons, wTup, wCall, wListOf, wC2, wIsT, wIsC, wFld, wON, wOS, wSl, wV, wO, wSetIx, wPar, wSwap, wSeqOf, wRng1, wRng2, wFor, wWhile, wYes, wComp, wEnum, wZip, wEnum2, wRgT, wRgL, wAug, dMulT, dMax, wMake, wFz, wCat, wRep, wipeE, D.ty, wIf_true, wIf_false, List.getElem?_cons_zero, List.getElem?_cons_succ, List.set_cons_zero, List.set_cons_succ, dI0_ii, dI_ii, dNeg_i, dGcd_ii, dAbs_i, dInt_i, dInt_b, dBits_i, dLen_t, dLen_l, dTuple_t, dTuple_l, dAdd_ii, dAdd_tt, dAdd_ll, dAdd_ss, dMul_ii, dMul_li, dIs_n, dIs_b, dIsN_n, dRepr_b, rt_0, rt_1, dEq, dNe, dSub, dDiv, dDivU, dMod, dLt, dLe, dGt, dGe, D.isNon, Bool.not_true, Bool.not_false])
          exact ⟨rfl, d, _, rfl, h1, ih _ h2 _ q⟩
    exact run _ rfl es rs hr _ q
theorem hp_row_from : ∀ ds b Q, ds.length = 3 → p_row_from ds b Q → W_row_from { nx := fun _ b' => Q .non b', rt := Q } (ds.map Slot.v ++ List.replicate 1 .un) b := by
  rintro ds b Q - ⟨d, es, rs, least, most, rfl, hf, ht, hr, hl, h1, h2, q⟩
  show W_row_from _ [.v d, .v (.int least), .v (.int most), .un] b
  (try simp only [wSeq, wSet, wSetO, wRet, wIfS, wFrz, wApp, wDrop, wNext, wBreak, wCont, wNever, wVar, wVarB, wC, wBin, wUn, wT, wAnd, wOr, wNot, wAndV, wOrV, wNotV, wIte, wNil, wCons, wTup, wCall, wListOf, wC2, wIsT, wIsC, wFld, wON, wOS, wSl, wV, wO, wSetIx, wPar, wSwap, wSeqOf, wRng1, wRng2, wFor, wWhile, wYes, wComp, wEnum, wZip, wEnum2, wRgT, wRgL, wAug, dMulT, dMax, wMake, wFz, wCat, wRep, wipeE, D.ty, wIf_true, wIf_false, List.getElem?_cons_zero, List.getElem?_cons_succ, List.set_cons_zero, List.set_cons_succ, dI0_ii, dI_ii, dNeg_i, dGcd_ii, dAbs_i, dInt_i, dInt_b, dBits_i, dLen_t, dLen_l, dTuple_t, dTuple_l, dAdd_ii, dAdd_tt, dAdd_ll, dAdd_ss, dMul_ii, dMul_li, dIs_n, dIs_b, dIsN_n, dRepr_b, rt_0, rt_1, dEq, dNe, dSub, dDiv, dDivU, dMod, dLt, dLe, dGt, dGe, D.isNon, Bool.not_true, Bool.not_false, W_row_from])
  refine ⟨rfl, d, rfl, hf, ?_⟩
  rw [ht]
  refine ⟨rfl, es, rs, rfl, hl, hr, ?_⟩
  (try simp only [wSeq, wSet, wSetO, wRet, wIfS, wFrz, wApp, wDrop, wNext, wBreak, wCont, wNever, wVar, wVarB, wC, wBin, wUn, wT, wAnd, wOr, wNot, wAndV, wOrV, wNotV, wIte, wNil, wCons, wTup, wCall, wListOf, wC2, wIsT, wIsC, wFld, wON, wOS, wSl, wV, wO, wSetIx, wPar, wSwap, wSeqOf, wRng1, wRng2, wFor, wWhile, wYes, wComp, wEnum, wZip, wEnum2, wRgT, wRgL, wAug, dMulT, dMax, wMake, wFz, wCat, wRep, wipeE, D.ty, wIf_true, wIf_false, List.getElem?_cons_zero, List.getElem?_cons_succ, List.set_cons_zero, List.set_cons_succ, dI0_ii, dI_ii, dNeg_i, dGcd_ii, dAbs_i, dInt_i, dInt_b, dBits_i, dLen_t, dLen_l, dTuple_t, dTuple_l, dAdd_ii, dAdd_tt, dAdd_ll, dAdd_ss, dMul_ii, dMul_li, dIs_n, dIs_b, dIsN_n, dRepr_b, rt_0, rt_1, dEq, dNe, dSub, dDiv, dDivU, dMod, dLt, dLe, dGt, dGe, D.isNon, Bool.not_true, Bool.not_false, wChain])
  rw [decide_eq_true (show least ≤ ((rs.map rt).length : Int) by simpa using h1)]
  (try simp only [wSeq, wSet, wSetO, wRet, wIfS, wFrz, wApp, wDrop, wNext, wBreak, wCont, wNever, wVar, wVarB, wC, wBin, wUn, wT, wAnd, wOr, wNot, wAndV, wOrV, wNotV, wIte, wNil, wCons, wTup, wCall, wListOf, wC2, wIsT, wIsC, wFld, wON, wOS, wSl, wV, wO, wSetIx, wPar, wSwap, wSeqOf, wRng1, wRng2, wFor, wWhile, wYes, wComp, wEnum, wZip, wEnum2, wRgT, wRgL, wAug, dMulT, dMax, wMake, wFz, wCat, wRep, wipeE, D.ty, wIf_true, wIf_false, List.getElem?_cons_zero, List.getElem?_cons_succ, List.set_cons_zero, List.set_cons_succ, dI0_ii, dI_ii, dNeg_i, dGcd_ii, dAbs_i, dInt_i, dInt_b, dBits_i, dLen_t, dLen_l, dTuple_t, dTuple_l, dAdd_ii, dAdd_tt, dAdd_ll, dAdd_ss, dMul_ii, dMul_li, dIs_n, dIs_b, dIsN_n, dRepr_b, rt_0, rt_1, dEq, dNe, dSub, dDiv, dDivU, dMod, dLt, dLe, dGt, dGe, D.isNon, Bool.not_true, Bool.not_false])
  rw [decide_eq_true (show ((rs.map rt).length : Int) ≤ most by simpa using h2)]
  (try simp only [wSeq, wSet, wSetO, wRet, wIfS, wFrz, wApp, wDrop, wNext, wBreak, wCont, wNever, wVar, wVarB, wC, wBin, wUn, wT, wAnd, wOr, wNot, wAndV, wOrV, wNotV, wIte, wNil, wCons, wTup, wCall, wListOf, wC2, wIsT, wIsC, wFld, wON, wOS, wSl, wV, wO, wSetIx, wPar, wSwap, wSeqOf, wRng1, wRng2, wFor, wWhile, wYes, wComp, wEnum, wZip, wEnum2, wRgT, wRgL, wAug, dMulT, dMax, wMake, wFz, wCat, wRep, wipeE, D.ty, wIf_true, wIf_false, List.getElem?_cons_zero, List.getElem?_cons_succ, List.set_cons_zero, List.set_cons_succ, dI0_ii, dI_ii, dNeg_i, dGcd_ii, dAbs_i, dInt_i, dInt_b, dBits_i, dLen_t, dLen_l, dTuple_t, dTuple_l, dAdd_ii, dAdd_tt, dAdd_ll, dAdd_ss, dMul_ii, dMul_li, dIs_n, dIs_b, dIsN_n, dRepr_b, rt_0, rt_1, dEq, dNe, dSub, dDiv, dDivU, dMod, dLt, dLe, dGt, dGe, D.isNon, Bool.not_true, Bool.not_false])
  exact q
/-- all of them, by a test -/
theorem all_map {f : D → Bool} (es : List D) : es.map (fun d => D.bl (f d)) = (es.map f).map D.bl ∧ (es.map f).all id = es.all f := by
  constructor
  · rw [List.map_map]; rfl
  · rw [List.all_map]; rfl
theorem hp_is_ratio_row : ∀ ds b Q, ds.length = 2 → p_is_ratio_row ds b Q → W_is_ratio_row { nx := fun _ b' => Q .non b', rt := Q } (ds.map Slot.v ++ List.replicate 1 .un) b := by
  rintro ds b Q - ⟨m, d, rfl, hd, q⟩
  show W_is_ratio_row _ [.v (.int m), .v d, .un] b
  have ht : d.ty.isSome = true := by cases d <;> first | rfl | (simp [D.rowOk, D.ty] at hd; done)
  (try simp only [wSeq, wSet, wSetO, wRet, wIfS, wFrz, wApp, wDrop, wNext, wBreak, wCont, wNever, wVar, wVarB, wC, wBin, wUn, wT, wAnd, wOr, wNot, wAndV, wOrV, wNotV, wIte, wNil, wCons, wTup, wCall, wListOf, wC2, wIsT, wIsC, wFld, wON, wOS, wSl, wV, wO, wSetIx, wPar, wSwap, wSeqOf, wRng1, wRng2, wFor, wWhile, wYes, wComp, wEnum, wZip, wEnum2, wRgT, wRgL, wAug, dMulT, dMax, wMake, wFz, wCat, wRep, wipeE, D.ty, wIf_true, wIf_false, List.getElem?_cons_zero, List.getElem?_cons_succ, List.set_cons_zero, List.set_cons_succ, dI0_ii, dI_ii, dNeg_i, dGcd_ii, dAbs_i, dInt_i, dInt_b, dBits_i, dLen_t, dLen_l, dTuple_t, dTuple_l, dAdd_ii, dAdd_tt, dAdd_ll, dAdd_ss, dMul_ii, dMul_li, dIs_n, dIs_b, dIsN_n, dRepr_b, rt_0, rt_1, dEq, dNe, dSub, dDiv, dDivU, dMod, dLt, dLe, dGt, dGe, D.isNon, Bool.not_true, Bool.not_false, W_is_ratio_row])
  refine ⟨rfl, d, m, rfl, ht, ?_⟩
  cases d <;> try exact q
  rename_i es
  refine wIf_dec (fun h => ?_) (fun h => ?_)
  · refine ⟨hd.1, cmp_map (fun d => .bl d.told.isSome) es _ (fun d hm => ⟨_, rfl, fun K k => ?_⟩) ?_⟩
    · (try simp only [wSeq, wSet, wSetO, wRet, wIfS, wFrz, wApp, wDrop, wNext, wBreak, wCont, wNever, wVar, wVarB, wC, wBin, wUn, wT, wAnd, wOr, wNot, wAndV, wOrV, wNotV, wIte, wNil, wCons, wTup, wCall, wListOf, wC2, wIsT, wIsC, wFld, wON, wOS, wSl, wV, wO, wSetIx, wPar, wSwap, wSeqOf, wRng1, wRng2, wFor, wWhile, wYes, wComp, wEnum, wZip, wEnum2, wRgT, wRgL, wAug, dMulT, dMax, wMake, wFz, wCat, wRep, wipeE, D.ty, wIf_true, wIf_false, List.getElem?_cons_zero, List.getElem?_cons_succ, List.set_cons_zero, List.set_cons_succ, dI0_ii, dI_ii, dNeg_i, dGcd_ii, dAbs_i, dInt_i, dInt_b, dBits_i, dLen_t, dLen_l, dTuple_t, dTuple_l, dAdd_ii, dAdd_tt, dAdd_ll, dAdd_ss, dMul_ii, dMul_li, dIs_n, dIs_b, dIsN_n, dRepr_b, rt_0, rt_1, dEq, dNe, dSub, dDiv, dDivU, dMod, dLt, dLe, dGt, dGe, D.isNon, Bool.not_true, Bool.not_false])
      exact ⟨rfl, d, rfl, (hd.2 d hm).1, k⟩
    · refine ⟨_, (all_map es).1, ?_⟩
      rw [(all_map es).2]
      refine bl_eq ?_ q
      simp only [D.ratRow]
      rw [decide_eq_true h, Bool.true_and]
  · refine bl_eq ?_ q
    simp only [D.ratRow]
    rw [decide_eq_false h, Bool.false_and]
theorem hp__law_is_row : ∀ ds b Q, ds.length = 2 → p__law_is_row ds b Q → W__law_is_row { nx := fun _ b' => Q .non b', rt := Q } (ds.map Slot.v ++ List.replicate 1 .un) b := by
  rintro ds b Q - ⟨m, d, rfl, hd, q⟩
  show W__law_is_row _ [.v d, .v (.int m), .un] b
  have ht : d.ty.isSome = true := by cases d <;> first | rfl | (simp [D.rowOk, D.ty] at hd; done)
  cases d <;> try (first | ((try simp only [wSeq, wSet, wSetO, wRet, wIfS, wFrz, wApp, wDrop, wNext, wBreak, wCont, wNever, wVar, wVarB, wC, wBin, wUn, wT, wAnd, wOr, wNot, wAndV, wOrV, wNotV, wIte, wNil, wCons, wTup, wCall, wListOf, wC2, wIsT, wIsC, wFld, wON, wOS, wSl, wV, wO, wSetIx, wPar, wSwap, wSeqOf, wRng1, wRng2, wFor, wWhile, wYes, wComp, wEnum, wZip, wEnum2, wRgT, wRgL, wAug, dMulT, dMax, wMake, wFz, wCat, wRep, wipeE, D.ty, wIf_true, wIf_false, List.getElem?_cons_zero, List.getElem?_cons_succ, List.set_cons_zero, List.set_cons_succ, dI0_ii, dI_ii, dNeg_i, dGcd_ii, dAbs_i, dInt_i, dInt_b, dBits_i, dLen_t, dLen_l, dTuple_t, dTuple_l, dAdd_ii, dAdd_tt, dAdd_ll, dAdd_ss, dMul_ii, dMul_li, dIs_n, dIs_b, dIsN_n, dRepr_b, rt_0, rt_1, dEq, dNe, dSub, dDiv, dDivU, dMod, dLt, dLe, dGt, dGe, D.isNon, Bool.not_true, Bool.not_false, W__law_is_row, f_tuple]); exact q) | (cases ht; done))
  rename_i es
  (try simp only [wSeq, wSet, wSetO, wRet, wIfS, wFrz, wApp, wDrop, wNext, wBreak, wCont, wNever, wVar, wVarB, wC, wBin, wUn, wT, wAnd, wOr, wNot, wAndV, wOrV, wNotV, wIte, wNil, wCons, wTup, wCall, wListOf, wC2, wIsT, wIsC, wFld, wON, wOS, wSl, wV, wO, wSetIx, wPar, wSwap, wSeqOf, wRng1, wRng2, wFor, wWhile, wYes, wComp, wEnum, wZip, wEnum2, wRgT, wRgL, wAug, dMulT, dMax, wMake, wFz, wCat, wRep, wipeE, D.ty, wIf_true, wIf_false, List.getElem?_cons_zero, List.getElem?_cons_succ, List.set_cons_zero, List.set_cons_succ, dI0_ii, dI_ii, dNeg_i, dGcd_ii, dAbs_i, dInt_i, dInt_b, dBits_i, dLen_t, dLen_l, dTuple_t, dTuple_l, dAdd_ii, dAdd_tt, dAdd_ll, dAdd_ss, dMul_ii, dMul_li, dIs_n, dIs_b, dIsN_n, dRepr_b, rt_0, rt_1, dEq, dNe, dSub, dDiv, dDivU, dMod, dLt, dLe, dGt, dGe, D.isNon, Bool.not_true, Bool.not_false, W__law_is_row, f_tuple])
  refine ⟨⟨rfl, rfl⟩, ?_⟩
  have e : PyData.eqv (D.int (es.length : Int)).py (D.int m).py = decide ((es.length : Int) = m) := by
    simp only [D.py, PyData.eqv]
    by_cases z : (es.length : Int) = m
    · rw [z, decide_eq_true rfl]; simp
    · rw [decide_eq_false z]; simpa using z
  rw [e]
  refine wIf_dec (fun h => ?_) (fun h => ?_)
  · refine ⟨hd.1, cmp_map (fun d => .bl d.told.isSome) es _ (fun d hm => ⟨_, rfl, fun K k => ?_⟩) ?_⟩
    · (try simp only [wSeq, wSet, wSetO, wRet, wIfS, wFrz, wApp, wDrop, wNext, wBreak, wCont, wNever, wVar, wVarB, wC, wBin, wUn, wT, wAnd, wOr, wNot, wAndV, wOrV, wNotV, wIte, wNil, wCons, wTup, wCall, wListOf, wC2, wIsT, wIsC, wFld, wON, wOS, wSl, wV, wO, wSetIx, wPar, wSwap, wSeqOf, wRng1, wRng2, wFor, wWhile, wYes, wComp, wEnum, wZip, wEnum2, wRgT, wRgL, wAug, dMulT, dMax, wMake, wFz, wCat, wRep, wipeE, D.ty, wIf_true, wIf_false, List.getElem?_cons_zero, List.getElem?_cons_succ, List.set_cons_zero, List.set_cons_succ, dI0_ii, dI_ii, dNeg_i, dGcd_ii, dAbs_i, dInt_i, dInt_b, dBits_i, dLen_t, dLen_l, dTuple_t, dTuple_l, dAdd_ii, dAdd_tt, dAdd_ll, dAdd_ss, dMul_ii, dMul_li, dIs_n, dIs_b, dIsN_n, dRepr_b, rt_0, rt_1, dEq, dNe, dSub, dDiv, dDivU, dMod, dLt, dLe, dGt, dGe, D.isNon, Bool.not_true, Bool.not_false])
      exact ⟨rfl, d, rfl, (hd.2 d hm).1, (hd.2 d hm).2, k⟩
    · refine ⟨_, (all_map es).1, ?_⟩
      rw [(all_map es).2]
      refine bl_eq ?_ q
      simp only [D.ratRow]
      rw [decide_eq_true h, Bool.true_and]
  · refine bl_eq ?_ q
    simp only [D.ratRow]
    rw [decide_eq_false h, Bool.false_and]
end En
/-! Sizes by a common denominator; the determinants. -/
namespace En
open PySem PySem.Spec PyProof.Rows L2
/-- x is an int of less than 2 ^ a, over D -/
def FrA (a : Nat) (D : Nat) (x : Rat) : Prop := ∃ n : Int, x * (D : Rat) = (n : Rat) ∧ n.natAbs < 2 ^ a
theorem natAbs_div_le (a b : Int) : (a / b).natAbs ≤ a.natAbs := Int.natAbs_ediv_le_natAbs a b
theorem FrA.sz {a D : Nat} {x : Rat} (h : FrA a D x) (hD : 0 < D) (ha : a ≤ SB) (hd : D < 2 ^ SB) : Sz x := by
  obtain ⟨n, e, hn⟩ := h
  have hD' : (D : Rat) ≠ 0 := by
    intro z
    have : (D : Rat) = ((0 : Nat) : Rat) := z
    have := Rat.natCast_inj.mp this
    omega
  have ex : x = Rat.divInt n (D : Int) := by
    rw [Rat.divInt_eq_div]
    have e2 : ((D : Int) : Rat) = (D : Rat) := rfl
    rw [e2, ← e]
    grind
  subst ex
  have hnn : n.natAbs < 2 ^ SB := Nat.lt_of_lt_of_le hn (Nat.pow_le_pow_right (by decide) ha)
  constructor
  · rw [Rat.num_divInt, Int.sign_eq_one_of_pos (by omega), Int.one_mul]
    exact Nat.lt_of_le_of_lt (natAbs_div_le _ _) hnn
  · rw [Rat.den_divInt, if_neg (by omega)]
    exact Nat.lt_of_le_of_lt (Nat.div_le_self _ _) (by rw [Int.natAbs_natCast]; exact hd)
theorem FrA.mono {a b D : Nat} {x : Rat} (h : FrA a D x) (hab : a ≤ b) : FrA b D x := by
  obtain ⟨n, e, hn⟩ := h
  exact ⟨n, e, Nat.lt_of_lt_of_le hn (Nat.pow_le_pow_right (by decide) hab)⟩
theorem FrA.mul {a b D E : Nat} {x y : Rat} (h : FrA a D x) (h' : FrA b E y) : FrA (a + b) (D * E) (x * y) := by
  obtain ⟨n, e, hn⟩ := h
  obtain ⟨m, e', hm⟩ := h'
  refine ⟨n * m, ?_, natAbs_mul_lt hn hm⟩
  rw [Rat.natCast_mul, Rat.intCast_mul, ← e, ← e']
  grind
theorem FrA.sub {a D : Nat} {x y : Rat} (h : FrA a D x) (h' : FrA a D y) : FrA (a + 1) D (x - y) := by
  obtain ⟨n, e, hn⟩ := h
  obtain ⟨m, e', hm⟩ := h'
  refine ⟨n - m, ?_, natAbs_sub_lt hn hm⟩
  rw [Rat.intCast_sub, ← e, ← e']
  grind
theorem FrA.add {a D : Nat} {x y : Rat} (h : FrA a D x) (h' : FrA a D y) : FrA (a + 1) D (x + y) := by
  obtain ⟨n, e, hn⟩ := h
  obtain ⟨m, e', hm⟩ := h'
  refine ⟨n + m, ?_, natAbs_add_lt hn hm⟩
  rw [Rat.intCast_add, ← e, ← e']
  grind
theorem FrA.neg {a D : Nat} {x : Rat} (h : FrA a D x) : FrA a D (-x) := by
  obtain ⟨n, e, hn⟩ := h
  refine ⟨-n, ?_, by rw [Int.natAbs_neg]; exact hn⟩
  rw [Rat.intCast_neg, ← e]
  grind
theorem FrA.den {a D : Nat} {x : Rat} (h : FrA a D x) (k : Nat) : FrA a (D * k) x → True := fun _ => trivial
/-- over more -/
theorem FrA.up {a b D k : Nat} {x : Rat} (h : FrA a D x) (hk : k < 2 ^ b) : FrA (a + b) (D * k) x := by
  obtain ⟨n, e, hn⟩ := h
  refine ⟨n * (k : Int), ?_, natAbs_mul_lt hn (by rw [Int.natAbs_natCast]; exact hk)⟩
  rw [Rat.natCast_mul, Rat.intCast_mul, ← e]
  have : ((k : Int) : Rat) = (k : Rat) := rfl
  rw [this]
  grind
theorem nat_abs_cast {m : Int} : ((m.natAbs : Nat) : Rat) = (m : Rat) ∨ ((m.natAbs : Nat) : Rat) = -(m : Rat) := by
  rcases Int.natAbs_eq m with h | h
  · left
    have : ((m.natAbs : Int) : Rat) = (m : Rat) := by rw [← h]
    exact this
  · right
    have h2 : (m.natAbs : Int) = -m := by omega
    have : ((m.natAbs : Int) : Rat) = ((-m : Int) : Rat) := by rw [h2]
    rw [Rat.intCast_neg] at this
    exact this
/-- quotients by p, over what p is -/
theorem FrA.quo {a D : Nat} {p : Rat} (hD : 0 < D) (h' : FrA a D p) (h0 : p ≠ 0) : ∃ P : Nat, 0 < P ∧ P < 2 ^ a ∧ ∀ x, FrA a D x → FrA a P (x / p) ∧ ∀ y, FrA a D y → FrA (a + a) (D * P) (x / p * y) ∧ ∀ z, FrA a D z → FrA (a + a + 1) (D * P) (z - x / p * y) := by
  obtain ⟨m, e', hm⟩ := h'
  have hm0 : m ≠ 0 := by
    rintro rfl
    have hD' : (D : Rat) ≠ 0 := fun z => by
      have := Rat.natCast_inj.mp (show (D : Rat) = ((0 : Nat) : Rat) from z)
      omega
    have : p * (D : Rat) = 0 := e'
    rcases Rat.mul_eq_zero.mp this with z | z
    · exact h0 z
    · exact hD' z
  refine ⟨m.natAbs, by omega, hm, fun x hx => ?_⟩
  obtain ⟨n, e, hn⟩ := hx
  refine ⟨?_, fun y hy => ?_⟩
  · rcases nat_abs_cast (m := m) with hc | hc
    · refine ⟨n, ?_, hn⟩
      rw [hc, ← e', ← e]
      grind
    · refine ⟨-n, ?_, by rw [Int.natAbs_neg]; exact hn⟩
      rw [hc, ← e', Rat.intCast_neg, ← e]
      grind
  · have key : FrA (a + a) (D * m.natAbs) (x / p * y) := by
      obtain ⟨k, ek, hk⟩ := hy
      rcases nat_abs_cast (m := m) with hc | hc
      · refine ⟨n * k, ?_, natAbs_mul_lt hn hk⟩
        rw [Rat.natCast_mul, hc, ← e', Rat.intCast_mul, ← e, ← ek]
        grind
      · refine ⟨-(n * k), ?_, by rw [Int.natAbs_neg]; exact natAbs_mul_lt hn hk⟩
        rw [Rat.natCast_mul, hc, ← e', Rat.intCast_neg, Rat.intCast_mul, ← e, ← ek]
        grind
    exact ⟨key, fun z hz => (hz.up hm).sub key⟩
/-! ### rows -/
def rowD (r : List Rat) : D := .lst (r.map rt)
def rowsD (M : List (List Rat)) : List D := M.map rowD
def rowOf (M : List (List Rat)) (i : Nat) : List Rat := M.getD i []
def ent (M : List (List Rat)) (i j : Nat) : Rat := (rowOf M i).getD j 0
def zipSub (r p : List Rat) (z : Rat) : List Rat := (r.zip p).map fun q => q.1 - z * q.2
theorem zipD_rt : ∀ (xs ys : List Rat), zipD (xs.map rt) (ys.map rt) = (xs.zip ys).map fun q => D.tup [rt q.1, rt q.2]
  | [], _ => by simp [zipD]
  | _ :: _, [] => by simp [zipD]
  | x :: r, y :: s => by
    simp only [List.map_cons, zipD, List.zip_cons_cons]
    rw [zipD_rt r s]
theorem cmp_filter {T : Tg} {C : WT} {We : WE} {env0 : Env} {b : Nat} {α : Type} (f f' : α → D) (t : α → Bool) : ∀ (xs : List α) (Q : List D → Nat → Prop),
    (∀ x ∈ xs, ∃ env1, setTg T (f x) env0 = some env1 ∧ (∀ K : Bool → Nat → Prop, K (t x) b → C env1 b K) ∧ (∀ K : D → Nat → Prop, K (f' x) b → We env1 b K)) → Q ((xs.filter t).map f') b → cmpL T C We env0 (xs.map f) b Q
  | [], Q, _, q => q
  | x :: r, Q, h, q => by
    obtain ⟨env1, h1, h2, h3⟩ := h x List.mem_cons_self
    simp only [List.map_cons, cmpL, h1]
    refine h2 _ ?_
    cases ht : t x with
    | true =>
      rw [List.filter_cons_of_pos ht] at q
      exact h3 _ (cmp_filter f f' t r _ (fun y hy => h y (List.mem_cons_of_mem _ hy)) q)
    | false =>
      rw [List.filter_cons_of_neg (by rw [ht]; decide)] at q
      exact cmp_filter f f' t r _ (fun y hy => h y (List.mem_cons_of_mem _ hy)) q
theorem rangeD_nat (k m : Nat) : rangeD (k : Int) m = ((List.range m).map (k + ·)).map fun (i : Nat) => D.int (i : Int) := by
  rw [rangeD, List.map_map]
  refine List.map_congr_left fun i _ => ?_
  show D.int ((k : Int) + (i : Int)) = D.int (((k + i : Nat)) : Int)
  congr 1
theorem eqv_rt (x y : Rat) : PyData.eqv (rt x).py (rt y).py = decide (x = y) := by
  simp only [rt, D.py, D.pys, PyData.eqv, PyData.eqvAll, Bool.and_true]
  by_cases h : x = y
  · subst h
    simp
  · rw [decide_eq_false h]
    by_cases h1 : x.num = y.num
    · have h2 : x.den ≠ y.den := fun z => h (Rat.ext h1 z)
      rw [h1]
      simp only [beq_self_eq_true, Bool.true_and, beq_eq_false_iff_ne]
      omega
    · simp [h1]
theorem eqv_int (i j : Int) : PyData.eqv (D.int i).py (D.int j).py = decide (i = j) := by
  simp only [D.py, PyData.eqv]
  by_cases h : i = j
  · subst h; simp
  · rw [decide_eq_false h]; simpa using h
theorem flat_rt (x : Rat) (n : Nat) : (rt x).flat (n + 1) = true := rfl
def p_less_row : Spec := fun ds b Q => ∃ xs ys z, ds = [rowD xs, rowD ys, rt z] ∧ xs.length = ys.length ∧ xs.length < 1000000 ∧ Sz z ∧ (∀ x ∈ xs, Sz x) ∧ (∀ y ∈ ys, Sz y ∧ Sz (z * y)) ∧ Q (rowD (zipSub xs ys z)) b
/-- less_row: row, other, by, a, b -/
def W_less_row : WS := (wSeq (wIfS (wT (wBin dEq (wVarB 2) (wC kNONE))) (wRet (wFz (wListOf (wVarB 0)))) wNext) (wRet (wFz (wComp [3, 4] (.tup [3, 4]) (wZip (wCons (wVar 0) (wCons (wVar 1) wNil))) wYes (wCall 2 p_lessened (wCons (wVar 3) (wCons (wCall 2 p_scaled (wCons (wVar 2) (wCons (wVar 4) wNil))) wNil)))))))
theorem zipSub_zero : ∀ (xs ys : List Rat), xs.length = ys.length → zipSub xs ys 0 = xs
  | [], _, _ => rfl
  | x :: r, [], h => by simp at h
  | x :: r, y :: s, h => by
    have := zipSub_zero r s (by simpa using h)
    simp only [zipSub, List.zip_cons_cons, List.map_cons] at this ⊢
    rw [this]
    congr 1
    grind
theorem hp_less_row : ∀ ds b Q, ds.length = 3 → p_less_row ds b Q → W_less_row { nx := fun _ b' => Q .non b', rt := Q } (ds.map Slot.v ++ List.replicate 2 .un) b := by
  rintro ds b Q - ⟨xs, ys, z, rfl, hl, hm, hz, hx, hy, q⟩
  show W_less_row _ [.v (.lst (xs.map rt)), .v (.lst (ys.map rt)), .v (rt z), .un, .un] b
  (try simp only [wSeq, wSet, wSetO, wRet, wIfS, wFrz, wApp, wDrop, wNext, wBreak, wCont, wNever, wVar, wVarB, wC, wBin, wUn, wT, wAnd, wOr, wNot, wAndV, wOrV, wNotV, wIte, wNil, wCons, wTup, wCall, wListOf, wC2, wIsT, wIsC, wFld, wON, wOS, wSl, wV, wO, wSetIx, wPar, wSwap, wSeqOf, wRng1, wRng2, wFor, wWhile, wYes, wComp, wEnum, wZip, wEnum2, wRgT, wRgL, wAug, dMulT, dMax, wMake, wFz, wCat, wRep, wipeE, D.ty, wIf_true, wIf_false, List.getElem?_cons_zero, List.getElem?_cons_succ, List.set_cons_zero, List.set_cons_succ, dI0_ii, dI_ii, dNeg_i, dGcd_ii, dAbs_i, dInt_i, dInt_b, dBits_i, dLen_t, dLen_l, dTuple_t, dTuple_l, dAdd_ii, dAdd_tt, dAdd_ll, dAdd_ss, dMul_ii, dMul_li, dIs_n, dIs_b, dIsN_n, dRepr_b, rt_0, rt_1, dEq, dNe, dSub, dDiv, dDivU, dMod, dLt, dLe, dGt, dGe, D.isNon, Bool.not_true, Bool.not_false, W_less_row])
  refine ⟨⟨rfl, rfl⟩, ?_⟩
  rw [kNONE_eq, eqv_rt]
  refine wIf_dec (fun h => ?_) (fun h => ?_)
  · subst h
    rw [zipSub_zero xs ys hl] at q
    exact q
  · rw [zipD_rt]
    refine ⟨by rw [List.length_map, List.length_zip]; omega, cmp_at _ (fun q => rt (q.1 - z * q.2)) _ _ (fun p hp => ⟨_, rfl, fun K k => ?_⟩) ?_⟩
    · (try simp only [wSeq, wSet, wSetO, wRet, wIfS, wFrz, wApp, wDrop, wNext, wBreak, wCont, wNever, wVar, wVarB, wC, wBin, wUn, wT, wAnd, wOr, wNot, wAndV, wOrV, wNotV, wIte, wNil, wCons, wTup, wCall, wListOf, wC2, wIsT, wIsC, wFld, wON, wOS, wSl, wV, wO, wSetIx, wPar, wSwap, wSeqOf, wRng1, wRng2, wFor, wWhile, wYes, wComp, wEnum, wZip, wEnum2, wRgT, wRgL, wAug, dMulT, dMax, wMake, wFz, wCat, wRep, wipeE, D.ty, wIf_true, wIf_false, List.getElem?_cons_zero, List.getElem?_cons_succ, List.set_cons_zero, List.set_cons_succ, dI0_ii, dI_ii, dNeg_i, dGcd_ii, dAbs_i, dInt_i, dInt_b, dBits_i, dLen_t, dLen_l, dTuple_t, dTuple_l, dAdd_ii, dAdd_tt, dAdd_ll, dAdd_ss, dMul_ii, dMul_li, dIs_n, dIs_b, dIsN_n, dRepr_b, rt_0, rt_1, dEq, dNe, dSub, dDiv, dDivU, dMod, dLt, dLe, dGt, dGe, D.isNon, Bool.not_true, Bool.not_false])
      have hp' := List.of_mem_zip (show (p.1, p.2) ∈ xs.zip ys from hp)
      obtain ⟨h1, h2⟩ := hy p.2 hp'.2
      exact ⟨rfl, z, p.2, rfl, hz, h1, trivial, rfl, p.1, z * p.2, rfl, hx _ hp'.1, h2, trivial, k⟩
    · have e : (xs.zip ys).map (fun q => rt (q.1 - z * q.2)) = (zipSub xs ys z).map rt := by
        unfold zipSub
        rw [List.map_map]
        rfl
      rw [e]
      exact q
end En
/-! The determinants. -/
namespace En
open PySem PySem.Spec PyProof.Rows L2
/-! ### rows by place -/
theorem rows_get {M : List (List Rat)} {i : Nat} (h : i < M.length) : (rowsD M)[i]? = some (rowD (rowOf M i)) := by
  unfold rowsD rowOf
  rw [List.getElem?_map, List.getElem?_eq_getElem h, List.getD_eq_getElem?_getD, List.getElem?_eq_getElem h]
  rfl
theorem row_get {r : List Rat} {k : Nat} (h : k < r.length) : (r.map rt)[k]? = some (rt (r.getD k 0)) := by
  rw [List.getElem?_map, List.getElem?_eq_getElem h, List.getD_eq_getElem?_getD, List.getElem?_eq_getElem h]
  rfl
theorem ix_rows {M : List (List Rat)} {i : Nat} {Q : D → Prop} (h : i < M.length) (q : Q (rowD (rowOf M i))) : dIx (.lst (rowsD M)) (.int (i : Int)) Q := dIx_l (rows_get h) q
theorem ix_row {r : List Rat} {k : Nat} {Q : D → Prop} (h : k < r.length) (q : Q (rt (r.getD k 0))) : dIx (rowD r) (.int (k : Int)) Q := dIx_l (row_get h) q
theorem ix_rowT {r : List Rat} {k : Nat} {Q : D → Prop} (h : k < r.length) (q : Q (rt (r.getD k 0))) : dIx (.tup (r.map rt)) (.int (k : Int)) Q := dIx_t (row_get h) q
theorem rowsD_len (M : List (List Rat)) : (rowsD M).length = M.length := List.length_map _
theorem rowOf_set {M : List (List Rat)} {k i : Nat} {r : List Rat} (h : k < M.length) : rowOf (M.set k r) i = if i = k then r else rowOf M i := by
  unfold rowOf
  rw [List.getD_eq_getElem?_getD, List.getD_eq_getElem?_getD]
  by_cases z : i = k
  · subst z
    rw [List.getElem?_set_self h, if_pos rfl]
    rfl
  · rw [List.getElem?_set_ne (fun e => z e.symm), if_neg z]
theorem rowOf_mapIdx {M : List (List Rat)} {f : Nat → List Rat → List Rat} {i : Nat} (h : i < M.length) : rowOf (M.mapIdx f) i = f i (rowOf M i) := by
  unfold rowOf
  rw [List.getD_eq_getElem?_getD, List.getD_eq_getElem?_getD, List.getElem?_mapIdx, List.getElem?_eq_getElem h]
  rfl
theorem zipSub_len {r p : List Rat} {z : Rat} : (zipSub r p z).length = min r.length p.length := by simp [zipSub]
theorem zipSub_get {r p : List Rat} {z : Rat} {j : Nat} (h : j < r.length) (h' : j < p.length) : (zipSub r p z).getD j 0 = r.getD j 0 - z * p.getD j 0 := by
  unfold zipSub
  have h2 : j < (r.zip p).length := by rw [List.length_zip]; omega
  rw [List.getD_eq_getElem?_getD, List.getElem?_map, List.getElem?_eq_getElem h2, List.getElem_zip, List.getD_eq_getElem?_getD, List.getD_eq_getElem?_getD, List.getElem?_eq_getElem h, List.getElem?_eq_getElem h']
  rfl
structure Sq (n : Nat) (M : List (List Rat)) : Prop where
  len : M.length = n
  row : ∀ i, i < n → (rowOf M i).length = n
/-! ### putting away, step by step -/
def heads (M : List (List Rat)) (k : Nat) : List Nat := ((List.range (M.length - k)).map (k + ·)).filter fun i => decide (ent M i k ≠ 0)
def swapR (M : List (List Rat)) (k h : Nat) : List (List Rat) := if h = k then M else (M.set k (rowOf M h)).set h (rowOf M k)
def elimR (M : List (List Rat)) (k m : Nat) : List (List Rat) := M.mapIdx fun i r => if k < i ∧ i < m then zipSub r (rowOf M k) (r.getD k 0 / ent M k k) else r
def detGo : Nat → Nat → List (List Rat) → Rat → Rat
  | 0, _, _, out => out
  | f + 1, k, M, out => match heads M k with
    | [] => 0
    | h :: _ => detGo f (k + 1) (elimR (swapR M k h) k M.length) ((if h = k then out else -out) * ent (swapR M k h) k k)
def detR (M : List (List Rat)) : Rat := detGo M.length 0 M 1
def detFit : Nat → Nat → Nat → Nat → Nat → Bool
  | 0, _, _, _, _ => true
  | f + 1, a, d, ao, dO => decide (a ≤ SB ∧ d ≤ SB ∧ ao + a ≤ SB ∧ dO + d ≤ SB ∧ (f = 0 ∨ (a + a ≤ SB ∧ d + a ≤ SB))) && detFit f (a + a + 1) (d + a) (ao + a) (dO + d)
structure DS (n k : Nat) (M : List (List Rat)) (out R : Rat) : Prop where
  sq : Sq n M
  le : k ≤ n
  ex : ∃ a d ao dO D Do : Nat, (∀ i, k ≤ i → i < n → ∀ j, j < n → FrA a D (ent M i j)) ∧ 0 < D ∧ D < 2 ^ d ∧ FrA ao Do out ∧ 0 < Do ∧ Do < 2 ^ dO ∧ ao ≤ SB ∧ dO ≤ SB ∧ detFit (n - k) a d ao dO = true
  go : detGo (n - k) k M out = R
theorem DS.fin {n : Nat} {M : List (List Rat)} {out R : Rat} (h : DS n n M out R) : out = R := by
  have := h.go
  rw [Nat.sub_self] at this
  exact this
theorem DS.nil {n k : Nat} {M : List (List Rat)} {out R : Rat} (h : DS n k M out R) (hk : k < n) (hh : heads M k = []) : R = 0 := by
  have := h.go
  obtain ⟨f, hf⟩ : ∃ f, n - k = f + 1 := ⟨n - k - 1, by omega⟩
  rw [hf] at this
  simp only [detGo, hh] at this
  exact this.symm
theorem heads_mem {M : List (List Rat)} {k h : Nat} {t : List Nat} (hh : heads M k = h :: t) : k ≤ h ∧ h < M.length ∧ ent M h k ≠ 0 := by
  have hm : h ∈ heads M k := by rw [hh]; exact List.mem_cons_self
  unfold heads at hm
  rw [List.mem_filter, List.mem_map] at hm
  obtain ⟨⟨i, hi, rfl⟩, h2⟩ := hm
  rw [List.mem_range] at hi
  exact ⟨by omega, by omega, of_decide_eq_true h2⟩
theorem swap_row {n : Nat} {M : List (List Rat)} {k h : Nat} (sq : Sq n M) (hk : k < n) (hh : h < n) (i : Nat) : rowOf (swapR M k h) i = if i = k then rowOf M h else if i = h then rowOf M k else rowOf M i := by
  unfold swapR
  by_cases z : h = k
  · subst z
    rw [if_pos rfl]
    split
    · rename_i e; rw [e]
    · rfl
  · rw [if_neg z, rowOf_set (by rw [List.length_set, sq.len]; exact hh), rowOf_set (by rw [sq.len]; exact hk)]
    by_cases z1 : i = h
    · subst z1
      rw [if_pos rfl, if_neg z, if_pos rfl]
    · rw [if_neg z1, if_neg z1]
theorem swap_sq {n : Nat} {M : List (List Rat)} {k h : Nat} (sq : Sq n M) (hk : k < n) (hh : h < n) : Sq n (swapR M k h) := by
  constructor
  · unfold swapR
    split
    · exact sq.len
    · rw [List.length_set, List.length_set]; exact sq.len
  · intro i hi
    rw [swap_row sq hk hh]
    split
    · exact sq.row _ hh
    · split
      · exact sq.row _ hk
      · exact sq.row _ hi
theorem elim_row {n : Nat} {M : List (List Rat)} {k m i : Nat} (sq : Sq n M) (hi : i < n) : rowOf (elimR M k m) i = if k < i ∧ i < m then zipSub (rowOf M i) (rowOf M k) (ent M i k / ent M k k) else rowOf M i := by
  unfold elimR
  rw [rowOf_mapIdx (by rw [sq.len]; exact hi)]
  rfl
theorem elim_sq {n : Nat} {M : List (List Rat)} {k m : Nat} (sq : Sq n M) (hk : k < n) : Sq n (elimR M k m) := by
  constructor
  · unfold elimR
    rw [List.length_mapIdx]
    exact sq.len
  · intro i hi
    rw [elim_row sq hi]
    split
    · rw [zipSub_len, sq.row _ hi, sq.row _ hk, Nat.min_self]
    · exact sq.row _ hi
/-- one step -/
structure DStep (n k h : Nat) (M1 : List (List Rat)) (out1 R : Rat) : Prop where
  sq : Sq n M1
  p0 : ent M1 k k ≠ 0
  so : Sz out1
  sp : Sz (ent M1 k k)
  el : ∀ i, k < i → i < n → Sz (ent M1 i k) ∧ Sz (ent M1 i k / ent M1 k k) ∧ ∀ j, j < n → Sz (ent M1 k j) ∧ Sz (ent M1 i j) ∧ Sz (ent M1 i k / ent M1 k k * ent M1 k j)
  nx : DS n (k + 1) (elimR M1 k n) (out1 * ent M1 k k) R
theorem DS.szo {n k : Nat} {M : List (List Rat)} {out R : Rat} (s : DS n k M out R) : Sz out := by
  obtain ⟨a, d, ao, dO, D, Do, b1, b2, b3, b4, b5, b6, b7, b8, b9⟩ := s.ex
  exact b4.sz b5 b7 (Nat.lt_of_lt_of_le b6 (Nat.pow_le_pow_right (by decide) b8))
theorem DS.step {n k h : Nat} {t : List Nat} {M : List (List Rat)} {out R : Rat} (s : DS n k M out R) (hk : k < n) (hh : heads M k = h :: t) : k ≤ h ∧ h < n ∧ DStep n k h (swapR M k h) (if h = k then out else -out) R := by
  obtain ⟨h1, h2, h3⟩ := heads_mem hh
  rw [s.sq.len] at h2
  refine ⟨h1, h2, ?_⟩
  have sq1 := swap_sq s.sq hk h2
  obtain ⟨a, d, ao, dO, D, Do, b1, b2, b3, b4, b5, b6, b7, b8, b9⟩ := s.ex
  obtain ⟨f, hf⟩ : ∃ f, n - k = f + 1 := ⟨n - k - 1, by omega⟩
  rw [hf] at b9
  simp only [detFit, Bool.and_eq_true, decide_eq_true_eq] at b9
  obtain ⟨⟨c1, c2, c3, c4, c5⟩, c6⟩ := b9
  have low : ∀ {x y : Nat}, x < 2 ^ y → y ≤ SB → x < 2 ^ SB := fun h h' => Nat.lt_of_lt_of_le h (Nat.pow_le_pow_right (by decide) h')
  have B1 : ∀ i, k ≤ i → i < n → ∀ j, j < n → FrA a D (ent (swapR M k h) i j) := by
    intro i hi hn j hj
    unfold ent
    rw [swap_row s.sq hk h2]
    split
    · exact b1 h h1 h2 j hj
    · split
      · exact b1 k (Nat.le_refl _) hk j hj
      · exact b1 i hi hn j hj
  have p0 : ent (swapR M k h) k k ≠ 0 := by
    unfold ent
    rw [swap_row s.sq hk h2, if_pos rfl]
    exact h3
  have fo : FrA ao Do (if h = k then out else -out) := by
    split
    · exact b4
    · exact b4.neg
  have pf := B1 k (Nat.le_refl _) hk k hk
  obtain ⟨P, q1, q2, q3⟩ := FrA.quo b2 pf p0
  refine ⟨sq1, p0, fo.sz b5 b7 (low b6 b8), pf.sz b2 c1 (low b3 c2), fun i hi hn => ?_, ?_⟩
  · have c5' := c5.resolve_left (by omega)
    obtain ⟨r1, r2⟩ := q3 _ (B1 i (by omega) hn k hk)
    refine ⟨(B1 i (by omega) hn k hk).sz b2 c1 (low b3 c2), r1.sz q1 c1 (low q2 c1), fun j hj => ?_⟩
    obtain ⟨r3, r4⟩ := r2 _ (B1 k (Nat.le_refl _) hk j hj)
    exact ⟨(B1 k (Nat.le_refl _) hk j hj).sz b2 c1 (low b3 c2), (B1 i (by omega) hn j hj).sz b2 c1 (low b3 c2), r3.sz (Nat.mul_pos b2 q1) c5'.1 (low (mul_lt_pow b3 q2) c5'.2)⟩
  · refine ⟨elim_sq sq1 hk, hk, ⟨a + a + 1, d + a, ao + a, dO + d, D * P, Do * D, fun i hi hn j hj => ?_, Nat.mul_pos b2 q1, mul_lt_pow b3 q2, fo.mul pf, Nat.mul_pos b5 b2, mul_lt_pow b6 b3, c3, c4, ?_⟩, ?_⟩
    · unfold ent
      rw [elim_row sq1 hn, if_pos ⟨by omega, hn⟩, zipSub_get (by rw [sq1.row _ hn]; exact hj) (by rw [sq1.row _ hk]; exact hj)]
      exact ((q3 _ (B1 i (by omega) hn k hk)).2 _ (B1 k (Nat.le_refl _) hk j hj)).2 _ (B1 i (by omega) hn j hj)
    · rw [show n - (k + 1) = f by omega]
      exact c6
    · have := s.go
      rw [hf] at this
      simp only [detGo, hh] at this
      rw [show n - (k + 1) = f by omega]
      rw [s.sq.len] at this
      exact this
theorem elim_set {n : Nat} {M : List (List Rat)} {k m : Nat} (sq : Sq n M) (hkm : k < m) (hm : m < n) : (elimR M k m).set m (zipSub (rowOf M m) (rowOf M k) (ent M m k / ent M k k)) = elimR M k (m + 1) := by
  refine List.ext_getElem? fun i => ?_
  unfold elimR
  by_cases z : i = m
  · subst z
    rw [List.getElem?_set_self (by rw [List.length_mapIdx, sq.len]; exact hm), List.getElem?_mapIdx, List.getElem?_eq_getElem (by rw [sq.len]; exact hm)]
    simp only [Option.map_some, Nat.lt_succ_self, and_true, if_pos hkm]
    have e : M[i]'(by rw [sq.len]; exact hm) = rowOf M i := by
      unfold rowOf
      rw [List.getD_eq_getElem?_getD, List.getElem?_eq_getElem (by rw [sq.len]; exact hm)]
      rfl
    rw [e]
    rfl
  · rw [List.getElem?_set_ne (fun e => z e.symm), List.getElem?_mapIdx, List.getElem?_mapIdx]
    congr 1
    funext r
    have : (k < i ∧ i < m) ↔ (k < i ∧ i < m + 1) := by omega
    simp only [this]
theorem elim_none {M : List (List Rat)} {k : Nat} : elimR M k (k + 1) = M := by
  refine List.ext_getElem? fun i => ?_
  unfold elimR
  rw [List.getElem?_mapIdx]
  have : ¬ (k < i ∧ i < k + 1) := by omega
  simp only [this, if_false]
  cases M[i]? <;> rfl
/-! ### the program's determinant -/
def tabD (M : List (List Rat)) : D := .tup (M.map fun r => D.tup (r.map rt))
def DetOk (M : List (List Rat)) : Prop := Sq M.length M ∧ M.length ≤ 1000 ∧ ∃ a d D : Nat, (∀ i, i < M.length → ∀ j, j < M.length → FrA a D (ent M i j)) ∧ 0 < D ∧ D < 2 ^ d ∧ detFit M.length a d 1 1 = true
theorem DetOk.ds {M : List (List Rat)} (h : DetOk M) : DS M.length 0 M 1 (detR M) := by
  obtain ⟨sq, _, a, d, D, h1, h2, h3, h4⟩ := h
  exact ⟨sq, Nat.zero_le _, ⟨a, d, 1, 1, D, 1, fun i _ hi j hj => h1 i hi j hj, h2, h3, ⟨1, by decide +kernel, by decide⟩, by decide, by decide, by decide, by decide, by rw [Nat.sub_zero]; exact h4⟩, by rw [Nat.sub_zero]; rfl⟩
def p_determinant_by : Spec := fun ds b Q => ∃ M, ds = [tabD M] ∧ DetOk M ∧ Q (rt (detR M)) b
def tabL (M : List (List Rat)) : D := .lst (M.map fun r => D.lst (r.map rt))
def p_detL : Spec := fun ds b Q => ∃ M, ds = [tabL M] ∧ DetOk M ∧ Q (rt (detR M)) b
def p__law_determinant : Spec := fun ds b Q => p_determinant_by ds b Q ∨ p_detL ds b Q
/-- determinant_by: table, rows, out, k, heads, i, row -/
def W_determinant_by : WS := (wSeq (wPar 1 2 (wO (wComp [6] (.one 6) (wSeqOf (wVar 0)) wYes (wFz (wListOf (wVarB 6))))) (wV (wC kONE))) (wSeq (wFor (.one 3) (wRng1 (wCons (wUn dLen (wVarB 1)) wNil)) (wSeq (wSetO 4 (wComp [5] (.one 5) (wRng2 (wCons (wVar 3) (wCons (wUn dLen (wVarB 1)) wNil))) (wT (wBin dNe (wBin dIx (wBin dIx (wVarB 1) (wVarB 5)) (wVarB 3)) (wC kNONE))) (wVar 5))) (wFrz 4 (wSeq (wIfS (wT (wBin dEq (wUn dLen (wVarB 4)) (wC (.int 0)))) (wRet (wC kNONE)) wNext) (wSeq (wIfS (wT (wBin dNe (wBin dIx (wVarB 4) (wC (.int 0))) (wVarB 3))) (wSeq (wSwap 1 (wBin dIx (wVarB 1) (wBin dIx (wVarB 4) (wC (.int 0)))) (wBin dIx (wVarB 1) (wVarB 3)) (wVar 3) (wBin dIx (wVarB 4) (wC (.int 0)))) (wSet 2 (wCall 1 p_turned_sign (wCons (wVar 2) wNil)))) wNext) (wSeq (wSet 2 (wCall 2 p_scaled (wCons (wVar 2) (wCons (wBin dIx (wBin dIx (wVarB 1) (wVarB 3)) (wVarB 3)) wNil)))) (wFor (.one 5) (wRng2 (wCons (wBin dAdd (wVarB 3) (wC (.int 1))) (wCons (wUn dLen (wVarB 1)) wNil))) (wSetIx 1 (wCall 3 p_less_row (wCons (wBin dIx (wVarB 1) (wVarB 5)) (wCons (wBin dIx (wVarB 1) (wVarB 3)) (wCons (wCall 2 p_parted (wCons (wBin dIx (wBin dIx (wVarB 1) (wVarB 5)) (wVarB 3)) (wCons (wBin dIx (wBin dIx (wVarB 1) (wVarB 3)) (wVarB 3)) wNil))) wNil)))) (wVar 5))))))))) (wRet (wVar 2))))
/-- _law_determinant: table, rows, out, k, heads, i, by, row, a, b -/
def W__law_determinant : WS := (wSeq (wPar 1 2 (wO (wComp [7] (.one 7) (wSeqOf (wVar 0)) wYes (wFz (wListOf (wVarB 7))))) (wV (wTup (wCons (wC (.int 1)) (wCons (wC (.int 1)) wNil))))) (wSeq (wFor (.one 3) (wRng1 (wCons (wUn dLen (wVarB 1)) wNil)) (wSeq (wSetO 4 (wComp [5] (.one 5) (wRng2 (wCons (wVar 3) (wCons (wUn dLen (wVarB 1)) wNil))) (wT (wBin dNe (wBin dIx (wBin dIx (wBin dIx (wVarB 1) (wVarB 5)) (wVarB 3)) (wC (.int 0))) (wC (.int 0)))) (wVar 5))) (wFrz 4 (wSeq (wIfS (wT (wBin dEq (wVarB 4) (wFz wNil))) (wRet (wTup (wCons (wC (.int 0)) (wCons (wC (.int 1)) wNil)))) wNext) (wSeq (wIfS (wT (wBin dNe (wBin dIx (wVarB 4) (wC (.int 0))) (wVarB 3))) (wSeq (wSwap 1 (wBin dIx (wVarB 1) (wBin dIx (wVarB 4) (wC (.int 0)))) (wBin dIx (wVarB 1) (wVarB 3)) (wVar 3) (wBin dIx (wVarB 4) (wC (.int 0)))) (wSet 2 (wCall 2 p__law_minus (wCons (wTup (wCons (wC (.int 0)) (wCons (wC (.int 1)) wNil))) (wCons (wVar 2) wNil))))) wNext) (wSeq (wSet 2 (wCall 2 p__law_times (wCons (wVar 2) (wCons (wBin dIx (wBin dIx (wVarB 1) (wVarB 3)) (wVarB 3)) wNil)))) (wFor (.one 5) (wRng2 (wCons (wBin dAdd (wVarB 3) (wC (.int 1))) (wCons (wUn dLen (wVarB 1)) wNil))) (wSeq (wSet 6 (wCall 2 p__law_share (wCons (wBin dIx (wBin dIx (wVarB 1) (wVarB 5)) (wVarB 3)) (wCons (wBin dIx (wBin dIx (wVarB 1) (wVarB 3)) (wVarB 3)) wNil)))) (wSetIx 1 (wFz (wComp [8, 9] (.tup [8, 9]) (wZip (wCons (wBin dIx (wVarB 1) (wVarB 5)) (wCons (wBin dIx (wVarB 1) (wVarB 3)) wNil))) wYes (wCall 2 p__law_minus (wCons (wVar 8) (wCons (wCall 2 p__law_times (wCons (wVar 6) (wCons (wVar 9) wNil))) wNil))))) (wVar 5)))))))))) (wRet (wVar 2))))
theorem sz_zero : Sz 0 := ⟨Nat.two_pow_pos _, Nat.one_lt_two_pow (by decide)⟩
theorem heads_len {M : List (List Rat)} {k : Nat} : (heads M k).length ≤ M.length := by
  unfold heads
  refine Nat.le_trans (List.length_filter_le _ _) ?_
  rw [List.length_map, List.length_range]
  omega
theorem cut_rng {n k : Nat} (hk : k ≤ n) : rangeD (k : Int) ((n : Int) - (k : Int)).toNat = ((List.range (n - k)).map (k + ·)).map fun (i : Nat) => D.int (i : Int) := by
  rw [show ((n : Int) - (k : Int)).toNat = n - k by omega, rangeD_nat]
theorem hp_determinant_by : ∀ ds b Q, ds.length = 1 → p_determinant_by ds b Q → W_determinant_by { nx := fun _ b' => Q .non b', rt := Q } (ds.map Slot.v ++ List.replicate 6 .un) b := by
  rintro ds b Q - ⟨M, rfl, hM, q⟩
  show W_determinant_by _ [.v (tabD M), .un, .un, .un, .un, .un, .un] b
  have hs := hM.ds
  have hlen := hM.2.1
  generalize detR M = R at q hs
  generalize hn : M.length = n at hs hlen
  (try simp only [wSeq, wSet, wSetO, wRet, wIfS, wFrz, wApp, wDrop, wNext, wBreak, wCont, wNever, wVar, wVarB, wC, wBin, wUn, wT, wAnd, wOr, wNot, wAndV, wOrV, wNotV, wIte, wNil, wCons, wTup, wCall, wListOf, wC2, wIsT, wIsC, wFld, wON, wOS, wSl, wV, wO, wSetIx, wPar, wSwap, wSeqOf, wRng1, wRng2, wFor, wWhile, wYes, wComp, wEnum, wZip, wEnum2, wRgT, wRgL, wAug, dMulT, dMax, wMake, wFz, wCat, wRep, wipeE, D.ty, wIf_true, wIf_false, List.getElem?_cons_zero, List.getElem?_cons_succ, List.set_cons_zero, List.set_cons_succ, dI0_ii, dI_ii, dNeg_i, dGcd_ii, dAbs_i, dInt_i, dInt_b, dBits_i, dLen_t, dLen_l, dTuple_t, dTuple_l, dAdd_ii, dAdd_tt, dAdd_ll, dAdd_ss, dMul_ii, dMul_li, dIs_n, dIs_b, dIsN_n, dRepr_b, rt_0, rt_1, dEq, dNe, dSub, dDiv, dDivU, dMod, dLt, dLe, dGt, dGe, D.isNon, Bool.not_true, Bool.not_false, W_determinant_by])
  refine ⟨by rw [List.length_map]; omega, cmp_at (fun r : List Rat => D.tup (r.map rt)) rowD M _ (fun r hr => ⟨_, rfl, fun K k => by (try simp only [wSeq, wSet, wSetO, wRet, wIfS, wFrz, wApp, wDrop, wNext, wBreak, wCont, wNever, wVar, wVarB, wC, wBin, wUn, wT, wAnd, wOr, wNot, wAndV, wOrV, wNotV, wIte, wNil, wCons, wTup, wCall, wListOf, wC2, wIsT, wIsC, wFld, wON, wOS, wSl, wV, wO, wSetIx, wPar, wSwap, wSeqOf, wRng1, wRng2, wFor, wWhile, wYes, wComp, wEnum, wZip, wEnum2, wRgT, wRgL, wAug, dMulT, dMax, wMake, wFz, wCat, wRep, wipeE, D.ty, wIf_true, wIf_false, List.getElem?_cons_zero, List.getElem?_cons_succ, List.set_cons_zero, List.set_cons_succ, dI0_ii, dI_ii, dNeg_i, dGcd_ii, dAbs_i, dInt_i, dInt_b, dBits_i, dLen_t, dLen_l, dTuple_t, dTuple_l, dAdd_ii, dAdd_tt, dAdd_ll, dAdd_ss, dMul_ii, dMul_li, dIs_n, dIs_b, dIsN_n, dRepr_b, rt_0, rt_1, dEq, dNe, dSub, dDiv, dDivU, dMod, dLt, dLe, dGt, dGe, D.isNon, Bool.not_true, Bool.not_false]); exact k⟩) ?_⟩
  rw [show (M.map rowD).length = n by rw [List.length_map]; exact hn]
  refine ⟨⟨by omega, by omega⟩, ?_⟩
  rw [show rangeD 0 ((n : Nat) : Int).toNat = rangeD ((0 : Nat) : Int) n by rw [Int.toNat_natCast]; rfl, rangeD_nat]
  refine for_rule (I := fun i env b' => b' = b ∧ ∃ (M' : List (List Rat)) (out : Rat) (s3 s4 s5 s6 : Slot), env = [.v (tabD M), .own (rowsD M'), .v (rt out), s3, s4, s5, s6] ∧ DS n i M' out R) ?_ ?_ _ _ ⟨rfl, M, 1, _, _, _, _, rfl, hs⟩
  · rintro k d env b' E' hd ⟨rfl, M', out, s3, s4, s5, s6, rfl, ds⟩ hnx hct hbk hrt
    have hk : k < n := by
      have := (List.getElem?_eq_some_iff.mp hd).1
      simpa using this
    have ed : d = .int ((k : Nat) : Int) := by
      rw [List.getElem?_map, List.getElem?_map, List.getElem?_range (by simpa using hk)] at hd
      simp at hd
      exact hd.symm
    subst ed
    have hl : M'.length = n := ds.sq.len
    refine ⟨_, rfl, ?_⟩
    (try simp only [wSeq, wSet, wSetO, wRet, wIfS, wFrz, wApp, wDrop, wNext, wBreak, wCont, wNever, wVar, wVarB, wC, wBin, wUn, wT, wAnd, wOr, wNot, wAndV, wOrV, wNotV, wIte, wNil, wCons, wTup, wCall, wListOf, wC2, wIsT, wIsC, wFld, wON, wOS, wSl, wV, wO, wSetIx, wPar, wSwap, wSeqOf, wRng1, wRng2, wFor, wWhile, wYes, wComp, wEnum, wZip, wEnum2, wRgT, wRgL, wAug, dMulT, dMax, wMake, wFz, wCat, wRep, wipeE, D.ty, wIf_true, wIf_false, List.getElem?_cons_zero, List.getElem?_cons_succ, List.set_cons_zero, List.set_cons_succ, dI0_ii, dI_ii, dNeg_i, dGcd_ii, dAbs_i, dInt_i, dInt_b, dBits_i, dLen_t, dLen_l, dTuple_t, dTuple_l, dAdd_ii, dAdd_tt, dAdd_ll, dAdd_ss, dMul_ii, dMul_li, dIs_n, dIs_b, dIsN_n, dRepr_b, rt_0, rt_1, dEq, dNe, dSub, dDiv, dDivU, dMod, dLt, dLe, dGt, dGe, D.isNon, Bool.not_true, Bool.not_false])
    have hrl : (rowsD M').length = n := by rw [rowsD_len]; exact hl
    refine ⟨⟨by omega, by omega, by omega, by omega⟩, by rw [rangeD_len]; omega, ?_⟩
    rw [show rangeD (k : Int) (((rowsD M').length : Int) - (k : Int)).toNat = ((List.range (n - k)).map (k + ·)).map fun (i : Nat) => D.int (i : Int) by rw [hrl]; exact cut_rng (Nat.le_of_lt hk)]
    refine cmp_filter _ (fun (i : Nat) => D.int (i : Int)) (fun i => decide (ent M' i k ≠ 0)) _ _ (fun x hx => ⟨_, rfl, fun K hK => ?_, fun K hK => by (try simp only [wSeq, wSet, wSetO, wRet, wIfS, wFrz, wApp, wDrop, wNext, wBreak, wCont, wNever, wVar, wVarB, wC, wBin, wUn, wT, wAnd, wOr, wNot, wAndV, wOrV, wNotV, wIte, wNil, wCons, wTup, wCall, wListOf, wC2, wIsT, wIsC, wFld, wON, wOS, wSl, wV, wO, wSetIx, wPar, wSwap, wSeqOf, wRng1, wRng2, wFor, wWhile, wYes, wComp, wEnum, wZip, wEnum2, wRgT, wRgL, wAug, dMulT, dMax, wMake, wFz, wCat, wRep, wipeE, D.ty, wIf_true, wIf_false, List.getElem?_cons_zero, List.getElem?_cons_succ, List.set_cons_zero, List.set_cons_succ, dI0_ii, dI_ii, dNeg_i, dGcd_ii, dAbs_i, dInt_i, dInt_b, dBits_i, dLen_t, dLen_l, dTuple_t, dTuple_l, dAdd_ii, dAdd_tt, dAdd_ll, dAdd_ss, dMul_ii, dMul_li, dIs_n, dIs_b, dIsN_n, dRepr_b, rt_0, rt_1, dEq, dNe, dSub, dDiv, dDivU, dMod, dLt, dLe, dGt, dGe, D.isNon, Bool.not_true, Bool.not_false]); exact hK⟩) ?_
    · obtain ⟨j, hj, rfl⟩ := List.mem_map.mp hx
      rw [List.mem_range] at hj
      (try simp only [wSeq, wSet, wSetO, wRet, wIfS, wFrz, wApp, wDrop, wNext, wBreak, wCont, wNever, wVar, wVarB, wC, wBin, wUn, wT, wAnd, wOr, wNot, wAndV, wOrV, wNotV, wIte, wNil, wCons, wTup, wCall, wListOf, wC2, wIsT, wIsC, wFld, wON, wOS, wSl, wV, wO, wSetIx, wPar, wSwap, wSeqOf, wRng1, wRng2, wFor, wWhile, wYes, wComp, wEnum, wZip, wEnum2, wRgT, wRgL, wAug, dMulT, dMax, wMake, wFz, wCat, wRep, wipeE, D.ty, wIf_true, wIf_false, List.getElem?_cons_zero, List.getElem?_cons_succ, List.set_cons_zero, List.set_cons_succ, dI0_ii, dI_ii, dNeg_i, dGcd_ii, dAbs_i, dInt_i, dInt_b, dBits_i, dLen_t, dLen_l, dTuple_t, dTuple_l, dAdd_ii, dAdd_tt, dAdd_ll, dAdd_ss, dMul_ii, dMul_li, dIs_n, dIs_b, dIsN_n, dRepr_b, rt_0, rt_1, dEq, dNe, dSub, dDiv, dDivU, dMod, dLt, dLe, dGt, dGe, D.isNon, Bool.not_true, Bool.not_false])
      refine ix_rows (by rw [hl]; omega) (ix_row (by rw [ds.sq.row _ (by omega)]; omega) ?_)
      refine ⟨⟨rfl, rfl⟩, ?_⟩
      rw [kNONE_eq, eqv_rt, ← decide_not]
      exact hK
    · rw [show ((List.range (n - k)).map (k + ·)).filter (fun i => decide (ent M' i k ≠ 0)) = heads M' k by unfold heads; rw [hl]]
      (try simp only [wSeq, wSet, wSetO, wRet, wIfS, wFrz, wApp, wDrop, wNext, wBreak, wCont, wNever, wVar, wVarB, wC, wBin, wUn, wT, wAnd, wOr, wNot, wAndV, wOrV, wNotV, wIte, wNil, wCons, wTup, wCall, wListOf, wC2, wIsT, wIsC, wFld, wON, wOS, wSl, wV, wO, wSetIx, wPar, wSwap, wSeqOf, wRng1, wRng2, wFor, wWhile, wYes, wComp, wEnum, wZip, wEnum2, wRgT, wRgL, wAug, dMulT, dMax, wMake, wFz, wCat, wRep, wipeE, D.ty, wIf_true, wIf_false, List.getElem?_cons_zero, List.getElem?_cons_succ, List.set_cons_zero, List.set_cons_succ, dI0_ii, dI_ii, dNeg_i, dGcd_ii, dAbs_i, dInt_i, dInt_b, dBits_i, dLen_t, dLen_l, dTuple_t, dTuple_l, dAdd_ii, dAdd_tt, dAdd_ll, dAdd_ss, dMul_ii, dMul_li, dIs_n, dIs_b, dIsN_n, dRepr_b, rt_0, rt_1, dEq, dNe, dSub, dDiv, dDivU, dMod, dLt, dLe, dGt, dGe, D.isNon, Bool.not_true, Bool.not_false])
      refine ⟨⟨rfl, rfl⟩, ?_⟩
      rw [eqv_int, List.length_map]
      refine wIf_dec (fun h0 => ?_) (fun h0 => ?_)
      · have hh : heads M' k = [] := List.eq_nil_of_length_eq_zero (by omega)
        rw [hrt]
        have := ds.nil hk hh
        subst this
        exact q
      · obtain ⟨h, t, hh⟩ : ∃ h t, heads M' k = h :: t := by
          cases e : heads M' k with
          | nil => rw [e] at h0; exact absurd rfl h0
          | cons a r => exact ⟨a, r, rfl⟩
        obtain ⟨g1, g2, st⟩ := ds.step hk hh
        rw [hh, List.map_cons]
        -- the rest, from the swapped rows on
        have rest : ∀ (s4 : Slot), wSeq (wSet 2 (wCall 2 p_scaled (wCons (wVar 2) (wCons (wBin dIx (wBin dIx (wVarB 1) (wVarB 3)) (wVarB 3)) wNil)))) (wFor (.one 5) (wRng2 (wCons (wBin dAdd (wVarB 3) (wC (.int 1))) (wCons (wUn dLen (wVarB 1)) wNil))) (wSetIx 1 (wCall 3 p_less_row (wCons (wBin dIx (wVarB 1) (wVarB 5)) (wCons (wBin dIx (wVarB 1) (wVarB 3)) (wCons (wCall 2 p_parted (wCons (wBin dIx (wBin dIx (wVarB 1) (wVarB 5)) (wVarB 3)) (wCons (wBin dIx (wBin dIx (wVarB 1) (wVarB 3)) (wVarB 3)) wNil))) wNil)))) (wVar 5)))
            E' [.v (tabD M), .own (rowsD (swapR M' k h)), .v (rt (if h = k then out else -out)), .v (.int (k : Int)), s4, s5, s6] b' := by
          intro s4
          have hl1 := st.sq.len
          (try simp only [wSeq, wSet, wSetO, wRet, wIfS, wFrz, wApp, wDrop, wNext, wBreak, wCont, wNever, wVar, wVarB, wC, wBin, wUn, wT, wAnd, wOr, wNot, wAndV, wOrV, wNotV, wIte, wNil, wCons, wTup, wCall, wListOf, wC2, wIsT, wIsC, wFld, wON, wOS, wSl, wV, wO, wSetIx, wPar, wSwap, wSeqOf, wRng1, wRng2, wFor, wWhile, wYes, wComp, wEnum, wZip, wEnum2, wRgT, wRgL, wAug, dMulT, dMax, wMake, wFz, wCat, wRep, wipeE, D.ty, wIf_true, wIf_false, List.getElem?_cons_zero, List.getElem?_cons_succ, List.set_cons_zero, List.set_cons_succ, dI0_ii, dI_ii, dNeg_i, dGcd_ii, dAbs_i, dInt_i, dInt_b, dBits_i, dLen_t, dLen_l, dTuple_t, dTuple_l, dAdd_ii, dAdd_tt, dAdd_ll, dAdd_ss, dMul_ii, dMul_li, dIs_n, dIs_b, dIsN_n, dRepr_b, rt_0, rt_1, dEq, dNe, dSub, dDiv, dDivU, dMod, dLt, dLe, dGt, dGe, D.isNon, Bool.not_true, Bool.not_false])
          refine ix_rows (by rw [hl1]; exact hk) (ix_row (by rw [st.sq.row _ hk]; exact hk) ?_)
          refine ⟨rfl, _, _, rfl, st.so, st.sp, trivial, ?_⟩
          rw [rowsD_len, hl1]
          refine ⟨⟨by omega, by omega, by omega, by omega⟩, ?_⟩
          rw [show ((k : Int) + 1) = ((k + 1 : Nat) : Int) by omega, cut_rng hk]
          refine for_rule (I := fun i env b2 => b2 = b' ∧ ∃ (s5 : Slot), env = [.v (tabD M), .own (rowsD (elimR (swapR M' k h) k (k + 1 + i))), .v (rt ((if h = k then out else -out) * ent (swapR M' k h) k k)), .v (.int (k : Int)), s4, s5, s6]) ?_ ?_ _ _ ⟨rfl, s5, by rw [Nat.add_zero, elim_none]; rfl⟩
          · rintro i d env b2 E2 hd ⟨rfl, s5, rfl⟩ hnx2 hct2 hbk2 hrt2
            have hi : i < n - (k + 1) := by
              have := (List.getElem?_eq_some_iff.mp hd).1
              simpa using this
            have ed : d = .int ((k + 1 + i : Nat) : Int) := by
              rw [List.getElem?_map, List.getElem?_map, List.getElem?_range (by simpa using hi)] at hd
              simp at hd
              exact hd.symm
            subst ed
            have him : k + 1 + i < n := by omega
            have hmm : k + 1 + (i + 1) = k + 1 + i + 1 := by omega
            rw [hmm] at hnx2
            have hkm : k < k + 1 + i := by omega
            generalize k + 1 + i = m at him hnx2 hkm
            refine ⟨_, rfl, ?_⟩
            have sqe := elim_sq (m := m) st.sq hk
            have r1 : rowOf (elimR (swapR M' k h) k m) m = rowOf (swapR M' k h) m := by rw [elim_row st.sq him, if_neg (by omega)]
            have r2 : rowOf (elimR (swapR M' k h) k m) k = rowOf (swapR M' k h) k := by rw [elim_row st.sq hk, if_neg (by omega)]
            obtain ⟨z1, z2, z3⟩ := st.el m hkm him
            (try simp only [wSeq, wSet, wSetO, wRet, wIfS, wFrz, wApp, wDrop, wNext, wBreak, wCont, wNever, wVar, wVarB, wC, wBin, wUn, wT, wAnd, wOr, wNot, wAndV, wOrV, wNotV, wIte, wNil, wCons, wTup, wCall, wListOf, wC2, wIsT, wIsC, wFld, wON, wOS, wSl, wV, wO, wSetIx, wPar, wSwap, wSeqOf, wRng1, wRng2, wFor, wWhile, wYes, wComp, wEnum, wZip, wEnum2, wRgT, wRgL, wAug, dMulT, dMax, wMake, wFz, wCat, wRep, wipeE, D.ty, wIf_true, wIf_false, List.getElem?_cons_zero, List.getElem?_cons_succ, List.set_cons_zero, List.set_cons_succ, dI0_ii, dI_ii, dNeg_i, dGcd_ii, dAbs_i, dInt_i, dInt_b, dBits_i, dLen_t, dLen_l, dTuple_t, dTuple_l, dAdd_ii, dAdd_tt, dAdd_ll, dAdd_ss, dMul_ii, dMul_li, dIs_n, dIs_b, dIsN_n, dRepr_b, rt_0, rt_1, dEq, dNe, dSub, dDiv, dDivU, dMod, dLt, dLe, dGt, dGe, D.isNon, Bool.not_true, Bool.not_false])
            refine ix_rows (by rw [sqe.len]; exact him) (ix_rows (by rw [sqe.len]; exact hk) (ix_rows (by rw [sqe.len]; exact him) ?_))
            rw [r1, r2]
            refine ix_row (by rw [st.sq.row _ him]; exact hk) (ix_rows (by rw [sqe.len]; exact hk) ?_)
            rw [r2]
            refine ix_row (by rw [st.sq.row _ hk]; exact hk) ⟨rfl, _, _, rfl, z1, st.sp, st.p0, rfl, _, _, _, rfl, by rw [st.sq.row _ him, st.sq.row _ hk], by rw [st.sq.row _ him]; omega, z2, fun x hx => ?_, fun y hy => ?_, ?_⟩
            · obtain ⟨j, hj, rfl⟩ := List.getElem_of_mem hx
              have hj' : j < n := by rw [st.sq.row _ him] at hj; exact hj
              have := (z3 j hj').2.1
              unfold ent at this
              rw [List.getD_eq_getElem?_getD, List.getElem?_eq_getElem hj] at this
              exact this
            · obtain ⟨j, hj, rfl⟩ := List.getElem_of_mem hy
              have hj' : j < n := by rw [st.sq.row _ hk] at hj; exact hj
              have h1 := (z3 j hj').1
              have h2 := (z3 j hj').2.2
              have e : ent (swapR M' k h) k j = (rowOf (swapR M' k h) k)[j] := by
                unfold ent
                rw [List.getD_eq_getElem?_getD, List.getElem?_eq_getElem hj]
                rfl
              rw [e] at h1 h2
              exact ⟨h1, h2⟩
            · (try simp only [wSeq, wSet, wSetO, wRet, wIfS, wFrz, wApp, wDrop, wNext, wBreak, wCont, wNever, wVar, wVarB, wC, wBin, wUn, wT, wAnd, wOr, wNot, wAndV, wOrV, wNotV, wIte, wNil, wCons, wTup, wCall, wListOf, wC2, wIsT, wIsC, wFld, wON, wOS, wSl, wV, wO, wSetIx, wPar, wSwap, wSeqOf, wRng1, wRng2, wFor, wWhile, wYes, wComp, wEnum, wZip, wEnum2, wRgT, wRgL, wAug, dMulT, dMax, wMake, wFz, wCat, wRep, wipeE, D.ty, wIf_true, wIf_false, List.getElem?_cons_zero, List.getElem?_cons_succ, List.set_cons_zero, List.set_cons_succ, dI0_ii, dI_ii, dNeg_i, dGcd_ii, dAbs_i, dInt_i, dInt_b, dBits_i, dLen_t, dLen_l, dTuple_t, dTuple_l, dAdd_ii, dAdd_tt, dAdd_ll, dAdd_ss, dMul_ii, dMul_li, dIs_n, dIs_b, dIsN_n, dRepr_b, rt_0, rt_1, dEq, dNe, dSub, dDiv, dDivU, dMod, dLt, dLe, dGt, dGe, D.isNon, Bool.not_true, Bool.not_false])
              rw [rowsD_len, sqe.len, ixN_nat' him]
              refine hnx2 _ _ ⟨rfl, .v (.int (m : Int)), ?_⟩
              have e := elim_set st.sq hkm him
              rw [← e]
              unfold rowsD
              rw [List.map_set]
              rfl
          · rintro env b2 ⟨rfl, s5, rfl⟩
            refine hnx _ _ ⟨rfl, _, _, _, _, _, _, rfl, ?_⟩
            have e : k + 1 + ((List.map (fun (i : Nat) => D.int (i : Int)) ((List.range (n - (k + 1))).map (k + 1 + ·))).length) = n := by simp; omega
            rw [e]
            exact st.nx
        refine dIx_l (j := 0) rfl ?_
        (try simp only [wSeq, wSet, wSetO, wRet, wIfS, wFrz, wApp, wDrop, wNext, wBreak, wCont, wNever, wVar, wVarB, wC, wBin, wUn, wT, wAnd, wOr, wNot, wAndV, wOrV, wNotV, wIte, wNil, wCons, wTup, wCall, wListOf, wC2, wIsT, wIsC, wFld, wON, wOS, wSl, wV, wO, wSetIx, wPar, wSwap, wSeqOf, wRng1, wRng2, wFor, wWhile, wYes, wComp, wEnum, wZip, wEnum2, wRgT, wRgL, wAug, dMulT, dMax, wMake, wFz, wCat, wRep, wipeE, D.ty, wIf_true, wIf_false, List.getElem?_cons_zero, List.getElem?_cons_succ, List.set_cons_zero, List.set_cons_succ, dI0_ii, dI_ii, dNeg_i, dGcd_ii, dAbs_i, dInt_i, dInt_b, dBits_i, dLen_t, dLen_l, dTuple_t, dTuple_l, dAdd_ii, dAdd_tt, dAdd_ll, dAdd_ss, dMul_ii, dMul_li, dIs_n, dIs_b, dIsN_n, dRepr_b, rt_0, rt_1, dEq, dNe, dSub, dDiv, dDivU, dMod, dLt, dLe, dGt, dGe, D.isNon, Bool.not_true, Bool.not_false])
        refine ⟨⟨rfl, rfl⟩, ?_⟩
        rw [eqv_int, ← decide_not]
        refine wIf_dec (fun hne => ?_) (fun he => ?_)
        · refine dIx_l (j := 0) rfl (ix_rows (by rw [hl]; exact g2) (ix_rows (by rw [hl]; exact hk) ?_))
          rw [hrl, ixN_nat' hk]
          (try simp only [wSeq, wSet, wSetO, wRet, wIfS, wFrz, wApp, wDrop, wNext, wBreak, wCont, wNever, wVar, wVarB, wC, wBin, wUn, wT, wAnd, wOr, wNot, wAndV, wOrV, wNotV, wIte, wNil, wCons, wTup, wCall, wListOf, wC2, wIsT, wIsC, wFld, wON, wOS, wSl, wV, wO, wSetIx, wPar, wSwap, wSeqOf, wRng1, wRng2, wFor, wWhile, wYes, wComp, wEnum, wZip, wEnum2, wRgT, wRgL, wAug, dMulT, dMax, wMake, wFz, wCat, wRep, wipeE, D.ty, wIf_true, wIf_false, List.getElem?_cons_zero, List.getElem?_cons_succ, List.set_cons_zero, List.set_cons_succ, dI0_ii, dI_ii, dNeg_i, dGcd_ii, dAbs_i, dInt_i, dInt_b, dBits_i, dLen_t, dLen_l, dTuple_t, dTuple_l, dAdd_ii, dAdd_tt, dAdd_ll, dAdd_ss, dMul_ii, dMul_li, dIs_n, dIs_b, dIsN_n, dRepr_b, rt_0, rt_1, dEq, dNe, dSub, dDiv, dDivU, dMod, dLt, dLe, dGt, dGe, D.isNon, Bool.not_true, Bool.not_false])
          refine dIx_l (j := 0) rfl ?_
          (try simp only [wSeq, wSet, wSetO, wRet, wIfS, wFrz, wApp, wDrop, wNext, wBreak, wCont, wNever, wVar, wVarB, wC, wBin, wUn, wT, wAnd, wOr, wNot, wAndV, wOrV, wNotV, wIte, wNil, wCons, wTup, wCall, wListOf, wC2, wIsT, wIsC, wFld, wON, wOS, wSl, wV, wO, wSetIx, wPar, wSwap, wSeqOf, wRng1, wRng2, wFor, wWhile, wYes, wComp, wEnum, wZip, wEnum2, wRgT, wRgL, wAug, dMulT, dMax, wMake, wFz, wCat, wRep, wipeE, D.ty, wIf_true, wIf_false, List.getElem?_cons_zero, List.getElem?_cons_succ, List.set_cons_zero, List.set_cons_succ, dI0_ii, dI_ii, dNeg_i, dGcd_ii, dAbs_i, dInt_i, dInt_b, dBits_i, dLen_t, dLen_l, dTuple_t, dTuple_l, dAdd_ii, dAdd_tt, dAdd_ll, dAdd_ss, dMul_ii, dMul_li, dIs_n, dIs_b, dIsN_n, dRepr_b, rt_0, rt_1, dEq, dNe, dSub, dDiv, dDivU, dMod, dLt, dLe, dGt, dGe, D.isNon, Bool.not_true, Bool.not_false])
          rw [ixN_nat' g2]
          refine ⟨rfl, _, rfl, ?_⟩
          have hne' : ¬ h = k := by omega
          have e : ((rowsD M').set k (rowD (rowOf M' h))).set h (rowD (rowOf M' k)) = rowsD (swapR M' k h) := by
            unfold rowsD swapR
            rw [if_neg hne', List.map_set, List.map_set]
          have := rest (Slot.v (D.lst (D.int (h : Int) :: t.map fun (i : Nat) => D.int (i : Int))))
          rw [if_neg hne'] at this
          rw [e]
          exact this
        · have he' : h = k := by omega
          subst he'
          have := rest (Slot.v (D.lst (D.int (h : Int) :: t.map fun (i : Nat) => D.int (i : Int))))
          unfold swapR at this
          rw [if_pos rfl, if_pos rfl] at this
          exact this
  · rintro env b' ⟨rfl, M', out, s3, s4, s5, s6, rfl, ds⟩
    (try simp only [wSeq, wSet, wSetO, wRet, wIfS, wFrz, wApp, wDrop, wNext, wBreak, wCont, wNever, wVar, wVarB, wC, wBin, wUn, wT, wAnd, wOr, wNot, wAndV, wOrV, wNotV, wIte, wNil, wCons, wTup, wCall, wListOf, wC2, wIsT, wIsC, wFld, wON, wOS, wSl, wV, wO, wSetIx, wPar, wSwap, wSeqOf, wRng1, wRng2, wFor, wWhile, wYes, wComp, wEnum, wZip, wEnum2, wRgT, wRgL, wAug, dMulT, dMax, wMake, wFz, wCat, wRep, wipeE, D.ty, wIf_true, wIf_false, List.getElem?_cons_zero, List.getElem?_cons_succ, List.set_cons_zero, List.set_cons_succ, dI0_ii, dI_ii, dNeg_i, dGcd_ii, dAbs_i, dInt_i, dInt_b, dBits_i, dLen_t, dLen_l, dTuple_t, dTuple_l, dAdd_ii, dAdd_tt, dAdd_ll, dAdd_ss, dMul_ii, dMul_li, dIs_n, dIs_b, dIsN_n, dRepr_b, rt_0, rt_1, dEq, dNe, dSub, dDiv, dDivU, dMod, dLt, dLe, dGt, dGe, D.isNon, Bool.not_true, Bool.not_false])
    rw [show (List.map (fun (i : Nat) => D.int (i : Int)) ((List.range n).map (0 + ·))).length = n by simp] at ds
    have := ds.fin
    subst this
    exact q
theorem hp__law_determinantT : ∀ ds b Q, ds.length = 1 → p_determinant_by ds b Q → W__law_determinant { nx := fun _ b' => Q .non b', rt := Q } (ds.map Slot.v ++ List.replicate 9 .un) b := by
  rintro ds b Q - ⟨M, rfl, hM, q⟩
  show W__law_determinant _ [.v (tabD M), .un, .un, .un, .un, .un, .un, .un, .un, .un] b
  have hs := hM.ds
  have hlen := hM.2.1
  generalize detR M = R at q hs
  generalize hn : M.length = n at hs hlen
  (try simp only [wSeq, wSet, wSetO, wRet, wIfS, wFrz, wApp, wDrop, wNext, wBreak, wCont, wNever, wVar, wVarB, wC, wBin, wUn, wT, wAnd, wOr, wNot, wAndV, wOrV, wNotV, wIte, wNil, wCons, wTup, wCall, wListOf, wC2, wIsT, wIsC, wFld, wON, wOS, wSl, wV, wO, wSetIx, wPar, wSwap, wSeqOf, wRng1, wRng2, wFor, wWhile, wYes, wComp, wEnum, wZip, wEnum2, wRgT, wRgL, wAug, dMulT, dMax, wMake, wFz, wCat, wRep, wipeE, D.ty, wIf_true, wIf_false, List.getElem?_cons_zero, List.getElem?_cons_succ, List.set_cons_zero, List.set_cons_succ, dI0_ii, dI_ii, dNeg_i, dGcd_ii, dAbs_i, dInt_i, dInt_b, dBits_i, dLen_t, dLen_l, dTuple_t, dTuple_l, dAdd_ii, dAdd_tt, dAdd_ll, dAdd_ss, dMul_ii, dMul_li, dIs_n, dIs_b, dIsN_n, dRepr_b, rt_0, rt_1, dEq, dNe, dSub, dDiv, dDivU, dMod, dLt, dLe, dGt, dGe, D.isNon, Bool.not_true, Bool.not_false, W__law_determinant])
  refine ⟨by rw [List.length_map]; omega, cmp_at (fun r : List Rat => D.tup (r.map rt)) rowD M _ (fun r hr => ⟨_, rfl, fun K k => by (try simp only [wSeq, wSet, wSetO, wRet, wIfS, wFrz, wApp, wDrop, wNext, wBreak, wCont, wNever, wVar, wVarB, wC, wBin, wUn, wT, wAnd, wOr, wNot, wAndV, wOrV, wNotV, wIte, wNil, wCons, wTup, wCall, wListOf, wC2, wIsT, wIsC, wFld, wON, wOS, wSl, wV, wO, wSetIx, wPar, wSwap, wSeqOf, wRng1, wRng2, wFor, wWhile, wYes, wComp, wEnum, wZip, wEnum2, wRgT, wRgL, wAug, dMulT, dMax, wMake, wFz, wCat, wRep, wipeE, D.ty, wIf_true, wIf_false, List.getElem?_cons_zero, List.getElem?_cons_succ, List.set_cons_zero, List.set_cons_succ, dI0_ii, dI_ii, dNeg_i, dGcd_ii, dAbs_i, dInt_i, dInt_b, dBits_i, dLen_t, dLen_l, dTuple_t, dTuple_l, dAdd_ii, dAdd_tt, dAdd_ll, dAdd_ss, dMul_ii, dMul_li, dIs_n, dIs_b, dIsN_n, dRepr_b, rt_0, rt_1, dEq, dNe, dSub, dDiv, dDivU, dMod, dLt, dLe, dGt, dGe, D.isNon, Bool.not_true, Bool.not_false]); exact k⟩) ?_⟩
  rw [show (M.map rowD).length = n by rw [List.length_map]; exact hn]
  refine ⟨⟨by omega, by omega⟩, ?_⟩
  rw [show rangeD 0 ((n : Nat) : Int).toNat = rangeD ((0 : Nat) : Int) n by rw [Int.toNat_natCast]; rfl, rangeD_nat]
  refine for_rule (I := fun i env b' => b' = b ∧ ∃ (M' : List (List Rat)) (out : Rat) (s3 s4 s5 s6 s7 s8 s9 : Slot), env = [.v (tabD M), .own (rowsD M'), .v (rt out), s3, s4, s5, s6, s7, s8, s9] ∧ DS n i M' out R) ?_ ?_ _ _ ⟨rfl, M, 1, _, _, _, _, _, _, _, rfl, hs⟩
  · rintro k d env b' E' hd ⟨rfl, M', out, s3, s4, s5, s6, s7, s8, s9, rfl, ds⟩ hnx hct hbk hrt
    have hk : k < n := by
      have := (List.getElem?_eq_some_iff.mp hd).1
      simpa using this
    have ed : d = .int ((k : Nat) : Int) := by
      rw [List.getElem?_map, List.getElem?_map, List.getElem?_range (by simpa using hk)] at hd
      simp at hd
      exact hd.symm
    subst ed
    have hl : M'.length = n := ds.sq.len
    refine ⟨_, rfl, ?_⟩
    (try simp only [wSeq, wSet, wSetO, wRet, wIfS, wFrz, wApp, wDrop, wNext, wBreak, wCont, wNever, wVar, wVarB, wC, wBin, wUn, wT, wAnd, wOr, wNot, wAndV, wOrV, wNotV, wIte, wNil, wCons, wTup, wCall, wListOf, wC2, wIsT, wIsC, wFld, wON, wOS, wSl, wV, wO, wSetIx, wPar, wSwap, wSeqOf, wRng1, wRng2, wFor, wWhile, wYes, wComp, wEnum, wZip, wEnum2, wRgT, wRgL, wAug, dMulT, dMax, wMake, wFz, wCat, wRep, wipeE, D.ty, wIf_true, wIf_false, List.getElem?_cons_zero, List.getElem?_cons_succ, List.set_cons_zero, List.set_cons_succ, dI0_ii, dI_ii, dNeg_i, dGcd_ii, dAbs_i, dInt_i, dInt_b, dBits_i, dLen_t, dLen_l, dTuple_t, dTuple_l, dAdd_ii, dAdd_tt, dAdd_ll, dAdd_ss, dMul_ii, dMul_li, dIs_n, dIs_b, dIsN_n, dRepr_b, rt_0, rt_1, dEq, dNe, dSub, dDiv, dDivU, dMod, dLt, dLe, dGt, dGe, D.isNon, Bool.not_true, Bool.not_false])
    have hrl : (rowsD M').length = n := by rw [rowsD_len]; exact hl
    refine ⟨⟨by omega, by omega, by omega, by omega⟩, by rw [rangeD_len]; omega, ?_⟩
    rw [show rangeD (k : Int) (((rowsD M').length : Int) - (k : Int)).toNat = ((List.range (n - k)).map (k + ·)).map fun (i : Nat) => D.int (i : Int) by rw [hrl]; exact cut_rng (Nat.le_of_lt hk)]
    refine cmp_filter _ (fun (i : Nat) => D.int (i : Int)) (fun i => decide (ent M' i k ≠ 0)) _ _ (fun x hx => ⟨_, rfl, fun K hK => ?_, fun K hK => by (try simp only [wSeq, wSet, wSetO, wRet, wIfS, wFrz, wApp, wDrop, wNext, wBreak, wCont, wNever, wVar, wVarB, wC, wBin, wUn, wT, wAnd, wOr, wNot, wAndV, wOrV, wNotV, wIte, wNil, wCons, wTup, wCall, wListOf, wC2, wIsT, wIsC, wFld, wON, wOS, wSl, wV, wO, wSetIx, wPar, wSwap, wSeqOf, wRng1, wRng2, wFor, wWhile, wYes, wComp, wEnum, wZip, wEnum2, wRgT, wRgL, wAug, dMulT, dMax, wMake, wFz, wCat, wRep, wipeE, D.ty, wIf_true, wIf_false, List.getElem?_cons_zero, List.getElem?_cons_succ, List.set_cons_zero, List.set_cons_succ, dI0_ii, dI_ii, dNeg_i, dGcd_ii, dAbs_i, dInt_i, dInt_b, dBits_i, dLen_t, dLen_l, dTuple_t, dTuple_l, dAdd_ii, dAdd_tt, dAdd_ll, dAdd_ss, dMul_ii, dMul_li, dIs_n, dIs_b, dIsN_n, dRepr_b, rt_0, rt_1, dEq, dNe, dSub, dDiv, dDivU, dMod, dLt, dLe, dGt, dGe, D.isNon, Bool.not_true, Bool.not_false]); exact hK⟩) ?_
    · obtain ⟨j, hj, rfl⟩ := List.mem_map.mp hx
      rw [List.mem_range] at hj
      (try simp only [wSeq, wSet, wSetO, wRet, wIfS, wFrz, wApp, wDrop, wNext, wBreak, wCont, wNever, wVar, wVarB, wC, wBin, wUn, wT, wAnd, wOr, wNot, wAndV, wOrV, wNotV, wIte, wNil, wCons, wTup, wCall, wListOf, wC2, wIsT, wIsC, wFld, wON, wOS, wSl, wV, wO, wSetIx, wPar, wSwap, wSeqOf, wRng1, wRng2, wFor, wWhile, wYes, wComp, wEnum, wZip, wEnum2, wRgT, wRgL, wAug, dMulT, dMax, wMake, wFz, wCat, wRep, wipeE, D.ty, wIf_true, wIf_false, List.getElem?_cons_zero, List.getElem?_cons_succ, List.set_cons_zero, List.set_cons_succ, dI0_ii, dI_ii, dNeg_i, dGcd_ii, dAbs_i, dInt_i, dInt_b, dBits_i, dLen_t, dLen_l, dTuple_t, dTuple_l, dAdd_ii, dAdd_tt, dAdd_ll, dAdd_ss, dMul_ii, dMul_li, dIs_n, dIs_b, dIsN_n, dRepr_b, rt_0, rt_1, dEq, dNe, dSub, dDiv, dDivU, dMod, dLt, dLe, dGt, dGe, D.isNon, Bool.not_true, Bool.not_false])
      refine ix_rows (by rw [hl]; omega) (ix_row (by rw [ds.sq.row _ (by omega)]; omega) ?_)
      (try simp only [wSeq, wSet, wSetO, wRet, wIfS, wFrz, wApp, wDrop, wNext, wBreak, wCont, wNever, wVar, wVarB, wC, wBin, wUn, wT, wAnd, wOr, wNot, wAndV, wOrV, wNotV, wIte, wNil, wCons, wTup, wCall, wListOf, wC2, wIsT, wIsC, wFld, wON, wOS, wSl, wV, wO, wSetIx, wPar, wSwap, wSeqOf, wRng1, wRng2, wFor, wWhile, wYes, wComp, wEnum, wZip, wEnum2, wRgT, wRgL, wAug, dMulT, dMax, wMake, wFz, wCat, wRep, wipeE, D.ty, wIf_true, wIf_false, List.getElem?_cons_zero, List.getElem?_cons_succ, List.set_cons_zero, List.set_cons_succ, dI0_ii, dI_ii, dNeg_i, dGcd_ii, dAbs_i, dInt_i, dInt_b, dBits_i, dLen_t, dLen_l, dTuple_t, dTuple_l, dAdd_ii, dAdd_tt, dAdd_ll, dAdd_ss, dMul_ii, dMul_li, dIs_n, dIs_b, dIsN_n, dRepr_b, rt_0, rt_1, dEq, dNe, dSub, dDiv, dDivU, dMod, dLt, dLe, dGt, dGe, D.isNon, Bool.not_true, Bool.not_false])
      refine ⟨⟨rfl, rfl⟩, ?_⟩
      rw [eqv_int, ← decide_not]
      have e : decide (¬ ((rowOf M' (k + j)).getD k 0).num = 0) = decide (ent M' (k + j) k ≠ 0) := by
        refine decide_eq_decide.mpr ?_
        show ¬ (ent M' (k + j) k).num = 0 ↔ ¬ ent M' (k + j) k = 0
        rw [Rat.num_eq_zero]
      rw [e]
      exact hK
    · rw [show ((List.range (n - k)).map (k + ·)).filter (fun i => decide (ent M' i k ≠ 0)) = heads M' k by unfold heads; rw [hl]]
      (try simp only [wSeq, wSet, wSetO, wRet, wIfS, wFrz, wApp, wDrop, wNext, wBreak, wCont, wNever, wVar, wVarB, wC, wBin, wUn, wT, wAnd, wOr, wNot, wAndV, wOrV, wNotV, wIte, wNil, wCons, wTup, wCall, wListOf, wC2, wIsT, wIsC, wFld, wON, wOS, wSl, wV, wO, wSetIx, wPar, wSwap, wSeqOf, wRng1, wRng2, wFor, wWhile, wYes, wComp, wEnum, wZip, wEnum2, wRgT, wRgL, wAug, dMulT, dMax, wMake, wFz, wCat, wRep, wipeE, D.ty, wIf_true, wIf_false, List.getElem?_cons_zero, List.getElem?_cons_succ, List.set_cons_zero, List.set_cons_succ, dI0_ii, dI_ii, dNeg_i, dGcd_ii, dAbs_i, dInt_i, dInt_b, dBits_i, dLen_t, dLen_l, dTuple_t, dTuple_l, dAdd_ii, dAdd_tt, dAdd_ll, dAdd_ss, dMul_ii, dMul_li, dIs_n, dIs_b, dIsN_n, dRepr_b, rt_0, rt_1, dEq, dNe, dSub, dDiv, dDivU, dMod, dLt, dLe, dGt, dGe, D.isNon, Bool.not_true, Bool.not_false])
      have hfl : ∀ l : List Nat, (D.lst (l.map fun (i : Nat) => D.int (i : Int))).flat 9 = true := fun l => by
        show D.flats 8 _ = true
        induction l with
        | nil => rfl
        | cons a r ih => exact ih
      have heq : ∀ l : List Nat, PyData.eqv (D.lst (l.map fun (i : Nat) => D.int (i : Int))).py (D.lst []).py = decide (l = []) := fun l => by
        cases l with
        | nil => rfl
        | cons a r => simp [D.py, D.pys, PyData.eqv, PyData.eqvAll]
      refine ⟨⟨hfl _, rfl⟩, ?_⟩
      rw [heq]
      refine wIf_dec (fun h0 => ?_) (fun h0 => ?_)
      · have hh : heads M' k = [] := h0
        rw [hrt]
        have := ds.nil hk hh
        subst this
        exact q
      · obtain ⟨h, t, hh⟩ : ∃ h t, heads M' k = h :: t := by
          cases e : heads M' k with
          | nil => exact absurd e h0
          | cons a r => exact ⟨a, r, rfl⟩
        obtain ⟨g1, g2, st⟩ := ds.step hk hh
        rw [hh, List.map_cons]
        -- the rest, from the swapped rows on
        have rest : ∀ (s4 : Slot), (wSeq (wSet 2 (wCall 2 p__law_times (wCons (wVar 2) (wCons (wBin dIx (wBin dIx (wVarB 1) (wVarB 3)) (wVarB 3)) wNil)))) (wFor (.one 5) (wRng2 (wCons (wBin dAdd (wVarB 3) (wC (.int 1))) (wCons (wUn dLen (wVarB 1)) wNil))) (wSeq (wSet 6 (wCall 2 p__law_share (wCons (wBin dIx (wBin dIx (wVarB 1) (wVarB 5)) (wVarB 3)) (wCons (wBin dIx (wBin dIx (wVarB 1) (wVarB 3)) (wVarB 3)) wNil)))) (wSetIx 1 (wFz (wComp [8, 9] (.tup [8, 9]) (wZip (wCons (wBin dIx (wVarB 1) (wVarB 5)) (wCons (wBin dIx (wVarB 1) (wVarB 3)) wNil))) wYes (wCall 2 p__law_minus (wCons (wVar 8) (wCons (wCall 2 p__law_times (wCons (wVar 6) (wCons (wVar 9) wNil))) wNil))))) (wVar 5)))))
            E' [.v (tabD M), .own (rowsD (swapR M' k h)), .v (rt (if h = k then out else -out)), .v (.int (k : Int)), s4, s5, s6, s7, s8, s9] b' := by
          intro s4
          have hl1 := st.sq.len
          (try simp only [wSeq, wSet, wSetO, wRet, wIfS, wFrz, wApp, wDrop, wNext, wBreak, wCont, wNever, wVar, wVarB, wC, wBin, wUn, wT, wAnd, wOr, wNot, wAndV, wOrV, wNotV, wIte, wNil, wCons, wTup, wCall, wListOf, wC2, wIsT, wIsC, wFld, wON, wOS, wSl, wV, wO, wSetIx, wPar, wSwap, wSeqOf, wRng1, wRng2, wFor, wWhile, wYes, wComp, wEnum, wZip, wEnum2, wRgT, wRgL, wAug, dMulT, dMax, wMake, wFz, wCat, wRep, wipeE, D.ty, wIf_true, wIf_false, List.getElem?_cons_zero, List.getElem?_cons_succ, List.set_cons_zero, List.set_cons_succ, dI0_ii, dI_ii, dNeg_i, dGcd_ii, dAbs_i, dInt_i, dInt_b, dBits_i, dLen_t, dLen_l, dTuple_t, dTuple_l, dAdd_ii, dAdd_tt, dAdd_ll, dAdd_ss, dMul_ii, dMul_li, dIs_n, dIs_b, dIsN_n, dRepr_b, rt_0, rt_1, dEq, dNe, dSub, dDiv, dDivU, dMod, dLt, dLe, dGt, dGe, D.isNon, Bool.not_true, Bool.not_false])
          refine ix_rows (by rw [hl1]; exact hk) (ix_row (by rw [st.sq.row _ hk]; exact hk) ?_)
          refine ⟨rfl, _, _, rfl, st.so, st.sp, trivial, ?_⟩
          rw [rowsD_len, hl1]
          refine ⟨⟨by omega, by omega, by omega, by omega⟩, ?_⟩
          rw [show ((k : Int) + 1) = ((k + 1 : Nat) : Int) by omega, cut_rng hk]
          refine for_rule (I := fun i env b2 => b2 = b' ∧ ∃ (s5 s6 : Slot), env = [.v (tabD M), .own (rowsD (elimR (swapR M' k h) k (k + 1 + i))), .v (rt ((if h = k then out else -out) * ent (swapR M' k h) k k)), .v (.int (k : Int)), s4, s5, s6, s7, s8, s9]) ?_ ?_ _ _ ⟨rfl, s5, s6, by rw [Nat.add_zero, elim_none]; rfl⟩
          · rintro i d env b2 E2 hd ⟨rfl, s5, s6, rfl⟩ hnx2 hct2 hbk2 hrt2
            have hi : i < n - (k + 1) := by
              have := (List.getElem?_eq_some_iff.mp hd).1
              simpa using this
            have ed : d = .int ((k + 1 + i : Nat) : Int) := by
              rw [List.getElem?_map, List.getElem?_map, List.getElem?_range (by simpa using hi)] at hd
              simp at hd
              exact hd.symm
            subst ed
            have him : k + 1 + i < n := by omega
            have hmm : k + 1 + (i + 1) = k + 1 + i + 1 := by omega
            rw [hmm] at hnx2
            have hkm : k < k + 1 + i := by omega
            generalize k + 1 + i = m at him hnx2 hkm
            refine ⟨_, rfl, ?_⟩
            have sqe := elim_sq (m := m) st.sq hk
            have r1 : rowOf (elimR (swapR M' k h) k m) m = rowOf (swapR M' k h) m := by rw [elim_row st.sq him, if_neg (by omega)]
            have r2 : rowOf (elimR (swapR M' k h) k m) k = rowOf (swapR M' k h) k := by rw [elim_row st.sq hk, if_neg (by omega)]
            obtain ⟨z1, z2, z3⟩ := st.el m hkm him
            (try simp only [wSeq, wSet, wSetO, wRet, wIfS, wFrz, wApp, wDrop, wNext, wBreak, wCont, wNever, wVar, wVarB, wC, wBin, wUn, wT, wAnd, wOr, wNot, wAndV, wOrV, wNotV, wIte, wNil, wCons, wTup, wCall, wListOf, wC2, wIsT, wIsC, wFld, wON, wOS, wSl, wV, wO, wSetIx, wPar, wSwap, wSeqOf, wRng1, wRng2, wFor, wWhile, wYes, wComp, wEnum, wZip, wEnum2, wRgT, wRgL, wAug, dMulT, dMax, wMake, wFz, wCat, wRep, wipeE, D.ty, wIf_true, wIf_false, List.getElem?_cons_zero, List.getElem?_cons_succ, List.set_cons_zero, List.set_cons_succ, dI0_ii, dI_ii, dNeg_i, dGcd_ii, dAbs_i, dInt_i, dInt_b, dBits_i, dLen_t, dLen_l, dTuple_t, dTuple_l, dAdd_ii, dAdd_tt, dAdd_ll, dAdd_ss, dMul_ii, dMul_li, dIs_n, dIs_b, dIsN_n, dRepr_b, rt_0, rt_1, dEq, dNe, dSub, dDiv, dDivU, dMod, dLt, dLe, dGt, dGe, D.isNon, Bool.not_true, Bool.not_false])
            refine ix_rows (by rw [sqe.len]; exact him) ?_
            rw [r1]
            refine ix_row (by rw [st.sq.row _ him]; exact hk) (ix_rows (by rw [sqe.len]; exact hk) ?_)
            rw [r2]
            refine ix_row (by rw [st.sq.row _ hk]; exact hk) ⟨rfl, _, _, rfl, z1, st.sp, st.p0, ?_⟩
            refine ix_rows (by rw [sqe.len]; exact him) (ix_rows (by rw [sqe.len]; exact hk) ?_)
            rw [r1, r2]
            (try simp only [wSeq, wSet, wSetO, wRet, wIfS, wFrz, wApp, wDrop, wNext, wBreak, wCont, wNever, wVar, wVarB, wC, wBin, wUn, wT, wAnd, wOr, wNot, wAndV, wOrV, wNotV, wIte, wNil, wCons, wTup, wCall, wListOf, wC2, wIsT, wIsC, wFld, wON, wOS, wSl, wV, wO, wSetIx, wPar, wSwap, wSeqOf, wRng1, wRng2, wFor, wWhile, wYes, wComp, wEnum, wZip, wEnum2, wRgT, wRgL, wAug, dMulT, dMax, wMake, wFz, wCat, wRep, wipeE, D.ty, wIf_true, wIf_false, List.getElem?_cons_zero, List.getElem?_cons_succ, List.set_cons_zero, List.set_cons_succ, dI0_ii, dI_ii, dNeg_i, dGcd_ii, dAbs_i, dInt_i, dInt_b, dBits_i, dLen_t, dLen_l, dTuple_t, dTuple_l, dAdd_ii, dAdd_tt, dAdd_ll, dAdd_ss, dMul_ii, dMul_li, dIs_n, dIs_b, dIsN_n, dRepr_b, rt_0, rt_1, dEq, dNe, dSub, dDiv, dDivU, dMod, dLt, dLe, dGt, dGe, D.isNon, Bool.not_true, Bool.not_false, rowD])
            rw [zipD_rt]
            refine ⟨by rw [List.length_map, List.length_zip, st.sq.row _ him]; omega, cmp_at _ (fun q => rt (q.1 - ent (swapR M' k h) m k / ent (swapR M' k h) k k * q.2)) _ _ (fun p hp => ⟨_, rfl, fun K kk => ?_⟩) ?_⟩
            · (try simp only [wSeq, wSet, wSetO, wRet, wIfS, wFrz, wApp, wDrop, wNext, wBreak, wCont, wNever, wVar, wVarB, wC, wBin, wUn, wT, wAnd, wOr, wNot, wAndV, wOrV, wNotV, wIte, wNil, wCons, wTup, wCall, wListOf, wC2, wIsT, wIsC, wFld, wON, wOS, wSl, wV, wO, wSetIx, wPar, wSwap, wSeqOf, wRng1, wRng2, wFor, wWhile, wYes, wComp, wEnum, wZip, wEnum2, wRgT, wRgL, wAug, dMulT, dMax, wMake, wFz, wCat, wRep, wipeE, D.ty, wIf_true, wIf_false, List.getElem?_cons_zero, List.getElem?_cons_succ, List.set_cons_zero, List.set_cons_succ, dI0_ii, dI_ii, dNeg_i, dGcd_ii, dAbs_i, dInt_i, dInt_b, dBits_i, dLen_t, dLen_l, dTuple_t, dTuple_l, dAdd_ii, dAdd_tt, dAdd_ll, dAdd_ss, dMul_ii, dMul_li, dIs_n, dIs_b, dIsN_n, dRepr_b, rt_0, rt_1, dEq, dNe, dSub, dDiv, dDivU, dMod, dLt, dLe, dGt, dGe, D.isNon, Bool.not_true, Bool.not_false])
              have hp' := List.of_mem_zip (show (p.1, p.2) ∈ (rowOf (swapR M' k h) m).zip (rowOf (swapR M' k h) k) from hp)
              have hx : Sz p.1 := by
                obtain ⟨j, hj, e⟩ := List.getElem_of_mem hp'.1
                have hj' : j < n := by rw [st.sq.row _ him] at hj; exact hj
                have := (z3 j hj').2.1
                unfold ent at this
                rw [List.getD_eq_getElem?_getD, List.getElem?_eq_getElem hj, e] at this
                exact this
              have hy : Sz p.2 ∧ Sz (ent (swapR M' k h) m k / ent (swapR M' k h) k k * p.2) := by
                obtain ⟨j, hj, e⟩ := List.getElem_of_mem hp'.2
                have hj' : j < n := by rw [st.sq.row _ hk] at hj; exact hj
                have h1 := (z3 j hj').1
                have h2 := (z3 j hj').2.2
                have e2 : ent (swapR M' k h) k j = p.2 := by
                  unfold ent
                  rw [List.getD_eq_getElem?_getD, List.getElem?_eq_getElem hj, e]
                  rfl
                rw [e2] at h1 h2
                exact ⟨h1, h2⟩
              exact ⟨rfl, _, _, rfl, z2, hy.1, trivial, rfl, _, _, rfl, hx, hy.2, trivial, kk⟩
            · (try simp only [wSeq, wSet, wSetO, wRet, wIfS, wFrz, wApp, wDrop, wNext, wBreak, wCont, wNever, wVar, wVarB, wC, wBin, wUn, wT, wAnd, wOr, wNot, wAndV, wOrV, wNotV, wIte, wNil, wCons, wTup, wCall, wListOf, wC2, wIsT, wIsC, wFld, wON, wOS, wSl, wV, wO, wSetIx, wPar, wSwap, wSeqOf, wRng1, wRng2, wFor, wWhile, wYes, wComp, wEnum, wZip, wEnum2, wRgT, wRgL, wAug, dMulT, dMax, wMake, wFz, wCat, wRep, wipeE, D.ty, wIf_true, wIf_false, List.getElem?_cons_zero, List.getElem?_cons_succ, List.set_cons_zero, List.set_cons_succ, dI0_ii, dI_ii, dNeg_i, dGcd_ii, dAbs_i, dInt_i, dInt_b, dBits_i, dLen_t, dLen_l, dTuple_t, dTuple_l, dAdd_ii, dAdd_tt, dAdd_ll, dAdd_ss, dMul_ii, dMul_li, dIs_n, dIs_b, dIsN_n, dRepr_b, rt_0, rt_1, dEq, dNe, dSub, dDiv, dDivU, dMod, dLt, dLe, dGt, dGe, D.isNon, Bool.not_true, Bool.not_false])
              rw [rowsD_len, sqe.len, ixN_nat' him]
              refine hnx2 _ _ ⟨rfl, .v (.int (m : Int)), .v (rt (ent (swapR M' k h) m k / ent (swapR M' k h) k k)), ?_⟩
              have e := elim_set st.sq hkm him
              have e3 : ((rowOf (swapR M' k h) m).zip (rowOf (swapR M' k h) k)).map (fun q => rt (q.1 - ent (swapR M' k h) m k / ent (swapR M' k h) k k * q.2)) = (zipSub (rowOf (swapR M' k h) m) (rowOf (swapR M' k h) k) (ent (swapR M' k h) m k / ent (swapR M' k h) k k)).map rt := by
                unfold zipSub
                rw [List.map_map]
                rfl
              rw [e3, ← e]
              unfold rowsD
              rw [List.map_set]
              rfl
          · rintro env b2 ⟨rfl, s5, s6, rfl⟩
            refine hnx _ _ ⟨rfl, _, _, _, _, _, _, _, _, _, rfl, ?_⟩
            have e : k + 1 + ((List.map (fun (i : Nat) => D.int (i : Int)) ((List.range (n - (k + 1))).map (k + 1 + ·))).length) = n := by simp; omega
            rw [e]
            exact st.nx
        refine dIx_l (j := 0) rfl ?_
        (try simp only [wSeq, wSet, wSetO, wRet, wIfS, wFrz, wApp, wDrop, wNext, wBreak, wCont, wNever, wVar, wVarB, wC, wBin, wUn, wT, wAnd, wOr, wNot, wAndV, wOrV, wNotV, wIte, wNil, wCons, wTup, wCall, wListOf, wC2, wIsT, wIsC, wFld, wON, wOS, wSl, wV, wO, wSetIx, wPar, wSwap, wSeqOf, wRng1, wRng2, wFor, wWhile, wYes, wComp, wEnum, wZip, wEnum2, wRgT, wRgL, wAug, dMulT, dMax, wMake, wFz, wCat, wRep, wipeE, D.ty, wIf_true, wIf_false, List.getElem?_cons_zero, List.getElem?_cons_succ, List.set_cons_zero, List.set_cons_succ, dI0_ii, dI_ii, dNeg_i, dGcd_ii, dAbs_i, dInt_i, dInt_b, dBits_i, dLen_t, dLen_l, dTuple_t, dTuple_l, dAdd_ii, dAdd_tt, dAdd_ll, dAdd_ss, dMul_ii, dMul_li, dIs_n, dIs_b, dIsN_n, dRepr_b, rt_0, rt_1, dEq, dNe, dSub, dDiv, dDivU, dMod, dLt, dLe, dGt, dGe, D.isNon, Bool.not_true, Bool.not_false])
        refine ⟨⟨rfl, rfl⟩, ?_⟩
        rw [eqv_int, ← decide_not]
        refine wIf_dec (fun hne => ?_) (fun he => ?_)
        · refine dIx_l (j := 0) rfl (ix_rows (by rw [hl]; exact g2) (ix_rows (by rw [hl]; exact hk) ?_))
          rw [hrl, ixN_nat' hk]
          (try simp only [wSeq, wSet, wSetO, wRet, wIfS, wFrz, wApp, wDrop, wNext, wBreak, wCont, wNever, wVar, wVarB, wC, wBin, wUn, wT, wAnd, wOr, wNot, wAndV, wOrV, wNotV, wIte, wNil, wCons, wTup, wCall, wListOf, wC2, wIsT, wIsC, wFld, wON, wOS, wSl, wV, wO, wSetIx, wPar, wSwap, wSeqOf, wRng1, wRng2, wFor, wWhile, wYes, wComp, wEnum, wZip, wEnum2, wRgT, wRgL, wAug, dMulT, dMax, wMake, wFz, wCat, wRep, wipeE, D.ty, wIf_true, wIf_false, List.getElem?_cons_zero, List.getElem?_cons_succ, List.set_cons_zero, List.set_cons_succ, dI0_ii, dI_ii, dNeg_i, dGcd_ii, dAbs_i, dInt_i, dInt_b, dBits_i, dLen_t, dLen_l, dTuple_t, dTuple_l, dAdd_ii, dAdd_tt, dAdd_ll, dAdd_ss, dMul_ii, dMul_li, dIs_n, dIs_b, dIsN_n, dRepr_b, rt_0, rt_1, dEq, dNe, dSub, dDiv, dDivU, dMod, dLt, dLe, dGt, dGe, D.isNon, Bool.not_true, Bool.not_false])
          refine dIx_l (j := 0) rfl ?_
          (try simp only [wSeq, wSet, wSetO, wRet, wIfS, wFrz, wApp, wDrop, wNext, wBreak, wCont, wNever, wVar, wVarB, wC, wBin, wUn, wT, wAnd, wOr, wNot, wAndV, wOrV, wNotV, wIte, wNil, wCons, wTup, wCall, wListOf, wC2, wIsT, wIsC, wFld, wON, wOS, wSl, wV, wO, wSetIx, wPar, wSwap, wSeqOf, wRng1, wRng2, wFor, wWhile, wYes, wComp, wEnum, wZip, wEnum2, wRgT, wRgL, wAug, dMulT, dMax, wMake, wFz, wCat, wRep, wipeE, D.ty, wIf_true, wIf_false, List.getElem?_cons_zero, List.getElem?_cons_succ, List.set_cons_zero, List.set_cons_succ, dI0_ii, dI_ii, dNeg_i, dGcd_ii, dAbs_i, dInt_i, dInt_b, dBits_i, dLen_t, dLen_l, dTuple_t, dTuple_l, dAdd_ii, dAdd_tt, dAdd_ll, dAdd_ss, dMul_ii, dMul_li, dIs_n, dIs_b, dIsN_n, dRepr_b, rt_0, rt_1, dEq, dNe, dSub, dDiv, dDivU, dMod, dLt, dLe, dGt, dGe, D.isNon, Bool.not_true, Bool.not_false])
          rw [ixN_nat' g2]
          refine ⟨rfl, 0, out, rfl, sz_zero, ds.szo, trivial, ?_⟩
          have hne' : ¬ h = k := by omega
          have e : ((rowsD M').set k (rowD (rowOf M' h))).set h (rowD (rowOf M' k)) = rowsD (swapR M' k h) := by
            unfold rowsD swapR
            rw [if_neg hne', List.map_set, List.map_set]
          have := rest (Slot.v (D.lst (D.int (h : Int) :: t.map fun (i : Nat) => D.int (i : Int))))
          rw [if_neg hne'] at this
          dsimp only
          rw [e, show (0 : Rat) - out = -out by grind]
          exact this
        · have he' : h = k := by omega
          subst he'
          have := rest (Slot.v (D.lst (D.int (h : Int) :: t.map fun (i : Nat) => D.int (i : Int))))
          unfold swapR at this
          rw [if_pos rfl, if_pos rfl] at this
          exact this
  · rintro env b' ⟨rfl, M', out, s3, s4, s5, s6, s7, s8, s9, rfl, ds⟩
    (try simp only [wSeq, wSet, wSetO, wRet, wIfS, wFrz, wApp, wDrop, wNext, wBreak, wCont, wNever, wVar, wVarB, wC, wBin, wUn, wT, wAnd, wOr, wNot, wAndV, wOrV, wNotV, wIte, wNil, wCons, wTup, wCall, wListOf, wC2, wIsT, wIsC, wFld, wON, wOS, wSl, wV, wO, wSetIx, wPar, wSwap, wSeqOf, wRng1, wRng2, wFor, wWhile, wYes, wComp, wEnum, wZip, wEnum2, wRgT, wRgL, wAug, dMulT, dMax, wMake, wFz, wCat, wRep, wipeE, D.ty, wIf_true, wIf_false, List.getElem?_cons_zero, List.getElem?_cons_succ, List.set_cons_zero, List.set_cons_succ, dI0_ii, dI_ii, dNeg_i, dGcd_ii, dAbs_i, dInt_i, dInt_b, dBits_i, dLen_t, dLen_l, dTuple_t, dTuple_l, dAdd_ii, dAdd_tt, dAdd_ll, dAdd_ss, dMul_ii, dMul_li, dIs_n, dIs_b, dIsN_n, dRepr_b, rt_0, rt_1, dEq, dNe, dSub, dDiv, dDivU, dMod, dLt, dLe, dGt, dGe, D.isNon, Bool.not_true, Bool.not_false])
    rw [show (List.map (fun (i : Nat) => D.int (i : Int)) ((List.range n).map (0 + ·))).length = n by simp] at ds
    have := ds.fin
    subst this
    exact q
theorem hp__law_determinantL : ∀ ds b Q, ds.length = 1 → p_detL ds b Q → W__law_determinant { nx := fun _ b' => Q .non b', rt := Q } (ds.map Slot.v ++ List.replicate 9 .un) b := by
  rintro ds b Q - ⟨M, rfl, hM, q⟩
  show W__law_determinant _ [.v (tabL M), .un, .un, .un, .un, .un, .un, .un, .un, .un] b
  have hs := hM.ds
  have hlen := hM.2.1
  generalize detR M = R at q hs
  generalize hn : M.length = n at hs hlen
  (try simp only [wSeq, wSet, wSetO, wRet, wIfS, wFrz, wApp, wDrop, wNext, wBreak, wCont, wNever, wVar, wVarB, wC, wBin, wUn, wT, wAnd, wOr, wNot, wAndV, wOrV, wNotV, wIte, wNil, wCons, wTup, wCall, wListOf, wC2, wIsT, wIsC, wFld, wON, wOS, wSl, wV, wO, wSetIx, wPar, wSwap, wSeqOf, wRng1, wRng2, wFor, wWhile, wYes, wComp, wEnum, wZip, wEnum2, wRgT, wRgL, wAug, dMulT, dMax, wMake, wFz, wCat, wRep, wipeE, D.ty, wIf_true, wIf_false, List.getElem?_cons_zero, List.getElem?_cons_succ, List.set_cons_zero, List.set_cons_succ, dI0_ii, dI_ii, dNeg_i, dGcd_ii, dAbs_i, dInt_i, dInt_b, dBits_i, dLen_t, dLen_l, dTuple_t, dTuple_l, dAdd_ii, dAdd_tt, dAdd_ll, dAdd_ss, dMul_ii, dMul_li, dIs_n, dIs_b, dIsN_n, dRepr_b, rt_0, rt_1, dEq, dNe, dSub, dDiv, dDivU, dMod, dLt, dLe, dGt, dGe, D.isNon, Bool.not_true, Bool.not_false, W__law_determinant])
  refine ⟨by rw [List.length_map]; omega, cmp_at (fun r : List Rat => D.lst (r.map rt)) rowD M _ (fun r hr => ⟨_, rfl, fun K k => by (try simp only [wSeq, wSet, wSetO, wRet, wIfS, wFrz, wApp, wDrop, wNext, wBreak, wCont, wNever, wVar, wVarB, wC, wBin, wUn, wT, wAnd, wOr, wNot, wAndV, wOrV, wNotV, wIte, wNil, wCons, wTup, wCall, wListOf, wC2, wIsT, wIsC, wFld, wON, wOS, wSl, wV, wO, wSetIx, wPar, wSwap, wSeqOf, wRng1, wRng2, wFor, wWhile, wYes, wComp, wEnum, wZip, wEnum2, wRgT, wRgL, wAug, dMulT, dMax, wMake, wFz, wCat, wRep, wipeE, D.ty, wIf_true, wIf_false, List.getElem?_cons_zero, List.getElem?_cons_succ, List.set_cons_zero, List.set_cons_succ, dI0_ii, dI_ii, dNeg_i, dGcd_ii, dAbs_i, dInt_i, dInt_b, dBits_i, dLen_t, dLen_l, dTuple_t, dTuple_l, dAdd_ii, dAdd_tt, dAdd_ll, dAdd_ss, dMul_ii, dMul_li, dIs_n, dIs_b, dIsN_n, dRepr_b, rt_0, rt_1, dEq, dNe, dSub, dDiv, dDivU, dMod, dLt, dLe, dGt, dGe, D.isNon, Bool.not_true, Bool.not_false]); exact k⟩) ?_⟩
  rw [show (M.map rowD).length = n by rw [List.length_map]; exact hn]
  refine ⟨⟨by omega, by omega⟩, ?_⟩
  rw [show rangeD 0 ((n : Nat) : Int).toNat = rangeD ((0 : Nat) : Int) n by rw [Int.toNat_natCast]; rfl, rangeD_nat]
  refine for_rule (I := fun i env b' => b' = b ∧ ∃ (M' : List (List Rat)) (out : Rat) (s3 s4 s5 s6 s7 s8 s9 : Slot), env = [.v (tabL M), .own (rowsD M'), .v (rt out), s3, s4, s5, s6, s7, s8, s9] ∧ DS n i M' out R) ?_ ?_ _ _ ⟨rfl, M, 1, _, _, _, _, _, _, _, rfl, hs⟩
  · rintro k d env b' E' hd ⟨rfl, M', out, s3, s4, s5, s6, s7, s8, s9, rfl, ds⟩ hnx hct hbk hrt
    have hk : k < n := by
      have := (List.getElem?_eq_some_iff.mp hd).1
      simpa using this
    have ed : d = .int ((k : Nat) : Int) := by
      rw [List.getElem?_map, List.getElem?_map, List.getElem?_range (by simpa using hk)] at hd
      simp at hd
      exact hd.symm
    subst ed
    have hl : M'.length = n := ds.sq.len
    refine ⟨_, rfl, ?_⟩
    (try simp only [wSeq, wSet, wSetO, wRet, wIfS, wFrz, wApp, wDrop, wNext, wBreak, wCont, wNever, wVar, wVarB, wC, wBin, wUn, wT, wAnd, wOr, wNot, wAndV, wOrV, wNotV, wIte, wNil, wCons, wTup, wCall, wListOf, wC2, wIsT, wIsC, wFld, wON, wOS, wSl, wV, wO, wSetIx, wPar, wSwap, wSeqOf, wRng1, wRng2, wFor, wWhile, wYes, wComp, wEnum, wZip, wEnum2, wRgT, wRgL, wAug, dMulT, dMax, wMake, wFz, wCat, wRep, wipeE, D.ty, wIf_true, wIf_false, List.getElem?_cons_zero, List.getElem?_cons_succ, List.set_cons_zero, List.set_cons_succ, dI0_ii, dI_ii, dNeg_i, dGcd_ii, dAbs_i, dInt_i, dInt_b, dBits_i, dLen_t, dLen_l, dTuple_t, dTuple_l, dAdd_ii, dAdd_tt, dAdd_ll, dAdd_ss, dMul_ii, dMul_li, dIs_n, dIs_b, dIsN_n, dRepr_b, rt_0, rt_1, dEq, dNe, dSub, dDiv, dDivU, dMod, dLt, dLe, dGt, dGe, D.isNon, Bool.not_true, Bool.not_false])
    have hrl : (rowsD M').length = n := by rw [rowsD_len]; exact hl
    refine ⟨⟨by omega, by omega, by omega, by omega⟩, by rw [rangeD_len]; omega, ?_⟩
    rw [show rangeD (k : Int) (((rowsD M').length : Int) - (k : Int)).toNat = ((List.range (n - k)).map (k + ·)).map fun (i : Nat) => D.int (i : Int) by rw [hrl]; exact cut_rng (Nat.le_of_lt hk)]
    refine cmp_filter _ (fun (i : Nat) => D.int (i : Int)) (fun i => decide (ent M' i k ≠ 0)) _ _ (fun x hx => ⟨_, rfl, fun K hK => ?_, fun K hK => by (try simp only [wSeq, wSet, wSetO, wRet, wIfS, wFrz, wApp, wDrop, wNext, wBreak, wCont, wNever, wVar, wVarB, wC, wBin, wUn, wT, wAnd, wOr, wNot, wAndV, wOrV, wNotV, wIte, wNil, wCons, wTup, wCall, wListOf, wC2, wIsT, wIsC, wFld, wON, wOS, wSl, wV, wO, wSetIx, wPar, wSwap, wSeqOf, wRng1, wRng2, wFor, wWhile, wYes, wComp, wEnum, wZip, wEnum2, wRgT, wRgL, wAug, dMulT, dMax, wMake, wFz, wCat, wRep, wipeE, D.ty, wIf_true, wIf_false, List.getElem?_cons_zero, List.getElem?_cons_succ, List.set_cons_zero, List.set_cons_succ, dI0_ii, dI_ii, dNeg_i, dGcd_ii, dAbs_i, dInt_i, dInt_b, dBits_i, dLen_t, dLen_l, dTuple_t, dTuple_l, dAdd_ii, dAdd_tt, dAdd_ll, dAdd_ss, dMul_ii, dMul_li, dIs_n, dIs_b, dIsN_n, dRepr_b, rt_0, rt_1, dEq, dNe, dSub, dDiv, dDivU, dMod, dLt, dLe, dGt, dGe, D.isNon, Bool.not_true, Bool.not_false]); exact hK⟩) ?_
    · obtain ⟨j, hj, rfl⟩ := List.mem_map.mp hx
      rw [List.mem_range] at hj
      (try simp only [wSeq, wSet, wSetO, wRet, wIfS, wFrz, wApp, wDrop, wNext, wBreak, wCont, wNever, wVar, wVarB, wC, wBin, wUn, wT, wAnd, wOr, wNot, wAndV, wOrV, wNotV, wIte, wNil, wCons, wTup, wCall, wListOf, wC2, wIsT, wIsC, wFld, wON, wOS, wSl, wV, wO, wSetIx, wPar, wSwap, wSeqOf, wRng1, wRng2, wFor, wWhile, wYes, wComp, wEnum, wZip, wEnum2, wRgT, wRgL, wAug, dMulT, dMax, wMake, wFz, wCat, wRep, wipeE, D.ty, wIf_true, wIf_false, List.getElem?_cons_zero, List.getElem?_cons_succ, List.set_cons_zero, List.set_cons_succ, dI0_ii, dI_ii, dNeg_i, dGcd_ii, dAbs_i, dInt_i, dInt_b, dBits_i, dLen_t, dLen_l, dTuple_t, dTuple_l, dAdd_ii, dAdd_tt, dAdd_ll, dAdd_ss, dMul_ii, dMul_li, dIs_n, dIs_b, dIsN_n, dRepr_b, rt_0, rt_1, dEq, dNe, dSub, dDiv, dDivU, dMod, dLt, dLe, dGt, dGe, D.isNon, Bool.not_true, Bool.not_false])
      refine ix_rows (by rw [hl]; omega) (ix_row (by rw [ds.sq.row _ (by omega)]; omega) ?_)
      (try simp only [wSeq, wSet, wSetO, wRet, wIfS, wFrz, wApp, wDrop, wNext, wBreak, wCont, wNever, wVar, wVarB, wC, wBin, wUn, wT, wAnd, wOr, wNot, wAndV, wOrV, wNotV, wIte, wNil, wCons, wTup, wCall, wListOf, wC2, wIsT, wIsC, wFld, wON, wOS, wSl, wV, wO, wSetIx, wPar, wSwap, wSeqOf, wRng1, wRng2, wFor, wWhile, wYes, wComp, wEnum, wZip, wEnum2, wRgT, wRgL, wAug, dMulT, dMax, wMake, wFz, wCat, wRep, wipeE, D.ty, wIf_true, wIf_false, List.getElem?_cons_zero, List.getElem?_cons_succ, List.set_cons_zero, List.set_cons_succ, dI0_ii, dI_ii, dNeg_i, dGcd_ii, dAbs_i, dInt_i, dInt_b, dBits_i, dLen_t, dLen_l, dTuple_t, dTuple_l, dAdd_ii, dAdd_tt, dAdd_ll, dAdd_ss, dMul_ii, dMul_li, dIs_n, dIs_b, dIsN_n, dRepr_b, rt_0, rt_1, dEq, dNe, dSub, dDiv, dDivU, dMod, dLt, dLe, dGt, dGe, D.isNon, Bool.not_true, Bool.not_false])
      refine ⟨⟨rfl, rfl⟩, ?_⟩
      rw [eqv_int, ← decide_not]
      have e : decide (¬ ((rowOf M' (k + j)).getD k 0).num = 0) = decide (ent M' (k + j) k ≠ 0) := by
        refine decide_eq_decide.mpr ?_
        show ¬ (ent M' (k + j) k).num = 0 ↔ ¬ ent M' (k + j) k = 0
        rw [Rat.num_eq_zero]
      rw [e]
      exact hK
    · rw [show ((List.range (n - k)).map (k + ·)).filter (fun i => decide (ent M' i k ≠ 0)) = heads M' k by unfold heads; rw [hl]]
      (try simp only [wSeq, wSet, wSetO, wRet, wIfS, wFrz, wApp, wDrop, wNext, wBreak, wCont, wNever, wVar, wVarB, wC, wBin, wUn, wT, wAnd, wOr, wNot, wAndV, wOrV, wNotV, wIte, wNil, wCons, wTup, wCall, wListOf, wC2, wIsT, wIsC, wFld, wON, wOS, wSl, wV, wO, wSetIx, wPar, wSwap, wSeqOf, wRng1, wRng2, wFor, wWhile, wYes, wComp, wEnum, wZip, wEnum2, wRgT, wRgL, wAug, dMulT, dMax, wMake, wFz, wCat, wRep, wipeE, D.ty, wIf_true, wIf_false, List.getElem?_cons_zero, List.getElem?_cons_succ, List.set_cons_zero, List.set_cons_succ, dI0_ii, dI_ii, dNeg_i, dGcd_ii, dAbs_i, dInt_i, dInt_b, dBits_i, dLen_t, dLen_l, dTuple_t, dTuple_l, dAdd_ii, dAdd_tt, dAdd_ll, dAdd_ss, dMul_ii, dMul_li, dIs_n, dIs_b, dIsN_n, dRepr_b, rt_0, rt_1, dEq, dNe, dSub, dDiv, dDivU, dMod, dLt, dLe, dGt, dGe, D.isNon, Bool.not_true, Bool.not_false])
      have hfl : ∀ l : List Nat, (D.lst (l.map fun (i : Nat) => D.int (i : Int))).flat 9 = true := fun l => by
        show D.flats 8 _ = true
        induction l with
        | nil => rfl
        | cons a r ih => exact ih
      have heq : ∀ l : List Nat, PyData.eqv (D.lst (l.map fun (i : Nat) => D.int (i : Int))).py (D.lst []).py = decide (l = []) := fun l => by
        cases l with
        | nil => rfl
        | cons a r => simp [D.py, D.pys, PyData.eqv, PyData.eqvAll]
      refine ⟨⟨hfl _, rfl⟩, ?_⟩
      rw [heq]
      refine wIf_dec (fun h0 => ?_) (fun h0 => ?_)
      · have hh : heads M' k = [] := h0
        rw [hrt]
        have := ds.nil hk hh
        subst this
        exact q
      · obtain ⟨h, t, hh⟩ : ∃ h t, heads M' k = h :: t := by
          cases e : heads M' k with
          | nil => exact absurd e h0
          | cons a r => exact ⟨a, r, rfl⟩
        obtain ⟨g1, g2, st⟩ := ds.step hk hh
        rw [hh, List.map_cons]
        -- the rest, from the swapped rows on
        have rest : ∀ (s4 : Slot), (wSeq (wSet 2 (wCall 2 p__law_times (wCons (wVar 2) (wCons (wBin dIx (wBin dIx (wVarB 1) (wVarB 3)) (wVarB 3)) wNil)))) (wFor (.one 5) (wRng2 (wCons (wBin dAdd (wVarB 3) (wC (.int 1))) (wCons (wUn dLen (wVarB 1)) wNil))) (wSeq (wSet 6 (wCall 2 p__law_share (wCons (wBin dIx (wBin dIx (wVarB 1) (wVarB 5)) (wVarB 3)) (wCons (wBin dIx (wBin dIx (wVarB 1) (wVarB 3)) (wVarB 3)) wNil)))) (wSetIx 1 (wFz (wComp [8, 9] (.tup [8, 9]) (wZip (wCons (wBin dIx (wVarB 1) (wVarB 5)) (wCons (wBin dIx (wVarB 1) (wVarB 3)) wNil))) wYes (wCall 2 p__law_minus (wCons (wVar 8) (wCons (wCall 2 p__law_times (wCons (wVar 6) (wCons (wVar 9) wNil))) wNil))))) (wVar 5)))))
            E' [.v (tabL M), .own (rowsD (swapR M' k h)), .v (rt (if h = k then out else -out)), .v (.int (k : Int)), s4, s5, s6, s7, s8, s9] b' := by
          intro s4
          have hl1 := st.sq.len
          (try simp only [wSeq, wSet, wSetO, wRet, wIfS, wFrz, wApp, wDrop, wNext, wBreak, wCont, wNever, wVar, wVarB, wC, wBin, wUn, wT, wAnd, wOr, wNot, wAndV, wOrV, wNotV, wIte, wNil, wCons, wTup, wCall, wListOf, wC2, wIsT, wIsC, wFld, wON, wOS, wSl, wV, wO, wSetIx, wPar, wSwap, wSeqOf, wRng1, wRng2, wFor, wWhile, wYes, wComp, wEnum, wZip, wEnum2, wRgT, wRgL, wAug, dMulT, dMax, wMake, wFz, wCat, wRep, wipeE, D.ty, wIf_true, wIf_false, List.getElem?_cons_zero, List.getElem?_cons_succ, List.set_cons_zero, List.set_cons_succ, dI0_ii, dI_ii, dNeg_i, dGcd_ii, dAbs_i, dInt_i, dInt_b, dBits_i, dLen_t, dLen_l, dTuple_t, dTuple_l, dAdd_ii, dAdd_tt, dAdd_ll, dAdd_ss, dMul_ii, dMul_li, dIs_n, dIs_b, dIsN_n, dRepr_b, rt_0, rt_1, dEq, dNe, dSub, dDiv, dDivU, dMod, dLt, dLe, dGt, dGe, D.isNon, Bool.not_true, Bool.not_false])
          refine ix_rows (by rw [hl1]; exact hk) (ix_row (by rw [st.sq.row _ hk]; exact hk) ?_)
          refine ⟨rfl, _, _, rfl, st.so, st.sp, trivial, ?_⟩
          rw [rowsD_len, hl1]
          refine ⟨⟨by omega, by omega, by omega, by omega⟩, ?_⟩
          rw [show ((k : Int) + 1) = ((k + 1 : Nat) : Int) by omega, cut_rng hk]
          refine for_rule (I := fun i env b2 => b2 = b' ∧ ∃ (s5 s6 : Slot), env = [.v (tabL M), .own (rowsD (elimR (swapR M' k h) k (k + 1 + i))), .v (rt ((if h = k then out else -out) * ent (swapR M' k h) k k)), .v (.int (k : Int)), s4, s5, s6, s7, s8, s9]) ?_ ?_ _ _ ⟨rfl, s5, s6, by rw [Nat.add_zero, elim_none]; rfl⟩
          · rintro i d env b2 E2 hd ⟨rfl, s5, s6, rfl⟩ hnx2 hct2 hbk2 hrt2
            have hi : i < n - (k + 1) := by
              have := (List.getElem?_eq_some_iff.mp hd).1
              simpa using this
            have ed : d = .int ((k + 1 + i : Nat) : Int) := by
              rw [List.getElem?_map, List.getElem?_map, List.getElem?_range (by simpa using hi)] at hd
              simp at hd
              exact hd.symm
            subst ed
            have him : k + 1 + i < n := by omega
            have hmm : k + 1 + (i + 1) = k + 1 + i + 1 := by omega
            rw [hmm] at hnx2
            have hkm : k < k + 1 + i := by omega
            generalize k + 1 + i = m at him hnx2 hkm
            refine ⟨_, rfl, ?_⟩
            have sqe := elim_sq (m := m) st.sq hk
            have r1 : rowOf (elimR (swapR M' k h) k m) m = rowOf (swapR M' k h) m := by rw [elim_row st.sq him, if_neg (by omega)]
            have r2 : rowOf (elimR (swapR M' k h) k m) k = rowOf (swapR M' k h) k := by rw [elim_row st.sq hk, if_neg (by omega)]
            obtain ⟨z1, z2, z3⟩ := st.el m hkm him
            (try simp only [wSeq, wSet, wSetO, wRet, wIfS, wFrz, wApp, wDrop, wNext, wBreak, wCont, wNever, wVar, wVarB, wC, wBin, wUn, wT, wAnd, wOr, wNot, wAndV, wOrV, wNotV, wIte, wNil, wCons, wTup, wCall, wListOf, wC2, wIsT, wIsC, wFld, wON, wOS, wSl, wV, wO, wSetIx, wPar, wSwap, wSeqOf, wRng1, wRng2, wFor, wWhile, wYes, wComp, wEnum, wZip, wEnum2, wRgT, wRgL, wAug, dMulT, dMax, wMake, wFz, wCat, wRep, wipeE, D.ty, wIf_true, wIf_false, List.getElem?_cons_zero, List.getElem?_cons_succ, List.set_cons_zero, List.set_cons_succ, dI0_ii, dI_ii, dNeg_i, dGcd_ii, dAbs_i, dInt_i, dInt_b, dBits_i, dLen_t, dLen_l, dTuple_t, dTuple_l, dAdd_ii, dAdd_tt, dAdd_ll, dAdd_ss, dMul_ii, dMul_li, dIs_n, dIs_b, dIsN_n, dRepr_b, rt_0, rt_1, dEq, dNe, dSub, dDiv, dDivU, dMod, dLt, dLe, dGt, dGe, D.isNon, Bool.not_true, Bool.not_false])
            refine ix_rows (by rw [sqe.len]; exact him) ?_
            rw [r1]
            refine ix_row (by rw [st.sq.row _ him]; exact hk) (ix_rows (by rw [sqe.len]; exact hk) ?_)
            rw [r2]
            refine ix_row (by rw [st.sq.row _ hk]; exact hk) ⟨rfl, _, _, rfl, z1, st.sp, st.p0, ?_⟩
            refine ix_rows (by rw [sqe.len]; exact him) (ix_rows (by rw [sqe.len]; exact hk) ?_)
            rw [r1, r2]
            (try simp only [wSeq, wSet, wSetO, wRet, wIfS, wFrz, wApp, wDrop, wNext, wBreak, wCont, wNever, wVar, wVarB, wC, wBin, wUn, wT, wAnd, wOr, wNot, wAndV, wOrV, wNotV, wIte, wNil, wCons, wTup, wCall, wListOf, wC2, wIsT, wIsC, wFld, wON, wOS, wSl, wV, wO, wSetIx, wPar, wSwap, wSeqOf, wRng1, wRng2, wFor, wWhile, wYes, wComp, wEnum, wZip, wEnum2, wRgT, wRgL, wAug, dMulT, dMax, wMake, wFz, wCat, wRep, wipeE, D.ty, wIf_true, wIf_false, List.getElem?_cons_zero, List.getElem?_cons_succ, List.set_cons_zero, List.set_cons_succ, dI0_ii, dI_ii, dNeg_i, dGcd_ii, dAbs_i, dInt_i, dInt_b, dBits_i, dLen_t, dLen_l, dTuple_t, dTuple_l, dAdd_ii, dAdd_tt, dAdd_ll, dAdd_ss, dMul_ii, dMul_li, dIs_n, dIs_b, dIsN_n, dRepr_b, rt_0, rt_1, dEq, dNe, dSub, dDiv, dDivU, dMod, dLt, dLe, dGt, dGe, D.isNon, Bool.not_true, Bool.not_false, rowD])
            rw [zipD_rt]
            refine ⟨by rw [List.length_map, List.length_zip, st.sq.row _ him]; omega, cmp_at _ (fun q => rt (q.1 - ent (swapR M' k h) m k / ent (swapR M' k h) k k * q.2)) _ _ (fun p hp => ⟨_, rfl, fun K kk => ?_⟩) ?_⟩
            · (try simp only [wSeq, wSet, wSetO, wRet, wIfS, wFrz, wApp, wDrop, wNext, wBreak, wCont, wNever, wVar, wVarB, wC, wBin, wUn, wT, wAnd, wOr, wNot, wAndV, wOrV, wNotV, wIte, wNil, wCons, wTup, wCall, wListOf, wC2, wIsT, wIsC, wFld, wON, wOS, wSl, wV, wO, wSetIx, wPar, wSwap, wSeqOf, wRng1, wRng2, wFor, wWhile, wYes, wComp, wEnum, wZip, wEnum2, wRgT, wRgL, wAug, dMulT, dMax, wMake, wFz, wCat, wRep, wipeE, D.ty, wIf_true, wIf_false, List.getElem?_cons_zero, List.getElem?_cons_succ, List.set_cons_zero, List.set_cons_succ, dI0_ii, dI_ii, dNeg_i, dGcd_ii, dAbs_i, dInt_i, dInt_b, dBits_i, dLen_t, dLen_l, dTuple_t, dTuple_l, dAdd_ii, dAdd_tt, dAdd_ll, dAdd_ss, dMul_ii, dMul_li, dIs_n, dIs_b, dIsN_n, dRepr_b, rt_0, rt_1, dEq, dNe, dSub, dDiv, dDivU, dMod, dLt, dLe, dGt, dGe, D.isNon, Bool.not_true, Bool.not_false])
              have hp' := List.of_mem_zip (show (p.1, p.2) ∈ (rowOf (swapR M' k h) m).zip (rowOf (swapR M' k h) k) from hp)
              have hx : Sz p.1 := by
                obtain ⟨j, hj, e⟩ := List.getElem_of_mem hp'.1
                have hj' : j < n := by rw [st.sq.row _ him] at hj; exact hj
                have := (z3 j hj').2.1
                unfold ent at this
                rw [List.getD_eq_getElem?_getD, List.getElem?_eq_getElem hj, e] at this
                exact this
              have hy : Sz p.2 ∧ Sz (ent (swapR M' k h) m k / ent (swapR M' k h) k k * p.2) := by
                obtain ⟨j, hj, e⟩ := List.getElem_of_mem hp'.2
                have hj' : j < n := by rw [st.sq.row _ hk] at hj; exact hj
                have h1 := (z3 j hj').1
                have h2 := (z3 j hj').2.2
                have e2 : ent (swapR M' k h) k j = p.2 := by
                  unfold ent
                  rw [List.getD_eq_getElem?_getD, List.getElem?_eq_getElem hj, e]
                  rfl
                rw [e2] at h1 h2
                exact ⟨h1, h2⟩
              exact ⟨rfl, _, _, rfl, z2, hy.1, trivial, rfl, _, _, rfl, hx, hy.2, trivial, kk⟩
            · (try simp only [wSeq, wSet, wSetO, wRet, wIfS, wFrz, wApp, wDrop, wNext, wBreak, wCont, wNever, wVar, wVarB, wC, wBin, wUn, wT, wAnd, wOr, wNot, wAndV, wOrV, wNotV, wIte, wNil, wCons, wTup, wCall, wListOf, wC2, wIsT, wIsC, wFld, wON, wOS, wSl, wV, wO, wSetIx, wPar, wSwap, wSeqOf, wRng1, wRng2, wFor, wWhile, wYes, wComp, wEnum, wZip, wEnum2, wRgT, wRgL, wAug, dMulT, dMax, wMake, wFz, wCat, wRep, wipeE, D.ty, wIf_true, wIf_false, List.getElem?_cons_zero, List.getElem?_cons_succ, List.set_cons_zero, List.set_cons_succ, dI0_ii, dI_ii, dNeg_i, dGcd_ii, dAbs_i, dInt_i, dInt_b, dBits_i, dLen_t, dLen_l, dTuple_t, dTuple_l, dAdd_ii, dAdd_tt, dAdd_ll, dAdd_ss, dMul_ii, dMul_li, dIs_n, dIs_b, dIsN_n, dRepr_b, rt_0, rt_1, dEq, dNe, dSub, dDiv, dDivU, dMod, dLt, dLe, dGt, dGe, D.isNon, Bool.not_true, Bool.not_false])
              rw [rowsD_len, sqe.len, ixN_nat' him]
              refine hnx2 _ _ ⟨rfl, .v (.int (m : Int)), .v (rt (ent (swapR M' k h) m k / ent (swapR M' k h) k k)), ?_⟩
              have e := elim_set st.sq hkm him
              have e3 : ((rowOf (swapR M' k h) m).zip (rowOf (swapR M' k h) k)).map (fun q => rt (q.1 - ent (swapR M' k h) m k / ent (swapR M' k h) k k * q.2)) = (zipSub (rowOf (swapR M' k h) m) (rowOf (swapR M' k h) k) (ent (swapR M' k h) m k / ent (swapR M' k h) k k)).map rt := by
                unfold zipSub
                rw [List.map_map]
                rfl
              rw [e3, ← e]
              unfold rowsD
              rw [List.map_set]
              rfl
          · rintro env b2 ⟨rfl, s5, s6, rfl⟩
            refine hnx _ _ ⟨rfl, _, _, _, _, _, _, _, _, _, rfl, ?_⟩
            have e : k + 1 + ((List.map (fun (i : Nat) => D.int (i : Int)) ((List.range (n - (k + 1))).map (k + 1 + ·))).length) = n := by simp; omega
            rw [e]
            exact st.nx
        refine dIx_l (j := 0) rfl ?_
        (try simp only [wSeq, wSet, wSetO, wRet, wIfS, wFrz, wApp, wDrop, wNext, wBreak, wCont, wNever, wVar, wVarB, wC, wBin, wUn, wT, wAnd, wOr, wNot, wAndV, wOrV, wNotV, wIte, wNil, wCons, wTup, wCall, wListOf, wC2, wIsT, wIsC, wFld, wON, wOS, wSl, wV, wO, wSetIx, wPar, wSwap, wSeqOf, wRng1, wRng2, wFor, wWhile, wYes, wComp, wEnum, wZip, wEnum2, wRgT, wRgL, wAug, dMulT, dMax, wMake, wFz, wCat, wRep, wipeE, D.ty, wIf_true, wIf_false, List.getElem?_cons_zero, List.getElem?_cons_succ, List.set_cons_zero, List.set_cons_succ, dI0_ii, dI_ii, dNeg_i, dGcd_ii, dAbs_i, dInt_i, dInt_b, dBits_i, dLen_t, dLen_l, dTuple_t, dTuple_l, dAdd_ii, dAdd_tt, dAdd_ll, dAdd_ss, dMul_ii, dMul_li, dIs_n, dIs_b, dIsN_n, dRepr_b, rt_0, rt_1, dEq, dNe, dSub, dDiv, dDivU, dMod, dLt, dLe, dGt, dGe, D.isNon, Bool.not_true, Bool.not_false])
        refine ⟨⟨rfl, rfl⟩, ?_⟩
        rw [eqv_int, ← decide_not]
        refine wIf_dec (fun hne => ?_) (fun he => ?_)
        · refine dIx_l (j := 0) rfl (ix_rows (by rw [hl]; exact g2) (ix_rows (by rw [hl]; exact hk) ?_))
          rw [hrl, ixN_nat' hk]
          (try simp only [wSeq, wSet, wSetO, wRet, wIfS, wFrz, wApp, wDrop, wNext, wBreak, wCont, wNever, wVar, wVarB, wC, wBin, wUn, wT, wAnd, wOr, wNot, wAndV, wOrV, wNotV, wIte, wNil, wCons, wTup, wCall, wListOf, wC2, wIsT, wIsC, wFld, wON, wOS, wSl, wV, wO, wSetIx, wPar, wSwap, wSeqOf, wRng1, wRng2, wFor, wWhile, wYes, wComp, wEnum, wZip, wEnum2, wRgT, wRgL, wAug, dMulT, dMax, wMake, wFz, wCat, wRep, wipeE, D.ty, wIf_true, wIf_false, List.getElem?_cons_zero, List.getElem?_cons_succ, List.set_cons_zero, List.set_cons_succ, dI0_ii, dI_ii, dNeg_i, dGcd_ii, dAbs_i, dInt_i, dInt_b, dBits_i, dLen_t, dLen_l, dTuple_t, dTuple_l, dAdd_ii, dAdd_tt, dAdd_ll, dAdd_ss, dMul_ii, dMul_li, dIs_n, dIs_b, dIsN_n, dRepr_b, rt_0, rt_1, dEq, dNe, dSub, dDiv, dDivU, dMod, dLt, dLe, dGt, dGe, D.isNon, Bool.not_true, Bool.not_false])
          refine dIx_l (j := 0) rfl ?_
          (try simp only [wSeq, wSet, wSetO, wRet, wIfS, wFrz, wApp, wDrop, wNext, wBreak, wCont, wNever, wVar, wVarB, wC, wBin, wUn, wT, wAnd, wOr, wNot, wAndV, wOrV, wNotV, wIte, wNil, wCons, wTup, wCall, wListOf, wC2, wIsT, wIsC, wFld, wON, wOS, wSl, wV, wO, wSetIx, wPar, wSwap, wSeqOf, wRng1, wRng2, wFor, wWhile, wYes, wComp, wEnum, wZip, wEnum2, wRgT, wRgL, wAug, dMulT, dMax, wMake, wFz, wCat, wRep, wipeE, D.ty, wIf_true, wIf_false, List.getElem?_cons_zero, List.getElem?_cons_succ, List.set_cons_zero, List.set_cons_succ, dI0_ii, dI_ii, dNeg_i, dGcd_ii, dAbs_i, dInt_i, dInt_b, dBits_i, dLen_t, dLen_l, dTuple_t, dTuple_l, dAdd_ii, dAdd_tt, dAdd_ll, dAdd_ss, dMul_ii, dMul_li, dIs_n, dIs_b, dIsN_n, dRepr_b, rt_0, rt_1, dEq, dNe, dSub, dDiv, dDivU, dMod, dLt, dLe, dGt, dGe, D.isNon, Bool.not_true, Bool.not_false])
          rw [ixN_nat' g2]
          refine ⟨rfl, 0, out, rfl, sz_zero, ds.szo, trivial, ?_⟩
          have hne' : ¬ h = k := by omega
          have e : ((rowsD M').set k (rowD (rowOf M' h))).set h (rowD (rowOf M' k)) = rowsD (swapR M' k h) := by
            unfold rowsD swapR
            rw [if_neg hne', List.map_set, List.map_set]
          have := rest (Slot.v (D.lst (D.int (h : Int) :: t.map fun (i : Nat) => D.int (i : Int))))
          rw [if_neg hne'] at this
          dsimp only
          rw [e, show (0 : Rat) - out = -out by grind]
          exact this
        · have he' : h = k := by omega
          subst he'
          have := rest (Slot.v (D.lst (D.int (h : Int) :: t.map fun (i : Nat) => D.int (i : Int))))
          unfold swapR at this
          rw [if_pos rfl, if_pos rfl] at this
          exact this
  · rintro env b' ⟨rfl, M', out, s3, s4, s5, s6, s7, s8, s9, rfl, ds⟩
    (try simp only [wSeq, wSet, wSetO, wRet, wIfS, wFrz, wApp, wDrop, wNext, wBreak, wCont, wNever, wVar, wVarB, wC, wBin, wUn, wT, wAnd, wOr, wNot, wAndV, wOrV, wNotV, wIte, wNil, wCons, wTup, wCall, wListOf, wC2, wIsT, wIsC, wFld, wON, wOS, wSl, wV, wO, wSetIx, wPar, wSwap, wSeqOf, wRng1, wRng2, wFor, wWhile, wYes, wComp, wEnum, wZip, wEnum2, wRgT, wRgL, wAug, dMulT, dMax, wMake, wFz, wCat, wRep, wipeE, D.ty, wIf_true, wIf_false, List.getElem?_cons_zero, List.getElem?_cons_succ, List.set_cons_zero, List.set_cons_succ, dI0_ii, dI_ii, dNeg_i, dGcd_ii, dAbs_i, dInt_i, dInt_b, dBits_i, dLen_t, dLen_l, dTuple_t, dTuple_l, dAdd_ii, dAdd_tt, dAdd_ll, dAdd_ss, dMul_ii, dMul_li, dIs_n, dIs_b, dIsN_n, dRepr_b, rt_0, rt_1, dEq, dNe, dSub, dDiv, dDivU, dMod, dLt, dLe, dGt, dGe, D.isNon, Bool.not_true, Bool.not_false])
    rw [show (List.map (fun (i : Nat) => D.int (i : Int)) ((List.range n).map (0 + ·))).length = n by simp] at ds
    have := ds.fin
    subst this
    exact q
theorem hp__law_determinant : ∀ ds b Q, ds.length = 1 → p__law_determinant ds b Q → W__law_determinant { nx := fun _ b' => Q .non b', rt := Q } (ds.map Slot.v ++ List.replicate 9 .un) b := fun ds b Q hl h => h.elim (hp__law_determinantT ds b Q hl) (hp__law_determinantL ds b Q hl)
end En
/-! Tables of sums, step minors. -/
namespace En
open PySem PySem.Spec PyProof.Rows L2
def hankR (xs : List Rat) (size start : Nat) : List (List Rat) := (List.range size).map fun i => (List.range size).map fun j => xs.getD (i + j + start) 0
theorem hank_sq {xs : List Rat} {size start : Nat} : Sq size (hankR xs size start) := by
  constructor
  · simp [hankR]
  · intro i hi
    unfold rowOf hankR
    rw [List.getD_eq_getElem?_getD, List.getElem?_map, List.getElem?_range hi]
    simp
theorem hank_ent {xs : List Rat} {size start i j : Nat} (hi : i < size) (hj : j < size) : ent (hankR xs size start) i j = xs.getD (i + j + start) 0 := by
  unfold ent rowOf hankR
  rw [List.getD_eq_getElem?_getD, List.getD_eq_getElem?_getD, List.getElem?_map, List.getElem?_range hi]
  simp only [Option.map_some, Option.getD_some]
  rw [List.getElem?_map, List.getElem?_range hj]
  rfl
def kMOST_ITEMS : D := .int 12
def p_hankel_by : Spec := fun ds b Q => ∃ (xs : List Rat) (size start : Nat), ds = [.tup (xs.map rt), .int (size : Int), .int (start : Int)] ∧ 2 * size + start ≤ xs.length + 1 ∧ size ≤ 1000 ∧ Q (tabD (hankR xs size start)) b
def p__law_square_of : Spec := p_hankel_by
/-- sizes of a row: all its tables' determinants can be told -/
def RowSz (xs : List Rat) : Prop := xs.length ≤ 1000 ∧ ∃ a d D : Nat, 0 < D ∧ D < 2 ^ d ∧ (∀ x ∈ xs, FrA a D x) ∧ ∀ n, n ≤ (xs.length + 1) / 2 → detFit n a d 1 1 = true
theorem FrA.zero {a D : Nat} : FrA a D 0 := ⟨0, by grind, by simpa using Nat.two_pow_pos a⟩
theorem FrA.getD {a D : Nat} {xs : List Rat} (h : ∀ x ∈ xs, FrA a D x) (i : Nat) : FrA a D (xs.getD i 0) := by
  rw [List.getD_eq_getElem?_getD]
  cases e : xs[i]? with
  | none => exact FrA.zero
  | some x => exact h x (List.mem_of_getElem? e)
theorem hank_ok {xs : List Rat} {size start : Nat} (h : RowSz xs) (hs : size ≤ (xs.length + 1) / 2) : DetOk (hankR xs size start) := by
  obtain ⟨hl, a, d, D, h1, h2, h3, h4⟩ := h
  have e : (hankR xs size start).length = size := hank_sq.len
  rw [DetOk, e]
  refine ⟨hank_sq, by omega, a, d, D, fun i hi j hj => ?_, h1, h2, h4 _ hs⟩
  rw [hank_ent hi hj]
  exact FrA.getD h3 _
/-- the m-th minor along the steps -/
def stepM (xs : List Rat) (m : Nat) : Rat := detR (hankR xs ((m + 1) / 2) (if m % 2 = 1 then 0 else 1))
def firstFlat (xs : List Rat) : Option Nat := ((List.range xs.length).map (1 + ·)).find? fun m => decide ((stepM xs m).num ≤ 0)
def optD : Option Nat → D | none => .non | some m => .int (m : Int)
def p_step_minor : Spec := fun ds b Q => ∃ (xs : List Rat) (m : Nat), ds = [.tup (xs.map rt), .int (m : Int)] ∧ 1 ≤ m ∧ m ≤ xs.length ∧ RowSz xs ∧ Q (rt (stepM xs m)) b
def p_first_flat : Spec := fun ds b Q => ∃ (xs : List Rat), ds = [.tup (xs.map rt)] ∧ RowSz xs ∧ Q (optD (firstFlat xs)) b
def p__law_bad_step : Spec := p_first_flat
def p_double_from : Spec := fun ds b Q => ∃ (xs : List Rat), ds = [.tup (xs.map rt)] ∧ 2 ≤ xs.length ∧ xs.length ≤ 12 ∧ xs.length % 2 = 0 ∧ Q (.tup (xs.map rt)) b
/-- hankel_by: row, size, start, i, j -/
def W_hankel_by : WS := (wRet (wUn dTuple (wFz (wComp [3] (.one 3) (wRng1 (wCons (wVar 1) wNil)) wYes (wUn dTuple (wFz (wComp [4] (.one 4) (wRng1 (wCons (wVar 1) wNil)) wYes (wBin dIx (wVarB 0) (wBin dAdd (wBin dAdd (wVarB 3) (wVarB 4)) (wVarB 2))))))))))
/-- _law_square_of: row, size, start, i, j -/
def W__law_square_of : WS := (wRet (wUn dTuple (wFz (wComp [3] (.one 3) (wRng1 (wCons (wVar 1) wNil)) wYes (wUn dTuple (wFz (wComp [4] (.one 4) (wRng1 (wCons (wVar 1) wNil)) wYes (wBin dIx (wVarB 0) (wBin dAdd (wBin dAdd (wVarB 3) (wVarB 4)) (wVarB 2))))))))))
/-- double_from: row, made -/
def W_double_from : WS := (wSeq (wSet 1 (wCall 3 p_row_from (wCons (wVar 0) (wCons (wC (.int 2)) (wCons (wC kMOST_ITEMS) wNil))))) (wSeq (wIfS (wT (wBin dEq (wBin dMod (wUn dLen (wVarB 1)) (wC (.int 2))) (wC (.int 1)))) wNever wNext) (wRet (wVar 1))))
/-- step_minor: row, many -/
def W_step_minor : WS := (wRet (wCall 1 p_determinant_by (wCons (wCall 3 p_hankel_by (wCons (wVar 0) (wCons (wBin dDiv (wBin dAdd (wVarB 1) (wC (.int 1))) (wC (.int 2))) (wCons (wIte (wT (wBin dEq (wBin dMod (wVarB 1) (wC (.int 2))) (wC (.int 1)))) (wC (.int 0)) (wC (.int 1))) wNil)))) wNil)))
/-- first_flat: row, many -/
def W_first_flat : WS := (wSeq (wFor (.one 1) (wRng2 (wCons (wC (.int 1)) (wCons (wBin dAdd (wUn dLen (wVarB 0)) (wC (.int 1))) wNil))) (wIfS (wT (wBin dLe (wBin dIx (wCall 2 p_step_minor (wCons (wVar 0) (wCons (wVar 1) wNil))) (wC (.int 0))) (wC (.int 0)))) (wRet (wVar 1)) wNext)) (wRet (wC .non)))
/-- _law_bad_step: row, many, size, start -/
def W__law_bad_step : WS := (wSeq (wFor (.one 1) (wRng2 (wCons (wC (.int 1)) (wCons (wBin dAdd (wUn dLen (wVarB 0)) (wC (.int 1))) wNil))) (wSeq (wPar 2 3 (wV (wBin dDiv (wUn dInt (wBin dAdd (wVarB 1) (wC (.int 1)))) (wC (.int 2)))) (wV (wIte (wT (wBin dEq (wBin dMod (wUn dInt (wVarB 1)) (wC (.int 2))) (wC (.int 1)))) (wC (.int 0)) (wC (.int 1))))) (wIfS (wT (wBin dLe (wBin dIx (wCall 1 p__law_determinant (wCons (wCall 3 p__law_square_of (wCons (wVar 0) (wCons (wVar 2) (wCons (wVar 3) wNil)))) wNil)) (wC (.int 0))) (wC (.int 0)))) (wRet (wVar 1)) wNext))) (wRet (wC .non)))
theorem hp_hankel_by : ∀ ds b Q, ds.length = 3 → p_hankel_by ds b Q → W_hankel_by { nx := fun _ b' => Q .non b', rt := Q } (ds.map Slot.v ++ List.replicate 2 .un) b := by
  rintro ds b Q - ⟨xs, size, start, rfl, h1, h2, q⟩
  show W_hankel_by _ [.v (.tup (xs.map rt)), .v (.int (size : Int)), .v (.int (start : Int)), .un, .un] b
  (try simp only [wSeq, wSet, wSetO, wRet, wIfS, wFrz, wApp, wDrop, wNext, wBreak, wCont, wNever, wVar, wVarB, wC, wBin, wUn, wT, wAnd, wOr, wNot, wAndV, wOrV, wNotV, wIte, wNil, wCons, wTup, wCall, wListOf, wC2, wIsT, wIsC, wFld, wON, wOS, wSl, wV, wO, wSetIx, wPar, wSwap, wSeqOf, wRng1, wRng2, wFor, wWhile, wYes, wComp, wEnum, wZip, wEnum2, wRgT, wRgL, wAug, dMulT, dMax, wMake, wFz, wCat, wRep, wipeE, D.ty, wIf_true, wIf_false, List.getElem?_cons_zero, List.getElem?_cons_succ, List.set_cons_zero, List.set_cons_succ, dI0_ii, dI_ii, dNeg_i, dGcd_ii, dAbs_i, dInt_i, dInt_b, dBits_i, dLen_t, dLen_l, dTuple_t, dTuple_l, dAdd_ii, dAdd_tt, dAdd_ll, dAdd_ss, dMul_ii, dMul_li, dIs_n, dIs_b, dIsN_n, dRepr_b, rt_0, rt_1, dEq, dNe, dSub, dDiv, dDivU, dMod, dLt, dLe, dGt, dGe, D.isNon, Bool.not_true, Bool.not_false, W_hankel_by])
  rw [show rangeD 0 ((size : Nat) : Int).toNat = rangeD ((0 : Nat) : Int) size by rw [Int.toNat_natCast]; rfl, rangeD_nat]
  refine ⟨⟨by omega, by omega⟩, by simp; omega, cmp_at _ (fun i => .tup (((List.range size).map fun j => xs.getD (i + j + start) 0).map rt)) _ _ (fun i hi => ⟨_, rfl, fun K k => ?_⟩) ?_⟩
  · obtain ⟨i', hi', rfl⟩ := List.mem_map.mp hi
    rw [List.mem_range] at hi'
    (try simp only [wSeq, wSet, wSetO, wRet, wIfS, wFrz, wApp, wDrop, wNext, wBreak, wCont, wNever, wVar, wVarB, wC, wBin, wUn, wT, wAnd, wOr, wNot, wAndV, wOrV, wNotV, wIte, wNil, wCons, wTup, wCall, wListOf, wC2, wIsT, wIsC, wFld, wON, wOS, wSl, wV, wO, wSetIx, wPar, wSwap, wSeqOf, wRng1, wRng2, wFor, wWhile, wYes, wComp, wEnum, wZip, wEnum2, wRgT, wRgL, wAug, dMulT, dMax, wMake, wFz, wCat, wRep, wipeE, D.ty, wIf_true, wIf_false, List.getElem?_cons_zero, List.getElem?_cons_succ, List.set_cons_zero, List.set_cons_succ, dI0_ii, dI_ii, dNeg_i, dGcd_ii, dAbs_i, dInt_i, dInt_b, dBits_i, dLen_t, dLen_l, dTuple_t, dTuple_l, dAdd_ii, dAdd_tt, dAdd_ll, dAdd_ss, dMul_ii, dMul_li, dIs_n, dIs_b, dIsN_n, dRepr_b, rt_0, rt_1, dEq, dNe, dSub, dDiv, dDivU, dMod, dLt, dLe, dGt, dGe, D.isNon, Bool.not_true, Bool.not_false])
    rw [show rangeD 0 ((size : Nat) : Int).toNat = rangeD ((0 : Nat) : Int) size by rw [Int.toNat_natCast]; rfl, rangeD_nat]
    refine ⟨⟨by omega, by omega⟩, by simp; omega, cmp_at _ (fun j => rt (xs.getD (0 + i' + j + start) 0)) _ _ (fun j hj => ⟨_, rfl, fun K k => ?_⟩) ?_⟩
    · obtain ⟨j', hj', rfl⟩ := List.mem_map.mp hj
      rw [List.mem_range] at hj'
      (try simp only [wSeq, wSet, wSetO, wRet, wIfS, wFrz, wApp, wDrop, wNext, wBreak, wCont, wNever, wVar, wVarB, wC, wBin, wUn, wT, wAnd, wOr, wNot, wAndV, wOrV, wNotV, wIte, wNil, wCons, wTup, wCall, wListOf, wC2, wIsT, wIsC, wFld, wON, wOS, wSl, wV, wO, wSetIx, wPar, wSwap, wSeqOf, wRng1, wRng2, wFor, wWhile, wYes, wComp, wEnum, wZip, wEnum2, wRgT, wRgL, wAug, dMulT, dMax, wMake, wFz, wCat, wRep, wipeE, D.ty, wIf_true, wIf_false, List.getElem?_cons_zero, List.getElem?_cons_succ, List.set_cons_zero, List.set_cons_succ, dI0_ii, dI_ii, dNeg_i, dGcd_ii, dAbs_i, dInt_i, dInt_b, dBits_i, dLen_t, dLen_l, dTuple_t, dTuple_l, dAdd_ii, dAdd_tt, dAdd_ll, dAdd_ss, dMul_ii, dMul_li, dIs_n, dIs_b, dIsN_n, dRepr_b, rt_0, rt_1, dEq, dNe, dSub, dDiv, dDivU, dMod, dLt, dLe, dGt, dGe, D.isNon, Bool.not_true, Bool.not_false])
      rw [show (((0 + i' : Nat) : Int) + ((0 + j' : Nat) : Int) + (start : Int)) = ((0 + i' + (0 + j') + start : Nat) : Int) by omega]
      exact ix_rowT (by omega) k
    · rw [List.map_map] at k ⊢
      rw [show (fun j => rt (xs.getD (0 + i' + j + start) 0)) ∘ (0 + ·) = (rt ∘ fun j => xs.getD (0 + i' + j + start) 0) by funext j; show rt (xs.getD (0 + i' + (0 + j) + start) 0) = _; rw [Nat.zero_add j]; rfl]
      exact k
  · rw [List.map_map]
    rw [show ((fun i => D.tup (((List.range size).map fun j => xs.getD (i + j + start) 0).map rt)) ∘ (0 + ·)) = fun i => D.tup (((List.range size).map fun j => xs.getD (i + j + start) 0).map rt) by funext i; show D.tup (((List.range size).map fun j => xs.getD (0 + i + j + start) 0).map rt) = _; rw [Nat.zero_add]]
    have e : tabD (hankR xs size start) = .tup ((List.range size).map fun i => D.tup (((List.range size).map fun j => xs.getD (i + j + start) 0).map rt)) := by
      unfold tabD hankR
      rw [List.map_map]
      rfl
    rw [← e]
    exact q
theorem hp__law_square_of : ∀ ds b Q, ds.length = 3 → p__law_square_of ds b Q → W__law_square_of { nx := fun _ b' => Q .non b', rt := Q } (ds.map Slot.v ++ List.replicate 2 .un) b := hp_hankel_by
theorem hp_double_from : ∀ ds b Q, ds.length = 1 → p_double_from ds b Q → W_double_from { nx := fun _ b' => Q .non b', rt := Q } (ds.map Slot.v ++ List.replicate 1 .un) b := by
  rintro ds b Q - ⟨xs, rfl, h1, h2, h3, q⟩
  show W_double_from _ [.v (.tup (xs.map rt)), .un] b
  have hr := row_rt xs
  have hf : ∀ n, (xs.map rt).length < 1000000 → (D.tup (xs.map rt)).fit (n + 3) = true := fun n h => by
    simp only [D.fit, Bool.and_eq_true, decide_eq_true_eq]
    refine ⟨h, ?_⟩
    clear h hr q h1 h2 h3
    induction xs with
    | nil => rfl
    | cons x r ih => simp only [List.map_cons, D.fits, ih, Bool.and_true]; rfl
  (try simp only [wSeq, wSet, wSetO, wRet, wIfS, wFrz, wApp, wDrop, wNext, wBreak, wCont, wNever, wVar, wVarB, wC, wBin, wUn, wT, wAnd, wOr, wNot, wAndV, wOrV, wNotV, wIte, wNil, wCons, wTup, wCall, wListOf, wC2, wIsT, wIsC, wFld, wON, wOS, wSl, wV, wO, wSetIx, wPar, wSwap, wSeqOf, wRng1, wRng2, wFor, wWhile, wYes, wComp, wEnum, wZip, wEnum2, wRgT, wRgL, wAug, dMulT, dMax, wMake, wFz, wCat, wRep, wipeE, D.ty, wIf_true, wIf_false, List.getElem?_cons_zero, List.getElem?_cons_succ, List.set_cons_zero, List.set_cons_succ, dI0_ii, dI_ii, dNeg_i, dGcd_ii, dAbs_i, dInt_i, dInt_b, dBits_i, dLen_t, dLen_l, dTuple_t, dTuple_l, dAdd_ii, dAdd_tt, dAdd_ll, dAdd_ss, dMul_ii, dMul_li, dIs_n, dIs_b, dIsN_n, dRepr_b, rt_0, rt_1, dEq, dNe, dSub, dDiv, dDivU, dMod, dLt, dLe, dGt, dGe, D.isNon, Bool.not_true, Bool.not_false, W_double_from, kMOST_ITEMS])
  refine ⟨rfl, _, _, _, _, _, rfl, hf 6 (by simp; omega), by simp only [D.tupd, hr.tupds], hr, by simp; omega, by omega, by omega, ?_⟩
  (try simp only [wSeq, wSet, wSetO, wRet, wIfS, wFrz, wApp, wDrop, wNext, wBreak, wCont, wNever, wVar, wVarB, wC, wBin, wUn, wT, wAnd, wOr, wNot, wAndV, wOrV, wNotV, wIte, wNil, wCons, wTup, wCall, wListOf, wC2, wIsT, wIsC, wFld, wON, wOS, wSl, wV, wO, wSetIx, wPar, wSwap, wSeqOf, wRng1, wRng2, wFor, wWhile, wYes, wComp, wEnum, wZip, wEnum2, wRgT, wRgL, wAug, dMulT, dMax, wMake, wFz, wCat, wRep, wipeE, D.ty, wIf_true, wIf_false, List.getElem?_cons_zero, List.getElem?_cons_succ, List.set_cons_zero, List.set_cons_succ, dI0_ii, dI_ii, dNeg_i, dGcd_ii, dAbs_i, dInt_i, dInt_b, dBits_i, dLen_t, dLen_l, dTuple_t, dTuple_l, dAdd_ii, dAdd_tt, dAdd_ll, dAdd_ss, dMul_ii, dMul_li, dIs_n, dIs_b, dIsN_n, dRepr_b, rt_0, rt_1, dEq, dNe, dSub, dDiv, dDivU, dMod, dLt, dLe, dGt, dGe, D.isNon, Bool.not_true, Bool.not_false])
  rw [List.length_map, show ((xs.length : Nat) : Int).fmod 2 = 0 by rw [Int.fmod_eq_emod_of_nonneg _ (by decide)]; omega]
  exact ⟨by decide, ⟨rfl, rfl⟩, q⟩
theorem cdiv2 {i : Int} : CDivG i 2 := ⟨by decide, by decide⟩
theorem half_up (m : Nat) : ((m : Int) + 1).fdiv 2 = (((m + 1) / 2 : Nat) : Int) := by
  rw [Int.fdiv_eq_ediv_of_nonneg _ (by decide)]
  omega
theorem start_of (m : Nat) : (if (decide (((m : Int)).fmod 2 = 1)) = true then (0 : Int) else 1) = ((if m % 2 = 1 then 0 else 1 : Nat) : Int) := by
  rw [Int.fmod_eq_emod_of_nonneg _ (by decide)]
  by_cases h : m % 2 = 1
  · rw [if_pos h, if_pos (decide_eq_true (by omega))]
    rfl
  · rw [if_neg h, if_neg (by rw [decide_eq_true_eq]; omega)]
    rfl
theorem ite_start {m : Nat} {A : D → Prop} (h : A (.int ((if m % 2 = 1 then 0 else 1 : Nat) : Int))) : wIf (PyData.eqv (D.int ((m : Int).fmod 2)).py (D.int 1).py) (A (.int 0)) (A (.int 1)) := by
  rw [eqv_int]
  have := start_of m
  refine wIf_dec (fun z => ?_) (fun z => ?_)
  · rw [if_pos (decide_eq_true z)] at this
    rw [← this] at h
    exact h
  · rw [if_neg (by rw [decide_eq_true_eq]; exact z)] at this
    rw [← this] at h
    exact h
theorem start_le (m : Nat) : 2 * ((m + 1) / 2) + (if m % 2 = 1 then 0 else 1) = m + 1 := by split <;> omega
theorem hp_step_minor : ∀ ds b Q, ds.length = 2 → p_step_minor ds b Q → W_step_minor { nx := fun _ b' => Q .non b', rt := Q } (ds.map Slot.v ++ List.replicate 0 .un) b := by
  rintro ds b Q - ⟨xs, m, rfl, h1, h2, hz, q⟩
  show W_step_minor _ [.v (.tup (xs.map rt)), .v (.int (m : Int))] b
  (try simp only [wSeq, wSet, wSetO, wRet, wIfS, wFrz, wApp, wDrop, wNext, wBreak, wCont, wNever, wVar, wVarB, wC, wBin, wUn, wT, wAnd, wOr, wNot, wAndV, wOrV, wNotV, wIte, wNil, wCons, wTup, wCall, wListOf, wC2, wIsT, wIsC, wFld, wON, wOS, wSl, wV, wO, wSetIx, wPar, wSwap, wSeqOf, wRng1, wRng2, wFor, wWhile, wYes, wComp, wEnum, wZip, wEnum2, wRgT, wRgL, wAug, dMulT, dMax, wMake, wFz, wCat, wRep, wipeE, D.ty, wIf_true, wIf_false, List.getElem?_cons_zero, List.getElem?_cons_succ, List.set_cons_zero, List.set_cons_succ, dI0_ii, dI_ii, dNeg_i, dGcd_ii, dAbs_i, dInt_i, dInt_b, dBits_i, dLen_t, dLen_l, dTuple_t, dTuple_l, dAdd_ii, dAdd_tt, dAdd_ll, dAdd_ss, dMul_ii, dMul_li, dIs_n, dIs_b, dIsN_n, dRepr_b, rt_0, rt_1, dEq, dNe, dSub, dDiv, dDivU, dMod, dLt, dLe, dGt, dGe, D.isNon, Bool.not_true, Bool.not_false, W_step_minor])
  refine ⟨cdiv2, by decide, ⟨rfl, rfl⟩, ?_⟩
  refine ite_start (m := m) (A := fun d => [D.tup (xs.map rt), D.int (((m : Int) + 1).fdiv 2), d].length = 3 ∧ p_hankel_by [D.tup (xs.map rt), D.int (((m : Int) + 1).fdiv 2), d] b fun d b' => [d].length = 1 ∧ p_determinant_by [d] b' fun d b' => Q d b') ?_
  rw [half_up]
  have hl := hz.1
  exact ⟨rfl, xs, _, _, rfl, by rw [start_le]; omega, by omega, rfl, _, rfl, hank_ok hz (by omega), q⟩
theorem find_range {p : Nat → Bool} {n : Nat} : ∀ (k : Nat), k ≤ n → (∀ i, i < k → p (1 + i) = false) → ((List.range n).map (1 + ·)).find? p = ((List.range (n - k)).map (1 + k + ·)).find? p := by
  intro k
  induction k with
  | zero => intro _ _; rfl
  | succ k ih =>
    intro hk h
    rw [ih (by omega) fun i hi => h i (by omega)]
    obtain ⟨m, hm⟩ : ∃ m, n - k = m + 1 := ⟨n - k - 1, by omega⟩
    rw [hm, show n - (k + 1) = m by omega, List.range_succ_eq_map, List.map_cons, List.find?_cons_of_neg (by rw [Nat.add_zero, h k (by omega)]; decide), List.map_map]
    congr 2
    funext i
    show 1 + k + (i + 1) = 1 + (k + 1) + i
    omega
theorem find_here {p : Nat → Bool} {n k : Nat} (hk : k < n) (h : ∀ i, i < k → p (1 + i) = false) (hp : p (1 + k) = true) : ((List.range n).map (1 + ·)).find? p = some (1 + k) := by
  rw [find_range k (Nat.le_of_lt hk) h]
  obtain ⟨m, hm⟩ : ∃ m, n - k = m + 1 := ⟨n - k - 1, by omega⟩
  rw [hm, List.range_succ_eq_map, List.map_cons, List.find?_cons_of_pos (by rw [Nat.add_zero]; exact hp), Nat.add_zero]
theorem find_no {p : Nat → Bool} {n : Nat} (h : ∀ i, i < n → p (1 + i) = false) : ((List.range n).map (1 + ·)).find? p = none := by
  rw [find_range n (Nat.le_refl _) h, Nat.sub_self]
  rfl
theorem hp_first_flat : ∀ ds b Q, ds.length = 1 → p_first_flat ds b Q → W_first_flat { nx := fun _ b' => Q .non b', rt := Q } (ds.map Slot.v ++ List.replicate 1 .un) b := by
  rintro ds b Q - ⟨xs, rfl, hz, q⟩
  show W_first_flat _ [.v (.tup (xs.map rt)), .un] b
  have hl := hz.1
  (try simp only [wSeq, wSet, wSetO, wRet, wIfS, wFrz, wApp, wDrop, wNext, wBreak, wCont, wNever, wVar, wVarB, wC, wBin, wUn, wT, wAnd, wOr, wNot, wAndV, wOrV, wNotV, wIte, wNil, wCons, wTup, wCall, wListOf, wC2, wIsT, wIsC, wFld, wON, wOS, wSl, wV, wO, wSetIx, wPar, wSwap, wSeqOf, wRng1, wRng2, wFor, wWhile, wYes, wComp, wEnum, wZip, wEnum2, wRgT, wRgL, wAug, dMulT, dMax, wMake, wFz, wCat, wRep, wipeE, D.ty, wIf_true, wIf_false, List.getElem?_cons_zero, List.getElem?_cons_succ, List.set_cons_zero, List.set_cons_succ, dI0_ii, dI_ii, dNeg_i, dGcd_ii, dAbs_i, dInt_i, dInt_b, dBits_i, dLen_t, dLen_l, dTuple_t, dTuple_l, dAdd_ii, dAdd_tt, dAdd_ll, dAdd_ss, dMul_ii, dMul_li, dIs_n, dIs_b, dIsN_n, dRepr_b, rt_0, rt_1, dEq, dNe, dSub, dDiv, dDivU, dMod, dLt, dLe, dGt, dGe, D.isNon, Bool.not_true, Bool.not_false, W_first_flat])
  rw [List.length_map]
  refine ⟨⟨by omega, by omega, by omega, by omega⟩, ?_⟩
  rw [show rangeD 1 ((xs.length : Int) + 1 - 1).toNat = rangeD ((1 : Nat) : Int) xs.length by congr 1; omega, rangeD_nat]
  refine for_rule (I := fun i env b' => b' = b ∧ (∃ s, env = [.v (.tup (xs.map rt)), s]) ∧ ∀ j, j < i → decide ((stepM xs (1 + j)).num ≤ 0) = false) ?_ ?_ _ _ ⟨rfl, ⟨_, rfl⟩, fun j hj => by omega⟩
  · rintro i d env b' E' hd ⟨rfl, ⟨s, rfl⟩, hn⟩ hnx hct hbk hrt
    have hi : i < xs.length := by
      have := (List.getElem?_eq_some_iff.mp hd).1
      simpa using this
    have ed : d = .int ((1 + i : Nat) : Int) := by
      rw [List.getElem?_map, List.getElem?_map, List.getElem?_range hi] at hd
      simp at hd
      rw [← hd]
      congr 1
    subst ed
    refine ⟨_, rfl, ?_⟩
    (try simp only [wSeq, wSet, wSetO, wRet, wIfS, wFrz, wApp, wDrop, wNext, wBreak, wCont, wNever, wVar, wVarB, wC, wBin, wUn, wT, wAnd, wOr, wNot, wAndV, wOrV, wNotV, wIte, wNil, wCons, wTup, wCall, wListOf, wC2, wIsT, wIsC, wFld, wON, wOS, wSl, wV, wO, wSetIx, wPar, wSwap, wSeqOf, wRng1, wRng2, wFor, wWhile, wYes, wComp, wEnum, wZip, wEnum2, wRgT, wRgL, wAug, dMulT, dMax, wMake, wFz, wCat, wRep, wipeE, D.ty, wIf_true, wIf_false, List.getElem?_cons_zero, List.getElem?_cons_succ, List.set_cons_zero, List.set_cons_succ, dI0_ii, dI_ii, dNeg_i, dGcd_ii, dAbs_i, dInt_i, dInt_b, dBits_i, dLen_t, dLen_l, dTuple_t, dTuple_l, dAdd_ii, dAdd_tt, dAdd_ll, dAdd_ss, dMul_ii, dMul_li, dIs_n, dIs_b, dIsN_n, dRepr_b, rt_0, rt_1, dEq, dNe, dSub, dDiv, dDivU, dMod, dLt, dLe, dGt, dGe, D.isNon, Bool.not_true, Bool.not_false])
    refine ⟨rfl, xs, 1 + i, rfl, by omega, by omega, hz, ?_⟩
    (try simp only [wSeq, wSet, wSetO, wRet, wIfS, wFrz, wApp, wDrop, wNext, wBreak, wCont, wNever, wVar, wVarB, wC, wBin, wUn, wT, wAnd, wOr, wNot, wAndV, wOrV, wNotV, wIte, wNil, wCons, wTup, wCall, wListOf, wC2, wIsT, wIsC, wFld, wON, wOS, wSl, wV, wO, wSetIx, wPar, wSwap, wSeqOf, wRng1, wRng2, wFor, wWhile, wYes, wComp, wEnum, wZip, wEnum2, wRgT, wRgL, wAug, dMulT, dMax, wMake, wFz, wCat, wRep, wipeE, D.ty, wIf_true, wIf_false, List.getElem?_cons_zero, List.getElem?_cons_succ, List.set_cons_zero, List.set_cons_succ, dI0_ii, dI_ii, dNeg_i, dGcd_ii, dAbs_i, dInt_i, dInt_b, dBits_i, dLen_t, dLen_l, dTuple_t, dTuple_l, dAdd_ii, dAdd_tt, dAdd_ll, dAdd_ss, dMul_ii, dMul_li, dIs_n, dIs_b, dIsN_n, dRepr_b, rt_0, rt_1, dEq, dNe, dSub, dDiv, dDivU, dMod, dLt, dLe, dGt, dGe, D.isNon, Bool.not_true, Bool.not_false])
    refine wIf_dec (fun h => ?_) (fun h => ?_)
    · rw [hrt]
      have e : firstFlat xs = some (1 + i) := find_here hi hn (decide_eq_true h)
      rw [e] at q
      exact q
    · refine hnx _ _ ⟨rfl, ⟨_, rfl⟩, fun j hj => ?_⟩
      by_cases z : j = i
      · subst z
        exact decide_eq_false h
      · exact hn j (by omega)
  · rintro env b' ⟨rfl, ⟨s, rfl⟩, hn⟩
    (try simp only [wSeq, wSet, wSetO, wRet, wIfS, wFrz, wApp, wDrop, wNext, wBreak, wCont, wNever, wVar, wVarB, wC, wBin, wUn, wT, wAnd, wOr, wNot, wAndV, wOrV, wNotV, wIte, wNil, wCons, wTup, wCall, wListOf, wC2, wIsT, wIsC, wFld, wON, wOS, wSl, wV, wO, wSetIx, wPar, wSwap, wSeqOf, wRng1, wRng2, wFor, wWhile, wYes, wComp, wEnum, wZip, wEnum2, wRgT, wRgL, wAug, dMulT, dMax, wMake, wFz, wCat, wRep, wipeE, D.ty, wIf_true, wIf_false, List.getElem?_cons_zero, List.getElem?_cons_succ, List.set_cons_zero, List.set_cons_succ, dI0_ii, dI_ii, dNeg_i, dGcd_ii, dAbs_i, dInt_i, dInt_b, dBits_i, dLen_t, dLen_l, dTuple_t, dTuple_l, dAdd_ii, dAdd_tt, dAdd_ll, dAdd_ss, dMul_ii, dMul_li, dIs_n, dIs_b, dIsN_n, dRepr_b, rt_0, rt_1, dEq, dNe, dSub, dDiv, dDivU, dMod, dLt, dLe, dGt, dGe, D.isNon, Bool.not_true, Bool.not_false])
    have e : firstFlat xs = none := find_no fun i hi => hn i (by simpa using hi)
    rw [e] at q
    exact q
theorem hp__law_bad_step : ∀ ds b Q, ds.length = 1 → p__law_bad_step ds b Q → W__law_bad_step { nx := fun _ b' => Q .non b', rt := Q } (ds.map Slot.v ++ List.replicate 3 .un) b := by
  rintro ds b Q - ⟨xs, rfl, hz, q⟩
  show W__law_bad_step _ [.v (.tup (xs.map rt)), .un, .un, .un] b
  have hl := hz.1
  (try simp only [wSeq, wSet, wSetO, wRet, wIfS, wFrz, wApp, wDrop, wNext, wBreak, wCont, wNever, wVar, wVarB, wC, wBin, wUn, wT, wAnd, wOr, wNot, wAndV, wOrV, wNotV, wIte, wNil, wCons, wTup, wCall, wListOf, wC2, wIsT, wIsC, wFld, wON, wOS, wSl, wV, wO, wSetIx, wPar, wSwap, wSeqOf, wRng1, wRng2, wFor, wWhile, wYes, wComp, wEnum, wZip, wEnum2, wRgT, wRgL, wAug, dMulT, dMax, wMake, wFz, wCat, wRep, wipeE, D.ty, wIf_true, wIf_false, List.getElem?_cons_zero, List.getElem?_cons_succ, List.set_cons_zero, List.set_cons_succ, dI0_ii, dI_ii, dNeg_i, dGcd_ii, dAbs_i, dInt_i, dInt_b, dBits_i, dLen_t, dLen_l, dTuple_t, dTuple_l, dAdd_ii, dAdd_tt, dAdd_ll, dAdd_ss, dMul_ii, dMul_li, dIs_n, dIs_b, dIsN_n, dRepr_b, rt_0, rt_1, dEq, dNe, dSub, dDiv, dDivU, dMod, dLt, dLe, dGt, dGe, D.isNon, Bool.not_true, Bool.not_false, W__law_bad_step])
  rw [List.length_map]
  refine ⟨⟨by omega, by omega, by omega, by omega⟩, ?_⟩
  rw [show rangeD 1 ((xs.length : Int) + 1 - 1).toNat = rangeD ((1 : Nat) : Int) xs.length by congr 1; omega, rangeD_nat]
  refine for_rule (I := fun i env b' => b' = b ∧ (∃ s s2 s3, env = [.v (.tup (xs.map rt)), s, s2, s3]) ∧ ∀ j, j < i → decide ((stepM xs (1 + j)).num ≤ 0) = false) ?_ ?_ _ _ ⟨rfl, ⟨_, _, _, rfl⟩, fun j hj => by omega⟩
  · rintro i d env b' E' hd ⟨rfl, ⟨s, s2, s3, rfl⟩, hn⟩ hnx hct hbk hrt
    have hi : i < xs.length := by
      have := (List.getElem?_eq_some_iff.mp hd).1
      simpa using this
    have ed : d = .int ((1 + i : Nat) : Int) := by
      rw [List.getElem?_map, List.getElem?_map, List.getElem?_range hi] at hd
      simp at hd
      rw [← hd]
      congr 1
    subst ed
    refine ⟨_, rfl, ?_⟩
    (try simp only [wSeq, wSet, wSetO, wRet, wIfS, wFrz, wApp, wDrop, wNext, wBreak, wCont, wNever, wVar, wVarB, wC, wBin, wUn, wT, wAnd, wOr, wNot, wAndV, wOrV, wNotV, wIte, wNil, wCons, wTup, wCall, wListOf, wC2, wIsT, wIsC, wFld, wON, wOS, wSl, wV, wO, wSetIx, wPar, wSwap, wSeqOf, wRng1, wRng2, wFor, wWhile, wYes, wComp, wEnum, wZip, wEnum2, wRgT, wRgL, wAug, dMulT, dMax, wMake, wFz, wCat, wRep, wipeE, D.ty, wIf_true, wIf_false, List.getElem?_cons_zero, List.getElem?_cons_succ, List.set_cons_zero, List.set_cons_succ, dI0_ii, dI_ii, dNeg_i, dGcd_ii, dAbs_i, dInt_i, dInt_b, dBits_i, dLen_t, dLen_l, dTuple_t, dTuple_l, dAdd_ii, dAdd_tt, dAdd_ll, dAdd_ss, dMul_ii, dMul_li, dIs_n, dIs_b, dIsN_n, dRepr_b, rt_0, rt_1, dEq, dNe, dSub, dDiv, dDivU, dMod, dLt, dLe, dGt, dGe, D.isNon, Bool.not_true, Bool.not_false])
    refine ⟨cdiv2, by decide, ⟨rfl, rfl⟩, ?_⟩
    have fin : ∀ st : Nat, st = (if (1 + i) % 2 = 1 then 0 else 1) → ([D.tup (xs.map rt), D.int ((((1 + i : Nat) : Int) + 1).fdiv 2), D.int (st : Int)].length = 3 ∧ p__law_square_of [D.tup (xs.map rt), D.int ((((1 + i : Nat) : Int) + 1).fdiv 2), D.int (st : Int)] b' fun d b' => [d].length = 1 ∧ p__law_determinant [d] b' fun d b'' => dIx d (.int 0) fun d => dI0 (fun i j => D.bl (decide (i ≤ j))) d (.int 0) fun d => match d with
        | .bl c => wIf c (E'.rt (.int ((1 + i : Nat) : Int)) b'') (E'.nx [.v (.tup (xs.map rt)), .v (.int ((1 + i : Nat) : Int)), .v (.int ((((1 + i : Nat) : Int) + 1).fdiv 2)), .v (.int (st : Int))] b'')
        | _ => False) := by
      rintro st rfl
      rw [half_up]
      refine ⟨rfl, xs, _, _, rfl, by rw [start_le]; omega, by omega, rfl, .inl ⟨_, rfl, hank_ok hz (by omega), ?_⟩⟩
      (try simp only [wSeq, wSet, wSetO, wRet, wIfS, wFrz, wApp, wDrop, wNext, wBreak, wCont, wNever, wVar, wVarB, wC, wBin, wUn, wT, wAnd, wOr, wNot, wAndV, wOrV, wNotV, wIte, wNil, wCons, wTup, wCall, wListOf, wC2, wIsT, wIsC, wFld, wON, wOS, wSl, wV, wO, wSetIx, wPar, wSwap, wSeqOf, wRng1, wRng2, wFor, wWhile, wYes, wComp, wEnum, wZip, wEnum2, wRgT, wRgL, wAug, dMulT, dMax, wMake, wFz, wCat, wRep, wipeE, D.ty, wIf_true, wIf_false, List.getElem?_cons_zero, List.getElem?_cons_succ, List.set_cons_zero, List.set_cons_succ, dI0_ii, dI_ii, dNeg_i, dGcd_ii, dAbs_i, dInt_i, dInt_b, dBits_i, dLen_t, dLen_l, dTuple_t, dTuple_l, dAdd_ii, dAdd_tt, dAdd_ll, dAdd_ss, dMul_ii, dMul_li, dIs_n, dIs_b, dIsN_n, dRepr_b, rt_0, rt_1, dEq, dNe, dSub, dDiv, dDivU, dMod, dLt, dLe, dGt, dGe, D.isNon, Bool.not_true, Bool.not_false])
      refine wIf_dec (fun h => ?_) (fun h => ?_)
      · rw [hrt]
        have e : firstFlat xs = some (1 + i) := find_here hi hn (decide_eq_true h)
        rw [e] at q
        exact q
      · refine hnx _ _ ⟨rfl, ⟨_, _, _, rfl⟩, fun j hj => ?_⟩
        by_cases z : j = i
        · subst z
          exact decide_eq_false h
        · exact hn j (by omega)
    rw [eqv_int]
    have := start_of (1 + i)
    refine wIf_dec (fun z => ?_) (fun z => ?_)
    · rw [if_pos (decide_eq_true z)] at this
      exact fin 0 (by omega)
    · rw [if_neg (by rw [decide_eq_true_eq]; exact z)] at this
      exact fin 1 (by omega)
  · rintro env b' ⟨rfl, ⟨s, s2, s3, rfl⟩, hn⟩
    (try simp only [wSeq, wSet, wSetO, wRet, wIfS, wFrz, wApp, wDrop, wNext, wBreak, wCont, wNever, wVar, wVarB, wC, wBin, wUn, wT, wAnd, wOr, wNot, wAndV, wOrV, wNotV, wIte, wNil, wCons, wTup, wCall, wListOf, wC2, wIsT, wIsC, wFld, wON, wOS, wSl, wV, wO, wSetIx, wPar, wSwap, wSeqOf, wRng1, wRng2, wFor, wWhile, wYes, wComp, wEnum, wZip, wEnum2, wRgT, wRgL, wAug, dMulT, dMax, wMake, wFz, wCat, wRep, wipeE, D.ty, wIf_true, wIf_false, List.getElem?_cons_zero, List.getElem?_cons_succ, List.set_cons_zero, List.set_cons_succ, dI0_ii, dI_ii, dNeg_i, dGcd_ii, dAbs_i, dInt_i, dInt_b, dBits_i, dLen_t, dLen_l, dTuple_t, dTuple_l, dAdd_ii, dAdd_tt, dAdd_ll, dAdd_ss, dMul_ii, dMul_li, dIs_n, dIs_b, dIsN_n, dRepr_b, rt_0, rt_1, dEq, dNe, dSub, dDiv, dDivU, dMod, dLt, dLe, dGt, dGe, D.isNon, Bool.not_true, Bool.not_false])
    have e : firstFlat xs = none := find_no fun i hi => hn i (by simpa using hi)
    rw [e] at q
    exact q
end En
/-! What several laws need: rows compared, draws, cuts. -/
namespace En
open PySem PySem.Spec PyProof.Rows L2
def D.tolds (es : List D) : List Rat := es.map fun e => e.told.getD 0
theorem num_pos' {x : Rat} (h : 0 < x.num) : 0 < x := by
  refine Rat.lt_of_le_of_ne (Rat.num_nonneg.mp (by omega)) fun z => ?_
  rw [← z] at h
  exact absurd h (by decide)
theorem pos_num {x : Rat} (h : 0 < x) : 0 < x.num := by
  have h1 := Rat.num_nonneg.mpr (Rat.le_of_lt h)
  have h2 : x.num ≠ 0 := fun z => by
    rw [Rat.num_eq_zero] at z
    rw [z] at h
    exact absurd h (Rat.lt_irrefl)
  omega
theorem flats_rt (n : Nat) : ∀ xs : List Rat, D.flats (n + 1) (xs.map rt) = true
  | [] => rfl
  | x :: r => by simp only [List.map_cons, D.flats, flats_rt n r, Bool.and_true]; rfl
theorem pys_map : ∀ ds : List D, D.pys ds = ds.map D.py
  | [] => rfl
  | d :: r => by simp only [D.pys, List.map_cons, pys_map r]
theorem eqvAll_rt : ∀ xs ys : List Rat, PyData.eqvAll (D.pys (xs.map rt)) (D.pys (ys.map rt)) = decide (xs = ys)
  | [], [] => rfl
  | [], y :: s => by simp [D.pys, PyData.eqvAll]
  | x :: r, [] => by simp [D.pys, PyData.eqvAll]
  | x :: r, y :: s => by
    simp only [List.map_cons, D.pys, PyData.eqvAll]
    rw [eqv_rt, eqvAll_rt r s]
    by_cases h : x = y
    · subst h; simp
    · simp [h]
theorem eqv_rows (xs ys : List Rat) : PyData.eqv (D.tup (xs.map rt)).py (D.tup (ys.map rt)).py = decide (xs = ys) := by
  simp only [D.py, PyData.eqv]
  exact eqvAll_rt xs ys
theorem flat_rows (xs : List Rat) : (D.tup (xs.map rt)).flat 9 = true := flats_rt 7 xs
theorem flat_opt (o : Option Nat) : (optD o).flat 9 = true := by cases o <;> rfl
theorem ty_opt (o : Option Nat) : (optD o).ty.isSome = true := by cases o <;> rfl
theorem eqv_opt (i : Int) (o : Option Nat) : PyData.eqv (D.int i).py (optD o).py = (match o with | some f => decide (i = (f : Int)) | none => false) := by
  cases o with
  | none => rfl
  | some f => exact eqv_int i f
theorem tolds_rt {es : List D} (h : (es.all fun e => e.told.isSome) = true) : es = (D.tolds es).map rt := by
  unfold D.tolds
  rw [List.map_map]
  refine (List.ext_getElem? fun i => ?_)
  rw [List.getElem?_map]
  cases e : es[i]? with
  | none => rfl
  | some d =>
    have hd : d ∈ es := List.mem_of_getElem? e
    have h1 := List.all_eq_true.mp h d hd
    obtain ⟨x, hx⟩ := Option.isSome_iff_exists.mp h1
    show some d = some (rt (d.told.getD 0))
    rw [hx]
    show some d = some (rt x)
    rw [← told_some hx]
theorem anys_map {α : Type} {f : α → Bool} (es : List α) : es.map (fun d => D.bl (f d)) = (es.map f).map D.bl ∧ (es.map f).any id = es.any f := by
  constructor
  · rw [List.map_map]; rfl
  · rw [List.any_map]; rfl
theorem any_not (a : List Rat) : (a.any fun x => decide (x.num ≤ 0)) = !(a.all fun x => decide (¬ x.num ≤ 0)) := by
  induction a with
  | nil => rfl
  | cons x r ih =>
    rw [List.any_cons, List.all_cons, ih, Bool.not_and, decide_not, Bool.not_not]
def p__law_draw : Spec := fun ds b Q => ∃ many : Nat, ds = [.pen, .int (many : Int)] ∧ 1 ≤ many ∧ many ≤ 1000000 ∧ 1 ≤ b ∧ ∀ d : Nat, d < many → Q (.int (d : Int)) (b - 1)
def p__law_pick : Spec := fun ds b Q => ∃ es : List D, ds = [.pen, .lst es] ∧ es ≠ [] ∧ es.length ≤ 1000000 ∧ 1 ≤ b ∧ ∀ e ∈ es, Q e (b - 1)
/-- _law_pick: pen, some -/
def W__law_pick : WS := (wRet (wBin dIx (wVarB 1) (wCall 2 p__law_draw (wCons (wVar 0) (wCons (wUn dLen (wVarB 1)) wNil)))))
theorem hp__law_pick : ∀ ds b Q, ds.length = 2 → p__law_pick ds b Q → W__law_pick { nx := fun _ b' => Q .non b', rt := Q } (ds.map Slot.v ++ List.replicate 0 .un) b := by
  rintro ds b Q - ⟨es, rfl, h0, h1, hb, q⟩
  show W__law_pick _ [.v .pen, .v (.lst es)] b
  (try simp only [wSeq, wSet, wSetO, wRet, wIfS, wFrz, wApp, wDrop, wNext, wBreak, wCont, wNever, wVar, wVarB, wC, wBin, wUn, wT, wAnd, wOr, wNot, wAndV, wOrV, wNotV, wIte, wNil, wCons, wTup, wCall, wListOf, wC2, wIsT, wIsC, wFld, wON, wOS, wSl, wV, wO, wSetIx, wPar, wSwap, wSeqOf, wRng1, wRng2, wFor, wWhile, wYes, wComp, wEnum, wZip, wEnum2, wRgT, wRgL, wAug, dMulT, dMax, wMake, wFz, wCat, wRep, wipeE, D.ty, wIf_true, wIf_false, List.getElem?_cons_zero, List.getElem?_cons_succ, List.set_cons_zero, List.set_cons_succ, dI0_ii, dI_ii, dNeg_i, dGcd_ii, dAbs_i, dInt_i, dInt_b, dBits_i, dLen_t, dLen_l, dTuple_t, dTuple_l, dAdd_ii, dAdd_tt, dAdd_ll, dAdd_ss, dMul_ii, dMul_li, dIs_n, dIs_b, dIsN_n, dRepr_b, rt_0, rt_1, dEq, dNe, dSub, dDiv, dDivU, dMod, dLt, dLe, dGt, dGe, D.isNon, Bool.not_true, Bool.not_false, W__law_pick])
  refine ⟨rfl, es.length, rfl, by have := List.length_pos_iff.mpr h0; omega, h1, hb, fun d hd => ?_⟩
  exact dIx_l (List.getElem?_eq_getElem hd) (q _ (List.getElem_mem hd))
theorem natCast_ne' {n : Nat} (h : 0 < n) : (n : Rat) ≠ 0 := by
  intro z
  have : n = 0 := by exact_mod_cast z
  omega
theorem FrA.nd {a D : Nat} {x : Rat} (h : FrA a D x) (hD : 0 < D) : x.num.natAbs < 2 ^ a ∧ x.den ≤ D := by
  obtain ⟨n, e, hn⟩ := h
  have hD' := natCast_ne' hD
  have ex : x = Rat.divInt n (D : Int) := by
    rw [Rat.divInt_eq_div]
    have e2 : ((D : Int) : Rat) = (D : Rat) := rfl
    rw [e2, ← e]
    grind
  subst ex
  constructor
  · rw [Rat.num_divInt, Int.sign_eq_one_of_pos (by omega), Int.one_mul]
    exact Nat.lt_of_le_of_lt (natAbs_div_le _ _) hn
  · rw [Rat.den_divInt, if_neg (by omega)]
    exact Nat.div_le_self _ _
theorem rt_ok {x : Rat} (h : Sz x) : (rt x).shal = true ∧ (rt x).smallPair := by
  refine ⟨rfl, ?_, ?_⟩
  · exact big_log h.n (by decide) (by decide)
  · exact big_log h.den (by decide) (by decide)
theorem rowOk_of {es : List D} (hl : es.length < 1000000) (h : ∀ e ∈ es, e.shal = true ∧ e.smallPair) : (D.tup es).rowOk := ⟨hl, h⟩
theorem rowOk_rt {a : List Rat} (hl : a.length < 1000000) (h : ∀ x ∈ a, Sz x) : (D.tup (a.map rt)).rowOk := by
  refine ⟨by rw [List.length_map]; exact hl, fun e he => ?_⟩
  obtain ⟨x, hx, rfl⟩ := List.mem_map.mp he
  exact rt_ok (h x hx)
theorem map_inj_rt {a c : List Rat} (h : D.tup (a.map rt) = D.tup (c.map rt)) : a = c := by
  simp only [D.tup.injEq] at h
  exact (List.map_inj_right (fun x y => rt_inj)).mp h
theorem cutD_all {α : Type} (xs : List α) : cutD xs none none = xs := by
  unfold cutD
  show (xs.drop 0).take (xs.length - 0) = xs
  simp
theorem cut_to {α : Type} (xs : List α) (k : Nat) : cutD xs none (some (k : Int)) = xs.take k := by
  unfold cutD
  rw [HT.sIx_nat, HT.sIx_none, List.drop_zero, Nat.sub_zero]
  by_cases h : k ≤ xs.length
  · rw [Nat.min_eq_left h]
  · rw [Nat.min_eq_right (by omega), List.take_of_length_le (Nat.le_refl _), List.take_of_length_le (by omega)]
theorem cut_from {α : Type} (xs : List α) (k : Nat) : cutD xs (some (k : Int)) none = xs.drop k := by
  unfold cutD
  rw [HT.sIx_nat, HT.sIx_none]
  by_cases h : k ≤ xs.length
  · rw [Nat.min_eq_left h, List.take_of_length_le (by simp)]
  · rw [Nat.min_eq_right (by omega), List.drop_length, List.drop_of_length_le (by omega)]
    simp
end En
/-! Heights: a crude measure of ratios. -/
namespace En
open PySem PySem.Spec PyProof.Rows L2
structure Hz (k : Nat) (x : Rat) : Prop where
  n : x.num.natAbs < 2 ^ k
  d : x.den < 2 ^ k
theorem Hz.sz {x : Rat} {k : Nat} (h : Hz k x) (hk : k ≤ SB) : Sz x := ⟨Nat.lt_of_lt_of_le h.n (Nat.pow_le_pow_right (by decide) hk), Nat.lt_of_lt_of_le h.d (Nat.pow_le_pow_right (by decide) hk)⟩
theorem Hz.mono {x : Rat} {k l : Nat} (h : Hz k x) (hk : k ≤ l) : Hz l x := ⟨Nat.lt_of_lt_of_le h.n (Nat.pow_le_pow_right (by decide) hk), Nat.lt_of_lt_of_le h.d (Nat.pow_le_pow_right (by decide) hk)⟩
theorem natAbs_le_mul {a b : Int} (hb : b ≠ 0) : a.natAbs ≤ (a * b).natAbs := by
  rw [Int.natAbs_mul]
  exact Nat.le_mul_of_pos_right _ (by omega)
theorem hz_divInt {t k : Int} (hk : k ≠ 0) {n : Nat} (h1 : t.natAbs < 2 ^ n) (h2 : k.natAbs < 2 ^ n) : Hz n (Rat.divInt t k) := by
  obtain ⟨e1, e2⟩ := low_eq (t := t) hk
  have f1 := fdiv_dvd (byOf_dvd_t t k) (byOf_ne (t := t) hk)
  have f2 := fdiv_dvd (byOf_dvd_b t k) (byOf_ne (t := t) hk)
  have b0 := byOf_ne (t := t) hk
  constructor
  · rw [e1]
    have := natAbs_le_mul (a := t.fdiv (byOf t k)) b0
    rw [f1] at this
    omega
  · have := natAbs_le_mul (a := k.fdiv (byOf t k)) b0
    rw [f2, ← e2, Int.natAbs_natCast] at this
    omega
section
variable {x y : Rat} {k l : Nat}
theorem Hz.dn (h : Hz k x) : (x.den : Int).natAbs < 2 ^ k := by rw [Int.natAbs_natCast]; exact h.d
theorem two_pow_le {a b n : Nat} (h : a < 2 ^ b) (hb : b ≤ n) : a < 2 ^ n := Nat.lt_of_lt_of_le h (Nat.pow_le_pow_right (by decide) hb)
theorem Hz.add (h : Hz k x) (h' : Hz l y) : Hz (k + l + 1) (x + y) := by
  rw [add_rt]
  refine hz_divInt (dens_ne x y) ?_ (two_pow_le (natAbs_mul_lt h.dn h'.dn) (by omega))
  exact natAbs_add_lt (natAbs_mul_lt h.n h'.dn) (by rw [Nat.add_comm k l]; exact natAbs_mul_lt h'.n h.dn)
theorem Hz.sub (h : Hz k x) (h' : Hz l y) : Hz (k + l + 1) (x - y) := by
  rw [sub_rt]
  refine hz_divInt (dens_ne x y) ?_ (two_pow_le (natAbs_mul_lt h.dn h'.dn) (by omega))
  exact natAbs_sub_lt (natAbs_mul_lt h.n h'.dn) (by rw [Nat.add_comm k l]; exact natAbs_mul_lt h'.n h.dn)
theorem Hz.mul (h : Hz k x) (h' : Hz l y) : Hz (k + l) (x * y) := by
  rw [mul_rt]
  exact hz_divInt (dens_ne x y) (natAbs_mul_lt h.n h'.n) (natAbs_mul_lt h.dn h'.dn)
theorem Hz.div (h : Hz k x) (h' : Hz l y) (h0 : y ≠ 0) : Hz (k + l) (x / y) := by
  rw [div_rt]
  exact hz_divInt (Int.mul_ne_zero (by have := den_pos x; omega) (num_ne h0)) (natAbs_mul_lt h.n h'.dn) (natAbs_mul_lt h.dn h'.n)
theorem Hz.neg (h : Hz k x) : Hz k (-x) := ⟨by rw [Rat.neg_num, Int.natAbs_neg]; exact h.n, by rw [Rat.neg_den]; exact h.d⟩
theorem hz_0 (k : Nat) : Hz (k + 1) 0 := ⟨Nat.two_pow_pos _, Nat.one_lt_two_pow (by omega)⟩
theorem hz_1 (k : Nat) : Hz (k + 1) 1 := ⟨Nat.one_lt_two_pow (by omega), Nat.one_lt_two_pow (by omega)⟩
end
theorem FrA.hz {a D k : Nat} {x : Rat} (h : FrA a D x) (hD : 0 < D) (ha : a ≤ k) (hd : D < 2 ^ k) : Hz k x := by
  obtain ⟨n, e, hn⟩ := h
  have hD' : (D : Rat) ≠ 0 := by
    intro z
    have : D = 0 := by exact_mod_cast z
    omega
  have ex : x = Rat.divInt n (D : Int) := by
    rw [Rat.divInt_eq_div]
    have e2 : ((D : Int) : Rat) = (D : Rat) := rfl
    rw [e2, ← e]
    grind
  rw [ex]
  exact hz_divInt (by omega) (two_pow_le hn ha) (by rw [Int.natAbs_natCast]; exact hd)
/-- all items of a row -/
def HzL (k : Nat) (xs : List Rat) : Prop := ∀ x ∈ xs, Hz k x
theorem HzL.get {k : Nat} {xs : List Rat} (h : HzL (k + 1) xs) (i : Nat) : Hz (k + 1) (xs.getD i 0) := by
  rw [List.getD_eq_getElem?_getD]
  cases e : xs[i]? with
  | none => exact hz_0 k
  | some x => exact h x (List.mem_of_getElem? e)
theorem HzL.mono {k l : Nat} {xs : List Rat} (h : HzL k xs) (hk : k ≤ l) : HzL l xs := fun x hx => (h x hx).mono hk
theorem HzL.sz {k : Nat} {xs : List Rat} (h : HzL k xs) (hk : k ≤ SB) : ∀ x ∈ xs, Sz x := fun x hx => (h x hx).sz hk
end En
/-! Pivots of tables of rationals, as functions; combinations of rows above change none. -/
namespace En
open PySem PySem.Spec PyProof.Rows L2
abbrev Mt := Nat → Nat → Rat
/-- put the first row away -/
def Sch (Y : Mt) : Mt := fun i j => Y (i + 1) (j + 1) - Y (i + 1) 0 / Y 0 0 * Y 0 (j + 1)
def piv : Nat → Mt → Rat
  | 0, Y => Y 0 0
  | k + 1, Y => piv k (Sch Y)
/-- a combination of the first k rows -/
inductive Comb (Y : Mt) (k : Nat) : (Nat → Rat) → Prop
  | zero : Comb Y k fun _ => 0
  | add {v : Nat → Rat} {c : Rat} {i : Nat} : Comb Y k v → i < k → Comb Y k fun j => v j + c * Y i j
theorem Comb.app {Y : Mt} {k : Nat} {v u : Nat → Rat} (h : Comb Y k v) (g : Comb Y k u) : Comb Y k fun j => v j + u j := by
  induction g with
  | zero =>
    have e : (fun j => v j + (0 : Rat)) = v := by funext j; grind
    rw [e]; exact h
  | @add u c i _ hi ih =>
    have e : (fun j => v j + (u j + c * Y i j)) = fun j => (v j + u j) + c * Y i j := by funext j; grind
    rw [e]; exact .add ih hi
/-- X is Y, each row with a combination of rows above -/
def Low (X Y : Mt) : Prop := ∀ i, Comb Y i fun j => X i j - Y i j
theorem Low.refl (Y : Mt) : Low Y Y := fun i => by
  have e : (fun j => Y i j - Y i j) = fun _ => (0 : Rat) := by funext j; grind
  rw [e]; exact .zero
theorem Low.row0 {X Y : Mt} (h : Low X Y) (j : Nat) : X 0 j = Y 0 j := by
  have := h 0
  generalize hv : (fun j => X 0 j - Y 0 j) = v at this
  cases this with
  | zero =>
    have h2 : X 0 j - Y 0 j = 0 := congrFun hv j
    grind
  | add _ hi => omega
theorem comb_sch {Y : Mt} (h0 : Y 0 0 ≠ 0) {k : Nat} {v : Nat → Rat} (h : Comb Y (k + 1) v) : Comb (Sch Y) k fun j => v (j + 1) - v 0 / Y 0 0 * Y 0 (j + 1) := by
  induction h with
  | zero =>
    have e : (fun j => (0 : Rat) - 0 / Y 0 0 * Y 0 (j + 1)) = fun _ => 0 := by funext j; grind
    rw [e]; exact .zero
  | @add v c i _ hi ih =>
    cases i with
    | zero =>
      have e : (fun j => v (j + 1) + c * Y 0 (j + 1) - (v 0 + c * Y 0 0) / Y 0 0 * Y 0 (j + 1)) = fun j => v (j + 1) - v 0 / Y 0 0 * Y 0 (j + 1) := by
        funext j
        generalize Y 0 0 = y at h0
        grind
      rw [e]; exact ih
    | succ i =>
      have e : (fun j => v (j + 1) + c * Y (i + 1) (j + 1) - (v 0 + c * Y (i + 1) 0) / Y 0 0 * Y 0 (j + 1)) = fun j => (v (j + 1) - v 0 / Y 0 0 * Y 0 (j + 1)) + c * Sch Y i j := by
        funext j
        unfold Sch
        generalize Y 0 0 = y at h0
        grind
      rw [e]; exact .add ih (by omega)
theorem Low.sch {X Y : Mt} (h : Low X Y) (h0 : Y 0 0 ≠ 0) : Low (Sch X) (Sch Y) := fun i => by
  have h1 := comb_sch h0 (h (i + 1))
  have e : (fun j => Sch X i j - Sch Y i j) = fun j => (X (i + 1) (j + 1) - Y (i + 1) (j + 1)) - (X (i + 1) 0 - Y (i + 1) 0) / Y 0 0 * Y 0 (j + 1) := by
    funext j
    unfold Sch
    rw [h.row0, h.row0]
    generalize Y 0 0 = y at h0
    grind
  rw [e]; exact h1
theorem Low.piv : ∀ (k : Nat) {X Y : Mt}, Low X Y → (∀ i, i < k → piv i Y ≠ 0) → piv k X = piv k Y
  | 0, X, Y, h, _ => h.row0 0
  | k + 1, X, Y, h, hp => Low.piv k (h.sch (hp 0 (by omega))) fun i hi => hp (i + 1) (by omega)
end En
/-! Hurwitz' table as a function; Routh's numbers are its pivots. -/
namespace En
def shf (f : Nat → Rat) (t j : Nat) : Rat := if t ≤ j then f (j - t) else 0
def hur (f0 f1 : Nat → Rat) : Mt := fun i j => if i % 2 = 0 then shf f1 (i / 2) j else shf f0 (i / 2) j
def nx2 (f0 f1 : Nat → Rat) : Nat → Rat := fun j => f0 (j + 1) - f0 0 / f1 0 * f1 (j + 1)
theorem shf_s (f : Nat → Rat) (t j : Nat) : shf f (t + 1) (j + 1) = shf f t j := by
  unfold shf
  by_cases h : t ≤ j
  · rw [if_pos h, if_pos (by omega), Nat.add_sub_add_right]
  · rw [if_neg h, if_neg (by omega)]
theorem shf_z (f : Nat → Rat) (t : Nat) : shf f (t + 1) 0 = 0 := by
  unfold shf
  rw [if_neg (by omega)]
theorem hur_e (f0 f1 : Nat → Rat) (t j : Nat) : hur f0 f1 (2 * t) j = shf f1 t j := by
  unfold hur
  rw [if_pos (by omega), show 2 * t / 2 = t by omega]
theorem hur_o (f0 f1 : Nat → Rat) (t j : Nat) : hur f0 f1 (2 * t + 1) j = shf f0 t j := by
  unfold hur
  rw [if_neg (by omega), show (2 * t + 1) / 2 = t by omega]
theorem shf_0 (f : Nat → Rat) (j : Nat) : shf f 0 j = f j := by
  unfold shf
  rw [if_pos (by omega), Nat.sub_zero]
theorem hur_00 (f0 f1 : Nat → Rat) (j : Nat) : hur f0 f1 0 j = f1 j := by
  have := hur_e f0 f1 0 j
  rw [Nat.mul_zero] at this
  rw [this, shf_0]
theorem low_hur {f0 f1 : Nat → Rat} (h : f1 0 ≠ 0) : Low (Sch (hur f0 f1)) (hur f1 (nx2 f0 f1)) := by
  intro i
  have cases3 : i = 0 ∨ (∃ t, i = 2 * t + 1) ∨ ∃ t, i = 2 * t + 2 := by
    by_cases z : i = 0
    · exact .inl z
    · by_cases o : i % 2 = 1
      · exact .inr (.inl ⟨i / 2, by omega⟩)
      · exact .inr (.inr ⟨i / 2 - 1, by omega⟩)
  rcases cases3 with rfl | ⟨t, rfl⟩ | ⟨t, rfl⟩
  · have e : (fun j => Sch (hur f0 f1) 0 j - hur f1 (nx2 f0 f1) 0 j) = fun _ => (0 : Rat) := by
      funext j
      rw [hur_00]
      unfold Sch nx2
      have e1 : ∀ j, hur f0 f1 (0 + 1) j = f0 j := fun j => by
        have := hur_o f0 f1 0 j
        rw [Nat.mul_zero] at this
        rw [this, shf_0]
      rw [e1, e1, hur_00, hur_00]
      grind
    rw [e]; exact .zero
  · have e : (fun j => Sch (hur f0 f1) (2 * t + 1) j - hur f1 (nx2 f0 f1) (2 * t + 1) j) = fun _ => (0 : Rat) := by
      funext j
      rw [hur_o]
      unfold Sch
      rw [show 2 * t + 1 + 1 = 2 * (t + 1) by omega, hur_e, hur_e, shf_s, shf_z]
      grind
    rw [e]; exact .zero
  · have e : (fun j => Sch (hur f0 f1) (2 * t + 2) j - hur f1 (nx2 f0 f1) (2 * t + 2) j) = fun j => (0 : Rat) + f0 0 / f1 0 * hur f1 (nx2 f0 f1) (2 * t + 1) j := by
      funext j
      rw [hur_o]
      unfold Sch
      rw [show 2 * t + 2 + 1 = 2 * (t + 1) + 1 by omega, hur_o, hur_o, show 2 * t + 2 = 2 * (t + 1) by omega, hur_e, shf_s, shf_z]
      have e2 : shf (nx2 f0 f1) (t + 1) j = shf f0 t j - f0 0 / f1 0 * shf f1 t j := by
        unfold shf nx2
        by_cases c : t + 1 ≤ j
        · rw [if_pos c, if_pos (by omega), if_pos (by omega), show j - (t + 1) + 1 = j - t by omega]
        · rw [if_neg c]
          by_cases c2 : t ≤ j
          · rw [if_pos c2, if_pos c2, show j - t = 0 by omega]
            generalize f1 0 = y at h
            grind
          · rw [if_neg c2, if_neg c2]
            grind
      rw [e2]
      grind
    rw [e]; exact .add .zero (by omega)
/-- Routh's numbers -/
def rou : Nat → (Nat → Rat) → (Nat → Rat) → Rat
  | 0, _, f1 => f1 0
  | k + 1, f0, f1 => rou k f1 (nx2 f0 f1)
theorem piv_hur : ∀ (k : Nat) (f0 f1 : Nat → Rat), (∀ i, i < k → rou i f0 f1 ≠ 0) → piv k (hur f0 f1) = rou k f0 f1
  | 0, f0, f1, _ => hur_00 f0 f1 0
  | k + 1, f0, f1, h => by
    have h0 : f1 0 ≠ 0 := h 0 (by omega)
    show piv k (Sch (hur f0 f1)) = rou k f1 (nx2 f0 f1)
    have hn : ∀ i, i < k → rou i f1 (nx2 f0 f1) ≠ 0 := fun i hi => h (i + 1) (by omega)
    rw [Low.piv k (low_hur h0) fun i hi => by
      rw [piv_hur i f1 (nx2 f0 f1) fun j hj => hn j (by omega)]
      exact hn i hi]
    exact piv_hur k f1 (nx2 f0 f1) hn
termination_by k => k
/-- the product of the first pivots -/
def prodp : Nat → Mt → Rat
  | 0, _ => 1
  | m + 1, Y => Y 0 0 * prodp m (Sch Y)
theorem prodp_last : ∀ (m : Nat) (Y : Mt), prodp (m + 1) Y = prodp m Y * piv m Y
  | 0, Y => by simp only [prodp, piv]; grind
  | m + 1, Y => by
    rw [prodp, prodp_last m (Sch Y), prodp]
    show _ = _ * piv m (Sch Y)
    grind
/-- if all first minors are above 0, so are the pivots -/
theorem piv_pos {Y : Mt} {n : Nat} (h : ∀ m, m < n → (∀ i, i < m → piv i Y ≠ 0) → 0 < prodp (m + 1) Y) : ∀ m, m ≤ n → (∀ i, i < m → 0 < piv i Y) ∧ 0 < prodp m Y := by
  intro m
  induction m with
  | zero => exact fun _ => ⟨fun i hi => by omega, show (0 : Rat) < 1 by decide⟩
  | succ m ih =>
    intro hn
    obtain ⟨a, c⟩ := ih (by omega)
    have h1 := h m (by omega) fun i hi z => by
      have := a i hi
      rw [z] at this
      exact absurd this (by decide)
    refine ⟨fun i hi => ?_, h1⟩
    by_cases z : i < m
    · exact a i z
    · obtain rfl : i = m := by omega
      rw [prodp_last] at h1
      by_cases q : 0 < piv i Y
      · exact q
      · have h2 : 0 ≤ prodp i Y * -piv i Y := Rat.mul_nonneg (Rat.le_of_lt c) (by grind)
        grind
theorem rou_pos {f0 f1 : Nat → Rat} {n : Nat} (h : ∀ i, i < n → 0 < piv i (hur f0 f1)) : ∀ i, i < n → 0 < rou i f0 f1 := by
  have go : ∀ m, m ≤ n → ∀ i, i < m → 0 < rou i f0 f1 := by
    intro m
    induction m with
    | zero => exact fun _ i hi => by omega
    | succ m ih =>
      intro hm i hi
      by_cases z : i < m
      · exact ih (by omega) i z
      · obtain rfl : i = m := by omega
        have := h i (by omega)
        rw [piv_hur i f0 f1 fun j hj q => by
          have := ih (by omega) j hj
          rw [q] at this
          exact absurd this (by decide)] at this
        exact this
  exact fun i hi => go n (Nat.le_refl _) i hi
/-- the pivots hang on the first entries alone -/
theorem piv_cong : ∀ (k : Nat) {X Y : Mt}, (∀ i j, i ≤ k → j ≤ k → X i j = Y i j) → piv k X = piv k Y
  | 0, X, Y, h => h 0 0 (Nat.le_refl _) (Nat.le_refl _)
  | k + 1, X, Y, h => piv_cong k fun i j hi hj => by
    unfold Sch
    rw [h (i + 1) (j + 1) (by omega) (by omega), h (i + 1) 0 (by omega) (by omega), h 0 0 (by omega) (by omega), h 0 (j + 1) (by omega) (by omega)]
theorem prodp_cong : ∀ (m : Nat) {X Y : Mt}, (∀ i j, i < m → j < m → X i j = Y i j) → prodp m X = prodp m Y
  | 0, X, Y, h => rfl
  | m + 1, X, Y, h => by
    rw [prodp, prodp, h 0 0 (by omega) (by omega), prodp_cong m fun i j hi hj => ?_]
    unfold Sch
    rw [h (i + 1) (j + 1) (by omega) (by omega), h (i + 1) 0 (by omega) (by omega), h 0 0 (by omega) (by omega), h 0 (j + 1) (by omega) (by omega)]
end En
/-! The determinant is the product of the pivots. -/
namespace En
def entF (M : List (List Rat)) (k : Nat) : Mt := fun i j => ent M (k + i) (k + j)
theorem heads_nil {M : List (List Rat)} {k : Nat} (h : ∀ i, k ≤ i → i < M.length → ent M i k = 0) : heads M k = [] := by
  unfold heads
  rw [List.filter_eq_nil_iff]
  intro i hi
  obtain ⟨j, hj, rfl⟩ := List.mem_map.mp hi
  rw [List.mem_range] at hj
  rw [h (k + j) (by omega) (by omega)]
  decide
theorem heads_cons {M : List (List Rat)} {k : Nat} (hk : k < M.length) (h : ent M k k ≠ 0) : ∃ t, heads M k = k :: t := by
  unfold heads
  obtain ⟨d, hd⟩ : ∃ d, M.length - k = d + 1 := ⟨M.length - k - 1, by omega⟩
  rw [hd, List.range_succ_eq_map, List.map_cons, List.filter_cons, if_pos (by simpa using h)]
  exact ⟨_, by rw [Nat.add_zero]⟩
theorem swapR_self {M : List (List Rat)} {k : Nat} : swapR M k k = M := by
  unfold swapR
  rw [if_pos rfl]
theorem elim_ent {n k : Nat} {M : List (List Rat)} (sq : Sq n M) (hk : k < n) {i j : Nat} (hi : i + 1 + k < n) (hj : j + 1 + k < n) : entF (elimR M k n) (k + 1) i j = Sch (entF M k) i j := by
  unfold entF Sch ent
  rw [elim_row sq (by omega), if_pos ⟨by omega, by omega⟩, zipSub_get (by rw [sq.row _ (by omega)]; omega) (by rw [sq.row _ hk]; omega)]
  dsimp only
  rw [Nat.add_zero, show k + 1 + i = k + (i + 1) by omega, show k + 1 + j = k + (j + 1) by omega]
  rfl
theorem detGo_prod : ∀ (f k : Nat) (M : List (List Rat)) (out : Rat), Sq (f + k) M → (∀ i, i + 1 < f → piv i (entF M k) ≠ 0) → detGo f k M out = out * prodp f (entF M k)
  | 0, k, M, out, _, _ => by simp only [detGo, prodp]; grind
  | f + 1, k, M, out, sq, h => by
    have hl : M.length = f + 1 + k := sq.len
    by_cases z : ent M k k = 0
    · -- then it is the last
      have hf : f = 0 := by
        rcases Nat.eq_zero_or_pos f with q | q
        · exact q
        · exact absurd z (h 0 (by omega))
      subst hf
      have hn : heads M k = [] := heads_nil fun i h1 h2 => by
        obtain rfl : i = k := by omega
        exact z
      simp only [detGo, hn, prodp]
      show (0 : Rat) = out * (ent M (k + 0) (k + 0) * 1)
      rw [Nat.add_zero, z]
      grind
    · obtain ⟨t, ht⟩ := heads_cons (by omega) z
      simp only [detGo, ht]
      rw [swapR_self, if_pos trivial, hl]
      have sq' : Sq (f + (k + 1)) M := by
        rw [show f + (k + 1) = f + 1 + k by omega]
        exact sq
      have sqe : Sq (f + (k + 1)) (elimR M k (f + 1 + k)) := elim_sq sq' (by omega)
      have ee : ∀ i j, i < f → j < f → entF (elimR M k (f + 1 + k)) (k + 1) i j = Sch (entF M k) i j := fun i j hi hj => elim_ent sq (by omega) (by omega) (by omega)
      rw [detGo_prod f (k + 1) _ _ sqe fun i hi => ?_]
      · rw [prodp_cong f ee]
        show _ = out * (ent M (k + 0) (k + 0) * _)
        rw [Nat.add_zero]
        grind
      · rw [piv_cong i fun a c ha hc => ee a c (by omega) (by omega)]
        exact h (i + 1) (by omega)
theorem det_prod {n : Nat} {M : List (List Rat)} (sq : Sq n M) (h : ∀ i, i + 1 < n → piv i (fun i j => ent M i j) ≠ 0) : detR M = prodp n fun i j => ent M i j := by
  have e : entF M 0 = fun i j => ent M i j := by
    funext i j
    unfold entF
    rw [Nat.zero_add, Nat.zero_add]
  have := detGo_prod n 0 M 1 sq (by rw [e]; exact h)
  unfold detR
  rw [sq.len, this, e]
  grind
end En
/-! Polynomials as rows. -/
namespace En
open PySem PySem.Spec PyProof.Rows L2
abbrev tupR (xs : List Rat) : D := .tup (xs.map rt)
def trimN (xs : List Rat) : Nat → Nat
  | 0 => 0
  | m + 1 => if xs.getD m 0 = 0 then trimN xs m else m + 1
def trimR (xs : List Rat) : List Rat := xs.take (trimN xs xs.length)
theorem trimN_le (xs : List Rat) : ∀ m, trimN xs m ≤ m
  | 0 => Nat.le_refl _
  | m + 1 => by
    unfold trimN
    split
    · exact Nat.le_succ_of_le (trimN_le xs m)
    · exact Nat.le_refl _
theorem trimR_self {xs : List Rat} {m : Nat} (h : xs.length = m + 1) (h0 : xs.getD m 0 ≠ 0) : trimR xs = xs := by
  unfold trimR
  rw [h]
  unfold trimN
  rw [if_neg h0, ← h, List.take_length]
theorem trimR_mem {xs : List Rat} {x : Rat} (h : x ∈ trimR xs) : x ∈ xs := List.mem_of_mem_take h
theorem trimR_len (xs : List Rat) : (trimR xs).length ≤ xs.length := by
  unfold trimR
  rw [List.length_take]
  omega
def p_trimmed : Spec := fun ds b Q => ∃ (d : D) (xs : List Rat), ds = [d] ∧ (d = .tup (xs.map rt) ∨ d = .lst (xs.map rt)) ∧ xs.length ≤ 1000000 ∧ Q (tupR (trimR xs)) b
/-- trimmed: row, many -/
def W_trimmed : WS := (wSeq (wSet 1 (wUn dLen (wVarB 0))) (wSeq (wWhile (wAnd (wT (wBin dGt (wVarB 1) (wC (.int 0)))) (wT (wBin dEq (wBin dIx (wVarB 0) (wBin dSub (wVarB 1) (wC (.int 1)))) (wC kNONE)))) (wAug 1 (fun i j => i - j) (wC (.int 1)))) (wRet (wUn dTuple (wSl (wVarB 0) wON (wOS (wVar 1)))))))
theorem hp_trimmed : ∀ ds b Q, ds.length = 1 → p_trimmed ds b Q → W_trimmed { nx := fun _ b' => Q .non b', rt := Q } (ds.map Slot.v ++ List.replicate 1 .un) b := by
  rintro ds b Q - ⟨d, xs, rfl, hd, hl, q⟩
  show W_trimmed _ [.v d, .un] b
  have hlen : ∀ K : D → Prop, dLen d K = K (.int (xs.length : Nat)) := fun K => by
    rcases hd with rfl | rfl <;> (show K _ = _; rw [List.length_map])
  have hix : ∀ (m : Nat) (K : D → Prop), m < xs.length → K (rt (xs.getD m 0)) → dIx d (.int (m : Int)) K := fun m K hm k => by
    rcases hd with rfl | rfl
    · exact ix_rowT hm k
    · exact ix_row hm k
  have hcut : ∀ m : Nat, cutD (xs.map rt) none (some (m : Int)) = (xs.take m).map rt := fun m => by
    unfold cutD
    rw [HT.sIx_nat, HT.sIx_none, List.drop_zero, Nat.sub_zero, List.map_take]
    by_cases h : m ≤ (xs.map rt).length
    · rw [Nat.min_eq_left h]
    · rw [Nat.min_eq_right (by omega), List.take_of_length_le (Nat.le_refl _), List.take_of_length_le (by omega)]
  (try simp only [wSeq, wSet, wSetO, wRet, wIfS, wFrz, wApp, wDrop, wNext, wBreak, wCont, wNever, wVar, wVarB, wC, wBin, wUn, wT, wAnd, wOr, wNot, wAndV, wOrV, wNotV, wIte, wNil, wCons, wTup, wCall, wListOf, wC2, wIsT, wIsC, wFld, wON, wOS, wSl, wV, wO, wSetIx, wPar, wSwap, wSeqOf, wRng1, wRng2, wFor, wWhile, wYes, wComp, wEnum, wZip, wEnum2, wRgT, wRgL, wAug, dMulT, dMax, wMake, wFz, wCat, wRep, wipeE, D.ty, wIf_true, wIf_false, List.getElem?_cons_zero, List.getElem?_cons_succ, List.set_cons_zero, List.set_cons_succ, dI0_ii, dI_ii, dNeg_i, dGcd_ii, dAbs_i, dInt_i, dInt_b, dBits_i, dLen_t, dLen_l, dTuple_t, dTuple_l, dAdd_ii, dAdd_tt, dAdd_ll, dAdd_ss, dMul_ii, dMul_li, dIs_n, dIs_b, dIsN_n, dRepr_b, rt_0, rt_1, dEq, dNe, dSub, dDiv, dDivU, dMod, dLt, dLe, dGt, dGe, D.isNon, Bool.not_true, Bool.not_false, W_trimmed])
  rw [hlen]
  refine while_rule (I := fun m env b' => b' = b ∧ env = [.v d, .v (.int (m : Nat))] ∧ m ≤ xs.length ∧ trimN xs xs.length = trimN xs m) ?_ xs.length _ _ ⟨rfl, rfl, Nat.le_refl _, rfl⟩
  rintro m env b' K ⟨rfl, rfl, hm, ht⟩ kt kf
  (try simp only [wSeq, wSet, wSetO, wRet, wIfS, wFrz, wApp, wDrop, wNext, wBreak, wCont, wNever, wVar, wVarB, wC, wBin, wUn, wT, wAnd, wOr, wNot, wAndV, wOrV, wNotV, wIte, wNil, wCons, wTup, wCall, wListOf, wC2, wIsT, wIsC, wFld, wON, wOS, wSl, wV, wO, wSetIx, wPar, wSwap, wSeqOf, wRng1, wRng2, wFor, wWhile, wYes, wComp, wEnum, wZip, wEnum2, wRgT, wRgL, wAug, dMulT, dMax, wMake, wFz, wCat, wRep, wipeE, D.ty, wIf_true, wIf_false, List.getElem?_cons_zero, List.getElem?_cons_succ, List.set_cons_zero, List.set_cons_succ, dI0_ii, dI_ii, dNeg_i, dGcd_ii, dAbs_i, dInt_i, dInt_b, dBits_i, dLen_t, dLen_l, dTuple_t, dTuple_l, dAdd_ii, dAdd_tt, dAdd_ll, dAdd_ss, dMul_ii, dMul_li, dIs_n, dIs_b, dIsN_n, dRepr_b, rt_0, rt_1, dEq, dNe, dSub, dDiv, dDivU, dMod, dLt, dLe, dGt, dGe, D.isNon, Bool.not_true, Bool.not_false])
  have stop : trimN xs xs.length = m → K false b' := fun e => by
    refine kf b' ?_
    (try simp only [wSeq, wSet, wSetO, wRet, wIfS, wFrz, wApp, wDrop, wNext, wBreak, wCont, wNever, wVar, wVarB, wC, wBin, wUn, wT, wAnd, wOr, wNot, wAndV, wOrV, wNotV, wIte, wNil, wCons, wTup, wCall, wListOf, wC2, wIsT, wIsC, wFld, wON, wOS, wSl, wV, wO, wSetIx, wPar, wSwap, wSeqOf, wRng1, wRng2, wFor, wWhile, wYes, wComp, wEnum, wZip, wEnum2, wRgT, wRgL, wAug, dMulT, dMax, wMake, wFz, wCat, wRep, wipeE, D.ty, wIf_true, wIf_false, List.getElem?_cons_zero, List.getElem?_cons_succ, List.set_cons_zero, List.set_cons_succ, dI0_ii, dI_ii, dNeg_i, dGcd_ii, dAbs_i, dInt_i, dInt_b, dBits_i, dLen_t, dLen_l, dTuple_t, dTuple_l, dAdd_ii, dAdd_tt, dAdd_ll, dAdd_ss, dMul_ii, dMul_li, dIs_n, dIs_b, dIsN_n, dRepr_b, rt_0, rt_1, dEq, dNe, dSub, dDiv, dDivU, dMod, dLt, dLe, dGt, dGe, D.isNon, Bool.not_true, Bool.not_false])
    unfold trimR at q
    rw [e] at q
    rcases hd with rfl | rfl <;> (show Q (.tup (cutD (xs.map rt) none (some (m : Int)))) b'; rw [hcut]; exact q)
  refine wIf_dec (fun h0 => ?_) (fun h0 => ?_)
  · obtain ⟨n, rfl⟩ : ∃ n, m = n + 1 := ⟨m - 1, by omega⟩
    rw [show ((n + 1 : Nat) : Int) - 1 = (n : Int) by omega]
    refine hix n _ (by omega) ?_
    (try simp only [wSeq, wSet, wSetO, wRet, wIfS, wFrz, wApp, wDrop, wNext, wBreak, wCont, wNever, wVar, wVarB, wC, wBin, wUn, wT, wAnd, wOr, wNot, wAndV, wOrV, wNotV, wIte, wNil, wCons, wTup, wCall, wListOf, wC2, wIsT, wIsC, wFld, wON, wOS, wSl, wV, wO, wSetIx, wPar, wSwap, wSeqOf, wRng1, wRng2, wFor, wWhile, wYes, wComp, wEnum, wZip, wEnum2, wRgT, wRgL, wAug, dMulT, dMax, wMake, wFz, wCat, wRep, wipeE, D.ty, wIf_true, wIf_false, List.getElem?_cons_zero, List.getElem?_cons_succ, List.set_cons_zero, List.set_cons_succ, dI0_ii, dI_ii, dNeg_i, dGcd_ii, dAbs_i, dInt_i, dInt_b, dBits_i, dLen_t, dLen_l, dTuple_t, dTuple_l, dAdd_ii, dAdd_tt, dAdd_ll, dAdd_ss, dMul_ii, dMul_li, dIs_n, dIs_b, dIsN_n, dRepr_b, rt_0, rt_1, dEq, dNe, dSub, dDiv, dDivU, dMod, dLt, dLe, dGt, dGe, D.isNon, Bool.not_true, Bool.not_false])
    refine ⟨⟨rfl, rfl⟩, ?_⟩
    rw [kNONE_eq, eqv_rt]
    by_cases z : xs.getD n 0 = 0
    · rw [decide_eq_true z]
      refine kt b' ⟨n, rfl, fun E' hn hc hb hr => ?_⟩
      (try simp only [wSeq, wSet, wSetO, wRet, wIfS, wFrz, wApp, wDrop, wNext, wBreak, wCont, wNever, wVar, wVarB, wC, wBin, wUn, wT, wAnd, wOr, wNot, wAndV, wOrV, wNotV, wIte, wNil, wCons, wTup, wCall, wListOf, wC2, wIsT, wIsC, wFld, wON, wOS, wSl, wV, wO, wSetIx, wPar, wSwap, wSeqOf, wRng1, wRng2, wFor, wWhile, wYes, wComp, wEnum, wZip, wEnum2, wRgT, wRgL, wAug, dMulT, dMax, wMake, wFz, wCat, wRep, wipeE, D.ty, wIf_true, wIf_false, List.getElem?_cons_zero, List.getElem?_cons_succ, List.set_cons_zero, List.set_cons_succ, dI0_ii, dI_ii, dNeg_i, dGcd_ii, dAbs_i, dInt_i, dInt_b, dBits_i, dLen_t, dLen_l, dTuple_t, dTuple_l, dAdd_ii, dAdd_tt, dAdd_ll, dAdd_ss, dMul_ii, dMul_li, dIs_n, dIs_b, dIsN_n, dRepr_b, rt_0, rt_1, dEq, dNe, dSub, dDiv, dDivU, dMod, dLt, dLe, dGt, dGe, D.isNon, Bool.not_true, Bool.not_false])
      refine hn _ _ ⟨rfl, ?_, by omega, ?_⟩
      · rw [show ((n + 1 : Nat) : Int) - 1 = (n : Int) by omega]
      · rw [ht]
        show (if xs.getD n 0 = 0 then trimN xs n else n + 1) = _
        rw [if_pos z]
    · rw [decide_eq_false z]
      refine stop ?_
      rw [ht]
      show (if xs.getD n 0 = 0 then trimN xs n else n + 1) = _
      rw [if_neg z]
  · obtain rfl : m = 0 := by omega
    exact stop ht
end En
/-! Polynomials as rows: times a ratio, less, times, every other item. -/
namespace En
open PySem PySem.Spec PyProof.Rows L2
def byR (xs : List Rat) (z : Rat) : List Rat := xs.map (· * z)
def p_poly_by : Spec := fun ds b Q => ∃ xs z, ds = [tupR xs, rt z] ∧ xs.length < 1000000 ∧ Sz z ∧ (∀ x ∈ xs, Sz x) ∧ Q (tupR (trimR (byR xs z))) b
def padR (n : Nat) (xs : List Rat) : List Rat := xs ++ List.replicate (n - xs.length) 0
def subR (xs ys : List Rat) : List Rat := ((padR (max xs.length ys.length) xs).zip (padR (max xs.length ys.length) ys)).map fun q => q.1 - q.2
def p_poly_less : Spec := fun ds b Q => ∃ xs ys, ds = [tupR xs, tupR ys] ∧ xs.length ≤ 1000 ∧ ys.length ≤ 1000 ∧ (∀ x ∈ xs, Sz x) ∧ (∀ y ∈ ys, Sz y) ∧ Q (tupR (trimR (subR xs ys))) b
def parR (xs : List Rat) (p : Nat) : List Rat := xs.zipIdx.map fun q => if q.2 % 2 = p then q.1 else 0
def p_same_parity : Spec := fun ds b Q => ∃ (xs : List Rat) (p : Nat), ds = [tupR xs, .int (p : Int)] ∧ xs.length < 1000000 ∧ Q (tupR (trimR (parR xs p))) b
/-- the first i rows of the product, the next one as far as j -/
def cnvA (xs ys : List Rat) : Nat → Nat → Rat
  | 0, _ => 0
  | i + 1, k => cnvA xs ys i k + if i ≤ k ∧ k - i < ys.length then xs.getD i 0 * ys.getD (k - i) 0 else 0
def cnvP (xs ys : List Rat) (i j k : Nat) : Rat := cnvA xs ys i k + if i ≤ k ∧ k - i < j then xs.getD i 0 * ys.getD (k - i) 0 else 0
def mulR (xs ys : List Rat) : List Rat := (List.range (xs.length + ys.length - 1)).map (cnvA xs ys xs.length)
def p_poly_times : Spec := fun ds b Q => ∃ xs ys, ds = [tupR xs, tupR ys] ∧ xs.length ≤ 1000 ∧ ys.length ≤ 1000 ∧ (∃ p q, HzL (p + 1) xs ∧ HzL (q + 1) ys ∧ (xs.length + 1) * (p + q + 3) + 1 ≤ SB) ∧ Q (tupR (trimR (mulR xs ys))) b
/-- poly_by: row, ratio, item -/
def W_poly_by : WS := (wRet (wCall 1 p_trimmed (wCons (wFz (wComp [2] (.one 2) (wSeqOf (wVar 0)) wYes (wCall 2 p_scaled (wCons (wVar 2) (wCons (wVar 1) wNil))))) wNil)))
/-- poly_less: one, other, long, first, second, a, b -/
def W_poly_less : WS := (wSeq (wSet 2 (wC2 dMax (wCons (wUn dLen (wVarB 0)) (wCons (wUn dLen (wVarB 1)) wNil)))) (wSeq (wPar 3 4 (wV (wBin dAdd (wUn dTuple (wVarB 0)) (wBin dMulT (wTup (wCons (wC kNONE) wNil)) (wBin dSub (wVarB 2) (wUn dLen (wVarB 0)))))) (wV (wBin dAdd (wUn dTuple (wVarB 1)) (wBin dMulT (wTup (wCons (wC kNONE) wNil)) (wBin dSub (wVarB 2) (wUn dLen (wVarB 1))))))) (wRet (wCall 1 p_trimmed (wCons (wFz (wComp [5, 6] (.tup [5, 6]) (wZip (wCons (wVar 3) (wCons (wVar 4) wNil))) wYes (wCall 2 p_lessened (wCons (wVar 5) (wCons (wVar 6) wNil))))) wNil)))))
/-- same_parity: row, parity, k, item -/
def W_same_parity : WS := (wRet (wCall 1 p_trimmed (wCons (wFz (wComp [2, 3] (.tup [2, 3]) (wEnum2 (wCons (wVar 0) wNil)) wYes (wIte (wT (wBin dEq (wBin dMod (wVarB 2) (wC (.int 2))) (wVarB 1))) (wVar 3) (wC kNONE)))) wNil)))
/-- poly_times: one, other, out, i, a, j, b -/
def W_poly_times : WS := (wSeq (wSetO 2 (wRep (wFz (wCons (wC kNONE) wNil)) (wC2 dMax (wCons (wBin dSub (wBin dAdd (wUn dLen (wVarB 0)) (wUn dLen (wVarB 1))) (wC (.int 1))) (wCons (wC (.int 0)) wNil))))) (wSeq (wFor (.tup [3, 4]) (wEnum2 (wCons (wVar 0) wNil)) (wFor (.tup [5, 6]) (wEnum2 (wCons (wVar 1) wNil)) (wSetIx 2 (wCall 2 p_summed (wCons (wBin dIx (wVarB 2) (wBin dAdd (wVarB 3) (wVarB 5))) (wCons (wCall 2 p_scaled (wCons (wVar 4) (wCons (wVar 6) wNil))) wNil))) (wBin dAdd (wVarB 3) (wVarB 5))))) (wFrz 2 (wRet (wCall 1 p_trimmed (wCons (wVar 2) wNil))))))
theorem hp_poly_by : ∀ ds b Q, ds.length = 2 → p_poly_by ds b Q → W_poly_by { nx := fun _ b' => Q .non b', rt := Q } (ds.map Slot.v ++ List.replicate 1 .un) b := by
  rintro ds b Q - ⟨xs, z, rfl, hl, hz, hx, q⟩
  show W_poly_by _ [.v (tupR xs), .v (rt z), .un] b
  (try simp only [wSeq, wSet, wSetO, wRet, wIfS, wFrz, wApp, wDrop, wNext, wBreak, wCont, wNever, wVar, wVarB, wC, wBin, wUn, wT, wAnd, wOr, wNot, wAndV, wOrV, wNotV, wIte, wNil, wCons, wTup, wCall, wListOf, wC2, wIsT, wIsC, wFld, wON, wOS, wSl, wV, wO, wSetIx, wPar, wSwap, wSeqOf, wRng1, wRng2, wFor, wWhile, wYes, wComp, wEnum, wZip, wEnum2, wRgT, wRgL, wAug, dMulT, dMax, wMake, wFz, wCat, wRep, wipeE, D.ty, wIf_true, wIf_false, List.getElem?_cons_zero, List.getElem?_cons_succ, List.set_cons_zero, List.set_cons_succ, dI0_ii, dI_ii, dNeg_i, dGcd_ii, dAbs_i, dInt_i, dInt_b, dBits_i, dLen_t, dLen_l, dTuple_t, dTuple_l, dAdd_ii, dAdd_tt, dAdd_ll, dAdd_ss, dMul_ii, dMul_li, dIs_n, dIs_b, dIsN_n, dRepr_b, rt_0, rt_1, dEq, dNe, dSub, dDiv, dDivU, dMod, dLt, dLe, dGt, dGe, D.isNon, Bool.not_true, Bool.not_false, W_poly_by])
  refine ⟨by rw [List.length_map]; exact hl, cmp_at rt (fun x => rt (x * z)) xs _ (fun x h => ⟨_, rfl, fun K k => by (try simp only [wSeq, wSet, wSetO, wRet, wIfS, wFrz, wApp, wDrop, wNext, wBreak, wCont, wNever, wVar, wVarB, wC, wBin, wUn, wT, wAnd, wOr, wNot, wAndV, wOrV, wNotV, wIte, wNil, wCons, wTup, wCall, wListOf, wC2, wIsT, wIsC, wFld, wON, wOS, wSl, wV, wO, wSetIx, wPar, wSwap, wSeqOf, wRng1, wRng2, wFor, wWhile, wYes, wComp, wEnum, wZip, wEnum2, wRgT, wRgL, wAug, dMulT, dMax, wMake, wFz, wCat, wRep, wipeE, D.ty, wIf_true, wIf_false, List.getElem?_cons_zero, List.getElem?_cons_succ, List.set_cons_zero, List.set_cons_succ, dI0_ii, dI_ii, dNeg_i, dGcd_ii, dAbs_i, dInt_i, dInt_b, dBits_i, dLen_t, dLen_l, dTuple_t, dTuple_l, dAdd_ii, dAdd_tt, dAdd_ll, dAdd_ss, dMul_ii, dMul_li, dIs_n, dIs_b, dIsN_n, dRepr_b, rt_0, rt_1, dEq, dNe, dSub, dDiv, dDivU, dMod, dLt, dLe, dGt, dGe, D.isNon, Bool.not_true, Bool.not_false]); exact ⟨rfl, _, _, rfl, hx x h, hz, trivial, k⟩⟩) ?_⟩
  exact ⟨rfl, _, byR xs z, rfl, .inr (by unfold byR; rw [List.map_map]; rfl), by unfold byR; rw [List.length_map]; omega, q⟩
theorem rep_one (k : Nat) (d : D) : (List.replicate k [d]).flatten = List.replicate k d := by
  induction k with
  | zero => rfl
  | succ k ih => rw [List.replicate_succ, List.flatten_cons, ih, List.replicate_succ]; rfl
theorem pad_rt (n : Nat) (xs : List Rat) : xs.map rt ++ List.replicate (n - xs.length) kNONE = (padR n xs).map rt := by
  unfold padR
  rw [List.map_append, List.map_replicate]
  rfl
theorem pad_len {n : Nat} {xs : List Rat} (h : xs.length ≤ n) : (padR n xs).length = n := by
  unfold padR
  rw [List.length_append, List.length_replicate]
  omega
theorem pad_mem {n : Nat} {xs : List Rat} {P : Rat → Prop} (h0 : P 0) (h : ∀ x ∈ xs, P x) : ∀ x ∈ padR n xs, P x := by
  intro x hx
  unfold padR at hx
  rcases List.mem_append.mp hx with hx | hx
  · exact h x hx
  · rw [(List.mem_replicate.mp hx).2]; exact h0
theorem hp_poly_less : ∀ ds b Q, ds.length = 2 → p_poly_less ds b Q → W_poly_less { nx := fun _ b' => Q .non b', rt := Q } (ds.map Slot.v ++ List.replicate 5 .un) b := by
  rintro ds b Q - ⟨xs, ys, rfl, hl, hl', hx, hy, q⟩
  show W_poly_less _ [.v (tupR xs), .v (tupR ys), .un, .un, .un, .un, .un] b
  (try simp only [wSeq, wSet, wSetO, wRet, wIfS, wFrz, wApp, wDrop, wNext, wBreak, wCont, wNever, wVar, wVarB, wC, wBin, wUn, wT, wAnd, wOr, wNot, wAndV, wOrV, wNotV, wIte, wNil, wCons, wTup, wCall, wListOf, wC2, wIsT, wIsC, wFld, wON, wOS, wSl, wV, wO, wSetIx, wPar, wSwap, wSeqOf, wRng1, wRng2, wFor, wWhile, wYes, wComp, wEnum, wZip, wEnum2, wRgT, wRgL, wAug, dMulT, dMax, wMake, wFz, wCat, wRep, wipeE, D.ty, wIf_true, wIf_false, List.getElem?_cons_zero, List.getElem?_cons_succ, List.set_cons_zero, List.set_cons_succ, dI0_ii, dI_ii, dNeg_i, dGcd_ii, dAbs_i, dInt_i, dInt_b, dBits_i, dLen_t, dLen_l, dTuple_t, dTuple_l, dAdd_ii, dAdd_tt, dAdd_ll, dAdd_ss, dMul_ii, dMul_li, dIs_n, dIs_b, dIsN_n, dRepr_b, rt_0, rt_1, dEq, dNe, dSub, dDiv, dDivU, dMod, dLt, dLe, dGt, dGe, D.isNon, Bool.not_true, Bool.not_false, W_poly_less])
  rw [List.length_map, List.length_map]
  have e : (if ((ys.length : Nat) : Int) > ((xs.length : Nat) : Int) then ((ys.length : Nat) : Int) else ((xs.length : Nat) : Int)) = ((max xs.length ys.length : Nat) : Int) := by
    split <;> omega
  rw [e]
  have hn1 : xs.length ≤ max xs.length ys.length := Nat.le_max_left _ _
  have hn2 : ys.length ≤ max xs.length ys.length := Nat.le_max_right _ _
  have hn3 : max xs.length ys.length ≤ 1000 := Nat.max_le.mpr ⟨hl, hl'⟩
  have e1 : (((max xs.length ys.length : Nat) : Int) - ((xs.length : Nat) : Int)).toNat = max xs.length ys.length - xs.length := by omega
  have e2 : (((max xs.length ys.length : Nat) : Int) - ((ys.length : Nat) : Int)).toNat = max xs.length ys.length - ys.length := by omega
  refine ⟨⟨by simp, by omega, by omega, by decide⟩, ?_⟩
  rw [e1, rep_one, List.length_replicate, pad_rt]
  refine ⟨by omega, ⟨by simp, by omega, by omega, by decide⟩, ?_⟩
  rw [e2, rep_one, List.length_replicate, pad_rt]
  refine ⟨by omega, ?_⟩
  have f1 := pad_len hn1
  have f2 := pad_len hn2
  refine ⟨by rw [zipD_length, List.length_map, List.length_map, f1, f2, Nat.min_self]; omega, ?_⟩
  rw [zipD_rt]
  refine cmp_at (fun q : Rat × Rat => D.tup [rt q.1, rt q.2]) (fun q => rt (q.1 - q.2)) _ _ (fun z h => ⟨_, rfl, fun K k => ?_⟩) ?_
  · have h1 := List.of_mem_zip h
    (try simp only [wSeq, wSet, wSetO, wRet, wIfS, wFrz, wApp, wDrop, wNext, wBreak, wCont, wNever, wVar, wVarB, wC, wBin, wUn, wT, wAnd, wOr, wNot, wAndV, wOrV, wNotV, wIte, wNil, wCons, wTup, wCall, wListOf, wC2, wIsT, wIsC, wFld, wON, wOS, wSl, wV, wO, wSetIx, wPar, wSwap, wSeqOf, wRng1, wRng2, wFor, wWhile, wYes, wComp, wEnum, wZip, wEnum2, wRgT, wRgL, wAug, dMulT, dMax, wMake, wFz, wCat, wRep, wipeE, D.ty, wIf_true, wIf_false, List.getElem?_cons_zero, List.getElem?_cons_succ, List.set_cons_zero, List.set_cons_succ, dI0_ii, dI_ii, dNeg_i, dGcd_ii, dAbs_i, dInt_i, dInt_b, dBits_i, dLen_t, dLen_l, dTuple_t, dTuple_l, dAdd_ii, dAdd_tt, dAdd_ll, dAdd_ss, dMul_ii, dMul_li, dIs_n, dIs_b, dIsN_n, dRepr_b, rt_0, rt_1, dEq, dNe, dSub, dDiv, dDivU, dMod, dLt, dLe, dGt, dGe, D.isNon, Bool.not_true, Bool.not_false])
    exact ⟨rfl, _, _, rfl, pad_mem sz_zero hx _ h1.1, pad_mem sz_zero hy _ h1.2, trivial, k⟩
  · refine ⟨rfl, _, subR xs ys, rfl, .inr (by unfold subR; rw [List.map_map]; rfl), ?_, q⟩
    unfold subR
    rw [List.length_map, List.length_zip, f1, f2, Nat.min_self]
    omega
theorem enumD_rt : ∀ (xs : List Rat) (n : Nat), enumD n (xs.map rt) = (xs.zipIdx n).map fun q => D.tup [.int (q.2 : Int), rt q.1]
  | [], _ => rfl
  | x :: xs, n => by
    rw [List.map_cons, List.zipIdx_cons, List.map_cons, ← enumD_rt xs (n + 1)]
    rfl
theorem hp_same_parity : ∀ ds b Q, ds.length = 2 → p_same_parity ds b Q → W_same_parity { nx := fun _ b' => Q .non b', rt := Q } (ds.map Slot.v ++ List.replicate 2 .un) b := by
  rintro ds b Q - ⟨xs, p, rfl, hl, q⟩
  show W_same_parity _ [.v (tupR xs), .v (.int (p : Int)), .un, .un] b
  (try simp only [wSeq, wSet, wSetO, wRet, wIfS, wFrz, wApp, wDrop, wNext, wBreak, wCont, wNever, wVar, wVarB, wC, wBin, wUn, wT, wAnd, wOr, wNot, wAndV, wOrV, wNotV, wIte, wNil, wCons, wTup, wCall, wListOf, wC2, wIsT, wIsC, wFld, wON, wOS, wSl, wV, wO, wSetIx, wPar, wSwap, wSeqOf, wRng1, wRng2, wFor, wWhile, wYes, wComp, wEnum, wZip, wEnum2, wRgT, wRgL, wAug, dMulT, dMax, wMake, wFz, wCat, wRep, wipeE, D.ty, wIf_true, wIf_false, List.getElem?_cons_zero, List.getElem?_cons_succ, List.set_cons_zero, List.set_cons_succ, dI0_ii, dI_ii, dNeg_i, dGcd_ii, dAbs_i, dInt_i, dInt_b, dBits_i, dLen_t, dLen_l, dTuple_t, dTuple_l, dAdd_ii, dAdd_tt, dAdd_ll, dAdd_ss, dMul_ii, dMul_li, dIs_n, dIs_b, dIsN_n, dRepr_b, rt_0, rt_1, dEq, dNe, dSub, dDiv, dDivU, dMod, dLt, dLe, dGt, dGe, D.isNon, Bool.not_true, Bool.not_false, W_same_parity])
  refine ⟨by rw [enumD_length, List.length_map]; exact hl, ?_⟩
  rw [enumD_rt]
  refine cmp_at (fun q : Rat × Nat => D.tup [.int (q.2 : Int), rt q.1]) (fun q => rt (if q.2 % 2 = p then q.1 else 0)) xs.zipIdx _ (fun z h => ⟨_, rfl, fun K k => ?_⟩) ?_
  · (try simp only [wSeq, wSet, wSetO, wRet, wIfS, wFrz, wApp, wDrop, wNext, wBreak, wCont, wNever, wVar, wVarB, wC, wBin, wUn, wT, wAnd, wOr, wNot, wAndV, wOrV, wNotV, wIte, wNil, wCons, wTup, wCall, wListOf, wC2, wIsT, wIsC, wFld, wON, wOS, wSl, wV, wO, wSetIx, wPar, wSwap, wSeqOf, wRng1, wRng2, wFor, wWhile, wYes, wComp, wEnum, wZip, wEnum2, wRgT, wRgL, wAug, dMulT, dMax, wMake, wFz, wCat, wRep, wipeE, D.ty, wIf_true, wIf_false, List.getElem?_cons_zero, List.getElem?_cons_succ, List.set_cons_zero, List.set_cons_succ, dI0_ii, dI_ii, dNeg_i, dGcd_ii, dAbs_i, dInt_i, dInt_b, dBits_i, dLen_t, dLen_l, dTuple_t, dTuple_l, dAdd_ii, dAdd_tt, dAdd_ll, dAdd_ss, dMul_ii, dMul_li, dIs_n, dIs_b, dIsN_n, dRepr_b, rt_0, rt_1, dEq, dNe, dSub, dDiv, dDivU, dMod, dLt, dLe, dGt, dGe, D.isNon, Bool.not_true, Bool.not_false])
    refine ⟨by decide, ⟨rfl, rfl⟩, ?_⟩
    rw [eqv_int]
    have e : ((z.2 : Nat) : Int).fmod 2 = ((z.2 % 2 : Nat) : Int) := by rw [Int.fmod_eq_emod_of_nonneg _ (by decide)]; omega
    rw [e]
    refine wIf_dec (fun h1 => ?_) (fun h1 => ?_)
    · rw [if_pos (by omega)] at k; exact k
    · rw [if_neg (by omega)] at k; exact k
  · exact ⟨rfl, _, parR xs p, rfl, .inr (by unfold parR; rw [List.map_map]; rfl), by unfold parR; rw [List.length_map, List.length_zipIdx]; omega, q⟩
theorem cnvP_z (xs ys : List Rat) (i k : Nat) : cnvP xs ys i 0 k = cnvA xs ys i k := by
  unfold cnvP
  rw [if_neg (by omega)]
  grind
theorem cnvP_l (xs ys : List Rat) (i k : Nat) : cnvP xs ys i ys.length k = cnvA xs ys (i + 1) k := rfl
theorem cnvP_s (xs ys : List Rat) (i j k : Nat) : cnvP xs ys i (j + 1) k = if k = i + j then cnvP xs ys i j k + xs.getD i 0 * ys.getD j 0 else cnvP xs ys i j k := by
  unfold cnvP
  by_cases h : k = i + j
  · subst h
    rw [if_pos rfl, if_pos ⟨by omega, by omega⟩, if_neg (by omega), show i + j - i = j by omega]
    grind
  · rw [if_neg h]
    by_cases h2 : i ≤ k ∧ k - i < j
    · rw [if_pos h2, if_pos ⟨h2.1, by omega⟩]
    · rw [if_neg h2, if_neg (by omega)]
theorem map_range_set {α : Type} {n t : Nat} {f f' : Nat → α} (ht : t < n) (h : ∀ k, k ≠ t → f' k = f k) : ((List.range n).map f).set t (f' t) = (List.range n).map f' := by
  refine List.ext_getElem? fun i => ?_
  by_cases z : i = t
  · subst z
    rw [List.getElem?_set_self (by simpa using ht), List.getElem?_map, List.getElem?_range ht]
    rfl
  · rw [List.getElem?_set_ne (fun e => z e.symm), List.getElem?_map, List.getElem?_map]
    by_cases h2 : i < n
    · rw [List.getElem?_range h2]
      simp [h i z]
    · rw [List.getElem?_eq_none (by simpa using h2)]
      rfl
theorem hz_cnvA {xs ys : List Rat} {p q : Nat} (hx : HzL (p + 1) xs) (hy : HzL (q + 1) ys) : ∀ (i k : Nat), Hz (i * (p + q + 3) + 1) (cnvA xs ys i k)
  | 0, k => by
    rw [Nat.zero_mul]
    exact hz_0 0
  | i + 1, k => by
    have h1 := hz_cnvA hx hy i k
    have h2 : Hz (p + q + 2) (if i ≤ k ∧ k - i < ys.length then xs.getD i 0 * ys.getD (k - i) 0 else 0) := by
      split
      · exact ((hx.get i).mul (hy.get (k - i))).mono (by omega)
      · exact hz_0 (p + q + 1)
    refine (h1.add h2).mono ?_
    rw [Nat.add_mul]
    omega
theorem hz_cnvP {xs ys : List Rat} {p q : Nat} (hx : HzL (p + 1) xs) (hy : HzL (q + 1) ys) (i j k : Nat) : Hz ((i + 1) * (p + q + 3) + 1) (cnvP xs ys i j k) := by
  have h1 := hz_cnvA hx hy i k
  have h2 : Hz (p + q + 2) (if i ≤ k ∧ k - i < j then xs.getD i 0 * ys.getD (k - i) 0 else 0) := by
    split
    · exact ((hx.get i).mul (hy.get (k - i))).mono (by omega)
    · exact hz_0 (p + q + 1)
  refine (h1.add h2).mono ?_
  rw [Nat.add_mul]
  omega
theorem HzL.pos {k : Nat} {xs : List Rat} (h : HzL k xs) : HzL (k - 1 + 1) xs := h.mono (by omega)
theorem hp_poly_times : ∀ ds b Q, ds.length = 2 → p_poly_times ds b Q → W_poly_times { nx := fun _ b' => Q .non b', rt := Q } (ds.map Slot.v ++ List.replicate 5 .un) b := by
  rintro ds b Q - ⟨xs, ys, rfl, hl, hl', ⟨p, q', hx, hy, hf⟩, q⟩
  show W_poly_times _ [.v (tupR xs), .v (tupR ys), .un, .un, .un, .un, .un] b
  generalize hn : xs.length = n at hl hf
  generalize hm : ys.length = m at hl'
  have hL : mulR xs ys = (List.range (n + m - 1)).map (cnvP xs ys n 0) := by
    unfold mulR
    rw [hn, hm]
    refine List.map_congr_left fun k _ => (cnvP_z xs ys n k).symm
  have hpq : p + q' + 3 + 1 ≤ SB := by
    have : 1 * (p + q' + 3) ≤ (n + 1) * (p + q' + 3) := Nat.mul_le_mul_right _ (by omega)
    omega
  (try simp only [wSeq, wSet, wSetO, wRet, wIfS, wFrz, wApp, wDrop, wNext, wBreak, wCont, wNever, wVar, wVarB, wC, wBin, wUn, wT, wAnd, wOr, wNot, wAndV, wOrV, wNotV, wIte, wNil, wCons, wTup, wCall, wListOf, wC2, wIsT, wIsC, wFld, wON, wOS, wSl, wV, wO, wSetIx, wPar, wSwap, wSeqOf, wRng1, wRng2, wFor, wWhile, wYes, wComp, wEnum, wZip, wEnum2, wRgT, wRgL, wAug, dMulT, dMax, wMake, wFz, wCat, wRep, wipeE, D.ty, wIf_true, wIf_false, List.getElem?_cons_zero, List.getElem?_cons_succ, List.set_cons_zero, List.set_cons_succ, dI0_ii, dI_ii, dNeg_i, dGcd_ii, dAbs_i, dInt_i, dInt_b, dBits_i, dLen_t, dLen_l, dTuple_t, dTuple_l, dAdd_ii, dAdd_tt, dAdd_ll, dAdd_ss, dMul_ii, dMul_li, dIs_n, dIs_b, dIsN_n, dRepr_b, rt_0, rt_1, dEq, dNe, dSub, dDiv, dDivU, dMod, dLt, dLe, dGt, dGe, D.isNon, Bool.not_true, Bool.not_false, W_poly_times])
  rw [List.length_map, List.length_map, hn, hm]
  have e0 : (if (0 : Int) > ((n : Nat) : Int) + ((m : Nat) : Int) - 1 then (0 : Int) else ((n : Nat) : Int) + ((m : Nat) : Int) - 1).toNat = n + m - 1 := by split <;> omega
  have e1 : -(2 ^ 63) ≤ (if (0 : Int) > ((n : Nat) : Int) + ((m : Nat) : Int) - 1 then (0 : Int) else ((n : Nat) : Int) + ((m : Nat) : Int) - 1) := by split <;> omega
  have e2 : (if (0 : Int) > ((n : Nat) : Int) + ((m : Nat) : Int) - 1 then (0 : Int) else ((n : Nat) : Int) + ((m : Nat) : Int) - 1) < 2 ^ 63 := by split <;> omega
  rw [e0, rep_one]
  refine ⟨⟨by show 1 * _ ≤ _; omega, e1, e2⟩, ?_⟩
  have st : List.replicate (n + m - 1) kNONE = ((List.range (n + m - 1)).map (cnvP xs ys 0 0)).map rt := by
    refine List.ext_getElem? fun i => ?_
    by_cases h : i < n + m - 1
    · rw [List.getElem?_replicate, if_pos h, List.getElem?_map, List.getElem?_map, List.getElem?_range h]
      show some kNONE = some (rt (cnvP xs ys 0 0 i))
      rw [cnvP_z]
      rfl
    · rw [List.getElem?_eq_none (by simp; omega), List.getElem?_eq_none (by simp; omega)]
  rw [st]
  refine for_rule (I := fun i env b' => b' = b ∧ ∃ s3 s4 s5 s6 : Slot, env = [.v (tupR xs), .v (tupR ys), .own (((List.range (n + m - 1)).map (cnvP xs ys i 0)).map rt), s3, s4, s5, s6]) ?_ ?_ _ _ ⟨rfl, _, _, _, _, rfl⟩
  · rintro i d env b' E' hd ⟨rfl, s3, s4, s5, s6, rfl⟩ hnx hct hbk hrt
    obtain ⟨dx, hx1, rfl⟩ := enumD_get _ _ _ _ hd
    have hi : i < n := by
      have := (List.getElem?_eq_some_iff.mp hx1).1
      rw [List.length_map, hn] at this
      exact this
    rw [row_get (by rw [hn]; exact hi)] at hx1
    cases hx1
    rw [Nat.zero_add]
    refine ⟨_, rfl, ?_⟩
    (try simp only [wSeq, wSet, wSetO, wRet, wIfS, wFrz, wApp, wDrop, wNext, wBreak, wCont, wNever, wVar, wVarB, wC, wBin, wUn, wT, wAnd, wOr, wNot, wAndV, wOrV, wNotV, wIte, wNil, wCons, wTup, wCall, wListOf, wC2, wIsT, wIsC, wFld, wON, wOS, wSl, wV, wO, wSetIx, wPar, wSwap, wSeqOf, wRng1, wRng2, wFor, wWhile, wYes, wComp, wEnum, wZip, wEnum2, wRgT, wRgL, wAug, dMulT, dMax, wMake, wFz, wCat, wRep, wipeE, D.ty, wIf_true, wIf_false, List.getElem?_cons_zero, List.getElem?_cons_succ, List.set_cons_zero, List.set_cons_succ, dI0_ii, dI_ii, dNeg_i, dGcd_ii, dAbs_i, dInt_i, dInt_b, dBits_i, dLen_t, dLen_l, dTuple_t, dTuple_l, dAdd_ii, dAdd_tt, dAdd_ll, dAdd_ss, dMul_ii, dMul_li, dIs_n, dIs_b, dIsN_n, dRepr_b, rt_0, rt_1, dEq, dNe, dSub, dDiv, dDivU, dMod, dLt, dLe, dGt, dGe, D.isNon, Bool.not_true, Bool.not_false])
    refine for_rule (I := fun j env b2 => b2 = b' ∧ ∃ s5 s6 : Slot, env = [.v (tupR xs), .v (tupR ys), .own (((List.range (n + m - 1)).map (cnvP xs ys i j)).map rt), .v (.int (i : Int)), .v (rt (xs.getD i 0)), s5, s6]) ?_ ?_ _ _ ⟨rfl, _, _, rfl⟩
    · rintro j d env b2 E2 hd ⟨rfl, s5, s6, rfl⟩ hnx2 hct2 hbk2 hrt2
      obtain ⟨dy, hy1, rfl⟩ := enumD_get _ _ _ _ hd
      have hj : j < m := by
        have := (List.getElem?_eq_some_iff.mp hy1).1
        rw [List.length_map, hm] at this
        exact this
      rw [row_get (by rw [hm]; exact hj)] at hy1
      cases hy1
      rw [Nat.zero_add]
      refine ⟨_, rfl, ?_⟩
      (try simp only [wSeq, wSet, wSetO, wRet, wIfS, wFrz, wApp, wDrop, wNext, wBreak, wCont, wNever, wVar, wVarB, wC, wBin, wUn, wT, wAnd, wOr, wNot, wAndV, wOrV, wNotV, wIte, wNil, wCons, wTup, wCall, wListOf, wC2, wIsT, wIsC, wFld, wON, wOS, wSl, wV, wO, wSetIx, wPar, wSwap, wSeqOf, wRng1, wRng2, wFor, wWhile, wYes, wComp, wEnum, wZip, wEnum2, wRgT, wRgL, wAug, dMulT, dMax, wMake, wFz, wCat, wRep, wipeE, D.ty, wIf_true, wIf_false, List.getElem?_cons_zero, List.getElem?_cons_succ, List.set_cons_zero, List.set_cons_succ, dI0_ii, dI_ii, dNeg_i, dGcd_ii, dAbs_i, dInt_i, dInt_b, dBits_i, dLen_t, dLen_l, dTuple_t, dTuple_l, dAdd_ii, dAdd_tt, dAdd_ll, dAdd_ss, dMul_ii, dMul_li, dIs_n, dIs_b, dIsN_n, dRepr_b, rt_0, rt_1, dEq, dNe, dSub, dDiv, dDivU, dMod, dLt, dLe, dGt, dGe, D.isNon, Bool.not_true, Bool.not_false])
      have hlt : i + j < n + m - 1 := by omega
      have hsz : Hz ((i + 1) * (p + q' + 3) + 1) (cnvP xs ys i j (i + j)) := hz_cnvP hx hy i j (i + j)
      have hle : (i + 1) * (p + q' + 3) ≤ (n + 1) * (p + q' + 3) := Nat.mul_le_mul_right _ (by omega)
      have hxi := hx.get i
      have hyj := hy.get j
      rw [show ((i : Nat) : Int) + ((j : Nat) : Int) = ((i + j : Nat) : Int) by omega]
      refine dIx_l (d := rt (cnvP xs ys i j (i + j))) (by rw [List.getElem?_map, List.getElem?_map, List.getElem?_range hlt]; rfl) ⟨rfl, _, _, rfl, hxi.sz (by omega), hyj.sz (by omega), trivial, rfl, _, _, rfl, hsz.sz (by omega), (hxi.mul hyj).sz (by omega), trivial, ?_⟩
      rw [List.length_map, List.length_map, List.length_range, ixN_nat' hlt]
      have es : rt (cnvP xs ys i j (i + j) + xs.getD i 0 * ys.getD j 0) = rt (cnvP xs ys i (j + 1) (i + j)) := by rw [cnvP_s, if_pos rfl]
      rw [es]
      refine hnx2 _ _ ⟨rfl, .v (.int (j : Int)), .v (rt (ys.getD j 0)), ?_⟩
      rw [← List.map_set, map_range_set (f' := cnvP xs ys i (j + 1)) hlt fun k hk => by rw [cnvP_s, if_neg hk]]
    · rintro env b2 ⟨rfl, s5, s6, rfl⟩
      rw [enumD_length, List.length_map]
      refine hnx _ _ ⟨rfl, .v (.int (i : Int)), .v (rt (xs.getD i 0)), s5, s6, ?_⟩
      have : (fun k => cnvP xs ys i ys.length k) = cnvP xs ys (i + 1) 0 := by
        funext k
        rw [cnvP_l, cnvP_z]
      show _ = [Slot.v (tupR xs), .v (tupR ys), .own (((List.range (n + m - 1)).map (cnvP xs ys (i + 1) 0)).map rt), _, _, _, _]
      rw [← this]
  · rintro env b2 ⟨rfl, s3, s4, s5, s6, rfl⟩
    rw [enumD_length, List.length_map, hn, ← hL]
    (try simp only [wSeq, wSet, wSetO, wRet, wIfS, wFrz, wApp, wDrop, wNext, wBreak, wCont, wNever, wVar, wVarB, wC, wBin, wUn, wT, wAnd, wOr, wNot, wAndV, wOrV, wNotV, wIte, wNil, wCons, wTup, wCall, wListOf, wC2, wIsT, wIsC, wFld, wON, wOS, wSl, wV, wO, wSetIx, wPar, wSwap, wSeqOf, wRng1, wRng2, wFor, wWhile, wYes, wComp, wEnum, wZip, wEnum2, wRgT, wRgL, wAug, dMulT, dMax, wMake, wFz, wCat, wRep, wipeE, D.ty, wIf_true, wIf_false, List.getElem?_cons_zero, List.getElem?_cons_succ, List.set_cons_zero, List.set_cons_succ, dI0_ii, dI_ii, dNeg_i, dGcd_ii, dAbs_i, dInt_i, dInt_b, dBits_i, dLen_t, dLen_l, dTuple_t, dTuple_l, dAdd_ii, dAdd_tt, dAdd_ll, dAdd_ss, dMul_ii, dMul_li, dIs_n, dIs_b, dIsN_n, dRepr_b, rt_0, rt_1, dEq, dNe, dSub, dDiv, dDivU, dMod, dLt, dLe, dGt, dGe, D.isNon, Bool.not_true, Bool.not_false])
    exact ⟨rfl, _, mulR xs ys, rfl, .inr rfl, by unfold mulR; rw [List.length_map, List.length_range]; omega, q⟩
end En
/-! k71: the table of a polynomial, its first minors. -/
namespace En.K71
open PySem PySem.Spec PyProof.Rows L2 En
theorem rangeD0 (n : Nat) : rangeD 0 n = (List.range n).map fun (i : Nat) => D.int (i : Int) := by
  have := rangeD_nat 0 n
  rw [show (List.range n).map (0 + ·) = List.range n by simp] at this
  exact this
theorem range_s {α : Type} {f : Nat → α} {i : Nat} : (List.range (i + 1)).map f = (List.range i).map f ++ [f i] := by
  rw [List.range_succ, List.map_append]
  rfl
def hwE (xs : List Rat) (n i j : Nat) : Rat := if 2 * j + 1 ≤ n + i ∧ n + i - 1 - 2 * j ≤ n then xs.getD (n + i - 1 - 2 * j) 0 else 0
def hwR (xs : List Rat) : List (List Rat) := (List.range (xs.length - 1)).map fun i => (List.range (xs.length - 1)).map fun j => hwE xs (xs.length - 1) i j
def p_hurwitz_by : Spec := fun ds b Q => ∃ xs, ds = [tupR xs] ∧ 1 ≤ xs.length ∧ xs.length ≤ 1000 ∧ Q (tabD (hwR xs)) b
def p__law_rows_by : Spec := p_hurwitz_by
/-- hurwitz_by: row, many, out, i, places, j, place -/
def W_hurwitz_by : WS := (wSeq (wPar 1 2 (wV (wBin dSub (wUn dLen (wVarB 0)) (wC (.int 1)))) (wO wNil)) (wSeq (wFor (.one 3) (wRng1 (wCons (wVar 1) wNil)) (wSeq (wSetO 4 (wComp [5] (.one 5) (wRng1 (wCons (wVar 1) wNil)) wYes (wBin dAdd (wBin dSub (wBin dSub (wVarB 1) (wC (.int 1))) (wBin dMul (wC (.int 2)) (wVarB 5))) (wVarB 3)))) (wFrz 4 (wApp 2 (wUn dTuple (wFz (wComp [6] (.one 6) (wSeqOf (wVar 4)) wYes (wIte (wT (wChain dLe dLe (wC (.int 0)) (wVarB 6) (wVarB 1))) (wBin dIx (wVarB 0) (wVarB 6)) (wC kNONE))))))))) (wRet (wUn dTuple (wVarB 2)))))
/-- _law_rows_by: polynomial, many, found, i, row, j, place -/
def W__law_rows_by : WS := (wSeq (wSet 1 (wBin dSub (wUn dLen (wVarB 0)) (wC (.int 1)))) (wSeq (wSetO 2 wNil) (wSeq (wFor (.one 3) (wRng1 (wCons (wVar 1) wNil)) (wSeq (wSetO 4 wNil) (wSeq (wFor (.one 5) (wRng1 (wCons (wVar 1) wNil)) (wSeq (wSet 6 (wBin dAdd (wBin dSub (wBin dSub (wVarB 1) (wC (.int 1))) (wBin dMul (wC (.int 2)) (wVarB 5))) (wVarB 3))) (wApp 4 (wIte (wT (wChain dLe dLe (wC (.int 0)) (wVarB 6) (wVarB 1))) (wBin dIx (wVarB 0) (wVarB 6)) (wTup (wCons (wC (.int 0)) (wCons (wC (.int 1)) wNil))))))) (wApp 2 (wUn dTuple (wVarB 4)))))) (wRet (wUn dTuple (wVarB 2))))))
theorem hw_ix {xs : List Rat} {n i j : Nat} {b : Nat} {K : D → Nat → Prop} (hl : xs.length = n + 1) (k : K (rt (hwE xs n i j)) b) :
    wIf (decide ((0 : Int) ≤ (n : Int) - 1 - 2 * (j : Int) + (i : Int))) (wIf (decide ((n : Int) - 1 - 2 * (j : Int) + (i : Int) ≤ (n : Int))) (dIx (tupR xs) (.int ((n : Int) - 1 - 2 * (j : Int) + (i : Int))) fun d => K d b) (K (rt 0) b)) (K (rt 0) b) := by
  unfold hwE at k
  refine wIf_dec (fun h1 => wIf_dec (fun h2 => ?_) fun h2 => ?_) fun h1 => ?_
  · rw [if_pos ⟨by omega, by omega⟩] at k
    rw [show (n : Int) - 1 - 2 * (j : Int) + (i : Int) = ((n + i - 1 - 2 * j : Nat) : Int) by omega]
    exact ix_rowT (by omega) k
  · rw [if_neg (by omega)] at k; exact k
  · rw [if_neg (by omega)] at k; exact k
theorem hp_hurwitz_by : ∀ ds b Q, ds.length = 1 → p_hurwitz_by ds b Q → W_hurwitz_by { nx := fun _ b' => Q .non b', rt := Q } (ds.map Slot.v ++ List.replicate 6 .un) b := by
  rintro ds b Q - ⟨xs, rfl, h1, h2, q⟩
  show W_hurwitz_by _ [.v (tupR xs), .un, .un, .un, .un, .un, .un] b
  obtain ⟨n, hn⟩ : ∃ n, xs.length = n + 1 := ⟨xs.length - 1, by omega⟩
  have hq : tabD (hwR xs) = .tup ((List.range n).map fun i => D.tup (((List.range n).map fun j => hwE xs n i j).map rt)) := by
    unfold tabD hwR
    rw [hn, List.map_map]
    rfl
  rw [hq] at q
  (try simp only [wSeq, wSet, wSetO, wRet, wIfS, wFrz, wApp, wDrop, wNext, wBreak, wCont, wNever, wVar, wVarB, wC, wBin, wUn, wT, wAnd, wOr, wNot, wAndV, wOrV, wNotV, wIte, wNil, wCons, wTup, wCall, wListOf, wC2, wIsT, wIsC, wFld, wON, wOS, wSl, wV, wO, wSetIx, wPar, wSwap, wSeqOf, wRng1, wRng2, wFor, wWhile, wYes, wComp, wEnum, wZip, wEnum2, wRgT, wRgL, wAug, dMulT, dMax, wMake, wFz, wCat, wRep, wipeE, D.ty, wIf_true, wIf_false, List.getElem?_cons_zero, List.getElem?_cons_succ, List.set_cons_zero, List.set_cons_succ, dI0_ii, dI_ii, dNeg_i, dGcd_ii, dAbs_i, dInt_i, dInt_b, dBits_i, dLen_t, dLen_l, dTuple_t, dTuple_l, dAdd_ii, dAdd_tt, dAdd_ll, dAdd_ss, dMul_ii, dMul_li, dIs_n, dIs_b, dIsN_n, dRepr_b, rt_0, rt_1, dEq, dNe, dSub, dDiv, dDivU, dMod, dLt, dLe, dGt, dGe, D.isNon, Bool.not_true, Bool.not_false, W_hurwitz_by])
  rw [List.length_map, hn, show ((n + 1 : Nat) : Int) - 1 = (n : Int) by omega]
  refine ⟨⟨by omega, by omega⟩, ?_⟩
  rw [Int.toNat_natCast, rangeD0]
  refine for_rule (I := fun i env b' => b' = b ∧ ∃ s3 s4 s5 s6, env = [.v (tupR xs), .v (.int (n : Int)), .own ((List.range i).map fun i => D.tup (((List.range n).map fun j => hwE xs n i j).map rt)), s3, s4, s5, s6]) ?_ ?_ _ _ ⟨rfl, _, _, _, _, rfl⟩
  · rintro i d env b' E' hd ⟨rfl, s3, s4, s5, s6, rfl⟩ hnx hct hbk hrt
    have hi : i < n := by
      have := (List.getElem?_eq_some_iff.mp hd).1
      simpa using this
    have ed : d = .int (i : Int) := by
      rw [List.getElem?_map, List.getElem?_range hi] at hd
      simp at hd
      exact hd.symm
    subst ed
    refine ⟨_, rfl, ?_⟩
    (try simp only [wSeq, wSet, wSetO, wRet, wIfS, wFrz, wApp, wDrop, wNext, wBreak, wCont, wNever, wVar, wVarB, wC, wBin, wUn, wT, wAnd, wOr, wNot, wAndV, wOrV, wNotV, wIte, wNil, wCons, wTup, wCall, wListOf, wC2, wIsT, wIsC, wFld, wON, wOS, wSl, wV, wO, wSetIx, wPar, wSwap, wSeqOf, wRng1, wRng2, wFor, wWhile, wYes, wComp, wEnum, wZip, wEnum2, wRgT, wRgL, wAug, dMulT, dMax, wMake, wFz, wCat, wRep, wipeE, D.ty, wIf_true, wIf_false, List.getElem?_cons_zero, List.getElem?_cons_succ, List.set_cons_zero, List.set_cons_succ, dI0_ii, dI_ii, dNeg_i, dGcd_ii, dAbs_i, dInt_i, dInt_b, dBits_i, dLen_t, dLen_l, dTuple_t, dTuple_l, dAdd_ii, dAdd_tt, dAdd_ll, dAdd_ss, dMul_ii, dMul_li, dIs_n, dIs_b, dIsN_n, dRepr_b, rt_0, rt_1, dEq, dNe, dSub, dDiv, dDivU, dMod, dLt, dLe, dGt, dGe, D.isNon, Bool.not_true, Bool.not_false])
    refine ⟨⟨by omega, by omega⟩, by rw [rangeD_len]; omega, ?_⟩
    rw [Int.toNat_natCast, rangeD0]
    refine cmp_at _ (fun (j : Nat) => D.int ((n : Int) - 1 - 2 * (j : Int) + (i : Int))) _ _ (fun j hj => ⟨_, rfl, fun K k => ?_⟩) ?_
    · (try simp only [wSeq, wSet, wSetO, wRet, wIfS, wFrz, wApp, wDrop, wNext, wBreak, wCont, wNever, wVar, wVarB, wC, wBin, wUn, wT, wAnd, wOr, wNot, wAndV, wOrV, wNotV, wIte, wNil, wCons, wTup, wCall, wListOf, wC2, wIsT, wIsC, wFld, wON, wOS, wSl, wV, wO, wSetIx, wPar, wSwap, wSeqOf, wRng1, wRng2, wFor, wWhile, wYes, wComp, wEnum, wZip, wEnum2, wRgT, wRgL, wAug, dMulT, dMax, wMake, wFz, wCat, wRep, wipeE, D.ty, wIf_true, wIf_false, List.getElem?_cons_zero, List.getElem?_cons_succ, List.set_cons_zero, List.set_cons_succ, dI0_ii, dI_ii, dNeg_i, dGcd_ii, dAbs_i, dInt_i, dInt_b, dBits_i, dLen_t, dLen_l, dTuple_t, dTuple_l, dAdd_ii, dAdd_tt, dAdd_ll, dAdd_ss, dMul_ii, dMul_li, dIs_n, dIs_b, dIsN_n, dRepr_b, rt_0, rt_1, dEq, dNe, dSub, dDiv, dDivU, dMod, dLt, dLe, dGt, dGe, D.isNon, Bool.not_true, Bool.not_false])
      rw [List.mem_range] at hj
      exact ⟨cmulW_of (k := 2) (l := 62) (by decide) (by rw [Int.natAbs_natCast]; omega) (by decide) (by decide) (by decide), k⟩
    · (try simp only [wSeq, wSet, wSetO, wRet, wIfS, wFrz, wApp, wDrop, wNext, wBreak, wCont, wNever, wVar, wVarB, wC, wBin, wUn, wT, wAnd, wOr, wNot, wAndV, wOrV, wNotV, wIte, wNil, wCons, wTup, wCall, wListOf, wC2, wIsT, wIsC, wFld, wON, wOS, wSl, wV, wO, wSetIx, wPar, wSwap, wSeqOf, wRng1, wRng2, wFor, wWhile, wYes, wComp, wEnum, wZip, wEnum2, wRgT, wRgL, wAug, dMulT, dMax, wMake, wFz, wCat, wRep, wipeE, D.ty, wIf_true, wIf_false, List.getElem?_cons_zero, List.getElem?_cons_succ, List.set_cons_zero, List.set_cons_succ, dI0_ii, dI_ii, dNeg_i, dGcd_ii, dAbs_i, dInt_i, dInt_b, dBits_i, dLen_t, dLen_l, dTuple_t, dTuple_l, dAdd_ii, dAdd_tt, dAdd_ll, dAdd_ss, dMul_ii, dMul_li, dIs_n, dIs_b, dIsN_n, dRepr_b, rt_0, rt_1, dEq, dNe, dSub, dDiv, dDivU, dMod, dLt, dLe, dGt, dGe, D.isNon, Bool.not_true, Bool.not_false])
      refine ⟨by simp; omega, ?_⟩
      refine cmp_at (fun (j : Nat) => D.int ((n : Int) - 1 - 2 * (j : Int) + (i : Int))) (fun j => rt (hwE xs n i j)) _ _ (fun j hj => ⟨_, rfl, fun K k => ?_⟩) ?_
      · (try simp only [wSeq, wSet, wSetO, wRet, wIfS, wFrz, wApp, wDrop, wNext, wBreak, wCont, wNever, wVar, wVarB, wC, wBin, wUn, wT, wAnd, wOr, wNot, wAndV, wOrV, wNotV, wIte, wNil, wCons, wTup, wCall, wListOf, wC2, wIsT, wIsC, wFld, wON, wOS, wSl, wV, wO, wSetIx, wPar, wSwap, wSeqOf, wRng1, wRng2, wFor, wWhile, wYes, wComp, wEnum, wZip, wEnum2, wRgT, wRgL, wAug, dMulT, dMax, wMake, wFz, wCat, wRep, wipeE, D.ty, wIf_true, wIf_false, List.getElem?_cons_zero, List.getElem?_cons_succ, List.set_cons_zero, List.set_cons_succ, dI0_ii, dI_ii, dNeg_i, dGcd_ii, dAbs_i, dInt_i, dInt_b, dBits_i, dLen_t, dLen_l, dTuple_t, dTuple_l, dAdd_ii, dAdd_tt, dAdd_ll, dAdd_ss, dMul_ii, dMul_li, dIs_n, dIs_b, dIsN_n, dRepr_b, rt_0, rt_1, dEq, dNe, dSub, dDiv, dDivU, dMod, dLt, dLe, dGt, dGe, D.isNon, Bool.not_true, Bool.not_false, wChain])
        exact hw_ix hn k
      · rw [range_s] at hnx
        rw [List.map_map] at hnx
        exact ⟨by simp; omega, hnx _ _ ⟨rfl, _, _, _, _, rfl⟩⟩
  · rintro env b' ⟨rfl, s3, s4, s5, s6, rfl⟩
    (try simp only [wSeq, wSet, wSetO, wRet, wIfS, wFrz, wApp, wDrop, wNext, wBreak, wCont, wNever, wVar, wVarB, wC, wBin, wUn, wT, wAnd, wOr, wNot, wAndV, wOrV, wNotV, wIte, wNil, wCons, wTup, wCall, wListOf, wC2, wIsT, wIsC, wFld, wON, wOS, wSl, wV, wO, wSetIx, wPar, wSwap, wSeqOf, wRng1, wRng2, wFor, wWhile, wYes, wComp, wEnum, wZip, wEnum2, wRgT, wRgL, wAug, dMulT, dMax, wMake, wFz, wCat, wRep, wipeE, D.ty, wIf_true, wIf_false, List.getElem?_cons_zero, List.getElem?_cons_succ, List.set_cons_zero, List.set_cons_succ, dI0_ii, dI_ii, dNeg_i, dGcd_ii, dAbs_i, dInt_i, dInt_b, dBits_i, dLen_t, dLen_l, dTuple_t, dTuple_l, dAdd_ii, dAdd_tt, dAdd_ll, dAdd_ss, dMul_ii, dMul_li, dIs_n, dIs_b, dIsN_n, dRepr_b, rt_0, rt_1, dEq, dNe, dSub, dDiv, dDivU, dMod, dLt, dLe, dGt, dGe, D.isNon, Bool.not_true, Bool.not_false])
    rw [List.length_map, List.length_range]
    exact q
theorem hp__law_rows_by : ∀ ds b Q, ds.length = 1 → p__law_rows_by ds b Q → W__law_rows_by { nx := fun _ b' => Q .non b', rt := Q } (ds.map Slot.v ++ List.replicate 6 .un) b := by
  rintro ds b Q - ⟨xs, rfl, h1, h2, q⟩
  show W__law_rows_by _ [.v (tupR xs), .un, .un, .un, .un, .un, .un] b
  obtain ⟨n, hn⟩ : ∃ n, xs.length = n + 1 := ⟨xs.length - 1, by omega⟩
  have hq : tabD (hwR xs) = .tup ((List.range n).map fun i => D.tup (((List.range n).map fun j => hwE xs n i j).map rt)) := by
    unfold tabD hwR
    rw [hn, List.map_map]
    rfl
  rw [hq] at q
  (try simp only [wSeq, wSet, wSetO, wRet, wIfS, wFrz, wApp, wDrop, wNext, wBreak, wCont, wNever, wVar, wVarB, wC, wBin, wUn, wT, wAnd, wOr, wNot, wAndV, wOrV, wNotV, wIte, wNil, wCons, wTup, wCall, wListOf, wC2, wIsT, wIsC, wFld, wON, wOS, wSl, wV, wO, wSetIx, wPar, wSwap, wSeqOf, wRng1, wRng2, wFor, wWhile, wYes, wComp, wEnum, wZip, wEnum2, wRgT, wRgL, wAug, dMulT, dMax, wMake, wFz, wCat, wRep, wipeE, D.ty, wIf_true, wIf_false, List.getElem?_cons_zero, List.getElem?_cons_succ, List.set_cons_zero, List.set_cons_succ, dI0_ii, dI_ii, dNeg_i, dGcd_ii, dAbs_i, dInt_i, dInt_b, dBits_i, dLen_t, dLen_l, dTuple_t, dTuple_l, dAdd_ii, dAdd_tt, dAdd_ll, dAdd_ss, dMul_ii, dMul_li, dIs_n, dIs_b, dIsN_n, dRepr_b, rt_0, rt_1, dEq, dNe, dSub, dDiv, dDivU, dMod, dLt, dLe, dGt, dGe, D.isNon, Bool.not_true, Bool.not_false, W__law_rows_by])
  rw [List.length_map, hn, show ((n + 1 : Nat) : Int) - 1 = (n : Int) by omega]
  refine ⟨⟨by omega, by omega⟩, ?_⟩
  rw [Int.toNat_natCast, rangeD0]
  refine for_rule (I := fun i env b' => b' = b ∧ ∃ s3 s4 s5 s6, env = [.v (tupR xs), .v (.int (n : Int)), .own ((List.range i).map fun i => D.tup (((List.range n).map fun j => hwE xs n i j).map rt)), s3, s4, s5, s6]) ?_ ?_ _ _ ⟨rfl, _, _, _, _, rfl⟩
  · rintro i d env b' E' hd ⟨rfl, s3, s4, s5, s6, rfl⟩ hnx hct hbk hrt
    have hi : i < n := by
      have := (List.getElem?_eq_some_iff.mp hd).1
      simpa using this
    have ed : d = .int (i : Int) := by
      rw [List.getElem?_map, List.getElem?_range hi] at hd
      simp at hd
      exact hd.symm
    subst ed
    refine ⟨_, rfl, ?_⟩
    (try simp only [wSeq, wSet, wSetO, wRet, wIfS, wFrz, wApp, wDrop, wNext, wBreak, wCont, wNever, wVar, wVarB, wC, wBin, wUn, wT, wAnd, wOr, wNot, wAndV, wOrV, wNotV, wIte, wNil, wCons, wTup, wCall, wListOf, wC2, wIsT, wIsC, wFld, wON, wOS, wSl, wV, wO, wSetIx, wPar, wSwap, wSeqOf, wRng1, wRng2, wFor, wWhile, wYes, wComp, wEnum, wZip, wEnum2, wRgT, wRgL, wAug, dMulT, dMax, wMake, wFz, wCat, wRep, wipeE, D.ty, wIf_true, wIf_false, List.getElem?_cons_zero, List.getElem?_cons_succ, List.set_cons_zero, List.set_cons_succ, dI0_ii, dI_ii, dNeg_i, dGcd_ii, dAbs_i, dInt_i, dInt_b, dBits_i, dLen_t, dLen_l, dTuple_t, dTuple_l, dAdd_ii, dAdd_tt, dAdd_ll, dAdd_ss, dMul_ii, dMul_li, dIs_n, dIs_b, dIsN_n, dRepr_b, rt_0, rt_1, dEq, dNe, dSub, dDiv, dDivU, dMod, dLt, dLe, dGt, dGe, D.isNon, Bool.not_true, Bool.not_false])
    refine ⟨⟨by omega, by omega⟩, ?_⟩
    rw [Int.toNat_natCast, rangeD0]
    refine for_rule (I := fun j env b2 => b2 = b' ∧ ∃ s5 s6, env = [.v (tupR xs), .v (.int (n : Int)), .own ((List.range i).map fun i => D.tup (((List.range n).map fun j => hwE xs n i j).map rt)), .v (.int (i : Int)), .own ((List.range j).map fun j => rt (hwE xs n i j)), s5, s6]) ?_ ?_ _ _ ⟨rfl, _, _, rfl⟩
    · rintro j d env b2 E2 hd ⟨rfl, s5, s6, rfl⟩ hnx2 hct2 hbk2 hrt2
      have hj : j < n := by
        have := (List.getElem?_eq_some_iff.mp hd).1
        simpa using this
      have ed : d = .int (j : Int) := by
        rw [List.getElem?_map, List.getElem?_range hj] at hd
        simp at hd
        exact hd.symm
      subst ed
      refine ⟨_, rfl, ?_⟩
      (try simp only [wSeq, wSet, wSetO, wRet, wIfS, wFrz, wApp, wDrop, wNext, wBreak, wCont, wNever, wVar, wVarB, wC, wBin, wUn, wT, wAnd, wOr, wNot, wAndV, wOrV, wNotV, wIte, wNil, wCons, wTup, wCall, wListOf, wC2, wIsT, wIsC, wFld, wON, wOS, wSl, wV, wO, wSetIx, wPar, wSwap, wSeqOf, wRng1, wRng2, wFor, wWhile, wYes, wComp, wEnum, wZip, wEnum2, wRgT, wRgL, wAug, dMulT, dMax, wMake, wFz, wCat, wRep, wipeE, D.ty, wIf_true, wIf_false, List.getElem?_cons_zero, List.getElem?_cons_succ, List.set_cons_zero, List.set_cons_succ, dI0_ii, dI_ii, dNeg_i, dGcd_ii, dAbs_i, dInt_i, dInt_b, dBits_i, dLen_t, dLen_l, dTuple_t, dTuple_l, dAdd_ii, dAdd_tt, dAdd_ll, dAdd_ss, dMul_ii, dMul_li, dIs_n, dIs_b, dIsN_n, dRepr_b, rt_0, rt_1, dEq, dNe, dSub, dDiv, dDivU, dMod, dLt, dLe, dGt, dGe, D.isNon, Bool.not_true, Bool.not_false, wChain])
      refine ⟨cmulW_of (k := 2) (l := 62) (by decide) (by rw [Int.natAbs_natCast]; omega) (by decide) (by decide) (by decide), ?_⟩
      refine hw_ix (K := fun d b' => (List.map (fun j => rt (hwE xs n i j)) (List.range j)).length < 1000000 ∧ E2.nx [.v (tupR xs), .v (.int (n : Int)), .own ((List.range i).map fun i => D.tup (((List.range n).map fun j => hwE xs n i j).map rt)), .v (.int (i : Int)), .own (((List.range j).map fun j => rt (hwE xs n i j)) ++ [d]), .v (.int (j : Int)), .v (.int ((n : Int) - 1 - 2 * (j : Int) + (i : Int)))] b') hn ?_
      rw [range_s] at hnx2
      exact ⟨by simp; omega, hnx2 _ _ ⟨rfl, _, _, rfl⟩⟩
    · rintro env b2 ⟨rfl, s5, s6, rfl⟩
      (try simp only [wSeq, wSet, wSetO, wRet, wIfS, wFrz, wApp, wDrop, wNext, wBreak, wCont, wNever, wVar, wVarB, wC, wBin, wUn, wT, wAnd, wOr, wNot, wAndV, wOrV, wNotV, wIte, wNil, wCons, wTup, wCall, wListOf, wC2, wIsT, wIsC, wFld, wON, wOS, wSl, wV, wO, wSetIx, wPar, wSwap, wSeqOf, wRng1, wRng2, wFor, wWhile, wYes, wComp, wEnum, wZip, wEnum2, wRgT, wRgL, wAug, dMulT, dMax, wMake, wFz, wCat, wRep, wipeE, D.ty, wIf_true, wIf_false, List.getElem?_cons_zero, List.getElem?_cons_succ, List.set_cons_zero, List.set_cons_succ, dI0_ii, dI_ii, dNeg_i, dGcd_ii, dAbs_i, dInt_i, dInt_b, dBits_i, dLen_t, dLen_l, dTuple_t, dTuple_l, dAdd_ii, dAdd_tt, dAdd_ll, dAdd_ss, dMul_ii, dMul_li, dIs_n, dIs_b, dIsN_n, dRepr_b, rt_0, rt_1, dEq, dNe, dSub, dDiv, dDivU, dMod, dLt, dLe, dGt, dGe, D.isNon, Bool.not_true, Bool.not_false])
      have hlr : ((List.range n).map fun (i : Nat) => D.int (i : Int)).length = n := by simp
      rw [hlr]
      rw [range_s] at hnx
      rw [List.map_map] at hnx
      exact ⟨by simp; omega, hnx _ _ ⟨rfl, _, _, _, _, rfl⟩⟩
  · rintro env b' ⟨rfl, s3, s4, s5, s6, rfl⟩
    (try simp only [wSeq, wSet, wSetO, wRet, wIfS, wFrz, wApp, wDrop, wNext, wBreak, wCont, wNever, wVar, wVarB, wC, wBin, wUn, wT, wAnd, wOr, wNot, wAndV, wOrV, wNotV, wIte, wNil, wCons, wTup, wCall, wListOf, wC2, wIsT, wIsC, wFld, wON, wOS, wSl, wV, wO, wSetIx, wPar, wSwap, wSeqOf, wRng1, wRng2, wFor, wWhile, wYes, wComp, wEnum, wZip, wEnum2, wRgT, wRgL, wAug, dMulT, dMax, wMake, wFz, wCat, wRep, wipeE, D.ty, wIf_true, wIf_false, List.getElem?_cons_zero, List.getElem?_cons_succ, List.set_cons_zero, List.set_cons_succ, dI0_ii, dI_ii, dNeg_i, dGcd_ii, dAbs_i, dInt_i, dInt_b, dBits_i, dLen_t, dLen_l, dTuple_t, dTuple_l, dAdd_ii, dAdd_tt, dAdd_ll, dAdd_ss, dMul_ii, dMul_li, dIs_n, dIs_b, dIsN_n, dRepr_b, rt_0, rt_1, dEq, dNe, dSub, dDiv, dDivU, dMod, dLt, dLe, dGt, dGe, D.isNon, Bool.not_true, Bool.not_false])
    rw [List.length_map, List.length_range]
    exact q
end En.K71
/-! k71: corners, first minors. -/
namespace En.K71
open PySem PySem.Spec PyProof.Rows L2 En
def cornR (M : List (List Rat)) (m : Nat) : List (List Rat) := (List.range m).map fun i => (List.range m).map fun j => ent M i j
theorem corn_sq {M : List (List Rat)} {m : Nat} : Sq m (cornR M m) := by
  constructor
  · simp [cornR]
  · intro i hi
    unfold rowOf cornR
    rw [List.getD_eq_getElem?_getD, List.getElem?_map, List.getElem?_range hi]
    simp
theorem corn_ent {M : List (List Rat)} {m i j : Nat} (hi : i < m) (hj : j < m) : ent (cornR M m) i j = ent M i j := by
  show (rowOf (cornR M m) i).getD j 0 = _
  unfold rowOf cornR
  rw [List.getD_eq_getElem?_getD, List.getD_eq_getElem?_getD, List.getElem?_map, List.getElem?_range hi]
  simp only [Option.map_some, Option.getD_some]
  rw [List.getElem?_map, List.getElem?_range hj]
  rfl
theorem hw_sq {xs : List Rat} {n : Nat} (h : xs.length = n + 1) : Sq n (hwR xs) := by
  constructor
  · simp [hwR, h]
  · intro i hi
    unfold rowOf hwR
    rw [h, Nat.add_sub_cancel, List.getD_eq_getElem?_getD, List.getElem?_map, List.getElem?_range hi]
    simp
theorem hw_ent {xs : List Rat} {n i j : Nat} (h : xs.length = n + 1) (hi : i < n) (hj : j < n) : ent (hwR xs) i j = hwE xs n i j := by
  unfold ent rowOf hwR
  rw [h, Nat.add_sub_cancel, List.getD_eq_getElem?_getD, List.getD_eq_getElem?_getD, List.getElem?_map, List.getElem?_range hi]
  simp only [Option.map_some, Option.getD_some]
  rw [List.getElem?_map, List.getElem?_range hj]
  rfl
def mnr (M : List (List Rat)) (m : Nat) : Rat := detR (cornR M m)
def nlR (xs : List Rat) : Option Nat := ((List.range (xs.length - 1)).map (1 + ·)).find? fun m => decide ((mnr (hwR xs) m).num ≤ 0)
/-- the sizes of a polynomial -/
def TabOk (xs : List Rat) : Prop := ∀ m, m < xs.length → DetOk (cornR (hwR xs) m)
theorem ix_tab {M : List (List Rat)} {i : Nat} {Q : D → Prop} (h : i < M.length) (q : Q (tupR (rowOf M i))) : dIx (tabD M) (.int (i : Int)) Q := by
  refine dIx_t (d := tupR (rowOf M i)) ?_ q
  rw [List.getElem?_map, List.getElem?_eq_getElem h]
  unfold rowOf
  rw [List.getD_eq_getElem?_getD, List.getElem?_eq_getElem h]
  rfl
def p_corner_by : Spec := fun ds b Q => ∃ (M : List (List Rat)) (n m : Nat), ds = [tabD M, .tup (rangeD 0 m), .tup (rangeD 0 m)] ∧ Sq n M ∧ m ≤ n ∧ n ≤ 1000 ∧ Q (tabD (cornR M m)) b
def p__law_minor : Spec := fun ds b Q => ∃ (M : List (List Rat)) (n m : Nat), ds = [tabD M, .lst (rangeD 0 m), .lst (rangeD 0 m)] ∧ Sq n M ∧ m ≤ n ∧ n ≤ 1000 ∧ DetOk (cornR M m) ∧ Q (rt (mnr M m)) b
def p_first_minor : Spec := fun ds b Q => ∃ (M : List (List Rat)) (n m : Nat), ds = [tabD M, .int (m : Int)] ∧ Sq n M ∧ m ≤ n ∧ n ≤ 1000 ∧ DetOk (cornR M m) ∧ Q (rt (mnr M m)) b
def p__law_first_minor : Spec := p_first_minor
def p_not_left : Spec := fun ds b Q => ∃ (xs : List Rat), ds = [tupR xs] ∧ 1 ≤ xs.length ∧ xs.length ≤ 1000 ∧ TabOk xs ∧ Q (optD (nlR xs)) b
def p__law_first_bad : Spec := p_not_left
/-- corner_by: table, rows, columns, i, j -/
def W_corner_by : WS := (wRet (wUn dTuple (wFz (wComp [3] (.one 3) (wSeqOf (wVar 1)) wYes (wUn dTuple (wFz (wComp [4] (.one 4) (wSeqOf (wVar 2)) wYes (wBin dIx (wBin dIx (wVarB 0) (wVarB 3)) (wVarB 4)))))))))
/-- first_minor: table, many, lot -/
def W_first_minor : WS := (wSeq (wSet 2 (wRgT (wVar 1))) (wRet (wCall 1 p_determinant_by (wCons (wCall 3 p_corner_by (wCons (wVar 0) (wCons (wVar 2) (wCons (wVar 2) wNil)))) wNil))))
/-- not_left: row, table, many -/
def W_not_left : WS := (wSeq (wSet 1 (wCall 1 p_hurwitz_by (wCons (wVar 0) wNil))) (wSeq (wFor (.one 2) (wRng2 (wCons (wC (.int 1)) (wCons (wBin dAdd (wUn dLen (wVarB 1)) (wC (.int 1))) wNil))) (wIfS (wT (wBin dLe (wBin dIx (wCall 2 p_first_minor (wCons (wVar 1) (wCons (wVar 2) wNil))) (wC (.int 0))) (wC (.int 0)))) (wRet (wVar 2)) wNext)) (wRet (wC .non))))
/-- _law_minor: table, rows, columns, i, j -/
def W__law_minor : WS := (wRet (wCall 1 p__law_determinant (wCons (wFz (wComp [3] (.one 3) (wSeqOf (wVar 1)) wYes (wFz (wComp [4] (.one 4) (wSeqOf (wVar 2)) wYes (wBin dIx (wBin dIx (wVarB 0) (wVarB 3)) (wVarB 4)))))) wNil)))
/-- _law_first_minor: table, many, some -/
def W__law_first_minor : WS := (wSeq (wSet 2 (wFz (wRgL (wVar 1)))) (wRet (wCall 3 p__law_minor (wCons (wVar 0) (wCons (wVar 2) (wCons (wVar 2) wNil))))))
/-- _law_first_bad: polynomial, table, bad, k -/
def W__law_first_bad : WS := (wSeq (wSet 1 (wCall 1 p__law_rows_by (wCons (wVar 0) wNil))) (wSeq (wSetO 2 (wComp [3] (.one 3) (wRng2 (wCons (wC (.int 1)) (wCons (wBin dAdd (wUn dLen (wVarB 1)) (wC (.int 1))) wNil))) (wT (wBin dLe (wBin dIx (wCall 2 p__law_first_minor (wCons (wVar 1) (wCons (wVar 3) wNil))) (wC (.int 0))) (wC (.int 0)))) (wVar 3))) (wFrz 2 (wRet (wIte (wT (wBin dNe (wVarB 2) (wFz wNil))) (wBin dIx (wVarB 2) (wC (.int 0))) (wC .non))))))
theorem hp_corner_by : ∀ ds b Q, ds.length = 3 → p_corner_by ds b Q → W_corner_by { nx := fun _ b' => Q .non b', rt := Q } (ds.map Slot.v ++ List.replicate 2 .un) b := by
  rintro ds b Q - ⟨M, n, m, rfl, sq, hm, hn, q⟩
  show W_corner_by _ [.v (tabD M), .v (.tup (rangeD 0 m)), .v (.tup (rangeD 0 m)), .un, .un] b
  have hl := sq.len
  (try simp only [wSeq, wSet, wSetO, wRet, wIfS, wFrz, wApp, wDrop, wNext, wBreak, wCont, wNever, wVar, wVarB, wC, wBin, wUn, wT, wAnd, wOr, wNot, wAndV, wOrV, wNotV, wIte, wNil, wCons, wTup, wCall, wListOf, wC2, wIsT, wIsC, wFld, wON, wOS, wSl, wV, wO, wSetIx, wPar, wSwap, wSeqOf, wRng1, wRng2, wFor, wWhile, wYes, wComp, wEnum, wZip, wEnum2, wRgT, wRgL, wAug, dMulT, dMax, wMake, wFz, wCat, wRep, wipeE, D.ty, wIf_true, wIf_false, List.getElem?_cons_zero, List.getElem?_cons_succ, List.set_cons_zero, List.set_cons_succ, dI0_ii, dI_ii, dNeg_i, dGcd_ii, dAbs_i, dInt_i, dInt_b, dBits_i, dLen_t, dLen_l, dTuple_t, dTuple_l, dAdd_ii, dAdd_tt, dAdd_ll, dAdd_ss, dMul_ii, dMul_li, dIs_n, dIs_b, dIsN_n, dRepr_b, rt_0, rt_1, dEq, dNe, dSub, dDiv, dDivU, dMod, dLt, dLe, dGt, dGe, D.isNon, Bool.not_true, Bool.not_false, W_corner_by])
  rw [rangeD0]
  refine ⟨by simp; omega, cmp_at _ (fun i => tupR ((List.range m).map fun j => ent M i j)) _ _ (fun i hi => ⟨_, rfl, fun K k => ?_⟩) ?_⟩
  · rw [List.mem_range] at hi
    (try simp only [wSeq, wSet, wSetO, wRet, wIfS, wFrz, wApp, wDrop, wNext, wBreak, wCont, wNever, wVar, wVarB, wC, wBin, wUn, wT, wAnd, wOr, wNot, wAndV, wOrV, wNotV, wIte, wNil, wCons, wTup, wCall, wListOf, wC2, wIsT, wIsC, wFld, wON, wOS, wSl, wV, wO, wSetIx, wPar, wSwap, wSeqOf, wRng1, wRng2, wFor, wWhile, wYes, wComp, wEnum, wZip, wEnum2, wRgT, wRgL, wAug, dMulT, dMax, wMake, wFz, wCat, wRep, wipeE, D.ty, wIf_true, wIf_false, List.getElem?_cons_zero, List.getElem?_cons_succ, List.set_cons_zero, List.set_cons_succ, dI0_ii, dI_ii, dNeg_i, dGcd_ii, dAbs_i, dInt_i, dInt_b, dBits_i, dLen_t, dLen_l, dTuple_t, dTuple_l, dAdd_ii, dAdd_tt, dAdd_ll, dAdd_ss, dMul_ii, dMul_li, dIs_n, dIs_b, dIsN_n, dRepr_b, rt_0, rt_1, dEq, dNe, dSub, dDiv, dDivU, dMod, dLt, dLe, dGt, dGe, D.isNon, Bool.not_true, Bool.not_false])
    refine ⟨by simp; omega, cmp_at _ (fun j => rt (ent M i j)) _ _ (fun j hj => ⟨_, rfl, fun K k => ?_⟩) ?_⟩
    · rw [List.mem_range] at hj
      (try simp only [wSeq, wSet, wSetO, wRet, wIfS, wFrz, wApp, wDrop, wNext, wBreak, wCont, wNever, wVar, wVarB, wC, wBin, wUn, wT, wAnd, wOr, wNot, wAndV, wOrV, wNotV, wIte, wNil, wCons, wTup, wCall, wListOf, wC2, wIsT, wIsC, wFld, wON, wOS, wSl, wV, wO, wSetIx, wPar, wSwap, wSeqOf, wRng1, wRng2, wFor, wWhile, wYes, wComp, wEnum, wZip, wEnum2, wRgT, wRgL, wAug, dMulT, dMax, wMake, wFz, wCat, wRep, wipeE, D.ty, wIf_true, wIf_false, List.getElem?_cons_zero, List.getElem?_cons_succ, List.set_cons_zero, List.set_cons_succ, dI0_ii, dI_ii, dNeg_i, dGcd_ii, dAbs_i, dInt_i, dInt_b, dBits_i, dLen_t, dLen_l, dTuple_t, dTuple_l, dAdd_ii, dAdd_tt, dAdd_ll, dAdd_ss, dMul_ii, dMul_li, dIs_n, dIs_b, dIsN_n, dRepr_b, rt_0, rt_1, dEq, dNe, dSub, dDiv, dDivU, dMod, dLt, dLe, dGt, dGe, D.isNon, Bool.not_true, Bool.not_false])
      exact ix_tab (by omega) (ix_rowT (by rw [sq.row _ (by omega)]; omega) k)
    · rw [show ((List.range m).map fun j => rt (ent M i j)) = ((List.range m).map fun j => ent M i j).map rt by rw [List.map_map]; rfl]
      exact k
  · unfold tabD cornR at q
    rw [List.map_map] at q
    exact q
theorem hp__law_minor : ∀ ds b Q, ds.length = 3 → p__law_minor ds b Q → W__law_minor { nx := fun _ b' => Q .non b', rt := Q } (ds.map Slot.v ++ List.replicate 2 .un) b := by
  rintro ds b Q - ⟨M, n, m, rfl, sq, hm, hn, hd, q⟩
  show W__law_minor _ [.v (tabD M), .v (.lst (rangeD 0 m)), .v (.lst (rangeD 0 m)), .un, .un] b
  have hl := sq.len
  (try simp only [wSeq, wSet, wSetO, wRet, wIfS, wFrz, wApp, wDrop, wNext, wBreak, wCont, wNever, wVar, wVarB, wC, wBin, wUn, wT, wAnd, wOr, wNot, wAndV, wOrV, wNotV, wIte, wNil, wCons, wTup, wCall, wListOf, wC2, wIsT, wIsC, wFld, wON, wOS, wSl, wV, wO, wSetIx, wPar, wSwap, wSeqOf, wRng1, wRng2, wFor, wWhile, wYes, wComp, wEnum, wZip, wEnum2, wRgT, wRgL, wAug, dMulT, dMax, wMake, wFz, wCat, wRep, wipeE, D.ty, wIf_true, wIf_false, List.getElem?_cons_zero, List.getElem?_cons_succ, List.set_cons_zero, List.set_cons_succ, dI0_ii, dI_ii, dNeg_i, dGcd_ii, dAbs_i, dInt_i, dInt_b, dBits_i, dLen_t, dLen_l, dTuple_t, dTuple_l, dAdd_ii, dAdd_tt, dAdd_ll, dAdd_ss, dMul_ii, dMul_li, dIs_n, dIs_b, dIsN_n, dRepr_b, rt_0, rt_1, dEq, dNe, dSub, dDiv, dDivU, dMod, dLt, dLe, dGt, dGe, D.isNon, Bool.not_true, Bool.not_false, W__law_minor])
  rw [rangeD0]
  refine ⟨by simp; omega, cmp_at _ (fun i => rowD ((List.range m).map fun j => ent M i j)) _ _ (fun i hi => ⟨_, rfl, fun K k => ?_⟩) ?_⟩
  · rw [List.mem_range] at hi
    (try simp only [wSeq, wSet, wSetO, wRet, wIfS, wFrz, wApp, wDrop, wNext, wBreak, wCont, wNever, wVar, wVarB, wC, wBin, wUn, wT, wAnd, wOr, wNot, wAndV, wOrV, wNotV, wIte, wNil, wCons, wTup, wCall, wListOf, wC2, wIsT, wIsC, wFld, wON, wOS, wSl, wV, wO, wSetIx, wPar, wSwap, wSeqOf, wRng1, wRng2, wFor, wWhile, wYes, wComp, wEnum, wZip, wEnum2, wRgT, wRgL, wAug, dMulT, dMax, wMake, wFz, wCat, wRep, wipeE, D.ty, wIf_true, wIf_false, List.getElem?_cons_zero, List.getElem?_cons_succ, List.set_cons_zero, List.set_cons_succ, dI0_ii, dI_ii, dNeg_i, dGcd_ii, dAbs_i, dInt_i, dInt_b, dBits_i, dLen_t, dLen_l, dTuple_t, dTuple_l, dAdd_ii, dAdd_tt, dAdd_ll, dAdd_ss, dMul_ii, dMul_li, dIs_n, dIs_b, dIsN_n, dRepr_b, rt_0, rt_1, dEq, dNe, dSub, dDiv, dDivU, dMod, dLt, dLe, dGt, dGe, D.isNon, Bool.not_true, Bool.not_false])
    refine ⟨by simp; omega, cmp_at _ (fun j => rt (ent M i j)) _ _ (fun j hj => ⟨_, rfl, fun K k => ?_⟩) ?_⟩
    · rw [List.mem_range] at hj
      (try simp only [wSeq, wSet, wSetO, wRet, wIfS, wFrz, wApp, wDrop, wNext, wBreak, wCont, wNever, wVar, wVarB, wC, wBin, wUn, wT, wAnd, wOr, wNot, wAndV, wOrV, wNotV, wIte, wNil, wCons, wTup, wCall, wListOf, wC2, wIsT, wIsC, wFld, wON, wOS, wSl, wV, wO, wSetIx, wPar, wSwap, wSeqOf, wRng1, wRng2, wFor, wWhile, wYes, wComp, wEnum, wZip, wEnum2, wRgT, wRgL, wAug, dMulT, dMax, wMake, wFz, wCat, wRep, wipeE, D.ty, wIf_true, wIf_false, List.getElem?_cons_zero, List.getElem?_cons_succ, List.set_cons_zero, List.set_cons_succ, dI0_ii, dI_ii, dNeg_i, dGcd_ii, dAbs_i, dInt_i, dInt_b, dBits_i, dLen_t, dLen_l, dTuple_t, dTuple_l, dAdd_ii, dAdd_tt, dAdd_ll, dAdd_ss, dMul_ii, dMul_li, dIs_n, dIs_b, dIsN_n, dRepr_b, rt_0, rt_1, dEq, dNe, dSub, dDiv, dDivU, dMod, dLt, dLe, dGt, dGe, D.isNon, Bool.not_true, Bool.not_false])
      exact ix_tab (by omega) (ix_rowT (by rw [sq.row _ (by omega)]; omega) k)
    · rw [show ((List.range m).map fun j => rt (ent M i j)) = ((List.range m).map fun j => ent M i j).map rt by rw [List.map_map]; rfl]
      exact k
  · refine ⟨rfl, .inr ⟨cornR M m, ?_, hd, q⟩⟩
    unfold tabL cornR
    rw [List.map_map]
    rfl
theorem hp_first_minor : ∀ ds b Q, ds.length = 2 → p_first_minor ds b Q → W_first_minor { nx := fun _ b' => Q .non b', rt := Q } (ds.map Slot.v ++ List.replicate 1 .un) b := by
  rintro ds b Q - ⟨M, n, m, rfl, sq, hm, hn, hd, q⟩
  show W_first_minor _ [.v (tabD M), .v (.int (m : Int)), .un] b
  (try simp only [wSeq, wSet, wSetO, wRet, wIfS, wFrz, wApp, wDrop, wNext, wBreak, wCont, wNever, wVar, wVarB, wC, wBin, wUn, wT, wAnd, wOr, wNot, wAndV, wOrV, wNotV, wIte, wNil, wCons, wTup, wCall, wListOf, wC2, wIsT, wIsC, wFld, wON, wOS, wSl, wV, wO, wSetIx, wPar, wSwap, wSeqOf, wRng1, wRng2, wFor, wWhile, wYes, wComp, wEnum, wZip, wEnum2, wRgT, wRgL, wAug, dMulT, dMax, wMake, wFz, wCat, wRep, wipeE, D.ty, wIf_true, wIf_false, List.getElem?_cons_zero, List.getElem?_cons_succ, List.set_cons_zero, List.set_cons_succ, dI0_ii, dI_ii, dNeg_i, dGcd_ii, dAbs_i, dInt_i, dInt_b, dBits_i, dLen_t, dLen_l, dTuple_t, dTuple_l, dAdd_ii, dAdd_tt, dAdd_ll, dAdd_ss, dMul_ii, dMul_li, dIs_n, dIs_b, dIsN_n, dRepr_b, rt_0, rt_1, dEq, dNe, dSub, dDiv, dDivU, dMod, dLt, dLe, dGt, dGe, D.isNon, Bool.not_true, Bool.not_false, W_first_minor])
  rw [Int.toNat_natCast]
  exact ⟨⟨by omega, by omega⟩, rfl, M, n, m, rfl, sq, hm, hn, rfl, _, rfl, hd, q⟩
theorem hp__law_first_minor : ∀ ds b Q, ds.length = 2 → p__law_first_minor ds b Q → W__law_first_minor { nx := fun _ b' => Q .non b', rt := Q } (ds.map Slot.v ++ List.replicate 1 .un) b := by
  rintro ds b Q - ⟨M, n, m, rfl, sq, hm, hn, hd, q⟩
  show W__law_first_minor _ [.v (tabD M), .v (.int (m : Int)), .un] b
  (try simp only [wSeq, wSet, wSetO, wRet, wIfS, wFrz, wApp, wDrop, wNext, wBreak, wCont, wNever, wVar, wVarB, wC, wBin, wUn, wT, wAnd, wOr, wNot, wAndV, wOrV, wNotV, wIte, wNil, wCons, wTup, wCall, wListOf, wC2, wIsT, wIsC, wFld, wON, wOS, wSl, wV, wO, wSetIx, wPar, wSwap, wSeqOf, wRng1, wRng2, wFor, wWhile, wYes, wComp, wEnum, wZip, wEnum2, wRgT, wRgL, wAug, dMulT, dMax, wMake, wFz, wCat, wRep, wipeE, D.ty, wIf_true, wIf_false, List.getElem?_cons_zero, List.getElem?_cons_succ, List.set_cons_zero, List.set_cons_succ, dI0_ii, dI_ii, dNeg_i, dGcd_ii, dAbs_i, dInt_i, dInt_b, dBits_i, dLen_t, dLen_l, dTuple_t, dTuple_l, dAdd_ii, dAdd_tt, dAdd_ll, dAdd_ss, dMul_ii, dMul_li, dIs_n, dIs_b, dIsN_n, dRepr_b, rt_0, rt_1, dEq, dNe, dSub, dDiv, dDivU, dMod, dLt, dLe, dGt, dGe, D.isNon, Bool.not_true, Bool.not_false, W__law_first_minor])
  rw [Int.toNat_natCast]
  exact ⟨⟨by omega, by omega⟩, rfl, M, n, m, rfl, sq, hm, hn, hd, q⟩
theorem hp_not_left : ∀ ds b Q, ds.length = 1 → p_not_left ds b Q → W_not_left { nx := fun _ b' => Q .non b', rt := Q } (ds.map Slot.v ++ List.replicate 2 .un) b := by
  rintro ds b Q - ⟨xs, rfl, h1, h2, ht, q⟩
  show W_not_left _ [.v (tupR xs), .un, .un] b
  obtain ⟨n, hn⟩ : ∃ n, xs.length = n + 1 := ⟨xs.length - 1, by omega⟩
  have sq := hw_sq hn
  have hl := sq.len
  have qf : ∀ o, nlR xs = o → Q (optD o) b := fun o e => e ▸ q
  unfold nlR at qf
  rw [hn, Nat.add_sub_cancel] at qf
  (try simp only [wSeq, wSet, wSetO, wRet, wIfS, wFrz, wApp, wDrop, wNext, wBreak, wCont, wNever, wVar, wVarB, wC, wBin, wUn, wT, wAnd, wOr, wNot, wAndV, wOrV, wNotV, wIte, wNil, wCons, wTup, wCall, wListOf, wC2, wIsT, wIsC, wFld, wON, wOS, wSl, wV, wO, wSetIx, wPar, wSwap, wSeqOf, wRng1, wRng2, wFor, wWhile, wYes, wComp, wEnum, wZip, wEnum2, wRgT, wRgL, wAug, dMulT, dMax, wMake, wFz, wCat, wRep, wipeE, D.ty, wIf_true, wIf_false, List.getElem?_cons_zero, List.getElem?_cons_succ, List.set_cons_zero, List.set_cons_succ, dI0_ii, dI_ii, dNeg_i, dGcd_ii, dAbs_i, dInt_i, dInt_b, dBits_i, dLen_t, dLen_l, dTuple_t, dTuple_l, dAdd_ii, dAdd_tt, dAdd_ll, dAdd_ss, dMul_ii, dMul_li, dIs_n, dIs_b, dIsN_n, dRepr_b, rt_0, rt_1, dEq, dNe, dSub, dDiv, dDivU, dMod, dLt, dLe, dGt, dGe, D.isNon, Bool.not_true, Bool.not_false, W_not_left])
  refine ⟨rfl, xs, rfl, h1, h2, ?_⟩
  (try simp only [wSeq, wSet, wSetO, wRet, wIfS, wFrz, wApp, wDrop, wNext, wBreak, wCont, wNever, wVar, wVarB, wC, wBin, wUn, wT, wAnd, wOr, wNot, wAndV, wOrV, wNotV, wIte, wNil, wCons, wTup, wCall, wListOf, wC2, wIsT, wIsC, wFld, wON, wOS, wSl, wV, wO, wSetIx, wPar, wSwap, wSeqOf, wRng1, wRng2, wFor, wWhile, wYes, wComp, wEnum, wZip, wEnum2, wRgT, wRgL, wAug, dMulT, dMax, wMake, wFz, wCat, wRep, wipeE, D.ty, wIf_true, wIf_false, List.getElem?_cons_zero, List.getElem?_cons_succ, List.set_cons_zero, List.set_cons_succ, dI0_ii, dI_ii, dNeg_i, dGcd_ii, dAbs_i, dInt_i, dInt_b, dBits_i, dLen_t, dLen_l, dTuple_t, dTuple_l, dAdd_ii, dAdd_tt, dAdd_ll, dAdd_ss, dMul_ii, dMul_li, dIs_n, dIs_b, dIsN_n, dRepr_b, rt_0, rt_1, dEq, dNe, dSub, dDiv, dDivU, dMod, dLt, dLe, dGt, dGe, D.isNon, Bool.not_true, Bool.not_false, tabD])
  rw [List.length_map, hl]
  refine ⟨⟨by omega, by omega, by omega, by omega⟩, ?_⟩
  rw [show rangeD 1 ((n : Int) + 1 - 1).toNat = rangeD ((1 : Nat) : Int) n by congr 1; omega, rangeD_nat]
  refine for_rule (I := fun i env b' => b' = b ∧ (∃ s, env = [.v (tupR xs), .v (tabD (hwR xs)), s]) ∧ ∀ j, j < i → decide ((mnr (hwR xs) (1 + j)).num ≤ 0) = false) ?_ ?_ _ _ ⟨rfl, ⟨_, rfl⟩, fun j hj => by omega⟩
  · rintro i d env b' E' hd ⟨rfl, ⟨s, rfl⟩, hno⟩ hnx hct hbk hrt
    have hi : i < n := by
      have := (List.getElem?_eq_some_iff.mp hd).1
      simpa using this
    have ed : d = .int ((1 + i : Nat) : Int) := by
      rw [List.getElem?_map, List.getElem?_map, List.getElem?_range hi] at hd
      simp at hd
      rw [← hd]
      congr 1
    subst ed
    refine ⟨_, rfl, ?_⟩
    (try simp only [wSeq, wSet, wSetO, wRet, wIfS, wFrz, wApp, wDrop, wNext, wBreak, wCont, wNever, wVar, wVarB, wC, wBin, wUn, wT, wAnd, wOr, wNot, wAndV, wOrV, wNotV, wIte, wNil, wCons, wTup, wCall, wListOf, wC2, wIsT, wIsC, wFld, wON, wOS, wSl, wV, wO, wSetIx, wPar, wSwap, wSeqOf, wRng1, wRng2, wFor, wWhile, wYes, wComp, wEnum, wZip, wEnum2, wRgT, wRgL, wAug, dMulT, dMax, wMake, wFz, wCat, wRep, wipeE, D.ty, wIf_true, wIf_false, List.getElem?_cons_zero, List.getElem?_cons_succ, List.set_cons_zero, List.set_cons_succ, dI0_ii, dI_ii, dNeg_i, dGcd_ii, dAbs_i, dInt_i, dInt_b, dBits_i, dLen_t, dLen_l, dTuple_t, dTuple_l, dAdd_ii, dAdd_tt, dAdd_ll, dAdd_ss, dMul_ii, dMul_li, dIs_n, dIs_b, dIsN_n, dRepr_b, rt_0, rt_1, dEq, dNe, dSub, dDiv, dDivU, dMod, dLt, dLe, dGt, dGe, D.isNon, Bool.not_true, Bool.not_false])
    refine ⟨rfl, hwR xs, n, 1 + i, rfl, sq, by omega, by omega, ht (1 + i) (by omega), ?_⟩
    (try simp only [wSeq, wSet, wSetO, wRet, wIfS, wFrz, wApp, wDrop, wNext, wBreak, wCont, wNever, wVar, wVarB, wC, wBin, wUn, wT, wAnd, wOr, wNot, wAndV, wOrV, wNotV, wIte, wNil, wCons, wTup, wCall, wListOf, wC2, wIsT, wIsC, wFld, wON, wOS, wSl, wV, wO, wSetIx, wPar, wSwap, wSeqOf, wRng1, wRng2, wFor, wWhile, wYes, wComp, wEnum, wZip, wEnum2, wRgT, wRgL, wAug, dMulT, dMax, wMake, wFz, wCat, wRep, wipeE, D.ty, wIf_true, wIf_false, List.getElem?_cons_zero, List.getElem?_cons_succ, List.set_cons_zero, List.set_cons_succ, dI0_ii, dI_ii, dNeg_i, dGcd_ii, dAbs_i, dInt_i, dInt_b, dBits_i, dLen_t, dLen_l, dTuple_t, dTuple_l, dAdd_ii, dAdd_tt, dAdd_ll, dAdd_ss, dMul_ii, dMul_li, dIs_n, dIs_b, dIsN_n, dRepr_b, rt_0, rt_1, dEq, dNe, dSub, dDiv, dDivU, dMod, dLt, dLe, dGt, dGe, D.isNon, Bool.not_true, Bool.not_false])
    refine wIf_dec (fun h => ?_) (fun h => ?_)
    · rw [hrt]
      exact qf (some (1 + i)) (find_here hi hno (decide_eq_true h))
    · refine hnx _ _ ⟨rfl, ⟨_, rfl⟩, fun j hj => ?_⟩
      by_cases z : j = i
      · subst z
        exact decide_eq_false h
      · exact hno j (by omega)
  · rintro env b' ⟨rfl, ⟨s, rfl⟩, hno⟩
    (try simp only [wSeq, wSet, wSetO, wRet, wIfS, wFrz, wApp, wDrop, wNext, wBreak, wCont, wNever, wVar, wVarB, wC, wBin, wUn, wT, wAnd, wOr, wNot, wAndV, wOrV, wNotV, wIte, wNil, wCons, wTup, wCall, wListOf, wC2, wIsT, wIsC, wFld, wON, wOS, wSl, wV, wO, wSetIx, wPar, wSwap, wSeqOf, wRng1, wRng2, wFor, wWhile, wYes, wComp, wEnum, wZip, wEnum2, wRgT, wRgL, wAug, dMulT, dMax, wMake, wFz, wCat, wRep, wipeE, D.ty, wIf_true, wIf_false, List.getElem?_cons_zero, List.getElem?_cons_succ, List.set_cons_zero, List.set_cons_succ, dI0_ii, dI_ii, dNeg_i, dGcd_ii, dAbs_i, dInt_i, dInt_b, dBits_i, dLen_t, dLen_l, dTuple_t, dTuple_l, dAdd_ii, dAdd_tt, dAdd_ll, dAdd_ss, dMul_ii, dMul_li, dIs_n, dIs_b, dIsN_n, dRepr_b, rt_0, rt_1, dEq, dNe, dSub, dDiv, dDivU, dMod, dLt, dLe, dGt, dGe, D.isNon, Bool.not_true, Bool.not_false])
    exact qf none (find_no fun i hi => hno i (by simpa using hi))
theorem find_filter {α : Type} {p : α → Bool} : ∀ (l : List α), (l.filter p).head? = l.find? p
  | [] => rfl
  | a :: l => by
    by_cases h : p a = true
    · rw [List.filter_cons_of_pos h, List.find?_cons_of_pos h]
      rfl
    · rw [List.filter_cons_of_neg h, List.find?_cons_of_neg h, find_filter l]
theorem hp__law_first_bad : ∀ ds b Q, ds.length = 1 → p__law_first_bad ds b Q → W__law_first_bad { nx := fun _ b' => Q .non b', rt := Q } (ds.map Slot.v ++ List.replicate 3 .un) b := by
  rintro ds b Q - ⟨xs, rfl, h1, h2, ht, q⟩
  show W__law_first_bad _ [.v (tupR xs), .un, .un, .un] b
  obtain ⟨n, hn⟩ : ∃ n, xs.length = n + 1 := ⟨xs.length - 1, by omega⟩
  have sq := hw_sq hn
  have hl := sq.len
  unfold nlR at q
  rw [hn, Nat.add_sub_cancel, ← find_filter] at q
  (try simp only [wSeq, wSet, wSetO, wRet, wIfS, wFrz, wApp, wDrop, wNext, wBreak, wCont, wNever, wVar, wVarB, wC, wBin, wUn, wT, wAnd, wOr, wNot, wAndV, wOrV, wNotV, wIte, wNil, wCons, wTup, wCall, wListOf, wC2, wIsT, wIsC, wFld, wON, wOS, wSl, wV, wO, wSetIx, wPar, wSwap, wSeqOf, wRng1, wRng2, wFor, wWhile, wYes, wComp, wEnum, wZip, wEnum2, wRgT, wRgL, wAug, dMulT, dMax, wMake, wFz, wCat, wRep, wipeE, D.ty, wIf_true, wIf_false, List.getElem?_cons_zero, List.getElem?_cons_succ, List.set_cons_zero, List.set_cons_succ, dI0_ii, dI_ii, dNeg_i, dGcd_ii, dAbs_i, dInt_i, dInt_b, dBits_i, dLen_t, dLen_l, dTuple_t, dTuple_l, dAdd_ii, dAdd_tt, dAdd_ll, dAdd_ss, dMul_ii, dMul_li, dIs_n, dIs_b, dIsN_n, dRepr_b, rt_0, rt_1, dEq, dNe, dSub, dDiv, dDivU, dMod, dLt, dLe, dGt, dGe, D.isNon, Bool.not_true, Bool.not_false, W__law_first_bad])
  refine ⟨rfl, xs, rfl, h1, h2, ?_⟩
  (try simp only [wSeq, wSet, wSetO, wRet, wIfS, wFrz, wApp, wDrop, wNext, wBreak, wCont, wNever, wVar, wVarB, wC, wBin, wUn, wT, wAnd, wOr, wNot, wAndV, wOrV, wNotV, wIte, wNil, wCons, wTup, wCall, wListOf, wC2, wIsT, wIsC, wFld, wON, wOS, wSl, wV, wO, wSetIx, wPar, wSwap, wSeqOf, wRng1, wRng2, wFor, wWhile, wYes, wComp, wEnum, wZip, wEnum2, wRgT, wRgL, wAug, dMulT, dMax, wMake, wFz, wCat, wRep, wipeE, D.ty, wIf_true, wIf_false, List.getElem?_cons_zero, List.getElem?_cons_succ, List.set_cons_zero, List.set_cons_succ, dI0_ii, dI_ii, dNeg_i, dGcd_ii, dAbs_i, dInt_i, dInt_b, dBits_i, dLen_t, dLen_l, dTuple_t, dTuple_l, dAdd_ii, dAdd_tt, dAdd_ll, dAdd_ss, dMul_ii, dMul_li, dIs_n, dIs_b, dIsN_n, dRepr_b, rt_0, rt_1, dEq, dNe, dSub, dDiv, dDivU, dMod, dLt, dLe, dGt, dGe, D.isNon, Bool.not_true, Bool.not_false, tabD])
  rw [List.length_map, hl]
  refine ⟨⟨by omega, by omega, by omega, by omega⟩, by rw [rangeD_len]; omega, ?_⟩
  rw [show rangeD 1 ((n : Int) + 1 - 1).toNat = rangeD ((1 : Nat) : Int) n by congr 1; omega, rangeD_nat]
  refine cmp_filter _ (fun (i : Nat) => D.int (i : Int)) (fun m => decide ((mnr (hwR xs) m).num ≤ 0)) _ _ (fun x hx => ⟨_, rfl, fun K hK => ?_, fun K hK => by (try simp only [wSeq, wSet, wSetO, wRet, wIfS, wFrz, wApp, wDrop, wNext, wBreak, wCont, wNever, wVar, wVarB, wC, wBin, wUn, wT, wAnd, wOr, wNot, wAndV, wOrV, wNotV, wIte, wNil, wCons, wTup, wCall, wListOf, wC2, wIsT, wIsC, wFld, wON, wOS, wSl, wV, wO, wSetIx, wPar, wSwap, wSeqOf, wRng1, wRng2, wFor, wWhile, wYes, wComp, wEnum, wZip, wEnum2, wRgT, wRgL, wAug, dMulT, dMax, wMake, wFz, wCat, wRep, wipeE, D.ty, wIf_true, wIf_false, List.getElem?_cons_zero, List.getElem?_cons_succ, List.set_cons_zero, List.set_cons_succ, dI0_ii, dI_ii, dNeg_i, dGcd_ii, dAbs_i, dInt_i, dInt_b, dBits_i, dLen_t, dLen_l, dTuple_t, dTuple_l, dAdd_ii, dAdd_tt, dAdd_ll, dAdd_ss, dMul_ii, dMul_li, dIs_n, dIs_b, dIsN_n, dRepr_b, rt_0, rt_1, dEq, dNe, dSub, dDiv, dDivU, dMod, dLt, dLe, dGt, dGe, D.isNon, Bool.not_true, Bool.not_false]); exact hK⟩) ?_
  · obtain ⟨j, hj, rfl⟩ := List.mem_map.mp hx
    rw [List.mem_range] at hj
    (try simp only [wSeq, wSet, wSetO, wRet, wIfS, wFrz, wApp, wDrop, wNext, wBreak, wCont, wNever, wVar, wVarB, wC, wBin, wUn, wT, wAnd, wOr, wNot, wAndV, wOrV, wNotV, wIte, wNil, wCons, wTup, wCall, wListOf, wC2, wIsT, wIsC, wFld, wON, wOS, wSl, wV, wO, wSetIx, wPar, wSwap, wSeqOf, wRng1, wRng2, wFor, wWhile, wYes, wComp, wEnum, wZip, wEnum2, wRgT, wRgL, wAug, dMulT, dMax, wMake, wFz, wCat, wRep, wipeE, D.ty, wIf_true, wIf_false, List.getElem?_cons_zero, List.getElem?_cons_succ, List.set_cons_zero, List.set_cons_succ, dI0_ii, dI_ii, dNeg_i, dGcd_ii, dAbs_i, dInt_i, dInt_b, dBits_i, dLen_t, dLen_l, dTuple_t, dTuple_l, dAdd_ii, dAdd_tt, dAdd_ll, dAdd_ss, dMul_ii, dMul_li, dIs_n, dIs_b, dIsN_n, dRepr_b, rt_0, rt_1, dEq, dNe, dSub, dDiv, dDivU, dMod, dLt, dLe, dGt, dGe, D.isNon, Bool.not_true, Bool.not_false])
    refine ⟨rfl, hwR xs, n, 1 + j, rfl, sq, by omega, by omega, ht (1 + j) (by omega), ?_⟩
    (try simp only [wSeq, wSet, wSetO, wRet, wIfS, wFrz, wApp, wDrop, wNext, wBreak, wCont, wNever, wVar, wVarB, wC, wBin, wUn, wT, wAnd, wOr, wNot, wAndV, wOrV, wNotV, wIte, wNil, wCons, wTup, wCall, wListOf, wC2, wIsT, wIsC, wFld, wON, wOS, wSl, wV, wO, wSetIx, wPar, wSwap, wSeqOf, wRng1, wRng2, wFor, wWhile, wYes, wComp, wEnum, wZip, wEnum2, wRgT, wRgL, wAug, dMulT, dMax, wMake, wFz, wCat, wRep, wipeE, D.ty, wIf_true, wIf_false, List.getElem?_cons_zero, List.getElem?_cons_succ, List.set_cons_zero, List.set_cons_succ, dI0_ii, dI_ii, dNeg_i, dGcd_ii, dAbs_i, dInt_i, dInt_b, dBits_i, dLen_t, dLen_l, dTuple_t, dTuple_l, dAdd_ii, dAdd_tt, dAdd_ll, dAdd_ss, dMul_ii, dMul_li, dIs_n, dIs_b, dIsN_n, dRepr_b, rt_0, rt_1, dEq, dNe, dSub, dDiv, dDivU, dMod, dLt, dLe, dGt, dGe, D.isNon, Bool.not_true, Bool.not_false])
    exact hK
  · generalize (List.filter (fun m => decide ((mnr (hwR xs) m).num ≤ 0)) ((List.range n).map (1 + ·))) = l at q
    (try simp only [wSeq, wSet, wSetO, wRet, wIfS, wFrz, wApp, wDrop, wNext, wBreak, wCont, wNever, wVar, wVarB, wC, wBin, wUn, wT, wAnd, wOr, wNot, wAndV, wOrV, wNotV, wIte, wNil, wCons, wTup, wCall, wListOf, wC2, wIsT, wIsC, wFld, wON, wOS, wSl, wV, wO, wSetIx, wPar, wSwap, wSeqOf, wRng1, wRng2, wFor, wWhile, wYes, wComp, wEnum, wZip, wEnum2, wRgT, wRgL, wAug, dMulT, dMax, wMake, wFz, wCat, wRep, wipeE, D.ty, wIf_true, wIf_false, List.getElem?_cons_zero, List.getElem?_cons_succ, List.set_cons_zero, List.set_cons_succ, dI0_ii, dI_ii, dNeg_i, dGcd_ii, dAbs_i, dInt_i, dInt_b, dBits_i, dLen_t, dLen_l, dTuple_t, dTuple_l, dAdd_ii, dAdd_tt, dAdd_ll, dAdd_ss, dMul_ii, dMul_li, dIs_n, dIs_b, dIsN_n, dRepr_b, rt_0, rt_1, dEq, dNe, dSub, dDiv, dDivU, dMod, dLt, dLe, dGt, dGe, D.isNon, Bool.not_true, Bool.not_false])
    have hf : ∀ l : List Nat, D.flats 8 (l.map fun (i : Nat) => D.int (i : Int)) = true := by
      intro l
      induction l with
      | nil => rfl
      | cons a r ih => simp only [List.map_cons, D.flats, ih, Bool.and_true]; rfl
    refine ⟨⟨hf l, rfl⟩, ?_⟩
    cases l with
    | nil => exact q
    | cons a r =>
      refine wIf_tt rfl ?_
      exact dIx_l (j := 0) rfl q
end En.K71
/-! k71: polynomials that are passed; the building. -/
namespace En.K71
open PySem PySem.Spec PyProof.Rows L2 En
def kMOST_ITEMS : D := .int 9
def kMOST_DEGREE : D := .int 6
theorem ixN_m1 {n : Nat} : ixN (n + 1) (-1) = some n := by
  unfold ixN
  rw [if_neg (by omega), if_pos (by omega)]
  congr 1
  omega
theorem dIx_m1 {es : List D} {n : Nat} {d : D} {Q : D → Prop} (h : es[n]? = some d) (hl : es.length = n + 1) (q : Q d) : dIx (.tup es) (.int (-1)) Q := by
  have e : atI es (-1) = some d := by
    unfold atI
    rw [hl, ixN_m1]
    exact h
  simp only [dIx, e]
  exact q
theorem ix_m1 {xs : List Rat} {n : Nat} {Q : D → Prop} (h : xs.length = n + 1) (q : Q (rt (xs.getD n 0))) : dIx (tupR xs) (.int (-1)) Q := dIx_m1 (row_get (by omega)) (by rw [List.length_map]; exact h) q
def p_poly_from : Spec := fun ds b Q => ∃ (xs : List Rat) (n l : Nat), ds = [tupR xs, .int (l : Int)] ∧ xs.length = n + 1 ∧ l ≤ n ∧ n ≤ 8 ∧ xs.getD n 0 ≠ 0 ∧ Q (tupR xs) b
def p_lead_from : Spec := fun ds b Q => ∃ (xs : List Rat) (n : Nat), ds = [tupR xs] ∧ xs.length = n + 1 ∧ 1 ≤ n ∧ n ≤ 6 ∧ 0 < xs.getD n 0 ∧ Q (tupR xs) b
/-- poly_from: polynomial, least, made -/
def W_poly_from : WS := (wSeq (wSet 2 (wCall 1 p_loose_row (wCons (wCall 1 p_in_tuples (wCons (wVar 0) wNil)) wNil))) (wSeq (wIfS (wOr (wT (wBin dIs (wVarB 2) (wC .non))) (wOr (wNot (wT (wChain dLe dLe (wBin dAdd (wVarB 1) (wC (.int 1))) (wUn dLen (wVarB 2)) (wC kMOST_ITEMS)))) (wT (wBin dEq (wBin dIx (wVarB 2) (wUn dNeg (wC (.int 1)))) (wC kNONE))))) wNever wNext) (wRet (wVar 2))))
/-- lead_from: polynomial, made -/
def W_lead_from : WS := (wSeq (wSet 1 (wCall 2 p_poly_from (wCons (wVar 0) (wCons (wC (.int 1)) wNil)))) (wSeq (wIfS (wOr (wT (wBin dGt (wUn dLen (wVarB 1)) (wBin dAdd (wC kMOST_DEGREE) (wC (.int 1))))) (wT (wBin dLt (wBin dIx (wBin dIx (wVarB 1) (wUn dNeg (wC (.int 1)))) (wC (.int 0))) (wC (.int 0))))) wNever wNext) (wRet (wVar 1))))
theorem fit_row {xs : List Rat} (h : xs.length < 1000000) (n : Nat) : (tupR xs).fit (n + 3) = true := by
  simp only [D.fit, Bool.and_eq_true, decide_eq_true_eq]
  refine ⟨by rw [List.length_map]; exact h, ?_⟩
  clear h
  induction xs with
  | nil => rfl
  | cons x r ih => simp only [List.map_cons, D.fits, ih, Bool.and_true]; rfl
theorem hp_poly_from : ∀ ds b Q, ds.length = 2 → p_poly_from ds b Q → W_poly_from { nx := fun _ b' => Q .non b', rt := Q } (ds.map Slot.v ++ List.replicate 1 .un) b := by
  rintro ds b Q - ⟨xs, n, l, rfl, hl, h1, h2, h0, q⟩
  show W_poly_from _ [.v (tupR xs), .v (.int (l : Int)), .un] b
  (try simp only [wSeq, wSet, wSetO, wRet, wIfS, wFrz, wApp, wDrop, wNext, wBreak, wCont, wNever, wVar, wVarB, wC, wBin, wUn, wT, wAnd, wOr, wNot, wAndV, wOrV, wNotV, wIte, wNil, wCons, wTup, wCall, wListOf, wC2, wIsT, wIsC, wFld, wON, wOS, wSl, wV, wO, wSetIx, wPar, wSwap, wSeqOf, wRng1, wRng2, wFor, wWhile, wYes, wComp, wEnum, wZip, wEnum2, wRgT, wRgL, wAug, dMulT, dMax, wMake, wFz, wCat, wRep, wipeE, D.ty, wIf_true, wIf_false, List.getElem?_cons_zero, List.getElem?_cons_succ, List.set_cons_zero, List.set_cons_succ, dI0_ii, dI_ii, dNeg_i, dGcd_ii, dAbs_i, dInt_i, dInt_b, dBits_i, dLen_t, dLen_l, dTuple_t, dTuple_l, dAdd_ii, dAdd_tt, dAdd_ll, dAdd_ss, dMul_ii, dMul_li, dIs_n, dIs_b, dIsN_n, dRepr_b, rt_0, rt_1, dEq, dNe, dSub, dDiv, dDivU, dMod, dLt, dLe, dGt, dGe, D.isNon, Bool.not_true, Bool.not_false, W_poly_from, kMOST_ITEMS])
  have hr := row_rt xs
  refine ⟨rfl, _, rfl, fit_row (by omega) 6, ?_⟩
  simp only [D.tupd, hr.tupds]
  refine ⟨rfl, _, xs, rfl, by rw [List.length_map]; omega, hr, ?_⟩
  (try simp only [wSeq, wSet, wSetO, wRet, wIfS, wFrz, wApp, wDrop, wNext, wBreak, wCont, wNever, wVar, wVarB, wC, wBin, wUn, wT, wAnd, wOr, wNot, wAndV, wOrV, wNotV, wIte, wNil, wCons, wTup, wCall, wListOf, wC2, wIsT, wIsC, wFld, wON, wOS, wSl, wV, wO, wSetIx, wPar, wSwap, wSeqOf, wRng1, wRng2, wFor, wWhile, wYes, wComp, wEnum, wZip, wEnum2, wRgT, wRgL, wAug, dMulT, dMax, wMake, wFz, wCat, wRep, wipeE, D.ty, wIf_true, wIf_false, List.getElem?_cons_zero, List.getElem?_cons_succ, List.set_cons_zero, List.set_cons_succ, dI0_ii, dI_ii, dNeg_i, dGcd_ii, dAbs_i, dInt_i, dInt_b, dBits_i, dLen_t, dLen_l, dTuple_t, dTuple_l, dAdd_ii, dAdd_tt, dAdd_ll, dAdd_ss, dMul_ii, dMul_li, dIs_n, dIs_b, dIsN_n, dRepr_b, rt_0, rt_1, dEq, dNe, dSub, dDiv, dDivU, dMod, dLt, dLe, dGt, dGe, D.isNon, Bool.not_true, Bool.not_false, wChain])
  rw [List.length_map, hl]
  rw [decide_eq_true (show (l : Int) + 1 ≤ ((n + 1 : Nat) : Int) by omega), decide_eq_true (show ((n + 1 : Nat) : Int) ≤ 9 by omega)]
  (try simp only [wSeq, wSet, wSetO, wRet, wIfS, wFrz, wApp, wDrop, wNext, wBreak, wCont, wNever, wVar, wVarB, wC, wBin, wUn, wT, wAnd, wOr, wNot, wAndV, wOrV, wNotV, wIte, wNil, wCons, wTup, wCall, wListOf, wC2, wIsT, wIsC, wFld, wON, wOS, wSl, wV, wO, wSetIx, wPar, wSwap, wSeqOf, wRng1, wRng2, wFor, wWhile, wYes, wComp, wEnum, wZip, wEnum2, wRgT, wRgL, wAug, dMulT, dMax, wMake, wFz, wCat, wRep, wipeE, D.ty, wIf_true, wIf_false, List.getElem?_cons_zero, List.getElem?_cons_succ, List.set_cons_zero, List.set_cons_succ, dI0_ii, dI_ii, dNeg_i, dGcd_ii, dAbs_i, dInt_i, dInt_b, dBits_i, dLen_t, dLen_l, dTuple_t, dTuple_l, dAdd_ii, dAdd_tt, dAdd_ll, dAdd_ss, dMul_ii, dMul_li, dIs_n, dIs_b, dIsN_n, dRepr_b, rt_0, rt_1, dEq, dNe, dSub, dDiv, dDivU, dMod, dLt, dLe, dGt, dGe, D.isNon, Bool.not_true, Bool.not_false])
  refine ix_m1 hl ⟨⟨rfl, rfl⟩, ?_⟩
  rw [kNONE_eq, eqv_rt, decide_eq_false h0]
  exact q
theorem hp_lead_from : ∀ ds b Q, ds.length = 1 → p_lead_from ds b Q → W_lead_from { nx := fun _ b' => Q .non b', rt := Q } (ds.map Slot.v ++ List.replicate 1 .un) b := by
  rintro ds b Q - ⟨xs, n, rfl, hl, h1, h2, h0, q⟩
  show W_lead_from _ [.v (tupR xs), .un] b
  (try simp only [wSeq, wSet, wSetO, wRet, wIfS, wFrz, wApp, wDrop, wNext, wBreak, wCont, wNever, wVar, wVarB, wC, wBin, wUn, wT, wAnd, wOr, wNot, wAndV, wOrV, wNotV, wIte, wNil, wCons, wTup, wCall, wListOf, wC2, wIsT, wIsC, wFld, wON, wOS, wSl, wV, wO, wSetIx, wPar, wSwap, wSeqOf, wRng1, wRng2, wFor, wWhile, wYes, wComp, wEnum, wZip, wEnum2, wRgT, wRgL, wAug, dMulT, dMax, wMake, wFz, wCat, wRep, wipeE, D.ty, wIf_true, wIf_false, List.getElem?_cons_zero, List.getElem?_cons_succ, List.set_cons_zero, List.set_cons_succ, dI0_ii, dI_ii, dNeg_i, dGcd_ii, dAbs_i, dInt_i, dInt_b, dBits_i, dLen_t, dLen_l, dTuple_t, dTuple_l, dAdd_ii, dAdd_tt, dAdd_ll, dAdd_ss, dMul_ii, dMul_li, dIs_n, dIs_b, dIsN_n, dRepr_b, rt_0, rt_1, dEq, dNe, dSub, dDiv, dDivU, dMod, dLt, dLe, dGt, dGe, D.isNon, Bool.not_true, Bool.not_false, W_lead_from, kMOST_DEGREE])
  refine ⟨rfl, xs, n, 1, rfl, hl, h1, by omega, fun z => absurd h0 (by rw [z]; decide), ?_⟩
  (try simp only [wSeq, wSet, wSetO, wRet, wIfS, wFrz, wApp, wDrop, wNext, wBreak, wCont, wNever, wVar, wVarB, wC, wBin, wUn, wT, wAnd, wOr, wNot, wAndV, wOrV, wNotV, wIte, wNil, wCons, wTup, wCall, wListOf, wC2, wIsT, wIsC, wFld, wON, wOS, wSl, wV, wO, wSetIx, wPar, wSwap, wSeqOf, wRng1, wRng2, wFor, wWhile, wYes, wComp, wEnum, wZip, wEnum2, wRgT, wRgL, wAug, dMulT, dMax, wMake, wFz, wCat, wRep, wipeE, D.ty, wIf_true, wIf_false, List.getElem?_cons_zero, List.getElem?_cons_succ, List.set_cons_zero, List.set_cons_succ, dI0_ii, dI_ii, dNeg_i, dGcd_ii, dAbs_i, dInt_i, dInt_b, dBits_i, dLen_t, dLen_l, dTuple_t, dTuple_l, dAdd_ii, dAdd_tt, dAdd_ll, dAdd_ss, dMul_ii, dMul_li, dIs_n, dIs_b, dIsN_n, dRepr_b, rt_0, rt_1, dEq, dNe, dSub, dDiv, dDivU, dMod, dLt, dLe, dGt, dGe, D.isNon, Bool.not_true, Bool.not_false])
  rw [List.length_map, hl]
  refine wIf_d (fun h => by exfalso; omega) fun _ => ?_
  refine ix_m1 hl ?_
  (try simp only [wSeq, wSet, wSetO, wRet, wIfS, wFrz, wApp, wDrop, wNext, wBreak, wCont, wNever, wVar, wVarB, wC, wBin, wUn, wT, wAnd, wOr, wNot, wAndV, wOrV, wNotV, wIte, wNil, wCons, wTup, wCall, wListOf, wC2, wIsT, wIsC, wFld, wON, wOS, wSl, wV, wO, wSetIx, wPar, wSwap, wSeqOf, wRng1, wRng2, wFor, wWhile, wYes, wComp, wEnum, wZip, wEnum2, wRgT, wRgL, wAug, dMulT, dMax, wMake, wFz, wCat, wRep, wipeE, D.ty, wIf_true, wIf_false, List.getElem?_cons_zero, List.getElem?_cons_succ, List.set_cons_zero, List.set_cons_succ, dI0_ii, dI_ii, dNeg_i, dGcd_ii, dAbs_i, dInt_i, dInt_b, dBits_i, dLen_t, dLen_l, dTuple_t, dTuple_l, dAdd_ii, dAdd_tt, dAdd_ll, dAdd_ss, dMul_ii, dMul_li, dIs_n, dIs_b, dIsN_n, dRepr_b, rt_0, rt_1, dEq, dNe, dSub, dDiv, dDivU, dMod, dLt, dLe, dGt, dGe, D.isNon, Bool.not_true, Bool.not_false])
  have := pos_num h0
  exact wIf_d (fun h => by exfalso; omega) fun _ => q
/-! ### the building -/
def bStep (last here : List Rat) (c : Rat) : List Rat := (List.range (here.length + 1)).map fun k => (0 :: here).getD k 0 + last.getD k 0 * c
def bGo : List Rat → List Rat → List Rat → List Rat
  | [], _, here => here
  | c :: r, last, here => bGo r here (bStep last here c)
def bldR : List Rat → List Rat
  | [] => []
  | c :: r => bGo r [1] [c, 1]
/-- heights of what is built -/
def hB (h : Nat) : Nat → Nat
  | 0 => 1
  | 1 => h + 1
  | k + 2 => hB h (k + 1) + hB h k + h + 1
theorem hB_pos (h : Nat) : ∀ k, 1 ≤ hB h k
  | 0 => Nat.le_refl _
  | 1 => by simp [hB]
  | k + 2 => by simp only [hB]; omega
theorem hB_mono (h : Nat) : ∀ k, hB h k ≤ hB h (k + 1)
  | 0 => by simp [hB]
  | k + 1 => by
    show hB h (k + 1) ≤ hB h (k + 1) + hB h k + h + 1
    omega
/-- two rows on the way -/
structure BSt (h k : Nat) (last here : List Rat) : Prop where
  l1 : last.length = k + 1
  l2 : here.length = k + 2
  o1 : last.getD k 0 = 1
  o2 : here.getD (k + 1) 0 = 1
  z1 : HzL (hB h k) last
  z2 : HzL (hB h (k + 1)) here
theorem getD_range {n k : Nat} {f : Nat → Rat} (h : k < n) : ((List.range n).map f).getD k 0 = f k := by
  rw [List.getD_eq_getElem?_getD, List.getElem?_map, List.getElem?_range h]
  rfl
theorem BSt.next {h k : Nat} {last here : List Rat} {c : Rat} (s : BSt h k last here) (hc : Hz h c) : BSt h (k + 1) here (bStep last here c) := by
  refine ⟨s.l2, by unfold bStep; rw [List.length_map, List.length_range, s.l2], s.o2, ?_, s.z2, ?_⟩
  · unfold bStep
    rw [getD_range (by rw [s.l2]; omega), List.getD_cons_succ, s.o2, List.getD_eq_getElem?_getD, List.getElem?_eq_none (by rw [s.l1]; omega)]
    show (1 : Rat) + 0 * c = 1
    grind
  · intro x hx
    obtain ⟨j, hj, rfl⟩ := List.mem_map.mp hx
    have h1 : Hz (hB h (k + 1)) ((0 :: here).getD j 0) := by
      have hp := hB_pos h (k + 1)
      obtain ⟨q, hq⟩ : ∃ q, hB h (k + 1) = q + 1 := ⟨hB h (k + 1) - 1, by omega⟩
      have z := s.z2
      rw [hq] at z ⊢
      cases j with
      | zero => exact hz_0 q
      | succ j => exact z.get j
    have h2 : Hz (hB h k) (last.getD j 0) := by
      have hp := hB_pos h k
      obtain ⟨q, hq⟩ : ∃ q, hB h k = q + 1 := ⟨hB h k - 1, by omega⟩
      have z := s.z1
      rw [hq] at z ⊢
      exact z.get j
    refine (h1.add (h2.mul hc)).mono ?_
    show _ ≤ hB h (k + 1) + hB h k + h + 1
    omega
theorem mul_x {here : List Rat} (h : here ≠ []) : mulR [0, 1] here = 0 :: here := by
  obtain ⟨m, hm⟩ : ∃ m, here.length = m + 1 := ⟨here.length - 1, by have := List.length_pos_iff.mpr h; omega⟩
  unfold mulR
  refine List.ext_getElem? fun i => ?_
  show ((List.range (2 + here.length - 1)).map (cnvA [0, 1] here 2))[i]? = _
  rw [hm, show 2 + (m + 1) - 1 = m + 2 by omega]
  by_cases hi : i < m + 2
  · rw [List.getElem?_map, List.getElem?_range hi]
    have e : cnvA [0, 1] here 2 i = (0 :: here).getD i 0 := by
      simp only [cnvA, List.getD_cons_zero, List.getD_cons_succ]
      cases i with
      | zero =>
        rw [if_neg (by omega : ¬ (1 ≤ 0 ∧ 0 - 1 < here.length))]
        show (0 : Rat) + (if _ then 0 * _ else 0) + 0 = 0
        split <;> grind
      | succ i =>
        rw [if_pos (⟨by omega, by omega⟩ : 1 ≤ i + 1 ∧ i + 1 - 1 < here.length), Nat.add_sub_cancel, List.getD_cons_succ]
        show (0 : Rat) + (if _ then 0 * _ else 0) + 1 * _ = _
        split <;> grind
    show some (cnvA [0, 1] here 2 i) = _
    rw [e, List.getD_eq_getElem?_getD, List.getElem?_eq_getElem (by simp [hm]; omega)]
    rfl
  · rw [List.getElem?_eq_none (by simp; omega), List.getElem?_eq_none (by simp [hm]; omega)]
theorem trim_x {here : List Rat} {m : Nat} (hl : here.length = m + 1) (h : here.getD m 0 ≠ 0) : trimR (0 :: here) = 0 :: here := trimR_self (m := m + 1) (by simp [hl]) (by rw [List.getD_cons_succ]; exact h)
theorem byR_get {xs : List Rat} {z : Rat} {k : Nat} : (byR xs z).getD k 0 = xs.getD k 0 * z := by
  unfold byR
  rw [List.getD_eq_getElem?_getD, List.getD_eq_getElem?_getD, List.getElem?_map]
  cases xs[k]? with
  | none => show (0 : Rat) = 0 * z; grind
  | some x => rfl
theorem byR_len {xs : List Rat} {z : Rat} : (byR xs z).length = xs.length := List.length_map _
theorem trim_by {xs : List Rat} {z : Rat} {m : Nat} (hl : xs.length = m + 1) (h : xs.getD m 0 ≠ 0) (hz : z ≠ 0) : trimR (byR xs z) = byR xs z :=
  trimR_self (m := m) (by rw [byR_len, hl]) (by rw [byR_get]; intro e; rcases Rat.mul_eq_zero.mp e with e | e; exact h e; exact hz e)
theorem zip_add {xs ys : List Rat} (h : xs.length = ys.length) : (xs.zip ys).map (fun q => q.1 + q.2) = (List.range xs.length).map fun k => xs.getD k 0 + ys.getD k 0 := by
  refine List.ext_getElem? fun i => ?_
  by_cases hi : i < xs.length
  · rw [List.getElem?_map, List.getElem?_map, List.getElem?_range hi, List.getElem?_eq_getElem (by rw [List.length_zip]; omega), List.getElem_zip]
    show some (xs[i] + ys[i]) = some (xs.getD i 0 + ys.getD i 0)
    rw [List.getD_eq_getElem?_getD, List.getD_eq_getElem?_getD, List.getElem?_eq_getElem hi, List.getElem?_eq_getElem (show i < ys.length by omega)]
    rfl
  · rw [List.getElem?_eq_none (by rw [List.length_map, List.length_zip]; omega), List.getElem?_eq_none (by simp; omega)]
theorem pad_get {n k : Nat} {xs : List Rat} : (padR n xs).getD k 0 = xs.getD k 0 := by
  unfold padR
  rw [List.getD_eq_getElem?_getD, List.getD_eq_getElem?_getD]
  by_cases h : k < xs.length
  · rw [List.getElem?_append_left h]
  · rw [List.getElem?_append_right (by omega), List.getElem?_eq_none (by omega : xs.length ≤ k), List.getElem?_replicate]
    split <;> rfl
def p_build_by : Spec := fun ds b Q => ∃ (c : List Rat) (h : Nat), ds = [tupR c] ∧ 1 ≤ c.length ∧ c.length ≤ 1000 ∧ HzL h c ∧ (∀ x ∈ c, x ≠ 0) ∧ 3 * (hB h c.length + 3) + 1 ≤ SB ∧ Q (tupR (bldR c)) b
def p__law_build : Spec := p_build_by
/-- build_by: row, last, here, item, fresh, low, a, b -/
def W_build_by : WS := (wSeq (wPar 1 2 (wV (wTup (wCons (wC kONE) wNil))) (wV (wTup (wCons (wBin dIx (wVarB 0) (wC (.int 0))) (wCons (wC kONE) wNil))))) (wSeq (wFor (.one 3) (wSeqOf (wSl (wVarB 0) (wOS (wC (.int 1))) wON)) (wSeq (wSet 4 (wCall 2 p_poly_times (wCons (wTup (wCons (wC kNONE) (wCons (wC kONE) wNil))) (wCons (wVar 2) wNil)))) (wSeq (wSet 5 (wCall 2 p_poly_by (wCons (wVar 1) (wCons (wVar 3) wNil)))) (wPar 1 2 (wV (wVar 2)) (wV (wUn dTuple (wFz (wComp [6, 7] (.tup [6, 7]) (wZip (wCons (wVar 4) (wCons (wBin dAdd (wVarB 5) (wBin dMulT (wTup (wCons (wC kNONE) wNil)) (wBin dSub (wUn dLen (wVarB 4)) (wUn dLen (wVarB 5))))) wNil))) wYes (wCall 2 p_summed (wCons (wVar 6) (wCons (wVar 7) wNil))))))))))) (wRet (wVar 2))))
/-- _law_build: row, last, here, item, fresh, k, one -/
def W__law_build : WS := (wSeq (wPar 1 2 (wV (wTup (wCons (wTup (wCons (wC (.int 1)) (wCons (wC (.int 1)) wNil))) wNil))) (wV (wTup (wCons (wBin dIx (wVarB 0) (wC (.int 0))) (wCons (wTup (wCons (wC (.int 1)) (wCons (wC (.int 1)) wNil))) wNil))))) (wSeq (wFor (.one 3) (wSeqOf (wSl (wVarB 0) (wOS (wC (.int 1))) wON)) (wSeq (wSetO 4 (wCat (wFz (wComp [6] (.one 6) (wSeqOf (wVar 1)) wYes (wCall 2 p__law_times (wCons (wVar 3) (wCons (wVar 6) wNil))))) (wBin dMul (wFz (wCons (wTup (wCons (wC (.int 0)) (wCons (wC (.int 1)) wNil))) wNil)) (wBin dSub (wBin dAdd (wUn dLen (wVarB 2)) (wC (.int 1))) (wUn dLen (wVarB 1)))))) (wSeq (wFor (.one 5) (wRng1 (wCons (wUn dLen (wVarB 2)) wNil)) (wSetIx 4 (wCall 2 p__law_plus (wCons (wBin dIx (wVarB 4) (wBin dAdd (wVarB 5) (wC (.int 1)))) (wCons (wBin dIx (wVarB 2) (wVarB 5)) wNil))) (wBin dAdd (wVarB 5) (wC (.int 1))))) (wPar 1 2 (wV (wVar 2)) (wV (wUn dTuple (wVarB 4))))))) (wRet (wVar 2))))
theorem hB_le (h : Nat) {i j : Nat} (hij : i ≤ j) : hB h i ≤ hB h j := by
  induction hij with
  | refl => exact Nat.le_refl _
  | step _ ih => exact Nat.le_trans ih (hB_mono h _)
theorem hB_ge (h : Nat) : ∀ {k : Nat}, 1 ≤ k → h + 1 ≤ hB h k := fun {k} hk => hB_le h (i := 1) hk
theorem bst_start {h : Nat} {c : Rat} (hc : Hz h c) : BSt h 0 [1] [c, 1] := by
  refine ⟨rfl, rfl, rfl, rfl, fun x hx => ?_, fun x hx => ?_⟩
  · rw [List.mem_singleton.mp hx]; exact hz_1 0
  · rcases List.mem_cons.mp hx with rfl | hx
    · exact hc.mono (by simp [hB])
    · rw [List.mem_singleton.mp hx]; exact hz_1 h
theorem cut1 {α : Type} {x : α} {r : List α} : cutD (x :: r) (some (1 : Int)) none = r := by
  have := cut_from (x :: r) 1
  simpa using this
theorem bGo_at : ∀ (r : List Rat) (i : Nat) (last here : List Rat) (c : Rat), r[i]? = some c → bGo (r.drop i) last here = bGo (r.drop (i + 1)) here (bStep last here c) := by
  intro r i last here c h
  have hi := (List.getElem?_eq_some_iff.mp h).1
  rw [List.drop_eq_getElem_cons hi]
  rw [List.getElem?_eq_getElem hi] at h
  cases h
  rfl
theorem hp_build_by : ∀ ds b Q, ds.length = 1 → p_build_by ds b Q → W_build_by { nx := fun _ b' => Q .non b', rt := Q } (ds.map Slot.v ++ List.replicate 7 .un) b := by
  rintro ds b Q - ⟨c, h, rfl, h1, h2, hz, h0, hf, q⟩
  show W_build_by _ [.v (tupR c), .un, .un, .un, .un, .un, .un, .un] b
  cases c with
  | nil => simp at h1
  | cons x r =>
    have hx : Hz h x := hz x List.mem_cons_self
    (try simp only [wSeq, wSet, wSetO, wRet, wIfS, wFrz, wApp, wDrop, wNext, wBreak, wCont, wNever, wVar, wVarB, wC, wBin, wUn, wT, wAnd, wOr, wNot, wAndV, wOrV, wNotV, wIte, wNil, wCons, wTup, wCall, wListOf, wC2, wIsT, wIsC, wFld, wON, wOS, wSl, wV, wO, wSetIx, wPar, wSwap, wSeqOf, wRng1, wRng2, wFor, wWhile, wYes, wComp, wEnum, wZip, wEnum2, wRgT, wRgL, wAug, dMulT, dMax, wMake, wFz, wCat, wRep, wipeE, D.ty, wIf_true, wIf_false, List.getElem?_cons_zero, List.getElem?_cons_succ, List.set_cons_zero, List.set_cons_succ, dI0_ii, dI_ii, dNeg_i, dGcd_ii, dAbs_i, dInt_i, dInt_b, dBits_i, dLen_t, dLen_l, dTuple_t, dTuple_l, dAdd_ii, dAdd_tt, dAdd_ll, dAdd_ss, dMul_ii, dMul_li, dIs_n, dIs_b, dIsN_n, dRepr_b, rt_0, rt_1, dEq, dNe, dSub, dDiv, dDivU, dMod, dLt, dLe, dGt, dGe, D.isNon, Bool.not_true, Bool.not_false, W_build_by, kONE_eq])
    refine dIx_t (j := 0) rfl ?_
    (try simp only [wSeq, wSet, wSetO, wRet, wIfS, wFrz, wApp, wDrop, wNext, wBreak, wCont, wNever, wVar, wVarB, wC, wBin, wUn, wT, wAnd, wOr, wNot, wAndV, wOrV, wNotV, wIte, wNil, wCons, wTup, wCall, wListOf, wC2, wIsT, wIsC, wFld, wON, wOS, wSl, wV, wO, wSetIx, wPar, wSwap, wSeqOf, wRng1, wRng2, wFor, wWhile, wYes, wComp, wEnum, wZip, wEnum2, wRgT, wRgL, wAug, dMulT, dMax, wMake, wFz, wCat, wRep, wipeE, D.ty, wIf_true, wIf_false, List.getElem?_cons_zero, List.getElem?_cons_succ, List.set_cons_zero, List.set_cons_succ, dI0_ii, dI_ii, dNeg_i, dGcd_ii, dAbs_i, dInt_i, dInt_b, dBits_i, dLen_t, dLen_l, dTuple_t, dTuple_l, dAdd_ii, dAdd_tt, dAdd_ll, dAdd_ss, dMul_ii, dMul_li, dIs_n, dIs_b, dIsN_n, dRepr_b, rt_0, rt_1, dEq, dNe, dSub, dDiv, dDivU, dMod, dLt, dLe, dGt, dGe, D.isNon, Bool.not_true, Bool.not_false])
    rw [List.map_cons, cut1]
    refine for_rule (I := fun i env b' => b' = b ∧ ∃ (last here : List Rat) (s3 s4 s5 s6 s7 : Slot), env = [.v (tupR (x :: r)), .v (tupR last), .v (tupR here), s3, s4, s5, s6, s7] ∧ BSt h i last here ∧ bGo (r.drop i) last here = bldR (x :: r)) ?_ ?_ _ _ ⟨rfl, [1], [x, 1], _, _, _, _, _, rfl, bst_start hx, rfl⟩
    · rintro i d env b' E' hd ⟨rfl, last, here, s3, s4, s5, s6, s7, rfl, st, hgo⟩ hnx hct hbk hrt
      rw [List.getElem?_map] at hd
      obtain ⟨c, hc, rfl⟩ := Option.map_eq_some_iff.mp hd
      have hi := (List.getElem?_eq_some_iff.mp hc).1
      have hcm : c ∈ x :: r := List.mem_cons_of_mem _ (List.mem_of_getElem? hc)
      have hcz := hz c hcm
      have hlen : (x :: r).length = r.length + 1 := rfl
      rw [hlen] at hf h2
      have m1 := hB_le h (show i + 1 ≤ r.length + 1 by omega)
      have m2 := hB_le h (show i + 1 + 1 ≤ r.length + 1 by omega)
      have m0 := hB_le h (show i ≤ r.length + 1 by omega)
      have mg := hB_ge h (show 1 ≤ r.length + 1 by omega)
      have mx : hB h (i + 1 + 1) = hB h (i + 1) + hB h i + h + 1 := rfl
      rw [bGo_at r i last here c hc] at hgo
      have st' := st.next hcz
      refine ⟨_, rfl, ?_⟩
      have hx1 : HzL (0 + 1) [(0 : Rat), 1] := fun y hy => by
        rcases List.mem_cons.mp hy with rfl | hy
        · exact hz_0 0
        · rw [List.mem_singleton.mp hy]; exact hz_1 0
      have eT : D.tup [rt 0, rt 1] = tupR [0, 1] := rfl
      have hne : here ≠ [] := fun z => by have := st.l2; rw [z] at this; simp at this
      (try simp only [wSeq, wSet, wSetO, wRet, wIfS, wFrz, wApp, wDrop, wNext, wBreak, wCont, wNever, wVar, wVarB, wC, wBin, wUn, wT, wAnd, wOr, wNot, wAndV, wOrV, wNotV, wIte, wNil, wCons, wTup, wCall, wListOf, wC2, wIsT, wIsC, wFld, wON, wOS, wSl, wV, wO, wSetIx, wPar, wSwap, wSeqOf, wRng1, wRng2, wFor, wWhile, wYes, wComp, wEnum, wZip, wEnum2, wRgT, wRgL, wAug, dMulT, dMax, wMake, wFz, wCat, wRep, wipeE, D.ty, wIf_true, wIf_false, List.getElem?_cons_zero, List.getElem?_cons_succ, List.set_cons_zero, List.set_cons_succ, dI0_ii, dI_ii, dNeg_i, dGcd_ii, dAbs_i, dInt_i, dInt_b, dBits_i, dLen_t, dLen_l, dTuple_t, dTuple_l, dAdd_ii, dAdd_tt, dAdd_ll, dAdd_ss, dMul_ii, dMul_li, dIs_n, dIs_b, dIsN_n, dRepr_b, rt_0, rt_1, dEq, dNe, dSub, dDiv, dDivU, dMod, dLt, dLe, dGt, dGe, D.isNon, Bool.not_true, Bool.not_false, kONE_eq, kNONE_eq])
      have zz2 := st.z2
      have hp2 := hB_pos h (i + 1)
      obtain ⟨q2, hq2⟩ : ∃ q2, hB h (i + 1) = q2 + 1 := ⟨hB h (i + 1) - 1, by omega⟩
      rw [hq2] at zz2
      refine ⟨rfl, [0, 1], here, rfl, by decide, by have := st.l2; omega, ⟨0, q2, hx1, zz2, by show 3 * _ + 1 ≤ SB; omega⟩, ?_⟩
      rw [mul_x hne, trim_x st.l2 (by rw [st.o2]; decide)]
      refine ⟨rfl, last, c, rfl, by have := st.l1; omega, hcz.sz (by omega), st.z1.sz (by omega), ?_⟩
      rw [trim_by st.l1 (by rw [st.o1]; decide) (h0 c hcm)]
      (try simp only [wSeq, wSet, wSetO, wRet, wIfS, wFrz, wApp, wDrop, wNext, wBreak, wCont, wNever, wVar, wVarB, wC, wBin, wUn, wT, wAnd, wOr, wNot, wAndV, wOrV, wNotV, wIte, wNil, wCons, wTup, wCall, wListOf, wC2, wIsT, wIsC, wFld, wON, wOS, wSl, wV, wO, wSetIx, wPar, wSwap, wSeqOf, wRng1, wRng2, wFor, wWhile, wYes, wComp, wEnum, wZip, wEnum2, wRgT, wRgL, wAug, dMulT, dMax, wMake, wFz, wCat, wRep, wipeE, D.ty, wIf_true, wIf_false, List.getElem?_cons_zero, List.getElem?_cons_succ, List.set_cons_zero, List.set_cons_succ, dI0_ii, dI_ii, dNeg_i, dGcd_ii, dAbs_i, dInt_i, dInt_b, dBits_i, dLen_t, dLen_l, dTuple_t, dTuple_l, dAdd_ii, dAdd_tt, dAdd_ll, dAdd_ss, dMul_ii, dMul_li, dIs_n, dIs_b, dIsN_n, dRepr_b, rt_0, rt_1, dEq, dNe, dSub, dDiv, dDivU, dMod, dLt, dLe, dGt, dGe, D.isNon, Bool.not_true, Bool.not_false])
      rw [List.length_map, List.length_map, byR_len]
      have e3 : ((((0 :: here).length : Nat) : Int) - ((last.length : Nat) : Int)).toNat = (0 :: here).length - (byR last c).length := by rw [byR_len, List.length_cons, st.l1, st.l2]; omega
      refine ⟨⟨by simp, by rw [List.length_cons, st.l1, st.l2]; omega, by rw [List.length_cons, st.l1, st.l2]; omega, by decide⟩, ?_⟩
      rw [e3, rep_one, List.length_replicate, show (rt 0 : D) = kNONE from rfl, pad_rt]
      refine ⟨by rw [byR_len, List.length_cons, st.l1, st.l2]; omega, ?_⟩
      have pl : (padR (0 :: here).length (byR last c)).length = (0 :: here).length := pad_len (by rw [byR_len, List.length_cons, st.l1, st.l2]; omega)
      refine ⟨by rw [zipD_length, List.length_map, List.length_map, pl, Nat.min_self, List.length_cons, st.l2]; omega, ?_⟩
      rw [zipD_rt]
      refine cmp_at (fun q : Rat × Rat => D.tup [rt q.1, rt q.2]) (fun q => rt (q.1 + q.2)) _ _ (fun z hzm => ⟨_, rfl, fun K k => ?_⟩) ?_
      · have h3 := List.of_mem_zip hzm
        (try simp only [wSeq, wSet, wSetO, wRet, wIfS, wFrz, wApp, wDrop, wNext, wBreak, wCont, wNever, wVar, wVarB, wC, wBin, wUn, wT, wAnd, wOr, wNot, wAndV, wOrV, wNotV, wIte, wNil, wCons, wTup, wCall, wListOf, wC2, wIsT, wIsC, wFld, wON, wOS, wSl, wV, wO, wSetIx, wPar, wSwap, wSeqOf, wRng1, wRng2, wFor, wWhile, wYes, wComp, wEnum, wZip, wEnum2, wRgT, wRgL, wAug, dMulT, dMax, wMake, wFz, wCat, wRep, wipeE, D.ty, wIf_true, wIf_false, List.getElem?_cons_zero, List.getElem?_cons_succ, List.set_cons_zero, List.set_cons_succ, dI0_ii, dI_ii, dNeg_i, dGcd_ii, dAbs_i, dInt_i, dInt_b, dBits_i, dLen_t, dLen_l, dTuple_t, dTuple_l, dAdd_ii, dAdd_tt, dAdd_ll, dAdd_ss, dMul_ii, dMul_li, dIs_n, dIs_b, dIsN_n, dRepr_b, rt_0, rt_1, dEq, dNe, dSub, dDiv, dDivU, dMod, dLt, dLe, dGt, dGe, D.isNon, Bool.not_true, Bool.not_false])
        refine ⟨rfl, _, _, rfl, ?_, pad_mem sz_zero (fun y hy => ?_) _ h3.2, trivial, k⟩
        · rcases List.mem_cons.mp h3.1 with e | hy
          · rw [e]; exact sz_zero
          · exact (st.z2 _ hy).sz (by omega)
        · obtain ⟨y', hy', rfl⟩ := List.mem_map.mp hy
          exact ((st.z1 _ hy').mul hcz).sz (by omega)
      · refine hnx _ _ ⟨rfl, here, bStep last here c, .v (rt c), .v (tupR (0 :: here)), .v (tupR (byR last c)), s6, s7, ?_, st', hgo⟩
        have e : ((0 :: here).zip (padR (0 :: here).length (byR last c))).map (fun q => rt (q.1 + q.2)) = (bStep last here c).map rt := by
          rw [show (fun q : Rat × Rat => rt (q.1 + q.2)) = rt ∘ fun q => q.1 + q.2 from rfl, ← List.map_map, zip_add pl.symm]
          congr 1
          unfold bStep
          rw [List.length_cons]
          refine List.map_congr_left fun k _ => ?_
          rw [pad_get, byR_get]
        rw [e]
    · rintro env b' ⟨rfl, last, here, s3, s4, s5, s6, s7, rfl, st, hgo⟩
      rw [List.length_map, List.drop_length] at hgo
      (try simp only [wSeq, wSet, wSetO, wRet, wIfS, wFrz, wApp, wDrop, wNext, wBreak, wCont, wNever, wVar, wVarB, wC, wBin, wUn, wT, wAnd, wOr, wNot, wAndV, wOrV, wNotV, wIte, wNil, wCons, wTup, wCall, wListOf, wC2, wIsT, wIsC, wFld, wON, wOS, wSl, wV, wO, wSetIx, wPar, wSwap, wSeqOf, wRng1, wRng2, wFor, wWhile, wYes, wComp, wEnum, wZip, wEnum2, wRgT, wRgL, wAug, dMulT, dMax, wMake, wFz, wCat, wRep, wipeE, D.ty, wIf_true, wIf_false, List.getElem?_cons_zero, List.getElem?_cons_succ, List.set_cons_zero, List.set_cons_succ, dI0_ii, dI_ii, dNeg_i, dGcd_ii, dAbs_i, dInt_i, dInt_b, dBits_i, dLen_t, dLen_l, dTuple_t, dTuple_l, dAdd_ii, dAdd_tt, dAdd_ll, dAdd_ss, dMul_ii, dMul_li, dIs_n, dIs_b, dIsN_n, dRepr_b, rt_0, rt_1, dEq, dNe, dSub, dDiv, dDivU, dMod, dLt, dLe, dGt, dGe, D.isNon, Bool.not_true, Bool.not_false])
      rw [← hgo] at q
      exact q
/-- the law's row on the way -/
def lfR (last here : List Rat) (c : Rat) (k t : Nat) : Rat := if 1 ≤ t ∧ t ≤ k then c * last.getD t 0 + here.getD (t - 1) 0 else c * last.getD t 0
theorem lf_0 (last here : List Rat) (c : Rat) (t : Nat) : lfR last here c 0 t = c * last.getD t 0 := by
  unfold lfR
  rw [if_neg (by omega)]
theorem lf_s (last here : List Rat) (c : Rat) (k t : Nat) : lfR last here c (k + 1) t = if t = k + 1 then lfR last here c k (k + 1) + here.getD k 0 else lfR last here c k t := by
  unfold lfR
  by_cases h : t = k + 1
  · subst h
    rw [if_pos rfl, if_pos ⟨by omega, by omega⟩, if_neg (by omega), Nat.add_sub_cancel]
  · rw [if_neg h]
    by_cases h2 : 1 ≤ t ∧ t ≤ k
    · rw [if_pos h2, if_pos ⟨h2.1, by omega⟩]
    · rw [if_neg h2, if_neg (by omega)]
theorem lf_end {last here : List Rat} {c : Rat} : (List.range (here.length + 1)).map (lfR last here c here.length) = bStep last here c := by
  unfold bStep
  refine List.map_congr_left fun t ht => ?_
  rw [List.mem_range] at ht
  unfold lfR
  cases t with
  | zero =>
    rw [if_neg (by omega)]
    show c * _ = 0 + _ * c
    grind
  | succ t =>
    rw [if_pos ⟨by omega, by omega⟩, List.getD_cons_succ, Nat.add_sub_cancel]
    grind
theorem lf_start {last : List Rat} {c : Rat} {m : Nat} (here : List Rat) (h : last.length ≤ m + 1) : last.map (fun x => rt (c * x)) ++ List.replicate (m + 1 - last.length) (rt 0) = ((List.range (m + 1)).map (lfR last here c 0)).map rt := by
  refine List.ext_getElem? fun i => ?_
  by_cases h2 : i < last.length
  · rw [List.getElem?_append_left (by simpa using h2), List.getElem?_map, List.getElem?_map, List.getElem?_map, List.getElem?_range (by omega), List.getElem?_eq_getElem h2]
    show some (rt (c * last[i])) = some (rt (lfR last here c 0 i))
    rw [lf_0, List.getD_eq_getElem?_getD, List.getElem?_eq_getElem h2]
    rfl
  · rw [List.getElem?_append_right (by simpa using h2), List.length_map, List.getElem?_replicate]
    by_cases h3 : i < m + 1
    · rw [if_pos (by omega), List.getElem?_map, List.getElem?_map, List.getElem?_range h3]
      show some (rt 0) = some (rt (lfR last here c 0 i))
      rw [lf_0, List.getD_eq_getElem?_getD, List.getElem?_eq_none (by omega)]
      show _ = some (rt (c * 0))
      rw [Rat.mul_zero]
    · rw [if_neg (by omega), List.getElem?_eq_none (by simp; omega)]
theorem hp__law_build : ∀ ds b Q, ds.length = 1 → p__law_build ds b Q → W__law_build { nx := fun _ b' => Q .non b', rt := Q } (ds.map Slot.v ++ List.replicate 6 .un) b := by
  rintro ds b Q - ⟨c, h, rfl, h1, h2, hz, h0, hf, q⟩
  show W__law_build _ [.v (tupR c), .un, .un, .un, .un, .un, .un] b
  cases c with
  | nil => simp at h1
  | cons x r =>
    have hx : Hz h x := hz x List.mem_cons_self
    (try simp only [wSeq, wSet, wSetO, wRet, wIfS, wFrz, wApp, wDrop, wNext, wBreak, wCont, wNever, wVar, wVarB, wC, wBin, wUn, wT, wAnd, wOr, wNot, wAndV, wOrV, wNotV, wIte, wNil, wCons, wTup, wCall, wListOf, wC2, wIsT, wIsC, wFld, wON, wOS, wSl, wV, wO, wSetIx, wPar, wSwap, wSeqOf, wRng1, wRng2, wFor, wWhile, wYes, wComp, wEnum, wZip, wEnum2, wRgT, wRgL, wAug, dMulT, dMax, wMake, wFz, wCat, wRep, wipeE, D.ty, wIf_true, wIf_false, List.getElem?_cons_zero, List.getElem?_cons_succ, List.set_cons_zero, List.set_cons_succ, dI0_ii, dI_ii, dNeg_i, dGcd_ii, dAbs_i, dInt_i, dInt_b, dBits_i, dLen_t, dLen_l, dTuple_t, dTuple_l, dAdd_ii, dAdd_tt, dAdd_ll, dAdd_ss, dMul_ii, dMul_li, dIs_n, dIs_b, dIsN_n, dRepr_b, rt_0, rt_1, dEq, dNe, dSub, dDiv, dDivU, dMod, dLt, dLe, dGt, dGe, D.isNon, Bool.not_true, Bool.not_false, W__law_build])
    refine dIx_t (j := 0) rfl ?_
    (try simp only [wSeq, wSet, wSetO, wRet, wIfS, wFrz, wApp, wDrop, wNext, wBreak, wCont, wNever, wVar, wVarB, wC, wBin, wUn, wT, wAnd, wOr, wNot, wAndV, wOrV, wNotV, wIte, wNil, wCons, wTup, wCall, wListOf, wC2, wIsT, wIsC, wFld, wON, wOS, wSl, wV, wO, wSetIx, wPar, wSwap, wSeqOf, wRng1, wRng2, wFor, wWhile, wYes, wComp, wEnum, wZip, wEnum2, wRgT, wRgL, wAug, dMulT, dMax, wMake, wFz, wCat, wRep, wipeE, D.ty, wIf_true, wIf_false, List.getElem?_cons_zero, List.getElem?_cons_succ, List.set_cons_zero, List.set_cons_succ, dI0_ii, dI_ii, dNeg_i, dGcd_ii, dAbs_i, dInt_i, dInt_b, dBits_i, dLen_t, dLen_l, dTuple_t, dTuple_l, dAdd_ii, dAdd_tt, dAdd_ll, dAdd_ss, dMul_ii, dMul_li, dIs_n, dIs_b, dIsN_n, dRepr_b, rt_0, rt_1, dEq, dNe, dSub, dDiv, dDivU, dMod, dLt, dLe, dGt, dGe, D.isNon, Bool.not_true, Bool.not_false])
    rw [List.map_cons, cut1]
    refine for_rule (I := fun i env b' => b' = b ∧ ∃ (last here : List Rat) (s3 s4 s5 s6 : Slot), env = [.v (tupR (x :: r)), .v (tupR last), .v (tupR here), s3, s4, s5, s6] ∧ BSt h i last here ∧ bGo (r.drop i) last here = bldR (x :: r)) ?_ ?_ _ _ ⟨rfl, [1], [x, 1], _, _, _, _, rfl, bst_start hx, rfl⟩
    · rintro i d env b' E' hd ⟨rfl, last, here, s3, s4, s5, s6, rfl, st, hgo⟩ hnx hct hbk hrt
      rw [List.getElem?_map] at hd
      obtain ⟨c, hc, rfl⟩ := Option.map_eq_some_iff.mp hd
      have hi := (List.getElem?_eq_some_iff.mp hc).1
      have hcm : c ∈ x :: r := List.mem_cons_of_mem _ (List.mem_of_getElem? hc)
      have hcz := hz c hcm
      have hlen : (x :: r).length = r.length + 1 := rfl
      rw [hlen] at hf h2
      have m1 := hB_le h (show i + 1 ≤ r.length + 1 by omega)
      have m2 := hB_le h (show i + 1 + 1 ≤ r.length + 1 by omega)
      have m0 := hB_le h (show i ≤ r.length + 1 by omega)
      have mg := hB_ge h (show 1 ≤ r.length + 1 by omega)
      have mx : hB h (i + 1 + 1) = hB h (i + 1) + hB h i + h + 1 := rfl
      rw [bGo_at r i last here c hc] at hgo
      have st' := st.next hcz
      have l1 := st.l1
      have l2 := st.l2
      refine ⟨_, rfl, ?_⟩
      (try simp only [wSeq, wSet, wSetO, wRet, wIfS, wFrz, wApp, wDrop, wNext, wBreak, wCont, wNever, wVar, wVarB, wC, wBin, wUn, wT, wAnd, wOr, wNot, wAndV, wOrV, wNotV, wIte, wNil, wCons, wTup, wCall, wListOf, wC2, wIsT, wIsC, wFld, wON, wOS, wSl, wV, wO, wSetIx, wPar, wSwap, wSeqOf, wRng1, wRng2, wFor, wWhile, wYes, wComp, wEnum, wZip, wEnum2, wRgT, wRgL, wAug, dMulT, dMax, wMake, wFz, wCat, wRep, wipeE, D.ty, wIf_true, wIf_false, List.getElem?_cons_zero, List.getElem?_cons_succ, List.set_cons_zero, List.set_cons_succ, dI0_ii, dI_ii, dNeg_i, dGcd_ii, dAbs_i, dInt_i, dInt_b, dBits_i, dLen_t, dLen_l, dTuple_t, dTuple_l, dAdd_ii, dAdd_tt, dAdd_ll, dAdd_ss, dMul_ii, dMul_li, dIs_n, dIs_b, dIsN_n, dRepr_b, rt_0, rt_1, dEq, dNe, dSub, dDiv, dDivU, dMod, dLt, dLe, dGt, dGe, D.isNon, Bool.not_true, Bool.not_false])
      refine ⟨by rw [List.length_map]; omega, cmp_at rt (fun x => rt (c * x)) _ _ (fun z hzm => ⟨_, rfl, fun K k => ?_⟩) ?_⟩
      · (try simp only [wSeq, wSet, wSetO, wRet, wIfS, wFrz, wApp, wDrop, wNext, wBreak, wCont, wNever, wVar, wVarB, wC, wBin, wUn, wT, wAnd, wOr, wNot, wAndV, wOrV, wNotV, wIte, wNil, wCons, wTup, wCall, wListOf, wC2, wIsT, wIsC, wFld, wON, wOS, wSl, wV, wO, wSetIx, wPar, wSwap, wSeqOf, wRng1, wRng2, wFor, wWhile, wYes, wComp, wEnum, wZip, wEnum2, wRgT, wRgL, wAug, dMulT, dMax, wMake, wFz, wCat, wRep, wipeE, D.ty, wIf_true, wIf_false, List.getElem?_cons_zero, List.getElem?_cons_succ, List.set_cons_zero, List.set_cons_succ, dI0_ii, dI_ii, dNeg_i, dGcd_ii, dAbs_i, dInt_i, dInt_b, dBits_i, dLen_t, dLen_l, dTuple_t, dTuple_l, dAdd_ii, dAdd_tt, dAdd_ll, dAdd_ss, dMul_ii, dMul_li, dIs_n, dIs_b, dIsN_n, dRepr_b, rt_0, rt_1, dEq, dNe, dSub, dDiv, dDivU, dMod, dLt, dLe, dGt, dGe, D.isNon, Bool.not_true, Bool.not_false])
        exact ⟨rfl, _, _, rfl, hcz.sz (by omega), (st.z1 z hzm).sz (by omega), trivial, k⟩
      · rw [List.length_map, List.length_map]
        have e3 : ((((here.length : Nat) : Int) + 1) - ((last.length : Nat) : Int)).toNat = here.length + 1 - last.length := by omega
        refine ⟨⟨by show 1 * _ ≤ _; omega, by omega, by omega⟩, ?_⟩
        rw [e3, rep_one, show D.tup [D.int 0, D.int 1] = rt 0 from rfl, List.length_map, List.length_replicate, lf_start here (by omega)]
        refine ⟨by omega, ⟨by omega, by omega⟩, ?_⟩
        rw [Int.toNat_natCast, rangeD0]
        refine for_rule (I := fun k env b2 => b2 = b' ∧ ∃ s5, env = [.v (tupR (x :: r)), .v (tupR last), .v (tupR here), .v (rt c), .own (((List.range (here.length + 1)).map (lfR last here c k)).map rt), s5, s6]) ?_ ?_ _ _ ⟨rfl, _, rfl⟩
        · rintro k d env b2 E2 hd ⟨rfl, s5, rfl⟩ hnx2 hct2 hbk2 hrt2
          have hk : k < here.length := by
            have := (List.getElem?_eq_some_iff.mp hd).1
            simpa using this
          have ed : d = .int (k : Int) := by
            rw [List.getElem?_map, List.getElem?_range hk] at hd
            simp at hd
            exact hd.symm
          subst ed
          refine ⟨_, rfl, ?_⟩
          (try simp only [wSeq, wSet, wSetO, wRet, wIfS, wFrz, wApp, wDrop, wNext, wBreak, wCont, wNever, wVar, wVarB, wC, wBin, wUn, wT, wAnd, wOr, wNot, wAndV, wOrV, wNotV, wIte, wNil, wCons, wTup, wCall, wListOf, wC2, wIsT, wIsC, wFld, wON, wOS, wSl, wV, wO, wSetIx, wPar, wSwap, wSeqOf, wRng1, wRng2, wFor, wWhile, wYes, wComp, wEnum, wZip, wEnum2, wRgT, wRgL, wAug, dMulT, dMax, wMake, wFz, wCat, wRep, wipeE, D.ty, wIf_true, wIf_false, List.getElem?_cons_zero, List.getElem?_cons_succ, List.set_cons_zero, List.set_cons_succ, dI0_ii, dI_ii, dNeg_i, dGcd_ii, dAbs_i, dInt_i, dInt_b, dBits_i, dLen_t, dLen_l, dTuple_t, dTuple_l, dAdd_ii, dAdd_tt, dAdd_ll, dAdd_ss, dMul_ii, dMul_li, dIs_n, dIs_b, dIsN_n, dRepr_b, rt_0, rt_1, dEq, dNe, dSub, dDiv, dDivU, dMod, dLt, dLe, dGt, dGe, D.isNon, Bool.not_true, Bool.not_false])
          have hk1 : k + 1 < here.length + 1 := by omega
          have zb : Hz (hB h i + h) (lfR last here c k (k + 1)) := by
            unfold lfR
            rw [if_neg (by omega)]
            have hp := hB_pos h i
            obtain ⟨q', hq'⟩ : ∃ q', hB h i = q' + 1 := ⟨hB h i - 1, by omega⟩
            have z := st.z1
            rw [hq'] at z ⊢
            exact (hcz.mul (z.get (k + 1))).mono (by omega)
          have zh : Hz (hB h (i + 1)) (here.getD k 0) := by
            have hp := hB_pos h (i + 1)
            obtain ⟨q', hq'⟩ : ∃ q', hB h (i + 1) = q' + 1 := ⟨hB h (i + 1) - 1, by omega⟩
            have z := st.z2
            rw [hq'] at z ⊢
            exact z.get k
          rw [show ((k : Nat) : Int) + 1 = ((k + 1 : Nat) : Int) by omega]
          refine dIx_l (d := rt (lfR last here c k (k + 1))) (by rw [List.getElem?_map, List.getElem?_map, List.getElem?_range hk1]; rfl) ?_
          refine ix_rowT hk ⟨rfl, _, _, rfl, zb.sz (by omega), zh.sz (by omega), trivial, ?_⟩
          (try simp only [wSeq, wSet, wSetO, wRet, wIfS, wFrz, wApp, wDrop, wNext, wBreak, wCont, wNever, wVar, wVarB, wC, wBin, wUn, wT, wAnd, wOr, wNot, wAndV, wOrV, wNotV, wIte, wNil, wCons, wTup, wCall, wListOf, wC2, wIsT, wIsC, wFld, wON, wOS, wSl, wV, wO, wSetIx, wPar, wSwap, wSeqOf, wRng1, wRng2, wFor, wWhile, wYes, wComp, wEnum, wZip, wEnum2, wRgT, wRgL, wAug, dMulT, dMax, wMake, wFz, wCat, wRep, wipeE, D.ty, wIf_true, wIf_false, List.getElem?_cons_zero, List.getElem?_cons_succ, List.set_cons_zero, List.set_cons_succ, dI0_ii, dI_ii, dNeg_i, dGcd_ii, dAbs_i, dInt_i, dInt_b, dBits_i, dLen_t, dLen_l, dTuple_t, dTuple_l, dAdd_ii, dAdd_tt, dAdd_ll, dAdd_ss, dMul_ii, dMul_li, dIs_n, dIs_b, dIsN_n, dRepr_b, rt_0, rt_1, dEq, dNe, dSub, dDiv, dDivU, dMod, dLt, dLe, dGt, dGe, D.isNon, Bool.not_true, Bool.not_false])
          rw [List.length_map, List.length_map, List.length_range, ixN_nat' hk1]
          have es : rt (lfR last here c k (k + 1) + here.getD k 0) = rt (lfR last here c (k + 1) (k + 1)) := by rw [lf_s, if_pos rfl]
          rw [es]
          refine hnx2 _ _ ⟨rfl, .v (.int (k : Int)), ?_⟩
          rw [← List.map_set, map_range_set (f' := lfR last here c (k + 1)) hk1 fun t ht => by rw [lf_s, if_neg ht]]
        · rintro env b2 ⟨rfl, s5, rfl⟩
          have hlr : ((List.range here.length).map fun (i : Nat) => D.int (i : Int)).length = here.length := by simp
          rw [hlr, lf_end]
          (try simp only [wSeq, wSet, wSetO, wRet, wIfS, wFrz, wApp, wDrop, wNext, wBreak, wCont, wNever, wVar, wVarB, wC, wBin, wUn, wT, wAnd, wOr, wNot, wAndV, wOrV, wNotV, wIte, wNil, wCons, wTup, wCall, wListOf, wC2, wIsT, wIsC, wFld, wON, wOS, wSl, wV, wO, wSetIx, wPar, wSwap, wSeqOf, wRng1, wRng2, wFor, wWhile, wYes, wComp, wEnum, wZip, wEnum2, wRgT, wRgL, wAug, dMulT, dMax, wMake, wFz, wCat, wRep, wipeE, D.ty, wIf_true, wIf_false, List.getElem?_cons_zero, List.getElem?_cons_succ, List.set_cons_zero, List.set_cons_succ, dI0_ii, dI_ii, dNeg_i, dGcd_ii, dAbs_i, dInt_i, dInt_b, dBits_i, dLen_t, dLen_l, dTuple_t, dTuple_l, dAdd_ii, dAdd_tt, dAdd_ll, dAdd_ss, dMul_ii, dMul_li, dIs_n, dIs_b, dIsN_n, dRepr_b, rt_0, rt_1, dEq, dNe, dSub, dDiv, dDivU, dMod, dLt, dLe, dGt, dGe, D.isNon, Bool.not_true, Bool.not_false])
          exact hnx _ _ ⟨rfl, here, bStep last here c, _, _, _, _, rfl, st', hgo⟩
    · rintro env b' ⟨rfl, last, here, s3, s4, s5, s6, rfl, st, hgo⟩
      rw [List.length_map, List.drop_length] at hgo
      (try simp only [wSeq, wSet, wSetO, wRet, wIfS, wFrz, wApp, wDrop, wNext, wBreak, wCont, wNever, wVar, wVarB, wC, wBin, wUn, wT, wAnd, wOr, wNot, wAndV, wOrV, wNotV, wIte, wNil, wCons, wTup, wCall, wListOf, wC2, wIsT, wIsC, wFld, wON, wOS, wSl, wV, wO, wSetIx, wPar, wSwap, wSeqOf, wRng1, wRng2, wFor, wWhile, wYes, wComp, wEnum, wZip, wEnum2, wRgT, wRgL, wAug, dMulT, dMax, wMake, wFz, wCat, wRep, wipeE, D.ty, wIf_true, wIf_false, List.getElem?_cons_zero, List.getElem?_cons_succ, List.set_cons_zero, List.set_cons_succ, dI0_ii, dI_ii, dNeg_i, dGcd_ii, dAbs_i, dInt_i, dInt_b, dBits_i, dLen_t, dLen_l, dTuple_t, dTuple_l, dAdd_ii, dAdd_tt, dAdd_ll, dAdd_ss, dMul_ii, dMul_li, dIs_n, dIs_b, dIsN_n, dRepr_b, rt_0, rt_1, dEq, dNe, dSub, dDiv, dDivU, dMod, dLt, dLe, dGt, dGe, D.isNon, Bool.not_true, Bool.not_false])
      rw [← hgo] at q
      exact q
end En.K71
/-! k71: the ratios by which a polynomial is built. -/
namespace En.K71
open PySem PySem.Spec PyProof.Rows L2 En
def polyL (d : Nat) (F : Nat → Rat) : List Rat := (List.range (d + 1)).map fun k => if (d - k) % 2 = 0 then F ((d - k) / 2) else 0
def sec : Nat → (Nat → Rat) → List Rat
  | 0, _ => []
  | d + 1, G => polyL d G
def nF (G : Nat → Rat) : Nat → Rat := fun j => G j * (1 / G 0)
def nG (F G : Nat → Rat) : Nat → Rat := fun j => F (j + 1) - nF G (j + 1)
def bfR : Nat → (Nat → Rat) → (Nat → Rat) → List Rat
  | 0, _, _ => []
  | d + 1, F, G => G 0 :: bfR d (nF G) (nG F G)
def Alive : Nat → (Nat → Rat) → (Nat → Rat) → Prop
  | 0, _, _ => True
  | d + 1, F, G => G 0 ≠ 0 ∧ Alive d (nF G) (nG F G)
structure BF (d f g : Nat) (F G : Nat → Rat) : Prop where
  f0 : F 0 = 1
  sF : ∀ j, d < 2 * j → F j = 0
  sG : ∀ j, d ≤ 2 * j → G j = 0
  zF : ∀ j, Hz f (F j)
  zG : ∀ j, Hz g (G j)
def fitB : Nat → Nat → Nat → Bool
  | 0, _, _ => true
  | d + 1, f, g => decide (3 * (2 * g + 4) + 1 ≤ SB ∧ f + 2 * g + 2 ≤ SB) && fitB d (2 * g + 1) (f + 2 * g + 2)
theorem polyL_len {d : Nat} {F : Nat → Rat} : (polyL d F).length = d + 1 := by simp [polyL]
theorem polyL_get {d k : Nat} {F : Nat → Rat} (h : k ≤ d) : (polyL d F).getD k 0 = if (d - k) % 2 = 0 then F ((d - k) / 2) else 0 := getD_range (by omega)
theorem sec_len : ∀ {d : Nat} {G : Nat → Rat}, (sec d G).length = d
  | 0, _ => rfl
  | d + 1, _ => polyL_len
theorem polyL_last {d : Nat} {F : Nat → Rat} : (polyL d F).getD d 0 = F 0 := by
  rw [polyL_get (Nat.le_refl _), Nat.sub_self]
  rfl
theorem nF0 {G : Nat → Rat} (h : G 0 ≠ 0) : nF G 0 = 1 := by
  unfold nF
  generalize G 0 = x at h
  grind
theorem BF.next {d f g : Nat} {F G : Nat → Rat} (s : BF (d + 1) f g F G) (h : G 0 ≠ 0) : BF d (2 * g + 1) (f + 2 * g + 2) (nF G) (nG F G) := by
  have zN : ∀ j, Hz (2 * g + 1) (nF G j) := fun j => by
    unfold nF
    exact ((s.zG j).mul (((hz_1 0).div (s.zG 0) h))).mono (by omega)
  have sN : ∀ j, d + 1 ≤ 2 * j → nF G j = 0 := fun j hj => by
    unfold nF
    rw [s.sG j hj, Rat.zero_mul]
  refine ⟨nF0 h, fun j hj => sN j (by omega), fun j hj => ?_, zN, fun j => ?_⟩
  · unfold nG
    rw [s.sF (j + 1) (by omega), sN (j + 1) (by omega)]
    grind
  · exact ((s.zF (j + 1)).sub (zN (j + 1))).mono (by omega)
theorem by_poly {d : Nat} {G : Nat → Rat} : byR (polyL d G) (1 / G 0) = polyL d (nF G) := by
  unfold byR polyL nF
  rw [List.map_map]
  refine List.map_congr_left fun k _ => ?_
  show (if _ then _ else _) * _ = _
  split
  · rfl
  · rw [Rat.zero_mul]
theorem trim_app {xs : List Rat} : trimR (xs ++ [0]) = trimR xs := by
  have h1 : ∀ m, m ≤ xs.length → trimN (xs ++ [0]) m = trimN xs m := by
    intro m
    induction m with
    | zero => intro _; rfl
    | succ m ih =>
      intro hm
      unfold trimN
      rw [ih (by omega), List.getD_eq_getElem?_getD, List.getElem?_append_left (by omega), ← List.getD_eq_getElem?_getD]
  unfold trimR
  rw [List.length_append, List.length_singleton]
  have h2 : trimN (xs ++ [0]) (xs.length + 1) = trimN xs xs.length := by
    rw [trimN, List.getD_eq_getElem?_getD, List.getElem?_append_right (Nat.le_refl _), Nat.sub_self]
    show (if (0 : Rat) = 0 then _ else _) = _
    rw [if_pos rfl, h1 _ (Nat.le_refl _)]
  rw [h2, List.take_append_of_le_length (trimN_le xs _)]
theorem sub_len {xs ys : List Rat} : (subR xs ys).length = max xs.length ys.length := by
  unfold subR
  rw [List.length_map, List.length_zip, pad_len (Nat.le_max_left _ _), pad_len (Nat.le_max_right _ _), Nat.min_self]
theorem sub_get {xs ys : List Rat} {k : Nat} (h : k < max xs.length ys.length) : (subR xs ys).getD k 0 = xs.getD k 0 - ys.getD k 0 := by
  have l1 := pad_len (xs := xs) (Nat.le_max_left xs.length ys.length)
  have l2 := pad_len (xs := ys) (Nat.le_max_right xs.length ys.length)
  rw [← pad_get (n := max xs.length ys.length) (xs := xs), ← pad_get (n := max xs.length ys.length) (xs := ys)]
  unfold subR
  rw [List.getD_eq_getElem?_getD, List.getElem?_map, List.getElem?_eq_getElem (by rw [List.length_zip]; omega), List.getElem_zip]
  rw [List.getD_eq_getElem?_getD, List.getD_eq_getElem?_getD, List.getElem?_eq_getElem (by omega), List.getElem?_eq_getElem (by omega)]
  rfl
theorem ext_getD {xs ys : List Rat} (hl : xs.length = ys.length) (h : ∀ k, k < xs.length → xs.getD k 0 = ys.getD k 0) : xs = ys := by
  refine List.ext_getElem? fun i => ?_
  by_cases hi : i < xs.length
  · have := h i hi
    rw [List.getD_eq_getElem?_getD, List.getD_eq_getElem?_getD, List.getElem?_eq_getElem hi, List.getElem?_eq_getElem (by omega)] at this
    rw [List.getElem?_eq_getElem hi, List.getElem?_eq_getElem (by omega)]
    exact congrArg some this
  · rw [List.getElem?_eq_none (by omega), List.getElem?_eq_none (by omega)]
theorem sub_poly {d f g : Nat} {F G : Nat → Rat} (s : BF (d + 1) f g F G) (h : G 0 ≠ 0) : subR (polyL (d + 1) F) (0 :: polyL d (nF G)) = sec d (nG F G) ++ [0] ++ [0] := by
  have hl : (subR (polyL (d + 1) F) (0 :: polyL d (nF G))).length = d + 2 := by rw [sub_len, List.length_cons, polyL_len, polyL_len, Nat.max_self]
  have n0 := nF0 h
  refine ext_getD (by rw [hl, List.length_append, List.length_append, sec_len]; rfl) fun k hk => ?_
  rw [hl] at hk
  rw [sub_get (by rw [List.length_cons, polyL_len, polyL_len, Nat.max_self]; exact hk), polyL_get (by omega)]
  have e1 : (0 :: polyL d (nF G)).getD k 0 = if (d + 1 - k) % 2 = 0 then nF G ((d + 1 - k) / 2) else 0 := by
    cases k with
    | zero =>
      rw [List.getD_cons_zero]
      split
      · unfold nF
        rw [s.sG _ (by omega), Rat.zero_mul]
      · rfl
    | succ k =>
      rw [List.getD_cons_succ, polyL_get (by omega), show d + 1 - (k + 1) = d - k by omega]
  rw [e1]
  by_cases hd : k < d
  · have e2 : (sec d (nG F G) ++ [0] ++ [0]).getD k 0 = (sec d (nG F G)).getD k 0 := by
      rw [List.getD_eq_getElem?_getD, List.getElem?_append_left (by rw [List.length_append, sec_len]; omega), List.getElem?_append_left (by rw [sec_len]; exact hd), ← List.getD_eq_getElem?_getD]
    rw [e2]
    obtain ⟨e, rfl⟩ : ∃ e, d = e + 1 := ⟨d - 1, by omega⟩
    show _ = (polyL e (nG F G)).getD k 0
    rw [polyL_get (by omega)]
    by_cases z : (e - k) % 2 = 0
    · rw [if_pos z, if_pos (by omega), if_pos (by omega)]
      unfold nG
      rw [show (e + 1 + 1 - k) / 2 = (e - k) / 2 + 1 by omega]
    · rw [if_neg z, if_neg (by omega), if_neg (by omega)]
      grind
  · have e2 : (sec d (nG F G) ++ [0] ++ [0]).getD k 0 = 0 := by
      by_cases z : k = d
      · subst z
        rw [List.getD_eq_getElem?_getD, List.getElem?_append_left (by rw [List.length_append, sec_len]; exact Nat.lt_succ_self _), List.getElem?_append_right (by rw [sec_len]; exact Nat.le_refl _), sec_len, Nat.sub_self]
        rfl
      · have : k = d + 1 := by omega
        subst this
        rw [List.getD_eq_getElem?_getD, List.getElem?_append_right (by rw [List.length_append, sec_len]; exact Nat.le_refl _), List.length_append, sec_len]
        show [0][d + 1 - (d + 1)]?.getD 0 = _
        rw [Nat.sub_self]
        rfl
    rw [e2]
    by_cases z : k = d
    · subst z
      rw [if_neg (by omega), if_neg (by omega)]
      grind
    · have : k = d + 1 := by omega
      subst this
      rw [Nat.sub_self, if_pos rfl, if_pos rfl]
      show F 0 - nF G 0 = 0
      rw [s.f0, n0]
      grind
theorem trim_sec {d : Nat} {G F : Nat → Rat} (h : Alive d F G) : trimR (sec d G) = sec d G := by
  cases d with
  | zero => rfl
  | succ d => exact trimR_self polyL_len (by show (polyL d G).getD d 0 ≠ 0; rw [polyL_last]; exact h.1)
theorem lap_sub {d f g : Nat} {F G : Nat → Rat} (s : BF (d + 1) f g F G) (h : Alive (d + 1) F G) : trimR (subR (polyL (d + 1) F) (0 :: polyL d (nF G))) = sec d (nG F G) := by
  rw [sub_poly s h.1, trim_app, trim_app, trim_sec h.2]
/-! ### its start -/
def F0 (xs : List Rat) (n : Nat) : Nat → Rat := fun j => if 2 * j ≤ n then xs.getD (n - 2 * j) 0 * (1 / xs.getD n 0) else 0
def G0 (xs : List Rat) (n : Nat) : Nat → Rat := fun j => if 2 * j + 1 ≤ n then xs.getD (n - 1 - 2 * j) 0 * (1 / xs.getD n 0) else 0
theorem par_len {xs : List Rat} {p : Nat} : (parR xs p).length = xs.length := by unfold parR; rw [List.length_map, List.length_zipIdx]
theorem par_get {xs : List Rat} {p k : Nat} (h : k < xs.length) : (parR xs p).getD k 0 = if k % 2 = p then xs.getD k 0 else 0 := by
  unfold parR
  rw [List.getD_eq_getElem?_getD, List.getElem?_map, List.getElem?_zipIdx, List.getElem?_eq_getElem h]
  simp only [Option.map_some, Option.getD_some]
  rw [Nat.zero_add, List.getD_eq_getElem?_getD, List.getElem?_eq_getElem h]
  rfl
theorem start1 {xs : List Rat} {n : Nat} (hl : xs.length = n + 1) (h0 : xs.getD n 0 ≠ 0) : trimR (parR xs (n % 2)) = parR xs (n % 2) ∧ trimR (byR (parR xs (n % 2)) (1 / xs.getD n 0)) = polyL n (F0 xs n) := by
  have lg : (parR xs (n % 2)).getD n 0 ≠ 0 := by
    rw [par_get (by omega), if_pos rfl]
    exact h0
  have pl : (parR xs (n % 2)).length = n + 1 := by rw [par_len, hl]
  refine ⟨trimR_self pl lg, ?_⟩
  rw [trim_by pl lg (by generalize xs.getD n 0 = a at h0; intro z; grind)]
  refine ext_getD (by rw [byR_len, pl, polyL_len]) fun k hk => ?_
  rw [byR_len, pl] at hk
  rw [byR_get, par_get (by omega), polyL_get (by omega)]
  unfold F0
  by_cases z : (n - k) % 2 = 0
  · rw [if_pos z, if_pos (by omega), if_pos (by omega), show n - 2 * ((n - k) / 2) = k by omega]
  · rw [if_neg z, if_neg (by omega), Rat.zero_mul]
theorem start2 {xs : List Rat} {n : Nat} (hl : xs.length = n + 1) (h0 : xs.getD n 0 ≠ 0) (h1 : 1 ≤ n) (hg : G0 xs n 0 ≠ 0) : ∃ ys : List Rat, trimR (parR xs ((n + 1) % 2)) = ys ∧ ys.length = n ∧ (∀ y ∈ ys, y ∈ xs ∨ y = 0) ∧ trimR (byR ys (1 / xs.getD n 0)) = sec n (G0 xs n) := by
  obtain ⟨m, rfl⟩ : ∃ m, n = m + 1 := ⟨n - 1, by omega⟩
  have hz : (1 / xs.getD (m + 1) 0) ≠ 0 := by generalize xs.getD (m + 1) 0 = a at h0; intro z; grind
  have hm : xs.getD m 0 ≠ 0 := fun z => hg (by
    unfold G0
    rw [if_pos (by omega), show m + 1 - 1 - 2 * 0 = m by omega, z, Rat.zero_mul])
  let ys : List Rat := (List.range (m + 1)).map fun k => if k % 2 = m % 2 then xs.getD k 0 else 0
  have yl : ys.length = m + 1 := by simp [ys]
  have yg : ∀ k, k < m + 1 → ys.getD k 0 = if k % 2 = m % 2 then xs.getD k 0 else 0 := fun k hk => getD_range hk
  have e : parR xs ((m + 1 + 1) % 2) = ys ++ [0] := by
    refine ext_getD (by rw [par_len, List.length_append, yl, hl]; rfl) fun k hk => ?_
    rw [par_len, hl] at hk
    rw [par_get (by omega)]
    by_cases z : k < m + 1
    · rw [List.getD_eq_getElem?_getD (l := ys ++ [0]), List.getElem?_append_left (by rw [yl]; exact z), ← List.getD_eq_getElem?_getD, yg k z]
      by_cases z2 : k % 2 = m % 2
      · rw [if_pos z2, if_pos (by omega)]
      · rw [if_neg z2, if_neg (by omega)]
    · have : k = m + 1 := by omega
      subst this
      rw [List.getD_eq_getElem?_getD (l := ys ++ [0]), List.getElem?_append_right (by rw [yl]; exact Nat.le_refl _), yl, Nat.sub_self, if_neg (by omega)]
      rfl
  have ylast : ys.getD m 0 ≠ 0 := by rw [yg m (by omega), if_pos rfl]; exact hm
  refine ⟨ys, ?_, yl, fun y hy => ?_, ?_⟩
  · rw [e, trim_app, trimR_self yl ylast]
  · obtain ⟨k, hk, rfl⟩ := List.mem_map.mp hy
    rw [List.mem_range] at hk
    by_cases z : k % 2 = m % 2
    · rw [if_pos z]
      refine .inl ?_
      rw [List.getD_eq_getElem?_getD, List.getElem?_eq_getElem (by omega)]
      exact List.getElem_mem _
    · rw [if_neg z]; exact .inr rfl
  · rw [trim_by yl ylast hz]
    show _ = polyL m (G0 xs (m + 1))
    refine ext_getD (by rw [byR_len, yl, polyL_len]) fun k hk => ?_
    rw [byR_len, yl] at hk
    rw [byR_get, yg k hk, polyL_get (by omega)]
    unfold G0
    by_cases z : (m - k) % 2 = 0
    · rw [if_pos z, if_pos (by omega), if_pos (by omega), show m + 1 - 1 - 2 * ((m - k) / 2) = k by omega]
    · rw [if_neg z, if_neg (by omega), Rat.zero_mul]
def p_built_from : Spec := fun ds b Q => ∃ (xs : List Rat) (n f g : Nat), ds = [tupR xs] ∧ xs.length = n + 1 ∧ 1 ≤ n ∧ n ≤ 100 ∧ xs.getD n 0 ≠ 0 ∧ (∀ x ∈ xs, Sz x ∧ Sz (x * (1 / xs.getD n 0))) ∧ BF n f g (F0 xs n) (G0 xs n) ∧ fitB n f g = true ∧ f ≤ SB ∧ g ≤ SB ∧ Alive n (F0 xs n) (G0 xs n) ∧ Q (tupR (bfR n (F0 xs n) (G0 xs n))) b
/-- built_from: row, many, first, second, out, lead, plain -/
def W_built_from : WS := (wSeq (wSet 1 (wBin dSub (wUn dLen (wVarB 0)) (wC (.int 1)))) (wSeq (wSet 2 (wCall 2 p_poly_by (wCons (wCall 2 p_same_parity (wCons (wVar 0) (wCons (wBin dMod (wVarB 1) (wC (.int 2))) wNil))) (wCons (wCall 2 p_parted (wCons (wC kONE) (wCons (wBin dIx (wVarB 0) (wUn dNeg (wC (.int 1)))) wNil))) wNil)))) (wSeq (wPar 3 4 (wV (wCall 2 p_poly_by (wCons (wCall 2 p_same_parity (wCons (wVar 0) (wCons (wBin dMod (wBin dAdd (wVarB 1) (wC (.int 1))) (wC (.int 2))) wNil))) (wCons (wCall 2 p_parted (wCons (wC kONE) (wCons (wBin dIx (wVarB 0) (wUn dNeg (wC (.int 1)))) wNil))) wNil)))) (wO wNil)) (wSeq (wWhile (wT (wBin dGt (wUn dLen (wVarB 2)) (wC (.int 1)))) (wSeq (wSet 5 (wBin dIx (wVarB 3) (wUn dNeg (wC (.int 1))))) (wSeq (wApp 4 (wVar 5)) (wSeq (wSet 6 (wCall 2 p_poly_by (wCons (wVar 3) (wCons (wCall 2 p_parted (wCons (wC kONE) (wCons (wVar 5) wNil))) wNil)))) (wPar 2 3 (wV (wVar 6)) (wV (wCall 2 p_poly_less (wCons (wVar 2) (wCons (wCall 2 p_poly_times (wCons (wTup (wCons (wC kNONE) (wCons (wC kONE) wNil))) (wCons (wVar 6) wNil))) wNil))))))))) (wRet (wUn dTuple (wVarB 4)))))))
theorem hp_built_from : ∀ ds b Q, ds.length = 1 → p_built_from ds b Q → W_built_from { nx := fun _ b' => Q .non b', rt := Q } (ds.map Slot.v ++ List.replicate 6 .un) b := by
  rintro ds b Q - ⟨xs, n, f, g, rfl, hl, h1, h2, h0, hz, s, hf, hfS, hgS, al, q⟩
  show W_built_from _ [.v (tupR xs), .un, .un, .un, .un, .un, .un] b
  have em : ∀ k : Nat, ((k : Nat) : Int).fmod 2 = ((k % 2 : Nat) : Int) := fun k => by rw [Int.fmod_eq_emod_of_nonneg _ (by decide)]; omega
  have hlast : xs.getD n 0 ∈ xs := by
    rw [List.getD_eq_getElem?_getD, List.getElem?_eq_getElem (by omega)]
    exact List.getElem_mem _
  have s1 : Sz (1 : Rat) := (hz_1 0).sz (by decide)
  have hal : G0 xs n 0 ≠ 0 := by
    obtain ⟨m, rfl⟩ : ∃ m, n = m + 1 := ⟨n - 1, by omega⟩
    exact al.1
  obtain ⟨t1, t2⟩ := start1 hl h0
  obtain ⟨ys, u1, u2, u3, u4⟩ := start2 hl h0 h1 hal
  have szr : Sz (1 / xs.getD n 0) := by
    have h3 := (hz _ hlast).1
    have h4 : Hz SB (xs.getD n 0) := ⟨h3.n, h3.d⟩
    have e : (1 : Rat) / xs.getD n 0 = (xs.getD n 0)⁻¹ := by rw [Rat.div_def, Rat.one_mul]
    rw [e]
    have h5 : Rat.divInt (xs.getD n 0).den (xs.getD n 0).num = (xs.getD n 0)⁻¹ := by
      rw [Rat.inv_def]
    rw [← h5]
    have := hz_divInt (t := (xs.getD n 0).den) (k := (xs.getD n 0).num) (num_ne h0) (n := SB) h4.dn h4.n
    exact ⟨this.n, this.d⟩
  (try simp only [wSeq, wSet, wSetO, wRet, wIfS, wFrz, wApp, wDrop, wNext, wBreak, wCont, wNever, wVar, wVarB, wC, wBin, wUn, wT, wAnd, wOr, wNot, wAndV, wOrV, wNotV, wIte, wNil, wCons, wTup, wCall, wListOf, wC2, wIsT, wIsC, wFld, wON, wOS, wSl, wV, wO, wSetIx, wPar, wSwap, wSeqOf, wRng1, wRng2, wFor, wWhile, wYes, wComp, wEnum, wZip, wEnum2, wRgT, wRgL, wAug, dMulT, dMax, wMake, wFz, wCat, wRep, wipeE, D.ty, wIf_true, wIf_false, List.getElem?_cons_zero, List.getElem?_cons_succ, List.set_cons_zero, List.set_cons_succ, dI0_ii, dI_ii, dNeg_i, dGcd_ii, dAbs_i, dInt_i, dInt_b, dBits_i, dLen_t, dLen_l, dTuple_t, dTuple_l, dAdd_ii, dAdd_tt, dAdd_ll, dAdd_ss, dMul_ii, dMul_li, dIs_n, dIs_b, dIsN_n, dRepr_b, rt_0, rt_1, dEq, dNe, dSub, dDiv, dDivU, dMod, dLt, dLe, dGt, dGe, D.isNon, Bool.not_true, Bool.not_false, W_built_from, kONE_eq])
  rw [List.length_map, hl, show ((n + 1 : Nat) : Int) - 1 = (n : Int) by omega]
  rw [show ((n : Nat) : Int) + 1 = ((n + 1 : Nat) : Int) by omega, em, em]
  have szi : ∀ x ∈ xs, Sz x := fun x hx => (hz x hx).1
  have sz0 : Sz (0 : Rat) := sz_zero
  refine ⟨by decide, rfl, xs, n % 2, rfl, by omega, ?_⟩
  rw [t1]
  refine ix_m1 hl ⟨rfl, _, _, rfl, s1, szi _ hlast, h0, rfl, _, _, rfl, by rw [par_len]; omega, szr, fun x hx => ?_, ?_⟩
  · unfold parR at hx
    obtain ⟨z, hz1, rfl⟩ := List.mem_map.mp hx
    split
    · exact szi _ (by
        have := List.mem_zipIdx hz1
        rw [this.2.2]
        exact List.getElem_mem _)
    · exact sz0
  rw [t2]
  refine ⟨by decide, rfl, xs, (n + 1) % 2, rfl, by omega, ?_⟩
  rw [u1]
  refine ix_m1 hl ⟨rfl, _, _, rfl, s1, szi _ hlast, h0, rfl, _, _, rfl, by omega, szr, fun y hy => ?_, ?_⟩
  · rcases u3 y hy with hy | rfl
    · exact szi y hy
    · exact sz0
  rw [u4]
  have gmax : ∀ {x y : Nat}, x ≤ y → y ≤ SB → x ≤ SB := fun h h' => Nat.le_trans h h'
  refine while_rule (I := fun m env b' => b' = b ∧ ∃ (F G : Nat → Rat) (f g : Nat) (out : List Rat) (s5 s6 : Slot), env = [.v (tupR xs), .v (.int (n : Int)), .v (tupR (polyL m F)), .v (tupR (sec m G)), .own (out.map rt), s5, s6] ∧ BF m f g F G ∧ fitB m f g = true ∧ f ≤ SB ∧ g ≤ SB ∧ Alive m F G ∧ out ++ bfR m F G = bfR n (F0 xs n) (G0 xs n) ∧ out.length + m = n) ?_ n _ _ ⟨rfl, _, _, f, g, [], _, _, rfl, s, hf, hfS, hgS, al, rfl, by simp⟩
  rintro m env b' K ⟨rfl, F, G, f, g, out, s5, s6, rfl, s, hf, hfS, hgS, al, hout, hlen⟩ kt kf
  (try simp only [wSeq, wSet, wSetO, wRet, wIfS, wFrz, wApp, wDrop, wNext, wBreak, wCont, wNever, wVar, wVarB, wC, wBin, wUn, wT, wAnd, wOr, wNot, wAndV, wOrV, wNotV, wIte, wNil, wCons, wTup, wCall, wListOf, wC2, wIsT, wIsC, wFld, wON, wOS, wSl, wV, wO, wSetIx, wPar, wSwap, wSeqOf, wRng1, wRng2, wFor, wWhile, wYes, wComp, wEnum, wZip, wEnum2, wRgT, wRgL, wAug, dMulT, dMax, wMake, wFz, wCat, wRep, wipeE, D.ty, wIf_true, wIf_false, List.getElem?_cons_zero, List.getElem?_cons_succ, List.set_cons_zero, List.set_cons_succ, dI0_ii, dI_ii, dNeg_i, dGcd_ii, dAbs_i, dInt_i, dInt_b, dBits_i, dLen_t, dLen_l, dTuple_t, dTuple_l, dAdd_ii, dAdd_tt, dAdd_ll, dAdd_ss, dMul_ii, dMul_li, dIs_n, dIs_b, dIsN_n, dRepr_b, rt_0, rt_1, dEq, dNe, dSub, dDiv, dDivU, dMod, dLt, dLe, dGt, dGe, D.isNon, Bool.not_true, Bool.not_false])
  rw [List.length_map, polyL_len]
  by_cases hgt : (1 : Int) < ((m + 1 : Nat) : Int)
  · rw [decide_eq_true hgt]
    obtain ⟨d, rfl⟩ : ∃ d, m = d + 1 := ⟨m - 1, by omega⟩
    refine kt b' ⟨d, rfl, fun E' hn hc hb hr => ?_⟩
    simp only [fitB, Bool.and_eq_true, decide_eq_true_eq] at hf
    obtain ⟨⟨g1, g2⟩, g3⟩ := hf
    have aG := al.1
    have szG : Sz (G 0) := (s.zG 0).sz hgS
    have szG' : Hz (1 + g) (1 / G 0) := (hz_1 0).div (s.zG 0) aG
    have s' := s.next aG
    have hs : sec (d + 1) G = polyL d G := rfl
    (try simp only [wSeq, wSet, wSetO, wRet, wIfS, wFrz, wApp, wDrop, wNext, wBreak, wCont, wNever, wVar, wVarB, wC, wBin, wUn, wT, wAnd, wOr, wNot, wAndV, wOrV, wNotV, wIte, wNil, wCons, wTup, wCall, wListOf, wC2, wIsT, wIsC, wFld, wON, wOS, wSl, wV, wO, wSetIx, wPar, wSwap, wSeqOf, wRng1, wRng2, wFor, wWhile, wYes, wComp, wEnum, wZip, wEnum2, wRgT, wRgL, wAug, dMulT, dMax, wMake, wFz, wCat, wRep, wipeE, D.ty, wIf_true, wIf_false, List.getElem?_cons_zero, List.getElem?_cons_succ, List.set_cons_zero, List.set_cons_succ, dI0_ii, dI_ii, dNeg_i, dGcd_ii, dAbs_i, dInt_i, dInt_b, dBits_i, dLen_t, dLen_l, dTuple_t, dTuple_l, dAdd_ii, dAdd_tt, dAdd_ll, dAdd_ss, dMul_ii, dMul_li, dIs_n, dIs_b, dIsN_n, dRepr_b, rt_0, rt_1, dEq, dNe, dSub, dDiv, dDivU, dMod, dLt, dLe, dGt, dGe, D.isNon, Bool.not_true, Bool.not_false, kONE_eq])
    rw [hs]
    refine ix_m1 polyL_len ?_
    rw [polyL_last, List.length_map]
    refine ⟨by omega, rfl, _, _, rfl, s1, szG, aG, rfl, _, _, rfl, by rw [polyL_len]; omega, szG'.sz (by omega), fun x hx => ?_, ?_⟩
    · obtain ⟨k, hk, rfl⟩ := List.mem_map.mp hx
      split
      · exact (s.zG _).sz hgS
      · exact sz0
    rw [trim_by polyL_len (by rw [polyL_last]; exact aG) (by generalize G 0 = a at aG; intro z; grind), by_poly]
    have hP : HzL (2 * g + 1) (polyL d (nF G)) := fun x hx => by
      obtain ⟨k, hk, rfl⟩ := List.mem_map.mp hx
      split
      · exact s'.zF _
      · exact hz_0 _
    have hne : polyL d (nF G) ≠ [] := fun z => by have := polyL_len (d := d) (F := nF G); rw [z] at this; simp at this
    refine ⟨rfl, [0, 1], polyL d (nF G), rfl, by decide, by rw [polyL_len]; omega, ⟨0, 2 * g, fun y hy => ?_, hP, by show 3 * _ + 1 ≤ SB; omega⟩, ?_⟩
    · rcases List.mem_cons.mp hy with rfl | hy
      · exact hz_0 0
      · rw [List.mem_singleton.mp hy]; exact hz_1 0
    rw [mul_x hne, trim_x polyL_len (by rw [polyL_last, nF0 aG]; decide)]
    refine ⟨rfl, polyL (d + 1) F, 0 :: polyL d (nF G), rfl, by rw [polyL_len]; omega, by rw [List.length_cons, polyL_len]; omega, fun x hx => ?_, fun y hy => ?_, ?_⟩
    · obtain ⟨k, hk, rfl⟩ := List.mem_map.mp hx
      split
      · exact (s.zF _).sz hfS
      · exact sz0
    · rcases List.mem_cons.mp hy with rfl | hy
      · exact sz0
      · exact (hP y hy).sz (by omega)
    rw [lap_sub s al]
    refine hn _ _ ⟨rfl, nF G, nG F G, _, _, out ++ [G 0], .v (rt (G 0)), .v (tupR (polyL d (nF G))), ?_, s', g3, by omega, g2, al.2, ?_, ?_⟩
    · rw [List.map_append]
      rfl
    · rw [List.append_assoc]
      exact hout
    · rw [List.length_append, List.length_singleton]
      omega
  · rw [decide_eq_false hgt]
    obtain rfl : m = 0 := by omega
    refine kf b' ?_
    (try simp only [wSeq, wSet, wSetO, wRet, wIfS, wFrz, wApp, wDrop, wNext, wBreak, wCont, wNever, wVar, wVarB, wC, wBin, wUn, wT, wAnd, wOr, wNot, wAndV, wOrV, wNotV, wIte, wNil, wCons, wTup, wCall, wListOf, wC2, wIsT, wIsC, wFld, wON, wOS, wSl, wV, wO, wSetIx, wPar, wSwap, wSeqOf, wRng1, wRng2, wFor, wWhile, wYes, wComp, wEnum, wZip, wEnum2, wRgT, wRgL, wAug, dMulT, dMax, wMake, wFz, wCat, wRep, wipeE, D.ty, wIf_true, wIf_false, List.getElem?_cons_zero, List.getElem?_cons_succ, List.set_cons_zero, List.set_cons_succ, dI0_ii, dI_ii, dNeg_i, dGcd_ii, dAbs_i, dInt_i, dInt_b, dBits_i, dLen_t, dLen_l, dTuple_t, dTuple_l, dAdd_ii, dAdd_tt, dAdd_ll, dAdd_ss, dMul_ii, dMul_li, dIs_n, dIs_b, dIsN_n, dRepr_b, rt_0, rt_1, dEq, dNe, dSub, dDiv, dDivU, dMod, dLt, dLe, dGt, dGe, D.isNon, Bool.not_true, Bool.not_false])
    have e : out = bfR n (F0 xs n) (G0 xs n) := by rw [← hout]; exact (List.append_nil _).symm
    rw [e]
    exact q
end En.K71
/-! k71: left_zeros, is_left_zeros, the law's due. -/
namespace En.K71
open PySem PySem.Spec PyProof.Rows L2 En
theorem alive_of : ∀ (d : Nat) (F G f0 f1 : Nat → Rat) (c s : Rat), c * f0 0 = 1 → s ≠ 0 → (∀ j, F j = c * f0 j) → (∀ j, G j = s * f1 j) → (∀ i, i < d → rou i f0 f1 ≠ 0) → Alive d F G
  | 0, _, _, _, _, _, _, _, _, _, _, _ => trivial
  | d + 1, F, G, f0, f1, c, s, hc, hs, hF, hG, h => by
    have h0 : f1 0 ≠ 0 := h 0 (by omega)
    have g0 : G 0 ≠ 0 := by
      rw [hG]
      intro z
      rcases Rat.mul_eq_zero.mp z with z | z
      · exact hs z
      · exact h0 z
    have eN : ∀ j, nF G j = 1 / f1 0 * f1 j := fun j => by
      unfold nF
      rw [hG, hG]
      generalize f1 0 = x at h0
      grind
    refine ⟨g0, alive_of d (nF G) (nG F G) f1 (nx2 f0 f1) (1 / f1 0) c ?_ (fun z => by rw [z] at hc; rw [Rat.zero_mul] at hc; exact absurd hc (by decide)) eN (fun j => ?_) fun i hi => h (i + 1) (by omega)⟩
    · generalize f1 0 = x at h0
      grind
    · unfold nG nx2
      rw [hF, eN]
      have e : f0 0 / f1 0 * f1 (j + 1) * c = 1 / f1 0 * f1 (j + 1) := by
        generalize f1 0 = x at h0
        grind
      grind
def fe (xs : List Rat) (n : Nat) : Nat → Rat := fun j => if 2 * j ≤ n then xs.getD (n - 2 * j) 0 else 0
def fo (xs : List Rat) (n : Nat) : Nat → Rat := fun j => if 2 * j + 1 ≤ n then xs.getD (n - 1 - 2 * j) 0 else 0
theorem hw_hur (xs : List Rat) (n i j : Nat) (hn : 1 ≤ n) : hwE xs n i j = hur (fe xs n) (fo xs n) i j := by
  by_cases h : i % 2 = 0
  · obtain ⟨t, rfl⟩ : ∃ t, i = 2 * t := ⟨i / 2, by omega⟩
    rw [hur_e]
    unfold hwE shf fo
    by_cases z : t ≤ j
    · rw [if_pos z]
      by_cases z2 : 2 * (j - t) + 1 ≤ n
      · rw [if_pos z2, if_pos ⟨by omega, by omega⟩, show n + 2 * t - 1 - 2 * j = n - 1 - 2 * (j - t) by omega]
      · rw [if_neg z2, if_neg (by omega)]
    · rw [if_neg z, if_neg (by omega)]
  · obtain ⟨t, rfl⟩ : ∃ t, i = 2 * t + 1 := ⟨i / 2, by omega⟩
    rw [hur_o]
    unfold hwE shf fe
    by_cases z : t ≤ j
    · rw [if_pos z]
      by_cases z2 : 2 * (j - t) ≤ n
      · rw [if_pos z2, if_pos ⟨by omega, by omega⟩, show n + (2 * t + 1) - 1 - 2 * j = n - 2 * (j - t) by omega]
      · rw [if_neg z2, if_neg (by omega)]
    · rw [if_neg z, if_neg (by omega)]
theorem mnr_prod {xs : List Rat} {n m : Nat} (hl : xs.length = n + 1) (hn : 1 ≤ n) (hm : m ≤ n) (h : ∀ i, i + 1 < m → piv i (hur (fe xs n) (fo xs n)) ≠ 0) : mnr (hwR xs) m = prodp m (hur (fe xs n) (fo xs n)) := by
  have e : ∀ i j, i < m → j < m → ent (cornR (hwR xs) m) i j = hur (fe xs n) (fo xs n) i j := fun i j hi hj => by
    rw [corn_ent hi hj, hw_ent hl (by omega) (by omega), hw_hur _ _ _ _ hn]
  unfold mnr
  rw [det_prod corn_sq fun i hi => ?_, prodp_cong m e]
  rw [piv_cong i fun a c ha hc => e a c (by omega) (by omega)]
  exact h i hi
theorem rou_of {xs : List Rat} {n : Nat} (hl : xs.length = n + 1) (hn : 1 ≤ n) (h : nlR xs = none) : ∀ i, i < n → 0 < rou i (fe xs n) (fo xs n) := by
  have hm : ∀ m, m < n → 0 < mnr (hwR xs) (m + 1) := fun m hm => by
    unfold nlR at h
    rw [hl, Nat.add_sub_cancel] at h
    have := List.find?_eq_none.mp h (1 + m) (List.mem_map.mpr ⟨m, List.mem_range.mpr hm, rfl⟩)
    rw [decide_eq_true_eq] at this
    rw [Nat.add_comm]
    exact num_pos' (by omega)
  refine rou_pos fun i hi => (piv_pos (n := n) (fun m hm' hp => ?_) n (Nat.le_refl _)).1 i hi
  rw [← mnr_prod hl hn (by omega) fun i hi => hp i (by omega)]
  exact hm m hm'
def DD : Nat := 6998400
/-- a polynomial that is judged -/
structure He (xs : List Rat) (n : Nat) : Prop where
  len : xs.length = n + 1
  n1 : 1 ≤ n
  n6 : n ≤ 6
  sz : ∀ i, FrA 41 DD (xs.getD i 0)
  top : xs.getD n 0 = 1 ∨ xs.getD n 0 = 2 ∨ xs.getD n 0 = Rat.divInt 1 3
theorem He.pos {xs : List Rat} {n : Nat} (h : He xs n) : 0 < xs.getD n 0 := by
  rcases h.top with e | e | e <;> rw [e] <;> decide
theorem He.ne {xs : List Rat} {n : Nat} (h : He xs n) : xs.getD n 0 ≠ 0 := fun z => by
  have := h.pos
  rw [z] at this
  exact absurd this (by decide)
theorem He.hz {xs : List Rat} {n : Nat} (h : He xs n) (i : Nat) : Hz 41 (xs.getD i 0) := (h.sz i).hz (by decide) (by decide) (by decide)
theorem He.hq {xs : List Rat} {n : Nat} (h : He xs n) (i : Nat) : Hz 48 (xs.getD i 0 * (1 / xs.getD n 0)) := by
  have h1 := h.hz i
  have h2 : Hz 2 (1 / xs.getD n 0) := by
    rcases h.top with e | e | e <;> rw [e] <;> exact ⟨by decide +kernel, by decide +kernel⟩
  exact (h1.mul h2).mono (by decide)
theorem He.tab {xs : List Rat} {n : Nat} (h : He xs n) : TabOk xs := fun m hm => by
  have hl : (cornR (hwR xs) m).length = m := corn_sq.len
  have h6 := h.n6
  have hlen := h.len
  rw [DetOk, hl]
  refine ⟨corn_sq, by omega, 41, 23, DD, fun i hi j hj => ?_, by decide, by decide, ?_⟩
  · rw [corn_ent hi hj, hw_ent hlen (by omega) (by omega)]
    unfold hwE
    split
    · exact h.sz _
    · exact FrA.zero
  · have : m = 0 ∨ m = 1 ∨ m = 2 ∨ m = 3 ∨ m = 4 ∨ m = 5 ∨ m = 6 := by omega
    rcases this with rfl | rfl | rfl | rfl | rfl | rfl | rfl <;> decide +kernel
theorem He.mem {xs : List Rat} {n : Nat} (h : He xs n) {x : Rat} (hx : x ∈ xs) : ∃ i, x = xs.getD i 0 := by
  obtain ⟨j, hj, e⟩ := List.getElem_of_mem hx
  exact ⟨j, by rw [List.getD_eq_getElem?_getD, List.getElem?_eq_getElem hj, e]; rfl⟩
theorem He.bf {xs : List Rat} {n : Nat} (h : He xs n) : BF n 48 48 (F0 xs n) (G0 xs n) := by
  have h0 := h.ne
  refine ⟨?_, fun j hj => ?_, fun j hj => ?_, fun j => ?_, fun j => ?_⟩
  · unfold F0
    rw [if_pos (by omega), show n - 2 * 0 = n by omega]
    generalize xs.getD n 0 = a at h0
    grind
  · unfold F0
    rw [if_neg (by omega)]
  · unfold G0
    rw [if_neg (by omega)]
  · unfold F0
    split
    · exact h.hq _
    · exact hz_0 47
  · unfold G0
    split
    · exact h.hq _
    · exact hz_0 47
theorem He.fit {xs : List Rat} {n : Nat} (h : He xs n) : fitB n 48 48 = true := by
  have h1 := h.n1
  have h6 := h.n6
  have : n = 1 ∨ n = 2 ∨ n = 3 ∨ n = 4 ∨ n = 5 ∨ n = 6 := by omega
  rcases this with rfl | rfl | rfl | rfl | rfl | rfl <;> decide +kernel
theorem He.alive {xs : List Rat} {n : Nat} (h : He xs n) (hn : nlR xs = none) : Alive n (F0 xs n) (G0 xs n) := by
  have h0 := h.ne
  have hr := rou_of h.len h.n1 hn
  have hc : (1 / xs.getD n 0) ≠ 0 := by generalize xs.getD n 0 = a at h0; intro z; grind
  refine alive_of n _ _ (fe xs n) (fo xs n) (1 / xs.getD n 0) (1 / xs.getD n 0) ?_ hc (fun j => ?_) (fun j => ?_) fun i hi z => ?_
  · unfold fe
    rw [if_pos (by omega), show n - 2 * 0 = n by omega]
    generalize xs.getD n 0 = a at h0
    grind
  · unfold F0 fe
    split
    · rw [Rat.mul_comm]
    · rw [Rat.mul_zero]
  · unfold G0 fo
    split
    · rw [Rat.mul_comm]
    · rw [Rat.mul_zero]
  · have := hr i hi
    rw [z] at this
    exact absurd this (by decide)
def clsL : List Str := ["AllLeft", "NotLeft"]
def mkAll (d : D) : D := .ins "AllLeft" [("row", cpD d)]
def mkNot (d : D) : D := .ins "NotLeft" [("many", cpD d)]
def toldR (xs : List Rat) (n : Nat) : D := match nlR xs with | none => mkAll (tupR (bfR n (F0 xs n) (G0 xs n))) | some m => mkNot (.int (m : Int))
def p_left_zeros : Spec := fun ds b Q => ∃ xs n, ds = [tupR xs] ∧ He xs n ∧ Q (toldR xs n) b
def judgeMany (xs : List Rat) : D → Bool
  | .int i => (match nlR xs with | some f => decide (i = (f : Int)) | none => false)
  | _ => false
def judgeRow (xs : List Rat) (n : Nat) : D → Bool
  | .tup es => decide (es.length = n) && (es.all (fun e => e.told.isSome) && ((D.tolds es).all (fun x => decide (¬ x.num ≤ 0)) && decide (byR (bldR (D.tolds es)) (xs.getD n 0) = xs)))
  | _ => false
def judge (xs : List Rat) (n : Nat) : D → Bool
  | .ins c [(_, x)] => if c = "NotLeft" then judgeMany xs x else if c = "AllLeft" then judgeRow xs n x else false
  | _ => false
/-- a row by which may be built -/
def BldOk (a : List Rat) : Prop := ∃ h, HzL h a ∧ 3 * (hB h a.length + 45) + 1 ≤ SB
/-- what may be judged -/
inductive ValOk (n : Nat) : D → Prop
  | many {m : D} : m.ty.isSome = true → m.flat 9 = true → ValOk n (.ins "NotLeft" [("many", m)])
  | row {r : D} : r.rowOk → (∀ a, r = .tup (a.map rt) → a.length = n → (∀ x ∈ a, 0 < x) → BldOk a) → ValOk n (.ins "AllLeft" [("row", r)])
  | other {v : D} : v.ty.isSome = true → ValOk n v
def p_is_left_zeros : Spec := fun ds b Q => ∃ xs n v, ds = [tupR xs, v] ∧ He xs n ∧ ValOk n v ∧ Q (.bl (judge xs n v)) b
def p__law_is_built : Spec := fun ds b Q => ∃ xs n r, ds = [tupR xs, r] ∧ He xs n ∧ r.rowOk ∧ (∀ a, r = .tup (a.map rt) → a.length = n → (∀ x ∈ a, 0 < x) → BldOk a) ∧ Q (.bl (judgeRow xs n r)) b
def p__law_due : Spec := fun ds b Q => ∃ xs n v, ds = [tupR xs, optD (nlR xs), v] ∧ He xs n ∧ ValOk n v ∧ Q (.bl (judge xs n v)) b
/-- left_zeros: polynomial, made, many -/
def W_left_zeros : WS := (wSeq (wSet 1 (wCall 1 p_lead_from (wCons (wVar 0) wNil))) (wSeq (wSet 2 (wCall 1 p_not_left (wCons (wVar 1) wNil))) (wRet (wIte (wT (wBin dIs (wVarB 2) (wC .non))) (wMake "AllLeft" ["row"] (wCons (wCall 1 p_built_from (wCons (wVar 1) wNil)) wNil)) (wMake "NotLeft" ["many"] (wCons (wVar 2) wNil))))))
/-- is_left_zeros: polynomial, value, made, item -/
def W_is_left_zeros : WS := (wSeq (wSet 2 (wCall 1 p_lead_from (wCons (wVar 0) wNil))) (wSeq (wIfS (wT (wIsC clsL "NotLeft" (wVarB 1))) (wRet (wAndV (wCall 1 p_is_whole (wCons (wFld "many" (wVar 1)) wNil)) (wBin dEq (wFld "many" (wVar 1)) (wCall 1 p_not_left (wCons (wVar 2) wNil))))) wNext) (wSeq (wIfS (wOr (wNot (wT (wIsC clsL "AllLeft" (wVarB 1)))) (wNot (wT (wCall 2 p_is_ratio_row (wCons (wBin dSub (wUn dLen (wVarB 2)) (wC (.int 1))) (wCons (wFld "row" (wVar 1)) wNil)))))) (wRet (wC (.bl false))) wNext) (wRet (wAndV (wUn dAll (wFz (wComp [3] (.one 3) (wSeqOf (wFld "row" (wVar 1))) wYes (wBin dGt (wBin dIx (wVarB 3) (wC (.int 0))) (wC (.int 0)))))) (wBin dEq (wCall 2 p_poly_by (wCons (wCall 1 p_build_by (wCons (wFld "row" (wVar 1)) wNil)) (wCons (wBin dIx (wVarB 2) (wUn dNeg (wC (.int 1)))) wNil))) (wVarB 2)))))))
/-- _law_is_built: polynomial, value, item -/
def W__law_is_built : WS := (wSeq (wIfS (wOr (wNot (wT (wCall 2 p__law_is_row (wCons (wVar 1) (wCons (wBin dSub (wUn dLen (wVarB 0)) (wC (.int 1))) wNil))))) (wT (wUn dAny (wFz (wComp [2] (.one 2) (wSeqOf (wVar 1)) wYes (wBin dLe (wBin dIx (wVarB 2) (wC (.int 0))) (wC (.int 0)))))))) (wRet (wC (.bl false))) wNext) (wRet (wBin dEq (wUn dTuple (wFz (wComp [2] (.one 2) (wSeqOf (wCall 1 p__law_build (wCons (wVar 1) wNil))) wYes (wCall 2 p__law_times (wCons (wBin dIx (wVarB 0) (wUn dNeg (wC (.int 1)))) (wCons (wVar 2) wNil)))))) (wVarB 0))))
/-- _law_due: row, bad, value -/
def W__law_due : WS := (wSeq (wIfS (wT (wIsC clsL "NotLeft" (wVarB 2))) (wRet (wAndV (wBin dIsN (wVarB 1) (wC .non)) (wAndV (wCall 1 p__law_is_int (wCons (wFld "many" (wVar 2)) wNil)) (wBin dEq (wFld "many" (wVar 2)) (wVarB 1))))) wNext) (wRet (wAndV (wIsC clsL "AllLeft" (wVarB 2)) (wCall 2 p__law_is_built (wCons (wVar 0) (wCons (wFld "row" (wVar 2)) wNil))))))
theorem hp_left_zeros : ∀ ds b Q, ds.length = 1 → p_left_zeros ds b Q → W_left_zeros { nx := fun _ b' => Q .non b', rt := Q } (ds.map Slot.v ++ List.replicate 2 .un) b := by
  rintro ds b Q - ⟨xs, n, rfl, he, q⟩
  show W_left_zeros _ [.v (tupR xs), .un, .un] b
  have hl := he.len
  have h6 := he.n6
  (try simp only [wSeq, wSet, wSetO, wRet, wIfS, wFrz, wApp, wDrop, wNext, wBreak, wCont, wNever, wVar, wVarB, wC, wBin, wUn, wT, wAnd, wOr, wNot, wAndV, wOrV, wNotV, wIte, wNil, wCons, wTup, wCall, wListOf, wC2, wIsT, wIsC, wFld, wON, wOS, wSl, wV, wO, wSetIx, wPar, wSwap, wSeqOf, wRng1, wRng2, wFor, wWhile, wYes, wComp, wEnum, wZip, wEnum2, wRgT, wRgL, wAug, dMulT, dMax, wMake, wFz, wCat, wRep, wipeE, D.ty, wIf_true, wIf_false, List.getElem?_cons_zero, List.getElem?_cons_succ, List.set_cons_zero, List.set_cons_succ, dI0_ii, dI_ii, dNeg_i, dGcd_ii, dAbs_i, dInt_i, dInt_b, dBits_i, dLen_t, dLen_l, dTuple_t, dTuple_l, dAdd_ii, dAdd_tt, dAdd_ll, dAdd_ss, dMul_ii, dMul_li, dIs_n, dIs_b, dIsN_n, dRepr_b, rt_0, rt_1, dEq, dNe, dSub, dDiv, dDivU, dMod, dLt, dLe, dGt, dGe, D.isNon, Bool.not_true, Bool.not_false, W_left_zeros])
  refine ⟨rfl, xs, n, rfl, hl, he.n1, h6, he.pos, rfl, xs, rfl, by omega, by omega, he.tab, ?_⟩
  unfold toldR at q
  cases e : nlR xs with
  | none =>
    rw [e] at q
    (try simp only [wSeq, wSet, wSetO, wRet, wIfS, wFrz, wApp, wDrop, wNext, wBreak, wCont, wNever, wVar, wVarB, wC, wBin, wUn, wT, wAnd, wOr, wNot, wAndV, wOrV, wNotV, wIte, wNil, wCons, wTup, wCall, wListOf, wC2, wIsT, wIsC, wFld, wON, wOS, wSl, wV, wO, wSetIx, wPar, wSwap, wSeqOf, wRng1, wRng2, wFor, wWhile, wYes, wComp, wEnum, wZip, wEnum2, wRgT, wRgL, wAug, dMulT, dMax, wMake, wFz, wCat, wRep, wipeE, D.ty, wIf_true, wIf_false, List.getElem?_cons_zero, List.getElem?_cons_succ, List.set_cons_zero, List.set_cons_succ, dI0_ii, dI_ii, dNeg_i, dGcd_ii, dAbs_i, dInt_i, dInt_b, dBits_i, dLen_t, dLen_l, dTuple_t, dTuple_l, dAdd_ii, dAdd_tt, dAdd_ll, dAdd_ss, dMul_ii, dMul_li, dIs_n, dIs_b, dIsN_n, dRepr_b, rt_0, rt_1, dEq, dNe, dSub, dDiv, dDivU, dMod, dLt, dLe, dGt, dGe, D.isNon, Bool.not_true, Bool.not_false, optD])
    refine ⟨rfl, xs, n, 48, 48, rfl, hl, he.n1, by omega, he.ne, fun x hx => ?_, he.bf, he.fit, by decide, by decide, he.alive e, rfl, q⟩
    obtain ⟨i, rfl⟩ := he.mem hx
    exact ⟨(he.hz i).sz (by decide), (he.hq i).sz (by decide)⟩
  | some m =>
    rw [e] at q
    (try simp only [wSeq, wSet, wSetO, wRet, wIfS, wFrz, wApp, wDrop, wNext, wBreak, wCont, wNever, wVar, wVarB, wC, wBin, wUn, wT, wAnd, wOr, wNot, wAndV, wOrV, wNotV, wIte, wNil, wCons, wTup, wCall, wListOf, wC2, wIsT, wIsC, wFld, wON, wOS, wSl, wV, wO, wSetIx, wPar, wSwap, wSeqOf, wRng1, wRng2, wFor, wWhile, wYes, wComp, wEnum, wZip, wEnum2, wRgT, wRgL, wAug, dMulT, dMax, wMake, wFz, wCat, wRep, wipeE, D.ty, wIf_true, wIf_false, List.getElem?_cons_zero, List.getElem?_cons_succ, List.set_cons_zero, List.set_cons_succ, dI0_ii, dI_ii, dNeg_i, dGcd_ii, dAbs_i, dInt_i, dInt_b, dBits_i, dLen_t, dLen_l, dTuple_t, dTuple_l, dAdd_ii, dAdd_tt, dAdd_ll, dAdd_ss, dMul_ii, dMul_li, dIs_n, dIs_b, dIsN_n, dRepr_b, rt_0, rt_1, dEq, dNe, dSub, dDiv, dDivU, dMod, dLt, dLe, dGt, dGe, D.isNon, Bool.not_true, Bool.not_false, optD])
    exact ⟨rfl, q⟩
theorem bGo_st {h : Nat} : ∀ (r : List Rat) (k : Nat) (last here : List Rat), BSt h k last here → HzL h r → ∃ last', BSt h (k + r.length) last' (bGo r last here)
  | [], k, last, here, s, _ => ⟨last, s⟩
  | c :: r, k, last, here, s, hz => by
    obtain ⟨l', s'⟩ := bGo_st r (k + 1) here (bStep last here c) (s.next (hz c List.mem_cons_self)) fun x hx => hz x (List.mem_cons_of_mem _ hx)
    refine ⟨l', ?_⟩
    rw [List.length_cons, show k + (r.length + 1) = k + 1 + r.length by omega]
    exact s'
theorem bld_st {h : Nat} {c : List Rat} (h1 : 1 ≤ c.length) (hz : HzL h c) : (bldR c).length = c.length + 1 ∧ (bldR c).getD c.length 0 = 1 ∧ HzL (hB h c.length) (bldR c) := by
  cases c with
  | nil => simp at h1
  | cons x r =>
    obtain ⟨l', s⟩ := bGo_st r 0 [1] [x, 1] (bst_start (hz x List.mem_cons_self)) fun y hy => hz y (List.mem_cons_of_mem _ hy)
    have e : 0 + r.length + 1 = (x :: r).length := by simp
    have s2 := s.l2
    have s3 := s.o2
    have s4 := s.z2
    rw [e] at s3 s4
    exact ⟨by show (bGo r [1] [x, 1]).length = _; rw [s2, ← e], s3, s4⟩
theorem pos_ne {a : List Rat} (h : ∀ x ∈ a, (0 : Rat) < x) : ∀ x ∈ a, x ≠ 0 := fun x hx z => by
  have := h x hx
  rw [z] at this
  exact absurd this (by decide)
theorem all_pos {a : List Rat} (hp : (a.all fun x => decide (¬ x.num ≤ 0)) = true) : ∀ x ∈ a, (0 : Rat) < x := fun x hx => by
  have h4 := of_decide_eq_true (List.all_eq_true.mp hp x hx)
  exact num_pos' (by omega)
theorem alls_map {α : Type} {f : α → Bool} (es : List α) : es.map (fun d => D.bl (f d)) = (es.map f).map D.bl ∧ (es.map f).all id = es.all f := by
  constructor
  · rw [List.map_map]; rfl
  · rw [List.all_map]; rfl
theorem hp__law_is_built : ∀ ds b Q, ds.length = 2 → p__law_is_built ds b Q → W__law_is_built { nx := fun _ b' => Q .non b', rt := Q } (ds.map Slot.v ++ List.replicate 1 .un) b := by
  rintro ds b Q - ⟨xs, n, r, rfl, he, hr, hw, q⟩
  show W__law_is_built _ [.v (tupR xs), .v r, .un] b
  have hl := he.len
  have h6 := he.n6
  have h1 := he.n1
  (try simp only [wSeq, wSet, wSetO, wRet, wIfS, wFrz, wApp, wDrop, wNext, wBreak, wCont, wNever, wVar, wVarB, wC, wBin, wUn, wT, wAnd, wOr, wNot, wAndV, wOrV, wNotV, wIte, wNil, wCons, wTup, wCall, wListOf, wC2, wIsT, wIsC, wFld, wON, wOS, wSl, wV, wO, wSetIx, wPar, wSwap, wSeqOf, wRng1, wRng2, wFor, wWhile, wYes, wComp, wEnum, wZip, wEnum2, wRgT, wRgL, wAug, dMulT, dMax, wMake, wFz, wCat, wRep, wipeE, D.ty, wIf_true, wIf_false, List.getElem?_cons_zero, List.getElem?_cons_succ, List.set_cons_zero, List.set_cons_succ, dI0_ii, dI_ii, dNeg_i, dGcd_ii, dAbs_i, dInt_i, dInt_b, dBits_i, dLen_t, dLen_l, dTuple_t, dTuple_l, dAdd_ii, dAdd_tt, dAdd_ll, dAdd_ss, dMul_ii, dMul_li, dIs_n, dIs_b, dIsN_n, dRepr_b, rt_0, rt_1, dEq, dNe, dSub, dDiv, dDivU, dMod, dLt, dLe, dGt, dGe, D.isNon, Bool.not_true, Bool.not_false, W__law_is_built])
  rw [List.length_map, hl, show ((n + 1 : Nat) : Int) - 1 = (n : Int) by omega]
  refine ⟨rfl, _, r, rfl, hr, ?_⟩
  cases r <;> try exact q
  rename_i es
  refine wIf_of (fun hf => ?_) (fun hf => ?_)
  · refine bl_eq ?_ q
    simp only [judgeRow]
    simp only [D.ratRow, Bool.not_eq_true', Bool.and_eq_false_iff, decide_eq_false_iff_not] at hf
    rcases hf with hf | hf
    · rw [decide_eq_false (by omega), Bool.false_and]
    · rw [hf, Bool.false_and, Bool.and_false]
  · simp only [D.ratRow, Bool.not_eq_false', Bool.and_eq_true, decide_eq_true_eq] at hf
    obtain ⟨hf1, hf2⟩ := hf
    have ees := tolds_rt hf2
    have q3 : Q (.bl ((D.tolds es).all (fun x => decide (¬ x.num ≤ 0)) && decide (byR (bldR (D.tolds es)) (xs.getD n 0) = xs))) b := by
      refine bl_eq ?_ q
      simp only [judgeRow]
      rw [decide_eq_true (by omega), hf2, Bool.true_and, Bool.true_and]
    have hel : (D.tolds es).length = es.length := by simp [D.tolds]
    generalize D.tolds es = a at ees q3 hel
    subst ees
    rw [List.length_map] at hf1 hel
    have hal : a.length = n := by omega
    refine ⟨by rw [List.length_map]; omega, cmp_at rt (fun x => .bl (decide (x.num ≤ 0))) _ _ (fun x hx => ⟨_, rfl, fun K k => by (try simp only [wSeq, wSet, wSetO, wRet, wIfS, wFrz, wApp, wDrop, wNext, wBreak, wCont, wNever, wVar, wVarB, wC, wBin, wUn, wT, wAnd, wOr, wNot, wAndV, wOrV, wNotV, wIte, wNil, wCons, wTup, wCall, wListOf, wC2, wIsT, wIsC, wFld, wON, wOS, wSl, wV, wO, wSetIx, wPar, wSwap, wSeqOf, wRng1, wRng2, wFor, wWhile, wYes, wComp, wEnum, wZip, wEnum2, wRgT, wRgL, wAug, dMulT, dMax, wMake, wFz, wCat, wRep, wipeE, D.ty, wIf_true, wIf_false, List.getElem?_cons_zero, List.getElem?_cons_succ, List.set_cons_zero, List.set_cons_succ, dI0_ii, dI_ii, dNeg_i, dGcd_ii, dAbs_i, dInt_i, dInt_b, dBits_i, dLen_t, dLen_l, dTuple_t, dTuple_l, dAdd_ii, dAdd_tt, dAdd_ll, dAdd_ss, dMul_ii, dMul_li, dIs_n, dIs_b, dIsN_n, dRepr_b, rt_0, rt_1, dEq, dNe, dSub, dDiv, dDivU, dMod, dLt, dLe, dGt, dGe, D.isNon, Bool.not_true, Bool.not_false]); exact k⟩) ?_⟩
    refine ⟨_, (anys_map a).1, ?_⟩
    rw [(anys_map a).2, any_not]
    refine wIf_of (fun hp => ?_) (fun hp => ?_)
    · rw [Bool.not_eq_true'] at hp
      rw [hp, Bool.false_and] at q3
      exact q3
    · rw [Bool.not_eq_false'] at hp
      rw [hp, Bool.true_and] at q3
      have hpos := all_pos hp
      obtain ⟨h, hz, hf⟩ := hw a rfl hal hpos
      obtain ⟨b1, b2, b3⟩ := bld_st (by omega) hz
      (try simp only [wSeq, wSet, wSetO, wRet, wIfS, wFrz, wApp, wDrop, wNext, wBreak, wCont, wNever, wVar, wVarB, wC, wBin, wUn, wT, wAnd, wOr, wNot, wAndV, wOrV, wNotV, wIte, wNil, wCons, wTup, wCall, wListOf, wC2, wIsT, wIsC, wFld, wON, wOS, wSl, wV, wO, wSetIx, wPar, wSwap, wSeqOf, wRng1, wRng2, wFor, wWhile, wYes, wComp, wEnum, wZip, wEnum2, wRgT, wRgL, wAug, dMulT, dMax, wMake, wFz, wCat, wRep, wipeE, D.ty, wIf_true, wIf_false, List.getElem?_cons_zero, List.getElem?_cons_succ, List.set_cons_zero, List.set_cons_succ, dI0_ii, dI_ii, dNeg_i, dGcd_ii, dAbs_i, dInt_i, dInt_b, dBits_i, dLen_t, dLen_l, dTuple_t, dTuple_l, dAdd_ii, dAdd_tt, dAdd_ll, dAdd_ss, dMul_ii, dMul_li, dIs_n, dIs_b, dIsN_n, dRepr_b, rt_0, rt_1, dEq, dNe, dSub, dDiv, dDivU, dMod, dLt, dLe, dGt, dGe, D.isNon, Bool.not_true, Bool.not_false])
      refine ⟨rfl, a, h, rfl, by omega, by omega, hz, pos_ne hpos, by omega, ?_⟩
      (try simp only [wSeq, wSet, wSetO, wRet, wIfS, wFrz, wApp, wDrop, wNext, wBreak, wCont, wNever, wVar, wVarB, wC, wBin, wUn, wT, wAnd, wOr, wNot, wAndV, wOrV, wNotV, wIte, wNil, wCons, wTup, wCall, wListOf, wC2, wIsT, wIsC, wFld, wON, wOS, wSl, wV, wO, wSetIx, wPar, wSwap, wSeqOf, wRng1, wRng2, wFor, wWhile, wYes, wComp, wEnum, wZip, wEnum2, wRgT, wRgL, wAug, dMulT, dMax, wMake, wFz, wCat, wRep, wipeE, D.ty, wIf_true, wIf_false, List.getElem?_cons_zero, List.getElem?_cons_succ, List.set_cons_zero, List.set_cons_succ, dI0_ii, dI_ii, dNeg_i, dGcd_ii, dAbs_i, dInt_i, dInt_b, dBits_i, dLen_t, dLen_l, dTuple_t, dTuple_l, dAdd_ii, dAdd_tt, dAdd_ll, dAdd_ss, dMul_ii, dMul_li, dIs_n, dIs_b, dIsN_n, dRepr_b, rt_0, rt_1, dEq, dNe, dSub, dDiv, dDivU, dMod, dLt, dLe, dGt, dGe, D.isNon, Bool.not_true, Bool.not_false])
      refine ⟨by rw [List.length_map, b1]; omega, ?_⟩
      refine cmp_at rt (fun x => rt (xs.getD n 0 * x)) _ _ (fun x hx => ⟨_, rfl, fun K k => ?_⟩) ?_
      · (try simp only [wSeq, wSet, wSetO, wRet, wIfS, wFrz, wApp, wDrop, wNext, wBreak, wCont, wNever, wVar, wVarB, wC, wBin, wUn, wT, wAnd, wOr, wNot, wAndV, wOrV, wNotV, wIte, wNil, wCons, wTup, wCall, wListOf, wC2, wIsT, wIsC, wFld, wON, wOS, wSl, wV, wO, wSetIx, wPar, wSwap, wSeqOf, wRng1, wRng2, wFor, wWhile, wYes, wComp, wEnum, wZip, wEnum2, wRgT, wRgL, wAug, dMulT, dMax, wMake, wFz, wCat, wRep, wipeE, D.ty, wIf_true, wIf_false, List.getElem?_cons_zero, List.getElem?_cons_succ, List.set_cons_zero, List.set_cons_succ, dI0_ii, dI_ii, dNeg_i, dGcd_ii, dAbs_i, dInt_i, dInt_b, dBits_i, dLen_t, dLen_l, dTuple_t, dTuple_l, dAdd_ii, dAdd_tt, dAdd_ll, dAdd_ss, dMul_ii, dMul_li, dIs_n, dIs_b, dIsN_n, dRepr_b, rt_0, rt_1, dEq, dNe, dSub, dDiv, dDivU, dMod, dLt, dLe, dGt, dGe, D.isNon, Bool.not_true, Bool.not_false])
        refine ix_m1 hl ⟨rfl, _, _, rfl, (he.hz n).sz (by decide), (b3 x hx).sz (by omega), trivial, k⟩
      · have e : (bldR a).map (fun x => rt (xs.getD n 0 * x)) = (byR (bldR a) (xs.getD n 0)).map rt := by
          unfold byR
          rw [List.map_map]
          refine List.map_congr_left fun x _ => ?_
          show rt _ = rt _
          rw [Rat.mul_comm]
        rw [e]
        refine ⟨⟨flat_rows _, flat_rows _⟩, ?_⟩
        rw [eqv_rows]
        exact q3
theorem hp_is_left_zeros : ∀ ds b Q, ds.length = 2 → p_is_left_zeros ds b Q → W_is_left_zeros { nx := fun _ b' => Q .non b', rt := Q } (ds.map Slot.v ++ List.replicate 2 .un) b := by
  rintro ds b Q - ⟨xs, n, v, rfl, he, hv, q⟩
  show W_is_left_zeros _ [.v (tupR xs), .v v, .un, .un] b
  have hl := he.len
  have h6 := he.n6
  have h1 := he.n1
  (try simp only [wSeq, wSet, wSetO, wRet, wIfS, wFrz, wApp, wDrop, wNext, wBreak, wCont, wNever, wVar, wVarB, wC, wBin, wUn, wT, wAnd, wOr, wNot, wAndV, wOrV, wNotV, wIte, wNil, wCons, wTup, wCall, wListOf, wC2, wIsT, wIsC, wFld, wON, wOS, wSl, wV, wO, wSetIx, wPar, wSwap, wSeqOf, wRng1, wRng2, wFor, wWhile, wYes, wComp, wEnum, wZip, wEnum2, wRgT, wRgL, wAug, dMulT, dMax, wMake, wFz, wCat, wRep, wipeE, D.ty, wIf_true, wIf_false, List.getElem?_cons_zero, List.getElem?_cons_succ, List.set_cons_zero, List.set_cons_succ, dI0_ii, dI_ii, dNeg_i, dGcd_ii, dAbs_i, dInt_i, dInt_b, dBits_i, dLen_t, dLen_l, dTuple_t, dTuple_l, dAdd_ii, dAdd_tt, dAdd_ll, dAdd_ss, dMul_ii, dMul_li, dIs_n, dIs_b, dIsN_n, dRepr_b, rt_0, rt_1, dEq, dNe, dSub, dDiv, dDivU, dMod, dLt, dLe, dGt, dGe, D.isNon, Bool.not_true, Bool.not_false, W_is_left_zeros])
  refine ⟨rfl, xs, n, rfl, hl, h1, h6, he.pos, ?_⟩
  cases hv with
  | @many m ht hf =>
    refine ⟨by decide, wIf_tt rfl ?_⟩
    show [m].length = 1 ∧ _
    refine ⟨rfl, m, rfl, ht, ?_⟩
    have q2 : Q (.bl (judgeMany xs m)) b := q
    cases m <;> try exact q2
    refine ⟨rfl, xs, rfl, by omega, by omega, he.tab, ⟨rfl, flat_opt _⟩, ?_⟩
    rw [eqv_opt]
    exact q2
  | @row r hr hw =>
    have q2 : Q (.bl (judgeRow xs n r)) b := q
    refine ⟨by decide, wIf_ff rfl ⟨by decide, wIf_ff rfl ?_⟩⟩
    show [_, r].length = 2 ∧ _
    rw [List.length_map, hl]
    refine ⟨rfl, (n : Int), r, by rw [show (n : Int) = ((n + 1 : Nat) : Int) - 1 by omega], hr, ?_⟩
    cases r <;> try exact q2
    rename_i es
    refine wIf_of (fun hf => ?_) (fun hf => ?_)
    · refine bl_eq ?_ q2
      simp only [judgeRow]
      simp only [D.ratRow, Bool.not_eq_true', Bool.and_eq_false_iff, decide_eq_false_iff_not] at hf
      rcases hf with hf | hf
      · rw [decide_eq_false (by omega), Bool.false_and]
      · rw [hf, Bool.false_and, Bool.and_false]
    · simp only [D.ratRow, Bool.not_eq_false', Bool.and_eq_true, decide_eq_true_eq] at hf
      obtain ⟨hf1, hf2⟩ := hf
      have ees := tolds_rt hf2
      have q3 : Q (.bl ((D.tolds es).all (fun x => decide (¬ x.num ≤ 0)) && decide (byR (bldR (D.tolds es)) (xs.getD n 0) = xs))) b := by
        refine bl_eq ?_ q2
        simp only [judgeRow]
        rw [decide_eq_true (by omega), hf2, Bool.true_and, Bool.true_and]
      have hel : (D.tolds es).length = es.length := by simp [D.tolds]
      generalize D.tolds es = a at ees q3 hel
      subst ees
      rw [List.length_map] at hf1 hel
      have hal : a.length = n := by omega
      show ((a.map rt).length < 1000000 ∧ _)
      refine ⟨by rw [List.length_map]; omega, cmp_at rt (fun x => .bl (decide (¬ x.num ≤ 0))) _ _ (fun x hx => ⟨_, rfl, fun K k => by (try simp only [wSeq, wSet, wSetO, wRet, wIfS, wFrz, wApp, wDrop, wNext, wBreak, wCont, wNever, wVar, wVarB, wC, wBin, wUn, wT, wAnd, wOr, wNot, wAndV, wOrV, wNotV, wIte, wNil, wCons, wTup, wCall, wListOf, wC2, wIsT, wIsC, wFld, wON, wOS, wSl, wV, wO, wSetIx, wPar, wSwap, wSeqOf, wRng1, wRng2, wFor, wWhile, wYes, wComp, wEnum, wZip, wEnum2, wRgT, wRgL, wAug, dMulT, dMax, wMake, wFz, wCat, wRep, wipeE, D.ty, wIf_true, wIf_false, List.getElem?_cons_zero, List.getElem?_cons_succ, List.set_cons_zero, List.set_cons_succ, dI0_ii, dI_ii, dNeg_i, dGcd_ii, dAbs_i, dInt_i, dInt_b, dBits_i, dLen_t, dLen_l, dTuple_t, dTuple_l, dAdd_ii, dAdd_tt, dAdd_ll, dAdd_ss, dMul_ii, dMul_li, dIs_n, dIs_b, dIsN_n, dRepr_b, rt_0, rt_1, dEq, dNe, dSub, dDiv, dDivU, dMod, dLt, dLe, dGt, dGe, D.isNon, Bool.not_true, Bool.not_false]); rw [show decide ((0 : Int) < x.num) = decide (¬ x.num ≤ 0) by simp]; exact k⟩) ?_⟩
      refine ⟨_, (alls_map a).1, ?_⟩
      rw [(alls_map a).2]
      refine wIf_of (fun hp => ?_) (fun hp => ?_)
      · rw [hp, Bool.true_and] at q3
        have hpos := all_pos hp
        obtain ⟨h, hz, hf⟩ := hw a rfl hal hpos
        obtain ⟨b1, b2, b3⟩ := bld_st (by omega) hz
        refine ⟨rfl, a, h, rfl, by omega, by omega, hz, pos_ne hpos, by omega, ?_⟩
        refine ix_m1 hl ⟨rfl, bldR a, _, rfl, by rw [b1]; omega, (he.hz n).sz (by decide), fun x hx => (b3 x hx).sz (by omega), ?_⟩
        rw [trim_by b1 (by rw [b2]; decide) he.ne]
        refine ⟨⟨flat_rows _, flat_rows _⟩, ?_⟩
        rw [eqv_rows]
        exact q3
      · rw [hp, Bool.false_and] at q3
        exact q3
  | other ht =>
    have q2 : Q (.bl false) b := by
      refine bl_eq ?_ q
      cases v <;> first | rfl | (simp [D.ty] at ht; done)
    cases v <;> first | (simp [D.ty] at ht; done) | exact q2
theorem hp__law_due : ∀ ds b Q, ds.length = 3 → p__law_due ds b Q → W__law_due { nx := fun _ b' => Q .non b', rt := Q } (ds.map Slot.v ++ List.replicate 0 .un) b := by
  rintro ds b Q - ⟨xs, n, v, rfl, he, hv, q⟩
  show W__law_due _ [.v (tupR xs), .v (optD (nlR xs)), .v v] b
  (try simp only [wSeq, wSet, wSetO, wRet, wIfS, wFrz, wApp, wDrop, wNext, wBreak, wCont, wNever, wVar, wVarB, wC, wBin, wUn, wT, wAnd, wOr, wNot, wAndV, wOrV, wNotV, wIte, wNil, wCons, wTup, wCall, wListOf, wC2, wIsT, wIsC, wFld, wON, wOS, wSl, wV, wO, wSetIx, wPar, wSwap, wSeqOf, wRng1, wRng2, wFor, wWhile, wYes, wComp, wEnum, wZip, wEnum2, wRgT, wRgL, wAug, dMulT, dMax, wMake, wFz, wCat, wRep, wipeE, D.ty, wIf_true, wIf_false, List.getElem?_cons_zero, List.getElem?_cons_succ, List.set_cons_zero, List.set_cons_succ, dI0_ii, dI_ii, dNeg_i, dGcd_ii, dAbs_i, dInt_i, dInt_b, dBits_i, dLen_t, dLen_l, dTuple_t, dTuple_l, dAdd_ii, dAdd_tt, dAdd_ll, dAdd_ss, dMul_ii, dMul_li, dIs_n, dIs_b, dIsN_n, dRepr_b, rt_0, rt_1, dEq, dNe, dSub, dDiv, dDivU, dMod, dLt, dLe, dGt, dGe, D.isNon, Bool.not_true, Bool.not_false, W__law_due])
  cases hv with
  | @many m ht hf =>
    refine ⟨by decide, wIf_tt rfl ?_⟩
    have q2 : Q (.bl (judgeMany xs m)) b := q
    cases e : nlR xs with
    | none =>
      have q3 : Q (.bl false) b := by
        refine bl_eq ?_ q2
        cases m <;> simp only [judgeMany, e]
      exact q3
    | some f =>
      show [m].length = 1 ∧ _
      refine ⟨rfl, m, rfl, ht, ?_⟩
      cases m <;> try exact q2
      refine ⟨⟨rfl, rfl⟩, ?_⟩
      have := eqv_opt ‹Int› (some f)
      rw [← e] at this ⊢
      rw [this]
      exact q2
  | @row r hr hw =>
    have q2 : Q (.bl (judgeRow xs n r)) b := q
    refine ⟨by decide, wIf_ff rfl ⟨by decide, wIf_tt rfl ?_⟩⟩
    exact ⟨rfl, xs, n, r, rfl, he, hr, hw, q2⟩
  | other ht =>
    have q2 : Q (.bl false) b := by
      refine bl_eq ?_ q
      cases v <;> first | rfl | (simp [D.ty] at ht; done)
    cases v <;> first | (simp [D.ty] at ht; done) | exact q2
end En.K71
/-! k71: the law's case. -/
namespace En.K71
open PySem PySem.Spec PyProof.Rows L2 En
/-- _law_case: pen, some, by, row, k, near, here, bad, told, n, values, item, many, value -/
def W__law_case : WS := (wSeq (wSet 1 (wUn dTuple (wFz (wComp [4] (.one 4) (wRng1 (wCons (wBin dAdd (wC (.int 1)) (wCall 2 p__law_draw (wCons (wVar 0) (wCons (wC (.int 6)) wNil)))) wNil)) wYes (wCall 2 p__law_q (wCons (wBin dAdd (wC (.int 1)) (wCall 2 p__law_draw (wCons (wVar 0) (wCons (wC (.int 6)) wNil)))) (wCons (wCall 2 p__law_pick (wCons (wVar 0) (wCons (wFz (wCons (wC (.int 1)) (wCons (wC (.int 1)) (wCons (wC (.int 2)) (wCons (wC (.int 3)) wNil))))) wNil))) wNil))))))) (wSeq (wSet 2 (wCall 2 p__law_pick (wCons (wVar 0) (wCons (wFz (wCons (wTup (wCons (wC (.int 1)) (wCons (wC (.int 1)) wNil))) (wCons (wTup (wCons (wC (.int 2)) (wCons (wC (.int 1)) wNil))) (wCons (wTup (wCons (wC (.int 1)) (wCons (wC (.int 3)) wNil))) wNil)))) wNil)))) (wSeq (wSet 3 (wUn dTuple (wFz (wComp [11] (.one 11) (wSeqOf (wCall 1 p__law_build (wCons (wVar 1) wNil))) wYes (wCall 2 p__law_times (wCons (wVar 2) (wCons (wVar 11) wNil))))))) (wSeq (wSet 4 (wCall 2 p__law_draw (wCons (wVar 0) (wCons (wBin dSub (wUn dLen (wVarB 3)) (wC (.int 1))) wNil)))) (wSeq (wSet 5 (wBin dAdd (wBin dAdd (wSl (wVarB 3) wON (wOS (wVar 4))) (wTup (wCons (wCall 2 p__law_minus (wCons (wBin dIx (wVarB 3) (wVarB 4)) (wCons (wCall 2 p__law_pick (wCons (wVar 0) (wCons (wFz (wCons (wBin dIx (wVarB 3) (wVarB 4)) (wCons (wTup (wCons (wC (.int 1)) (wCons (wC (.int 50)) wNil))) (wCons (wTup (wCons (wC (.int 1)) (wCons (wC (.int 1)) wNil))) wNil)))) wNil))) wNil))) wNil))) (wSl (wVarB 3) (wOS (wBin dAdd (wVarB 4) (wC (.int 1)))) wON))) (wSeq (wFor (.one 6) (wSeqOf (wTup (wCons (wVar 3) (wCons (wVar 5) wNil)))) (wSeq (wPar 7 8 (wV (wCall 1 p__law_first_bad (wCons (wVar 6) wNil))) (wV (wCall 1 p_left_zeros (wCons (wVar 6) wNil)))) (wSeq (wSet 9 (wCall 2 p__law_draw (wCons (wVar 0) (wCons (wUn dLen (wVarB 1)) wNil)))) (wSeq (wSetO 10 (wCons (wVar 8) (wCons (wC .non) (wCons (wC (.int 5)) (wCons (wMake "AllLeft" ["row"] (wCons (wVar 1) wNil)) (wCons (wMake "AllLeft" ["row"] (wCons (wC .non) wNil)) (wCons (wMake "AllLeft" ["row"] (wCons (wTup wNil) wNil)) (wCons (wMake "AllLeft" ["row"] (wCons (wFz (wListOf (wVarB 1))) wNil)) (wCons (wMake "AllLeft" ["row"] (wCons (wSl (wVarB 1) (wOS (wC (.int 1))) wON) wNil)) wNil))))))))) (wSeq (wSetO 10 (wCat (wVarB 10) (wFz (wCons (wMake "AllLeft" ["row"] (wCons (wUn dRev (wVarB 1)) wNil)) (wCons (wMake "AllLeft" ["row"] (wCons (wBin dAdd (wVarB 1) (wTup (wCons (wTup (wCons (wC (.int 1)) (wCons (wC (.int 1)) wNil))) wNil))) wNil)) (wCons (wVar 1) (wCons (wMake "NotLeft" ["many"] (wCons (wC .non) wNil)) (wCons (wMake "NotLeft" ["many"] (wCons (wC (.bl true)) wNil)) (wCons (wMake "NotLeft" ["many"] (wCons (wC (.str "1")) wNil)) wNil))))))))) (wSeq (wSetO 10 (wCat (wVarB 10) (wFz (wComp [12] (.one 12) (wRng1 (wCons (wBin dAdd (wUn dLen (wVarB 6)) (wC (.int 1))) wNil)) wYes (wMake "NotLeft" ["many"] (wCons (wVar 12) wNil)))))) (wSeq (wFor (.one 11) (wSeqOf (wFz (wCons (wCall 2 p__law_plus (wCons (wBin dIx (wVarB 1) (wVarB 9)) (wCons (wTup (wCons (wC (.int 1)) (wCons (wC (.int 7)) wNil))) wNil))) (wCons (wBin dIx (wBin dIx (wVarB 1) (wVarB 9)) (wC (.int 0))) (wCons (wTup (wCons (wBin dMul (wC (.int 2)) (wBin dIx (wBin dIx (wVarB 1) (wVarB 9)) (wC (.int 0)))) (wCons (wBin dMul (wC (.int 2)) (wBin dIx (wBin dIx (wVarB 1) (wVarB 9)) (wC (.int 1)))) wNil))) (wCons (wTup (wCons (wUn dNeg (wBin dIx (wBin dIx (wVarB 1) (wVarB 9)) (wC (.int 0)))) (wCons (wBin dIx (wBin dIx (wVarB 1) (wVarB 9)) (wC (.int 1))) wNil))) (wCons (wTup (wCons (wC (.int 0)) (wCons (wC (.int 1)) wNil))) (wCons (wC .non) wNil)))))))) (wApp 10 (wMake "AllLeft" ["row"] (wCons (wBin dAdd (wBin dAdd (wSl (wVarB 1) wON (wOS (wVar 9))) (wTup (wCons (wVar 11) wNil))) (wSl (wVarB 1) (wOS (wBin dAdd (wVarB 9) (wC (.int 1)))) wON)) wNil)))) (wFrz 10 (wIfS (wNot (wT (wUn dAll (wFz (wComp [13] (.one 13) (wSeqOf (wVar 10)) wYes (wBin dEq (wUn dRepr (wCall 2 p_is_left_zeros (wCons (wVar 6) (wCons (wVar 13) wNil)))) (wUn dRepr (wCall 3 p__law_due (wCons (wVar 6) (wCons (wVar 7) (wCons (wVar 13) wNil))))))))))) (wRet (wC (.bl false))) wNext))))))))) (wRet (wC (.bl true)))))))))
def gmax : Nat → Nat → Nat → Nat
  | 0, _, _ => 0
  | d + 1, f, g => max g (gmax d (2 * g + 1) (f + 2 * g + 2))
theorem bfR_hz : ∀ (d f g : Nat) (F G : Nat → Rat), BF d f g F G → Alive d F G → ∀ x ∈ bfR d F G, Hz (gmax d f g) x
  | 0, _, _, _, _, _, _, x, hx => by simp [bfR] at hx
  | d + 1, f, g, F, G, s, al, x, hx => by
    rcases List.mem_cons.mp hx with rfl | hx
    · exact (s.zG 0).mono (Nat.le_max_left _ _)
    · exact (bfR_hz d _ _ _ _ (s.next al.1) al.2 x hx).mono (Nat.le_max_right _ _)
theorem bfR_len : ∀ (d : Nat) (F G : Nat → Rat), (bfR d F G).length = d
  | 0, _, _ => rfl
  | d + 1, F, G => by simp [bfR, bfR_len d]
theorem gmax_le {n : Nat} (h : n ≤ 6) : gmax n 48 48 ≤ 8100 := by
  have : n = 0 ∨ n = 1 ∨ n = 2 ∨ n = 3 ∨ n = 4 ∨ n = 5 ∨ n = 6 := by omega
  rcases this with rfl | rfl | rfl | rfl | rfl | rfl | rfl <;> decide +kernel
theorem bldOk_of {a : List Rat} (hl : a.length ≤ 6) (hz : HzL 8100 a) : BldOk a := by
  refine ⟨8100, hz, ?_⟩
  have : a.length = 0 ∨ a.length = 1 ∨ a.length = 2 ∨ a.length = 3 ∨ a.length = 4 ∨ a.length = 5 ∨ a.length = 6 := by omega
  rcases this with e | e | e | e | e | e | e <;> rw [e] <;> decide +kernel
/-- the drawn ratios -/
structure Dr (S : List Rat) : Prop where
  m1 : 1 ≤ S.length
  m6 : S.length ≤ 6
  sz : ∀ x ∈ S, FrA 6 6 x
  pos : ∀ x ∈ S, 0 < x
theorem hz6 {x : Rat} (h : FrA 6 6 x) : Hz 6 x := h.hz (by decide) (by decide) (by decide)
/-- objects with rows of ratios -/
theorem val_rt {n : Nat} {a : List Rat} (hn : n ≤ 6) (ha : HzL 8100 a) (hl : a.length ≤ 100) : ValOk n (.ins "AllLeft" [("row", tupR a)]) := by
  refine .row (rowOk_rt (by omega) fun x hx => (ha x hx).sz (by decide)) fun c hc hcl _ => ?_
  obtain rfl := map_inj_rt hc
  exact bldOk_of (by omega) ha
/-- objects with a row one item of which is no ratio, or is not above 0 -/
theorem val_bad {n : Nat} {es : List D} {e : D} (hl : es.length < 1000000) (h : ∀ e ∈ es, e.shal = true ∧ e.smallPair) (he : e ∈ es) (hb : ∀ x : Rat, e = rt x → ¬ 0 < x) : ValOk n (.ins "AllLeft" [("row", .tup es)]) := by
  refine .row ⟨hl, h⟩ fun c hc hcl hp => ?_
  exfalso
  simp only [D.tup.injEq] at hc
  rw [hc] at he
  obtain ⟨x, hx, e2⟩ := List.mem_map.mp he
  exact hb x e2.symm (hp x hx)
def s7 : Rat := ⟨1, 7, by decide, by decide⟩
def caseBody : WS := (wSeq (wPar 7 8 (wV (wCall 1 p__law_first_bad (wCons (wVar 6) wNil))) (wV (wCall 1 p_left_zeros (wCons (wVar 6) wNil)))) (wSeq (wSet 9 (wCall 2 p__law_draw (wCons (wVar 0) (wCons (wUn dLen (wVarB 1)) wNil)))) (wSeq (wSetO 10 (wCons (wVar 8) (wCons (wC .non) (wCons (wC (.int 5)) (wCons (wMake "AllLeft" ["row"] (wCons (wVar 1) wNil)) (wCons (wMake "AllLeft" ["row"] (wCons (wC .non) wNil)) (wCons (wMake "AllLeft" ["row"] (wCons (wTup wNil) wNil)) (wCons (wMake "AllLeft" ["row"] (wCons (wFz (wListOf (wVarB 1))) wNil)) (wCons (wMake "AllLeft" ["row"] (wCons (wSl (wVarB 1) (wOS (wC (.int 1))) wON) wNil)) wNil))))))))) (wSeq (wSetO 10 (wCat (wVarB 10) (wFz (wCons (wMake "AllLeft" ["row"] (wCons (wUn dRev (wVarB 1)) wNil)) (wCons (wMake "AllLeft" ["row"] (wCons (wBin dAdd (wVarB 1) (wTup (wCons (wTup (wCons (wC (.int 1)) (wCons (wC (.int 1)) wNil))) wNil))) wNil)) (wCons (wVar 1) (wCons (wMake "NotLeft" ["many"] (wCons (wC .non) wNil)) (wCons (wMake "NotLeft" ["many"] (wCons (wC (.bl true)) wNil)) (wCons (wMake "NotLeft" ["many"] (wCons (wC (.str "1")) wNil)) wNil))))))))) (wSeq (wSetO 10 (wCat (wVarB 10) (wFz (wComp [12] (.one 12) (wRng1 (wCons (wBin dAdd (wUn dLen (wVarB 6)) (wC (.int 1))) wNil)) wYes (wMake "NotLeft" ["many"] (wCons (wVar 12) wNil)))))) (wSeq (wFor (.one 11) (wSeqOf (wFz (wCons (wCall 2 p__law_plus (wCons (wBin dIx (wVarB 1) (wVarB 9)) (wCons (wTup (wCons (wC (.int 1)) (wCons (wC (.int 7)) wNil))) wNil))) (wCons (wBin dIx (wBin dIx (wVarB 1) (wVarB 9)) (wC (.int 0))) (wCons (wTup (wCons (wBin dMul (wC (.int 2)) (wBin dIx (wBin dIx (wVarB 1) (wVarB 9)) (wC (.int 0)))) (wCons (wBin dMul (wC (.int 2)) (wBin dIx (wBin dIx (wVarB 1) (wVarB 9)) (wC (.int 1)))) wNil))) (wCons (wTup (wCons (wUn dNeg (wBin dIx (wBin dIx (wVarB 1) (wVarB 9)) (wC (.int 0)))) (wCons (wBin dIx (wBin dIx (wVarB 1) (wVarB 9)) (wC (.int 1))) wNil))) (wCons (wTup (wCons (wC (.int 0)) (wCons (wC (.int 1)) wNil))) (wCons (wC .non) wNil)))))))) (wApp 10 (wMake "AllLeft" ["row"] (wCons (wBin dAdd (wBin dAdd (wSl (wVarB 1) wON (wOS (wVar 9))) (wTup (wCons (wVar 11) wNil))) (wSl (wVarB 1) (wOS (wBin dAdd (wVarB 9) (wC (.int 1)))) wON)) wNil)))) (wFrz 10 (wIfS (wNot (wT (wUn dAll (wFz (wComp [13] (.one 13) (wSeqOf (wVar 10)) wYes (wBin dEq (wUn dRepr (wCall 2 p_is_left_zeros (wCons (wVar 6) (wCons (wVar 13) wNil)))) (wUn dRepr (wCall 3 p__law_due (wCons (wVar 6) (wCons (wVar 7) (wCons (wVar 13) wNil))))))))))) (wRet (wC (.bl false))) wNext))))))))
theorem body_ok {n k : Nat} {by_ : Rat} {S row here near : List Rat} {E' : Ens} {b : Nat} {s7_ s8 s9 s10 s11 s12 s13 : Slot} (dr : Dr S) (h : He here n) (hb : 1 ≤ b)
    (hnx : ∀ s7_ s8 s9 s10 s11 s12 s13 : Slot, E'.nx [.v .pen, .v (tupR S), .v (rt by_), .v (tupR row), .v (.int (k : Int)), .v (tupR near), .v (tupR here), s7_, s8, s9, s10, s11, s12, s13] (b - 1)) :
    caseBody E' [.v .pen, .v (tupR S), .v (rt by_), .v (tupR row), .v (.int (k : Int)), .v (tupR near), .v (tupR here), s7_, s8, s9, s10, s11, s12, s13] b := by
  have hl := h.len
  have hn6 := h.n6
  have hm1 := dr.m1
  have hm6 := dr.m6
  -- the end: all are judged alike
  have fin : ∀ (d : Nat) (vs : List D) (s11 s12 s13 : Slot), vs.length ≤ 1000 → (∀ v ∈ vs, ValOk n v) → (wFrz 10 (wIfS (wNot (wT (wUn dAll (wFz (wComp [13] (.one 13) (wSeqOf (wVar 10)) wYes (wBin dEq (wUn dRepr (wCall 2 p_is_left_zeros (wCons (wVar 6) (wCons (wVar 13) wNil)))) (wUn dRepr (wCall 3 p__law_due (wCons (wVar 6) (wCons (wVar 7) (wCons (wVar 13) wNil))))))))))) (wRet (wC (.bl false))) wNext))
      E' [.v .pen, .v (tupR S), .v (rt by_), .v (tupR row), .v (.int (k : Int)), .v (tupR near), .v (tupR here), .v (optD (nlR here)), .v (toldR here n), .v (.int (d : Int)), .own vs, s11, s12, s13] (b - 1) := by
    intro d vs s11 s12 s13 hvl hv
    (try simp only [wSeq, wSet, wSetO, wRet, wIfS, wFrz, wApp, wDrop, wNext, wBreak, wCont, wNever, wVar, wVarB, wC, wBin, wUn, wT, wAnd, wOr, wNot, wAndV, wOrV, wNotV, wIte, wNil, wCons, wTup, wCall, wListOf, wC2, wIsT, wIsC, wFld, wON, wOS, wSl, wV, wO, wSetIx, wPar, wSwap, wSeqOf, wRng1, wRng2, wFor, wWhile, wYes, wComp, wEnum, wZip, wEnum2, wRgT, wRgL, wAug, dMulT, dMax, wMake, wFz, wCat, wRep, wipeE, D.ty, wIf_true, wIf_false, List.getElem?_cons_zero, List.getElem?_cons_succ, List.set_cons_zero, List.set_cons_succ, dI0_ii, dI_ii, dNeg_i, dGcd_ii, dAbs_i, dInt_i, dInt_b, dBits_i, dLen_t, dLen_l, dTuple_t, dTuple_l, dAdd_ii, dAdd_tt, dAdd_ll, dAdd_ss, dMul_ii, dMul_li, dIs_n, dIs_b, dIsN_n, dRepr_b, rt_0, rt_1, dEq, dNe, dSub, dDiv, dDivU, dMod, dLt, dLe, dGt, dGe, D.isNon, Bool.not_true, Bool.not_false])
    refine ⟨by omega, cmp_map (fun _ => .bl true) vs _ (fun v hvm => ⟨_, rfl, fun K kk => ?_⟩) ?_⟩
    · (try simp only [wSeq, wSet, wSetO, wRet, wIfS, wFrz, wApp, wDrop, wNext, wBreak, wCont, wNever, wVar, wVarB, wC, wBin, wUn, wT, wAnd, wOr, wNot, wAndV, wOrV, wNotV, wIte, wNil, wCons, wTup, wCall, wListOf, wC2, wIsT, wIsC, wFld, wON, wOS, wSl, wV, wO, wSetIx, wPar, wSwap, wSeqOf, wRng1, wRng2, wFor, wWhile, wYes, wComp, wEnum, wZip, wEnum2, wRgT, wRgL, wAug, dMulT, dMax, wMake, wFz, wCat, wRep, wipeE, D.ty, wIf_true, wIf_false, List.getElem?_cons_zero, List.getElem?_cons_succ, List.set_cons_zero, List.set_cons_succ, dI0_ii, dI_ii, dNeg_i, dGcd_ii, dAbs_i, dInt_i, dInt_b, dBits_i, dLen_t, dLen_l, dTuple_t, dTuple_l, dAdd_ii, dAdd_tt, dAdd_ll, dAdd_ss, dMul_ii, dMul_li, dIs_n, dIs_b, dIsN_n, dRepr_b, rt_0, rt_1, dEq, dNe, dSub, dDiv, dDivU, dMod, dLt, dLe, dGt, dGe, D.isNon, Bool.not_true, Bool.not_false])
      refine ⟨rfl, here, n, v, rfl, h, hv v hvm, ?_⟩
      (try simp only [wSeq, wSet, wSetO, wRet, wIfS, wFrz, wApp, wDrop, wNext, wBreak, wCont, wNever, wVar, wVarB, wC, wBin, wUn, wT, wAnd, wOr, wNot, wAndV, wOrV, wNotV, wIte, wNil, wCons, wTup, wCall, wListOf, wC2, wIsT, wIsC, wFld, wON, wOS, wSl, wV, wO, wSetIx, wPar, wSwap, wSeqOf, wRng1, wRng2, wFor, wWhile, wYes, wComp, wEnum, wZip, wEnum2, wRgT, wRgL, wAug, dMulT, dMax, wMake, wFz, wCat, wRep, wipeE, D.ty, wIf_true, wIf_false, List.getElem?_cons_zero, List.getElem?_cons_succ, List.set_cons_zero, List.set_cons_succ, dI0_ii, dI_ii, dNeg_i, dGcd_ii, dAbs_i, dInt_i, dInt_b, dBits_i, dLen_t, dLen_l, dTuple_t, dTuple_l, dAdd_ii, dAdd_tt, dAdd_ll, dAdd_ss, dMul_ii, dMul_li, dIs_n, dIs_b, dIsN_n, dRepr_b, rt_0, rt_1, dEq, dNe, dSub, dDiv, dDivU, dMod, dLt, dLe, dGt, dGe, D.isNon, Bool.not_true, Bool.not_false])
      refine ⟨rfl, here, n, v, rfl, h, hv v hvm, ?_⟩
      (try simp only [wSeq, wSet, wSetO, wRet, wIfS, wFrz, wApp, wDrop, wNext, wBreak, wCont, wNever, wVar, wVarB, wC, wBin, wUn, wT, wAnd, wOr, wNot, wAndV, wOrV, wNotV, wIte, wNil, wCons, wTup, wCall, wListOf, wC2, wIsT, wIsC, wFld, wON, wOS, wSl, wV, wO, wSetIx, wPar, wSwap, wSeqOf, wRng1, wRng2, wFor, wWhile, wYes, wComp, wEnum, wZip, wEnum2, wRgT, wRgL, wAug, dMulT, dMax, wMake, wFz, wCat, wRep, wipeE, D.ty, wIf_true, wIf_false, List.getElem?_cons_zero, List.getElem?_cons_succ, List.set_cons_zero, List.set_cons_succ, dI0_ii, dI_ii, dNeg_i, dGcd_ii, dAbs_i, dInt_i, dInt_b, dBits_i, dLen_t, dLen_l, dTuple_t, dTuple_l, dAdd_ii, dAdd_tt, dAdd_ll, dAdd_ss, dMul_ii, dMul_li, dIs_n, dIs_b, dIsN_n, dRepr_b, rt_0, rt_1, dEq, dNe, dSub, dDiv, dDivU, dMod, dLt, dLe, dGt, dGe, D.isNon, Bool.not_true, Bool.not_false])
      have hs : ∀ c : Bool, (D.str (boolStr c)).flat 9 = true := by decide +kernel
      have he : ∀ c : Bool, PyData.eqv (D.str (boolStr c)).py (D.str (boolStr c)).py = true := by decide +kernel
      refine ⟨⟨hs _, hs _⟩, ?_⟩
      rw [he]
      exact kk
    · refine ⟨vs.map fun _ => true, by rw [List.map_map]; rfl, ?_⟩
      rw [show (vs.map fun _ => true).all id = true by simp]
      exact hnx _ _ _ _ _ _ _
  have zS : HzL 8100 S := fun x hx => (hz6 (dr.sz x hx)).mono (by decide)
  have itemOk : ∀ (d : Nat), d < S.length → ∀ e : D, e ∈ [rt (S.getD d 0 + s7), .int (S.getD d 0).num, .tup [.int (2 * (S.getD d 0).num), .int (2 * ((S.getD d 0).den : Int))], .tup [.int (-(S.getD d 0).num), .int ((S.getD d 0).den : Int)], .tup [.int 0, .int 1], .non] →
      ValOk n (.ins "AllLeft" [("row", .tup ((S.take d).map rt ++ [e] ++ (S.drop (d + 1)).map rt))]) := by
    intro d hd e he
    have hmem : S.getD d 0 ∈ S := by
      rw [List.getD_eq_getElem?_getD, List.getElem?_eq_getElem hd]
      exact List.getElem_mem hd
    have fSk := dr.sz _ hmem
    have pSk := dr.pos _ hmem
    obtain ⟨nb, db⟩ := fSk.nd (by decide)
    have oth : ∀ e : D, e.shal = true → e.smallPair → (∀ x : Rat, e = rt x → ¬ 0 < x) → ValOk n (.ins "AllLeft" [("row", .tup ((S.take d).map rt ++ [e] ++ (S.drop (d + 1)).map rt))]) := by
      intro e d1 d2 d3
      refine val_bad (e := e) (by simp; omega) (fun e he => ?_) (by simp) d3
      simp only [List.mem_append, List.mem_map, List.mem_singleton] at he
      rcases he with (⟨x, hx, rfl⟩ | rfl) | ⟨x, hx, rfl⟩
      · exact rt_ok ((zS x (List.mem_of_mem_take hx)).sz (by decide))
      · exact ⟨d1, d2⟩
      · exact rt_ok ((zS x (List.mem_of_mem_drop hx)).sz (by decide))
    simp only [List.mem_cons, List.not_mem_nil, or_false] at he
    rcases he with rfl | rfl | rfl | rfl | rfl | rfl
    · have e : (S.take d).map rt ++ [rt (S.getD d 0 + s7)] ++ (S.drop (d + 1)).map rt = (S.take d ++ [S.getD d 0 + s7] ++ S.drop (d + 1)).map rt := by simp
      rw [e]
      refine val_rt hn6 (fun x hx => ?_) (by simp; omega)
      simp only [List.mem_append, List.mem_singleton] at hx
      rcases hx with (hx | rfl) | hx
      · exact zS x (List.mem_of_mem_take hx)
      · exact ((hz6 fSk).add (⟨by decide +kernel, by decide +kernel⟩ : Hz 3 s7)).mono (by decide)
      · exact zS x (List.mem_of_mem_drop hx)
    · exact oth _ rfl trivial fun x hx => by cases hx
    · refine oth _ rfl ⟨?_, ?_⟩ fun x hx => ?_
      · exact big_log (n := 8) (by omega) (by decide) (by decide)
      · exact big_log (n := 8) (by omega) (by decide) (by decide)
      · exfalso
        simp only [rt, D.tup.injEq, List.cons.injEq, D.int.injEq, and_true] at hx
        have hr := x.reduced
        have h2 : 2 ∣ Nat.gcd x.num.natAbs x.den := Nat.dvd_gcd (by omega) (by omega)
        rw [hr.gcd_eq_one] at h2
        omega
    · refine oth _ rfl ⟨?_, ?_⟩ fun x hx hp => ?_
      · exact big_log (n := 8) (by omega) (by decide) (by decide)
      · exact big_log (n := 8) (by omega) (by decide) (by decide)
      · simp only [rt, D.tup.injEq, List.cons.injEq, D.int.injEq, and_true] at hx
        have h1 := pos_num hp
        have h2 := pos_num pSk
        omega
    · refine oth _ rfl ⟨by decide +kernel, by decide +kernel⟩ fun x hx hp => ?_
      simp only [rt, D.tup.injEq, List.cons.injEq, D.int.injEq, and_true] at hx
      have h1 := pos_num hp
      omega
    · exact oth _ rfl trivial fun x hx => by cases hx
  have stage4 : ∀ (d : Nat), d < S.length → ∀ (vs : List D) (s11 s12 s13 : Slot), vs.length ≤ 900 → (∀ v ∈ vs, ValOk n v) → (wSeq (wFor (.one 11) (wSeqOf (wFz (wCons (wCall 2 p__law_plus (wCons (wBin dIx (wVarB 1) (wVarB 9)) (wCons (wTup (wCons (wC (.int 1)) (wCons (wC (.int 7)) wNil))) wNil))) (wCons (wBin dIx (wBin dIx (wVarB 1) (wVarB 9)) (wC (.int 0))) (wCons (wTup (wCons (wBin dMul (wC (.int 2)) (wBin dIx (wBin dIx (wVarB 1) (wVarB 9)) (wC (.int 0)))) (wCons (wBin dMul (wC (.int 2)) (wBin dIx (wBin dIx (wVarB 1) (wVarB 9)) (wC (.int 1)))) wNil))) (wCons (wTup (wCons (wUn dNeg (wBin dIx (wBin dIx (wVarB 1) (wVarB 9)) (wC (.int 0)))) (wCons (wBin dIx (wBin dIx (wVarB 1) (wVarB 9)) (wC (.int 1))) wNil))) (wCons (wTup (wCons (wC (.int 0)) (wCons (wC (.int 1)) wNil))) (wCons (wC .non) wNil)))))))) (wApp 10 (wMake "AllLeft" ["row"] (wCons (wBin dAdd (wBin dAdd (wSl (wVarB 1) wON (wOS (wVar 9))) (wTup (wCons (wVar 11) wNil))) (wSl (wVarB 1) (wOS (wBin dAdd (wVarB 9) (wC (.int 1)))) wON)) wNil)))) (wFrz 10 (wIfS (wNot (wT (wUn dAll (wFz (wComp [13] (.one 13) (wSeqOf (wVar 10)) wYes (wBin dEq (wUn dRepr (wCall 2 p_is_left_zeros (wCons (wVar 6) (wCons (wVar 13) wNil)))) (wUn dRepr (wCall 3 p__law_due (wCons (wVar 6) (wCons (wVar 7) (wCons (wVar 13) wNil))))))))))) (wRet (wC (.bl false))) wNext)))
      E' [.v .pen, .v (tupR S), .v (rt by_), .v (tupR row), .v (.int (k : Int)), .v (tupR near), .v (tupR here), .v (optD (nlR here)), .v (toldR here n), .v (.int (d : Int)), .own vs, s11, s12, s13] (b - 1) := by
    intro d hd vs s11 s12 s13 hvl hv
    have hmem : S.getD d 0 ∈ S := by
      rw [List.getD_eq_getElem?_getD, List.getElem?_eq_getElem hd]
      exact List.getElem_mem hd
    have fSk := dr.sz _ hmem
    obtain ⟨nb, db⟩ := fSk.nd (by decide)
    have ix : ∀ Q : D → Prop, Q (rt (S.getD d 0)) → dIx (.tup (S.map rt)) (.int (d : Int)) Q := fun Q q => ix_rowT hd q
    have cm : ∀ i : Int, i.natAbs < 2 ^ 8 → CMulW 2 i := fun i hi => cmulW_of (k := 2) (l := 8) (by decide) hi (by decide) (by decide) (by decide)
    (try simp only [wSeq, wSet, wSetO, wRet, wIfS, wFrz, wApp, wDrop, wNext, wBreak, wCont, wNever, wVar, wVarB, wC, wBin, wUn, wT, wAnd, wOr, wNot, wAndV, wOrV, wNotV, wIte, wNil, wCons, wTup, wCall, wListOf, wC2, wIsT, wIsC, wFld, wON, wOS, wSl, wV, wO, wSetIx, wPar, wSwap, wSeqOf, wRng1, wRng2, wFor, wWhile, wYes, wComp, wEnum, wZip, wEnum2, wRgT, wRgL, wAug, dMulT, dMax, wMake, wFz, wCat, wRep, wipeE, D.ty, wIf_true, wIf_false, List.getElem?_cons_zero, List.getElem?_cons_succ, List.set_cons_zero, List.set_cons_succ, dI0_ii, dI_ii, dNeg_i, dGcd_ii, dAbs_i, dInt_i, dInt_b, dBits_i, dLen_t, dLen_l, dTuple_t, dTuple_l, dAdd_ii, dAdd_tt, dAdd_ll, dAdd_ss, dMul_ii, dMul_li, dIs_n, dIs_b, dIsN_n, dRepr_b, rt_0, rt_1, dEq, dNe, dSub, dDiv, dDivU, dMod, dLt, dLe, dGt, dGe, D.isNon, Bool.not_true, Bool.not_false])
    refine ix _ ⟨rfl, S.getD d 0, s7, rfl, (zS _ hmem).sz (by decide), ⟨by decide +kernel, by decide +kernel⟩, trivial, ?_⟩
    refine ix _ ?_
    (try simp only [wSeq, wSet, wSetO, wRet, wIfS, wFrz, wApp, wDrop, wNext, wBreak, wCont, wNever, wVar, wVarB, wC, wBin, wUn, wT, wAnd, wOr, wNot, wAndV, wOrV, wNotV, wIte, wNil, wCons, wTup, wCall, wListOf, wC2, wIsT, wIsC, wFld, wON, wOS, wSl, wV, wO, wSetIx, wPar, wSwap, wSeqOf, wRng1, wRng2, wFor, wWhile, wYes, wComp, wEnum, wZip, wEnum2, wRgT, wRgL, wAug, dMulT, dMax, wMake, wFz, wCat, wRep, wipeE, D.ty, wIf_true, wIf_false, List.getElem?_cons_zero, List.getElem?_cons_succ, List.set_cons_zero, List.set_cons_succ, dI0_ii, dI_ii, dNeg_i, dGcd_ii, dAbs_i, dInt_i, dInt_b, dBits_i, dLen_t, dLen_l, dTuple_t, dTuple_l, dAdd_ii, dAdd_tt, dAdd_ll, dAdd_ss, dMul_ii, dMul_li, dIs_n, dIs_b, dIsN_n, dRepr_b, rt_0, rt_1, dEq, dNe, dSub, dDiv, dDivU, dMod, dLt, dLe, dGt, dGe, D.isNon, Bool.not_true, Bool.not_false])
    refine ix _ ?_
    (try simp only [wSeq, wSet, wSetO, wRet, wIfS, wFrz, wApp, wDrop, wNext, wBreak, wCont, wNever, wVar, wVarB, wC, wBin, wUn, wT, wAnd, wOr, wNot, wAndV, wOrV, wNotV, wIte, wNil, wCons, wTup, wCall, wListOf, wC2, wIsT, wIsC, wFld, wON, wOS, wSl, wV, wO, wSetIx, wPar, wSwap, wSeqOf, wRng1, wRng2, wFor, wWhile, wYes, wComp, wEnum, wZip, wEnum2, wRgT, wRgL, wAug, dMulT, dMax, wMake, wFz, wCat, wRep, wipeE, D.ty, wIf_true, wIf_false, List.getElem?_cons_zero, List.getElem?_cons_succ, List.set_cons_zero, List.set_cons_succ, dI0_ii, dI_ii, dNeg_i, dGcd_ii, dAbs_i, dInt_i, dInt_b, dBits_i, dLen_t, dLen_l, dTuple_t, dTuple_l, dAdd_ii, dAdd_tt, dAdd_ll, dAdd_ss, dMul_ii, dMul_li, dIs_n, dIs_b, dIsN_n, dRepr_b, rt_0, rt_1, dEq, dNe, dSub, dDiv, dDivU, dMod, dLt, dLe, dGt, dGe, D.isNon, Bool.not_true, Bool.not_false])
    refine ⟨cm _ (by omega), ix _ ?_⟩
    (try simp only [wSeq, wSet, wSetO, wRet, wIfS, wFrz, wApp, wDrop, wNext, wBreak, wCont, wNever, wVar, wVarB, wC, wBin, wUn, wT, wAnd, wOr, wNot, wAndV, wOrV, wNotV, wIte, wNil, wCons, wTup, wCall, wListOf, wC2, wIsT, wIsC, wFld, wON, wOS, wSl, wV, wO, wSetIx, wPar, wSwap, wSeqOf, wRng1, wRng2, wFor, wWhile, wYes, wComp, wEnum, wZip, wEnum2, wRgT, wRgL, wAug, dMulT, dMax, wMake, wFz, wCat, wRep, wipeE, D.ty, wIf_true, wIf_false, List.getElem?_cons_zero, List.getElem?_cons_succ, List.set_cons_zero, List.set_cons_succ, dI0_ii, dI_ii, dNeg_i, dGcd_ii, dAbs_i, dInt_i, dInt_b, dBits_i, dLen_t, dLen_l, dTuple_t, dTuple_l, dAdd_ii, dAdd_tt, dAdd_ll, dAdd_ss, dMul_ii, dMul_li, dIs_n, dIs_b, dIsN_n, dRepr_b, rt_0, rt_1, dEq, dNe, dSub, dDiv, dDivU, dMod, dLt, dLe, dGt, dGe, D.isNon, Bool.not_true, Bool.not_false])
    refine ⟨cm _ (by omega), ix _ ?_⟩
    (try simp only [wSeq, wSet, wSetO, wRet, wIfS, wFrz, wApp, wDrop, wNext, wBreak, wCont, wNever, wVar, wVarB, wC, wBin, wUn, wT, wAnd, wOr, wNot, wAndV, wOrV, wNotV, wIte, wNil, wCons, wTup, wCall, wListOf, wC2, wIsT, wIsC, wFld, wON, wOS, wSl, wV, wO, wSetIx, wPar, wSwap, wSeqOf, wRng1, wRng2, wFor, wWhile, wYes, wComp, wEnum, wZip, wEnum2, wRgT, wRgL, wAug, dMulT, dMax, wMake, wFz, wCat, wRep, wipeE, D.ty, wIf_true, wIf_false, List.getElem?_cons_zero, List.getElem?_cons_succ, List.set_cons_zero, List.set_cons_succ, dI0_ii, dI_ii, dNeg_i, dGcd_ii, dAbs_i, dInt_i, dInt_b, dBits_i, dLen_t, dLen_l, dTuple_t, dTuple_l, dAdd_ii, dAdd_tt, dAdd_ll, dAdd_ss, dMul_ii, dMul_li, dIs_n, dIs_b, dIsN_n, dRepr_b, rt_0, rt_1, dEq, dNe, dSub, dDiv, dDivU, dMod, dLt, dLe, dGt, dGe, D.isNon, Bool.not_true, Bool.not_false])
    refine ix _ ?_
    (try simp only [wSeq, wSet, wSetO, wRet, wIfS, wFrz, wApp, wDrop, wNext, wBreak, wCont, wNever, wVar, wVarB, wC, wBin, wUn, wT, wAnd, wOr, wNot, wAndV, wOrV, wNotV, wIte, wNil, wCons, wTup, wCall, wListOf, wC2, wIsT, wIsC, wFld, wON, wOS, wSl, wV, wO, wSetIx, wPar, wSwap, wSeqOf, wRng1, wRng2, wFor, wWhile, wYes, wComp, wEnum, wZip, wEnum2, wRgT, wRgL, wAug, dMulT, dMax, wMake, wFz, wCat, wRep, wipeE, D.ty, wIf_true, wIf_false, List.getElem?_cons_zero, List.getElem?_cons_succ, List.set_cons_zero, List.set_cons_succ, dI0_ii, dI_ii, dNeg_i, dGcd_ii, dAbs_i, dInt_i, dInt_b, dBits_i, dLen_t, dLen_l, dTuple_t, dTuple_l, dAdd_ii, dAdd_tt, dAdd_ll, dAdd_ss, dMul_ii, dMul_li, dIs_n, dIs_b, dIsN_n, dRepr_b, rt_0, rt_1, dEq, dNe, dSub, dDiv, dDivU, dMod, dLt, dLe, dGt, dGe, D.isNon, Bool.not_true, Bool.not_false])
    refine for_rule (I := fun i env b' => b' = b - 1 ∧ i ≤ 6 ∧ ∃ (vs : List D) (s11 : Slot), env = [.v .pen, .v (tupR S), .v (rt by_), .v (tupR row), .v (.int (k : Int)), .v (tupR near), .v (tupR here), .v (optD (nlR here)), .v (toldR here n), .v (.int (d : Int)), .own vs, s11, s12, s13] ∧ vs.length ≤ 900 + i ∧ ∀ v ∈ vs, ValOk n v) ?_ ?_ _ _ ⟨rfl, by omega, vs, _, rfl, by omega, hv⟩
    · rintro i e env b' E2 hd2 ⟨rfl, hi, vs, s11, rfl, hvl, hv⟩ hnx2 hct2 hbk2 hrt2
      have hd1 := itemOk d hd e (List.mem_of_getElem? hd2)
      have hi6 : i < 6 := (List.getElem?_eq_some_iff.mp hd2).1
      refine ⟨_, rfl, ?_⟩
      (try simp only [wSeq, wSet, wSetO, wRet, wIfS, wFrz, wApp, wDrop, wNext, wBreak, wCont, wNever, wVar, wVarB, wC, wBin, wUn, wT, wAnd, wOr, wNot, wAndV, wOrV, wNotV, wIte, wNil, wCons, wTup, wCall, wListOf, wC2, wIsT, wIsC, wFld, wON, wOS, wSl, wV, wO, wSetIx, wPar, wSwap, wSeqOf, wRng1, wRng2, wFor, wWhile, wYes, wComp, wEnum, wZip, wEnum2, wRgT, wRgL, wAug, dMulT, dMax, wMake, wFz, wCat, wRep, wipeE, D.ty, wIf_true, wIf_false, List.getElem?_cons_zero, List.getElem?_cons_succ, List.set_cons_zero, List.set_cons_succ, dI0_ii, dI_ii, dNeg_i, dGcd_ii, dAbs_i, dInt_i, dInt_b, dBits_i, dLen_t, dLen_l, dTuple_t, dTuple_l, dAdd_ii, dAdd_tt, dAdd_ll, dAdd_ss, dMul_ii, dMul_li, dIs_n, dIs_b, dIsN_n, dRepr_b, rt_0, rt_1, dEq, dNe, dSub, dDiv, dDivU, dMod, dLt, dLe, dGt, dGe, D.isNon, Bool.not_true, Bool.not_false])
      have e1 : cutD (S.map rt) none (some (d : Int)) = (S.take d).map rt := by rw [cut_to, List.map_take]
      have e2 : cutD (S.map rt) (some ((d : Int) + 1)) none = (S.drop (d + 1)).map rt := by
        rw [show ((d : Int) + 1) = ((d + 1 : Nat) : Int) by omega, cut_from, List.map_drop]
      rw [e1, e2]
      refine ⟨by simp; omega, by simp; omega, rfl, by omega, ?_⟩
      refine hnx2 _ _ ⟨rfl, by omega, vs ++ [.ins "AllLeft" [("row", .tup ((S.take d).map rt ++ [e] ++ (S.drop (d + 1)).map rt))]], .v e, rfl, by simp; omega, fun v hvm => ?_⟩
      rcases List.mem_append.mp hvm with hvm | hvm
      · exact hv v hvm
      · rw [List.mem_singleton.mp hvm]
        exact hd1
    · rintro env b' ⟨rfl, hi, vs, s11, rfl, hvl, hv⟩
      exact fin d vs s11 s12 s13 (by omega) hv
  have stage3 : ∀ (d : Nat), d < S.length → ∀ (vs : List D) (s11 s12 s13 : Slot), vs.length ≤ 100 → (∀ v ∈ vs, ValOk n v) → (wSeq (wSetO 10 (wCat (wVarB 10) (wFz (wComp [12] (.one 12) (wRng1 (wCons (wBin dAdd (wUn dLen (wVarB 6)) (wC (.int 1))) wNil)) wYes (wMake "NotLeft" ["many"] (wCons (wVar 12) wNil)))))) (wSeq (wFor (.one 11) (wSeqOf (wFz (wCons (wCall 2 p__law_plus (wCons (wBin dIx (wVarB 1) (wVarB 9)) (wCons (wTup (wCons (wC (.int 1)) (wCons (wC (.int 7)) wNil))) wNil))) (wCons (wBin dIx (wBin dIx (wVarB 1) (wVarB 9)) (wC (.int 0))) (wCons (wTup (wCons (wBin dMul (wC (.int 2)) (wBin dIx (wBin dIx (wVarB 1) (wVarB 9)) (wC (.int 0)))) (wCons (wBin dMul (wC (.int 2)) (wBin dIx (wBin dIx (wVarB 1) (wVarB 9)) (wC (.int 1)))) wNil))) (wCons (wTup (wCons (wUn dNeg (wBin dIx (wBin dIx (wVarB 1) (wVarB 9)) (wC (.int 0)))) (wCons (wBin dIx (wBin dIx (wVarB 1) (wVarB 9)) (wC (.int 1))) wNil))) (wCons (wTup (wCons (wC (.int 0)) (wCons (wC (.int 1)) wNil))) (wCons (wC .non) wNil)))))))) (wApp 10 (wMake "AllLeft" ["row"] (wCons (wBin dAdd (wBin dAdd (wSl (wVarB 1) wON (wOS (wVar 9))) (wTup (wCons (wVar 11) wNil))) (wSl (wVarB 1) (wOS (wBin dAdd (wVarB 9) (wC (.int 1)))) wON)) wNil)))) (wFrz 10 (wIfS (wNot (wT (wUn dAll (wFz (wComp [13] (.one 13) (wSeqOf (wVar 10)) wYes (wBin dEq (wUn dRepr (wCall 2 p_is_left_zeros (wCons (wVar 6) (wCons (wVar 13) wNil)))) (wUn dRepr (wCall 3 p__law_due (wCons (wVar 6) (wCons (wVar 7) (wCons (wVar 13) wNil))))))))))) (wRet (wC (.bl false))) wNext))))
      E' [.v .pen, .v (tupR S), .v (rt by_), .v (tupR row), .v (.int (k : Int)), .v (tupR near), .v (tupR here), .v (optD (nlR here)), .v (toldR here n), .v (.int (d : Int)), .own vs, s11, s12, s13] (b - 1) := by
    intro d hd vs s11 s12 s13 hvl hv
    (try simp only [wSeq, wSet, wSetO, wRet, wIfS, wFrz, wApp, wDrop, wNext, wBreak, wCont, wNever, wVar, wVarB, wC, wBin, wUn, wT, wAnd, wOr, wNot, wAndV, wOrV, wNotV, wIte, wNil, wCons, wTup, wCall, wListOf, wC2, wIsT, wIsC, wFld, wON, wOS, wSl, wV, wO, wSetIx, wPar, wSwap, wSeqOf, wRng1, wRng2, wFor, wWhile, wYes, wComp, wEnum, wZip, wEnum2, wRgT, wRgL, wAug, dMulT, dMax, wMake, wFz, wCat, wRep, wipeE, D.ty, wIf_true, wIf_false, List.getElem?_cons_zero, List.getElem?_cons_succ, List.set_cons_zero, List.set_cons_succ, dI0_ii, dI_ii, dNeg_i, dGcd_ii, dAbs_i, dInt_i, dInt_b, dBits_i, dLen_t, dLen_l, dTuple_t, dTuple_l, dAdd_ii, dAdd_tt, dAdd_ll, dAdd_ss, dMul_ii, dMul_li, dIs_n, dIs_b, dIsN_n, dRepr_b, rt_0, rt_1, dEq, dNe, dSub, dDiv, dDivU, dMod, dLt, dLe, dGt, dGe, D.isNon, Bool.not_true, Bool.not_false])
    rw [List.length_map, hl]
    refine ⟨⟨by omega, by omega⟩, by rw [rangeD_len]; omega, cmp_map mkNot _ _ (fun d hd => ⟨_, rfl, fun K kk => by
      obtain ⟨i, _, rfl⟩ := List.mem_map.mp hd
      (try simp only [wSeq, wSet, wSetO, wRet, wIfS, wFrz, wApp, wDrop, wNext, wBreak, wCont, wNever, wVar, wVarB, wC, wBin, wUn, wT, wAnd, wOr, wNot, wAndV, wOrV, wNotV, wIte, wNil, wCons, wTup, wCall, wListOf, wC2, wIsT, wIsC, wFld, wON, wOS, wSl, wV, wO, wSetIx, wPar, wSwap, wSeqOf, wRng1, wRng2, wFor, wWhile, wYes, wComp, wEnum, wZip, wEnum2, wRgT, wRgL, wAug, dMulT, dMax, wMake, wFz, wCat, wRep, wipeE, D.ty, wIf_true, wIf_false, List.getElem?_cons_zero, List.getElem?_cons_succ, List.set_cons_zero, List.set_cons_succ, dI0_ii, dI_ii, dNeg_i, dGcd_ii, dAbs_i, dInt_i, dInt_b, dBits_i, dLen_t, dLen_l, dTuple_t, dTuple_l, dAdd_ii, dAdd_tt, dAdd_ll, dAdd_ss, dMul_ii, dMul_li, dIs_n, dIs_b, dIsN_n, dRepr_b, rt_0, rt_1, dEq, dNe, dSub, dDiv, dDivU, dMod, dLt, dLe, dGt, dGe, D.isNon, Bool.not_true, Bool.not_false])
      exact ⟨rfl, kk⟩⟩) ?_⟩
    refine ⟨by rw [List.length_map, rangeD_len]; omega, ?_⟩
    refine stage4 d hd _ _ _ _ (by rw [List.length_append, List.length_map, rangeD_len]; omega) fun v hvm => ?_
    rcases List.mem_append.mp hvm with hvm | hvm
    · exact hv v hvm
    · obtain ⟨d, hd, rfl⟩ := List.mem_map.mp hvm
      obtain ⟨i, _, rfl⟩ := List.mem_map.mp hd
      exact .many rfl rfl
  have stage2 : ∀ (d : Nat), d < S.length → ∀ (vs : List D) (s11 s12 s13 : Slot), vs.length ≤ 50 → (∀ v ∈ vs, ValOk n v) → (wSeq (wSetO 10 (wCat (wVarB 10) (wFz (wCons (wMake "AllLeft" ["row"] (wCons (wUn dRev (wVarB 1)) wNil)) (wCons (wMake "AllLeft" ["row"] (wCons (wBin dAdd (wVarB 1) (wTup (wCons (wTup (wCons (wC (.int 1)) (wCons (wC (.int 1)) wNil))) wNil))) wNil)) (wCons (wVar 1) (wCons (wMake "NotLeft" ["many"] (wCons (wC .non) wNil)) (wCons (wMake "NotLeft" ["many"] (wCons (wC (.bl true)) wNil)) (wCons (wMake "NotLeft" ["many"] (wCons (wC (.str "1")) wNil)) wNil))))))))) (wSeq (wSetO 10 (wCat (wVarB 10) (wFz (wComp [12] (.one 12) (wRng1 (wCons (wBin dAdd (wUn dLen (wVarB 6)) (wC (.int 1))) wNil)) wYes (wMake "NotLeft" ["many"] (wCons (wVar 12) wNil)))))) (wSeq (wFor (.one 11) (wSeqOf (wFz (wCons (wCall 2 p__law_plus (wCons (wBin dIx (wVarB 1) (wVarB 9)) (wCons (wTup (wCons (wC (.int 1)) (wCons (wC (.int 7)) wNil))) wNil))) (wCons (wBin dIx (wBin dIx (wVarB 1) (wVarB 9)) (wC (.int 0))) (wCons (wTup (wCons (wBin dMul (wC (.int 2)) (wBin dIx (wBin dIx (wVarB 1) (wVarB 9)) (wC (.int 0)))) (wCons (wBin dMul (wC (.int 2)) (wBin dIx (wBin dIx (wVarB 1) (wVarB 9)) (wC (.int 1)))) wNil))) (wCons (wTup (wCons (wUn dNeg (wBin dIx (wBin dIx (wVarB 1) (wVarB 9)) (wC (.int 0)))) (wCons (wBin dIx (wBin dIx (wVarB 1) (wVarB 9)) (wC (.int 1))) wNil))) (wCons (wTup (wCons (wC (.int 0)) (wCons (wC (.int 1)) wNil))) (wCons (wC .non) wNil)))))))) (wApp 10 (wMake "AllLeft" ["row"] (wCons (wBin dAdd (wBin dAdd (wSl (wVarB 1) wON (wOS (wVar 9))) (wTup (wCons (wVar 11) wNil))) (wSl (wVarB 1) (wOS (wBin dAdd (wVarB 9) (wC (.int 1)))) wON)) wNil)))) (wFrz 10 (wIfS (wNot (wT (wUn dAll (wFz (wComp [13] (.one 13) (wSeqOf (wVar 10)) wYes (wBin dEq (wUn dRepr (wCall 2 p_is_left_zeros (wCons (wVar 6) (wCons (wVar 13) wNil)))) (wUn dRepr (wCall 3 p__law_due (wCons (wVar 6) (wCons (wVar 7) (wCons (wVar 13) wNil))))))))))) (wRet (wC (.bl false))) wNext)))))
      E' [.v .pen, .v (tupR S), .v (rt by_), .v (tupR row), .v (.int (k : Int)), .v (tupR near), .v (tupR here), .v (optD (nlR here)), .v (toldR here n), .v (.int (d : Int)), .own vs, s11, s12, s13] (b - 1) := by
    intro d hd vs s11 s12 s13 hvl hv
    (try simp only [wSeq, wSet, wSetO, wRet, wIfS, wFrz, wApp, wDrop, wNext, wBreak, wCont, wNever, wVar, wVarB, wC, wBin, wUn, wT, wAnd, wOr, wNot, wAndV, wOrV, wNotV, wIte, wNil, wCons, wTup, wCall, wListOf, wC2, wIsT, wIsC, wFld, wON, wOS, wSl, wV, wO, wSetIx, wPar, wSwap, wSeqOf, wRng1, wRng2, wFor, wWhile, wYes, wComp, wEnum, wZip, wEnum2, wRgT, wRgL, wAug, dMulT, dMax, wMake, wFz, wCat, wRep, wipeE, D.ty, wIf_true, wIf_false, List.getElem?_cons_zero, List.getElem?_cons_succ, List.set_cons_zero, List.set_cons_succ, dI0_ii, dI_ii, dNeg_i, dGcd_ii, dAbs_i, dInt_i, dInt_b, dBits_i, dLen_t, dLen_l, dTuple_t, dTuple_l, dAdd_ii, dAdd_tt, dAdd_ll, dAdd_ss, dMul_ii, dMul_li, dIs_n, dIs_b, dIsN_n, dRepr_b, rt_0, rt_1, dEq, dNe, dSub, dDiv, dDivU, dMod, dLt, dLe, dGt, dGe, D.isNon, Bool.not_true, Bool.not_false])
    refine dRev_tup (by rw [List.length_map]; omega) ⟨rfl, by simp; omega, rfl, rfl, rfl, rfl, ?_⟩
    refine ⟨by simp; omega, ?_⟩
    refine stage3 d hd _ _ _ _ (by rw [List.length_append]; simp; omega) fun v hvm => ?_
    rcases List.mem_append.mp hvm with hvm | hvm
    · exact hv v hvm
    · simp only [List.mem_cons, List.not_mem_nil, or_false] at hvm
      rcases hvm with rfl | rfl | rfl | rfl | rfl | rfl
      · rw [← List.map_reverse]
        exact val_rt hn6 (fun x hx => zS x (List.mem_reverse.mp hx)) (by simp; omega)
      · have e : S.map rt ++ [D.tup [.int 1, .int 1]] = (S ++ [1]).map rt := by rw [List.map_append]; rfl
        show ValOk n (.ins "AllLeft" [("row", .tup (S.map rt ++ [D.tup [.int 1, .int 1]]))])
        rw [e]
        refine val_rt hn6 (fun x hx => ?_) (by simp; omega)
        rcases List.mem_append.mp hx with hx | hx
        · exact zS x hx
        · rw [List.mem_singleton.mp hx]; exact hz_1 8099
      · exact .other rfl
      · exact .many rfl rfl
      · exact .many rfl rfl
      · exact .many rfl (by decide +kernel)
  have stage1 : ∀ (d : Nat), d < S.length → ∀ (s10 s11 s12 s13 : Slot), (wSeq (wSetO 10 (wCons (wVar 8) (wCons (wC .non) (wCons (wC (.int 5)) (wCons (wMake "AllLeft" ["row"] (wCons (wVar 1) wNil)) (wCons (wMake "AllLeft" ["row"] (wCons (wC .non) wNil)) (wCons (wMake "AllLeft" ["row"] (wCons (wTup wNil) wNil)) (wCons (wMake "AllLeft" ["row"] (wCons (wFz (wListOf (wVarB 1))) wNil)) (wCons (wMake "AllLeft" ["row"] (wCons (wSl (wVarB 1) (wOS (wC (.int 1))) wON) wNil)) wNil))))))))) (wSeq (wSetO 10 (wCat (wVarB 10) (wFz (wCons (wMake "AllLeft" ["row"] (wCons (wUn dRev (wVarB 1)) wNil)) (wCons (wMake "AllLeft" ["row"] (wCons (wBin dAdd (wVarB 1) (wTup (wCons (wTup (wCons (wC (.int 1)) (wCons (wC (.int 1)) wNil))) wNil))) wNil)) (wCons (wVar 1) (wCons (wMake "NotLeft" ["many"] (wCons (wC .non) wNil)) (wCons (wMake "NotLeft" ["many"] (wCons (wC (.bl true)) wNil)) (wCons (wMake "NotLeft" ["many"] (wCons (wC (.str "1")) wNil)) wNil))))))))) (wSeq (wSetO 10 (wCat (wVarB 10) (wFz (wComp [12] (.one 12) (wRng1 (wCons (wBin dAdd (wUn dLen (wVarB 6)) (wC (.int 1))) wNil)) wYes (wMake "NotLeft" ["many"] (wCons (wVar 12) wNil)))))) (wSeq (wFor (.one 11) (wSeqOf (wFz (wCons (wCall 2 p__law_plus (wCons (wBin dIx (wVarB 1) (wVarB 9)) (wCons (wTup (wCons (wC (.int 1)) (wCons (wC (.int 7)) wNil))) wNil))) (wCons (wBin dIx (wBin dIx (wVarB 1) (wVarB 9)) (wC (.int 0))) (wCons (wTup (wCons (wBin dMul (wC (.int 2)) (wBin dIx (wBin dIx (wVarB 1) (wVarB 9)) (wC (.int 0)))) (wCons (wBin dMul (wC (.int 2)) (wBin dIx (wBin dIx (wVarB 1) (wVarB 9)) (wC (.int 1)))) wNil))) (wCons (wTup (wCons (wUn dNeg (wBin dIx (wBin dIx (wVarB 1) (wVarB 9)) (wC (.int 0)))) (wCons (wBin dIx (wBin dIx (wVarB 1) (wVarB 9)) (wC (.int 1))) wNil))) (wCons (wTup (wCons (wC (.int 0)) (wCons (wC (.int 1)) wNil))) (wCons (wC .non) wNil)))))))) (wApp 10 (wMake "AllLeft" ["row"] (wCons (wBin dAdd (wBin dAdd (wSl (wVarB 1) wON (wOS (wVar 9))) (wTup (wCons (wVar 11) wNil))) (wSl (wVarB 1) (wOS (wBin dAdd (wVarB 9) (wC (.int 1)))) wON)) wNil)))) (wFrz 10 (wIfS (wNot (wT (wUn dAll (wFz (wComp [13] (.one 13) (wSeqOf (wVar 10)) wYes (wBin dEq (wUn dRepr (wCall 2 p_is_left_zeros (wCons (wVar 6) (wCons (wVar 13) wNil)))) (wUn dRepr (wCall 3 p__law_due (wCons (wVar 6) (wCons (wVar 7) (wCons (wVar 13) wNil))))))))))) (wRet (wC (.bl false))) wNext))))))
      E' [.v .pen, .v (tupR S), .v (rt by_), .v (tupR row), .v (.int (k : Int)), .v (tupR near), .v (tupR here), .v (optD (nlR here)), .v (toldR here n), .v (.int (d : Int)), s10, s11, s12, s13] (b - 1) := by
    intro d hd s10 s11 s12 s13
    (try simp only [wSeq, wSet, wSetO, wRet, wIfS, wFrz, wApp, wDrop, wNext, wBreak, wCont, wNever, wVar, wVarB, wC, wBin, wUn, wT, wAnd, wOr, wNot, wAndV, wOrV, wNotV, wIte, wNil, wCons, wTup, wCall, wListOf, wC2, wIsT, wIsC, wFld, wON, wOS, wSl, wV, wO, wSetIx, wPar, wSwap, wSeqOf, wRng1, wRng2, wFor, wWhile, wYes, wComp, wEnum, wZip, wEnum2, wRgT, wRgL, wAug, dMulT, dMax, wMake, wFz, wCat, wRep, wipeE, D.ty, wIf_true, wIf_false, List.getElem?_cons_zero, List.getElem?_cons_succ, List.set_cons_zero, List.set_cons_succ, dI0_ii, dI_ii, dNeg_i, dGcd_ii, dAbs_i, dInt_i, dInt_b, dBits_i, dLen_t, dLen_l, dTuple_t, dTuple_l, dAdd_ii, dAdd_tt, dAdd_ll, dAdd_ss, dMul_ii, dMul_li, dIs_n, dIs_b, dIsN_n, dRepr_b, rt_0, rt_1, dEq, dNe, dSub, dDiv, dDivU, dMod, dLt, dLe, dGt, dGe, D.isNon, Bool.not_true, Bool.not_false])
    refine ⟨rfl, rfl, rfl, rfl, rfl, ?_⟩
    refine stage2 d hd _ _ _ _ (by simp) fun v hvm => ?_
    simp only [List.mem_cons, List.not_mem_nil, or_false] at hvm
    rcases hvm with rfl | rfl | rfl | rfl | rfl | rfl | rfl | rfl
    · unfold toldR
      cases e : nlR here with
      | none => exact val_rt hn6 (fun x hx => (bfR_hz _ _ _ _ _ h.bf (h.alive e) x hx).mono (gmax_le hn6)) (by rw [bfR_len]; omega)
      | some i => exact .many rfl rfl
    · exact .other rfl
    · exact .other rfl
    · exact val_rt hn6 zS (by omega)
    · exact .row rfl fun c hc => by cases hc
    · exact val_rt (a := []) hn6 (fun x hx => by simp at hx) (by simp)
    · exact val_rt hn6 zS (by omega)
    · have e2 : cutD (S.map rt) (some 1) none = (S.drop 1).map rt := by
        rw [show (1 : Int) = ((1 : Nat) : Int) from rfl, cut_from, List.map_drop]
      show ValOk n (.ins "AllLeft" [("row", .tup (cutD (S.map rt) (some 1) none))])
      rw [e2]
      exact val_rt hn6 (fun x hx => zS x (List.mem_of_mem_drop hx)) (by simp; omega)
  show wSeq _ (wSeq _ (wSeq (wSetO 10 (wCons (wVar 8) (wCons (wC .non) (wCons (wC (.int 5)) (wCons (wMake "AllLeft" ["row"] (wCons (wVar 1) wNil)) (wCons (wMake "AllLeft" ["row"] (wCons (wC .non) wNil)) (wCons (wMake "AllLeft" ["row"] (wCons (wTup wNil) wNil)) (wCons (wMake "AllLeft" ["row"] (wCons (wFz (wListOf (wVarB 1))) wNil)) (wCons (wMake "AllLeft" ["row"] (wCons (wSl (wVarB 1) (wOS (wC (.int 1))) wON) wNil)) wNil))))))))) (wSeq (wSetO 10 (wCat (wVarB 10) (wFz (wCons (wMake "AllLeft" ["row"] (wCons (wUn dRev (wVarB 1)) wNil)) (wCons (wMake "AllLeft" ["row"] (wCons (wBin dAdd (wVarB 1) (wTup (wCons (wTup (wCons (wC (.int 1)) (wCons (wC (.int 1)) wNil))) wNil))) wNil)) (wCons (wVar 1) (wCons (wMake "NotLeft" ["many"] (wCons (wC .non) wNil)) (wCons (wMake "NotLeft" ["many"] (wCons (wC (.bl true)) wNil)) (wCons (wMake "NotLeft" ["many"] (wCons (wC (.str "1")) wNil)) wNil))))))))) (wSeq (wSetO 10 (wCat (wVarB 10) (wFz (wComp [12] (.one 12) (wRng1 (wCons (wBin dAdd (wUn dLen (wVarB 6)) (wC (.int 1))) wNil)) wYes (wMake "NotLeft" ["many"] (wCons (wVar 12) wNil)))))) (wSeq (wFor (.one 11) (wSeqOf (wFz (wCons (wCall 2 p__law_plus (wCons (wBin dIx (wVarB 1) (wVarB 9)) (wCons (wTup (wCons (wC (.int 1)) (wCons (wC (.int 7)) wNil))) wNil))) (wCons (wBin dIx (wBin dIx (wVarB 1) (wVarB 9)) (wC (.int 0))) (wCons (wTup (wCons (wBin dMul (wC (.int 2)) (wBin dIx (wBin dIx (wVarB 1) (wVarB 9)) (wC (.int 0)))) (wCons (wBin dMul (wC (.int 2)) (wBin dIx (wBin dIx (wVarB 1) (wVarB 9)) (wC (.int 1)))) wNil))) (wCons (wTup (wCons (wUn dNeg (wBin dIx (wBin dIx (wVarB 1) (wVarB 9)) (wC (.int 0)))) (wCons (wBin dIx (wBin dIx (wVarB 1) (wVarB 9)) (wC (.int 1))) wNil))) (wCons (wTup (wCons (wC (.int 0)) (wCons (wC (.int 1)) wNil))) (wCons (wC .non) wNil)))))))) (wApp 10 (wMake "AllLeft" ["row"] (wCons (wBin dAdd (wBin dAdd (wSl (wVarB 1) wON (wOS (wVar 9))) (wTup (wCons (wVar 11) wNil))) (wSl (wVarB 1) (wOS (wBin dAdd (wVarB 9) (wC (.int 1)))) wON)) wNil)))) (wFrz 10 (wIfS (wNot (wT (wUn dAll (wFz (wComp [13] (.one 13) (wSeqOf (wVar 10)) wYes (wBin dEq (wUn dRepr (wCall 2 p_is_left_zeros (wCons (wVar 6) (wCons (wVar 13) wNil)))) (wUn dRepr (wCall 3 p__law_due (wCons (wVar 6) (wCons (wVar 7) (wCons (wVar 13) wNil))))))))))) (wRet (wC (.bl false))) wNext))))))) E' _ b
  generalize hP : (wSeq (wSetO 10 (wCons (wVar 8) (wCons (wC .non) (wCons (wC (.int 5)) (wCons (wMake "AllLeft" ["row"] (wCons (wVar 1) wNil)) (wCons (wMake "AllLeft" ["row"] (wCons (wC .non) wNil)) (wCons (wMake "AllLeft" ["row"] (wCons (wTup wNil) wNil)) (wCons (wMake "AllLeft" ["row"] (wCons (wFz (wListOf (wVarB 1))) wNil)) (wCons (wMake "AllLeft" ["row"] (wCons (wSl (wVarB 1) (wOS (wC (.int 1))) wON) wNil)) wNil))))))))) (wSeq (wSetO 10 (wCat (wVarB 10) (wFz (wCons (wMake "AllLeft" ["row"] (wCons (wUn dRev (wVarB 1)) wNil)) (wCons (wMake "AllLeft" ["row"] (wCons (wBin dAdd (wVarB 1) (wTup (wCons (wTup (wCons (wC (.int 1)) (wCons (wC (.int 1)) wNil))) wNil))) wNil)) (wCons (wVar 1) (wCons (wMake "NotLeft" ["many"] (wCons (wC .non) wNil)) (wCons (wMake "NotLeft" ["many"] (wCons (wC (.bl true)) wNil)) (wCons (wMake "NotLeft" ["many"] (wCons (wC (.str "1")) wNil)) wNil))))))))) (wSeq (wSetO 10 (wCat (wVarB 10) (wFz (wComp [12] (.one 12) (wRng1 (wCons (wBin dAdd (wUn dLen (wVarB 6)) (wC (.int 1))) wNil)) wYes (wMake "NotLeft" ["many"] (wCons (wVar 12) wNil)))))) (wSeq (wFor (.one 11) (wSeqOf (wFz (wCons (wCall 2 p__law_plus (wCons (wBin dIx (wVarB 1) (wVarB 9)) (wCons (wTup (wCons (wC (.int 1)) (wCons (wC (.int 7)) wNil))) wNil))) (wCons (wBin dIx (wBin dIx (wVarB 1) (wVarB 9)) (wC (.int 0))) (wCons (wTup (wCons (wBin dMul (wC (.int 2)) (wBin dIx (wBin dIx (wVarB 1) (wVarB 9)) (wC (.int 0)))) (wCons (wBin dMul (wC (.int 2)) (wBin dIx (wBin dIx (wVarB 1) (wVarB 9)) (wC (.int 1)))) wNil))) (wCons (wTup (wCons (wUn dNeg (wBin dIx (wBin dIx (wVarB 1) (wVarB 9)) (wC (.int 0)))) (wCons (wBin dIx (wBin dIx (wVarB 1) (wVarB 9)) (wC (.int 1))) wNil))) (wCons (wTup (wCons (wC (.int 0)) (wCons (wC (.int 1)) wNil))) (wCons (wC .non) wNil)))))))) (wApp 10 (wMake "AllLeft" ["row"] (wCons (wBin dAdd (wBin dAdd (wSl (wVarB 1) wON (wOS (wVar 9))) (wTup (wCons (wVar 11) wNil))) (wSl (wVarB 1) (wOS (wBin dAdd (wVarB 9) (wC (.int 1)))) wON)) wNil)))) (wFrz 10 (wIfS (wNot (wT (wUn dAll (wFz (wComp [13] (.one 13) (wSeqOf (wVar 10)) wYes (wBin dEq (wUn dRepr (wCall 2 p_is_left_zeros (wCons (wVar 6) (wCons (wVar 13) wNil)))) (wUn dRepr (wCall 3 p__law_due (wCons (wVar 6) (wCons (wVar 7) (wCons (wVar 13) wNil))))))))))) (wRet (wC (.bl false))) wNext)))))) = W1 at stage1
  (try simp only [wSeq, wSet, wSetO, wRet, wIfS, wFrz, wApp, wDrop, wNext, wBreak, wCont, wNever, wVar, wVarB, wC, wBin, wUn, wT, wAnd, wOr, wNot, wAndV, wOrV, wNotV, wIte, wNil, wCons, wTup, wCall, wListOf, wC2, wIsT, wIsC, wFld, wON, wOS, wSl, wV, wO, wSetIx, wPar, wSwap, wSeqOf, wRng1, wRng2, wFor, wWhile, wYes, wComp, wEnum, wZip, wEnum2, wRgT, wRgL, wAug, dMulT, dMax, wMake, wFz, wCat, wRep, wipeE, D.ty, wIf_true, wIf_false, List.getElem?_cons_zero, List.getElem?_cons_succ, List.set_cons_zero, List.set_cons_succ, dI0_ii, dI_ii, dNeg_i, dGcd_ii, dAbs_i, dInt_i, dInt_b, dBits_i, dLen_t, dLen_l, dTuple_t, dTuple_l, dAdd_ii, dAdd_tt, dAdd_ll, dAdd_ss, dMul_ii, dMul_li, dIs_n, dIs_b, dIsN_n, dRepr_b, rt_0, rt_1, dEq, dNe, dSub, dDiv, dDivU, dMod, dLt, dLe, dGt, dGe, D.isNon, Bool.not_true, Bool.not_false])
  refine ⟨rfl, here, rfl, by omega, by omega, h.tab, rfl, here, n, rfl, h, ?_⟩
  rw [List.length_map]
  refine ⟨rfl, S.length, rfl, hm1, by omega, hb, fun d hd => ?_⟩
  exact stage1 d hd _ _ _ _
end En.K71
/-! k71: the law's case, whole. -/
namespace En.K71
open PySem PySem.Spec PyProof.Rows L2 En
def p__law_case : Spec := fun ds b Q => ds = [.pen] ∧ 100 ≤ b ∧ ∀ b', b ≤ b' + 100 → Q (.bl true) b'
theorem rt_lit {x : Rat} {n : Int} {d : Nat} (h1 : x.num = n) (h2 : x.den = d) : rt x = .tup [.int n, .int (d : Int)] := by
  unfold rt
  rw [h1, h2]
theorem frI {j n : Int} {a D : Nat} (hj : j ≠ 0) {t : Int} (h1 : t * (D : Int) = n * j) (h2 : n.natAbs < 2 ^ a) : FrA a D (Rat.divInt t j) := by
  refine ⟨n, ?_, h2⟩
  rw [Rat.divInt_eq_div]
  have hj' : (j : Rat) ≠ 0 := by
    intro z
    exact hj (by exact_mod_cast z)
  have h3 : (t : Rat) * (D : Rat) = (n : Rat) * (j : Rat) := by exact_mod_cast h1
  generalize (j : Rat) = y at hj' h3
  generalize (t : Rat) = x at h3
  generalize (D : Rat) = z at h3
  generalize (n : Rat) = w at h3
  grind
theorem drawn {d : Nat} {e : Int} (hd : d < 6) (he : e = 1 ∨ e = 2 ∨ e = 3) : FrA 6 6 (Rat.divInt (1 + (d : Int)) e) ∧ 0 < Rat.divInt (1 + (d : Int)) e := by
  constructor
  · rcases he with rfl | rfl | rfl
    · exact frI (n := 6 * (1 + (d : Int))) (by decide) (by omega) (by omega)
    · exact frI (n := 3 * (1 + (d : Int))) (by decide) (by omega) (by omega)
    · exact frI (n := 2 * (1 + (d : Int))) (by decide) (by omega) (by omega)
  · refine num_pos' ?_
    rw [Rat.num_divInt]
    have : d = 0 ∨ d = 1 ∨ d = 2 ∨ d = 3 ∨ d = 4 ∨ d = 5 := by omega
    rcases this with rfl | rfl | rfl | rfl | rfl | rfl <;> rcases he with rfl | rfl | rfl <;> decide +kernel
/-- sizes on the way -/
structure FSt (k : Nat) (last here : List Rat) : Prop where
  l : ∀ i, FrA (5 * k + 1) (6 ^ k) (last.getD i 0)
  h : ∀ i, FrA (5 * k + 6) (6 ^ (k + 1)) (here.getD i 0)
theorem FSt.next {k : Nat} {last here : List Rat} {c : Rat} (s : FSt k last here) (hc : FrA 6 6 c) : FSt (k + 1) here (bStep last here c) := by
  refine ⟨fun i => by rw [show 5 * (k + 1) + 1 = 5 * k + 6 by omega]; exact s.h i, fun i => ?_⟩
  by_cases hi : i < here.length + 1
  · unfold bStep
    rw [getD_range hi]
    have h1 : FrA (5 * k + 10) (6 ^ (k + 1) * 6) ((0 :: here).getD i 0) := by
      cases i with
      | zero => exact FrA.zero
      | succ i => exact ((s.h i).up (k := 6) (b := 3) (by decide)).mono (by omega)
    have h2 : FrA (5 * k + 10) (6 ^ (k + 1) * 6) (last.getD i 0 * c) := (((s.l i).mul hc).up (k := 6) (b := 3) (by decide)).mono (by omega)
    rw [Nat.pow_succ 6 (k + 1)]
    exact (h1.add h2).mono (by omega)
  · unfold bStep
    rw [List.getD_eq_getElem?_getD, List.getElem?_eq_none (by simp; omega)]
    exact FrA.zero
theorem bGo_fst : ∀ (r : List Rat) (k : Nat) (last here : List Rat), FSt k last here → (∀ x ∈ r, FrA 6 6 x) → ∀ i, FrA (5 * (k + r.length) + 6) (6 ^ (k + r.length + 1)) ((bGo r last here).getD i 0)
  | [], k, last, here, s, _ => s.h
  | c :: r, k, last, here, s, hz => by
    have := bGo_fst r (k + 1) here (bStep last here c) (s.next (hz c List.mem_cons_self)) fun x hx => hz x (List.mem_cons_of_mem _ hx)
    rw [List.length_cons, show k + (r.length + 1) = k + 1 + r.length by omega]
    exact this
theorem bld_fr {S : List Rat} (dr : Dr S) (i : Nat) : FrA 31 46656 ((bldR S).getD i 0) := by
  have hm1 := dr.m1
  have hm6 := dr.m6
  have hsz := dr.sz
  cases S with
  | nil => simp at hm1
  | cons x r =>
    have s0 : FSt 0 [1] [x, 1] := by
      refine ⟨fun i => ?_, fun i => ?_⟩
      · cases i with
        | zero => exact ⟨1, by decide +kernel, by decide⟩
        | succ i => exact FrA.zero
      · cases i with
        | zero => exact hsz x List.mem_cons_self
        | succ i =>
          cases i with
          | zero => exact ⟨6, show (1 : Rat) * ((6 ^ (0 + 1) : Nat) : Rat) = ((6 : Int) : Rat) by decide +kernel, by decide⟩
          | succ i => exact FrA.zero
    have h1 := bGo_fst r 0 [1] [x, 1] s0 (fun y hy => hsz y (List.mem_cons_of_mem _ hy)) i
    show FrA 31 46656 ((bGo r [1] [x, 1]).getD i 0)
    generalize (bGo r [1] [x, 1]).getD i 0 = y at h1
    have hr : r.length ≤ 5 := by simpa using hm6
    have h6 : r.length = 0 ∨ r.length = 1 ∨ r.length = 2 ∨ r.length = 3 ∨ r.length = 4 ∨ r.length = 5 := by omega
    rcases h6 with e | e | e | e | e | e <;> rw [e] at h1
    · exact (h1.up (k := 7776) (b := 13) (by decide)).mono (by decide)
    · exact (h1.up (k := 1296) (b := 11) (by decide)).mono (by decide)
    · exact (h1.up (k := 216) (b := 8) (by decide)).mono (by decide)
    · exact (h1.up (k := 36) (b := 6) (by decide)).mono (by decide)
    · exact (h1.up (k := 6) (b := 3) (by decide)).mono (by decide)
    · exact h1.mono (by decide)
theorem hp__law_case : ∀ ds b Q, ds.length = 1 → p__law_case ds b Q → W__law_case { nx := fun _ b' => Q .non b', rt := Q } (ds.map Slot.v ++ List.replicate 13 .un) b := by
  rintro ds b Q - ⟨rfl, hb, q⟩
  show W__law_case _ [.v .pen, .un, .un, .un, .un, .un, .un, .un, .un, .un, .un, .un, .un, .un] b
  (try simp only [wSeq, wSet, wSetO, wRet, wIfS, wFrz, wApp, wDrop, wNext, wBreak, wCont, wNever, wVar, wVarB, wC, wBin, wUn, wT, wAnd, wOr, wNot, wAndV, wOrV, wNotV, wIte, wNil, wCons, wTup, wCall, wListOf, wC2, wIsT, wIsC, wFld, wON, wOS, wSl, wV, wO, wSetIx, wPar, wSwap, wSeqOf, wRng1, wRng2, wFor, wWhile, wYes, wComp, wEnum, wZip, wEnum2, wRgT, wRgL, wAug, dMulT, dMax, wMake, wFz, wCat, wRep, wipeE, D.ty, wIf_true, wIf_false, List.getElem?_cons_zero, List.getElem?_cons_succ, List.set_cons_zero, List.set_cons_succ, dI0_ii, dI_ii, dNeg_i, dGcd_ii, dAbs_i, dInt_i, dInt_b, dBits_i, dLen_t, dLen_l, dTuple_t, dTuple_l, dAdd_ii, dAdd_tt, dAdd_ll, dAdd_ss, dMul_ii, dMul_li, dIs_n, dIs_b, dIsN_n, dRepr_b, rt_0, rt_1, dEq, dNe, dSub, dDiv, dDivU, dMod, dLt, dLe, dGt, dGe, D.isNon, Bool.not_true, Bool.not_false, W__law_case])
  refine ⟨rfl, 6, rfl, by decide, by decide, by omega, fun d hd => ?_⟩
  (try simp only [wSeq, wSet, wSetO, wRet, wIfS, wFrz, wApp, wDrop, wNext, wBreak, wCont, wNever, wVar, wVarB, wC, wBin, wUn, wT, wAnd, wOr, wNot, wAndV, wOrV, wNotV, wIte, wNil, wCons, wTup, wCall, wListOf, wC2, wIsT, wIsC, wFld, wON, wOS, wSl, wV, wO, wSetIx, wPar, wSwap, wSeqOf, wRng1, wRng2, wFor, wWhile, wYes, wComp, wEnum, wZip, wEnum2, wRgT, wRgL, wAug, dMulT, dMax, wMake, wFz, wCat, wRep, wipeE, D.ty, wIf_true, wIf_false, List.getElem?_cons_zero, List.getElem?_cons_succ, List.set_cons_zero, List.set_cons_succ, dI0_ii, dI_ii, dNeg_i, dGcd_ii, dAbs_i, dInt_i, dInt_b, dBits_i, dLen_t, dLen_l, dTuple_t, dTuple_l, dAdd_ii, dAdd_tt, dAdd_ll, dAdd_ss, dMul_ii, dMul_li, dIs_n, dIs_b, dIsN_n, dRepr_b, rt_0, rt_1, dEq, dNe, dSub, dDiv, dDivU, dMod, dLt, dLe, dGt, dGe, D.isNon, Bool.not_true, Bool.not_false])
  rw [show (1 : Int) + (d : Int) = ((1 + d : Nat) : Int) by omega]
  have hm1 : 1 ≤ 1 + d := by omega
  have hm6 : 1 + d ≤ 6 := by omega
  generalize 1 + d = m at hm1 hm6
  rw [Int.toNat_natCast, rangeD0]
  refine ⟨⟨by omega, by omega⟩, by simp; omega, ?_⟩
  refine cmp_any _ (fun _ y => ∃ x, y = rt x ∧ FrA 6 6 x ∧ 0 < x) 2 _ _ _ (by simp; omega) (fun i hi => ⟨_, rfl, fun b1 K hb1 kk => ?_⟩) fun ys b1 hyl hyp hb1 => ?_
  · (try simp only [wSeq, wSet, wSetO, wRet, wIfS, wFrz, wApp, wDrop, wNext, wBreak, wCont, wNever, wVar, wVarB, wC, wBin, wUn, wT, wAnd, wOr, wNot, wAndV, wOrV, wNotV, wIte, wNil, wCons, wTup, wCall, wListOf, wC2, wIsT, wIsC, wFld, wON, wOS, wSl, wV, wO, wSetIx, wPar, wSwap, wSeqOf, wRng1, wRng2, wFor, wWhile, wYes, wComp, wEnum, wZip, wEnum2, wRgT, wRgL, wAug, dMulT, dMax, wMake, wFz, wCat, wRep, wipeE, D.ty, wIf_true, wIf_false, List.getElem?_cons_zero, List.getElem?_cons_succ, List.set_cons_zero, List.set_cons_succ, dI0_ii, dI_ii, dNeg_i, dGcd_ii, dAbs_i, dInt_i, dInt_b, dBits_i, dLen_t, dLen_l, dTuple_t, dTuple_l, dAdd_ii, dAdd_tt, dAdd_ll, dAdd_ss, dMul_ii, dMul_li, dIs_n, dIs_b, dIsN_n, dRepr_b, rt_0, rt_1, dEq, dNe, dSub, dDiv, dDivU, dMod, dLt, dLe, dGt, dGe, D.isNon, Bool.not_true, Bool.not_false])
    refine ⟨rfl, 6, rfl, by decide, by decide, by omega, fun d hd => ?_⟩
    (try simp only [wSeq, wSet, wSetO, wRet, wIfS, wFrz, wApp, wDrop, wNext, wBreak, wCont, wNever, wVar, wVarB, wC, wBin, wUn, wT, wAnd, wOr, wNot, wAndV, wOrV, wNotV, wIte, wNil, wCons, wTup, wCall, wListOf, wC2, wIsT, wIsC, wFld, wON, wOS, wSl, wV, wO, wSetIx, wPar, wSwap, wSeqOf, wRng1, wRng2, wFor, wWhile, wYes, wComp, wEnum, wZip, wEnum2, wRgT, wRgL, wAug, dMulT, dMax, wMake, wFz, wCat, wRep, wipeE, D.ty, wIf_true, wIf_false, List.getElem?_cons_zero, List.getElem?_cons_succ, List.set_cons_zero, List.set_cons_succ, dI0_ii, dI_ii, dNeg_i, dGcd_ii, dAbs_i, dInt_i, dInt_b, dBits_i, dLen_t, dLen_l, dTuple_t, dTuple_l, dAdd_ii, dAdd_tt, dAdd_ll, dAdd_ss, dMul_ii, dMul_li, dIs_n, dIs_b, dIsN_n, dRepr_b, rt_0, rt_1, dEq, dNe, dSub, dDiv, dDivU, dMod, dLt, dLe, dGt, dGe, D.isNon, Bool.not_true, Bool.not_false])
    refine ⟨rfl, _, rfl, by simp, by simp, by omega, fun e he => ?_⟩
    simp only [List.mem_cons, List.not_mem_nil, or_false] at he
    have he2 : ∃ j : Int, e = .int j ∧ (j = 1 ∨ j = 2 ∨ j = 3) := by
      rcases he with rfl | rfl | rfl | rfl
      · exact ⟨1, rfl, .inl rfl⟩
      · exact ⟨1, rfl, .inl rfl⟩
      · exact ⟨2, rfl, .inr (.inl rfl)⟩
      · exact ⟨3, rfl, .inr (.inr rfl)⟩
    obtain ⟨j, rfl, hj⟩ := he2
    obtain ⟨f1, f2⟩ := drawn hd hj
    refine ⟨rfl, _, _, rfl, by omega, big_log (n := 4) (by omega) (by decide) (by decide), big_log (n := 4) (by omega) (by decide) (by decide), ?_⟩
    exact kk _ _ ⟨_, rfl, f1, f2⟩ (by omega)
  · rw [List.length_range] at hyl hb1
    have hS : ∃ S : List Rat, ys = S.map rt ∧ S.length = m ∧ Dr S := by
      have go : ∀ (ys : List D), (∀ y ∈ ys, ∃ x, y = rt x ∧ FrA 6 6 x ∧ 0 < x) → ∃ S : List Rat, ys = S.map rt ∧ (∀ x ∈ S, FrA 6 6 x) ∧ ∀ x ∈ S, 0 < x := by
        intro ys
        induction ys with
        | nil => intro _; exact ⟨[], rfl, by simp, by simp⟩
        | cons y r ih =>
          intro h
          obtain ⟨x, rfl, h1, h2⟩ := h y List.mem_cons_self
          obtain ⟨S, rfl, h3, h4⟩ := ih fun z hz => h z (List.mem_cons_of_mem _ hz)
          refine ⟨x :: S, rfl, fun z hz => ?_, fun z hz => ?_⟩
          · rcases List.mem_cons.mp hz with rfl | hz
            · exact h1
            · exact h3 z hz
          · rcases List.mem_cons.mp hz with rfl | hz
            · exact h2
            · exact h4 z hz
      obtain ⟨S, rfl, h1, h2⟩ := go ys fun y hy => by
        obtain ⟨i, hi, e⟩ := List.getElem_of_mem hy
        have hi2 : i < m := by omega
        exact hyp i i y (List.getElem?_range hi2) (by rw [List.getElem?_eq_getElem hi, e])
      have hl : S.length = m := by simpa using hyl
      exact ⟨S, rfl, hl, by omega, by omega, h1, h2⟩
    obtain ⟨S, rfl, hSl, dr⟩ := hS
    (try simp only [wSeq, wSet, wSetO, wRet, wIfS, wFrz, wApp, wDrop, wNext, wBreak, wCont, wNever, wVar, wVarB, wC, wBin, wUn, wT, wAnd, wOr, wNot, wAndV, wOrV, wNotV, wIte, wNil, wCons, wTup, wCall, wListOf, wC2, wIsT, wIsC, wFld, wON, wOS, wSl, wV, wO, wSetIx, wPar, wSwap, wSeqOf, wRng1, wRng2, wFor, wWhile, wYes, wComp, wEnum, wZip, wEnum2, wRgT, wRgL, wAug, dMulT, dMax, wMake, wFz, wCat, wRep, wipeE, D.ty, wIf_true, wIf_false, List.getElem?_cons_zero, List.getElem?_cons_succ, List.set_cons_zero, List.set_cons_succ, dI0_ii, dI_ii, dNeg_i, dGcd_ii, dAbs_i, dInt_i, dInt_b, dBits_i, dLen_t, dLen_l, dTuple_t, dTuple_l, dAdd_ii, dAdd_tt, dAdd_ll, dAdd_ss, dMul_ii, dMul_li, dIs_n, dIs_b, dIsN_n, dRepr_b, rt_0, rt_1, dEq, dNe, dSub, dDiv, dDivU, dMod, dLt, dLe, dGt, dGe, D.isNon, Bool.not_true, Bool.not_false])
    refine ⟨rfl, _, rfl, by simp, by simp, by omega, fun e he => ?_⟩
    simp only [List.mem_cons, List.not_mem_nil, or_false] at he
    have he2 : ∃ y : Rat, e = rt y ∧ (y = 1 ∨ y = 2 ∨ y = Rat.divInt 1 3) := by
      rcases he with rfl | rfl | rfl
      · exact ⟨1, rfl, .inl rfl⟩
      · exact ⟨2, rfl, .inr (.inl rfl)⟩
      · exact ⟨Rat.divInt 1 3, (rt_lit (by decide +kernel) (by decide +kernel)).symm, .inr (.inr rfl)⟩
    obtain ⟨y, rfl, hy⟩ := he2
    have fy : FrA 3 3 y := by
      rcases hy with rfl | rfl | rfl
      · exact ⟨3, by decide +kernel, by decide⟩
      · exact ⟨6, by decide +kernel, by decide⟩
      · exact ⟨1, by decide +kernel, by decide⟩
    have hzS : HzL 6 S := fun x hx => hz6 (dr.sz x hx)
    have hfit : 3 * (hB 6 S.length + 3) + 1 ≤ SB := by
      have h6 : S.length = 1 ∨ S.length = 2 ∨ S.length = 3 ∨ S.length = 4 ∨ S.length = 5 ∨ S.length = 6 := by omega
      rcases h6 with e | e | e | e | e | e <;> rw [e] <;> decide +kernel
    obtain ⟨bl, bt, bz⟩ := bld_st dr.m1 hzS
    have bf := bld_fr dr
    (try simp only [wSeq, wSet, wSetO, wRet, wIfS, wFrz, wApp, wDrop, wNext, wBreak, wCont, wNever, wVar, wVarB, wC, wBin, wUn, wT, wAnd, wOr, wNot, wAndV, wOrV, wNotV, wIte, wNil, wCons, wTup, wCall, wListOf, wC2, wIsT, wIsC, wFld, wON, wOS, wSl, wV, wO, wSetIx, wPar, wSwap, wSeqOf, wRng1, wRng2, wFor, wWhile, wYes, wComp, wEnum, wZip, wEnum2, wRgT, wRgL, wAug, dMulT, dMax, wMake, wFz, wCat, wRep, wipeE, D.ty, wIf_true, wIf_false, List.getElem?_cons_zero, List.getElem?_cons_succ, List.set_cons_zero, List.set_cons_succ, dI0_ii, dI_ii, dNeg_i, dGcd_ii, dAbs_i, dInt_i, dInt_b, dBits_i, dLen_t, dLen_l, dTuple_t, dTuple_l, dAdd_ii, dAdd_tt, dAdd_ll, dAdd_ss, dMul_ii, dMul_li, dIs_n, dIs_b, dIsN_n, dRepr_b, rt_0, rt_1, dEq, dNe, dSub, dDiv, dDivU, dMod, dLt, dLe, dGt, dGe, D.isNon, Bool.not_true, Bool.not_false])
    refine ⟨rfl, S, 6, rfl, dr.m1, by omega, hzS, pos_ne dr.pos, hfit, ?_⟩
    (try simp only [wSeq, wSet, wSetO, wRet, wIfS, wFrz, wApp, wDrop, wNext, wBreak, wCont, wNever, wVar, wVarB, wC, wBin, wUn, wT, wAnd, wOr, wNot, wAndV, wOrV, wNotV, wIte, wNil, wCons, wTup, wCall, wListOf, wC2, wIsT, wIsC, wFld, wON, wOS, wSl, wV, wO, wSetIx, wPar, wSwap, wSeqOf, wRng1, wRng2, wFor, wWhile, wYes, wComp, wEnum, wZip, wEnum2, wRgT, wRgL, wAug, dMulT, dMax, wMake, wFz, wCat, wRep, wipeE, D.ty, wIf_true, wIf_false, List.getElem?_cons_zero, List.getElem?_cons_succ, List.set_cons_zero, List.set_cons_succ, dI0_ii, dI_ii, dNeg_i, dGcd_ii, dAbs_i, dInt_i, dInt_b, dBits_i, dLen_t, dLen_l, dTuple_t, dTuple_l, dAdd_ii, dAdd_tt, dAdd_ll, dAdd_ss, dMul_ii, dMul_li, dIs_n, dIs_b, dIsN_n, dRepr_b, rt_0, rt_1, dEq, dNe, dSub, dDiv, dDivU, dMod, dLt, dLe, dGt, dGe, D.isNon, Bool.not_true, Bool.not_false])
    refine ⟨by rw [List.length_map, bl]; omega, ?_⟩
    have bsz : ∀ x ∈ bldR S, Sz x := fun x hx => (bz x hx).sz (by omega)
    refine cmp_at rt (fun x => rt (y * x)) _ _ (fun x hx => ⟨_, rfl, fun K kk => ?_⟩) ?_
    · (try simp only [wSeq, wSet, wSetO, wRet, wIfS, wFrz, wApp, wDrop, wNext, wBreak, wCont, wNever, wVar, wVarB, wC, wBin, wUn, wT, wAnd, wOr, wNot, wAndV, wOrV, wNotV, wIte, wNil, wCons, wTup, wCall, wListOf, wC2, wIsT, wIsC, wFld, wON, wOS, wSl, wV, wO, wSetIx, wPar, wSwap, wSeqOf, wRng1, wRng2, wFor, wWhile, wYes, wComp, wEnum, wZip, wEnum2, wRgT, wRgL, wAug, dMulT, dMax, wMake, wFz, wCat, wRep, wipeE, D.ty, wIf_true, wIf_false, List.getElem?_cons_zero, List.getElem?_cons_succ, List.set_cons_zero, List.set_cons_succ, dI0_ii, dI_ii, dNeg_i, dGcd_ii, dAbs_i, dInt_i, dInt_b, dBits_i, dLen_t, dLen_l, dTuple_t, dTuple_l, dAdd_ii, dAdd_tt, dAdd_ll, dAdd_ss, dMul_ii, dMul_li, dIs_n, dIs_b, dIsN_n, dRepr_b, rt_0, rt_1, dEq, dNe, dSub, dDiv, dDivU, dMod, dLt, dLe, dGt, dGe, D.isNon, Bool.not_true, Bool.not_false])
      exact ⟨rfl, _, _, rfl, (fy.hz (k := 3) (by decide) (by decide) (by decide)).sz (by decide), bsz x hx, trivial, kk⟩
    have er : (bldR S).map (fun x => rt (y * x)) = ((bldR S).map (y * ·)).map rt := by rw [List.map_map]; rfl
    rw [er]
    have rl : ((bldR S).map (y * ·)).length = S.length + 1 := by rw [List.length_map, bl]
    have rg : ∀ i, ((bldR S).map (y * ·)).getD i 0 = y * (bldR S).getD i 0 := fun i => by
      rw [List.getD_eq_getElem?_getD, List.getD_eq_getElem?_getD, List.getElem?_map]
      cases (bldR S)[i]? with
      | none => show (0 : Rat) = y * 0; grind
      | some x => rfl
    have rf : ∀ i, FrA 34 139968 (((bldR S).map (y * ·)).getD i 0) := fun i => by
      rw [rg]
      exact fy.mul (bf i)
    have rt1 : ((bldR S).map (y * ·)).getD S.length 0 = y := by rw [rg, bt, Rat.mul_one]
    generalize (bldR S).map (y * ·) = row at rl rf rt1
    have rf40 : ∀ i, FrA 40 DD (row.getD i 0) := fun i => (rf i).up (k := 50) (b := 6) (by decide)
    have heR : He row S.length := ⟨rl, dr.m1, dr.m6, fun i => (rf40 i).mono (by decide), by rw [rt1]; exact hy⟩
    (try simp only [wSeq, wSet, wSetO, wRet, wIfS, wFrz, wApp, wDrop, wNext, wBreak, wCont, wNever, wVar, wVarB, wC, wBin, wUn, wT, wAnd, wOr, wNot, wAndV, wOrV, wNotV, wIte, wNil, wCons, wTup, wCall, wListOf, wC2, wIsT, wIsC, wFld, wON, wOS, wSl, wV, wO, wSetIx, wPar, wSwap, wSeqOf, wRng1, wRng2, wFor, wWhile, wYes, wComp, wEnum, wZip, wEnum2, wRgT, wRgL, wAug, dMulT, dMax, wMake, wFz, wCat, wRep, wipeE, D.ty, wIf_true, wIf_false, List.getElem?_cons_zero, List.getElem?_cons_succ, List.set_cons_zero, List.set_cons_succ, dI0_ii, dI_ii, dNeg_i, dGcd_ii, dAbs_i, dInt_i, dInt_b, dBits_i, dLen_t, dLen_l, dTuple_t, dTuple_l, dAdd_ii, dAdd_tt, dAdd_ll, dAdd_ss, dMul_ii, dMul_li, dIs_n, dIs_b, dIsN_n, dRepr_b, rt_0, rt_1, dEq, dNe, dSub, dDiv, dDivU, dMod, dLt, dLe, dGt, dGe, D.isNon, Bool.not_true, Bool.not_false])
    rw [List.length_map, rl, show ((S.length + 1 : Nat) : Int) - 1 = (S.length : Int) by omega]
    refine ⟨rfl, S.length, rfl, dr.m1, by omega, by omega, fun k hk => ?_⟩
    have hk1 : k < row.length := by omega
    refine ix_rowT hk1 (ix_rowT hk1 ?_)
    (try simp only [wSeq, wSet, wSetO, wRet, wIfS, wFrz, wApp, wDrop, wNext, wBreak, wCont, wNever, wVar, wVarB, wC, wBin, wUn, wT, wAnd, wOr, wNot, wAndV, wOrV, wNotV, wIte, wNil, wCons, wTup, wCall, wListOf, wC2, wIsT, wIsC, wFld, wON, wOS, wSl, wV, wO, wSetIx, wPar, wSwap, wSeqOf, wRng1, wRng2, wFor, wWhile, wYes, wComp, wEnum, wZip, wEnum2, wRgT, wRgL, wAug, dMulT, dMax, wMake, wFz, wCat, wRep, wipeE, D.ty, wIf_true, wIf_false, List.getElem?_cons_zero, List.getElem?_cons_succ, List.set_cons_zero, List.set_cons_succ, dI0_ii, dI_ii, dNeg_i, dGcd_ii, dAbs_i, dInt_i, dInt_b, dBits_i, dLen_t, dLen_l, dTuple_t, dTuple_l, dAdd_ii, dAdd_tt, dAdd_ll, dAdd_ss, dMul_ii, dMul_li, dIs_n, dIs_b, dIsN_n, dRepr_b, rt_0, rt_1, dEq, dNe, dSub, dDiv, dDivU, dMod, dLt, dLe, dGt, dGe, D.isNon, Bool.not_true, Bool.not_false])
    refine ⟨rfl, _, rfl, by simp, by simp, by omega, fun e he => ?_⟩
    simp only [List.mem_cons, List.not_mem_nil, or_false] at he
    have he2 : ∃ x : Rat, e = rt x ∧ FrA 40 DD x := by
      rcases he with rfl | rfl | rfl
      · exact ⟨_, rfl, rf40 k⟩
      · exact ⟨Rat.divInt 1 50, (rt_lit (by decide +kernel) (by decide +kernel)).symm, 139968, by decide +kernel, by decide⟩
      · exact ⟨1, rfl, 6998400, by decide +kernel, by decide⟩
    obtain ⟨x, rfl, hx⟩ := he2
    refine ⟨rfl, _, _, rfl, (heR.hz k).sz (by decide), (hx.hz (k := 40) (by decide) (by decide) (by decide)).sz (by decide), trivial, ?_⟩
    (try simp only [wSeq, wSet, wSetO, wRet, wIfS, wFrz, wApp, wDrop, wNext, wBreak, wCont, wNever, wVar, wVarB, wC, wBin, wUn, wT, wAnd, wOr, wNot, wAndV, wOrV, wNotV, wIte, wNil, wCons, wTup, wCall, wListOf, wC2, wIsT, wIsC, wFld, wON, wOS, wSl, wV, wO, wSetIx, wPar, wSwap, wSeqOf, wRng1, wRng2, wFor, wWhile, wYes, wComp, wEnum, wZip, wEnum2, wRgT, wRgL, wAug, dMulT, dMax, wMake, wFz, wCat, wRep, wipeE, D.ty, wIf_true, wIf_false, List.getElem?_cons_zero, List.getElem?_cons_succ, List.set_cons_zero, List.set_cons_succ, dI0_ii, dI_ii, dNeg_i, dGcd_ii, dAbs_i, dInt_i, dInt_b, dBits_i, dLen_t, dLen_l, dTuple_t, dTuple_l, dAdd_ii, dAdd_tt, dAdd_ll, dAdd_ss, dMul_ii, dMul_li, dIs_n, dIs_b, dIsN_n, dRepr_b, rt_0, rt_1, dEq, dNe, dSub, dDiv, dDivU, dMod, dLt, dLe, dGt, dGe, D.isNon, Bool.not_true, Bool.not_false])
    have e1 : cutD (row.map rt) none (some (k : Int)) = (row.take k).map rt := by rw [cut_to, List.map_take]
    have e2 : cutD (row.map rt) (some ((k : Int) + 1)) none = (row.drop (k + 1)).map rt := by
      rw [show ((k : Int) + 1) = ((k + 1 : Nat) : Int) by omega, cut_from, List.map_drop]
    rw [e1, e2]
    refine ⟨by simp; omega, by simp; omega, ?_⟩
    have e3 : (row.take k).map rt ++ [rt (row.getD k 0 - x)] ++ (row.drop (k + 1)).map rt = (row.set k (row.getD k 0 - x)).map rt := by
      rw [List.set_eq_take_append_cons_drop, if_pos hk1]
      simp
    rw [e3]
    have heN : He (row.set k (row.getD k 0 - x)) S.length := by
      refine ⟨by rw [List.length_set, rl], dr.m1, dr.m6, fun i => ?_, ?_⟩
      · rw [List.getD_eq_getElem?_getD]
        by_cases z : i = k
        · subst z
          rw [List.getElem?_set_self hk1]
          exact (rf40 i).sub hx
        · rw [List.getElem?_set_ne (fun e => z e.symm), ← List.getD_eq_getElem?_getD]
          exact (rf40 i).mono (by decide)
      · rw [List.getD_eq_getElem?_getD, List.getElem?_set_ne (by omega), ← List.getD_eq_getElem?_getD, rt1]
        exact hy
    generalize row.set k (row.getD k 0 - x) = near at heN
    simp only [forL, setTg, List.set_cons_zero, List.set_cons_succ]
    refine body_ok dr heR (by omega) fun t7 t8 t9 t10 t11 t12 t13 => ?_
    refine body_ok dr heN (by omega) fun t7 t8 t9 t10 t11 t12 t13 => ?_
    (try simp only [wSeq, wSet, wSetO, wRet, wIfS, wFrz, wApp, wDrop, wNext, wBreak, wCont, wNever, wVar, wVarB, wC, wBin, wUn, wT, wAnd, wOr, wNot, wAndV, wOrV, wNotV, wIte, wNil, wCons, wTup, wCall, wListOf, wC2, wIsT, wIsC, wFld, wON, wOS, wSl, wV, wO, wSetIx, wPar, wSwap, wSeqOf, wRng1, wRng2, wFor, wWhile, wYes, wComp, wEnum, wZip, wEnum2, wRgT, wRgL, wAug, dMulT, dMax, wMake, wFz, wCat, wRep, wipeE, D.ty, wIf_true, wIf_false, List.getElem?_cons_zero, List.getElem?_cons_succ, List.set_cons_zero, List.set_cons_succ, dI0_ii, dI_ii, dNeg_i, dGcd_ii, dAbs_i, dInt_i, dInt_b, dBits_i, dLen_t, dLen_l, dTuple_t, dTuple_l, dAdd_ii, dAdd_tt, dAdd_ll, dAdd_ss, dMul_ii, dMul_li, dIs_n, dIs_b, dIsN_n, dRepr_b, rt_0, rt_1, dEq, dNe, dSub, dDiv, dDivU, dMod, dLt, dLe, dGt, dGe, D.isNon, Bool.not_true, Bool.not_false])
    exact q _ (by omega)
end En.K71
namespace En.K71
open PySem PySem.Spec PyProof.Rows L2 En
theorem un64 {k : Nat} {A : Around} (r : Room k A) : A.units + 64 < cLine := by have := r.un; omega
def topS (i : Nat) : Stmt := PySem.Challenge.pw_everyminor_k71_zeros_to_the_left_judged.main.body.getD i (.Pass ⟨0, 0, 0, 0⟩)
/-- the module's def x -/
structure Dd (K : PySem.W.Frag) (mg : Str → Option Value) (x : Str) (st : Stmt) (ps : List Str) : Prop where
  ex : ∃ (f : Addr) (fd : FuncData), mg x = some (.ref f) ∧ Fun K x x st f fd ∧ Binds K fd ps []
/-- what the module's names hold -/
structure TB (K : PySem.W.Frag) (mg : Str → Option Value) : Prop where
  b_isinstance : mg "isinstance" = none
  b_int : mg "int" = none
  b_bool : mg "bool" = none
  b_tuple : mg "tuple" = none
  b_list : mg "list" = none
  b_len : mg "len" = none
  b_abs : mg "abs" = none
  b_range : mg "range" = none
  b_zip : mg "zip" = none
  b_enumerate : mg "enumerate" = none
  b_all : mg "all" = none
  b_any : mg "any" = none
  b_repr : mg "repr" = none
  b_max : mg "max" = none
  b_gcd : mg "gcd" = some (.builtin "math.gcd")
  v_NONE : ∃ (v : V) (u : Value), mg "NONE" = some u ∧ RelV v u ∧ ∀ (pa : Addr) (B : Addr → Prop) (H : Hp), FR K mg pa B H v kNONE
  v_ONE : ∃ (v : V) (u : Value), mg "ONE" = some u ∧ RelV v u ∧ ∀ (pa : Addr) (B : Addr → Prop) (H : Hp), FR K mg pa B H v kONE
  v_MOST_ITEMS : ∃ (v : V) (u : Value), mg "MOST_ITEMS" = some u ∧ RelV v u ∧ ∀ (pa : Addr) (B : Addr → Prop) (H : Hp), FR K mg pa B H v kMOST_ITEMS
  v_MOST_DEGREE : ∃ (v : V) (u : Value), mg "MOST_DEGREE" = some u ∧ RelV v u ∧ ∀ (pa : Addr) (B : Addr → Prop) (H : Hp), FR K mg pa B H v kMOST_DEGREE
section
variable {X : Cx} {pos : Pos}
theorem TB.c_NONE (T : TB X.K X.mg) (hg : Gl X "NONE") : QE X (.Name "NONE" pos) (wC kNONE) := by
  obtain ⟨v, u, h1, h2, h3⟩ := T.v_NONE
  exact qe_glob hg h1 h2 h3
theorem TB.c_ONE (T : TB X.K X.mg) (hg : Gl X "ONE") : QE X (.Name "ONE" pos) (wC kONE) := by
  obtain ⟨v, u, h1, h2, h3⟩ := T.v_ONE
  exact qe_glob hg h1 h2 h3
theorem TB.c_MOST_ITEMS (T : TB X.K X.mg) (hg : Gl X "MOST_ITEMS") : QE X (.Name "MOST_ITEMS" pos) (wC kMOST_ITEMS) := by
  obtain ⟨v, u, h1, h2, h3⟩ := T.v_MOST_ITEMS
  exact qe_glob hg h1 h2 h3
theorem TB.c_MOST_DEGREE (T : TB X.K X.mg) (hg : Gl X "MOST_DEGREE") : QE X (.Name "MOST_DEGREE" pos) (wC kMOST_DEGREE) := by
  obtain ⟨v, u, h1, h2, h3⟩ := T.v_MOST_DEGREE
  exact qe_glob hg h1 h2 h3
end
section
variable {P : Program} {w : World} {K : PySem.W.Frag} {mg : Str → Option Value} {base : Heap}
theorem d_is_whole (T : TB K mg) (Z : TZ P base)  (h : Dd K mg "is_whole" (topS 5) ["value"]) : Df P w K mg base 1 "is_whole" 1 p_is_whole := by
  obtain ⟨f, fd, hm, F, bd⟩ := h.ex
  have nd : (["value"] : List Str).Nodup := by decide
  exact df_of (N := ["value"]) (ps := ["value"]) (W := W_is_whole) F ⟨rfl, rfl, rfl, by decide +kernel, rfl, by decide +kernel, by decide +kernel⟩ hm bd
    (fun cdv A outer s H E hr => (qss_one (qs_ret (qe_and (qe_isT (by rfl) T.b_isinstance (by rfl) T.b_int (by decide +kernel) is_int (qb_var 0)) (qe_one (qe_not (qe_isT (by rfl) T.b_isinstance (by rfl) T.b_bool (by decide +kernel) is_bool (qb_var 0))))))))
    hp_is_whole
theorem d_is_tuple_of (T : TB K mg) (Z : TZ P base)  (h : Dd K mg "is_tuple_of" (topS 7) ["value", "many"]) : Df P w K mg base 1 "is_tuple_of" 2 p_is_tuple_of := by
  obtain ⟨f, fd, hm, F, bd⟩ := h.ex
  have nd : (["value", "many"] : List Str).Nodup := by decide
  exact df_of (N := ["value", "many"]) (ps := ["value", "many"]) (W := W_is_tuple_of) F ⟨rfl, rfl, rfl, by decide +kernel, rfl, by decide +kernel, by decide +kernel⟩ hm bd
    (fun cdv A outer s H E hr => (qss_one (qs_ret (qe_and (qe_isT (by rfl) T.b_isinstance (by rfl) T.b_tuple (by decide +kernel) is_tuple (qb_var 0)) (qe_one (qe_eq (un64 hr) (qe_len (by rfl) T.b_len (qb_var 0)).b (qb_var 1)))))))
    hp_is_tuple_of
theorem d_copied (T : TB K mg) (Z : TZ P base)  (h : Dd K mg "copied" (topS 8) ["value"]) : Df P w K mg base 1 "copied" 1 p_copied := by
  obtain ⟨f, fd, hm, F, bd⟩ := h.ex
  have nd : (["value"] : List Str).Nodup := by decide
  exact df_of (N := ["value"]) (ps := ["value"]) (W := W_copied) F ⟨rfl, rfl, rfl, by decide +kernel, rfl, by decide +kernel, by decide +kernel⟩ hm bd
    (fun cdv A outer s H E hr => (qss_one (qs_ret (qe_ite (qt_val (qe_isT (by rfl) T.b_isinstance (by rfl) T.b_list (by decide +kernel) is_list (qb_var 0))) (qe_tuple (by rfl) T.b_tuple (qb_var 0)) (qe_var 0)))))
    hp_copied
theorem d_is_pair (T : TB K mg) (Z : TZ P base) (D_is_whole : Df P w K mg base 1 "is_whole" 1 p_is_whole) (h : Dd K mg "is_pair" (topS 10) ["value"]) : Df P w K mg base 2 "is_pair" 1 p_is_pair := by
  obtain ⟨f, fd, hm, F, bd⟩ := h.ex
  have nd : (["value"] : List Str).Nodup := by decide
  exact df_of (N := ["value"]) (ps := ["value"]) (W := W_is_pair) F ⟨rfl, rfl, rfl, by decide +kernel, rfl, by decide +kernel, by decide +kernel⟩ hm bd
    (fun cdv A outer s H E hr => (qss_cons (qs_if (qt_of (qw_or (qt_not (qt_val (qe_isT2 (by rfl) T.b_isinstance (by rfl) T.b_tuple (by decide +kernel) (by rfl) T.b_list (by decide +kernel) is_tuple_list (qb_var 0)))) (qw_or1 (qt_ne (un64 hr) (qe_len (by rfl) T.b_len (qb_var 0)).b qe_int.b)))) (qss_one (qs_ret qe_bl)) qss_nil) (qss_one (qs_ret (qe_and (qe_call D_is_whole (hr.mono (by decide)) (by rfl) (qa_cons (qe_ix (qb_var 0) qe_int.b) qa_nil)) (qe_and (qe_call D_is_whole (hr.mono (by decide)) (by rfl) (qa_cons (qe_ix (qb_var 0) qe_int.b) qa_nil)) (qe_one (qe_gt (qe_ix (qb_var 0) qe_int.b).b qe_int.b))))))))
    hp_is_pair
theorem d_lowest (T : TB K mg) (Z : TZ P base)  (h : Dd K mg "lowest" (topS 11) ["top", "bottom"]) : Df P w K mg base 33 "lowest" 2 p_lowest := by
  obtain ⟨f, fd, hm, F, bd⟩ := h.ex
  have nd : (["top", "bottom", "by"] : List Str).Nodup := by decide
  exact df_of (N := ["top", "bottom", "by"]) (ps := ["top", "bottom"]) (W := W_lowest) F ⟨rfl, rfl, rfl, by decide +kernel, rfl, by decide +kernel, by decide +kernel⟩ hm bd
    (fun cdv A outer s H E hr => (qss_cons (qs_set 2 nd rfl (by first | exact .inl rfl | exact .inr rfl) (qe_ite (qt_gt (qb_var 1) qe_int.b) (qe_gcd (by rfl) T.b_gcd (qa_cons (qe_var 0) (qa_cons (qe_var 1) qa_nil))) (qe_neg (qe_gcd (by rfl) T.b_gcd (qa_cons (qe_var 0) (qa_cons (qe_var 1) qa_nil))).b))) (qss_one (qs_ret (qe_tup (qa_cons (qe_divU (seer_of Z hr (by decide) rfl rfl) (qb_var 0) (qb_var 2)) (qa_cons (qe_divU (seer_of Z hr (by decide) rfl rfl) (qb_var 1) (qb_var 2)) qa_nil)))))))
    hp_lowest
theorem d_is_told (T : TB K mg) (Z : TZ P base) (D_is_pair : Df P w K mg base 2 "is_pair" 1 p_is_pair) (h : Dd K mg "is_told" (topS 12) ["value"]) : Df P w K mg base 3 "is_told" 1 p_is_told := by
  obtain ⟨f, fd, hm, F, bd⟩ := h.ex
  have nd : (["value"] : List Str).Nodup := by decide
  exact df_of (N := ["value"]) (ps := ["value"]) (W := W_is_told) F ⟨rfl, rfl, rfl, by decide +kernel, rfl, by decide +kernel, by decide +kernel⟩ hm bd
    (fun cdv A outer s H E hr => (qss_one (qs_ret (qe_and (qe_isT (by rfl) T.b_isinstance (by rfl) T.b_tuple (by decide +kernel) is_tuple (qb_var 0)) (qe_and (qe_call D_is_pair (hr.mono (by decide)) (by rfl) (qa_cons (qe_var 0) qa_nil)) (qe_one (qe_eq (un64 hr) (qe_gcd (by rfl) T.b_gcd (qa_cons (qe_ix (qb_var 0) qe_int.b) (qa_cons (qe_ix (qb_var 0) qe_int.b) qa_nil))).b qe_int.b)))))))
    hp_is_told
theorem d_summed (T : TB K mg) (Z : TZ P base) (D_lowest : Df P w K mg base 33 "lowest" 2 p_lowest) (h : Dd K mg "summed" (topS 13) ["one", "other"]) : Df P w K mg base 34 "summed" 2 p_summed := by
  obtain ⟨f, fd, hm, F, bd⟩ := h.ex
  have nd : (["one", "other"] : List Str).Nodup := by decide
  exact df_of (N := ["one", "other"]) (ps := ["one", "other"]) (W := W_summed) F ⟨rfl, rfl, rfl, by decide +kernel, rfl, by decide +kernel, by decide +kernel⟩ hm bd
    (fun cdv A outer s H E hr => (qss_one (qs_ret (qe_call D_lowest (hr.mono (by decide)) (by rfl) (qa_cons (qe_add (qe_mul (qe_ix (qb_var 0) qe_int.b).b (qe_ix (qb_var 1) qe_int.b).b).b (qe_mul (qe_ix (qb_var 1) qe_int.b).b (qe_ix (qb_var 0) qe_int.b).b).b) (qa_cons (qe_mul (qe_ix (qb_var 0) qe_int.b).b (qe_ix (qb_var 1) qe_int.b).b) qa_nil))))))
    hp_summed
theorem d_lessened (T : TB K mg) (Z : TZ P base) (D_lowest : Df P w K mg base 33 "lowest" 2 p_lowest) (h : Dd K mg "lessened" (topS 14) ["one", "other"]) : Df P w K mg base 34 "lessened" 2 p_lessened := by
  obtain ⟨f, fd, hm, F, bd⟩ := h.ex
  have nd : (["one", "other"] : List Str).Nodup := by decide
  exact df_of (N := ["one", "other"]) (ps := ["one", "other"]) (W := W_lessened) F ⟨rfl, rfl, rfl, by decide +kernel, rfl, by decide +kernel, by decide +kernel⟩ hm bd
    (fun cdv A outer s H E hr => (qss_one (qs_ret (qe_call D_lowest (hr.mono (by decide)) (by rfl) (qa_cons (qe_sub (qe_mul (qe_ix (qb_var 0) qe_int.b).b (qe_ix (qb_var 1) qe_int.b).b).b (qe_mul (qe_ix (qb_var 1) qe_int.b).b (qe_ix (qb_var 0) qe_int.b).b).b) (qa_cons (qe_mul (qe_ix (qb_var 0) qe_int.b).b (qe_ix (qb_var 1) qe_int.b).b) qa_nil))))))
    hp_lessened
theorem d_scaled (T : TB K mg) (Z : TZ P base) (D_lowest : Df P w K mg base 33 "lowest" 2 p_lowest) (h : Dd K mg "scaled" (topS 15) ["one", "other"]) : Df P w K mg base 34 "scaled" 2 p_scaled := by
  obtain ⟨f, fd, hm, F, bd⟩ := h.ex
  have nd : (["one", "other"] : List Str).Nodup := by decide
  exact df_of (N := ["one", "other"]) (ps := ["one", "other"]) (W := W_scaled) F ⟨rfl, rfl, rfl, by decide +kernel, rfl, by decide +kernel, by decide +kernel⟩ hm bd
    (fun cdv A outer s H E hr => (qss_one (qs_ret (qe_call D_lowest (hr.mono (by decide)) (by rfl) (qa_cons (qe_mul (qe_ix (qb_var 0) qe_int.b).b (qe_ix (qb_var 1) qe_int.b).b) (qa_cons (qe_mul (qe_ix (qb_var 0) qe_int.b).b (qe_ix (qb_var 1) qe_int.b).b) qa_nil))))))
    hp_scaled
theorem d_parted (T : TB K mg) (Z : TZ P base) (D_lowest : Df P w K mg base 33 "lowest" 2 p_lowest) (h : Dd K mg "parted" (topS 16) ["one", "other"]) : Df P w K mg base 34 "parted" 2 p_parted := by
  obtain ⟨f, fd, hm, F, bd⟩ := h.ex
  have nd : (["one", "other"] : List Str).Nodup := by decide
  exact df_of (N := ["one", "other"]) (ps := ["one", "other"]) (W := W_parted) F ⟨rfl, rfl, rfl, by decide +kernel, rfl, by decide +kernel, by decide +kernel⟩ hm bd
    (fun cdv A outer s H E hr => (qss_one (qs_ret (qe_call D_lowest (hr.mono (by decide)) (by rfl) (qa_cons (qe_mul (qe_ix (qb_var 0) qe_int.b).b (qe_ix (qb_var 1) qe_int.b).b) (qa_cons (qe_mul (qe_ix (qb_var 0) qe_int.b).b (qe_ix (qb_var 1) qe_int.b).b) qa_nil))))))
    hp_parted
theorem d_turned_sign (T : TB K mg) (Z : TZ P base)  (h : Dd K mg "turned_sign" (topS 17) ["one"]) : Df P w K mg base 1 "turned_sign" 1 p_turned_sign := by
  obtain ⟨f, fd, hm, F, bd⟩ := h.ex
  have nd : (["one"] : List Str).Nodup := by decide
  exact df_of (N := ["one"]) (ps := ["one"]) (W := W_turned_sign) F ⟨rfl, rfl, rfl, by decide +kernel, rfl, by decide +kernel, by decide +kernel⟩ hm bd
    (fun cdv A outer s H E hr => (qss_one (qs_ret (qe_tup (qa_cons (qe_neg (qe_ix (qb_var 0) qe_int.b).b) (qa_cons (qe_ix (qb_var 0) qe_int.b) qa_nil))))))
    hp_turned_sign
theorem d_is_loose (T : TB K mg) (Z : TZ P base) (D_is_whole : Df P w K mg base 1 "is_whole" 1 p_is_whole) (D_is_pair : Df P w K mg base 2 "is_pair" 1 p_is_pair) (h : Dd K mg "is_loose" (topS 21) ["value"]) : Df P w K mg base 3 "is_loose" 1 p_is_loose := by
  obtain ⟨f, fd, hm, F, bd⟩ := h.ex
  have nd : (["value"] : List Str).Nodup := by decide
  exact df_of (N := ["value"]) (ps := ["value"]) (W := W_is_loose) F ⟨rfl, rfl, rfl, by decide +kernel, rfl, by decide +kernel, by decide +kernel⟩ hm bd
    (fun cdv A outer s H E hr => (qss_one (qs_ret (qe_or (qe_call D_is_whole (hr.mono (by decide)) (by rfl) (qa_cons (qe_var 0) qa_nil)) (qe_one (qe_and (qe_isT (by rfl) T.b_isinstance (by rfl) T.b_tuple (by decide +kernel) is_tuple (qb_var 0)) (qe_one (qe_call D_is_pair (hr.mono (by decide)) (by rfl) (qa_cons (qe_var 0) qa_nil)))))))))
    hp_is_loose
theorem d_told_ratio (T : TB K mg) (Z : TZ P base) (D_is_whole : Df P w K mg base 1 "is_whole" 1 p_is_whole) (D_lowest : Df P w K mg base 33 "lowest" 2 p_lowest) (h : Dd K mg "told_ratio" (topS 22) ["value"]) : Df P w K mg base 34 "told_ratio" 1 p_told_ratio := by
  obtain ⟨f, fd, hm, F, bd⟩ := h.ex
  have nd : (["value"] : List Str).Nodup := by decide
  exact df_of (N := ["value"]) (ps := ["value"]) (W := W_told_ratio) F ⟨rfl, rfl, rfl, by decide +kernel, rfl, by decide +kernel, by decide +kernel⟩ hm bd
    (fun cdv A outer s H E hr => (qss_one (qs_ret (qe_ite (qt_val (qe_call D_is_whole (hr.mono (by decide)) (by rfl) (qa_cons (qe_var 0) qa_nil))) (qe_tup (qa_cons (qe_var 0) (qa_cons qe_int qa_nil))) (qe_call D_lowest (hr.mono (by decide)) (by rfl) (qa_cons (qe_ix (qb_var 0) qe_int.b) (qa_cons (qe_ix (qb_var 0) qe_int.b) qa_nil)))))))
    hp_told_ratio
theorem d_loose_row (T : TB K mg) (Z : TZ P base) (D_is_loose : Df P w K mg base 3 "is_loose" 1 p_is_loose) (D_told_ratio : Df P w K mg base 34 "told_ratio" 1 p_told_ratio) (h : Dd K mg "loose_row" (topS 23) ["value"]) : Df P w K mg base 35 "loose_row" 1 p_loose_row := by
  obtain ⟨f, fd, hm, F, bd⟩ := h.ex
  have nd : (["value", "item"] : List Str).Nodup := by decide
  exact df_of (N := ["value", "item"]) (ps := ["value"]) (W := W_loose_row) F ⟨rfl, rfl, rfl, by decide +kernel, rfl, by decide +kernel, by decide +kernel⟩ hm bd
    (fun cdv A outer s H E hr => (qss_cons (qs_if (qt_of (qw_or (qt_not (qt_val (qe_isT (by rfl) T.b_isinstance (by rfl) T.b_tuple (by decide +kernel) is_tuple (qb_var 0)))) (qw_or1 (qt_not (qt_val (qe_all rfl (by rfl) T.b_all (qf_comp (own := [("item", 1)]) (T := (.one 1)) rfl nd (qi_seq (qe_var 0)) (blkOk_by (by kernel_rfl)) (by decide) (hg_name 1 nd rfl) (fun _ _ _ _ _ => qts_nil) (fun _ _ _ _ _ => (qe_call D_is_loose (hr.mono (by decide)) (by rfl) (qa_cons (qe_var 1) qa_nil)))).qe.b)))))) (qss_one (qs_ret qe_non)) qss_nil) (qss_one (qs_ret (qe_tuple (by rfl) T.b_tuple (qf_comp (own := [("item", 1)]) (T := (.one 1)) rfl nd (qi_seq (qe_var 0)) (blkOk_by (by kernel_rfl)) (by decide) (hg_name 1 nd rfl) (fun _ _ _ _ _ => qts_nil) (fun _ _ _ _ _ => (qe_call D_told_ratio (hr.mono (by decide)) (by rfl) (qa_cons (qe_var 1) qa_nil)))).qe.b)))))
    hp_loose_row
theorem d_is_ratio_row (T : TB K mg) (Z : TZ P base) (D_is_tuple_of : Df P w K mg base 1 "is_tuple_of" 2 p_is_tuple_of) (D_is_told : Df P w K mg base 3 "is_told" 1 p_is_told) (h : Dd K mg "is_ratio_row" (topS 24) ["many", "value"]) : Df P w K mg base 4 "is_ratio_row" 2 p_is_ratio_row := by
  obtain ⟨f, fd, hm, F, bd⟩ := h.ex
  have nd : (["many", "value", "item"] : List Str).Nodup := by decide
  exact df_of (N := ["many", "value", "item"]) (ps := ["many", "value"]) (W := W_is_ratio_row) F ⟨rfl, rfl, rfl, by decide +kernel, rfl, by decide +kernel, by decide +kernel⟩ hm bd
    (fun cdv A outer s H E hr => (qss_one (qs_ret (qe_and (qe_call D_is_tuple_of (hr.mono (by decide)) (by rfl) (qa_cons (qe_var 1) (qa_cons (qe_var 0) qa_nil))) (qe_one (qe_all rfl (by rfl) T.b_all (qf_comp (own := [("item", 2)]) (T := (.one 2)) rfl nd (qi_seq (qe_var 1)) (blkOk_by (by kernel_rfl)) (by decide) (hg_name 2 nd rfl) (fun _ _ _ _ _ => qts_nil) (fun _ _ _ _ _ => (qe_call D_is_told (hr.mono (by decide)) (by rfl) (qa_cons (qe_var 2) qa_nil)))).qe.b))))))
    hp_is_ratio_row
theorem d_less_row (T : TB K mg) (Z : TZ P base) (D_lessened : Df P w K mg base 34 "lessened" 2 p_lessened) (D_scaled : Df P w K mg base 34 "scaled" 2 p_scaled) (h : Dd K mg "less_row" (topS 25) ["row", "other", "by"]) : Df P w K mg base 35 "less_row" 3 p_less_row := by
  obtain ⟨f, fd, hm, F, bd⟩ := h.ex
  have nd : (["row", "other", "by", "a", "b"] : List Str).Nodup := by decide
  exact df_of (N := ["row", "other", "by", "a", "b"]) (ps := ["row", "other", "by"]) (W := W_less_row) F ⟨rfl, rfl, rfl, by decide +kernel, rfl, by decide +kernel, by decide +kernel⟩ hm bd
    (fun cdv A outer s H E hr => (qss_cons (qs_if (qt_eq (un64 hr) (qb_var 2) (T.c_NONE (by rfl)).b) (qss_one (qs_ret (qf_list (by rfl) T.b_list (qb_var 0)).qe)) qss_nil) (qss_one (qs_ret (qf_comp (own := [("a", 3), ("b", 4)]) (T := (.tup [3, 4])) rfl nd (qi_zip (by rfl) T.b_zip (qa_cons (qe_var 0) (qa_cons (qe_var 1) qa_nil))) (blkOk_by (by kernel_rfl)) (by decide) (hg_pair 3 4 rfl nd rfl rfl) (fun _ _ _ _ _ => qts_nil) (fun _ _ _ _ _ => (qe_call D_lessened (hr.mono (by decide)) (by rfl) (qa_cons (qe_var 3) (qa_cons (qe_call D_scaled (hr.mono (by decide)) (by rfl) (qa_cons (qe_var 2) (qa_cons (qe_var 4) qa_nil))) qa_nil))))).qe))))
    hp_less_row
theorem d_determinant_by (T : TB K mg) (Z : TZ P base) (D_turned_sign : Df P w K mg base 1 "turned_sign" 1 p_turned_sign) (D_scaled : Df P w K mg base 34 "scaled" 2 p_scaled) (D_less_row : Df P w K mg base 35 "less_row" 3 p_less_row) (D_parted : Df P w K mg base 34 "parted" 2 p_parted) (h : Dd K mg "determinant_by" (topS 26) ["table"]) : Df P w K mg base 36 "determinant_by" 1 p_determinant_by := by
  obtain ⟨f, fd, hm, F, bd⟩ := h.ex
  have nd : (["table", "rows", "out", "k", "heads", "i", "row"] : List Str).Nodup := by decide
  exact df_of (N := ["table", "rows", "out", "k", "heads", "i", "row"]) (ps := ["table"]) (W := W_determinant_by) F ⟨rfl, rfl, rfl, by decide +kernel, rfl, by decide +kernel, by decide +kernel⟩ hm bd
    (fun cdv A outer s H E hr => (qss_cons (qs_parT 1 2 rfl nd rfl rfl (by decide) (by first | exact .inl rfl | exact .inr rfl) (by first | exact .inl rfl | exact .inr rfl) (qf_comp (own := [("row", 6)]) (T := (.one 6)) rfl nd (qi_seq (qe_var 0)) (blkOk_by (by kernel_rfl)) (by decide) (hg_name 6 nd rfl) (fun _ _ _ _ _ => qts_nil) (fun _ _ _ _ _ => (qf_list (by rfl) T.b_list (qb_var 6)).qe)).v (T.c_ONE (by rfl)).v) (qss_cons (qs_for PassesOwn.never rfl (qi_range1 (by rfl) T.b_range (qa_cons (qe_len (by rfl) T.b_len (qb_var 1)) qa_nil)) (qg_name 3 nd rfl (by first | exact .inl rfl | exact .inr rfl)) (qss_cons (qs_setComp 4 (own := [("i", 5)]) (T := (.one 5)) rfl nd rfl rfl (sw_true rfl rfl rfl (by decide +kernel)) (qi_range2 (by rfl) T.b_range (qa_cons (qe_var 3) (qa_cons (qe_len (by rfl) T.b_len (qb_var 1)) qa_nil))) (blkOk_by (by kernel_rfl)) (by decide) (hg_name 5 nd rfl) (fun _ _ _ _ _ => (qts_one (qt_ne (un64 hr) (qe_ix (qe_ix (qb_var 1) (qb_var 5)).b (qb_var 3)).b (T.c_NONE (by rfl)).b))) (fun _ _ _ _ _ => (qe_var 5))) (qss_frz 4 (qss_cons (qs_if (qt_eq (un64 hr) (qe_len (by rfl) T.b_len (qb_var 4)).b qe_int.b) (qss_one (qs_ret (T.c_NONE (by rfl)))) qss_nil) (qss_cons (qs_if (qt_ne (un64 hr) (qe_ix (qb_var 4) qe_int.b).b (qb_var 3)) (qss_cons (qs_swap 1 rfl rfl (by first | exact .inl rfl | exact .inr (.inl rfl)) (qe_ix (qb_var 1) (qe_ix (qb_var 4) qe_int.b).b) (qe_ix (qb_var 1) (qb_var 3)) (qe_var 3) (qe_ix (qb_var 4) qe_int.b)) (qss_one (qs_set 2 nd rfl (by first | exact .inl rfl | exact .inr rfl) (qe_call D_turned_sign (hr.mono (by decide)) (by rfl) (qa_cons (qe_var 2) qa_nil))))) qss_nil) (qss_cons (qs_set 2 nd rfl (by first | exact .inl rfl | exact .inr rfl) (qe_call D_scaled (hr.mono (by decide)) (by rfl) (qa_cons (qe_var 2) (qa_cons (qe_ix (qe_ix (qb_var 1) (qb_var 3)).b (qb_var 3)) qa_nil)))) (qss_one (qs_for PassesOwn.never rfl (qi_range2 (by rfl) T.b_range (qa_cons (qe_add (qb_var 3) qe_int.b) (qa_cons (qe_len (by rfl) T.b_len (qb_var 1)) qa_nil))) (qg_name 5 nd rfl (by first | exact .inl rfl | exact .inr rfl)) (qss_one (qs_setix 1 rfl (by first | exact .inl rfl | exact .inr (.inl rfl)) (qe_call D_less_row (hr.mono (by decide)) (by rfl) (qa_cons (qe_ix (qb_var 1) (qb_var 5)) (qa_cons (qe_ix (qb_var 1) (qb_var 3)) (qa_cons (qe_call D_parted (hr.mono (by decide)) (by rfl) (qa_cons (qe_ix (qe_ix (qb_var 1) (qb_var 5)).b (qb_var 3)) (qa_cons (qe_ix (qe_ix (qb_var 1) (qb_var 3)).b (qb_var 3)) qa_nil))) qa_nil)))) (qe_var 5))))))))))) (qss_one (qs_ret (qe_var 2))))))
    hp_determinant_by
theorem d_corner_by (T : TB K mg) (Z : TZ P base)  (h : Dd K mg "corner_by" (topS 27) ["table", "rows", "columns"]) : Df P w K mg base 1 "corner_by" 3 p_corner_by := by
  obtain ⟨f, fd, hm, F, bd⟩ := h.ex
  have nd : (["table", "rows", "columns", "i", "j"] : List Str).Nodup := by decide
  exact df_of (N := ["table", "rows", "columns", "i", "j"]) (ps := ["table", "rows", "columns"]) (W := W_corner_by) F ⟨rfl, rfl, rfl, by decide +kernel, rfl, by decide +kernel, by decide +kernel⟩ hm bd
    (fun cdv A outer s H E hr => (qss_one (qs_ret (qe_tuple (by rfl) T.b_tuple (qf_comp (own := [("i", 3)]) (T := (.one 3)) rfl nd (qi_seq (qe_var 1)) (blkOk_by (by kernel_rfl)) (by decide) (hg_name 3 nd rfl) (fun _ _ _ _ _ => qts_nil) (fun _ _ _ _ _ => (qe_tuple (by rfl) T.b_tuple (qf_comp (own := [("j", 4)]) (T := (.one 4)) rfl nd (qi_seq (qe_var 2)) (blkOk_by (by kernel_rfl)) (by decide) (hg_name 4 nd rfl) (fun _ _ _ _ _ => qts_nil) (fun _ _ _ _ _ => (qe_ix (qe_ix (qb_var 0) (qb_var 3)).b (qb_var 4)))).qe.b))).qe.b))))
    hp_corner_by
theorem d_poly_from (T : TB K mg) (Z : TZ P base) (D_loose_row : Df P w K mg base 35 "loose_row" 1 p_loose_row) (D_in_tuples : Df P w K mg base 11 "in_tuples" 1 p_in_tuples) (h : Dd K mg "poly_from" (topS 30) ["polynomial", "least"]) : Df P w K mg base 36 "poly_from" 2 p_poly_from := by
  obtain ⟨f, fd, hm, F, bd⟩ := h.ex
  have nd : (["polynomial", "least", "made"] : List Str).Nodup := by decide
  exact df_of (N := ["polynomial", "least", "made"]) (ps := ["polynomial", "least"]) (W := W_poly_from) F ⟨rfl, rfl, rfl, by decide +kernel, rfl, by decide +kernel, by decide +kernel⟩ hm bd
    (fun cdv A outer s H E hr => (qss_cons (qs_set 2 nd rfl (by first | exact .inl rfl | exact .inr rfl) (qe_call D_loose_row (hr.mono (by decide)) (by rfl) (qa_cons (qe_call D_in_tuples (hr.mono (by decide)) (by rfl) (qa_cons (qe_var 0) qa_nil)) qa_nil))) (qss_cons (qs_if (qt_of (qw_or (qt_is (qb_var 2) qe_non.b) (qw_or (qt_not (qt_chain op_le op_le ok_le ok_le (qe_add (qb_var 1) qe_int.b).b (qe_len (by rfl) T.b_len (qb_var 2)).b (T.c_MOST_ITEMS (by rfl)).b)) (qw_or1 (qt_eq (un64 hr) (qe_ix (qb_var 2) (qe_neg qe_int.b).b).b (T.c_NONE (by rfl)).b))))) (qss_one qs_never) qss_nil) (qss_one (qs_ret (qe_var 2))))))
    hp_poly_from
theorem d_trimmed (T : TB K mg) (Z : TZ P base)  (h : Dd K mg "trimmed" (topS 31) ["row"]) : Df P w K mg base 1 "trimmed" 1 p_trimmed := by
  obtain ⟨f, fd, hm, F, bd⟩ := h.ex
  have nd : (["row", "many"] : List Str).Nodup := by decide
  exact df_of (N := ["row", "many"]) (ps := ["row"]) (W := W_trimmed) F ⟨rfl, rfl, rfl, by decide +kernel, rfl, by decide +kernel, by decide +kernel⟩ hm bd
    (fun cdv A outer s H E hr => (qss_cons (qs_set 1 nd rfl (by first | exact .inl rfl | exact .inr rfl) (qe_len (by rfl) T.b_len (qb_var 0))) (qss_cons (qs_while PassesOwn.never (qt_of (qw_and (qt_gt (qb_var 1) qe_int.b) (qw_and1 (qt_eq (un64 hr) (qe_ix (qb_var 0) (qe_sub (qb_var 1) qe_int.b).b).b (T.c_NONE (by rfl)).b)))) (qss_one (qs_aug 1 ip_sub nd rfl (by first | exact .inl rfl | exact .inr rfl) qe_int))) (qss_one (qs_ret (qe_tuple (by rfl) T.b_tuple (qe_sl (qb_var 0) qo_n (qo_s (qe_var 1))).b))))))
    hp_trimmed
theorem d_poly_less (T : TB K mg) (Z : TZ P base) (D_trimmed : Df P w K mg base 1 "trimmed" 1 p_trimmed) (D_lessened : Df P w K mg base 34 "lessened" 2 p_lessened) (h : Dd K mg "poly_less" (topS 32) ["one", "other"]) : Df P w K mg base 35 "poly_less" 2 p_poly_less := by
  obtain ⟨f, fd, hm, F, bd⟩ := h.ex
  have nd : (["one", "other", "long", "first", "second", "a", "b"] : List Str).Nodup := by decide
  exact df_of (N := ["one", "other", "long", "first", "second", "a", "b"]) (ps := ["one", "other"]) (W := W_poly_less) F ⟨rfl, rfl, rfl, by decide +kernel, rfl, by decide +kernel, by decide +kernel⟩ hm bd
    (fun cdv A outer s H E hr => (qss_cons (qs_set 2 nd rfl (by first | exact .inl rfl | exact .inr rfl) (qe_max2 rfl (by rfl) T.b_max (qa_cons (qe_len (by rfl) T.b_len (qb_var 0)) (qa_cons (qe_len (by rfl) T.b_len (qb_var 1)) qa_nil)))) (qss_cons (qs_par 3 4 rfl nd rfl rfl (by decide) rfl rfl (qe_add (qe_tuple (by rfl) T.b_tuple (qb_var 0)).b (qe_mulT (qe_tup (qa_cons (T.c_NONE (by rfl)) qa_nil)).b (qe_sub (qb_var 2) (qe_len (by rfl) T.b_len (qb_var 0)).b).b).b).v (qe_add (qe_tuple (by rfl) T.b_tuple (qb_var 1)).b (qe_mulT (qe_tup (qa_cons (T.c_NONE (by rfl)) qa_nil)).b (qe_sub (qb_var 2) (qe_len (by rfl) T.b_len (qb_var 1)).b).b).b).v) (qss_one (qs_ret (qe_call D_trimmed (hr.mono (by decide)) (by rfl) (qa_cons (qf_comp (own := [("a", 5), ("b", 6)]) (T := (.tup [5, 6])) rfl nd (qi_zip (by rfl) T.b_zip (qa_cons (qe_var 3) (qa_cons (qe_var 4) qa_nil))) (blkOk_by (by kernel_rfl)) (by decide) (hg_pair 5 6 rfl nd rfl rfl) (fun _ _ _ _ _ => qts_nil) (fun _ _ _ _ _ => (qe_call D_lessened (hr.mono (by decide)) (by rfl) (qa_cons (qe_var 5) (qa_cons (qe_var 6) qa_nil))))).qe qa_nil)))))))
    hp_poly_less
theorem d_poly_times (T : TB K mg) (Z : TZ P base) (D_summed : Df P w K mg base 34 "summed" 2 p_summed) (D_scaled : Df P w K mg base 34 "scaled" 2 p_scaled) (D_trimmed : Df P w K mg base 1 "trimmed" 1 p_trimmed) (h : Dd K mg "poly_times" (topS 33) ["one", "other"]) : Df P w K mg base 35 "poly_times" 2 p_poly_times := by
  obtain ⟨f, fd, hm, F, bd⟩ := h.ex
  have nd : (["one", "other", "out", "i", "a", "j", "b"] : List Str).Nodup := by decide
  exact df_of (N := ["one", "other", "out", "i", "a", "j", "b"]) (ps := ["one", "other"]) (W := W_poly_times) F ⟨rfl, rfl, rfl, by decide +kernel, rfl, by decide +kernel, by decide +kernel⟩ hm bd
    (fun cdv A outer s H E hr => (qss_cons (qs_setF 2 nd rfl (by first | exact .inl rfl | exact .inr rfl) (qf_rep (qf_lst (qa_cons (T.c_NONE (by rfl)) qa_nil)).qe.b (qe_max2 rfl (by rfl) T.b_max (qa_cons (qe_sub (qe_add (qe_len (by rfl) T.b_len (qb_var 0)).b (qe_len (by rfl) T.b_len (qb_var 1)).b).b qe_int.b) (qa_cons qe_int qa_nil))).b)) (qss_cons (qs_for PassesOwn.never rfl (qi_enum2 (by rfl) T.b_enumerate (qa_cons (qe_var 0) qa_nil)) (qg_tup rfl (qgs_cons (qg_name 3 nd rfl (by first | exact .inl rfl | exact .inr rfl)) (qgs_cons (qg_name 4 nd rfl (by first | exact .inl rfl | exact .inr rfl)) qgs_nil))) (qss_one (qs_for PassesOwn.never rfl (qi_enum2 (by rfl) T.b_enumerate (qa_cons (qe_var 1) qa_nil)) (qg_tup rfl (qgs_cons (qg_name 5 nd rfl (by first | exact .inl rfl | exact .inr rfl)) (qgs_cons (qg_name 6 nd rfl (by first | exact .inl rfl | exact .inr rfl)) qgs_nil))) (qss_one (qs_setix 2 rfl (by first | exact .inl rfl | exact .inr (.inl rfl)) (qe_call D_summed (hr.mono (by decide)) (by rfl) (qa_cons (qe_ix (qb_var 2) (qe_add (qb_var 3) (qb_var 5)).b) (qa_cons (qe_call D_scaled (hr.mono (by decide)) (by rfl) (qa_cons (qe_var 4) (qa_cons (qe_var 6) qa_nil))) qa_nil))) (qe_add (qb_var 3) (qb_var 5))))))) (qss_frz 2 (qss_one (qs_ret (qe_call D_trimmed (hr.mono (by decide)) (by rfl) (qa_cons (qe_var 2) qa_nil))))))))
    hp_poly_times
theorem d_poly_by (T : TB K mg) (Z : TZ P base) (D_trimmed : Df P w K mg base 1 "trimmed" 1 p_trimmed) (D_scaled : Df P w K mg base 34 "scaled" 2 p_scaled) (h : Dd K mg "poly_by" (topS 34) ["row", "ratio"]) : Df P w K mg base 35 "poly_by" 2 p_poly_by := by
  obtain ⟨f, fd, hm, F, bd⟩ := h.ex
  have nd : (["row", "ratio", "item"] : List Str).Nodup := by decide
  exact df_of (N := ["row", "ratio", "item"]) (ps := ["row", "ratio"]) (W := W_poly_by) F ⟨rfl, rfl, rfl, by decide +kernel, rfl, by decide +kernel, by decide +kernel⟩ hm bd
    (fun cdv A outer s H E hr => (qss_one (qs_ret (qe_call D_trimmed (hr.mono (by decide)) (by rfl) (qa_cons (qf_comp (own := [("item", 2)]) (T := (.one 2)) rfl nd (qi_seq (qe_var 0)) (blkOk_by (by kernel_rfl)) (by decide) (hg_name 2 nd rfl) (fun _ _ _ _ _ => qts_nil) (fun _ _ _ _ _ => (qe_call D_scaled (hr.mono (by decide)) (by rfl) (qa_cons (qe_var 2) (qa_cons (qe_var 1) qa_nil))))).qe qa_nil)))))
    hp_poly_by
theorem d_lead_from (T : TB K mg) (Z : TZ P base) (D_poly_from : Df P w K mg base 36 "poly_from" 2 p_poly_from) (h : Dd K mg "lead_from" (topS 39) ["polynomial"]) : Df P w K mg base 37 "lead_from" 1 p_lead_from := by
  obtain ⟨f, fd, hm, F, bd⟩ := h.ex
  have nd : (["polynomial", "made"] : List Str).Nodup := by decide
  exact df_of (N := ["polynomial", "made"]) (ps := ["polynomial"]) (W := W_lead_from) F ⟨rfl, rfl, rfl, by decide +kernel, rfl, by decide +kernel, by decide +kernel⟩ hm bd
    (fun cdv A outer s H E hr => (qss_cons (qs_set 1 nd rfl (by first | exact .inl rfl | exact .inr rfl) (qe_call D_poly_from (hr.mono (by decide)) (by rfl) (qa_cons (qe_var 0) (qa_cons qe_int qa_nil)))) (qss_cons (qs_if (qt_of (qw_or (qt_gt (qe_len (by rfl) T.b_len (qb_var 1)).b (qe_add (T.c_MOST_DEGREE (by rfl)).b qe_int.b).b) (qw_or1 (qt_lt (qe_ix (qe_ix (qb_var 1) (qe_neg qe_int.b).b).b qe_int.b).b qe_int.b)))) (qss_one qs_never) qss_nil) (qss_one (qs_ret (qe_var 1))))))
    hp_lead_from
theorem d_hurwitz_by (T : TB K mg) (Z : TZ P base)  (h : Dd K mg "hurwitz_by" (topS 40) ["row"]) : Df P w K mg base 1 "hurwitz_by" 1 p_hurwitz_by := by
  obtain ⟨f, fd, hm, F, bd⟩ := h.ex
  have nd : (["row", "many", "out", "i", "places", "j", "place"] : List Str).Nodup := by decide
  exact df_of (N := ["row", "many", "out", "i", "places", "j", "place"]) (ps := ["row"]) (W := W_hurwitz_by) F ⟨rfl, rfl, rfl, by decide +kernel, rfl, by decide +kernel, by decide +kernel⟩ hm bd
    (fun cdv A outer s H E hr => (qss_cons (qs_parT 1 2 rfl nd rfl rfl (by decide) (by first | exact .inl rfl | exact .inr rfl) (by first | exact .inl rfl | exact .inr rfl) (qe_sub (qe_len (by rfl) T.b_len (qb_var 0)).b qe_int.b).v (qf_lst qa_nil).v) (qss_cons (qs_for PassesOwn.never rfl (qi_range1 (by rfl) T.b_range (qa_cons (qe_var 1) qa_nil)) (qg_name 3 nd rfl (by first | exact .inl rfl | exact .inr rfl)) (qss_cons (qs_setComp 4 (own := [("j", 5)]) (T := (.one 5)) rfl nd rfl rfl (sw_true rfl rfl rfl (by decide +kernel)) (qi_range1 (by rfl) T.b_range (qa_cons (qe_var 1) qa_nil)) (blkOk_by (by kernel_rfl)) (by decide) (hg_name 5 nd rfl) (fun _ _ _ _ _ => qts_nil) (fun _ _ _ _ _ => (qe_add (qe_sub (qe_sub (qb_var 1) qe_int.b).b (qe_mul qe_int.b (qb_var 5)).b).b (qb_var 3)))) (qss_frz 4 (qss_one (qs_app 2 rfl (by first | exact .inl rfl | exact .inr (.inl rfl)) (qe_tuple (by rfl) T.b_tuple (qf_comp (own := [("place", 6)]) (T := (.one 6)) rfl nd (qi_seq (qe_var 4)) (blkOk_by (by kernel_rfl)) (by decide) (hg_name 6 nd rfl) (fun _ _ _ _ _ => qts_nil) (fun _ _ _ _ _ => (qe_ite (qt_chain op_le op_le ok_le ok_le qe_int.b (qb_var 6) (qb_var 1)) (qe_ix (qb_var 0) (qb_var 6)) (T.c_NONE (by rfl))))).qe.b)))))) (qss_one (qs_ret (qe_tuple (by rfl) T.b_tuple (qb_var 2)))))))
    hp_hurwitz_by
theorem d_first_minor (T : TB K mg) (Z : TZ P base) (D_determinant_by : Df P w K mg base 36 "determinant_by" 1 p_determinant_by) (D_corner_by : Df P w K mg base 1 "corner_by" 3 p_corner_by) (h : Dd K mg "first_minor" (topS 41) ["table", "many"]) : Df P w K mg base 37 "first_minor" 2 p_first_minor := by
  obtain ⟨f, fd, hm, F, bd⟩ := h.ex
  have nd : (["table", "many", "lot"] : List Str).Nodup := by decide
  exact df_of (N := ["table", "many", "lot"]) (ps := ["table", "many"]) (W := W_first_minor) F ⟨rfl, rfl, rfl, by decide +kernel, rfl, by decide +kernel, by decide +kernel⟩ hm bd
    (fun cdv A outer s H E hr => (qss_cons (qs_set 2 nd rfl (by first | exact .inl rfl | exact .inr rfl) (qe_rgT rfl (by rfl) T.b_tuple (by rfl) T.b_range (qe_var 1))) (qss_one (qs_ret (qe_call D_determinant_by (hr.mono (by decide)) (by rfl) (qa_cons (qe_call D_corner_by (hr.mono (by decide)) (by rfl) (qa_cons (qe_var 0) (qa_cons (qe_var 2) (qa_cons (qe_var 2) qa_nil)))) qa_nil))))))
    hp_first_minor
theorem d_not_left (T : TB K mg) (Z : TZ P base) (D_hurwitz_by : Df P w K mg base 1 "hurwitz_by" 1 p_hurwitz_by) (D_first_minor : Df P w K mg base 37 "first_minor" 2 p_first_minor) (h : Dd K mg "not_left" (topS 42) ["row"]) : Df P w K mg base 38 "not_left" 1 p_not_left := by
  obtain ⟨f, fd, hm, F, bd⟩ := h.ex
  have nd : (["row", "table", "many"] : List Str).Nodup := by decide
  exact df_of (N := ["row", "table", "many"]) (ps := ["row"]) (W := W_not_left) F ⟨rfl, rfl, rfl, by decide +kernel, rfl, by decide +kernel, by decide +kernel⟩ hm bd
    (fun cdv A outer s H E hr => (qss_cons (qs_set 1 nd rfl (by first | exact .inl rfl | exact .inr rfl) (qe_call D_hurwitz_by (hr.mono (by decide)) (by rfl) (qa_cons (qe_var 0) qa_nil))) (qss_cons (qs_for PassesOwn.never rfl (qi_range2 (by rfl) T.b_range (qa_cons qe_int (qa_cons (qe_add (qe_len (by rfl) T.b_len (qb_var 1)).b qe_int.b) qa_nil))) (qg_name 2 nd rfl (by first | exact .inl rfl | exact .inr rfl)) (qss_one (qs_if (qt_le (qe_ix (qe_call D_first_minor (hr.mono (by decide)) (by rfl) (qa_cons (qe_var 1) (qa_cons (qe_var 2) qa_nil))).b qe_int.b).b qe_int.b) (qss_one (qs_ret (qe_var 2))) qss_nil))) (qss_one (qs_ret qe_non)))))
    hp_not_left
theorem d_same_parity (T : TB K mg) (Z : TZ P base) (D_trimmed : Df P w K mg base 1 "trimmed" 1 p_trimmed) (h : Dd K mg "same_parity" (topS 43) ["row", "parity"]) : Df P w K mg base 2 "same_parity" 2 p_same_parity := by
  obtain ⟨f, fd, hm, F, bd⟩ := h.ex
  have nd : (["row", "parity", "k", "item"] : List Str).Nodup := by decide
  exact df_of (N := ["row", "parity", "k", "item"]) (ps := ["row", "parity"]) (W := W_same_parity) F ⟨rfl, rfl, rfl, by decide +kernel, rfl, by decide +kernel, by decide +kernel⟩ hm bd
    (fun cdv A outer s H E hr => (qss_one (qs_ret (qe_call D_trimmed (hr.mono (by decide)) (by rfl) (qa_cons (qf_comp (own := [("k", 2), ("item", 3)]) (T := (.tup [2, 3])) rfl nd (qi_enum2 (by rfl) T.b_enumerate (qa_cons (qe_var 0) qa_nil)) (blkOk_by (by kernel_rfl)) (by decide) (hg_pair 2 3 rfl nd rfl rfl) (fun _ _ _ _ _ => qts_nil) (fun _ _ _ _ _ => (qe_ite (qt_eq (un64 hr) (qe_mod (qb_var 2) qe_int.b).b (qb_var 1)) (qe_var 3) (T.c_NONE (by rfl))))).qe qa_nil)))))
    hp_same_parity
theorem d_built_from (T : TB K mg) (Z : TZ P base) (D_poly_by : Df P w K mg base 35 "poly_by" 2 p_poly_by) (D_same_parity : Df P w K mg base 2 "same_parity" 2 p_same_parity) (D_parted : Df P w K mg base 34 "parted" 2 p_parted) (D_poly_less : Df P w K mg base 35 "poly_less" 2 p_poly_less) (D_poly_times : Df P w K mg base 35 "poly_times" 2 p_poly_times) (h : Dd K mg "built_from" (topS 44) ["row"]) : Df P w K mg base 36 "built_from" 1 p_built_from := by
  obtain ⟨f, fd, hm, F, bd⟩ := h.ex
  have nd : (["row", "many", "first", "second", "out", "lead", "plain"] : List Str).Nodup := by decide
  exact df_of (N := ["row", "many", "first", "second", "out", "lead", "plain"]) (ps := ["row"]) (W := W_built_from) F ⟨rfl, rfl, rfl, by decide +kernel, rfl, by decide +kernel, by decide +kernel⟩ hm bd
    (fun cdv A outer s H E hr => (qss_cons (qs_set 1 nd rfl (by first | exact .inl rfl | exact .inr rfl) (qe_sub (qe_len (by rfl) T.b_len (qb_var 0)).b qe_int.b)) (qss_cons (qs_set 2 nd rfl (by first | exact .inl rfl | exact .inr rfl) (qe_call D_poly_by (hr.mono (by decide)) (by rfl) (qa_cons (qe_call D_same_parity (hr.mono (by decide)) (by rfl) (qa_cons (qe_var 0) (qa_cons (qe_mod (qb_var 1) qe_int.b) qa_nil))) (qa_cons (qe_call D_parted (hr.mono (by decide)) (by rfl) (qa_cons (T.c_ONE (by rfl)) (qa_cons (qe_ix (qb_var 0) (qe_neg qe_int.b).b) qa_nil))) qa_nil)))) (qss_cons (qs_par 3 4 rfl nd rfl rfl (by decide) rfl rfl (qe_call D_poly_by (hr.mono (by decide)) (by rfl) (qa_cons (qe_call D_same_parity (hr.mono (by decide)) (by rfl) (qa_cons (qe_var 0) (qa_cons (qe_mod (qe_add (qb_var 1) qe_int.b).b qe_int.b) qa_nil))) (qa_cons (qe_call D_parted (hr.mono (by decide)) (by rfl) (qa_cons (T.c_ONE (by rfl)) (qa_cons (qe_ix (qb_var 0) (qe_neg qe_int.b).b) qa_nil))) qa_nil))).v (qf_lst qa_nil).v) (qss_cons (qs_while PassesOwn.never (qt_gt (qe_len (by rfl) T.b_len (qb_var 2)).b qe_int.b) (qss_cons (qs_set 5 nd rfl (by first | exact .inl rfl | exact .inr rfl) (qe_ix (qb_var 3) (qe_neg qe_int.b).b)) (qss_cons (qs_app 4 rfl (by first | exact .inl rfl | exact .inr (.inl rfl)) (qe_var 5)) (qss_cons (qs_set 6 nd rfl (by first | exact .inl rfl | exact .inr rfl) (qe_call D_poly_by (hr.mono (by decide)) (by rfl) (qa_cons (qe_var 3) (qa_cons (qe_call D_parted (hr.mono (by decide)) (by rfl) (qa_cons (T.c_ONE (by rfl)) (qa_cons (qe_var 5) qa_nil))) qa_nil)))) (qss_one (qs_par 2 3 rfl nd rfl rfl (by decide) rfl rfl (qe_var 6).v (qe_call D_poly_less (hr.mono (by decide)) (by rfl) (qa_cons (qe_var 2) (qa_cons (qe_call D_poly_times (hr.mono (by decide)) (by rfl) (qa_cons (qe_tup (qa_cons (T.c_NONE (by rfl)) (qa_cons (T.c_ONE (by rfl)) qa_nil))) (qa_cons (qe_var 6) qa_nil))) qa_nil))).v)))))) (qss_one (qs_ret (qe_tuple (by rfl) T.b_tuple (qb_var 4)))))))))
    hp_built_from
theorem d_left_zeros (T : TB K mg) (Z : TZ P base) (D_lead_from : Df P w K mg base 37 "lead_from" 1 p_lead_from) (D_not_left : Df P w K mg base 38 "not_left" 1 p_not_left) (M_AllLeft : MkOk P w K mg base 2 "AllLeft" ["row"]) (D_built_from : Df P w K mg base 36 "built_from" 1 p_built_from) (M_NotLeft : MkOk P w K mg base 2 "NotLeft" ["many"]) (h : Dd K mg "left_zeros" (topS 45) ["polynomial"]) : Df P w K mg base 39 "left_zeros" 1 p_left_zeros := by
  obtain ⟨f, fd, hm, F, bd⟩ := h.ex
  have nd : (["polynomial", "made", "many"] : List Str).Nodup := by decide
  exact df_of (N := ["polynomial", "made", "many"]) (ps := ["polynomial"]) (W := W_left_zeros) F ⟨rfl, rfl, rfl, by decide +kernel, rfl, by decide +kernel, by decide +kernel⟩ hm bd
    (fun cdv A outer s H E hr => (qss_cons (qs_set 1 nd rfl (by first | exact .inl rfl | exact .inr rfl) (qe_call D_lead_from (hr.mono (by decide)) (by rfl) (qa_cons (qe_var 0) qa_nil))) (qss_cons (qs_set 2 nd rfl (by first | exact .inl rfl | exact .inr rfl) (qe_call D_not_left (hr.mono (by decide)) (by rfl) (qa_cons (qe_var 1) qa_nil))) (qss_one (qs_ret (qe_ite (qt_is (qb_var 2) qe_non.b) (qe_make M_AllLeft (hr.mono (by decide)) (by rfl) (qa_cons (qe_call D_built_from (hr.mono (by decide)) (by rfl) (qa_cons (qe_var 1) qa_nil)) qa_nil)) (qe_make M_NotLeft (hr.mono (by decide)) (by rfl) (qa_cons (qe_var 2) qa_nil))))))))
    hp_left_zeros
theorem d_build_by (T : TB K mg) (Z : TZ P base) (D_poly_times : Df P w K mg base 35 "poly_times" 2 p_poly_times) (D_poly_by : Df P w K mg base 35 "poly_by" 2 p_poly_by) (D_summed : Df P w K mg base 34 "summed" 2 p_summed) (h : Dd K mg "build_by" (topS 46) ["row"]) : Df P w K mg base 36 "build_by" 1 p_build_by := by
  obtain ⟨f, fd, hm, F, bd⟩ := h.ex
  have nd : (["row", "last", "here", "item", "fresh", "low", "a", "b"] : List Str).Nodup := by decide
  exact df_of (N := ["row", "last", "here", "item", "fresh", "low", "a", "b"]) (ps := ["row"]) (W := W_build_by) F ⟨rfl, rfl, rfl, by decide +kernel, rfl, by decide +kernel, by decide +kernel⟩ hm bd
    (fun cdv A outer s H E hr => (qss_cons (qs_par 1 2 rfl nd rfl rfl (by decide) rfl rfl (qe_tup (qa_cons (T.c_ONE (by rfl)) qa_nil)).v (qe_tup (qa_cons (qe_ix (qb_var 0) qe_int.b) (qa_cons (T.c_ONE (by rfl)) qa_nil))).v) (qss_cons (qs_for PassesOwn.never rfl (qi_seq (qe_sl (qb_var 0) (qo_s qe_int) qo_n)) (qg_name 3 nd rfl (by first | exact .inl rfl | exact .inr rfl)) (qss_cons (qs_set 4 nd rfl (by first | exact .inl rfl | exact .inr rfl) (qe_call D_poly_times (hr.mono (by decide)) (by rfl) (qa_cons (qe_tup (qa_cons (T.c_NONE (by rfl)) (qa_cons (T.c_ONE (by rfl)) qa_nil))) (qa_cons (qe_var 2) qa_nil)))) (qss_cons (qs_set 5 nd rfl (by first | exact .inl rfl | exact .inr rfl) (qe_call D_poly_by (hr.mono (by decide)) (by rfl) (qa_cons (qe_var 1) (qa_cons (qe_var 3) qa_nil)))) (qss_one (qs_par 1 2 rfl nd rfl rfl (by decide) rfl rfl (qe_var 2).v (qe_tuple (by rfl) T.b_tuple (qf_comp (own := [("a", 6), ("b", 7)]) (T := (.tup [6, 7])) rfl nd (qi_zip (by rfl) T.b_zip (qa_cons (qe_var 4) (qa_cons (qe_add (qb_var 5) (qe_mulT (qe_tup (qa_cons (T.c_NONE (by rfl)) qa_nil)).b (qe_sub (qe_len (by rfl) T.b_len (qb_var 4)).b (qe_len (by rfl) T.b_len (qb_var 5)).b).b).b) qa_nil))) (blkOk_by (by kernel_rfl)) (by decide) (hg_pair 6 7 rfl nd rfl rfl) (fun _ _ _ _ _ => qts_nil) (fun _ _ _ _ _ => (qe_call D_summed (hr.mono (by decide)) (by rfl) (qa_cons (qe_var 6) (qa_cons (qe_var 7) qa_nil))))).qe.b).v))))) (qss_one (qs_ret (qe_var 2))))))
    hp_build_by
theorem d_is_left_zeros (T : TB K mg) (Z : TZ P base) (D_lead_from : Df P w K mg base 37 "lead_from" 1 p_lead_from) (D_is_whole : Df P w K mg base 1 "is_whole" 1 p_is_whole) (D_not_left : Df P w K mg base 38 "not_left" 1 p_not_left) (D_is_ratio_row : Df P w K mg base 4 "is_ratio_row" 2 p_is_ratio_row) (D_poly_by : Df P w K mg base 35 "poly_by" 2 p_poly_by) (D_build_by : Df P w K mg base 36 "build_by" 1 p_build_by) (I_AllLeft : IsC K mg clsL "AllLeft") (I_NotLeft : IsC K mg clsL "NotLeft") (h : Dd K mg "is_left_zeros" (topS 47) ["polynomial", "value"]) : Df P w K mg base 39 "is_left_zeros" 2 p_is_left_zeros := by
  obtain ⟨f, fd, hm, F, bd⟩ := h.ex
  have nd : (["polynomial", "value", "made", "item"] : List Str).Nodup := by decide
  exact df_of (N := ["polynomial", "value", "made", "item"]) (ps := ["polynomial", "value"]) (W := W_is_left_zeros) F ⟨rfl, rfl, rfl, by decide +kernel, rfl, by decide +kernel, by decide +kernel⟩ hm bd
    (fun cdv A outer s H E hr => (qss_cons (qs_set 2 nd rfl (by first | exact .inl rfl | exact .inr rfl) (qe_call D_lead_from (hr.mono (by decide)) (by rfl) (qa_cons (qe_var 0) qa_nil))) (qss_cons (qs_if (qt_val (qe_isC (by rfl) T.b_isinstance (by rfl) I_NotLeft (qb_var 1))) (qss_one (qs_ret (qe_and (qe_call D_is_whole (hr.mono (by decide)) (by rfl) (qa_cons (qe_fld (qe_var 1)) qa_nil)) (qe_one (qe_eq (un64 hr) (qe_fld (qe_var 1)).b (qe_call D_not_left (hr.mono (by decide)) (by rfl) (qa_cons (qe_var 2) qa_nil)).b))))) qss_nil) (qss_cons (qs_if (qt_of (qw_or (qt_not (qt_val (qe_isC (by rfl) T.b_isinstance (by rfl) I_AllLeft (qb_var 1)))) (qw_or1 (qt_not (qt_val (qe_call D_is_ratio_row (hr.mono (by decide)) (by rfl) (qa_cons (qe_sub (qe_len (by rfl) T.b_len (qb_var 2)).b qe_int.b) (qa_cons (qe_fld (qe_var 1)) qa_nil)))))))) (qss_one (qs_ret qe_bl)) qss_nil) (qss_one (qs_ret (qe_and (qe_all rfl (by rfl) T.b_all (qf_comp (own := [("item", 3)]) (T := (.one 3)) rfl nd (qi_seq (qe_fld (qe_var 1))) (blkOk_by (by kernel_rfl)) (by decide) (hg_name 3 nd rfl) (fun _ _ _ _ _ => qts_nil) (fun _ _ _ _ _ => (qe_gt (qe_ix (qb_var 3) qe_int.b).b qe_int.b))).qe.b) (qe_one (qe_eq (un64 hr) (qe_call D_poly_by (hr.mono (by decide)) (by rfl) (qa_cons (qe_call D_build_by (hr.mono (by decide)) (by rfl) (qa_cons (qe_fld (qe_var 1)) qa_nil)) (qa_cons (qe_ix (qb_var 2) (qe_neg qe_int.b).b) qa_nil))).b (qb_var 2))))))))))
    hp_is_left_zeros
theorem d__law_pick (T : TB K mg) (Z : TZ P base) (D__law_draw : Df P w K mg base 1 "_law_draw" 2 p__law_draw) (h : Dd K mg "_law_pick" (topS 51) ["pen", "some"]) : Df P w K mg base 2 "_law_pick" 2 p__law_pick := by
  obtain ⟨f, fd, hm, F, bd⟩ := h.ex
  have nd : (["pen", "some"] : List Str).Nodup := by decide
  exact df_of (N := ["pen", "some"]) (ps := ["pen", "some"]) (W := W__law_pick) F ⟨rfl, rfl, rfl, by decide +kernel, rfl, by decide +kernel, by decide +kernel⟩ hm bd
    (fun cdv A outer s H E hr => (qss_one (qs_ret (qe_ix (qb_var 1) (qe_call D__law_draw (hr.mono (by decide)) (by rfl) (qa_cons (qe_var 0) (qa_cons (qe_len (by rfl) T.b_len (qb_var 1)) qa_nil))).b))))
    hp__law_pick
theorem d__law_is_int (T : TB K mg) (Z : TZ P base)  (h : Dd K mg "_law_is_int" (topS 52) ["thing"]) : Df P w K mg base 1 "_law_is_int" 1 p__law_is_int := by
  obtain ⟨f, fd, hm, F, bd⟩ := h.ex
  have nd : (["thing"] : List Str).Nodup := by decide
  exact df_of (N := ["thing"]) (ps := ["thing"]) (W := W__law_is_int) F ⟨rfl, rfl, rfl, by decide +kernel, rfl, by decide +kernel, by decide +kernel⟩ hm bd
    (fun cdv A outer s H E hr => (qss_one (qs_ret (qe_and (qe_isT (by rfl) T.b_isinstance (by rfl) T.b_int (by decide +kernel) is_int (qb_var 0)) (qe_one (qe_not (qe_isT (by rfl) T.b_isinstance (by rfl) T.b_bool (by decide +kernel) is_bool (qb_var 0))))))))
    hp__law_is_int
theorem d__law_gcd (T : TB K mg) (Z : TZ P base)  (h : Dd K mg "_law_gcd" (topS 53) ["one", "two"]) : Df P w K mg base 1 "_law_gcd" 2 p__law_gcd := by
  obtain ⟨f, fd, hm, F, bd⟩ := h.ex
  have nd : (["one", "two", "lap"] : List Str).Nodup := by decide
  exact df_of (N := ["one", "two", "lap"]) (ps := ["one", "two"]) (W := W__law_gcd) F ⟨rfl, rfl, rfl, by decide +kernel, rfl, by decide +kernel, by decide +kernel⟩ hm bd
    (fun cdv A outer s H E hr => (qss_cons (qs_par 0 1 rfl nd rfl rfl (by decide) rfl rfl (qe_abs (by rfl) T.b_abs (qb_var 0)).v (qe_abs (by rfl) T.b_abs (qb_var 1)).v) (qss_cons (qs_for PassesOwn.never rfl (qi_range1 (by rfl) T.b_range (qa_cons (qe_add qe_int.b (qe_mul qe_int.b (qe_bits (qe_intc (by rfl) T.b_int (qb_var 1)).b).b).b) qa_nil)) (qg_name 2 nd rfl (by first | exact .inl rfl | exact .inr rfl)) (qss_cons (qs_if (qt_eq (un64 hr) (qb_var 1) qe_int.b) (qss_one qs_break) qss_nil) (qss_one (qs_par 0 1 rfl nd rfl rfl (by decide) rfl rfl (qe_var 1).v (qe_mod (qe_intc (by rfl) T.b_int (qb_var 0)).b (qb_var 1)).v)))) (qss_one (qs_ret (qe_var 0))))))
    hp__law_gcd
theorem d__law_q (T : TB K mg) (Z : TZ P base) (D__law_gcd : Df P w K mg base 1 "_law_gcd" 2 p__law_gcd) (h : Dd K mg "_law_q" (topS 54) ["top", "bottom"]) : Df P w K mg base 33 "_law_q" 2 p__law_q := by
  obtain ⟨f, fd, hm, F, bd⟩ := h.ex
  have nd : (["top", "bottom", "by"] : List Str).Nodup := by decide
  exact df_of (N := ["top", "bottom", "by"]) (ps := ["top", "bottom"]) (W := W__law_q) F ⟨rfl, rfl, rfl, by decide +kernel, rfl, by decide +kernel, by decide +kernel⟩ hm bd
    (fun cdv A outer s H E hr => (qss_cons (qs_set 2 nd rfl (by first | exact .inl rfl | exact .inr rfl) (qe_call D__law_gcd (hr.mono (by decide)) (by rfl) (qa_cons (qe_var 0) (qa_cons (qe_var 1) qa_nil)))) (qss_cons (qs_set 2 nd rfl (by first | exact .inl rfl | exact .inr rfl) (qe_ite (qt_lt (qb_var 1) qe_int.b) (qe_neg (qb_var 2)) (qe_var 2))) (qss_one (qs_ret (qe_tup (qa_cons (qe_divU (seer_of Z hr (by decide) rfl rfl) (qb_var 0) (qb_var 2)) (qa_cons (qe_divU (seer_of Z hr (by decide) rfl rfl) (qb_var 1) (qb_var 2)) qa_nil))))))))
    hp__law_q
theorem d__law_plus (T : TB K mg) (Z : TZ P base) (D__law_q : Df P w K mg base 33 "_law_q" 2 p__law_q) (h : Dd K mg "_law_plus" (topS 55) ["one", "two"]) : Df P w K mg base 34 "_law_plus" 2 p__law_plus := by
  obtain ⟨f, fd, hm, F, bd⟩ := h.ex
  have nd : (["one", "two"] : List Str).Nodup := by decide
  exact df_of (N := ["one", "two"]) (ps := ["one", "two"]) (W := W__law_plus) F ⟨rfl, rfl, rfl, by decide +kernel, rfl, by decide +kernel, by decide +kernel⟩ hm bd
    (fun cdv A outer s H E hr => (qss_one (qs_ret (qe_call D__law_q (hr.mono (by decide)) (by rfl) (qa_cons (qe_add (qe_mul (qe_ix (qb_var 0) qe_int.b).b (qe_ix (qb_var 1) qe_int.b).b).b (qe_mul (qe_ix (qb_var 1) qe_int.b).b (qe_ix (qb_var 0) qe_int.b).b).b) (qa_cons (qe_mul (qe_ix (qb_var 0) qe_int.b).b (qe_ix (qb_var 1) qe_int.b).b) qa_nil))))))
    hp__law_plus
theorem d__law_times (T : TB K mg) (Z : TZ P base) (D__law_q : Df P w K mg base 33 "_law_q" 2 p__law_q) (h : Dd K mg "_law_times" (topS 56) ["one", "two"]) : Df P w K mg base 34 "_law_times" 2 p__law_times := by
  obtain ⟨f, fd, hm, F, bd⟩ := h.ex
  have nd : (["one", "two"] : List Str).Nodup := by decide
  exact df_of (N := ["one", "two"]) (ps := ["one", "two"]) (W := W__law_times) F ⟨rfl, rfl, rfl, by decide +kernel, rfl, by decide +kernel, by decide +kernel⟩ hm bd
    (fun cdv A outer s H E hr => (qss_one (qs_ret (qe_call D__law_q (hr.mono (by decide)) (by rfl) (qa_cons (qe_mul (qe_ix (qb_var 0) qe_int.b).b (qe_ix (qb_var 1) qe_int.b).b) (qa_cons (qe_mul (qe_ix (qb_var 0) qe_int.b).b (qe_ix (qb_var 1) qe_int.b).b) qa_nil))))))
    hp__law_times
theorem d__law_minus (T : TB K mg) (Z : TZ P base) (D__law_q : Df P w K mg base 33 "_law_q" 2 p__law_q) (h : Dd K mg "_law_minus" (topS 57) ["one", "two"]) : Df P w K mg base 34 "_law_minus" 2 p__law_minus := by
  obtain ⟨f, fd, hm, F, bd⟩ := h.ex
  have nd : (["one", "two"] : List Str).Nodup := by decide
  exact df_of (N := ["one", "two"]) (ps := ["one", "two"]) (W := W__law_minus) F ⟨rfl, rfl, rfl, by decide +kernel, rfl, by decide +kernel, by decide +kernel⟩ hm bd
    (fun cdv A outer s H E hr => (qss_one (qs_ret (qe_call D__law_q (hr.mono (by decide)) (by rfl) (qa_cons (qe_sub (qe_mul (qe_ix (qb_var 0) qe_int.b).b (qe_ix (qb_var 1) qe_int.b).b).b (qe_mul (qe_ix (qb_var 1) qe_int.b).b (qe_ix (qb_var 0) qe_int.b).b).b) (qa_cons (qe_mul (qe_ix (qb_var 0) qe_int.b).b (qe_ix (qb_var 1) qe_int.b).b) qa_nil))))))
    hp__law_minus
theorem d__law_share (T : TB K mg) (Z : TZ P base) (D__law_q : Df P w K mg base 33 "_law_q" 2 p__law_q) (h : Dd K mg "_law_share" (topS 58) ["one", "two"]) : Df P w K mg base 34 "_law_share" 2 p__law_share := by
  obtain ⟨f, fd, hm, F, bd⟩ := h.ex
  have nd : (["one", "two"] : List Str).Nodup := by decide
  exact df_of (N := ["one", "two"]) (ps := ["one", "two"]) (W := W__law_share) F ⟨rfl, rfl, rfl, by decide +kernel, rfl, by decide +kernel, by decide +kernel⟩ hm bd
    (fun cdv A outer s H E hr => (qss_one (qs_ret (qe_call D__law_q (hr.mono (by decide)) (by rfl) (qa_cons (qe_mul (qe_ix (qb_var 0) qe_int.b).b (qe_ix (qb_var 1) qe_int.b).b) (qa_cons (qe_mul (qe_ix (qb_var 0) qe_int.b).b (qe_ix (qb_var 1) qe_int.b).b) qa_nil))))))
    hp__law_share
theorem d__law_is_told (T : TB K mg) (Z : TZ P base) (D__law_is_int : Df P w K mg base 1 "_law_is_int" 1 p__law_is_int) (D__law_gcd : Df P w K mg base 1 "_law_gcd" 2 p__law_gcd) (h : Dd K mg "_law_is_told" (topS 59) ["thing"]) : Df P w K mg base 2 "_law_is_told" 1 p__law_is_told := by
  obtain ⟨f, fd, hm, F, bd⟩ := h.ex
  have nd : (["thing"] : List Str).Nodup := by decide
  exact df_of (N := ["thing"]) (ps := ["thing"]) (W := W__law_is_told) F ⟨rfl, rfl, rfl, by decide +kernel, rfl, by decide +kernel, by decide +kernel⟩ hm bd
    (fun cdv A outer s H E hr => (qss_cons (qs_if (qt_of (qw_or (qt_not (qt_val (qe_isT (by rfl) T.b_isinstance (by rfl) T.b_tuple (by decide +kernel) is_tuple (qb_var 0)))) (qw_or (qt_ne (un64 hr) (qe_len (by rfl) T.b_len (qb_var 0)).b qe_int.b) (qw_or (qt_not (qt_val (qe_call D__law_is_int (hr.mono (by decide)) (by rfl) (qa_cons (qe_ix (qb_var 0) qe_int.b) qa_nil)))) (qw_or1 (qt_not (qt_val (qe_call D__law_is_int (hr.mono (by decide)) (by rfl) (qa_cons (qe_ix (qb_var 0) qe_int.b) qa_nil))))))))) (qss_one (qs_ret qe_bl)) qss_nil) (qss_one (qs_ret (qe_and (qe_gt (qe_ix (qb_var 0) qe_int.b).b qe_int.b) (qe_one (qe_eq (un64 hr) (qe_call D__law_gcd (hr.mono (by decide)) (by rfl) (qa_cons (qe_ix (qb_var 0) qe_int.b) (qa_cons (qe_ix (qb_var 0) qe_int.b) qa_nil))).b qe_int.b)))))))
    hp__law_is_told
theorem d__law_is_row (T : TB K mg) (Z : TZ P base) (D__law_is_told : Df P w K mg base 2 "_law_is_told" 1 p__law_is_told) (h : Dd K mg "_law_is_row" (topS 60) ["thing", "long"]) : Df P w K mg base 3 "_law_is_row" 2 p__law_is_row := by
  obtain ⟨f, fd, hm, F, bd⟩ := h.ex
  have nd : (["thing", "long", "item"] : List Str).Nodup := by decide
  exact df_of (N := ["thing", "long", "item"]) (ps := ["thing", "long"]) (W := W__law_is_row) F ⟨rfl, rfl, rfl, by decide +kernel, rfl, by decide +kernel, by decide +kernel⟩ hm bd
    (fun cdv A outer s H E hr => (qss_one (qs_ret (qe_and (qe_isT (by rfl) T.b_isinstance (by rfl) T.b_tuple (by decide +kernel) is_tuple (qb_var 0)) (qe_and (qe_eq (un64 hr) (qe_len (by rfl) T.b_len (qb_var 0)).b (qb_var 1)) (qe_one (qe_all rfl (by rfl) T.b_all (qf_comp (own := [("item", 2)]) (T := (.one 2)) rfl nd (qi_seq (qe_var 0)) (blkOk_by (by kernel_rfl)) (by decide) (hg_name 2 nd rfl) (fun _ _ _ _ _ => qts_nil) (fun _ _ _ _ _ => (qe_call D__law_is_told (hr.mono (by decide)) (by rfl) (qa_cons (qe_var 2) qa_nil)))).qe.b)))))))
    hp__law_is_row
theorem d__law_determinant (T : TB K mg) (Z : TZ P base) (D__law_minus : Df P w K mg base 34 "_law_minus" 2 p__law_minus) (D__law_times : Df P w K mg base 34 "_law_times" 2 p__law_times) (D__law_share : Df P w K mg base 34 "_law_share" 2 p__law_share) (h : Dd K mg "_law_determinant" (topS 61) ["table"]) : Df P w K mg base 35 "_law_determinant" 1 p__law_determinant := by
  obtain ⟨f, fd, hm, F, bd⟩ := h.ex
  have nd : (["table", "rows", "out", "k", "heads", "i", "by", "row", "a", "b"] : List Str).Nodup := by decide
  exact df_of (N := ["table", "rows", "out", "k", "heads", "i", "by", "row", "a", "b"]) (ps := ["table"]) (W := W__law_determinant) F ⟨rfl, rfl, rfl, by decide +kernel, rfl, by decide +kernel, by decide +kernel⟩ hm bd
    (fun cdv A outer s H E hr => (qss_cons (qs_parT 1 2 rfl nd rfl rfl (by decide) (by first | exact .inl rfl | exact .inr rfl) (by first | exact .inl rfl | exact .inr rfl) (qf_comp (own := [("row", 7)]) (T := (.one 7)) rfl nd (qi_seq (qe_var 0)) (blkOk_by (by kernel_rfl)) (by decide) (hg_name 7 nd rfl) (fun _ _ _ _ _ => qts_nil) (fun _ _ _ _ _ => (qf_list (by rfl) T.b_list (qb_var 7)).qe)).v (qe_tup (qa_cons qe_int (qa_cons qe_int qa_nil))).v) (qss_cons (qs_for PassesOwn.never rfl (qi_range1 (by rfl) T.b_range (qa_cons (qe_len (by rfl) T.b_len (qb_var 1)) qa_nil)) (qg_name 3 nd rfl (by first | exact .inl rfl | exact .inr rfl)) (qss_cons (qs_setComp 4 (own := [("i", 5)]) (T := (.one 5)) rfl nd rfl rfl (sw_true rfl rfl rfl (by decide +kernel)) (qi_range2 (by rfl) T.b_range (qa_cons (qe_var 3) (qa_cons (qe_len (by rfl) T.b_len (qb_var 1)) qa_nil))) (blkOk_by (by kernel_rfl)) (by decide) (hg_name 5 nd rfl) (fun _ _ _ _ _ => (qts_one (qt_ne (un64 hr) (qe_ix (qe_ix (qe_ix (qb_var 1) (qb_var 5)).b (qb_var 3)).b qe_int.b).b qe_int.b))) (fun _ _ _ _ _ => (qe_var 5))) (qss_frz 4 (qss_cons (qs_if (qt_eq (un64 hr) (qb_var 4) (qf_lst qa_nil).qe.b) (qss_one (qs_ret (qe_tup (qa_cons qe_int (qa_cons qe_int qa_nil))))) qss_nil) (qss_cons (qs_if (qt_ne (un64 hr) (qe_ix (qb_var 4) qe_int.b).b (qb_var 3)) (qss_cons (qs_swap 1 rfl rfl (by first | exact .inl rfl | exact .inr (.inl rfl)) (qe_ix (qb_var 1) (qe_ix (qb_var 4) qe_int.b).b) (qe_ix (qb_var 1) (qb_var 3)) (qe_var 3) (qe_ix (qb_var 4) qe_int.b)) (qss_one (qs_set 2 nd rfl (by first | exact .inl rfl | exact .inr rfl) (qe_call D__law_minus (hr.mono (by decide)) (by rfl) (qa_cons (qe_tup (qa_cons qe_int (qa_cons qe_int qa_nil))) (qa_cons (qe_var 2) qa_nil)))))) qss_nil) (qss_cons (qs_set 2 nd rfl (by first | exact .inl rfl | exact .inr rfl) (qe_call D__law_times (hr.mono (by decide)) (by rfl) (qa_cons (qe_var 2) (qa_cons (qe_ix (qe_ix (qb_var 1) (qb_var 3)).b (qb_var 3)) qa_nil)))) (qss_one (qs_for PassesOwn.never rfl (qi_range2 (by rfl) T.b_range (qa_cons (qe_add (qb_var 3) qe_int.b) (qa_cons (qe_len (by rfl) T.b_len (qb_var 1)) qa_nil))) (qg_name 5 nd rfl (by first | exact .inl rfl | exact .inr rfl)) (qss_cons (qs_set 6 nd rfl (by first | exact .inl rfl | exact .inr rfl) (qe_call D__law_share (hr.mono (by decide)) (by rfl) (qa_cons (qe_ix (qe_ix (qb_var 1) (qb_var 5)).b (qb_var 3)) (qa_cons (qe_ix (qe_ix (qb_var 1) (qb_var 3)).b (qb_var 3)) qa_nil)))) (qss_one (qs_setix 1 rfl (by first | exact .inl rfl | exact .inr (.inl rfl)) (qf_comp (own := [("a", 8), ("b", 9)]) (T := (.tup [8, 9])) rfl nd (qi_zip (by rfl) T.b_zip (qa_cons (qe_ix (qb_var 1) (qb_var 5)) (qa_cons (qe_ix (qb_var 1) (qb_var 3)) qa_nil))) (blkOk_by (by kernel_rfl)) (by decide) (hg_pair 8 9 rfl nd rfl rfl) (fun _ _ _ _ _ => qts_nil) (fun _ _ _ _ _ => (qe_call D__law_minus (hr.mono (by decide)) (by rfl) (qa_cons (qe_var 8) (qa_cons (qe_call D__law_times (hr.mono (by decide)) (by rfl) (qa_cons (qe_var 6) (qa_cons (qe_var 9) qa_nil))) qa_nil))))).qe (qe_var 5)))))))))))) (qss_one (qs_ret (qe_var 2))))))
    hp__law_determinant
theorem d__law_minor (T : TB K mg) (Z : TZ P base) (D__law_determinant : Df P w K mg base 35 "_law_determinant" 1 p__law_determinant) (h : Dd K mg "_law_minor" (topS 62) ["table", "rows", "columns"]) : Df P w K mg base 36 "_law_minor" 3 p__law_minor := by
  obtain ⟨f, fd, hm, F, bd⟩ := h.ex
  have nd : (["table", "rows", "columns", "i", "j"] : List Str).Nodup := by decide
  exact df_of (N := ["table", "rows", "columns", "i", "j"]) (ps := ["table", "rows", "columns"]) (W := W__law_minor) F ⟨rfl, rfl, rfl, by decide +kernel, rfl, by decide +kernel, by decide +kernel⟩ hm bd
    (fun cdv A outer s H E hr => (qss_one (qs_ret (qe_call D__law_determinant (hr.mono (by decide)) (by rfl) (qa_cons (qf_comp (own := [("i", 3)]) (T := (.one 3)) rfl nd (qi_seq (qe_var 1)) (blkOk_by (by kernel_rfl)) (by decide) (hg_name 3 nd rfl) (fun _ _ _ _ _ => qts_nil) (fun _ _ _ _ _ => (qf_comp (own := [("j", 4)]) (T := (.one 4)) rfl nd (qi_seq (qe_var 2)) (blkOk_by (by kernel_rfl)) (by decide) (hg_name 4 nd rfl) (fun _ _ _ _ _ => qts_nil) (fun _ _ _ _ _ => (qe_ix (qe_ix (qb_var 0) (qb_var 3)).b (qb_var 4)))).qe)).qe qa_nil)))))
    hp__law_minor
theorem d__law_first_minor (T : TB K mg) (Z : TZ P base) (D__law_minor : Df P w K mg base 36 "_law_minor" 3 p__law_minor) (h : Dd K mg "_law_first_minor" (topS 63) ["table", "many"]) : Df P w K mg base 37 "_law_first_minor" 2 p__law_first_minor := by
  obtain ⟨f, fd, hm, F, bd⟩ := h.ex
  have nd : (["table", "many", "some"] : List Str).Nodup := by decide
  exact df_of (N := ["table", "many", "some"]) (ps := ["table", "many"]) (W := W__law_first_minor) F ⟨rfl, rfl, rfl, by decide +kernel, rfl, by decide +kernel, by decide +kernel⟩ hm bd
    (fun cdv A outer s H E hr => (qss_cons (qs_set 2 nd rfl (by first | exact .inl rfl | exact .inr rfl) (qf_rgL rfl (by rfl) T.b_list (by rfl) T.b_range (qe_var 1)).qe) (qss_one (qs_ret (qe_call D__law_minor (hr.mono (by decide)) (by rfl) (qa_cons (qe_var 0) (qa_cons (qe_var 2) (qa_cons (qe_var 2) qa_nil))))))))
    hp__law_first_minor
theorem d__law_rows_by (T : TB K mg) (Z : TZ P base)  (h : Dd K mg "_law_rows_by" (topS 64) ["polynomial"]) : Df P w K mg base 1 "_law_rows_by" 1 p__law_rows_by := by
  obtain ⟨f, fd, hm, F, bd⟩ := h.ex
  have nd : (["polynomial", "many", "found", "i", "row", "j", "place"] : List Str).Nodup := by decide
  exact df_of (N := ["polynomial", "many", "found", "i", "row", "j", "place"]) (ps := ["polynomial"]) (W := W__law_rows_by) F ⟨rfl, rfl, rfl, by decide +kernel, rfl, by decide +kernel, by decide +kernel⟩ hm bd
    (fun cdv A outer s H E hr => (qss_cons (qs_set 1 nd rfl (by first | exact .inl rfl | exact .inr rfl) (qe_sub (qe_len (by rfl) T.b_len (qb_var 0)).b qe_int.b)) (qss_cons (qs_setF 2 nd rfl (by first | exact .inl rfl | exact .inr rfl) (qf_lst qa_nil)) (qss_cons (qs_for PassesOwn.never rfl (qi_range1 (by rfl) T.b_range (qa_cons (qe_var 1) qa_nil)) (qg_name 3 nd rfl (by first | exact .inl rfl | exact .inr rfl)) (qss_cons (qs_setF 4 nd rfl (by first | exact .inl rfl | exact .inr rfl) (qf_lst qa_nil)) (qss_cons (qs_for PassesOwn.never rfl (qi_range1 (by rfl) T.b_range (qa_cons (qe_var 1) qa_nil)) (qg_name 5 nd rfl (by first | exact .inl rfl | exact .inr rfl)) (qss_cons (qs_set 6 nd rfl (by first | exact .inl rfl | exact .inr rfl) (qe_add (qe_sub (qe_sub (qb_var 1) qe_int.b).b (qe_mul qe_int.b (qb_var 5)).b).b (qb_var 3))) (qss_one (qs_app 4 rfl (by first | exact .inl rfl | exact .inr (.inl rfl)) (qe_ite (qt_chain op_le op_le ok_le ok_le qe_int.b (qb_var 6) (qb_var 1)) (qe_ix (qb_var 0) (qb_var 6)) (qe_tup (qa_cons qe_int (qa_cons qe_int qa_nil)))))))) (qss_one (qs_app 2 rfl (by first | exact .inl rfl | exact .inr (.inl rfl)) (qe_tuple (by rfl) T.b_tuple (qb_var 4))))))) (qss_one (qs_ret (qe_tuple (by rfl) T.b_tuple (qb_var 2))))))))
    hp__law_rows_by
theorem d__law_first_bad (T : TB K mg) (Z : TZ P base) (D__law_rows_by : Df P w K mg base 1 "_law_rows_by" 1 p__law_rows_by) (D__law_first_minor : Df P w K mg base 37 "_law_first_minor" 2 p__law_first_minor) (h : Dd K mg "_law_first_bad" (topS 65) ["polynomial"]) : Df P w K mg base 38 "_law_first_bad" 1 p__law_first_bad := by
  obtain ⟨f, fd, hm, F, bd⟩ := h.ex
  have nd : (["polynomial", "table", "bad", "k"] : List Str).Nodup := by decide
  exact df_of (N := ["polynomial", "table", "bad", "k"]) (ps := ["polynomial"]) (W := W__law_first_bad) F ⟨rfl, rfl, rfl, by decide +kernel, rfl, by decide +kernel, by decide +kernel⟩ hm bd
    (fun cdv A outer s H E hr => (qss_cons (qs_set 1 nd rfl (by first | exact .inl rfl | exact .inr rfl) (qe_call D__law_rows_by (hr.mono (by decide)) (by rfl) (qa_cons (qe_var 0) qa_nil))) (qss_cons (qs_setComp 2 (own := [("k", 3)]) (T := (.one 3)) rfl nd rfl rfl (sw_true rfl rfl rfl (by decide +kernel)) (qi_range2 (by rfl) T.b_range (qa_cons qe_int (qa_cons (qe_add (qe_len (by rfl) T.b_len (qb_var 1)).b qe_int.b) qa_nil))) (blkOk_by (by kernel_rfl)) (by decide) (hg_name 3 nd rfl) (fun _ _ _ _ _ => (qts_one (qt_le (qe_ix (qe_call D__law_first_minor (hr.mono (by decide)) (by rfl) (qa_cons (qe_var 1) (qa_cons (qe_var 3) qa_nil))).b qe_int.b).b qe_int.b))) (fun _ _ _ _ _ => (qe_var 3))) (qss_frz 2 (qss_one (qs_ret (qe_ite (qt_ne (un64 hr) (qb_var 2) (qf_lst qa_nil).qe.b) (qe_ix (qb_var 2) qe_int.b) qe_non)))))))
    hp__law_first_bad
theorem d__law_build (T : TB K mg) (Z : TZ P base) (D__law_times : Df P w K mg base 34 "_law_times" 2 p__law_times) (D__law_plus : Df P w K mg base 34 "_law_plus" 2 p__law_plus) (h : Dd K mg "_law_build" (topS 66) ["row"]) : Df P w K mg base 35 "_law_build" 1 p__law_build := by
  obtain ⟨f, fd, hm, F, bd⟩ := h.ex
  have nd : (["row", "last", "here", "item", "fresh", "k", "one"] : List Str).Nodup := by decide
  exact df_of (N := ["row", "last", "here", "item", "fresh", "k", "one"]) (ps := ["row"]) (W := W__law_build) F ⟨rfl, rfl, rfl, by decide +kernel, rfl, by decide +kernel, by decide +kernel⟩ hm bd
    (fun cdv A outer s H E hr => (qss_cons (qs_par 1 2 rfl nd rfl rfl (by decide) rfl rfl (qe_tup (qa_cons (qe_tup (qa_cons qe_int (qa_cons qe_int qa_nil))) qa_nil)).v (qe_tup (qa_cons (qe_ix (qb_var 0) qe_int.b) (qa_cons (qe_tup (qa_cons qe_int (qa_cons qe_int qa_nil))) qa_nil))).v) (qss_cons (qs_for PassesOwn.never rfl (qi_seq (qe_sl (qb_var 0) (qo_s qe_int) qo_n)) (qg_name 3 nd rfl (by first | exact .inl rfl | exact .inr rfl)) (qss_cons (qs_setF 4 nd rfl (by first | exact .inl rfl | exact .inr rfl) (qf_cat (qf_comp (own := [("one", 6)]) (T := (.one 6)) rfl nd (qi_seq (qe_var 1)) (blkOk_by (by kernel_rfl)) (by decide) (hg_name 6 nd rfl) (fun _ _ _ _ _ => qts_nil) (fun _ _ _ _ _ => (qe_call D__law_times (hr.mono (by decide)) (by rfl) (qa_cons (qe_var 3) (qa_cons (qe_var 6) qa_nil))))).qe.b (qe_mul (qf_lst (qa_cons (qe_tup (qa_cons qe_int (qa_cons qe_int qa_nil))) qa_nil)).qe.b (qe_sub (qe_add (qe_len (by rfl) T.b_len (qb_var 2)).b qe_int.b).b (qe_len (by rfl) T.b_len (qb_var 1)).b).b).b)) (qss_cons (qs_for PassesOwn.never rfl (qi_range1 (by rfl) T.b_range (qa_cons (qe_len (by rfl) T.b_len (qb_var 2)) qa_nil)) (qg_name 5 nd rfl (by first | exact .inl rfl | exact .inr rfl)) (qss_one (qs_setix 4 rfl (by first | exact .inl rfl | exact .inr (.inl rfl)) (qe_call D__law_plus (hr.mono (by decide)) (by rfl) (qa_cons (qe_ix (qb_var 4) (qe_add (qb_var 5) qe_int.b).b) (qa_cons (qe_ix (qb_var 2) (qb_var 5)) qa_nil))) (qe_add (qb_var 5) qe_int.b)))) (qss_one (qs_par 1 2 rfl nd rfl rfl (by decide) rfl rfl (qe_var 2).v (qe_tuple (by rfl) T.b_tuple (qb_var 4)).v))))) (qss_one (qs_ret (qe_var 2))))))
    hp__law_build
theorem d__law_is_built (T : TB K mg) (Z : TZ P base) (D__law_is_row : Df P w K mg base 3 "_law_is_row" 2 p__law_is_row) (D__law_build : Df P w K mg base 35 "_law_build" 1 p__law_build) (D__law_times : Df P w K mg base 34 "_law_times" 2 p__law_times) (h : Dd K mg "_law_is_built" (topS 67) ["polynomial", "value"]) : Df P w K mg base 36 "_law_is_built" 2 p__law_is_built := by
  obtain ⟨f, fd, hm, F, bd⟩ := h.ex
  have nd : (["polynomial", "value", "item"] : List Str).Nodup := by decide
  exact df_of (N := ["polynomial", "value", "item"]) (ps := ["polynomial", "value"]) (W := W__law_is_built) F ⟨rfl, rfl, rfl, by decide +kernel, rfl, by decide +kernel, by decide +kernel⟩ hm bd
    (fun cdv A outer s H E hr => (qss_cons (qs_if (qt_of (qw_or (qt_not (qt_val (qe_call D__law_is_row (hr.mono (by decide)) (by rfl) (qa_cons (qe_var 1) (qa_cons (qe_sub (qe_len (by rfl) T.b_len (qb_var 0)).b qe_int.b) qa_nil))))) (qw_or1 (qt_val (qe_any rfl (by rfl) T.b_any (qf_comp (own := [("item", 2)]) (T := (.one 2)) rfl nd (qi_seq (qe_var 1)) (blkOk_by (by kernel_rfl)) (by decide) (hg_name 2 nd rfl) (fun _ _ _ _ _ => qts_nil) (fun _ _ _ _ _ => (qe_le (qe_ix (qb_var 2) qe_int.b).b qe_int.b))).qe.b))))) (qss_one (qs_ret qe_bl)) qss_nil) (qss_one (qs_ret (qe_eq (un64 hr) (qe_tuple (by rfl) T.b_tuple (qf_comp (own := [("item", 2)]) (T := (.one 2)) rfl nd (qi_seq (qe_call D__law_build (hr.mono (by decide)) (by rfl) (qa_cons (qe_var 1) qa_nil))) (blkOk_by (by kernel_rfl)) (by decide) (hg_name 2 nd rfl) (fun _ _ _ _ _ => qts_nil) (fun _ _ _ _ _ => (qe_call D__law_times (hr.mono (by decide)) (by rfl) (qa_cons (qe_ix (qb_var 0) (qe_neg qe_int.b).b) (qa_cons (qe_var 2) qa_nil))))).qe.b).b (qb_var 0))))))
    hp__law_is_built
theorem d__law_due (T : TB K mg) (Z : TZ P base) (D__law_is_int : Df P w K mg base 1 "_law_is_int" 1 p__law_is_int) (D__law_is_built : Df P w K mg base 36 "_law_is_built" 2 p__law_is_built) (I_AllLeft : IsC K mg clsL "AllLeft") (I_NotLeft : IsC K mg clsL "NotLeft") (h : Dd K mg "_law_due" (topS 68) ["row", "bad", "value"]) : Df P w K mg base 37 "_law_due" 3 p__law_due := by
  obtain ⟨f, fd, hm, F, bd⟩ := h.ex
  have nd : (["row", "bad", "value"] : List Str).Nodup := by decide
  exact df_of (N := ["row", "bad", "value"]) (ps := ["row", "bad", "value"]) (W := W__law_due) F ⟨rfl, rfl, rfl, by decide +kernel, rfl, by decide +kernel, by decide +kernel⟩ hm bd
    (fun cdv A outer s H E hr => (qss_cons (qs_if (qt_val (qe_isC (by rfl) T.b_isinstance (by rfl) I_NotLeft (qb_var 2))) (qss_one (qs_ret (qe_and (qe_isN (qb_var 1) qe_non.b) (qe_and (qe_call D__law_is_int (hr.mono (by decide)) (by rfl) (qa_cons (qe_fld (qe_var 2)) qa_nil)) (qe_one (qe_eq (un64 hr) (qe_fld (qe_var 2)).b (qb_var 1))))))) qss_nil) (qss_one (qs_ret (qe_and (qe_isC (by rfl) T.b_isinstance (by rfl) I_AllLeft (qb_var 2)) (qe_one (qe_call D__law_is_built (hr.mono (by decide)) (by rfl) (qa_cons (qe_var 0) (qa_cons (qe_fld (qe_var 2)) qa_nil)))))))))
    hp__law_due
theorem d__law_case (T : TB K mg) (Z : TZ P base) (D__law_draw : Df P w K mg base 1 "_law_draw" 2 p__law_draw) (D__law_q : Df P w K mg base 33 "_law_q" 2 p__law_q) (D__law_pick : Df P w K mg base 2 "_law_pick" 2 p__law_pick) (D__law_build : Df P w K mg base 35 "_law_build" 1 p__law_build) (D__law_times : Df P w K mg base 34 "_law_times" 2 p__law_times) (D__law_minus : Df P w K mg base 34 "_law_minus" 2 p__law_minus) (D__law_first_bad : Df P w K mg base 38 "_law_first_bad" 1 p__law_first_bad) (D_left_zeros : Df P w K mg base 39 "left_zeros" 1 p_left_zeros) (M_AllLeft : MkOk P w K mg base 2 "AllLeft" ["row"]) (M_NotLeft : MkOk P w K mg base 2 "NotLeft" ["many"]) (D__law_plus : Df P w K mg base 34 "_law_plus" 2 p__law_plus) (D_is_left_zeros : Df P w K mg base 39 "is_left_zeros" 2 p_is_left_zeros) (D__law_due : Df P w K mg base 37 "_law_due" 3 p__law_due) (h : Dd K mg "_law_case" (topS 69) ["pen"]) : Df P w K mg base 40 "_law_case" 1 p__law_case := by
  obtain ⟨f, fd, hm, F, bd⟩ := h.ex
  have nd : (["pen", "some", "by", "row", "k", "near", "here", "bad", "told", "n", "values", "item", "many", "value"] : List Str).Nodup := by decide
  exact df_of (N := ["pen", "some", "by", "row", "k", "near", "here", "bad", "told", "n", "values", "item", "many", "value"]) (ps := ["pen"]) (W := W__law_case) F ⟨rfl, rfl, rfl, by decide +kernel, rfl, by decide +kernel, by decide +kernel⟩ hm bd
    (fun cdv A outer s H E hr => (qss_cons (qs_set 1 nd rfl (by first | exact .inl rfl | exact .inr rfl) (qe_tuple (by rfl) T.b_tuple (qf_comp (own := [("k", 4)]) (T := (.one 4)) rfl nd (qi_range1 (by rfl) T.b_range (qa_cons (qe_add qe_int.b (qe_call D__law_draw (hr.mono (by decide)) (by rfl) (qa_cons (qe_var 0) (qa_cons qe_int qa_nil))).b) qa_nil)) (blkOk_by (by kernel_rfl)) (by decide) (hg_name 4 nd rfl) (fun _ _ _ _ _ => qts_nil) (fun _ _ _ _ _ => (qe_call D__law_q (hr.mono (by decide)) (by rfl) (qa_cons (qe_add qe_int.b (qe_call D__law_draw (hr.mono (by decide)) (by rfl) (qa_cons (qe_var 0) (qa_cons qe_int qa_nil))).b) (qa_cons (qe_call D__law_pick (hr.mono (by decide)) (by rfl) (qa_cons (qe_var 0) (qa_cons (qf_lst (qa_cons qe_int (qa_cons qe_int (qa_cons qe_int (qa_cons qe_int qa_nil))))).qe qa_nil))) qa_nil))))).qe.b)) (qss_cons (qs_set 2 nd rfl (by first | exact .inl rfl | exact .inr rfl) (qe_call D__law_pick (hr.mono (by decide)) (by rfl) (qa_cons (qe_var 0) (qa_cons (qf_lst (qa_cons (qe_tup (qa_cons qe_int (qa_cons qe_int qa_nil))) (qa_cons (qe_tup (qa_cons qe_int (qa_cons qe_int qa_nil))) (qa_cons (qe_tup (qa_cons qe_int (qa_cons qe_int qa_nil))) qa_nil)))).qe qa_nil)))) (qss_cons (qs_set 3 nd rfl (by first | exact .inl rfl | exact .inr rfl) (qe_tuple (by rfl) T.b_tuple (qf_comp (own := [("item", 11)]) (T := (.one 11)) rfl nd (qi_seq (qe_call D__law_build (hr.mono (by decide)) (by rfl) (qa_cons (qe_var 1) qa_nil))) (blkOk_by (by kernel_rfl)) (by decide) (hg_name 11 nd rfl) (fun _ _ _ _ _ => qts_nil) (fun _ _ _ _ _ => (qe_call D__law_times (hr.mono (by decide)) (by rfl) (qa_cons (qe_var 2) (qa_cons (qe_var 11) qa_nil))))).qe.b)) (qss_cons (qs_set 4 nd rfl (by first | exact .inl rfl | exact .inr rfl) (qe_call D__law_draw (hr.mono (by decide)) (by rfl) (qa_cons (qe_var 0) (qa_cons (qe_sub (qe_len (by rfl) T.b_len (qb_var 3)).b qe_int.b) qa_nil)))) (qss_cons (qs_set 5 nd rfl (by first | exact .inl rfl | exact .inr rfl) (qe_add (qe_add (qe_sl (qb_var 3) qo_n (qo_s (qe_var 4))).b (qe_tup (qa_cons (qe_call D__law_minus (hr.mono (by decide)) (by rfl) (qa_cons (qe_ix (qb_var 3) (qb_var 4)) (qa_cons (qe_call D__law_pick (hr.mono (by decide)) (by rfl) (qa_cons (qe_var 0) (qa_cons (qf_lst (qa_cons (qe_ix (qb_var 3) (qb_var 4)) (qa_cons (qe_tup (qa_cons qe_int (qa_cons qe_int qa_nil))) (qa_cons (qe_tup (qa_cons qe_int (qa_cons qe_int qa_nil))) qa_nil)))).qe qa_nil))) qa_nil))) qa_nil)).b).b (qe_sl (qb_var 3) (qo_s (qe_add (qb_var 4) qe_int.b)) qo_n).b)) (qss_cons (qs_for PassesOwn.never rfl (qi_seq (qe_tup (qa_cons (qe_var 3) (qa_cons (qe_var 5) qa_nil)))) (qg_name 6 nd rfl (by first | exact .inl rfl | exact .inr rfl)) (qss_cons (qs_parT 7 8 rfl nd rfl rfl (by decide) (by first | exact .inl rfl | exact .inr rfl) (by first | exact .inl rfl | exact .inr rfl) (qe_call D__law_first_bad (hr.mono (by decide)) (by rfl) (qa_cons (qe_var 6) qa_nil)).v (qe_call D_left_zeros (hr.mono (by decide)) (by rfl) (qa_cons (qe_var 6) qa_nil)).v) (qss_cons (qs_set 9 nd rfl (by first | exact .inl rfl | exact .inr rfl) (qe_call D__law_draw (hr.mono (by decide)) (by rfl) (qa_cons (qe_var 0) (qa_cons (qe_len (by rfl) T.b_len (qb_var 1)) qa_nil)))) (qss_cons (qs_setF 10 nd rfl (by first | exact .inl rfl | exact .inr rfl) (qf_lst (qa_cons (qe_var 8) (qa_cons qe_non (qa_cons qe_int (qa_cons (qe_make M_AllLeft (hr.mono (by decide)) (by rfl) (qa_cons (qe_var 1) qa_nil)) (qa_cons (qe_make M_AllLeft (hr.mono (by decide)) (by rfl) (qa_cons qe_non qa_nil)) (qa_cons (qe_make M_AllLeft (hr.mono (by decide)) (by rfl) (qa_cons (qe_tup qa_nil) qa_nil)) (qa_cons (qe_make M_AllLeft (hr.mono (by decide)) (by rfl) (qa_cons (qf_list (by rfl) T.b_list (qb_var 1)).qe qa_nil)) (qa_cons (qe_make M_AllLeft (hr.mono (by decide)) (by rfl) (qa_cons (qe_sl (qb_var 1) (qo_s qe_int) qo_n) qa_nil)) qa_nil)))))))))) (qss_cons (qs_setF 10 nd rfl (by first | exact .inl rfl | exact .inr rfl) (qf_cat (qb_var 10) (qf_lst (qa_cons (qe_make M_AllLeft (hr.mono (by decide)) (by rfl) (qa_cons (qe_rev (qb_var 1)) qa_nil)) (qa_cons (qe_make M_AllLeft (hr.mono (by decide)) (by rfl) (qa_cons (qe_add (qb_var 1) (qe_tup (qa_cons (qe_tup (qa_cons qe_int (qa_cons qe_int qa_nil))) qa_nil)).b) qa_nil)) (qa_cons (qe_var 1) (qa_cons (qe_make M_NotLeft (hr.mono (by decide)) (by rfl) (qa_cons qe_non qa_nil)) (qa_cons (qe_make M_NotLeft (hr.mono (by decide)) (by rfl) (qa_cons qe_bl qa_nil)) (qa_cons (qe_make M_NotLeft (hr.mono (by decide)) (by rfl) (qa_cons qe_str qa_nil)) qa_nil))))))).qe.b)) (qss_cons (qs_setF 10 nd rfl (by first | exact .inl rfl | exact .inr rfl) (qf_cat (qb_var 10) (qf_comp (own := [("many", 12)]) (T := (.one 12)) rfl nd (qi_range1 (by rfl) T.b_range (qa_cons (qe_add (qe_len (by rfl) T.b_len (qb_var 6)).b qe_int.b) qa_nil)) (blkOk_by (by kernel_rfl)) (by decide) (hg_name 12 nd rfl) (fun _ _ _ _ _ => qts_nil) (fun _ _ _ _ _ => (qe_make M_NotLeft (hr.mono (by decide)) (by rfl) (qa_cons (qe_var 12) qa_nil)))).qe.b)) (qss_cons (qs_for PassesOwn.never rfl (qi_seq (qf_lst (qa_cons (qe_call D__law_plus (hr.mono (by decide)) (by rfl) (qa_cons (qe_ix (qb_var 1) (qb_var 9)) (qa_cons (qe_tup (qa_cons qe_int (qa_cons qe_int qa_nil))) qa_nil))) (qa_cons (qe_ix (qe_ix (qb_var 1) (qb_var 9)).b qe_int.b) (qa_cons (qe_tup (qa_cons (qe_mul qe_int.b (qe_ix (qe_ix (qb_var 1) (qb_var 9)).b qe_int.b).b) (qa_cons (qe_mul qe_int.b (qe_ix (qe_ix (qb_var 1) (qb_var 9)).b qe_int.b).b) qa_nil))) (qa_cons (qe_tup (qa_cons (qe_neg (qe_ix (qe_ix (qb_var 1) (qb_var 9)).b qe_int.b).b) (qa_cons (qe_ix (qe_ix (qb_var 1) (qb_var 9)).b qe_int.b) qa_nil))) (qa_cons (qe_tup (qa_cons qe_int (qa_cons qe_int qa_nil))) (qa_cons qe_non qa_nil))))))).qe) (qg_name 11 nd rfl (by first | exact .inl rfl | exact .inr rfl)) (qss_one (qs_app 10 rfl (by first | exact .inl rfl | exact .inr (.inl rfl)) (qe_make M_AllLeft (hr.mono (by decide)) (by rfl) (qa_cons (qe_add (qe_add (qe_sl (qb_var 1) qo_n (qo_s (qe_var 9))).b (qe_tup (qa_cons (qe_var 11) qa_nil)).b).b (qe_sl (qb_var 1) (qo_s (qe_add (qb_var 9) qe_int.b)) qo_n).b) qa_nil))))) (qss_frz 10 (qss_one (qs_if (qt_not (qt_val (qe_all rfl (by rfl) T.b_all (qf_comp (own := [("value", 13)]) (T := (.one 13)) rfl nd (qi_seq (qe_var 10)) (blkOk_by (by kernel_rfl)) (by decide) (hg_name 13 nd rfl) (fun _ _ _ _ _ => qts_nil) (fun _ _ _ _ _ => (qe_eq (un64 hr) (qe_repr (by rfl) T.b_repr (qe_call D_is_left_zeros (hr.mono (by decide)) (by rfl) (qa_cons (qe_var 6) (qa_cons (qe_var 13) qa_nil))).b).b (qe_repr (by rfl) T.b_repr (qe_call D__law_due (hr.mono (by decide)) (by rfl) (qa_cons (qe_var 6) (qa_cons (qe_var 7) (qa_cons (qe_var 13) qa_nil)))).b).b))).qe.b))) (qss_one (qs_ret qe_bl)) qss_nil)))))))))) (qss_one (qs_ret qe_bl)))))))))
    hp__law_case
end
end En.K71
namespace En.K71
open PySem PySem.Spec PyProof.Rows L2 En
abbrev penL (ca : Addr) (k dg ct fd : Int) : List (Key × V) := [(.inr "cells", .ref ca), (.inr "at", .int k), (.inr "digits", .int dg), (.inr "count", .int ct), (.inr "fold", .int fd)]
section
variable {ca : Addr} {k dg ct fd x : Int}
theorem pl_cells : valV (penL ca k dg ct fd) (.inr "cells") = some (.ref ca) := by rfl
theorem pl_at : valV (penL ca k dg ct fd) (.inr "at") = some (.int k) := by rfl
theorem pl_digits : valV (penL ca k dg ct fd) (.inr "digits") = some (.int dg) := by rfl
theorem pl_count : valV (penL ca k dg ct fd) (.inr "count") = some (.int ct) := by rfl
theorem pl_fold : valV (penL ca k dg ct fd) (.inr "fold") = some (.int fd) := by rfl
theorem pp_at : putK (penL ca k dg ct fd) (.inr "at") (.int x) = penL ca x dg ct fd := by rfl
theorem pp_digits : putK (penL ca k dg ct fd) (.inr "digits") (.int x) = penL ca k x ct fd := by rfl
theorem pp_count : putK (penL ca k dg ct fd) (.inr "count") (.int x) = penL ca k dg x fd := by rfl
theorem pp_fold : putK (penL ca k dg ct fd) (.inr "fold") (.int x) = penL ca k dg ct x := by rfl
end
/-- reading pen[key] -/
theorem rdP {σ : L2.St} {H : Hp} {Q : VK} {pa : Addr} {L : List (Key × V)} {key : Str} {v : V} (hσ : σ[0]? = some (some (.ref pa))) (hp : H pa = some (.dK L)) (hv : valV L (.inr key) = some v) (q : Q v H) : tDGet (tVar 0) (tC (.str key)) σ H Q :=
  ⟨.ref pa, hσ, pa, v, rfl, by have h := DGet.k (k := .inr key) hp; rw [hv] at h; exact h, q⟩
/-- pen[key] = v -/
theorem wrP {σ : L2.St} {H : Hp} {D : Ends} {pa : Addr} {L L' : List (Key × V)} {key : Str} {v : V} (hσ : σ[0]? = some (some (.ref pa))) (hl : L.length < 100) (hp : H pa = some (.dK L)) (he : putK L (.inr key) v = L') (q : D.nx σ (upd H pa (.dK L'))) :
    tVar 0 σ H fun x H2 => tC (.str key) σ H2 fun y H3 => ∃ a H4, x = .ref a ∧ DPut H3 a y v H4 ∧ D.nx σ H4 :=
  ⟨.ref pa, hσ, pa, _, rfl, DPut.k (k := .inr key) hp (by have := line_ge; omega), by rw [he]; exact q⟩
theorem noSl {i : Expr} (h : ∀ ov iv, subscripted i false ov iv = operate [ov, iv] (getItem ov iv) := by intro _ _; rfl) : NoSl i := h
theorem upd_upd {H : Hp} {a : Addr} {o o' : HO} : upd (upd H a o) a o' = upd H a o' := by
  funext b
  by_cases h : b = a
  · subst h; rw [upd_same, upd_same]
  · rw [upd_ne h, upd_ne h, upd_ne h]
section
variable {P : Program} {w : World} {K : PySem.W.Frag} {mg : Str → Option Value} {base : Heap}
theorem d__law_draw (T : TB K mg) (h : Dd K mg "_law_draw" (topS 50) ["pen", "many"]) : Df P w K mg base 1 "_law_draw" 2 p__law_draw := by
  obtain ⟨f, fd, hm, F, bd⟩ := h.ex
  have nd : (["pen", "many", "cell", "digit", "blend"] : List Str).Nodup := by decide
  refine ⟨f, fd, _, hm, F.kp, bd, rfl, F.ok (N := ["pen", "many", "cell", "digit", "blend"]) ⟨rfl, rfl, rfl, by decide +kernel, rfl, by decide +kernel, by decide +kernel⟩ (fun vs H Q E h => h.1) fun cdv A outer s H vs Q E hr h => ?_⟩
  obtain ⟨hl, pa, ca, B, ds, b, Qd, trk, bpa, bca, po, fr, ⟨many, rfl, hm1, hm2, hb, q⟩, kk⟩ := h
  cases fr with
  | cons f1 f2 =>
    cases f2 with
    | cons f3 f4 =>
      cases f4
      cases f1
      cases f3
      obtain ⟨cells, k, dg, ct, fdv, hp, hc, hk, hcl, hdg, hct, hctb, hf0, hf1⟩ := po
      have hne : pa ≠ ca := by
        rintro rfl
        rw [hp] at hc
        cases hc
      have hu : (cxOf CX0 P w K mg base ["pen", "many", "cell", "digit", "blend"] "_law_draw" (defScope (topS 50)) f cdv A outer s H E).nox.A.units + 1 < cLine := by
        have := hr.un
        show (A.deeper _).units + 1 < cLine
        omega
      -- from the second if on
      obtain ⟨tt, htt, hw⟩ : ∃ tt, PSs (cxOf CX0 P w K mg base ["pen", "many", "cell", "digit", "blend"] "_law_draw" (defScope (topS 50)) f cdv A outer s H E).nox ((defBody (topS 50)).drop 2) tt ∧
          ∀ (σ : L2.St) (k' : Nat) (dg' fd' : Int), σ[0]? = some (some (.ref pa)) → σ[1]? = some (some (.int (many : Int))) → σ.length = 5 → k' ≤ cells.length → 0 ≤ dg' → 0 ≤ fd' → fd' < 2 ^ 32 →
            tt { nx := fun _ H' => Q .non H', rt := Q } σ (upd H pa (.dK (penL ca k' dg' (ct + 1) fd'))) := by
        refine ⟨_, pss_cons (ps_if (pt_cmpR op_gt (pe_dget hu (pe_var (i := 0) rfl (.inl rfl)) pe_str noSl) pe_int (nomark _))
            (pss_cons (ps_set (i := 3) nd rfl (.inl rfl) (pe_op op_modN (pe_callTy call_int1 (by rfl) T.b_int (by decide +kernel) (pa_cons (pe_dget hu (pe_var (i := 0) rfl (.inl rfl)) pe_str noSl) pa_nil)) (pe_var (i := 1) rfl (.inl rfl))))
            (pss_cons (ps_dput hu (pe_var (i := 0) rfl (.inl rfl)) pe_str (pe_op op_fdivG (pe_dget hu (pe_var (i := 0) rfl (.inl rfl)) pe_str noSl) (pe_var (i := 1) rfl (.inl rfl))) rfl)
            (pss_one (ps_ret (pe_var (i := 3) rfl (.inl rfl)))))) pss_nil)
          (pss_cons (ps_set (i := 4) nd rfl (.inl rfl) (pe_op op_add (pe_op op_add (pe_dget hu (pe_var (i := 0) rfl (.inl rfl)) pe_str noSl) (pe_op op_mulW (pe_dget hu (pe_var (i := 0) rfl (.inl rfl)) pe_str noSl) pe_int)) pe_int))
          (pss_one (ps_ret (pe_op op_modN (pe_op op_fdivG (pe_callTy call_int1 (by rfl) T.b_int (by decide +kernel) (pa_cons (pe_op op_modN (pe_op op_pow (pe_var (i := 4) rfl (.inl rfl)) pe_int) pe_int) pa_nil)) pe_int) (pe_var (i := 1) rfl (.inl rfl)))))), ?_⟩
        intro σ k' dg' fd' hσ hσ1 hlen hk' hdg' hf0' hf1'
        have hp1 : upd H pa (.dK (penL ca k' dg' (ct + 1) fd')) pa = some (.dK (penL ca k' dg' (ct + 1) fd')) := upd_same
        have hmp : (0 : Int) < (many : Int) := by omega
        have fin : ∀ (dg'' : Int) (r : Int), 0 ≤ dg'' → 0 ≤ r → r < (many : Int) → Q (.int r) (upd H pa (.dK (penL ca k' dg'' (ct + 1) fd'))) := by
          intro dg'' r h1 h2 h3
          obtain ⟨d, rfl⟩ := Int.eq_ofNat_of_zero_le h2
          refine kk (.int (d : Int)) _ (.int (d : Int)) (b - 1) (fun a o ha na => by rw [upd_ne na]; exact ha) ⟨cells, k', dg'', ct + 1, fd', upd_same, by rw [upd_ne hne.symm]; exact hc, hk', hcl, h1, by omega, by omega, hf0', hf1'⟩ (.int _) (q d (by omega))
        have hmod : ∀ a : Int, 0 ≤ a.fmod (many : Int) ∧ a.fmod (many : Int) < (many : Int) := fun a => ⟨Int.fmod_nonneg_of_pos a hmp, Int.fmod_lt_of_pos a hmp⟩
        have hm2 : CDivG dg' (many : Int) := ⟨by omega, by
          have := log2_lt (n := many) (k := 20) (by omega) (by decide)
          rw [Int.natAbs_natCast]
          omega⟩
        refine rdP hσ hp1 pl_digits ⟨dg', 0, rfl, rfl, _, rfl, ite2 (fun e => ?_) (fun e => ?_)⟩
        · have hσ' : (σ.set 3 (some (.int (dg'.fmod (many : Int)))))[0]? = some (some (.ref pa)) := by rw [List.getElem?_set_ne (by decide)]; exact hσ
          have hσ1' : (σ.set 3 (some (.int (dg'.fmod (many : Int)))))[1]? = some (some (.int (many : Int))) := by rw [List.getElem?_set_ne (by decide)]; exact hσ1
          refine rdP hσ hp1 pl_digits (.inl ⟨dg', rfl, _, hσ1, dg', many, rfl, rfl, by omega, ?_⟩)
          refine rdP hσ' hp1 pl_digits ⟨_, hσ1', dg', many, rfl, rfl, hm2, ?_⟩
          refine wrP (L' := penL ca k' (dg'.fdiv (many : Int)) (ct + 1) fd') hσ' (by show 5 < 100; decide) hp1 pp_digits ?_
          refine ⟨_, List.getElem?_set_self (by rw [hlen]; decide), ?_⟩
          rw [upd_upd]
          refine fin _ _ ?_ (hmod _).1 (hmod _).2
          rw [Int.fdiv_eq_ediv_of_nonneg _ (by omega)]
          exact Int.ediv_nonneg hdg' (by omega)
        · refine rdP hσ hp1 pl_fold (rdP hσ hp1 pl_count ⟨ct + 1, 6421, rfl, rfl, ?_, fd', (ct + 1) * 6421, rfl, rfl, _, _, rfl, rfl, ?_⟩)
          · exact cmulW_of (k := 64) (l := 20) (by omega) (by decide) (by decide) (by decide) (by decide)
          · have hg : (σ.set 4 (some (.int (fd' + (ct + 1) * 6421 + 131))))[4]? = some (some (.int (fd' + (ct + 1) * 6421 + 131))) := List.getElem?_set_self (by rw [hlen]; decide)
            have hσ1' : (σ.set 4 (some (.int (fd' + (ct + 1) * 6421 + 131))))[1]? = some (some (.int (many : Int))) := by rw [List.getElem?_set_ne (by decide)]; exact hσ1
            refine ⟨_, hg, _, 47, rfl, rfl, ⟨by decide, by decide, by omega⟩, _, 2305843009213693951, rfl, rfl, (show (2305843009213693951 : Int) ≠ 0 by decide), .inl ⟨_, rfl, _, 512, rfl, rfl, ⟨by decide, by decide⟩, _, hσ1', _, many, rfl, rfl, by omega, ?_⟩⟩
            exact fin _ _ hdg' (hmod _).1 (hmod _).2
      refine ⟨_, pss_cons (ps_dput hu (pe_var (i := 0) rfl (.inl rfl)) pe_str (pe_op op_add (pe_dget hu (pe_var (i := 0) rfl (.inl rfl)) pe_str noSl) pe_int) rfl)
        (pss_cons (ps_if (PW.pt (pw_and (pt_cmpR op_eq (pe_dget hu (pe_var (i := 0) rfl (.inl rfl)) pe_str noSl) pe_int (nomark _)) (pw_and1 (pt_cmpR op_lt (pe_dget hu (pe_var (i := 0) rfl (.inl rfl)) pe_str noSl) (pe_callB call_len_seq (by rfl) T.b_len PySem.boot_len (pa_cons (pe_dget hu (pe_var (i := 0) rfl (.inl rfl)) pe_str noSl) pa_nil)) (nomark _)))))
          (pss_cons (ps_set (i := 2) nd rfl (.inl rfl) (pe_ix ix_list (pe_dget hu (pe_var (i := 0) rfl (.inl rfl)) pe_str noSl) (pe_dget hu (pe_var (i := 0) rfl (.inl rfl)) pe_str noSl) (fun _ _ => rfl)))
          (pss_cons (ps_dput hu (pe_var (i := 0) rfl (.inl rfl)) pe_str (pe_op op_add (pe_dget hu (pe_var (i := 0) rfl (.inl rfl)) pe_str noSl) pe_int) rfl)
          (pss_one (ps_if (pt_cmpR op_ge (pe_var (i := 2) rfl (.inl rfl)) (pe_op op_pow pe_int pe_int) (nomark _))
            (pss_one (ps_dput hu (pe_var (i := 0) rfl (.inl rfl)) pe_str (pe_op op_sub (pe_var (i := 2) rfl (.inl rfl)) (pe_op op_pow pe_int pe_int)) rfl))
            (pss_one (ps_dput hu (pe_var (i := 0) rfl (.inl rfl)) pe_str (pe_op op_modN (pe_callTy call_int1 (by rfl) T.b_int (by decide +kernel) (pa_cons (pe_op op_add (pe_op op_mulW (pe_dget hu (pe_var (i := 0) rfl (.inl rfl)) pe_str noSl) pe_int) (pe_var (i := 2) rfl (.inl rfl))) pa_nil)) pe_int) rfl)))))) pss_nil) htt), ?_⟩
      have h0 : (L2.start ["pen", "many", "cell", "digit", "blend"] [.ref pa, .int (many : Int)])[0]? = some (some (.ref pa)) := rfl
      refine rdP h0 hp pl_count ⟨ct, 1, rfl, rfl, ?_⟩
      refine wrP (L' := penL ca k dg (ct + 1) fdv) h0 (by show 5 < 100; decide) hp pp_count ?_
      have hp1 : upd H pa (.dK (penL ca k dg (ct + 1) fdv)) pa = some (.dK (penL ca k dg (ct + 1) fdv)) := upd_same
      have hc1 : ∀ L, upd H pa (.dK L) ca = some (.lst (cells.map V.int)) := fun L => by rw [upd_ne hne.symm]; exact hc
      have nocell : tt { nx := fun _ H' => Q .non H', rt := Q } (L2.start ["pen", "many", "cell", "digit", "blend"] [.ref pa, .int (many : Int)]) (upd H pa (.dK (penL ca k dg (ct + 1) fdv))) := hw _ k dg fdv h0 rfl rfl hk hdg hf0 hf1
      refine rdP h0 hp1 pl_digits ⟨rfl, _, rfl, ite2 (fun e1 => ?_) (fun e1 => ?_)⟩
      · refine rdP h0 hp1 pl_at (rdP h0 hp1 pl_cells ⟨ca, _, rfl, .inl (.of (hc1 _)), ?_⟩)
        refine ⟨k, _, rfl, rfl, _, rfl, ite2 (fun e2 => ?_) (fun e2 => ?_)⟩
        · rw [List.length_map] at e2
          have hk2 : k < cells.length := by
            have := of_decide_eq_true e2
            omega
          have hx : (cells.map V.int)[k]? = some (.int cells[k]) := by rw [List.getElem?_map, List.getElem?_eq_getElem hk2]; rfl
          generalize cells[k] = cell at hx
          refine rdP h0 hp1 pl_cells (rdP h0 hp1 pl_at ⟨ca, _, k, .int cell, rfl, rfl, .of (hc1 _), atI_nat hx, ?_⟩)
          have h0' : ((L2.start ["pen", "many", "cell", "digit", "blend"] [.ref pa, .int (many : Int)]).set 2 (some (.int cell)))[0]? = some (some (.ref pa)) := rfl
          refine rdP h0' hp1 pl_at ⟨k, 1, rfl, rfl, ?_⟩
          refine wrP (L' := penL ca ((k : Int) + 1) dg (ct + 1) fdv) h0' (by show 5 < 100; decide) hp1 pp_at ?_
          rw [upd_upd]
          have hp2 : upd H pa (.dK (penL ca ((k : Int) + 1) dg (ct + 1) fdv)) pa = some (.dK (penL ca ((k : Int) + 1) dg (ct + 1) fdv)) := upd_same
          refine ⟨.int cell, rfl, 10, 18, rfl, rfl, ⟨by decide, by decide, by decide⟩, cell, _, rfl, rfl, _, rfl, ite2 (fun e3 => ?_) (fun e3 => ?_)⟩
          · refine ⟨.int cell, rfl, 10, 18, rfl, rfl, ⟨by decide, by decide, by decide⟩, cell, _, rfl, rfl, ?_⟩
            refine wrP (L' := penL ca ((k : Int) + 1) (cell - 10 ^ (18 : Int).toNat) (ct + 1) fdv) h0' (by show 5 < 100; decide) hp2 pp_digits ?_
            rw [upd_upd]
            have := of_decide_eq_true e3
            exact hw _ (k + 1) _ fdv rfl rfl rfl (by omega) (by omega) hf0 hf1
          · refine rdP h0' hp2 pl_fold ⟨fdv, 30727, rfl, rfl, ?_, .int cell, rfl, _, cell, rfl, rfl, .inl ⟨_, rfl, _, 2147483179, rfl, rfl, (show (2147483179 : Int) ≠ 0 by decide), ?_⟩⟩
            · exact cmulW_of (k := 32) (l := 20) (by omega) (by decide) (by decide) (by decide) (by decide)
            · refine wrP (L' := penL ca ((k : Int) + 1) dg (ct + 1) ((fdv * 30727 + cell).fmod 2147483179)) h0' (by show 5 < 100; decide) hp2 pp_fold ?_
              rw [upd_upd]
              have f1 := Int.fmod_nonneg_of_pos (fdv * 30727 + cell) (show (0 : Int) < 2147483179 by decide)
              have f2 := Int.fmod_lt_of_pos (fdv * 30727 + cell) (show (0 : Int) < 2147483179 by decide)
              exact hw _ (k + 1) dg _ rfl rfl rfl (by omega) hdg f1 (by omega)
        · exact nocell
      · exact nocell
end
end En.K71
namespace En.K71
open PySem PySem.Spec PyProof.Rows L2 En
section
variable {P : Program} {w : World} {K : PySem.W.Frag} {mg : Str → Option Value} {base : Heap}
theorem df_false {x qual : Str} {st : Stmt} {f : Addr} {fd : FuncData} {N ps : List Str} (F : Fun K x qual st f fd) (S : FnScope N ps (defScope st)) (hm : mg x = some (.ref f)) (bd : Binds K fd ps []) : Df P w K mg base 1 x ps.length (fun _ _ _ => False) :=
  df_of (W := fun _ _ _ => False) F S hm bd (fun cdv A outer s H E hr p => ⟨fun pins s σ H D I ⟨_, _, _, _, _, h, _⟩ => h.elim⟩) (fun ds b Q hl h => h.elim)
theorem d_inT (T : TB K mg) (h : Dd K mg "in_tuples" (topS 6) ["value"]) : ∀ n, Df P w K mg base (n + 2) "in_tuples" 1 (p_inT n) := by
  obtain ⟨f, fd, hm, F, bd⟩ := h.ex
  have nd : (["value", "item"] : List Str).Nodup := by decide
  have S : FnScope ["value", "item"] ["value"] (defScope (topS 6)) := ⟨rfl, rfl, rfl, by decide +kernel, rfl, by decide +kernel, by decide +kernel⟩
  have step : ∀ (k : Nat) (q q' : Spec), Df P w K mg base k "in_tuples" 1 q → (∀ ds b Q, ds.length = 1 → q' ds b Q → W_in_tuples q { nx := fun _ b' => Q .non b', rt := Q } (ds.map Slot.v ++ List.replicate 1 .un) b) → Df P w K mg base (k + 1) "in_tuples" 1 q' := by
    intro k q q' D_in_tuples hp
    exact df_of (N := ["value", "item"]) (ps := ["value"]) (W := W_in_tuples q) F S hm bd
      (fun cdv A outer s H E hr => (qss_cons (qs_if (qt_not (qt_val (qe_isT2 (by rfl) T.b_isinstance (by rfl) T.b_tuple (by decide +kernel) (by rfl) T.b_list (by decide +kernel) is_tuple_list (qb_var 0)))) (qss_one (qs_ret (qe_var 0))) qss_nil) (qss_one (qs_ret (qe_tuple (by rfl) T.b_tuple (qf_comp (own := [("item", 1)]) (T := (.one 1)) rfl nd (qi_seq (qe_var 0)) (blkOk_by (by kernel_rfl)) (by decide) (hg_name 1 nd rfl) (fun _ _ _ _ _ => qts_nil) (fun _ _ _ _ _ => (qe_call D_in_tuples hr (by rfl) (qa_cons (qe_var 1) qa_nil)))).qe.b))))) hp
  intro n
  induction n with
  | zero => exact step 1 _ _ (df_false F S hm bd) hp_in_tuples0
  | succ n ih => exact step (n + 2) _ _ ih (hp_in_tuples n)
/-! ### the pen -/
def spPen (K : PySem.W.Frag) : Sp := fun vs H Q _ => ∃ (a : Addr) (ns : List Int), vs = [.ref a] ∧ SqL K H a (ns.map V.int) ∧ ns.length ≤ 63 ∧
  ∀ (H' : Hp) (p ca : Addr) (fd : Int), Same H H' → H p = none → H ca = none → p ≠ ca → H' p = some (.dK (penL ca 0 0 0 fd)) → H' ca = some (.lst (ns.map V.int)) → 0 ≤ fd → fd < 2 ^ 32 → Q (.ref p) H'
theorem ok_pen (T : TB K mg) {f : Addr} {fd : FuncData} (F : Fun K "_law_pen" "_law_pen" (topS 49) f fd) : FnOk P w K mg base CX0 1 f fd ["script"] (spPen K) := by
  have nd : (["script", "fold", "cell"] : List Str).Nodup := by decide
  refine F.ok (N := ["script", "fold", "cell"]) ⟨rfl, rfl, rfl, by decide +kernel, rfl, by decide +kernel, by decide +kernel⟩ (fun vs H Q E h => ?_) fun cdv A outer s H vs Q E hr h => ?_
  · obtain ⟨a, ns, rfl, _⟩ := h
    rfl
  · obtain ⟨a, ns, rfl, hS, hlen, q⟩ := h
    refine ⟨_, pss_cons (ps_set (i := 1) nd rfl (.inl rfl) pe_int)
      (pss_cons (ps_for PassesOwn.never rfl (pi_list (pe_var (i := 0) rfl (.inl rfl))) (pg_name (i := 2) nd rfl (.inl rfl))
        (pss_one (ps_set (i := 1) nd rfl (.inl rfl) (pe_op op_modN (pe_callTy call_int1 (by rfl) T.b_int (by decide +kernel) (pa_cons (pe_op op_add (pe_op op_mulW (pe_var (i := 1) rfl (.inl rfl)) pe_int) (pe_var (i := 2) rfl (.inl rfl))) pa_nil)) pe_int))))
      (pss_one (ps_ret (pe_disp (pps_cons pe_str (pe_callTy call_list_of (by rfl) T.b_list (by decide +kernel) (pa_cons (pe_var (i := 0) rfl (.inl rfl)) pa_nil)) (pps_cons pe_str pe_int (pps_cons pe_str pe_int (pps_cons pe_str pe_int (pps_cons pe_str (pe_var (i := 1) rfl (.inl rfl)) pps_nil))))) (by decide) (by decide) (by decide) (by decide))))), ?_⟩
    refine ⟨.ref a, rfl, a, rfl, ⟨_, hS⟩, fun i m σ H3 => ∃ (fd : Int) (y : Option V), σ = [some (.ref a), some (.int fd), y] ∧ i + m = ns.length ∧ H3 = H ∧ 0 ≤ fd ∧ fd < 2 ^ 32, ⟨ns.length, 0, none, rfl, by omega, rfl, by omega, by omega⟩, fun i m σ H3 hW => ?_⟩
    obtain ⟨fd, y, rfl, em, rfl, hf0, hf1⟩ := hW
    by_cases hi : i < ns.length
    · have g : (ns.map V.int)[i]? = some (.int ns[i]) := by
        rw [List.getElem?_map, List.getElem?_eq_getElem hi]
        rfl
      refine .inr ⟨⟨_, _, hS, g⟩, fun σ' H' => ∃ (fd : Int) (y : Option V), σ' = [some (.ref a), some (.int fd), y] ∧ H' = H3 ∧ 0 ≤ fd ∧ fd < 2 ^ 32, fun σ' H' hN => ?_, fun v H' hy => ?_⟩
      · obtain ⟨fd', y', e1, e2, e3, e4⟩ := hN
        exact ⟨m - 1, by omega, fd', y', e1, by omega, e2, e3, e4⟩
      · obtain ⟨rfl, fv⟩ := hy
        have ev : v = .int ns[i] := Option.some.inj ((fv _ hS).symm.trans g)
        subst ev
        generalize ns[i] = cell
        refine ⟨_, rfl, fd, 139, rfl, rfl, cmulW_of (k := 32) (l := 8) (by omega) (by decide) (by decide) (by decide) (by decide), .int cell, rfl, _, cell, rfl, rfl, .inl ⟨_, rfl, _, 999999491, rfl, rfl, (show (999999491 : Int) ≠ 0 by decide), ?_⟩⟩
        have f1 := Int.fmod_nonneg_of_pos (fd * 139 + cell) (show (0 : Int) < 999999491 by decide)
        have f2 := Int.fmod_lt_of_pos (fd * 139 + cell) (show (0 : Int) < 999999491 by decide)
        exact ⟨_, some (.int cell), rfl, rfl, f1, by omega⟩
    · refine .inl ⟨⟨_, hS, by rw [List.length_map]; omega⟩, fun p hp => ?_⟩
      have sm := same_new (o := .dK []) hp
      refine ⟨.ref a, rfl, a, _, rfl, .inl (sm.seq hS), fun l hl => ?_⟩
      have hlp : l ≠ p := fun z => by rw [z, upd_same] at hl; cases hl
      have hl0 : H3 l = none := by rw [upd_ne hlp] at hl; exact hl
      refine ⟨.int fd, rfl, by rw [upd_ne hlp.symm]; exact upd_same, [(.inr "cells", .ref l), (.inr "at", .int 0), (.inr "digits", .int 0), (.inr "count", .int 0), (.inr "fold", .int fd)], rfl, by show 5 ≤ 15; decide, ?_⟩
      refine q _ p l fd (fun b o e => ?_) hp hl0 hlp.symm upd_same ?_ hf0 hf1
      · rw [upd_ne (ne_of_none e hp), upd_ne (ne_of_none e hl0), upd_ne (ne_of_none e hp)]
        exact e
      · rw [upd_ne hlp]
        exact upd_same
/-! ### the law -/
def spLaw (K : PySem.W.Frag) : Sp := fun vs H Q _ => ∃ (a : Addr) (ns : List Int), vs = [.ref a] ∧ SqL K H a (ns.map V.int) ∧ ns.length ≤ 63 ∧ ∀ H', Q (.bl true) H'
theorem ok_law (T : TB K mg) (D__law_case : Df P w K mg base 40 "_law_case" 1 p__law_case) {f : Addr} {fd : FuncData} (F : Fun K "law" "law" (topS 70) f fd)
    {fP : Addr} {fdP : FuncData} (FP : Fun K "_law_pen" "_law_pen" (topS 49) fP fdP) (hmP : mg "_law_pen" = some (.ref fP)) (bdP : Binds K fdP ["script"] []) : FnOk P w K mg base CX0 41 f fd ["script"] (spLaw K) := by
  have nd : (["script", "pen", "lap"] : List Str).Nodup := by decide
  have GP : FnOk P w K mg base CX0 1 fP fdP ["script"] (spPen K) := ok_pen T FP
  refine F.ok (N := ["script", "pen", "lap"]) ⟨rfl, rfl, rfl, by decide +kernel, rfl, by decide +kernel, by decide +kernel⟩ (fun vs H Q E h => ?_) fun cdv A outer s H vs Q E hr h => ?_
  · obtain ⟨a, ns, rfl, _⟩ := h
    rfl
  · obtain ⟨a, ns, rfl, hS, hlen, q⟩ := h
    obtain ⟨restQ⟩ : Nonempty (PLift (QSs (cxOf CX0 P w K mg base ["script", "pen", "lap"] "law" (defScope (topS 70)) f cdv A outer s H E).nox ((defBody (topS 70)).drop 1) (wRet (wUn dAll (wFz (wComp [2] (.one 2) (wRng1 (wCons (wC (.int 4)) wNil)) wYes (wCall 1 p__law_case (wCons (wVar 1) wNil)))))))) := ⟨⟨(qss_one (qs_ret (qe_all rfl (by rfl) T.b_all (qf_comp (own := [("lap", 2)]) (T := (.one 2)) rfl nd (qi_range1 (by rfl) T.b_range (qa_cons qe_int qa_nil)) (blkOk_by (by kernel_rfl)) (by decide) (hg_name 2 nd rfl) (fun _ _ _ _ _ => qts_nil) (fun _ _ _ _ _ => (qe_call D__law_case (hr.mono (by decide)) (by rfl) (qa_cons (qe_var 1) qa_nil)))).qe.b)))⟩⟩
    have restP : PSs (cxOf CX0 P w K mg base ["script", "pen", "lap"] "law" (defScope (topS 70)) f cdv A outer s H E).nox ((defBody (topS 70)).drop 1) (fun D σ H => ∃ p, tS K mg p (wRet (wUn dAll (wFz (wComp [2] (.one 2) (wRng1 (wCons (wC (.int 4)) wNil)) wYes (wCall 1 p__law_case (wCons (wVar 1) wNil)))))) D σ H) := ⟨fun pins s σ H D I ⟨p, h⟩ => (restQ.down p).run pins s σ H D I h⟩
    refine ⟨_, pss_cons (ps_set (i := 1) nd rfl (by first | exact .inl rfl | exact .inr rfl) (pe_call GP (hr.mono (by decide)) (by rfl) hmP FP.kp bdP .nil pass0 (pa_cons (pe_var (i := 0) rfl (by first | exact Or.inl rfl | exact Or.inr (Or.inl rfl) | exact Or.inr (Or.inr rfl))) pa_nil))) restP, ?_⟩
    refine ⟨.ref a, rfl, a, ns, rfl, hS, hlen, fun H1 pa ca fdv sm np nc hne hp hc hf0 hf1 => ?_⟩
    refine ⟨⟨pa, ca, fun x => x = pa ∨ x = ca, H1, 3⟩, fun x => x = pa ∨ x = ca, [.un, .v .pen, .un], 2 ^ 40, { nx := fun _ _ => False, rt := fun d _ => d = .bl true }, ⟨fun _ h => h, fun x hx => ?_, .inl rfl, .inr rfl, ⟨ns, 0, 0, 0, fdv, hp, hc, Nat.zero_le _, hlen, by omega, by omega, by decide, hf0, hf1⟩, Ext.refl _ _, rfl, rfl, fun i s hs => ?_⟩, ?_, ⟨fun _ _ _ _ _ _ _ z => z.elim, fun _ _ _ _ _ _ _ z => z.elim, fun _ _ _ _ _ _ _ z => z.elim, fun v H' d b' fv _ _ e => ?_⟩⟩
    · rcases hx with rfl | rfl
      · rw [hp]; simp
      · rw [hc]; simp
    · have : i = 0 ∨ i = 1 ∨ i = 2 := by
        have := (List.getElem?_eq_some_iff.mp hs).1
        simp at this
        omega
      rcases this with rfl | rfl | rfl
      · simp at hs
        subst hs
        trivial
      · simp at hs
        subst hs
        exact ⟨.ref pa, rfl, .pen⟩
      · simp at hs
        subst hs
        trivial
    · (try simp only [wSeq, wSet, wSetO, wRet, wIfS, wFrz, wApp, wDrop, wNext, wBreak, wCont, wNever, wVar, wVarB, wC, wBin, wUn, wT, wAnd, wOr, wNot, wAndV, wOrV, wNotV, wIte, wNil, wCons, wTup, wCall, wListOf, wC2, wIsT, wIsC, wFld, wON, wOS, wSl, wV, wO, wSetIx, wPar, wSwap, wSeqOf, wRng1, wRng2, wFor, wWhile, wYes, wComp, wEnum, wZip, wEnum2, wRgT, wRgL, wAug, dMulT, dMax, wMake, wFz, wCat, wRep, wipeE, D.ty, wIf_true, wIf_false, List.getElem?_cons_zero, List.getElem?_cons_succ, List.set_cons_zero, List.set_cons_succ, dI0_ii, dI_ii, dNeg_i, dGcd_ii, dAbs_i, dInt_i, dInt_b, dBits_i, dLen_t, dLen_l, dTuple_t, dTuple_l, dAdd_ii, dAdd_tt, dAdd_ll, dAdd_ss, dMul_ii, dMul_li, dIs_n, dIs_b, dIsN_n, dRepr_b, rt_0, rt_1, dEq, dNe, dSub, dDiv, dDivU, dMod, dLt, dLe, dGt, dGe, D.isNon, Bool.not_true, Bool.not_false])
      refine ⟨⟨by decide, by decide⟩, by decide, ?_⟩
      refine cmp_any (fun (i : Nat) => D.int ((0 : Int) + (i : Int))) (fun _ y => y = .bl true) 100 (List.range (4 : Int).toNat) _ _ (by decide) (fun i hi => ⟨_, rfl, fun b1 K1 hb1 kk => ?_⟩) fun ys b1 hyl hyp hb1 => ?_
      · (try simp only [wSeq, wSet, wSetO, wRet, wIfS, wFrz, wApp, wDrop, wNext, wBreak, wCont, wNever, wVar, wVarB, wC, wBin, wUn, wT, wAnd, wOr, wNot, wAndV, wOrV, wNotV, wIte, wNil, wCons, wTup, wCall, wListOf, wC2, wIsT, wIsC, wFld, wON, wOS, wSl, wV, wO, wSetIx, wPar, wSwap, wSeqOf, wRng1, wRng2, wFor, wWhile, wYes, wComp, wEnum, wZip, wEnum2, wRgT, wRgL, wAug, dMulT, dMax, wMake, wFz, wCat, wRep, wipeE, D.ty, wIf_true, wIf_false, List.getElem?_cons_zero, List.getElem?_cons_succ, List.set_cons_zero, List.set_cons_succ, dI0_ii, dI_ii, dNeg_i, dGcd_ii, dAbs_i, dInt_i, dInt_b, dBits_i, dLen_t, dLen_l, dTuple_t, dTuple_l, dAdd_ii, dAdd_tt, dAdd_ll, dAdd_ss, dMul_ii, dMul_li, dIs_n, dIs_b, dIsN_n, dRepr_b, rt_0, rt_1, dEq, dNe, dSub, dDiv, dDivU, dMod, dLt, dLe, dGt, dGe, D.isNon, Bool.not_true, Bool.not_false])
        exact ⟨rfl, rfl, hb1, fun b' hb' => kk _ b' rfl hb'⟩
      · have e : ys = (List.replicate 4 true).map D.bl := by
          have h4 : ys.length = 4 := by simpa using hyl
          refine List.ext_getElem? fun i => ?_
          by_cases hi : i < 4
          · have h1 := hyp i i _ (List.getElem?_range (by simpa using hi)) (List.getElem?_eq_getElem (by omega))
            rw [List.getElem?_eq_getElem (by omega), h1]
            have h5 : i = 0 ∨ i = 1 ∨ i = 2 ∨ i = 3 := by omega
            rcases h5 with rfl | rfl | rfl | rfl <;> rfl
          · rw [List.getElem?_eq_none (by omega)]
            simp [hi]
        exact ⟨_, e, rfl⟩
    · subst e
      cases fv
      exact q _
end
end En.K71
namespace En.K71
open PySem PySem.Spec PyProof.Rows L2 En
section
variable {K : PySem.W.Frag} {mg : Str → Option Value} {h : Heap}
theorem dd_of {x : Str} {st : Stmt} {ps : List Str} {f : Addr} {od an : Option Addr} {sl : Array (Option Value)} {oc kV dc pm cd ct : Value} (X : K.In h) (G : h.Ns mainGlobals mg)
    (hb : ∀ (kV doc pm : Value) (an : Option Addr) (cdv ct : Value) (us : List Value), us.length = ps.length → bindArgs (PySem.W.fnOf x x (defArgs st) (defBody st) (defScope st) .none kV doc pm an cdv ct) ⟨us, []⟩ = pure (ps.zip us))
    (a : PySem.W.nsIn K mainGlobals x = some (some (.ref f))) (l : K.lookup f = some ⟨oc, od, .func (PySem.W.fnOf x x (defArgs st) (defBody st) (defScope st) .none kV dc pm an cd ct), sl⟩) (c : PySem.W.codeIn K cd x = true) (k : PySem.W.keepIn K (.ref f) = true) : Dd K mg x st ps :=
  ⟨f, _, PySem.W.mg_of X G a, fun_mk l c k, (fun_mk l c k).binds hb⟩
structure DdLaw (K : PySem.W.Frag) (mg : Str → Option Value) (st : Stmt) : Prop where
  ex : ∃ (f : Addr) (fd : FuncData), mg "law" = some (.ref f) ∧ Fun K "law" "law" st f fd ∧ ∀ (s : Shared) (v : Value), BindsTo s fd ⟨[v], []⟩ [("script", v)]
theorem ddlaw_of {st : Stmt} {f : Addr} {od an : Option Addr} {sl : Array (Option Value)} {oc kV dc pm cd ct : Value} (X : K.In h) (G : h.Ns mainGlobals mg)
    (hb : ∀ (kV doc pm : Value) (an : Option Addr) (cdv ct : Value) (s : Shared) (v : Value), BindsTo s (PySem.W.fnOf "law" "law" (defArgs st) (defBody st) (defScope st) .none kV doc pm an cdv ct) ⟨[v], []⟩ [("script", v)])
    (a : PySem.W.nsIn K mainGlobals "law" = some (some (.ref f))) (l : K.lookup f = some ⟨oc, od, .func (PySem.W.fnOf "law" "law" (defArgs st) (defBody st) (defScope st) .none kV dc pm an cd ct), sl⟩) (c : PySem.W.codeIn K cd "law" = true) (k : PySem.W.keepIn K (.ref f) = true) : DdLaw K mg st :=
  ⟨f, _, PySem.W.mg_of X G a, fun_mk l c k, hb _ _ _ _ _ _⟩
/-- a plain class with its making -/
structure Dc (K : PySem.W.Frag) (mg : Str → Option Value) (c qual : Str) (st : Stmt) (ps fs : List Str) : Prop where
  ex : ∃ (C f : Addr) (fd : FuncData), mg c = some (.ref C) ∧ Mk K C f ∧ ClsF K C ∧ (∀ f ∈ fs, NoAttr K C f) ∧ Fun K "__init__" qual st f fd ∧ Binds K fd ps []
theorem dc_of {c qual : Str} {st : Stmt} {ps fs : List Str} {C f : Addr} {od an : Option Addr} {sl : Array (Option Value)} {oc kV dc pm cd ct : Value} (X : K.In h) (G : h.Ns mainGlobals mg)
    (hb : ∀ (kV doc pm : Value) (an : Option Addr) (cdv ct : Value) (us : List Value), us.length = ps.length → bindArgs (PySem.W.fnOf "__init__" qual (defArgs st) (defBody st) (defScope st) .none kV doc pm an cdv ct) ⟨us, []⟩ = pure (ps.zip us))
    (aC : PySem.W.nsIn K mainGlobals c = some (some (.ref C)))
    (a1 : PySem.W.findIn K (.ref C) "__init__" = some (some (.ref f))) (i1 : PySem.W.isFn K (.ref f) = true) (l1 : K.lookup f = some ⟨oc, od, .func (PySem.W.fnOf "__init__" qual (defArgs st) (defBody st) (defScope st) .none kV dc pm an cd ct), sl⟩) (c1 : PySem.W.codeIn K cd qual = true) (k1 : PySem.W.keepIn K (.ref f) = true)
    (pg : PySem.W.plainGet K C Str.empty = true) (hd : PySem.W.hasDictIn K C = true) (po : PySem.W.plainOver K C = true) (sa : PySem.W.findIn K (.ref C) "__setattr__" = some (some (.builtin "object.__setattr__"))) (mk : PySem.W.makesIn K C = true) (kc : PySem.W.keepIn K (.ref C) = true)
    (ha : PySem.W.findIn K (.ref C) "__class__" = some (some (.builtin "object.__class__"))) (hn : PySem.W.specialIn K (.builtin "object.__class__") "__get__" = some (some (.builtin "getset_descriptor.__get__"))) (ht : PySem.W.takesIn K (.builtin "object.__class__") = some true) (hm : PySem.W.mroIn K C (.type "object") = some true)
    (na : ∀ f ∈ fs, NoAttr K C f) : Dc K mg c qual st ps fs :=
  ⟨C, f, _, PySem.W.mg_of X G aC, ⟨mk, a1, i1, kc⟩, ⟨⟨pg, hd, po, sa⟩, ha, hn, ht, hm⟩, na, fun_mk l1 c1 k1, (fun_mk l1 c1 k1).binds hb⟩
theorem ty_all {p : Ty → Prop} (a : p .non) (b : p .bl) (c : p .int) (d : p .str) (e : p .tup) (f : p .lst) : ∀ t, p t := fun t => by cases t <;> assumption
theorem vtup_of {x : Str} {a : Addr} {od : Option Addr} {sl : Array (Option Value)} {its : Array Value} {n : Nat} {xs : List V} {ds : List D} (X : K.In h) (G : h.Ns mainGlobals mg) (r : ∀ (pa : Addr) (B : Addr → Prop) (H : Hp), FRs K mg pa B H xs ds)
    (e : PySem.W.nsIn K mainGlobals x = some (some (.ref a))) (l : K.lookup a = some ⟨.type "tuple", od, .seq its n, sl⟩) (hz : its.size ≤ sizeLine) (v : Vals xs its.toList) :
    ∃ (v : V) (u : Value), mg x = some u ∧ RelV v u ∧ ∀ (pa : Addr) (B : Addr → Prop) (H : Hp), FR K mg pa B H v (.tup ds) :=
  ⟨.ref a, .ref a, PySem.W.mg_of X G e, rfl, fun pa B H => .tup (.inr ⟨_, its, n, l, rfl, rfl, hz, v⟩) (r pa B H)⟩
theorem vtup2_of {x : Str} {a : Addr} {od : Option Addr} {sl : Array (Option Value)} {i j : Int} {t u : Tok} {n : Nat} (X : K.In h) (G : h.Ns mainGlobals mg)
    (e : PySem.W.nsIn K mainGlobals x = some (some (.ref a))) (l : K.lookup a = some ⟨.type "tuple", od, .seq #[.int i t, .int j u] n, sl⟩) :
    ∃ (v : V) (u : Value), mg x = some u ∧ RelV v u ∧ ∀ (pa : Addr) (B : Addr → Prop) (H : Hp), FR K mg pa B H v (.tup [.int i, .int j]) :=
  ⟨.ref a, .ref a, PySem.W.mg_of X G e, rfl, fun pa B H => .tup (xs := [V.int i, V.int j]) (.inr ⟨_, _, n, l, rfl, rfl, by show 2 ≤ sizeLine; decide, .cons ⟨t, rfl⟩ (.cons ⟨u, rfl⟩ .nil)⟩) (.cons (.int i) (.cons (.int j) .nil))⟩
theorem kit1 {t : Value} {C : Addr} {b : Bool} (i : PySem.W.isClsIn K C = true) (ty : PySem.W.typeIn K (.ref C) = some (.type "type")) (ne : (t == Value.ref C) = false) (s : PySem.W.subIn K t (.ref C) = some b) : PySem.W.kitOne K t (.ref C) = some b := by
  unfold PySem.W.kitOne
  rw [ne, if_neg Bool.false_ne_true]
  have i' : (PySem.W.clsIn K C).isSome = true := i
  show (if ((PySem.W.clsIn K C).isSome && PySem.W.typeIn K (.ref C) == some (.type "type")) = true then PySem.W.subIn K t (.ref C) else none) = some b
  rw [i', ty]
  exact s
theorem isc_of {c : Str} {cls : List Str} {C : Addr} (X : K.In h) (G : h.Ns mainGlobals mg) (aC : PySem.W.nsIn K mainGlobals c = some (some (.ref C))) (i : PySem.W.isClsIn K C = true) (ty : PySem.W.typeIn K (.ref C) = some (.type "type"))
    (t1 : PySem.W.subIn K (.type "NoneType") (.ref C) = some false) (t2 : PySem.W.subIn K (.type "bool") (.ref C) = some false) (t3 : PySem.W.subIn K (.type "int") (.ref C) = some false) (t4 : PySem.W.subIn K (.type "str") (.ref C) = some false) (t5 : PySem.W.subIn K (.type "tuple") (.ref C) = some false) (t6 : PySem.W.subIn K (.type "list") (.ref C) = some false)
    (cc : ∀ c' ∈ cls, ∀ C', mg c' = some (.ref C') → PySem.W.kitOne K (.ref C') (.ref C) = some (c' == c)) : IsC K mg cls c :=
  ⟨C, PySem.W.mg_of X G aC, fun t => by cases t <;> exact kit1 i ty rfl (by assumption), cc⟩
theorem kit_same {c : Str} {C C' : Addr} (X : K.In h) (G : h.Ns mainGlobals mg) (hC : mg c = some (.ref C')) (n1 : PySem.W.nsIn K mainGlobals c = some (some (.ref C))) : PySem.W.kitOne K (.ref C') (.ref C) = some true := by
  have e := (PySem.W.mg_of X G n1).symm.trans hC
  cases e
  unfold PySem.W.kitOne
  rw [if_pos (by simp)]
theorem kit_of {c : Str} {a C C' : Addr} (X : K.In h) (G : h.Ns mainGlobals mg) (hC : mg c = some (.ref C')) (n1 : PySem.W.nsIn K mainGlobals c = some (some (.ref a))) (i : PySem.W.isClsIn K C = true) (ty : PySem.W.typeIn K (.ref C) = some (.type "type")) (s : PySem.W.subIn K (.ref a) (.ref C) = some false) (ne : (Value.ref a == Value.ref C) = false) : PySem.W.kitOne K (.ref C') (.ref C) = some false := by
  have e := (PySem.W.mg_of X G n1).symm.trans hC
  cases e
  exact kit1 i ty ne s
theorem vint_of {x : Str} {i : Int} {t : Tok} (X : K.In h) (G : h.Ns mainGlobals mg) (e : PySem.W.nsIn K mainGlobals x = some (some (.int i t))) :
    ∃ (v : V) (u : Value), mg x = some u ∧ RelV v u ∧ ∀ (pa : Addr) (B : Addr → Prop) (H : Hp), FR K mg pa B H v (.int i) :=
  ⟨.int i, _, PySem.W.mg_of X G e, ⟨t, rfl⟩, fun pa B H => .int i⟩
end
section
variable {P : Program} {w : World} {K : PySem.W.Frag} {mg : Str → Option Value} {base : Heap}
theorem d_M_AllLeft (T : TB K mg) (D_copied : Df P w K mg base 1 "copied" 1 p_copied) (h : Dc K mg "AllLeft" "AllLeft.__init__" (inClass (topS 37) 0) ["self", "row"] ["row"]) : MkOk P w K mg base 2 "AllLeft" ["row"] := by
  obtain ⟨C, f, fd, hm, mk, cf, na, F, bd⟩ := h.ex
  have nd : (["self", "row"] : List Str).Nodup := by decide
  refine mk_of (N := ["self", "row"]) (ps := ["self", "row"]) (W := (wInF "row" (wCall 1 p_copied (wCons (wVar 1) wNil)))) F ⟨rfl, rfl, rfl, by decide +kernel, rfl, by decide +kernel, by decide +kernel⟩ hm mk cf na bd rfl
    (fun cdv A outer s H E x dx p hr => pss_one (ps_in (C := C) (dx := dx) (x := x) (p := p) (qe_call D_copied (hr.mono (by decide)) (by rfl) (qa_cons (qe_var 1) qa_nil)) rfl (by first | exact Or.inl rfl | exact Or.inr (Or.inl rfl) | exact Or.inr (Or.inr rfl)) cf.cl (na _ (by decide)))) fun ds b hl hno => ?_
  match ds, hl, hno with
  | [d], _, hno =>
    have hd : d.ty.isSome = true := by simpa [noObj] using hno
    show wInF _ _ _ [.un, .v d] [] b
    (try simp only [wSeq, wSet, wSetO, wRet, wIfS, wFrz, wApp, wDrop, wNext, wBreak, wCont, wNever, wVar, wVarB, wC, wBin, wUn, wT, wAnd, wOr, wNot, wAndV, wOrV, wNotV, wIte, wNil, wCons, wTup, wCall, wListOf, wC2, wIsT, wIsC, wFld, wON, wOS, wSl, wV, wO, wSetIx, wPar, wSwap, wSeqOf, wRng1, wRng2, wFor, wWhile, wYes, wComp, wEnum, wZip, wEnum2, wRgT, wRgL, wAug, dMulT, dMax, wMake, wFz, wCat, wRep, wipeE, D.ty, wIf_true, wIf_false, List.getElem?_cons_zero, List.getElem?_cons_succ, List.set_cons_zero, List.set_cons_succ, dI0_ii, dI_ii, dNeg_i, dGcd_ii, dAbs_i, dInt_i, dInt_b, dBits_i, dLen_t, dLen_l, dTuple_t, dTuple_l, dAdd_ii, dAdd_tt, dAdd_ll, dAdd_ss, dMul_ii, dMul_li, dIs_n, dIs_b, dIsN_n, dRepr_b, rt_0, rt_1, dEq, dNe, dSub, dDiv, dDivU, dMod, dLt, dLe, dGt, dGe, D.isNon, Bool.not_true, Bool.not_false, wInF])
    exact ⟨rfl, d, rfl, hd, ⟨by simp, by decide⟩, rfl, rfl⟩
theorem d_M_NotLeft (T : TB K mg) (D_copied : Df P w K mg base 1 "copied" 1 p_copied) (h : Dc K mg "NotLeft" "NotLeft.__init__" (inClass (topS 38) 0) ["self", "many"] ["many"]) : MkOk P w K mg base 2 "NotLeft" ["many"] := by
  obtain ⟨C, f, fd, hm, mk, cf, na, F, bd⟩ := h.ex
  have nd : (["self", "many"] : List Str).Nodup := by decide
  refine mk_of (N := ["self", "many"]) (ps := ["self", "many"]) (W := (wInF "many" (wCall 1 p_copied (wCons (wVar 1) wNil)))) F ⟨rfl, rfl, rfl, by decide +kernel, rfl, by decide +kernel, by decide +kernel⟩ hm mk cf na bd rfl
    (fun cdv A outer s H E x dx p hr => pss_one (ps_in (C := C) (dx := dx) (x := x) (p := p) (qe_call D_copied (hr.mono (by decide)) (by rfl) (qa_cons (qe_var 1) qa_nil)) rfl (by first | exact Or.inl rfl | exact Or.inr (Or.inl rfl) | exact Or.inr (Or.inr rfl)) cf.cl (na _ (by decide)))) fun ds b hl hno => ?_
  match ds, hl, hno with
  | [d], _, hno =>
    have hd : d.ty.isSome = true := by simpa [noObj] using hno
    show wInF _ _ _ [.un, .v d] [] b
    (try simp only [wSeq, wSet, wSetO, wRet, wIfS, wFrz, wApp, wDrop, wNext, wBreak, wCont, wNever, wVar, wVarB, wC, wBin, wUn, wT, wAnd, wOr, wNot, wAndV, wOrV, wNotV, wIte, wNil, wCons, wTup, wCall, wListOf, wC2, wIsT, wIsC, wFld, wON, wOS, wSl, wV, wO, wSetIx, wPar, wSwap, wSeqOf, wRng1, wRng2, wFor, wWhile, wYes, wComp, wEnum, wZip, wEnum2, wRgT, wRgL, wAug, dMulT, dMax, wMake, wFz, wCat, wRep, wipeE, D.ty, wIf_true, wIf_false, List.getElem?_cons_zero, List.getElem?_cons_succ, List.set_cons_zero, List.set_cons_succ, dI0_ii, dI_ii, dNeg_i, dGcd_ii, dAbs_i, dInt_i, dInt_b, dBits_i, dLen_t, dLen_l, dTuple_t, dTuple_l, dAdd_ii, dAdd_tt, dAdd_ll, dAdd_ss, dMul_ii, dMul_li, dIs_n, dIs_b, dIsN_n, dRepr_b, rt_0, rt_1, dEq, dNe, dSub, dDiv, dDivU, dMod, dLt, dLe, dGt, dGe, D.isNon, Bool.not_true, Bool.not_false, wInF])
    exact ⟨rfl, d, rfl, hd, ⟨by simp, by decide⟩, rfl, rfl⟩
theorem all_mk {l : PySem.W.OpenLaw} {fa : Addr} (htree : l.prog.given.tree = none) (hfa : mg "law" = some (.ref fa)) (T : TB K mg)
    (hC_AllLeft : Dc K mg "AllLeft" "AllLeft.__init__" (inClass (topS 37) 0) ["self", "row"] ["row"])
    (I_AllLeft : IsC K mg clsL "AllLeft")
    (hC_NotLeft : Dc K mg "NotLeft" "NotLeft.__init__" (inClass (topS 38) 0) ["self", "many"] ["many"])
    (I_NotLeft : IsC K mg clsL "NotLeft")
    (h_copied : Dd K mg "copied" (topS 8) ["value"])
    (h_is_whole : Dd K mg "is_whole" (topS 5) ["value"])
    (h_is_tuple_of : Dd K mg "is_tuple_of" (topS 7) ["value", "many"])
    (h_is_pair : Dd K mg "is_pair" (topS 10) ["value"])
    (h_lowest : Dd K mg "lowest" (topS 11) ["top", "bottom"])
    (h_is_told : Dd K mg "is_told" (topS 12) ["value"])
    (h_summed : Dd K mg "summed" (topS 13) ["one", "other"])
    (h_lessened : Dd K mg "lessened" (topS 14) ["one", "other"])
    (h_scaled : Dd K mg "scaled" (topS 15) ["one", "other"])
    (h_parted : Dd K mg "parted" (topS 16) ["one", "other"])
    (h_turned_sign : Dd K mg "turned_sign" (topS 17) ["one"])
    (h_is_loose : Dd K mg "is_loose" (topS 21) ["value"])
    (h_told_ratio : Dd K mg "told_ratio" (topS 22) ["value"])
    (h_loose_row : Dd K mg "loose_row" (topS 23) ["value"])
    (h_is_ratio_row : Dd K mg "is_ratio_row" (topS 24) ["many", "value"])
    (h_less_row : Dd K mg "less_row" (topS 25) ["row", "other", "by"])
    (h_determinant_by : Dd K mg "determinant_by" (topS 26) ["table"])
    (h_corner_by : Dd K mg "corner_by" (topS 27) ["table", "rows", "columns"])
    (h_poly_from : Dd K mg "poly_from" (topS 30) ["polynomial", "least"])
    (h_trimmed : Dd K mg "trimmed" (topS 31) ["row"])
    (h_poly_less : Dd K mg "poly_less" (topS 32) ["one", "other"])
    (h_poly_times : Dd K mg "poly_times" (topS 33) ["one", "other"])
    (h_poly_by : Dd K mg "poly_by" (topS 34) ["row", "ratio"])
    (h_lead_from : Dd K mg "lead_from" (topS 39) ["polynomial"])
    (h_hurwitz_by : Dd K mg "hurwitz_by" (topS 40) ["row"])
    (h_first_minor : Dd K mg "first_minor" (topS 41) ["table", "many"])
    (h_not_left : Dd K mg "not_left" (topS 42) ["row"])
    (h_same_parity : Dd K mg "same_parity" (topS 43) ["row", "parity"])
    (h_built_from : Dd K mg "built_from" (topS 44) ["row"])
    (h_left_zeros : Dd K mg "left_zeros" (topS 45) ["polynomial"])
    (h_build_by : Dd K mg "build_by" (topS 46) ["row"])
    (h_is_left_zeros : Dd K mg "is_left_zeros" (topS 47) ["polynomial", "value"])
    (h__law_pick : Dd K mg "_law_pick" (topS 51) ["pen", "some"])
    (h__law_is_int : Dd K mg "_law_is_int" (topS 52) ["thing"])
    (h__law_gcd : Dd K mg "_law_gcd" (topS 53) ["one", "two"])
    (h__law_q : Dd K mg "_law_q" (topS 54) ["top", "bottom"])
    (h__law_plus : Dd K mg "_law_plus" (topS 55) ["one", "two"])
    (h__law_times : Dd K mg "_law_times" (topS 56) ["one", "two"])
    (h__law_minus : Dd K mg "_law_minus" (topS 57) ["one", "two"])
    (h__law_share : Dd K mg "_law_share" (topS 58) ["one", "two"])
    (h__law_is_told : Dd K mg "_law_is_told" (topS 59) ["thing"])
    (h__law_is_row : Dd K mg "_law_is_row" (topS 60) ["thing", "long"])
    (h__law_determinant : Dd K mg "_law_determinant" (topS 61) ["table"])
    (h__law_minor : Dd K mg "_law_minor" (topS 62) ["table", "rows", "columns"])
    (h__law_first_minor : Dd K mg "_law_first_minor" (topS 63) ["table", "many"])
    (h__law_rows_by : Dd K mg "_law_rows_by" (topS 64) ["polynomial"])
    (h__law_first_bad : Dd K mg "_law_first_bad" (topS 65) ["polynomial"])
    (h__law_build : Dd K mg "_law_build" (topS 66) ["row"])
    (h__law_is_built : Dd K mg "_law_is_built" (topS 67) ["polynomial", "value"])
    (h__law_due : Dd K mg "_law_due" (topS 68) ["row", "bad", "value"])
    (h__law_case : Dd K mg "_law_case" (topS 69) ["pen"])
    (h_in_tuples : Dd K mg "in_tuples" (topS 6) ["value"])
    (h__law_pen : Dd K mg "_law_pen" (topS 49) ["script"])
    (h__law_draw : Dd K mg "_law_draw" (topS 50) ["pen", "many"])
    (hlaw : DdLaw K mg (topS 70)) :
    ∃ fd : FuncData, (∀ (s : Shared) (v : Value), BindsTo s fd ⟨[v], []⟩ [("script", v)]) ∧ ∀ base : Heap, K.In base → base.Ns mainGlobals mg → base.NoSeer → FnOk l.prog w K mg base CX0 41 fa fd ["script"] (spLaw K) := by
  obtain ⟨f, fd, hm, F, hb⟩ := hlaw.ex
  obtain ⟨fP, fdP, hmP, FP, bdP⟩ := h__law_pen.ex
  have e := hfa.symm.trans hm
  cases e
  refine ⟨fd, hb, fun base _ _ seer => ?_⟩
  have Z : TZ l.prog base := ⟨htree, seer⟩
  have D_in_tuples := d_inT (P := l.prog) (w := w) (base := base) T h_in_tuples 9
  have D__law_draw := d__law_draw (P := l.prog) (w := w) (base := base) T h__law_draw
  have D_copied := d_copied (P := l.prog) (w := w) (base := base) T Z  h_copied
  have M_AllLeft := d_M_AllLeft (P := l.prog) (w := w) (base := base) T D_copied hC_AllLeft
  have M_NotLeft := d_M_NotLeft (P := l.prog) (w := w) (base := base) T D_copied hC_NotLeft
  have D_is_whole := d_is_whole (P := l.prog) (w := w) (base := base) T Z  h_is_whole
  have D_is_tuple_of := d_is_tuple_of (P := l.prog) (w := w) (base := base) T Z  h_is_tuple_of
  have D_is_pair := d_is_pair (P := l.prog) (w := w) (base := base) T Z D_is_whole h_is_pair
  have D_lowest := d_lowest (P := l.prog) (w := w) (base := base) T Z  h_lowest
  have D_is_told := d_is_told (P := l.prog) (w := w) (base := base) T Z D_is_pair h_is_told
  have D_summed := d_summed (P := l.prog) (w := w) (base := base) T Z D_lowest h_summed
  have D_lessened := d_lessened (P := l.prog) (w := w) (base := base) T Z D_lowest h_lessened
  have D_scaled := d_scaled (P := l.prog) (w := w) (base := base) T Z D_lowest h_scaled
  have D_parted := d_parted (P := l.prog) (w := w) (base := base) T Z D_lowest h_parted
  have D_turned_sign := d_turned_sign (P := l.prog) (w := w) (base := base) T Z  h_turned_sign
  have D_is_loose := d_is_loose (P := l.prog) (w := w) (base := base) T Z D_is_whole D_is_pair h_is_loose
  have D_told_ratio := d_told_ratio (P := l.prog) (w := w) (base := base) T Z D_is_whole D_lowest h_told_ratio
  have D_loose_row := d_loose_row (P := l.prog) (w := w) (base := base) T Z D_is_loose D_told_ratio h_loose_row
  have D_is_ratio_row := d_is_ratio_row (P := l.prog) (w := w) (base := base) T Z D_is_tuple_of D_is_told h_is_ratio_row
  have D_less_row := d_less_row (P := l.prog) (w := w) (base := base) T Z D_lessened D_scaled h_less_row
  have D_determinant_by := d_determinant_by (P := l.prog) (w := w) (base := base) T Z D_turned_sign D_scaled D_less_row D_parted h_determinant_by
  have D_corner_by := d_corner_by (P := l.prog) (w := w) (base := base) T Z  h_corner_by
  have D_poly_from := d_poly_from (P := l.prog) (w := w) (base := base) T Z D_loose_row D_in_tuples h_poly_from
  have D_trimmed := d_trimmed (P := l.prog) (w := w) (base := base) T Z  h_trimmed
  have D_poly_less := d_poly_less (P := l.prog) (w := w) (base := base) T Z D_trimmed D_lessened h_poly_less
  have D_poly_times := d_poly_times (P := l.prog) (w := w) (base := base) T Z D_summed D_scaled D_trimmed h_poly_times
  have D_poly_by := d_poly_by (P := l.prog) (w := w) (base := base) T Z D_trimmed D_scaled h_poly_by
  have D_lead_from := d_lead_from (P := l.prog) (w := w) (base := base) T Z D_poly_from h_lead_from
  have D_hurwitz_by := d_hurwitz_by (P := l.prog) (w := w) (base := base) T Z  h_hurwitz_by
  have D_first_minor := d_first_minor (P := l.prog) (w := w) (base := base) T Z D_determinant_by D_corner_by h_first_minor
  have D_not_left := d_not_left (P := l.prog) (w := w) (base := base) T Z D_hurwitz_by D_first_minor h_not_left
  have D_same_parity := d_same_parity (P := l.prog) (w := w) (base := base) T Z D_trimmed h_same_parity
  have D_built_from := d_built_from (P := l.prog) (w := w) (base := base) T Z D_poly_by D_same_parity D_parted D_poly_less D_poly_times h_built_from
  have D_left_zeros := d_left_zeros (P := l.prog) (w := w) (base := base) T Z D_lead_from D_not_left M_AllLeft D_built_from M_NotLeft h_left_zeros
  have D_build_by := d_build_by (P := l.prog) (w := w) (base := base) T Z D_poly_times D_poly_by D_summed h_build_by
  have D_is_left_zeros := d_is_left_zeros (P := l.prog) (w := w) (base := base) T Z D_lead_from D_is_whole D_not_left D_is_ratio_row D_poly_by D_build_by I_AllLeft I_NotLeft h_is_left_zeros
  have D__law_pick := d__law_pick (P := l.prog) (w := w) (base := base) T Z D__law_draw h__law_pick
  have D__law_is_int := d__law_is_int (P := l.prog) (w := w) (base := base) T Z  h__law_is_int
  have D__law_gcd := d__law_gcd (P := l.prog) (w := w) (base := base) T Z  h__law_gcd
  have D__law_q := d__law_q (P := l.prog) (w := w) (base := base) T Z D__law_gcd h__law_q
  have D__law_plus := d__law_plus (P := l.prog) (w := w) (base := base) T Z D__law_q h__law_plus
  have D__law_times := d__law_times (P := l.prog) (w := w) (base := base) T Z D__law_q h__law_times
  have D__law_minus := d__law_minus (P := l.prog) (w := w) (base := base) T Z D__law_q h__law_minus
  have D__law_share := d__law_share (P := l.prog) (w := w) (base := base) T Z D__law_q h__law_share
  have D__law_is_told := d__law_is_told (P := l.prog) (w := w) (base := base) T Z D__law_is_int D__law_gcd h__law_is_told
  have D__law_is_row := d__law_is_row (P := l.prog) (w := w) (base := base) T Z D__law_is_told h__law_is_row
  have D__law_determinant := d__law_determinant (P := l.prog) (w := w) (base := base) T Z D__law_minus D__law_times D__law_share h__law_determinant
  have D__law_minor := d__law_minor (P := l.prog) (w := w) (base := base) T Z D__law_determinant h__law_minor
  have D__law_first_minor := d__law_first_minor (P := l.prog) (w := w) (base := base) T Z D__law_minor h__law_first_minor
  have D__law_rows_by := d__law_rows_by (P := l.prog) (w := w) (base := base) T Z  h__law_rows_by
  have D__law_first_bad := d__law_first_bad (P := l.prog) (w := w) (base := base) T Z D__law_rows_by D__law_first_minor h__law_first_bad
  have D__law_build := d__law_build (P := l.prog) (w := w) (base := base) T Z D__law_times D__law_plus h__law_build
  have D__law_is_built := d__law_is_built (P := l.prog) (w := w) (base := base) T Z D__law_is_row D__law_build D__law_times h__law_is_built
  have D__law_due := d__law_due (P := l.prog) (w := w) (base := base) T Z D__law_is_int D__law_is_built I_AllLeft I_NotLeft h__law_due
  have D__law_case := d__law_case (P := l.prog) (w := w) (base := base) T Z D__law_draw D__law_q D__law_pick D__law_build D__law_times D__law_minus D__law_first_bad D_left_zeros M_AllLeft M_NotLeft D__law_plus D_is_left_zeros D__law_due h__law_case
  exact ok_law T D__law_case F FP hmP bdP
end
end En.K71
open PySem PySem.W PyProof.Rows
set_option maxRecDepth 100000 in
set_option maxHeartbeats 0 in
theorem PySem.Challenge.cw_everyminor_k71_zeros_to_the_left_judged_holds : PySem.Challenge.rw_everyminor_k71_zeros_to_the_left_judged.Holds := by
  w_on; o_law; k_head; (case hw => w_witness2)
  k_fill
  refine En.walk_seen (l := PySem.Challenge.rw_everyminor_k71_zeros_to_the_left_judged) (n := 63) (k := 41) (x := "script") (CX := fun _ => L2.CX0) (sp := fun w => En.K71.spLaw _) rfl (by decide) rfl (by decide +kernel) ⟨rfl, by decide, by decide⟩ (fun w h Y => PySem.W.kIn_of Y) ?F (fun _ _ a ns hl _ hS => ⟨a, ns, rfl, hS, hl, fun _ => rfl⟩) (fun _ _ _ _ _ h => h)
  case F =>
    intro w mg fa h KX G hmg
    refine' En.K71.all_mk rfl hmg ?T ?hC_AllLeft ?I_AllLeft ?hC_NotLeft ?I_NotLeft ?h_copied ?h_is_whole ?h_is_tuple_of ?h_is_pair ?h_lowest ?h_is_told ?h_summed ?h_lessened ?h_scaled ?h_parted ?h_turned_sign ?h_is_loose ?h_told_ratio ?h_loose_row ?h_is_ratio_row ?h_less_row ?h_determinant_by ?h_corner_by ?h_poly_from ?h_trimmed ?h_poly_less ?h_poly_times ?h_poly_by ?h_lead_from ?h_hurwitz_by ?h_first_minor ?h_not_left ?h_same_parity ?h_built_from ?h_left_zeros ?h_build_by ?h_is_left_zeros ?h__law_pick ?h__law_is_int ?h__law_gcd ?h__law_q ?h__law_plus ?h__law_times ?h__law_minus ?h__law_share ?h__law_is_told ?h__law_is_row ?h__law_determinant ?h__law_minor ?h__law_first_minor ?h__law_rows_by ?h__law_first_bad ?h__law_build ?h__law_is_built ?h__law_due ?h__law_case ?h_in_tuples ?h__law_pen ?h__law_draw ?hlaw
    case T =>
      refine' ⟨PySem.W.mg_none_of KX G ?b_isinstance, PySem.W.mg_none_of KX G ?b_int, PySem.W.mg_none_of KX G ?b_bool, PySem.W.mg_none_of KX G ?b_tuple, PySem.W.mg_none_of KX G ?b_list, PySem.W.mg_none_of KX G ?b_len, PySem.W.mg_none_of KX G ?b_abs, PySem.W.mg_none_of KX G ?b_range, PySem.W.mg_none_of KX G ?b_zip, PySem.W.mg_none_of KX G ?b_enumerate, PySem.W.mg_none_of KX G ?b_all, PySem.W.mg_none_of KX G ?b_any, PySem.W.mg_none_of KX G ?b_repr, PySem.W.mg_none_of KX G ?b_max, PySem.W.mg_of KX G ?b_gcd, En.K71.vtup2_of KX G ?e_NONE ?l_NONE, En.K71.vtup2_of KX G ?e_ONE ?l_ONE, En.K71.vint_of KX G ?e_MOST_ITEMS, En.K71.vint_of KX G ?e_MOST_DEGREE⟩
      (case b_isinstance => k_is); (case b_int => k_is); (case b_bool => k_is); (case b_tuple => k_is); (case b_list => k_is); (case b_len => k_is); (case b_abs => k_is); (case b_range => k_is); (case b_zip => k_is); (case b_enumerate => k_is); (case b_all => k_is); (case b_any => k_is); (case b_repr => k_is); (case b_max => k_is); (case b_gcd => k_is); (case e_NONE => k_is); (case l_NONE => k_is); (case e_ONE => k_is); (case l_ONE => k_is); (case e_MOST_ITEMS => k_is); (case e_MOST_DEGREE => k_is)
    case hC_AllLeft =>
      refine' En.K71.dc_of KX G (fun _ _ _ _ _ _ us hl => match us, hl with | [_, _], _ => rfl) ?aC ?a1 ?i1 ?l1 ?c1 ?k1 ?pg ?hd ?po ?sa ?mk ?kc ?ha ?hn ?ht ?hm ?na
      (case aC => k_is); (case a1 => k_is); (case i1 => k_is); (case l1 => k_is); (case c1 => k_is); (case k1 => k_is); (case pg => k_is); (case hd => k_is); (case po => k_is); (case sa => k_is); (case mk => k_is); (case kc => k_is); (case ha => k_is); (case hn => k_is); (case ht => k_is); (case hm => k_is)
      case na =>
        intro f hf
        simp only [List.mem_cons, List.not_mem_nil, or_false] at hf
        subst hf
        show PySem.W.findIn _ (.ref _) _ = some none
        k_is
    case hC_NotLeft =>
      refine' En.K71.dc_of KX G (fun _ _ _ _ _ _ us hl => match us, hl with | [_, _], _ => rfl) ?aC ?a1 ?i1 ?l1 ?c1 ?k1 ?pg ?hd ?po ?sa ?mk ?kc ?ha ?hn ?ht ?hm ?na
      (case aC => k_is); (case a1 => k_is); (case i1 => k_is); (case l1 => k_is); (case c1 => k_is); (case k1 => k_is); (case pg => k_is); (case hd => k_is); (case po => k_is); (case sa => k_is); (case mk => k_is); (case kc => k_is); (case ha => k_is); (case hn => k_is); (case ht => k_is); (case hm => k_is)
      case na =>
        intro f hf
        simp only [List.mem_cons, List.not_mem_nil, or_false] at hf
        subst hf
        show PySem.W.findIn _ (.ref _) _ = some none
        k_is
    case I_AllLeft =>
      refine' En.K71.isc_of KX G ?aC ?i ?ty ?t1 ?t2 ?t3 ?t4 ?t5 ?t6 ?cc
      (case aC => k_is); (case i => k_is); (case ty => k_is); (case t1 => k_is); (case t2 => k_is); (case t3 => k_is); (case t4 => k_is); (case t5 => k_is); (case t6 => k_is)
      case cc =>
        intro c' hc C' hC
        simp only [En.K71.clsL, List.mem_cons, List.not_mem_nil, or_false] at hc
        rcases hc with rfl | rfl
        · refine' En.K71.kit_same KX G hC ?n1
          (case n1 => k_is)
        · refine' En.K71.kit_of KX G hC ?n1 ?i ?ty ?s ?ne
          (case n1 => k_is); (case i => k_is); (case ty => k_is); (case s => k_is); (case ne => decide +kernel)
    case I_NotLeft =>
      refine' En.K71.isc_of KX G ?aC ?i ?ty ?t1 ?t2 ?t3 ?t4 ?t5 ?t6 ?cc
      (case aC => k_is); (case i => k_is); (case ty => k_is); (case t1 => k_is); (case t2 => k_is); (case t3 => k_is); (case t4 => k_is); (case t5 => k_is); (case t6 => k_is)
      case cc =>
        intro c' hc C' hC
        simp only [En.K71.clsL, List.mem_cons, List.not_mem_nil, or_false] at hc
        rcases hc with rfl | rfl
        · refine' En.K71.kit_of KX G hC ?n1 ?i ?ty ?s ?ne
          (case n1 => k_is); (case i => k_is); (case ty => k_is); (case s => k_is); (case ne => decide +kernel)
        · refine' En.K71.kit_same KX G hC ?n1
          (case n1 => k_is)
    case h_copied =>
      refine' En.K71.dd_of KX G (fun _ _ _ _ _ _ us hl => match us, hl with | [_], _ => rfl) ?a ?l ?c ?k
      (case a => k_is); (case l => k_is); (case c => k_is); (case k => k_is)
    case h_is_whole =>
      refine' En.K71.dd_of KX G (fun _ _ _ _ _ _ us hl => match us, hl with | [_], _ => rfl) ?a ?l ?c ?k
      (case a => k_is); (case l => k_is); (case c => k_is); (case k => k_is)
    case h_is_tuple_of =>
      refine' En.K71.dd_of KX G (fun _ _ _ _ _ _ us hl => match us, hl with | [_, _], _ => rfl) ?a ?l ?c ?k
      (case a => k_is); (case l => k_is); (case c => k_is); (case k => k_is)
    case h_is_pair =>
      refine' En.K71.dd_of KX G (fun _ _ _ _ _ _ us hl => match us, hl with | [_], _ => rfl) ?a ?l ?c ?k
      (case a => k_is); (case l => k_is); (case c => k_is); (case k => k_is)
    case h_lowest =>
      refine' En.K71.dd_of KX G (fun _ _ _ _ _ _ us hl => match us, hl with | [_, _], _ => rfl) ?a ?l ?c ?k
      (case a => k_is); (case l => k_is); (case c => k_is); (case k => k_is)
    case h_is_told =>
      refine' En.K71.dd_of KX G (fun _ _ _ _ _ _ us hl => match us, hl with | [_], _ => rfl) ?a ?l ?c ?k
      (case a => k_is); (case l => k_is); (case c => k_is); (case k => k_is)
    case h_summed =>
      refine' En.K71.dd_of KX G (fun _ _ _ _ _ _ us hl => match us, hl with | [_, _], _ => rfl) ?a ?l ?c ?k
      (case a => k_is); (case l => k_is); (case c => k_is); (case k => k_is)
    case h_lessened =>
      refine' En.K71.dd_of KX G (fun _ _ _ _ _ _ us hl => match us, hl with | [_, _], _ => rfl) ?a ?l ?c ?k
      (case a => k_is); (case l => k_is); (case c => k_is); (case k => k_is)
    case h_scaled =>
      refine' En.K71.dd_of KX G (fun _ _ _ _ _ _ us hl => match us, hl with | [_, _], _ => rfl) ?a ?l ?c ?k
      (case a => k_is); (case l => k_is); (case c => k_is); (case k => k_is)
    case h_parted =>
      refine' En.K71.dd_of KX G (fun _ _ _ _ _ _ us hl => match us, hl with | [_, _], _ => rfl) ?a ?l ?c ?k
      (case a => k_is); (case l => k_is); (case c => k_is); (case k => k_is)
    case h_turned_sign =>
      refine' En.K71.dd_of KX G (fun _ _ _ _ _ _ us hl => match us, hl with | [_], _ => rfl) ?a ?l ?c ?k
      (case a => k_is); (case l => k_is); (case c => k_is); (case k => k_is)
    case h_is_loose =>
      refine' En.K71.dd_of KX G (fun _ _ _ _ _ _ us hl => match us, hl with | [_], _ => rfl) ?a ?l ?c ?k
      (case a => k_is); (case l => k_is); (case c => k_is); (case k => k_is)
    case h_told_ratio =>
      refine' En.K71.dd_of KX G (fun _ _ _ _ _ _ us hl => match us, hl with | [_], _ => rfl) ?a ?l ?c ?k
      (case a => k_is); (case l => k_is); (case c => k_is); (case k => k_is)
    case h_loose_row =>
      refine' En.K71.dd_of KX G (fun _ _ _ _ _ _ us hl => match us, hl with | [_], _ => rfl) ?a ?l ?c ?k
      (case a => k_is); (case l => k_is); (case c => k_is); (case k => k_is)
    case h_is_ratio_row =>
      refine' En.K71.dd_of KX G (fun _ _ _ _ _ _ us hl => match us, hl with | [_, _], _ => rfl) ?a ?l ?c ?k
      (case a => k_is); (case l => k_is); (case c => k_is); (case k => k_is)
    case h_less_row =>
      refine' En.K71.dd_of KX G (fun _ _ _ _ _ _ us hl => match us, hl with | [_, _, _], _ => rfl) ?a ?l ?c ?k
      (case a => k_is); (case l => k_is); (case c => k_is); (case k => k_is)
    case h_determinant_by =>
      refine' En.K71.dd_of KX G (fun _ _ _ _ _ _ us hl => match us, hl with | [_], _ => rfl) ?a ?l ?c ?k
      (case a => k_is); (case l => k_is); (case c => k_is); (case k => k_is)
    case h_corner_by =>
      refine' En.K71.dd_of KX G (fun _ _ _ _ _ _ us hl => match us, hl with | [_, _, _], _ => rfl) ?a ?l ?c ?k
      (case a => k_is); (case l => k_is); (case c => k_is); (case k => k_is)
    case h_poly_from =>
      refine' En.K71.dd_of KX G (fun _ _ _ _ _ _ us hl => match us, hl with | [_, _], _ => rfl) ?a ?l ?c ?k
      (case a => k_is); (case l => k_is); (case c => k_is); (case k => k_is)
    case h_trimmed =>
      refine' En.K71.dd_of KX G (fun _ _ _ _ _ _ us hl => match us, hl with | [_], _ => rfl) ?a ?l ?c ?k
      (case a => k_is); (case l => k_is); (case c => k_is); (case k => k_is)
    case h_poly_less =>
      refine' En.K71.dd_of KX G (fun _ _ _ _ _ _ us hl => match us, hl with | [_, _], _ => rfl) ?a ?l ?c ?k
      (case a => k_is); (case l => k_is); (case c => k_is); (case k => k_is)
    case h_poly_times =>
      refine' En.K71.dd_of KX G (fun _ _ _ _ _ _ us hl => match us, hl with | [_, _], _ => rfl) ?a ?l ?c ?k
      (case a => k_is); (case l => k_is); (case c => k_is); (case k => k_is)
    case h_poly_by =>
      refine' En.K71.dd_of KX G (fun _ _ _ _ _ _ us hl => match us, hl with | [_, _], _ => rfl) ?a ?l ?c ?k
      (case a => k_is); (case l => k_is); (case c => k_is); (case k => k_is)
    case h_lead_from =>
      refine' En.K71.dd_of KX G (fun _ _ _ _ _ _ us hl => match us, hl with | [_], _ => rfl) ?a ?l ?c ?k
      (case a => k_is); (case l => k_is); (case c => k_is); (case k => k_is)
    case h_hurwitz_by =>
      refine' En.K71.dd_of KX G (fun _ _ _ _ _ _ us hl => match us, hl with | [_], _ => rfl) ?a ?l ?c ?k
      (case a => k_is); (case l => k_is); (case c => k_is); (case k => k_is)
    case h_first_minor =>
      refine' En.K71.dd_of KX G (fun _ _ _ _ _ _ us hl => match us, hl with | [_, _], _ => rfl) ?a ?l ?c ?k
      (case a => k_is); (case l => k_is); (case c => k_is); (case k => k_is)
    case h_not_left =>
      refine' En.K71.dd_of KX G (fun _ _ _ _ _ _ us hl => match us, hl with | [_], _ => rfl) ?a ?l ?c ?k
      (case a => k_is); (case l => k_is); (case c => k_is); (case k => k_is)
    case h_same_parity =>
      refine' En.K71.dd_of KX G (fun _ _ _ _ _ _ us hl => match us, hl with | [_, _], _ => rfl) ?a ?l ?c ?k
      (case a => k_is); (case l => k_is); (case c => k_is); (case k => k_is)
    case h_built_from =>
      refine' En.K71.dd_of KX G (fun _ _ _ _ _ _ us hl => match us, hl with | [_], _ => rfl) ?a ?l ?c ?k
      (case a => k_is); (case l => k_is); (case c => k_is); (case k => k_is)
    case h_left_zeros =>
      refine' En.K71.dd_of KX G (fun _ _ _ _ _ _ us hl => match us, hl with | [_], _ => rfl) ?a ?l ?c ?k
      (case a => k_is); (case l => k_is); (case c => k_is); (case k => k_is)
    case h_build_by =>
      refine' En.K71.dd_of KX G (fun _ _ _ _ _ _ us hl => match us, hl with | [_], _ => rfl) ?a ?l ?c ?k
      (case a => k_is); (case l => k_is); (case c => k_is); (case k => k_is)
    case h_is_left_zeros =>
      refine' En.K71.dd_of KX G (fun _ _ _ _ _ _ us hl => match us, hl with | [_, _], _ => rfl) ?a ?l ?c ?k
      (case a => k_is); (case l => k_is); (case c => k_is); (case k => k_is)
    case h__law_pick =>
      refine' En.K71.dd_of KX G (fun _ _ _ _ _ _ us hl => match us, hl with | [_, _], _ => rfl) ?a ?l ?c ?k
      (case a => k_is); (case l => k_is); (case c => k_is); (case k => k_is)
    case h__law_is_int =>
      refine' En.K71.dd_of KX G (fun _ _ _ _ _ _ us hl => match us, hl with | [_], _ => rfl) ?a ?l ?c ?k
      (case a => k_is); (case l => k_is); (case c => k_is); (case k => k_is)
    case h__law_gcd =>
      refine' En.K71.dd_of KX G (fun _ _ _ _ _ _ us hl => match us, hl with | [_, _], _ => rfl) ?a ?l ?c ?k
      (case a => k_is); (case l => k_is); (case c => k_is); (case k => k_is)
    case h__law_q =>
      refine' En.K71.dd_of KX G (fun _ _ _ _ _ _ us hl => match us, hl with | [_, _], _ => rfl) ?a ?l ?c ?k
      (case a => k_is); (case l => k_is); (case c => k_is); (case k => k_is)
    case h__law_plus =>
      refine' En.K71.dd_of KX G (fun _ _ _ _ _ _ us hl => match us, hl with | [_, _], _ => rfl) ?a ?l ?c ?k
      (case a => k_is); (case l => k_is); (case c => k_is); (case k => k_is)
    case h__law_times =>
      refine' En.K71.dd_of KX G (fun _ _ _ _ _ _ us hl => match us, hl with | [_, _], _ => rfl) ?a ?l ?c ?k
      (case a => k_is); (case l => k_is); (case c => k_is); (case k => k_is)
    case h__law_minus =>
      refine' En.K71.dd_of KX G (fun _ _ _ _ _ _ us hl => match us, hl with | [_, _], _ => rfl) ?a ?l ?c ?k
      (case a => k_is); (case l => k_is); (case c => k_is); (case k => k_is)
    case h__law_share =>
      refine' En.K71.dd_of KX G (fun _ _ _ _ _ _ us hl => match us, hl with | [_, _], _ => rfl) ?a ?l ?c ?k
      (case a => k_is); (case l => k_is); (case c => k_is); (case k => k_is)
    case h__law_is_told =>
      refine' En.K71.dd_of KX G (fun _ _ _ _ _ _ us hl => match us, hl with | [_], _ => rfl) ?a ?l ?c ?k
      (case a => k_is); (case l => k_is); (case c => k_is); (case k => k_is)
    case h__law_is_row =>
      refine' En.K71.dd_of KX G (fun _ _ _ _ _ _ us hl => match us, hl with | [_, _], _ => rfl) ?a ?l ?c ?k
      (case a => k_is); (case l => k_is); (case c => k_is); (case k => k_is)
    case h__law_determinant =>
      refine' En.K71.dd_of KX G (fun _ _ _ _ _ _ us hl => match us, hl with | [_], _ => rfl) ?a ?l ?c ?k
      (case a => k_is); (case l => k_is); (case c => k_is); (case k => k_is)
    case h__law_minor =>
      refine' En.K71.dd_of KX G (fun _ _ _ _ _ _ us hl => match us, hl with | [_, _, _], _ => rfl) ?a ?l ?c ?k
      (case a => k_is); (case l => k_is); (case c => k_is); (case k => k_is)
    case h__law_first_minor =>
      refine' En.K71.dd_of KX G (fun _ _ _ _ _ _ us hl => match us, hl with | [_, _], _ => rfl) ?a ?l ?c ?k
      (case a => k_is); (case l => k_is); (case c => k_is); (case k => k_is)
    case h__law_rows_by =>
      refine' En.K71.dd_of KX G (fun _ _ _ _ _ _ us hl => match us, hl with | [_], _ => rfl) ?a ?l ?c ?k
      (case a => k_is); (case l => k_is); (case c => k_is); (case k => k_is)
    case h__law_first_bad =>
      refine' En.K71.dd_of KX G (fun _ _ _ _ _ _ us hl => match us, hl with | [_], _ => rfl) ?a ?l ?c ?k
      (case a => k_is); (case l => k_is); (case c => k_is); (case k => k_is)
    case h__law_build =>
      refine' En.K71.dd_of KX G (fun _ _ _ _ _ _ us hl => match us, hl with | [_], _ => rfl) ?a ?l ?c ?k
      (case a => k_is); (case l => k_is); (case c => k_is); (case k => k_is)
    case h__law_is_built =>
      refine' En.K71.dd_of KX G (fun _ _ _ _ _ _ us hl => match us, hl with | [_, _], _ => rfl) ?a ?l ?c ?k
      (case a => k_is); (case l => k_is); (case c => k_is); (case k => k_is)
    case h__law_due =>
      refine' En.K71.dd_of KX G (fun _ _ _ _ _ _ us hl => match us, hl with | [_, _, _], _ => rfl) ?a ?l ?c ?k
      (case a => k_is); (case l => k_is); (case c => k_is); (case k => k_is)
    case h__law_case =>
      refine' En.K71.dd_of KX G (fun _ _ _ _ _ _ us hl => match us, hl with | [_], _ => rfl) ?a ?l ?c ?k
      (case a => k_is); (case l => k_is); (case c => k_is); (case k => k_is)
    case h_in_tuples =>
      refine' En.K71.dd_of KX G (fun _ _ _ _ _ _ us hl => match us, hl with | [_], _ => rfl) ?a ?l ?c ?k
      (case a => k_is); (case l => k_is); (case c => k_is); (case k => k_is)
    case h__law_pen =>
      refine' En.K71.dd_of KX G (fun _ _ _ _ _ _ us hl => match us, hl with | [_], _ => rfl) ?a ?l ?c ?k
      (case a => k_is); (case l => k_is); (case c => k_is); (case k => k_is)
    case h__law_draw =>
      refine' En.K71.dd_of KX G (fun _ _ _ _ _ _ us hl => match us, hl with | [_, _], _ => rfl) ?a ?l ?c ?k
      (case a => k_is); (case l => k_is); (case c => k_is); (case k => k_is)
    case hlaw =>
      refine' En.K71.ddlaw_of KX G (fun _ _ _ _ _ _ _ _ => .of_eq rfl) ?a ?l ?c ?k
      (case a => k_is); (case l => k_is); (case c => k_is); (case k => k_is)
