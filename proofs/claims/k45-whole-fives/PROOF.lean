import PyProof.Rows.All
import Wide.All
import OpenK.AllK
import Wide.FinOn
import HandS.ForMost
import HandS.Wide
import HandS.WideBits
import HandS.Star
import HandS.TupAny
import HandS.TupLe
import HandS.TupMul
import HandS.Style
import HandS.SortInts
import HandS.SortRule
import HandS.IsInst
import HandS.RaiseMore
import HandS.Zip
import HandS.Rev
import HandS.Deep
import HandS.Flow
import HandS.Walk
import PySem.Challenge.RW_letparts_k45_whole_fives

/-! ## EngA.lean -/
set_option Elab.async false
set_option linter.all false
set_option maxRecDepth 100000
namespace MP
open PySem PySem.Spec PyProof.Rows L2

/-! ### data: values that never change -/
inductive D where
  | non | bl (b : Bool) | int (i : Int) | str (x : Str) | tup (xs : List D) | lst (xs : List D)
  | rep (d : D)          -- the text repr(d)
  | scr (ns : List Int)  -- the script: a list of ints that is read alone
  deriving Inhabited

mutual
def eqD : D → D → Bool
  | .non, .non => true
  | .bl a, .bl b => a == b
  | .int a, .int b => a == b
  | .str a, .str b => a == b
  | .tup a, .tup b => eqDs a b
  | .lst a, .lst b => eqDs a b
  | .rep a, .rep b => eqD a b
  | .scr a, .scr b => a == b
  | _, _ => false
def eqDs : List D → List D → Bool
  | [], [] => true
  | x :: xs, y :: ys => eqD x y && eqDs xs ys
  | _, _ => false
end
mutual
theorem eqD_iff : ∀ a b : D, eqD a b = true ↔ a = b
  | .non, b => by cases b <;> simp [eqD]
  | .bl _, b => by cases b <;> simp [eqD]
  | .int _, b => by cases b <;> simp [eqD]
  | .str _, b => by cases b <;> simp [eqD]
  | .tup a, b => by cases b <;> simp [eqD, eqDs_iff a]
  | .lst a, b => by cases b <;> simp [eqD, eqDs_iff a]
  | .rep a, b => by cases b <;> simp [eqD, eqD_iff a]
  | .scr _, b => by cases b <;> simp [eqD]
theorem eqDs_iff : ∀ a b : List D, eqDs a b = true ↔ a = b
  | [], b => by cases b <;> simp [eqDs]
  | x :: xs, b => by cases b <;> simp [eqDs, eqD_iff x, eqDs_iff xs]
end
instance : DecidableEq D := fun a b => decidable_of_iff _ (eqD_iff a b)

mutual
def toPy : D → PyData
  | .non => .none
  | .bl b => .bool b
  | .int i => .int i
  | .str x => .str x
  | .tup xs => .tuple (toPys xs)
  | .lst xs => .list (toPys xs)
  | .rep d => .str (toPy d).shown
  | .scr ns => .list (ns.map .int)
def toPys : List D → List PyData
  | [] => []
  | x :: xs => toPy x :: toPys xs
end

/-! ### Python's == on data: none where this text does not say -/
mutual
def pyEq : D → D → Option Bool
  | .bl _, .int _ => none
  | .int _, .bl _ => none
  | .rep a, .rep b => if eqD a b then some true else none
  | .rep _, .str _ => none
  | .str _, .rep _ => none
  | .scr _, _ => none
  | _, .scr _ => none
  | .non, .non => some true
  | .bl a, .bl b => some (a == b)
  | .int a, .int b => some (a == b)
  | .str a, .str b => some (a == b)
  | .tup a, .tup b => pyEqs a b
  | .lst a, .lst b => pyEqs a b
  | _, _ => some false
def pyEqs : List D → List D → Option Bool
  | [], [] => some true
  | x :: xs, y :: ys => match pyEq x y with
    | none => none
    | some b => match pyEqs xs ys with
      | none => none
      | some c => some (b && c)
  | _, _ => some false
end
mutual
theorem pyEq_ok : ∀ (a b : D) (r : Bool), pyEq a b = some r → PyData.eqv (toPy a) (toPy b) = r
  | .non, b, r, h => by cases b <;> simp_all [pyEq, toPy, PyData.eqv]
  | .bl _, b, r, h => by cases b <;> simp_all [pyEq, toPy, PyData.eqv]
  | .int _, b, r, h => by cases b <;> simp_all [pyEq, toPy, PyData.eqv]
  | .str _, b, r, h => by cases b <;> simp_all [pyEq, toPy, PyData.eqv]
  | .tup a, b, r, h => by
    cases b <;> simp_all [pyEq, toPy, PyData.eqv]
    exact pyEqs_ok a _ r h
  | .lst a, b, r, h => by
    cases b <;> simp_all [pyEq, toPy, PyData.eqv]
    exact pyEqs_ok a _ r h
  | .rep a, b, r, h => by
    cases b <;> simp_all [pyEq, toPy, PyData.eqv]
    have := (eqD_iff _ _).mp h.1
    rw [this]
  | .scr _, b, r, h => by cases b <;> simp_all [pyEq]
theorem pyEqs_ok : ∀ (a b : List D) (r : Bool), pyEqs a b = some r → PyData.eqvAll (toPys a) (toPys b) = r
  | [], b, r, h => by cases b <;> simp_all [pyEqs, toPys, PyData.eqvAll]
  | x :: xs, b, r, h => by
    cases b with
    | nil => simp_all [pyEqs, toPys, PyData.eqvAll]
    | cons y ys =>
      simp only [pyEqs] at h
      cases e1 : pyEq x y with
      | none => rw [e1] at h; cases h
      | some b1 =>
        rw [e1] at h
        cases e2 : pyEqs xs ys with
        | none => rw [e2] at h; cases h
        | some b2 =>
          rw [e2] at h
          simp only [Option.some.injEq] at h
          simp only [toPys, PyData.eqvAll, pyEq_ok x y b1 e1, pyEqs_ok xs ys b2 e2, h]
end
end MP

/-! ## EngB.lean -/
set_option Elab.async false
set_option linter.all false
set_option maxRecDepth 100000
namespace MP
open PySem PySem.Spec PyProof.Rows L2

abbrev Fr' := PySem.W.Frag
/-- a written object of the module -/
def KL (K : PySem.W.Frag) (a : Addr) (xs : List V) : Prop :=
  ∃ (o : Obj) (its : Array Value) (n : Nat), K.lookup a = some o ∧ o.cls = .type "list" ∧ o.dict = none ∧ o.data = .seq its n ∧ its.size ≤ sizeLine ∧ Vals xs its.toList

/-- addresses that the data must not lean on: the lists that may change, and the new ones -/
abbrev Av := Addr → Prop
mutual
def RepD (K : PySem.W.Frag) (H : Hp) (av : Av) : D → V → Prop
  | .non, v => v = .non
  | .bl b, v => v = .bl b
  | .int i, v => v = .int i
  | .str x, v => v = .str x
  | .rep d, v => v = .str (toPy d).shown
  | .tup xs, v => ∃ a vs, v = .ref a ∧ H a = some (.tup vs) ∧ ¬ av a ∧ RepDs K H av xs vs
  | .lst xs, v => ∃ a vs, v = .ref a ∧ H a = some (.lst vs) ∧ ¬ av a ∧ RepDs K H av xs vs
  | .scr ns, v => ∃ a, v = .ref a ∧ ((Rd H a (.lst (ns.map V.int)) ∧ ¬ av a) ∨ KL K a (ns.map V.int))
def RepDs (K : PySem.W.Frag) (H : Hp) (av : Av) : List D → List V → Prop
  | [], vs => vs = []
  | x :: xs, vs => ∃ v r, vs = v :: r ∧ RepD K H av x v ∧ RepDs K H av xs r
end
section
variable {K : PySem.W.Frag} {H H' : Hp} {av av' : Av}
mutual
theorem RepD.mono (m : ∀ a o, H a = some o → ¬ av a → H' a = some o ∧ ¬ av' a) : ∀ (d : D) (v : V), RepD K H av d v → RepD K H' av' d v
  | .non, _, h => h
  | .bl _, _, h => h
  | .int _, _, h => h
  | .str _, _, h => h
  | .rep _, _, h => h
  | .tup xs, v, h => by
    obtain ⟨a, vs, e, h1, n, h2⟩ := h
    exact ⟨a, vs, e, (m _ _ h1 n).1, (m _ _ h1 n).2, RepDs.mono m xs vs h2⟩
  | .lst xs, v, h => by
    obtain ⟨a, vs, e, h1, n, h2⟩ := h
    exact ⟨a, vs, e, (m _ _ h1 n).1, (m _ _ h1 n).2, RepDs.mono m xs vs h2⟩
  | .scr ns, v, h => by
    obtain ⟨a, e, h1⟩ := h
    refine ⟨a, e, ?_⟩
    rcases h1 with ⟨r | ⟨o, r⟩, n⟩ | k
    · exact .inl ⟨.inl (m _ _ r n).1, (m _ _ r n).2⟩
    · exact .inl ⟨.inr ⟨o, (m _ _ r n).1⟩, (m _ _ r n).2⟩
    · exact .inr k
theorem RepDs.mono (m : ∀ a o, H a = some o → ¬ av a → H' a = some o ∧ ¬ av' a) : ∀ (xs : List D) (vs : List V), RepDs K H av xs vs → RepDs K H' av' xs vs
  | [], _, h => h
  | x :: xs, vs, h => by
    obtain ⟨v, r, e, h1, h2⟩ := h
    exact ⟨v, r, e, RepD.mono m x v h1, RepDs.mono m xs r h2⟩
end
theorem RepD.lessAv (m : ∀ a, av' a → av a) {d : D} {v : V} (h : RepD K H av d v) : RepD K H av' d v := RepD.mono (fun a o e n => ⟨e, fun q => n (m a q)⟩) d v h
theorem RepDs.lessAv (m : ∀ a, av' a → av a) {d : List D} {v : List V} (h : RepDs K H av d v) : RepDs K H av' d v := RepDs.mono (fun a o e n => ⟨e, fun q => n (m a q)⟩) d v h
theorem RepDs.length : ∀ {xs : List D} {vs : List V}, RepDs K H av xs vs → vs.length = xs.length
  | [], _, h => by cases h; rfl
  | _ :: xs, _, h => by
    obtain ⟨v, r, e, _, h2⟩ := h
    subst e
    simp [RepDs.length h2]
theorem RepDs.append : ∀ {xs ys : List D} {vs us : List V}, RepDs K H av xs vs → RepDs K H av ys us → RepDs K H av (xs ++ ys) (vs ++ us)
  | [], _, _, _, h, h' => by cases h; exact h'
  | _ :: xs, _, _, _, h, h' => by
    obtain ⟨v, r, e, h1, h2⟩ := h
    subst e
    exact ⟨v, _, rfl, h1, RepDs.append h2 h'⟩
theorem RepDs.get : ∀ {xs : List D} {vs : List V} {i : Nat} {x : D}, RepDs K H av xs vs → xs[i]? = some x → ∃ v, vs[i]? = some v ∧ RepD K H av x v
  | [], _, _, _, _, e => by simp at e
  | y :: xs, _, 0, x, h, e => by
    obtain ⟨v, r, rfl, h1, h2⟩ := h
    simp at e; subst e
    exact ⟨v, rfl, h1⟩
  | y :: xs, _, i + 1, x, h, e => by
    obtain ⟨v, r, rfl, h1, h2⟩ := h
    obtain ⟨u, q1, q2⟩ := RepDs.get (i := i) (x := x) h2 (by simpa using e)
    exact ⟨u, by simpa using q1, q2⟩
theorem RepDs.getV : ∀ {xs : List D} {vs : List V} {i : Nat} {v : V}, RepDs K H av xs vs → vs[i]? = some v → ∃ x, xs[i]? = some x ∧ RepD K H av x v
  | [], _, _, _, h, e => by cases h; simp at e
  | y :: xs, _, 0, x, h, e => by
    obtain ⟨v, r, rfl, h1, h2⟩ := h
    simp at e; subst e
    exact ⟨y, rfl, h1⟩
  | y :: xs, _, i + 1, x, h, e => by
    obtain ⟨v, r, rfl, h1, h2⟩ := h
    obtain ⟨u, q1, q2⟩ := RepDs.getV (i := i) h2 (by simpa using e)
    exact ⟨u, by simpa using q1, q2⟩
theorem RepDs.drop : ∀ (n : Nat) {xs : List D} {vs : List V}, RepDs K H av xs vs → RepDs K H av (xs.drop n) (vs.drop n)
  | 0, _, _, h => h
  | n + 1, [], _, h => by cases h; simp [RepDs]
  | n + 1, x :: xs, _, h => by
    obtain ⟨v, r, rfl, h1, h2⟩ := h
    exact RepDs.drop n h2
theorem RepDs.take : ∀ (n : Nat) {xs : List D} {vs : List V}, RepDs K H av xs vs → RepDs K H av (xs.take n) (vs.take n)
  | 0, _, _, h => by simp [RepDs]
  | n + 1, [], _, h => by cases h; simp [RepDs]
  | n + 1, x :: xs, _, h => by
    obtain ⟨v, r, rfl, h1, h2⟩ := h
    exact ⟨v, _, rfl, h1, RepDs.take n h2⟩
theorem RepDs.set : ∀ {xs : List D} {vs : List V} (i : Nat) {x : D} {v : V}, RepDs K H av xs vs → RepD K H av x v → RepDs K H av (xs.set i x) (vs.set i v)
  | [], _, _, _, _, h, _ => by cases h; simp [RepDs]
  | y :: xs, _, 0, x, v, h, h' => by
    obtain ⟨w, r, rfl, h1, h2⟩ := h
    exact ⟨v, r, rfl, h', h2⟩
  | y :: xs, _, i + 1, x, v, h, h' => by
    obtain ⟨w, r, rfl, h1, h2⟩ := h
    exact ⟨w, _, rfl, h1, RepDs.set i h2 h'⟩
theorem RepDs.rep {xs : List D} {vs : List V} (h : RepDs K H av xs vs) : ∀ k : Nat, RepDs K H av (List.replicate k xs).flatten (List.replicate k vs).flatten
  | 0 => by simp [RepDs]
  | k + 1 => by
    simp only [List.replicate_succ, List.flatten_cons]
    exact RepDs.append h (RepDs.rep h k)
theorem RepDs.ints : ∀ {ns : List Int} {vs : List V}, RepDs K H av (ns.map D.int) vs → vs = ns.map V.int
  | [], _, h => h
  | n :: ns, _, h => by
    obtain ⟨v, r, rfl, h1, h2⟩ := h
    rw [RepDs.ints h2]
    simp only [RepD] at h1
    rw [h1]; rfl
theorem RepDs.ofInts : ∀ (ns : List Int), RepDs K H av (ns.map D.int) (ns.map V.int)
  | [] => by simp [RepDs]
  | n :: ns => ⟨_, _, rfl, rfl, RepDs.ofInts ns⟩
theorem RepDs.bls : ∀ {ns : List Bool} {vs : List V}, RepDs K H av (ns.map D.bl) vs → vs = ns.map V.bl
  | [], _, h => h
  | n :: ns, _, h => by
    obtain ⟨v, r, rfl, h1, h2⟩ := h
    rw [RepDs.bls h2]
    simp only [RepD] at h1
    rw [h1]; rfl
theorem KL.sq {a : Addr} {vs : List V} (h : KL K a vs) : SqL K H a vs := .inr h
theorem sqL_of {a : Addr} {vs : List V} (h : (Rd H a (.lst vs) ∧ ¬ av a) ∨ KL K a vs) : SqL K H a vs := h.elim (fun h => .inl h.1) .inr
mutual
theorem RepD.dp : ∀ (d : D) (v : V), RepD K H av d v → Dp K H v (toPy d)
  | .non, _, h => by cases h; exact .non
  | .bl _, _, h => by cases h; exact .bl _
  | .int _, _, h => by cases h; exact .int _
  | .str _, _, h => by cases h; exact .str _
  | .rep _, _, h => by cases h; exact .str _
  | .tup xs, v, h => by
    obtain ⟨a, vs, rfl, h1, _, h2⟩ := h
    exact .tup (.of h1) (RepDs.dp xs vs h2)
  | .lst xs, v, h => by
    obtain ⟨a, vs, rfl, h1, n, h2⟩ := h
    exact .lst (.of h1) (RepDs.dp xs vs h2)
  | .scr ns, v, h => by
    obtain ⟨a, rfl, h1⟩ := h
    refine Dp.lst (sqL_of h1) ?_
    clear h1
    induction ns with
    | nil => exact DpAll.nil
    | cons n ns ih => exact DpAll.cons (.int n) ih
theorem RepDs.dp : ∀ (d : List D) (v : List V), RepDs K H av d v → DpAll K H v (toPys d)
  | [], _, h => by cases h; exact .nil
  | x :: xs, _, h => by
    obtain ⟨v, r, rfl, h1, h2⟩ := h
    exact .cons (RepD.dp x v h1) (RepDs.dp xs r h2)
end
end

/-! ### values of the evaluator, its heap -/
inductive Val where
  | p (d : D)            -- data
  | loc (n : Nat)        -- a list of the evaluator's heap
  | new (xs : List D)    -- a new list that nothing else holds
  deriving Inhabited
inductive O where
  | lst (k : Bool) (xs : List D)    -- k: a loop walks it: read alone
  | ref (k : Bool) (ns : List Nat)  -- a list of lists
  deriving Inhabited
abbrev Hs := List O
abbrev Env' := List (Option Val)

/-- a step of the state -/
structure Stp (ι : List Addr) (av : Av) (H : Hp) (ι' : List Addr) (av' : Av) (H' : Hp) : Prop where
  ext : ∃ κ, ι' = ι ++ κ ∧ ∀ a ∈ κ, H a = none
  keep : ∀ a o, H a = some o → a ∉ ι → H' a = some o
  alive : ∀ a, H a ≠ none → H' a ≠ none
  avs : ∀ a, av' a → av a ∨ H a = none
  avm : ∀ a, av a → av' a
structure SimH (K : PySem.W.Frag) (h : Hs) (ι : List Addr) (av : Av) (H : Hp) : Prop where
  len : ι.length = h.length
  nd : ι.Nodup
  sub : ∀ a ∈ ι, av a
  live : ∀ a, av a → H a ≠ none
  ob : ∀ (n : Nat) (o : O), h[n]? = some o → ∃ a vs, ι[n]? = some a ∧ H a = some (.lst vs) ∧
    match o with
    | .lst _ xs => RepDs K H av xs vs
    | .ref _ ns => Paired (fun n v => ∃ b, ι[n]? = some b ∧ v = V.ref b) ns vs
def RepV (K : PySem.W.Frag) (ι : List Addr) (av : Av) (H : Hp) : Val → V → Prop
  | .p d, u => RepD K H av d u
  | .loc n, u => ∃ a, ι[n]? = some a ∧ u = .ref a
  | .new _, _ => False
/-- an expression's value; H0: the heap ahead of it -/
def RepR (K : PySem.W.Frag) (H0 : Hp) (ι : List Addr) (av : Av) (H : Hp) : Val → V → Prop
  | .p d, u => RepD K H av d u
  | .loc n, u => ∃ a, ι[n]? = some a ∧ u = .ref a
  | .new xs, u => ∃ a vs, u = .ref a ∧ H0 a = none ∧ H a = some (.lst vs) ∧ av a ∧ a ∉ ι ∧ RepDs K H av xs vs
def RepE (K : PySem.W.Frag) (ρ : Env') (ι : List Addr) (av : Av) (σ : L2.St) (H : Hp) : Prop :=
  ρ.length = σ.length ∧ ∀ (i : Nat) (v : Val), ρ[i]? = some (some v) → ∃ u, σ[i]? = some (some u) ∧ RepV K ι av H v u
section
variable {K : PySem.W.Frag} {H H0 H1 H2 H' : Hp} {av av' av1 av2 : Av} {ι ι' ι1 ι2 : List Addr} {h h' : Hs} {σ : L2.St} {ρ : Env'}
theorem Stp.refl : Stp ι av H ι av H := ⟨⟨[], by simp, by simp⟩, fun _ _ e _ => e, fun _ e => e, fun _ e => .inl e, fun _ e => e⟩
theorem Stp.trans (a : Stp ι av H ι1 av1 H1) (b : Stp ι1 av1 H1 ι2 av2 H2) : Stp ι av H ι2 av2 H2 := by
  obtain ⟨κ, e1, f1⟩ := a.ext
  obtain ⟨κ', e2, f2⟩ := b.ext
  have dead : ∀ a', H1 a' = none → H a' = none := fun a' e => by
    cases q : H a' with
    | none => rfl
    | some o => exact absurd e (a.alive a' (by rw [q]; simp))
  refine ⟨⟨κ ++ κ', by rw [e2, e1, List.append_assoc], fun a' m => ?_⟩, fun a' o e n => ?_, fun a' e => b.alive _ (a.alive _ e), fun a' e => ?_, fun a' e => b.avm _ (a.avm _ e)⟩
  · rcases List.mem_append.mp m with m | m
    · exact f1 _ m
    · exact dead _ (f2 _ m)
  · refine b.keep a' o (a.keep a' o e n) ?_
    rw [e1]
    intro m
    rcases List.mem_append.mp m with m | m
    · exact n m
    · rw [f1 _ m] at e; cases e
  · rcases b.avs a' e with q | q
    · exact a.avs a' q
    · exact .inr (dead _ q)
theorem Stp.mono (s : Stp ι av H ι' av' H') (sub : ∀ a ∈ ι, av a) : ∀ a o, H a = some o → ¬ av a → H' a = some o ∧ ¬ av' a := fun a o e n =>
  ⟨s.keep a o e fun m => n (sub a m), fun q => (s.avs a q).elim n fun z => by rw [z] at e; cases e⟩
theorem Stp.repD (s : Stp ι av H ι' av' H') (sub : ∀ a ∈ ι, av a) {d : D} {v : V} (r : RepD K H av d v) : RepD K H' av' d v := RepD.mono (s.mono sub) d v r
theorem Stp.repDs (s : Stp ι av H ι' av' H') (sub : ∀ a ∈ ι, av a) {d : List D} {v : List V} (r : RepDs K H av d v) : RepDs K H' av' d v := RepDs.mono (s.mono sub) d v r
theorem Stp.ix (s : Stp ι av H ι' av' H') {n : Nat} {a : Addr} (e : ι[n]? = some a) : ι'[n]? = some a := by
  obtain ⟨κ, q, _⟩ := s.ext
  rw [q]
  obtain ⟨hn, _⟩ := List.getElem?_eq_some_iff.mp e
  rw [List.getElem?_append_left hn]
  exact e
theorem Stp.nmem (s : Stp ι av H ι' av' H') {a : Addr} {o : HO} (e : H a = some o) (n : a ∉ ι) : a ∉ ι' := by
  obtain ⟨κ, q, f⟩ := s.ext
  rw [q]
  intro m
  rcases List.mem_append.mp m with m | m
  · exact n m
  · rw [f _ m] at e; cases e
theorem Stp.repV (s : Stp ι av H ι' av' H') (sub : ∀ a ∈ ι, av a) {v : Val} {u : V} (r : RepV K ι av H v u) : RepV K ι' av' H' v u := by
  cases v with
  | p d => exact s.repD sub r
  | loc n => obtain ⟨a, e, q⟩ := r; exact ⟨a, s.ix e, q⟩
  | new xs => exact r
/-- a result stays one while something else runs -/
theorem Stp.repR (s : Stp ι av H ι' av' H') (sub : ∀ a ∈ ι, av a) {v : Val} {u : V} (r : RepR K H0 ι av H v u) : RepR K H0 ι' av' H' v u := by
  cases v with
  | p d => exact s.repD sub r
  | loc n => obtain ⟨a, e, q⟩ := r; exact ⟨a, s.ix e, q⟩
  | new xs =>
    obtain ⟨a, vs, e, h0, h1, k1, k2, k3⟩ := r
    exact ⟨a, vs, e, h0, s.keep a _ h1 k2, s.avm a k1, s.nmem h1 k2, s.repDs sub k3⟩
theorem Stp.repE (s : Stp ι av H ι' av' H') (sub : ∀ a ∈ ι, av a) (r : RepE K ρ ι av σ H) : RepE K ρ ι' av' σ H' :=
  ⟨r.1, fun i v e => let ⟨u, q1, q2⟩ := r.2 i v e; ⟨u, q1, s.repV sub q2⟩⟩
/-- a result seen from an earlier heap -/
theorem RepR.back (s : Stp ι1 av1 H1 ι2 av2 H2) {v : Val} {u : V} (r : RepR K H2 ι av H v u) : RepR K H1 ι av H v u := by
  cases v with
  | p d => exact r
  | loc n => exact r
  | new xs =>
    obtain ⟨a, vs, e, h0, k⟩ := r
    refine ⟨a, vs, e, ?_, k⟩
    cases q : H1 a with
    | none => rfl
    | some o => exact absurd h0 (s.alive a (by rw [q]; simp))
end
end MP

/-! ## EngC.lean -/
set_option Elab.async false
set_option linter.all false
set_option maxRecDepth 100000
namespace MP
open PySem PySem.Spec PyProof.Rows L2

/-! ### the language -/
inductive Tg where
  | nm (i : Nat) | tp (is : List Nat)
  deriving Inhabited, DecidableEq
inductive Bi where
  | len | sum | all | any | max | min | abs | int | tuple | list | sorted | divmod | repr
  deriving Inhabited, DecidableEq
inductive Ty' where
  | non | int | bool | str | list | tuple
  deriving Inhabited, DecidableEq
inductive Ty where
  | int | bool | str | list | tuple
  deriving Inhabited, DecidableEq
mutual
inductive E where
  | var (i : Nat) | lit (d : D) | glo (x : Str) (d : D)
  | bin (o : Operator) (a b : E) | neg (a : E) | not (a : E)
  | cmp (o : CmpOp) (a b : E) | chn (o o' : CmpOp) (a b c : E)
  | one (a : E) | and (a b : E) | or (a b : E) | ife (c : T) (a b : E)
  | tup (es : Es) | lst (es : Es)
  | sub (a i : E) | sl (a : E) (lo hi : Eo) | rev (a : E)
  | lc (own : List Nat) (tg : Tg) (it : It) (cd : To) (elt : E)
  | call (f : Nat) (es : Es)
  | callK (f : Nat) (es ks : Es)
  | bi (b : Bi) (es : Es)
  | isi (c : Ty) (a : E)              -- isinstance(a, c)
  | dget (a k d : E)                  -- dict(a).get(k, d)
inductive Es where
  | nil | cons (e : E) (es : Es) | star (e : E) (es : Es)
inductive Eo where
  | no | yes (e : E)
inductive T where
  | val (e : E) | not (t : T) | one (t : T) | and (t u : T) | or (t u : T)
inductive To where
  | no | yes (t : T)
inductive It where
  | val (e : E) | rng (es : Es) | enm (e : E) | zip (a b : E)
end
instance : Inhabited E := ⟨.lit .non⟩
mutual
inductive S where
  | asg (i : Nat) (e : E)               -- name = e
  | tup (is : List Nat) (e : E)         -- a, b = e
  | par (is : List Nat) (es : Es)       -- a, b = x, y
  | set (o i e : E)                     -- o[i] = e
  | app (o e : E)                       -- o.append(e)
  | tsn (o i : E) (j : Nat) (e : E)     -- o[i], name = e
  | ex (e : E) | ret (e : E) | retN
  | ife (c : T) (a b : Ss)
  | for_ (tg : Tg) (it : It) (body : Ss)
  | whl (c : T) (body : Ss)
  | brk | pss | nev
inductive Ss where
  | nil | cons (s : S) (ss : Ss)
end
inductive Out where
  | nx | rt (v : Val) | bk
  deriving Inhabited

/-! ### values -/
def O.locked : O → Bool
  | .lst k _ => k
  | .ref k _ => k
/-- the items of a list or tuple (true: a tuple) -/
def seqD (h : Hs) : Val → Option (Bool × List D)
  | .p (.tup xs) => some (true, xs)
  | .p (.lst xs) => some (false, xs)
  | .new xs => some (false, xs)
  | .loc n => match h[n]? with
    | some (.lst _ xs) => some (false, xs)
    | _ => none
  | _ => none
/-- as data, as it stands -/
def datD (h : Hs) : Val → Option D
  | .p d => some d
  | .new xs => some (.lst xs)
  | .loc n => match h[n]? with
    | some (.lst _ xs) => some (.lst xs)
    | _ => none
/-- what may be kept as data for ever -/
def frzD : Val → Option D
  | .p d => some d
  | .new xs => some (.lst xs)
  | .loc _ => none
def frzDs : List Val → Option (List D)
  | [] => some []
  | v :: vs => match frzD v with
    | none => none
    | some d => match frzDs vs with
      | none => none
      | some ds => some (d :: ds)
/-- bound to a name: a new list comes into the heap -/
def bind (v : Val) (h : Hs) : Val × Hs := match v with
  | .new xs => (.loc h.length, h ++ [.lst false xs])
  | v => (v, h)
def blsOf : List D → Option (List Bool)
  | [] => some []
  | .bl i :: xs => match blsOf xs with
    | none => none
    | some is => some (i :: is)
  | _ :: _ => none

def mulOk (i j : Int) : Bool := Nat.blt i.natAbs 18446744073709551616 || (Nat.blt j.natAbs 18446744073709551616 || Nat.blt (i.natAbs.log2 + j.natAbs.log2) 1000000)
def binI (o : Operator) (i j : Int) : Option D := match o with
  | .Add => some (.int (i + j))
  | .Sub => some (.int (i - j))
  | .Mult => if mulOk i j then some (.int (i * j)) else none
  | .FloorDiv => if decide (0 < j) && decide (j < 1073741824) then some (.int (i / j)) else none
  | .Mod => if decide (0 < j) then some (.int (i % j)) else none
  | .Pow => if decide (0 ≤ j) && (decide (j ≤ 1000000) && Nat.blt i.natAbs 18446744073709551616) then some (.int (i ^ j.toNat)) else none
  | _ => none
/-- the longest list or text -/
def line : Nat := 16777216
def intV : Val → Option Int
  | .p (.int i) => some i
  | _ => none
def strV : Val → Option Str
  | .p (.str i) => some i
  | _ => none
def catV (x y : Val) (h : Hs) : Option Val := match seqD h x with
  | some (false, xs) => match seqD h y with
    | some (false, ys) => if Nat.ble (xs.length + ys.length) line then some (.new (xs ++ ys)) else none
    | _ => none
  | some (true, xs) => match seqD h y with
    | some (true, ys) => if Nat.ble (xs.length + ys.length) line then some (.p (.tup (xs ++ ys))) else none
    | _ => none
  | none => match strV x with
    | some a => match strV y with
      | some b => if Nat.ble (a.length + b.length) line then some (.p (.str (a ++ b))) else none
      | none => none
    | none => none
def timesV (x : Val) (k : Int) (h : Hs) : Option Val := match seqD h x with
  | some (false, xs) => if Nat.ble (xs.length * k.toNat) line && (decide (k < 16777217) && decide (-16777217 < k)) then some (.new (List.replicate k.toNat xs).flatten) else none
  | _ => none
def binV (o : Operator) (x y : Val) (h : Hs) : Option Val := match intV y with
  | some j => match intV x with
    | some i => match binI o i j with
      | some d => some (.p d)
      | none => none
    | none => match o with
      | .Mult => timesV x j h
      | _ => none
  | none => match o with
    | .Add => catV x y h
    | _ => none
mutual
def depD : D → Nat
  | .tup xs => depDs xs + 1
  | .lst xs => depDs xs + 1
  | .scr _ => 1
  | _ => 0
def depDs : List D → Nat
  | [] => 0
  | x :: xs => Nat.max (depD x) (depDs xs)
end
mutual
/-- data that == is told of at any depth -/
def okD : D → Bool
  | .str x => PyData.strOk x
  | .tup xs => okDs xs
  | .lst xs => okDs xs
  | .rep _ => false
  | .scr _ => false
  | _ => true
def okDs : List D → Bool
  | [] => true
  | x :: xs => okD x && okDs xs
end
def shpD (d : D) : Bool := okD d && Nat.ble (depD d) 60
def txtD : D → Bool
  | .str _ => true
  | .rep _ => true
  | _ => false
def eqV (x y : Val) (h : Hs) : Option Bool := match datD h x with
  | some a => match datD h y with
    | some b => if (txtD a && txtD b) || (shpD a && shpD b) then pyEq a b else none
    | none => none
  | none => none
def isN : Val → Bool
  | .p .non => true
  | _ => false
def cmpI (f : Int → Int → Bool) (x y : Val) : Option Bool := match intV x with
  | some i => match intV y with
    | some j => some (f i j)
    | none => none
  | none => none
def intsOf : List D → Option (List Int)
  | [] => some []
  | .int i :: xs => match intsOf xs with
    | none => none
    | some is => some (i :: is)
  | _ :: _ => none
def tupI : Val → Option (List Int)
  | .p (.tup xs) => intsOf xs
  | _ => none
def ltV (x y : Val) : Option Bool := match intV x with
  | some i => match intV y with
    | some j => some (decide (i < j))
    | none => none
  | none => match tupI x with
    | some a => match tupI y with
      | some b => some (HT.lexLt a b)
      | none => none
    | none => none
def inV' (x y : Val) (h : Hs) : Option Bool := match datD h x with
  | some d => match seqD h y with
    | some (false, ds) => if shpD d && shpD (.lst ds) then inDs d ds else none
    | _ => none
  | none => none
where inDs (d : D) : List D → Option Bool
  | [] => some false
  | x :: xs => match pyEq x d with
    | none => none
    | some b => match inDs d xs with
      | none => none
      | some c => some (b || c)
def cmpV (o : CmpOp) (x y : Val) (h : Hs) : Option Bool := match o with
  | .Eq => eqV x y h
  | .NotEq => match eqV x y h with
    | some b => some (!b)
    | none => none
  | .Is => if isN y then some (isN x) else none
  | .IsNot => if isN y then some (!isN x) else none
  | .Lt => ltV x y
  | .LtE => cmpI (fun i j => decide (i ≤ j)) x y
  | .Gt => cmpI (fun i j => decide (j < i)) x y
  | .GtE => cmpI (fun i j => decide (j ≤ i)) x y
  | .In => inV' x y h
  | .NotIn => match inV' x y h with
    | some b => some (!b)
    | none => none
def cmpW (o : CmpOp) (x y : Val) (h : Hs) : Option Val := match cmpV o x y h with
  | none => none
  | some b => some (.p (.bl b))
abbrev atD (xs : List D) (i : Int) : Option D := atI xs i
def subV (x y : Val) (h : Hs) : Option Val := match intV y with
  | none => none
  | some i => match x with
    | .p (.scr ns) => match atI ns i with
      | some k => some (.p (.int k))
      | none => none
    | .loc n => match h[n]? with
      | some (.lst _ xs) => match atI xs i with
        | some d => some (.p d)
        | none => none
      | some (.ref _ ns) => match atI ns i with
        | some k => some (.loc k)
        | none => none
      | none => none
    | .new xs => match atI xs i with
      | some d => some (.p d)
      | none => none
    | .p (.tup xs) => match atI xs i with
      | some d => some (.p d)
      | none => none
    | .p (.lst xs) => match atI xs i with
      | some d => some (.p d)
      | none => none
    | .p (.str x) => match atI x.cps.toList i with
      | some c => if Nat.ble x.length line then some (.p (.str ⟨#[c]⟩)) else none
      | none => none
    | _ => none
/-- a bound of a slice -/
abbrev cutAt := HT.sIx
def cutD {α : Type} (xs : List α) (lo hi : Option Int) : List α :=
  (xs.drop (cutAt xs.length 0 lo)).take (cutAt xs.length xs.length hi - cutAt xs.length 0 lo)
def slV (x : Val) (lo hi : Option Int) (h : Hs) : Option Val := match x with
  | .p (.scr ns) => some (.new ((cutD ns lo hi).map D.int))
  | x => match seqD h x with
    | some (true, xs) => some (.p (.tup (cutD xs lo hi)))
    | some (false, xs) => some (.new (cutD xs lo hi))
    | none => none
def revV (x : Val) (h : Hs) : Option Val := match seqD h x with
  | some (false, xs) => some (.new xs.reverse)
  | _ => none
def maxI : List Int → Option Int
  | [] => none
  | x :: xs => some (xs.foldl (fun a b => if a < b then b else a) x)
def minI : List Int → Option Int
  | [] => none
  | x :: xs => some (xs.foldl (fun a b => if b < a then b else a) x)
/-- truth -/
def truV (h : Hs) : Val → Option Bool
  | .p .non => some false
  | .p (.bl b) => some b
  | .p (.int i) => some (decide (i ≠ 0))
  | .p (.tup xs) => some (!xs.isEmpty)
  | x => match seqD h x with
    | some (false, xs) => some (!xs.isEmpty)
    | _ => none
/-- sorting by insertion -/
def insB {α : Type} (le : α → α → Bool) (x : α) : List α → List α
  | [] => [x]
  | y :: ys => match le x y with
    | true => x :: y :: ys
    | false => y :: insB le x ys
def sortB {α : Type} (le : α → α → Bool) : List α → List α
  | [] => []
  | x :: xs => insB le x (sortB le xs)
def leI (a b : Int) : Bool := decide (a ≤ b)
def lexP (a b : Int × Int) : Bool := if a.1 = b.1 then decide (a.2 ≤ b.2) else decide (a.1 < b.1)
def pairsOf : List D → Option (List (Int × Int))
  | [] => some []
  | .tup [.int i, .int j] :: xs => match pairsOf xs with
    | none => none
    | some is => some ((i, j) :: is)
  | _ :: _ => none
def sortV (xs : List D) : Option (List D) := match intsOf xs with
  | some is => some ((sortB leI is).map D.int)
  | none => match pairsOf xs with
    | some ps => some ((sortB lexP ps).map fun p => D.tup [.int p.1, .int p.2])
    | none => none
mutual
/-- a bound of the length of the text repr(d) -/
def szD : D → Nat
  | .non => 4
  | .bl _ => 5
  | .int _ => 1922
  | .str x => 10 * x.length + 2
  | .tup xs => szDs xs + 3
  | .lst xs => szDs xs + 3
  | .rep d => 10 * szD d + 2
  | .scr _ => 100000000
def szDs : List D → Nat
  | [] => 0
  | x :: xs => szD x + 2 + szDs xs
end
mutual
def shwD : D → Bool
  | .int i => Nat.blt i.natAbs.log2 1920
  | .tup xs => shwDs xs
  | .lst xs => shwDs xs
  | .scr _ => false
  | .rep _ => false
  | .str x => PyData.strOk x
  | _ => true
def shwDs : List D → Bool
  | [] => true
  | x :: xs => shwD x && shwDs xs
end
def lenV (x : Val) (h : Hs) : Option Int := match x with
  | .p (.scr ns) => some ns.length
  | .p (.tup xs) => some xs.length
  | .p (.lst xs) => some xs.length
  | .new xs => some xs.length
  | .p (.str x) => if Nat.ble x.length line then some x.length else none
  | .loc n => match h[n]? with
    | some (.lst _ xs) => some xs.length
    | some (.ref _ ns) => some ns.length
    | none => none
  | _ => none
/-- the ints of a list -/
def intsV (x : Val) (h : Hs) : Option (List Int) := match seqD h x with
  | some (false, xs) => intsOf xs
  | _ => none
def blsV (x : Val) (h : Hs) : Option (List Bool) := match seqD h x with
  | some (false, xs) => blsOf xs
  | _ => none
def scrV : Val → Option (List Int)
  | .p (.scr ns) => some ns
  | _ => none
def repD : D → Bool
  | .int _ => true
  | .tup _ => true
  | .lst _ => true
  | _ => false
def bi1 (b : Bi) (x : Val) (h : Hs) : Option Val := match b with
  | .len => match lenV x h with
    | some n => some (.p (.int n))
    | none => none
  | .sum => match scrV x with
    | some ns => some (.p (.int ns.sum))
    | none => match intsV x h with
      | some is => some (.p (.int is.sum))
      | none => none
  | .all => match blsV x h with
    | some is => some (.p (.bl (is.all id)))
    | none => none
  | .any => match blsV x h with
    | some is => some (.p (.bl (is.any id)))
    | none => none
  | .max => match intsV x h with
    | some is => match maxI is with
      | some m => some (.p (.int m))
      | none => none
    | none => none
  | .min => match intsV x h with
    | some is => match minI is with
      | some m => some (.p (.int m))
      | none => none
    | none => none
  | .abs => match intV x with
    | some i => some (.p (.int (if i < 0 then -i else i)))
    | none => none
  | .int => match x with
    | .p (.int i) => some (.p (.int i))
    | .p (.bl b) => some (.p (.int (if b then 1 else 0)))
    | _ => none
  | .tuple => match seqD h x with
    | some (_, xs) => some (.p (.tup xs))
    | none => none
  | .list => match scrV x with
    | some ns => some (.new (ns.map D.int))
    | none => match seqD h x with
      | some (_, xs) => some (.new xs)
      | none => none
  | .sorted => match seqD h x with
    | some (false, xs) => match sortV xs with
      | some ys => some (.new ys)
      | none => none
    | _ => none
  | .repr => match datD h x with
    | some d => if repD d && (Nat.ble (depD d) 60 && (shwD d && Nat.ble (szD d) line)) then some (.p (.rep d)) else none
    | none => none
  | .divmod => none
def bi2 (b : Bi) (x y : Val) : Option Val := match intV x with
  | none => none
  | some i => match intV y with
    | none => none
    | some j => match b with
      | .max => some (.p (.int (if j > i then j else i)))
      | .min => some (.p (.int (if j < i then j else i)))
      | .divmod => if decide (0 < j) && decide (j < 1073741824) then some (.p (.tup [.int (i / j), .int (i % j)])) else none
      | _ => none
def biV (b : Bi) (vs : List Val) (h : Hs) : Option Val := match vs with
  | [x] => bi1 b x h
  | [x, y] => bi2 b x y
  | _ => none

/-! ### calls: what a def is handed and gives back -/
inductive Arg where
  | p (d : D)
  | lst (xs : List D)   -- a list of its own heap
  deriving Inhabited
inductive Ret where
  | p (d : D) | new (xs : List D) | arg (j : Nat)
  deriving Inhabited
/-- a def by its number: the result, the lists that were handed in as they are behind it -/
abbrev CallF := Nat → List Arg → Option (Ret × List (List D))

/-- the arguments at a call: lists of the heap that may be changed are handed in -/
def argOf (h : Hs) : Val → Option (Arg × Option Nat)
  | .p d => some (.p d, none)
  | .new xs => some (.lst xs, none)
  | .loc n => match h[n]? with
    | some (.lst false xs) => some (.lst xs, some n)
    | _ => none
def argsOf (h : Hs) : List Val → Option (List (Arg × Option Nat))
  | [] => some []
  | v :: vs => match argOf h v with
    | none => none
    | some a => match argsOf h vs with
      | none => none
      | some as => some (a :: as)
/-- the places of the lists that are handed in, in order (none: a new one) -/
def placesOf : List (Arg × Option Nat) → List (Option Nat)
  | [] => []
  | (.p _, _) :: as => placesOf as
  | (.lst _, n) :: as => n :: placesOf as
def dupN : List (Option Nat) → Bool
  | [] => false
  | none :: r => dupN r
  | some n :: r => (r.any fun m => match m with | some k => Nat.beq k n | none => false) || dupN r
/-- the lists as they are behind the call -/
def putBack : List (Option Nat) → List (List D) → Hs → Option Hs
  | [], [], h => some h
  | none :: ns, _ :: xs, h => putBack ns xs h
  | some n :: ns, x :: xs, h => putBack ns xs (h.set n (.lst false x))
  | _, _, _ => none
def retV (ns : List (Option Nat)) (xs : List (List D)) : Ret → Option Val
  | .p d => some (.p d)
  | .new xs => some (.new xs)
  | .arg j => match ns[j]? with
    | some (some n) => some (.loc n)
    | some none => match xs[j]? with
      | some ys => some (.new ys)
      | none => none
    | none => none
def callV (F : CallF) (f : Nat) (vs : List Val) (h : Hs) : Option (Val × Hs) := match argsOf h vs with
  | none => none
  | some as => match dupN (placesOf as) with
    | true => none
    | false => match F f (as.map (·.1)) with
      | none => none
      | some (r, xs) => match putBack (placesOf as) xs h with
        | none => none
        | some h' => match retV (placesOf as) xs r with
          | none => none
          | some v => some (v, h')

/-! ### loops -/
/-- what is walked: its items; the list that is locked meanwhile -/
def wipeE (ρ : Env') : List Nat → Env'
  | [] => ρ
  | v :: vs => (wipeE ρ vs).set v none
def setAll : List Nat → List D → Env' → Option Env'
  | [], [], ρ => some ρ
  | i :: is, d :: ds, ρ => setAll is ds (ρ.set i (some (.p d)))
  | _, _, _ => none
def setTg (t : Tg) (v : Val) (ρ : Env') : Option Env' := match t with
  | .nm i => match v with
    | .new _ => none
    | v => some (ρ.set i (some v))
  | .tp is => match v with
    | .p (.tup ds) => setAll is ds ρ
    | _ => none
def lockO : O → O
  | .lst _ xs => .lst true xs
  | .ref _ ns => .ref true ns
structure Walk where
  items : List Val
  back : Option (Nat × O)   -- what stood there ahead of the lock
  deriving Inhabited
def walkV (v : Val) (h : Hs) : Option (Walk × Hs) := match v with
  | .p (.scr ns) => some (⟨ns.map fun n => .p (.int n), none⟩, h)
  | .loc n => match h[n]? with
    | some (.lst k xs) => some (⟨xs.map .p, some (n, .lst k xs)⟩, h.set n (.lst true xs))
    | some (.ref k ns) => some (⟨ns.map .loc, some (n, .ref k ns)⟩, h.set n (.ref true ns))
    | none => none
  | v => match seqD h v with
    | some (_, xs) => some (⟨xs.map .p, none⟩, h)
    | none => none
/-- the list at a place is locked -/
def lockV (v : Val) (h : Hs) : Option (Nat × O) × Hs := match v with
  | .loc n => match h[n]? with
    | some o => (some (n, o), h.set n (lockO o))
    | none => (none, h)
  | _ => (none, h)
def enmD (i : Int) : List D → List Val
  | [] => []
  | d :: ds => .p (.tup [.int i, d]) :: enmD (i + 1) ds
def zipD : List D → List D → List Val
  | x :: xs, y :: ys => .p (.tup [x, y]) :: zipD xs ys
  | _, _ => []
def unlock (b : Option (Nat × O)) (h : Hs) : Hs := match b with
  | none => h
  | some (n, o) => h.set n o
def rngI (lo : Int) : Nat → List Val
  | 0 => []
  | n + 1 => .p (.int lo) :: rngI (lo + 1) n
def rngS (lo c : Int) : Nat → List Val
  | 0 => []
  | n + 1 => .p (.int lo) :: rngS (lo + c) c n
def small (i : Int) : Bool := decide (-4611686018427387904 ≤ i) && decide (i < 4611686018427387904)
def rngV (vs : List Val) : Option (List Val) := match vs with
  | [.p (.int j)] => if small j then some (rngI 0 j.toNat) else none
  | [.p (.int i), .p (.int j)] => if small i && small j then some (rngI i (j - i).toNat) else none
  | [.p (.int i), .p (.int j), .p (.int c)] => if small i && small j && (decide (c = -1)) then some (rngS i (-1) (i - j).toNat) else none
  | _ => none
/-- one turn of a comprehension -/
def lcF (tg : Tg) (c : Env' → Hs → Option (Bool × Hs)) (e : Env' → Hs → Option (Val × Hs)) (ρ : Env') (x : Val) (h2 : Hs) : Option (Option D × Hs) := match setTg tg x ρ with
  | none => none
  | some ρ1 => match c ρ1 h2 with
    | none => none
    | some (false, h3) => some (none, h3)
    | some (true, h3) => match e ρ1 h3 with
      | none => none
      | some (v, h4) => match frzD v with
        | none => none
        | some d => some (some d, h4)
def forF (tg : Tg) (b : Env' → Hs → Option (Out × Env' × Hs)) (x : Val) (ρ : Env') (h : Hs) : Option (Out × Env' × Hs) := match setTg tg x ρ with
  | none => none
  | some ρ2 => b ρ2 h
/-- a comprehension's turns -/
def lcGo (f : Val → Hs → Option (Option D × Hs)) : List Val → Hs → Option (List D × Hs)
  | [], h => some ([], h)
  | x :: xs, h => match f x h with
    | none => none
    | some (d, h1) => match lcGo f xs h1 with
      | none => none
      | some (ds, h2) => some (match d with | some d => d :: ds | none => ds, h2)
def forGo (f : Val → Env' → Hs → Option (Out × Env' × Hs)) : List Val → Env' → Hs → Option (Out × Env' × Hs)
  | [], ρ, h => some (.nx, ρ, h)
  | x :: xs, ρ, h => match f x ρ h with
    | none => none
    | some (.nx, ρ1, h1) => forGo f xs ρ1 h1
    | some (.bk, ρ1, h1) => some (.nx, ρ1, h1)
    | some (.rt v, ρ1, h1) => some (.rt v, ρ1, h1)
def whlGo (c : Env' → Hs → Option (Bool × Hs)) (f : Env' → Hs → Option (Out × Env' × Hs)) : Nat → Env' → Hs → Option (Out × Env' × Hs)
  | 0, _, _ => none
  | n + 1, ρ, h => match c ρ h with
    | none => none
    | some (false, h1) => some (.nx, ρ, h1)
    | some (true, h1) => match f ρ h1 with
      | none => none
      | some (.nx, ρ2, h2) => whlGo c f n ρ2 h2
      | some (.bk, ρ2, h2) => some (.nx, ρ2, h2)
      | some (.rt v, ρ2, h2) => some (.rt v, ρ2, h2)
/-- the turns that a while has at most -/
def fuelW : Nat := 1000000

/-! ### isinstance; dict(..).get -/
def tyV (h : Hs) : Val → Option Ty'
  | .p .non => some .non
  | .p (.bl _) => some .bool
  | .p (.int _) => some .int
  | .p (.str _) => some .str
  | .p (.tup _) => some .tuple
  | .p (.lst _) => some .list
  | .new _ => some .list
  | .loc n => match h[n]? with
    | some _ => some .list
    | none => none
  | _ => none
def isaT : Ty' → Ty → Bool
  | .int, .int => true
  | .bool, .int => true
  | .bool, .bool => true
  | .str, .str => true
  | .list, .list => true
  | .tuple, .tuple => true
  | _, _ => false
/-- the pairs (int, anything) -/
def kvOf : List D → Option (List (Int × D))
  | [] => some []
  | .tup [.int i, d] :: xs => match kvOf xs with
    | none => none
    | some r => some ((i, d) :: r)
  | _ :: _ => none
/-- the last one wins -/
def lastD (k : Int) : List (Int × D) → Option D
  | [] => none
  | (i, d) :: r => match lastD k r with
    | some e => some e
    | none => if i = k then some d else none
def dgV (kvs : List (Int × D)) (k : Val) (d : Val) : Option Val := match k with
  | .p (.int i) => match lastD i kvs with
    | some e => some (.p e)
    | none => some d
  | _ => none
def pairsV (v : Val) (h : Hs) : Option (List (Int × D)) := match seqD h v with
  | some (false, xs) => kvOf xs
  | _ => none

/-! ### the evaluator -/
def valI : Val → Option (Option Int)
  | .p (.int i) => some (some i)
  | _ => none
mutual
def evE (F : CallF) : E → Env' → Hs → Option (Val × Hs)
  | .var i, ρ, h => match ρ[i]? with
    | some (some v) => some (v, h)
    | _ => none
  | .lit d, _, h => some (.p d, h)
  | .glo _ d, _, h => some (.p d, h)
  | .bin o a b, ρ, h => match evE F a ρ h with
    | none => none
    | some (x, h1) => match evE F b ρ h1 with
      | none => none
      | some (y, h2) => match binV o x y h2 with
        | none => none
        | some v => some (v, h2)
  | .neg a, ρ, h => match evE F a ρ h with
    | some (.p (.int i), h1) => some (.p (.int (-i)), h1)
    | _ => none
  | .not a, ρ, h => match evE F a ρ h with
    | none => none
    | some (v, h1) => match truV h1 v with
      | none => none
      | some b => some (.p (.bl (!b)), h1)
  | .cmp o a b, ρ, h => match evE F a ρ h with
    | none => none
    | some (x, h1) => match evE F b ρ h1 with
      | none => none
      | some (y, h2) => match cmpW o x y h2 with
        | none => none
        | some v => some (v, h2)
  | .chn o o' a b c, ρ, h => match evE F a ρ h with
    | none => none
    | some (x, h1) => match evE F b ρ h1 with
      | none => none
      | some (y, h2) => match cmpV o x y h2 with
        | none => none
        | some false => some (.p (.bl false), h2)
        | some true => match evE F c ρ h2 with
          | none => none
          | some (z, h3) => match cmpV o' y z h3 with
            | none => none
            | some v => some (.p (.bl v), h3)
  | .one a, ρ, h => evE F a ρ h
  | .and a b, ρ, h => match evE F a ρ h with
    | none => none
    | some (v, h1) => match truV h1 v with
      | none => none
      | some true => evE F b ρ h1
      | some false => some (v, h1)
  | .or a b, ρ, h => match evE F a ρ h with
    | none => none
    | some (v, h1) => match truV h1 v with
      | none => none
      | some true => some (v, h1)
      | some false => evE F b ρ h1
  | .ife c a b, ρ, h => match evT F c ρ h with
    | none => none
    | some (true, h1) => evE F a ρ h1
    | some (false, h1) => evE F b ρ h1
  | .tup es, ρ, h => match evEs F es ρ h with
    | none => none
    | some (vs, h1) => match frzDs vs with
      | none => none
      | some ds => if Nat.ble ds.length line then some (.p (.tup ds), h1) else none
  | .lst es, ρ, h => match evEs F es ρ h with
    | none => none
    | some (vs, h1) => match frzDs vs with
      | none => none
      | some ds => if Nat.ble ds.length line then some (.new ds, h1) else none
  | .sub a i, ρ, h => match evE F a ρ h with
    | none => none
    | some (x, h1) => match evE F i ρ h1 with
      | none => none
      | some (y, h2) => match subV x y h2 with
        | none => none
        | some v => some (v, h2)
  | .sl a lo hi, ρ, h => match evE F a ρ h with
    | none => none
    | some (x, h1) => match evO F lo ρ h1 with
      | none => none
      | some (l, h2) => match evO F hi ρ h2 with
        | none => none
        | some (u, h3) => match slV x l u h3 with
          | none => none
          | some v => some (v, h3)
  | .rev a, ρ, h => match evE F a ρ h with
    | none => none
    | some (x, h1) => match revV x h1 with
      | none => none
      | some v => some (v, h1)
  | .lc own tg it cd elt, ρ, h => match evI F it ρ h with
    | none => none
    | some (w, h1) => match lcGo (lcF tg (evC F cd) (evE F elt) (wipeE ρ own)) w.items h1 with
      | none => none
      | some (ds, h5) => if Nat.blt ds.length line then some (.new ds, unlock w.back h5) else none
  | .call f es, ρ, h => match evEs F es ρ h with
    | none => none
    | some (vs, h1) => callV F f vs h1
  | .callK f es ks, ρ, h => match evEs F es ρ h with
    | none => none
    | some (vs, h1) => match evEs F ks ρ h1 with
      | none => none
      | some (ws, h2) => callV F f (vs ++ ws) h2
  | .bi b es, ρ, h => match evEs F es ρ h with
    | none => none
    | some (vs, h1) => match biV b vs h1 with
      | none => none
      | some v => some (v, h1)
  | .isi c a, ρ, h => match evE F a ρ h with
    | none => none
    | some (v, h1) => match tyV h1 v with
      | none => none
      | some t => some (.p (.bl (isaT t c)), h1)
  | .dget a k d, ρ, h => match evE F a ρ h with
    | none => none
    | some (v, h1) => match pairsV v h1 with
      | none => none
      | some kvs => match evE F k ρ h1 with
        | none => none
        | some (x, h2) => match evE F d ρ h2 with
          | none => none
          | some (y, h3) => match dgV kvs x y with
            | none => none
            | some w => some (w, h3)
def evT (F : CallF) : T → Env' → Hs → Option (Bool × Hs)
  | .val e, ρ, h => match evE F e ρ h with
    | none => none
    | some (v, h1) => match truV h1 v with
      | none => none
      | some b => some (b, h1)
  | .not a, ρ, h => match evT F a ρ h with
    | some (b, h1) => some (!b, h1)
    | none => none
  | .one a, ρ, h => evT F a ρ h
  | .and a b, ρ, h => match evT F a ρ h with
    | none => none
    | some (true, h1) => evT F b ρ h1
    | some (false, h1) => some (false, h1)
  | .or a b, ρ, h => match evT F a ρ h with
    | none => none
    | some (true, h1) => some (true, h1)
    | some (false, h1) => evT F b ρ h1
def evEs (F : CallF) : Es → Env' → Hs → Option (List Val × Hs)
  | .nil, _, h => some ([], h)
  | .cons e es, ρ, h => match evE F e ρ h with
    | none => none
    | some (v, h1) => match evEs F es ρ h1 with
      | none => none
      | some (vs, h2) => some (v :: vs, h2)
  | .star e es, ρ, h => match evE F e ρ h with
    | none => none
    | some (v, h1) => match seqD h1 v with
      | none => none
      | some (_, xs) => match evEs F es ρ h1 with
        | none => none
        | some (vs, h2) => some (xs.map .p ++ vs, h2)
def evO (F : CallF) : Eo → Env' → Hs → Option (Option Int × Hs)
  | .no, _, h => some (none, h)
  | .yes e, ρ, h => match evE F e ρ h with
    | some (.p (.int i), h1) => some (some i, h1)
    | _ => none
def evC (F : CallF) : To → Env' → Hs → Option (Bool × Hs)
  | .no, _, h => some (true, h)
  | .yes e, ρ, h => evT F e ρ h
def evI (F : CallF) : It → Env' → Hs → Option (Walk × Hs)
  | .val e, ρ, h => match evE F e ρ h with
    | none => none
    | some (v, h1) => walkV v h1
  | .rng es, ρ, h => match evEs F es ρ h with
    | none => none
    | some (vs, h1) => match rngV vs with
      | none => none
      | some xs => some (⟨xs, none⟩, h1)
  | .enm e, ρ, h => match evE F e ρ h with
    | none => none
    | some (v, h1) => match seqD h1 v with
      | none => none
      | some (_, xs) => match lockV v h1 with
        | (b, h2) => some (⟨enmD 0 xs, b⟩, h2)
  | .zip a b, ρ, h => match evE F a ρ h with
    | none => none
    | some (x, h1) => match evE F b ρ h1 with
      | none => none
      | some (y, h2) => match frzD x with
        | none => none
        | some d => match frzD y with
          | none => none
          | some e => match d, e with
            | .tup xs, .tup ys => some (⟨zipD xs ys, none⟩, h2)
            | .lst xs, .lst ys => some (⟨zipD xs ys, none⟩, h2)
            | _, _ => none
end

/-! ### statements -/
def bindAll : List Nat → List Val → Env' → Hs → Option (Env' × Hs)
  | [], [], ρ, h => some (ρ, h)
  | i :: is, v :: vs, ρ, h => bindAll is vs (ρ.set i (some (bind v h).1)) (bind v h).2
  | _, _, _, _ => none
def setV (h : Hs) (n : Nat) (k : Int) (d : D) : Option Hs := match h[n]? with
  | some (.lst false xs) => match ixN xs.length k with
    | some j => some (h.set n (.lst false (xs.set j d)))
    | none => none
  | _ => none
/-- n.append(v) -/
def appV (h : Hs) (n : Nat) (v : Val) : Option Hs := match v with
  | .loc m => match h[n]? with
    | some (.lst false []) => some (h.set n (.ref false [m]))
    | some (.ref false ns) => if Nat.blt ns.length line then some (h.set n (.ref false (ns ++ [m]))) else none
    | _ => none
  | v => match frzD v with
    | none => none
    | some d => match h[n]? with
      | some (.lst false xs) => if Nat.blt xs.length line then some (h.set n (.lst false (xs ++ [d]))) else none
      | _ => none
mutual
def evS (F : CallF) : S → Env' → Hs → Option (Out × Env' × Hs)
  | .asg i e, ρ, h => match evE F e ρ h with
    | none => none
    | some (v, h1) => some (.nx, ρ.set i (some (bind v h1).1), (bind v h1).2)
  | .tup is e, ρ, h => match evE F e ρ h with
    | some (.p (.tup ds), h1) => match setAll is ds ρ with
      | none => none
      | some ρ1 => some (.nx, ρ1, h1)
    | _ => none
  | .par is es, ρ, h => match evEs F es ρ h with
    | none => none
    | some (vs, h1) => match bindAll is vs ρ h1 with
      | none => none
      | some (ρ1, h2) => some (.nx, ρ1, h2)
  | .set o i e, ρ, h => match evE F e ρ h with
    | none => none
    | some (v, h1) => match frzD v with
      | none => none
      | some d => match evE F o ρ h1 with
        | some (.loc n, h2) => match evE F i ρ h2 with
          | some (.p (.int k), h3) => match setV h3 n k d with
            | none => none
            | some h4 => some (.nx, ρ, h4)
          | _ => none
        | _ => none
  | .app o e, ρ, h => match evE F o ρ h with
    | some (.loc n, h1) => match evE F e ρ h1 with
      | none => none
      | some (v, h2) => match appV h2 n v with
        | none => none
        | some h3 => some (.nx, ρ, h3)
    | _ => none
  | .tsn o i j e, ρ, h => match evE F e ρ h with
    | some (.p (.tup [d, d2]), h1) => match evE F o ρ h1 with
      | some (.loc n, h2) => match evE F i ρ h2 with
        | some (.p (.int k), h3) => match setV h3 n k d with
          | none => none
          | some h4 => some (.nx, ρ.set j (some (.p d2)), h4)
        | _ => none
      | _ => none
    | _ => none
  | .ex e, ρ, h => match evE F e ρ h with
    | none => none
    | some (_, h1) => some (.nx, ρ, h1)
  | .ret e, ρ, h => match evE F e ρ h with
    | none => none
    | some (v, h1) => some (.rt v, ρ, h1)
  | .retN, ρ, h => some (.rt (.p .non), ρ, h)
  | .ife c a b, ρ, h => match evT F c ρ h with
    | none => none
    | some (true, h1) => evSs F a ρ h1
    | some (false, h1) => evSs F b ρ h1
  | .for_ tg it body, ρ, h => match evI F it ρ h with
    | none => none
    | some (w, h1) => match forGo (forF tg (evSs F body)) w.items ρ h1 with
      | none => none
      | some (o, ρ1, h2) => some (o, ρ1, unlock w.back h2)
  | .whl c body, ρ, h => whlGo (evT F c) (evSs F body) fuelW ρ h
  | .brk, ρ, h => some (.bk, ρ, h)
  | .pss, ρ, h => some (.nx, ρ, h)
  | .nev, _, _ => none
def evSs (F : CallF) : Ss → Env' → Hs → Option (Out × Env' × Hs)
  | .nil, ρ, h => some (.nx, ρ, h)
  | .cons s ss, ρ, h => match evS F s ρ h with
    | none => none
    | some (.nx, ρ1, h1) => evSs F ss ρ1 h1
    | some r => some r
end

/-! ### defs -/
structure Fn where
  np : Nat           -- how many parameters
  nn : Nat           -- how many names
  body : Ss
abbrev Tab := List Fn
def start' (nn : Nat) (as : List Arg) : Nat → Env'
  | k => go as 0 ++ List.replicate (nn - as.length) none
where go : List Arg → Nat → Env'
  | [], _ => []
  | .p d :: as, k => some (.p d) :: go as k
  | .lst _ :: as, k => some (.loc k) :: go as (k + 1)
def heap' : List Arg → Hs
  | [] => []
  | .p _ :: as => heap' as
  | .lst xs :: as => .lst false xs :: heap' as
def outs' : List Arg → Hs → Option (List (List D))
  | [], _ => some []
  | .p _ :: as, h => outs' as h
  | .lst _ :: as, .lst _ xs :: h => match outs' as h with
    | some r => some (xs :: r)
    | none => none
  | .lst _ :: _, _ => none
def retD (na : Nat) (h : Hs) : Val → Option Ret
  | .p d => some (.p d)
  | .new xs => some (.new xs)
  | .loc n => if Nat.blt n na then some (.arg n) else match h[n]? with
    | some (.lst _ xs) => some (.new xs)
    | _ => none
def runFn (F : CallF) (f : Fn) (as : List Arg) : Option (Ret × List (List D)) :=
  if Nat.beq as.length f.np then match evSs F f.body (start' f.nn as 0) (heap' as) with
    | none => none
    | some (o, _, h) => match (match o with | .rt v => retD (heap' as).length h v | .nx => some (.p .non) | .bk => none), outs' as h with
      | some r, some xs => some (r, xs)
      | _, _ => none
  else none
def callD (T : Tab) : Nat → CallF
  | 0 => fun _ _ => none
  | n + 1 => fun i as => match T[i]? with
    | some f => runFn (callD T n) f as
    | none => none
end MP

/-! ## EngD.lean -/
set_option Elab.async false
set_option linter.all false
set_option maxRecDepth 100000
namespace MP
open PySem PySem.Spec PyProof.Rows L2

structure Pst (K : PySem.W.Frag) (ι : List Addr) (av : Av) (H : Hp) (h : Hs) (ι' : List Addr) (av' : Av) (H' : Hp) (h' : Hs) : Prop where
  stp : Stp ι av H ι' av' H'
  sim : SimH K h' ι' av' H'
  lk : ∀ (n : Nat) (o : O), h[n]? = some o → o.locked = true → h'[n]? = some o
abbrev Ev1 := Env' → Hs → Option (Val × Hs)
def Val.isNew : Val → Bool
  | .new _ => true
  | _ => false
def newsOf : List Val → List V → List V
  | .new _ :: vs, u :: us => u :: newsOf vs us
  | _ :: vs, _ :: us => newsOf vs us
  | _, _ => []
def RepRs (K : PySem.W.Frag) (H0 : Hp) (ι : List Addr) (av : Av) (H : Hp) : List Val → List V → Prop
  | [], us => us = []
  | v :: vs, us => ∃ u r, us = u :: r ∧ RepR K H0 ι av H v u ∧ RepRs K H0 ι av H vs r ∧ (v.isNew = true → u ∉ newsOf vs r)
def rdE (K : PySem.W.Frag) (m : Ev1) : TE := fun σ H Q => ∃ ρ h ι av v h', SimH K h ι av H ∧ RepE K ρ ι av σ H ∧ m ρ h = some (v, h') ∧
  ∀ ι' av' H' u, Pst K ι av H h ι' av' H' h' → RepR K H ι' av' H' v u → Q u H'
def rdA (K : PySem.W.Frag) (m : Env' → Hs → Option (List Val × Hs)) : TA := fun σ H Q => ∃ ρ h ι av vs h', SimH K h ι av H ∧ RepE K ρ ι av σ H ∧ m ρ h = some (vs, h') ∧
  ∀ ι' av' H' us, Pst K ι av H h ι' av' H' h' → RepRs K H ι' av' H' vs us → Q us H'
def rdT (K : PySem.W.Frag) (m : Env' → Hs → Option (Bool × Hs)) : TT := fun σ H Q => ∃ ρ h ι av b h', SimH K h ι av H ∧ RepE K ρ ι av σ H ∧ m ρ h = some (b, h') ∧
  ∀ ι' av' H', Pst K ι av H h ι' av' H' h' → Q b H'
def rdO (K : PySem.W.Frag) (m : Env' → Hs → Option (Option Int × Hs)) : TO := fun σ H Q => ∃ ρ h ι av o h', SimH K h ι av H ∧ RepE K ρ ι av σ H ∧ m ρ h = some (o, h') ∧
  ∀ ι' av' H', Pst K ι av H h ι' av' H' h' → Q o H'
section
variable {K : PySem.W.Frag} {H H0 H1 H2 H' : Hp} {av av' av1 av2 : Av} {ι ι' ι1 ι2 : List Addr} {h h' h1 h2 : Hs} {σ : L2.St} {ρ : Env'} {X : Cx}
theorem PEimp {e : Expr} {t t' : TE} (g : PE X e t) (k : ∀ σ H Q, t' σ H Q → t σ H Q) : PE X e t' := ⟨fun pins s σ H Q I q => g.run pins s σ H Q I (k _ _ _ q)⟩
theorem PTimp {e : Expr} {t t' : TT} (g : PT X e t) (k : ∀ σ H Q, t' σ H Q → t σ H Q) : PT X e t' := ⟨fun pins s σ H Q I q => g.run pins s σ H Q I (k _ _ _ q)⟩
theorem PWimp {e : Expr} {t t' : TT} (g : PW X e t) (k : ∀ σ H Q, t' σ H Q → t σ H Q) : PW X e t' := ⟨fun wh pins s σ H Q I q => g.run wh pins s σ H Q I (k _ _ _ q)⟩
theorem PAimp {e : List Expr} {t t' : TA} (g : PA X e t) (k : ∀ σ H Q, t' σ H Q → t σ H Q) : PA X e t' := ⟨fun pos pins s σ H Q I q => g.run pos pins s σ H Q I (k _ _ _ q)⟩
theorem PSimp {e : Stmt} {t t' : TS} (g : PS X e t) (k : ∀ D σ H, t' D σ H → t D σ H) : PS X e t' := ⟨fun pins s σ H D I q => g.run pins s σ H D I (k _ _ _ q)⟩
theorem PSsimp {e : List Stmt} {t t' : TS} (g : PSs X e t) (k : ∀ D σ H, t' D σ H → t D σ H) : PSs X e t' := ⟨fun pins s σ H D I q => g.run pins s σ H D I (k _ _ _ q)⟩
theorem Pst.refl (s : SimH K h ι av H) : Pst K ι av H h ι av H h := ⟨.refl, s, fun _ _ e _ => e⟩
theorem Pst.trans (a : Pst K ι av H h ι1 av1 H1 h1) (b : Pst K ι1 av1 H1 h1 ι2 av2 H2 h2) : Pst K ι av H h ι2 av2 H2 h2 :=
  ⟨a.stp.trans b.stp, b.sim, fun n o e l => b.lk n o (a.lk n o e l) l⟩
/-- what is new of an earlier result is so of the later ones -/
theorem RepRs.tie : ∀ {vs : List Val} {us : List V} {a : Addr}, RepRs K H0 ι av H vs us → H0 a ≠ none → V.ref a ∉ newsOf vs us
  | [], us, a, h, e => by simp [newsOf]
  | v :: vs, us, a, h, e => by
    obtain ⟨u, r, rfl, h1, h2, _⟩ := h
    have ih := RepRs.tie h2 e
    cases v with
    | new xs =>
      obtain ⟨b, _, rfl, q, _⟩ := h1
      simp only [newsOf, List.mem_cons, not_or]
      refine ⟨fun z => ?_, ih⟩
      injection z with z
      subst z
      exact e q
    | p d => exact ih
    | loc n => exact ih
theorem Stp.repRs (s : Stp ι av H ι' av' H') (sub : ∀ a ∈ ι, av a) : ∀ {vs : List Val} {us : List V}, RepRs K H0 ι av H vs us → RepRs K H0 ι' av' H' vs us
  | [], _, h => h
  | v :: vs, us, h => by
    obtain ⟨u, r, rfl, h1, h2, h3⟩ := h
    exact ⟨u, r, rfl, s.repR sub h1, Stp.repRs s sub h2, h3⟩
theorem RepRs.back (s : Stp ι1 av1 H1 ι2 av2 H2) : ∀ {vs : List Val} {us : List V}, RepRs K H2 ι av H vs us → RepRs K H1 ι av H vs us
  | [], _, h => h
  | v :: vs, us, h => by
    obtain ⟨u, r, rfl, h1, h2, h3⟩ := h
    exact ⟨u, r, rfl, h1.back s, RepRs.back s h2, h3⟩
/-- one result ahead of others -/
theorem RepRs.cons {v : Val} {u : V} {vs : List Val} {us : List V} (s : Stp ι1 av1 H1 ι2 av2 H2) (sub : ∀ a ∈ ι1, av1 a) (b : Stp ι av H ι1 av1 H1) (r1 : RepR K H ι1 av1 H1 v u) (r2 : RepRs K H1 ι2 av2 H2 vs us) : RepRs K H ι2 av2 H2 (v :: vs) (u :: us) := by
  refine ⟨u, us, rfl, s.repR sub r1, r2.back b, fun hn => ?_⟩
  cases v with
  | new xs =>
    obtain ⟨a, ws, rfl, _, q, _⟩ := r1
    exact r2.tie (by rw [q]; simp)
  | p d => cases hn
  | loc n => cases hn
abbrev H_0 : Hp := fun _ => none
theorem RepR.any {v : Val} {u : V} (r : RepR K H0 ι av H v u) : RepR K H_0 ι av H v u := by
  cases v with
  | p d => exact r
  | loc n => exact r
  | new xs => obtain ⟨a, vs, e, _, k⟩ := r; exact ⟨a, vs, e, rfl, k⟩
/-- a list's or tuple's items -/
theorem seqD_ok {v : Val} {u : V} {b : Bool} {xs : List D} (s : SimH K h ι av H) (r : RepR K H0 ι av H v u) (e : seqD h v = some (b, xs)) :
    ∃ a vs, u = .ref a ∧ RepDs K H av xs vs ∧ (b = true → H a = some (.tup vs)) ∧ (b = false → H a = some (.lst vs)) := by
  cases v with
  | p d =>
    cases d with
    | tup ys =>
      simp only [seqD, Option.some.injEq, Prod.mk.injEq] at e
      obtain ⟨rfl, rfl⟩ := e
      obtain ⟨a, vs, rfl, q, _, k⟩ := r
      exact ⟨a, vs, rfl, k, fun _ => q, fun z => nomatch z⟩
    | lst ys =>
      simp only [seqD, Option.some.injEq, Prod.mk.injEq] at e
      obtain ⟨rfl, rfl⟩ := e
      obtain ⟨a, vs, rfl, q, _, k⟩ := r
      exact ⟨a, vs, rfl, k, fun z => (nomatch z), fun _ => q⟩
    | _ => simp [seqD] at e
  | new ys =>
    simp only [seqD, Option.some.injEq, Prod.mk.injEq] at e
    obtain ⟨rfl, rfl⟩ := e
    obtain ⟨a, vs, rfl, _, q, _, _, k⟩ := r
    exact ⟨a, vs, rfl, k, fun z => (nomatch z), fun _ => q⟩
  | loc n =>
    obtain ⟨a, q, rfl⟩ := r
    simp only [seqD] at e
    split at e
    · rename_i k ys q2
      simp only [Option.some.injEq, Prod.mk.injEq] at e
      obtain ⟨rfl, rfl⟩ := e
      obtain ⟨a', vs, q3, q4, q5⟩ := s.ob n _ q2
      rw [q] at q3; cases q3
      exact ⟨a, vs, rfl, q5, fun z => (nomatch z), fun _ => q4⟩
    · cases e
theorem seqD_sq {v : Val} {u : V} {b : Bool} {xs : List D} (s : SimH K h ι av H) (r : RepR K H0 ι av H v u) (e : seqD h v = some (b, xs)) :
    ∃ a vs, u = .ref a ∧ RepDs K H av xs vs ∧ (SqL K H a vs ∨ SqT K H a vs) := by
  obtain ⟨a, vs, rfl, q, h1, h2⟩ := seqD_ok s r e
  cases b with
  | true => exact ⟨a, vs, rfl, q, .inr (.of (h1 rfl))⟩
  | false => exact ⟨a, vs, rfl, q, .inl (.of (h2 rfl))⟩
abbrev av0 : Av := fun _ => False
theorem datD_ok {v : Val} {u : V} {d : D} (s : SimH K h ι av H) (r : RepR K H0 ι av H v u) (e : datD h v = some d) : RepD K H av0 d u := by
  cases v with
  | p d =>
    simp only [datD, Option.some.injEq] at e
    subst e
    exact RepD.lessAv (fun _ z => z.elim) (show RepD K H av d u from r)
  | new ys =>
    simp only [datD, Option.some.injEq] at e
    subst e
    obtain ⟨a, vs, rfl, _, q, _, _, k⟩ := r
    exact ⟨a, vs, rfl, q, fun z => z, RepDs.lessAv (fun _ z => z.elim) k⟩
  | loc n =>
    obtain ⟨a, q, rfl⟩ := r
    simp only [datD] at e
    split at e
    · rename_i k ys q2
      simp only [Option.some.injEq] at e
      subst e
      obtain ⟨a', vs, q3, q4, q5⟩ := s.ob n _ q2
      rw [q] at q3; cases q3
      exact ⟨a, vs, rfl, q4, fun z => z, RepDs.lessAv (fun _ z => z.elim) q5⟩
    · cases e
/-- the state behind a new object -/
theorem Stp.upd_new {p : Addr} {o : HO} (hp : H p = none) (live : ∀ a, av a → H a ≠ none) : Stp ι av H ι av (upd H p o) :=
  ⟨⟨[], by simp, by simp⟩, fun a ob e _ => by rw [upd_ne (fun z => by subst z; rw [hp] at e; cases e)]; exact e,
   fun a e => by by_cases z : a = p; · subst z; rw [upd_same]; simp
                 · rw [upd_ne z]; exact e, fun _ q => .inl q, fun _ q => q⟩
theorem SimH.step (s : SimH K h ι av H) (st : Stp ι av H ι av' H') (sub : ∀ a ∈ ι, av' a) (live : ∀ a, av' a → H' a ≠ none) (keep : ∀ a ∈ ι, H' a = H a) : SimH K h ι av' H' := by
  refine ⟨s.len, s.nd, sub, live, fun n o e => ?_⟩
  obtain ⟨a, vs, q1, q2, q3⟩ := s.ob n o e
  refine ⟨a, vs, q1, (keep a (List.mem_of_getElem? q1)).trans q2, ?_⟩
  cases o with
  | lst k xs => exact st.repDs s.sub q3
  | ref k ns => exact q3
theorem SimH.upd_new {p : Addr} {o : HO} (s : SimH K h ι av H) (hp : H p = none) : SimH K h ι av (upd H p o) :=
  s.step (Stp.upd_new hp s.live) s.sub (fun a e => (Stp.upd_new (ι := ι) (o := o) hp s.live).alive a (s.live a e)) fun a m => upd_ne (fun z => by subst z; exact s.live _ (s.sub _ m) hp)
theorem Pst.upd_new {p : Addr} {o : HO} (s : SimH K h ι av H) (hp : H p = none) : Pst K ι av H h ι av (upd H p o) h :=
  ⟨Stp.upd_new hp s.live, s.upd_new hp, fun _ _ e _ => e⟩
theorem Pst.newTup {p : Addr} {xs : List D} {vs : List V} (s : SimH K h ι av H) (hp : H p = none) (r : RepDs K H av xs vs) :
    Pst K ι av H h ι av (upd H p (.tup vs)) h ∧ RepR K H ι av (upd H p (.tup vs)) (.p (.tup xs)) (.ref p) := by
  have st : Pst K ι av H h ι av (upd H p (.tup vs)) h := .upd_new s hp
  refine ⟨st, p, vs, rfl, upd_same, fun z => s.live _ z hp, st.stp.repDs s.sub r⟩
theorem Pst.newLst {p : Addr} {xs : List D} {vs : List V} (s : SimH K h ι av H) (hp : H p = none) (r : RepDs K H av xs vs) :
    Pst K ι av H h ι (fun a => av a ∨ a = p) (upd H p (.lst vs)) h ∧ RepR K H ι (fun a => av a ∨ a = p) (upd H p (.lst vs)) (.new xs) (.ref p) := by
  have st : Stp ι av H ι (fun a => av a ∨ a = p) (upd H p (.lst vs)) := by
    have b : Stp ι av H ι av (upd H p (.lst vs)) := Stp.upd_new hp s.live
    exact ⟨b.ext, b.keep, b.alive, fun a q => q.elim .inl fun z => .inr (z ▸ hp), fun a q => .inl q⟩
  have np : ∀ a, av a → a ≠ p := fun a q z => s.live a q (z ▸ hp)
  refine ⟨⟨st, s.step st (fun a m => .inl (s.sub a m)) (fun a q => ?_) (fun a m => upd_ne (np a (s.sub a m))), fun _ _ e _ => e⟩, p, vs, rfl, hp, upd_same, .inr rfl, fun m => np p (s.sub p m) rfl, st.repDs s.sub r⟩
  rcases q with q | q
  · exact st.alive a (s.live a q)
  · subst q; rw [upd_same]; simp
end
end MP

/-! ## EngE.lean -/
set_option Elab.async false
set_option linter.all false
set_option maxRecDepth 100000
namespace MP
open PySem PySem.Spec PyProof.Rows L2
section
variable {K : PySem.W.Frag} {H H0 H1 H2 H' : Hp} {av av' av1 av2 : Av} {ι ι' ι1 ι2 : List Addr} {h h' h1 h2 : Hs} {σ : L2.St} {ρ : Env'} {X : Cx}

/-! ### results that change nothing, of a scalar -/
theorem intV_eq {v : Val} {i : Int} (e : intV v = some i) : v = .p (.int i) := by
  unfold intV at e
  split at e
  · simp only [Option.some.injEq] at e; subst e; rfl
  · cases e
theorem strV_eq {v : Val} {i : Str} (e : strV v = some i) : v = .p (.str i) := by
  unfold strV at e
  split at e
  · simp only [Option.some.injEq] at e; subst e; rfl
  · cases e
theorem scrV_eq {v : Val} {i : List Int} (e : scrV v = some i) : v = .p (.scr i) := by
  unfold scrV at e
  split at e
  · simp only [Option.some.injEq] at e; subst e; rfl
  · cases e
theorem RepR.intE {i : Int} {u : V} (r : RepR K H0 ι av H (.p (.int i)) u) : u = .int i := r
theorem RepR.strE {i : Str} {u : V} (r : RepR K H0 ι av H (.p (.str i)) u) : u = .str i := r
theorem line_eq : line = sizeLine := by rw [sizeLine_eq]; rfl
theorem ble_line {n : Nat} (e : Nat.ble n line = true) : n ≤ sizeLine := by rw [← line_eq]; exact Nat.le_of_ble_eq_true e
theorem blt_line {n : Nat} (e : Nat.blt n line = true) : n < sizeLine := by
  rw [← line_eq]
  exact Nat.le_of_ble_eq_true e

/-! ### two-place operations -/
def rV2 (K : PySem.W.Frag) (m : Val → Val → Hs → Option Val) : R2 := fun x y H Q => ∃ h ι av vx vy v, SimH K h ι av H ∧ RepR K H_0 ι av H vx x ∧ RepR K H_0 ι av H vy y ∧ m vx vy h = some v ∧
  ∀ av' H' u, Pst K ι av H h ι av' H' h → RepR K H ι av' H' v u → Q u H'
theorem blt64 {i : Int} (e : Nat.blt i.natAbs 18446744073709551616 = true) : -(2 ^ 64) < i ∧ i < 2 ^ 64 := by
  have := Nat.le_of_ble_eq_true (show Nat.ble (i.natAbs + 1) 18446744073709551616 = true from e)
  omega
theorem op_bin (o : Operator) : OpR X (binaryOp o) (rV2 X.K (binV o)) := by
  intro pins s σ H x y v u Q I rx ry hh
  obtain ⟨h, ι, av, vx, vy, w, sim, r1, r2, e, k⟩ := hh
  have done : ∀ {d : D} {z : V}, RepD X.K H av d z → w = .p d → Q z H := fun {d z} r ew => k av H z (.refl sim) (by subst ew; exact r)
  unfold binV at e
  split at e
  · rename_i j ej
    have e2 := intV_eq ej
    subst e2
    have := r2.intE
    subst this
    split at e
    · rename_i i ei
      have e2 := intV_eq ei
      subst e2
      have := r1.intE
      subst this
      split at e
      · rename_i d ed
        simp only [Option.some.injEq] at e
        have fin : ∀ z, d = .int z → Q (.int z) H := fun z ez => done (d := d) (by subst ez; rfl) e.symm
        cases o <;> simp only [binI, Option.some.injEq, reduceCtorEq] at ed
        · exact op_add pins s σ H _ _ v u Q I rx ry ⟨i, j, rfl, rfl, fin _ ed.symm⟩
        · exact op_sub pins s σ H _ _ v u Q I rx ry ⟨i, j, rfl, rfl, fin _ ed.symm⟩
        · split at ed
          · rename_i hm
            simp only [Option.some.injEq] at ed
            unfold mulOk at hm
            simp only [Bool.or_eq_true] at hm
            rcases hm with hm | hm | hm
            · exact op_mul pins s σ H _ _ v u Q I rx ry ⟨i, j, rfl, rfl, .inl (blt64 hm), fin _ ed.symm⟩
            · exact op_mul pins s σ H _ _ v u Q I rx ry ⟨i, j, rfl, rfl, .inr (blt64 hm), fin _ ed.symm⟩
            · exact op_mulW pins s σ H _ _ v u Q I rx ry ⟨i, j, rfl, rfl, Nat.le_of_ble_eq_true hm, fin _ ed.symm⟩
          · cases ed
        · split at ed
          · rename_i hm
            simp only [Option.some.injEq] at ed
            simp only [decide_eq_true_eq] at hm
            exact op_mod pins s σ H _ _ v u Q I rx ry ⟨i, j, rfl, rfl, hm, fin _ ed.symm⟩
          · cases ed
        · split at ed
          · rename_i hm
            simp only [Option.some.injEq] at ed
            simp only [Bool.and_eq_true, decide_eq_true_eq] at hm
            exact op_pow pins s σ H _ _ v u Q I rx ry ⟨i, j, rfl, rfl, ⟨hm.1, hm.2.1, by have := Nat.le_of_ble_eq_true (show Nat.ble (i.natAbs + 1) 18446744073709551616 = true from hm.2.2); omega⟩, fin _ ed.symm⟩
          · cases ed
        · split at ed
          · rename_i hm
            simp only [Option.some.injEq] at ed
            simp only [Bool.and_eq_true, decide_eq_true_eq] at hm
            exact op_fdiv pins s σ H _ _ v u Q I rx ry ⟨i, j, rfl, rfl, hm, fin _ ed.symm⟩
          · cases ed
      · cases e
    · split at e
      · unfold timesV at e
        split at e
        · rename_i xs es
          split at e
          · rename_i hm
            simp only [Option.some.injEq] at e
            simp only [Bool.and_eq_true, decide_eq_true_eq] at hm
            obtain ⟨a, vs, rfl, rv, _, hl⟩ := seqD_ok sim r1 es
            refine op_rep pins s σ H _ _ v u Q I rx ry ⟨a, j, vs, rfl, rfl, hl rfl, by omega, by omega, by rw [rv.length]; exact ble_line hm.1, fun p hp => ?_⟩
            obtain ⟨p1, p2⟩ := Pst.newLst sim hp (rv.rep j.toNat)
            exact k _ _ _ p1 (by rw [← e]; exact p2)
          · cases e
        · cases e
      · cases e
  · split at e
    · unfold catV at e
      split at e
      · rename_i xs es
        split at e
        · rename_i ys et
          split at e
          · rename_i hm
            simp only [Option.some.injEq] at e
            obtain ⟨a, vs, rfl, rv, _, hl⟩ := seqD_ok sim r1 es
            obtain ⟨b, ws, rfl, rw', _, hl2⟩ := seqD_ok sim r2 et
            refine op_cat pins s σ H _ _ v u Q I rx ry ⟨a, b, vs, ws, rfl, rfl, hl rfl, hl2 rfl, by rw [rv.length, rw'.length]; exact ble_line hm, fun p hp => ?_⟩
            obtain ⟨p1, p2⟩ := Pst.newLst sim hp (rv.append rw')
            exact k _ _ _ p1 (by rw [← e]; exact p2)
          · cases e
        · cases e
      · rename_i xs es
        split at e
        · rename_i ys et
          split at e
          · rename_i hm
            simp only [Option.some.injEq] at e
            obtain ⟨a, vs, rfl, rv, hl, _⟩ := seqD_ok sim r1 es
            obtain ⟨b, ws, rfl, rw', hl2, _⟩ := seqD_ok sim r2 et
            have l1 := rv.length
            have l2 := rw'.length
            refine op_catA pins s σ H _ _ v u Q I rx ry ⟨a, b, vs, ws, rfl, rfl, .of (hl rfl), .of (hl2 rfl), by rw [l1, l2]; exact ble_line hm, fun z => ?_, fun _ z => ?_, fun _ _ p hp => ?_⟩
            · have zx : xs = [] := List.eq_nil_of_length_eq_zero (by rw [← l1, z]; rfl)
              subst zx
              cases vy with
              | p d => cases d <;> simp [seqD] at et; subst et; exact done (d := .tup _) r2 (by rw [← e]; simp)
              | new xs => simp [seqD] at et
              | loc n =>
                simp only [seqD] at et
                split at et <;> cases et
            · have zx : ys = [] := List.eq_nil_of_length_eq_zero (by rw [← l2, z]; rfl)
              subst zx
              cases vx with
              | p d => cases d <;> simp [seqD] at es; subst es; exact done (d := .tup _) r1 (by rw [← e]; simp)
              | new xs => simp [seqD] at es
              | loc n =>
                simp only [seqD] at es
                split at es <;> cases es
            · obtain ⟨p1, p2⟩ := Pst.newTup sim hp (rv.append rw')
              exact k _ _ _ p1 (by rw [← e]; exact p2)
          · cases e
        · cases e
      · split at e
        · rename_i a ea
          have e2 := strV_eq ea
          subst e2
          have := r1.strE
          subst this
          split at e
          · rename_i b eb
            have e2 := strV_eq eb
            subst e2
            have := r2.strE
            subst this
            split at e
            · rename_i hm
              simp only [Option.some.injEq] at e
              exact op_add_str pins s σ H _ _ v u Q I rx ry ⟨a, b, rfl, rfl, ble_line hm, done (d := .str (a ++ b)) rfl e.symm⟩
            · cases e
          · cases e
        · cases e
    · cases e

/-- two expressions, then an operation on the values -/
theorem two_ok {f : Value → Value → Sem Value} {m : Val → Val → Hs → Option Val} {ma mb : Ev1} :
    ∀ σ H Q, rdE K (fun ρ h => match ma ρ h with
      | none => none
      | some (x, h1) => match mb ρ h1 with
        | none => none
        | some (y, h2) => match m x y h2 with
          | none => none
          | some v => some (v, h2)) σ H Q → tOp (rV2 K m) (rdE K ma) (rdE K mb) σ H Q := by
  rintro σ H Q ⟨ρ, h, ι, av, v, h', sim, re, e, k⟩
  cases e1 : ma ρ h with
  | none => simp [e1] at e
  | some q1 =>
    obtain ⟨x, h1⟩ := q1
    simp only [e1] at e
    cases e2 : mb ρ h1 with
    | none => simp [e2] at e
    | some q2 =>
      obtain ⟨y, h2⟩ := q2
      simp only [e2] at e
      cases e3 : m x y h2 with
      | none => simp [e3] at e
      | some w =>
        simp only [e3, Option.some.injEq, Prod.mk.injEq] at e
        obtain ⟨rfl, rfl⟩ := e
        refine ⟨ρ, h, ι, av, x, h1, sim, re, e1, fun ι1 av1 H1 u1 p1 r1 => ?_⟩
        refine ⟨ρ, h1, ι1, av1, y, h2, p1.sim, p1.stp.repE sim.sub re, e2, fun ι2 av2 H2 u2 p2 r2 => ?_⟩
        refine ⟨h2, ι2, av2, x, y, w, p2.sim, (p2.stp.repR p1.sim.sub r1).any, r2.any, e3, fun av3 H3 u3 p3 r3 => ?_⟩
        exact k ι2 av3 H3 u3 ((p1.trans p2).trans p3) (r3.back (p1.trans p2).stp)
end
end MP

/-! ## EngF.lean -/
set_option Elab.async false
set_option linter.all false
set_option maxRecDepth 100000
namespace MP
open PySem PySem.Spec PyProof.Rows L2
mutual
theorem okD_lay : ∀ d : D, okD d = true → (toPy d).canLay0 = true
  | .non, _ => rfl
  | .bl _, _ => rfl
  | .int _, _ => rfl
  | .str _, h => h
  | .tup xs, h => okDs_lay xs h
  | .lst xs, h => okDs_lay xs h
  | .rep _, h => by simp [okD] at h
  | .scr _, h => by simp [okD] at h
theorem okDs_lay : ∀ d : List D, okDs d = true → PyData.canLayAll0 (toPys d) = true
  | [], _ => rfl
  | x :: xs, h => by
    simp only [okDs, Bool.and_eq_true] at h
    simp only [toPys, PyData.canLayAll0, Bool.and_eq_true]
    exact ⟨okD_lay x h.1, okDs_lay xs h.2⟩
end
theorem ints_depth : ∀ ns : List Int, PyData.depthAll (ns.map PyData.int) = 0
  | [] => rfl
  | n :: ns => by simp [PyData.depthAll, PyData.depth, ints_depth ns]
mutual
theorem depD_ok : ∀ d : D, (toPy d).depth = depD d
  | .non => rfl
  | .bl _ => rfl
  | .int _ => rfl
  | .str _ => rfl
  | .tup xs => by simp only [toPy, PyData.depth, depD, depDs_ok xs]
  | .lst xs => by simp only [toPy, PyData.depth, depD, depDs_ok xs]
  | .rep _ => rfl
  | .scr ns => by simp only [toPy, PyData.depth, depD, ints_depth ns]
theorem depDs_ok : ∀ d : List D, PyData.depthAll (toPys d) = depDs d
  | [] => rfl
  | x :: xs => by
    simp only [toPys, PyData.depthAll, depDs, depD_ok x, depDs_ok xs]
end
theorem shpD_ok {d : D} (h : shpD d = true) : SeqAt.shaped (toPy d) = true := by
  unfold shpD at h
  simp only [Bool.and_eq_true] at h
  unfold SeqAt.shaped
  rw [Bool.and_eq_true]
  refine ⟨okD_lay d h.1, decide_eq_true ?_⟩
  rw [depD_ok]
  have := Nat.le_of_ble_eq_true h.2
  omega
section
variable {K : PySem.W.Frag} {H H0 H1 H2 H' : Hp} {av av' av1 av2 : Av} {ι ι' ι1 ι2 : List Addr} {h h' h1 h2 : Hs} {σ : L2.St} {ρ : Env'} {X : Cx}
theorem txtD_ok {d : D} {u : V} (h : txtD d = true) (r : RepD K H av d u) : ∃ x, u = .str x ∧ toPy d = .str x := by
  cases d with
  | str x => exact ⟨x, r, rfl⟩
  | rep d => exact ⟨_, r, rfl⟩
  | _ => simp [txtD] at h
/-- == of two values -/
theorem eqV_ok {pins : List (Addr × Obj)} {s : Shared} {x y : V} {v u : Value} {Q : VK} {vx vy : Val} {b : Bool} {neg : Bool} (hu : X.A.units + 64 < cLine) (I : Inv X pins σ H s) (rx : RelV x v) (ry : RelV y u)
    (sim : SimH X.K h ι av H) (r1 : RepR X.K H_0 ι av H vx x) (r2 : RepR X.K H_0 ι av H vy y) (e : eqV vx vy h = some b) (q : Q (.bl (if neg then !b else b)) H) :
    wpAny (model X.prog X.w) X.A (compareOp (if neg then .NotEq else .Eq) v u) (EP X pins σ Q) X.xe s := by
  unfold eqV at e
  split at e
  · rename_i a ea
    split at e
    · rename_i c ec
      have d1 := datD_ok sim r1 ea
      have d2 := datD_ok sim r2 ec
      split at e
      · rename_i hm
        have pe := pyEq_ok a c b e
        rw [Bool.or_eq_true, Bool.and_eq_true, Bool.and_eq_true] at hm
        rcases hm with ⟨h1, h2⟩ | ⟨h1, h2⟩
        · obtain ⟨x1, rfl, p1⟩ := txtD_ok h1 d1
          obtain ⟨x2, rfl, p2⟩ := txtD_ok h2 d2
          rw [p1, p2] at pe
          have pe' : (x1 == x2) = b := pe
          have e2 : decide (V.str x1 = V.str x2) = b := by rw [dec_str]; exact pe'
          cases neg with
          | false => exact op_eq pins s σ H _ _ v u Q I rx ry ⟨rfl, by rw [e2]; exact q⟩
          | true => exact op_ne pins s σ H _ _ v u Q I rx ry ⟨rfl, by rw [e2]; exact q⟩
        · cases neg with
          | false => exact op_eqD hu pins s σ H _ _ v u Q I rx ry ⟨_, _, RepD.dp _ _ d1, RepD.dp _ _ d2, shpD_ok h1, shpD_ok h2, by rw [pe]; exact q⟩
          | true => exact op_neD hu pins s σ H _ _ v u Q I rx ry ⟨_, _, RepD.dp _ _ d1, RepD.dp _ _ d2, shpD_ok h1, shpD_ok h2, by rw [pe]; exact q⟩
      · cases e
    · cases e
  · cases e
theorem isN_ok {v : Val} {u : V} (r : RepR K H_0 ι av H v u) : isN v = decide (u = .non) := by
  cases v with
  | p d =>
    cases d with
    | non => have : u = .non := r; subst this; rfl
    | bl b => have : u = .bl b := r; subst this; rfl
    | int i => have : u = .int i := r; subst this; rfl
    | str x => have : u = .str x := r; subst this; rfl
    | rep d => have : u = .str (toPy d).shown := r; subst this; rfl
    | tup xs => obtain ⟨a, vs, rfl, _⟩ := r; rfl
    | lst xs => obtain ⟨a, vs, rfl, _⟩ := r; rfl
    | scr xs => obtain ⟨a, rfl, _⟩ := r; rfl
  | loc n => obtain ⟨a, _, rfl⟩ := r; rfl
  | new xs => obtain ⟨a, vs, rfl, _⟩ := r; rfl
theorem cmpI_eq {f : Int → Int → Bool} {vx vy : Val} {x y : V} {b : Bool} (r1 : RepR K H_0 ι av H vx x) (r2 : RepR K H_0 ι av H vy y) (e : cmpI f vx vy = some b) : ∃ i j, x = .int i ∧ y = .int j ∧ f i j = b := by
  unfold cmpI at e
  split at e
  · rename_i i ei
    split at e
    · rename_i j ej
      simp only [Option.some.injEq] at e
      rw [intV_eq ei] at r1
      rw [intV_eq ej] at r2
      exact ⟨i, j, r1.intE, r2.intE, e⟩
    · cases e
  · cases e
theorem intsOf_eq : ∀ {xs : List D} {is : List Int}, intsOf xs = some is → xs = is.map D.int
  | [], is, e => by simp [intsOf] at e; subst e; rfl
  | x :: xs, is, e => by
    cases x <;> simp only [intsOf, reduceCtorEq] at e
    split at e
    · cases e
    · rename_i is' ei
      simp only [Option.some.injEq] at e
      subst e
      rw [intsOf_eq ei]
      rfl
theorem blsOf_eq : ∀ {xs : List D} {is : List Bool}, blsOf xs = some is → xs = is.map D.bl
  | [], is, e => by simp [blsOf] at e; subst e; rfl
  | x :: xs, is, e => by
    cases x <;> simp only [blsOf, reduceCtorEq] at e
    split at e
    · cases e
    · rename_i is' ei
      simp only [Option.some.injEq] at e
      subst e
      rw [blsOf_eq ei]
      rfl
theorem tupI_eq {v : Val} {is : List Int} {u : V} (e : tupI v = some is) (r : RepR K H_0 ι av H v u) : ∃ a, u = .ref a ∧ SqT K H a (is.map V.int) := by
  unfold tupI at e
  split at e
  · rename_i xs
    rw [intsOf_eq e] at r
    obtain ⟨a, vs, rfl, q, _, rv⟩ := r
    rw [RepDs.ints rv] at q
    exact ⟨a, rfl, .of q⟩
  · cases e
theorem inDs_ok {d : D} : ∀ {ds : List D} {b : Bool}, inV'.inDs d ds = some b → ((toPys ds).any fun z => PyData.eqv z (toPy d)) = b
  | [], b, e => by simp [inV'.inDs] at e; subst e; rfl
  | x :: xs, b, e => by
    simp only [inV'.inDs] at e
    split at e
    · cases e
    · rename_i b1 e1
      split at e
      · cases e
      · rename_i c e2
        simp only [Option.some.injEq] at e
        simp only [toPys, List.any_cons, pyEq_ok _ _ _ e1, inDs_ok e2, e]
theorem op_cmp (hu : X.A.units + 65 < cLine) (o : CmpOp) : OpR X (compareOp o) (rV2 X.K (cmpW o)) := by
  intro pins s σ H x y v u Q I rx ry hh
  obtain ⟨h, ι, av, vx, vy, w, sim, r1, r2, e, k⟩ := hh
  unfold cmpW at e
  split at e
  · cases e
  · rename_i b eb
    simp only [Option.some.injEq] at e
    subst e
    have q : Q (.bl b) H := k av H _ (.refl sim) rfl
    have fin : ∀ c, c = b → Q (.bl c) H := fun c z => by rw [z]; exact q
    cases o <;> simp only [cmpV] at eb
    · exact eqV_ok (neg := false) (by omega) I rx ry sim r1 r2 eb q
    · split at eb
      · rename_i c ec
        simp only [Option.some.injEq] at eb
        exact eqV_ok (neg := true) (by omega) I rx ry sim r1 r2 ec (fin _ (by simpa using eb))
      · cases eb
    · unfold ltV at eb
      split at eb
      · rename_i i ei
        split at eb
        · rename_i j ej
          simp only [Option.some.injEq] at eb
          rw [intV_eq ei] at r1
          rw [intV_eq ej] at r2
          exact op_lt pins s σ H _ _ v u Q I rx ry ⟨i, j, r1.intE, r2.intE, fin _ eb⟩
        · cases eb
      · split at eb
        · rename_i a ea
          split at eb
          · rename_i c ec
            simp only [Option.some.injEq] at eb
            obtain ⟨p1, rfl, s1⟩ := tupI_eq ea r1
            obtain ⟨p2, rfl, s2⟩ := tupI_eq ec r2
            exact op_ltT (by omega) pins s σ H _ _ v u Q I rx ry ⟨p1, p2, a, c, rfl, rfl, s1, s2, fin _ eb⟩
          · cases eb
        · cases eb
    · obtain ⟨i, j, rfl, rfl, e⟩ := cmpI_eq r1 r2 eb
      exact op_le pins s σ H _ _ v u Q I rx ry ⟨i, j, rfl, rfl, fin _ e⟩
    · obtain ⟨i, j, rfl, rfl, e⟩ := cmpI_eq r1 r2 eb
      exact op_gt pins s σ H _ _ v u Q I rx ry ⟨i, j, rfl, rfl, fin _ e⟩
    · obtain ⟨i, j, rfl, rfl, e⟩ := cmpI_eq r1 r2 eb
      exact op_ge pins s σ H _ _ v u Q I rx ry ⟨i, j, rfl, rfl, fin _ e⟩
    · split at eb
      · rename_i hn
        simp only [Option.some.injEq] at eb
        rw [isN_ok r2] at hn
        exact op_isN pins s σ H _ _ v u Q I rx ry ⟨of_decide_eq_true hn, fin _ (by rw [← eb, isN_ok r1])⟩
      · cases eb
    · split at eb
      · rename_i hn
        simp only [Option.some.injEq] at eb
        rw [isN_ok r2] at hn
        exact op_notN pins s σ H _ _ v u Q I rx ry ⟨of_decide_eq_true hn, fin _ (by rw [← eb, isN_ok r1])⟩
      · cases eb
    · unfold inV' at eb
      split at eb
      · rename_i d ed
        split at eb
        · rename_i ds es
          split at eb
          · rename_i hm
            rw [Bool.and_eq_true] at hm
            have d1 := datD_ok sim r1 ed
            obtain ⟨a, vs, rfl, rv, _, hl⟩ := seqD_ok sim r2 es
            exact op_inD hu pins s σ H _ _ v u Q I rx ry ⟨toPy d, toPys ds, RepD.dp _ _ d1, .lst (.of (hl rfl)) (RepDs.dp _ _ rv), shpD_ok hm.1, shpD_ok (d := .lst ds) hm.2, fin _ (inDs_ok eb)⟩
          · cases eb
        · cases eb
      · cases eb
    · split at eb
      · rename_i c ec
        simp only [Option.some.injEq] at eb
        unfold inV' at ec
        split at ec
        · rename_i d ed
          split at ec
          · rename_i ds es
            split at ec
            · rename_i hm
              rw [Bool.and_eq_true] at hm
              have d1 := datD_ok sim r1 ed
              obtain ⟨a, vs, rfl, rv, _, hl⟩ := seqD_ok sim r2 es
              exact op_notInD hu pins s σ H _ _ v u Q I rx ry ⟨toPy d, toPys ds, RepD.dp _ _ d1, .lst (.of (hl rfl)) (RepDs.dp _ _ rv), shpD_ok hm.1, shpD_ok (d := .lst ds) hm.2, fin _ (by rw [inDs_ok ec]; exact eb)⟩
            · cases ec
          · cases ec
        · cases ec
      · cases eb
end
end MP

/-! ## EngG.lean -/
set_option Elab.async false
set_option linter.all false
set_option maxRecDepth 100000
namespace MP
open PySem PySem.Spec PyProof.Rows L2
section
variable {K : PySem.W.Frag} {H H0 H1 H2 H' : Hp} {av av' av1 av2 : Av} {ι ι' ι1 ι2 : List Addr} {h h' h1 h2 : Hs} {σ : L2.St} {ρ : Env'} {X : Cx}
theorem atI_rep {xs : List D} {vs : List V} {i : Int} {d : D} (r : RepDs K H av xs vs) (e : atI xs i = some d) : ∃ v, atI vs i = some v ∧ RepD K H av d v := by
  unfold atI at e ⊢
  rw [r.length]
  cases q : ixN xs.length i with
  | none => rw [q] at e; cases e
  | some j =>
    rw [q] at e
    exact r.get e
theorem atI_map {α β : Type} {f : α → β} {xs : List α} {i : Int} {d : α} (e : atI xs i = some d) : atI (xs.map f) i = some (f d) := by
  unfold atI at e ⊢
  rw [List.length_map]
  cases q : ixN xs.length i with
  | none => rw [q] at e; cases e
  | some j =>
    rw [q] at e
    have e : xs[j]? = some d := e
    show (xs.map f)[j]? = _
    rw [List.getElem?_map, e]
    rfl
theorem paired_at {α β : Type} {F : α → β → Prop} : ∀ {xs : List α} {ys : List β} {j : Nat} {x : α}, Paired F xs ys → xs[j]? = some x → ∃ y, ys[j]? = some y ∧ F x y
  | _, _, _, _, .nil, e => by simp at e
  | _, _, 0, _, .cons r _, e => by simp at e; subst e; exact ⟨_, rfl, r⟩
  | _, _, j + 1, _, .cons _ t, e => by
    obtain ⟨y, h1, h2⟩ := paired_at (j := j) t (by simpa using e)
    exact ⟨y, by simpa using h1, h2⟩
theorem paired_len {α β : Type} {F : α → β → Prop} : ∀ {xs : List α} {ys : List β}, Paired F xs ys → xs.length = ys.length
  | _, _, .nil => rfl
  | _, _, .cons _ t => by simp [paired_len t]
theorem ix_sub : IxR X (rV2 X.K subV) := by
  intro value slice pins s σ H x y v u Q I rx ry hh hs
  obtain ⟨h, ι, av, vx, vy, w, sim, r1, r2, e, k⟩ := hh
  have fin : ∀ {z : V}, RepR X.K H ι av H w z → Q z H := fun {z} r => k av H z (.refl sim) r
  unfold subV at e
  split at e
  · cases e
  · rename_i i ei
    rw [intV_eq ei] at r2
    have := r2.intE
    subst this
    cases vx with
    | new xs =>
      simp only at e
      split at e
      · rename_i d ed
        simp only [Option.some.injEq] at e
        subst e
        obtain ⟨a, vs, rfl, _, q, _, _, rv⟩ := r1
        obtain ⟨z, q1, q2⟩ := atI_rep rv ed
        exact ix_list value slice pins s σ H _ _ v u Q I rx ry ⟨a, vs, i, z, rfl, rfl, .of q, q1, fin q2⟩ hs
      · cases e
    | loc n =>
      simp only at e
      obtain ⟨a, q, rfl⟩ := r1
      split at e
      · rename_i kk xs eo
        split at e
        · rename_i d ed
          simp only [Option.some.injEq] at e
          subst e
          obtain ⟨a', vs, q3, q4, rv⟩ := sim.ob n _ eo
          rw [q] at q3; cases q3
          obtain ⟨z, q1, q2⟩ := atI_rep rv ed
          exact ix_list value slice pins s σ H _ _ v u Q I rx ry ⟨a, vs, i, z, rfl, rfl, .of q4, q1, fin q2⟩ hs
        · cases e
      · rename_i kk ns eo
        split at e
        · rename_i m em
          simp only [Option.some.injEq] at e
          subst e
          obtain ⟨a', vs, q3, q4, rv⟩ := sim.ob n _ eo
          rw [q] at q3; cases q3
          unfold atI at em
          cases ej : ixN ns.length i with
          | none => rw [ej] at em; cases em
          | some j =>
            rw [ej] at em
            obtain ⟨z, q1, b, q2, rfl⟩ := paired_at rv (show ns[j]? = some m from em)
            refine ix_list value slice pins s σ H _ _ v u Q I rx ry ⟨a, vs, i, .ref b, rfl, rfl, .of q4, ?_, fin ⟨b, q2, rfl⟩⟩ hs
            unfold atI
            rw [← paired_len rv, ej]
            exact q1
        · cases e
      · cases e
    | p d =>
      cases d with
      | scr ns =>
        simp only at e
        split at e
        · rename_i d ed
          simp only [Option.some.injEq] at e
          subst e
          obtain ⟨a, rfl, q⟩ := r1
          exact ix_list value slice pins s σ H _ _ v u Q I rx ry ⟨a, _, i, .int d, rfl, rfl, sqL_of q, atI_map ed, fin rfl⟩ hs
        · cases e
      | tup xs =>
        simp only at e
        split at e
        · rename_i d ed
          simp only [Option.some.injEq] at e
          subst e
          obtain ⟨a, vs, rfl, q, _, rv⟩ := r1
          obtain ⟨z, q1, q2⟩ := atI_rep rv ed
          exact ix_tup value slice pins s σ H _ _ v u Q I rx ry ⟨a, vs, i, z, rfl, rfl, .of q, q1, fin q2⟩ hs
        · cases e
      | lst xs =>
        simp only at e
        split at e
        · rename_i d ed
          simp only [Option.some.injEq] at e
          subst e
          obtain ⟨a, vs, rfl, q, _, rv⟩ := r1
          obtain ⟨z, q1, q2⟩ := atI_rep rv ed
          exact ix_list value slice pins s σ H _ _ v u Q I rx ry ⟨a, vs, i, z, rfl, rfl, .of q, q1, fin q2⟩ hs
        · cases e
      | str z =>
        simp only at e
        split at e
        · rename_i c ec
          split at e
          · rename_i hm
            simp only [Option.some.injEq] at e
            subst e
            have := r1.strE
            subst this
            exact ix_str value slice pins s σ H _ _ v u Q I rx ry ⟨z, i, c, rfl, rfl, ble_line hm, ec, fin rfl⟩ hs
          · cases e
        · cases e
      | _ => cases e

/-! ### slices -/
def rSV (K : PySem.W.Frag) : V → Option Int → Option Int → Hp → VK → Prop := fun x lo hi H Q => ∃ h ι av vx v, SimH K h ι av H ∧ RepR K H_0 ι av H vx x ∧ slV vx lo hi h = some v ∧
  ∀ av' H' u, Pst K ι av H h ι av' H' h → RepR K H ι av' H' v u → Q u H'
theorem cut_rep {xs : List D} {vs : List V} (r : RepDs K H av xs vs) (lo hi : Option Int) : RepDs K H av (cutD xs lo hi) (cutV vs lo hi) := by
  unfold cutD cutV
  rw [r.length]
  exact RepDs.take _ (RepDs.drop _ r)
theorem cut_len {xs : List D} {lo hi : Option Int} (h1 : HT.sIx xs.length 0 lo = 0) (h2 : HT.sIx xs.length xs.length hi = xs.length) : cutD xs lo hi = xs := by
  unfold cutD
  simp only [cutAt]
  rw [h1, h2]
  simp
theorem cut_map {ns : List Int} {lo hi : Option Int} : cutV (ns.map V.int) lo hi = (cutD ns lo hi).map V.int := by
  unfold cutD cutV
  rw [List.length_map, List.map_take, List.map_drop]
theorem sl_ok : SlR X (rSV X.K) := by
  intro pins s σ H x v vl vu lo hi sl Q I rx hs pl pu hh
  obtain ⟨h, ι, av, vx, w, sim, r1, e, k⟩ := hh
  have lst : ∀ {a : Addr} {vs : List V} {xs : List D}, x = .ref a → SqL X.K H a vs → RepDs X.K H av (cutD xs lo hi) (cutV vs lo hi) → w = .new (cutD xs lo hi) →
      ∃ T id, typeLookup (.type T) "__getitem__" = pure (some (.builtin id)) ∧ s.TypeIs v T ∧ wpAny (model X.prog X.w) X.A (getItem v (.ref sl)) (EP X pins σ Q) X.xe s := fun {a vs xs} ex q rv ew => by
    refine sl_list pins s σ H x v vl vu lo hi sl Q I rx hs pl pu ⟨a, vs, ex, q, fun p hp => ?_⟩
    obtain ⟨p1, p2⟩ := Pst.newLst sim hp rv
    exact k _ _ _ p1 (by rw [ew]; exact p2)
  unfold slV at e
  split at e
  · rename_i ns
    simp only [Option.some.injEq] at e
    obtain ⟨a, rfl, q⟩ := r1
    refine sl_list pins s σ H _ v vl vu lo hi sl Q I rx hs pl pu ⟨a, _, rfl, sqL_of q, fun p hp => ?_⟩
    rw [cut_map]
    obtain ⟨p1, p2⟩ := Pst.newLst sim hp (RepDs.ofInts (K := X.K) (H := H) (av := av) (cutD ns lo hi))
    exact k _ _ _ p1 (by rw [← e]; exact p2)
  · split at e
    · rename_i xs es
      simp only [Option.some.injEq] at e
      obtain ⟨a, vs, rfl, rv, hl, _⟩ := seqD_ok sim r1 es
      have ev : vx = .p (.tup xs) := by
        cases vx with
        | p d => cases d <;> simp [seqD] at es; rw [es]
        | new xs => simp [seqD] at es
        | loc n =>
          simp only [seqD] at es
          split at es <;> cases es
      refine sl_tupA pins s σ H _ v vl vu lo hi sl Q I rx hs pl pu ⟨a, vs, rfl, .of (hl rfl), fun z => ?_, fun _ p hp => ?_⟩
      · rw [rv.length] at z
        rw [cut_len z.1 z.2] at e
        exact k av H _ (.refl sim) (by rw [← e]; rw [ev] at r1; exact r1)
      · obtain ⟨p1, p2⟩ := Pst.newTup sim hp (cut_rep rv lo hi)
        exact k _ _ _ p1 (by rw [← e]; exact p2)
    · rename_i xs es
      simp only [Option.some.injEq] at e
      obtain ⟨a, vs, rfl, rv, _, hl⟩ := seqD_ok sim r1 es
      exact lst rfl (.of (hl rfl)) (cut_rep rv lo hi) e.symm
    · cases e

/-! ### truth -/
theorem tru_V {v : Val} {u : V} {b : Bool} (s : SimH K h ι av H) (r : RepR K H0 ι av H v u) (e : truV h v = some b) : TruV K u H b := by
  have sq : ∀ {xs : List D}, seqD h v = some (false, xs) → b = !xs.isEmpty → TruV K u H b := fun {xs} es eb => by
    obtain ⟨a, vs, rfl, rv, _, hl⟩ := seqD_ok s r es
    refine .inl ⟨vs, .of (hl rfl), ?_⟩
    rw [eb]
    cases xs with
    | nil => cases rv; rfl
    | cons x xs => obtain ⟨_, _, rfl, _⟩ := rv; rfl
  cases v with
  | p d =>
    cases d with
    | non => simp [truV] at e; subst e; cases r; rfl
    | bl b => simp [truV] at e; subst e; cases r; rfl
    | int i =>
      simp only [truV, Option.some.injEq] at e
      subst e
      cases r
      show decide (i ≠ 0) = (i != 0)
      by_cases z : i = 0 <;> simp [z]
    | tup xs =>
      simp only [truV, Option.some.injEq] at e
      obtain ⟨a, vs, rfl, q, _, rv⟩ := r
      refine .inr (.inl ⟨vs, .of q, ?_⟩)
      rw [← e]
      cases xs with
      | nil => cases rv; rfl
      | cons x xs => obtain ⟨_, _, rfl, _⟩ := rv; rfl
    | _ =>
      simp only [truV] at e
      split at e
      · rename_i xs es
        exact sq es (by simpa using e.symm)
      · cases e
  | new xs =>
    simp only [truV] at e
    split at e
    · rename_i xs es
      exact sq es (by simpa using e.symm)
    · cases e
  | loc n =>
    simp only [truV] at e
    split at e
    · rename_i xs es
      exact sq es (by simpa using e.symm)
    · cases e
/-! ### xs[::-1] -/
theorem RepDs.rev : ∀ {xs : List D} {vs : List V}, RepDs K H av xs vs → RepDs K H av xs.reverse vs.reverse
  | [], _, h => by cases h; rfl
  | x :: xs, _, h => by
    obtain ⟨v, r, rfl, h1, h2⟩ := h
    rw [List.reverse_cons, List.reverse_cons]
    exact RepDs.append (RepDs.rev h2) ⟨v, [], rfl, h1, rfl⟩
end
end MP

/-! ## EngH.lean -/
set_option Elab.async false
set_option linter.all false
set_option maxRecDepth 100000
namespace MP
open PySem PySem.Spec PyProof.Rows L2
/-! ### the longest text of repr -/
theorem strOk_lt {x : Str} (h : PyData.strOk x = true) : ∀ c ∈ x.cps.toList, c < 16 ^ 8 := fun c hc => by
  unfold PyData.strOk at h
  rw [← Array.all_toList] at h
  have := List.all_eq_true.mp h c hc
  simp only [decide_eq_true_eq] at this
  omega
mutual
theorem shown_len : ∀ d : D, shwD d = true → (toPy d).shown.length ≤ szD d
  | .non, _ => by decide +kernel
  | .bl b, _ => by cases b <;> decide +kernel
  | .int i, h => by
    have h' : i.natAbs.log2 < 1920 := Nat.le_of_ble_eq_true h
    show (Str.ofString (toString i)).length ≤ 1922
    rw [PySem.ofString_length]
    have := int_text_length_le (k := 1920) (by omega) h'
    omega
  | .str x, h => by
    have := StrLaws.reprText_len x (strOk_lt h)
    simpa only [toPy, PyData.shown, szD] using this
  | .tup xs, h => by
    have h1 := shown_lens xs h
    have h2 := tupleText_len_le (PyData.shownAll (toPys xs))
    simp only [toPy, PyData.shown, szD]
    omega
  | .lst xs, h => by
    have h1 := shown_lens xs h
    have h2 := listText_len_le (PyData.shownAll (toPys xs))
    simp only [toPy, PyData.shown, szD]
    omega
  | .rep _, h => by simp [shwD] at h
  | .scr _, h => by simp [shwD] at h
theorem shown_lens : ∀ xs : List D, shwDs xs = true → ((PyData.shownAll (toPys xs)).map (·.length)).sum + 2 * (PyData.shownAll (toPys xs)).length ≤ szDs xs
  | [], _ => by simp [toPys, PyData.shownAll]
  | x :: xs, h => by
    simp only [shwDs, Bool.and_eq_true] at h
    have h1 := shown_len x h.1
    have h2 := shown_lens xs h.2
    simp only [toPys, PyData.shownAll, List.map_cons, List.sum_cons, List.length_cons, szDs]
    omega
end
mutual
theorem shw_ok : ∀ d : D, shwD d = true → (toPy d).showable = true
  | .non, _ => rfl
  | .bl _, _ => rfl
  | .int i, h => decide_eq_true (Nat.le_of_ble_eq_true h)
  | .str _, _ => rfl
  | .tup xs, h => shws_ok xs h
  | .lst xs, h => shws_ok xs h
  | .rep _, h => by simp [shwD] at h
  | .scr _, h => by simp [shwD] at h
theorem shws_ok : ∀ d : List D, shwDs d = true → PyData.showableAll (toPys d) = true
  | [], _ => rfl
  | x :: xs, h => by
    simp only [shwDs, Bool.and_eq_true] at h
    simp only [toPys, PyData.showableAll, Bool.and_eq_true]
    exact ⟨shw_ok x h.1, shws_ok xs h.2⟩
end
mutual
theorem noDict : ∀ d : D, (toPy d).hasDict = false
  | .non => rfl
  | .bl _ => rfl
  | .int i => rfl
  | .str _ => rfl
  | .tup xs => noDicts xs
  | .lst xs => noDicts xs
  | .rep _ => rfl
  | .scr ns => by
    show PyData.hasDictAll (ns.map PyData.int) = false
    induction ns with
    | nil => rfl
    | cons n ns ih => simp only [List.map_cons, PyData.hasDictAll, ih]; rfl
theorem noDicts : ∀ d : List D, PyData.hasDictAll (toPys d) = false
  | [] => rfl
  | x :: xs => by simp only [toPys, PyData.hasDictAll, noDict x, noDicts xs, Bool.or_self]
end
section
variable {K : PySem.W.Frag} {H H0 H1 H2 H' : Hp} {av av' av1 av2 : Av} {ι ι' ι1 ι2 : List Addr} {h h' h1 h2 : Hs} {σ : L2.St} {ρ : Env'} {X : Cx}
/-! ### built-in functions by their values -/
def rV1 (K : PySem.W.Frag) (m : Val → Hs → Option Val) : List V → Hp → VK → Prop := fun xs H Q => ∃ h ι av vx x v, xs = [x] ∧ SimH K h ι av H ∧ RepR K H_0 ι av H vx x ∧ m vx h = some v ∧
  ∀ av' H' u, Pst K ι av H h ι av' H' h → RepR K H ι av' H' v u → Q u H'
def biF : Bi → Value
  | .int => .type "int" | .tuple => .type "tuple" | .list => .type "list"
  | .len => .builtin "len" | .sum => .builtin "sum" | .all => .builtin "all" | .any => .builtin "any" | .max => .builtin "max" | .min => .builtin "min"
  | .abs => .builtin "abs" | .sorted => .builtin "sorted" | .divmod => .builtin "divmod" | .repr => .builtin "repr"
theorem intsV_eq {v : Val} {is : List Int} {u : V} (s : SimH K h ι av H) (e : intsV v h = some is) (r : RepR K H0 ι av H v u) : ∃ a, u = .ref a ∧ H a = some (.lst (is.map V.int)) := by
  unfold intsV at e
  split at e
  · rename_i xs es
    obtain ⟨a, vs, rfl, rv, _, hl⟩ := seqD_ok s r es
    rw [intsOf_eq e] at rv
    rw [RepDs.ints rv] at hl
    exact ⟨a, rfl, hl rfl⟩
  · cases e
theorem blsV_eq {v : Val} {is : List Bool} {u : V} (s : SimH K h ι av H) (e : blsV v h = some is) (r : RepR K H0 ι av H v u) : ∃ a, u = .ref a ∧ H a = some (.lst (is.map V.bl)) := by
  unfold blsV at e
  split at e
  · rename_i xs es
    obtain ⟨a, vs, rfl, rv, _, hl⟩ := seqD_ok s r es
    rw [blsOf_eq e] at rv
    rw [RepDs.bls rv] at hl
    exact ⟨a, rfl, hl rfl⟩
  · cases e
theorem maxI_go : ∀ (xs : List Int) (x : Int), xs.foldl (fun a b => if a < b then b else a) x ∈ x :: xs ∧ ∀ y ∈ x :: xs, y ≤ xs.foldl (fun a b => if a < b then b else a) x
  | [], x => by simp
  | z :: xs, x => by
    simp only [List.foldl_cons]
    obtain ⟨h1, h2⟩ := maxI_go xs (if x < z then z else x)
    refine ⟨?_, fun y hy => ?_⟩
    · rcases List.mem_cons.mp h1 with e | e
      · rw [e]; split <;> simp
      · simp [e]
    · have h3 := h2 _ List.mem_cons_self
      have k1 : x ≤ (if x < z then z else x) := by split <;> omega
      have k2 : z ≤ (if x < z then z else x) := by split <;> omega
      rcases List.mem_cons.mp hy with e | hy
      · rw [e]; exact Int.le_trans k1 h3
      · rcases List.mem_cons.mp hy with e | hy
        · rw [e]; exact Int.le_trans k2 h3
        · exact h2 y (List.mem_cons_of_mem _ hy)
theorem minI_go : ∀ (xs : List Int) (x : Int), xs.foldl (fun a b => if b < a then b else a) x ∈ x :: xs ∧ ∀ y ∈ x :: xs, xs.foldl (fun a b => if b < a then b else a) x ≤ y
  | [], x => by simp
  | z :: xs, x => by
    simp only [List.foldl_cons]
    obtain ⟨h1, h2⟩ := minI_go xs (if z < x then z else x)
    refine ⟨?_, fun y hy => ?_⟩
    · rcases List.mem_cons.mp h1 with e | e
      · rw [e]; split <;> simp
      · simp [e]
    · have h3 := h2 _ List.mem_cons_self
      have k1 : (if z < x then z else x) ≤ x := by split <;> omega
      have k2 : (if z < x then z else x) ≤ z := by split <;> omega
      rcases List.mem_cons.mp hy with e | hy
      · rw [e]; exact Int.le_trans h3 k1
      · rcases List.mem_cons.mp hy with e | hy
        · rw [e]; exact Int.le_trans h3 k2
        · exact h2 y (List.mem_cons_of_mem _ hy)
theorem insB_perm {α : Type} (le : α → α → Bool) (x : α) : ∀ xs : List α, (insB le x xs).Perm (x :: xs)
  | [] => List.Perm.refl _
  | y :: ys => by
    unfold insB
    split
    · exact List.Perm.refl _
    · exact (List.Perm.cons y (insB_perm le x ys)).trans (List.Perm.swap x y ys)
theorem insB_srt {α : Type} {le : α → α → Bool} (tot : ∀ a b, le a b = false → le b a = true) (tr : ∀ a b c, le a b = true → le b c = true → le a c = true) (x : α) :
    ∀ {xs : List α}, xs.Pairwise (fun a b => le a b = true) → (insB le x xs).Pairwise (fun a b => le a b = true)
  | [], _ => by simp [insB]
  | y :: ys, h => by
    unfold insB
    have h' := List.pairwise_cons.mp h
    split
    · rename_i hxy
      refine List.pairwise_cons.mpr ⟨fun z hz => ?_, h⟩
      rcases List.mem_cons.mp hz with e | hz
      · subst e; exact hxy
      · exact tr _ _ _ hxy (h'.1 z hz)
    · rename_i hxy
      refine List.pairwise_cons.mpr ⟨fun z hz => ?_, insB_srt tot tr x h'.2⟩
      rcases List.mem_cons.mp ((insB_perm le x ys).mem_iff.mp hz) with e | hz
      · subst e; exact tot _ _ hxy
      · exact h'.1 z hz
theorem sortB_perm {α : Type} (le : α → α → Bool) : ∀ xs : List α, (sortB le xs).Perm xs
  | [] => List.Perm.refl _
  | x :: xs => (insB_perm le x _).trans (List.Perm.cons x (sortB_perm le xs))
theorem sortB_srt {α : Type} {le : α → α → Bool} (tot : ∀ a b, le a b = false → le b a = true) (tr : ∀ a b c, le a b = true → le b c = true → le a c = true) : ∀ xs : List α, (sortB le xs).Pairwise (fun a b => le a b = true)
  | [] => List.Pairwise.nil
  | x :: xs => insB_srt tot tr x (sortB_srt tot tr xs)
theorem leI_tot (a b : Int) (h : leI a b = false) : leI b a = true := by simp only [leI, decide_eq_false_iff_not, decide_eq_true_eq] at *; omega
theorem leI_tr (a b c : Int) (h : leI a b = true) (h' : leI b c = true) : leI a c = true := by simp only [leI, decide_eq_true_eq] at *; omega
theorem lexP_iff {a b : Int × Int} : lexP a b = true ↔ a.1 < b.1 ∨ (a.1 = b.1 ∧ a.2 ≤ b.2) := by
  unfold lexP
  split <;> simp only [decide_eq_true_eq] <;> omega
theorem lexP_no {a b : Int × Int} : lexP a b = false ↔ ¬ (a.1 < b.1 ∨ (a.1 = b.1 ∧ a.2 ≤ b.2)) := by
  rw [← lexP_iff]
  cases lexP a b <;> simp
theorem lexP_tot (a b : Int × Int) (h : lexP a b = false) : lexP b a = true := by
  have := lexP_no.mp h
  exact lexP_iff.mpr (by omega)
theorem lexP_tr (a b c : Int × Int) (h : lexP a b = true) (h' : lexP b c = true) : lexP a c = true := by
  have h1 := lexP_iff.mp h
  have h2 := lexP_iff.mp h'
  exact lexP_iff.mpr (by omega)
theorem pairsOf_eq : ∀ {xs : List D} {is : List (Int × Int)}, pairsOf xs = some is → xs = is.map fun p => D.tup [.int p.1, .int p.2]
  | [], is, e => by simp [pairsOf] at e; subst e; rfl
  | x :: xs, is, e => by
    unfold pairsOf at e
    split at e
    · rename_i z; cases z
    · rename_i i j ys z
      simp only [List.cons.injEq] at z
      obtain ⟨z1, z2⟩ := z
      subst z1 z2
      split at e
      · cases e
      · rename_i is' ei
        simp only [Option.some.injEq] at e
        subst e
        rw [pairsOf_eq ei]
        rfl
    · cases e
/-- the pair at an address -/
def keyAt (H : Hp) : V → Int × Int
  | .ref t => match H t with
    | some (.tup [.int i, .int j]) => (i, j)
    | _ => (0, 0)
  | _ => (0, 0)
theorem pairs_keys : ∀ {ps : List (Int × Int)} {vs : List V}, RepDs K H av (ps.map fun p => D.tup [.int p.1, .int p.2]) vs →
    vs.map (keyAt H) = ps ∧ ∀ x ∈ vs, ∃ t, x = V.ref t ∧ H t = some (.tup [.int (keyAt H x).1, .int (keyAt H x).2]) ∧ ¬ av t
  | [], vs, r => by cases r; simp
  | p :: ps, vs, r => by
    obtain ⟨v, r', rfl, ⟨t, ws, rfl, q, na, rw'⟩, h2⟩ := r
    obtain ⟨w1, r1, rfl, e1, w2, r2, rfl, e2, e3⟩ := rw'
    cases e1; cases e2; cases e3
    obtain ⟨i1, i2⟩ := pairs_keys h2
    have ek : keyAt H (.ref t) = p := by
      show (match H t with
        | some (.tup [.int i, .int j]) => (i, j)
        | _ => (0, 0)) = p
      rw [q]
    refine ⟨by rw [List.map_cons, ek, i1], fun x hx => ?_⟩
    rcases List.mem_cons.mp hx with e | hx
    · subst e
      exact ⟨t, rfl, by rw [ek]; exact q, na⟩
    · exact i2 x hx
theorem keys_pairs : ∀ {ys : List V}, (∀ x ∈ ys, ∃ t, x = V.ref t ∧ H t = some (.tup [.int (keyAt H x).1, .int (keyAt H x).2]) ∧ ¬ av t) →
    RepDs K H av ((ys.map (keyAt H)).map fun p => D.tup [.int p.1, .int p.2]) ys
  | [], _ => rfl
  | y :: ys, h => by
    obtain ⟨t, e, q, na⟩ := h y List.mem_cons_self
    refine ⟨y, ys, rfl, ⟨t, _, e, q, na, _, _, rfl, rfl, _, _, rfl, rfl, rfl⟩, keys_pairs fun x hx => h x (List.mem_cons_of_mem _ hx)⟩
theorem call_sorted : CallR X (.builtin "sorted") (rV1 X.K (bi1 .sorted)) := by
  intro pins s σ H xs us Q I rx hh
  obtain ⟨h, ι, av, vx, x, w, rfl, sim, r1, e, k⟩ := hh
  simp only [bi1] at e
  split at e
  · rename_i xs es
    split at e
    · rename_i ys ey
      simp only [Option.some.injEq] at e
      obtain ⟨a, vs, rfl, rv, _, hl⟩ := seqD_ok sim r1 es
      unfold sortV at ey
      split at ey
      · rename_i is ei
        simp only [Option.some.injEq] at ey
        rw [intsOf_eq ei] at rv
        rw [RepDs.ints rv] at hl
        refine cr_sortedI pins s σ H _ us Q I rx ⟨a, is, rfl, .of (hl rfl), fun ns p hp hs hn => ?_⟩
        have e2 : ns = sortB leI is := by
          refine (hp.trans (sortB_perm leI is).symm).eq_of_pairwise (fun x y _ _ h1 h2 => Int.le_antisymm h1 h2) hs ?_
          exact (sortB_srt leI_tot leI_tr is).imp fun {a b} z => of_decide_eq_true z
        subst e2
        obtain ⟨p1, p2⟩ := Pst.newLst sim hn (RepDs.ofInts (K := X.K) (H := H) (av := av) (sortB leI is))
        exact k _ _ _ p1 (by rw [← e, ← ey]; exact p2)
      · split at ey
        · rename_i ps ep
          simp only [Option.some.injEq] at ey
          rw [pairsOf_eq ep] at rv
          obtain ⟨k1, k2⟩ := pairs_keys rv
          refine cr_sortedPO pins s σ H _ us Q I rx ⟨a, vs, keyAt H, rfl, .of (hl rfl), fun x hx => ?_, fun zs p hs hb hn => ?_⟩
          · obtain ⟨t, e1, e2, _⟩ := k2 x hx
            exact ⟨t, e1, e2⟩
          · have e2 : zs.map (keyAt H) = sortB lexP ps := by
              have pm : (zs.map (keyAt H)).Perm ps := by rw [← k1]; exact hb.perm.map _
              refine (pm.trans (sortB_perm lexP ps).symm).eq_of_pairwise (le := fun a b => lexP a b = true) (fun x y _ _ h1 h2 => ?_) ?_ (sortB_srt lexP_tot lexP_tr ps)
              · have g1 := lexP_iff.mp h1
                have g2 := lexP_iff.mp h2
                exact Prod.ext (by omega) (by omega)
              · refine List.pairwise_map.mpr (hs.imp fun {a b} z => ?_)
                have z' := SrtO.lexB_no.mp z
                exact lexP_iff.mpr (by omega)
            have rz := keys_pairs (K := X.K) (H := H) (av := av) (ys := zs) fun x hx => k2 x (hb.perm.mem_iff.mp hx)
            rw [e2] at rz
            obtain ⟨p1, p2⟩ := Pst.newLst sim hn rz
            exact k _ _ _ p1 (by rw [← e, ← ey]; exact p2)
        · cases ey
    · cases e
  · cases e
/-- two values -/
def rV2' (K : PySem.W.Frag) (m : Val → Val → Option Val) : List V → Hp → VK → Prop := fun xs H Q => ∃ h ι av vx vy x y v, xs = [x, y] ∧ SimH K h ι av H ∧ RepR K H_0 ι av H vx x ∧ RepR K H_0 ι av H vy y ∧ m vx vy = some v ∧
  ∀ av' H' u, Pst K ι av H h ι av' H' h → RepR K H ι av' H' v u → Q u H'
theorem call_bi2 (hc : X.calm = true) (b : Bi) : CallR X (biF b) (rV2' X.K (bi2 b)) := by
  intro pins s σ H xs us Q I rx hh
  obtain ⟨h, ι, av, vx, vy, x, y, w, rfl, sim, r1, r2, e, k⟩ := hh
  unfold bi2 at e
  split at e
  · cases e
  · rename_i i ei
    split at e
    · cases e
    · rename_i j ej
      rw [intV_eq ei] at r1
      rw [intV_eq ej] at r2
      have := r1.intE
      subst this
      have := r2.intE
      subst this
      cases b <;> simp only [reduceCtorEq, Option.some.injEq] at e
      · exact call_max2 hc pins s σ H _ us Q I rx ⟨i, j, rfl, k av H _ (.refl sim) (by rw [← e]; rfl)⟩
      · exact call_min2 hc pins s σ H _ us Q I rx ⟨i, j, rfl, k av H _ (.refl sim) (by rw [← e]; rfl)⟩
      · split at e
        · rename_i hm
          simp only [Option.some.injEq] at e
          simp only [Bool.and_eq_true, decide_eq_true_eq] at hm
          refine call_divmod pins s σ H _ us Q I rx ⟨i, j, rfl, hm, fun p hp => ?_⟩
          obtain ⟨p1, p2⟩ := Pst.newTup (xs := [.int (i / j), .int (i % j)]) sim hp ⟨_, _, rfl, rfl, _, _, rfl, rfl, rfl⟩
          exact k _ _ _ p1 (by rw [← e]; exact p2)
        · cases e
theorem call_bi1 (hc : X.calm = true) (hg : X.A.guards = some []) (hu : X.A.units + 65 < cLine) (b : Bi) (hb : b ≠ .sorted) : CallR X (biF b) (rV1 X.K (bi1 b)) := by
  intro pins s σ H xs us Q I rx hh
  obtain ⟨h, ι, av, vx, x, w, rfl, sim, r1, e, k⟩ := hh
  have fin : ∀ {d : D} {z : V}, w = .p d → RepD X.K H av d z → Q z H := fun {d z} ew r => k av H z (.refl sim) (by rw [ew]; exact r)
  cases b <;> simp only [bi1] at e
  · -- len
    split at e
    · rename_i n en
      simp only [Option.some.injEq] at e
      have fn : ∀ {m : Nat}, (m : Int) = n → Q (.int m) H := fun {m} em => fin (d := .int n) e.symm (by rw [em]; rfl)
      have sq : ∀ {b : Bool} {ys : List D}, seqD h vx = some (b, ys) → (ys.length : Int) = n → wpAny (model X.prog X.w) X.A (call (biF .len) us) (EP X pins σ Q) X.xe s := fun {b ys} es el => by
        obtain ⟨a, vs, rfl, rv, q⟩ := seqD_sq sim r1 es
        exact call_len_seq pins s σ H _ us Q I rx ⟨a, vs, rfl, q, by rw [rv.length]; exact fn el⟩
      unfold lenV at en
      split at en
      · simp only [Option.some.injEq] at en
        obtain ⟨a, rfl, q⟩ := r1
        exact call_len_seq pins s σ H _ us Q I rx ⟨a, _, rfl, .inl (sqL_of q), by rw [List.length_map]; exact fn en⟩
      · simp only [Option.some.injEq] at en
        exact sq (b := true) rfl en
      · simp only [Option.some.injEq] at en
        exact sq (b := false) rfl en
      · simp only [Option.some.injEq] at en
        exact sq (b := false) rfl en
      · split at en
        · rename_i z hm
          simp only [Option.some.injEq] at en
          have := r1.strE
          subst this
          exact call_len_str pins s σ H _ us Q I rx ⟨z, rfl, ble_line hm, fn en⟩
        · cases en
      · split at en
        · rename_i n' kk ys eo
          simp only [Option.some.injEq] at en
          exact sq (b := false) (by simp only [seqD, eo]) en
        · rename_i n' kk ns eo
          simp only [Option.some.injEq] at en
          obtain ⟨a, q, rfl⟩ := r1
          obtain ⟨a', vs, q3, q4, rv⟩ := sim.ob _ _ eo
          rw [q] at q3; cases q3
          exact call_len_seq pins s σ H _ us Q I rx ⟨a, vs, rfl, .inl (.of q4), by rw [← paired_len rv]; exact fn en⟩
        · cases en
      · cases en
    · cases e
  · -- sum
    split at e
    · rename_i ns en
      simp only [Option.some.injEq] at e
      rw [scrV_eq en] at r1
      obtain ⟨a, rfl, q⟩ := r1
      exact cr_sum hc pins s σ H _ us Q I rx ⟨a, ns, rfl, sqL_of q, fin e.symm rfl⟩
    · split at e
      · rename_i is ei
        simp only [Option.some.injEq] at e
        obtain ⟨a, rfl, q⟩ := intsV_eq sim ei r1
        exact cr_sum hc pins s σ H _ us Q I rx ⟨a, is, rfl, .of q, fin e.symm rfl⟩
      · cases e
  · split at e
    · rename_i is ei
      simp only [Option.some.injEq] at e
      obtain ⟨a, rfl, q⟩ := blsV_eq sim ei r1
      exact cr_all hc pins s σ H _ us Q I rx ⟨a, is, rfl, .of q, fin e.symm rfl⟩
    · cases e
  · split at e
    · rename_i is ei
      simp only [Option.some.injEq] at e
      obtain ⟨a, rfl, q⟩ := blsV_eq sim ei r1
      exact cr_any hc pins s σ H _ us Q I rx ⟨a, is, rfl, .of q, fin e.symm rfl⟩
    · cases e
  · split at e
    · rename_i is ei
      split at e
      · rename_i m em
        simp only [Option.some.injEq] at e
        obtain ⟨a, rfl, q⟩ := intsV_eq sim ei r1
        cases is with
        | nil => cases em
        | cons y ys =>
          simp only [maxI, Option.some.injEq] at em
          obtain ⟨g1, g2⟩ := maxI_go ys y
          rw [em] at g1 g2
          refine cr_max hc pins s σ H _ us Q I rx ⟨a, y :: ys, rfl, .of q, by simp, fun m' hm hm2 => ?_⟩
          have : m' = m := Int.le_antisymm (g2 m' hm) (hm2 m g1)
          subst this
          exact fin e.symm rfl
      · cases e
    · cases e
  · split at e
    · rename_i is ei
      split at e
      · rename_i m em
        simp only [Option.some.injEq] at e
        obtain ⟨a, rfl, q⟩ := intsV_eq sim ei r1
        cases is with
        | nil => cases em
        | cons y ys =>
          simp only [minI, Option.some.injEq] at em
          obtain ⟨g1, g2⟩ := minI_go ys y
          rw [em] at g1 g2
          refine cr_min hc pins s σ H _ us Q I rx ⟨a, y :: ys, rfl, .of q, by simp, fun m' hm hm2 => ?_⟩
          have : m' = m := Int.le_antisymm (hm2 m g1) (g2 m' hm)
          subst this
          exact fin e.symm rfl
      · cases e
    · cases e
  · split at e
    · rename_i i ei
      simp only [Option.some.injEq] at e
      rw [intV_eq ei] at r1
      exact call_abs pins s σ H _ us Q I rx ⟨i, by rw [r1.intE], fin e.symm rfl⟩
    · cases e
  · split at e
    · rename_i i
      simp only [Option.some.injEq] at e
      exact call_int1 pins s σ H _ us Q I rx (.inl ⟨i, by rw [r1.intE], fin e.symm rfl⟩)
    · rename_i c
      simp only [Option.some.injEq] at e
      exact call_int1 pins s σ H _ us Q I rx (.inr ⟨c, by rw [show x = V.bl c from r1], fin e.symm rfl⟩)
    · cases e
  · split at e
    · rename_i b xs es
      simp only [Option.some.injEq] at e
      obtain ⟨a, vs, rfl, rv, ht, hl⟩ := seqD_ok sim r1 es
      cases b with
      | false =>
        refine call_tuple_of pins s σ H _ us Q I rx ⟨a, vs, rfl, .inl ⟨.of (hl rfl), fun p hp => ?_⟩⟩
        obtain ⟨p1, p2⟩ := Pst.newTup sim hp rv
        exact k _ _ _ p1 (by rw [← e]; exact p2)
      | true =>
        have ev : vx = .p (.tup xs) := by
          cases vx with
          | p d => cases d <;> simp [seqD] at es; rw [es]
          | new xs => simp [seqD] at es
          | loc n =>
            simp only [seqD] at es
            split at es <;> cases es
        exact call_tuple_of pins s σ H _ us Q I rx ⟨a, vs, rfl, .inr ⟨.of (ht rfl), fin e.symm (by rw [ev] at r1; exact r1)⟩⟩
    · cases e
  · split at e
    · rename_i ns en
      simp only [Option.some.injEq] at e
      rw [scrV_eq en] at r1
      obtain ⟨a, rfl, q⟩ := r1
      refine call_list_of pins s σ H _ us Q I rx ⟨a, _, rfl, .inl (sqL_of q), fun p hp => ?_⟩
      obtain ⟨p1, p2⟩ := Pst.newLst sim hp (RepDs.ofInts (K := X.K) (H := H) (av := av) ns)
      exact k _ _ _ p1 (by rw [← e]; exact p2)
    · split at e
      · rename_i b xs es
        simp only [Option.some.injEq] at e
        obtain ⟨a, vs, rfl, rv, q⟩ := seqD_sq sim r1 es
        refine call_list_of pins s σ H _ us Q I rx ⟨a, vs, rfl, q, fun p hp => ?_⟩
        obtain ⟨p1, p2⟩ := Pst.newLst sim hp rv
        exact k _ _ _ p1 (by rw [← e]; exact p2)
      · cases e
  · exact absurd rfl hb
  · cases e
  · split at e
    · rename_i d ed
      split at e
      · rename_i hm
        simp only [Option.some.injEq] at e
        simp only [Bool.and_eq_true] at hm
        obtain ⟨hr0, hm1, hm2, hm3⟩ := hm
        have hd := Nat.le_of_ble_eq_true hm1
        have rd := datD_ok sim r1 ed
        obtain ⟨u, rfl, ru⟩ := vals1 rx
        obtain ⟨as, rr⟩ := Dp.reads I _ _ _ (RepD.dp _ _ rd) ru
        have hz : (toPy d).shown.length ≤ sizeLine := Nat.le_trans (shown_len d hm2) (ble_line hm3)
        have hsh := shw_ok d hm2
        have hdep := depD_ok d
        have fq : Q (.str (toPy d).shown) H := fin (d := .rep d) e.symm rfl
        cases d with
        | tup xs =>
          obtain ⟨a, vs, rfl, _⟩ := rd
          cases ru
          refine repr_of_reads' rr hsh (PyData.noDict_hsm (noDict _)) hg (by rw [hdep]; omega) (fun _ _ e => e) (fun h' t tk kp => ?_) hz
          exact ⟨.str _, H, I.kept (t' := tk) kp, ⟨t, rfl⟩, fq⟩
        | lst xs =>
          obtain ⟨a, vs, rfl, _⟩ := rd
          cases ru
          refine repr_of_reads' rr hsh (PyData.noDict_hsm (noDict _)) hg (by rw [hdep]; omega) (fun _ _ e => e) (fun h' t tk kp => ?_) hz
          exact ⟨.str _, H, I.kept (t' := tk) kp, ⟨t, rfl⟩, fq⟩
        | int i =>
          have ex : x = V.int i := rd
          subst ex
          obtain ⟨t, rfl⟩ := ru
          exact SkE.call_repr_int pins s σ H _ _ Q I (show Vals [V.int i] [Value.int i t] from .cons (show RelV (V.int i) _ from ⟨t, rfl⟩) .nil) ⟨i, rfl, Nat.le_of_ble_eq_true hm2, fq⟩
        | _ => cases hr0
      · cases e
    · cases e
end
end MP

/-! ## EngI.lean -/
set_option Elab.async false
set_option linter.all false
set_option maxRecDepth 100000
namespace MP
open PySem PySem.Spec PyProof.Rows L2
abbrev Spg := List V → Hp → VK → Prop
/-- a def keeps its promise, where no repr is under way -/
structure FnG (P : Program) (w : World) (K : PySem.W.Frag) (mg : Str → Option Value) (base : Heap) (n : Nat) (f : Addr) (fd : FuncData) (ps : List Str) (sp : Spg) : Prop where
  len : ∀ vs H Q, sp vs H Q → vs.length = ps.length
  run : ∀ (A : Around) (fs : List Env) (s : Shared) (H : Hp) (args : Args) (us : List Value) (vs : List V) (Q : VK),
    Room n A → A.guards = some [] → Env0 P w K mg base A fs s H → BindsTo s fd args (ps.zip us) → Vals vs us → sp vs H Q →
      codeAny (model P w) A (.call (.ref f) args) (CR CX0 fs P w H s Q E0) s
section
variable {P : Program} {w : World} {K : PySem.W.Frag} {mg : Str → Option Value} {base : Heap}
/-- a def of the text by its body -/
theorem fnG_of {x qual : Str} {st : Stmt} {f : Addr} {fd : FuncData} {N ps : List Str} {n : Nat} {sp : Spg} (F : Fun K x qual st f fd) (S : FnScope N ps (defScope st))
    (len : ∀ vs H Q, sp vs H Q → vs.length = ps.length)
    (hb : ∀ (cdv : Value) (A : Around) (fs : List Env) (s : Shared) (H : Hp) (vs : List V) (Q : VK),
      Room n (A.deeper (envOfC qual (defScope st) s.heap.objs.size f cdv)) → A.guards = some [] → sp vs H Q →
      ∃ t, PSs (cxOf CX0 P w K mg base N qual (defScope st) f cdv A fs s H E0).nox (defBody st) t ∧ t ⟨fun _ H' => Q .non H', Q, fun _ _ => False, fun _ _ => False⟩ (start N vs) H) :
    FnG P w K mg base (n + 1) f fd ps sp := by
  obtain ⟨oc, od, kV, doc, pm, an, cdv, ct, osl, rfl, lk, hcd⟩ := F.ex
  constructor
  · exact len
  · intro A fs s H args us vs Q room gd e0 bt rv hsp
    have kin : K.In s.heap :=
      e0.mod.kin.keeps (fun b o q => (e0.bs b o q).1)
    have nolim : s.heap.NoLimit :=
      e0.mod.nolimit.keeps (fun b o q => (e0.bs b o q).1)
    have kinds : ∀ y ∈ ps.zip us, (defScope st).names.lookup y.1 = some .local ∨
        ((defScope st).names.lookup y.1 = some .cell ∧ ((cellsFrom (s.heap.objs.size + 1) (defScope st).names []).lookup y.1).isSome = true) := by
      rintro ⟨nm, v⟩ hy
      rcases S.par nm (List.of_mem_zip hy).1 with q | q
      · left; exact q
      · right
        refine ⟨q, ?_⟩
        exact PySem.W.cellsFrom_some _ _ _ (.inl q)
    apply codeAny_call_function room.depth (kin _ _ lk) rfl S.co S.gen rfl (PySem.W.codeRec_of kin hcd)
    apply bt
    apply wpAny_newFunctionEnv_cells S.kind kinds
    intro env he s1 hx
    subst he
    constructor
    · exact nolim.keeps hx.toInCall.keep
    · apply codeAny_func
      obtain ⟨t, ht, hq⟩ := hb cdv A fs s H vs Q (room.deeper _) gd hsp
      have inv := inv_start (CX := CX0) (E := E0) (mg := mg) (base := base) S room.hd e0 (len _ _ _ hsp) rv hx
      have res := ht.nox.run [] s1 (start N vs) H _ inv hq
      apply wpAny_mono res
      · intro fl s' hs
        cases fl
        case ret u =>
          obtain ⟨v, σ', H', J, r, q⟩ := hs
          exact ⟨v, H', J.os, J.bare, J.base, J.hok, r, q⟩
        case next =>
          obtain ⟨σ', H', J, q⟩ := hs
          exact ⟨V.non, H', J.os, J.bare, J.base, J.hok, rfl, q⟩
        case brk =>
          obtain ⟨_, _, _, q⟩ := hs
          exact q.elim
        case cont =>
          obtain ⟨_, _, _, q⟩ := hs
          exact q.elim
      · intro e s' hs
        exact hs
end
section
variable {X : Cx} {n : Nat} {f : Addr} {fd : FuncData} {ps ks : List Str} {sp : Spg} {x : Str} {p pos : Pos} {es : List Expr} {kws : List Keyword} {t tk : TA}
theorem runG {pins : List (Addr × Obj)} {σ : L2.St} {H : Hp} {s : Shared} {Q : VK} {us : List Value} {kw : List (Str × Value)} {as : List Value} {vs : List V}
    (F : FnG X.prog X.w X.K X.mg X.base n f fd ps sp) (hr : Room n X.A) (hg : X.A.guards = some []) (I : Inv X pins σ H s) (bt : BindsTo s fd ⟨us, kw⟩ (ps.zip as)) (r : Vals vs as) (h : sp vs H Q) :
    wpAny (model X.prog X.w) X.A (call (.ref f) us kw) (EP X pins σ Q) X.xe s := by
  apply wpAny_call
  apply codeAny_mono (F.run X.A X.stack s H ⟨us, kw⟩ as vs Q hr hg I.env0 bt r h)
  intro res s' q
  cases res with
  | error e => exact q.elim
  | ok fl =>
    cases fl
    case ret u => exact I.after q
    all_goals exact q.elim
def tCallG (sp : Spg) (t : TA) : TE := fun σ H Q => t σ H fun vs H1 => sp vs H1 Q
/-- f(..), by place -/
theorem pe_callG {e : Expr} (F : FnG X.prog X.w X.K X.mg X.base n f fd ps sp) (hr : Room n X.A) (hg : X.A.guards = some []) (gl : Gl X x) (hm : X.mg x = some (.ref f)) (hk : PySem.W.keepIn X.K (.ref f) = true) (hb : Binds X.K fd ps [])
    (ha : PA X (e :: es) t) (hd : (x == ("__debug__" : Str)) = false)
    (h1 : starEach (e :: es) X.env = (false, eval e X.env) :: starEach es X.env) (h2 : (backTo pos (starEach es X.env)).any (·.1) = false) :
    PE X (.Call (.Name x p) (e :: es) [] pos) (tCallG sp t) := by
  constructor
  intro pins s σ H Q I h
  apply wpAny_Call_Name_kw
  apply ld_glob I gl hm _ hd
  apply PySem.W.callWith_K (h₀ := X.base) I.ok.mod.kin hk _ h1 h2
  apply thn (ha.run pos pins s σ H _ I h)
  rintro us s1 ⟨vs, H1, I1, rv, q⟩
  refine ⟨I1.kIn, ?_⟩
  have hl : (us ++ []).length = ps.length := by rw [List.append_nil, ← rv.length]; exact F.len _ _ _ q
  have bt := hb s1 us I1.kIn hl
  rw [List.append_nil] at bt
  exact runG F hr hg I1 bt rv q
theorem pe_callG0 (F : FnG X.prog X.w X.K X.mg X.base n f fd ps sp) (hr : Room n X.A) (hg : X.A.guards = some []) (gl : Gl X x) (hm : X.mg x = some (.ref f)) (hk : PySem.W.keepIn X.K (.ref f) = true) (hb : Binds X.K fd ps [])
    (hd : (x == ("__debug__" : Str)) = false) : PE X (.Call (.Name x p) [] [] pos) (tCallG sp tNil) := by
  constructor
  intro pins s σ H Q I h
  apply wpAny_Call_Name_kw
  apply ld_glob I gl hm _ hd
  apply PySem.W.callWith_K0 I.kIn hk
  have hl : (([] : List Value) ++ []).length = ps.length := by
    have := F.len _ _ _ (show sp [] H Q from h)
    rw [← this]; rfl
  have bt := hb s [] I.kIn hl
  exact runG F hr hg I bt .nil h
/-- how keywords bind, in the parameters' order -/
def KwB (K : PySem.W.Frag) (fd : FuncData) (ps ks : List Str) (m : Nat) : Prop :=
  ∀ (s : Shared) (us ws : List Value), K.In s.heap → us.length = m → ws.length = ks.length → BindsTo s fd ⟨us, ks.zip ws⟩ (ps.zip (us ++ ws))
def tCallGK (sp : Spg) (m k : Nat) (t tk : TA) : TE := fun σ H Q => t σ H fun vs H1 => tk σ H1 fun zs H2 => vs.length = m ∧ zs.length = k ∧ sp (vs ++ zs) H2 Q
theorem pe_callGK {e : Expr} {m : Nat} (F : FnG X.prog X.w X.K X.mg X.base n f fd ps sp) (hr : Room n X.A) (hg : X.A.guards = some []) (gl : Gl X x) (hm : X.mg x = some (.ref f)) (hk : PySem.W.keepIn X.K (.ref f) = true) (hb : KwB X.K fd ps ks m)
    (ha : PA X (e :: es) t) (hkw : PK X kws tk) (hd : (x == ("__debug__" : Str)) = false)
    (g1 : (backToKw pos (keywordEach kws X.env)).all (·.1.isSome) = true) (g2 : (backToKw pos (keywordEach kws X.env)).filterMap (·.1) = ks)
    (h1 : starEach (e :: es) X.env = (false, eval e X.env) :: starEach es X.env)
    (h2 : ((backTo pos (starEach (e :: es) X.env)).any (·.1) || (backToKw pos (keywordEach kws X.env)).any (·.1.isNone)) = false) :
    PE X (.Call (.Name x p) (e :: es) kws pos) (tCallGK sp m ks.length t tk) := by
  constructor
  intro pins s σ H Q I h
  apply wpAny_Call_Name_kw
  apply ld_glob I gl hm _ hd
  apply PySem.W.callWith_KW (h₀ := X.base) I.ok.mod.kin hk g1 _ h2 h1
  apply thn (ha.run pos pins s σ H _ I h)
  rintro us s1 ⟨vs, H1, I1, rv, q⟩
  apply thn (hkw.run pos pins s1 σ H1 _ I1 q)
  rintro ws s2 ⟨zs, H2, I2, rz, l1, l2, q2⟩
  refine ⟨I2.kIn, ?_⟩
  rw [g2]
  exact runG F hr hg I2 (hb s2 us ws I2.kIn (by rw [← rv.length]; exact l1) (by rw [← rz.length]; exact l2)) (rv.append rz) q2
theorem pe_callGK0 (F : FnG X.prog X.w X.K X.mg X.base n f fd ps sp) (hr : Room n X.A) (hg : X.A.guards = some []) (gl : Gl X x) (hm : X.mg x = some (.ref f)) (hk : PySem.W.keepIn X.K (.ref f) = true) (hb : KwB X.K fd ps ks 0)
    (hkw : PK X kws tk) (hd : (x == ("__debug__" : Str)) = false)
    (g1 : (backToKw pos (keywordEach kws X.env)).all (·.1.isSome) = true) (g2 : (backToKw pos (keywordEach kws X.env)).filterMap (·.1) = ks)
    (h2 : ((backTo pos (starEach [] X.env)).any (·.1) || (backToKw pos (keywordEach kws X.env)).any (·.1.isNone)) = false) :
    PE X (.Call (.Name x p) [] kws pos) (tCallGK sp 0 ks.length tNil tk) := by
  constructor
  intro pins s σ H Q I h
  apply wpAny_Call_Name_kw
  apply ld_glob I gl hm _ hd
  apply PySem.W.callWith_KW0 (h₀ := X.base) I.ok.mod.kin hk g1 _ h2
  apply thn (hkw.run pos pins s σ H _ I h)
  rintro ws s2 ⟨zs, H2, I2, rz, l1, l2, q2⟩
  refine ⟨I2.kIn, ?_⟩
  rw [g2]
  exact runG F hr hg I2 (hb s2 [] ws I2.kIn rfl (by rw [← rz.length]; exact l2)) rz q2
end
end MP

/-! ## EngJ.lean -/
set_option Elab.async false
set_option linter.all false
set_option maxRecDepth 100000
namespace MP
open PySem PySem.Spec PyProof.Rows L2
def RepArgs (K : PySem.W.Frag) (H : Hp) (av : Av) : List Arg → List V → List Addr → Prop
  | [], vs, ι => vs = [] ∧ ι = []
  | .p d :: as, vs, ι => ∃ v r, vs = v :: r ∧ RepD K H av d v ∧ RepArgs K H av as r ι
  | .lst xs :: as, vs, ι => ∃ a ws r ι', vs = V.ref a :: r ∧ ι = a :: ι' ∧ H a = some (.lst ws) ∧ RepDs K H av xs ws ∧ RepArgs K H av as r ι'
def RepRet (K : PySem.W.Frag) (H0 : Hp) (ι : List Addr) (av : Av) (H : Hp) : Ret → V → Prop
  | .p d, u => RepD K H av d u
  | .new xs, u => ∃ a vs, u = .ref a ∧ H0 a = none ∧ H a = some (.lst vs) ∧ av a ∧ a ∉ ι ∧ RepDs K H av xs vs
  | .arg j, u => ∃ a, ι[j]? = some a ∧ u = .ref a
abbrev Outs (K : PySem.W.Frag) (av : Av) (H : Hp) (ι : List Addr) (xs : List (List D)) : Prop := Paired (fun a ys => ∃ ws, H a = some (.lst ws) ∧ RepDs K H av ys ws) ι xs
/-- what a def of the table promises -/
def spD (K : PySem.W.Frag) (F : CallF) (f : Nat) (np : Nat) : Spg := fun vs H Q => ∃ (as : List Arg) (ι : List Addr) (av : Av) (r : Ret) (xs : List (List D)),
  vs.length = np ∧ (∀ a ∈ ι, av a) ∧ ι.Nodup ∧ (∀ a, av a → H a ≠ none) ∧ RepArgs K H av as vs ι ∧ F f as = some (r, xs) ∧
  ∀ (av' : Av) (H' : Hp) (u : V), Stp ι av H ι av' H' → (∀ a, av' a → H' a ≠ none) → Outs K av' H' ι xs → RepRet K H ι av' H' r u → Q u H'
section
variable {K : PySem.W.Frag} {H H0 H1 H2 H' : Hp} {av av' av1 av2 : Av} {ι ι' ι1 ι2 : List Addr} {h h' h1 h2 : Hs} {σ : L2.St} {ρ : Env'} {X : Cx}
theorem RepArgs.length : ∀ {as : List Arg} {vs : List V} {ι : List Addr}, RepArgs K H av as vs ι → vs.length = as.length
  | [], _, _, h => by rw [h.1]; rfl
  | .p d :: as, _, _, h => by
    obtain ⟨v, r, rfl, _, h2⟩ := h
    simp [RepArgs.length h2]
  | .lst xs :: as, _, _, h => by
    obtain ⟨a, ws, r, ι', rfl, _, _, _, h2⟩ := h
    simp [RepArgs.length h2]
/-! ### inside: the state at a def's entry -/
theorem heap_len : ∀ {as : List Arg} {vs : List V} {ι : List Addr}, RepArgs K H av as vs ι → ι.length = (heap' as).length
  | [], _, _, h => by rw [h.2]; rfl
  | .p d :: as, _, _, h => by
    obtain ⟨v, r, _, _, h2⟩ := h
    simp only [heap']
    exact heap_len (as := as) h2
  | .lst xs :: as, _, _, h => by
    obtain ⟨a, ws, r, ι', _, rfl, _, _, h2⟩ := h
    simp [heap', heap_len h2]
theorem heap_ob : ∀ {as : List Arg} {vs : List V} {ι : List Addr}, RepArgs K H av as vs ι → ∀ (n : Nat) (o : O), (heap' as)[n]? = some o →
    ∃ a ws xs, o = .lst false xs ∧ ι[n]? = some a ∧ H a = some (.lst ws) ∧ RepDs K H av xs ws
  | [], _, _, h, n, o, e => by simp [heap'] at e
  | .p d :: as, _, _, h, n, o, e => by
    obtain ⟨v, r, _, _, h2⟩ := h
    simp only [heap'] at e
    exact heap_ob (as := as) h2 n o e
  | .lst xs :: as, _, _, h, n, o, e => by
    obtain ⟨a, ws, r, ι', _, rfl, q1, q2, h2⟩ := h
    cases n with
    | zero =>
      simp [heap'] at e
      subst e
      exact ⟨a, ws, xs, rfl, rfl, q1, q2⟩
    | succ n =>
      obtain ⟨a', ws', xs', g1, g2, g3⟩ := heap_ob h2 n o (by simpa [heap'] using e)
      exact ⟨a', ws', xs', g1, by simpa using g2, g3⟩
theorem sim_entry {as : List Arg} {vs : List V} (r : RepArgs K H av as vs ι) (sub : ∀ a ∈ ι, av a) (nd : ι.Nodup) (live : ∀ a, av a → H a ≠ none) : SimH K (heap' as) ι av H := by
  refine ⟨heap_len r, nd, sub, live, fun n o e => ?_⟩
  obtain ⟨a, ws, xs, rfl, q1, q2, q3⟩ := heap_ob r n o e
  exact ⟨a, ws, q1, q2, q3⟩
theorem go_rep : ∀ {as : List Arg} {vs : List V} {ι κ : List Addr}, RepArgs K H av as vs ι → (start'.go as κ.length).length = vs.length ∧
    ∀ (i : Nat) (v : Val), (start'.go as κ.length)[i]? = some (some v) → ∃ u, vs[i]? = some u ∧ RepV K (κ ++ ι) av H v u
  | [], vs, ι, κ, h => by
    obtain ⟨rfl, _⟩ := h
    simp [start'.go]
  | .p d :: as, vs, ι, κ, h => by
    obtain ⟨v, r, rfl, h1, h2⟩ := h
    obtain ⟨g1, g2⟩ := go_rep (κ := κ) h2
    refine ⟨by simp [start'.go, g1], fun i w e => ?_⟩
    cases i with
    | zero =>
      simp [start'.go] at e
      subst e
      exact ⟨v, rfl, h1⟩
    | succ i =>
      obtain ⟨u, q1, q2⟩ := g2 i w (by simpa [start'.go] using e)
      exact ⟨u, by simpa using q1, q2⟩
  | .lst xs :: as, vs, ι, κ, h => by
    obtain ⟨a, ws, r, ι', rfl, rfl, h0, h1, h2⟩ := h
    obtain ⟨g1, g2⟩ := go_rep (κ := κ ++ [a]) h2
    simp only [List.length_append, List.length_cons, List.length_nil, Nat.zero_add] at g1 g2
    refine ⟨by simp [start'.go, g1], fun i w e => ?_⟩
    cases i with
    | zero =>
      simp [start'.go] at e
      subst e
      exact ⟨.ref a, rfl, a, by simp, rfl⟩
    | succ i =>
      obtain ⟨u, q1, q2⟩ := g2 i w (by simpa [start'.go] using e)
      exact ⟨u, by simpa using q1, by simpa using q2⟩
theorem go_len : ∀ (as : List Arg) (k : Nat), (start'.go as k).length = as.length
  | [], _ => rfl
  | .p _ :: as, k => by simp [start'.go, go_len as k]
  | .lst _ :: as, k => by simp [start'.go, go_len as (k + 1)]
theorem env_entry {as : List Arg} {vs : List V} {N : List Str} (r : RepArgs K H av as vs ι) (hl : as.length ≤ N.length) : RepE K (start' N.length as 0) ι av (L2.start N vs) H := by
  have hn := r.length
  have g0 := go_rep (κ := []) r
  simp only [List.length_nil, List.nil_append] at g0
  obtain ⟨g1, g2⟩ := g0
  unfold start' L2.start
  refine ⟨?_, fun i v e => ?_⟩
  · simp only [List.length_append, List.length_map, List.length_replicate, g1, hn]
  · by_cases hi : i < (start'.go as 0).length
    · rw [List.getElem?_append_left hi] at e
      obtain ⟨u, q1, q2⟩ := g2 i v e
      refine ⟨u, ?_, q2⟩
      have hi' : i < (vs.map some).length := by rw [List.length_map, ← g1]; exact hi
      rw [List.getElem?_append_left hi', List.getElem?_map, q1]
      rfl
    · rw [List.getElem?_append_right (by omega), List.getElem?_replicate] at e
      split at e <;> cases e
theorem outs_ok : ∀ {as : List Arg} {vs : List V} {ι κ : List Addr} {h : Hs} {xs : List (List D)}, RepArgs K H0 av as vs ι → outs' as h = some xs →
    (∀ (n : Nat) (o : O), h[n]? = some o → ∃ a ws, (ι ++ κ)[n]? = some a ∧ H a = some (.lst ws) ∧ match o with
      | .lst _ ys => RepDs K H av' ys ws
      | .ref _ _ => True) → Outs K av' H ι xs
  | [], _, ι, _, _, xs, r, e, _ => by
    obtain ⟨_, rfl⟩ := r
    simp [outs'] at e
    subst e
    exact .nil
  | .p d :: as, _, ι, κ, h, xs, r, e, k => by
    obtain ⟨v, r', _, _, h2⟩ := r
    exact outs_ok (as := as) h2 (by simpa [outs'] using e) k
  | .lst ys :: as, _, ι, κ, h, xs, r, e, k => by
    obtain ⟨a, ws, r', ι', _, rfl, _, _, h2⟩ := r
    cases h with
    | nil => simp [outs'] at e
    | cons o h =>
      cases o with
      | ref b ns => simp [outs'] at e
      | lst b zs =>
        simp only [outs'] at e
        split at e
        · rename_i q eq
          simp only [Option.some.injEq] at e
          subst e
          obtain ⟨a', ws', k1, k2, k3⟩ := k 0 _ rfl
          simp at k1
          subst k1
          refine .cons ⟨ws', k2, k3⟩ (outs_ok (κ := κ) h2 eq fun n o e => ?_)
          obtain ⟨a2, ws2, g1, g2⟩ := k (n + 1) o (by simpa using e)
          exact ⟨a2, ws2, by simpa using g1, g2⟩
        · cases e
end
end MP

/-! ## EngK.lean -/
set_option Elab.async false
set_option linter.all false
set_option maxRecDepth 100000
namespace MP
open PySem PySem.Spec PyProof.Rows L2
section
variable {K : PySem.W.Frag} {H H0 H1 H2 H' : Hp} {av av' av1 av2 : Av} {ι ι' ι0 ι1 ι2 : List Addr} {h h' h1 h2 : Hs} {σ : L2.St} {ρ : Env'} {X : Cx}
/-- a place of a list that is handed in, its address -/
def PlOk (H0 : Hp) (ι : List Addr) (av : Av) (h : Hs) (ns : List V) (pl : Option Nat) (a : Addr) : Prop := match pl with
  | some n => ι[n]? = some a ∧ ∃ xs, h[n]? = some (.lst false xs)
  | none => H0 a = none ∧ a ∉ ι ∧ av a ∧ V.ref a ∈ ns
theorem PlOk.av_ {ns : List V} {pl : Option Nat} {a : Addr} (sub : ∀ a ∈ ι, av a) (p : PlOk H0 ι av h ns pl a) : av a := by
  cases pl with
  | some n => exact sub a (List.mem_of_getElem? p.1)
  | none => exact p.2.2.1
theorem PlOk.weak {ns ns' : List V} {pl : Option Nat} {a : Addr} (s : ∀ x ∈ ns, x ∈ ns') (p : PlOk H0 ι av h ns pl a) : PlOk H0 ι av h ns' pl a := by
  cases pl with
  | some n => exact p
  | none => exact ⟨p.1, p.2.1, p.2.2.1, s _ p.2.2.2⟩
theorem paired_imp {α β : Type} {F G : α → β → Prop} (i : ∀ a b, F a b → G a b) : ∀ {xs : List α} {ys : List β}, Paired F xs ys → Paired G xs ys
  | _, _, .nil => .nil
  | _, _, .cons r t => .cons (i _ _ r) (paired_imp i t)
theorem paired_of_mem {α β : Type} {F : α → β → Prop} : ∀ {xs : List α} {ys : List β} {y : β}, Paired F xs ys → y ∈ ys → ∃ x, x ∈ xs ∧ F x y
  | _, _, y, .nil, m => by simp at m
  | _, _, y, .cons r t, m => by
    rcases List.mem_cons.mp m with e | m
    · subst e; exact ⟨_, List.mem_cons_self, r⟩
    · obtain ⟨x, m1, q⟩ := paired_of_mem t m
      exact ⟨x, List.mem_cons_of_mem _ m1, q⟩
theorem args_ok (sim : SimH K h ι av H) : ∀ {vs : List Val} {us : List V} {as : List (Arg × Option Nat)}, RepRs K H0 ι av H vs us → argsOf h vs = some as → dupN (placesOf as) = false →
    ∃ ι0, RepArgs K H av (as.map (·.1)) us ι0 ∧ Paired (PlOk H0 ι av h (newsOf vs us)) (placesOf as) ι0 ∧ ι0.Nodup
  | [], us, as, r, e, _ => by
    cases r
    simp only [argsOf, Option.some.injEq] at e
    subst e
    exact ⟨[], ⟨rfl, rfl⟩, .nil, List.nodup_nil⟩
  | v :: vs, us, as, r, e, dd => by
    obtain ⟨u, us, rfl, r1, r2, r3⟩ := r
    simp only [argsOf] at e
    split at e
    · cases e
    · rename_i a ea
      split at e
      · cases e
      · rename_i as' eas
        simp only [Option.some.injEq] at e
        subst e
        cases v with
        | p d =>
          simp only [argOf, Option.some.injEq] at ea
          subst ea
          obtain ⟨ι0, g1, g2, g3⟩ := args_ok sim r2 eas dd
          exact ⟨ι0, ⟨u, us, rfl, r1, g1⟩, g2, g3⟩
        | new xs =>
          simp only [argOf, Option.some.injEq] at ea
          subst ea
          obtain ⟨ι0, g1, g2, g3⟩ := args_ok sim r2 eas dd
          obtain ⟨b, ws, rfl, q0, q1, q2, q3, q4⟩ := r1
          refine ⟨b :: ι0, ⟨b, ws, us, ι0, rfl, rfl, q1, q4, g1⟩, .cons ⟨q0, q3, q2, by simp [newsOf]⟩ (paired_imp (fun _ _ p => p.weak fun x m => by simp [newsOf, m]) g2), List.nodup_cons.mpr ⟨fun m => ?_, g3⟩⟩
          obtain ⟨pl, _, p⟩ := paired_of_mem g2 m
          cases pl with
          | some n => exact q3 (List.mem_of_getElem? p.1)
          | none => exact r3 rfl p.2.2.2
        | loc n =>
          simp only [argOf] at ea
          split at ea
          · rename_i xs en
            simp only [Option.some.injEq] at ea
            subst ea
            simp only [placesOf, dupN, Bool.or_eq_false_iff] at dd
            obtain ⟨ι0, g1, g2, g3⟩ := args_ok sim r2 eas dd.2
            obtain ⟨b, q, rfl⟩ := r1
            obtain ⟨b', ws, k1, k2, k3⟩ := sim.ob n _ en
            rw [q] at k1; cases k1
            refine ⟨b :: ι0, ⟨b, ws, us, ι0, rfl, rfl, k2, k3, g1⟩, .cons ⟨q, xs, en⟩ (paired_imp (fun _ _ p => p.weak fun x m => by simpa [newsOf] using m) g2), List.nodup_cons.mpr ⟨fun m => ?_, g3⟩⟩
            obtain ⟨pl, m1, p⟩ := paired_of_mem g2 m
            cases pl with
            | some k =>
              have ek : k = n := by
                obtain ⟨l1, e1⟩ := List.getElem?_eq_some_iff.mp p.1
                obtain ⟨l2, e2⟩ := List.getElem?_eq_some_iff.mp q
                exact (List.getElem_inj sim.nd).mp (e1.trans e2.symm)
              subst ek
              have z := List.any_eq_false.mp dd.1 _ m1
              simp at z
            | none => exact p.2.1 (List.mem_of_getElem? q)
          · cases ea
/-- the heap behind a call -/
theorem back_ok : ∀ {pls : List (Option Nat)} {xs : List (List D)} {ι0 : List Addr} {h h' h0 : Hs} {ns : List V},
    Paired (PlOk H0 ι av h0 ns) pls ι0 → Outs K av' H' ι0 xs → putBack pls xs h = some h' → ι0.Nodup → ι.Nodup → h.length = ι.length → (∀ (n : Nat) (o : O), h[n]? = some o → o.locked = true → h0[n]? = some o) →
    (∀ (n : Nat) (o : O), h[n]? = some o → ∃ a, ι[n]? = some a ∧ (a ∈ ι0 ∨ ∃ vs, H' a = some (.lst vs) ∧ match o with
      | .lst _ xs => RepDs K H' av' xs vs
      | .ref _ ns => Paired (fun n v => ∃ b, ι[n]? = some b ∧ v = V.ref b) ns vs)) →
    h'.length = ι.length ∧ (∀ (n : Nat) (o : O), h[n]? = some o → o.locked = true → (∀ a ∈ ι0, ι[n]? ≠ some a ∨ False ∨ True) → True) ∧
    (∀ (n : Nat) (o : O), h'[n]? = some o → ∃ a vs, ι[n]? = some a ∧ H' a = some (.lst vs) ∧ match o with
      | .lst _ xs => RepDs K H' av' xs vs
      | .ref _ ns => Paired (fun n v => ∃ b, ι[n]? = some b ∧ v = V.ref b) ns vs) := by
  intro pls
  induction pls with
  | nil =>
    intro xs ι0 h h' h0 ns p o e nd ndι hl lk k
    cases p
    cases o
    simp only [putBack, Option.some.injEq] at e
    subst e
    refine ⟨hl, fun _ _ _ _ _ => trivial, fun n ob en => ?_⟩
    obtain ⟨a, q, m | ⟨vs, k1, k2⟩⟩ := k n ob en
    · simp at m
    · exact ⟨a, vs, q, k1, k2⟩
  | cons pl pls ih =>
    intro xs ι0 h h' h0 ns p o e nd ndι hl lk k
    cases p with
    | cons p1 p2 =>
      rename_i a ι0
      cases o with
      | cons o1 o2 =>
        rename_i ys xs
        obtain ⟨nd1, nd2⟩ := List.nodup_cons.mp nd
        cases pl with
        | none =>
          simp only [putBack] at e
          refine (ih p2 o2 e nd2 ndι hl lk fun n ob en => ?_).imp id fun z => ⟨fun _ _ _ _ _ => trivial, z.2⟩
          obtain ⟨b, q, m | z⟩ := k n ob en
          · rcases List.mem_cons.mp m with m | m
            · subst m
              exact absurd (List.mem_of_getElem? q) p1.2.1
            · exact ⟨b, q, .inl m⟩
          · exact ⟨b, q, .inr z⟩
        | some m =>
          simp only [putBack] at e
          obtain ⟨ws, w1, w2⟩ := o1
          obtain ⟨pa, pxs, pm⟩ := p1
          refine (ih p2 o2 e nd2 ndι (by rw [List.length_set]; exact hl) (fun n ob en l => ?_) fun n ob en => ?_).imp id fun z => ⟨fun _ _ _ _ _ => trivial, z.2⟩
          · by_cases hn : m = n
            · subst hn
              by_cases hm : m < h.length
              · rw [List.getElem?_set_self hm] at en
                cases en
                cases l
              · rw [List.getElem?_eq_none (by rw [List.length_set]; omega)] at en
                cases en
            · rw [List.getElem?_set_ne hn] at en
              exact lk n ob en l
          · by_cases hn : m = n
            · subst hn
              by_cases hm : m < h.length
              · rw [List.getElem?_set_self hm] at en
                cases en
                exact ⟨a, pa, .inr ⟨ws, w1, w2⟩⟩
              · rw [List.getElem?_eq_none (by rw [List.length_set]; omega)] at en
                cases en
            · rw [List.getElem?_set_ne hn] at en
              obtain ⟨b, q, z⟩ := k n ob en
              refine ⟨b, q, ?_⟩
              rcases z with z | z
              · rcases List.mem_cons.mp z with z | z
                · subst z
                  exfalso
                  obtain ⟨l1, e1⟩ := List.getElem?_eq_some_iff.mp q
                  obtain ⟨l2, e2⟩ := List.getElem?_eq_some_iff.mp pa
                  exact hn ((List.getElem_inj ndι).mp (e2.trans e1.symm))
                · exact .inl z
              · exact .inr z
theorem back_lk : ∀ {pls : List (Option Nat)} {xs : List (List D)} {ι0 : List Addr} {h h' h0 : Hs} {ns : List V},
    Paired (PlOk H0 ι av h0 ns) pls ι0 → putBack pls xs h = some h' → ∀ (n : Nat) (o : O), h0[n]? = some o → o.locked = true → h[n]? = some o → h'[n]? = some o := by
  intro pls
  induction pls with
  | nil =>
    intro xs ι0 h h' h0 ns p e n o _ _ en
    cases xs with
    | nil => simp only [putBack, Option.some.injEq] at e; subst e; exact en
    | cons x xs => simp [putBack] at e
  | cons pl pls ih =>
    intro xs ι0 h h' h0 ns p e n o e0 l en
    cases p with
    | cons p1 p2 =>
      cases xs with
      | nil => cases pl <;> simp [putBack] at e
      | cons x xs =>
        cases pl with
        | none => exact ih p2 (by simpa [putBack] using e) n o e0 l en
        | some m =>
          simp only [putBack] at e
          obtain ⟨pa, pxs, pm⟩ := p1
          refine ih p2 e n o e0 l ?_
          by_cases hn : m = n
          · subst hn
            rw [e0] at pm
            cases pm
            cases l
          · rw [List.getElem?_set_ne hn]
            exact en
end
end MP

/-! ## EngL.lean -/
set_option Elab.async false
set_option linter.all false
set_option maxRecDepth 100000
namespace MP
open PySem PySem.Spec PyProof.Rows L2
section
variable {K : PySem.W.Frag} {H H0 H1 H2 H' : Hp} {av av' av1 av2 avs : Av} {ι ι' ι0 ι1 ι2 ιs : List Addr} {h h' h1 h2 hs : Hs} {σ : L2.St} {ρ : Env'} {X : Cx}
/-! ### keeping as data -/
/-- the state with some of its new lists kept -/
theorem Pst.less (p : Pst K ιs avs H0 hs ι av H h) (sim0 : ∀ a, avs a → H0 a ≠ none) {av' : Av} (m : ∀ a, av' a → av a) (kp : ∀ a, av a → ¬ av' a → H0 a = none ∧ a ∉ ι) : Pst K ιs avs H0 hs ι av' H h := by
  refine ⟨⟨p.stp.ext, p.stp.keep, p.stp.alive, fun a q => p.stp.avs a (m a q), fun a q => ?_⟩, ⟨p.sim.len, p.sim.nd, fun a q => ?_, fun a q => p.sim.live a (m a q), fun n o e => ?_⟩, p.lk⟩
  · by_cases z : av' a
    · exact z
    · exact absurd (kp a (p.stp.avm a q) z).1 (sim0 a q)
  · by_cases z : av' a
    · exact z
    · exact absurd q (kp a (p.sim.sub a q) z).2
  · obtain ⟨a, vs, q1, q2, q3⟩ := p.sim.ob n o e
    refine ⟨a, vs, q1, q2, ?_⟩
    cases o with
    | lst k xs => exact RepDs.lessAv m q3
    | ref k ns => exact q3
theorem frzD_ok {v : Val} {u : V} {d : D} (p : Pst K ιs avs H0 hs ι av H h) (sim0 : ∀ a, avs a → H0 a ≠ none) (r : RepR K H0 ι av H v u) (e : frzD v = some d) :
    ∃ av', (∀ a, av' a → av a) ∧ Pst K ιs avs H0 hs ι av' H h ∧ RepD K H av' d u := by
  cases v with
  | p d =>
    simp only [frzD, Option.some.injEq] at e
    subst e
    exact ⟨av, fun _ q => q, p, r⟩
  | loc n => cases e
  | new xs =>
    simp only [frzD, Option.some.injEq] at e
    subst e
    obtain ⟨a, vs, rfl, q0, q1, q2, q3, q4⟩ := r
    refine ⟨fun b => av b ∧ b ≠ a, fun _ q => q.1, p.less sim0 (fun _ q => q.1) (fun b z1 z2 => ?_), a, vs, rfl, q1, fun z => z.2 rfl, RepDs.lessAv (fun _ q => q.1) q4⟩
    have : b = a := Classical.byContradiction fun z => z2 ⟨z1, z⟩
    subst this
    exact ⟨q0, q3⟩
theorem frzDs_rep : ∀ {vs : List Val} {us : List V} {ds : List D} {av' : Av}, RepRs K H0 ι av H vs us → frzDs vs = some ds → (∀ a, av' a → av a) → (∀ a, V.ref a ∈ newsOf vs us → ¬ av' a) → RepDs K H av' ds us
  | [], us, ds, av', r, e, _, _ => by
    cases r
    simp only [frzDs, Option.some.injEq] at e
    subst e
    rfl
  | v :: vs, us, ds, av', r, e, m, nn => by
    obtain ⟨u, us, rfl, r1, r2, r3⟩ := r
    simp only [frzDs] at e
    split at e
    · cases e
    · rename_i d ed
      split at e
      · cases e
      · rename_i ds' eds
        simp only [Option.some.injEq] at e
        subst e
        refine ⟨u, us, rfl, ?_, frzDs_rep r2 eds m fun a q => nn a ?_⟩
        · cases v with
          | p d' =>
            simp only [frzD, Option.some.injEq] at ed
            subst ed
            exact RepD.lessAv m (show RepD K H av d' u from r1)
          | loc n => cases ed
          | new xs =>
            simp only [frzD, Option.some.injEq] at ed
            subst ed
            obtain ⟨a, ws, rfl, q0, q1, q2, q3, q4⟩ := r1
            exact ⟨a, ws, rfl, q1, nn a (by simp [newsOf]), RepDs.lessAv m q4⟩
        · cases v <;> simp [newsOf, q]
theorem newsOf_mem : ∀ {vs : List Val} {us : List V}, RepRs K H0 ι av H vs us → ∀ {a : Addr}, V.ref a ∈ newsOf vs us → H0 a = none ∧ a ∉ ι
  | [], us, r, a, m => by simp [newsOf] at m
  | v :: vs, us, r, a, m => by
    obtain ⟨u, us, rfl, r1, r2, r3⟩ := r
    cases v with
    | new xs =>
      simp only [newsOf, List.mem_cons] at m
      rcases m with m | m
      · obtain ⟨b, ws, rfl, q0, q1, q2, q3, q4⟩ := r1
        cases m
        exact ⟨q0, q3⟩
      · exact newsOf_mem r2 m
    | p d => exact newsOf_mem r2 m
    | loc n => exact newsOf_mem r2 m
theorem frzDs_ok {vs : List Val} {us : List V} {ds : List D} (p : Pst K ιs avs H0 hs ι av H h) (sim0 : ∀ a, avs a → H0 a ≠ none) (r : RepRs K H0 ι av H vs us) (e : frzDs vs = some ds) :
    ∃ av', (∀ a, av' a → av a) ∧ Pst K ιs avs H0 hs ι av' H h ∧ RepDs K H av' ds us := by
  refine ⟨fun a => av a ∧ V.ref a ∉ newsOf vs us, fun _ q => q.1, p.less sim0 (fun _ q => q.1) (fun a z1 z2 => ?_), frzDs_rep r e (fun _ q => q.1) fun a q z => z.2 q⟩
  exact newsOf_mem r (Classical.byContradiction fun z => z2 ⟨z1, z⟩)
/-! ### binding a name -/
theorem bind_ok {v : Val} {u : V} (p : Pst K ιs avs H0 hs ι av H h) (r : RepR K H0 ι av H v u) :
    ∃ ι', Pst K ιs avs H0 hs ι' av H (bind v h).2 ∧ RepV K ι' av H (bind v h).1 u ∧ ∃ κ, ι' = ι ++ κ := by
  cases v with
  | p d => exact ⟨ι, p, r, [], by simp⟩
  | loc n => exact ⟨ι, p, r, [], by simp⟩
  | new xs =>
    obtain ⟨a, vs, rfl, q0, q1, q2, q3, q4⟩ := r
    obtain ⟨κ, e1, f1⟩ := p.stp.ext
    have ln := p.sim.len
    refine ⟨ι ++ [a], ⟨⟨⟨κ ++ [a], by rw [e1, List.append_assoc], fun b m => ?_⟩, p.stp.keep, p.stp.alive, p.stp.avs, p.stp.avm⟩,
      ⟨by simp [bind, ln], ?_, fun b m => ?_, p.sim.live, fun n o e => ?_⟩, fun n o e l => ?_⟩, ⟨a, ?_, rfl⟩, [a], rfl⟩
    · rcases List.mem_append.mp m with m | m
      · exact f1 b m
      · rw [List.mem_singleton.mp m]; exact q0
    · refine List.nodup_append.mpr ⟨p.sim.nd, by simp, fun b mb c mc z => ?_⟩
      subst z
      rw [List.mem_singleton.mp mc] at mb
      exact q3 mb
    · rcases List.mem_append.mp m with m | m
      · exact p.sim.sub b m
      · rw [List.mem_singleton.mp m]; exact q2
    · have old : ∀ {n : Nat} {b : Addr}, ι[n]? = some b → (ι ++ [a])[n]? = some b := fun {n b} z => by
        obtain ⟨l, _⟩ := List.getElem?_eq_some_iff.mp z
        rw [List.getElem?_append_left l]; exact z
      by_cases hn : n < h.length
      · rw [show (bind (.new xs) h).2 = h ++ [.lst false xs] from rfl, List.getElem?_append_left hn] at e
        obtain ⟨b, ws, k1, k2, k3⟩ := p.sim.ob n o e
        refine ⟨b, ws, old k1, k2, ?_⟩
        cases o with
        | lst k ys => exact k3
        | ref k ns => exact paired_imp (fun m v ⟨c, z1, z2⟩ => ⟨c, old z1, z2⟩) k3
      · rw [show (bind (.new xs) h).2 = h ++ [.lst false xs] from rfl] at e
        have hn' : n = h.length := by
          obtain ⟨l, _⟩ := List.getElem?_eq_some_iff.mp e
          simp at l
          omega
        subst hn'
        rw [List.getElem?_append_right (Nat.le_refl _)] at e
        simp at e
        subst e
        exact ⟨a, vs, by rw [← ln]; simp, q1, q4⟩
    · show (h ++ [O.lst false xs])[n]? = some o
      have := p.lk n o e l
      obtain ⟨l2, _⟩ := List.getElem?_eq_some_iff.mp this
      rw [List.getElem?_append_left l2]
      exact this
    · show (ι ++ [a])[h.length]? = some a
      rw [← ln]
      simp
/-! ### a call -/
theorem paired_get {α β : Type} {F : α → β → Prop} : ∀ {xs : List α} {ys : List β} {j : Nat} {y : β}, Paired F xs ys → ys[j]? = some y → ∃ x, xs[j]? = some x ∧ F x y
  | _, _, _, _, .nil, e => by simp at e
  | _, _, 0, _, .cons r _, e => by simp at e; subst e; exact ⟨_, rfl, r⟩
  | _, _, j + 1, _, .cons _ t, e => by
    obtain ⟨y, h1, h2⟩ := paired_get (j := j) t (by simpa using e)
    exact ⟨y, by simpa using h1, h2⟩
theorem call_ok {F : CallF} {f np : Nat} {vs : List Val} {us : List V} {v : Val} {Q : VK} (p : Pst K ιs avs H0 hs ι av H h) (sim0 : ∀ a, avs a → H0 a ≠ none) (r : RepRs K H0 ι av H vs us) (e : callV F f vs h = some (v, h')) (hn : us.length = np)
    (k : ∀ ι' av' H' u, Pst K ιs avs H0 hs ι' av' H' h' → RepR K H0 ι' av' H' v u → Q u H') : spD K F f np us H Q := by
  unfold callV at e
  split at e
  · cases e
  · rename_i as eas
    split at e
    · cases e
    · rename_i dd
      split at e
      · cases e
      · rename_i rt xs ef
        split at e
        · cases e
        · rename_i h2 eb
          split at e
          · cases e
          · rename_i w ew
            simp only [Option.some.injEq, Prod.mk.injEq] at e
            obtain ⟨rfl, rfl⟩ := e
            obtain ⟨ι0, g1, g2, g3⟩ := args_ok p.sim r eas dd
            have sub : ∀ a ∈ ι0, av a := fun a m => by
              obtain ⟨pl, _, q⟩ := paired_of_mem g2 m
              exact q.av_ p.sim.sub
            refine ⟨_, ι0, av, rt, xs, hn, sub, g3, p.sim.live, g1, ef, fun av' H' u st lv ou rr => ?_⟩
            have fresh : ∀ a ∈ ι0, a ∉ ι → H0 a = none := fun a m n => by
              obtain ⟨pl, _, q⟩ := paired_of_mem g2 m
              cases pl with
              | some j => exact absurd (List.mem_of_getElem? q.1) n
              | none => exact q.1
            -- the whole step
            have dead : ∀ a, H a = none → H0 a = none := fun a z => by
              cases q : H0 a with
              | none => rfl
              | some o => exact absurd z (p.stp.alive a (by rw [q]; simp))
            have st2 : Stp ιs avs H0 ι av' H' := by
              refine ⟨p.stp.ext, fun a o q n => ?_, fun a q => st.alive a (p.stp.alive a q), fun a q => ?_, fun a q => st.avm a (p.stp.avm a q)⟩
              · have q1 := p.stp.keep a o q n
                refine st.keep a o q1 fun m => ?_
                by_cases z : a ∈ ι
                · exact absurd z (p.stp.nmem q n)
                · rw [fresh a m z] at q; cases q
              · rcases st.avs a q with z | z
                · exact p.stp.avs a z
                · exact .inr (dead a z)
            have keepV : ∀ (n : Nat) (o : O), h[n]? = some o → ∃ a, ι[n]? = some a ∧ (a ∈ ι0 ∨ ∃ vs, H' a = some (.lst vs) ∧ match o with
                | .lst _ xs => RepDs K H' av' xs vs
                | .ref _ ns => Paired (fun n v => ∃ b, ι[n]? = some b ∧ v = V.ref b) ns vs) := fun n o q => by
              obtain ⟨a, ws, z1, z2, z3⟩ := p.sim.ob n o q
              refine ⟨a, z1, ?_⟩
              by_cases m : a ∈ ι0
              · exact .inl m
              · refine .inr ⟨ws, st.keep a _ z2 m, ?_⟩
                cases o with
                | lst b ys => exact st.repDs sub z3
                | ref b ns => exact z3
            obtain ⟨b1, _, b3⟩ := back_ok g2 ou eb g3 p.sim.nd p.sim.len.symm (fun n o q _ => q) keepV
            have sim2 : SimH K h2 ι av' H' := ⟨b1.symm, p.sim.nd, fun a m => st.avm a (p.sim.sub a m), lv, b3⟩
            refine k ι av' H' u ⟨st2, sim2, fun n o q l => back_lk g2 eb n o (p.lk n o q l) l (p.lk n o q l)⟩ ?_
            -- the result
            cases rt with
            | p d =>
              simp only [retV, Option.some.injEq] at ew
              subst ew
              exact rr
            | new ys =>
              simp only [retV, Option.some.injEq] at ew
              subst ew
              obtain ⟨a, ws, rfl, q0, q1, q2, q3, q4⟩ := rr
              refine ⟨a, ws, rfl, dead a q0, q1, q2, fun m => ?_, q4⟩
              exact absurd q0 (p.sim.live a (p.sim.sub a m))
            | arg j =>
              obtain ⟨a, q1, rfl⟩ := rr
              obtain ⟨pl, q2, q3⟩ := paired_get g2 q1
              simp only [retV, q2] at ew
              cases pl with
              | some n =>
                simp only [Option.some.injEq] at ew
                subst ew
                exact ⟨a, q3.1, rfl⟩
              | none =>
                simp only at ew
                split at ew
                · rename_i ys ey
                  simp only [Option.some.injEq] at ew
                  subst ew
                  obtain ⟨a', z1, ws, z2, z3⟩ := paired_get ou ey
                  rw [q1] at z1; cases z1
                  exact ⟨a, ws, rfl, q3.1, z2, st.avm a q3.2.2.1, q3.2.1, z3⟩
                · cases ew
end
end MP

/-! ## EngM.lean -/
set_option Elab.async false
set_option linter.all false
set_option maxRecDepth 100000
namespace MP
open PySem PySem.Spec PyProof.Rows L2
/-! ### shapes -/
def isStar : Expr → Bool
  | .Starred .. => true
  | _ => false
def isSlice : Expr → Bool
  | .Slice .. => true
  | _ => false
def isSet : Expr → Bool
  | .Set .. => true
  | _ => false
def isComp : Expr → Bool
  | .ListComp .. => true
  | .SetComp .. => true
  | .DictComp .. => true
  | _ => false
def isTest : Expr → Bool
  | .UnaryOp .. => true
  | .BoolOp .. => true
  | .IfExp .. => true
  | .Compare .. => true
  | _ => false
theorem star_no {e : Expr} (h : isStar e = false) (es : List Expr) (env : Env) : starEach (e :: es) env = (false, eval e env) :: starEach es env := by cases e <;> first | rfl | cases h
theorem ix_no {e : Expr} (h : isSlice e = false) : PlainIx e := by cases e <;> first | (intro _ _; rfl) | cases h
theorem set_no {e : Expr} (h : isSet e = false) (env : Env) : ∀ x, foldedSetIterable e env x = pure x := by cases e <;> first | (intro _; rfl) | cases h
theorem mark_no {e : Expr} (h : isSet e = false) (op : CmpOp) : behindInMarks op e = false := by cases e <;> first | rfl | cases h
theorem comp_no {e : Expr} (h : isComp e = false) (t : Option Expr) (l : Nat) (env : Env) : swapsWith e t l env = pure false := by cases e <;> first | rfl | cases h
theorem test_no {e : Expr} (h : isTest e = false) (env : Env) (whole : Sem Value) : isTrue e env whole = (do let v ← whole; standAt e.pos; holding [v] (truthy v)) := by cases e <;> first | rfl | cases h
theorem back_no {es : List Expr} (h : es.all (fun e => !isStar e) = true) (pos : Pos) (env : Env) : (backTo pos (starEach es env)).any (·.1) = false := by
  induction es with
  | nil => rfl
  | cons e es ih =>
    rw [List.all_cons, Bool.and_eq_true] at h
    have h1 : isStar e = false := by simpa using h.1
    rw [star_no h1]
    have := ih h.2
    simpa [backTo] using this
theorem kw_none {α : Type} (pos : Pos) (env : Env) : ∀ kws : List Keyword, (∀ k ∈ kws, k.arg.isSome = true) → (backToKw pos (keywordEach kws env)).all (·.1.isSome) = true ∧ (backToKw pos (keywordEach kws env)).any (·.1.isNone) = false
  | [], _ => ⟨rfl, rfl⟩
  | ⟨nm, e, p⟩ :: kws, h => by
    obtain ⟨h1, h2⟩ := kw_none (α := α) pos env kws fun k m => h k (List.mem_cons_of_mem _ m)
    have h3 : nm.isSome = true := h _ List.mem_cons_self
    constructor
    · show (nm.isSome && (backToKw pos (keywordEach kws env)).all (·.1.isSome)) = true
      rw [h3, h1]; rfl
    · show (nm.isNone || (backToKw pos (keywordEach kws env)).any (·.1.isNone)) = false
      rw [h2]
      cases nm with
      | none => cases h3
      | some _ => rfl
theorem kw_names (pos : Pos) (env : Env) : ∀ kws : List Keyword, (backToKw pos (keywordEach kws env)).filterMap (·.1) = kws.filterMap (·.arg)
  | [] => rfl
  | ⟨nm, e, p⟩ :: kws => by
    show List.filterMap (·.1) ((nm, _) :: backToKw pos (keywordEach kws env)) = List.filterMap (·.arg) (⟨nm, e, p⟩ :: kws)
    rw [List.filterMap_cons, List.filterMap_cons, kw_names pos env kws]

/-! ### what the text is checked against -/
structure FnSig where
  name : Str
  params : List Str
  kws : List (Nat × List Str)   -- how it is called by keywords: by place so many, then these
structure Chk where
  N : List Str
  fns : List FnSig
  consts : List (Str × D)
def visB (sc : Scope) (x : Str) : Bool := match sc.names.lookup x with
  | some .local => true
  | some .cell => true
  | some .free => true
  | _ => false
def glB (sc : Scope) (x : Str) : Bool := match sc.names.lookup x with
  | some .globalImplicit => true
  | _ => false
def nmB (x : Str) : Bool := !(x == ("__debug__" : Str)) && !(x == ("__classdict__" : Str))
/-- where a name may be stored -/
def stB (sc : Scope) (fnB : Str → Bool) (x : Str) : Bool := match sc.names.lookup x with
  | some .local => true
  | some .cell => fnB x
  | _ => false
def litB : D → Const → Bool
  | .int i, .int j => decide (i = j)
  | .bl b, .bool c => b == c
  | .non, .none => true
  | .str x, .str y => decide (x = y)
  | _, _ => false
def biName : Bi → Str
  | .int => "int" | .tuple => "tuple" | .list => "list"
  | .len => "len" | .sum => "sum" | .all => "all" | .any => "any" | .max => "max" | .min => "min"
  | .abs => "abs" | .sorted => "sorted" | .divmod => "divmod" | .repr => "repr"
def tyName : Ty → Str
  | .int => "int" | .bool => "bool" | .str => "str" | .list => "list" | .tuple => "tuple"
/-- what else must be no name of the module -/
def mOther : List Str := ["isinstance", "bool", "str", "dict"]
def biN : Bi → List Nat
  | .divmod => [2]
  | .max => [1, 2]
  | .min => [1, 2]
  | _ => [1]
def okTg (G : Chk) (sc : Scope) (fnB : Str → Bool) : Tg → Expr → Bool
  | .nm i, .Name x _ => decide (G.N[i]? = some x) && stB sc fnB x
  | .tp is, .Tuple es _ _ => go is es
  | _, _ => false
where go : List Nat → List Expr → Bool
  | [], [] => true
  | i :: is, .Name x _ :: es => decide (G.N[i]? = some x) && stB sc fnB x && go is es
  | _, _ => false
def tgSlots : Tg → List Nat
  | .nm i => [i]
  | .tp is => is
/-- a comparison, by its form -/
def cmpE : E → Bool
  | .cmp .. => true
  | .chn .. => true
  | _ => false
def blkFn (scope : Scope) : Str → Bool := fun x => scope.names.lookup x == some .cell
mutual
def okE (G : Chk) (sc : Scope) (fnB : Str → Bool) : E → Expr → Bool
  | .var i, x => match x with
    | .Name x _ => decide (G.N[i]? = some x) && (visB sc x && nmB x)
    | _ => false
  | .lit d, x => match x with
    | .Constant c _ _ => litB d c
    | _ => false
  | .glo x d, y => match y with
    | .Name y _ => decide (x = y) && (glB sc x && (nmB x && G.consts.any fun p => decide (p.1 = x) && eqD p.2 d))
    | _ => false
  | .bin o a b, x => match x with
    | .BinOp l o' r _ => decide (o = o') && (okE G sc fnB a l && okE G sc fnB b r)
    | _ => false
  | .neg a, x => match x with
    | .UnaryOp .USub e _ => okE G sc fnB a e
    | _ => false
  | .not a, x => match x with
    | .UnaryOp .Not e _ => okE G sc fnB a e
    | _ => false
  | .cmp o a b, x => match x with
    | .Compare l [o'] [r] _ => decide (o = o') && (!isSet r && (okE G sc fnB a l && okE G sc fnB b r))
    | _ => false
  | .chn o p a b c, x => match x with
    | .Compare l [o', p'] [r, r'] _ => (decide (o = o') && decide (p = p')) && (!isSet r' && (okE G sc fnB a l && (okE G sc fnB b r && okE G sc fnB c r')))
    | _ => false
  | .one a, x => match x with
    | .BoolOp _ [e] _ => okE G sc fnB a e
    | _ => false
  | .and a b, x => match x with
    | .BoolOp .And (e :: f :: es) pos => okE G sc fnB a e && okE G sc fnB b (.BoolOp .And (f :: es) pos)
    | _ => false
  | .or a b, x => match x with
    | .BoolOp .Or (e :: f :: es) pos => okE G sc fnB a e && okE G sc fnB b (.BoolOp .Or (f :: es) pos)
    | _ => false
  | .ife c a b, x => match x with
    | .IfExp t x y _ => okT G sc fnB c t && (okE G sc fnB a x && okE G sc fnB b y)
    | _ => false
  | .tup es, x => match x with
    | .Tuple xs _ _ => okEs G sc fnB es xs
    | _ => false
  | .lst es, x => match x with
    | .List xs _ => okEs G sc fnB es xs
    | _ => false
  | .sub a i, x => match x with
    | .Subscript x y _ => !isSlice y && (okE G sc fnB a x && okE G sc fnB i y)
    | _ => false
  | .sl a lo hi, x => match x with
    | .Subscript x (.Slice l u none _) _ => okE G sc fnB a x && (okO G sc fnB lo l && okO G sc fnB hi u)
    | _ => false
  | .rev a, x => match x with
    | .Subscript x (.Slice none none (some (.UnaryOp .USub (.Constant (.int j) _ _) _)) _) _ => decide (j = 1) && okE G sc fnB a x
    | _ => false
  | .lc own tg it cd elt, x => match x with
    | .ListComp e [⟨t, i, ifs, isa⟩] scope _ => decide (isa = 0) && ((own.all fun j => (G.N[j]?).isSome) && (blkC G.N sc scope (own.filterMap fun j => (G.N[j]?).map fun x => (x, j)) && ((tgSlots tg).all (fun j => own.contains j) &&
      (!isSet i && (okI G sc fnB it i && (okTg G (relS scope sc) (blkFn scope) tg t && (okC G (relS scope sc) (blkFn scope) cd ifs && okE G (relS scope sc) (blkFn scope) elt e)))))))
    | _ => false
  | .call f es, x => match x with
    | .Call (.Name x _) xs [] _ => (match G.fns[f]? with | some s => decide (s.name = x) && Nat.beq s.params.length xs.length | none => false) && (glB sc x && (nmB x && (xs.all (fun e => !isStar e) && okEs G sc fnB es xs)))
    | _ => false
  | .callK f es ks, x => match x with
    | .Call (.Name x _) xs kws _ => (match G.fns[f]? with | some s => decide (s.name = x) && (Nat.beq s.params.length (xs.length + kws.length) && s.kws.any fun p => Nat.beq p.1 xs.length && decide (p.2 = kws.filterMap (·.arg))) | none => false) && (glB sc x && (nmB x && (xs.all (fun e => !isStar e) && (okEs G sc fnB es xs && okK G sc fnB ks kws))))
    | _ => false
  | .bi b es, x => match x with
    | .Call (.Name x _) xs [] _ => decide (x = biName b) && (glB sc x && ((biN b).contains xs.length && (xs.all (fun e => !isStar e) && okEs G sc fnB es xs)))
    | _ => false
  | .isi c a, x => match x with
    | .Call (.Name x _) [y, .Name t _] [] _ => decide (x = ("isinstance" : Str)) && (decide (t = tyName c) && (glB sc x && (glB sc t && (!isStar y && okE G sc fnB a y))))
    | _ => false
  | .dget a k d, x => match x with
    | .Call (.Attribute (.Call (.Name x _) [y] [] _) g ap) [z, t] [] cp => decide (x = ("dict" : Str)) && (decide (g = ("get" : Str)) && (ap.endLine == cp.line && (glB sc x && (!isStar y && (!isStar z && (!isStar t && (okE G sc fnB a y && (okE G sc fnB k z && okE G sc fnB d t))))))))
    | _ => false
def okEs (G : Chk) (sc : Scope) (fnB : Str → Bool) : Es → List Expr → Bool
  | .nil, xs => match xs with
    | [] => true
    | _ => false
  | .cons e es, xs => match xs with
    | x :: xs => !isStar x && (okE G sc fnB e x && okEs G sc fnB es xs)
    | _ => false
  | .star e es, xs => match xs with
    | .Starred x _ :: xs => okE G sc fnB e x && okEs G sc fnB es xs
    | _ => false
def okK (G : Chk) (sc : Scope) (fnB : Str → Bool) : Es → List Keyword → Bool
  | .nil, xs => match xs with
    | [] => true
    | _ => false
  | .cons e es, xs => match xs with
    | ⟨some _, x, _⟩ :: xs => okE G sc fnB e x && okK G sc fnB es xs
    | _ => false
  | .star _ _, _ => false
def okO (G : Chk) (sc : Scope) (fnB : Str → Bool) : Eo → Option Expr → Bool
  | .no, x => match x with
    | none => true
    | _ => false
  | .yes e, x => match x with
    | some x => okE G sc fnB e x
    | _ => false
def okT (G : Chk) (sc : Scope) (fnB : Str → Bool) : T → Expr → Bool
  | .val e, x => (!isTest x || cmpE e) && okE G sc fnB e x
  | .not t, x => match x with
    | .UnaryOp .Not x _ => okT G sc fnB t x
    | _ => false
  | .one t, x => match x with
    | .BoolOp _ [x] _ => okT G sc fnB t x
    | _ => false
  | .and t u, x => match x with
    | .BoolOp .And (x :: y :: xs) pos => okT G sc fnB t x && okT G sc fnB u (.BoolOp .And (y :: xs) pos)
    | _ => false
  | .or t u, x => match x with
    | .BoolOp .Or (x :: y :: xs) pos => okT G sc fnB t x && okT G sc fnB u (.BoolOp .Or (y :: xs) pos)
    | _ => false
def okC (G : Chk) (sc : Scope) (fnB : Str → Bool) : To → List Expr → Bool
  | .no, xs => match xs with
    | [] => true
    | _ => false
  | .yes t, xs => match xs with
    | [x] => okT G sc fnB t x
    | _ => false
def okI (G : Chk) (sc : Scope) (fnB : Str → Bool) : It → Expr → Bool
  | .val e, x => okE G sc fnB e x
  | .rng es, x => match x with
    | .Call (.Name x _) xs [] _ => decide (x = ("range" : Str)) && (glB sc x && ((Nat.beq xs.length 1 || (Nat.beq xs.length 2 || Nat.beq xs.length 3)) && (xs.all (fun e => !isStar e) && okEs G sc fnB es xs)))
    | _ => false
  | .enm _, _ => false
  | .zip _ _, _ => false
end
end MP

/-! ## EngN.lean -/
set_option Elab.async false
set_option linter.all false
set_option maxRecDepth 100000
namespace MP
open PySem PySem.Spec PyProof.Rows L2
structure XOk (G : Chk) (F : CallF) (n : Nat) (sc : Scope) (fnB : Str → Bool) (X : Cx) : Prop where
  nN : X.N = G.N
  nd : G.N.Nodup
  sc : X.env.scope = sc
  calm : X.calm = true
  room : Room n X.A
  gd : X.A.guards = some []
  xe : X.xe = fun _ _ => False
  fn : ∀ x, fnB x = true → X.fn x = true
  fns : ∀ (i : Nat) (f : FnSig), G.fns[i]? = some f → ∃ a fd, X.mg f.name = some (.ref a) ∧ PySem.W.keepIn X.K (.ref a) = true ∧ Binds X.K fd f.params [] ∧
    (∀ k ∈ f.kws, KwB X.K fd f.params k.2 k.1) ∧ FnG X.prog X.w X.K X.mg X.base n a fd f.params (spD X.K F i f.params.length)
  cs : ∀ x d, (x, d) ∈ G.consts → ∃ u v, X.mg x = some u ∧ RelV v u ∧ ∀ H av, RepD X.K H av d v
  bl : ∀ b, X.mg (biName b) = none
  rg : X.mg "range" = none
  mo : ∀ x ∈ mOther, X.mg x = none
section
variable {K : PySem.W.Frag} {H H0 H1 H2 H' : Hp} {av av' av1 av2 avs : Av} {ι ι' ι0 ι1 ι2 ιs : List Addr} {h h' h1 h2 hs : Hs} {σ : L2.St} {ρ : Env'} {X : Cx}
variable {G : Chk} {F : CallF} {n : Nat} {sc : Scope} {fnB : Str → Bool}
theorem visB_ok {x : Str} (h : visB sc x = true) : Vis sc x := by
  unfold visB at h
  split at h
  · exact .inl (by assumption)
  · exact .inr (.inl (by assumption))
  · exact .inr (.inr (by assumption))
  · cases h
theorem glB_ok {x : Str} (o : XOk G F n sc fnB X) (h : glB sc x = true) : Gl X x := by
  unfold glB at h
  split at h
  · show X.env.scope.names.lookup x = _
    rw [o.sc]
    assumption
  · cases h
theorem stB_ok {x : Str} (o : XOk G F n sc fnB X) (h : stB sc fnB x = true) : Loc X.env.scope x ∧ (X.fn x = true ∨ X.env.scope.names.lookup x = some .local) := by
  rw [o.sc]
  unfold stB at h
  split at h
  · rename_i q
    exact ⟨.inl q, .inr q⟩
  · rename_i q
    exact ⟨.inr q, .inl (o.fn x h)⟩
  · cases h
theorem nmB_ok {x : Str} (h : nmB x = true) : (x == ("__debug__" : Str)) = false ∧ (x == ("__classdict__" : Str)) = false := by
  unfold nmB at h
  rw [Bool.and_eq_true] at h
  exact ⟨by simpa using h.1, by simpa using h.2⟩
theorem XOk.hu (o : XOk G F n sc fnB X) : X.A.units + 65 < cLine := by
  have := o.room.un
  omega
theorem bi_boot (b : Bi) : bootBuiltins (biName b) = some (biF b) := by cases b <;> decide +kernel
theorem bi_nm (b : Bi) : biName b ≠ "__name__" ∧ (biName b == ("__debug__" : Str)) = false := by cases b <;> exact ⟨by decide +kernel, by decide +kernel⟩

/-! ### one construct at a time -/
theorem g_var {i : Nat} {x : Str} {pos : Pos} (o : XOk G F n sc fnB X) (h1 : G.N[i]? = some x) (h2 : visB sc x = true) (h3 : nmB x = true) : PE X (.Name x pos) (rdE X.K (evE F (.var i))) := by
  obtain ⟨d1, d2⟩ := nmB_ok h3
  refine PEimp (pe_var (i := i) (by rw [o.nN]; exact h1) (by rw [o.sc]; exact visB_ok h2) d1 d2) ?_
  rintro σ H Q ⟨ρ, h, ι, av, v, h', sim, re, e, k⟩
  simp only [evE] at e
  split at e
  · rename_i w ew
    simp only [Option.some.injEq, Prod.mk.injEq] at e
    obtain ⟨rfl, rfl⟩ := e
    obtain ⟨u, q1, q2⟩ := re.2 i w ew
    refine ⟨u, q1, k ι av H u (.refl sim) ?_⟩
    cases w with
    | p d => exact q2
    | loc m => exact q2
    | new xs => exact q2.elim
  · cases e
theorem g_c {e : Expr} {d : D} {v : V} (g : PE X e (tC v)) (r : ∀ H av, RepD X.K H av d v) : PE X e (rdE X.K fun _ h => some (.p d, h)) := by
  refine PEimp g ?_
  rintro σ H Q ⟨ρ, h, ι, av, w, h', sim, re, e, k⟩
  simp only [Option.some.injEq, Prod.mk.injEq] at e
  obtain ⟨rfl, rfl⟩ := e
  exact k ι av H v (.refl sim) (r H av)
theorem g_lit {d : D} {c : Const} {j : Nat} {pos : Pos} (h : litB d c = true) : PE X (.Constant c j pos) (rdE X.K (evE F (.lit d))) := by
  cases d <;> cases c <;> simp only [litB, Bool.false_eq_true] at h
  · exact g_c pe_non fun _ _ => rfl
  · have := eq_of_beq h
    subst this
    exact g_c pe_bl fun _ _ => rfl
  · have := of_decide_eq_true h
    subst this
    exact g_c pe_int fun _ _ => rfl
  · have := of_decide_eq_true h
    subst this
    exact g_c pe_str fun _ _ => rfl
theorem g_glo {x : Str} {d : D} {pos : Pos} (o : XOk G F n sc fnB X) (h1 : glB sc x = true) (h2 : nmB x = true) (h3 : (G.consts.any fun p => decide (p.1 = x) && eqD p.2 d) = true) : PE X (.Name x pos) (rdE X.K (evE F (.glo x d))) := by
  obtain ⟨⟨y, d'⟩, m, q⟩ := List.any_eq_true.mp h3
  rw [Bool.and_eq_true] at q
  have e1 : y = x := of_decide_eq_true q.1
  have e2 := (eqD_iff _ _).mp q.2
  simp only at e2
  subst e1 e2
  obtain ⟨u, v, hm, r, rd⟩ := o.cs _ _ m
  exact g_c (pe_glob (glB_ok o h1) hm r (nmB_ok h2).1) rd
theorem g_neg {a : E} {e : Expr} {pos : Pos} (g : PE X e (rdE X.K (evE F a))) : PE X (.UnaryOp .USub e pos) (rdE X.K (evE F (.neg a))) := by
  refine PEimp (pe_un un_neg g) ?_
  rintro σ H Q ⟨ρ, h, ι, av, w, h', sim, re, e, k⟩
  simp only [evE] at e
  split at e
  · rename_i i h1 e1
    simp only [Option.some.injEq, Prod.mk.injEq] at e
    obtain ⟨rfl, rfl⟩ := e
    refine ⟨ρ, h, ι, av, _, h1, sim, re, e1, fun ι1 av1 H1 u p r => ⟨i, r, k ι1 av1 H1 _ p rfl⟩⟩
  · cases e
/-- a value, then its truth -/
theorem g_truth {a : E} {σ : L2.St} {H : Hp} {T : V → Bool → Hp → Prop} {m : Env' → Hs → Option (Val × Bool × Hs)}
    (hm : ∀ ρ h, m ρ h = match evE F a ρ h with
      | none => none
      | some (v, h1) => match truV h1 v with
        | none => none
        | some b => some (v, b, h1))
    (q : ∃ ρ h ι av v b h1, SimH X.K h ι av H ∧ RepE X.K ρ ι av σ H ∧ m ρ h = some (v, b, h1) ∧ ∀ ι' av' H' u, Pst X.K ι av H h ι' av' H' h1 → RepR X.K H ι' av' H' v u → T u b H') :
    rdE X.K (evE F a) σ H fun x H1 => ∃ k, TruV X.K x H1 k ∧ T x k H1 := by
  obtain ⟨ρ, h, ι, av, v, b, h1, sim, re, e, k⟩ := q
  rw [hm] at e
  split at e
  · cases e
  · rename_i w h2 e1
    split at e
    · cases e
    · rename_i c e2
      simp only [Option.some.injEq, Prod.mk.injEq] at e
      obtain ⟨rfl, rfl, rfl⟩ := e
      exact ⟨ρ, h, ι, av, w, h2, sim, re, e1, fun ι1 av1 H1 u p r => ⟨c, tru_V p.sim r e2, k ι1 av1 H1 u p r⟩⟩
theorem g_not {a : E} {e : Expr} {pos : Pos} (g : PE X e (rdE X.K (evE F a))) : PE X (.UnaryOp .Not e pos) (rdE X.K (evE F (.not a))) := by
  refine PEimp (pe_notT g) ?_
  rintro σ H Q ⟨ρ, h, ι, av, w, h', sim, re, e, k⟩
  simp only [evE] at e
  split at e
  · cases e
  · rename_i v h1 e1
    split at e
    · cases e
    · rename_i b e2
      simp only [Option.some.injEq, Prod.mk.injEq] at e
      obtain ⟨rfl, rfl⟩ := e
      exact ⟨ρ, h, ι, av, v, h1, sim, re, e1, fun ι1 av1 H1 u p r => ⟨b, tru_V p.sim r e2, k ι1 av1 H1 _ p rfl⟩⟩
theorem g_and {a b : E} {x y : Expr} {es : List Expr} {pos : Pos} (ga : PE X x (rdE X.K (evE F a))) (gb : PE X (.BoolOp .And (y :: es) pos) (rdE X.K (evE F b))) : PE X (.BoolOp .And (x :: y :: es) pos) (rdE X.K (evE F (.and a b))) := by
  refine PEimp (pe_andT ga gb) ?_
  rintro σ H Q ⟨ρ, h, ι, av, w, h', sim, re, e, k⟩
  simp only [evE] at e
  split at e
  · cases e
  · rename_i v h1 e1
    split at e
    · cases e
    · rename_i e2
      refine ⟨ρ, h, ι, av, v, h1, sim, re, e1, fun ι1 av1 H1 u p r => ⟨true, tru_V p.sim r e2, ?_⟩⟩
      exact iteT <| ⟨ρ, h1, ι1, av1, w, h', p.sim, p.stp.repE sim.sub re, e, fun ι2 av2 H2 u2 p2 r2 => k ι2 av2 H2 u2 (p.trans p2) (r2.back p.stp)⟩
    · rename_i e2
      simp only [Option.some.injEq, Prod.mk.injEq] at e
      obtain ⟨rfl, rfl⟩ := e
      refine ⟨ρ, h, ι, av, v, h1, sim, re, e1, fun ι1 av1 H1 u p r => ⟨false, tru_V p.sim r e2, ?_⟩⟩
      exact iteF <| k ι1 av1 H1 u p r
theorem g_or {a b : E} {x y : Expr} {es : List Expr} {pos : Pos} (ga : PE X x (rdE X.K (evE F a))) (gb : PE X (.BoolOp .Or (y :: es) pos) (rdE X.K (evE F b))) : PE X (.BoolOp .Or (x :: y :: es) pos) (rdE X.K (evE F (.or a b))) := by
  refine PEimp (pe_orT ga gb) ?_
  rintro σ H Q ⟨ρ, h, ι, av, w, h', sim, re, e, k⟩
  simp only [evE] at e
  split at e
  · cases e
  · rename_i v h1 e1
    split at e
    · cases e
    · rename_i e2
      simp only [Option.some.injEq, Prod.mk.injEq] at e
      obtain ⟨rfl, rfl⟩ := e
      refine ⟨ρ, h, ι, av, v, h1, sim, re, e1, fun ι1 av1 H1 u p r => ⟨true, tru_V p.sim r e2, ?_⟩⟩
      exact iteT <| k ι1 av1 H1 u p r
    · rename_i e2
      refine ⟨ρ, h, ι, av, v, h1, sim, re, e1, fun ι1 av1 H1 u p r => ⟨false, tru_V p.sim r e2, ?_⟩⟩
      exact iteF <| ⟨ρ, h1, ι1, av1, w, h', p.sim, p.stp.repE sim.sub re, e, fun ι2 av2 H2 u2 p2 r2 => k ι2 av2 H2 u2 (p.trans p2) (r2.back p.stp)⟩
theorem g_ife {c : T} {a b : E} {t x y : Expr} {pos : Pos} (gc : PT X t (rdT X.K (evT F c))) (ga : PE X x (rdE X.K (evE F a))) (gb : PE X y (rdE X.K (evE F b))) : PE X (.IfExp t x y pos) (rdE X.K (evE F (.ife c a b))) := by
  refine PEimp (pe_ifExp gc ga gb) ?_
  rintro σ H Q ⟨ρ, h, ι, av, w, h', sim, re, e, k⟩
  simp only [evE] at e
  split at e
  · cases e
  · rename_i h1 e1
    refine ⟨ρ, h, ι, av, true, h1, sim, re, e1, fun ι1 av1 H1 p => ?_⟩
    exact iteT ⟨ρ, h1, ι1, av1, w, h', p.sim, p.stp.repE sim.sub re, e, fun ι2 av2 H2 u2 p2 r2 => k ι2 av2 H2 u2 (p.trans p2) (r2.back p.stp)⟩
  · rename_i h1 e1
    refine ⟨ρ, h, ι, av, false, h1, sim, re, e1, fun ι1 av1 H1 p => ?_⟩
    exact iteF ⟨ρ, h1, ι1, av1, w, h', p.sim, p.stp.repE sim.sub re, e, fun ι2 av2 H2 u2 p2 r2 => k ι2 av2 H2 u2 (p.trans p2) (r2.back p.stp)⟩
theorem g_bin {op : Operator} {a b : E} {x y : Expr} {pos : Pos} (ga : PE X x (rdE X.K (evE F a))) (gb : PE X y (rdE X.K (evE F b))) : PE X (.BinOp x op y pos) (rdE X.K (evE F (.bin op a b))) :=
  PEimp (pe_op (op_bin op) ga gb) (two_ok (K := X.K) (f := fun _ _ => pure .none))
theorem g_sub {a b : E} {x y : Expr} {pos : Pos} (hs : isSlice y = false) (ga : PE X x (rdE X.K (evE F a))) (gb : PE X y (rdE X.K (evE F b))) : PE X (.Subscript x y pos) (rdE X.K (evE F (.sub a b))) :=
  PEimp (pe_ix ix_sub ga gb (ix_no hs)) (two_ok (K := X.K) (f := fun _ _ => pure .none))
theorem g_cmp {op : CmpOp} {a b : E} {x y : Expr} {pos : Pos} (o : XOk G F n sc fnB X) (hs : isSet y = false) (ga : PE X x (rdE X.K (evE F a))) (gb : PE X y (rdE X.K (evE F b))) : PE X (.Compare x [op] [y] pos) (rdE X.K (evE F (.cmp op a b))) := by
  exact PEimp (pe_cmpR (op_cmp o.hu op) ga gb (mark_no hs op)) (two_ok (K := X.K) (f := fun _ _ => pure .none) (m := cmpW op))
theorem last_no {p q : CmpOp} {y z : Expr} (h : isSet z = false) : lastMarks [p, q] [y, z] = false := by
  show behindInMarks q z = false
  exact mark_no h q
theorem chain_ok {op op' : CmpOp} {a b c : E} {σ : L2.St} {H : Hp} {Q : VK} (q : rdE X.K (evE F (.chn op op' a b c)) σ H Q) :
    tChain (rV2 X.K (cmpW op)) (rV2 X.K (cmpW op')) (rdE X.K (evE F a)) (rdE X.K (evE F b)) (rdE X.K (evE F c)) σ H Q := by
  obtain ⟨ρ, h, ι, av, w, h', sim, re, e, k⟩ := q
  simp only [evE] at e
  split at e
  · cases e
  · rename_i x h1 e1
    split at e
    · cases e
    · rename_i y h2 e2
      refine ⟨ρ, h, ι, av, x, h1, sim, re, e1, fun ι1 av1 H1 u1 p1 r1 => ⟨ρ, h1, ι1, av1, y, h2, p1.sim, p1.stp.repE sim.sub re, e2, fun ι2 av2 H2 u2 p2 r2 => ?_⟩⟩
      have r1' := p2.stp.repR p1.sim.sub r1
      have p12 := p1.trans p2
      split at e
      · cases e
      · rename_i e3
        simp only [Option.some.injEq, Prod.mk.injEq] at e
        obtain ⟨rfl, rfl⟩ := e
        refine ⟨h2, ι2, av2, x, y, .p (.bl false), p2.sim, r1'.any, r2.any, by simp only [cmpW, e3], fun av3 H3 u3 p3 r3 => ⟨false, r3, ?_⟩⟩
        exact iteF <| k ι2 av3 H3 _ (p12.trans p3) rfl
      · rename_i e3
        refine ⟨h2, ι2, av2, x, y, .p (.bl true), p2.sim, r1'.any, r2.any, by simp only [cmpW, e3], fun av3 H3 u3 p3 r3 => ⟨true, r3, iteT ?_⟩⟩
        have p13 := p12.trans p3
        split at e
        · cases e
        · rename_i z h3 e4
          refine ⟨ρ, h2, ι2, av3, z, h3, p3.sim, p13.stp.repE sim.sub re, e4, fun ι4 av4 H4 u4 p4 r4 => ?_⟩
          split at e
          · cases e
          · rename_i v e5
            simp only [Option.some.injEq, Prod.mk.injEq] at e
            obtain ⟨rfl, rfl⟩ := e
            have r2' := p4.stp.repR p3.sim.sub (p3.stp.repR p2.sim.sub r2)
            refine ⟨h3, ι4, av4, y, z, .p (.bl v), p4.sim, r2'.any, r4.any, by simp only [cmpW, e5], fun av5 H5 u5 p5 r5 => ?_⟩
            exact k ι4 av5 H5 u5 ((p13.trans p4).trans p5) (r5.back (p13.trans p4).stp)
theorem g_chn {op op' : CmpOp} {a b c : E} {x y z : Expr} {pos : Pos} (o : XOk G F n sc fnB X) (hs : isSet z = false) (ga : PE X x (rdE X.K (evE F a))) (gb : PE X y (rdE X.K (evE F b))) (gc : PE X z (rdE X.K (evE F c))) :
    PE X (.Compare x [op, op'] [y, z] pos) (rdE X.K (evE F (.chn op op' a b c))) :=
  PEimp (pe_chain (op_cmp o.hu op) (op_cmp o.hu op') ga gb gc (last_no hs)) fun _ _ _ q => chain_ok q
theorem g_one {op : BoolOp} {a : E} {x : Expr} {pos : Pos} (ga : PE X x (rdE X.K (evE F a))) : PE X (.BoolOp op [x] pos) (rdE X.K (evE F (.one a))) := PEimp (pe_one ga) fun _ _ _ q => q

/-! ### arguments, displays -/
theorem a_nil : PA X [] (rdA X.K (evEs F .nil)) := by
  refine PAimp pa_nil ?_
  rintro σ H Q ⟨ρ, h, ι, av, vs, h', sim, re, e, k⟩
  simp only [evEs, Option.some.injEq, Prod.mk.injEq] at e
  obtain ⟨rfl, rfl⟩ := e
  exact k ι av H [] (.refl sim) rfl
theorem a_cons {a : E} {es : Es} {x : Expr} {xs : List Expr} (hs : isStar x = false) (ga : PE X x (rdE X.K (evE F a))) (gs : PA X xs (rdA X.K (evEs F es))) : PA X (x :: xs) (rdA X.K (evEs F (.cons a es))) := by
  refine PAimp (pa_cons ga gs (star_no hs _ _)) ?_
  rintro σ H Q ⟨ρ, h, ι, av, vs, h', sim, re, e, k⟩
  simp only [evEs] at e
  split at e
  · cases e
  · rename_i v h1 e1
    split at e
    · cases e
    · rename_i ws h2 e2
      simp only [Option.some.injEq, Prod.mk.injEq] at e
      obtain ⟨rfl, rfl⟩ := e
      refine ⟨ρ, h, ι, av, v, h1, sim, re, e1, fun ι1 av1 H1 u p r => ⟨ρ, h1, ι1, av1, ws, h2, p.sim, p.stp.repE sim.sub re, e2, fun ι2 av2 H2 us p2 r2 => ?_⟩⟩
      exact k ι2 av2 H2 (u :: us) (p.trans p2) (RepRs.cons p2.stp p.sim.sub p.stp r r2)
theorem RepRs.appP : ∀ {xs : List D} {ws : List V} {vs : List Val} {us : List V}, RepDs K H av xs ws → RepRs K H0 ι av H vs us → RepRs K H0 ι av H (xs.map .p ++ vs) (ws ++ us)
  | [], ws, vs, us, r, r2 => by cases r; exact r2
  | x :: xs, ws, vs, us, r, r2 => by
    obtain ⟨w, ws, rfl, r1, r3⟩ := r
    exact ⟨w, _, rfl, r1, RepRs.appP r3 r2, fun z => nomatch z⟩
theorem a_star {a : E} {es : Es} {x : Expr} {xs : List Expr} {p : Pos} (ga : PE X x (rdE X.K (evE F a))) (gs : PA X xs (rdA X.K (evEs F es))) : PA X (.Starred x p :: xs) (rdA X.K (evEs F (.star a es))) := by
  refine PAimp (StX.pa_star ga gs rfl) ?_
  rintro σ H Q ⟨ρ, h, ι, av, vs, h', sim, re, e, k⟩
  simp only [evEs] at e
  split at e
  · cases e
  · rename_i v h1 e1
    split at e
    · cases e
    · rename_i b ds ed
      split at e
      · cases e
      · rename_i ws h2 e2
        simp only [Option.some.injEq, Prod.mk.injEq] at e
        obtain ⟨rfl, rfl⟩ := e
        refine ⟨ρ, h, ι, av, v, h1, sim, re, e1, fun ι1 av1 H1 u p r => ?_⟩
        obtain ⟨a', vs', rfl, rv, hq⟩ := seqD_sq p.sim r ed
        refine ⟨a', vs', rfl, hq.symm, ρ, h1, ι1, av1, ws, h2, p.sim, p.stp.repE sim.sub re, e2, fun ι2 av2 H2 us p2 r2 => ?_⟩
        exact k ι2 av2 H2 _ (p.trans p2) (RepRs.appP (p2.stp.repDs p.sim.sub rv) (r2.back p.stp))
theorem g_tup {es : Es} {xs : List Expr} {j : Nat} {pos : Pos} (gs : PA X xs (rdA X.K (evEs F es))) : PE X (.Tuple xs j pos) (rdE X.K (evE F (.tup es))) := by
  refine PEimp (pe_tup gs) ?_
  rintro σ H Q ⟨ρ, h, ι, av, w, h', sim, re, e, k⟩
  simp only [evE] at e
  split at e
  · cases e
  · rename_i vs h1 e1
    split at e
    · cases e
    · rename_i ds ed
      split at e
      · rename_i hm
        simp only [Option.some.injEq, Prod.mk.injEq] at e
        obtain ⟨rfl, rfl⟩ := e
        refine ⟨ρ, h, ι, av, vs, h1, sim, re, e1, fun ι1 av1 H1 us p r => ?_⟩
        obtain ⟨av2, _, p2, rd⟩ := frzDs_ok p sim.live r ed
        refine ⟨by rw [rd.length]; exact ble_line hm, fun q hq => ?_⟩
        obtain ⟨p3, r3⟩ := Pst.newTup p2.sim hq rd
        exact k ι1 av2 _ _ (p2.trans p3) (r3.back p2.stp)
      · cases e
theorem g_lst {es : Es} {xs : List Expr} {pos : Pos} (gs : PA X xs (rdA X.K (evEs F es))) : PE X (.List xs pos) (rdE X.K (evE F (.lst es))) := by
  refine PEimp (pe_lst gs) ?_
  rintro σ H Q ⟨ρ, h, ι, av, w, h', sim, re, e, k⟩
  simp only [evE] at e
  split at e
  · cases e
  · rename_i vs h1 e1
    split at e
    · cases e
    · rename_i ds ed
      split at e
      · rename_i hm
        simp only [Option.some.injEq, Prod.mk.injEq] at e
        obtain ⟨rfl, rfl⟩ := e
        refine ⟨ρ, h, ι, av, vs, h1, sim, re, e1, fun ι1 av1 H1 us p r => ?_⟩
        obtain ⟨av2, _, p2, rd⟩ := frzDs_ok p sim.live r ed
        refine ⟨by rw [rd.length]; exact ble_line hm, fun q hq => ?_⟩
        obtain ⟨p3, r3⟩ := Pst.newLst p2.sim hq rd
        exact k ι1 _ _ _ (p2.trans p3) (r3.back p2.stp)
      · cases e
theorem o_no : PO X none (rdO X.K (evO F .no)) := by
  refine ⟨fun pins s σ H Q I q => po_none.run pins s σ H Q I ?_⟩
  obtain ⟨ρ, h, ι, av, o, h', sim, re, e, k⟩ := q
  simp only [evO, Option.some.injEq, Prod.mk.injEq] at e
  obtain ⟨rfl, rfl⟩ := e
  exact k ι av H (.refl sim)
theorem o_yes {a : E} {x : Expr} (ga : PE X x (rdE X.K (evE F a))) : PO X (some x) (rdO X.K (evO F (.yes a))) := by
  refine ⟨fun pins s σ H Q I q => (po_some ga).run pins s σ H Q I ?_⟩
  obtain ⟨ρ, h, ι, av, o, h', sim, re, e, k⟩ := q
  simp only [evO] at e
  split at e
  · rename_i i h1 e1
    simp only [Option.some.injEq, Prod.mk.injEq] at e
    obtain ⟨rfl, rfl⟩ := e
    exact ⟨ρ, h, ι, av, _, h1, sim, re, e1, fun ι1 av1 H1 u p r => ⟨i, r, k ι1 av1 H1 p⟩⟩
  · cases e
theorem g_sl {a : E} {lo hi : Eo} {x : Expr} {l u : Option Expr} {p2 pos : Pos} (ga : PE X x (rdE X.K (evE F a))) (gl : PO X l (rdO X.K (evO F lo))) (gu : PO X u (rdO X.K (evO F hi))) :
    PE X (.Subscript x (.Slice l u none p2) pos) (rdE X.K (evE F (.sl a lo hi))) := by
  refine PEimp (pe_slice sl_ok ga gl gu) ?_
  rintro σ H Q ⟨ρ, h, ι, av, w, h', sim, re, e, k⟩
  simp only [evE] at e
  split at e
  · cases e
  · rename_i v h1 e1
    split at e
    · cases e
    · rename_i o1 h2 e2
      split at e
      · cases e
      · rename_i o2 h3 e3
        split at e
        · cases e
        · rename_i z e4
          simp only [Option.some.injEq, Prod.mk.injEq] at e
          obtain ⟨rfl, rfl⟩ := e
          refine ⟨ρ, h, ι, av, v, h1, sim, re, e1, fun ι1 av1 H1 u p r => ⟨ρ, h1, ι1, av1, o1, h2, p.sim, p.stp.repE sim.sub re, e2, fun ι2 av2 H2 p2 => ?_⟩⟩
          refine ⟨ρ, h2, ι2, av2, o2, h3, p2.sim, (p.trans p2).stp.repE sim.sub re, e3, fun ι3 av3 H3 p3 => ?_⟩
          have r3 := p3.stp.repR p2.sim.sub (p2.stp.repR p.sim.sub r)
          have p13 := (p.trans p2).trans p3
          exact ⟨h3, ι3, av3, v, z, p3.sim, r3.any, e4, fun av4 H4 u4 p4 r4 => k ι3 av4 H4 u4 (p13.trans p4) (r4.back p13.stp)⟩
theorem g_rev {a : E} {x : Expr} {j : Nat} {p1 p2 p3 pos : Pos} (ga : PE X x (rdE X.K (evE F a))) : PE X (.Subscript x (.Slice none none (some (.UnaryOp .USub (.Constant (.int 1) j p1) p2)) p3) pos) (rdE X.K (evE F (.rev a))) := by
  refine PEimp (pe_revL ga) ?_
  rintro σ H Q ⟨ρ, h, ι, av, w, h', sim, re, e, k⟩
  simp only [evE] at e
  split at e
  · cases e
  · rename_i v h1 e1
    split at e
    · cases e
    · rename_i z e4
      simp only [Option.some.injEq, Prod.mk.injEq] at e
      obtain ⟨rfl, rfl⟩ := e
      refine ⟨ρ, h, ι, av, v, h1, sim, re, e1, fun ι1 av1 H1 u p r => ?_⟩
      unfold revV at e4
      split at e4
      · rename_i xs es
        simp only [Option.some.injEq] at e4
        obtain ⟨a', vs, rfl, rv, _, hl⟩ := seqD_ok p.sim r es
        refine ⟨a', vs, rfl, .of (hl rfl), fun q hq => ?_⟩
        obtain ⟨p3, r3⟩ := Pst.newLst p.sim hq rv.rev
        exact k ι1 _ _ _ (p.trans p3) (by rw [← e4]; exact r3.back p.stp)
      · cases e4
end
end MP

/-! ## EngO.lean -/
set_option Elab.async false
set_option linter.all false
set_option maxRecDepth 100000
namespace MP
open PySem PySem.Spec PyProof.Rows L2
section
variable {K : PySem.W.Frag} {H H0 H1 H2 H' : Hp} {av av' av1 av2 avs : Av} {ι ι' ι0 ι1 ι2 ιs : List Addr} {h h' h1 h2 hs : Hs} {σ : L2.St} {ρ : Env'} {X : Cx}
variable {G : Chk} {F : CallF} {n : Nat} {sc : Scope} {fnB : Str → Bool}
theorem RepRs.length : ∀ {vs : List Val} {us : List V}, RepRs K H0 ι av H vs us → us.length = vs.length
  | [], us, r => by cases r; rfl
  | v :: vs, us, r => by
    obtain ⟨u, us, rfl, _, r2, _⟩ := r
    simp [RepRs.length r2]
theorem newsOf_app : ∀ {vs ws : List Val} {us zs : List V}, us.length = vs.length → newsOf (vs ++ ws) (us ++ zs) = newsOf vs us ++ newsOf ws zs
  | [], ws, us, zs, e => by
    cases us with
    | nil => rfl
    | cons u us => simp at e
  | v :: vs, ws, us, zs, e => by
    cases us with
    | nil => simp at e
    | cons u us =>
      have ih := newsOf_app (vs := vs) (ws := ws) (us := us) (zs := zs) (by simpa using e)
      cases v with
      | new xs => simp only [List.cons_append, newsOf, ih]
      | p d => simpa only [List.cons_append, newsOf] using ih
      | loc m => simpa only [List.cons_append, newsOf] using ih
theorem RepRs.two : ∀ {vs ws : List Val} {us zs : List V}, RepRs K H ι1 av1 H1 vs us → Stp ι1 av1 H1 ι2 av2 H2 → (∀ a ∈ ι1, av1 a) → Stp ι av H ι1 av1 H1 → RepRs K H1 ι2 av2 H2 ws zs → RepRs K H ι2 av2 H2 (vs ++ ws) (us ++ zs)
  | [], ws, us, zs, r, s, sub, b, r2 => by
    cases r
    exact r2.back b
  | v :: vs, ws, us, zs, r, s, sub, b, r2 => by
    obtain ⟨u, us, rfl, q1, q2, q3⟩ := r
    refine ⟨u, us ++ zs, rfl, s.repR sub q1, RepRs.two q2 s sub b r2, fun hn => ?_⟩
    show u ∉ newsOf (vs ++ ws) (us ++ zs)
    rw [newsOf_app q2.length]
    intro m
    rcases List.mem_append.mp m with m | m
    · exact q3 hn m
    · cases v with
      | new xs =>
        obtain ⟨a, ws', rfl, z0, z1, _⟩ := q1
        exact r2.tie (by rw [z1]; simp) m
      | p d => cases hn
      | loc m => cases hn
/-! ### calls -/
theorem sig_of {f : Nat} {x : Str} {P : FnSig → Bool} (h : (match G.fns[f]? with | some s => decide (s.name = x) && P s | none => false) = true) : ∃ s, G.fns[f]? = some s ∧ s.name = x ∧ P s = true := by
  split at h
  · rename_i s es
    rw [Bool.and_eq_true] at h
    exact ⟨s, es, of_decide_eq_true h.1, h.2⟩
  · cases h
theorem call_reads {f : Nat} {es : Es} {np : Nat} {σ : L2.St} {H : Hp} {Q : VK} (ln : ∀ ρ h vs h', evEs F es ρ h = some (vs, h') → vs.length = np)
    (q : rdE X.K (evE F (.call f es)) σ H Q) : tCallG (spD X.K F f np) (rdA X.K (evEs F es)) σ H Q := by
  obtain ⟨ρ, h, ι, av, w, h', sim, re, e, k⟩ := q
  simp only [evE] at e
  split at e
  · cases e
  · rename_i vs h1 e1
    exact ⟨ρ, h, ι, av, vs, h1, sim, re, e1, fun ι1 av1 H1 us p r => call_ok p sim.live r e (by rw [r.length]; exact ln _ _ _ _ e1) k⟩
theorem es_len : ∀ {es : Es} {xs : List Expr}, okEs G sc fnB es xs = true → (xs.all fun e => !isStar e) = true → ∀ ρ h vs h', evEs F es ρ h = some (vs, h') → vs.length = xs.length
  | .nil, xs, ok, _, ρ, h, vs, h', e => by
    cases xs with
    | nil => simp only [evEs, Option.some.injEq, Prod.mk.injEq] at e; rw [← e.1]; rfl
    | cons x xs => simp [okEs] at ok
  | .cons a es, xs, ok, al, ρ, h, vs, h', e => by
    cases xs with
    | nil => simp [okEs] at ok
    | cons x xs =>
      simp only [okEs, Bool.and_eq_true] at ok
      simp only [List.all_cons, Bool.and_eq_true] at al
      simp only [evEs] at e
      split at e
      · cases e
      · split at e
        · cases e
        · rename_i ws h2 e2
          simp only [Option.some.injEq, Prod.mk.injEq] at e
          rw [← e.1, List.length_cons, List.length_cons, es_len ok.2.2 al.2 _ _ _ _ e2]
  | .star a es, xs, ok, al, ρ, h, vs, h', e => by
    cases xs with
    | nil => simp [okEs] at ok
    | cons x xs =>
      cases x <;> simp [okEs] at ok
      simp [isStar] at al
theorem ks_len : ∀ {es : Es} {xs : List Keyword}, okK G sc fnB es xs = true → ∀ ρ h vs h', evEs F es ρ h = some (vs, h') → vs.length = xs.length
  | .nil, xs, ok, ρ, h, vs, h', e => by
    cases xs with
    | nil => simp only [evEs, Option.some.injEq, Prod.mk.injEq] at e; rw [← e.1]; rfl
    | cons x xs => simp [okK] at ok
  | .cons a es, xs, ok, ρ, h, vs, h', e => by
    cases xs with
    | nil => simp [okK] at ok
    | cons x xs =>
      obtain ⟨nm, x, p⟩ := x
      cases nm with
      | none => simp [okK] at ok
      | some nm =>
        simp only [okK, Bool.and_eq_true] at ok
        simp only [evEs] at e
        split at e
        · cases e
        · split at e
          · cases e
          · rename_i ws h2 e2
            simp only [Option.some.injEq, Prod.mk.injEq] at e
            rw [← e.1, List.length_cons, List.length_cons, ks_len ok.2 _ _ _ _ e2]
  | .star a es, xs, ok, ρ, h, vs, h', e => by
    cases xs with
    | nil => simp [okK] at ok
    | cons x xs => simp [okK] at ok
theorem ks_some : ∀ {es : Es} {xs : List Keyword}, okK G sc fnB es xs = true → ∀ k ∈ xs, k.arg.isSome = true
  | .nil, xs, ok, k, m => by
    cases xs with
    | nil => simp at m
    | cons x xs => simp [okK] at ok
  | .cons a es, xs, ok, k, m => by
    cases xs with
    | nil => simp at m
    | cons x xs =>
      obtain ⟨nm, x, p⟩ := x
      cases nm with
      | none => simp [okK] at ok
      | some nm =>
        simp only [okK, Bool.and_eq_true] at ok
        rcases List.mem_cons.mp m with m | m
        · subst m; rfl
        · exact ks_some ok.2 k m
  | .star a es, xs, ok, k, m => by
    cases xs with
    | nil => simp at m
    | cons x xs => simp [okK] at ok
theorem filterMap_len : ∀ {xs : List Keyword}, (∀ k ∈ xs, k.arg.isSome = true) → (xs.filterMap (·.arg)).length = xs.length
  | [], _ => rfl
  | ⟨nm, x, p⟩ :: xs, h => by
    have h1 := h _ List.mem_cons_self
    cases nm with
    | none => cases h1
    | some nm =>
      simp only [List.filterMap_cons, List.length_cons, filterMap_len fun k m => h k (List.mem_cons_of_mem _ m)]
theorem g_call {f : Nat} {es : Es} {x : Str} {xs : List Expr} {p pos : Pos} (o : XOk G F n sc fnB X) (h1 : (match G.fns[f]? with | some s => decide (s.name = x) && Nat.beq s.params.length xs.length | none => false) = true)
    (h2 : glB sc x = true) (h3 : nmB x = true) (h4 : (xs.all fun e => !isStar e) = true) (h5 : okEs G sc fnB es xs = true) (gs : PA X xs (rdA X.K (evEs F es))) : PE X (.Call (.Name x p) xs [] pos) (rdE X.K (evE F (.call f es))) := by
  obtain ⟨s, es1, rfl, hp⟩ := sig_of h1
  obtain ⟨a, fd, hm, hk, hb, _, fn⟩ := o.fns f s es1
  have np : s.params.length = xs.length := Nat.eq_of_beq_eq_true hp
  cases xs with
  | nil =>
    refine PEimp (pe_callG0 fn o.room o.gd (glB_ok o h2) hm hk hb (nmB_ok h3).1) fun σ H Q q => ?_
    have r := call_reads (F := F) (np := s.params.length) (fun ρ h vs h' e => by rw [np]; exact es_len h5 h4 ρ h vs h' e) q
    have en : es = .nil := by cases es <;> first | rfl | simp [okEs] at h5
    subst en
    obtain ⟨ρ, h, ι, av, vs, h', sim, re, e, k⟩ := r
    simp only [evEs, Option.some.injEq, Prod.mk.injEq] at e
    obtain ⟨rfl, rfl⟩ := e
    exact k ι av H [] (.refl sim) rfl
  | cons e r =>
    have h4' := h4
    rw [List.all_cons, Bool.and_eq_true] at h4
    exact PEimp (pe_callG fn o.room o.gd (glB_ok o h2) hm hk hb gs (nmB_ok h3).1 (star_no (by simpa using h4.1) _ _) (back_no h4.2 _ _)) fun σ H Q q =>
      call_reads (F := F) (np := s.params.length) (fun ρ h vs h' e => by rw [np]; exact es_len h5 h4' ρ h vs h' e) q
/-- the keywords' values -/
structure PKr (X : Cx) (kws : List Keyword) (m : Env' → Hs → Option (List Val × Hs)) : Prop where
  pk : PK X kws (rdA X.K m)
theorem k_nil : PKr X [] (evEs F .nil) := by
  refine ⟨⟨fun pos pins s σ H Q I q => pk_nil.run pos pins s σ H Q I ?_⟩⟩
  obtain ⟨ρ, h, ι, av, vs, h', sim, re, e, k⟩ := q
  simp only [evEs, Option.some.injEq, Prod.mk.injEq] at e
  obtain ⟨rfl, rfl⟩ := e
  exact k ι av H [] (.refl sim) rfl
theorem k_cons {a : E} {es : Es} {nm : Option Str} {x : Expr} {p : Pos} {xs : List Keyword} (ga : PE X x (rdE X.K (evE F a))) (gs : PKr X xs (evEs F es)) : PKr X (⟨nm, x, p⟩ :: xs) (evEs F (.cons a es)) := by
  refine ⟨⟨fun pos pins s σ H Q I q => (pk_cons ga gs.pk).run pos pins s σ H Q I ?_⟩⟩
  obtain ⟨ρ, h, ι, av, vs, h', sim, re, e, k⟩ := q
  simp only [evEs] at e
  split at e
  · cases e
  · rename_i v h1 e1
    split at e
    · cases e
    · rename_i ws h2 e2
      simp only [Option.some.injEq, Prod.mk.injEq] at e
      obtain ⟨rfl, rfl⟩ := e
      refine ⟨ρ, h, ι, av, v, h1, sim, re, e1, fun ι1 av1 H1 u p r => ⟨ρ, h1, ι1, av1, ws, h2, p.sim, p.stp.repE sim.sub re, e2, fun ι2 av2 H2 us p2 r2 => ?_⟩⟩
      exact k ι2 av2 H2 (u :: us) (p.trans p2) (RepRs.cons p2.stp p.sim.sub p.stp r r2)
theorem g_callK {f : Nat} {es ks : Es} {x : Str} {xs : List Expr} {kws : List Keyword} {p pos : Pos} (o : XOk G F n sc fnB X)
    (h1 : (match G.fns[f]? with | some s => decide (s.name = x) && (Nat.beq s.params.length (xs.length + kws.length) && s.kws.any fun p => Nat.beq p.1 xs.length && decide (p.2 = kws.filterMap (·.arg))) | none => false) = true)
    (h2 : glB sc x = true) (h3 : nmB x = true) (h4 : (xs.all fun e => !isStar e) = true) (h5 : okEs G sc fnB es xs = true) (h6 : okK G sc fnB ks kws = true) (gs : PA X xs (rdA X.K (evEs F es))) (gk : PKr X kws (evEs F ks)) :
    PE X (.Call (.Name x p) xs kws pos) (rdE X.K (evE F (.callK f es ks))) := by
  obtain ⟨s, es1, rfl, hp⟩ := sig_of h1
  rw [Bool.and_eq_true] at hp
  have np : s.params.length = xs.length + kws.length := Nat.eq_of_beq_eq_true hp.1
  obtain ⟨⟨m, kn⟩, mm, hq⟩ := List.any_eq_true.mp hp.2
  rw [Bool.and_eq_true] at hq
  have em : m = xs.length := Nat.eq_of_beq_eq_true hq.1
  have ek : kn = kws.filterMap (·.arg) := of_decide_eq_true hq.2
  obtain ⟨a, fd, hm, hk, _, hkb, fn⟩ := o.fns f s es1
  have kb := hkb _ mm
  simp only at kb
  have all := ks_some h6
  have kl : kn.length = kws.length := by rw [ek]; exact filterMap_len all
  obtain ⟨g1, g3⟩ := kw_none (α := Unit) pos X.env kws all
  have g2 := kw_names pos X.env kws
  rw [← ek] at g2
  have read : ∀ {σ H Q}, rdE X.K (evE F (.callK f es ks)) σ H Q → tCallGK (spD X.K F f s.params.length) m kn.length (rdA X.K (evEs F es)) (rdA X.K (evEs F ks)) σ H Q := by
    rintro σ H Q ⟨ρ, h, ι, av, w, h', sim, re, e, k⟩
    simp only [evE] at e
    split at e
    · cases e
    · rename_i vs h1 e1
      split at e
      · cases e
      · rename_i ws h2 e2
        refine ⟨ρ, h, ι, av, vs, h1, sim, re, e1, fun ι1 av1 H1 us p r => ⟨ρ, h1, ι1, av1, ws, h2, p.sim, p.stp.repE sim.sub re, e2, fun ι2 av2 H2 zs p2 r2 => ?_⟩⟩
        have l1 := es_len h5 h4 _ _ _ _ e1
        have l2 := ks_len h6 _ _ _ _ e2
        have q1 := r.length
        have q2 := r2.length
        refine ⟨by rw [q1, l1, em], by rw [q2, l2, kl], ?_⟩
        exact call_ok (p.trans p2) sim.live (RepRs.two r p2.stp p.sim.sub p.stp r2) e (by rw [List.length_append, q1, q2, l1, l2, np]) k
  cases xs with
  | nil =>
    have em0 : m = 0 := em
    subst em0
    refine PEimp (pe_callGK0 fn o.room o.gd (glB_ok o h2) hm hk kb gk.pk (nmB_ok h3).1 g1 g2 (by rw [g3]; rfl)) fun σ H Q q => ?_
    have r := read q
    have en : es = .nil := by cases es <;> first | rfl | simp [okEs] at h5
    subst en
    obtain ⟨ρ, h, ι, av, vs, h', sim, re, e, k⟩ := r
    simp only [evEs, Option.some.injEq, Prod.mk.injEq] at e
    obtain ⟨rfl, rfl⟩ := e
    exact k ι av H [] (.refl sim) rfl
  | cons e r =>
    have h4' := h4
    rw [List.all_cons, Bool.and_eq_true] at h4
    have se := star_no (e := e) (by simpa using h4.1) r X.env
    exact PEimp (pe_callGK fn o.room o.gd (glB_ok o h2) hm hk kb gs gk.pk (nmB_ok h3).1 g1 g2 se (by rw [g3, Bool.or_false]; exact back_no h4' _ _)) fun σ H Q q => read q

/-! ### built-in functions -/
theorem g_bi {b : Bi} {es : Es} {xs : List Expr} {p pos : Pos} (o : XOk G F n sc fnB X) (h2 : glB sc (biName b) = true) (h3 : (biN b).contains xs.length = true) (h4 : (xs.all fun e => !isStar e) = true) (h5 : okEs G sc fnB es xs = true)
    (gs : PA X xs (rdA X.K (evEs F es))) : PE X (.Call (.Name (biName b) p) xs [] pos) (rdE X.K (evE F (.bi b es))) := by
  have ln := es_len (F := F) h5 h4
  have ne : ∃ e r, xs = e :: r := by
    cases xs with
    | nil => cases b <;> simp [biN] at h3
    | cons e r => exact ⟨e, r, rfl⟩
  obtain ⟨e, r, rfl⟩ := ne
  have h4' := h4
  rw [List.all_cons, Bool.and_eq_true] at h4
  have se := star_no (e := e) (by simpa using h4.1) r X.env
  have bk := back_no h4.2 pos X.env
  -- the rule by values
  have rule : CallR X (biF b) (fun us H Q => ∃ h ι av vs v, RepRs X.K H_0 ι av H vs us ∧ SimH X.K h ι av H ∧ vs.length = (e :: r).length ∧ biV b vs h = some v ∧ ∀ av' H' u, Pst X.K ι av H h ι av' H' h → RepR X.K H ι av' H' v u → Q u H') := by
    intro pins s σ H us uv Q I rx hh
    obtain ⟨h, ι, av, vs, v, rr, sim, el, ev, k⟩ := hh
    match vs, rr, el, ev with
    | [v1], rr, el, ev =>
      obtain ⟨u1, us, rfl, r1, r2, _⟩ := rr
      cases r2
      by_cases hb : b = .sorted
      · subst hb
        exact call_sorted pins s σ H _ uv Q I rx ⟨h, ι, av, v1, u1, v, rfl, sim, r1, ev, k⟩
      · exact call_bi1 o.calm o.gd o.hu b hb pins s σ H _ uv Q I rx ⟨h, ι, av, v1, u1, v, rfl, sim, r1, ev, k⟩
    | [v1, v2], rr, el, ev =>
      obtain ⟨u1, us, rfl, r1, r2, _⟩ := rr
      obtain ⟨u2, us, rfl, r3, r4, _⟩ := r2
      cases r4
      exact call_bi2 o.calm b pins s σ H _ uv Q I rx ⟨h, ι, av, v1, v2, u1, u2, v, rfl, sim, r1, r3, ev, k⟩
    | [], rr, el, ev => cases ev
    | _ :: _ :: _ :: _, rr, el, ev => cases ev
  have read : ∀ {σ H Q}, rdE X.K (evE F (.bi b es)) σ H Q → tCB (fun us H Q => ∃ h ι av vs v, RepRs X.K H_0 ι av H vs us ∧ SimH X.K h ι av H ∧ vs.length = (e :: r).length ∧ biV b vs h = some v ∧ ∀ av' H' u, Pst X.K ι av H h ι av' H' h → RepR X.K H ι av' H' v u → Q u H') (rdA X.K (evEs F es)) σ H Q := by
    rintro σ H Q ⟨ρ, h, ι, av, w, h', sim, re, e, k⟩
    simp only [evE] at e
    split at e
    · cases e
    · rename_i vs h1 e1
      split at e
      · cases e
      · rename_i z e2
        simp only [Option.some.injEq, Prod.mk.injEq] at e
        obtain ⟨rfl, rfl⟩ := e
        refine ⟨ρ, h, ι, av, vs, h1, sim, re, e1, fun ι1 av1 H1 us p rr => ?_⟩
        refine ⟨h1, ι1, av1, vs, z, ?_, p.sim, ln _ _ _ _ e1, e2, fun av2 H2 u2 p2 r2 => k ι1 av2 H2 u2 (p.trans p2) (r2.back p.stp)⟩
        -- weaker
        have any : ∀ {vs : List Val} {us : List V}, RepRs X.K H ι1 av1 H1 vs us → RepRs X.K H_0 ι1 av1 H1 vs us := by
          intro vs
          induction vs with
          | nil => intro us r; exact r
          | cons v vs ih =>
            intro us r
            obtain ⟨u, us, rfl, q1, q2, q3⟩ := r
            exact ⟨u, us, rfl, q1.any, ih q2, q3⟩
        exact any rr
  have hm := o.bl b
  have hv := bi_boot b
  obtain ⟨n1, n2⟩ := bi_nm b
  cases b <;> first
    | exact PEimp (pe_callB (id := _) rule (glB_ok o h2) hm hv gs n1 n2 se bk) fun σ H Q q => read q
    | exact PEimp (pe_callTy (T := _) rule (glB_ok o h2) hm hv gs n1 n2 se bk) fun σ H Q q => read q
end
end MP

/-! ## EngP.lean -/
set_option Elab.async false
set_option linter.all false
set_option maxRecDepth 100000
namespace MP
open PySem PySem.Spec PyProof.Rows L2
section
variable {K : PySem.W.Frag} {H H0 H1 H2 H' : Hp} {av av' av1 av2 avs : Av} {ι ι' ι0 ι1 ι2 ιs : List Addr} {h h' h1 h2 hs : Hs} {σ : L2.St} {ρ : Env'} {X : Cx}
variable {G : Chk} {F : CallF} {n : Nat} {sc : Scope} {fnB : Str → Bool}
/-! ### what is walked -/
abbrev Lk (h h' : Hs) : Prop := ∀ (n : Nat) (o : O), h[n]? = some o → o.locked = true → h'[n]? = some o
def WkOk (K : PySem.W.Frag) (J : L2.It) (items : List Val) (ι1 : List Addr) (av1 : Av) (H1 : Hp) (h1 : Hs) : Prop :=
  ∃ (G : Hp → Prop) (Y : Nat → Hp → V → Hp → Prop), L2.Walk J items.length G Y ∧ ∀ ι av H h, Stp ι1 av1 H1 ι av H → SimH K h ι av H → Lk h1 h →
    G H ∧ ∀ i x H', i < items.length → Y i H x H' → ∃ v, items[i]? = some v ∧ Pst K ι av H h ι av H' h ∧ RepV K ι av H' v x
def BackOk (b : Option (Nat × O)) (h h' : Hs) : Prop := match b with
  | none => True
  | some (n, o) => h[n]? = some o ∧ h'[n]? = some (lockO o)
def rdI (K : PySem.W.Frag) (m : Env' → Hs → Option (MP.Walk × Hs)) : TI := fun σ H R => ∃ ρ h ι av w h', SimH K h ι av H ∧ RepE K ρ ι av σ H ∧ m ρ h = some (w, h') ∧
  ∀ ι' av' H' J h3, Pst K ι av H h ι' av' H' h3 → Pst K ι av H h ι' av' H' h' → BackOk w.back h3 h' → WkOk K J w.items ι' av' H' h' → R J H'
theorem lock_l (o : O) : (lockO o).locked = true := by cases o <;> rfl
theorem locked_eq {o : O} (h : o.locked = true) : lockO o = o := by
  cases o with
  | lst k xs => have : k = true := h; subst this; rfl
  | ref k xs => have : k = true := h; subst this; rfl
/-- a list of the heap is locked or let go -/
theorem Pst.setO {n : Nat} {o o' : O} (p : Pst K ιs avs H0 hs ι av H h) (e : h[n]? = some o) (eo : lockO o = lockO o') (lk : ∀ u, hs[n]? = some u → u.locked = true → u = o') : Pst K ιs avs H0 hs ι av H (h.set n o') := by
  have hn : n < h.length := (List.getElem?_eq_some_iff.mp e).1
  refine ⟨p.stp, ⟨by rw [List.length_set]; exact p.sim.len, p.sim.nd, p.sim.sub, p.sim.live, fun m u q => ?_⟩, fun m u q l => ?_⟩
  · by_cases hm : n = m
    · subst hm
      rw [List.getElem?_set_self hn] at q
      cases q
      obtain ⟨a, vs, k1, k2, k3⟩ := p.sim.ob n o e
      refine ⟨a, vs, k1, k2, ?_⟩
      cases o <;> cases o' <;> simp only [lockO, reduceCtorEq, O.lst.injEq, O.ref.injEq, true_and] at eo
      · subst eo; exact k3
      · subst eo; exact k3
    · rw [List.getElem?_set_ne hm] at q
      exact p.sim.ob m u q
  · by_cases hm : n = m
    · subst hm
      rw [List.getElem?_set_self hn, lk u q l]
    · rw [List.getElem?_set_ne hm]
      exact p.lk m u q l
theorem Pst.lock {n : Nat} {o : O} (p : Pst K ιs avs H0 hs ι av H h) (e : h[n]? = some o) : Pst K ιs avs H0 hs ι av H (h.set n (lockO o)) := by
  refine p.setO e (locked_eq (lock_l o)).symm fun u q l => ?_
  have := p.lk n u q l
  rw [e] at this
  cases this
  exact (locked_eq l).symm
theorem lockO_lockO (o : O) : lockO (lockO o) = lockO o := locked_eq (lock_l o)
/-- let go again, behind the loop -/
theorem Pst.unlock {b : Option (Nat × O)} {h3 : Hs} (p : Pst K ιs avs H0 hs ι1 av1 H1 h1) (p2 : Pst K ι1 av1 H1 h1 ι av H h) (bk : BackOk b h3 h1) (p0 : Pst K ιs avs H0 hs ι2 av2 H2 h3) : Pst K ιs avs H0 hs ι av H (unlock b h) := by
  have p3 := p.trans p2
  cases b with
  | none => exact p3
  | some q =>
    obtain ⟨m, o⟩ := q
    obtain ⟨b1, b2⟩ := bk
    have e := p2.lk m _ b2 (lock_l o)
    refine p3.setO e (lockO_lockO o) fun u z l => ?_
    have := p0.lk m u z l
    rw [b1] at this
    cases this
    rfl
theorem wk_lst {a : Addr} {xs : List D} {vs : List V} (q : H1 a = some (.lst vs)) (na : a ∉ ι1) (sub : ∀ b ∈ ι1, av1 b) (r : RepDs K H1 av1 xs vs) : WkOk K (Itl K a) (xs.map Val.p) ι1 av1 H1 h1 := by
  have ln : (xs.map Val.p).length = vs.length := by rw [List.length_map, r.length]
  refine ⟨fun H => SqL K H a vs, YAt vs, by rw [ln]; exact L2.walk_list (xs := vs), fun ι av H h st sim lk => ⟨.of (st.keep a _ q na), fun i x H' hi y => ?_⟩⟩
  obtain ⟨rfl, y⟩ := y
  obtain ⟨d, e1, e2⟩ := (st.repDs sub r).getV y
  exact ⟨.p d, by rw [List.getElem?_map, e1]; rfl, .refl sim, e2⟩
theorem wk_tup {a : Addr} {xs : List D} {vs : List V} (q : H1 a = some (.tup vs)) (na : a ∉ ι1) (sub : ∀ b ∈ ι1, av1 b) (r : RepDs K H1 av1 xs vs) : WkOk K (Itt K a) (xs.map Val.p) ι1 av1 H1 h1 := by
  have ln : (xs.map Val.p).length = vs.length := by rw [List.length_map, r.length]
  refine ⟨fun H => SqT K H a vs, YAt vs, by rw [ln]; exact L2.walk_tup (xs := vs), fun ι av H h st sim lk => ⟨.of (st.keep a _ q na), fun i x H' hi y => ?_⟩⟩
  obtain ⟨rfl, y⟩ := y
  obtain ⟨d, e1, e2⟩ := (st.repDs sub r).getV y
  exact ⟨.p d, by rw [List.getElem?_map, e1]; rfl, .refl sim, e2⟩
theorem wk_scr {a : Addr} {ns : List Int} (q : (Rd H1 a (.lst (ns.map V.int)) ∧ ¬ av1 a) ∨ KL K a (ns.map V.int)) (sub : ∀ b ∈ ι1, av1 b) : WkOk K (Itl K a) (ns.map fun n => Val.p (.int n)) ι1 av1 H1 h1 := by
  have ln : (ns.map fun n => Val.p (.int n)).length = (ns.map V.int).length := by rw [List.length_map, List.length_map]
  refine ⟨fun H => SqL K H a (ns.map V.int), YAt (ns.map V.int), by rw [ln]; exact L2.walk_list (xs := ns.map V.int), fun ι av H h st sim lk => ⟨?_, fun i x H' hi y => ?_⟩⟩
  · have rd : RepD K H1 av1 (.scr ns) (.ref a) := ⟨a, rfl, q⟩
    obtain ⟨b, e, q2⟩ := st.repD sub rd
    cases e
    exact sqL_of q2
  · obtain ⟨rfl, y⟩ := y
    rw [List.getElem?_map] at y
    cases e : ns[i]? with
    | none => rw [e] at y; cases y
    | some z =>
      rw [e] at y
      cases y
      exact ⟨.p (.int z), by rw [List.getElem?_map, e]; rfl, .refl sim, rfl⟩
def itemsO : O → List Val
  | .lst _ xs => xs.map Val.p
  | .ref _ ns => ns.map Val.loc
/-- a list of the heap, locked -/
theorem wk_loc {m : Nat} {a : Addr} {o : O} (e : h1[m]? = some o) (l : o.locked = true) (q : ι1[m]? = some a) :
    WkOk K (Itl K a) (itemsO o) ι1 av1 H1 h1 := by
  have ln : ∀ {H : Hp} {ι : List Addr} {av : Av} {h : Hs}, Stp ι1 av1 H1 ι av H → SimH K h ι av H → Lk h1 h → ∃ vs, H a = some (.lst vs) ∧ vs.length = (itemsO o).length ∧
      ∀ (i : Nat) (x : V), vs[i]? = some x → ∃ v, (itemsO o)[i]? = some v ∧ RepV K ι av H v x := by
    intro H ι av h st sim lk
    obtain ⟨b, vs, k1, k2, k3⟩ := sim.ob m o (lk m o e l)
    rw [st.ix q] at k1
    cases k1
    refine ⟨vs, k2, ?_, ?_⟩
    · cases o with
      | lst k xs => simp only [itemsO, List.length_map]; exact RepDs.length k3
      | ref k ns => simp only [itemsO, List.length_map]; exact (paired_len k3).symm
    · intro i x y
      cases o with
      | lst k xs =>
        obtain ⟨d, e1, e2⟩ := RepDs.getV k3 y
        exact ⟨.p d, by simp only [itemsO, List.getElem?_map, e1]; rfl, e2⟩
      | ref k ns =>
        obtain ⟨j, e1, b, e2, rfl⟩ := paired_get k3 y
        exact ⟨.loc j, by simp only [itemsO, List.getElem?_map, e1]; rfl, b, e2, rfl⟩
  generalize (itemsO o) = items at ln ⊢
  refine ⟨fun H => ∃ vs, SqL K H a vs ∧ H a = some (.lst vs) ∧ vs.length = items.length, fun i H x H' => H' = H ∧ ∀ vs, SqL K H a vs → vs[i]? = some x, ⟨fun i H hi g => ?_, fun H g => ?_, fun i H x H' hi g y => y⟩, fun ι av H h st sim lk => ?_⟩
  · obtain ⟨vs, g1, _, g2⟩ := g
    exact ⟨vs, vs[i]'(by omega), g1, by simp⟩
  · obtain ⟨vs, g1, _, g2⟩ := g
    exact ⟨vs, g1, by omega⟩
  · obtain ⟨vs, g1, g2, g3⟩ := ln st sim lk
    refine ⟨⟨vs, .of g1, g1, g2⟩, fun i x H' hi y => ?_⟩
    obtain ⟨rfl, y⟩ := y
    obtain ⟨v, e1, e2⟩ := g3 i x (y vs (.of g1))
    exact ⟨v, e1, .refl sim, e2⟩
theorem wk_rng (lo : Int) (n : Nat) : WkOk K (Itr lo n) (rngI lo n) ι1 av1 H1 h1 := by
  have at_ : ∀ (n : Nat) (lo : Int) (i : Nat), i < n → (rngI lo n)[i]? = some (.p (.int (lo + i))) := by
    intro n
    induction n with
    | zero => intro lo i hi; omega
    | succ n ih =>
      intro lo i hi
      cases i with
      | zero => simp [rngI]
      | succ i =>
        simp only [rngI, List.getElem?_cons_succ]
        rw [ih (lo + 1) i (by omega)]
        have : lo + 1 + (i : Int) = lo + ((i + 1 : Nat) : Int) := by omega
        rw [this]
  have ln : ∀ (n : Nat) (lo : Int), (rngI lo n).length = n := by
    intro n
    induction n with
    | zero => intro lo; rfl
    | succ n ih => intro lo; simp [rngI, ih]
  refine ⟨fun _ => True, YFn fun i => .int (lo + i), by rw [ln]; exact L2.walk_range, fun ι av H h st sim lk => ⟨trivial, fun i x H' hi y => ?_⟩⟩
  obtain ⟨rfl, rfl⟩ := y
  rw [ln] at hi
  exact ⟨_, at_ n lo i hi, .refl sim, rfl⟩
theorem wk_rngS (lo c : Int) (n : Nat) : WkOk K (Itc lo c n) (rngS lo c n) ι1 av1 H1 h1 := by
  have at_ : ∀ (n : Nat) (lo : Int) (i : Nat), i < n → (rngS lo c n)[i]? = some (.p (.int (lo + (i : Nat) * c))) := by
    intro n
    induction n with
    | zero => intro lo i hi; omega
    | succ n ih =>
      intro lo i hi
      cases i with
      | zero => simp [rngS]
      | succ i =>
        simp only [rngS, List.getElem?_cons_succ]
        rw [ih (lo + c) i (by omega)]
        have : lo + c + (i : Int) * c = lo + ((i + 1 : Nat) : Int) * c := by
          rw [show ((i + 1 : Nat) : Int) = (i : Int) + 1 by omega, Int.add_mul]
          omega
        rw [this]
  have ln : ∀ (n : Nat) (lo : Int), (rngS lo c n).length = n := by
    intro n
    induction n with
    | zero => intro lo; rfl
    | succ n ih => intro lo; simp [rngS, ih]
  refine ⟨fun _ => True, YFn fun i => .int (lo + (i : Nat) * c), by rw [ln]; exact L2.walk_rangeC, fun ι av H h st sim lk => ⟨trivial, fun i x H' hi y => ?_⟩⟩
  obtain ⟨rfl, rfl⟩ := y
  rw [ln] at hi
  exact ⟨_, at_ n lo i hi, .refl sim, rfl⟩
/-- a value that is a list or a tuple, walked -/
def iSeq (K : PySem.W.Frag) (tl : TE) : TI := fun σ H R => tl σ H fun x H1 => ∃ a, x = .ref a ∧ ((∃ xs, SqL K H1 a xs ∧ R (Itl K a) H1) ∨ ∃ xs, SqT K H1 a xs ∧ R (Itt K a) H1)
theorem pi_seq {tg l : Expr} {tl : TE} (g : PE X l tl) : PI X tg l (iSeq X.K tl) := by
  constructor
  intro pins s σ H R I q
  apply thn (g.run pins s σ H _ I q)
  rintro v s1 ⟨x, H1, I1, r1, a, rfl, hq⟩
  cases r1
  have fresh : ∀ {H' : Hp}, H' s1.heap.objs.size = none → ∀ b ∈ [s1.heap.objs.size], FpOk X pins H' b := by
    intro H' e b m
    rw [List.mem_singleton.mp m]
    exact I1.fpOk (Nat.le_refl _) e
  have e1 : H1 s1.heap.objs.size = none := I1.hok.fresh (Nat.le_refl _)
  rcases hq with ⟨xs, q1, q2⟩ | ⟨xs, q1, q2⟩
  · obtain ⟨its, rv, pl, _⟩ := I1.list q1
    apply wpAny_pyIter_list pl.isList
    have I2 := I1.kept (t' := s1.toks) (h' := s1.heap.push { cls := .type "list_iterator", data := .fields #[.ref a, rawInt (0 : Nat)] }) fun b o e => Heap.get?_push_of_some _ e
    exact ⟨_, [_], _, _, H1, rfl, I2, turn_list a _, ⟨_, Heap.get?_push_size _ rfl, rfl, rfl⟩, fresh e1, q2⟩
  · obtain ⟨its, rv, pl, _⟩ := I1.tuple q1
    apply wpAny_pyIter_tuple (show s1.heap.IsTuple a its.toArray from pl)
    have I2 := I1.kept (t' := s1.toks) (h' := s1.heap.push { cls := .type "tuple_iterator", data := .fields #[.ref a, rawInt (0 : Nat)] }) fun b o e => Heap.get?_push_of_some _ e
    exact ⟨_, [_], _, _, H1, rfl, I2, turn_tuple a _, ⟨_, Heap.get?_push_size _ rfl, rfl, rfl⟩, fresh e1, q2⟩
end
end MP

/-! ## EngQ.lean -/
set_option Elab.async false
set_option linter.all false
set_option maxRecDepth 100000
namespace MP
open PySem PySem.Spec PyProof.Rows L2
section
variable {K : PySem.W.Frag} {H H0 H1 H2 H' : Hp} {av av' av1 av2 avs : Av} {ι ι' ι0 ι1 ι2 ιs : List Addr} {h h' h1 h2 hs : Hs} {σ : L2.St} {ρ : Env'} {X : Cx}
variable {G : Chk} {F : CallF} {n : Nat} {sc : Scope} {fnB : Str → Bool}
theorem i_val {a : E} {tg x : Expr} (ga : PE X x (rdE X.K (evE F a))) : PI X tg x (rdI X.K (evI F (.val a))) := by
  refine ⟨fun pins s σ H R I q => (pi_seq ga).run pins s σ H R I ?_⟩
  obtain ⟨ρ, h, ι, av, w, h', sim, re, e, k⟩ := q
  simp only [evI] at e
  split at e
  · cases e
  · rename_i v h1 e1
    refine ⟨ρ, h, ι, av, v, h1, sim, re, e1, fun ι1 av1 H1 u p r => ?_⟩
    have sq : ∀ {b xs}, seqD h1 v = some (b, xs) → (∀ m, v ≠ .loc m) → w = ⟨xs.map .p, none⟩ → h' = h1 → ∃ a, u = .ref a ∧ ((∃ xs, SqL X.K H1 a xs ∧ R (Itl X.K a) H1) ∨ ∃ xs, SqT X.K H1 a xs ∧ R (Itt X.K a) H1) := by
      intro b xs es nl ew eh
      subst ew eh
      cases v with
      | p d =>
        cases d <;> simp [seqD] at es
        · obtain ⟨rfl, rfl⟩ := es
          obtain ⟨a', vs, rfl, q1, q2, q3⟩ := r
          exact ⟨a', rfl, .inr ⟨vs, .of q1, k ι1 av1 H1 _ _ p p trivial (wk_tup q1 (fun m => q2 (p.sim.sub _ m)) p.sim.sub q3)⟩⟩
        · obtain ⟨rfl, rfl⟩ := es
          obtain ⟨a', vs, rfl, q1, q2, q3⟩ := r
          exact ⟨a', rfl, .inl ⟨vs, .of q1, k ι1 av1 H1 _ _ p p trivial (wk_lst q1 (fun m => q2 (p.sim.sub _ m)) p.sim.sub q3)⟩⟩
      | new ys =>
        simp [seqD] at es
        obtain ⟨rfl, rfl⟩ := es
        obtain ⟨a', vs, rfl, q0, q1, q2, q3, q4⟩ := r
        exact ⟨a', rfl, .inl ⟨vs, .of q1, k ι1 av1 H1 _ _ p p trivial (wk_lst q1 q3 p.sim.sub q4)⟩⟩
      | loc m => exact absurd rfl (nl m)
    unfold walkV at e
    split at e
    · rename_i ns
      simp only [Option.some.injEq, Prod.mk.injEq] at e
      obtain ⟨rfl, rfl⟩ := e
      obtain ⟨a', rfl, q⟩ := r
      exact ⟨a', rfl, .inl ⟨_, sqL_of q, k ι1 av1 H1 _ _ p p trivial (wk_scr q p.sim.sub)⟩⟩
    · rename_i m
      obtain ⟨a', q, rfl⟩ := r
      have go : ∀ o, h1[m]? = some o → w = ⟨itemsO o, some (m, o)⟩ → h' = h1.set m (lockO o) → ∃ b, V.ref a' = .ref b ∧ ((∃ xs, SqL X.K H1 b xs ∧ R (Itl X.K b) H1) ∨ ∃ xs, SqT X.K H1 b xs ∧ R (Itt X.K b) H1) := by
        intro o eo ew eh
        subst ew eh
        obtain ⟨b, vs, k1, k2, k3⟩ := p.sim.ob m o eo
        rw [q] at k1; cases k1
        refine ⟨a', rfl, .inl ⟨vs, .of k2, ?_⟩⟩
        have hm : m < h1.length := (List.getElem?_eq_some_iff.mp eo).1
        have eset : (h1.set m (lockO o))[m]? = some (lockO o) := List.getElem?_set_self hm
        have pl := p.lock eo
        exact k ι1 av1 H1 _ _ p pl ⟨eo, eset⟩ (by have := wk_loc (K := X.K) (av1 := av1) (H1 := H1) eset (lock_l o) q; cases o <;> exact this)
      split at e
      · rename_i b xs eo
        simp only [Option.some.injEq, Prod.mk.injEq] at e
        exact go _ eo e.1.symm e.2.symm
      · rename_i b ns eo
        simp only [Option.some.injEq, Prod.mk.injEq] at e
        exact go _ eo e.1.symm e.2.symm
      · cases e
    · rename_i nl1 nl2
      split at e
      · rename_i b xs es
        simp only [Option.some.injEq, Prod.mk.injEq] at e
        exact sq es nl2 e.1.symm e.2.symm
      · cases e
theorem i_rng {es : Es} {tg : Expr} {xs : List Expr} {p pos : Pos} (o : XOk G F n sc fnB X) (h2 : glB sc "range" = true) (h4 : (xs.all fun e => !isStar e) = true) (h5 : okEs G sc fnB es xs = true) (gs : PA X xs (rdA X.K (evEs F es)))
    (hl : xs.length = 1 ∨ xs.length = 2 ∨ xs.length = 3) : PI X tg (.Call (.Name "range" p) xs [] pos) (rdI X.K (evI F (.rng es))) := by
  have ln := es_len (F := F) h5 h4
  have gl := glB_ok o h2
  have gen : ∀ σ H R, rdI X.K (evI F (.rng es)) σ H R → rdA X.K (evEs F es) σ H fun us H1 => ∃ vs xs' ι1 av1 h1, RepRs X.K H ι1 av1 H1 vs us ∧ vs.length = xs.length ∧ rngV vs = some xs' ∧ ∀ J, WkOk X.K J xs' ι1 av1 H1 h1 → R J H1 := by
    rintro σ H R ⟨ρ, h, ι, av, w, h', sim, re, e, k⟩
    simp only [evI] at e
    split at e
    · cases e
    · rename_i vs h1 e1
      split at e
      · cases e
      · rename_i ys e2
        simp only [Option.some.injEq, Prod.mk.injEq] at e
        obtain ⟨rfl, rfl⟩ := e
        exact ⟨ρ, h, ι, av, vs, h1, sim, re, e1, fun ι1 av1 H1 us p r => ⟨vs, ys, ι1, av1, h1, r, ln _ _ _ _ e1, e2, fun J wk => k ι1 av1 H1 J _ p p trivial wk⟩⟩
  have sm : ∀ {i : Int}, small i = true → -(2 ^ 62) ≤ i ∧ i < 2 ^ 62 := fun {i} z => by
    unfold small at z
    simp only [Bool.and_eq_true, decide_eq_true_eq] at z
    omega
  match xs, hl, h4, gs, gen with
  | [x], _, h4, gs, gen =>
    simp only [List.all_cons, List.all_nil, Bool.and_true, Bool.not_eq_true'] at h4
    refine ⟨fun pins s σ H R I q => (pi_range1 gl o.rg gs (by rw [star_no h4]; rfl)).run pins s σ H R I ?_⟩
    obtain ⟨ρ, h, ι, av, vs, h', sim, re, e, k⟩ := gen _ _ _ q
    refine ⟨ρ, h, ι, av, vs, h', sim, re, e, fun ι1 av1 H1 us p r => ?_⟩
    obtain ⟨vs, ys, ι2, av2, h2, r2, el, er, kk⟩ := k ι1 av1 H1 us p r
    match vs, el, r2, er with
    | [v], el, r2, er =>
      obtain ⟨u, us, rfl, q1, q2, _⟩ := r2
      cases q2
      unfold rngV at er
      split at er
      · rename_i j z
        simp only [List.cons.injEq, and_true] at z
        subst z
        split at er
        · rename_i hm
          simp only [Option.some.injEq] at er
          subst er
          exact ⟨j, by rw [q1.intE], (sm hm).1, (sm hm).2, kk _ (wk_rng 0 j.toNat)⟩
        · cases er
      · rename_i z; simp at z
      · rename_i z; simp at z
      · cases er
  | [x, y], _, h4, gs, gen =>
    simp only [List.all_cons, List.all_nil, Bool.and_true, Bool.and_eq_true, Bool.not_eq_true'] at h4
    refine ⟨fun pins s σ H R I q => (pi_range2 gl o.rg gs (by rw [star_no h4.1, star_no h4.2]; rfl) (by rw [star_no h4.2]; rfl)).run pins s σ H R I ?_⟩
    obtain ⟨ρ, h, ι, av, vs, h', sim, re, e, k⟩ := gen _ _ _ q
    refine ⟨ρ, h, ι, av, vs, h', sim, re, e, fun ι1 av1 H1 us p r => ?_⟩
    obtain ⟨vs, ys, ι2, av2, h2, r2, el, er, kk⟩ := k ι1 av1 H1 us p r
    match vs, el, r2, er with
    | [v, w], el, r2, er =>
      obtain ⟨u, us, rfl, q1, q2, _⟩ := r2
      obtain ⟨u2, us, rfl, q3, q4, _⟩ := q2
      cases q4
      unfold rngV at er
      split at er
      · rename_i z; simp at z
      · rename_i i j z
        simp only [List.cons.injEq, and_true] at z
        obtain ⟨rfl, rfl⟩ := z
        split at er
        · rename_i hm
          rw [Bool.and_eq_true] at hm
          simp only [Option.some.injEq] at er
          subst er
          exact ⟨i, j, by rw [q1.intE, q3.intE], ⟨(sm hm.1).1, (sm hm.1).2, (sm hm.2).1, (sm hm.2).2⟩, kk _ (wk_rng i (j - i).toNat)⟩
        · cases er
      · rename_i z; simp at z
      · cases er
  | [x, y, z], _, h4, gs, gen =>
    have h4' := h4
    rw [List.all_cons, Bool.and_eq_true] at h4'
    refine ⟨fun pins s σ H R I q => (pi_range3 gl o.rg gs (star_no (by simpa using h4'.1) _ _) (back_no h4'.2 _ _)).run pins s σ H R I ?_⟩
    obtain ⟨ρ, h, ι, av, vs, h', sim, re, e, k⟩ := gen _ _ _ q
    refine ⟨ρ, h, ι, av, vs, h', sim, re, e, fun ι1 av1 H1 us p r => ?_⟩
    obtain ⟨vs, ys, ι2, av2, h2, r2, el, er, kk⟩ := k ι1 av1 H1 us p r
    match vs, el, r2, er with
    | [v, w, t], el, r2, er =>
      obtain ⟨u, us, rfl, q1, q2, _⟩ := r2
      obtain ⟨u2, us, rfl, q3, q4, _⟩ := q2
      obtain ⟨u3, us, rfl, q5, q6, _⟩ := q4
      cases q6
      unfold rngV at er
      split at er
      · rename_i z; simp at z
      · rename_i z; simp at z
      · rename_i i j c z
        simp only [List.cons.injEq, and_true] at z
        obtain ⟨rfl, rfl, rfl⟩ := z
        split at er
        · rename_i hm
          simp only [Bool.and_eq_true, decide_eq_true_eq] at hm
          obtain ⟨⟨m1, m2⟩, m3⟩ := hm
          subst m3
          simp only [Option.some.injEq] at er
          subst er
          exact ⟨i, j, -1, (i - j).toNat, by rw [q1.intE, q3.intE, q5.intE], RgC.neg (sm m1).1 (sm m1).2 (sm m2).1 (sm m2).2, kk _ (wk_rngS i (-1) (i - j).toNat)⟩
        · cases er
      · cases er
  | [], hl, _, _, _ => simp at hl
  | _ :: _ :: _ :: _ :: _, hl, _, _, _ => simp at hl

/-! ### tests -/
theorem t_val {a : E} {x : Expr} (hx : isTest x = false) (ga : PE X x (rdE X.K (evE F a))) : PT X x (rdT X.K (evT F (.val a))) := by
  refine PTimp (pt_truth ga (test_no hx _)) ?_
  rintro σ H Q ⟨ρ, h, ι, av, b, h', sim, re, e, k⟩
  simp only [evT] at e
  split at e
  · cases e
  · rename_i v h1 e1
    split at e
    · cases e
    · rename_i c e2
      simp only [Option.some.injEq, Prod.mk.injEq] at e
      obtain ⟨rfl, rfl⟩ := e
      exact ⟨ρ, h, ι, av, v, h1, sim, re, e1, fun ι1 av1 H1 u p r => ⟨c, tru_V p.sim r e2, k ι1 av1 H1 p⟩⟩
/-- a value that is a truth -/
theorem t_bool {a : E} {σ : L2.St} {H : Hp} {Q : Bool → Hp → Prop} (hb : ∀ ρ h v h', evE F a ρ h = some (v, h') → ∃ b, v = .p (.bl b)) (q : rdT X.K (evT F (.val a)) σ H Q) : rdE X.K (evE F a) σ H fun x H' => ∃ k, x = .bl k ∧ Q k H' := by
  obtain ⟨ρ, h, ι, av, b, h', sim, re, e, k⟩ := q
  simp only [evT] at e
  split at e
  · cases e
  · rename_i v h1 e1
    split at e
    · cases e
    · rename_i c e2
      simp only [Option.some.injEq, Prod.mk.injEq] at e
      obtain ⟨rfl, rfl⟩ := e
      obtain ⟨d, rfl⟩ := hb _ _ _ _ e1
      simp only [truV, Option.some.injEq] at e2
      subst e2
      exact ⟨ρ, h, ι, av, _, h1, sim, re, e1, fun ι1 av1 H1 u p r => ⟨d, r, k ι1 av1 H1 p⟩⟩
theorem cmp_bool {op : CmpOp} {a b : E} (ρ : Env') (h : Hs) (v : Val) (h' : Hs) (e : evE F (.cmp op a b) ρ h = some (v, h')) : ∃ b, v = .p (.bl b) := by
  simp only [evE] at e
  split at e
  · cases e
  · split at e
    · cases e
    · split at e
      · cases e
      · rename_i z e3
        simp only [Option.some.injEq, Prod.mk.injEq] at e
        obtain ⟨rfl, rfl⟩ := e
        unfold cmpW at e3
        split at e3
        · cases e3
        · simp only [Option.some.injEq] at e3
          exact ⟨_, e3.symm⟩
theorem chn_bool {op op' : CmpOp} {a b c : E} (ρ : Env') (h : Hs) (v : Val) (h' : Hs) (e : evE F (.chn op op' a b c) ρ h = some (v, h')) : ∃ b, v = .p (.bl b) := by
  simp only [evE] at e
  split at e
  · cases e
  · split at e
    · cases e
    · split at e
      · cases e
      · simp only [Option.some.injEq, Prod.mk.injEq] at e
        exact ⟨_, e.1.symm⟩
      · split at e
        · cases e
        · split at e
          · cases e
          · simp only [Option.some.injEq, Prod.mk.injEq] at e
            exact ⟨_, e.1.symm⟩
theorem t_cmp {op : CmpOp} {a b : E} {x y : Expr} {pos : Pos} (o : XOk G F n sc fnB X) (hs : isSet y = false) (ga : PE X x (rdE X.K (evE F a))) (gb : PE X y (rdE X.K (evE F b))) : PT X (.Compare x [op] [y] pos) (rdT X.K (evT F (.val (.cmp op a b)))) := by
  refine PTimp (pt_cmpR (op_cmp o.hu op) ga gb (mark_no hs op)) fun σ H Q q => ?_
  exact two_ok (K := X.K) (f := fun _ _ => pure .none) (m := cmpW op) σ H _ (t_bool cmp_bool q)
theorem t_chn {op op' : CmpOp} {a b c : E} {x y z : Expr} {pos : Pos} (o : XOk G F n sc fnB X) (hs : isSet z = false) (ga : PE X x (rdE X.K (evE F a))) (gb : PE X y (rdE X.K (evE F b))) (gc : PE X z (rdE X.K (evE F c))) :
    PT X (.Compare x [op, op'] [y, z] pos) (rdT X.K (evT F (.val (.chn op op' a b c)))) :=
  PTimp (pt_chain (op_cmp o.hu op) (op_cmp o.hu op') ga gb gc (last_no hs)) fun _ _ _ q => chain_ok (t_bool chn_bool q)
theorem t_not {t : T} {x : Expr} {pos : Pos} (g : PT X x (rdT X.K (evT F t))) : PT X (.UnaryOp .Not x pos) (rdT X.K (evT F (.not t))) := by
  refine PTimp (pt_not g) ?_
  rintro σ H Q ⟨ρ, h, ι, av, b, h', sim, re, e, k⟩
  simp only [evT] at e
  split at e
  · rename_i c h1 e1
    simp only [Option.some.injEq, Prod.mk.injEq] at e
    obtain ⟨rfl, rfl⟩ := e
    exact ⟨ρ, h, ι, av, c, h1, sim, re, e1, fun ι1 av1 H1 p => k ι1 av1 H1 p⟩
  · cases e
theorem w_one {op : BoolOp} {t : T} {x : Expr} {pos : Pos} (g : PT X x (rdT X.K (evT F t))) : PW X (.BoolOp op [x] pos) (rdT X.K (evT F (.one t))) := by
  cases op
  · exact PWimp (pw_and1 g) fun _ _ _ q => q
  · exact PWimp (pw_or1 g) fun _ _ _ q => q
theorem w_and {t u : T} {x y : Expr} {es : List Expr} {pos : Pos} (g : PT X x (rdT X.K (evT F t))) (gu : PW X (.BoolOp .And (y :: es) pos) (rdT X.K (evT F u))) : PW X (.BoolOp .And (x :: y :: es) pos) (rdT X.K (evT F (.and t u))) := by
  refine PWimp (pw_and g gu) ?_
  rintro σ H Q ⟨ρ, h, ι, av, b, h', sim, re, e, k⟩
  simp only [evT] at e
  split at e
  · cases e
  · rename_i h1 e1
    refine ⟨ρ, h, ι, av, true, h1, sim, re, e1, fun ι1 av1 H1 p => iteT ?_⟩
    exact ⟨ρ, h1, ι1, av1, b, h', p.sim, p.stp.repE sim.sub re, e, fun ι2 av2 H2 p2 => k ι2 av2 H2 (p.trans p2)⟩
  · rename_i h1 e1
    simp only [Option.some.injEq, Prod.mk.injEq] at e
    obtain ⟨rfl, rfl⟩ := e
    exact ⟨ρ, h, ι, av, false, h1, sim, re, e1, fun ι1 av1 H1 p => iteF <| k ι1 av1 H1 p⟩
theorem w_or {t u : T} {x y : Expr} {es : List Expr} {pos : Pos} (g : PT X x (rdT X.K (evT F t))) (gu : PW X (.BoolOp .Or (y :: es) pos) (rdT X.K (evT F u))) : PW X (.BoolOp .Or (x :: y :: es) pos) (rdT X.K (evT F (.or t u))) := by
  refine PWimp (pw_or g gu) ?_
  rintro σ H Q ⟨ρ, h, ι, av, b, h', sim, re, e, k⟩
  simp only [evT] at e
  split at e
  · cases e
  · rename_i h1 e1
    simp only [Option.some.injEq, Prod.mk.injEq] at e
    obtain ⟨rfl, rfl⟩ := e
    exact ⟨ρ, h, ι, av, true, h1, sim, re, e1, fun ι1 av1 H1 p => iteT <| k ι1 av1 H1 p⟩
  · rename_i h1 e1
    refine ⟨ρ, h, ι, av, false, h1, sim, re, e1, fun ι1 av1 H1 p => iteF ?_⟩
    exact ⟨ρ, h1, ι1, av1, b, h', p.sim, p.stp.repE sim.sub re, e, fun ι2 av2 H2 p2 => k ι2 av2 H2 (p.trans p2)⟩
end
end MP

/-! ## EngR.lean -/
set_option Elab.async false
set_option linter.all false
set_option maxRecDepth 100000
namespace MP
open PySem PySem.Spec PyProof.Rows L2
section
variable {K : PySem.W.Frag} {H H0 H1 H2 H' : Hp} {av av' av1 av2 avs : Av} {ι ι' ι0 ι1 ι2 ιs : List Addr} {h h' h1 h2 hs : Hs} {σ σ1 : L2.St} {ρ ρ1 : Env'} {X : Cx}
variable {G : Chk} {F : CallF} {n : Nat} {sc : Scope} {fnB : Str → Bool}
/-! ### targets -/
def gAll : List Nat → TGs
  | [] => gNil
  | i :: is => gCons (gName i) (gAll is)
def gTgK (K : PySem.W.Frag) : Tg → TG
  | .nm i => gName i
  | .tp is => gTup K is.length (gAll is)
theorem RepE.set {i : Nat} {v : Val} {u : V} (r : RepE K ρ ι av σ H) (rv : RepV K ι av H v u) : RepE K (ρ.set i (some v)) ι av (σ.set i (some u)) H := by
  refine ⟨by rw [List.length_set, List.length_set]; exact r.1, fun j w e => ?_⟩
  by_cases hj : i = j
  · subst hj
    by_cases hi : i < ρ.length
    · rw [List.getElem?_set_self hi] at e
      cases e
      exact ⟨u, by rw [List.getElem?_set_self (by rw [← r.1]; exact hi)], rv⟩
    · rw [List.getElem?_eq_none (by rw [List.length_set]; omega)] at e
      cases e
  · rw [List.getElem?_set_ne hj] at e
    obtain ⟨u', q1, q2⟩ := r.2 j w e
    exact ⟨u', by rw [List.getElem?_set_ne hj]; exact q1, q2⟩
theorem gAll_ok : ∀ {is : List Nat} {ds : List D} {vs : List V} {σ : L2.St} {ρ ρ1 : Env'} {Q : L2.St → Hp → Prop}, setAll is ds ρ = some ρ1 → RepDs K H av ds vs → RepE K ρ ι av σ H →
    (∀ σ1, σ1.length = σ.length → RepE K ρ1 ι av σ1 H → (∀ j, j ∉ is → σ1[j]? = σ[j]?) → Q σ1 H) → vs.length = is.length ∧ gAll is vs σ H Q
  | [], ds, vs, σ, ρ, ρ1, Q, e, r, re, k => by
    cases ds with
    | nil =>
      simp only [setAll, Option.some.injEq] at e
      subst e
      cases r
      exact ⟨rfl, rfl, k σ rfl re fun _ _ => rfl⟩
    | cons d ds => simp [setAll] at e
  | i :: is, ds, vs, σ, ρ, ρ1, Q, e, r, re, k => by
    cases ds with
    | nil => simp [setAll] at e
    | cons d ds =>
      obtain ⟨v, vs, rfl, r1, r2⟩ := r
      simp only [setAll] at e
      have re2 : RepE K (ρ.set i (some (.p d))) ι av (σ.set i (some v)) H := re.set r1
      obtain ⟨g1, g2⟩ := gAll_ok e r2 re2 (Q := Q) fun σ1 l1 q1 o1 => k σ1 (by rw [l1, List.length_set]) q1 fun j hj => by
        rw [o1 j fun m => hj (List.mem_cons_of_mem _ m), List.getElem?_set_ne fun z => hj (by rw [z]; exact List.mem_cons_self)]
      exact ⟨by simp [g1], v, vs, rfl, g2⟩
theorem tg_reads {t : Tg} {v : Val} {u : V} {Q : L2.St → Hp → Prop} (e : setTg t v ρ = some ρ1) (re : RepE K ρ ι av σ H) (rv : RepV K ι av H v u)
    (k : ∀ σ1, σ1.length = σ.length → RepE K ρ1 ι av σ1 H → (∀ j, j ∉ tgSlots t → σ1[j]? = σ[j]?) → Q σ1 H) : gTgK K t u σ H Q := by
  cases t with
  | nm i =>
    have e2 : ρ.set i (some v) = ρ1 := by
      cases v with
      | new xs => simp [setTg] at e
      | p d => simpa [setTg] using e
      | loc m => simpa [setTg] using e
    subst e2
    exact k _ (by rw [List.length_set]) (re.set rv) fun j hj => by rw [List.getElem?_set_ne fun z => hj (by rw [z]; exact List.mem_cons_self)]
  | tp is =>
    simp only [setTg] at e
    split at e
    · rename_i ds
      obtain ⟨a, vs, rfl, q1, q2, q3⟩ := rv
      obtain ⟨g1, g2⟩ := gAll_ok e q3 re (Q := Q) k
      exact ⟨a, vs, rfl, .of q1, g1, g2⟩
    · cases e
theorem names_len : ∀ {is : List Nat} {es : List Expr} {env : Env}, okTg.go G sc fnB is es = true → (assignEach es env).length = is.length ∧ (assignEach es env).findIdx? (·.1) = none
  | [], es, env, h => by
    cases es with
    | nil => exact ⟨rfl, rfl⟩
    | cons e es => cases e <;> simp [okTg.go] at h
  | i :: is, es, env, h => by
    cases es with
    | nil => simp [okTg.go] at h
    | cons e es =>
      cases e <;> simp [okTg.go] at h
      rename_i x p
      obtain ⟨h1, h2⟩ := names_len (env := env) h.2
      refine ⟨?_, ?_⟩
      · show (assignEach es env).length + 1 = _
        rw [h1]; rfl
      · show List.findIdx? (·.1) ((false, _) :: assignEach es env) = none
        rw [List.findIdx?_cons, h2]
        rfl
theorem pgs_ok (o : XOk G F n sc fnB X) : ∀ {is : List Nat} {es : List Expr}, okTg.go G sc fnB is es = true → PGs X es (gAll is)
  | [], es, h => by
    cases es with
    | nil => exact pgs_nil
    | cons e es => cases e <;> simp [okTg.go] at h
  | i :: is, es, h => by
    cases es with
    | nil => simp [okTg.go] at h
    | cons e es =>
      cases e <;> simp only [okTg.go, Bool.false_eq_true] at h
      rename_i x p
      simp only [Bool.and_eq_true, decide_eq_true_eq] at h
      obtain ⟨s1, s2⟩ := stB_ok o h.1.2
      exact pgs_cons (pg_name (by rw [o.nN]; exact o.nd) (by rw [o.nN]; exact h.1.1) s1 s2) (pgs_ok o h.2) rfl
theorem tg_ok {t : Tg} {e : Expr} (o : XOk G F n sc fnB X) (h : okTg G sc fnB t e = true) : PG X e (gTgK X.K t) := by
  cases t with
  | nm i =>
    cases e <;> simp only [okTg, Bool.false_eq_true] at h
    rename_i x p
    simp only [Bool.and_eq_true, decide_eq_true_eq] at h
    obtain ⟨s1, s2⟩ := stB_ok o h.2
    exact pg_name (by rw [o.nN]; exact o.nd) (by rw [o.nN]; exact h.1) s1 s2
  | tp is =>
    cases e <;> simp only [okTg, Bool.false_eq_true] at h
    obtain ⟨l1, l2⟩ := names_len (env := X.env) h
    exact pg_tup o.calm (pgs_ok o h) l1 l2
/-! ### comprehensions -/
theorem wipe_at : ∀ (vs : List Nat) (σ : L2.St) (j : Nat), (wipe σ vs)[j]? = if j ∈ vs then (if j < σ.length then some none else none) else σ[j]?
  | [], σ, j => by simp [wipe]
  | v :: vs, σ, j => by
    unfold wipe
    by_cases hv : v = j
    · subst hv
      by_cases hl : v < σ.length
      · rw [List.getElem?_set_self (by rw [wipe_length]; exact hl)]
        simp [hl]
      · rw [List.getElem?_eq_none (by rw [List.length_set, wipe_length]; omega)]
        simp [hl]
    · rw [List.getElem?_set_ne hv, wipe_at vs σ j]
      have : (j ∈ v :: vs) ↔ j ∈ vs := by simp [Ne.symm hv]
      simp only [this]
theorem wipeE_at : ∀ (vs : List Nat) (σ : Env') (j : Nat), (wipeE σ vs)[j]? = if j ∈ vs then (if j < σ.length then some none else none) else σ[j]?
  | [], σ, j => by simp [wipeE]
  | v :: vs, σ, j => by
    have wl : ∀ vs : List Nat, (wipeE σ vs).length = σ.length := by
      intro vs
      induction vs with
      | nil => rfl
      | cons v vs ih => unfold wipeE; rw [List.length_set, ih]
    unfold wipeE
    by_cases hv : v = j
    · subst hv
      by_cases hl : v < σ.length
      · rw [List.getElem?_set_self (by rw [wl]; exact hl)]
        simp [hl]
      · rw [List.getElem?_eq_none (by rw [List.length_set, wl]; omega)]
        simp [hl]
    · rw [List.getElem?_set_ne hv, wipeE_at vs σ j]
      have : (j ∈ v :: vs) ↔ j ∈ vs := by simp [Ne.symm hv]
      simp only [this]
theorem wipeE_length (σ : Env') : ∀ vs : List Nat, (wipeE σ vs).length = σ.length
  | [] => rfl
  | v :: vs => by unfold wipeE; rw [List.length_set, wipeE_length σ vs]
theorem RepE.wipe (vs : List Nat) (r : RepE K ρ ι av σ H) : RepE K (wipeE ρ vs) ι av (L2.wipe σ vs) H := by
  refine ⟨by rw [wipeE_length, wipe_length]; exact r.1, fun j w e => ?_⟩
  rw [wipeE_at] at e
  rw [wipe_at]
  split at e
  · split at e <;> cases e
  · rename_i hj
    rw [if_neg hj]
    exact r.2 j w e
theorem wipe_same {vs : List Nat} {σ1 : L2.St} (l : σ1.length = (L2.wipe σ vs).length) (a : ∀ j, j ∉ vs → σ1[j]? = (L2.wipe σ vs)[j]?) : L2.wipe σ1 vs = L2.wipe σ vs := by
  rw [wipe_length] at l
  apply List.ext_getElem?
  intro j
  rw [wipe_at, wipe_at]
  by_cases hj : j ∈ vs
  · rw [if_pos hj, if_pos hj, l]
  · rw [if_neg hj, if_neg hj, a j hj, wipe_at, if_neg hj]
/-- a new list that nothing else holds is written -/
theorem Pst.temp {D : Addr} {o u : HO} (p : Pst K ιs avs H0 hs ι av H h) (sim0 : ∀ a ∈ ιs, avs a) (d0 : H0 D = none) (d1 : H D = some o) (d2 : av D) (d3 : D ∉ ι) : Pst K ιs avs H0 hs ι av (upd H D u) h := by
  have ne : ∀ a, H0 a ≠ none → a ≠ D := fun a z e => z (e ▸ d0)
  refine ⟨⟨p.stp.ext, fun a o q m => ?_, fun a q => ?_, p.stp.avs, p.stp.avm⟩, ⟨p.sim.len, p.sim.nd, p.sim.sub, fun a q => ?_, fun n ob e => ?_⟩, p.lk⟩
  · rw [upd_ne (ne a (by rw [q]; simp))]
    exact p.stp.keep a o q m
  · rw [upd_ne (ne a q)]
    exact p.stp.alive a q
  · by_cases z : a = D
    · subst z; rw [upd_same]; simp
    · rw [upd_ne z]; exact p.sim.live a q
  · obtain ⟨a, vs, k1, k2, k3⟩ := p.sim.ob n ob e
    have na : a ≠ D := fun z => d3 (z ▸ List.mem_of_getElem? k1)
    refine ⟨a, vs, k1, by rw [upd_ne na]; exact k2, ?_⟩
    cases ob with
    | lst k xs => exact RepDs.mono (fun b o q nb => ⟨by rw [upd_ne (show b ≠ D from fun z => nb (by rw [z]; exact d2))]; exact q, nb⟩) _ _ k3
    | ref k ns => exact k3
theorem RepDs.temp {D : Addr} {u : HO} {xs : List MP.D} {vs : List V} (r : RepDs K H av xs vs) (d2 : av D) : RepDs K (upd H D u) av xs vs :=
  RepDs.mono (fun b o q nb => ⟨by rw [upd_ne (show b ≠ D from fun z => nb (by rw [z]; exact d2))]; exact q, nb⟩) _ _ r
theorem RepD.temp {D : Addr} {u : HO} {x : MP.D} {v : V} (r : RepD K H av x v) (d2 : av D) : RepD K (upd H D u) av x v :=
  RepD.mono (fun b o q nb => ⟨by rw [upd_ne (show b ≠ D from fun z => nb (by rw [z]; exact d2))]; exact q, nb⟩) _ _ r
theorem lc_reads {own : List Nat} {tg : Tg} {it : MP.It} {cd : To} {elt : E} {Q : VK} (hown : ∀ j ∈ tgSlots tg, j ∈ own)
    (q : rdE K (evE F (.lc own tg it cd elt)) σ H Q) : tLc (rdI K (evI F it)) (gTgK K tg) (rdT K (evC F cd)) (rdE K (evE F elt)) own σ H Q := by
  obtain ⟨ρ, h, ι, av, v, h', sim, re, e, k⟩ := q
  simp only [evE] at e
  split at e
  · cases e
  · rename_i wk h1 e1
    split at e
    · cases e
    · rename_i ds h5 e2
      split at e
      · rename_i hm
        simp only [Option.some.injEq, Prod.mk.injEq] at e
        obtain ⟨rfl, rfl⟩ := e
        have e2 : lcGo (lcF tg (evC F cd) (evE F elt) (wipeE ρ own)) wk.items h1 = some (ds, h5) := e2
        have hlen := blt_line hm
        refine ⟨ρ, h, ι, av, wk, h1, sim, re, e1, fun ι1 av1 H1 J h3 p3 p bk w D hD => ?_⟩
        obtain ⟨Gp, Y, walk, cond⟩ := w
        refine lc_it walk (fun i Hc => ∃ ιc avc hc acc accV rest, Pst K ι1 av1 H1 h1 ιc avc Hc hc ∧ Hc D = some (.lst accV) ∧ avc D ∧ D ∉ ιc ∧ RepDs K Hc avc acc accV ∧ lcGo (lcF tg (evC F cd) (evE F elt) (wipeE ρ own)) (wk.items.drop i) hc = some (rest, h5) ∧ acc ++ rest = ds)
          ?_ ?_ ?_ ?_
        · obtain ⟨q1, a, vs, ea, q2, q3, q4, q5, q6⟩ := Pst.newLst (xs := []) (vs := []) p.sim hD rfl
          cases ea
          refine ⟨ι1, _, h1, [], [], ds, q1, upd_same, q4, q5, rfl, by simpa using e2, rfl⟩
        · rintro i Hc _ ⟨ιc, avc, hc, acc, accV, rest, pc, _⟩
          exact (cond ιc avc Hc hc pc.stp pc.sim pc.lk).1
        · rintro i x Hc H' hi ⟨ιc, avc, hc, acc, accV, rest, pc, d1, d2, d3, ra, eg, es⟩ y
          obtain ⟨v, ev, py, rv⟩ := (cond ιc avc Hc hc pc.stp pc.sim pc.lk).2 i x H' hi y
          have ed : wk.items.drop i = v :: wk.items.drop (i + 1) := by
            obtain ⟨hl, ev'⟩ := List.getElem?_eq_some_iff.mp ev
            rw [← ev']
            exact List.drop_eq_getElem_cons hl
          rw [ed] at eg
          simp only [lcGo] at eg
          split at eg
          · cases eg
          · rename_i od h2 ef
            split at eg
            · cases eg
            · rename_i rest' h6 er
              simp only [Option.some.injEq, Prod.mk.injEq] at eg
              obtain ⟨eg1, rfl⟩ := eg
              unfold lcF at ef
              split at ef
              · cases ef
              · rename_i ρ1 et
                have pcy := pc.trans py
                have d1' := py.stp.keep D _ d1 d3
                have re' := (p.trans pcy).stp.repE sim.sub re
                refine tg_reads et (re'.wipe own) rv fun σ1 l1 re1 a1 => ⟨wipe_same l1 fun j hj => a1 j fun m => hj (hown j m), ?_⟩
                have ra' := py.stp.repDs pc.sim.sub ra
                split at ef
                · cases ef
                · rename_i h4 ec
                  simp only [Option.some.injEq, Prod.mk.injEq] at ef
                  obtain ⟨rfl, rfl⟩ := ef
                  refine ⟨ρ1, hc, ιc, avc, false, h4, py.sim, re1, ec, fun ι4 av4 H4 p4 => iteF ?_⟩
                  exact ⟨ι4, av4, h4, acc, accV, rest', pcy.trans p4, p4.stp.keep D _ d1' d3, p4.stp.avm D d2, p4.stp.nmem d1' d3, p4.stp.repDs py.sim.sub ra', er, by rw [← es, ← eg1]⟩
                · rename_i h4 ec
                  split at ef
                  · cases ef
                  · rename_i w h7 ee
                    split at ef
                    · cases ef
                    · rename_i d ez
                      simp only [Option.some.injEq, Prod.mk.injEq] at ef
                      obtain ⟨rfl, rfl⟩ := ef
                      refine ⟨ρ1, hc, ιc, avc, true, h4, py.sim, re1, ec, fun ι4 av4 H4 p4 => iteT ?_⟩
                      have d4 := p4.stp.keep D _ d1' d3
                      have n4 := p4.stp.nmem d1' d3
                      refine ⟨ρ1, h4, ι4, av4, w, h7, p4.sim, p4.stp.repE py.sim.sub re1, ee, fun ι7 av7 H7 yv p7 r7 => ?_⟩
                      obtain ⟨av8, _, p8, rd⟩ := frzD_ok p7 p4.sim.live r7 ez
                      have d8 := p8.stp.keep D _ d4 n4
                      have n8 := p8.stp.nmem d4 n4
                      have a8 := p8.stp.avm D (p4.stp.avm D d2)
                      have ra8 := p8.stp.repDs p4.sim.sub (p4.stp.repDs py.sim.sub ra')
                      have esd : acc ++ (d :: rest') = ds := by rw [← es, ← eg1]
                      refine ⟨accV, d8, ?_, ?_⟩
                      · have := ra8.length
                        have l2 := congrArg List.length esd
                        simp only [List.length_append, List.length_cons] at l2
                        omega
                      · have pt := (pcy.trans p4).trans p8
                        refine ⟨ι7, av8, h7, acc ++ [d], accV ++ [yv], rest', pt.temp (fun a m => p.sim.sub a m) hD d8 a8 n8, upd_same, a8, n8, ?_, er, by rw [← esd]; simp⟩
                        exact RepDs.append (ra8.temp a8) ⟨yv, [], rfl, rd.temp a8, rfl⟩
        · rintro Hc ⟨ιc, avc, hc, acc, accV, rest, pc, d1, d2, d3, ra, eg, es⟩
          rw [List.drop_length] at eg
          simp only [lcGo, Option.some.injEq, Prod.mk.injEq] at eg
          obtain ⟨rfl, rfl⟩ := eg
          rw [List.append_nil] at es
          subst es
          have dead : H D = none := by
            cases q : H D with
            | none => rfl
            | some o => exact absurd hD (p.stp.alive D (by rw [q]; simp))
          exact k ιc avc Hc _ (p.unlock pc bk p3) ⟨D, accV, rfl, dead, d1, d2, d3, ra⟩
      · cases e
end
end MP

/-! ## EngR2.lean -/
set_option Elab.async false
set_option linter.all false
set_option maxRecDepth 100000
namespace MP
open PySem PySem.Spec PyProof.Rows L2
section
variable {K : PySem.W.Frag} {H H0 H1 H2 H' : Hp} {av av' av1 av2 avs : Av} {ι ι' ι0 ι1 ι2 ιs : List Addr} {h h' h1 h2 hs : Hs} {σ σ1 : L2.St} {ρ ρ1 : Env'} {X : Cx}
variable {G : Chk} {F : CallF} {n : Nat} {sc : Scope} {fnB : Str → Bool}
/-! ### isinstance -/
def tyS : Ty' → String
  | .non => "NoneType" | .int => "int" | .bool => "bool" | .str => "str" | .list => "list" | .tuple => "tuple"
def tyC : Ty → String
  | .int => "int" | .bool => "bool" | .str => "str" | .list => "list" | .tuple => "tuple"
theorem ty_V {v : Val} {u : V} {t : Ty'} (s : SimH K h ι av H) (e : tyV h v = some t) (r : RepR K H0 ι av H v u) : TyX K H u (.type (tyS t)) := by
  unfold tyV at e
  split at e
  · cases e; cases r; exact .base .non
  · cases e; cases r; exact .base (.bl _)
  · cases e; cases r; exact .base (.int _)
  · cases e; cases r; exact .base (.str _)
  · cases e
    obtain ⟨a, vs, rfl, q1, _⟩ := r
    exact .base (.tup q1)
  · cases e
    obtain ⟨a, vs, rfl, q1, _⟩ := r
    exact .base (.lst q1)
  · cases e
    obtain ⟨a, vs, rfl, _, q1, _⟩ := r
    exact .base (.lst q1)
  · split at e
    · rename_i o eo
      cases e
      obtain ⟨a, q, rfl⟩ := r
      obtain ⟨b, vs, k1, k2, _⟩ := s.ob _ _ eo
      rw [q] at k1; cases k1
      exact .base (.lst k2)
    · cases e
  · cases e
theorem isa_one (K : PySem.W.Frag) (t : Ty') (c : Ty) : PySem.W.kitOne K (.type (tyS t)) (.type (tyC c)) = some (isaT t c) := by cases t <;> cases c <;> first | rfl | decide +kernel | kernel_rfl
theorem boot_ty (c : Ty) : bootBuiltins (tyName c) = some (.type (tyC c)) := by cases c <;> decide +kernel
theorem ty_nm (c : Ty) : tyName c ≠ "__name__" ∧ (tyName c == ("__debug__" : Str)) = false := by cases c <;> exact ⟨by decide +kernel, by decide +kernel⟩
theorem ty_mg (o : XOk G F n sc fnB X) (c : Ty) : X.mg (tyName c) = none := by
  cases c
  · exact o.bl .int
  · exact o.mo _ (by simp [mOther, tyName])
  · exact o.mo _ (by simp [mOther, tyName])
  · exact o.bl .list
  · exact o.bl .tuple
theorem g_isi {c : Ty} {a : E} {y : Expr} {p tp pos : Pos} (o : XOk G F n sc fnB X) (h2 : glB sc "isinstance" = true) (h3 : glB sc (tyName c) = true) (h4 : isStar y = false) (g : PE X y (rdE X.K (evE F a))) :
    PE X (.Call (.Name "isinstance" p) [y, .Name (tyName c) tp] [] pos) (rdE X.K (evE F (.isi c a))) := by
  obtain ⟨n1, n2⟩ := ty_nm c
  have gt : PE X (.Name (tyName c) tp) (tC (.ty (tyC c))) := pe_bltn (glB_ok o h3) (ty_mg o c) (boot_ty c) rfl n1 n2
  refine PEimp (pe_callB call_isi (glB_ok o h2) (o.mo _ (by simp [mOther])) (by decide +kernel) (pa_cons g (pa_cons gt pa_nil rfl) (star_no h4 _ _)) (by decide +kernel) (by decide +kernel) (star_no h4 _ _) rfl) ?_
  rintro σ H Q ⟨ρ, h, ι, av, w, h', sim, re, e, k⟩
  simp only [evE] at e
  split at e
  · cases e
  · rename_i v h1 e1
    split at e
    · cases e
    · rename_i t e2
      simp only [Option.some.injEq, Prod.mk.injEq] at e
      obtain ⟨rfl, rfl⟩ := e
      refine ⟨ρ, h, ι, av, v, h1, sim, re, e1, fun ι1 av1 H1 u p r => ?_⟩
      exact ⟨u, .ty (tyC c), _, _, _, rfl, .ty _, ty_V p.sim e2 r, isa_one X.K t c, k ι1 av1 H1 _ p rfl⟩
/-! ### dict(..).get -/
def LkV (K : PySem.W.Frag) (H : Hp) (av : Av) : Option D → Option V → Prop
  | some d, some v => RepD K H av d v
  | none, none => True
  | _, _ => False
theorem kv_merge {i : Int} : ∀ {xs : List D} {vs : List V} {kvs : List (Int × D)} {acc : List (Key × V)} {o : Option D}, kvOf xs = some kvs → RepDs K H av xs vs → LkV K H av o (valV acc (.inl i)) →
    ∃ (ps : List Addr) (ks : List (Key × V)), vs = ps.map V.ref ∧ Paired (fun p kv => SqT K H p [kV kv.1, kv.2]) ps ks ∧ LkV K H av ((lastD i kvs).or o) (valV (mergeK acc ks) (.inl i))
  | [], vs, kvs, acc, o, e, r, l => by
    cases r
    simp only [kvOf, Option.some.injEq] at e
    subst e
    exact ⟨[], [], rfl, .nil, by simpa [lastD, mergeK] using l⟩
  | x :: xs, vs, kvs, acc, o, e, r, l => by
    obtain ⟨v, vs, rfl, r1, r2⟩ := r
    unfold kvOf at e
    split at e
    · rename_i z; cases z
    · rename_i j d xs' z
      simp only [List.cons.injEq] at z
      obtain ⟨rfl, rfl⟩ := z
      split at e
      · cases e
      · rename_i rr er
        simp only [Option.some.injEq] at e
        subst e
        obtain ⟨a, ws, rfl, q1, q2, q3⟩ := r1
        obtain ⟨w1, ws, rfl, r3, q3⟩ := q3
        obtain ⟨w2, ws, rfl, r4, q3⟩ := q3
        cases q3
        cases r3
        have l' : LkV K H av (if j = i then some d else o) (valV (putK acc (.inl j) w2) (.inl i)) := by
          rw [valV_put]
          by_cases hji : j = i
          · rw [if_pos hji, if_pos (by rw [hji])]
            exact r4
          · rw [if_neg hji, if_neg (fun z => hji (Sum.inl.inj z).symm)]
            exact l
        obtain ⟨ps, ks, rfl, g2, g3⟩ := kv_merge er r2 l'
        refine ⟨a :: ps, (.inl j, w2) :: ks, rfl, .cons (.of q1) g2, ?_⟩
        have : (lastD i ((j, d) :: rr)).or o = (lastD i rr).or (if j = i then some d else o) := by
          simp only [lastD]
          cases lastD i rr with
          | some e => rfl
          | none => by_cases hji : j = i <;> simp [hji]
        rw [this]
        exact g3
    · cases e
theorem g_dget {a k d : E} {y z t : Expr} {p ap dp cp : Pos} (o : XOk G F n sc fnB X) (hl : (ap.endLine == cp.line) = true) (h2 : glB sc "dict" = true) (h3 : isStar y = false) (h4 : isStar z = false) (h5 : isStar t = false)
    (ga : PE X y (rdE X.K (evE F a))) (gk : PE X z (rdE X.K (evE F k))) (gd : PE X t (rdE X.K (evE F d))) : PE X (.Call (.Attribute (.Call (.Name "dict" p) [y] [] dp) "get" ap) [z, t] [] cp) (rdE X.K (evE F (.dget a k d))) := by
  have g1 := pe_callTy (p := p) (pos := dp) (call_dictP o.calm) (glB_ok o h2) (o.mo _ (by simp [mOther])) (by decide +kernel) (pa_cons ga pa_nil (star_no h3 _ _)) (by decide +kernel) (by decide +kernel) (star_no h3 _ _) rfl
  have m : M2 X (.Call (.Name "dict" p) [y] [] dp) "get" ap z t cp := ⟨rfl, by rw [star_no h4, star_no h5]; rfl, hl, by rw [star_no h4, star_no h5]; rfl⟩
  refine PEimp (pe_dget2 (by have := o.hu; omega) g1 gk gd m) ?_
  rintro σ H Q ⟨ρ, h, ι, av, w, h', sim, re, e, kk⟩
  simp only [evE] at e
  split at e
  · cases e
  · rename_i v h1 e1
    split at e
    · cases e
    · rename_i kvs ek
      split at e
      · cases e
      · rename_i x h2 e2
        split at e
        · cases e
        · rename_i yv h3 e3
          split at e
          · cases e
          · rename_i w' ew
            simp only [Option.some.injEq, Prod.mk.injEq] at e
            obtain ⟨rfl, rfl⟩ := e
            refine ⟨ρ, h, ι, av, v, h1, sim, re, e1, fun ι1 av1 H1 u p1 r1 => ?_⟩
            unfold pairsV at ek
            split at ek
            · rename_i xs es
              obtain ⟨b, vs, rfl, rv, _, hq⟩ := seqD_ok p1.sim r1 es
              have hb := hq rfl
              unfold dgV at ew
              split at ew
              · rename_i i
                obtain ⟨ps, ks, rfl, pr, lk⟩ := kv_merge (i := i) (acc := []) (o := none) ek rv trivial
                refine ⟨b, ps, ks, rfl, .of hb, pr, fun q hq => ?_⟩
                have pu : Pst X.K ι1 av1 H1 h1 ι1 av1 (upd H1 q (.dK (mergeK [] ks))) h1 := .upd_new p1.sim hq
                have p1u := p1.trans pu
                have nq : q ∉ ι1 := fun m => p1.sim.live q (p1.sim.sub q m) hq
                refine ⟨q, rfl, .inl ⟨_, .inl upd_same⟩, ?_⟩
                refine ⟨ρ, h1, ι1, av1, _, h2, pu.sim, p1u.stp.repE sim.sub re, e2, fun ι2 av2 H2 u2 p2 r2 => ?_⟩
                have d2 := p2.stp.keep q _ upd_same nq
                have n2 := p2.stp.nmem upd_same nq
                refine ⟨ρ, h2, ι2, av2, yv, h3, p2.sim, (p1u.trans p2).stp.repE sim.sub re, e3, fun ι3 av3 H3 u3 p3 r3 => ?_⟩
                have d3 := p3.stp.keep q _ d2 n2
                have i2 := r2.intE
                subst i2
                refine ⟨_, DGet.k (k := .inl i) d3, ?_⟩
                have fin := kk ι3 av3 H3
                have pf := (p1u.trans p2).trans p3
                have lk3 : LkV X.K H3 av3 (lastD i kvs) (valV (mergeK [] ks) (.inl i)) := by
                  have lk : LkV X.K H1 av1 (lastD i kvs) (valV (mergeK [] ks) (.inl i)) := by simpa using lk
                  cases q1 : lastD i kvs <;> cases q2 : valV (mergeK [] ks) (.inl i) <;> rw [q1, q2] at lk <;> first | exact lk | exact lk.elim | skip
                  exact p3.stp.repD p2.sim.sub (p2.stp.repD pu.sim.sub (pu.stp.repD p1.sim.sub lk))
                split at ew
                · rename_i e' el
                  simp only [Option.some.injEq] at ew
                  subst ew
                  rw [el] at lk3
                  cases q2 : valV (mergeK [] ks) (.inl i) with
                  | none => rw [q2] at lk3; exact lk3.elim
                  | some v2 =>
                    rw [q2] at lk3
                    exact fin v2 pf lk3
                · rename_i el
                  simp only [Option.some.injEq] at ew
                  subst ew
                  rw [el] at lk3
                  cases q2 : valV (mergeK [] ks) (.inl i) with
                  | none => exact fin u3 pf (r3.back (p1u.trans p2).stp)
                  | some v2 => rw [q2] at lk3; exact lk3.elim
              · cases ew
            · cases ek
end
end MP

/-! ## EngS.lean -/
set_option Elab.async false
set_option linter.all false
set_option maxRecDepth 100000
namespace MP
open PySem PySem.Spec PyProof.Rows L2
section
variable {G : Chk} {F : CallF} {n : Nat} {sc : Scope} {fnB : Str → Bool} {X : Cx}
theorem XOk.blk (o : XOk G F n sc fnB X) (s : Shared) (H : Hp) (scope : Scope) (C : Addr) (cl : List (Str × Addr)) (fp : List Addr) : XOk G F n (relS scope sc) (blkFn scope) (X.blk s H scope (compEnvC scope cl C X.env) fp) where
  nN := o.nN
  nd := o.nd
  sc := by
    have : (compEnvC scope cl C X.env).scope = relS scope X.env.scope := rfl
    rw [← o.sc]
    exact this
  calm := o.calm
  room := o.room
  gd := o.gd
  xe := rfl
  fn := fun x h => h
  fns := o.fns
  cs := o.cs
  bl := o.bl
  rg := o.rg
  mo := o.mo
theorem own_map {N : List Str} : ∀ {own : List Nat}, (own.all fun j => (N[j]?).isSome) = true → ((own.filterMap fun j => (N[j]?).map fun x => (x, j)).map (·.2)) = own
  | [], _ => rfl
  | j :: own, h => by
    rw [List.all_cons, Bool.and_eq_true] at h
    obtain ⟨x, e⟩ := Option.isSome_iff_exists.mp h.1
    rw [List.filterMap_cons, e]
    simp only [Option.map_some, List.map_cons, own_map h.2]
theorem g_lc {own : List Nat} {tg : Tg} {it : MP.It} {cd : To} {elt : E} {e t i : Expr} {ifs : List Expr} {scope : Scope} {pos : Pos} (o : XOk G F n sc fnB X)
    (h1 : (own.all fun j => (G.N[j]?).isSome) = true) (h2 : blkC G.N sc scope (own.filterMap fun j => (G.N[j]?).map fun x => (x, j)) = true) (h3 : (tgSlots tg).all (fun j => own.contains j) = true) (h4 : isSet i = false)
    (gi : PI X t i (rdI X.K (evI F it))) (h5 : okTg G (relS scope sc) (blkFn scope) tg t = true)
    (gc : ∀ (Y : Cx), XOk G F n (relS scope sc) (blkFn scope) Y → PTs Y ifs (rdT Y.K (evC F cd))) (ge : ∀ (Y : Cx), XOk G F n (relS scope sc) (blkFn scope) Y → PE Y e (rdE Y.K (evE F elt))) :
    PE X (.ListComp e [⟨t, i, ifs, 0⟩] scope pos) (rdE X.K (evE F (.lc own tg it cd elt))) := by
  have bk := blkOk_by h2
  have g := pe_lc (X := X) (elt := e) (pos := pos) o.calm (by rw [o.nN]; exact o.nd) gi (scope := scope) (by rw [o.nN, o.sc]; exact bk) (ifs := ifs) (g := gTgK X.K tg) (tt := rdT X.K (evC F cd)) (te := rdE X.K (evE F elt))
    (fun s H C cl fp => tg_ok (o.blk s H scope C cl fp) h5) (fun s H C cl fp => gc _ (o.blk s H scope C cl fp)) (fun s H C cl fp => ge _ (o.blk s H scope C cl fp)) (set_no h4 _)
  rw [own_map h1] at g
  refine PEimp g fun σ H Q q => lc_reads (fun j m => ?_) q
  simpa using List.all_eq_true.mp h3 j m
def isBoolOp : Expr → Bool
  | .BoolOp .. => true
  | _ => false
end
mutual
theorem sE {G : Chk} {F : CallF} {n : Nat} : ∀ (a : E) (sc : Scope) (fnB : Str → Bool) (X : Cx), XOk G F n sc fnB X → ∀ x : Expr, okE G sc fnB a x = true → PE X x (rdE X.K (evE F a))
  | .var i, sc, fnB, X, o, x, h => by
    simp only [okE] at h
    split at h
    · simp only [Bool.and_eq_true, decide_eq_true_eq] at h
      exact g_var o h.1 h.2.1 h.2.2
    · cases h
  | .lit d, sc, fnB, X, o, x, h => by
    simp only [okE] at h
    split at h
    · exact g_lit h
    · cases h
  | .glo y d, sc, fnB, X, o, x, h => by
    simp only [okE] at h
    split at h
    · simp only [Bool.and_eq_true, decide_eq_true_eq] at h
      obtain ⟨rfl, h2, h3, h4⟩ := h
      exact g_glo o h2 h3 h4
    · cases h
  | .bin op a b, sc, fnB, X, o, x, h => by
    simp only [okE] at h
    split at h
    · simp only [Bool.and_eq_true, decide_eq_true_eq] at h
      obtain ⟨rfl, h2, h3⟩ := h
      exact g_bin (sE a sc fnB X o _ h2) (sE b sc fnB X o _ h3)
    · cases h
  | .neg a, sc, fnB, X, o, x, h => by
    simp only [okE] at h
    split at h
    · exact g_neg (sE a sc fnB X o _ h)
    · cases h
  | .not a, sc, fnB, X, o, x, h => by
    simp only [okE] at h
    split at h
    · exact g_not (sE a sc fnB X o _ h)
    · cases h
  | .cmp op a b, sc, fnB, X, o, x, h => by
    simp only [okE] at h
    split at h
    · simp only [Bool.and_eq_true, decide_eq_true_eq, Bool.not_eq_true'] at h
      obtain ⟨rfl, h2, h3, h4⟩ := h
      exact g_cmp o h2 (sE a sc fnB X o _ h3) (sE b sc fnB X o _ h4)
    · cases h
  | .chn op p a b c, sc, fnB, X, o, x, h => by
    simp only [okE] at h
    split at h
    · simp only [Bool.and_eq_true, decide_eq_true_eq, Bool.not_eq_true'] at h
      obtain ⟨⟨rfl, rfl⟩, h2, h3, h4, h5⟩ := h
      exact g_chn o h2 (sE a sc fnB X o _ h3) (sE b sc fnB X o _ h4) (sE c sc fnB X o _ h5)
    · cases h
  | .one a, sc, fnB, X, o, x, h => by
    simp only [okE] at h
    split at h
    · exact g_one (sE a sc fnB X o _ h)
    · cases h
  | .and a b, sc, fnB, X, o, x, h => by
    simp only [okE] at h
    split at h
    · rw [Bool.and_eq_true] at h
      exact g_and (sE a sc fnB X o _ h.1) (sE b sc fnB X o _ h.2)
    · cases h
  | .or a b, sc, fnB, X, o, x, h => by
    simp only [okE] at h
    split at h
    · rw [Bool.and_eq_true] at h
      exact g_or (sE a sc fnB X o _ h.1) (sE b sc fnB X o _ h.2)
    · cases h
  | .ife c a b, sc, fnB, X, o, x, h => by
    simp only [okE] at h
    split at h
    · simp only [Bool.and_eq_true] at h
      exact g_ife (sT c sc fnB X o _ h.1).1 (sE a sc fnB X o _ h.2.1) (sE b sc fnB X o _ h.2.2)
    · cases h
  | .tup es, sc, fnB, X, o, x, h => by
    simp only [okE] at h
    split at h
    · exact g_tup (sEs es sc fnB X o _ h)
    · cases h
  | .lst es, sc, fnB, X, o, x, h => by
    simp only [okE] at h
    split at h
    · exact g_lst (sEs es sc fnB X o _ h)
    · cases h
  | .sub a i, sc, fnB, X, o, x, h => by
    simp only [okE] at h
    split at h
    · simp only [Bool.and_eq_true, Bool.not_eq_true'] at h
      exact g_sub h.1 (sE a sc fnB X o _ h.2.1) (sE i sc fnB X o _ h.2.2)
    · cases h
  | .sl a lo hi, sc, fnB, X, o, x, h => by
    simp only [okE] at h
    split at h
    · simp only [Bool.and_eq_true] at h
      exact g_sl (sE a sc fnB X o _ h.1) (sO lo sc fnB X o _ h.2.1) (sO hi sc fnB X o _ h.2.2)
    · cases h
  | .rev a, sc, fnB, X, o, x, h => by
    simp only [okE] at h
    split at h
    · simp only [Bool.and_eq_true, decide_eq_true_eq] at h
      obtain ⟨rfl, h2⟩ := h
      exact g_rev (sE a sc fnB X o _ h2)
    · cases h
  | .lc own tg it cd elt, sc, fnB, X, o, x, h => by
    simp only [okE] at h
    split at h
    · simp only [Bool.and_eq_true, decide_eq_true_eq, Bool.not_eq_true'] at h
      obtain ⟨rfl, h1, h2, h3, h4, h5, h6, h7, h8⟩ := h
      exact g_lc o h1 h2 h3 h4 (sI it sc fnB X o _ _ h5) h6 (fun Y oY => sC cd _ _ Y oY _ h7) (fun Y oY => sE elt _ _ Y oY _ h8)
    · cases h
  | .call f es, sc, fnB, X, o, x, h => by
    simp only [okE] at h
    split at h
    · rw [Bool.and_eq_true, Bool.and_eq_true, Bool.and_eq_true, Bool.and_eq_true] at h
      obtain ⟨h1, h2, h3, h4, h5⟩ := h
      exact g_call o h1 h2 h3 h4 h5 (sEs es sc fnB X o _ h5)
    · cases h
  | .callK f es ks, sc, fnB, X, o, x, h => by
    simp only [okE] at h
    split at h
    · rw [Bool.and_eq_true, Bool.and_eq_true, Bool.and_eq_true, Bool.and_eq_true, Bool.and_eq_true] at h
      obtain ⟨h1, h2, h3, h4, h5, h6⟩ := h
      exact g_callK o h1 h2 h3 h4 h5 h6 (sEs es sc fnB X o _ h5) (sK ks sc fnB X o _ h6)
    · cases h
  | .bi b es, sc, fnB, X, o, x, h => by
    simp only [okE] at h
    split at h
    · simp only [Bool.and_eq_true, decide_eq_true_eq] at h
      obtain ⟨rfl, h2, h3, h4, h5⟩ := h
      exact g_bi o h2 h3 h4 h5 (sEs es sc fnB X o _ h5)
    · cases h
  | .isi c a, sc, fnB, X, o, x, h => by
    simp only [okE] at h
    split at h
    · simp only [Bool.and_eq_true, decide_eq_true_eq, Bool.not_eq_true'] at h
      obtain ⟨rfl, rfl, h2, h3, h4, h5⟩ := h
      exact g_isi o h2 h3 h4 (sE a sc fnB X o _ h5)
    · cases h
  | .dget a k d, sc, fnB, X, o, x, h => by
    simp only [okE] at h
    split at h
    · simp only [Bool.and_eq_true, decide_eq_true_eq, Bool.not_eq_true'] at h
      obtain ⟨rfl, rfl, h2, h3, h4, h5, h6, h7, h8, h9⟩ := h
      exact g_dget o h2 h3 h4 h5 h6 (sE a sc fnB X o _ h7) (sE k sc fnB X o _ h8) (sE d sc fnB X o _ h9)
    · cases h
theorem sEs {G : Chk} {F : CallF} {n : Nat} : ∀ (a : Es) (sc : Scope) (fnB : Str → Bool) (X : Cx), XOk G F n sc fnB X → ∀ xs : List Expr, okEs G sc fnB a xs = true → PA X xs (rdA X.K (evEs F a))
  | .nil, sc, fnB, X, o, xs, h => by
    simp only [okEs] at h
    split at h
    · exact a_nil
    · cases h
  | .cons a es, sc, fnB, X, o, xs, h => by
    simp only [okEs] at h
    split at h
    · simp only [Bool.and_eq_true, Bool.not_eq_true'] at h
      exact a_cons h.1 (sE a sc fnB X o _ h.2.1) (sEs es sc fnB X o _ h.2.2)
    · cases h
  | .star a es, sc, fnB, X, o, xs, h => by
    simp only [okEs] at h
    split at h
    · simp only [Bool.and_eq_true] at h
      exact a_star (sE a sc fnB X o _ h.1) (sEs es sc fnB X o _ h.2)
    · cases h
theorem sK {G : Chk} {F : CallF} {n : Nat} : ∀ (a : Es) (sc : Scope) (fnB : Str → Bool) (X : Cx), XOk G F n sc fnB X → ∀ xs : List Keyword, okK G sc fnB a xs = true → PKr X xs (evEs F a)
  | .nil, sc, fnB, X, o, xs, h => by
    simp only [okK] at h
    split at h
    · exact k_nil
    · cases h
  | .cons a es, sc, fnB, X, o, xs, h => by
    simp only [okK] at h
    split at h
    · simp only [Bool.and_eq_true] at h
      exact k_cons (sE a sc fnB X o _ h.1) (sK es sc fnB X o _ h.2)
    · cases h
  | .star a es, sc, fnB, X, o, xs, h => by
    simp only [okK] at h
    cases h
theorem sO {G : Chk} {F : CallF} {n : Nat} : ∀ (a : Eo) (sc : Scope) (fnB : Str → Bool) (X : Cx), XOk G F n sc fnB X → ∀ x : Option Expr, okO G sc fnB a x = true → PO X x (rdO X.K (evO F a))
  | .no, sc, fnB, X, o, x, h => by
    simp only [okO] at h
    split at h
    · exact o_no
    · cases h
  | .yes a, sc, fnB, X, o, x, h => by
    simp only [okO] at h
    split at h
    · exact o_yes (sE a sc fnB X o _ h)
    · cases h
theorem sT {G : Chk} {F : CallF} {n : Nat} : ∀ (a : T) (sc : Scope) (fnB : Str → Bool) (X : Cx), XOk G F n sc fnB X → ∀ x : Expr, okT G sc fnB a x = true → PT X x (rdT X.K (evT F a)) ∧ (isBoolOp x = true → PW X x (rdT X.K (evT F a)))
  | .val e, sc, fnB, X, o, x, h => by
    simp only [okT, Bool.and_eq_true, Bool.or_eq_true, Bool.not_eq_true'] at h
    obtain ⟨h1, h2⟩ := h
    rcases h1 with h1 | h1
    · refine ⟨t_val h1 (sE e sc fnB X o _ h2), fun z => ?_⟩
      cases x <;> first | (cases h1; done) | (cases z; done)
    · cases e with
      | cmp op a b =>
        simp only [okE] at h2
        split at h2
        · simp only [Bool.and_eq_true, decide_eq_true_eq, Bool.not_eq_true'] at h2
          obtain ⟨rfl, h3, h4, h5⟩ := h2
          exact ⟨t_cmp o h3 (sE a sc fnB X o _ h4) (sE b sc fnB X o _ h5), fun z => nomatch z⟩
        · cases h2
      | chn op p a b c =>
        simp only [okE] at h2
        split at h2
        · simp only [Bool.and_eq_true, decide_eq_true_eq, Bool.not_eq_true'] at h2
          obtain ⟨⟨rfl, rfl⟩, h3, h4, h5, h6⟩ := h2
          exact ⟨t_chn o h3 (sE a sc fnB X o _ h4) (sE b sc fnB X o _ h5) (sE c sc fnB X o _ h6), fun z => nomatch z⟩
        · cases h2
      | _ => cases h1
  | .not t, sc, fnB, X, o, x, h => by
    simp only [okT] at h
    split at h
    · exact ⟨t_not (sT t sc fnB X o _ h).1, fun z => nomatch z⟩
    · cases h
  | .one t, sc, fnB, X, o, x, h => by
    simp only [okT] at h
    split at h
    · have g := w_one (op := ‹_›) (pos := ‹_›) (sT t sc fnB X o _ h).1
      exact ⟨g.pt, fun _ => g⟩
    · cases h
  | .and t u, sc, fnB, X, o, x, h => by
    simp only [okT] at h
    split at h
    · rw [Bool.and_eq_true] at h
      have g := w_and (sT t sc fnB X o _ h.1).1 ((sT u sc fnB X o _ h.2).2 rfl)
      exact ⟨g.pt, fun _ => g⟩
    · cases h
  | .or t u, sc, fnB, X, o, x, h => by
    simp only [okT] at h
    split at h
    · rw [Bool.and_eq_true] at h
      have g := w_or (sT t sc fnB X o _ h.1).1 ((sT u sc fnB X o _ h.2).2 rfl)
      exact ⟨g.pt, fun _ => g⟩
    · cases h
theorem sC {G : Chk} {F : CallF} {n : Nat} : ∀ (a : To) (sc : Scope) (fnB : Str → Bool) (X : Cx), XOk G F n sc fnB X → ∀ xs : List Expr, okC G sc fnB a xs = true → PTs X xs (rdT X.K (evC F a))
  | .no, sc, fnB, X, o, xs, h => by
    simp only [okC] at h
    split at h
    · refine ⟨fun pins s σ H Q I q => pts_nil.run pins s σ H Q I ?_⟩
      obtain ⟨ρ, h, ι, av, b, h', sim, re, e, k⟩ := q
      simp only [evC, Option.some.injEq, Prod.mk.injEq] at e
      obtain ⟨rfl, rfl⟩ := e
      exact k ι av H (.refl sim)
    · cases h
  | .yes t, sc, fnB, X, o, xs, h => by
    simp only [okC] at h
    split at h
    · refine ⟨fun pins s σ H Q I q => (pts_one (sT t sc fnB X o _ h).1).run pins s σ H Q I ?_⟩
      obtain ⟨ρ, h, ι, av, b, h', sim, re, e, k⟩ := q
      exact ⟨ρ, h, ι, av, b, h', sim, re, e, k⟩
    · cases h
theorem sI {G : Chk} {F : CallF} {n : Nat} : ∀ (a : MP.It) (sc : Scope) (fnB : Str → Bool) (X : Cx), XOk G F n sc fnB X → ∀ (tg x : Expr), okI G sc fnB a x = true → PI X tg x (rdI X.K (evI F a))
  | .val e, sc, fnB, X, o, tg, x, h => i_val (sE e sc fnB X o x h)
  | .rng es, sc, fnB, X, o, tg, x, h => by
    simp only [okI] at h
    split at h
    · simp only [Bool.and_eq_true, decide_eq_true_eq, Bool.or_eq_true] at h
      obtain ⟨rfl, h2, h3, h4, h5⟩ := h
      refine i_rng o h2 h4 h5 (sEs es sc fnB X o _ h5) ?_
      rcases h3 with z | z | z
      · exact .inl (Nat.eq_of_beq_eq_true z)
      · exact .inr (.inl (Nat.eq_of_beq_eq_true z))
      · exact .inr (.inr (Nat.eq_of_beq_eq_true z))
    · cases h
  | .enm e, sc, fnB, X, o, tg, x, h => by simp [okI] at h
  | .zip a b, sc, fnB, X, o, tg, x, h => by simp [okI] at h
end
end MP

/-! ## EngT.lean -/
set_option Elab.async false
set_option linter.all false
set_option maxRecDepth 100000
namespace MP
open PySem PySem.Spec PyProof.Rows L2
/-! ### statements: the checker -/
/-- name = [..] on one line -/
def swB (sc : Scope) (t : Str) (tl : Nat) : Expr → Bool
  | .ListComp _ _ s p => (sc.names.lookup t == some .local && tl == p.line) && !(s.names.any fun (n, k) => n == t && (k == .local || k == .cell))
  | _ => false
def isName : Expr → Bool
  | .Name .. => true
  | _ => false
/-- a, b = x, y: stored from the right (some names), unpacked (none) -/
def nmOf (sc : Scope) (line : Nat) : Expr → Option Str
  | .Name id pos => if sc.names.lookup id == some .local && pos.line == line then some id else none
  | _ => none
def parB (sc : Scope) (ts vs : List Expr) : Option (Option (List Str)) :=
  if !(ts.length == 2 || ts.length == 3) || vs.length != ts.length then some none else
  if vs.any isStar then some none else
  if (ts.filterMap (nmOf sc ((ts.head?.map (·.pos.line)).getD 0))).length != ts.length || (ts.filterMap (nmOf sc ((ts.head?.map (·.pos.line)).getD 0))).eraseDups.length != (ts.filterMap (nmOf sc ((ts.head?.map (·.pos.line)).getD 0))).length then some none else
  if vs.all (foldedForSure 8) then some none else
  if vs.all (constantsAlone 8) then none else
  some (some (ts.filterMap (nmOf sc ((ts.head?.map (·.pos.line)).getD 0))))
def namesAt (N : List Str) : List Nat → List (Option Str)
  | [] => []
  | i :: is => N[i]? :: namesAt N is
/-- what may stand as o in o.append(..) -/
def plainO : Expr → Bool
  | .Name .. => true
  | .Subscript .. => true
  | _ => false
def isTup : Expr → Bool
  | .Tuple .. => true
  | _ => false
mutual
def okS (G : Chk) (sc : Scope) (fnB : Str → Bool) : S → Stmt → Bool
  | .asg i e, s => match s with
    | .Assign [.Name x p] v _ => decide (G.N[i]? = some x) && (stB sc fnB x && ((!isComp v || !swB sc x p.line v || true) && okE G sc fnB e v && (match v with | .SetComp .. => false | .DictComp .. => false | _ => true)))
    | _ => false
  | .tup is e, s => match s with
    | .Assign [.Tuple es _ _] v _ => !isTup v && (!isComp v && (okTg.go G sc fnB is es && okE G sc fnB e v))
    | _ => false
  | .par is xs, s => match s with
    | .Assign [.Tuple es _ _] (.Tuple vs _ _) _ => okTg.go G sc fnB is es && (okEs G sc fnB xs vs && (vs.all (fun e => !isStar e) && (Nat.ble vs.length 1000 && (decide (is.Nodup) && (match parB sc es vs with | none => false | some none => true | some (some ns) => decide (ns.map some = namesAt G.N is) && decide (ns.length = is.length))))))
    | _ => false
  | .set o i e, s => match s with
    | .Assign [.Subscript x y _] v _ => !isSlice y && (!isComp v && (okE G sc fnB e v && (okE G sc fnB o x && okE G sc fnB i y)))
    | _ => false
  | .app o e, s => match s with
    | .Expr (.Call (.Attribute x a ap) [y] [] cp) _ => decide (a = ("append" : Str)) && (ap.endLine == cp.line && (plainO x && (!isStar y && (okE G sc fnB o x && okE G sc fnB e y))))
    | _ => false
  | .tsn o i j e, s => match s with
    | .Assign [.Tuple [.Subscript x y _, .Name z _] _ _] v _ => !isTup v && (!isComp v && (!isSlice y && (decide (G.N[j]? = some z) && (stB sc fnB z && (okE G sc fnB e v && (okE G sc fnB o x && okE G sc fnB i y))))))
    | _ => false
  | .ex e, s => match s with
    | .Expr v _ => !isComp v && okE G sc fnB e v
    | _ => false
  | .ret e, s => match s with
    | .Return (some v) _ => okE G sc fnB e v
    | _ => false
  | .retN, s => match s with
    | .Return none _ => true
    | _ => false
  | .ife c a b, s => match s with
    | .If t x y _ => okT G sc fnB c t && (okSs G sc fnB a x && okSs G sc fnB b y)
    | _ => false
  | .for_ tg it body, s => match s with
    | .For t i b [] _ => !isSet i && (okI G sc fnB it i && (okTg G sc fnB tg t && okSs G sc fnB body b))
    | _ => false
  | .whl c body, s => match s with
    | .While t b [] _ => okT G sc fnB c t && okSs G sc fnB body b
    | _ => false
  | .brk, s => match s with
    | .Break _ => true
    | _ => false
  | .pss, s => match s with
    | .Pass _ => true
    | _ => false
  | .nev, _ => true
def okSs (G : Chk) (sc : Scope) (fnB : Str → Bool) : Ss → List Stmt → Bool
  | .nil, xs => match xs with
    | [] => true
    | _ => false
  | .cons s ss, xs => match xs with
    | x :: xs => okS G sc fnB s x && okSs G sc fnB ss xs
    | _ => false
end
section
variable {K : PySem.W.Frag} {H H0 H1 H2 H' : Hp} {av av' av1 av2 avs : Av} {ι ι' ι0 ι1 ι2 ιs : List Addr} {h h' h1 h2 hs : Hs} {σ σ1 : L2.St} {ρ ρ1 : Env'} {X : Cx}
variable {G : Chk} {F : CallF} {n : Nat} {sc : Scope} {fnB : Str → Bool}
abbrev Ev2 := Env' → Hs → Option (Out × Env' × Hs)
/-- the ends of a statement -/
def EndOk (K : PySem.W.Frag) (H0 : Hp) (ι : List Addr) (av : Av) (H : Hp) (D : Ends) (σ : L2.St) : Out → Prop
  | .nx => D.nx σ H
  | .bk => D.bk σ H
  | .rt v => ∀ u, RepR K H0 ι av H v u → D.rt u H
/-- what is wanted behind a statement -/
def rdS (K : PySem.W.Frag) (m : Ev2) : TS := fun D σ H => ∃ ρ h ι av o ρ1 h', SimH K h ι av H ∧ RepE K ρ ι av σ H ∧ m ρ h = some (o, ρ1, h') ∧
  ∀ ι' av' H' σ1, Pst K ι av H h ι' av' H' h' → RepE K ρ1 ι' av' σ1 H' → EndOk K H ι' av' H' D σ1 o
theorem swap_eq {t : Str} {p : Pos} {v : Expr} {l : Nat} (hk : X.env.scope.kind = .function) (hv : isComp v = false ∨ ∃ a b c d, v = .ListComp a b c d) : swapsWith v (some (.Name t p)) l X.env = pure (swB X.env.scope t p.line v) := by
  rcases hv with h | ⟨a, b, c, d, rfl⟩
  · rw [comp_no h]
    cases v <;> first | rfl | cases h
  · have hb : X.env.blockKind = .function := by unfold Env.blockKind; rw [hk]; rfl
    unfold swapsWith
    simp only [hb, Expr.pos, swB]
    have e : (ScopeKind.function == ScopeKind.function) = true := rfl
    rw [e, Bool.true_and]
    rfl
theorem s_asg {i : Nat} {e : E} {x : Str} {p pos : Pos} {v : Expr} (o : XOk G F n sc fnB X) (h1 : G.N[i]? = some x) (h2 : stB sc fnB x = true)
    (g : PS X (.Assign [.Name x p] v pos) (tAsg (rdE X.K (evE F e)) (gName i))) : PS X (.Assign [.Name x p] v pos) (rdS X.K (evS F (.asg i e))) := by
  refine PSimp g ?_
  rintro D σ H ⟨ρ, h, ι, av, oo, ρ1, h', sim, re, e, k⟩
  simp only [evS] at e
  split at e
  · cases e
  · rename_i w h1 e1
    simp only [Option.some.injEq, Prod.mk.injEq] at e
    obtain ⟨rfl, rfl, rfl⟩ := e
    refine ⟨ρ, h, ι, av, w, h1, sim, re, e1, fun ι1 av1 H1 u p1 r => ?_⟩
    obtain ⟨ι2, p2, rv, _⟩ := bind_ok p1 r
    exact k ι2 av1 H1 _ p2 ((p2.stp.repE sim.sub re).set rv)
/-- results stay when the heap grows by one of them -/
theorem bindAll_ok : ∀ {is : List Nat} {vs : List Val} {us : List V} {ρ ρ1 : Env'} {σ : L2.St} {ι : List Addr} {h h' : Hs}, bindAll is vs ρ h = some (ρ1, h') → Pst K ιs avs H0 hs ι av H h → RepRs K H0 ι av H vs us → RepE K ρ ι av σ H →
    vs.length = is.length ∧ ∃ ι', Pst K ιs avs H0 hs ι' av H h' ∧ RepE K ρ1 ι' av ((is.zip us).foldl (fun σ q => σ.set q.1 (some q.2)) σ) H
  | [], vs, us, ρ, ρ1, σ, ι, h, h', e, p, r, re => by
    cases vs with
    | nil =>
      simp only [bindAll, Option.some.injEq, Prod.mk.injEq] at e
      obtain ⟨rfl, rfl⟩ := e
      exact ⟨rfl, ι, p, re⟩
    | cons v vs => simp [bindAll] at e
  | i :: is, vs, us, ρ, ρ1, σ, ι, h, h', e, p, r, re => by
    cases vs with
    | nil => simp [bindAll] at e
    | cons v vs =>
      obtain ⟨u, us, rfl, r1, r2, r3⟩ := r
      simp only [bindAll] at e
      obtain ⟨ι2, p2, rv, κ, ek⟩ := bind_ok p r1
      have old : ∀ {m : Nat} {a : Addr}, ι[m]? = some a → ι2[m]? = some a := fun {m a} z => by
        rw [ek, List.getElem?_append_left (List.getElem?_eq_some_iff.mp z).1]; exact z
      have re2 : RepE K ρ ι2 av σ H := ⟨re.1, fun j w ew => by
        obtain ⟨u', q1, q2⟩ := re.2 j w ew
        refine ⟨u', q1, ?_⟩
        cases w with
        | p d => exact q2
        | loc m => obtain ⟨a, z1, z2⟩ := q2; exact ⟨a, old z1, z2⟩
        | new xs => exact q2⟩
      have rest : ∀ {vs : List Val} {us : List V}, RepRs K H0 ι av H vs us → (v.isNew = true → u ∉ newsOf vs us) → RepRs K H0 ι2 av H vs us := by
        intro vs
        induction vs with
        | nil => intro us r _; exact r
        | cons w vs ih =>
          intro us r nn
          obtain ⟨z, us, rfl, s1, s2, s3⟩ := r
          refine ⟨z, us, rfl, ?_, ih s2 fun q m => nn q ?_, s3⟩
          · cases w with
            | p d => exact s1
            | loc m => obtain ⟨a, z1, z2⟩ := s1; exact ⟨a, old z1, z2⟩
            | new xs =>
              obtain ⟨a, ws, rfl, t0, t1, t2, t3, t4⟩ := s1
              refine ⟨a, ws, rfl, t0, t1, t2, fun m => ?_, t4⟩
              cases v with
              | new ys =>
                obtain ⟨b, ws', rfl, b0, b1, b2, b3, b4⟩ := r1
                obtain ⟨b', c1, c2⟩ := rv
                cases c2
                rw [show ι2 = ι ++ κ from ek] at m
                -- the only new place is b
                have hb : ι2 = ι ++ [b] := by
                  have l1 := p2.sim.len
                  have l0 := p.sim.len
                  have lk : κ.length = 1 := by
                    have : (bind (Val.new ys) h).2.length = h.length + 1 := by simp [bind]
                    rw [this, ek, List.length_append, l0] at l1
                    omega
                  match κ, lk, ek with
                  | [c], _, ek =>
                    have : ι2[h.length]? = some b := c1
                    rw [ek, ← l0] at this
                    simp at this
                    rw [ek, this]
                rw [← ek, hb] at m
                rcases List.mem_append.mp m with m | m
                · exact t3 m
                · rw [List.mem_singleton.mp m] at nn
                  exact nn rfl (by simp [newsOf])
              | p d =>
                have l1 := p2.sim.len
                have l0 := p.sim.len
                have : κ = [] := List.eq_nil_of_length_eq_zero (by
                  have z : (bind (Val.p d) h).2.length = h.length := rfl
                  rw [z, ek, List.length_append, l0] at l1
                  omega)
                subst this
                rw [ek, List.append_nil] at m
                exact t3 m
              | loc j =>
                have l1 := p2.sim.len
                have l0 := p.sim.len
                have : κ = [] := List.eq_nil_of_length_eq_zero (by
                  have z : (bind (Val.loc j) h).2.length = h.length := rfl
                  rw [z, ek, List.length_append, l0] at l1
                  omega)
                subst this
                rw [ek, List.append_nil] at m
                exact t3 m
          · cases w <;> simp [newsOf, m]
      obtain ⟨g1, g2⟩ := bindAll_ok e p2 (rest r2 r3) (re2.set rv)
      exact ⟨by simp [g1], g2⟩
end
end MP

/-! ## EngU.lean -/
set_option Elab.async false
set_option linter.all false
set_option maxRecDepth 100000
namespace MP
open PySem PySem.Spec PyProof.Rows L2
section
variable {K : PySem.W.Frag} {H H0 H1 H2 H' : Hp} {av av' av1 av2 avs : Av} {ι ι' ι0 ι1 ι2 ιs : List Addr} {h h' h1 h2 hs : Hs} {σ σ1 : L2.St} {ρ ρ1 : Env'} {X : Cx}
variable {G : Chk} {F : CallF} {n : Nat} {sc : Scope} {fnB : Str → Bool}
theorem tup_no {es : List Expr} {k : Nat} {p : Pos} {v : Expr} (hv : isTup v = false) : swappedStores [.Tuple es k p] v X.env = pure none := by
  cases v <;> first | rfl | cases hv
theorem sole_no {t v : Expr} {l : Nat} (hv : isComp v = false) : swapsWithSole [t] v l X.env = pure false := comp_no hv _ _ _
theorem s_tup {is : List Nat} {e : E} {es : List Expr} {k : Nat} {p pos : Pos} {v : Expr} (o : XOk G F n sc fnB X) (hv : isTup v = false) (hc : isComp v = false) (h1 : okTg.go G sc fnB is es = true) (ge : PE X v (rdE X.K (evE F e))) :
    PS X (.Assign [.Tuple es k p] v pos) (rdS X.K (evS F (.tup is e))) := by
  refine PSimp (ps_asg ge (tg_ok (t := .tp is) o h1) (sole_no hc) (tup_no hv) rfl) ?_
  rintro D σ H ⟨ρ, h, ι, av, oo, ρ1, h', sim, re, e, k⟩
  simp only [evS] at e
  split at e
  · rename_i ds h1 e1
    split at e
    · cases e
    · rename_i ρ2 e2
      simp only [Option.some.injEq, Prod.mk.injEq] at e
      obtain ⟨rfl, rfl, rfl⟩ := e
      refine ⟨ρ, h, ι, av, _, h1, sim, re, e1, fun ι1 av1 H1 u p1 r => ?_⟩
      exact tg_reads (t := .tp is) (v := .p (.tup ds)) (by simp only [setTg, e2]) (p1.stp.repE sim.sub re) r fun σ1 l1 re1 _ => k ι1 av1 H1 σ1 p1 re1
  · cases e
theorem gAll_fold : ∀ {is : List Nat} {us : List V} {σ : L2.St} {Q : L2.St → Hp → Prop}, us.length = is.length → Q ((is.zip us).foldl (fun σ q => σ.set q.1 (some q.2)) σ) H → gAll is us σ H Q
  | [], us, σ, Q, l, q => by
    cases us with
    | nil => exact ⟨rfl, q⟩
    | cons u us => simp at l
  | i :: is, us, σ, Q, l, q => by
    cases us with
    | nil => simp at l
    | cons u us => exact ⟨u, us, rfl, gAll_fold (by simpa using l) q⟩
theorem assign_len : ∀ (es : List Expr), (assignEach es X.env).length = es.length
  | [] => rfl
  | e :: es => by cases e <;> (show (assignEach es X.env).length + 1 = _; rw [assign_len es]; rfl)
theorem par_reads {is : List Nat} {xs : Es} {D : Ends} {T : L2.St → Hp → Prop} (q : rdS K (evS F (.par is xs)) D σ H)
    (f : ∀ ρ h us h', evEs F xs ρ h = some (us, h') → us.length ≤ 1000) :
    rdA K (evEs F xs) σ H fun us H1 => us.length ≤ sizeLine ∧ us.length = is.length ∧ D.nx ((is.zip us).foldl (fun σ q => σ.set q.1 (some q.2)) σ) H1 ∧
      ∀ p, H1 p = none → D.nx ((is.zip us).foldl (fun σ q => σ.set q.1 (some q.2)) σ) (upd H1 p (.tup us)) := by
  obtain ⟨ρ, h, ι, av, oo, ρ1, h', sim, re, e, k⟩ := q
  simp only [evS] at e
  split at e
  · cases e
  · rename_i ws h1 e1
    split at e
    · cases e
    · rename_i ρ2 h2 e2
      simp only [Option.some.injEq, Prod.mk.injEq] at e
      obtain ⟨rfl, rfl, rfl⟩ := e
      refine ⟨ρ, h, ι, av, ws, h1, sim, re, e1, fun ι1 av1 H1 us p1 r => ?_⟩
      have l2 := r.length
      have lz := f _ _ _ _ e1
      have hz : (1000 : Nat) ≤ sizeLine := by rw [sizeLine_eq]; decide
      obtain ⟨l1, ι2, p2, re2⟩ := bindAll_ok e2 p1 r (p1.stp.repE sim.sub re)
      refine ⟨by omega, by omega, k ι2 av1 H1 _ p2 re2, fun q hq => ?_⟩
      have pu : Pst K ι1 av1 H1 h1 ι1 av1 (upd H1 q (.tup us)) h1 := .upd_new p1.sim hq
      obtain ⟨_, ι3, p3, re3⟩ := bindAll_ok e2 (p1.trans pu) (pu.stp.repRs p1.sim.sub r) ((p1.trans pu).stp.repE sim.sub re)
      exact k ι3 av1 _ _ p3 re3
/-- unpacked from the plain tuple -/
theorem par_plain {is : List Nat} {xs : Es} {es vs : List Expr} {k k2 : Nat} {p p2 pos : Pos} (o : XOk G F n sc fnB X) (h1 : okTg.go G sc fnB is es = true) (hw : swappedStores [.Tuple es k p] (.Tuple vs k2 p2) X.env = pure none)
    (h5 : okEs G sc fnB xs vs = true) (h4 : (vs.all fun e => !isStar e) = true) (hz : vs.length ≤ 1000) (gs : PA X vs (rdA X.K (evEs F xs))) : PS X (.Assign [.Tuple es k p] (.Tuple vs k2 p2) pos) (rdS X.K (evS F (.par is xs))) := by
  refine PSimp (ps_asg (pe_tup gs) (tg_ok (t := .tp is) o h1) (sole_no rfl) hw rfl) fun D σ H q => ?_
  have r := par_reads (T := fun _ _ => True) q fun ρ h us h' e => by rw [es_len h5 h4 _ _ _ _ e]; exact hz
  obtain ⟨ρ, h, ι, av, ws, h', sim, re, e, kk⟩ := r
  refine ⟨ρ, h, ι, av, ws, h', sim, re, e, fun ι1 av1 H1 us p1 rr => ?_⟩
  obtain ⟨a1, a2, a3, a4⟩ := kk ι1 av1 H1 us p1 rr
  exact ⟨a1, fun q hq => ⟨q, us, rfl, .of upd_same, a2, gAll_fold a2 (a4 q hq)⟩⟩
theorem any_eq (vs : List Expr) (f g : Expr → Bool) (h : ∀ e, f e = g e) : vs.any f = vs.any g := by rw [funext h]
theorem fm_eq (vs : List Expr) (f g : Expr → Option Str) (h : ∀ e, f e = g e) : vs.filterMap f = vs.filterMap g := by rw [funext h]
theorem swap_par {es vs : List Expr} {k k2 : Nat} {p p2 : Pos} {r : Option (List Str)} (hk : X.env.scope.kind = .function) (h : parB X.env.scope es vs = some r) : swappedStores [.Tuple es k p] (.Tuple vs k2 p2) X.env = pure r := by
  have hb : X.env.blockKind = .function := by unfold Env.blockKind; rw [hk]; rfl
  have hn : (ScopeKind.function != ScopeKind.function) = false := rfl
  unfold swappedStores
  simp only [hb, hn, Bool.or_false]
  rw [any_eq vs _ isStar, fm_eq es _ (nmOf X.env.scope ((es.head?.map (·.pos.line)).getD 0))]
  rotate_left
  · intro e; cases e <;> rfl
  · intro e; cases e <;> rfl
  unfold parB at h
  generalize ((es.head?.map (·.pos.line)).getD 0) = l at h ⊢
  generalize es.filterMap (nmOf X.env.scope l) = names at h ⊢
  by_cases c1 : (!(es.length == 2 || es.length == 3) || vs.length != es.length) = true
  · rw [if_pos c1] at h ⊢
    cases h; rfl
  · rw [if_neg c1] at h ⊢
    by_cases c2 : vs.any isStar = true
    · rw [if_pos c2] at h ⊢
      cases h; rfl
    · rw [if_neg c2] at h ⊢
      by_cases c3 : (names.length != es.length || names.eraseDups.length != names.length) = true
      · rw [if_pos c3] at h ⊢
        cases h; rfl
      · rw [if_neg c3] at h ⊢
        by_cases c4 : vs.all (foldedForSure 8) = true
        · rw [if_pos c4] at h ⊢
          cases h; rfl
        · rw [if_neg c4] at h ⊢
          by_cases c5 : vs.all (constantsAlone 8) = true
          · rw [if_pos c5] at h
            cases h
          · rw [if_neg c5] at h ⊢
            cases h; rfl
end
end MP

/-! ## EngV.lean -/
set_option Elab.async false
set_option linter.all false
set_option maxRecDepth 100000
namespace MP
open PySem PySem.Spec PyProof.Rows L2
section
variable {K : PySem.W.Frag} {H H0 H1 H2 H' : Hp} {av av' av1 av2 avs : Av} {ι ι' ι0 ι1 ι2 ιs : List Addr} {h h' h1 h2 hs : Hs} {σ σ1 : L2.St} {ρ ρ1 : Env'} {X : Cx}
variable {G : Chk} {F : CallF} {n : Nat} {sc : Scope} {fnB : Str → Bool}
/-- a list of the heap is written -/
theorem Pst.write {m : Nat} {a : Addr} {o o' : O} {ws : List V} (p : Pst K ιs avs H0 hs ι av H h) (e : h[m]? = some o) (ul : o.locked = false) (ea : ι[m]? = some a) (r : match o' with
      | .lst _ xs => RepDs K H av xs ws
      | .ref _ ns => Paired (fun n v => ∃ b, ι[n]? = some b ∧ v = V.ref b) ns ws) : Pst K ιs avs H0 hs ι av (upd H a (.lst ws)) (h.set m o') := by
  have hm : m < h.length := (List.getElem?_eq_some_iff.mp e).1
  have ma : a ∈ ι := List.mem_of_getElem? ea
  have aa := p.sim.sub a ma
  have tmp : ∀ {b : Addr} {u : HO}, H b = some u → ¬ av b → upd H a (.lst ws) b = some u ∧ ¬ av b := fun {b u} q nb => ⟨by rw [upd_ne (show b ≠ a from fun z => nb (by rw [z]; exact aa))]; exact q, nb⟩
  refine ⟨⟨p.stp.ext, fun b u q nb => ?_, fun b q => ?_, p.stp.avs, p.stp.avm⟩, ⟨by rw [List.length_set]; exact p.sim.len, p.sim.nd, p.sim.sub, fun b q => ?_, fun j u q => ?_⟩, fun j u q l => ?_⟩
  · have hb : b ≠ a := by
      intro z
      subst z
      obtain ⟨κ, ek, fk⟩ := p.stp.ext
      rw [ek] at ma
      rcases List.mem_append.mp ma with z | z
      · exact nb z
      · rw [fk b z] at q; cases q
    rw [upd_ne hb]
    exact p.stp.keep b u q nb
  · by_cases z : b = a
    · subst z; rw [upd_same]; simp
    · rw [upd_ne z]; exact p.stp.alive b q
  · by_cases z : b = a
    · subst z; rw [upd_same]; simp
    · rw [upd_ne z]; exact p.sim.live b q
  · by_cases hj : m = j
    · subst hj
      rw [List.getElem?_set_self hm] at q
      cases q
      refine ⟨a, ws, ea, upd_same, ?_⟩
      cases o' with
      | lst k xs => exact RepDs.mono (fun b u q nb => tmp q nb) _ _ r
      | ref k ns => exact r
    · rw [List.getElem?_set_ne hj] at q
      obtain ⟨b, vs, k1, k2, k3⟩ := p.sim.ob j u q
      have hb : b ≠ a := by
        intro z
        subst z
        obtain ⟨l1, e1⟩ := List.getElem?_eq_some_iff.mp ea
        obtain ⟨l2, e2⟩ := List.getElem?_eq_some_iff.mp k1
        exact hj ((List.getElem_inj p.sim.nd).mp (e1.trans e2.symm))
      refine ⟨b, vs, k1, by rw [upd_ne hb]; exact k2, ?_⟩
      cases u with
      | lst k xs => exact RepDs.mono (fun b u q nb => tmp q nb) _ _ k3
      | ref k ns => exact k3
  · have := p.lk j u q l
    by_cases hj : m = j
    · subst hj
      rw [e] at this
      cases this
      rw [ul] at l
      cases l
    · rw [List.getElem?_set_ne hj]
      exact this
theorem Pst.reE (p : Pst K ιs avs H0 hs ι av H h) (sub : ∀ a ∈ ιs, avs a) (re : RepE K ρ ιs avs σ H0) : RepE K ρ ι av σ H := p.stp.repE sub re
theorem s_set {o i e : E} {x y v : Expr} {sp pos : Pos} (hy : isSlice y = false) (hv : isComp v = false) (ge : PE X v (rdE X.K (evE F e))) (go : PE X x (rdE X.K (evE F o))) (gi : PE X y (rdE X.K (evE F i))) :
    PS X (.Assign [.Subscript x y sp] v pos) (rdS X.K (evS F (.set o i e))) := by
  refine PSimp (ps_asg ge (pg_sub go gi set_list ?_) (sole_no hv) ?_ rfl) ?_
  · cases y <;> first | (intro _; rfl) | cases hy
  · rfl
  · rintro D σ H ⟨ρ, h, ι, av, oo, ρ1, h', sim, re, e, k⟩
    simp only [evS] at e
    split at e
    · cases e
    · rename_i w h1 e1
      split at e
      · cases e
      · rename_i d ed
        split at e
        · rename_i m h2 e2
          split at e
          · rename_i j h3 e3
            split at e
            · cases e
            · rename_i h4 e4
              simp only [Option.some.injEq, Prod.mk.injEq] at e
              obtain ⟨rfl, rfl, rfl⟩ := e
              refine ⟨ρ, h, ι, av, w, h1, sim, re, e1, fun ι1 av1 H1 u p1 r1 => ?_⟩
              obtain ⟨av1', _, p1', rd⟩ := frzD_ok p1 sim.live r1 ed
              refine ⟨ρ, h1, ι1, av1', _, h2, p1'.sim, p1'.reE sim.sub re, e2, fun ι2 av2 H2 u2 p2 r2 => ?_⟩
              have p12 := p1'.trans p2
              refine ⟨ρ, h2, ι2, av2, _, h3, p2.sim, p12.reE sim.sub re, e3, fun ι3 av3 H3 u3 p3 r3 => ?_⟩
              have p13 := p12.trans p3
              obtain ⟨a, ea, rfl⟩ := (p3.stp.repR p2.sim.sub r2)
              have rd3 := p3.stp.repD p2.sim.sub (p2.stp.repD p1'.sim.sub rd)
              unfold setV at e4
              split at e4
              · rename_i xs ex
                split at e4
                · rename_i jj ej
                  simp only [Option.some.injEq] at e4
                  subst e4
                  obtain ⟨b, vs, k1, k2, k3⟩ := p3.sim.ob m _ ex
                  rw [ea] at k1; cases k1
                  refine ⟨a, vs, j, jj, rfl, r3.intE, k2, by rw [RepDs.length k3]; exact ej, ?_⟩
                  have pw := p13.write (o' := .lst false (xs.set jj d)) (ws := vs.set jj u) ex rfl ea (RepDs.set jj k3 rd3)
                  exact k ι3 av3 _ σ pw (pw.reE sim.sub re)
                · cases e4
              · cases e4
          · cases e
        · cases e
theorem s_tsn {o i e : E} {j : Nat} {x y v : Expr} {z : Str} {sp zp p pos : Pos} {kk : Nat} (ok : XOk G F n sc fnB X) (h1 : isTup v = false) (hv : isComp v = false) (hy : isSlice y = false) (hj : G.N[j]? = some z) (hz : stB sc fnB z = true)
    (ge : PE X v (rdE X.K (evE F e))) (go : PE X x (rdE X.K (evE F o))) (gi : PE X y (rdE X.K (evE F i))) : PS X (.Assign [.Tuple [.Subscript x y sp, .Name z zp] kk p] v pos) (rdS X.K (evS F (.tsn o i j e))) := by
  obtain ⟨s1, s2⟩ := stB_ok ok hz
  have hs : PG X (.Subscript x y sp) (gSub (rdE X.K (evE F o)) (rdE X.K (evE F i)) _) := pg_sub go gi set_list (by cases y <;> first | (intro _; rfl) | cases hy)
  have hn : PG X (.Name z zp) (gName j) := pg_name (by rw [ok.nN]; exact ok.nd) (by rw [ok.nN]; exact hj) s1 s2
  refine PSimp (ps_asg ge (pg_tup (n := 2) ok.calm (pgs_cons hs (pgs_cons hn pgs_nil rfl) rfl) rfl rfl) (sole_no hv) (tup_no h1) rfl) ?_
  rintro D σ H ⟨ρ, h, ι, av, oo, ρ1, h', sim, re, e, k⟩
  simp only [evS] at e
  split at e
  · rename_i d d2 h1 e1
    split at e
    · rename_i m h2 e2
      split at e
      · rename_i q h3 e3
        split at e
        · cases e
        · rename_i h4 e4
          simp only [Option.some.injEq, Prod.mk.injEq] at e
          obtain ⟨rfl, rfl, rfl⟩ := e
          refine ⟨ρ, h, ι, av, _, h1, sim, re, e1, fun ι1 av1 H1 u p1 r1 => ?_⟩
          obtain ⟨a, vs, rfl, q1, q2, q3⟩ := r1
          obtain ⟨v1, vs, rfl, r1, q3⟩ := q3
          obtain ⟨v2, vs, rfl, r2, q3⟩ := q3
          cases q3
          refine ⟨a, [v1, v2], rfl, .of q1, rfl, v1, [v2], rfl, ?_⟩
          refine ⟨ρ, h1, ι1, av1, _, h2, p1.sim, p1.reE sim.sub re, e2, fun ι2 av2 H2 u2 p2 r2' => ?_⟩
          have p12 := p1.trans p2
          refine ⟨ρ, h2, ι2, av2, _, h3, p2.sim, p12.reE sim.sub re, e3, fun ι3 av3 H3 u3 p3 r3 => ?_⟩
          have p13 := p12.trans p3
          obtain ⟨b, eb, rfl⟩ := p3.stp.repR p2.sim.sub r2'
          have rd1 := p3.stp.repD p2.sim.sub (p2.stp.repD p1.sim.sub r1)
          have rd2 := p3.stp.repD p2.sim.sub (p2.stp.repD p1.sim.sub r2)
          unfold setV at e4
          split at e4
          · rename_i xs ex
            split at e4
            · rename_i jj ej
              simp only [Option.some.injEq] at e4
              subst e4
              obtain ⟨c, vs, k1, k2, k3⟩ := p3.sim.ob m _ ex
              rw [eb] at k1; cases k1
              refine ⟨b, vs, q, jj, rfl, r3.intE, k2, by rw [RepDs.length k3]; exact ej, ?_⟩
              have pw := p13.write (o' := .lst false (xs.set jj d)) (ws := vs.set jj v1) ex rfl eb (RepDs.set jj k3 rd1)
              have rd2' : RepD X.K (upd H3 b (.lst (vs.set jj v1))) av3 d2 v2 := RepD.temp rd2 (p3.sim.sub b (List.mem_of_getElem? eb))
              refine ⟨v2, [], rfl, rfl, ?_⟩
              exact k ι3 av3 _ _ pw ((pw.reE sim.sub re).set rd2')
            · cases e4
          · cases e4
      · cases e
    · cases e
  · cases e
theorem base_no {o : Expr} {a : Str} {env : Env} (h : plainO o = true) (w : Sem Value) : attributeBase o a env w = w := by
  cases o <;> first | rfl | cases h
theorem s_app {o e : E} {x y : Expr} {ap cp pos : Pos} (hx : plainO x = true) (hs : isStar y = false) (hl : (ap.endLine == cp.line) = true) (go : PE X x (rdE X.K (evE F o))) (ge : PE X y (rdE X.K (evE F e))) :
    PS X (.Expr (.Call (.Attribute x "append" ap) [y] [] cp) pos) (rdS X.K (evS F (.app o e))) := by
  have g := pe_bm (X := X) (o := x) (e := y) (es := []) (apos := ap) (cpos := cp) PySem.F.plainAttrs_list PySem.F.slot_list_append PySem.F.type_list_append mt_append go (pa_cons ge pa_nil (star_no hs _ _)) (base_no hx _)
    (by rw [star_no hs]; rfl) hl (star_no hs _ _) rfl
  refine PSimp (ps_expr g rfl) ?_
  rintro D σ H ⟨ρ, h, ι, av, oo, ρ1, h', sim, re, e, k⟩
  simp only [evS] at e
  split at e
  · rename_i m h1 e1
    split at e
    · cases e
    · rename_i w h2 e2
      split at e
      · cases e
      · rename_i h3 e3
        simp only [Option.some.injEq, Prod.mk.injEq] at e
        obtain ⟨rfl, rfl, rfl⟩ := e
        refine ⟨ρ, h, ι, av, _, h1, sim, re, e1, fun ι1 av1 H1 u1 p1 r1 => ?_⟩
        obtain ⟨a, ea, rfl⟩ := id r1
        have sq : ∃ xs, SqL X.K H1 a xs := by
          have hm : m < h1.length := by rw [← p1.sim.len]; exact (List.getElem?_eq_some_iff.mp ea).1
          obtain ⟨b, vs, k1, k2, k3⟩ := p1.sim.ob m _ (List.getElem?_eq_getElem hm)
          rw [ea] at k1; cases k1
          exact ⟨vs, .of k2⟩
        refine ⟨.inl ⟨rfl, sq⟩, ρ, h1, ι1, av1, w, h2, p1.sim, p1.reE sim.sub re, e2, fun ι2 av2 H2 u2 p2 r2 => ?_⟩
        have ea2 := p2.stp.ix ea
        have p12 := p1.trans p2
        have dat : ∀ {d}, frzD w = some d → (∃ xs, h2[m]? = some (.lst false xs) ∧ xs.length < sizeLine ∧ h3 = h2.set m (.lst false (xs ++ [d]))) → ∃ l xs y, V.ref a = .ref l ∧ [u2] = [y] ∧ H2 l = some (.lst xs) ∧ xs.length < sizeLine ∧ D.nx σ (upd H2 l (.lst (xs ++ [y]))) := by
          rintro d ed ⟨xs, ex, hz, rfl⟩
          obtain ⟨b, vs, k1, k2, k3⟩ := p2.sim.ob m _ ex
          rw [ea2] at k1; cases k1
          obtain ⟨av2', less, p2', rd⟩ := frzD_ok (p12) sim.live (r2.back p1.stp) ed
          refine ⟨a, vs, u2, rfl, rfl, k2, by rw [RepDs.length k3]; exact hz, ?_⟩
          have pw := p2'.write (o' := .lst false (xs ++ [d])) (ws := vs ++ [u2]) ex rfl ea2 (RepDs.append (RepDs.lessAv less k3) ⟨u2, [], rfl, rd, rfl⟩)
          exact k ι2 av2' _ σ pw (pw.reE sim.sub re)
        unfold appV at e3
        split at e3
        · rename_i j
          obtain ⟨b, eb, rfl⟩ := r2
          split at e3
          · rename_i ex
            simp only [Option.some.injEq] at e3
            subst e3
            obtain ⟨b', vs, k1, k2, k3⟩ := p2.sim.ob m _ ex
            rw [ea2] at k1; cases k1
            cases k3
            refine ⟨a, [], .ref b, rfl, rfl, k2, by show 0 < sizeLine; rw [sizeLine_eq]; decide, ?_⟩
            have pw := p12.write (o' := .ref false [j]) (ws := [] ++ [V.ref b]) ex rfl ea2 (.cons ⟨b, eb, rfl⟩ .nil)
            exact k ι2 av2 _ σ pw (pw.reE sim.sub re)
          · rename_i ns ex
            split at e3
            · rename_i hm
              simp only [Option.some.injEq] at e3
              subst e3
              obtain ⟨b', vs, k1, k2, k3⟩ := p2.sim.ob m _ ex
              rw [ea2] at k1; cases k1
              refine ⟨a, vs, .ref b, rfl, rfl, k2, by rw [← paired_len k3]; exact blt_line hm, ?_⟩
              have app : ∀ {ns : List Nat} {vs : List V}, Paired (fun n v => ∃ b, ι2[n]? = some b ∧ v = V.ref b) ns vs → Paired (fun n v => ∃ b, ι2[n]? = some b ∧ v = V.ref b) (ns ++ [j]) (vs ++ [V.ref b]) := by
                intro ns vs q
                induction q with
                | nil => exact .cons ⟨b, eb, rfl⟩ .nil
                | cons r _ ih => exact .cons r ih
              have pw := p12.write (o' := .ref false (ns ++ [j])) (ws := vs ++ [V.ref b]) ex rfl ea2 (app k3)
              exact k ι2 av2 _ σ pw (pw.reE sim.sub re)
            · cases e3
          · cases e3
        · split at e3
          · cases e3
          · rename_i d ed
            split at e3
            · rename_i xs ex
              split at e3
              · rename_i hm
                simp only [Option.some.injEq] at e3
                exact dat ed ⟨xs, ex, blt_line hm, e3.symm⟩
              · cases e3
            · cases e3
  · cases e
theorem s_ex {e : E} {x : Expr} {pos : Pos} (hx : isComp x = false) (ge : PE X x (rdE X.K (evE F e))) : PS X (.Expr x pos) (rdS X.K (evS F (.ex e))) := by
  refine PSimp (ps_expr ge (comp_no hx _ _ _)) ?_
  rintro D σ H ⟨ρ, h, ι, av, oo, ρ1, h', sim, re, e, k⟩
  simp only [evS] at e
  split at e
  · cases e
  · rename_i w h1 e1
    simp only [Option.some.injEq, Prod.mk.injEq] at e
    obtain ⟨rfl, rfl, rfl⟩ := e
    exact ⟨ρ, h, ι, av, w, h1, sim, re, e1, fun ι1 av1 H1 u p1 r => k ι1 av1 H1 σ p1 (p1.reE sim.sub re)⟩
theorem s_ret {e : E} {x : Expr} {pos : Pos} (ge : PE X x (rdE X.K (evE F e))) : PS X (.Return (some x) pos) (rdS X.K (evS F (.ret e))) := by
  refine PSimp (ps_ret ge) ?_
  rintro D σ H ⟨ρ, h, ι, av, oo, ρ1, h', sim, re, e, k⟩
  simp only [evS] at e
  split at e
  · cases e
  · rename_i w h1 e1
    simp only [Option.some.injEq, Prod.mk.injEq] at e
    obtain ⟨rfl, rfl, rfl⟩ := e
    exact ⟨ρ, h, ι, av, w, h1, sim, re, e1, fun ι1 av1 H1 u p1 r => k ι1 av1 H1 σ p1 (p1.reE sim.sub re) u r⟩
theorem s_retN {pos : Pos} : PS X (.Return none pos) (rdS X.K (evS F .retN)) := by
  refine PSimp ps_retN ?_
  rintro D σ H ⟨ρ, h, ι, av, oo, ρ1, h', sim, re, e, k⟩
  simp only [evS, Option.some.injEq, Prod.mk.injEq] at e
  obtain ⟨rfl, rfl, rfl⟩ := e
  exact k ι av H σ (.refl sim) re .non rfl
theorem s_brk {pos : Pos} : PS X (.Break pos) (rdS X.K (evS F .brk)) := by
  refine PSimp ps_break ?_
  rintro D σ H ⟨ρ, h, ι, av, oo, ρ1, h', sim, re, e, k⟩
  simp only [evS, Option.some.injEq, Prod.mk.injEq] at e
  obtain ⟨rfl, rfl, rfl⟩ := e
  exact k ι av H σ (.refl sim) re
theorem s_pss {pos : Pos} : PS X (.Pass pos) (rdS X.K (evS F .pss)) := by
  refine PSimp ps_pass ?_
  rintro D σ H ⟨ρ, h, ι, av, oo, ρ1, h', sim, re, e, k⟩
  simp only [evS, Option.some.injEq, Prod.mk.injEq] at e
  obtain ⟨rfl, rfl, rfl⟩ := e
  exact k ι av H σ (.refl sim) re
theorem s_nev {st : Stmt} : PS X st (rdS X.K (evS F .nev)) := by
  refine PSimp ps_never ?_
  rintro D σ H ⟨ρ, h, ι, av, oo, ρ1, h', sim, re, e, k⟩
  cases e
theorem ss_nil : PSs X [] (rdS X.K (evSs F .nil)) := by
  refine PSsimp pss_nil ?_
  rintro D σ H ⟨ρ, h, ι, av, oo, ρ1, h', sim, re, e, k⟩
  simp only [evSs, Option.some.injEq, Prod.mk.injEq] at e
  obtain ⟨rfl, rfl, rfl⟩ := e
  exact k ι av H σ (.refl sim) re
/-- the ends seen from an earlier heap -/
theorem ends_back {o : Out} {D : Ends} {σ : L2.St} (b : Stp ι av H ι1 av1 H1) (q : EndOk K H ι' av' H' D σ o) : EndOk K H1 ι' av' H' D σ o := by
  cases o with
  | nx => exact q
  | bk => exact q
  | rt v => exact fun u r => q u (r.back b)
theorem ss_cons {s : S} {ss : Ss} {x : Stmt} {xs : List Stmt} (g : PS X x (rdS X.K (evS F s))) (gs : PSs X xs (rdS X.K (evSs F ss))) : PSs X (x :: xs) (rdS X.K (evSs F (.cons s ss))) := by
  refine PSsimp (pss_cons g gs) ?_
  rintro D σ H ⟨ρ, h, ι, av, oo, ρ1, h', sim, re, e, k⟩
  simp only [evSs] at e
  split at e
  · cases e
  · rename_i ρ2 h1 e1
    refine ⟨ρ, h, ι, av, .nx, ρ2, h1, sim, re, e1, fun ι1 av1 H1 σ1 p1 re1 => ?_⟩
    exact ⟨ρ2, h1, ι1, av1, oo, ρ1, h', p1.sim, re1, e, fun ι2 av2 H2 σ2 p2 re2 => ends_back p1.stp (k ι2 av2 H2 σ2 (p1.trans p2) re2)⟩
  · rename_i r nn e1
    simp only [Option.some.injEq] at e
    subst e
    refine ⟨ρ, h, ι, av, oo, ρ1, h', sim, re, e1, fun ι1 av1 H1 σ1 p1 re1 => ?_⟩
    have q := k ι1 av1 H1 σ1 p1 re1
    cases oo with
    | nx => exact absurd rfl (nn ρ1 h')
    | bk => exact q
    | rt v => exact q
theorem s_ife {c : T} {a b : Ss} {t : Expr} {xs ys : List Stmt} {pos : Pos} (gc : PT X t (rdT X.K (evT F c))) (ga : PSs X xs (rdS X.K (evSs F a))) (gb : PSs X ys (rdS X.K (evSs F b))) : PS X (.If t xs ys pos) (rdS X.K (evS F (.ife c a b))) := by
  refine PSimp (ps_if gc ga gb) ?_
  rintro D σ H ⟨ρ, h, ι, av, oo, ρ1, h', sim, re, e, k⟩
  simp only [evS] at e
  split at e
  · cases e
  · rename_i h1 e1
    refine ⟨ρ, h, ι, av, true, h1, sim, re, e1, fun ι1 av1 H1 p1 => iteT ?_⟩
    exact ⟨ρ, h1, ι1, av1, oo, ρ1, h', p1.sim, p1.reE sim.sub re, e, fun ι2 av2 H2 σ2 p2 re2 => ends_back p1.stp (k ι2 av2 H2 σ2 (p1.trans p2) re2)⟩
  · rename_i h1 e1
    refine ⟨ρ, h, ι, av, false, h1, sim, re, e1, fun ι1 av1 H1 p1 => iteF ?_⟩
    exact ⟨ρ, h1, ι1, av1, oo, ρ1, h', p1.sim, p1.reE sim.sub re, e, fun ι2 av2 H2 σ2 p2 re2 => ends_back p1.stp (k ι2 av2 H2 σ2 (p1.trans p2) re2)⟩
end
end MP

/-! ## EngW.lean -/
set_option Elab.async false
set_option linter.all false
set_option maxRecDepth 100000
namespace MP
open PySem PySem.Spec PyProof.Rows L2
section
variable {K : PySem.W.Frag} {H H0 H1 H2 H' : Hp} {av av' av1 av2 avs : Av} {ι ι' ι0 ι1 ι2 ιs : List Addr} {h h' h1 h2 hs : Hs} {σ σ1 : L2.St} {ρ ρ1 : Env'} {X : Cx}
variable {G : Chk} {F : CallF} {n : Nat} {sc : Scope} {fnB : Str → Bool}
theorem drop_cons {α : Type} {xs : List α} {i : Nat} {v : α} (ev : xs[i]? = some v) : xs.drop i = v :: xs.drop (i + 1) := by
  obtain ⟨hl, ev'⟩ := List.getElem?_eq_some_iff.mp ev
  rw [← ev']
  exact List.drop_eq_getElem_cons hl
theorem EndOk.back {o : Out} {D : Ends} (b : Stp ι av H ι1 av1 H1) (q : EndOk K H ι' av' H' D σ o) : EndOk K H1 ι' av' H' D σ o := ends_back b q
theorem s_for {tg : Tg} {it : MP.It} {body : Ss} {t i : Expr} {b : List Stmt} {pos : Pos} (o : XOk G F n sc fnB X) (h1 : isSet i = false) (gi : PI X t i (rdI X.K (evI F it))) (h2 : okTg G sc fnB tg t = true) (gb : PSs X b (rdS X.K (evSs F body))) :
    PS X (.For t i b [] pos) (rdS X.K (evS F (.for_ tg it body))) := by
  refine PSimp (ps_for (by rw [o.xe]; exact PassesOwn.never) o.calm gi (tg_ok o h2) gb (set_no h1 _)) ?_
  rintro D σ H ⟨ρ, h, ι, av, oo, ρ1, h', sim, re, e, k⟩
  simp only [evS] at e
  split at e
  · cases e
  · rename_i wk h1 e1
    split at e
    · cases e
    · rename_i o2 ρ2 h2 e2
      simp only [Option.some.injEq, Prod.mk.injEq] at e
      obtain ⟨rfl, rfl, rfl⟩ := e
      refine ⟨ρ, h, ι, av, wk, h1, sim, re, e1, fun ι1 av1 H1 J h3 p3 p bk w => ?_⟩
      obtain ⟨Gp, Y, walk, cond⟩ := w
      refine for_it walk (fun i σc Hc => ∃ ρc ιc avc hc, Pst X.K ι1 av1 H1 h1 ιc avc Hc hc ∧ RepE X.K ρc ιc avc σc Hc ∧
        forGo (forF tg (evSs F body)) (wk.items.drop i) ρc hc = some (o2, ρ2, h2)) ?_ ?_ ?_ ?_
      · exact ⟨ρ, ι1, av1, h1, .refl p.sim, p.reE sim.sub re, by rw [List.drop_zero]; exact e2⟩
      · rintro i σc Hc _ ⟨ρc, ιc, avc, hc, pc, _⟩
        exact (cond ιc avc Hc hc pc.stp pc.sim pc.lk).1
      · rintro i x σc Hc H' hi ⟨ρc, ιc, avc, hc, pc, rec, eg⟩ y
        obtain ⟨v, ev, py, rv⟩ := (cond ιc avc Hc hc pc.stp pc.sim pc.lk).2 i x H' hi y
        rw [drop_cons ev] at eg
        simp only [forGo, forF] at eg
        have pcy := pc.trans py
        have re' := py.reE pc.sim.sub rec
        cases et : setTg tg v ρc with
        | none => rw [et] at eg; cases eg
        | some ρ3 =>
          rw [et] at eg
          simp only at eg
          refine tg_reads et re' rv fun σ1 l1 re1 a1 => ?_
          cases eb : evSs F body ρ3 hc with
          | none => rw [eb] at eg; cases eg
          | some r =>
            obtain ⟨o4, ρ4, h4⟩ := r
            rw [eb] at eg
            refine ⟨ρ3, hc, ιc, avc, o4, ρ4, h4, py.sim, re1, eb, fun ι4 av4 H4 σ4 p4 re4 => ?_⟩
            have p14 := pcy.trans p4
            cases o4 with
            | nx => exact ⟨ρ4, ι4, av4, h4, p14, re4, eg⟩
            | bk =>
              simp only [Option.some.injEq, Prod.mk.injEq] at eg
              obtain ⟨rfl, rfl, rfl⟩ := eg
              exact k ι4 av4 H4 σ4 (p.unlock p14 bk p3) re4
            | rt v' =>
              simp only [Option.some.injEq, Prod.mk.injEq] at eg
              obtain ⟨rfl, rfl, rfl⟩ := eg
              exact (k ι4 av4 H4 σ4 (p.unlock p14 bk p3) re4).back (D := { D with nx := _, ct := _, bk := _ }) (p.trans pcy).stp
      · rintro σc Hc ⟨ρc, ιc, avc, hc, pc, rec, eg⟩
        rw [List.drop_length] at eg
        simp only [forGo, Option.some.injEq, Prod.mk.injEq] at eg
        obtain ⟨rfl, rfl, rfl⟩ := eg
        exact k ιc avc Hc σc (p.unlock pc bk p3) rec
theorem s_whl {c : T} {body : Ss} {t : Expr} {b : List Stmt} {pos : Pos} (o : XOk G F n sc fnB X) (gc : PT X t (rdT X.K (evT F c))) (gb : PSs X b (rdS X.K (evSs F body))) :
    PS X (.While t b [] pos) (rdS X.K (evS F (.whl c body))) := by
  refine PSimp (ps_while (by rw [o.xe]; exact PassesOwn.never) gc gb) ?_
  rintro D σ H ⟨ρ, h, ι, av, oo, ρ1, h', sim, re, e, k⟩
  simp only [evS] at e
  refine ⟨fun m σc Hc => ∃ ρc ιc avc hc, Pst X.K ι av H h ιc avc Hc hc ∧ RepE X.K ρc ιc avc σc Hc ∧ whlGo (evT F c) (evSs F body) m ρc hc = some (oo, ρ1, h'), ⟨fuelW, ρ, ι, av, h, .refl sim, re, e⟩, ?_⟩
  rintro m σc Hc ⟨ρc, ιc, avc, hc, pc, rec, eg⟩
  cases m with
  | zero => simp [whlGo] at eg
  | succ m =>
    simp only [whlGo] at eg
    split at eg
    · cases eg
    · rename_i h1 e1
      simp only [Option.some.injEq, Prod.mk.injEq] at eg
      obtain ⟨rfl, rfl, rfl⟩ := eg
      exact ⟨ρc, hc, ιc, avc, false, h1, pc.sim, rec, e1, fun ι1 av1 H1 p1 => iteF (k ι1 av1 H1 σc (pc.trans p1) (p1.reE pc.sim.sub rec))⟩
    · rename_i h1 e1
      refine ⟨ρc, hc, ιc, avc, true, h1, pc.sim, rec, e1, fun ι1 av1 H1 p1 => iteT ?_⟩
      refine ⟨_, fun σ' H' w => ⟨m, Nat.lt_succ_self m, w⟩, ?_⟩
      cases eb : evSs F body ρc h1 with
      | none => rw [eb] at eg; cases eg
      | some r =>
        obtain ⟨o4, ρ4, h4⟩ := r
        rw [eb] at eg
        refine ⟨ρc, h1, ι1, av1, o4, ρ4, h4, p1.sim, p1.reE pc.sim.sub rec, eb, fun ι4 av4 H4 σ4 p4 re4 => ?_⟩
        have p14 := (pc.trans p1).trans p4
        cases o4 with
        | nx => exact ⟨ρ4, ι4, av4, h4, p14, re4, eg⟩
        | bk =>
          simp only [Option.some.injEq, Prod.mk.injEq] at eg
          obtain ⟨rfl, rfl, rfl⟩ := eg
          exact k ι4 av4 H4 σ4 p14 re4
        | rt v' =>
          simp only [Option.some.injEq, Prod.mk.injEq] at eg
          obtain ⟨rfl, rfl, rfl⟩ := eg
          exact (k ι4 av4 H4 σ4 p14 re4).back (D := { D with nx := _, ct := _, bk := _ }) (pc.trans p1).stp
/-! stored from the right -/
theorem nm_one {line : Nat} {x : Str} {p : Pos} : nmOf sc line (.Name x p) = if sc.names.lookup x == some .local && p.line == line then some x else none := rfl
theorem parB_names {es vs : List Expr} {ns : List Str} (h : parB sc es vs = some (some ns)) : (es.length = 2 ∨ es.length = 3) ∧ vs.length = es.length ∧ ∃ l, ns = es.filterMap (nmOf sc l) ∧ ns.length = es.length := by
  unfold parB at h
  generalize ((es.head?.map (·.pos.line)).getD 0) = l at h
  generalize en : es.filterMap (nmOf sc l) = names at h
  by_cases c1 : (!(es.length == 2 || es.length == 3) || vs.length != es.length) = true
  · rw [if_pos c1] at h; cases h
  · rw [if_neg c1] at h
    by_cases c2 : vs.any isStar = true
    · rw [if_pos c2] at h; cases h
    · rw [if_neg c2] at h
      by_cases c3 : (names.length != es.length || names.eraseDups.length != names.length) = true
      · rw [if_pos c3] at h; cases h
      · rw [if_neg c3] at h
        by_cases c4 : vs.all (foldedForSure 8) = true
        · rw [if_pos c4] at h; cases h
        · rw [if_neg c4] at h
          by_cases c5 : vs.all (constantsAlone 8) = true
          · rw [if_pos c5] at h; cases h
          · rw [if_neg c5] at h
            simp only [Option.some.injEq] at h
            subst h
            simp only [Bool.or_eq_true, Bool.not_eq_true', bne_iff_ne, ne_eq, not_or, Decidable.not_not, Bool.or_eq_false_iff] at c1 c3
            refine ⟨?_, c1.2, l, en.symm, c3.1⟩
            have := c1.1
            by_cases z : es.length = 2
            · exact .inl z
            · right
              by_cases z3 : es.length = 3
              · exact z3
              · exact absurd (show (es.length == 2) = false ∧ (es.length == 3) = false from ⟨by simpa using z, by simpa using z3⟩) this
theorem fm_all {f : Expr → Option Str} : ∀ {es : List Expr} {ns : List Str}, ns = es.filterMap f → ns.length = es.length → Paired (fun e n => f e = some n) es ns
  | [], ns, e, _ => by subst e; exact .nil
  | x :: es, ns, e, l => by
    have le : (es.filterMap f).length ≤ es.length := List.length_filterMap_le _ _
    rw [List.filterMap_cons] at e
    cases q : f x with
    | none =>
      rw [q] at e
      simp only at e
      subst e
      simp only [List.length_cons] at l
      omega
    | some n =>
      rw [q] at e
      simp only at e
      subst e
      exact .cons q (fm_all rfl (by simpa using l))
theorem nm_ok {line : Nat} {e : Expr} {n : Str} (h : nmOf sc line e = some n) : ∃ p, e = .Name n p ∧ sc.names.lookup n = some .local := by
  cases e <;> simp only [nmOf, reduceCtorEq] at h
  split at h
  · rename_i c
    simp only [Option.some.injEq] at h
    subst h
    rw [Bool.and_eq_true] at c
    exact ⟨_, rfl, eq_of_beq c.1⟩
  · cases h
theorem at_len : ∀ (is : List Nat), (namesAt G.N is).length = is.length
  | [] => rfl
  | i :: is => by simp [namesAt, at_len is]
theorem s_par {is : List Nat} {xs : Es} {es vs : List Expr} {k k2 : Nat} {p p2 pos : Pos} (o : XOk G F n sc fnB X) (hk : X.env.scope.kind = .function) (h1 : okTg.go G sc fnB is es = true) (h2 : okEs G sc fnB xs vs = true) (h3 : (vs.all fun e => !isStar e) = true)
    (h4 : vs.length ≤ 1000) (h5 : is.Nodup) {r : Option (List Str)} (h6 : parB sc es vs = some r) (h7 : ∀ ns, r = some ns → ns.map some = namesAt G.N is ∧ ns.length = is.length) (gs : PA X vs (rdA X.K (evEs F xs))) :
    PS X (.Assign [.Tuple es k p] (.Tuple vs k2 p2) pos) (rdS X.K (evS F (.par is xs))) := by
  have h6' := h6
  rw [← o.sc] at h6'
  have hw := fun k k2 p p2 => swap_par (k := k) (k2 := k2) (p := p) (p2 := p2) hk h6'
  cases r with
  | none => exact par_plain o h1 (hw _ _ _ _) h2 h3 h4 gs
  | some ns =>
    obtain ⟨l1, l2, l, en, l3⟩ := parB_names h6
    obtain ⟨q1, q2⟩ := h7 ns rfl
    have ps := fm_all en l3
    have sz : ∀ ρ h us h', evEs F xs ρ h = some (us, h') → us.length ≤ 1000 := fun ρ h us h' e => by rw [es_len h2 h3 _ _ _ _ e]; exact h4
    match es, vs, ns, is, l1, l2, l3, q2, ps, q1, h5, hw, gs with
    | [a, b], [c, d], [x, y], [i, j], _, _, _, _, ps, q1, h5, hw, gs =>
      cases ps with
      | cons p1 ps =>
        cases ps with
        | cons p2 ps =>
          obtain ⟨_, rfl, e1⟩ := nm_ok p1
          obtain ⟨_, rfl, e2⟩ := nm_ok p2
          simp only [namesAt, List.map_cons, List.map_nil, List.cons.injEq, and_true] at q1
          simp only [List.nodup_cons, List.mem_singleton, List.not_mem_nil, not_false_eq_true, List.nodup_nil, and_true] at h5
          refine PSimp (ps_par (i := i) (j := j) o.calm (by rw [o.nN]; exact o.nd) (by rw [o.nN]; exact q1.1.symm) (by rw [o.nN]; exact q1.2.symm) h5 (by rw [o.sc]; exact e1) (by rw [o.sc]; exact e2) gs (hw _ _ _ _) (sole_no rfl)) fun D σ H q => ?_
          obtain ⟨ρ, h, ι, av, ws, h', sim, re, e, kk⟩ := par_reads (T := fun _ _ => True) q sz
          refine ⟨ρ, h, ι, av, ws, h', sim, re, e, fun ι1 av1 H1 us p1 rr => ?_⟩
          obtain ⟨_, a2, a3, _⟩ := kk ι1 av1 H1 us p1 rr
          match us, a2, a3 with
          | [u, v], _, a3 => exact ⟨u, v, rfl, a3⟩
    | [a, b, c], [d, e, f], [x, y, z], [i, j, m], _, _, _, _, ps, q1, h5, hw, gs =>
      cases ps with
      | cons p1 ps =>
        cases ps with
        | cons p2 ps =>
          cases ps with
          | cons p3 ps =>
            obtain ⟨_, rfl, e1⟩ := nm_ok p1
            obtain ⟨_, rfl, e2⟩ := nm_ok p2
            obtain ⟨_, rfl, e3⟩ := nm_ok p3
            simp only [namesAt, List.map_cons, List.map_nil, List.cons.injEq, and_true] at q1
            simp only [List.nodup_cons, List.mem_cons, List.mem_singleton, List.not_mem_nil, not_false_eq_true, List.nodup_nil, and_true, not_or, or_false] at h5
            refine PSimp (ps_par3 (i := i) (j := j) (l := m) o.calm (by rw [o.nN]; exact o.nd) (by rw [o.nN]; exact q1.1.symm) (by rw [o.nN]; exact q1.2.1.symm) (by rw [o.nN]; exact q1.2.2.symm) h5.1.1 h5.1.2 h5.2 (by rw [o.sc]; exact e1) (by rw [o.sc]; exact e2) (by rw [o.sc]; exact e3) gs (hw _ _ _ _) (sole_no rfl)) fun D σ H q => ?_
            obtain ⟨ρ, h, ι, av, ws, h', sim, re, e, kk⟩ := par_reads (T := fun _ _ => True) q sz
            refine ⟨ρ, h, ι, av, ws, h', sim, re, e, fun ι1 av1 H1 us p1 rr => ?_⟩
            obtain ⟨_, a2, a3, _⟩ := kk ι1 av1 H1 us p1 rr
            match us, a2, a3 with
            | [u, v, w], _, a3 => exact ⟨u, v, w, rfl, a3⟩
    | [], _, _, _, l1, _, _, _, _, _, _, _, _ => simp at l1
    | [_], _, _, _, l1, _, _, _, _, _, _, _, _ => simp at l1
    | _ :: _ :: _ :: _ :: _, _, _, _, l1, _, _, _, _, _, _, _, _ => simp at l1
/-- x = [..] whose name is stored from within the inlined loop -/
theorem s_setLc {j : Nat} {x : Str} {py spos : Pos} {own : List Nat} {tg : Tg} {it : MP.It} {cd : To} {elt : E} {e t i : Expr} {ifs : List Expr} {scope : Scope} {pos : Pos} (o : XOk G F n sc fnB X) (hk : X.env.scope.kind = .function)
    (hx : G.N[j]? = some x) (hst : stB sc fnB x = true) (hsw : swB sc x py.line (.ListComp e [⟨t, i, ifs, 0⟩] scope pos) = true)
    (h1 : (own.all fun j => (G.N[j]?).isSome) = true) (h2 : blkC G.N sc scope (own.filterMap fun j => (G.N[j]?).map fun x => (x, j)) = true) (h3 : (tgSlots tg).all (fun j => own.contains j) = true) (h4 : isSet i = false)
    (gi : PI X t i (rdI X.K (evI F it))) (h5 : okTg G (relS scope sc) (blkFn scope) tg t = true)
    (gc : ∀ (Y : Cx), XOk G F n (relS scope sc) (blkFn scope) Y → PTs Y ifs (rdT Y.K (evC F cd))) (ge : ∀ (Y : Cx), XOk G F n (relS scope sc) (blkFn scope) Y → PE Y e (rdE Y.K (evE F elt))) :
    PS X (.Assign [.Name x py] (.ListComp e [⟨t, i, ifs, 0⟩] scope pos) spos) (rdS X.K (evS F (.asg j (.lc own tg it cd elt)))) := by
  have bk := blkOk_by h2
  have hl : X.env.scope.names.lookup x = some .local := by
    rw [o.sc]
    unfold swB at hsw
    simp only [Bool.and_eq_true] at hsw
    exact eq_of_beq hsw.1.1
  have sw := fun l => swap_eq (X := X) (t := x) (p := py) (l := l) (v := .ListComp e [⟨t, i, ifs, 0⟩] scope pos) hk (.inr ⟨_, _, _, _, rfl⟩)
  rw [o.sc, hsw] at sw
  have g := ps_setLc (X := X) (i := j) (elt := e) (pos := pos) o.calm (by rw [o.nN]; exact o.nd) (by rw [o.nN]; exact hx) hl (sw spos.line) gi (scope := scope) (by rw [o.nN, o.sc]; exact bk) (ifs := ifs) (g := gTgK X.K tg) (tt := rdT X.K (evC F cd)) (te := rdE X.K (evE F elt))
    (fun s H C cl fp => tg_ok (o.blk s H scope C cl fp) h5) (fun s H C cl fp => gc _ (o.blk s H scope C cl fp)) (fun s H C cl fp => ge _ (o.blk s H scope C cl fp)) (set_no h4 _)
  rw [own_map h1] at g
  refine s_asg o hx hst (PSimp g fun D σ H q => ?_)
  exact lc_reads (Q := fun x H1 => gName j x σ H1 D.nx) (fun j m => by simpa using List.all_eq_true.mp h3 j m) q
end
mutual
theorem sS {G : Chk} {F : CallF} {n : Nat} {sc : Scope} {fnB : Str → Bool} {X : Cx} (o : XOk G F n sc fnB X) (hk : X.env.scope.kind = .function) : ∀ (a : S) (x : Stmt), okS G sc fnB a x = true → PS X x (rdS X.K (evS F a))
  | .asg i e, x, h => by
    simp only [okS] at h
    split at h
    · rename_i x p v pos
      simp only [Bool.and_eq_true, decide_eq_true_eq] at h
      obtain ⟨h1, h2, ⟨_, h3⟩, h4⟩ := h
      obtain ⟨s1, s2⟩ := stB_ok o h2
      have plain : isComp v = false → PS X (.Assign [.Name x p] v pos) (rdS X.K (evS F (.asg i e))) := fun hv =>
        s_asg o h1 h2 (ps_set (by rw [o.nN]; exact o.nd) (by rw [o.nN]; exact h1) s1 (sE e sc fnB X o _ h3) (comp_no hv _ _ _) s2)
      cases v with
      | ListComp a b c d =>
        cases hs : swB sc x p.line (.ListComp a b c d) with
        | false =>
          have sw := fun l => swap_eq (X := X) (t := x) (p := p) (l := l) (v := .ListComp a b c d) hk (.inr ⟨_, _, _, _, rfl⟩)
          rw [o.sc, hs] at sw
          exact s_asg o h1 h2 (ps_set (by rw [o.nN]; exact o.nd) (by rw [o.nN]; exact h1) s1 (sE e sc fnB X o _ h3) (sw _) s2)
        | true =>
          cases e <;> simp only [okE, Bool.false_eq_true] at h3
          split at h3
          · rename_i z
            simp only [Expr.ListComp.injEq] at z
            obtain ⟨rfl, rfl, rfl, rfl⟩ := z
            simp only [Bool.and_eq_true, decide_eq_true_eq, Bool.not_eq_true'] at h3
            obtain ⟨rfl, g1, g2, g3, g4, g5, g6, g7, g8⟩ := h3
            exact s_setLc o hk h1 h2 hs g1 g2 g3 g4 (sI _ sc fnB X o _ _ g5) g6 (fun Y oY => sC _ _ _ Y oY _ g7) (fun Y oY => sE _ _ _ Y oY _ g8)
          · cases h3
      | SetComp => cases h4
      | DictComp => cases h4
      | _ => exact plain rfl
    · cases h
  | .tup is e, x, h => by
    simp only [okS] at h
    split at h
    · simp only [Bool.and_eq_true, Bool.not_eq_true'] at h
      exact s_tup o h.1 h.2.1 h.2.2.1 (sE e sc fnB X o _ h.2.2.2)
    · cases h
  | .par is xs, x, h => by
    simp only [okS] at h
    split at h
    · simp only [Bool.and_eq_true, decide_eq_true_eq] at h
      obtain ⟨h1, h2, h3, h4, h5, h6⟩ := h
      have h4 := Nat.le_of_ble_eq_true h4
      split at h6
      · cases h6
      · rename_i q
        exact s_par o hk h1 h2 h3 h4 h5 q (fun ns z => nomatch z) (sEs xs sc fnB X o _ h2)
      · rename_i ns q
        rw [Bool.and_eq_true, decide_eq_true_eq, decide_eq_true_eq] at h6
        exact s_par o hk h1 h2 h3 h4 h5 q (fun ns z => by cases z; exact h6) (sEs xs sc fnB X o _ h2)
    · cases h
  | .set a i e, x, h => by
    simp only [okS] at h
    split at h
    · simp only [Bool.and_eq_true, Bool.not_eq_true'] at h
      exact s_set h.1 h.2.1 (sE e sc fnB X o _ h.2.2.1) (sE a sc fnB X o _ h.2.2.2.1) (sE i sc fnB X o _ h.2.2.2.2)
    · cases h
  | .app a e, x, h => by
    simp only [okS] at h
    split at h
    · simp only [Bool.and_eq_true, Bool.not_eq_true', decide_eq_true_eq] at h
      obtain ⟨rfl, h2, h3, h4, h5, h6⟩ := h
      exact s_app h3 h4 h2 (sE a sc fnB X o _ h5) (sE e sc fnB X o _ h6)
    · cases h
  | .tsn a i j e, x, h => by
    simp only [okS] at h
    split at h
    · simp only [Bool.and_eq_true, Bool.not_eq_true', decide_eq_true_eq] at h
      obtain ⟨h1, h2, h3, h4, h5, h6, h7, h8⟩ := h
      exact s_tsn o h1 h2 h3 h4 h5 (sE e sc fnB X o _ h6) (sE a sc fnB X o _ h7) (sE i sc fnB X o _ h8)
    · cases h
  | .ex e, x, h => by
    simp only [okS] at h
    split at h
    · simp only [Bool.and_eq_true, Bool.not_eq_true'] at h
      exact s_ex h.1 (sE e sc fnB X o _ h.2)
    · cases h
  | .ret e, x, h => by
    simp only [okS] at h
    split at h
    · exact s_ret (sE e sc fnB X o _ h)
    · cases h
  | .retN, x, h => by
    simp only [okS] at h
    split at h
    · exact s_retN
    · cases h
  | .ife c a b, x, h => by
    simp only [okS] at h
    split at h
    · simp only [Bool.and_eq_true] at h
      exact s_ife (sT c sc fnB X o _ h.1).1 (sSs o hk a _ h.2.1) (sSs o hk b _ h.2.2)
    · cases h
  | .for_ tg it body, x, h => by
    simp only [okS] at h
    split at h
    · simp only [Bool.and_eq_true, Bool.not_eq_true'] at h
      exact s_for o h.1 (sI it sc fnB X o _ _ h.2.1) h.2.2.1 (sSs o hk body _ h.2.2.2)
    · cases h
  | .whl c body, x, h => by
    simp only [okS] at h
    split at h
    · simp only [Bool.and_eq_true] at h
      exact s_whl o (sT c sc fnB X o _ h.1).1 (sSs o hk body _ h.2)
    · cases h
  | .brk, x, h => by
    simp only [okS] at h
    split at h
    · exact s_brk
    · cases h
  | .pss, x, h => by
    simp only [okS] at h
    split at h
    · exact s_pss
    · cases h
  | .nev, x, h => s_nev
theorem sSs {G : Chk} {F : CallF} {n : Nat} {sc : Scope} {fnB : Str → Bool} {X : Cx} (o : XOk G F n sc fnB X) (hk : X.env.scope.kind = .function) : ∀ (a : Ss) (x : List Stmt), okSs G sc fnB a x = true → PSs X x (rdS X.K (evSs F a))
  | .nil, x, h => by
    simp only [okSs] at h
    split at h
    · exact ss_nil
    · cases h
  | .cons s ss, x, h => by
    simp only [okSs] at h
    split at h
    · rw [Bool.and_eq_true] at h
      exact ss_cons (sS o hk s _ h.1) (sSs o hk ss _ h.2)
    · cases h
end
end MP

/-! ## EngX.lean -/
set_option Elab.async false
set_option linter.all false
set_option maxRecDepth 100000
namespace MP
open PySem PySem.Spec PyProof.Rows L2
/-! ### a law's defs -/
structure DefT where
  name : Str
  params : List Str
  kws : List (Nat × List Str)
  N : List Str
  st : Stmt
  fn : Fn
def DefT.sig (d : DefT) : FnSig := ⟨d.name, d.params, d.kws⟩
def scB (N P : List Str) (sc : Scope) : Bool :=
  decide (sc.kind = .function) && (!sc.isCoroutine && (!sc.isGenerator && (decide N.Nodup && (decide (N.take P.length = P) && (P.all (fun x => decide (sc.names.lookup x = some .local) || decide (sc.names.lookup x = some .cell)) && sc.names.all (fun y => !decide (y.2 = .free)))))))
theorem scB_ok {N P : List Str} {sc : Scope} (h : scB N P sc = true) : FnScope N P sc := by
  unfold scB at h
  simp only [Bool.and_eq_true, Bool.not_eq_true', decide_eq_true_eq, List.all_eq_true, Bool.or_eq_true, decide_eq_false_iff_not] at h
  exact ⟨h.1, h.2.1, h.2.2.1, h.2.2.2.1, h.2.2.2.2.1, h.2.2.2.2.2.1, h.2.2.2.2.2.2⟩
abbrev allB : Str → Bool := fun _ => true
def defB (consts : List (Str × D)) (sigs : List FnSig) (d : DefT) : Bool :=
  scB d.N d.params (defScope d.st) && (Nat.beq d.fn.nn d.N.length && (Nat.beq d.fn.np d.params.length && okSs ⟨d.N, sigs, consts⟩ (defScope d.st) allB d.fn.body (defBody d.st)))
/-- what stands behind the top -/
structure DefOk (K : PySem.W.Frag) (mg : Str → Option Value) (d : DefT) : Prop where
  ex : ∃ f fd, mg d.name = some (.ref f) ∧ Fun K d.name d.name d.st f fd ∧ Binds K fd d.params [] ∧ ∀ k ∈ d.kws, KwB K fd d.params k.2 k.1
structure ConstOk (K : PySem.W.Frag) (mg : Str → Option Value) (c : Str × D) : Prop where
  ex : ∃ u v, mg c.1 = some u ∧ RelV v u ∧ ∀ H av, RepD K H av c.2 v
section
variable {K : PySem.W.Frag} {H H0 H1 H2 H' : Hp} {av av' av1 av2 avs : Av} {ι ι' ι0 ι1 ι2 ιs : List Addr} {h h' h1 h2 hs : Hs} {σ σ1 : L2.St} {ρ ρ1 : Env'} {X : Cx}
variable {P : Program} {w : World} {mg : Str → Option Value} {base : Heap}
theorem Stp.cut (s : Stp ι av H ι' av' H') : Stp ι av H ι av' H' := ⟨⟨[], by simp, by simp⟩, s.keep, s.alive, s.avs, s.avm⟩
theorem run_rets {as : List Arg} {vs : List V} {v : Val} {r : Ret} {u : V} (ra : RepArgs K H av as vs ι) (p : Pst K ι av H (heap' as) ι' av' H' h') (e : retD (heap' as).length h' v = some r) (rr : RepR K H ι' av' H' v u) : RepRet K H ι av' H' r u := by
  obtain ⟨κ, ek, fk⟩ := p.stp.ext
  have ln := heap_len ra
  cases v with
  | p d =>
    simp only [retD, Option.some.injEq] at e
    subst e
    exact rr
  | new xs =>
    simp only [retD, Option.some.injEq] at e
    subst e
    obtain ⟨a, ws, rfl, q1, q2, q3, q4, q5⟩ := rr
    exact ⟨a, ws, rfl, q1, q2, q3, fun m => q4 (by rw [ek]; exact List.mem_append_left _ m), q5⟩
  | loc n =>
    obtain ⟨a, q1, rfl⟩ := rr
    simp only [retD] at e
    split at e
    · rename_i hn
      simp only [Option.some.injEq] at e
      subst e
      have hn' : n < ι.length := by rw [ln]; exact Nat.le_of_ble_eq_true hn
      exact ⟨a, by rw [ek, List.getElem?_append_left hn'] at q1; exact q1, rfl⟩
    · rename_i hn
      split at e
      · rename_i b xs ex
        simp only [Option.some.injEq] at e
        subst e
        have hn' : ¬ n < ι.length := by rw [ln]; exact fun z => hn (Nat.ble_eq_true_of_le z)
        obtain ⟨a', ws, k1, k2, k3⟩ := p.sim.ob n _ ex
        rw [q1] at k1; cases k1
        have mk : a ∈ κ := by
          rw [ek, List.getElem?_append_right (by omega)] at q1
          exact List.mem_of_getElem? q1
        refine ⟨a, ws, rfl, fk a mk, k2, p.sim.sub a (List.mem_of_getElem? q1), fun m => ?_, k3⟩
        have nd := p.sim.nd
        rw [ek, List.nodup_append] at nd
        exact nd.2.2 a m a mk rfl
      · cases e
theorem outs_all {as : List Arg} {vs : List V} {xs : List (List D)} (ra : RepArgs K H av as vs ι) (p : Pst K ι av H (heap' as) ι' av' H' h') (e : outs' as h' = some xs) : Outs K av' H' ι xs := by
  obtain ⟨κ, ek, fk⟩ := p.stp.ext
  refine outs_ok (κ := κ) ra e fun n o eo => ?_
  obtain ⟨a, ws, k1, k2, k3⟩ := p.sim.ob n o eo
  refine ⟨a, ws, by rw [← ek]; exact k1, k2, ?_⟩
  cases o with
  | lst b ys => exact k3
  | ref b ns => trivial
/-- what a def of the table promises it keeps -/
theorem runFn_ok {F : CallF} {f : Fn} {N : List Str} {as : List Arg} {vs : List V} {r : Ret} {xs : List (List D)} {Q : VK} (hn : f.nn = N.length) (hp : f.np ≤ N.length) (e : runFn F f as = some (r, xs)) (sub : ∀ a ∈ ι, av a) (nd : ι.Nodup) (live : ∀ a, av a → H a ≠ none) (ra : RepArgs K H av as vs ι)
    (q : ∀ (av' : Av) (H' : Hp) (u : V), Stp ι av H ι av' H' → (∀ a, av' a → H' a ≠ none) → Outs K av' H' ι xs → RepRet K H ι av' H' r u → Q u H') : rdS K (evSs F f.body) ⟨fun _ H' => Q .non H', Q, fun _ _ => False, fun _ _ => False⟩ (L2.start N vs) H := by
  unfold runFn at e
  split at e
  · rename_i hl
    have hl := Nat.eq_of_beq_eq_true hl
    split at e
    · cases e
    · rename_i o ρ1 h1 e1
      split at e
      · rename_i r' xs' er eo
        simp only [Option.some.injEq, Prod.mk.injEq] at e
        obtain ⟨rfl, rfl⟩ := e
        rw [hn] at e1
        refine ⟨_, _, ι, av, o, ρ1, h1, sim_entry ra sub nd live, env_entry ra (by omega), e1, fun ι' av' H' σ1 p re => ?_⟩
        have fin := fun u z => q av' H' u p.stp.cut p.sim.live (outs_all ra p eo) z
        cases o with
        | nx =>
          simp only [Option.some.injEq] at er
          subst er
          exact fin .non rfl
        | bk => cases er
        | rt v => exact fun u rr => fin u (run_rets ra p er rr)
      · cases e
  · cases e
/-- all of the table -/
theorem tab_ok {ds : List DefT} {consts : List (Str × D)} (chk : ds.all (defB consts (ds.map DefT.sig)) = true) (hD : ∀ d ∈ ds, DefOk K mg d) (hC : ∀ c ∈ consts, ConstOk K mg c) (bl : ∀ b, mg (biName b) = none) (rg : mg "range" = none) (mo : ∀ x ∈ mOther, mg x = none) :
    ∀ (n i : Nat) (d : DefT), ds[i]? = some d → ∀ f fd, mg d.name = some (.ref f) → Fun K d.name d.name d.st f fd → FnG P w K mg base n f fd d.params (spD K (callD (ds.map (·.fn)) n) i d.params.length) := by
  have len : ∀ (F : CallF) (i np : Nat) vs H Q, spD K F i np vs H Q → vs.length = np := fun F i np vs H Q ⟨_, _, _, _, _, z, _⟩ => z
  intro n
  induction n with
  | zero =>
    intro i d ed f fd hm hf
    refine ⟨fun vs H Q h => len _ _ _ _ _ _ h, fun A fs s H args us vs Q _ _ _ _ _ hsp => ?_⟩
    obtain ⟨as, ι, av, r, xs, _, _, _, _, _, e, _⟩ := hsp
    cases e
  | succ n ih =>
    intro i d ed f fd hm hf
    have md : d ∈ ds := List.mem_of_getElem? ed
    have hb := List.all_eq_true.mp chk d md
    unfold defB at hb
    rw [Bool.and_eq_true, Bool.and_eq_true, Bool.and_eq_true] at hb
    obtain ⟨hb1, hb2, hb3, hb4⟩ := hb
    have S := scB_ok hb1
    have hpl : d.params.length ≤ d.N.length := by have := congrArg List.length S.pre; rw [List.length_take] at this; omega
    refine fnG_of hf S (fun vs H Q h => len _ _ _ _ _ _ h) fun cdv A fs s H vs Q room gd hsp => ?_
    obtain ⟨as, ι, av, r, xs, l1, sub, nd, live, ra, e, q⟩ := hsp
    have o : XOk ⟨d.N, ds.map DefT.sig, consts⟩ (callD (ds.map (·.fn)) n) n (defScope d.st) allB (cxOf CX0 P w K mg base d.N d.name (defScope d.st) f cdv A fs s H E0).nox := by
      refine ⟨rfl, S.nd, rfl, rfl, room, gd, rfl, fun _ _ => rfl, fun j g eg => ?_, fun x v m => ?_, bl, rg, mo⟩
      · rw [List.getElem?_map] at eg
        cases ej : ds[j]? with
        | none => rw [ej] at eg; cases eg
        | some d' =>
          rw [ej] at eg
          cases eg
          obtain ⟨f', fd', k1, k2, k3, k4⟩ := (hD d' (List.mem_of_getElem? ej)).ex
          exact ⟨f', fd', k1, k2.kp, k3, k4, ih j d' ej f' fd' k1 k2⟩
      · exact (hC _ m).ex
    refine ⟨_, sSs o S.kind d.fn.body _ hb4, ?_⟩
    have e2 : runFn (callD (ds.map (·.fn)) n) d.fn as = some (r, xs) := by
      have : callD (ds.map (·.fn)) (n + 1) i as = some (r, xs) := e
      simp only [callD, List.getElem?_map, ed, Option.map_some] at this
      exact this
    exact runFn_ok (Nat.eq_of_beq_eq_true hb2) (by rw [Nat.eq_of_beq_eq_true hb3]; exact hpl) e2 sub nd live ra q
end
end MP

/-! ## EngY.lean -/
set_option Elab.async false
set_option linter.all false
set_option maxRecDepth 100000
namespace MP
open PySem PySem.Spec PyProof.Rows L2
/-- the heap as the law sees it: the script (g: how it is tracked) and nothing else -/
structure Seen (K : PySem.W.Frag) (P : Program) (w : World) (H : Hp) (h : Heap) (a : Addr) (xs : List V) : Prop where
  script : SqL K H a xs
  alone : ∀ b, H b ≠ none → b = a ∧ (∃ o, H b = some (.frz o (.lst xs))) ∧ K.lookup a = none
  hok : HOk P w H h
abbrev LawEnd (s : Shared) (r : Result) (s' : Shared) : Prop := r = .ok (.ret (.bool true)) ∧ OldK s.heap s'.heap ∧ s'.os = s.os ∧ AllBare s'.gens
section
variable {P : Program} {w : World} {K : PySem.W.Frag} {mg mb : Str → Option Value} {n : Nat} {f a : Addr} {fd : FuncData} {x : Str} {sp : Spg} {s : Shared} {vs : List Value} {xs : List V} {H : Hp}
theorem Seen.open (e : Seen K P w H s.heap a xs) {b : Addr} {o : Obj} (g : s.heap.get? b = some o) (other : s.heap.get? a ≠ some o ∨ K.lookup a = some o) : H b = none := by
  cases q : H b with
  | none => rfl
  | some u =>
    obtain ⟨rfl, _, k⟩ := e.alone b (by rw [q]; exact fun z => nomatch z)
    rcases other with z | z
    · exact absurd g z
    · rw [k] at z; cases z
theorem law_from (e : Seen K P w H s.heap a xs) (inK : K.In s.heap) (nsM : s.heap.Ns mainGlobals mg) (nsB : s.heap.Ns builtinsNs mb) (boot : ∀ y : Str, y ≠ "__name__" → mb y = bootBuiltins y) (lim : s.heap.NoLimit) (gens : s.gens = #[])
    (oa : s.heap.get? a = some { cls := .type "list", data := .seq vs.toArray }) (room : Room n callerA) (bt : ∀ u : Value, BindsTo s fd ⟨[u], []⟩ [(x, u)])
    (F : ∀ base : Heap, FnG P w K mg base n f fd [x] sp) (goal : sp [.ref a] H fun v _ => v = .bl true) : codeAny (model P w) callerA (.call (.ref f) ⟨[.ref a], []⟩) (LawEnd s) s := by
  -- what is no list stands in the base
  have hid : ∀ {b : Addr} {o : Obj}, s.heap.get? b = some o → H b = none → (hidT s.heap H).get? b = some o := fun g z => hidT_get g z
  have dct : ∀ {b : Addr} {m : Str → Option Value}, s.heap.Ns b m → (hidT s.heap H).Ns b m := by
    rintro b m ⟨o, es, ep, g, d, r⟩
    refine ⟨o, es, ep, hid g (e.open g (.inl ?_)), d, r⟩
    rw [oa]
    intro z
    cases z
    cases d
  have kin : K.In (hidT s.heap H) := by
    intro b o l
    refine hid (inK b o l) ?_
    cases q : H b with
    | none => rfl
    | some u =>
      obtain ⟨rfl, _, z⟩ := e.alone b (by rw [q]; exact fun z => nomatch z)
      rw [z] at l; cases l
  obtain ⟨mc, c1, c2⟩ := lim
  have env : Env0 P w K mg (hidT s.heap H) callerA [] s H := by
    refine ⟨rfl, ⟨kin, dct nsM, ⟨mb, dct nsB, boot⟩, mc, dct c1, c2⟩, fun b o g => of_hidT g, Nat.le_of_eq (hidT_size _ _), trivial, ?_, e.hok, .of_eq gens⟩
    intro b m
    cases m
  refine codeAny_mono ((F _).run callerA [] s H ⟨[.ref a], []⟩ [.ref a] [.ref a] _ room rfl env (bt (.ref a)) (.cons rfl .nil) goal) ?_
  intro r s' q
  match r, q with
  | .ok (.ret u), q =>
    obtain ⟨v, H', q1, q2, un, q3, q4, q5⟩ := q
    cases (show v = V.bl true from q5)
    cases (show u = Value.bool true from q4)
    refine ⟨rfl, .of_keep ?_, q1, q2⟩
    intro b o g
    cases hb : H b with
    | none => exact un.keep b o g hb (fun m => nomatch m) fun m => nomatch m
    | some u =>
      obtain ⟨_, ⟨ob, z⟩, _⟩ := e.alone b (by rw [hb]; exact fun z => nomatch z)
      have k1 := (e.hok b _ z).1
      have k2 := (q3 b _ (un.frzs b ob _ z)).1
      rw [g] at k1
      cases k1
      exact k2
theorem seen_here (inK : K.In s.heap) {ns : List Int} (oa : s.heap.get? a = some { cls := .type "list", data := .seq vs.toArray }) (iv : IntsAre vs ns) (few : ns.length ≤ sizeLine) : ∃ H, Seen K P w H s.heap a (ns.map V.int) := by
  have rv := vals_ints iv
  cases hk : K.lookup a with
  | none =>
    refine ⟨fun b => if b = a then some (.frz { cls := .type "list", data := .seq vs.toArray } (.lst (ns.map V.int))) else none, ⟨.inl (.inr ⟨_, if_pos rfl⟩), fun b z => ?_, fun b u z => ?_⟩⟩
    all_goals by_cases hb : b = a
    · exact ⟨hb, ⟨_, if_pos hb⟩, hk⟩
    · exact absurd (if_neg hb) z
    · have t := (if_pos hb).symm.trans z
      cases t
      rw [hb]
      exact ⟨oa, by rw [List.length_map]; exact few, vs, _, rv, oa⟩
    · have t := (if_neg hb).symm.trans z
      cases t
  | some o =>
    have g := inK a o hk
    rw [oa] at g
    cases g
    refine ⟨fun _ => none, ⟨.inr ⟨_, vs.toArray, _, hk, rfl, rfl, rfl, ?_, by simpa using rv⟩, fun b z => absurd rfl z, fun b u z => nomatch z⟩⟩
    rw [List.size_toArray, iv.length]
    exact few
/-- the script handed to the table's def -/
theorem sp_law {F : CallF} {i : Nat} {ns : List Int} (q : SqL K H a (ns.map V.int)) (e : F i [.p (.scr ns)] = some (.p (.bl true), [])) : spD K F i 1 [.ref a] H fun v _ => v = .bl true := by
  refine ⟨[.p (.scr ns)], [], fun _ => False, _, _, rfl, by simp, by simp, fun b z => False.elim z, ?_, e, fun av' H' u _ _ _ r => r⟩
  refine ⟨.ref a, [], rfl, ⟨a, rfl, ?_⟩, rfl, rfl⟩
  rcases q with q | q
  · exact .inl ⟨q, id⟩
  · exact .inr q
end
/-- THE END of a law: the row's walk from the plain fact about the table -/
theorem law_walk {l : PySem.W.OpenLaw} {most n i : Nat} {q : Program} {loose : List Str} {XP : (Str → Option Value) → Heap → Prop} {YP : World → Heap → Prop} {dr : DefRec} {K : Params → PySem.W.Frag} {ds : List DefT} {consts : List (Str × D)} {d : DefT} {x : Str}
    (hm : l.most = some most) (few : most ≤ sizeLine) (dflt : dr.params.defaults = []) (room : Room n callerA) (hY : ∀ (w : World) (h : Heap), YP w h → (K w.params).In h)
    (chk : ds.all (defB consts (ds.map DefT.sig)) = true) (ed : ds[i]? = some d) (hn : d.name = dr.name) (hp : d.params = [x])
    (facts : ∀ (w : World) (mg : Str → Option Value) (h : Heap), (K w.params).In h → h.Ns mainGlobals mg → (∀ d ∈ ds, DefOk (K w.params) mg d) ∧ (∀ c ∈ consts, ConstOk (K w.params) mg c) ∧ (∀ b, mg (biName b) = none) ∧ mg "range" = none ∧ ∀ x ∈ mOther, mg x = none)
    (plain : ∀ ns : List Int, ns.length ≤ most → callD (ds.map (·.fn)) n i [.p (.scr ns)] = some (.p (.bl true), [])) :
    PySem.W.WalkO q loose XP YP l.row.toRowW dr [] (fun f vs => PySem.call f vs) := by
  refine Att.attach_call hm dflt ?_
  intro w s0 s mg mb f o pm cd doc a vs ns G Y ho hd hcd hmg hobj iv len gens
  have inK := hY w _ Y
  obtain ⟨hD, hC, bl, rg, mo⟩ := facts w mg _ inK G.T.g
  obtain ⟨f', fd, k1, k2, k3, k4⟩ := (hD d (List.mem_of_getElem? ed)).ex
  rw [hn, hmg] at k1
  cases k1
  have bt : ∀ u : Value, BindsTo s fd ⟨[u], []⟩ [(x, u)] := by
    intro u
    have := k3 s [u] inK (by rw [hp]; rfl)
    rw [hp] at this
    exact this
  obtain ⟨H, e⟩ := seen_here (P := l.prog) (w := w) inK hobj iv (Nat.le_trans len few)
  have T := fun base => tab_ok (P := l.prog) (w := w) (base := base) chk hD hC bl rg mo n i d ed f fd (by rw [hn]; exact hmg) k2
  rw [hp] at T
  refine law_from e inK G.T.g G.T.b G.T.builtins G.T.nolimit gens hobj room bt T (sp_law e.script (plain ns len))
end MP

/-! ## EngZ.lean -/
set_option Elab.async false
set_option linter.all false
set_option maxRecDepth 100000
namespace MP
open PySem PySem.Spec PyProof.Rows L2
/-! ### what the top has made, put together -/
theorem all_n {α : Type} {P : α → Prop} : ∀ x ∈ ([] : List α), P x := fun x m => nomatch m
theorem all_c {α : Type} {P : α → Prop} {x : α} {xs : List α} (h : P x) (t : ∀ y ∈ xs, P y) : ∀ y ∈ x :: xs, P y := fun y m => by
  rcases List.mem_cons.mp m with e | m
  · rw [e]; exact h
  · exact t y m
theorem def_ok {K : PySem.W.Frag} {h : Heap} {mg : Str → Option Value} {d : DefT} {f : Addr} {od an : Option Addr} {sl : Array (Option Value)} {oc kV dc pm cd ct : Value} (X : K.In h) (G : h.Ns mainGlobals mg)
    (a : PySem.W.nsIn K mainGlobals d.name = some (some (.ref f))) (l : K.lookup f = some ⟨oc, od, .func (PySem.W.fnOf d.name d.name (defArgs d.st) (defBody d.st) (defScope d.st) .none kV dc pm an cd ct), sl⟩) (c : PySem.W.codeIn K cd d.name = true) (k : PySem.W.keepIn K (.ref f) = true)
    (b : ∀ (kV doc pm : Value) (an : Option Addr) (cdv ct : Value) (us : List Value), us.length = d.params.length → bindArgs (PySem.W.fnOf d.name d.name (defArgs d.st) (defBody d.st) (defScope d.st) .none kV doc pm an cdv ct) ⟨us, []⟩ = pure (d.params.zip us))
    (kw : ∀ q ∈ d.kws, ∀ (kV doc pm : Value) (an : Option Addr) (cdv ct : Value) (us ws : List Value), us.length = q.1 → ws.length = q.2.length →
      bindArgs (PySem.W.fnOf d.name d.name (defArgs d.st) (defBody d.st) (defScope d.st) .none kV doc pm an cdv ct) ⟨us, q.2.zip ws⟩ = pure (d.params.zip (us ++ ws))) : DefOk K mg d := by
  have F := fun_mk (st := d.st) l c k
  exact ⟨f, _, PySem.W.mg_of X G a, F, F.binds b, fun q m s us ws _ h1 h2 => .of_eq (kw q m _ _ _ _ _ _ us ws h1 h2)⟩
theorem const_int {K : PySem.W.Frag} {h : Heap} {mg : Str → Option Value} {x : Str} {i : Int} {t : Nat} (X : K.In h) (G : h.Ns mainGlobals mg) (a : PySem.W.nsIn K mainGlobals x = some (some (.int i t))) : ConstOk K mg (x, .int i) :=
  ⟨.int i t, .int i, PySem.W.mg_of X G a, ⟨t, rfl⟩, fun _ _ => rfl⟩
end MP

/-! ## EngPl.lean -/
set_option Elab.async false
set_option linter.all false
set_option maxRecDepth 100000
namespace MP
open PySem PySem.Spec L2
/-! ### plain laws: the evaluator in proofs -/
theorem callD_at {T : Tab} {n i : Nat} {as : List MP.Arg} {f : Fn} (h : T[i]? = some f) : callD T (n + 1) i as = runFn (callD T n) f as := by
  simp only [callD, h]
theorem forGo_inv {f : Val → Env' → Hs → Option (Out × Env' × Hs)} (P : Env' → Hs → Prop) : ∀ (xs : List Val), (∀ x ∈ xs, ∀ ρ h, P ρ h → ∃ ρ' h', f x ρ h = some (.nx, ρ', h') ∧ P ρ' h') → ∀ ρ h, P ρ h → ∃ ρ' h', forGo f xs ρ h = some (.nx, ρ', h') ∧ P ρ' h'
  | [], _, ρ, h, p => ⟨ρ, h, rfl, p⟩
  | x :: xs, hs, ρ, h, p => by
    obtain ⟨ρ1, h1, e, p1⟩ := hs x List.mem_cons_self ρ h p
    obtain ⟨ρ2, h2, e2, p2⟩ := forGo_inv P xs (fun y m => hs y (List.mem_cons_of_mem _ m)) ρ1 h1 p1
    exact ⟨ρ2, h2, by simp only [forGo, e, e2], p2⟩
theorem lcGo_map {f : Val → Hs → Option (Option D × Hs)} {h : Hs} (g : Val → D) : ∀ (xs : List Val), (∀ x ∈ xs, f x h = some (some (g x), h)) → lcGo f xs h = some (xs.map g, h)
  | [], _ => rfl
  | x :: xs, hs => by
    have e := hs x List.mem_cons_self
    have e2 := lcGo_map g xs fun y m => hs y (List.mem_cons_of_mem _ m)
    simp only [lcGo, e, e2, List.map_cons]
theorem mulOk_l {i j : Int} (h1 : -1000000000000 ≤ i) (h2 : i ≤ 1000000000000) : mulOk i j = true := by
  unfold mulOk
  have : i.natAbs + 1 ≤ 18446744073709551616 := by omega
  rw [show Nat.blt i.natAbs 18446744073709551616 = true from Nat.ble_eq_true_of_le this]
  rfl
theorem mulOk_r {i j : Int} (h1 : -1000000000000 ≤ j) (h2 : j ≤ 1000000000000) : mulOk i j = true := by
  unfold mulOk
  have : j.natAbs + 1 ≤ 18446744073709551616 := by omega
  rw [show Nat.blt j.natAbs 18446744073709551616 = true from Nat.ble_eq_true_of_le this, Bool.true_or, Bool.or_true]
end MP

/-! ## EngQk.lean -/
set_option Elab.async false
set_option linter.all false
set_option maxRecDepth 100000
namespace MP
open PySem PySem.Spec L2
/-! ### the same evaluator by recursors: for the kernel -/
/-! ### lists by recursors -/
section
variable {α : Type}
noncomputable def nthK (xs : List α) : Nat → Option α := List.rec (fun _ => none) (fun x _ ih n => Nat.rec (some x) (fun m _ => ih m) n) xs
theorem nthK_eq : ∀ (xs : List α) (n : Nat), nthK xs n = xs[n]?
  | [], n => rfl
  | x :: xs, 0 => rfl
  | x :: xs, n + 1 => by show nthK xs n = _; rw [nthK_eq xs n]; rfl
noncomputable def setK (y : α) (xs : List α) : Nat → List α := List.rec (fun _ => []) (fun x r ih n => Nat.rec (y :: r) (fun m _ => x :: ih m) n) xs
theorem setK_eq (y : α) : ∀ (xs : List α) (n : Nat), setK y xs n = xs.set n y
  | [], n => rfl
  | x :: xs, 0 => rfl
  | x :: xs, n + 1 => by show x :: setK y xs n = _; rw [setK_eq y xs n]; rfl
/-- set within the list -/
noncomputable def putK (y : α) (xs : List α) : Nat → (List α → List α) → Option (List α) := List.rec (fun _ _ => none) (fun x r ih n k => Nat.rec (some (k (y :: r))) (fun m _ => ih m fun t => k (x :: t)) n) xs
theorem putK_eq (y : α) : ∀ (xs : List α) (n : Nat) (k : List α → List α), putK y xs n k = if n < xs.length then some (k (xs.set n y)) else none
  | [], n, k => by rw [if_neg (by simp)]; rfl
  | x :: xs, 0, k => by rw [if_pos (by simp)]; rfl
  | x :: xs, n + 1, k => by
    show putK y xs n (fun t => k (x :: t)) = _
    rw [putK_eq y xs n]
    by_cases h : n < xs.length
    · rw [if_pos h, if_pos (by simpa using h)]; rfl
    · rw [if_neg h, if_neg (by simpa using h)]
noncomputable def lenK (xs : List α) : Nat → Nat := List.rec (fun n => n) (fun _ _ ih n => ih (Nat.add n 1)) xs
theorem lenK_eq : ∀ (xs : List α) (n : Nat), lenK xs n = n + xs.length
  | [], n => rfl
  | x :: xs, n => by show lenK xs (n + 1) = _; rw [lenK_eq xs (n + 1), List.length_cons]; omega
noncomputable def appK (xs ys : List α) : List α := List.rec ys (fun x _ ih => x :: ih) xs
theorem appK_eq : ∀ (xs ys : List α), appK xs ys = xs ++ ys
  | [], ys => rfl
  | x :: xs, ys => by show x :: appK xs ys = _; rw [appK_eq xs ys]; rfl
noncomputable def mapK {β : Type} (f : α → β) (xs : List α) : List β := List.rec [] (fun x _ ih => f x :: ih) xs
theorem mapK_eq {β : Type} (f : α → β) : ∀ (xs : List α), mapK f xs = xs.map f
  | [] => rfl
  | x :: xs => by show f x :: mapK f xs = _; rw [mapK_eq f xs]; rfl
noncomputable def atK (xs : List α) (i : Int) : Option α := Int.rec (fun n => nthK xs n) (fun m => atI xs (Int.negSucc m)) i
theorem atK_eq (xs : List α) : ∀ i : Int, atK xs i = atI xs i
  | .negSucc m => rfl
  | .ofNat n => by
    show nthK xs n = atI xs (n : Int)
    rw [nthK_eq]
    unfold atI ixN
    rw [if_pos (by omega)]
    by_cases h : (n : Int) < xs.length
    · rw [if_pos h]; rfl
    · rw [if_neg h, List.getElem?_eq_none (by omega)]; rfl
end
/-- continued with a number that is a literal -/
noncomputable def forceN {β : Type} (n : Nat) (k : Nat → β) : β := Nat.rec (k 0) (fun m _ => k (Nat.succ m)) n
theorem forceN_eq {β : Type} (n : Nat) (k : Nat → β) : forceN n k = k n := by cases n <;> rfl
noncomputable def forceI {β : Type} (i : Int) (k : Int → β) : β := Int.rec (fun n => forceN n fun m => k (Int.ofNat m)) (fun n => forceN n fun m => k (Int.negSucc m)) i
theorem forceI_eq {β : Type} (i : Int) (k : Int → β) : forceI i k = k i := by
  cases i with
  | ofNat n => exact forceN_eq n fun m => k (Int.ofNat m)
  | negSucc n => exact forceN_eq n fun m => k (Int.negSucc m)
noncomputable def litV (r : Option Val) : Option Val := match r with
  | some (.p (.int i)) => forceI i fun j => some (.p (.int j))
  | r => r
theorem litV_eq (r : Option Val) : litV r = r := by
  unfold litV
  split
  · rw [forceI_eq]
  · rfl
section
variable {α β : Type}
noncomputable def setC (y : α) (xs : List α) : Nat → (List α → β) → β := List.rec (fun _ k => k []) (fun x r ih n k => Nat.rec (k (y :: r)) (fun m _ => ih m fun t => k (x :: t)) n) xs
theorem setC_eq (y : α) : ∀ (xs : List α) (n : Nat) (k : List α → β), setC y xs n k = k (xs.set n y)
  | [], n, k => rfl
  | x :: xs, 0, k => rfl
  | x :: xs, n + 1, k => by show setC y xs n (fun t => k (x :: t)) = _; rw [setC_eq y xs n]; rfl
noncomputable def appC (xs ys : List α) : (List α → β) → β := List.rec (fun k => k ys) (fun x _ ih k => ih fun t => k (x :: t)) xs
theorem appC_eq : ∀ (xs ys : List α) (k : List α → β), appC xs ys k = k (xs ++ ys)
  | [], ys, k => rfl
  | x :: xs, ys, k => by show appC xs ys (fun t => k (x :: t)) = _; rw [appC_eq xs ys]; rfl
end
noncomputable def setVK (h : Hs) (n : Nat) (k : Int) (d : D) : Option Hs := match nthK h n with
  | some (.lst false xs) => Int.rec (fun j => match putK d xs j id with
    | some ys => setC (.lst false ys) h n some
    | none => none) (fun m => setV h n (Int.negSucc m) d) k
  | _ => none
theorem setVK_eq (h : Hs) (n : Nat) (k : Int) (d : D) : setVK h n k d = setV h n k d := by
  unfold setVK
  rw [nthK_eq]
  cases e : h[n]? with
  | none => simp only [setV, e]
  | some o =>
    cases o with
    | ref b ns => simp only [setV, e]
    | lst b xs =>
      cases b with
      | true => simp only [setV, e]
      | false =>
        cases k with
        | negSucc m => rfl
        | ofNat j =>
          simp only [setV, e]
          show (match putK d xs j id with | some ys => setC (O.lst false ys) h n some | none => none) = (_ : Option Hs)
          rw [putK_eq]
          unfold ixN
          have h0 : (0 : Int) ≤ Int.ofNat j := Int.natCast_nonneg j
          rw [if_pos h0]
          by_cases hj : j < xs.length
          · have h1 : Int.ofNat j < (xs.length : Int) := by show (j : Int) < _; omega
            rw [if_pos hj, if_pos h1]
            simp only [id, setC_eq] <;> rfl
          · have h1 : ¬ Int.ofNat j < (xs.length : Int) := by show ¬ (j : Int) < _; omega
            rw [if_neg hj, if_neg h1]
noncomputable def seqK (h : Hs) : Val → Option (Bool × List D)
  | .p (.tup xs) => some (true, xs)
  | .p (.lst xs) => some (false, xs)
  | .new xs => some (false, xs)
  | .loc n => match nthK h n with
    | some (.lst _ xs) => some (false, xs)
    | _ => none
  | _ => none
theorem seqK_eq (h : Hs) (v : Val) : seqK h v = seqD h v := by
  cases v with
  | loc n => simp only [seqK, nthK_eq] <;> rfl
  | new xs => rfl
  | p d => cases d <;> rfl
noncomputable def subK (x y : Val) (h : Hs) : Option Val := match intV y with
  | none => none
  | some i => match x with
    | .p (.scr ns) => match atK ns i with
      | some k => some (.p (.int k))
      | none => none
    | .loc n => match nthK h n with
      | some (.lst _ xs) => match atK xs i with
        | some d => some (.p d)
        | none => none
      | some (.ref _ ns) => match atK ns i with
        | some k => some (.loc k)
        | none => none
      | none => none
    | .new xs => match atK xs i with
      | some d => some (.p d)
      | none => none
    | .p (.tup xs) => match atK xs i with
      | some d => some (.p d)
      | none => none
    | .p (.lst xs) => match atK xs i with
      | some d => some (.p d)
      | none => none
    | x => subV x y h
theorem subK_eq (x y : Val) (h : Hs) : subK x y h = subV x y h := by
  unfold subK
  simp only [atK_eq, nthK_eq]
  cases hy : intV y with
  | none => simp only [subV, hy]
  | some i =>
    cases x with
    | loc n => simp only [subV, hy] <;> rfl
    | new xs => simp only [subV, hy] <;> rfl
    | p d => cases d <;> first | rfl | (simp only [subV, hy] <;> rfl)
noncomputable def appVK (h : Hs) (n : Nat) (v : Val) : Option Hs := match v with
  | .loc _ => appV h n v
  | v => match frzD v with
    | none => none
    | some d => match nthK h n with
      | some (.lst false xs) => if Nat.blt (lenK xs 0) line then appC xs [d] (fun ys => setC (.lst false ys) h n some) else none
      | _ => none
theorem appVK_eq (h : Hs) (n : Nat) (v : Val) : appVK h n v = appV h n v := by
  cases v with
  | loc m => rfl
  | p d => simp only [appVK, appV, nthK_eq, lenK_eq, setC_eq, appC_eq, Nat.zero_add] <;> rfl
  | new xs => simp only [appVK, appV, nthK_eq, lenK_eq, setC_eq, appC_eq, Nat.zero_add] <;> rfl
noncomputable def bindK (v : Val) (h : Hs) : Val × Hs := match v with
  | .new xs => (.loc (lenK h 0), appK h [.lst false xs])
  | v => (v, h)
theorem bindK_eq (v : Val) (h : Hs) : bindK v h = bind v h := by
  cases v with
  | loc m => rfl
  | p d => rfl
  | new xs => simp only [bindK, bind, lenK_eq, appK_eq, Nat.zero_add]
noncomputable def forK (f : Val → Env' → Hs → Option (Out × Env' × Hs)) (xs : List Val) : Env' → Hs → Option (Out × Env' × Hs) :=
  List.rec (fun ρ h => some (.nx, ρ, h)) (fun x _ ih ρ h => match f x ρ h with
    | none => none
    | some (.nx, ρ1, h1) => ih ρ1 h1
    | some (.bk, ρ1, h1) => some (.nx, ρ1, h1)
    | some (.rt v, ρ1, h1) => some (.rt v, ρ1, h1)) xs
theorem forK_eq (f : Val → Env' → Hs → Option (Out × Env' × Hs)) : ∀ (xs : List Val) (ρ : Env') (h : Hs), forK f xs ρ h = forGo f xs ρ h
  | [], ρ, h => rfl
  | x :: xs, ρ, h => by
    simp only [forGo]
    show (match f x ρ h with
    | none => none
    | some (.nx, ρ1, h1) => forK f xs ρ1 h1
    | some (.bk, ρ1, h1) => some (.nx, ρ1, h1)
    | some (.rt v, ρ1, h1) => some (.rt v, ρ1, h1)) = (_ : Option (Out × Env' × Hs))
    simp only [forK_eq f xs] <;> rfl
noncomputable def lcK (f : Val → Hs → Option (Option D × Hs)) (xs : List Val) : Hs → Option (List D × Hs) :=
  List.rec (fun h => some ([], h)) (fun x _ ih h => match f x h with
    | none => none
    | some (d, h1) => match ih h1 with
      | none => none
      | some (ds, h2) => some (match d with | some d => d :: ds | none => ds, h2)) xs
theorem lcK_eq (f : Val → Hs → Option (Option D × Hs)) : ∀ (xs : List Val) (h : Hs), lcK f xs h = lcGo f xs h
  | [], h => rfl
  | x :: xs, h => by
    simp only [lcGo]
    show (match f x h with
    | none => none
    | some (d, h1) => match lcK f xs h1 with
      | none => none
      | some (ds, h2) => some (match d with | some d => d :: ds | none => ds, h2)) = _
    simp only [lcK_eq f xs] <;> rfl
noncomputable def whlK (c : Env' → Hs → Option (Bool × Hs)) (f : Env' → Hs → Option (Out × Env' × Hs)) (n : Nat) : Env' → Hs → Option (Out × Env' × Hs) :=
  Nat.rec (fun _ _ => none) (fun _ ih ρ h => match c ρ h with
    | none => none
    | some (false, h1) => some (.nx, ρ, h1)
    | some (true, h1) => match f ρ h1 with
      | none => none
      | some (.nx, ρ2, h2) => ih ρ2 h2
      | some (.bk, ρ2, h2) => some (.nx, ρ2, h2)
      | some (.rt v, ρ2, h2) => some (.rt v, ρ2, h2)) n
theorem whlK_eq (c : Env' → Hs → Option (Bool × Hs)) (f : Env' → Hs → Option (Out × Env' × Hs)) : ∀ (n : Nat) (ρ : Env') (h : Hs), whlK c f n ρ h = whlGo c f n ρ h
  | 0, ρ, h => rfl
  | n + 1, ρ, h => by
    simp only [whlGo]
    show (match c ρ h with
    | none => none
    | some (false, h1) => some (Out.nx, ρ, h1)
    | some (true, h1) => match f ρ h1 with
      | none => none
      | some (.nx, ρ2, h2) => whlK c f n ρ2 h2
      | some (.bk, ρ2, h2) => some (.nx, ρ2, h2)
      | some (.rt v, ρ2, h2) => some (.rt v, ρ2, h2)) = (_ : Option (Out × Env' × Hs))
    simp only [whlK_eq c f n] <;> rfl
noncomputable def wipeK (ρ : Env') (vs : List Nat) : Env' := List.rec ρ (fun v _ ih => setK none ih v) vs
theorem wipeK_eq (ρ : Env') : ∀ vs : List Nat, wipeK ρ vs = wipeE ρ vs
  | [] => rfl
  | v :: vs => by show setK none (wipeK ρ vs) v = _; rw [wipeK_eq ρ vs, setK_eq]; rfl
noncomputable def setAllK (is : List Nat) : List D → Env' → Option Env' :=
  List.rec (fun ds ρ => List.rec (some ρ) (fun _ _ _ => none) ds) (fun i _ ih ds ρ => List.rec none (fun d ds _ => setC (some (.p d)) ρ i fun ρ' => ih ds ρ') ds) is
theorem setAllK_eq : ∀ (is : List Nat) (ds : List D) (ρ : Env'), setAllK is ds ρ = setAll is ds ρ
  | [], [], ρ => rfl
  | [], d :: ds, ρ => rfl
  | i :: is, [], ρ => rfl
  | i :: is, d :: ds, ρ => by show setC (some (Val.p d)) ρ i (fun ρ' => setAllK is ds ρ') = _; rw [setC_eq, setAllK_eq is ds]; rfl
noncomputable def setTgK (t : Tg) (v : Val) (ρ : Env') : Option Env' := match t with
  | .nm i => match v with
    | .new _ => none
    | v => setC (some v) ρ i some
  | .tp is => match v with
    | .p (.tup ds) => setAllK is ds ρ
    | _ => none
theorem setTgK_eq (t : Tg) (v : Val) (ρ : Env') : setTgK t v ρ = setTg t v ρ := by
  cases t with
  | nm i => cases v <;> simp only [setTgK, setTg, setC_eq]
  | tp is => unfold setTgK setTg; simp only [setAllK_eq] <;> rfl
noncomputable def rngK (n : Nat) : Int → List Val := Nat.rec (fun _ => []) (fun _ ih lo => forceI lo fun l => .p (.int l) :: ih (l + 1)) n
theorem rngK_eq : ∀ (n : Nat) (lo : Int), rngK n lo = rngI lo n
  | 0, lo => rfl
  | n + 1, lo => by show forceI lo (fun l => Val.p (.int l) :: rngK n (l + 1)) = _; rw [forceI_eq, rngK_eq n]; rfl
noncomputable def rngVK (vs : List Val) : Option (List Val) := match vs with
  | [.p (.int j)] => if small j then some (rngK j.toNat 0) else none
  | [.p (.int i), .p (.int j)] => if small i && small j then some (rngK (j - i).toNat i) else none
  | vs => rngV vs
theorem rngVK_eq (vs : List Val) : rngVK vs = rngV vs := by
  unfold rngVK
  split
  · simp only [rngK_eq] <;> rfl
  · simp only [rngK_eq] <;> rfl
  · rfl
noncomputable def walkK (v : Val) (h : Hs) : Option (MP.Walk × Hs) := match v with
  | .p (.scr ns) => some (⟨mapK (fun n => .p (.int n)) ns, none⟩, h)
  | .loc n => match nthK h n with
    | some (.lst k xs) => some (⟨mapK .p xs, some (n, .lst k xs)⟩, setK (.lst true xs) h n)
    | some (.ref k ns) => some (⟨mapK .loc ns, some (n, .ref k ns)⟩, setK (.ref true ns) h n)
    | none => none
  | v => match seqK h v with
    | some (_, xs) => some (⟨mapK .p xs, none⟩, h)
    | none => none
theorem walkK_eq (v : Val) (h : Hs) : walkK v h = walkV v h := by
  unfold walkK
  simp only [nthK_eq, setK_eq, mapK_eq, seqK_eq]
  cases v with
  | loc n => rfl
  | new xs => rfl
  | p d => cases d <;> rfl
noncomputable def unlockK (b : Option (Nat × O)) (h : Hs) : Hs := match b with
  | none => h
  | some (n, o) => setK o h n
theorem unlockK_eq (b : Option (Nat × O)) (h : Hs) : unlockK b h = unlock b h := by
  cases b with
  | none => rfl
  | some q => show setK _ _ _ = _; rw [setK_eq]; rfl
noncomputable def forFK (tg : Tg) (b : Env' → Hs → Option (Out × Env' × Hs)) (x : Val) (ρ : Env') (h : Hs) : Option (Out × Env' × Hs) := match setTgK tg x ρ with
  | none => none
  | some ρ2 => b ρ2 h
theorem forFK_eq (tg : Tg) (b : Env' → Hs → Option (Out × Env' × Hs)) : forFK tg b = forF tg b := by
  funext x ρ h
  unfold forFK
  rw [setTgK_eq]
  rfl
noncomputable def lcFK (tg : Tg) (c : Env' → Hs → Option (Bool × Hs)) (e : Env' → Hs → Option (Val × Hs)) (ρ : Env') (x : Val) (h2 : Hs) : Option (Option D × Hs) := match setTgK tg x ρ with
  | none => none
  | some ρ1 => match c ρ1 h2 with
    | none => none
    | some (false, h3) => some (none, h3)
    | some (true, h3) => match e ρ1 h3 with
      | none => none
      | some (v, h4) => match frzD v with
        | none => none
        | some d => some (some d, h4)
theorem lcFK_eq (tg : Tg) (c : Env' → Hs → Option (Bool × Hs)) (e : Env' → Hs → Option (Val × Hs)) (ρ : Env') : lcFK tg c e ρ = lcF tg c e ρ := by
  funext x h
  unfold lcFK
  rw [setTgK_eq]
  rfl
abbrev KV1 := Env' → Hs → Option (Val × Hs)
abbrev KVs := Env' → Hs → Option (List Val × Hs)
abbrev KVo := Env' → Hs → Option (Option Int × Hs)
abbrev KVb := Env' → Hs → Option (Bool × Hs)
abbrev KVi := Env' → Hs → Option (MP.Walk × Hs)
abbrev KS := Env' → Hs → Option (Out × Env' × Hs)
noncomputable def kVar (i : Nat) : KV1 := fun ρ h => match nthK ρ i with
  | some (some v) => some (v, h)
  | _ => none
noncomputable def kLit (d : D) : KV1 := fun _ h => some (.p d, h)
noncomputable def kBin (o : Operator) (a b : KV1) : KV1 := fun ρ h => match a ρ h with
  | none => none
  | some (x, h1) => match b ρ h1 with
    | none => none
    | some (y, h2) => match litV (binV o x y h2) with
      | none => none
      | some v => some (v, h2)
noncomputable def kNeg (a : KV1) : KV1 := fun ρ h => match a ρ h with
  | some (.p (.int i), h1) => forceI (-i) fun j => some (.p (.int j), h1)
  | _ => none
noncomputable def kNot (a : KV1) : KV1 := fun ρ h => match a ρ h with
  | none => none
  | some (v, h1) => match truV h1 v with
    | none => none
    | some b => some (.p (.bl (!b)), h1)
noncomputable def kCmp (o : CmpOp) (a b : KV1) : KV1 := fun ρ h => match a ρ h with
  | none => none
  | some (x, h1) => match b ρ h1 with
    | none => none
    | some (y, h2) => match cmpW o x y h2 with
      | none => none
      | some v => some (v, h2)
noncomputable def kChn (o o' : CmpOp) (a b c : KV1) : KV1 := fun ρ h => match a ρ h with
  | none => none
  | some (x, h1) => match b ρ h1 with
    | none => none
    | some (y, h2) => match cmpV o x y h2 with
      | none => none
      | some false => some (.p (.bl false), h2)
      | some true => match c ρ h2 with
        | none => none
        | some (z, h3) => match cmpV o' y z h3 with
          | none => none
          | some v => some (.p (.bl v), h3)
noncomputable def kAnd (a b : KV1) : KV1 := fun ρ h => match a ρ h with
  | none => none
  | some (v, h1) => match truV h1 v with
    | none => none
    | some true => b ρ h1
    | some false => some (v, h1)
noncomputable def kOr (a b : KV1) : KV1 := fun ρ h => match a ρ h with
  | none => none
  | some (v, h1) => match truV h1 v with
    | none => none
    | some true => some (v, h1)
    | some false => b ρ h1
noncomputable def kIfe (c : KVb) (a b : KV1) : KV1 := fun ρ h => match c ρ h with
  | none => none
  | some (true, h1) => a ρ h1
  | some (false, h1) => b ρ h1
noncomputable def kTup (es : KVs) : KV1 := fun ρ h => match es ρ h with
  | none => none
  | some (vs, h1) => match frzDs vs with
    | none => none
    | some ds => if Nat.ble (lenK ds 0) line then some (.p (.tup ds), h1) else none
noncomputable def kLst (es : KVs) : KV1 := fun ρ h => match es ρ h with
  | none => none
  | some (vs, h1) => match frzDs vs with
    | none => none
    | some ds => if Nat.ble (lenK ds 0) line then some (.new ds, h1) else none
noncomputable def kSub (a i : KV1) : KV1 := fun ρ h => match a ρ h with
  | none => none
  | some (x, h1) => match i ρ h1 with
    | none => none
    | some (y, h2) => match subK x y h2 with
      | none => none
      | some v => some (v, h2)
noncomputable def kSl (a : KV1) (lo hi : KVo) : KV1 := fun ρ h => match a ρ h with
  | none => none
  | some (x, h1) => match lo ρ h1 with
    | none => none
    | some (l, h2) => match hi ρ h2 with
      | none => none
      | some (u, h3) => match slV x l u h3 with
        | none => none
        | some v => some (v, h3)
noncomputable def kRev (a : KV1) : KV1 := fun ρ h => match a ρ h with
  | none => none
  | some (x, h1) => match revV x h1 with
    | none => none
    | some v => some (v, h1)
noncomputable def kLc (own : List Nat) (tg : Tg) (it : KVi) (cd : KVb) (elt : KV1) : KV1 := fun ρ h => match it ρ h with
  | none => none
  | some (w, h1) => match lcK (lcFK tg cd elt (wipeK ρ own)) w.items h1 with
    | none => none
    | some (ds, h5) => if Nat.blt (lenK ds 0) line then some (.new ds, unlockK w.back h5) else none
noncomputable def kCall (F : CallF) (f : Nat) (es : KVs) : KV1 := fun ρ h => match es ρ h with
  | none => none
  | some (vs, h1) => callV F f vs h1
noncomputable def kCallK (F : CallF) (f : Nat) (es ks : KVs) : KV1 := fun ρ h => match es ρ h with
  | none => none
  | some (vs, h1) => match ks ρ h1 with
    | none => none
    | some (ws, h2) => callV F f (vs ++ ws) h2
noncomputable def kBi (b : Bi) (es : KVs) : KV1 := fun ρ h => match es ρ h with
  | none => none
  | some (vs, h1) => match litV (biV b vs h1) with
    | none => none
    | some v => some (v, h1)
noncomputable def kIsi (c : Ty) (a : KV1) : KV1 := fun ρ h => match a ρ h with
  | none => none
  | some (v, h1) => match tyV h1 v with
    | none => none
    | some t => some (.p (.bl (isaT t c)), h1)
noncomputable def kDget (a k d : KV1) : KV1 := fun ρ h => match a ρ h with
  | none => none
  | some (v, h1) => match pairsV v h1 with
    | none => none
    | some kvs => match k ρ h1 with
      | none => none
      | some (x, h2) => match d ρ h2 with
        | none => none
        | some (y, h3) => match dgV kvs x y with
          | none => none
          | some w => some (w, h3)
noncomputable def kNil : KVs := fun _ h => some ([], h)
noncomputable def kCons (a : KV1) (es : KVs) : KVs := fun ρ h => match a ρ h with
  | none => none
  | some (v, h1) => match es ρ h1 with
    | none => none
    | some (vs, h2) => some (v :: vs, h2)
noncomputable def kStar (a : KV1) (es : KVs) : KVs := fun ρ h => match a ρ h with
  | none => none
  | some (v, h1) => match seqD h1 v with
    | none => none
    | some (_, xs) => match es ρ h1 with
      | none => none
      | some (vs, h2) => some (xs.map .p ++ vs, h2)
noncomputable def kNo : KVo := fun _ h => some (none, h)
noncomputable def kYes (a : KV1) : KVo := fun ρ h => match a ρ h with
  | some (.p (.int i), h1) => some (some i, h1)
  | _ => none
noncomputable def kTval (a : KV1) : KVb := fun ρ h => match a ρ h with
  | none => none
  | some (v, h1) => match truV h1 v with
    | none => none
    | some b => some (b, h1)
noncomputable def kTnot (a : KVb) : KVb := fun ρ h => match a ρ h with
  | some (b, h1) => some (!b, h1)
  | none => none
noncomputable def kTand (a b : KVb) : KVb := fun ρ h => match a ρ h with
  | none => none
  | some (true, h1) => b ρ h1
  | some (false, h1) => some (false, h1)
noncomputable def kTor (a b : KVb) : KVb := fun ρ h => match a ρ h with
  | none => none
  | some (true, h1) => some (true, h1)
  | some (false, h1) => b ρ h1
noncomputable def kCno : KVb := fun _ h => some (true, h)
noncomputable def kIval (a : KV1) : KVi := fun ρ h => match a ρ h with
  | none => none
  | some (v, h1) => walkK v h1
noncomputable def kIrng (es : KVs) : KVi := fun ρ h => match es ρ h with
  | none => none
  | some (vs, h1) => match rngVK vs with
    | none => none
    | some xs => some (⟨xs, none⟩, h1)
noncomputable def kIenm (a : KV1) : KVi := fun ρ h => match a ρ h with
  | none => none
  | some (v, h1) => match seqD h1 v with
    | none => none
    | some (_, xs) => match lockV v h1 with
      | (b, h2) => some (⟨enmD 0 xs, b⟩, h2)
noncomputable def kIzip (a b : KV1) : KVi := fun ρ h => match a ρ h with
  | none => none
  | some (x, h1) => match b ρ h1 with
    | none => none
    | some (y, h2) => match frzD x with
      | none => none
      | some d => match frzD y with
        | none => none
        | some e => match d, e with
          | .tup xs, .tup ys => some (⟨zipD xs ys, none⟩, h2)
          | .lst xs, .lst ys => some (⟨zipD xs ys, none⟩, h2)
          | _, _ => none
section
variable (F : CallF)
noncomputable def kE (e : E) : KV1 :=
  E.rec (motive_1 := fun _ => KV1) (motive_2 := fun _ => KVs) (motive_3 := fun _ => KVo) (motive_4 := fun _ => KVb) (motive_5 := fun _ => KVb) (motive_6 := fun _ => KVi)
    kVar kLit (fun _ d => kLit d) (fun o _ _ a b => kBin o a b) (fun _ a => kNeg a) (fun _ a => kNot a) (fun o _ _ a b => kCmp o a b) (fun o o' _ _ _ a b c => kChn o o' a b c) (fun _ a => a) (fun _ _ a b => kAnd a b) (fun _ _ a b => kOr a b) (fun _ _ _ c a b => kIfe c a b)
    (fun _ es => kTup es) (fun _ es => kLst es) (fun _ _ a i => kSub a i) (fun _ _ _ a l u => kSl a l u) (fun _ a => kRev a) (fun own tg _ _ _ it cd elt => kLc own tg it cd elt) (fun f _ es => kCall F f es) (fun f _ _ es ks => kCallK F f es ks) (fun b _ es => kBi b es) (fun c _ a => kIsi c a) (fun _ _ _ a k d => kDget a k d)
    kNil (fun _ _ a es => kCons a es) (fun _ _ a es => kStar a es) kNo (fun _ a => kYes a) (fun _ a => kTval a) (fun _ a => kTnot a) (fun _ a => a) (fun _ _ a b => kTand a b) (fun _ _ a b => kTor a b) kCno (fun _ a => a) (fun _ a => kIval a) (fun _ es => kIrng es) (fun _ a => kIenm a) (fun _ _ a b => kIzip a b) e
noncomputable def kEs (e : Es) : KVs :=
  Es.rec (motive_1 := fun _ => KV1) (motive_2 := fun _ => KVs) (motive_3 := fun _ => KVo) (motive_4 := fun _ => KVb) (motive_5 := fun _ => KVb) (motive_6 := fun _ => KVi)
    kVar kLit (fun _ d => kLit d) (fun o _ _ a b => kBin o a b) (fun _ a => kNeg a) (fun _ a => kNot a) (fun o _ _ a b => kCmp o a b) (fun o o' _ _ _ a b c => kChn o o' a b c) (fun _ a => a) (fun _ _ a b => kAnd a b) (fun _ _ a b => kOr a b) (fun _ _ _ c a b => kIfe c a b)
    (fun _ es => kTup es) (fun _ es => kLst es) (fun _ _ a i => kSub a i) (fun _ _ _ a l u => kSl a l u) (fun _ a => kRev a) (fun own tg _ _ _ it cd elt => kLc own tg it cd elt) (fun f _ es => kCall F f es) (fun f _ _ es ks => kCallK F f es ks) (fun b _ es => kBi b es) (fun c _ a => kIsi c a) (fun _ _ _ a k d => kDget a k d)
    kNil (fun _ _ a es => kCons a es) (fun _ _ a es => kStar a es) kNo (fun _ a => kYes a) (fun _ a => kTval a) (fun _ a => kTnot a) (fun _ a => a) (fun _ _ a b => kTand a b) (fun _ _ a b => kTor a b) kCno (fun _ a => a) (fun _ a => kIval a) (fun _ es => kIrng es) (fun _ a => kIenm a) (fun _ _ a b => kIzip a b) e
noncomputable def kEo (e : Eo) : KVo :=
  Eo.rec (motive_1 := fun _ => KV1) (motive_2 := fun _ => KVs) (motive_3 := fun _ => KVo) (motive_4 := fun _ => KVb) (motive_5 := fun _ => KVb) (motive_6 := fun _ => KVi)
    kVar kLit (fun _ d => kLit d) (fun o _ _ a b => kBin o a b) (fun _ a => kNeg a) (fun _ a => kNot a) (fun o _ _ a b => kCmp o a b) (fun o o' _ _ _ a b c => kChn o o' a b c) (fun _ a => a) (fun _ _ a b => kAnd a b) (fun _ _ a b => kOr a b) (fun _ _ _ c a b => kIfe c a b)
    (fun _ es => kTup es) (fun _ es => kLst es) (fun _ _ a i => kSub a i) (fun _ _ _ a l u => kSl a l u) (fun _ a => kRev a) (fun own tg _ _ _ it cd elt => kLc own tg it cd elt) (fun f _ es => kCall F f es) (fun f _ _ es ks => kCallK F f es ks) (fun b _ es => kBi b es) (fun c _ a => kIsi c a) (fun _ _ _ a k d => kDget a k d)
    kNil (fun _ _ a es => kCons a es) (fun _ _ a es => kStar a es) kNo (fun _ a => kYes a) (fun _ a => kTval a) (fun _ a => kTnot a) (fun _ a => a) (fun _ _ a b => kTand a b) (fun _ _ a b => kTor a b) kCno (fun _ a => a) (fun _ a => kIval a) (fun _ es => kIrng es) (fun _ a => kIenm a) (fun _ _ a b => kIzip a b) e
noncomputable def kT (e : T) : KVb :=
  T.rec (motive_1 := fun _ => KV1) (motive_2 := fun _ => KVs) (motive_3 := fun _ => KVo) (motive_4 := fun _ => KVb) (motive_5 := fun _ => KVb) (motive_6 := fun _ => KVi)
    kVar kLit (fun _ d => kLit d) (fun o _ _ a b => kBin o a b) (fun _ a => kNeg a) (fun _ a => kNot a) (fun o _ _ a b => kCmp o a b) (fun o o' _ _ _ a b c => kChn o o' a b c) (fun _ a => a) (fun _ _ a b => kAnd a b) (fun _ _ a b => kOr a b) (fun _ _ _ c a b => kIfe c a b)
    (fun _ es => kTup es) (fun _ es => kLst es) (fun _ _ a i => kSub a i) (fun _ _ _ a l u => kSl a l u) (fun _ a => kRev a) (fun own tg _ _ _ it cd elt => kLc own tg it cd elt) (fun f _ es => kCall F f es) (fun f _ _ es ks => kCallK F f es ks) (fun b _ es => kBi b es) (fun c _ a => kIsi c a) (fun _ _ _ a k d => kDget a k d)
    kNil (fun _ _ a es => kCons a es) (fun _ _ a es => kStar a es) kNo (fun _ a => kYes a) (fun _ a => kTval a) (fun _ a => kTnot a) (fun _ a => a) (fun _ _ a b => kTand a b) (fun _ _ a b => kTor a b) kCno (fun _ a => a) (fun _ a => kIval a) (fun _ es => kIrng es) (fun _ a => kIenm a) (fun _ _ a b => kIzip a b) e
noncomputable def kTo (e : To) : KVb :=
  To.rec (motive_1 := fun _ => KV1) (motive_2 := fun _ => KVs) (motive_3 := fun _ => KVo) (motive_4 := fun _ => KVb) (motive_5 := fun _ => KVb) (motive_6 := fun _ => KVi)
    kVar kLit (fun _ d => kLit d) (fun o _ _ a b => kBin o a b) (fun _ a => kNeg a) (fun _ a => kNot a) (fun o _ _ a b => kCmp o a b) (fun o o' _ _ _ a b c => kChn o o' a b c) (fun _ a => a) (fun _ _ a b => kAnd a b) (fun _ _ a b => kOr a b) (fun _ _ _ c a b => kIfe c a b)
    (fun _ es => kTup es) (fun _ es => kLst es) (fun _ _ a i => kSub a i) (fun _ _ _ a l u => kSl a l u) (fun _ a => kRev a) (fun own tg _ _ _ it cd elt => kLc own tg it cd elt) (fun f _ es => kCall F f es) (fun f _ _ es ks => kCallK F f es ks) (fun b _ es => kBi b es) (fun c _ a => kIsi c a) (fun _ _ _ a k d => kDget a k d)
    kNil (fun _ _ a es => kCons a es) (fun _ _ a es => kStar a es) kNo (fun _ a => kYes a) (fun _ a => kTval a) (fun _ a => kTnot a) (fun _ a => a) (fun _ _ a b => kTand a b) (fun _ _ a b => kTor a b) kCno (fun _ a => a) (fun _ a => kIval a) (fun _ es => kIrng es) (fun _ a => kIenm a) (fun _ _ a b => kIzip a b) e
noncomputable def kI (e : MP.It) : KVi :=
  It.rec (motive_1 := fun _ => KV1) (motive_2 := fun _ => KVs) (motive_3 := fun _ => KVo) (motive_4 := fun _ => KVb) (motive_5 := fun _ => KVb) (motive_6 := fun _ => KVi)
    kVar kLit (fun _ d => kLit d) (fun o _ _ a b => kBin o a b) (fun _ a => kNeg a) (fun _ a => kNot a) (fun o _ _ a b => kCmp o a b) (fun o o' _ _ _ a b c => kChn o o' a b c) (fun _ a => a) (fun _ _ a b => kAnd a b) (fun _ _ a b => kOr a b) (fun _ _ _ c a b => kIfe c a b)
    (fun _ es => kTup es) (fun _ es => kLst es) (fun _ _ a i => kSub a i) (fun _ _ _ a l u => kSl a l u) (fun _ a => kRev a) (fun own tg _ _ _ it cd elt => kLc own tg it cd elt) (fun f _ es => kCall F f es) (fun f _ _ es ks => kCallK F f es ks) (fun b _ es => kBi b es) (fun c _ a => kIsi c a) (fun _ _ _ a k d => kDget a k d)
    kNil (fun _ _ a es => kCons a es) (fun _ _ a es => kStar a es) kNo (fun _ a => kYes a) (fun _ a => kTval a) (fun _ a => kTnot a) (fun _ a => a) (fun _ _ a b => kTand a b) (fun _ _ a b => kTor a b) kCno (fun _ a => a) (fun _ a => kIval a) (fun _ es => kIrng es) (fun _ a => kIenm a) (fun _ _ a b => kIzip a b) e
mutual
theorem kE_eq : ∀ e : E, kE F e = evE F e
  | .var i => by funext ρ h; show kVar i ρ h = _; simp only [kVar, nthK_eq] <;> rfl
  | .lit d => rfl
  | .glo x d => rfl
  | .bin o a b => by show kBin o (kE F a) (kE F b) = _; rw [kE_eq a, kE_eq b]; funext ρ h; simp only [kBin, litV_eq] <;> rfl
  | .neg a => by show kNeg (kE F a) = _; rw [kE_eq a]; funext ρ h; simp only [kNeg, forceI_eq] <;> rfl
  | .not a => by show kNot (kE F a) = _; rw [kE_eq a]; rfl
  | .cmp o a b => by show kCmp o (kE F a) (kE F b) = _; rw [kE_eq a, kE_eq b]; rfl
  | .chn o o' a b c => by show kChn o o' (kE F a) (kE F b) (kE F c) = _; rw [kE_eq a, kE_eq b, kE_eq c]; rfl
  | .one a => by show kE F a = _; rw [kE_eq a]; rfl
  | .and a b => by show kAnd (kE F a) (kE F b) = _; rw [kE_eq a, kE_eq b]; rfl
  | .or a b => by show kOr (kE F a) (kE F b) = _; rw [kE_eq a, kE_eq b]; rfl
  | .ife c a b => by show kIfe (kT F c) (kE F a) (kE F b) = _; rw [kT_eq c, kE_eq a, kE_eq b]; rfl
  | .tup es => by show kTup (kEs F es) = _; rw [kEs_eq es]; funext ρ h; simp only [kTup, nthK_eq, setK_eq, lenK_eq, appK_eq, mapK_eq, atK_eq, setVK_eq, seqK_eq, subK_eq, appVK_eq, bindK_eq, forK_eq, lcK_eq, whlK_eq, wipeK_eq, setAllK_eq, setTgK_eq, setC_eq, appC_eq, litV_eq, forceI_eq, rngVK_eq, walkK_eq, unlockK_eq, forFK_eq, lcFK_eq, Nat.zero_add] <;> rfl
  | .lst es => by show kLst (kEs F es) = _; rw [kEs_eq es]; funext ρ h; simp only [kLst, nthK_eq, setK_eq, lenK_eq, appK_eq, mapK_eq, atK_eq, setVK_eq, seqK_eq, subK_eq, appVK_eq, bindK_eq, forK_eq, lcK_eq, whlK_eq, wipeK_eq, setAllK_eq, setTgK_eq, setC_eq, appC_eq, litV_eq, forceI_eq, rngVK_eq, walkK_eq, unlockK_eq, forFK_eq, lcFK_eq, Nat.zero_add] <;> rfl
  | .sub a i => by show kSub (kE F a) (kE F i) = _; rw [kE_eq a, kE_eq i]; funext ρ h; simp only [kSub, nthK_eq, setK_eq, lenK_eq, appK_eq, mapK_eq, atK_eq, setVK_eq, seqK_eq, subK_eq, appVK_eq, bindK_eq, forK_eq, lcK_eq, whlK_eq, wipeK_eq, setAllK_eq, setTgK_eq, setC_eq, appC_eq, litV_eq, forceI_eq, rngVK_eq, walkK_eq, unlockK_eq, forFK_eq, lcFK_eq, Nat.zero_add] <;> rfl
  | .sl a lo hi => by show kSl (kE F a) (kEo F lo) (kEo F hi) = _; rw [kE_eq a, kEo_eq lo, kEo_eq hi]; rfl
  | .rev a => by show kRev (kE F a) = _; rw [kE_eq a]; rfl
  | .lc own tg it cd elt => by show kLc own tg (kI F it) (kTo F cd) (kE F elt) = _; rw [kI_eq it, kTo_eq cd, kE_eq elt]; funext ρ h; simp only [kLc, nthK_eq, setK_eq, lenK_eq, appK_eq, mapK_eq, atK_eq, setVK_eq, seqK_eq, subK_eq, appVK_eq, bindK_eq, forK_eq, lcK_eq, whlK_eq, wipeK_eq, setAllK_eq, setTgK_eq, setC_eq, appC_eq, litV_eq, forceI_eq, rngVK_eq, walkK_eq, unlockK_eq, forFK_eq, lcFK_eq, Nat.zero_add] <;> rfl
  | .call f es => by show kCall F f (kEs F es) = _; rw [kEs_eq es]; rfl
  | .callK f es ks => by show kCallK F f (kEs F es) (kEs F ks) = _; rw [kEs_eq es, kEs_eq ks]; rfl
  | .bi b es => by show kBi b (kEs F es) = _; rw [kEs_eq es]; funext ρ h; simp only [kBi, litV_eq] <;> rfl
  | .isi c a => by show kIsi c (kE F a) = _; rw [kE_eq a]; rfl
  | .dget a k d => by show kDget (kE F a) (kE F k) (kE F d) = _; rw [kE_eq a, kE_eq k, kE_eq d]; rfl
theorem kEs_eq : ∀ e : Es, kEs F e = evEs F e
  | .nil => rfl
  | .cons a es => by show kCons (kE F a) (kEs F es) = _; rw [kE_eq a, kEs_eq es]; rfl
  | .star a es => by show kStar (kE F a) (kEs F es) = _; rw [kE_eq a, kEs_eq es]; rfl
theorem kEo_eq : ∀ e : Eo, kEo F e = evO F e
  | .no => rfl
  | .yes a => by show kYes (kE F a) = _; rw [kE_eq a]; rfl
theorem kT_eq : ∀ e : T, kT F e = evT F e
  | .val a => by show kTval (kE F a) = _; rw [kE_eq a]; rfl
  | .not a => by show kTnot (kT F a) = _; rw [kT_eq a]; rfl
  | .one a => by show kT F a = _; rw [kT_eq a]; rfl
  | .and a b => by show kTand (kT F a) (kT F b) = _; rw [kT_eq a, kT_eq b]; rfl
  | .or a b => by show kTor (kT F a) (kT F b) = _; rw [kT_eq a, kT_eq b]; rfl
theorem kTo_eq : ∀ e : To, kTo F e = evC F e
  | .no => rfl
  | .yes a => by show kT F a = _; rw [kT_eq a]; rfl
theorem kI_eq : ∀ e : MP.It, kI F e = evI F e
  | .val a => by show kIval (kE F a) = _; rw [kE_eq a]; funext ρ h; simp only [kIval, nthK_eq, setK_eq, lenK_eq, appK_eq, mapK_eq, atK_eq, setVK_eq, seqK_eq, subK_eq, appVK_eq, bindK_eq, forK_eq, lcK_eq, whlK_eq, wipeK_eq, setAllK_eq, setTgK_eq, setC_eq, appC_eq, litV_eq, forceI_eq, rngVK_eq, walkK_eq, unlockK_eq, forFK_eq, lcFK_eq, Nat.zero_add] <;> rfl
  | .rng es => by show kIrng (kEs F es) = _; rw [kEs_eq es]; funext ρ h; simp only [kIrng, nthK_eq, setK_eq, lenK_eq, appK_eq, mapK_eq, atK_eq, setVK_eq, seqK_eq, subK_eq, appVK_eq, bindK_eq, forK_eq, lcK_eq, whlK_eq, wipeK_eq, setAllK_eq, setTgK_eq, setC_eq, appC_eq, litV_eq, forceI_eq, rngVK_eq, walkK_eq, unlockK_eq, forFK_eq, lcFK_eq, Nat.zero_add] <;> rfl
  | .enm a => by show kIenm (kE F a) = _; rw [kE_eq a]; rfl
  | .zip a b => by show kIzip (kE F a) (kE F b) = _; rw [kE_eq a, kE_eq b]; rfl
end
/-! statements -/
noncomputable def kAsg (i : Nat) (e : KV1) : KS := fun ρ h => match e ρ h with
  | none => none
  | some (v, h1) => setC (some (bindK v h1).1) ρ i fun ρ' => some (.nx, ρ', (bindK v h1).2)
noncomputable def kStup (is : List Nat) (e : KV1) : KS := fun ρ h => match e ρ h with
  | some (.p (.tup ds), h1) => match setAllK is ds ρ with
    | none => none
    | some ρ1 => some (.nx, ρ1, h1)
  | _ => none
noncomputable def kPar (is : List Nat) (es : KVs) : KS := fun ρ h => match es ρ h with
  | none => none
  | some (vs, h1) => match bindAll is vs ρ h1 with
    | none => none
    | some (ρ1, h2) => some (.nx, ρ1, h2)
noncomputable def kSet (o i e : KV1) : KS := fun ρ h => match e ρ h with
  | none => none
  | some (v, h1) => match frzD v with
    | none => none
    | some d => match o ρ h1 with
      | some (.loc n, h2) => match i ρ h2 with
        | some (.p (.int k), h3) => match setVK h3 n k d with
          | none => none
          | some h4 => some (.nx, ρ, h4)
        | _ => none
      | _ => none
noncomputable def kApp (o e : KV1) : KS := fun ρ h => match o ρ h with
  | some (.loc n, h1) => match e ρ h1 with
    | none => none
    | some (v, h2) => match appVK h2 n v with
      | none => none
      | some h3 => some (.nx, ρ, h3)
  | _ => none
noncomputable def kTsn (o i : KV1) (j : Nat) (e : KV1) : KS := fun ρ h => match e ρ h with
  | some (.p (.tup [d, d2]), h1) => match o ρ h1 with
    | some (.loc n, h2) => match i ρ h2 with
      | some (.p (.int k), h3) => match setVK h3 n k d with
        | none => none
        | some h4 => setC (some (.p d2)) ρ j fun ρ' => some (.nx, ρ', h4)
      | _ => none
    | _ => none
  | _ => none
noncomputable def kEx (e : KV1) : KS := fun ρ h => match e ρ h with
  | none => none
  | some (_, h1) => some (.nx, ρ, h1)
noncomputable def kRet (e : KV1) : KS := fun ρ h => match e ρ h with
  | none => none
  | some (v, h1) => some (.rt v, ρ, h1)
noncomputable def kRetN : KS := fun ρ h => some (.rt (.p .non), ρ, h)
noncomputable def kSife (c : KVb) (a b : KS) : KS := fun ρ h => match c ρ h with
  | none => none
  | some (true, h1) => a ρ h1
  | some (false, h1) => b ρ h1
noncomputable def kFor (tg : Tg) (it : KVi) (b : KS) : KS := fun ρ h => match it ρ h with
  | none => none
  | some (w, h1) => match forK (forFK tg b) w.items ρ h1 with
    | none => none
    | some (o, ρ1, h2) => some (o, ρ1, unlockK w.back h2)
noncomputable def kWhl (c : KVb) (b : KS) : KS := fun ρ h => whlK c b fuelW ρ h
noncomputable def kBrk : KS := fun ρ h => some (.bk, ρ, h)
noncomputable def kPss : KS := fun ρ h => some (.nx, ρ, h)
noncomputable def kNev : KS := fun _ _ => none
noncomputable def kSeq (s : KS) (ss : KS) : KS := fun ρ h => match s ρ h with
  | none => none
  | some (.nx, ρ1, h1) => ss ρ1 h1
  | some r => some r
noncomputable def kS (s : S) : KS :=
  S.rec (motive_1 := fun _ => KS) (motive_2 := fun _ => KS) (fun i e => kAsg i (kE F e)) (fun is e => kStup is (kE F e)) (fun is es => kPar is (kEs F es)) (fun o i e => kSet (kE F o) (kE F i) (kE F e)) (fun o e => kApp (kE F o) (kE F e)) (fun o i j e => kTsn (kE F o) (kE F i) j (kE F e)) (fun e => kEx (kE F e)) (fun e => kRet (kE F e)) kRetN
    (fun c _ _ a b => kSife (kT F c) a b) (fun tg it _ b => kFor tg (kI F it) b) (fun c _ b => kWhl (kT F c) b) kBrk kPss kNev kPss (fun _ _ s ss => kSeq s ss) s
noncomputable def kSs (s : Ss) : KS :=
  Ss.rec (motive_1 := fun _ => KS) (motive_2 := fun _ => KS) (fun i e => kAsg i (kE F e)) (fun is e => kStup is (kE F e)) (fun is es => kPar is (kEs F es)) (fun o i e => kSet (kE F o) (kE F i) (kE F e)) (fun o e => kApp (kE F o) (kE F e)) (fun o i j e => kTsn (kE F o) (kE F i) j (kE F e)) (fun e => kEx (kE F e)) (fun e => kRet (kE F e)) kRetN
    (fun c _ _ a b => kSife (kT F c) a b) (fun tg it _ b => kFor tg (kI F it) b) (fun c _ b => kWhl (kT F c) b) kBrk kPss kNev kPss (fun _ _ s ss => kSeq s ss) s
mutual
theorem kS_eq : ∀ s : S, kS F s = evS F s
  | .asg i e => by show kAsg i (kE F e) = _; rw [kE_eq]; funext ρ h; simp only [kAsg, nthK_eq, setK_eq, lenK_eq, appK_eq, mapK_eq, atK_eq, setVK_eq, seqK_eq, subK_eq, appVK_eq, bindK_eq, forK_eq, lcK_eq, whlK_eq, wipeK_eq, setAllK_eq, setTgK_eq, setC_eq, appC_eq, litV_eq, forceI_eq, rngVK_eq, walkK_eq, unlockK_eq, forFK_eq, lcFK_eq, Nat.zero_add] <;> rfl
  | .tup is e => by show kStup is (kE F e) = _; rw [kE_eq]; funext ρ h; simp only [kStup, nthK_eq, setK_eq, lenK_eq, appK_eq, mapK_eq, atK_eq, setVK_eq, seqK_eq, subK_eq, appVK_eq, bindK_eq, forK_eq, lcK_eq, whlK_eq, wipeK_eq, setAllK_eq, setTgK_eq, setC_eq, appC_eq, litV_eq, forceI_eq, rngVK_eq, walkK_eq, unlockK_eq, forFK_eq, lcFK_eq, Nat.zero_add] <;> rfl
  | .par is es => by show kPar is (kEs F es) = _; rw [kEs_eq]; rfl
  | .set o i e => by show kSet (kE F o) (kE F i) (kE F e) = _; rw [kE_eq, kE_eq, kE_eq]; funext ρ h; simp only [kSet, nthK_eq, setK_eq, lenK_eq, appK_eq, mapK_eq, atK_eq, setVK_eq, seqK_eq, subK_eq, appVK_eq, bindK_eq, forK_eq, lcK_eq, whlK_eq, wipeK_eq, setAllK_eq, setTgK_eq, setC_eq, appC_eq, litV_eq, forceI_eq, rngVK_eq, walkK_eq, unlockK_eq, forFK_eq, lcFK_eq, Nat.zero_add] <;> rfl
  | .app o e => by show kApp (kE F o) (kE F e) = _; rw [kE_eq, kE_eq]; funext ρ h; simp only [kApp, nthK_eq, setK_eq, lenK_eq, appK_eq, mapK_eq, atK_eq, setVK_eq, seqK_eq, subK_eq, appVK_eq, bindK_eq, forK_eq, lcK_eq, whlK_eq, wipeK_eq, setAllK_eq, setTgK_eq, setC_eq, appC_eq, litV_eq, forceI_eq, rngVK_eq, walkK_eq, unlockK_eq, forFK_eq, lcFK_eq, Nat.zero_add] <;> rfl
  | .tsn o i j e => by show kTsn (kE F o) (kE F i) j (kE F e) = _; rw [kE_eq, kE_eq, kE_eq]; funext ρ h; simp only [kTsn, nthK_eq, setK_eq, lenK_eq, appK_eq, mapK_eq, atK_eq, setVK_eq, seqK_eq, subK_eq, appVK_eq, bindK_eq, forK_eq, lcK_eq, whlK_eq, wipeK_eq, setAllK_eq, setTgK_eq, setC_eq, appC_eq, litV_eq, forceI_eq, rngVK_eq, walkK_eq, unlockK_eq, forFK_eq, lcFK_eq, Nat.zero_add] <;> rfl
  | .ex e => by show kEx (kE F e) = _; rw [kE_eq]; rfl
  | .ret e => by show kRet (kE F e) = _; rw [kE_eq]; rfl
  | .retN => rfl
  | .ife c a b => by show kSife (kT F c) (kSs F a) (kSs F b) = _; rw [kT_eq, kSs_eq a, kSs_eq b]; rfl
  | .for_ tg it b => by show kFor tg (kI F it) (kSs F b) = _; rw [kI_eq, kSs_eq b]; funext ρ h; simp only [kFor, nthK_eq, setK_eq, lenK_eq, appK_eq, mapK_eq, atK_eq, setVK_eq, seqK_eq, subK_eq, appVK_eq, bindK_eq, forK_eq, lcK_eq, whlK_eq, wipeK_eq, setAllK_eq, setTgK_eq, setC_eq, appC_eq, litV_eq, forceI_eq, rngVK_eq, walkK_eq, unlockK_eq, forFK_eq, lcFK_eq, Nat.zero_add] <;> rfl
  | .whl c b => by show kWhl (kT F c) (kSs F b) = _; rw [kT_eq, kSs_eq b]; funext ρ h; simp only [kWhl, nthK_eq, setK_eq, lenK_eq, appK_eq, mapK_eq, atK_eq, setVK_eq, seqK_eq, subK_eq, appVK_eq, bindK_eq, forK_eq, lcK_eq, whlK_eq, wipeK_eq, setAllK_eq, setTgK_eq, setC_eq, appC_eq, litV_eq, forceI_eq, rngVK_eq, walkK_eq, unlockK_eq, forFK_eq, lcFK_eq, Nat.zero_add] <;> rfl
  | .brk => rfl
  | .pss => rfl
  | .nev => rfl
theorem kSs_eq : ∀ s : Ss, kSs F s = evSs F s
  | .nil => rfl
  | .cons s ss => by show kSeq (kS F s) (kSs F ss) = _; rw [kS_eq s, kSs_eq ss]; rfl
end
end
noncomputable def kRun (b : KS) (f : Fn) (as : List MP.Arg) : Option (Ret × List (List D)) :=
  if Nat.beq as.length f.np then match b (start' f.nn as 0) (heap' as) with
    | none => none
    | some (o, _, h) => match (match o with | .rt v => retD (heap' as).length h v | .nx => some (.p .non) | .bk => none), outs' as h with
      | some r, some xs => some (r, xs)
      | _, _ => none
  else none
noncomputable def kD (T : Tab) (n : Nat) : CallF :=
  Nat.rec (fun _ _ => none) (fun _ F i as => match T[i]? with
    | some f => kRun (kSs F f.body) f as
    | none => none) n
theorem kD_eq (T : Tab) : ∀ n, kD T n = callD T n
  | 0 => rfl
  | n + 1 => by
    funext i as
    show (match T[i]? with | some f => kRun (kSs (kD T n) f.body) f as | none => none) = callD T (n + 1) i as
    rw [kD_eq T n]
    simp only [callD]
    cases T[i]? with
    | none => rfl
    | some f => show kRun (kSs (callD T n) f.body) f as = runFn (callD T n) f as; rw [kSs_eq]; rfl
end MP

/-! ## K45D.lean -/
set_option Elab.async false
set_option linter.all false
set_option maxRecDepth 100000
namespace K45
open PySem MP L2
def top (i : Nat) : Stmt := PySem.Challenge.pw_letparts_k45_whole_fives.main.body.getD i (.Pass ⟨0, 0, 0, 0⟩)
def t_fives_to_0 : T := (.val (.cmp .LtE (.bin .FloorDiv (.bin .Mult (.var 2) (.bin .Sub (.bin .Mult (.lit (.int 3)) (.var 2)) (.lit (.int 1)))) (.lit (.int 2))) (.var 0)))
def b_fives_to_1 : Ss := (.cons (.asg 3 (.ife (.val (.cmp .Eq (.bin .Mod (.bi .int (.cons (.var 2) .nil)) (.lit (.int 2))) (.lit (.int 0)))) (.lit (.int 1)) (.neg (.lit (.int 1)))))
    (.cons (.app (.var 1) (.tup (.cons (.bin .FloorDiv (.bin .Mult (.var 2) (.bin .Sub (.bin .Mult (.lit (.int 3)) (.var 2)) (.lit (.int 1)))) (.lit (.int 2))) (.cons (.var 3) .nil))))
    (.cons (.ife (.and (.val (.cmp .Gt (.var 2) (.lit (.int 0)))) (.one (.val (.cmp .LtE (.bin .FloorDiv (.bin .Mult (.var 2) (.bin .Add (.bin .Mult (.lit (.int 3)) (.var 2)) (.lit (.int 1)))) (.lit (.int 2))) (.var 0))))) (.cons (.app (.var 1) (.tup (.cons (.bin .FloorDiv (.bin .Mult (.var 2) (.bin .Add (.bin .Mult (.lit (.int 3)) (.var 2)) (.lit (.int 1)))) (.lit (.int 2))) (.cons (.var 3) .nil))))
    .nil) .nil)
    (.cons (.asg 2 (.bin .Add (.var 2) (.lit (.int 1))))
    .nil))))
def e_fives_0 : E := (.var 1)
def b__law_jar_0 : Ss := (.cons (.asg 3 (.bin .Mod (.bi .int (.cons (.bin .Add (.bin .Add (.bin .Mult (.var 3) (.lit (.int 40993))) (.bin .Mod (.bi .int (.cons (.var 4) .nil)) (.lit (.int 2147483549)))) (.lit (.int 19))) .nil)) (.lit (.int 2147483549))))
    .nil)
def c__law_fives_to_0 : To := (.yes (.val (.cmp .LtE (.sub (.var 3) (.lit (.int 0))) (.var 0))))
def e__law_fives_to_1 : E := (.var 3)
def e__law_fives_to_2 : E := (.tup (.cons (.bin .FloorDiv (.bin .Mult (.var 2) (.bin .Sub (.bin .Mult (.lit (.int 3)) (.var 2)) (.lit (.int 1)))) (.lit (.int 2))) (.cons (.var 2) .nil)))
def b__law_differences_0 : Ss := (.cons (.set (.var 1) (.var 3) (.bin .Sub (.sub (.var 1) (.var 3)) (.sub (.var 1) (.bin .Sub (.var 3) (.var 2)))))
    .nil)
def b__law_differences_1 : Ss := (.cons (.for_ (.nm 3) (.rng (.cons (.var 0) (.cons (.bin .Sub (.var 2) (.lit (.int 1))) (.cons (.neg (.lit (.int 1))) .nil)))) b__law_differences_0)
    .nil)
def c__law_number_right_0 : To := (.yes (.val (.cmp .Eq (.var 6) (.var 0))))
def e__law_number_right_1 : E := (.ife (.val (.cmp .Eq (.bin .Mod (.bi .int (.cons (.var 7) .nil)) (.lit (.int 2))) (.lit (.int 0)))) (.lit (.int 1)) (.neg (.lit (.int 1))))
def e__law_number_right_2 : E := (.sub (.var 5) (.lit (.int 0)))
def e__law_right_0 : E := (.call 6 (.cons (.var 5) .nil))
def e__law_right_1 : E := (.call 12 (.cons (.var 5) .nil))
def e__law_right_2 : E := (.sub (.var 4) (.lit (.int 0)))
def e_law_0 : E := (.call 13 (.cons (.call 7 (.cons (.var 0) (.cons (.var 1) .nil))) .nil))
def f_is_integer : Fn := ⟨1, 1,
    (.cons (.ret (.and (.isi .int (.var 0)) (.one (.not (.isi .bool (.var 0))))))
    .nil)⟩
def f_is_within_bounds : Fn := ⟨3, 3,
    (.cons (.ret (.and (.call 0 (.cons (.var 0) .nil)) (.one (.chn .LtE .LtE (.var 1) (.var 0) (.var 2)))))
    .nil)⟩
def f_check_within : Fn := ⟨3, 3,
    (.cons (.ife (.not (.val (.call 1 (.cons (.var 0) (.cons (.var 1) (.cons (.var 2) .nil)))))) (.cons .nev
    .nil) .nil)
    .nil)⟩
def f_check_number : Fn := ⟨1, 1,
    (.cons (.ex (.call 2 (.cons (.var 0) (.cons (.lit (.int 0)) (.cons (.glo ("MOST_NUMBER" : Str) (.int 400)) .nil)))))
    .nil)⟩
def f_fives_to : Fn := ⟨1, 4,
    (.cons (.par [1, 2] (.cons (.lst .nil) (.cons (.lit (.int 0)) .nil)))
    (.cons (.whl t_fives_to_0 b_fives_to_1)
    (.cons (.ret (.var 1))
    .nil)))⟩
def f_fives : Fn := ⟨1, 3,
    (.cons (.ex (.call 3 (.cons (.var 0) .nil)))
    (.cons (.ret (.bi .tuple (.cons (.lc [1, 2] (.tp [1, 2]) (.val (.call 4 (.cons (.var 0) .nil))) .no e_fives_0) .nil)))
    .nil))⟩
def f_even_less_odd : Fn := ⟨1, 1,
    (.cons (.ex (.call 3 (.cons (.var 0) .nil)))
    (.cons (.ret (.dget (.call 4 (.cons (.var 0) .nil)) (.var 0) (.lit (.int 0))))
    .nil))⟩
def f__law_jar : Fn := ⟨2, 5,
    (.cons (.asg 2 (.ife (.val (.cmp .Lt (.var 1) (.bi .len (.cons (.var 0) .nil)))) (.bi .int (.cons (.sub (.var 0) (.var 1)) .nil)) (.bin .Add (.bin .Add (.bin .Mult (.lit (.int 613)) (.var 1)) (.lit (.int 41))) (.bin .Mod (.bi .int (.cons (.bi .sum (.cons (.sl (.var 0) .no (.yes (.lit (.int 1)))) .nil)) .nil)) (.lit (.int 1000003))))))
    (.cons (.asg 3 (.bin .Add (.lit (.int 60013)) (.bin .Mult (.lit (.int 7907)) (.var 1))))
    (.cons (.for_ (.nm 4) (.val (.bin .Add (.sl (.var 0) .no (.yes (.lit (.int 6)))) (.lst (.cons (.var 2) .nil)))) b__law_jar_0)
    (.cons (.ret (.lst (.cons (.ife (.or (.val (.cmp .Lt (.var 2) (.lit (.int 0)))) (.one (.val (.cmp .GtE (.var 2) (.bin .Pow (.lit (.int 10)) (.lit (.int 17))))))) (.bi .abs (.cons (.var 2) .nil)) (.lit (.int 0))) (.cons (.var 3) (.cons (.lit (.int 0)) .nil)))))
    .nil))))⟩
def f__law_dip : Fn := ⟨2, 4,
    (.cons (.set (.var 0) (.lit (.int 2)) (.bin .Add (.sub (.var 0) (.lit (.int 2))) (.lit (.int 1))))
    (.cons (.ife (.val (.cmp .Gt (.sub (.var 0) (.lit (.int 0))) (.lit (.int 0)))) (.cons (.tsn (.var 0) (.lit (.int 0)) 3 (.bi .divmod (.cons (.sub (.var 0) (.lit (.int 0))) (.cons (.var 1) .nil))))
    (.cons (.ret (.var 3))
    .nil)) .nil)
    (.cons (.asg 2 (.bin .Add (.bin .Mod (.bi .int (.cons (.sub (.var 0) (.lit (.int 1))) .nil)) (.lit (.int 30011))) (.lit (.int 40009))))
    (.cons (.set (.var 0) (.lit (.int 1)) (.bin .Mod (.bi .int (.cons (.bin .Add (.bin .Add (.bin .Mult (.sub (.var 0) (.lit (.int 1))) (.var 2)) (.bin .Mult (.lit (.int 60007)) (.sub (.var 0) (.lit (.int 2))))) (.lit (.int 13))) .nil)) (.lit (.int 2147483549))))
    (.cons (.ret (.bin .Mod (.bi .int (.cons (.bin .FloorDiv (.sub (.var 0) (.lit (.int 1))) (.lit (.int 89))) .nil)) (.var 1)))
    .nil)))))⟩
def f__law_one_of : Fn := ⟨2, 2,
    (.cons (.ret (.sub (.var 1) (.call 8 (.cons (.var 0) (.cons (.bi .len (.cons (.var 1) .nil)) .nil)))))
    .nil)⟩
def f__law_fives_to : Fn := ⟨1, 4,
    (.cons (.asg 1 (.lc [2] (.nm 2) (.rng (.cons (.neg (.lit (.int 17))) (.cons (.lit (.int 18)) .nil))) .no e__law_fives_to_2))
    (.cons (.ret (.bi .sorted (.cons (.lc [3] (.nm 3) (.val (.var 1)) c__law_fives_to_0 e__law_fives_to_1) .nil)))
    .nil))⟩
def f__law_differences : Fn := ⟨1, 4,
    (.cons (.asg 1 (.bin .Add (.lst (.cons (.lit (.int 1)) .nil)) (.bin .Mult (.lst (.cons (.lit (.int 0)) .nil)) (.var 0))))
    (.cons (.for_ (.nm 2) (.rng (.cons (.lit (.int 1)) (.cons (.bin .Add (.var 0) (.lit (.int 1))) .nil))) b__law_differences_1)
    (.cons (.ret (.var 1))
    .nil)))⟩
def f__law_number_right : Fn := ⟨1, 8,
    (.cons (.asg 1 (.call 10 (.cons (.var 0) .nil)))
    (.cons (.asg 2 (.bi .tuple (.cons (.lc [5] (.nm 5) (.val (.var 1)) .no e__law_number_right_2) .nil)))
    (.cons (.ife (.val (.cmp .NotEq (.bi .repr (.cons (.lst (.cons (.call 5 (.cons (.var 0) .nil)) (.cons (.callK 5 .nil (.cons (.var 0) .nil)) .nil))) .nil)) (.bi .repr (.cons (.lst (.cons (.var 2) (.cons (.var 2) .nil))) .nil)))) (.cons (.ret (.lit (.bl false)))
    .nil) .nil)
    (.cons (.asg 3 (.lc [6, 7] (.tp [6, 7]) (.val (.var 1)) c__law_number_right_0 e__law_number_right_1))
    (.cons (.asg 4 (.ife (.val (.cmp .NotEq (.var 3) (.lst .nil))) (.sub (.var 3) (.lit (.int 0))) (.lit (.int 0))))
    (.cons (.ret (.cmp .Eq (.bi .repr (.cons (.lst (.cons (.call 6 (.cons (.var 0) .nil)) (.cons (.callK 6 .nil (.cons (.var 0) .nil)) .nil))) .nil)) (.bi .repr (.cons (.lst (.cons (.var 4) (.cons (.var 4) .nil))) .nil))))
    .nil))))))⟩
def f__law_right : Fn := ⟨1, 6,
    (.cons (.asg 1 (.call 9 (.cons (.var 0) (.cons (.lc [4] (.nm 4) (.val (.call 10 (.cons (.lit (.int 400)) .nil))) .no e__law_right_2) .nil))))
    (.cons (.asg 2 (.lst (.cons (.call 8 (.cons (.var 0) (.cons (.lit (.int 401)) .nil))) (.cons (.call 8 (.cons (.var 0) (.cons (.lit (.int 60)) .nil))) (.cons (.var 1) (.cons (.bi .max (.cons (.bin .Sub (.var 1) (.lit (.int 1))) (.cons (.lit (.int 0)) .nil))) (.cons (.bi .min (.cons (.bin .Add (.var 1) (.lit (.int 1))) (.cons (.lit (.int 400)) .nil))) (.cons (.lit (.int 400)) .nil))))))))
    (.cons (.ife (.not (.val (.bi .all (.cons (.lc [5] (.nm 5) (.val (.var 2)) .no e__law_right_1) .nil)))) (.cons (.ret (.lit (.bl false)))
    .nil) .nil)
    (.cons (.asg 3 (.bin .Add (.lit (.int 30)) (.call 8 (.cons (.var 0) (.cons (.lit (.int 61)) .nil)))))
    (.cons (.ret (.cmp .Eq (.lc [5] (.nm 5) (.rng (.cons (.bin .Add (.var 3) (.lit (.int 1))) .nil)) .no e__law_right_0) (.call 11 (.cons (.var 3) .nil))))
    .nil)))))⟩
def f_law : Fn := ⟨1, 2,
    (.cons (.ife (.val (.cmp .NotEq (.bi .repr (.cons (.lst (.cons (.call 5 (.cons (.lit (.int 0)) .nil)) (.cons (.call 6 (.cons (.lit (.int 0)) .nil)) .nil))) .nil)) (.bi .repr (.cons (.lst (.cons (.tup (.cons (.lit (.int 0)) .nil)) (.cons (.lit (.int 1)) .nil))) .nil)))) (.cons (.ret (.lit (.bl false)))
    .nil) .nil)
    (.cons (.ret (.bi .all (.cons (.lc [1] (.nm 1) (.rng (.cons (.bi .max (.cons (.lit (.int 2)) (.cons (.bi .min (.cons (.bi .len (.cons (.var 0) .nil)) (.cons (.lit (.int 3)) .nil))) .nil))) .nil)) .no e_law_0) .nil)))
    .nil))⟩
abbrev s_is_integer : Stmt := top 5
def d_is_integer : DefT := ⟨("is_integer" : Str), [("value" : Str)], [], [("value" : Str)], s_is_integer, f_is_integer⟩
abbrev s_is_within_bounds : Stmt := top 6
def d_is_within_bounds : DefT := ⟨("is_within_bounds" : Str), [("value" : Str), ("least" : Str), ("most" : Str)], [], [("value" : Str), ("least" : Str), ("most" : Str)], s_is_within_bounds, f_is_within_bounds⟩
abbrev s_check_within : Stmt := top 7
def d_check_within : DefT := ⟨("check_within" : Str), [("value" : Str), ("least" : Str), ("most" : Str)], [], [("value" : Str), ("least" : Str), ("most" : Str)], s_check_within, f_check_within⟩
abbrev s_check_number : Stmt := top 8
def d_check_number : DefT := ⟨("check_number" : Str), [("value" : Str)], [], [("value" : Str)], s_check_number, f_check_number⟩
abbrev s_fives_to : Stmt := top 10
def d_fives_to : DefT := ⟨("fives_to" : Str), [("number" : Str)], [], [("number" : Str), ("found" : Str), ("k" : Str), ("sign" : Str)], s_fives_to, f_fives_to⟩
abbrev s_fives : Stmt := top 11
def d_fives : DefT := ⟨("fives" : Str), [("number" : Str)], [(0, [("number" : Str)])], [("number" : Str), ("five" : Str), ("sign" : Str)], s_fives, f_fives⟩
abbrev s_even_less_odd : Stmt := top 12
def d_even_less_odd : DefT := ⟨("even_less_odd" : Str), [("number" : Str)], [(0, [("number" : Str)])], [("number" : Str)], s_even_less_odd, f_even_less_odd⟩
abbrev s__law_jar : Stmt := top 14
def d__law_jar : DefT := ⟨("_law_jar" : Str), [("script" : Str), ("turn" : Str)], [], [("script" : Str), ("turn" : Str), ("own" : Str), ("stirred" : Str), ("cell" : Str)], s__law_jar, f__law_jar⟩
abbrev s__law_dip : Stmt := top 15
def d__law_dip : DefT := ⟨("_law_dip" : Str), [("jar" : Str), ("many" : Str)], [], [("jar" : Str), ("many" : Str), ("by" : Str), ("figure" : Str)], s__law_dip, f__law_dip⟩
abbrev s__law_one_of : Stmt := top 16
def d__law_one_of : DefT := ⟨("_law_one_of" : Str), [("jar" : Str), ("some" : Str)], [], [("jar" : Str), ("some" : Str)], s__law_one_of, f__law_one_of⟩
abbrev s__law_fives_to : Stmt := top 17
def d__law_fives_to : DefT := ⟨("_law_fives_to" : Str), [("most" : Str)], [], [("most" : Str), ("some" : Str), ("k" : Str), ("pair" : Str)], s__law_fives_to, f__law_fives_to⟩
abbrev s__law_differences : Stmt := top 18
def d__law_differences : DefT := ⟨("_law_differences" : Str), [("most" : Str)], [], [("most" : Str), ("found" : Str), ("size" : Str), ("total" : Str)], s__law_differences, f__law_differences⟩
abbrev s__law_number_right : Stmt := top 19
def d__law_number_right : DefT := ⟨("_law_number_right" : Str), [("number" : Str)], [], [("number" : Str), ("some" : Str), ("due" : Str), ("signs" : Str), ("sign" : Str), ("pair" : Str), ("five" : Str), ("k" : Str)], s__law_number_right, f__law_number_right⟩
abbrev s__law_right : Stmt := top 20
def d__law_right : DefT := ⟨("_law_right" : Str), [("jar" : Str)], [], [("jar" : Str), ("far" : Str), ("some" : Str), ("most" : Str), ("pair" : Str), ("number" : Str)], s__law_right, f__law_right⟩
abbrev s_law : Stmt := top 21
def d_law : DefT := ⟨("law" : Str), [("script" : Str)], [], [("script" : Str), ("turn" : Str)], s_law, f_law⟩
def defs : List DefT := [d_is_integer, d_is_within_bounds, d_check_within, d_check_number, d_fives_to, d_fives, d_even_less_odd, d__law_jar, d__law_dip, d__law_one_of, d__law_fives_to, d__law_differences, d__law_number_right, d__law_right, d_law]
def tab : Tab := [f_is_integer, f_is_within_bounds, f_check_within, f_check_number, f_fives_to, f_fives, f_even_less_odd, f__law_jar, f__law_dip, f__law_one_of, f__law_fives_to, f__law_differences, f__law_number_right, f__law_right, f_law]
def consts : List (Str × D) := [(("MOST_NUMBER" : Str), .int 400)]
theorem tab_eq : defs.map (·.fn) = tab := rfl
theorem chk : defs.all (defB consts (defs.map DefT.sig)) = true := by decide +kernel
theorem facts {K : PySem.W.Frag} {h : Heap} {mg : Str → Option Value} (X : K.In h) (G : h.Ns mainGlobals mg) {g0 g1 g2 g3 g4 g5 g6 g7 g8 g9 g10 g11 g12 g13 g14 : Addr} {od0 an0 od1 an1 od2 an2 od3 an3 od4 an4 od5 an5 od6 an6 od7 an7 od8 an8 od9 an9 od10 an10 od11 an11 od12 an12 od13 an13 od14 an14 : Option Addr} {sl0 sl1 sl2 sl3 sl4 sl5 sl6 sl7 sl8 sl9 sl10 sl11 sl12 sl13 sl14 : Array (Option Value)} {oc0 kV0 dc0 pm0 cd0 ct0 oc1 kV1 dc1 pm1 cd1 ct1 oc2 kV2 dc2 pm2 cd2 ct2 oc3 kV3 dc3 pm3 cd3 ct3 oc4 kV4 dc4 pm4 cd4 ct4 oc5 kV5 dc5 pm5 cd5 ct5 oc6 kV6 dc6 pm6 cd6 ct6 oc7 kV7 dc7 pm7 cd7 ct7 oc8 kV8 dc8 pm8 cd8 ct8 oc9 kV9 dc9 pm9 cd9 ct9 oc10 kV10 dc10 pm10 cd10 ct10 oc11 kV11 dc11 pm11 cd11 ct11 oc12 kV12 dc12 pm12 cd12 ct12 oc13 kV13 dc13 pm13 cd13 ct13 oc14 kV14 dc14 pm14 cd14 ct14 : Value} {t0 : Nat}
    (a0 : PySem.W.nsIn K mainGlobals "is_integer" = some (some (.ref g0))) (l0 : K.lookup g0 = some ⟨oc0, od0, .func (PySem.W.fnOf "is_integer" "is_integer" (defArgs s_is_integer) (defBody s_is_integer) (defScope s_is_integer) .none kV0 dc0 pm0 an0 cd0 ct0), sl0⟩) (c0 : PySem.W.codeIn K cd0 "is_integer" = true) (k0 : PySem.W.keepIn K (.ref g0) = true)
    (a1 : PySem.W.nsIn K mainGlobals "is_within_bounds" = some (some (.ref g1))) (l1 : K.lookup g1 = some ⟨oc1, od1, .func (PySem.W.fnOf "is_within_bounds" "is_within_bounds" (defArgs s_is_within_bounds) (defBody s_is_within_bounds) (defScope s_is_within_bounds) .none kV1 dc1 pm1 an1 cd1 ct1), sl1⟩) (c1 : PySem.W.codeIn K cd1 "is_within_bounds" = true) (k1 : PySem.W.keepIn K (.ref g1) = true)
    (a2 : PySem.W.nsIn K mainGlobals "check_within" = some (some (.ref g2))) (l2 : K.lookup g2 = some ⟨oc2, od2, .func (PySem.W.fnOf "check_within" "check_within" (defArgs s_check_within) (defBody s_check_within) (defScope s_check_within) .none kV2 dc2 pm2 an2 cd2 ct2), sl2⟩) (c2 : PySem.W.codeIn K cd2 "check_within" = true) (k2 : PySem.W.keepIn K (.ref g2) = true)
    (a3 : PySem.W.nsIn K mainGlobals "check_number" = some (some (.ref g3))) (l3 : K.lookup g3 = some ⟨oc3, od3, .func (PySem.W.fnOf "check_number" "check_number" (defArgs s_check_number) (defBody s_check_number) (defScope s_check_number) .none kV3 dc3 pm3 an3 cd3 ct3), sl3⟩) (c3 : PySem.W.codeIn K cd3 "check_number" = true) (k3 : PySem.W.keepIn K (.ref g3) = true)
    (a4 : PySem.W.nsIn K mainGlobals "fives_to" = some (some (.ref g4))) (l4 : K.lookup g4 = some ⟨oc4, od4, .func (PySem.W.fnOf "fives_to" "fives_to" (defArgs s_fives_to) (defBody s_fives_to) (defScope s_fives_to) .none kV4 dc4 pm4 an4 cd4 ct4), sl4⟩) (c4 : PySem.W.codeIn K cd4 "fives_to" = true) (k4 : PySem.W.keepIn K (.ref g4) = true)
    (a5 : PySem.W.nsIn K mainGlobals "fives" = some (some (.ref g5))) (l5 : K.lookup g5 = some ⟨oc5, od5, .func (PySem.W.fnOf "fives" "fives" (defArgs s_fives) (defBody s_fives) (defScope s_fives) .none kV5 dc5 pm5 an5 cd5 ct5), sl5⟩) (c5 : PySem.W.codeIn K cd5 "fives" = true) (k5 : PySem.W.keepIn K (.ref g5) = true)
    (a6 : PySem.W.nsIn K mainGlobals "even_less_odd" = some (some (.ref g6))) (l6 : K.lookup g6 = some ⟨oc6, od6, .func (PySem.W.fnOf "even_less_odd" "even_less_odd" (defArgs s_even_less_odd) (defBody s_even_less_odd) (defScope s_even_less_odd) .none kV6 dc6 pm6 an6 cd6 ct6), sl6⟩) (c6 : PySem.W.codeIn K cd6 "even_less_odd" = true) (k6 : PySem.W.keepIn K (.ref g6) = true)
    (a7 : PySem.W.nsIn K mainGlobals "_law_jar" = some (some (.ref g7))) (l7 : K.lookup g7 = some ⟨oc7, od7, .func (PySem.W.fnOf "_law_jar" "_law_jar" (defArgs s__law_jar) (defBody s__law_jar) (defScope s__law_jar) .none kV7 dc7 pm7 an7 cd7 ct7), sl7⟩) (c7 : PySem.W.codeIn K cd7 "_law_jar" = true) (k7 : PySem.W.keepIn K (.ref g7) = true)
    (a8 : PySem.W.nsIn K mainGlobals "_law_dip" = some (some (.ref g8))) (l8 : K.lookup g8 = some ⟨oc8, od8, .func (PySem.W.fnOf "_law_dip" "_law_dip" (defArgs s__law_dip) (defBody s__law_dip) (defScope s__law_dip) .none kV8 dc8 pm8 an8 cd8 ct8), sl8⟩) (c8 : PySem.W.codeIn K cd8 "_law_dip" = true) (k8 : PySem.W.keepIn K (.ref g8) = true)
    (a9 : PySem.W.nsIn K mainGlobals "_law_one_of" = some (some (.ref g9))) (l9 : K.lookup g9 = some ⟨oc9, od9, .func (PySem.W.fnOf "_law_one_of" "_law_one_of" (defArgs s__law_one_of) (defBody s__law_one_of) (defScope s__law_one_of) .none kV9 dc9 pm9 an9 cd9 ct9), sl9⟩) (c9 : PySem.W.codeIn K cd9 "_law_one_of" = true) (k9 : PySem.W.keepIn K (.ref g9) = true)
    (a10 : PySem.W.nsIn K mainGlobals "_law_fives_to" = some (some (.ref g10))) (l10 : K.lookup g10 = some ⟨oc10, od10, .func (PySem.W.fnOf "_law_fives_to" "_law_fives_to" (defArgs s__law_fives_to) (defBody s__law_fives_to) (defScope s__law_fives_to) .none kV10 dc10 pm10 an10 cd10 ct10), sl10⟩) (c10 : PySem.W.codeIn K cd10 "_law_fives_to" = true) (k10 : PySem.W.keepIn K (.ref g10) = true)
    (a11 : PySem.W.nsIn K mainGlobals "_law_differences" = some (some (.ref g11))) (l11 : K.lookup g11 = some ⟨oc11, od11, .func (PySem.W.fnOf "_law_differences" "_law_differences" (defArgs s__law_differences) (defBody s__law_differences) (defScope s__law_differences) .none kV11 dc11 pm11 an11 cd11 ct11), sl11⟩) (c11 : PySem.W.codeIn K cd11 "_law_differences" = true) (k11 : PySem.W.keepIn K (.ref g11) = true)
    (a12 : PySem.W.nsIn K mainGlobals "_law_number_right" = some (some (.ref g12))) (l12 : K.lookup g12 = some ⟨oc12, od12, .func (PySem.W.fnOf "_law_number_right" "_law_number_right" (defArgs s__law_number_right) (defBody s__law_number_right) (defScope s__law_number_right) .none kV12 dc12 pm12 an12 cd12 ct12), sl12⟩) (c12 : PySem.W.codeIn K cd12 "_law_number_right" = true) (k12 : PySem.W.keepIn K (.ref g12) = true)
    (a13 : PySem.W.nsIn K mainGlobals "_law_right" = some (some (.ref g13))) (l13 : K.lookup g13 = some ⟨oc13, od13, .func (PySem.W.fnOf "_law_right" "_law_right" (defArgs s__law_right) (defBody s__law_right) (defScope s__law_right) .none kV13 dc13 pm13 an13 cd13 ct13), sl13⟩) (c13 : PySem.W.codeIn K cd13 "_law_right" = true) (k13 : PySem.W.keepIn K (.ref g13) = true)
    (a14 : PySem.W.nsIn K mainGlobals "law" = some (some (.ref g14))) (l14 : K.lookup g14 = some ⟨oc14, od14, .func (PySem.W.fnOf "law" "law" (defArgs s_law) (defBody s_law) (defScope s_law) .none kV14 dc14 pm14 an14 cd14 ct14), sl14⟩) (c14 : PySem.W.codeIn K cd14 "law" = true) (k14 : PySem.W.keepIn K (.ref g14) = true)
    (q0 : PySem.W.nsIn K mainGlobals "MOST_NUMBER" = some (some (.int 400 t0)))
    (b0 : PySem.W.nsIn K mainGlobals "isinstance" = some none)
    (b1 : PySem.W.nsIn K mainGlobals "bool" = some none)
    (b2 : PySem.W.nsIn K mainGlobals "str" = some none)
    (b3 : PySem.W.nsIn K mainGlobals "dict" = some none)
    (b4 : PySem.W.nsIn K mainGlobals "range" = some none)
    (b5 : PySem.W.nsIn K mainGlobals "int" = some none)
    (b6 : PySem.W.nsIn K mainGlobals "tuple" = some none)
    (b7 : PySem.W.nsIn K mainGlobals "list" = some none)
    (b8 : PySem.W.nsIn K mainGlobals "len" = some none)
    (b9 : PySem.W.nsIn K mainGlobals "sum" = some none)
    (b10 : PySem.W.nsIn K mainGlobals "all" = some none)
    (b11 : PySem.W.nsIn K mainGlobals "any" = some none)
    (b12 : PySem.W.nsIn K mainGlobals "max" = some none)
    (b13 : PySem.W.nsIn K mainGlobals "min" = some none)
    (b14 : PySem.W.nsIn K mainGlobals "abs" = some none)
    (b15 : PySem.W.nsIn K mainGlobals "sorted" = some none)
    (b16 : PySem.W.nsIn K mainGlobals "divmod" = some none)
    (b17 : PySem.W.nsIn K mainGlobals "repr" = some none) :
    (∀ d ∈ defs, DefOk K mg d) ∧ (∀ c ∈ consts, ConstOk K mg c) ∧ (∀ b, mg (biName b) = none) ∧ mg "range" = none ∧ ∀ x ∈ mOther, mg x = none := by
  refine ⟨all_c ?_ (all_c ?_ (all_c ?_ (all_c ?_ (all_c ?_ (all_c ?_ (all_c ?_ (all_c ?_ (all_c ?_ (all_c ?_ (all_c ?_ (all_c ?_ (all_c ?_ (all_c ?_ (all_c ?_ (all_n))))))))))))))), all_c ?_ (all_n), ?_, PySem.W.mg_none_of X G b4, all_c (PySem.W.mg_none_of X G b0) (all_c (PySem.W.mg_none_of X G b1) (all_c (PySem.W.mg_none_of X G b2) (all_c (PySem.W.mg_none_of X G b3) all_n)))⟩
  · exact def_ok X G a0 l0 c0 k0 (fun _ _ _ _ _ _ us hl => match us, hl with | [_], _ => rfl) all_n
  · exact def_ok X G a1 l1 c1 k1 (fun _ _ _ _ _ _ us hl => match us, hl with | [_, _, _], _ => rfl) all_n
  · exact def_ok X G a2 l2 c2 k2 (fun _ _ _ _ _ _ us hl => match us, hl with | [_, _, _], _ => rfl) all_n
  · exact def_ok X G a3 l3 c3 k3 (fun _ _ _ _ _ _ us hl => match us, hl with | [_], _ => rfl) all_n
  · exact def_ok X G a4 l4 c4 k4 (fun _ _ _ _ _ _ us hl => match us, hl with | [_], _ => rfl) all_n
  · exact def_ok X G a5 l5 c5 k5 (fun _ _ _ _ _ _ us hl => match us, hl with | [_], _ => rfl) (all_c (fun _ _ _ _ _ _ us ws h1 h2 => match us, ws, h1, h2 with | [], [_], _, _ => rfl) all_n)
  · exact def_ok X G a6 l6 c6 k6 (fun _ _ _ _ _ _ us hl => match us, hl with | [_], _ => rfl) (all_c (fun _ _ _ _ _ _ us ws h1 h2 => match us, ws, h1, h2 with | [], [_], _, _ => rfl) all_n)
  · exact def_ok X G a7 l7 c7 k7 (fun _ _ _ _ _ _ us hl => match us, hl with | [_, _], _ => rfl) all_n
  · exact def_ok X G a8 l8 c8 k8 (fun _ _ _ _ _ _ us hl => match us, hl with | [_, _], _ => rfl) all_n
  · exact def_ok X G a9 l9 c9 k9 (fun _ _ _ _ _ _ us hl => match us, hl with | [_, _], _ => rfl) all_n
  · exact def_ok X G a10 l10 c10 k10 (fun _ _ _ _ _ _ us hl => match us, hl with | [_], _ => rfl) all_n
  · exact def_ok X G a11 l11 c11 k11 (fun _ _ _ _ _ _ us hl => match us, hl with | [_], _ => rfl) all_n
  · exact def_ok X G a12 l12 c12 k12 (fun _ _ _ _ _ _ us hl => match us, hl with | [_], _ => rfl) all_n
  · exact def_ok X G a13 l13 c13 k13 (fun _ _ _ _ _ _ us hl => match us, hl with | [_], _ => rfl) all_n
  · exact def_ok X G a14 l14 c14 k14 (fun _ _ _ _ _ _ us hl => match us, hl with | [_], _ => rfl) all_n
  · exact const_int X G q0
  · intro b
    cases b
    · exact PySem.W.mg_none_of X G b8
    · exact PySem.W.mg_none_of X G b9
    · exact PySem.W.mg_none_of X G b10
    · exact PySem.W.mg_none_of X G b11
    · exact PySem.W.mg_none_of X G b12
    · exact PySem.W.mg_none_of X G b13
    · exact PySem.W.mg_none_of X G b14
    · exact PySem.W.mg_none_of X G b5
    · exact PySem.W.mg_none_of X G b6
    · exact PySem.W.mg_none_of X G b7
    · exact PySem.W.mg_none_of X G b15
    · exact PySem.W.mg_none_of X G b16
    · exact PySem.W.mg_none_of X G b17
end K45

/-! ## K45P.lean -/
set_option Elab.async false
set_option linter.all false
set_option maxRecDepth 100000
namespace K45
open PySem MP L2
theorem dip_ok (n : Nat) (a s c m : Int) (ha : 0 ≤ a) (hs : 0 ≤ s) (hm : 0 < m) (hm2 : m < 1000000) :
    ∃ r a' s', 0 ≤ r ∧ r < m ∧ 0 ≤ a' ∧ 0 ≤ s' ∧ callD tab (n+1) 8 [.lst [.int a, .int s, .int c], .p (.int m)] = some (.p (.int r), [[.int a', .int s', .int (c + 1)]]) := by
  by_cases h : 0 < a
  · refine ⟨a % m, a / m, s, Int.emod_nonneg _ (by omega), Int.emod_lt_of_pos _ hm, Int.ediv_nonneg ha (by omega), hs, ?_⟩
    rw [callD_at (f := f__law_dip) rfl]
    have h3 : m < 1073741824 := by omega
    simp [runFn, evSs, evS, evE, MP.evT, evEs, evO, evC, evI, start', start'.go, heap', setV, ixN, L2.atI, binV, binI, intV, cmpW, cmpV, cmpI, truV, biV, bi1, bi2, retD, outs', frzD, frzDs, setAll, MP.bind, lenV, strV, subV, seqD, line, f__law_dip, h, hm, h3]
  · have e0 : a = 0 := by omega
    subst e0
    refine ⟨(s * (s % 30011 + 40009) + 60007 * (c + 1) + 13) % 2147483549 / 89 % m, 0, (s * (s % 30011 + 40009) + 60007 * (c + 1) + 13) % 2147483549, Int.emod_nonneg _ (by omega), Int.emod_lt_of_pos _ hm, Int.le_refl _, Int.emod_nonneg _ (by omega), ?_⟩
    rw [callD_at (f := f__law_dip) rfl]
    have e1 : mulOk s (s % 30011 + 40009) = true := mulOk_r (by omega) (by omega)
    have e2 : ∀ z, mulOk 60007 z = true := fun z => mulOk_l (by omega) (by omega)
    simp [runFn, evSs, evS, evE, MP.evT, evEs, evO, evC, evI, start', start'.go, heap', setV, ixN, L2.atI, binV, binI, intV, cmpW, cmpV, cmpI, truV, biV, bi1, bi2, retD, outs', frzD, frzDs, setAll, MP.bind, lenV, strV, subV, seqD, line, f__law_dip, hm, e1, e2]
@[local simp] theorem intsOf_map : ∀ xs : List Int, intsOf (xs.map D.int) = some xs
  | [] => rfl
  | x :: xs => by simp only [List.map_cons, intsOf, intsOf_map xs]
theorem jar_loop (F : CallF) : ∀ (xs : List Int) (A B C : Option Val) (st : Int) (z : Option Val), 0 ≤ st →
    ∃ st' z', 0 ≤ st' ∧ forGo (forF (.nm 4) (evSs F b__law_jar_0)) (xs.map fun i => .p (.int i)) [A, B, C, some (.p (.int st)), z] [] = some (.nx, [A, B, C, some (.p (.int st')), z'], [])
  | [], A, B, C, st, z, h => ⟨st, z, h, rfl⟩
  | x :: xs, A, B, C, st, z, h => by
    obtain ⟨st', z', h1, h2⟩ := jar_loop F xs A B C ((st * 40993 + x % 2147483549 + 19) % 2147483549) (some (.p (.int x))) (Int.emod_nonneg _ (by omega))
    refine ⟨st', z', h1, ?_⟩
    have e1 : mulOk st 40993 = true := mulOk_r (by omega) (by omega)
    simp only [List.map_cons, forGo]
    have e : forF (.nm 4) (evSs F b__law_jar_0) (.p (.int x)) [A, B, C, some (.p (.int st)), z] [] = some (.nx, [A, B, C, some (.p (.int ((st * 40993 + x % 2147483549 + 19) % 2147483549))), some (.p (.int x))], []) := by
      simp [runFn, evSs, evS, evE, MP.evT, evEs, evO, evC, evI, start', start'.go, heap', setV, ixN, L2.atI, binV, binI, intV, cmpW, cmpV, cmpI, truV, biV, bi1, bi2, retD, outs', frzD, frzDs, setAll, MP.bind, lenV, strV, subV, seqD, line, forF, b__law_jar_0, setTg, e1]
    rw [e]
    exact h2
theorem jar_ok (n : Nat) (ns : List Int) (t : Int) (ht : 0 ≤ t) (ht2 : t ≤ 2) :
    ∃ a s, 0 ≤ a ∧ 0 ≤ s ∧ callD tab (n+1) 7 [.p (.scr ns), .p (.int t)] = some (.new [.int a, .int s, .int 0], []) := by
  rw [callD_at (f := f__law_jar) rfl]
  have e1 : ∀ z, mulOk 613 z = true := fun z => mulOk_l (by omega) (by omega)
  have e2 : ∀ z, mulOk 7907 z = true := fun z => mulOk_l (by omega) (by omega)
  have own : ∃ own : Int, evE (callD tab n) (.ife (.val (.cmp .Lt (.var 1) (.bi .len (.cons (.var 0) .nil)))) (.bi .int (.cons (.sub (.var 0) (.var 1)) .nil)) (.bin .Add (.bin .Add (.bin .Mult (.lit (.int 613)) (.var 1)) (.lit (.int 41))) (.bin .Mod (.bi .int (.cons (.bi .sum (.cons (.sl (.var 0) .no (.yes (.lit (.int 1)))) .nil)) .nil)) (.lit (.int 1000003)))))
      [some (.p (.scr ns)), some (.p (.int t)), none, none, none] [] = some (.p (.int own), []) := by
    by_cases h : t < ns.length
    · exact ⟨ns[t.toNat]'(by omega), by simp [runFn, evSs, evS, evE, MP.evT, evEs, evO, evC, evI, start', start'.go, heap', setV, ixN, L2.atI, binV, binI, intV, cmpW, cmpV, cmpI, truV, biV, bi1, bi2, retD, outs', frzD, frzDs, setAll, MP.bind, lenV, strV, subV, seqD, line, ltV, h, ht]⟩
    · exact ⟨_, by simp [runFn, evSs, evS, evE, MP.evT, evEs, evO, evC, evI, start', start'.go, heap', setV, ixN, L2.atI, binV, binI, intV, cmpW, cmpV, cmpI, truV, biV, bi1, bi2, retD, outs', frzD, frzDs, setAll, MP.bind, lenV, strV, subV, seqD, line, ltV, h, slV, intsV, scrV, e1]; rfl⟩
  obtain ⟨own, eo⟩ := own
  have e3 : evE (callD tab n) (.bin .Add (.lit (.int 60013)) (.bin .Mult (.lit (.int 7907)) (.var 1))) [some (.p (.scr ns)), some (.p (.int t)), some (.p (.int own)), none, none] [] = some (.p (.int (60013 + 7907 * t)), []) := by simp [runFn, evSs, evS, evE, MP.evT, evEs, evO, evC, evI, start', start'.go, heap', setV, ixN, L2.atI, binV, binI, intV, cmpW, cmpV, cmpI, truV, biV, bi1, bi2, retD, outs', frzD, frzDs, setAll, MP.bind, lenV, strV, subV, seqD, line, e2]
  have e4 : evI (callD tab n) (.val (.bin .Add (.sl (.var 0) .no (.yes (.lit (.int 6)))) (.lst (.cons (.var 2) .nil)))) [some (.p (.scr ns)), some (.p (.int t)), some (.p (.int own)), some (.p (.int (60013 + 7907 * t))), none] [] =
      some (⟨(cutD ns none (some 6) ++ [own]).map fun i => .p (.int i), none⟩, []) := by
    have hl : (cutD ns none (some 6)).length ≤ 6 := by
      unfold cutD
      rw [List.length_take]
      have : cutAt ns.length ns.length (some 6) ≤ 6 := by
        show HT.sIx ns.length ns.length (some ((6 : Nat) : Int)) ≤ 6
        rw [HT.sIx_nat]; omega
      omega
    have hl2 : (cutD ns none (some 6)).length + 1 ≤ 16777216 := by omega
    simp [runFn, evSs, evS, evE, MP.evT, evEs, evO, evC, evI, start', start'.go, heap', setV, ixN, L2.atI, binV, binI, intV, cmpW, cmpV, cmpI, truV, biV, bi1, bi2, retD, outs', frzD, frzDs, setAll, MP.bind, lenV, strV, subV, seqD, line, slV, catV, walkV, hl2]
  obtain ⟨st, z, hst, el⟩ := jar_loop (callD tab n) (cutD ns none (some 6) ++ [own]) (some (.p (.scr ns))) (some (.p (.int t))) (some (.p (.int own))) (60013 + 7907 * t) none (by omega)
  refine ⟨if own < 0 ∨ 10 ^ 17 ≤ own then (if own < 0 then -own else own) else 0, st, ?_, hst, ?_⟩
  · split
    · split <;> omega
    · omega
  · simp only [f__law_jar, runFn, evSs, evS, start', start'.go, heap', List.length_cons, List.length_nil, List.cons_append, List.nil_append, List.replicate, List.append_nil, Nat.reduceAdd, Nat.reduceSub, eo, MP.bind, List.set, e3, e4, el, unlock]
    by_cases h1 : own < 0
    · simp [runFn, evSs, evS, evE, MP.evT, evEs, evO, evC, evI, start', start'.go, heap', setV, ixN, L2.atI, binV, binI, intV, cmpW, cmpV, cmpI, truV, biV, bi1, bi2, retD, outs', frzD, frzDs, setAll, MP.bind, lenV, strV, subV, seqD, line, h1, ltV, h1]
    · by_cases h2 : (100000000000000000 : Int) ≤ own
      · simp [runFn, evSs, evS, evE, MP.evT, evEs, evO, evC, evI, start', start'.go, heap', setV, ixN, L2.atI, binV, binI, intV, cmpW, cmpV, cmpI, truV, biV, bi1, bi2, retD, outs', frzD, frzDs, setAll, MP.bind, lenV, strV, subV, seqD, line, h1, h2, ltV]
      · simp [runFn, evSs, evS, evE, MP.evT, evEs, evO, evC, evI, start', start'.go, heap', setV, ixN, L2.atI, binV, binI, intV, cmpW, cmpV, cmpI, truV, biV, bi1, bi2, retD, outs', frzD, frzDs, setAll, MP.bind, lenV, strV, subV, seqD, line, h1, h2, ltV]
end K45

/-! ## K45N.lean -/
set_option Elab.async false
set_option linter.all false
set_option maxRecDepth 100000
namespace K45
open PySem MP L2
def yes : Option (Ret × List (List D)) → Bool
  | some (.p (.bl true), []) => true
  | _ => false
theorem yes_eq {r : Option (Ret × List (List D))} (h : yes r = true) : r = some (.p (.bl true), []) := by
  unfold yes at h
  split at h
  · rfl
  · cases h
noncomputable def nrB (lo : Nat) (k : Nat) : Bool := Nat.rec true (fun j ih => match yes (kD tab 10 12 [.p (.int (Int.ofNat (lo + j)))]) with | true => ih | false => false) k
theorem nrB_at {lo : Nat} : ∀ {k : Nat}, nrB lo k = true → ∀ j, j < k → callD tab 10 12 [.p (.int ((lo + j : Nat) : Int))] = some (.p (.bl true), [])
  | 0, _, j, hj => absurd hj (Nat.not_lt_zero j)
  | k + 1, h, j, hj => by
    have h' : (match yes (kD tab 10 12 [.p (.int (Int.ofNat (lo + k)))]) with | true => nrB lo k | false => false) = true := h
    cases e : yes (kD tab 10 12 [.p (.int (Int.ofNat (lo + k)))]) with
    | false => rw [e] at h'; cases h'
    | true =>
      rw [e] at h'
      by_cases hjk : j = k
      · subst hjk
        have := yes_eq e
        rw [kD_eq] at this
        exact this
      · exact nrB_at h' j (by omega)
theorem nr0 : nrB 0 60 = true := by decide +kernel
theorem nr1 : nrB 60 60 = true := by decide +kernel
theorem nr2 : nrB 120 60 = true := by decide +kernel
theorem nr3 : nrB 180 60 = true := by decide +kernel
theorem nr4 : nrB 240 60 = true := by decide +kernel
theorem nr5 : nrB 300 60 = true := by decide +kernel
theorem nr6 : nrB 360 41 = true := by decide +kernel
theorem nr_ok (i : Int) (h0 : 0 ≤ i) (h1 : i ≤ 400) : callD tab 10 12 [.p (.int i)] = some (.p (.bl true), []) := by
  obtain ⟨n, rfl⟩ : ∃ n : Nat, i = (n : Int) := ⟨i.toNat, by omega⟩
  by_cases c1 : n < 60
  · have := nrB_at nr0 n (by omega); simpa using this
  by_cases c2 : n < 120
  · have := nrB_at nr1 (n - 60) (by omega); rwa [show 60 + (n - 60) = n by omega] at this
  by_cases c3 : n < 180
  · have := nrB_at nr2 (n - 120) (by omega); rwa [show 120 + (n - 120) = n by omega] at this
  by_cases c4 : n < 240
  · have := nrB_at nr3 (n - 180) (by omega); rwa [show 180 + (n - 180) = n by omega] at this
  by_cases c5 : n < 300
  · have := nrB_at nr4 (n - 240) (by omega); rwa [show 240 + (n - 240) = n by omega] at this
  by_cases c6 : n < 360
  · have := nrB_at nr5 (n - 300) (by omega); rwa [show 300 + (n - 300) = n by omega] at this
  · have := nrB_at nr6 (n - 360) (by omega); rwa [show 360 + (n - 360) = n by omega] at this
end K45

/-! ## K45F.lean -/
set_option Elab.async false
set_option linter.all false
set_option maxRecDepth 100000
namespace K45
open PySem MP L2
/-! the differences, in plain Lean -/
def updI (s : Nat) (xs : List Int) (t : Nat) : List Int := xs.set t (xs.getD t 0 - xs.getD (t - s) 0)
def downs : Nat → Nat → List Nat
  | _, 0 => []
  | m, k + 1 => m :: downs (m - 1) k
theorem rng_downs : ∀ (k m : Nat), k ≤ m + 1 → rngS (m : Int) (-1) k = (downs m k).map fun (t : Nat) => Val.p (.int (t : Int))
  | 0, m, _ => rfl
  | k + 1, m, h => by
    simp only [rngS, downs, List.map_cons]
    cases k with
    | zero => rfl
    | succ k =>
      have e : (m : Int) + -1 = ((m - 1 : Nat) : Int) := by omega
      rw [e, rng_downs (k + 1) (m - 1) (by omega)]
theorem in_downs : ∀ (k m t : Nat), k ≤ m + 1 → t ∈ downs m k → t ≤ m ∧ m < t + k
  | 0, m, t, _, h => by simp [runFn, evSs, evS, evE, MP.evT, evEs, evO, evC, evI, start', start'.go, heap', setV, ixN, L2.atI, binV, binI, intV, cmpW, cmpV, cmpI, truV, biV, bi1, bi2, retD, outs', frzD, frzDs, setAll, MP.bind, lenV, strV, subV, seqD, line, downs] at h
  | k + 1, m, t, hk, h => by
    simp only [downs, List.mem_cons] at h
    rcases h with rfl | h
    · omega
    · cases k with
      | zero => simp [runFn, evSs, evS, evE, MP.evT, evEs, evO, evC, evI, start', start'.go, heap', setV, ixN, L2.atI, binV, binI, intV, cmpW, cmpV, cmpI, truV, biV, bi1, bi2, retD, outs', frzD, frzDs, setAll, MP.bind, lenV, strV, subV, seqD, line, downs] at h
      | succ k =>
        have := in_downs (k + 1) (m - 1) t (by omega) h
        omega
theorem upd_len (s : Nat) (xs : List Int) (t : Nat) : (updI s xs t).length = xs.length := by simp [runFn, evSs, evS, evE, MP.evT, evEs, evO, evC, evI, start', start'.go, heap', setV, ixN, L2.atI, binV, binI, intV, cmpW, cmpV, cmpI, truV, biV, bi1, bi2, retD, outs', frzD, frzDs, setAll, MP.bind, lenV, strV, subV, seqD, line, updI]
theorem small_of {i : Int} (h1 : -1000000 ≤ i) (h2 : i ≤ 1000000) : small i = true := by
  unfold small
  rw [Bool.and_eq_true, decide_eq_true_eq, decide_eq_true_eq]
  omega
theorem inner (F : CallF) (m : Option Val) (s : Nat) : ∀ (ts : List Nat) (xs : List Int) (z : Option Val), (∀ t ∈ ts, s ≤ t ∧ t < xs.length) →
    ∃ z', forGo (forF (.nm 3) (evSs F b__law_differences_0)) (ts.map fun (t : Nat) => Val.p (.int (t : Int))) [m, some (.loc 0), some (.p (.int (s : Int))), z] [.lst false (xs.map .int)] =
      some (.nx, [m, some (.loc 0), some (.p (.int (s : Int))), z'], [.lst false ((ts.foldl (updI s) xs).map .int)])
  | [], xs, z, _ => ⟨z, rfl⟩
  | t :: ts, xs, z, h => by
    obtain ⟨h1, h2⟩ := h t List.mem_cons_self
    obtain ⟨z', e'⟩ := inner F m s ts (updI s xs t) (some (.p (.int (t : Int)))) fun u hu => by rw [upd_len]; exact h u (List.mem_cons_of_mem _ hu)
    refine ⟨z', ?_⟩
    have e : forF (.nm 3) (evSs F b__law_differences_0) (.p (.int (t : Int))) [m, some (.loc 0), some (.p (.int (s : Int))), z] [.lst false (xs.map .int)] = some (.nx, [m, some (.loc 0), some (.p (.int (s : Int))), some (.p (.int (t : Int)))], [.lst false ((updI s xs t).map .int)]) := by
      have h3 : (t : Int) - (s : Int) < xs.length := by omega
      have h4 : ((t : Int) - (s : Int)).toNat = t - s := by omega
      have h5 : t - s < xs.length := by omega
      have h6 : (s : Int) ≤ t := by omega
      simp [runFn, evSs, evS, evE, MP.evT, evEs, evO, evC, evI, start', start'.go, heap', setV, ixN, L2.atI, binV, binI, intV, cmpW, cmpV, cmpI, truV, biV, bi1, bi2, retD, outs', frzD, frzDs, setAll, MP.bind, lenV, strV, subV, seqD, line, forF, b__law_differences_0, setTg, h2, h3, h4, h5, h6, updI, List.map_set]
    simp only [List.map_cons, forGo, e, List.foldl_cons]
    exact e'
def difGo (m : Nat) : Nat → Nat → List Int → List Int
  | _, 0, xs => xs
  | s, k + 1, xs => difGo m (s + 1) k ((downs m (m + 1 - s)).foldl (updI s) xs)
theorem fold_len (s : Nat) : ∀ (ts : List Nat) (xs : List Int), (ts.foldl (updI s) xs).length = xs.length
  | [], xs => rfl
  | t :: ts, xs => by rw [List.foldl_cons, fold_len s ts, upd_len]
theorem rng3 {i j : Int} (h1 : small i = true) (h2 : small j = true) : rngV [.p (.int i), .p (.int j), .p (.int (-1))] = some (rngS i (-1) (i - j).toNat) := by
  simp [runFn, evSs, evS, evE, MP.evT, evEs, evO, evC, evI, start', start'.go, heap', setV, ixN, L2.atI, binV, binI, intV, cmpW, cmpV, cmpI, truV, biV, bi1, bi2, retD, outs', frzD, frzDs, setAll, MP.bind, lenV, strV, subV, seqD, line, rngV, h1, h2]
theorem rng2 {i j : Int} (h1 : small i = true) (h2 : small j = true) : rngV [.p (.int i), .p (.int j)] = some (rngI i (j - i).toNat) := by
  simp [runFn, evSs, evS, evE, MP.evT, evEs, evO, evC, evI, start', start'.go, heap', setV, ixN, L2.atI, binV, binI, intV, cmpW, cmpV, cmpI, truV, biV, bi1, bi2, retD, outs', frzD, frzDs, setAll, MP.bind, lenV, strV, subV, seqD, line, rngV, h1, h2]
theorem turn (F : CallF) (m s : Int) (y z : Option Val) (h h' : Hs) (items : List Val) (ρ' : Env') (hr : rngV [.p (.int m), .p (.int (s - 1)), .p (.int (-1))] = some items)
   (e1 : forGo (forF (.nm 3) (evSs F b__law_differences_0)) items [some (.p (.int m)), some (.loc 0), some (.p (.int s)), z] h = some (.nx, ρ', h')) :
   forF (.nm 2) (evSs F b__law_differences_1) (.p (.int s)) [some (.p (.int m)), some (.loc 0), y, z] h = some (.nx, ρ', h') := by
  have a0 : evEs F (.cons (.var 0) (.cons (.bin .Sub (.var 2) (.lit (.int 1))) (.cons (.neg (.lit (.int 1))) .nil))) [some (.p (.int m)), some (.loc 0), some (.p (.int s)), z] h = some ([.p (.int m), .p (.int (s - 1)), .p (.int (-1))], h) := by
    simp [runFn, evSs, evS, evE, MP.evT, evEs, evO, evC, evI, start', start'.go, heap', setV, ixN, L2.atI, binV, binI, intV, cmpW, cmpV, cmpI, truV, biV, bi1, bi2, retD, outs', frzD, frzDs, setAll, MP.bind, lenV, strV, subV, seqD, line, evEs, evE, binV, binI, intV]
  have a1 : evI F (.rng (.cons (.var 0) (.cons (.bin .Sub (.var 2) (.lit (.int 1))) (.cons (.neg (.lit (.int 1))) .nil)))) [some (.p (.int m)), some (.loc 0), some (.p (.int s)), z] h = some (⟨items, none⟩, h) := by
    simp only [evI, a0, hr]
  have a2 : evS F (.for_ (.nm 3) (.rng (.cons (.var 0) (.cons (.bin .Sub (.var 2) (.lit (.int 1))) (.cons (.neg (.lit (.int 1))) .nil)))) b__law_differences_0) [some (.p (.int m)), some (.loc 0), some (.p (.int s)), z] h = some (.nx, ρ', h') := by
    simp only [evS, a1, e1, unlock]
  simp only [forF, setTg, List.set, b__law_differences_1, evSs, a2]
theorem outer (F : CallF) (m : Nat) (hm : m ≤ 400) (k : Nat) : ∀ (s : Nat) (xs : List Int) (y z : Option Val), 1 ≤ s → s + k = m + 1 → xs.length = m + 1 →
    ∃ y' z', forGo (forF (.nm 2) (evSs F b__law_differences_1)) (rngI (s : Int) k) [some (.p (.int (m : Int))), some (.loc 0), y, z] [.lst false (xs.map .int)] =
      some (.nx, [some (.p (.int (m : Int))), some (.loc 0), y', z'], [.lst false ((difGo m s k xs).map .int)]) := by
  induction k with
  | zero => exact fun s xs y z _ _ _ => ⟨y, z, rfl⟩
  | succ k ih =>
    intro s xs y z h1 h2 h3
    obtain ⟨z1, e1⟩ := inner F (some (.p (.int (m : Int)))) s (downs m (m + 1 - s)) xs z fun t ht => by
      have := in_downs _ _ _ (by omega) ht
      omega
    obtain ⟨y', z', e2⟩ := ih (s + 1) ((downs m (m + 1 - s)).foldl (updI s) xs) (some (.p (.int (s : Int)))) z1 (by omega) (by omega) (by rw [fold_len]; exact h3)
    refine ⟨y', z', ?_⟩
    have hr : rngS (m : Int) (-1) ((m : Int) - ((s : Int) - 1)).toNat = (downs m (m + 1 - s)).map fun (t : Nat) => Val.p (.int (t : Int)) := by
      rw [show ((m : Int) - ((s : Int) - 1)).toNat = m + 1 - s by omega]
      exact rng_downs _ _ (by omega)
    have s1 : small (m : Int) = true := small_of (by omega) (by omega)
    have s2 : small ((s : Int) - 1) = true := small_of (by omega) (by omega)
    have e : forF (.nm 2) (evSs F b__law_differences_1) (.p (.int (s : Int))) [some (.p (.int (m : Int))), some (.loc 0), y, z] [.lst false (xs.map .int)] = some (.nx, [some (.p (.int (m : Int))), some (.loc 0), some (.p (.int (s : Int))), z1], [.lst false (((downs m (m + 1 - s)).foldl (updI s) xs).map .int)]) := by
      refine turn F (m : Int) (s : Int) y z _ _ _ _ ?_ e1
      rw [← hr]
      exact rng3 s1 s2
    simp only [rngI, forGo, e, difGo]
    rw [show ((s : Int) + 1) = ((s + 1 : Nat) : Int) by omega]
    exact e2
theorem dif_end (F : CallF) (m : Int) (k : Nat) (ys : List Int) (y z : Option Val) (hk : m.toNat = k) (h0 : k ≤ 400) (hm : m ≤ 400) (hp : 0 ≤ m) {items : List Val} (hr : rngV [.p (.int 1), .p (.int (m + 1))] = some items)
    (e : forGo (forF (.nm 2) (evSs F b__law_differences_1)) items [some (.p (.int m)), some (.loc 0), none, none] [.lst false (.int 1 :: List.replicate k (.int 0))] = some (.nx, [some (.p (.int m)), some (.loc 0), y, z], [.lst false (ys.map .int)])) :
    runFn F f__law_differences [.p (.int m)] = some (.new (ys.map .int), []) := by
  have hf : (List.replicate k [D.int 0]).flatten = List.replicate k (D.int 0) := by simp [runFn, evSs, evS, evE, MP.evT, evEs, evO, evC, evI, start', start'.go, heap', setV, ixN, L2.atI, binV, binI, intV, cmpW, cmpV, cmpI, truV, biV, bi1, bi2, retD, outs', frzD, frzDs, setAll, MP.bind, lenV, strV, subV, seqD, line]
  have a1 : evE F (.bin .Add (.lst (.cons (.lit (.int 1)) .nil)) (.bin .Mult (.lst (.cons (.lit (.int 0)) .nil)) (.var 0))) [some (.p (.int m)), none, none, none] [] = some (.new (.int 1 :: List.replicate k (.int 0)), []) := by
    have q1 : k ≤ 16777216 := by omega
    have q2 : 1 + k ≤ 16777216 := by omega
    have q3 : m < 16777217 := by omega
    by_cases q4 : -16777217 < m
    · simp [runFn, evSs, evS, evE, MP.evT, evEs, evO, evC, evI, start', start'.go, heap', setV, ixN, L2.atI, binV, binI, intV, cmpW, cmpV, cmpI, truV, biV, bi1, bi2, retD, outs', frzD, frzDs, setAll, MP.bind, lenV, strV, subV, seqD, line, timesV, catV, hk, q1, q2, q3, q4]
    · exact absurd q4 (by omega)
  have a2 : evI F (.rng (.cons (.lit (.int 1)) (.cons (.bin .Add (.var 0) (.lit (.int 1))) .nil))) [some (.p (.int m)), some (.loc 0), none, none] [.lst false (.int 1 :: List.replicate k (.int 0))] = some (⟨items, none⟩, [.lst false (.int 1 :: List.replicate k (.int 0))]) := by
    simp [runFn, evSs, evS, evE, MP.evT, evEs, evO, evC, evI, start', start'.go, heap', setV, ixN, L2.atI, binV, binI, intV, cmpW, cmpV, cmpI, truV, biV, bi1, bi2, retD, outs', frzD, frzDs, setAll, MP.bind, lenV, strV, subV, seqD, line, hr]
  have a3 : evS F (.for_ (.nm 2) (.rng (.cons (.lit (.int 1)) (.cons (.bin .Add (.var 0) (.lit (.int 1))) .nil))) b__law_differences_1) [some (.p (.int m)), some (.loc 0), none, none] [.lst false (.int 1 :: List.replicate k (.int 0))] = some (.nx, [some (.p (.int m)), some (.loc 0), y, z], [.lst false (ys.map .int)]) := by
    simp only [evS, a2, e, unlock]
  have a4 : evS F (.asg 1 (.bin .Add (.lst (.cons (.lit (.int 1)) .nil)) (.bin .Mult (.lst (.cons (.lit (.int 0)) .nil)) (.var 0)))) [some (.p (.int m)), none, none, none] [] = some (.nx, [some (.p (.int m)), some (.loc 0), none, none], [.lst false (.int 1 :: List.replicate k (.int 0))]) := by
    simp only [evS, a1, MP.bind, List.set, List.length_nil, List.nil_append]
  simp only [f__law_differences, runFn, evSs, start', start'.go, heap', List.length_cons, List.length_nil, List.cons_append, List.nil_append, List.replicate, List.append_nil, Nat.reduceAdd, Nat.reduceSub, a4, a3]
  simp [runFn, evSs, evS, evE, MP.evT, evEs, evO, evC, evI, start', start'.go, heap', setV, ixN, L2.atI, binV, binI, intV, cmpW, cmpV, cmpI, truV, biV, bi1, bi2, retD, outs', frzD, frzDs, setAll, MP.bind, lenV, strV, subV, seqD, line]
theorem dif_ok (n m : Nat) (hm : m ≤ 400) : callD tab (n + 1) 11 [.p (.int (m : Int))] = some (.new ((difGo m 1 m (1 :: List.replicate m 0)).map .int), []) := by
  rw [callD_at (f := f__law_differences) rfl]
  obtain ⟨y', z', e⟩ := outer (callD tab n) m hm m 1 (1 :: List.replicate m 0) none none (by omega) (by omega) (by simp)
  exact dif_end (callD tab n) (m : Int) m _ _ _ (by omega) (by omega) (by omega) (by omega) (rng2 (by decide) (small_of (by omega) (by omega))) (by rw [show ((m : Int) + 1 - 1).toNat = m by omega]; simpa using e)
/-! the same, quickly -/
def shf (s : Nat) (xs : List Int) : List Int := xs.take s ++ List.zipWith (· - ·) (xs.drop s) xs
theorem getD_set (xs : List Int) (m : Nat) (v : Int) (j : Nat) (h : m < xs.length) : (xs.set m v).getD j 0 = if j = m then v else xs.getD j 0 := by
  rw [List.getD_eq_getElem?_getD, List.getD_eq_getElem?_getD, List.getElem?_set]
  by_cases e : m = j
  · subst e
    simp [runFn, evSs, evS, evE, MP.evT, evEs, evO, evC, evI, start', start'.go, heap', setV, ixN, L2.atI, binV, binI, intV, cmpW, cmpV, cmpI, truV, biV, bi1, bi2, retD, outs', frzD, frzDs, setAll, MP.bind, lenV, strV, subV, seqD, line, h]
  · rw [if_neg e, if_neg (Ne.symm e)]
theorem downs_at (s : Nat) : ∀ (k m : Nat) (xs : List Int) (i : Nat), m < xs.length → 1 ≤ s → s + k ≤ m + 1 → ((downs m k).foldl (updI s) xs).getD i 0 = if m < i + k ∧ i ≤ m then xs.getD i 0 - xs.getD (i - s) 0 else xs.getD i 0
  | 0, m, xs, i, _, _, _ => by rw [if_neg (by omega)]; rfl
  | k + 1, m, xs, i, h1, h2, h3 => by
    have ih := downs_at s k (m - 1) (updI s xs m) i (by rw [upd_len]; omega) h2 (by omega)
    show ((downs (m - 1) k).foldl (updI s) (updI s xs m)).getD i 0 = _
    rw [ih]
    have g : ∀ j, (updI s xs m).getD j 0 = if j = m then xs.getD m 0 - xs.getD (m - s) 0 else xs.getD j 0 := fun j => getD_set xs m _ j h1
    by_cases c : m - 1 < i + k ∧ i ≤ m - 1
    · rw [if_pos c, if_pos (by omega), g, g, if_neg (by omega), if_neg (by omega)]
    · rw [if_neg c, g]
      by_cases e : i = m
      · subst e
        rw [if_pos rfl, if_pos (by omega)]
      · rw [if_neg e, if_neg (by omega)]
theorem shf_len (s : Nat) (xs : List Int) : (shf s xs).length = xs.length := by
  unfold shf
  rw [List.length_append, List.length_take, List.length_zipWith, List.length_drop]
  omega
theorem shf_at (s : Nat) (xs : List Int) (i : Nat) (h : i < xs.length) (hs : 1 ≤ s) : (shf s xs).getD i 0 = if s ≤ i then xs.getD i 0 - xs.getD (i - s) 0 else xs.getD i 0 := by
  unfold shf
  rw [List.getD_eq_getElem?_getD, List.getD_eq_getElem?_getD, List.getD_eq_getElem?_getD]
  by_cases c : s ≤ i
  · rw [if_pos c, List.getElem?_append_right (by rw [List.length_take]; omega), List.length_take, Nat.min_eq_left (by omega), List.getElem?_zipWith]
    have e1 : (xs.drop s)[i - s]? = some (xs[i]) := by rw [List.getElem?_drop, show s + (i - s) = i by omega]; simp [runFn, evSs, evS, evE, MP.evT, evEs, evO, evC, evI, start', start'.go, heap', setV, ixN, L2.atI, binV, binI, intV, cmpW, cmpV, cmpI, truV, biV, bi1, bi2, retD, outs', frzD, frzDs, setAll, MP.bind, lenV, strV, subV, seqD, line, h]
    have e2 : xs[i - s]? = some (xs[i - s]'(by omega)) := by simp [runFn, evSs, evS, evE, MP.evT, evEs, evO, evC, evI, start', start'.go, heap', setV, ixN, L2.atI, binV, binI, intV, cmpW, cmpV, cmpI, truV, biV, bi1, bi2, retD, outs', frzD, frzDs, setAll, MP.bind, lenV, strV, subV, seqD, line]
    rw [e1, e2]
    simp [runFn, evSs, evS, evE, MP.evT, evEs, evO, evC, evI, start', start'.go, heap', setV, ixN, L2.atI, binV, binI, intV, cmpW, cmpV, cmpI, truV, biV, bi1, bi2, retD, outs', frzD, frzDs, setAll, MP.bind, lenV, strV, subV, seqD, line, h]
  · rw [if_neg c, List.getElem?_append_left (by rw [List.length_take]; omega), List.getElem?_take, if_pos (by omega)]
theorem fold_shf (s m : Nat) (xs : List Int) (h : xs.length = m + 1) (hs : 1 ≤ s) (hm : s ≤ m) : (downs m (m + 1 - s)).foldl (updI s) xs = shf s xs := by
  apply List.ext_getElem
  · rw [fold_len, shf_len]
  · intro i h1 h2
    have e := downs_at s (m + 1 - s) m xs i (by omega) hs (by omega)
    rw [fold_len] at h1
    have e' := shf_at s xs i h1 hs
    have q : ((downs m (m + 1 - s)).foldl (updI s) xs).getD i 0 = (shf s xs).getD i 0 := by
      rw [e, e']
      by_cases c : s ≤ i
      · rw [if_pos c, if_pos (by omega)]
      · rw [if_neg c, if_neg (by omega)]
    have d1 : ((downs m (m + 1 - s)).foldl (updI s) xs)[i]? = some (((downs m (m + 1 - s)).foldl (updI s) xs)[i]'(by rw [fold_len]; exact h1)) := List.getElem?_eq_getElem _
    have d2 : (shf s xs)[i]? = some ((shf s xs)[i]) := List.getElem?_eq_getElem _
    rw [List.getD_eq_getElem?_getD, List.getD_eq_getElem?_getD, d1, d2] at q
    exact q
def difQ : Nat → Nat → List Int → List Int
  | _, 0, xs => xs
  | s, k + 1, xs => difQ (s + 1) k (shf s xs)
theorem difQ_eq (m : Nat) : ∀ (k s : Nat) (xs : List Int), xs.length = m + 1 → 1 ≤ s → s + k = m + 1 → difGo m s k xs = difQ s k xs
  | 0, s, xs, _, _, _ => rfl
  | k + 1, s, xs, h1, h2, h3 => by
    simp only [difGo, difQ]
    rw [fold_shf s m xs h1 h2 (by omega)]
    exact difQ_eq m k (s + 1) _ (by rw [shf_len]; exact h1) (by omega) (by omega)
def evTab : List Int := [1, -1, -1, 0, 0, 1, 0, 1, 0, 0, 0, 0, -1, 0, 0, -1, 0, 0, 0, 0, 0, 0, 1, 0, 0, 0, 1, 0, 0, 0, 0, 0, 0, 0, 0, -1, 0, 0, 0, 0, -1, 0, 0, 0, 0, 0, 0, 0, 0, 0, 0, 1, 0, 0, 0, 0, 0, 1, 0, 0, 0, 0, 0, 0, 0, 0, 0, 0, 0, 0, -1, 0, 0, 0, 0, 0, 0, -1, 0, 0, 0, 0, 0, 0, 0, 0, 0, 0, 0, 0, 0]
def difB (m : Nat) : Bool := decide (difQ 1 m (1 :: List.replicate m 0) = evTab.take (m + 1))
def from30 (k : Nat) : Bool := Nat.rec true (fun j ih => match difB (30 + j) with | true => ih | false => false) k
theorem from30_at : ∀ {k : Nat}, from30 k = true → ∀ j, j < k → difB (30 + j) = true
  | 0, _, j, hj => absurd hj (Nat.not_lt_zero j)
  | k + 1, h, j, hj => by
    have h' : (match difB (30 + k) with | true => from30 k | false => false) = true := h
    cases e : difB (30 + k) with
    | false => rw [e] at h'; cases h'
    | true =>
      rw [e] at h'
      by_cases hjk : j = k
      · subst hjk; exact e
      · exact from30_at h' j (by omega)
theorem dif_all : from30 61 = true := by decide +kernel
theorem dif_tab (n m : Nat) (h1 : 30 ≤ m) (h2 : m ≤ 90) : callD tab (n + 1) 11 [.p (.int (m : Int))] = some (.new ((evTab.take (m + 1)).map .int), []) := by
  rw [dif_ok n m (by omega), difQ_eq m m 1 _ (by simp) (by omega) (by omega)]
  have := from30_at dif_all (m - 30) (by omega)
  rw [show 30 + (m - 30) = m by omega] at this
  rw [of_decide_eq_true this]
def evI' (r : Option (Ret × List (List D))) (v : Int) : Bool := match r with
  | some (.p (.int i), []) => decide (i = v)
  | _ => false
theorem evI_eq {r : Option (Ret × List (List D))} {v : Int} (h : evI' r v = true) : r = some (.p (.int v), []) := by
  unfold evI' at h
  split at h
  · rw [of_decide_eq_true h]
  · cases h
noncomputable def evB (k : Nat) : Bool := Nat.rec true (fun j ih => match evI' (kD tab 10 6 [.p (.int (Int.ofNat j))]) (evTab.getD j 0) with | true => ih | false => false) k
theorem evB_at : ∀ {k : Nat}, evB k = true → ∀ j, j < k → callD tab 10 6 [.p (.int (j : Int))] = some (.p (.int (evTab.getD j 0)), [])
  | 0, _, j, hj => absurd hj (Nat.not_lt_zero j)
  | k + 1, h, j, hj => by
    have h' : (match evI' (kD tab 10 6 [.p (.int (Int.ofNat k))]) (evTab.getD k 0) with | true => evB k | false => false) = true := h
    cases e : evI' (kD tab 10 6 [.p (.int (Int.ofNat k))]) (evTab.getD k 0) with
    | false => rw [e] at h'; cases h'
    | true =>
      rw [e] at h'
      by_cases hjk : j = k
      · subst hjk
        have := evI_eq e
        rw [kD_eq] at this
        exact this
      · exact evB_at h' j (by omega)
theorem ev_all : evB 91 = true := by decide +kernel
end K45

/-! ## K45L.lean -/
set_option Elab.async false
set_option linter.all false
set_option maxRecDepth 100000
namespace K45
open PySem MP L2
theorem one_of_ok (n : Nat) (a s c : Int) (xs : List Int) (ha : 0 ≤ a) (hs : 0 ≤ s) (h0 : 0 < xs.length) (h1 : xs.length < 1000) :
    ∃ (r : Nat) (a' s' : Int), r < xs.length ∧ 0 ≤ a' ∧ 0 ≤ s' ∧ callD tab (n+2) 9 [.lst [.int a, .int s, .int c], .lst (xs.map .int)] = some (.p (.int (xs.getD r 0)), [[.int a', .int s', .int (c + 1)], xs.map .int]) := by
  obtain ⟨r, a', s', r1, r2, k1, k2, e⟩ := dip_ok n a s c (xs.length : Int) ha hs (by omega) (by omega)
  refine ⟨r.toNat, a', s', by omega, k1, k2, ?_⟩
  rw [callD_at (n := n + 1) (f := f__law_one_of) rfl]
  have h2 : r.toNat < xs.length := by omega
  have h3 : xs[r.toNat]?.getD 0 = xs[r.toNat] := by simp [runFn, evSs, evS, evE, MP.evT, evEs, evO, evC, evI, start', start'.go, heap', setV, ixN, L2.atI, binV, binI, intV, cmpW, cmpV, cmpI, truV, biV, bi1, bi2, retD, outs', frzD, frzDs, setAll, MP.bind, lenV, strV, subV, seqD, line, callV, argsOf, argOf, placesOf, dupN, putBack, retV, h2]
  simp [runFn, evSs, evS, evE, MP.evT, evEs, evO, evC, evI, start', start'.go, heap', setV, ixN, L2.atI, binV, binI, intV, cmpW, cmpV, cmpI, truV, biV, bi1, bi2, retD, outs', frzD, frzDs, setAll, MP.bind, lenV, strV, subV, seqD, line, callV, argsOf, argOf, placesOf, dupN, putBack, retV, f__law_one_of, e, r1, r2, h2]
def P400 : List (Int × Int) := [(0, 0), (1, 1), (2, -1), (5, 2), (7, -2), (12, 3), (15, -3), (22, 4), (26, -4), (35, 5), (40, -5), (51, 6), (57, -6), (70, 7), (77, -7), (92, 8), (100, -8), (117, 9), (126, -9), (145, 10), (155, -10), (176, 11), (187, -11), (210, 12), (222, -12), (247, 13), (260, -13), (287, 14), (301, -14), (330, 15), (345, -15), (376, 16), (392, -16)]
def F400 : List Int := [0, 1, 2, 5, 7, 12, 15, 22, 26, 35, 40, 51, 57, 70, 77, 92, 100, 117, 126, 145, 155, 176, 187, 210, 222, 247, 260, 287, 301, 330, 345, 376, 392]
def isPs (r : Option (Ret × List (List D))) (xs : List D) : Bool := match r with
  | some (.new ys, []) => decide (ys = xs)
  | _ => false
theorem isPs_eq {r : Option (Ret × List (List D))} {xs : List D} (h : isPs r xs = true) : r = some (.new xs, []) := by
  unfold isPs at h
  split at h
  · rw [of_decide_eq_true h]
  · cases h
theorem p400 : isPs (kD tab 10 10 [.p (.int 400)]) (P400.map fun p => .tup [.int p.1, .int p.2]) = true := by decide +kernel
theorem fives400 : callD tab 10 10 [.p (.int 400)] = some (.new (P400.map fun p => .tup [.int p.1, .int p.2]), []) := by
  have := isPs_eq p400
  rw [kD_eq] at this
  exact this
theorem f400_in : ∀ r, r < F400.length → 0 ≤ F400.getD r 0 ∧ F400.getD r 0 ≤ 400 := by decide +kernel
theorem lc400 (A B C D E : Option Val) (h : Hs) : evE (callD tab 10) (.lc [4] (.nm 4) (.val (.call 10 (.cons (.lit (.int 400)) .nil))) .no e__law_right_2) [A, B, C, D, none, E] h = some (.new (F400.map .int), h) := by
  have w : evI (callD tab 10) (.val (.call 10 (.cons (.lit (.int 400)) .nil))) [A, B, C, D, none, E] h = some (⟨P400.map fun p => .p (.tup [.int p.1, .int p.2]), none⟩, h) := by
    simp [runFn, evSs, evS, evE, MP.evT, evEs, evO, evC, evI, start', start'.go, heap', setV, ixN, L2.atI, binV, binI, intV, cmpW, cmpV, cmpI, truV, biV, bi1, bi2, retD, outs', frzD, frzDs, setAll, MP.bind, lenV, strV, subV, seqD, line, callV, argsOf, argOf, placesOf, dupN, putBack, retV, fives400, walkV]
  have g := lcGo_map (f := lcF (.nm 4) (evC (callD tab 10) .no) (evE (callD tab 10) e__law_right_2) (wipeE [A, B, C, D, none, E] [4])) (h := h) (fun v => match v with | .p (.tup (x :: _)) => x | _ => .non) (P400.map fun p => .p (.tup [.int p.1, .int p.2])) (by
    intro x m
    obtain ⟨p, _, rfl⟩ := List.mem_map.mp m
    simp [runFn, evSs, evS, evE, MP.evT, evEs, evO, evC, evI, start', start'.go, heap', setV, ixN, L2.atI, binV, binI, intV, cmpW, cmpV, cmpI, truV, biV, bi1, bi2, retD, outs', frzD, frzDs, setAll, MP.bind, lenV, strV, subV, seqD, line, callV, argsOf, argOf, placesOf, dupN, putBack, retV, lcF, setTg, wipeE, e__law_right_2])
  simp only [evE, w, g, unlock]
  rfl
theorem dip_at {a s c m r a' s' : Int} {F : CallF} (e : F 8 [.lst [.int a, .int s, .int c], .p (.int m)] = some (.p (.int r), [[.int a', .int s', .int (c + 1)]])) (A B C D E : Option Val) (h : Hs) :
    evE F (.call 8 (.cons (.var 0) (.cons (.lit (.int m)) .nil))) [some (.loc 0), A, B, C, D, E] (.lst false [.int a, .int s, .int c] :: h) = some (.p (.int r), .lst false [.int a', .int s', .int (c + 1)] :: h) := by
  simp [runFn, evSs, evS, evE, MP.evT, evEs, evO, evC, evI, start', start'.go, heap', setV, ixN, L2.atI, binV, binI, intV, cmpW, cmpV, cmpI, truV, biV, bi1, bi2, retD, outs', frzD, frzDs, setAll, MP.bind, lenV, strV, subV, seqD, line, callV, argsOf, argOf, placesOf, dupN, putBack, retV, e]
theorem all_right (xs : List Int) (hx : ∀ x ∈ xs, 0 ≤ x ∧ x ≤ 400) (A B C : Option Val) (J : O) (hl : xs.length < 1000) : evE (callD tab 10) (.bi .all (.cons (.lc [5] (.nm 5) (.val (.var 2)) .no e__law_right_1) .nil)) [some (.loc 0), A, some (.loc 1), B, C, none] [J, .lst false (xs.map .int)] = some (.p (.bl true), [J, .lst false (xs.map .int)]) := by
  have w : evI (callD tab 10) (.val (.var 2)) [some (.loc 0), A, some (.loc 1), B, C, none] [J, .lst false (xs.map .int)] = some (⟨xs.map fun x => .p (.int x), some (1, .lst false (xs.map .int))⟩, [J, .lst true (xs.map .int)]) := by
    simp [runFn, evSs, evS, evE, MP.evT, evEs, evO, evC, evI, start', start'.go, heap', setV, ixN, L2.atI, binV, binI, intV, cmpW, cmpV, cmpI, truV, biV, bi1, bi2, retD, outs', frzD, frzDs, setAll, MP.bind, lenV, strV, subV, seqD, line, callV, argsOf, argOf, placesOf, dupN, putBack, retV, walkV]
  have g := lcGo_map (f := lcF (.nm 5) (evC (callD tab 10) .no) (evE (callD tab 10) e__law_right_1) (wipeE [some (.loc 0), A, some (.loc 1), B, C, none] [5])) (h := [J, .lst true (xs.map .int)]) (fun _ => .bl true) (xs.map fun x => .p (.int x)) (by
    intro x m
    obtain ⟨i, mi, rfl⟩ := List.mem_map.mp m
    have := nr_ok i (hx i mi).1 (hx i mi).2
    simp [runFn, evSs, evS, evE, MP.evT, evEs, evO, evC, evI, start', start'.go, heap', setV, ixN, L2.atI, binV, binI, intV, cmpW, cmpV, cmpI, truV, biV, bi1, bi2, retD, outs', frzD, frzDs, setAll, MP.bind, lenV, strV, subV, seqD, line, callV, argsOf, argOf, placesOf, dupN, putBack, retV, lcF, setTg, wipeE, e__law_right_1, this])
  have b : ∀ ys : List Int, blsOf (ys.map fun _ => D.bl true) = some (ys.map fun _ => true) := by
    intro ys
    induction ys with
    | nil => rfl
    | cons y ys ih => simp only [List.map_cons, blsOf, ih]
  have lt : Nat.blt ((List.map (fun _ => D.bl true) (xs.map fun x => Val.p (.int x))).length) line = true := Nat.ble_eq_true_of_le (by rw [List.length_map, List.length_map]; show xs.length + 1 ≤ 16777216; omega)
  simp only [evE, evEs, w, g, lt, unlock, List.set, if_true]
  simp [runFn, evSs, evS, evE, MP.evT, evEs, evO, evC, evI, start', start'.go, heap', setV, ixN, L2.atI, binV, binI, intV, cmpW, cmpV, cmpI, truV, biV, bi1, bi2, retD, outs', frzD, frzDs, setAll, MP.bind, lenV, strV, subV, seqD, line, callV, argsOf, argOf, placesOf, dupN, putBack, retV, blsV, b, Function.comp_def]
def evG : Val → D
  | .p (.int i) => .int (evTab.getD i.toNat 0)
  | _ => .non
theorem rng1 {j : Int} (h : small j = true) : rngV [.p (.int j)] = some (rngI 0 j.toNat) := by simp [runFn, evSs, evS, evE, MP.evT, evEs, evO, evC, evI, start', start'.go, heap', setV, ixN, L2.atI, binV, binI, intV, cmpW, cmpV, cmpI, truV, biV, bi1, bi2, retD, outs', frzD, frzDs, setAll, MP.bind, lenV, strV, subV, seqD, line, callV, argsOf, argOf, placesOf, dupN, putBack, retV, rngV, h]
theorem in_rng : ∀ (n : Nat) (lo : Int) (x : Val), x ∈ rngI lo n → ∃ j : Nat, j < n ∧ x = .p (.int (lo + j))
  | 0, lo, x, h => by simp [runFn, evSs, evS, evE, MP.evT, evEs, evO, evC, evI, start', start'.go, heap', setV, ixN, L2.atI, binV, binI, intV, cmpW, cmpV, cmpI, truV, biV, bi1, bi2, retD, outs', frzD, frzDs, setAll, MP.bind, lenV, strV, subV, seqD, line, callV, argsOf, argOf, placesOf, dupN, putBack, retV, rngI] at h
  | n + 1, lo, x, h => by
    simp only [rngI, List.mem_cons] at h
    rcases h with rfl | h
    · exact ⟨0, by omega, by simp⟩
    · obtain ⟨j, hj, rfl⟩ := in_rng n (lo + 1) x h
      exact ⟨j + 1, by omega, by rw [show lo + 1 + (j : Int) = lo + ((j + 1 : Nat) : Int) by omega]⟩
theorem rng_len : ∀ (n : Nat) (lo : Int), (rngI lo n).length = n
  | 0, lo => rfl
  | n + 1, lo => by simp [runFn, evSs, evS, evE, MP.evT, evEs, evO, evC, evI, start', start'.go, heap', setV, ixN, L2.atI, binV, binI, intV, cmpW, cmpV, cmpI, truV, biV, bi1, bi2, retD, outs', frzD, frzDs, setAll, MP.bind, lenV, strV, subV, seqD, line, callV, argsOf, argOf, placesOf, dupN, putBack, retV, rngI, rng_len n]
theorem evens0 (M : Int) (items : List Val) (hr : rngV [.p (.int (M + 1))] = some items) (hi : ∀ x ∈ items, ∃ j : Nat, j < 91 ∧ x = .p (.int (j : Int))) (hl : items.length < 1000) (A B C : Option Val) (h : Hs) :
    evE (callD tab 10) (.lc [5] (.nm 5) (.rng (.cons (.bin .Add (.var 3) (.lit (.int 1))) .nil)) .no e__law_right_0) [A, B, C, some (.p (.int M)), none, none] h = some (.new (items.map evG), h) := by
  have w : evI (callD tab 10) (.rng (.cons (.bin .Add (.var 3) (.lit (.int 1))) .nil)) [A, B, C, some (.p (.int M)), none, none] h = some (⟨items, none⟩, h) := by
    simp [runFn, evSs, evS, evE, MP.evT, evEs, evO, evC, evI, start', start'.go, heap', setV, ixN, L2.atI, binV, binI, intV, cmpW, cmpV, cmpI, truV, biV, bi1, bi2, retD, outs', frzD, frzDs, setAll, MP.bind, lenV, strV, subV, seqD, line, callV, argsOf, argOf, placesOf, dupN, putBack, retV, hr]
  have g := lcGo_map (f := lcF (.nm 5) (evC (callD tab 10) .no) (evE (callD tab 10) e__law_right_0) (wipeE [A, B, C, some (.p (.int M)), none, none] [5])) (h := h) evG items (by
    intro x m
    obtain ⟨j, hj, rfl⟩ := hi x m
    have := evB_at ev_all j hj
    simp [runFn, evSs, evS, evE, MP.evT, evEs, evO, evC, evI, start', start'.go, heap', setV, ixN, L2.atI, binV, binI, intV, cmpW, cmpV, cmpI, truV, biV, bi1, bi2, retD, outs', frzD, frzDs, setAll, MP.bind, lenV, strV, subV, seqD, line, callV, argsOf, argOf, placesOf, dupN, putBack, retV, lcF, setTg, wipeE, e__law_right_0, this, evG])
  have lt : Nat.blt (items.map evG).length line = true := Nat.ble_eq_true_of_le (by rw [List.length_map]; show items.length + 1 ≤ 16777216; omega)
  simp only [evE, w, g, lt, unlock, if_true]
theorem ev_map : ∀ m, m < 91 → (rngI 0 (m + 1)).map evG = (evTab.take (m + 1)).map D.int := by decide +kernel
theorem ev_same : ∀ m, m < 91 → eqV (.new ((evTab.take (m + 1)).map D.int)) (.new ((evTab.take (m + 1)).map D.int)) [] = some true := by decide +kernel
theorem cmp_new (xs ys : List D) (h : Hs) : eqV (.new xs) (.new ys) h = eqV (.new xs) (.new ys) [] := rfl
theorem last_ok (M : Int) (L : List D) (A B C : Option Val) (h : Hs) (e1 : evE (callD tab 10) (.lc [5] (.nm 5) (.rng (.cons (.bin .Add (.var 3) (.lit (.int 1))) .nil)) .no e__law_right_0) [A, B, C, some (.p (.int M)), none, none] h = some (.new L, h))
    (e2 : callD tab 10 11 [.p (.int M)] = some (.new L, [])) (e3 : eqV (.new L) (.new L) [] = some true) : evS (callD tab 10) (.ret (.cmp .Eq (.lc [5] (.nm 5) (.rng (.cons (.bin .Add (.var 3) (.lit (.int 1))) .nil)) .no e__law_right_0) (.call 11 (.cons (.var 3) .nil)))) [A, B, C, some (.p (.int M)), none, none] h =
      some (.rt (.p (.bl true)), [A, B, C, some (.p (.int M)), none, none], h) := by
  have e4 : evE (callD tab 10) (.call 11 (.cons (.var 3) .nil)) [A, B, C, some (.p (.int M)), none, none] h = some (.new L, h) := by simp [runFn, evSs, evS, evE, MP.evT, evEs, evO, evC, evI, start', start'.go, heap', setV, ixN, L2.atI, binV, binI, intV, cmpW, cmpV, cmpI, truV, biV, bi1, bi2, retD, outs', frzD, frzDs, setAll, MP.bind, lenV, strV, subV, seqD, line, callV, argsOf, argOf, placesOf, dupN, putBack, retV, e2]
  have e5 : cmpW .Eq (.new L) (.new L) h = some (.p (.bl true)) := by
    simp only [cmpW, cmpV, cmp_new L L h, e3]
  have e6 : evE (callD tab 10) (.cmp .Eq (.lc [5] (.nm 5) (.rng (.cons (.bin .Add (.var 3) (.lit (.int 1))) .nil)) .no e__law_right_0) (.call 11 (.cons (.var 3) .nil))) [A, B, C, some (.p (.int M)), none, none] h = some (.p (.bl true), h) := by
    rw [evE, e1]
    simp only [e4, e5]
  simp only [evS, e6]
theorem last_at (m : Nat) (h1 : 30 ≤ m) (h2 : m ≤ 90) (A B C : Option Val) (h : Hs) : evS (callD tab 10) (.ret (.cmp .Eq (.lc [5] (.nm 5) (.rng (.cons (.bin .Add (.var 3) (.lit (.int 1))) .nil)) .no e__law_right_0) (.call 11 (.cons (.var 3) .nil)))) [A, B, C, some (.p (.int (m : Int))), none, none] h =
      some (.rt (.p (.bl true)), [A, B, C, some (.p (.int (m : Int))), none, none], h) := by
  have e1 := evens0 (m : Int) (rngI 0 (m + 1)) (by rw [rng1 (small_of (by omega) (by omega)), show ((m : Int) + 1).toNat = m + 1 by omega]) (fun x hx => by
    obtain ⟨j, hj, rfl⟩ := in_rng _ _ _ hx
    exact ⟨j, by omega, by rw [Int.zero_add]⟩) (by rw [rng_len]; omega) A B C h
  rw [ev_map m (by omega)] at e1
  exact last_ok (m : Int) _ A B C h e1 (dif_tab 9 m h1 h2) (ev_same m (by omega))
theorem right_ok (a s : Int) (ha : 0 ≤ a) (hs : 0 ≤ s) : ∃ xs, callD tab 11 13 [.lst [.int a, .int s, .int 0]] = some (.p (.bl true), [xs]) := by
  obtain ⟨r1, a1, s1, q1, k1, l1, e1⟩ := one_of_ok 8 a s 0 F400 ha hs (by decide) (by decide)
  obtain ⟨f0, f1⟩ := f400_in r1 q1
  generalize F400.getD r1 0 = far at e1 f0 f1
  obtain ⟨r2, a2, s2, p2, q2, k2, l2, e2⟩ := dip_ok 9 a1 s1 1 401 k1 l1 (by omega) (by omega)
  obtain ⟨r3, a3, s3, p3, q3, k3, l3, e3⟩ := dip_ok 9 a2 s2 2 60 k2 l2 (by omega) (by omega)
  obtain ⟨r4, a4, s4, p4, q4, k4, l4, e4⟩ := dip_ok 9 a3 s3 3 61 k3 l3 (by omega) (by omega)
  simp only [Int.zero_add, Int.reduceAdd, Nat.reduceAdd] at e1 e2 e3 e4
  rw [callD_at (n := 10) (f := f__law_right) rfl]
  have b1 : evS (callD tab 10) (.asg 1 (.call 9 (.cons (.var 0) (.cons (.lc [4] (.nm 4) (.val (.call 10 (.cons (.lit (.int 400)) .nil))) .no e__law_right_2) .nil)))) [some (.loc 0), none, none, none, none, none] [.lst false [.int a, .int s, .int 0]] =
      some (.nx, [some (.loc 0), some (.p (.int far)), none, none, none, none], [.lst false [.int a1, .int s1, .int 1]]) := by
    have x := lc400 (some (.loc 0)) none none none none [.lst false [.int a, .int s, .int 0]]
    have y : evEs (callD tab 10) (.cons (.var 0) (.cons (.lc [4] (.nm 4) (.val (.call 10 (.cons (.lit (.int 400)) .nil))) .no e__law_right_2) .nil)) [some (.loc 0), none, none, none, none, none] [.lst false [.int a, .int s, .int 0]] = some ([.loc 0, .new (F400.map .int)], [.lst false [.int a, .int s, .int 0]]) := by
      rw [evEs, evE]
      simp only [List.getElem?_cons_zero]
      rw [evEs, x]
      simp only [evEs]
    have z : callV (callD tab 10) 9 [.loc 0, .new (F400.map .int)] [.lst false [.int a, .int s, .int 0]] = some (.p (.int far), [.lst false [.int a1, .int s1, .int 1]]) := by
      simp [runFn, evSs, evS, evE, MP.evT, evEs, evO, evC, evI, start', start'.go, heap', setV, ixN, L2.atI, binV, binI, intV, cmpW, cmpV, cmpI, truV, biV, bi1, bi2, retD, outs', frzD, frzDs, setAll, MP.bind, lenV, strV, subV, seqD, line, callV, argsOf, argOf, placesOf, dupN, putBack, retV, e1]
    simp only [evS]
    rw [evE, y]
    simp only [z, MP.bind, List.set]
  have b2 : evS (callD tab 10) (.asg 2 (.lst (.cons (.call 8 (.cons (.var 0) (.cons (.lit (.int 401)) .nil))) (.cons (.call 8 (.cons (.var 0) (.cons (.lit (.int 60)) .nil))) (.cons (.var 1) (.cons (.bi .max (.cons (.bin .Sub (.var 1) (.lit (.int 1))) (.cons (.lit (.int 0)) .nil))) (.cons (.bi .min (.cons (.bin .Add (.var 1) (.lit (.int 1))) (.cons (.lit (.int 400)) .nil))) (.cons (.lit (.int 400)) .nil)))))))) [some (.loc 0), some (.p (.int far)), none, none, none, none] [.lst false [.int a1, .int s1, .int 1]] =
      some (.nx, [some (.loc 0), some (.p (.int far)), some (.loc 1), none, none, none], [.lst false [.int a3, .int s3, .int 3], .lst false ([r2, r3, far, if 0 > far - 1 then 0 else far - 1, if 400 < far + 1 then 400 else far + 1, 400].map .int)]) := by
    simp [runFn, evSs, evS, evE, MP.evT, evEs, evO, evC, evI, start', start'.go, heap', setV, ixN, L2.atI, binV, binI, intV, cmpW, cmpV, cmpI, truV, biV, bi1, bi2, retD, outs', frzD, frzDs, setAll, MP.bind, lenV, strV, subV, seqD, line, callV, argsOf, argOf, placesOf, dupN, putBack, retV, e2, e3]
  have b3 : evS (callD tab 10) (.ife (.not (.val (.bi .all (.cons (.lc [5] (.nm 5) (.val (.var 2)) .no e__law_right_1) .nil)))) (.cons (.ret (.lit (.bl false))) .nil) .nil) [some (.loc 0), some (.p (.int far)), some (.loc 1), none, none, none] [.lst false [.int a3, .int s3, .int 3], .lst false ([r2, r3, far, if 0 > far - 1 then 0 else far - 1, if 400 < far + 1 then 400 else far + 1, 400].map .int)] =
      some (.nx, [some (.loc 0), some (.p (.int far)), some (.loc 1), none, none, none], [.lst false [.int a3, .int s3, .int 3], .lst false ([r2, r3, far, if 0 > far - 1 then 0 else far - 1, if 400 < far + 1 then 400 else far + 1, 400].map .int)]) := by
    have x := all_right [r2, r3, far, if 0 > far - 1 then 0 else far - 1, if 400 < far + 1 then 400 else far + 1, 400] (by
      intro x hx
      simp only [List.mem_cons, List.not_mem_nil, or_false] at hx
      rcases hx with rfl | rfl | rfl | rfl | rfl | rfl
      · omega
      · omega
      · omega
      · split <;> omega
      · split <;> omega
      · omega) (some (.p (.int far))) none none (.lst false [.int a3, .int s3, .int 3]) (by simp)
    simp only [evS, evT]
    rw [x]
    simp only [truV, Bool.not_true, evSs]
  have b4 : evS (callD tab 10) (.asg 3 (.bin .Add (.lit (.int 30)) (.call 8 (.cons (.var 0) (.cons (.lit (.int 61)) .nil))))) [some (.loc 0), some (.p (.int far)), some (.loc 1), none, none, none] [.lst false [.int a3, .int s3, .int 3], .lst false ([r2, r3, far, if 0 > far - 1 then 0 else far - 1, if 400 < far + 1 then 400 else far + 1, 400].map .int)] =
      some (.nx, [some (.loc 0), some (.p (.int far)), some (.loc 1), some (.p (.int (30 + r4))), none, none], [.lst false [.int a4, .int s4, .int 4], .lst false ([r2, r3, far, if 0 > far - 1 then 0 else far - 1, if 400 < far + 1 then 400 else far + 1, 400].map .int)]) := by
    simp [runFn, evSs, evS, evE, MP.evT, evEs, evO, evC, evI, start', start'.go, heap', setV, ixN, L2.atI, binV, binI, intV, cmpW, cmpV, cmpI, truV, biV, bi1, bi2, retD, outs', frzD, frzDs, setAll, MP.bind, lenV, strV, subV, seqD, line, callV, argsOf, argOf, placesOf, dupN, putBack, retV, e4]
  obtain ⟨m, hm⟩ : ∃ m : Nat, (m : Int) = 30 + r4 := ⟨(30 + r4).toNat, by omega⟩
  have b5 := last_at m (by omega) (by omega) (some (.loc 0)) (some (.p (.int far))) (some (.loc 1)) [.lst false [.int a4, .int s4, .int 4], .lst false ([r2, r3, far, if 0 > far - 1 then 0 else far - 1, if 400 < far + 1 then 400 else far + 1, 400].map .int)]
  rw [hm] at b5
  refine ⟨[.int a4, .int s4, .int 4], ?_⟩
  simp only [f__law_right, runFn, evSs, start', start'.go, heap', List.length_cons, List.length_nil, List.cons_append, List.nil_append, List.replicate, List.append_nil, Nat.reduceAdd, Nat.reduceSub, b1, b2, b3, b4, b5]
  simp [runFn, evSs, evS, evE, MP.evT, evEs, evO, evC, evI, start', start'.go, heap', setV, ixN, L2.atI, binV, binI, intV, cmpW, cmpV, cmpI, truV, biV, bi1, bi2, retD, outs', frzD, frzDs, setAll, MP.bind, lenV, strV, subV, seqD, line, callV, argsOf, argOf, placesOf, dupN, putBack, retV]
theorem law_turn (ns : List Int) (t : Int) (h0 : 0 ≤ t) (h1 : t ≤ 2) (A : Option Val) : lcF (.nm 1) (evC (callD tab 11) .no) (evE (callD tab 11) e_law_0) [some (.p (.scr ns)), none] (.p (.int t)) [] = some (some (.bl true), []) := by
  obtain ⟨a, s, ha, hs, ej⟩ := jar_ok 10 ns t h0 h1
  obtain ⟨xs, er⟩ := right_ok a s ha hs
  simp only [Nat.reduceAdd] at ej
  simp [runFn, evSs, evS, evE, MP.evT, evEs, evO, evC, evI, start', start'.go, heap', setV, ixN, L2.atI, binV, binI, intV, cmpW, cmpV, cmpI, truV, biV, bi1, bi2, retD, outs', frzD, frzDs, setAll, MP.bind, lenV, strV, subV, seqD, line, callV, argsOf, argOf, placesOf, dupN, putBack, retV, lcF, setTg, e_law_0, ej, er]
def isD (r : Option (Ret × List (List D))) (x : D) : Bool := match r with
  | some (.p y, []) => decide (y = x)
  | _ => false
theorem isD_eq {r : Option (Ret × List (List D))} {x : D} (h : isD r x = true) : r = some (.p x, []) := by
  unfold isD at h
  split at h
  · rw [of_decide_eq_true h]
  · cases h
theorem five0 : isD (kD tab 11 5 [.p (.int 0)]) (.tup [.int 0]) = true := by decide +kernel
theorem elo0 : isD (kD tab 11 6 [.p (.int 0)]) (.int 1) = true := by decide +kernel
theorem first_ok (ns : List Int) : MP.evT (callD tab 11) (.val (.cmp .NotEq (.bi .repr (.cons (.lst (.cons (.call 5 (.cons (.lit (.int 0)) .nil)) (.cons (.call 6 (.cons (.lit (.int 0)) .nil)) .nil))) .nil)) (.bi .repr (.cons (.lst (.cons (.tup (.cons (.lit (.int 0)) .nil)) (.cons (.lit (.int 1)) .nil))) .nil)))) [some (.p (.scr ns)), none] [] = some (false, []) := by
  have e5 : callD tab 11 5 [.p (.int 0)] = some (.p (.tup [.int 0]), []) := by rw [← kD_eq]; exact isD_eq five0
  have e6 : callD tab 11 6 [.p (.int 0)] = some (.p (.int 1), []) := by rw [← kD_eq]; exact isD_eq elo0
  have r1 : bi1 .repr (.new [.tup [.int 0], .int 1]) [] = some (.p (.rep (.lst [.tup [.int 0], .int 1]))) := by first | rfl | kernel_rfl
  have c1 : cmpW .NotEq (.p (.rep (.lst [.tup [.int 0], .int 1]))) (.p (.rep (.lst [.tup [.int 0], .int 1]))) [] = some (.p (.bl false)) := by first | rfl | kernel_rfl
  have a1 : evE (callD tab 11) (.bi .repr (.cons (.lst (.cons (.call 5 (.cons (.lit (.int 0)) .nil)) (.cons (.call 6 (.cons (.lit (.int 0)) .nil)) .nil))) .nil)) [some (.p (.scr ns)), none] [] = some (.p (.rep (.lst [.tup [.int 0], .int 1])), []) := by
    have q : evEs (callD tab 11) (.cons (.lst (.cons (.call 5 (.cons (.lit (.int 0)) .nil)) (.cons (.call 6 (.cons (.lit (.int 0)) .nil)) .nil))) .nil) [some (.p (.scr ns)), none] [] = some ([.new [.tup [.int 0], .int 1]], []) := by simp [runFn, evSs, evS, evE, MP.evT, evEs, evO, evC, evI, start', start'.go, heap', setV, ixN, L2.atI, binV, binI, intV, cmpW, cmpV, cmpI, truV, biV, bi1, bi2, retD, outs', frzD, frzDs, setAll, MP.bind, lenV, strV, subV, seqD, line, callV, argsOf, argOf, placesOf, dupN, putBack, retV, e5, e6]
    rw [evE, q]
    simp only [biV, r1]
  have a2 : evE (callD tab 11) (.bi .repr (.cons (.lst (.cons (.tup (.cons (.lit (.int 0)) .nil)) (.cons (.lit (.int 1)) .nil))) .nil)) [some (.p (.scr ns)), none] [] = some (.p (.rep (.lst [.tup [.int 0], .int 1])), []) := by
    have q : evEs (callD tab 11) (.cons (.lst (.cons (.tup (.cons (.lit (.int 0)) .nil)) (.cons (.lit (.int 1)) .nil))) .nil) [some (.p (.scr ns)), none] [] = some ([.new [.tup [.int 0], .int 1]], []) := by simp [runFn, evSs, evS, evE, MP.evT, evEs, evO, evC, evI, start', start'.go, heap', setV, ixN, L2.atI, binV, binI, intV, cmpW, cmpV, cmpI, truV, biV, bi1, bi2, retD, outs', frzD, frzDs, setAll, MP.bind, lenV, strV, subV, seqD, line, callV, argsOf, argOf, placesOf, dupN, putBack, retV]
    rw [evE, q]
    simp only [biV, r1]
  have a3 : evE (callD tab 11) (.cmp .NotEq (.bi .repr (.cons (.lst (.cons (.call 5 (.cons (.lit (.int 0)) .nil)) (.cons (.call 6 (.cons (.lit (.int 0)) .nil)) .nil))) .nil)) (.bi .repr (.cons (.lst (.cons (.tup (.cons (.lit (.int 0)) .nil)) (.cons (.lit (.int 1)) .nil))) .nil))) [some (.p (.scr ns)), none] [] = some (.p (.bl false), []) := by
    rw [evE, a1]
    simp only [a2, c1]
  rw [MP.evT, a3]
  simp only [truV]
theorem turns_ok (ns : List Int) (items : List Val) (hi : ∀ x ∈ items, ∃ t : Int, 0 ≤ t ∧ t ≤ 2 ∧ x = .p (.int t)) (hl : items.length < 1000)
    (w : evI (callD tab 11) (.rng (.cons (.bi .max (.cons (.lit (.int 2)) (.cons (.bi .min (.cons (.bi .len (.cons (.var 0) .nil)) (.cons (.lit (.int 3)) .nil))) .nil))) .nil)) [some (.p (.scr ns)), none] [] = some (⟨items, none⟩, [])) :
    evE (callD tab 11) (.bi .all (.cons (.lc [1] (.nm 1) (.rng (.cons (.bi .max (.cons (.lit (.int 2)) (.cons (.bi .min (.cons (.bi .len (.cons (.var 0) .nil)) (.cons (.lit (.int 3)) .nil))) .nil))) .nil)) .no e_law_0) .nil)) [some (.p (.scr ns)), none] [] = some (.p (.bl true), []) := by
  have g := lcGo_map (f := lcF (.nm 1) (evC (callD tab 11) .no) (evE (callD tab 11) e_law_0) (wipeE [some (.p (.scr ns)), none] [1])) (h := []) (fun _ => .bl true) items (by
    intro x m
    obtain ⟨t, h0, h1, rfl⟩ := hi x m
    exact law_turn ns t h0 h1 none)
  have b : ∀ ys : List Val, blsOf (ys.map fun _ => D.bl true) = some (ys.map fun _ => true) := by
    intro ys
    induction ys with
    | nil => rfl
    | cons y ys ih => simp only [List.map_cons, blsOf, ih]
  have lt : Nat.blt (List.map (fun _ => D.bl true) items).length line = true := Nat.ble_eq_true_of_le (by rw [List.length_map]; show items.length + 1 ≤ 16777216; omega)
  simp only [evE, evEs, w, g, lt, unlock, if_true]
  simp [runFn, evSs, evS, evE, MP.evT, evEs, evO, evC, evI, start', start'.go, heap', setV, ixN, L2.atI, binV, binI, intV, cmpW, cmpV, cmpI, truV, biV, bi1, bi2, retD, outs', frzD, frzDs, setAll, MP.bind, lenV, strV, subV, seqD, line, callV, argsOf, argOf, placesOf, dupN, putBack, retV, blsV, b]
theorem plain (ns : List Int) (h : ns.length ≤ 63) : callD (defs.map (·.fn)) 12 14 [.p (.scr ns)] = some (.p (.bl true), []) := by
  rw [tab_eq, callD_at (n := 11) (f := f_law) rfl]
  have main : evE (callD tab 11) (.bi .all (.cons (.lc [1] (.nm 1) (.rng (.cons (.bi .max (.cons (.lit (.int 2)) (.cons (.bi .min (.cons (.bi .len (.cons (.var 0) .nil)) (.cons (.lit (.int 3)) .nil))) .nil))) .nil)) .no e_law_0) .nil)) [some (.p (.scr ns)), none] [] = some (.p (.bl true), []) := by
    by_cases h3 : 3 ≤ ns.length
    · refine turns_ok ns [.p (.int 0), .p (.int 1), .p (.int 2)] ?_ (by decide) ?_
      · intro x m
        simp only [List.mem_cons, List.not_mem_nil, or_false] at m
        rcases m with rfl | rfl | rfl
        · exact ⟨0, by omega, by omega, rfl⟩
        · exact ⟨1, by omega, by omega, rfl⟩
        · exact ⟨2, by omega, by omega, rfl⟩
      · have w : (if (3 : Int) < (ns.length : Int) then (3 : Int) else (ns.length : Int)) = 3 := by split <;> omega
        have r : rngV [.p (.int 3)] = some [.p (.int 0), .p (.int 1), .p (.int 2)] := by rfl
        simp [runFn, evSs, evS, evE, MP.evT, evEs, evO, evC, evI, start', start'.go, heap', setV, ixN, L2.atI, binV, binI, intV, cmpW, cmpV, cmpI, truV, biV, bi1, bi2, retD, outs', frzD, frzDs, setAll, MP.bind, lenV, strV, subV, seqD, line, callV, argsOf, argOf, placesOf, dupN, putBack, retV, w, r]
    · refine turns_ok ns [.p (.int 0), .p (.int 1)] ?_ (by decide) ?_
      · intro x m
        simp only [List.mem_cons, List.not_mem_nil, or_false] at m
        rcases m with rfl | rfl
        · exact ⟨0, by omega, by omega, rfl⟩
        · exact ⟨1, by omega, by omega, rfl⟩
      · have w : (if (3 : Int) < (ns.length : Int) then (3 : Int) else (ns.length : Int)) = (ns.length : Int) := by split <;> omega
        have w2 : ¬ (2 : Int) < (ns.length : Int) := by omega
        have r : rngV [.p (.int 2)] = some [.p (.int 0), .p (.int 1)] := by rfl
        simp [runFn, evSs, evS, evE, MP.evT, evEs, evO, evC, evI, start', start'.go, heap', setV, ixN, L2.atI, binV, binI, intV, cmpW, cmpV, cmpI, truV, biV, bi1, bi2, retD, outs', frzD, frzDs, setAll, MP.bind, lenV, strV, subV, seqD, line, callV, argsOf, argOf, placesOf, dupN, putBack, retV, w, w2, r]
  have b1 : evS (callD tab 11) (.ife (.val (.cmp .NotEq (.bi .repr (.cons (.lst (.cons (.call 5 (.cons (.lit (.int 0)) .nil)) (.cons (.call 6 (.cons (.lit (.int 0)) .nil)) .nil))) .nil)) (.bi .repr (.cons (.lst (.cons (.tup (.cons (.lit (.int 0)) .nil)) (.cons (.lit (.int 1)) .nil))) .nil)))) (.cons (.ret (.lit (.bl false))) .nil) .nil) [some (.p (.scr ns)), none] [] = some (.nx, [some (.p (.scr ns)), none], []) := by
    rw [evS, first_ok ns]
    simp only [evSs]
  simp only [f_law, runFn, evSs, start', start'.go, heap', List.length_cons, List.length_nil, List.cons_append, List.nil_append, List.replicate, List.append_nil, Nat.reduceAdd, Nat.reduceSub, b1]
  rw [evS, main]
  simp [runFn, evSs, evS, evE, MP.evT, evEs, evO, evC, evI, start', start'.go, heap', setV, ixN, L2.atI, binV, binI, intV, cmpW, cmpV, cmpI, truV, biV, bi1, bi2, retD, outs', frzD, frzDs, setAll, MP.bind, lenV, strV, subV, seqD, line, callV, argsOf, argOf, placesOf, dupN, putBack, retV]
end K45

/-! ## k45.end -/
open PySem PySem.W PyProof.Rows
set_option maxRecDepth 100000 in
set_option maxHeartbeats 0 in
theorem PySem.Challenge.cw_letparts_k45_whole_fives_holds : PySem.Challenge.rw_letparts_k45_whole_fives.Holds := by
  w_on; o_law; k_head; (case hw => w_witness2)
  k_fill
  refine MP.law_walk (l := PySem.Challenge.rw_letparts_k45_whole_fives) (n := 12) (i := 14) (ds := K45.defs) (consts := K45.consts) (d := K45.d_law) (x := "script") rfl (by decide) rfl ⟨rfl, by decide, by decide⟩ (fun w h Y => PySem.W.kIn_of Y) K45.chk rfl rfl rfl ?F K45.plain
  case F =>
    intro w mg h KX G
    refine' K45.facts KX G ?a0 ?l0 ?c0 ?k0 ?a1 ?l1 ?c1 ?k1 ?a2 ?l2 ?c2 ?k2 ?a3 ?l3 ?c3 ?k3 ?a4 ?l4 ?c4 ?k4 ?a5 ?l5 ?c5 ?k5 ?a6 ?l6 ?c6 ?k6 ?a7 ?l7 ?c7 ?k7 ?a8 ?l8 ?c8 ?k8 ?a9 ?l9 ?c9 ?k9 ?a10 ?l10 ?c10 ?k10 ?a11 ?l11 ?c11 ?k11 ?a12 ?l12 ?c12 ?k12 ?a13 ?l13 ?c13 ?k13 ?a14 ?l14 ?c14 ?k14 ?q0 ?b0 ?b1 ?b2 ?b3 ?b4 ?b5 ?b6 ?b7 ?b8 ?b9 ?b10 ?b11 ?b12 ?b13 ?b14 ?b15 ?b16 ?b17
    (case a0 => k_is); (case l0 => k_is); (case c0 => k_is); (case k0 => k_is); (case a1 => k_is); (case l1 => k_is); (case c1 => k_is); (case k1 => k_is)
    (case a2 => k_is); (case l2 => k_is); (case c2 => k_is); (case k2 => k_is); (case a3 => k_is); (case l3 => k_is); (case c3 => k_is); (case k3 => k_is)
    (case a4 => k_is); (case l4 => k_is); (case c4 => k_is); (case k4 => k_is); (case a5 => k_is); (case l5 => k_is); (case c5 => k_is); (case k5 => k_is)
    (case a6 => k_is); (case l6 => k_is); (case c6 => k_is); (case k6 => k_is); (case a7 => k_is); (case l7 => k_is); (case c7 => k_is); (case k7 => k_is)
    (case a8 => k_is); (case l8 => k_is); (case c8 => k_is); (case k8 => k_is); (case a9 => k_is); (case l9 => k_is); (case c9 => k_is); (case k9 => k_is)
    (case a10 => k_is); (case l10 => k_is); (case c10 => k_is); (case k10 => k_is); (case a11 => k_is); (case l11 => k_is); (case c11 => k_is); (case k11 => k_is)
    (case a12 => k_is); (case l12 => k_is); (case c12 => k_is); (case k12 => k_is); (case a13 => k_is); (case l13 => k_is); (case c13 => k_is); (case k13 => k_is)
    (case a14 => k_is); (case l14 => k_is); (case c14 => k_is); (case k14 => k_is); (case q0 => k_is); (case b0 => k_is); (case b1 => k_is); (case b2 => k_is)
    (case b3 => k_is); (case b4 => k_is); (case b5 => k_is); (case b6 => k_is); (case b7 => k_is); (case b8 => k_is); (case b9 => k_is); (case b10 => k_is)
    (case b11 => k_is); (case b12 => k_is); (case b13 => k_is); (case b14 => k_is); (case b15 => k_is); (case b16 => k_is); (case b17 => k_is)
