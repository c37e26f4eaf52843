import PyProof.Rows.All
import Wide.All
import OpenK.AllK
import Wide.FinOn
import HandS.ForMost
import HandS.Wide
import HandS.WideBits
import HandS.Star
import HandS.TupAny
import HandS.TupLe
import HandS.TupMul
import HandS.Style
import HandS.SortInts
import HandS.SortRule
import HandS.IsInst
import HandS.RaiseMore
import HandS.Zip
import HandS.Rev
import HandS.Deep
import HandS.Flow
import HandS.Walk
import HandS.SortKw
import KE.KTupSum
import KE.SortData
import KE.DataMinMax
import HandS.SetFor
import KE.GoesEnum
import PySem.Challenge.RW_letparts_k56_whole_ranks_and_cranks_and

/-! ## EngA.lean -/
set_option Elab.async false
set_option linter.all false
set_option maxRecDepth 100000
namespace MP
open PySem PySem.Spec PyProof.Rows L2

/-! ### data: values that never change -/
inductive D where
  | non | bl (b : Bool) | int (i : Int) | str (x : Str) | tup (xs : List D) | lst (xs : List D)
  | rep (d : D)          -- the text repr(d)
  | scr (ns : List Int)  -- the script: a list of ints that is read alone
  deriving Inhabited

mutual
def eqD : D → D → Bool
  | .non, .non => true
  | .bl a, .bl b => a == b
  | .int a, .int b => a == b
  | .str a, .str b => a == b
  | .tup a, .tup b => eqDs a b
  | .lst a, .lst b => eqDs a b
  | .rep a, .rep b => eqD a b
  | .scr a, .scr b => a == b
  | _, _ => false
def eqDs : List D → List D → Bool
  | [], [] => true
  | x :: xs, y :: ys => eqD x y && eqDs xs ys
  | _, _ => false
end
mutual
theorem eqD_iff : ∀ a b : D, eqD a b = true ↔ a = b
  | .non, b => by cases b <;> simp [eqD]
  | .bl _, b => by cases b <;> simp [eqD]
  | .int _, b => by cases b <;> simp [eqD]
  | .str _, b => by cases b <;> simp [eqD]
  | .tup a, b => by cases b <;> simp [eqD, eqDs_iff a]
  | .lst a, b => by cases b <;> simp [eqD, eqDs_iff a]
  | .rep a, b => by cases b <;> simp [eqD, eqD_iff a]
  | .scr _, b => by cases b <;> simp [eqD]
theorem eqDs_iff : ∀ a b : List D, eqDs a b = true ↔ a = b
  | [], b => by cases b <;> simp [eqDs]
  | x :: xs, b => by cases b <;> simp [eqDs, eqD_iff x, eqDs_iff xs]
end
instance : DecidableEq D := fun a b => decidable_of_iff _ (eqD_iff a b)

mutual
def toPy : D → PyData
  | .non => .none
  | .bl b => .bool b
  | .int i => .int i
  | .str x => .str x
  | .tup xs => .tuple (toPys xs)
  | .lst xs => .list (toPys xs)
  | .rep d => .str (toPy d).shown
  | .scr ns => .list (ns.map .int)
def toPys : List D → List PyData
  | [] => []
  | x :: xs => toPy x :: toPys xs
end

/-! ### Python's == on data: none where this text does not say -/
mutual
def pyEq : D → D → Option Bool
  | .bl _, .int _ => none
  | .int _, .bl _ => none
  | .rep a, .rep b => if eqD a b then some true else none
  | .rep _, .str _ => none
  | .str _, .rep _ => none
  | .scr _, _ => none
  | _, .scr _ => none
  | .non, .non => some true
  | .bl a, .bl b => some (a == b)
  | .int a, .int b => some (a == b)
  | .str a, .str b => some (a == b)
  | .tup a, .tup b => pyEqs a b
  | .lst a, .lst b => pyEqs a b
  | _, _ => some false
def pyEqs : List D → List D → Option Bool
  | [], [] => some true
  | x :: xs, y :: ys => match pyEq x y with
    | none => none
    | some b => match pyEqs xs ys with
      | none => none
      | some c => some (b && c)
  | _, _ => some false
end
mutual
theorem pyEq_ok : ∀ (a b : D) (r : Bool), pyEq a b = some r → PyData.eqv (toPy a) (toPy b) = r
  | .non, b, r, h => by cases b <;> simp_all [pyEq, toPy, PyData.eqv]
  | .bl _, b, r, h => by cases b <;> simp_all [pyEq, toPy, PyData.eqv]
  | .int _, b, r, h => by cases b <;> simp_all [pyEq, toPy, PyData.eqv]
  | .str _, b, r, h => by cases b <;> simp_all [pyEq, toPy, PyData.eqv]
  | .tup a, b, r, h => by
    cases b <;> simp_all [pyEq, toPy, PyData.eqv]
    exact pyEqs_ok a _ r h
  | .lst a, b, r, h => by
    cases b <;> simp_all [pyEq, toPy, PyData.eqv]
    exact pyEqs_ok a _ r h
  | .rep a, b, r, h => by
    cases b <;> simp_all [pyEq, toPy, PyData.eqv]
    have := (eqD_iff _ _).mp h.1
    rw [this]
  | .scr _, b, r, h => by cases b <;> simp_all [pyEq]
theorem pyEqs_ok : ∀ (a b : List D) (r : Bool), pyEqs a b = some r → PyData.eqvAll (toPys a) (toPys b) = r
  | [], b, r, h => by cases b <;> simp_all [pyEqs, toPys, PyData.eqvAll]
  | x :: xs, b, r, h => by
    cases b with
    | nil => simp_all [pyEqs, toPys, PyData.eqvAll]
    | cons y ys =>
      simp only [pyEqs] at h
      cases e1 : pyEq x y with
      | none => rw [e1] at h; cases h
      | some b1 =>
        rw [e1] at h
        cases e2 : pyEqs xs ys with
        | none => rw [e2] at h; cases h
        | some b2 =>
          rw [e2] at h
          simp only [Option.some.injEq] at h
          simp only [toPys, PyData.eqvAll, pyEq_ok x y b1 e1, pyEqs_ok xs ys b2 e2, h]
end
end MP

/-! ## EngB.lean -/
set_option Elab.async false
set_option linter.all false
set_option maxRecDepth 100000
namespace MP
open PySem PySem.Spec PyProof.Rows L2

abbrev Fr' := PySem.W.Frag
/-- a written object of the module -/
def KL (K : PySem.W.Frag) (a : Addr) (xs : List V) : Prop :=
  ∃ (o : Obj) (its : Array Value) (n : Nat), K.lookup a = some o ∧ o.cls = .type "list" ∧ o.dict = none ∧ o.data = .seq its n ∧ its.size ≤ sizeLine ∧ Vals xs its.toList

/-- a tuple of the program: its object is known, it has no dict of its own -/
def TupO (H : Hp) (a : Addr) (vs : List V) : Prop := ∃ o : Obj, o.dict = none ∧ H a = some (.frz o (.tup vs))
theorem TupO.sq {K : PySem.W.Frag} {H : Hp} {a : Addr} {vs : List V} (h : TupO H a vs) : SqT K H a vs := let ⟨o, _, e⟩ := h; .inl (.inr ⟨o, e⟩)
/-- addresses that the data must not lean on: the lists that may change, and the new ones -/
abbrev Av := Addr → Prop
mutual
def RepD (K : PySem.W.Frag) (H : Hp) (av : Av) : D → V → Prop
  | .non, v => v = .non
  | .bl b, v => v = .bl b
  | .int i, v => v = .int i
  | .str x, v => v = .str x
  | .rep d, v => v = .str (toPy d).shown
  | .tup xs, v => ∃ a vs, v = .ref a ∧ TupO H a vs ∧ ¬ av a ∧ RepDs K H av xs vs
  | .lst xs, v => ∃ a vs, v = .ref a ∧ H a = some (.lst vs) ∧ ¬ av a ∧ RepDs K H av xs vs
  | .scr ns, v => ∃ a, v = .ref a ∧ ((Rd H a (.lst (ns.map V.int)) ∧ ¬ av a) ∨ KL K a (ns.map V.int))
def RepDs (K : PySem.W.Frag) (H : Hp) (av : Av) : List D → List V → Prop
  | [], vs => vs = []
  | x :: xs, vs => ∃ v r, vs = v :: r ∧ RepD K H av x v ∧ RepDs K H av xs r
end
section
variable {K : PySem.W.Frag} {H H' : Hp} {av av' : Av}
mutual
theorem RepD.mono (m : ∀ a o, H a = some o → ¬ av a → H' a = some o ∧ ¬ av' a) : ∀ (d : D) (v : V), RepD K H av d v → RepD K H' av' d v
  | .non, _, h => h
  | .bl _, _, h => h
  | .int _, _, h => h
  | .str _, _, h => h
  | .rep _, _, h => h
  | .tup xs, v, h => by
    obtain ⟨a, vs, e, ⟨o, hd, h1⟩, n, h2⟩ := h
    exact ⟨a, vs, e, ⟨o, hd, (m _ _ h1 n).1⟩, (m _ _ h1 n).2, RepDs.mono m xs vs h2⟩
  | .lst xs, v, h => by
    obtain ⟨a, vs, e, h1, n, h2⟩ := h
    exact ⟨a, vs, e, (m _ _ h1 n).1, (m _ _ h1 n).2, RepDs.mono m xs vs h2⟩
  | .scr ns, v, h => by
    obtain ⟨a, e, h1⟩ := h
    refine ⟨a, e, ?_⟩
    rcases h1 with ⟨r | ⟨o, r⟩, n⟩ | k
    · exact .inl ⟨.inl (m _ _ r n).1, (m _ _ r n).2⟩
    · exact .inl ⟨.inr ⟨o, (m _ _ r n).1⟩, (m _ _ r n).2⟩
    · exact .inr k
theorem RepDs.mono (m : ∀ a o, H a = some o → ¬ av a → H' a = some o ∧ ¬ av' a) : ∀ (xs : List D) (vs : List V), RepDs K H av xs vs → RepDs K H' av' xs vs
  | [], _, h => h
  | x :: xs, vs, h => by
    obtain ⟨v, r, e, h1, h2⟩ := h
    exact ⟨v, r, e, RepD.mono m x v h1, RepDs.mono m xs r h2⟩
end
theorem RepD.lessAv (m : ∀ a, av' a → av a) {d : D} {v : V} (h : RepD K H av d v) : RepD K H av' d v := RepD.mono (fun a o e n => ⟨e, fun q => n (m a q)⟩) d v h
theorem RepDs.lessAv (m : ∀ a, av' a → av a) {d : List D} {v : List V} (h : RepDs K H av d v) : RepDs K H av' d v := RepDs.mono (fun a o e n => ⟨e, fun q => n (m a q)⟩) d v h
theorem RepDs.length : ∀ {xs : List D} {vs : List V}, RepDs K H av xs vs → vs.length = xs.length
  | [], _, h => by cases h; rfl
  | _ :: xs, _, h => by
    obtain ⟨v, r, e, _, h2⟩ := h
    subst e
    simp [RepDs.length h2]
theorem RepDs.append : ∀ {xs ys : List D} {vs us : List V}, RepDs K H av xs vs → RepDs K H av ys us → RepDs K H av (xs ++ ys) (vs ++ us)
  | [], _, _, _, h, h' => by cases h; exact h'
  | _ :: xs, _, _, _, h, h' => by
    obtain ⟨v, r, e, h1, h2⟩ := h
    subst e
    exact ⟨v, _, rfl, h1, RepDs.append h2 h'⟩
theorem RepDs.get : ∀ {xs : List D} {vs : List V} {i : Nat} {x : D}, RepDs K H av xs vs → xs[i]? = some x → ∃ v, vs[i]? = some v ∧ RepD K H av x v
  | [], _, _, _, _, e => by simp at e
  | y :: xs, _, 0, x, h, e => by
    obtain ⟨v, r, rfl, h1, h2⟩ := h
    simp at e; subst e
    exact ⟨v, rfl, h1⟩
  | y :: xs, _, i + 1, x, h, e => by
    obtain ⟨v, r, rfl, h1, h2⟩ := h
    obtain ⟨u, q1, q2⟩ := RepDs.get (i := i) (x := x) h2 (by simpa using e)
    exact ⟨u, by simpa using q1, q2⟩
theorem RepDs.getV : ∀ {xs : List D} {vs : List V} {i : Nat} {v : V}, RepDs K H av xs vs → vs[i]? = some v → ∃ x, xs[i]? = some x ∧ RepD K H av x v
  | [], _, _, _, h, e => by cases h; simp at e
  | y :: xs, _, 0, x, h, e => by
    obtain ⟨v, r, rfl, h1, h2⟩ := h
    simp at e; subst e
    exact ⟨y, rfl, h1⟩
  | y :: xs, _, i + 1, x, h, e => by
    obtain ⟨v, r, rfl, h1, h2⟩ := h
    obtain ⟨u, q1, q2⟩ := RepDs.getV (i := i) h2 (by simpa using e)
    exact ⟨u, by simpa using q1, q2⟩
theorem RepDs.drop : ∀ (n : Nat) {xs : List D} {vs : List V}, RepDs K H av xs vs → RepDs K H av (xs.drop n) (vs.drop n)
  | 0, _, _, h => h
  | n + 1, [], _, h => by cases h; simp [RepDs]
  | n + 1, x :: xs, _, h => by
    obtain ⟨v, r, rfl, h1, h2⟩ := h
    exact RepDs.drop n h2
theorem RepDs.take : ∀ (n : Nat) {xs : List D} {vs : List V}, RepDs K H av xs vs → RepDs K H av (xs.take n) (vs.take n)
  | 0, _, _, h => by simp [RepDs]
  | n + 1, [], _, h => by cases h; simp [RepDs]
  | n + 1, x :: xs, _, h => by
    obtain ⟨v, r, rfl, h1, h2⟩ := h
    exact ⟨v, _, rfl, h1, RepDs.take n h2⟩
theorem RepDs.set : ∀ {xs : List D} {vs : List V} (i : Nat) {x : D} {v : V}, RepDs K H av xs vs → RepD K H av x v → RepDs K H av (xs.set i x) (vs.set i v)
  | [], _, _, _, _, h, _ => by cases h; simp [RepDs]
  | y :: xs, _, 0, x, v, h, h' => by
    obtain ⟨w, r, rfl, h1, h2⟩ := h
    exact ⟨v, r, rfl, h', h2⟩
  | y :: xs, _, i + 1, x, v, h, h' => by
    obtain ⟨w, r, rfl, h1, h2⟩ := h
    exact ⟨w, _, rfl, h1, RepDs.set i h2 h'⟩
theorem RepDs.rep {xs : List D} {vs : List V} (h : RepDs K H av xs vs) : ∀ k : Nat, RepDs K H av (List.replicate k xs).flatten (List.replicate k vs).flatten
  | 0 => by simp [RepDs]
  | k + 1 => by
    simp only [List.replicate_succ, List.flatten_cons]
    exact RepDs.append h (RepDs.rep h k)
theorem RepDs.ints : ∀ {ns : List Int} {vs : List V}, RepDs K H av (ns.map D.int) vs → vs = ns.map V.int
  | [], _, h => h
  | n :: ns, _, h => by
    obtain ⟨v, r, rfl, h1, h2⟩ := h
    rw [RepDs.ints h2]
    simp only [RepD] at h1
    rw [h1]; rfl
theorem RepDs.ofInts : ∀ (ns : List Int), RepDs K H av (ns.map D.int) (ns.map V.int)
  | [] => by simp [RepDs]
  | n :: ns => ⟨_, _, rfl, rfl, RepDs.ofInts ns⟩
theorem RepDs.bls : ∀ {ns : List Bool} {vs : List V}, RepDs K H av (ns.map D.bl) vs → vs = ns.map V.bl
  | [], _, h => h
  | n :: ns, _, h => by
    obtain ⟨v, r, rfl, h1, h2⟩ := h
    rw [RepDs.bls h2]
    simp only [RepD] at h1
    rw [h1]; rfl
theorem KL.sq {a : Addr} {vs : List V} (h : KL K a vs) : SqL K H a vs := .inr h
theorem sqL_of {a : Addr} {vs : List V} (h : (Rd H a (.lst vs) ∧ ¬ av a) ∨ KL K a vs) : SqL K H a vs := h.elim (fun h => .inl h.1) .inr
mutual
theorem RepD.dp : ∀ (d : D) (v : V), RepD K H av d v → Dp K H v (toPy d)
  | .non, _, h => by cases h; exact .non
  | .bl _, _, h => by cases h; exact .bl _
  | .int _, _, h => by cases h; exact .int _
  | .str _, _, h => by cases h; exact .str _
  | .rep _, _, h => by cases h; exact .str _
  | .tup xs, v, h => by
    obtain ⟨a, vs, rfl, h1, _, h2⟩ := h
    exact .tup h1.sq (RepDs.dp xs vs h2)
  | .lst xs, v, h => by
    obtain ⟨a, vs, rfl, h1, n, h2⟩ := h
    exact .lst (.of h1) (RepDs.dp xs vs h2)
  | .scr ns, v, h => by
    obtain ⟨a, rfl, h1⟩ := h
    refine Dp.lst (sqL_of h1) ?_
    clear h1
    induction ns with
    | nil => exact DpAll.nil
    | cons n ns ih => exact DpAll.cons (.int n) ih
theorem RepDs.dp : ∀ (d : List D) (v : List V), RepDs K H av d v → DpAll K H v (toPys d)
  | [], _, h => by cases h; exact .nil
  | x :: xs, _, h => by
    obtain ⟨v, r, rfl, h1, h2⟩ := h
    exact .cons (RepD.dp x v h1) (RepDs.dp xs r h2)
end
end

/-! ### values of the evaluator, its heap -/
inductive Val where
  | p (d : D)            -- data
  | loc (n : Nat)        -- a list of the evaluator's heap
  | new (xs : List D)    -- a new list that nothing else holds
  deriving Inhabited
inductive O where
  | lst (k : Bool) (xs : List D)    -- k: a loop walks it: read alone
  | ref (k : Bool) (ns : List Nat)  -- a list of lists
  | gone                            -- given up: it has become data
  deriving Inhabited
abbrev Hs := List O
abbrev Env' := List (Option Val)

/-- a step of the state -/
structure Stp (ι : List Addr) (av : Av) (H : Hp) (ι' : List Addr) (av' : Av) (H' : Hp) : Prop where
  ext : ∃ κ, ι' = ι ++ κ ∧ ∀ a ∈ κ, H a = none
  keep : ∀ a o, H a = some o → (a ∉ ι ∨ ¬ av a) → H' a = some o
  alive : ∀ a, H a ≠ none → H' a ≠ none
  avs : ∀ a, av' a → av a ∨ H a = none
  avm : ∀ a, av a → a ∉ ι → H a ≠ none → av' a
structure SimH (K : PySem.W.Frag) (h : Hs) (ι : List Addr) (av : Av) (H : Hp) : Prop where
  len : ι.length = h.length
  nd : ι.Nodup
  sub : ∀ (n : Nat) (a : Addr) (o : O), ι[n]? = some a → h[n]? = some o → o ≠ .gone → av a
  lv : ∀ a ∈ ι, H a ≠ none
  live : ∀ a, av a → H a ≠ none
  ob : ∀ (n : Nat) (o : O), h[n]? = some o → o ≠ .gone → ∃ a vs, ι[n]? = some a ∧ H a = some (.lst vs) ∧
    match o with
    | .lst _ xs => RepDs K H av xs vs
    | .ref _ ns => Paired (fun n v => ∃ b, ι[n]? = some b ∧ v = V.ref b) ns vs
    | .gone => True
def RepV (K : PySem.W.Frag) (ι : List Addr) (av : Av) (H : Hp) : Val → V → Prop
  | .p d, u => RepD K H av d u
  | .loc n, u => ∃ a, ι[n]? = some a ∧ u = .ref a
  | .new _, _ => False
/-- an expression's value; H0: the heap ahead of it -/
def RepR (K : PySem.W.Frag) (H0 : Hp) (ι : List Addr) (av : Av) (H : Hp) : Val → V → Prop
  | .p d, u => RepD K H av d u
  | .loc n, u => ∃ a, ι[n]? = some a ∧ u = .ref a
  | .new xs, u => ∃ a vs, u = .ref a ∧ H0 a = none ∧ H a = some (.lst vs) ∧ av a ∧ a ∉ ι ∧ RepDs K H av xs vs
def RepE (K : PySem.W.Frag) (ρ : Env') (ι : List Addr) (av : Av) (σ : L2.St) (H : Hp) : Prop :=
  ρ.length = σ.length ∧ ∀ (i : Nat) (v : Val), ρ[i]? = some (some v) → ∃ u, σ[i]? = some (some u) ∧ RepV K ι av H v u
section
variable {K : PySem.W.Frag} {H H0 H1 H2 H' : Hp} {av av' av1 av2 : Av} {ι ι' ι1 ι2 : List Addr} {h h' : Hs} {σ : L2.St} {ρ : Env'}
theorem Stp.refl : Stp ι av H ι av H := ⟨⟨[], by simp, by simp⟩, fun _ _ e _ => e, fun _ e => e, fun _ e => .inl e, fun _ e _ _ => e⟩
theorem Stp.trans (a : Stp ι av H ι1 av1 H1) (b : Stp ι1 av1 H1 ι2 av2 H2) : Stp ι av H ι2 av2 H2 := by
  obtain ⟨κ, e1, f1⟩ := a.ext
  obtain ⟨κ', e2, f2⟩ := b.ext
  have dead : ∀ a', H1 a' = none → H a' = none := fun a' e => by
    cases q : H a' with
    | none => rfl
    | some o => exact absurd e (a.alive a' (by rw [q]; simp))
  refine ⟨⟨κ ++ κ', by rw [e2, e1, List.append_assoc], fun a' m => ?_⟩, fun a' o e n => ?_, fun a' e => b.alive _ (a.alive _ e), fun a' e => ?_, fun a' e n q => b.avm _ (a.avm _ e n q) (fun m => ?_) (a.alive _ q)⟩
  · rcases List.mem_append.mp m with m | m
    · exact f1 _ m
    · exact dead _ (f2 _ m)
  · refine b.keep a' o (a.keep a' o e n) ?_
    rcases n with n | n
    · left
      rw [e1]
      intro m
      rcases List.mem_append.mp m with m | m
      · exact n m
      · rw [f1 _ m] at e; cases e
    · right
      intro q
      rcases a.avs a' q with q | q
      · exact n q
      · rw [q] at e; cases e
  · rcases b.avs a' e with q | q
    · exact a.avs a' q
    · exact .inr (dead _ q)
  · rw [e1] at m
    rcases List.mem_append.mp m with m | m
    · exact n m
    · exact q (f1 _ m)
theorem Stp.mono {P : Prop} (s : Stp ι av H ι' av' H') (_ : P) : ∀ a o, H a = some o → ¬ av a → H' a = some o ∧ ¬ av' a := fun a o e n =>
  ⟨s.keep a o e (.inr n), fun q => (s.avs a q).elim n fun z => by rw [z] at e; cases e⟩
theorem Stp.repD {P : Prop} (s : Stp ι av H ι' av' H') (sub : P) {d : D} {v : V} (r : RepD K H av d v) : RepD K H' av' d v := RepD.mono (s.mono sub) d v r
theorem Stp.repDs {P : Prop} (s : Stp ι av H ι' av' H') (sub : P) {d : List D} {v : List V} (r : RepDs K H av d v) : RepDs K H' av' d v := RepDs.mono (s.mono sub) d v r
theorem Stp.ix (s : Stp ι av H ι' av' H') {n : Nat} {a : Addr} (e : ι[n]? = some a) : ι'[n]? = some a := by
  obtain ⟨κ, q, _⟩ := s.ext
  rw [q]
  obtain ⟨hn, _⟩ := List.getElem?_eq_some_iff.mp e
  rw [List.getElem?_append_left hn]
  exact e
theorem Stp.nmem (s : Stp ι av H ι' av' H') {a : Addr} {o : HO} (e : H a = some o) (n : a ∉ ι) : a ∉ ι' := by
  obtain ⟨κ, q, f⟩ := s.ext
  rw [q]
  intro m
  rcases List.mem_append.mp m with m | m
  · exact n m
  · rw [f _ m] at e; cases e
theorem Stp.repV {P : Prop} (s : Stp ι av H ι' av' H') (sub : P) {v : Val} {u : V} (r : RepV K ι av H v u) : RepV K ι' av' H' v u := by
  cases v with
  | p d => exact s.repD sub r
  | loc n => obtain ⟨a, e, q⟩ := r; exact ⟨a, s.ix e, q⟩
  | new xs => exact r
/-- a result stays one while something else runs -/
theorem Stp.repR {P : Prop} (s : Stp ι av H ι' av' H') (sub : P) {v : Val} {u : V} (r : RepR K H0 ι av H v u) : RepR K H0 ι' av' H' v u := by
  cases v with
  | p d => exact s.repD sub r
  | loc n => obtain ⟨a, e, q⟩ := r; exact ⟨a, s.ix e, q⟩
  | new xs =>
    obtain ⟨a, vs, e, h0, h1, k1, k2, k3⟩ := r
    exact ⟨a, vs, e, h0, s.keep a _ h1 (.inl k2), s.avm a k1 k2 (by rw [h1]; simp), s.nmem h1 k2, s.repDs sub k3⟩
theorem Stp.repE {P : Prop} (s : Stp ι av H ι' av' H') (sub : P) (r : RepE K ρ ι av σ H) : RepE K ρ ι' av' σ H' :=
  ⟨r.1, fun i v e => let ⟨u, q1, q2⟩ := r.2 i v e; ⟨u, q1, s.repV sub q2⟩⟩
/-- a result seen from an earlier heap -/
theorem RepR.back (s : Stp ι1 av1 H1 ι2 av2 H2) {v : Val} {u : V} (r : RepR K H2 ι av H v u) : RepR K H1 ι av H v u := by
  cases v with
  | p d => exact r
  | loc n => exact r
  | new xs =>
    obtain ⟨a, vs, e, h0, k⟩ := r
    refine ⟨a, vs, e, ?_, k⟩
    cases q : H1 a with
    | none => rfl
    | some o => exact absurd h0 (s.alive a (by rw [q]; simp))
end
/-! ### new tuples, their objects known -/
abbrev tupOb (its : List Value) : Obj := { cls := .type "tuple", data := .seq its.toArray }
section
variable {X : Cx} {pins : List (Addr × Obj)} {σ : L2.St} {H : Hp} {s : Shared}
theorem madeT {ys : List V} {its : List Value} {a : Addr} {h' : Heap} {t' : Nat} (I : Inv X pins σ H s) (kp : ∀ b o, s.heap.get? b = some o → h'.get? b = some o) (ha : s.heap.objs.size ≤ a)
    (r : Vals ys its) (hz : ys.length ≤ sizeLine) (e : h'.get? a = some (tupOb its)) : Inv X pins σ (upd H a (.frz (tupOb its) (.tup ys))) { s with heap := h', toks := t' } :=
  I.laid kp ha ⟨e, hz, its, r, _, e, rfl, 0, rfl⟩
theorem pushT {ys : List V} {its : List Value} {t' : Nat} (I : Inv X pins σ H s) (r : Vals ys its) (hz : ys.length ≤ sizeLine) :
    Inv X pins σ (upd H s.heap.objs.size (.frz (tupOb its) (.tup ys))) { s with heap := s.heap.push (tupOb its), toks := t' } :=
  madeT I (fun b o e => Heap.get?_push_of_some _ e) (Nat.le_refl _) r hz (Heap.get?_push_size _ rfl)
/-- what becomes of a new tuple -/
abbrev NewT (H : Hp) (ys : List V) (Q : VK) : Prop := ∀ (p : Addr) (o : Obj), H p = none → o.dict = none → Q (.ref p) (upd H p (.frz o (.tup ys)))
theorem NewT.at {ys : List V} {its : List Value} {t' : Nat} {Q : VK} (I : Inv X pins σ H s) (r : Vals ys its) (hz : ys.length ≤ sizeLine) (q : NewT H ys Q) :
    EP X pins σ Q (.ref s.heap.objs.size) { s with heap := s.heap.push (tupOb its), toks := t' } :=
  ⟨.ref s.heap.objs.size, _, pushT (t' := t') I r hz, rfl, q _ (tupOb its) (I.hok.fresh (Nat.le_refl _)) rfl⟩
end
open Sem (wp) in
set_option maxHeartbeats 1000000 in
theorem tuple_mulS (l : Addr) (items : Array Value) (n : Nat) (dd : Option Addr) (sl : Array (Option Value)) (x : Int) (u : Tok) (c0 : (decide (x < -(2 ^ 63)) || decide (x ≥ 2 ^ 63)) = false) (c1 : (items.isEmpty || x == 1) = true) :
    Meets (Builtin.«tuple.__mul__» ⟨[.ref l, .int x u], []⟩) (fun _ R s => s.heap.get? l = some { cls := .type "tuple", dict := dd, data := .seq items n, slots := sl } ∧ R (.ok (.ret (Value.ref l))) s) :=
  .of_wp fun prog w A R s h => by
    obtain ⟨hp, g, d, tk, os⟩ := s
    obtain ⟨hl, h⟩ := h
    have f1 := AutoSeq1.idx_int
    wp_walk using wpAny_loadPart' hl
    repeat (first
      | (refine wpAny_ite_false (decide_eq_false (by rw [c0]; exact Bool.false_ne_true)) ?_; wp_walk using wpAny_loadPart' hl)
      | (refine wpAny_ite_true (decide_eq_true c1) ?_; wp_walk using wpAny_loadPart' hl))
    exact ⟨_, rfl, h⟩
open Sem (wp) in
set_option maxHeartbeats 1000000 in
theorem tuple_mulZ (l : Addr) (items : Array Value) (n : Nat) (dd : Option Addr) (sl : Array (Option Value)) (x : Int) (u : Tok) (c0 : (decide (x < -(2 ^ 63)) || decide (x ≥ 2 ^ 63)) = false) (c1 : (items.isEmpty || x == 1) = false) (c2 : (decide (x ≤ 0) || items.isEmpty) = true) :
    Meets (Builtin.«tuple.__mul__» ⟨[.ref l, .int x u], []⟩) (fun _ R s => s.heap.get? l = some { cls := .type "tuple", dict := dd, data := .seq items n, slots := sl } ∧ R (.ok (.ret (Value.ref s.heap.objs.size))) { s with heap := s.heap.push { cls := .type "tuple", data := .seq #[] } }) :=
  .of_wp fun prog w A R s h => by
    obtain ⟨hp, g, d, tk, os⟩ := s
    obtain ⟨hl, h⟩ := h
    have f1 := AutoSeq1.idx_int
    wp_walk using wpAny_loadPart' hl
    repeat (first
      | (refine wpAny_ite_false (decide_eq_false (by rw [c0]; exact Bool.false_ne_true)) ?_; wp_walk using wpAny_loadPart' hl)
      | (refine wpAny_ite_false (decide_eq_false (by rw [c1]; exact Bool.false_ne_true)) ?_; wp_walk using wpAny_loadPart' hl)
      | (refine wpAny_ite_true (decide_eq_true c2) ?_; wp_walk using wpAny_loadPart' hl))
    exact ⟨_, rfl, h⟩
section
variable {X : Cx}
/-- a display of a tuple -/
def tTupN (t : TA) : TE := fun σ H Q => t σ H fun xs H1 => xs.length ≤ sizeLine ∧ NewT H1 xs Q
theorem pe_tupN {es : List Expr} {t : TA} {pos : Pos} {x1 : Nat} (h : PA X es t) : PE X (.Tuple es x1 pos) (tTupN t) := by
  refine ⟨fun pins s σ H Q I hq => wpAny_Tuple_spliced (thn (h.run pos pins s σ H _ I hq) fun us s1 k => ?_)⟩
  obtain ⟨xs, H1, I1, r, z, q⟩ := k
  exact ⟨by rw [← r.length]; exact z, q.at (t' := s1.toks) I1 r z⟩
/-- divmod of ints -/
def rDivN : List V → Hp → VK → Prop := fun xs H Q => ∃ i j, xs = [.int i, .int j] ∧ CDiv i j ∧ NewT H [.int (i / j), .int (i % j)] Q
theorem call_divmodN : CallR X (.builtin "divmod") rDivN := by
  rintro pins s σ H xs us Q I r ⟨i, j, rfl, ⟨h1, h2⟩, q⟩
  obtain ⟨u, w', rfl, ⟨t, rfl⟩, ⟨t', rfl⟩⟩ := vals2 r
  have g : Vals [V.int (i / j), V.int (i % j)] [Value.int (i / j) s.toks, Value.int (i % j) (s.toks + 1)] := .cons ⟨_, rfl⟩ (.cons ⟨_, rfl⟩ .nil)
  have z : EP X pins σ Q (.ref s.heap.objs.size) { s with heap := s.heap.push (tupOb [Value.int (i / j) s.toks, Value.int (i % j) (s.toks + 1)]), toks := s.toks + 2 } :=
    q.at I g (by show 2 ≤ sizeLine; rw [sizeLine_eq]; decide)
  refine divmod_int (by omega) ?_ (.inl (PyProof.noPylong_small (by omega)))
  rw [Int.fdiv_eq_ediv_of_nonneg i (by omega), Int.fmod_eq_emod_of_nonneg i (by omega)]
  exact z
/-- tuple(x) of a list, of a tuple (itself) -/
def rTupN (K : PySem.W.Frag) : List V → Hp → VK → Prop := fun xs H Q => ∃ p ys, xs = [.ref p] ∧ ((SqL K H p ys ∧ NewT H ys Q) ∨ (SqT K H p ys ∧ Q (.ref p) H))
theorem call_tupleN : CallR X (.type "tuple") (rTupN X.K) := by
  rintro pins s σ H xs us Q I r ⟨p, ys, rfl, ⟨hq, q⟩ | ⟨hq, q⟩⟩
  · obtain ⟨u, rfl, rx⟩ := vals1 r
    cases rx
    obtain ⟨its, rv, pl, hz⟩ := I.list hq
    have hlen := rv.length
    refine call_tuple_list pl.isList (fun h' kp => ?_) (by simp only [List.size_toArray]; omega)
    exact NewT.at (t' := s.toks) (Inv.kept (t' := s.toks) I kp) rv hz q
  · exact call_tuple_of pins s σ H _ us Q I r ⟨p, ys, rfl, .inr ⟨hq, q⟩⟩
/-- t + u -/
def rCatN (K : PySem.W.Frag) : R2 := fun x y H Q => ∃ a b xs ys, x = .ref a ∧ y = .ref b ∧ SqT K H a xs ∧ SqT K H b ys ∧ xs.length + ys.length ≤ sizeLine ∧
  (xs = [] → Q (.ref b) H) ∧ (xs ≠ [] → ys = [] → Q (.ref a) H) ∧ (xs ≠ [] → ys ≠ [] → NewT H (xs ++ ys) Q)
theorem op_catN : OpR X (binaryOp .Add) (rCatN X.K) := by
  rintro pins s σ H x y v u Q I rx ry ⟨a, b, xs, ys, rfl, rfl, ha, hb, hz, q0, q1, q2⟩
  cases rx
  cases ry
  obtain ⟨its, r1, p1, _⟩ := I.tuple ha
  obtain ⟨its2, r2, p2, _⟩ := I.tuple hb
  by_cases hx : xs = []
  · subst hx
    cases r1
    exact cat_tup0 p1 p2 ⟨.ref b, H, I, rfl, q0 rfl⟩
  · refine HT.cat_tup p1 p2 (fun z => hx (r1.nil_iff.mp z)) (fun z => ⟨.ref a, H, I, rfl, q1 hx (r2.nil_iff.mp z)⟩) (fun z => ?_) (by rw [← r1.length, ← r2.length]; exact hz)
    exact NewT.at (t' := s.toks) I (r1.append r2) (by rw [List.length_append]; exact hz) (q2 hx fun w => z (r2.nil_iff.mpr w))
/-- t[lo:hi] -/
def rSlN (K : PySem.W.Frag) : V → Option Int → Option Int → Hp → VK → Prop := fun x lo hi H Q => ∃ a xs, x = .ref a ∧ SqT K H a xs ∧
  (HT.sIx xs.length 0 lo = 0 ∧ HT.sIx xs.length xs.length hi = xs.length → Q (.ref a) H) ∧ (¬ (HT.sIx xs.length 0 lo = 0 ∧ HT.sIx xs.length xs.length hi = xs.length) → NewT H (cutV xs lo hi) Q)
theorem sl_tupN : SlR X (rSlN X.K) := by
  rintro pins s σ H x v vl vu lo hi sl Q I rx hs pl pu ⟨a, xs, rfl, hx, q1, q2⟩
  cases rx
  obtain ⟨its, r, ht, hz⟩ := I.tuple hx
  have hlen : its.toArray.size = xs.length := by rw [List.size_toArray]; exact r.length.symm
  refine ⟨"tuple", _, PyProof.Rows.slot_tuple_getitem.lookup, ht.typeIs, ?_⟩
  by_cases hw : HT.sIx xs.length 0 lo = 0 ∧ HT.sIx xs.length xs.length hi = xs.length
  · exact getItem_tuple_whole ht hs pl pu (by rw [hlen]; exact hw) ⟨.ref a, H, I, rfl, q1 hw⟩
  · refine HT.getItem_tuple_cut ht hs pl pu (by rw [hlen]; exact hw) ?_ (by rw [hlen]; exact hz)
    rw [hlen]
    exact NewT.at (t' := s.toks) I ((r.drop (HT.sIx xs.length 0 lo)).take (HT.sIx xs.length xs.length hi - HT.sIx xs.length 0 lo)) (Nat.le_trans (cutV_length xs lo hi) hz) (q2 hw)
/-- t * k -/
def rRepN (K : PySem.W.Frag) : R2 := fun x y H Q => ∃ l k xs, x = .ref l ∧ y = .int k ∧ SqT K H l xs ∧ -1000 ≤ k ∧ k ≤ 1000 ∧ xs.length ≤ 1000 ∧
  (xs = [] ∨ k = 1 → Q (.ref l) H) ∧ (xs ≠ [] → k ≤ 0 → NewT H [] Q) ∧ (xs ≠ [] → 2 ≤ k → NewT H (List.replicate k.toNat xs).flatten Q)
theorem op_repN : OpR X (binaryOp .Mult) (rRepN X.K) := by
  rintro pins s σ H x y v u Q I rx ry ⟨l, k, xs, rfl, rfl, hT, h1, h2, hz, qs, q0, q⟩
  cases rx
  obtain ⟨t, rfl⟩ := ry
  obtain ⟨its, r, ⟨⟨cls, dd, data, sl⟩, ho, hc, n, hd⟩, hs⟩ := I.tuple hT
  cases hc
  cases hd
  have hle : its.length = xs.length := r.length.symm
  have a1 : k.toNat * xs.length ≤ 1000 * 1000 := Nat.mul_le_mul (by omega) hz
  have big : (1000000 : Nat) ≤ sizeLine := by rw [sizeLine_eq]; decide
  have d0 : (decide (k < -(2 ^ 63)) || decide (k ≥ 2 ^ 63)) = false := by simp; omega
  have head : ∀ {Q' : Value → Shared → Prop}, wpAny (model X.prog X.w) X.A (call (.builtin "tuple.__mul__") [.ref l, .int k t]) Q' X.xe s → wpAny (model X.prog X.w) X.A (binaryOp .Mult (.ref l) (.int k t)) Q' X.xe s := fun {Q'} w =>
    wpAny_binaryOp_repeat_ref (T := "tuple") (U := "int") (by decide) ⟨_, ho, rfl⟩ (fun s' => typeIs_int s' k t) noFill_tuple_mul F.fills_int_mul F.slot_int_rmul repeat_tuple F.slot_int_index.lookup
      (call_meets F.slot_int_rmul (typeIs_int s k t) F.entry_int_rmul (F.args_int_rmul_2 _ _) (int_rmul_tuple k t l its.toArray n dd sl) ⟨ho, rfl, ⟨_, ho, rfl⟩, w⟩)
  refine head ?_
  by_cases hsame : xs = [] ∨ k = 1
  · have d1 : (its.toArray.isEmpty || k == 1) = true := by
      rcases hsame with z | z
      · subst z
        have : its = [] := List.eq_nil_of_length_eq_zero (by rw [hle]; rfl)
        subst this; rfl
      · subst z; simp
    exact call_meets F.slot_tuple_mul ⟨_, ho, rfl⟩ F.entry_tuple_mul (F.args_tuple_mul_2 _ _) (tuple_mulS l its.toArray n dd sl k t d0 d1) ⟨ho, .ref l, H, I, rfl, qs hsame⟩
  · have hne : xs ≠ [] := fun z => hsame (.inl z)
    have h1' : k ≠ 1 := fun z => hsame (.inr z)
    have hi : its.toArray.isEmpty = false := by
      cases its with
      | nil => exact absurd (List.eq_nil_of_length_eq_zero hle.symm) hne
      | cons a b => rfl
    have d1 : (its.toArray.isEmpty || k == 1) = false := by rw [hi]; simp; omega
    by_cases hk : k ≤ 0
    · have d2 : (decide (k ≤ 0) || its.toArray.isEmpty) = true := by rw [decide_eq_true hk]; rfl
      refine call_meets F.slot_tuple_mul ⟨_, ho, rfl⟩ F.entry_tuple_mul (F.args_tuple_mul_2 _ _) (tuple_mulZ l its.toArray n dd sl k t d0 d1 d2) ⟨ho, ?_⟩
      exact NewT.at (its := []) (t' := s.toks) I .nil (Nat.zero_le _) (q0 hne hk)
    · have hk2 : 2 ≤ k := by omega
      have a2 : ((xs.length : Nat) : Int) * k ≤ 1000 * k := Int.mul_le_mul_of_nonneg_right (by omega) (by omega)
      have hm : ((its.toArray.size : Nat) : Int) * k ≤ 1000000 := by rw [List.size_toArray, hle]; omega
      have nz : (List.replicate k.toNat xs).flatten.length ≤ sizeLine := by rw [PyProof.Rows.lm_len_rep_flat]; omega
      have nz2 : (List.replicate k.toNat its).flatten.length ≤ sizeLine := by rw [PyProof.Rows.lm_len_rep_flat, hle]; omega
      have d2 : (decide (k ≤ 0) || its.toArray.isEmpty) = false := by rw [hi]; simp; omega
      have d4 : Builtin.Tuple.tupleTooMany (((its.toArray.size : Nat) : Int) * k) = false := by
        unfold Builtin.Tuple.tupleTooMany
        rw [sizeLine_eq]
        exact decide_eq_false (by omega)
      have fin : EP X pins σ Q (.ref s.heap.objs.size) { s with heap := s.heap.push (tupOb (List.replicate k.toNat its).flatten) } := NewT.at (t' := s.toks) I (r.rep k.toNat) nz (q hne hk2)
      refine call_meets F.slot_tuple_mul ⟨_, ho, rfl⟩ F.entry_tuple_mul (F.args_tuple_mul_2 _ _) (tuple_mulW l its.toArray n dd sl k t d0 d1 d2 (by omega) d4 (by rw [size_rep, List.size_toArray]; exact nz2)) ⟨ho, ?_⟩
      rw [size_rep]
      exact fin
end
end MP

/-! ## EngC.lean -/
set_option Elab.async false
set_option linter.all false
set_option maxRecDepth 100000
namespace MP
open PySem PySem.Spec PyProof.Rows L2

/-! ### the language -/
inductive Tg where
  | nm (i : Nat) | tp (is : List Nat)
  deriving Inhabited, DecidableEq
inductive Bi where
  | len | sum | all | any | max | min | abs | int | tuple | list | sorted | divmod | repr
  deriving Inhabited, DecidableEq
inductive Ty' where
  | non | int | bool | str | list | tuple
  deriving Inhabited, DecidableEq
inductive Ty where
  | int | bool | str | list | tuple
  deriving Inhabited, DecidableEq
/-- keywords, in the parameters' order -/
def permL {α : Type} (pm : List Nat) (xs : List α) : List α := pm.filterMap fun j => xs[j]?
mutual
inductive E where
  | var (i : Nat) | lit (d : D) | glo (x : Str) (d : D)
  | bin (o : Operator) (a b : E) | neg (a : E) | not (a : E)
  | cmp (o : CmpOp) (a b : E) | chn (o o' : CmpOp) (a b c : E)
  | one (a : E) | and (a b : E) | or (a b : E) | ife (c : T) (a b : E)
  | tup (es : Es) | lst (es : Es)
  | sub (a i : E) | sl (a : E) (lo hi : Eo) | rev (a : E)
  | lc (own : List Nat) (tg : Tg) (it : It) (cd : To) (elt : E)
  | call (f : Nat) (es : Es)
  | callK (f : Nat) (pm : List Nat) (es ks : Es)
  | bi (b : Bi) (es : Es)
  | isi (c : Ty) (a : E)              -- isinstance(a, c)
  | srt (a : E)                       -- sorted(a, reverse=True), a a list of numbers
  | lcnt (o a : E)                    -- o.count(a), o a list of numbers
  | dget (a k d : E)                  -- dict(a).get(k, d)
inductive Es where
  | nil | cons (e : E) (es : Es) | star (e : E) (es : Es)
inductive Eo where
  | no | yes (e : E)
inductive T where
  | val (e : E) | not (t : T) | one (t : T) | and (t u : T) | or (t u : T)
inductive To where
  | no | yes (t : T)
inductive It where
  | val (e : E) | rng (es : Es) | enm (k : Option Int) (e : E) | zip (a b : E)
end
instance : Inhabited E := ⟨.lit .non⟩
mutual
inductive S where
  | asg (i : Nat) (e : E)               -- name = e
  | tup (is : List Nat) (e : E)         -- a, b = e
  | par (is : List Nat) (es : Es)       -- a, b = x, y
  | set (o i e : E)                     -- o[i] = e
  | app (o e : E)                       -- o.append(e)
  | apf (o i : Nat)                     -- o.append(i), names; i's list is given up
  | ext (o e : E)                       -- o.extend(e), e a list
  | tsn (o i : E) (j : Nat) (e : E)     -- o[i], name = e
  | ex (e : E) | ret (e : E) | retN
  | ife (c : T) (a b : Ss)
  | for_ (tg : Tg) (it : It) (body : Ss)
  | whl (c : T) (body : Ss)
  | brk | pss | nev
inductive Ss where
  | nil | cons (s : S) (ss : Ss)
end
inductive Out where
  | nx | rt (v : Val) | bk
  deriving Inhabited

/-! ### values -/
def O.locked : O → Bool
  | .lst k _ => k
  | .ref k _ => k
  | .gone => true
/-- the items of a list or tuple (true: a tuple) -/
def seqD (h : Hs) : Val → Option (Bool × List D)
  | .p (.tup xs) => some (true, xs)
  | .p (.lst xs) => some (false, xs)
  | .new xs => some (false, xs)
  | .loc n => match h[n]? with
    | some (.lst _ xs) => some (false, xs)
    | _ => none
  | _ => none
/-- as data, as it stands -/
def datD (h : Hs) : Val → Option D
  | .p d => some d
  | .new xs => some (.lst xs)
  | .loc n => match h[n]? with
    | some (.lst _ xs) => some (.lst xs)
    | _ => none
/-- what may be kept as data for ever -/
def frzD : Val → Option D
  | .p d => some d
  | .new xs => some (.lst xs)
  | .loc _ => none
def frzDs : List Val → Option (List D)
  | [] => some []
  | v :: vs => match frzD v with
    | none => none
    | some d => match frzDs vs with
      | none => none
      | some ds => some (d :: ds)
/-- bound to a name: a new list comes into the heap -/
def bind (v : Val) (h : Hs) : Val × Hs := match v with
  | .new xs => (.loc h.length, h ++ [.lst false xs])
  | v => (v, h)
def blsOf : List D → Option (List Bool)
  | [] => some []
  | .bl i :: xs => match blsOf xs with
    | none => none
    | some is => some (i :: is)
  | _ :: _ => none

def mulOk (i j : Int) : Bool := Nat.blt i.natAbs 18446744073709551616 || (Nat.blt j.natAbs 18446744073709551616 || Nat.blt (i.natAbs.log2 + j.natAbs.log2) 1000000)
def binI (o : Operator) (i j : Int) : Option D := match o with
  | .Add => some (.int (i + j))
  | .Sub => some (.int (i - j))
  | .Mult => if mulOk i j then some (.int (i * j)) else none
  | .FloorDiv => if decide (0 < j) && decide (j < 1073741824) then some (.int (i / j)) else none
  | .Mod => if decide (0 < j) then some (.int (i % j)) else none
  | .Pow => if decide (0 ≤ j) && (decide (j ≤ 1000000) && Nat.blt i.natAbs 18446744073709551616) then some (.int (i ^ j.toNat)) else none
  | _ => none
/-- the longest list or text -/
def line : Nat := 16777216
def intV : Val → Option Int
  | .p (.int i) => some i
  | _ => none
def strV : Val → Option Str
  | .p (.str i) => some i
  | _ => none
def catV (x y : Val) (h : Hs) : Option Val := match seqD h x with
  | some (false, xs) => match seqD h y with
    | some (false, ys) => if Nat.ble (xs.length + ys.length) line then some (.new (xs ++ ys)) else none
    | _ => none
  | some (true, xs) => match seqD h y with
    | some (true, ys) => if Nat.ble (xs.length + ys.length) line then some (.p (.tup (xs ++ ys))) else none
    | _ => none
  | none => match strV x with
    | some a => match strV y with
      | some b => if Nat.ble (a.length + b.length) line then some (.p (.str (a ++ b))) else none
      | none => none
    | none => none
def timesV (x : Val) (k : Int) (h : Hs) : Option Val := match seqD h x with
  | some (false, xs) => if Nat.ble (xs.length * k.toNat) line && (decide (k < 16777217) && decide (-16777217 < k)) then some (.new (List.replicate k.toNat xs).flatten) else none
  | some (true, xs) => if (decide (-1000 ≤ k) && decide (k ≤ 1000)) && Nat.ble xs.length 1000 then some (.p (.tup (List.replicate k.toNat xs).flatten)) else none
  | _ => none
def binV (o : Operator) (x y : Val) (h : Hs) : Option Val := match intV y with
  | some j => match intV x with
    | some i => match binI o i j with
      | some d => some (.p d)
      | none => none
    | none => match o with
      | .Mult => timesV x j h
      | _ => none
  | none => match o with
    | .Add => catV x y h
    | _ => none
mutual
def depD : D → Nat
  | .tup xs => depDs xs + 1
  | .lst xs => depDs xs + 1
  | .scr _ => 1
  | _ => 0
def depDs : List D → Nat
  | [] => 0
  | x :: xs => Nat.max (depD x) (depDs xs)
end
mutual
/-- data that == is told of at any depth -/
def okD : D → Bool
  | .str x => PyData.strOk x
  | .tup xs => okDs xs
  | .lst xs => okDs xs
  | .rep _ => false
  | .scr _ => false
  | _ => true
def okDs : List D → Bool
  | [] => true
  | x :: xs => okD x && okDs xs
end
def shpD (d : D) : Bool := okD d && Nat.ble (depD d) 60
def txtD : D → Bool
  | .str _ => true
  | .rep _ => true
  | _ => false
def eqV (x y : Val) (h : Hs) : Option Bool := match datD h x with
  | some a => match datD h y with
    | some b => if (txtD a && txtD b) || (shpD a && shpD b) then pyEq a b else none
    | none => none
  | none => none
def isN : Val → Bool
  | .p .non => true
  | _ => false
def cmpI (f : Int → Int → Bool) (x y : Val) : Option Bool := match intV x with
  | some i => match intV y with
    | some j => some (f i j)
    | none => none
  | none => none
def intsOf : List D → Option (List Int)
  | [] => some []
  | .int i :: xs => match intsOf xs with
    | none => none
    | some is => some (i :: is)
  | _ :: _ => none
def tupI : Val → Option (List Int)
  | .p (.tup xs) => intsOf xs
  | _ => none
def ltV (x y : Val) : Option Bool := match intV x with
  | some i => match intV y with
    | some j => some (decide (i < j))
    | none => none
  | none => match tupI x with
    | some a => match tupI y with
      | some b => some (HT.lexLt a b)
      | none => none
    | none => none
def inV' (x y : Val) (h : Hs) : Option Bool := match datD h x with
  | some d => match seqD h y with
    | some (false, ds) => if shpD d && shpD (.lst ds) then inDs d ds else none
    | _ => none
  | none => none
where inDs (d : D) : List D → Option Bool
  | [] => some false
  | x :: xs => match pyEq x d with
    | none => none
    | some b => match inDs d xs with
      | none => none
      | some c => some (b || c)
def cmpV (o : CmpOp) (x y : Val) (h : Hs) : Option Bool := match o with
  | .Eq => eqV x y h
  | .NotEq => match eqV x y h with
    | some b => some (!b)
    | none => none
  | .Is => if isN y then some (isN x) else none
  | .IsNot => if isN y then some (!isN x) else none
  | .Lt => ltV x y
  | .LtE => cmpI (fun i j => decide (i ≤ j)) x y
  | .Gt => cmpI (fun i j => decide (j < i)) x y
  | .GtE => cmpI (fun i j => decide (j ≤ i)) x y
  | .In => inV' x y h
  | .NotIn => match inV' x y h with
    | some b => some (!b)
    | none => none
def cmpW (o : CmpOp) (x y : Val) (h : Hs) : Option Val := match cmpV o x y h with
  | none => none
  | some b => some (.p (.bl b))
abbrev atD (xs : List D) (i : Int) : Option D := atI xs i
def subV (x y : Val) (h : Hs) : Option Val := match intV y with
  | none => none
  | some i => match x with
    | .p (.scr ns) => match atI ns i with
      | some k => some (.p (.int k))
      | none => none
    | .loc n => match h[n]? with
      | some (.lst _ xs) => match atI xs i with
        | some d => some (.p d)
        | none => none
      | some (.ref _ ns) => match atI ns i with
        | some k => some (.loc k)
        | none => none
      | _ => none
    | .new xs => match atI xs i with
      | some d => some (.p d)
      | none => none
    | .p (.tup xs) => match atI xs i with
      | some d => some (.p d)
      | none => none
    | .p (.lst xs) => match atI xs i with
      | some d => some (.p d)
      | none => none
    | .p (.str x) => match atI x.cps.toList i with
      | some c => if Nat.ble x.length line then some (.p (.str ⟨#[c]⟩)) else none
      | none => none
    | _ => none
/-- a bound of a slice -/
abbrev cutAt := HT.sIx
def cutD {α : Type} (xs : List α) (lo hi : Option Int) : List α :=
  (xs.drop (cutAt xs.length 0 lo)).take (cutAt xs.length xs.length hi - cutAt xs.length 0 lo)
def slV (x : Val) (lo hi : Option Int) (h : Hs) : Option Val := match x with
  | .p (.scr ns) => some (.new ((cutD ns lo hi).map D.int))
  | x => match seqD h x with
    | some (true, xs) => some (.p (.tup (cutD xs lo hi)))
    | some (false, xs) => some (.new (cutD xs lo hi))
    | none => none
def revV (x : Val) (h : Hs) : Option Val := match seqD h x with
  | some (false, xs) => some (.new xs.reverse)
  | some (true, xs) => some (.p (.tup xs.reverse))
  | _ => none
def maxI : List Int → Option Int
  | [] => none
  | x :: xs => some (xs.foldl (fun a b => if a < b then b else a) x)
def minI : List Int → Option Int
  | [] => none
  | x :: xs => some (xs.foldl (fun a b => if b < a then b else a) x)
/-- truth -/
def truV (h : Hs) : Val → Option Bool
  | .p .non => some false
  | .p (.bl b) => some b
  | .p (.int i) => some (decide (i ≠ 0))
  | .p (.tup xs) => some (!xs.isEmpty)
  | x => match seqD h x with
    | some (false, xs) => some (!xs.isEmpty)
    | _ => none
/-- sorting by insertion -/
def insB {α : Type} (le : α → α → Bool) (x : α) : List α → List α
  | [] => [x]
  | y :: ys => match le x y with
    | true => x :: y :: ys
    | false => y :: insB le x ys
def sortB {α : Type} (le : α → α → Bool) : List α → List α
  | [] => []
  | x :: xs => insB le x (sortB le xs)
def geI (a b : Int) : Bool := decide (b ≤ a)
def leI (a b : Int) : Bool := decide (a ≤ b)
def lexP (a b : Int × Int) : Bool := if a.1 = b.1 then decide (a.2 ≤ b.2) else decide (a.1 < b.1)
def pairsOf : List D → Option (List (Int × Int))
  | [] => some []
  | .tup [.int i, .int j] :: xs => match pairsOf xs with
    | none => none
    | some is => some ((i, j) :: is)
  | _ :: _ => none
/-! the order of data of one form -/
mutual
def alkD : D → D → Bool
  | .int _, .int _ => true
  | .bl _, .bl _ => true
  | .tup xs, .tup ys => alkDs xs ys
  | .lst xs, .lst ys => alkDs xs ys
  | _, _ => false
def alkDs : List D → List D → Bool
  | x :: xs, y :: ys => alkD x y && alkDs xs ys
  | [], _ => true
  | _ :: _, [] => true
end
mutual
def ltD : D → D → Bool
  | .int a, .int b => decide (a < b)
  | .bl a, .bl b => !a && b
  | .tup xs, .tup ys => ltDs xs ys
  | .lst xs, .lst ys => ltDs xs ys
  | _, _ => false
def ltDs : List D → List D → Bool
  | x :: xs, y :: ys => if eqD x y then ltDs xs ys else ltD x y
  | [], _ :: _ => true
  | _, [] => false
end
def leD (a b : D) : Bool := !ltD b a
def isNeT : D → Bool
  | .tup (_ :: _) => true
  | _ => false
def isNoT : D → Bool
  | .tup _ => false
  | .non => false
  | _ => true
def sortOk (xs : List D) : Bool := (xs.all fun a => xs.all fun b => alkD a b) && ((xs.all isNeT || xs.all isNoT) && (Nat.ble (depDs xs) 60 && Nat.ble xs.length line))
def sortG (xs : List D) : Option (List D) := if sortOk xs then some (sortB leD xs) else if Nat.ble xs.length 1 then some xs else none
/-- the greatest (the least) of data of one form -/
def bestOk (xs : List D) : Bool := (xs.all fun a => xs.all fun b => alkD a b) && Nat.ble (depDs xs) 60
def maxG (x : D) (xs : List D) : D := xs.foldl (fun a y => if ltD a y then y else a) x
def minG (x : D) (xs : List D) : D := xs.foldl (fun a y => if ltD y a then y else a) x
def sortV (xs : List D) : Option (List D) := match intsOf xs with
  | some is => some ((sortB leI is).map D.int)
  | none => sortG xs
mutual
/-- a bound of the length of the text repr(d) -/
def szD : D → Nat
  | .non => 4
  | .bl _ => 5
  | .int _ => 1922
  | .str x => 10 * x.length + 2
  | .tup xs => szDs xs + 3
  | .lst xs => szDs xs + 3
  | .rep d => 10 * szD d + 2
  | .scr _ => 100000000
def szDs : List D → Nat
  | [] => 0
  | x :: xs => szD x + 2 + szDs xs
end
mutual
def shwD : D → Bool
  | .int i => Nat.blt i.natAbs.log2 1920
  | .tup xs => shwDs xs
  | .lst xs => shwDs xs
  | .scr _ => false
  | .rep _ => false
  | .str x => PyData.strOk x
  | _ => true
def shwDs : List D → Bool
  | [] => true
  | x :: xs => shwD x && shwDs xs
end
def lenV (x : Val) (h : Hs) : Option Int := match x with
  | .p (.scr ns) => some ns.length
  | .p (.tup xs) => some xs.length
  | .p (.lst xs) => some xs.length
  | .new xs => some xs.length
  | .p (.str x) => if Nat.ble x.length line then some x.length else none
  | .loc n => match h[n]? with
    | some (.lst _ xs) => some xs.length
    | some (.ref _ ns) => some ns.length
    | _ => none
  | _ => none
/-- the ints of a list -/
def intsV (x : Val) (h : Hs) : Option (List Int) := match seqD h x with
  | some (false, xs) => intsOf xs
  | _ => none
def blsV (x : Val) (h : Hs) : Option (List Bool) := match seqD h x with
  | some (false, xs) => blsOf xs
  | _ => none
def scrV : Val → Option (List Int)
  | .p (.scr ns) => some ns
  | _ => none
def repD : D → Bool
  | .int _ => true
  | .tup _ => true
  | .lst _ => true
  | _ => false
def bi1 (b : Bi) (x : Val) (h : Hs) : Option Val := match b with
  | .len => match lenV x h with
    | some n => some (.p (.int n))
    | none => none
  | .sum => match scrV x with
    | some ns => some (.p (.int ns.sum))
    | none => match intsV x h with
      | some is => some (.p (.int is.sum))
      | none => match tupI x with
        | some is => some (.p (.int is.sum))
        | none => none
  | .all => match blsV x h with
    | some is => some (.p (.bl (is.all id)))
    | none => none
  | .any => match blsV x h with
    | some is => some (.p (.bl (is.any id)))
    | none => none
  | .max => match intsV x h with
    | some is => match maxI is with
      | some m => some (.p (.int m))
      | none => none
    | none => match seqD h x with
      | some (false, d :: ds) => if bestOk (d :: ds) then some (.p (maxG d ds)) else none
      | _ => none
  | .min => match intsV x h with
    | some is => match minI is with
      | some m => some (.p (.int m))
      | none => none
    | none => match seqD h x with
      | some (false, d :: ds) => if bestOk (d :: ds) then some (.p (minG d ds)) else none
      | _ => none
  | .abs => match intV x with
    | some i => some (.p (.int (if i < 0 then -i else i)))
    | none => none
  | .int => match x with
    | .p (.int i) => some (.p (.int i))
    | .p (.bl b) => some (.p (.int (if b then 1 else 0)))
    | _ => none
  | .tuple => match seqD h x with
    | some (_, xs) => some (.p (.tup xs))
    | none => none
  | .list => match scrV x with
    | some ns => some (.new (ns.map D.int))
    | none => match seqD h x with
      | some (_, xs) => some (.new xs)
      | none => none
  | .sorted => match seqD h x with
    | some (false, xs) => match sortV xs with
      | some ys => some (.new ys)
      | none => none
    | _ => none
  | .repr => match datD h x with
    | some d => if repD d && (Nat.ble (depD d) 60 && (shwD d && Nat.ble (szD d) line)) then some (.p (.rep d)) else none
    | none => none
  | .divmod => none
def bi2 (b : Bi) (x y : Val) : Option Val := match intV x with
  | none => none
  | some i => match intV y with
    | none => none
    | some j => match b with
      | .max => some (.p (.int (if j > i then j else i)))
      | .min => some (.p (.int (if j < i then j else i)))
      | .divmod => if decide (0 < j) && decide (j < 1073741824) then some (.p (.tup [.int (i / j), .int (i % j)])) else none
      | _ => none
/-- the ints of a list or of a tuple -/
def intsC (x : Val) (h : Hs) : Option (Bool × List Int) := match seqD h x with
  | some (q, xs) => (intsOf xs).map fun is => (q, is)
  | none => none
def lcntV (q0 : Bool) (x y : Val) (h : Hs) : Option Val := match intsC x h with
  | none => none
  | some (q, is) => match intV y with
    | none => none
    | some k => if q == q0 then some (.p (.int (is.count k : Nat))) else none
def biV (b : Bi) (vs : List Val) (h : Hs) : Option Val := match vs with
  | [x] => bi1 b x h
  | [x, y] => bi2 b x y
  | _ => none

/-! ### calls: what a def is handed and gives back -/
inductive Arg where
  | p (d : D)
  | lst (xs : List D)   -- a list of its own heap
  deriving Inhabited
inductive Ret where
  | p (d : D) | new (xs : List D) | arg (j : Nat)
  deriving Inhabited
/-- a def by its number: the result, the lists that were handed in as they are behind it -/
abbrev CallF := Nat → List Arg → Option (Ret × List (List D))

/-- the arguments at a call: lists of the heap that may be changed are handed in -/
def argOf (h : Hs) : Val → Option (Arg × Option Nat)
  | .p d => some (.p d, none)
  | .new xs => some (.lst xs, none)
  | .loc n => match h[n]? with
    | some (.lst false xs) => some (.lst xs, some n)
    | _ => none
def argsOf (h : Hs) : List Val → Option (List (Arg × Option Nat))
  | [] => some []
  | v :: vs => match argOf h v with
    | none => none
    | some a => match argsOf h vs with
      | none => none
      | some as => some (a :: as)
/-- the places of the lists that are handed in, in order (none: a new one) -/
def placesOf : List (Arg × Option Nat) → List (Option Nat)
  | [] => []
  | (.p _, _) :: as => placesOf as
  | (.lst _, n) :: as => n :: placesOf as
def dupN : List (Option Nat) → Bool
  | [] => false
  | none :: r => dupN r
  | some n :: r => (r.any fun m => match m with | some k => Nat.beq k n | none => false) || dupN r
/-- the lists as they are behind the call -/
def putBack : List (Option Nat) → List (List D) → Hs → Option Hs
  | [], [], h => some h
  | none :: ns, _ :: xs, h => putBack ns xs h
  | some n :: ns, x :: xs, h => putBack ns xs (h.set n (.lst false x))
  | _, _, _ => none
def retV (ns : List (Option Nat)) (xs : List (List D)) : Ret → Option Val
  | .p d => some (.p d)
  | .new xs => some (.new xs)
  | .arg j => match ns[j]? with
    | some (some n) => some (.loc n)
    | some none => match xs[j]? with
      | some ys => some (.new ys)
      | none => none
    | none => none
def callV (F : CallF) (f : Nat) (vs : List Val) (h : Hs) : Option (Val × Hs) := match argsOf h vs with
  | none => none
  | some as => match dupN (placesOf as) with
    | true => none
    | false => match F f (as.map (·.1)) with
      | none => none
      | some (r, xs) => match putBack (placesOf as) xs h with
        | none => none
        | some h' => match retV (placesOf as) xs r with
          | none => none
          | some v => some (v, h')

/-! ### loops -/
/-- what is walked: its items; the list that is locked meanwhile -/
def wipeE (ρ : Env') : List Nat → Env'
  | [] => ρ
  | v :: vs => (wipeE ρ vs).set v none
def setAll : List Nat → List D → Env' → Option Env'
  | [], [], ρ => some ρ
  | i :: is, d :: ds, ρ => setAll is ds (ρ.set i (some (.p d)))
  | _, _, _ => none
def setTg (t : Tg) (v : Val) (ρ : Env') : Option Env' := match t with
  | .nm i => match v with
    | .new _ => none
    | v => some (ρ.set i (some v))
  | .tp is => match v with
    | .p (.tup ds) => setAll is ds ρ
    | _ => none
def lockO : O → O
  | .lst _ xs => .lst true xs
  | .ref _ ns => .ref true ns
  | .gone => .gone
structure Walk where
  items : List Val
  back : Option (Nat × O)   -- what stood there ahead of the lock
  deriving Inhabited
def walkV (v : Val) (h : Hs) : Option (Walk × Hs) := match v with
  | .p (.scr ns) => some (⟨ns.map fun n => .p (.int n), none⟩, h)
  | .loc n => match h[n]? with
    | some (.lst k xs) => some (⟨xs.map .p, some (n, .lst k xs)⟩, h.set n (.lst true xs))
    | some (.ref k ns) => some (⟨ns.map .loc, some (n, .ref k ns)⟩, h.set n (.ref true ns))
    | _ => none
  | v => match seqD h v with
    | some (_, xs) => some (⟨xs.map .p, none⟩, h)
    | none => none
/-- the list at a place is locked -/
def lockV (v : Val) (h : Hs) : Option (Nat × O) × Hs := match v with
  | .loc n => match h[n]? with
    | some o => (some (n, o), h.set n (lockO o))
    | none => (none, h)
  | _ => (none, h)
def enmD (i : Int) : List D → List Val
  | [] => []
  | d :: ds => .p (.tup [.int i, d]) :: enmD (i + 1) ds
def zipD : List D → List D → List Val
  | x :: xs, y :: ys => .p (.tup [x, y]) :: zipD xs ys
  | _, _ => []
def unlock (b : Option (Nat × O)) (h : Hs) : Hs := match b with
  | none => h
  | some (n, o) => h.set n o
def rngI (lo : Int) : Nat → List Val
  | 0 => []
  | n + 1 => .p (.int lo) :: rngI (lo + 1) n
def rngS (lo c : Int) : Nat → List Val
  | 0 => []
  | n + 1 => .p (.int lo) :: rngS (lo + c) c n
def small (i : Int) : Bool := decide (-4611686018427387904 ≤ i) && decide (i < 4611686018427387904)
def mid (i : Int) : Bool := decide (-1099511627776 ≤ i) && decide (i ≤ 1099511627776)
def stepN (i j c : Int) : Nat := (if i < j then (j - i - 1) / c + 1 else 0).toNat
def rngV (vs : List Val) : Option (List Val) := match vs with
  | [.p (.int j)] => if small j then some (rngI 0 j.toNat) else none
  | [.p (.int i), .p (.int j)] => if small i && small j then some (rngI i (j - i).toNat) else none
  | [.p (.int i), .p (.int j), .p (.int c)] => if small i && small j && (decide (c = -1)) then some (rngS i (-1) (i - j).toNat) else
    if mid i && mid j && (decide (0 < c) && decide (c < 1073741824)) then some (rngS i c (stepN i j c)) else none
  | _ => none
/-- one turn of a comprehension -/
def lcF (tg : Tg) (c : Env' → Hs → Option (Bool × Hs)) (e : Env' → Hs → Option (Val × Hs)) (ρ : Env') (x : Val) (h2 : Hs) : Option (Option D × Hs) := match setTg tg x ρ with
  | none => none
  | some ρ1 => match c ρ1 h2 with
    | none => none
    | some (false, h3) => some (none, h3)
    | some (true, h3) => match e ρ1 h3 with
      | none => none
      | some (v, h4) => match frzD v with
        | none => none
        | some d => some (some d, h4)
def forF (tg : Tg) (b : Env' → Hs → Option (Out × Env' × Hs)) (x : Val) (ρ : Env') (h : Hs) : Option (Out × Env' × Hs) := match setTg tg x ρ with
  | none => none
  | some ρ2 => b ρ2 h
/-- a comprehension's turns -/
def lcGo (f : Val → Hs → Option (Option D × Hs)) : List Val → Hs → Option (List D × Hs)
  | [], h => some ([], h)
  | x :: xs, h => match f x h with
    | none => none
    | some (d, h1) => match lcGo f xs h1 with
      | none => none
      | some (ds, h2) => some (match d with | some d => d :: ds | none => ds, h2)
def forGo (f : Val → Env' → Hs → Option (Out × Env' × Hs)) : List Val → Env' → Hs → Option (Out × Env' × Hs)
  | [], ρ, h => some (.nx, ρ, h)
  | x :: xs, ρ, h => match f x ρ h with
    | none => none
    | some (.nx, ρ1, h1) => forGo f xs ρ1 h1
    | some (.bk, ρ1, h1) => some (.nx, ρ1, h1)
    | some (.rt v, ρ1, h1) => some (.rt v, ρ1, h1)
def whlGo (c : Env' → Hs → Option (Bool × Hs)) (f : Env' → Hs → Option (Out × Env' × Hs)) : Nat → Env' → Hs → Option (Out × Env' × Hs)
  | 0, _, _ => none
  | n + 1, ρ, h => match c ρ h with
    | none => none
    | some (false, h1) => some (.nx, ρ, h1)
    | some (true, h1) => match f ρ h1 with
      | none => none
      | some (.nx, ρ2, h2) => whlGo c f n ρ2 h2
      | some (.bk, ρ2, h2) => some (.nx, ρ2, h2)
      | some (.rt v, ρ2, h2) => some (.rt v, ρ2, h2)
/-- the turns that a while has at most -/
def fuelW : Nat := 1000000

/-! ### isinstance; dict(..).get -/
def tyV (h : Hs) : Val → Option Ty'
  | .p .non => some .non
  | .p (.bl _) => some .bool
  | .p (.int _) => some .int
  | .p (.str _) => some .str
  | .p (.tup _) => some .tuple
  | .p (.lst _) => some .list
  | .new _ => some .list
  | .loc n => match h[n]? with
    | some .gone => none
    | some _ => some .list
    | none => none
  | _ => none
def isaT : Ty' → Ty → Bool
  | .int, .int => true
  | .bool, .int => true
  | .bool, .bool => true
  | .str, .str => true
  | .list, .list => true
  | .tuple, .tuple => true
  | _, _ => false
/-- the pairs (int, anything) -/
def kvOf : List D → Option (List (Int × D))
  | [] => some []
  | .tup [.int i, d] :: xs => match kvOf xs with
    | none => none
    | some r => some ((i, d) :: r)
  | _ :: _ => none
/-- the last one wins -/
def lastD (k : Int) : List (Int × D) → Option D
  | [] => none
  | (i, d) :: r => match lastD k r with
    | some e => some e
    | none => if i = k then some d else none
def dgV (kvs : List (Int × D)) (k : Val) (d : Val) : Option Val := match k with
  | .p (.int i) => match lastD i kvs with
    | some e => some (.p e)
    | none => some d
  | _ => none
def pairsV (v : Val) (h : Hs) : Option (List (Int × D)) := match seqD h v with
  | some (false, xs) => kvOf xs
  | _ => none

/-! ### the evaluator -/
def valI : Val → Option (Option Int)
  | .p (.int i) => some (some i)
  | _ => none
mutual
def evE (F : CallF) : E → Env' → Hs → Option (Val × Hs)
  | .var i, ρ, h => match ρ[i]? with
    | some (some v) => some (v, h)
    | _ => none
  | .lit d, _, h => some (.p d, h)
  | .glo _ d, _, h => some (.p d, h)
  | .bin o a b, ρ, h => match evE F a ρ h with
    | none => none
    | some (x, h1) => match evE F b ρ h1 with
      | none => none
      | some (y, h2) => match binV o x y h2 with
        | none => none
        | some v => some (v, h2)
  | .neg a, ρ, h => match evE F a ρ h with
    | some (.p (.int i), h1) => some (.p (.int (-i)), h1)
    | _ => none
  | .not a, ρ, h => match evE F a ρ h with
    | none => none
    | some (v, h1) => match truV h1 v with
      | none => none
      | some b => some (.p (.bl (!b)), h1)
  | .cmp o a b, ρ, h => match evE F a ρ h with
    | none => none
    | some (x, h1) => match evE F b ρ h1 with
      | none => none
      | some (y, h2) => match cmpW o x y h2 with
        | none => none
        | some v => some (v, h2)
  | .chn o o' a b c, ρ, h => match evE F a ρ h with
    | none => none
    | some (x, h1) => match evE F b ρ h1 with
      | none => none
      | some (y, h2) => match cmpV o x y h2 with
        | none => none
        | some false => some (.p (.bl false), h2)
        | some true => match evE F c ρ h2 with
          | none => none
          | some (z, h3) => match cmpV o' y z h3 with
            | none => none
            | some v => some (.p (.bl v), h3)
  | .one a, ρ, h => evE F a ρ h
  | .and a b, ρ, h => match evE F a ρ h with
    | none => none
    | some (v, h1) => match truV h1 v with
      | none => none
      | some true => evE F b ρ h1
      | some false => some (v, h1)
  | .or a b, ρ, h => match evE F a ρ h with
    | none => none
    | some (v, h1) => match truV h1 v with
      | none => none
      | some true => some (v, h1)
      | some false => evE F b ρ h1
  | .ife c a b, ρ, h => match evT F c ρ h with
    | none => none
    | some (true, h1) => evE F a ρ h1
    | some (false, h1) => evE F b ρ h1
  | .tup es, ρ, h => match evEs F es ρ h with
    | none => none
    | some (vs, h1) => match frzDs vs with
      | none => none
      | some ds => if Nat.ble ds.length line then some (.p (.tup ds), h1) else none
  | .lst es, ρ, h => match evEs F es ρ h with
    | none => none
    | some (vs, h1) => match frzDs vs with
      | none => none
      | some ds => if Nat.ble ds.length line then some (.new ds, h1) else none
  | .sub a i, ρ, h => match evE F a ρ h with
    | none => none
    | some (x, h1) => match evE F i ρ h1 with
      | none => none
      | some (y, h2) => match subV x y h2 with
        | none => none
        | some v => some (v, h2)
  | .sl a lo hi, ρ, h => match evE F a ρ h with
    | none => none
    | some (x, h1) => match evO F lo ρ h1 with
      | none => none
      | some (l, h2) => match evO F hi ρ h2 with
        | none => none
        | some (u, h3) => match slV x l u h3 with
          | none => none
          | some v => some (v, h3)
  | .rev a, ρ, h => match evE F a ρ h with
    | none => none
    | some (x, h1) => match revV x h1 with
      | none => none
      | some v => some (v, h1)
  | .lc own tg it cd elt, ρ, h => match evI F it ρ h with
    | none => none
    | some (w, h1) => match lcGo (lcF tg (evC F cd) (evE F elt) (wipeE ρ own)) w.items h1 with
      | none => none
      | some (ds, h5) => if Nat.blt ds.length line then some (.new ds, unlock w.back h5) else none
  | .call f es, ρ, h => match evEs F es ρ h with
    | none => none
    | some (vs, h1) => callV F f vs h1
  | .callK f pm es ks, ρ, h => match evEs F es ρ h with
    | none => none
    | some (vs, h1) => match evEs F ks ρ h1 with
      | none => none
      | some (ws, h2) => callV F f (vs ++ permL pm ws) h2
  | .bi b es, ρ, h => match evEs F es ρ h with
    | none => none
    | some (vs, h1) => match biV b vs h1 with
      | none => none
      | some v => some (v, h1)
  | .isi c a, ρ, h => match evE F a ρ h with
    | none => none
    | some (v, h1) => match tyV h1 v with
      | none => none
      | some t => some (.p (.bl (isaT t c)), h1)
  | .srt a, ρ, h => match evE F a ρ h with
    | none => none
    | some (x, h1) => match intsV x h1 with
      | none => none
      | some is => some (.new ((sortB geI is).map D.int), h1)
  | .lcnt o a, ρ, h => match evE F o ρ h with
    | none => none
    | some (x, h1) => match intsC x h1 with
      | none => none
      | some (q0, _) => match evE F a ρ h1 with
        | none => none
        | some (y, h2) => match lcntV q0 x y h2 with
          | none => none
          | some v => some (v, h2)
  | .dget a k d, ρ, h => match evE F a ρ h with
    | none => none
    | some (v, h1) => match pairsV v h1 with
      | none => none
      | some kvs => match evE F k ρ h1 with
        | none => none
        | some (x, h2) => match evE F d ρ h2 with
          | none => none
          | some (y, h3) => match dgV kvs x y with
            | none => none
            | some w => some (w, h3)
def evT (F : CallF) : T → Env' → Hs → Option (Bool × Hs)
  | .val e, ρ, h => match evE F e ρ h with
    | none => none
    | some (v, h1) => match truV h1 v with
      | none => none
      | some b => some (b, h1)
  | .not a, ρ, h => match evT F a ρ h with
    | some (b, h1) => some (!b, h1)
    | none => none
  | .one a, ρ, h => evT F a ρ h
  | .and a b, ρ, h => match evT F a ρ h with
    | none => none
    | some (true, h1) => evT F b ρ h1
    | some (false, h1) => some (false, h1)
  | .or a b, ρ, h => match evT F a ρ h with
    | none => none
    | some (true, h1) => some (true, h1)
    | some (false, h1) => evT F b ρ h1
def evEs (F : CallF) : Es → Env' → Hs → Option (List Val × Hs)
  | .nil, _, h => some ([], h)
  | .cons e es, ρ, h => match evE F e ρ h with
    | none => none
    | some (v, h1) => match evEs F es ρ h1 with
      | none => none
      | some (vs, h2) => some (v :: vs, h2)
  | .star e es, ρ, h => match evE F e ρ h with
    | none => none
    | some (v, h1) => match seqD h1 v with
      | none => none
      | some (_, xs) => match evEs F es ρ h1 with
        | none => none
        | some (vs, h2) => some (xs.map .p ++ vs, h2)
def evO (F : CallF) : Eo → Env' → Hs → Option (Option Int × Hs)
  | .no, _, h => some (none, h)
  | .yes e, ρ, h => match evE F e ρ h with
    | some (.p (.int i), h1) => some (some i, h1)
    | _ => none
def evC (F : CallF) : To → Env' → Hs → Option (Bool × Hs)
  | .no, _, h => some (true, h)
  | .yes e, ρ, h => evT F e ρ h
def evI (F : CallF) : It → Env' → Hs → Option (Walk × Hs)
  | .val e, ρ, h => match evE F e ρ h with
    | none => none
    | some (v, h1) => walkV v h1
  | .rng es, ρ, h => match evEs F es ρ h with
    | none => none
    | some (vs, h1) => match rngV vs with
      | none => none
      | some xs => some (⟨xs, none⟩, h1)
  | .enm k e, ρ, h => match evE F e ρ h with
    | none => none
    | some (v, h1) => match seqD h1 v with
      | none => none
      | some (_, xs) => match lockV v h1 with
        | (b, h2) => some (⟨enmD (k.getD 0) xs, b⟩, h2)
  | .zip a b, ρ, h => match evE F a ρ h with
    | none => none
    | some (x, h1) => match evE F b ρ h1 with
      | none => none
      | some (y, h2) => match frzD x with
        | none => none
        | some d => match frzD y with
          | none => none
          | some e => match d, e with
            | .tup xs, .tup ys => some (⟨zipD xs ys, none⟩, h2)
            | .lst xs, .lst ys => some (⟨zipD xs ys, none⟩, h2)
            | _, _ => none
end

/-! ### statements -/
def bindAll : List Nat → List Val → Env' → Hs → Option (Env' × Hs)
  | [], [], ρ, h => some (ρ, h)
  | i :: is, v :: vs, ρ, h => bindAll is vs (ρ.set i (some (bind v h).1)) (bind v h).2
  | _, _, _, _ => none
def setV (h : Hs) (n : Nat) (k : Int) (d : D) : Option Hs := match h[n]? with
  | some (.lst false xs) => match ixN xs.length k with
    | some j => some (h.set n (.lst false (xs.set j d)))
    | none => none
  | _ => none
/-- there is a list -/
def liveO (h : Hs) (n : Nat) : Bool := match h[n]? with
  | some .gone => false
  | some _ => true
  | none => false
/-- n.append(v) -/
def appV (h : Hs) (n : Nat) (v : Val) : Option Hs := match v with
  | .loc m => match h[n]? with
    | some (.lst false []) => some (h.set n (.ref false [m]))
    | some (.ref false ns) => if Nat.blt ns.length line then some (h.set n (.ref false (ns ++ [m]))) else none
    | _ => none
  | v => match frzD v with
    | none => none
    | some d => match h[n]? with
      | some (.lst false xs) => if Nat.blt xs.length line then some (h.set n (.lst false (xs ++ [d]))) else none
      | _ => none
/-- n.append(m), m's list is given up -/
def apfV (h : Hs) (n m : Nat) : Option Hs := match Nat.beq n m with
  | true => none
  | false => match h[m]? with
    | some (.lst false xs) => match appV h n (.p (.lst xs)) with
      | some h3 => some (h3.set m .gone)
      | none => none
    | _ => none
/-- n.extend(v) -/
def extV (h : Hs) (n : Nat) (v : Val) : Option Hs := match seqD h v with
  | some (false, ys) => match h[n]? with
    | some (.lst false xs) => if Nat.ble (xs.length + ys.length) line then some (h.set n (.lst false (xs ++ ys))) else none
    | _ => none
  | _ => none
mutual
def evS (F : CallF) : S → Env' → Hs → Option (Out × Env' × Hs)
  | .asg i e, ρ, h => match evE F e ρ h with
    | none => none
    | some (v, h1) => some (.nx, ρ.set i (some (bind v h1).1), (bind v h1).2)
  | .tup is e, ρ, h => match evE F e ρ h with
    | some (.p (.tup ds), h1) => match setAll is ds ρ with
      | none => none
      | some ρ1 => some (.nx, ρ1, h1)
    | _ => none
  | .par is es, ρ, h => match evEs F es ρ h with
    | none => none
    | some (vs, h1) => match bindAll is vs ρ h1 with
      | none => none
      | some (ρ1, h2) => some (.nx, ρ1, h2)
  | .set o i e, ρ, h => match evE F e ρ h with
    | none => none
    | some (v, h1) => match frzD v with
      | none => none
      | some d => match evE F o ρ h1 with
        | some (.loc n, h2) => match evE F i ρ h2 with
          | some (.p (.int k), h3) => match setV h3 n k d with
            | none => none
            | some h4 => some (.nx, ρ, h4)
          | _ => none
        | _ => none
  | .app o e, ρ, h => match evE F o ρ h with
    | some (.loc n, h1) => match liveO h1 n with
      | false => none
      | true => match evE F e ρ h1 with
        | none => none
        | some (v, h2) => match appV h2 n v with
          | none => none
          | some h3 => some (.nx, ρ, h3)
    | _ => none
  | .apf o i, ρ, h => match ρ[o]? with
    | some (some (.loc n)) => match liveO h n with
      | false => none
      | true => match ρ[i]? with
        | some (some (.loc m)) => match apfV h n m with
          | none => none
          | some h3 => some (.nx, ρ, h3)
        | _ => none
    | _ => none
  | .ext o e, ρ, h => match evE F o ρ h with
    | some (.loc n, h1) => match liveO h1 n with
      | false => none
      | true => match evE F e ρ h1 with
        | none => none
        | some (v, h2) => match extV h2 n v with
          | none => none
          | some h3 => some (.nx, ρ, h3)
    | _ => none
  | .tsn o i j e, ρ, h => match evE F e ρ h with
    | some (.p (.tup [d, d2]), h1) => match evE F o ρ h1 with
      | some (.loc n, h2) => match evE F i ρ h2 with
        | some (.p (.int k), h3) => match setV h3 n k d with
          | none => none
          | some h4 => some (.nx, ρ.set j (some (.p d2)), h4)
        | _ => none
      | _ => none
    | _ => none
  | .ex e, ρ, h => match evE F e ρ h with
    | none => none
    | some (_, h1) => some (.nx, ρ, h1)
  | .ret e, ρ, h => match evE F e ρ h with
    | none => none
    | some (v, h1) => some (.rt v, ρ, h1)
  | .retN, ρ, h => some (.rt (.p .non), ρ, h)
  | .ife c a b, ρ, h => match evT F c ρ h with
    | none => none
    | some (true, h1) => evSs F a ρ h1
    | some (false, h1) => evSs F b ρ h1
  | .for_ tg it body, ρ, h => match evI F it ρ h with
    | none => none
    | some (w, h1) => match forGo (forF tg (evSs F body)) w.items ρ h1 with
      | none => none
      | some (o, ρ1, h2) => some (o, ρ1, unlock w.back h2)
  | .whl c body, ρ, h => whlGo (evT F c) (evSs F body) fuelW ρ h
  | .brk, ρ, h => some (.bk, ρ, h)
  | .pss, ρ, h => some (.nx, ρ, h)
  | .nev, _, _ => none
def evSs (F : CallF) : Ss → Env' → Hs → Option (Out × Env' × Hs)
  | .nil, ρ, h => some (.nx, ρ, h)
  | .cons s ss, ρ, h => match evS F s ρ h with
    | none => none
    | some (.nx, ρ1, h1) => evSs F ss ρ1 h1
    | some r => some r
end

/-! ### defs -/
structure Fn where
  np : Nat           -- how many parameters
  nn : Nat           -- how many names
  body : Ss
abbrev Tab := List Fn
def start' (nn : Nat) (as : List Arg) : Nat → Env'
  | k => go as 0 ++ List.replicate (nn - as.length) none
where go : List Arg → Nat → Env'
  | [], _ => []
  | .p d :: as, k => some (.p d) :: go as k
  | .lst _ :: as, k => some (.loc k) :: go as (k + 1)
def heap' : List Arg → Hs
  | [] => []
  | .p _ :: as => heap' as
  | .lst xs :: as => .lst false xs :: heap' as
def outs' : List Arg → Hs → Option (List (List D))
  | [], _ => some []
  | .p _ :: as, h => outs' as h
  | .lst _ :: as, .lst _ xs :: h => match outs' as h with
    | some r => some (xs :: r)
    | none => none
  | .lst _ :: _, _ => none
def retD (na : Nat) (h : Hs) : Val → Option Ret
  | .p d => some (.p d)
  | .new xs => some (.new xs)
  | .loc n => if Nat.blt n na then some (.arg n) else match h[n]? with
    | some (.lst _ xs) => some (.new xs)
    | _ => none
def runFn (F : CallF) (f : Fn) (as : List Arg) : Option (Ret × List (List D)) :=
  if Nat.beq as.length f.np then match evSs F f.body (start' f.nn as 0) (heap' as) with
    | none => none
    | some (o, _, h) => match (match o with | .rt v => retD (heap' as).length h v | .nx => some (.p .non) | .bk => none), outs' as h with
      | some r, some xs => some (r, xs)
      | _, _ => none
  else none
def callD (T : Tab) : Nat → CallF
  | 0 => fun _ _ => none
  | n + 1 => fun i as => match T[i]? with
    | some f => runFn (callD T n) f as
    | none => none
end MP

/-! ## EngD.lean -/
set_option Elab.async false
set_option linter.all false
set_option maxRecDepth 100000
namespace MP
open PySem PySem.Spec PyProof.Rows L2

structure Pst (K : PySem.W.Frag) (ι : List Addr) (av : Av) (H : Hp) (h : Hs) (ι' : List Addr) (av' : Av) (H' : Hp) (h' : Hs) : Prop where
  stp : Stp ι av H ι' av' H'
  sim : SimH K h' ι' av' H'
  lk : ∀ (n : Nat) (o : O), h[n]? = some o → o.locked = true → h'[n]? = some o
abbrev Ev1 := Env' → Hs → Option (Val × Hs)
def Val.isNew : Val → Bool
  | .new _ => true
  | _ => false
def newsOf : List Val → List V → List V
  | .new _ :: vs, u :: us => u :: newsOf vs us
  | _ :: vs, _ :: us => newsOf vs us
  | _, _ => []
def RepRs (K : PySem.W.Frag) (H0 : Hp) (ι : List Addr) (av : Av) (H : Hp) : List Val → List V → Prop
  | [], us => us = []
  | v :: vs, us => ∃ u r, us = u :: r ∧ RepR K H0 ι av H v u ∧ RepRs K H0 ι av H vs r ∧ (v.isNew = true → u ∉ newsOf vs r)
def rdE (K : PySem.W.Frag) (m : Ev1) : TE := fun σ H Q => ∃ ρ h ι av v h', SimH K h ι av H ∧ RepE K ρ ι av σ H ∧ m ρ h = some (v, h') ∧
  ∀ ι' av' H' u, Pst K ι av H h ι' av' H' h' → RepR K H ι' av' H' v u → Q u H'
def rdA (K : PySem.W.Frag) (m : Env' → Hs → Option (List Val × Hs)) : TA := fun σ H Q => ∃ ρ h ι av vs h', SimH K h ι av H ∧ RepE K ρ ι av σ H ∧ m ρ h = some (vs, h') ∧
  ∀ ι' av' H' us, Pst K ι av H h ι' av' H' h' → RepRs K H ι' av' H' vs us → Q us H'
def rdT (K : PySem.W.Frag) (m : Env' → Hs → Option (Bool × Hs)) : TT := fun σ H Q => ∃ ρ h ι av b h', SimH K h ι av H ∧ RepE K ρ ι av σ H ∧ m ρ h = some (b, h') ∧
  ∀ ι' av' H', Pst K ι av H h ι' av' H' h' → Q b H'
def rdO (K : PySem.W.Frag) (m : Env' → Hs → Option (Option Int × Hs)) : TO := fun σ H Q => ∃ ρ h ι av o h', SimH K h ι av H ∧ RepE K ρ ι av σ H ∧ m ρ h = some (o, h') ∧
  ∀ ι' av' H', Pst K ι av H h ι' av' H' h' → Q o H'
section
variable {K : PySem.W.Frag} {H H0 H1 H2 H' : Hp} {av av' av1 av2 : Av} {ι ι' ι1 ι2 : List Addr} {h h' h1 h2 : Hs} {σ : L2.St} {ρ : Env'} {X : Cx}
theorem PEimp {e : Expr} {t t' : TE} (g : PE X e t) (k : ∀ σ H Q, t' σ H Q → t σ H Q) : PE X e t' := ⟨fun pins s σ H Q I q => g.run pins s σ H Q I (k _ _ _ q)⟩
theorem PTimp {e : Expr} {t t' : TT} (g : PT X e t) (k : ∀ σ H Q, t' σ H Q → t σ H Q) : PT X e t' := ⟨fun pins s σ H Q I q => g.run pins s σ H Q I (k _ _ _ q)⟩
theorem PWimp {e : Expr} {t t' : TT} (g : PW X e t) (k : ∀ σ H Q, t' σ H Q → t σ H Q) : PW X e t' := ⟨fun wh pins s σ H Q I q => g.run wh pins s σ H Q I (k _ _ _ q)⟩
theorem PAimp {e : List Expr} {t t' : TA} (g : PA X e t) (k : ∀ σ H Q, t' σ H Q → t σ H Q) : PA X e t' := ⟨fun pos pins s σ H Q I q => g.run pos pins s σ H Q I (k _ _ _ q)⟩
theorem PSimp {e : Stmt} {t t' : TS} (g : PS X e t) (k : ∀ D σ H, t' D σ H → t D σ H) : PS X e t' := ⟨fun pins s σ H D I q => g.run pins s σ H D I (k _ _ _ q)⟩
theorem PSsimp {e : List Stmt} {t t' : TS} (g : PSs X e t) (k : ∀ D σ H, t' D σ H → t D σ H) : PSs X e t' := ⟨fun pins s σ H D I q => g.run pins s σ H D I (k _ _ _ q)⟩
theorem Pst.refl (s : SimH K h ι av H) : Pst K ι av H h ι av H h := ⟨.refl, s, fun _ _ e _ => e⟩
theorem Pst.trans (a : Pst K ι av H h ι1 av1 H1 h1) (b : Pst K ι1 av1 H1 h1 ι2 av2 H2 h2) : Pst K ι av H h ι2 av2 H2 h2 :=
  ⟨a.stp.trans b.stp, b.sim, fun n o e l => b.lk n o (a.lk n o e l) l⟩
/-- what is new of an earlier result is so of the later ones -/
theorem RepRs.tie : ∀ {vs : List Val} {us : List V} {a : Addr}, RepRs K H0 ι av H vs us → H0 a ≠ none → V.ref a ∉ newsOf vs us
  | [], us, a, h, e => by simp [newsOf]
  | v :: vs, us, a, h, e => by
    obtain ⟨u, r, rfl, h1, h2, _⟩ := h
    have ih := RepRs.tie h2 e
    cases v with
    | new xs =>
      obtain ⟨b, _, rfl, q, _⟩ := h1
      simp only [newsOf, List.mem_cons, not_or]
      refine ⟨fun z => ?_, ih⟩
      injection z with z
      subst z
      exact e q
    | p d => exact ih
    | loc n => exact ih
theorem Stp.repRs {P : Prop} (s : Stp ι av H ι' av' H') (sub : P) : ∀ {vs : List Val} {us : List V}, RepRs K H0 ι av H vs us → RepRs K H0 ι' av' H' vs us
  | [], _, h => h
  | v :: vs, us, h => by
    obtain ⟨u, r, rfl, h1, h2, h3⟩ := h
    exact ⟨u, r, rfl, s.repR sub h1, Stp.repRs s sub h2, h3⟩
theorem RepRs.back (s : Stp ι1 av1 H1 ι2 av2 H2) : ∀ {vs : List Val} {us : List V}, RepRs K H2 ι av H vs us → RepRs K H1 ι av H vs us
  | [], _, h => h
  | v :: vs, us, h => by
    obtain ⟨u, r, rfl, h1, h2, h3⟩ := h
    exact ⟨u, r, rfl, h1.back s, RepRs.back s h2, h3⟩
/-- one result ahead of others -/
theorem RepRs.cons {P : Prop} {v : Val} {u : V} {vs : List Val} {us : List V} (s : Stp ι1 av1 H1 ι2 av2 H2) (sub : P) (b : Stp ι av H ι1 av1 H1) (r1 : RepR K H ι1 av1 H1 v u) (r2 : RepRs K H1 ι2 av2 H2 vs us) : RepRs K H ι2 av2 H2 (v :: vs) (u :: us) := by
  refine ⟨u, us, rfl, s.repR sub r1, r2.back b, fun hn => ?_⟩
  cases v with
  | new xs =>
    obtain ⟨a, ws, rfl, _, q, _⟩ := r1
    exact r2.tie (by rw [q]; simp)
  | p d => cases hn
  | loc n => cases hn
abbrev H_0 : Hp := fun _ => none
theorem RepR.any {v : Val} {u : V} (r : RepR K H0 ι av H v u) : RepR K H_0 ι av H v u := by
  cases v with
  | p d => exact r
  | loc n => exact r
  | new xs => obtain ⟨a, vs, e, _, k⟩ := r; exact ⟨a, vs, e, rfl, k⟩
/-- a list's or tuple's items -/
theorem seqD_ok {v : Val} {u : V} {b : Bool} {xs : List D} (s : SimH K h ι av H) (r : RepR K H0 ι av H v u) (e : seqD h v = some (b, xs)) :
    ∃ a vs, u = .ref a ∧ RepDs K H av xs vs ∧ (b = true → TupO H a vs) ∧ (b = false → H a = some (.lst vs)) := by
  cases v with
  | p d =>
    cases d with
    | tup ys =>
      simp only [seqD, Option.some.injEq, Prod.mk.injEq] at e
      obtain ⟨rfl, rfl⟩ := e
      obtain ⟨a, vs, rfl, q, _, k⟩ := r
      exact ⟨a, vs, rfl, k, fun _ => q, fun z => nomatch z⟩
    | lst ys =>
      simp only [seqD, Option.some.injEq, Prod.mk.injEq] at e
      obtain ⟨rfl, rfl⟩ := e
      obtain ⟨a, vs, rfl, q, _, k⟩ := r
      exact ⟨a, vs, rfl, k, fun z => (nomatch z), fun _ => q⟩
    | _ => simp [seqD] at e
  | new ys =>
    simp only [seqD, Option.some.injEq, Prod.mk.injEq] at e
    obtain ⟨rfl, rfl⟩ := e
    obtain ⟨a, vs, rfl, _, q, _, _, k⟩ := r
    exact ⟨a, vs, rfl, k, fun z => (nomatch z), fun _ => q⟩
  | loc n =>
    obtain ⟨a, q, rfl⟩ := r
    simp only [seqD] at e
    split at e
    · rename_i k ys q2
      simp only [Option.some.injEq, Prod.mk.injEq] at e
      obtain ⟨rfl, rfl⟩ := e
      obtain ⟨a', vs, q3, q4, q5⟩ := s.ob n _ q2 nofun
      rw [q] at q3; cases q3
      exact ⟨a, vs, rfl, q5, fun z => (nomatch z), fun _ => q4⟩
    · cases e
theorem seqD_sq {v : Val} {u : V} {b : Bool} {xs : List D} (s : SimH K h ι av H) (r : RepR K H0 ι av H v u) (e : seqD h v = some (b, xs)) :
    ∃ a vs, u = .ref a ∧ RepDs K H av xs vs ∧ (SqL K H a vs ∨ SqT K H a vs) := by
  obtain ⟨a, vs, rfl, q, h1, h2⟩ := seqD_ok s r e
  cases b with
  | true => exact ⟨a, vs, rfl, q, .inr (h1 rfl).sq⟩
  | false => exact ⟨a, vs, rfl, q, .inl (.of (h2 rfl))⟩
abbrev av0 : Av := fun _ => False
theorem datD_ok {v : Val} {u : V} {d : D} (s : SimH K h ι av H) (r : RepR K H0 ι av H v u) (e : datD h v = some d) : RepD K H av0 d u := by
  cases v with
  | p d =>
    simp only [datD, Option.some.injEq] at e
    subst e
    exact RepD.lessAv (fun _ z => z.elim) (show RepD K H av d u from r)
  | new ys =>
    simp only [datD, Option.some.injEq] at e
    subst e
    obtain ⟨a, vs, rfl, _, q, _, _, k⟩ := r
    exact ⟨a, vs, rfl, q, fun z => z, RepDs.lessAv (fun _ z => z.elim) k⟩
  | loc n =>
    obtain ⟨a, q, rfl⟩ := r
    simp only [datD] at e
    split at e
    · rename_i k ys q2
      simp only [Option.some.injEq] at e
      subst e
      obtain ⟨a', vs, q3, q4, q5⟩ := s.ob n _ q2 nofun
      rw [q] at q3; cases q3
      exact ⟨a, vs, rfl, q4, fun z => z, RepDs.lessAv (fun _ z => z.elim) q5⟩
    · cases e
/-- the state behind a new object -/
theorem Stp.upd_new {p : Addr} {o : HO} (hp : H p = none) (live : ∀ a, av a → H a ≠ none) : Stp ι av H ι av (upd H p o) :=
  ⟨⟨[], by simp, by simp⟩, fun a ob e _ => by rw [upd_ne (fun z => by subst z; rw [hp] at e; cases e)]; exact e,
   fun a e => by by_cases z : a = p; · subst z; rw [upd_same]; simp
                 · rw [upd_ne z]; exact e, fun _ q => .inl q, fun _ q _ _ => q⟩
theorem SimH.step (s : SimH K h ι av H) (st : Stp ι av H ι av' H') (sub : ∀ a, av a → av' a) (live : ∀ a, av' a → H' a ≠ none) (keep : ∀ a ∈ ι, H' a = H a) : SimH K h ι av' H' := by
  refine ⟨s.len, s.nd, fun n a o e1 e2 g => sub a (s.sub n a o e1 e2 g), fun a m => st.alive a (s.lv a m), live, fun n o e g => ?_⟩
  obtain ⟨a, vs, q1, q2, q3⟩ := s.ob n o e g
  refine ⟨a, vs, q1, (keep a (List.mem_of_getElem? q1)).trans q2, ?_⟩
  cases o with
  | lst k xs => exact st.repDs s.sub q3
  | ref k ns => exact q3
  | gone => trivial
theorem SimH.upd_new {p : Addr} {o : HO} (s : SimH K h ι av H) (hp : H p = none) : SimH K h ι av (upd H p o) :=
  s.step (Stp.upd_new hp s.live) (fun _ q => q) (fun a e => (Stp.upd_new (ι := ι) (o := o) hp s.live).alive a (s.live a e)) fun a m => upd_ne (fun z => by subst z; exact s.lv _ m hp)
theorem Pst.upd_new {p : Addr} {o : HO} (s : SimH K h ι av H) (hp : H p = none) : Pst K ι av H h ι av (upd H p o) h :=
  ⟨Stp.upd_new hp s.live, s.upd_new hp, fun _ _ e _ => e⟩
theorem Pst.newTup {p : Addr} {xs : List D} {vs : List V} {o : Obj} (s : SimH K h ι av H) (hp : H p = none) (r : RepDs K H av xs vs) (hd : o.dict = none) :
    Pst K ι av H h ι av (upd H p (.frz o (.tup vs))) h ∧ RepR K H ι av (upd H p (.frz o (.tup vs))) (.p (.tup xs)) (.ref p) := by
  have st : Pst K ι av H h ι av (upd H p (.frz o (.tup vs))) h := .upd_new s hp
  refine ⟨st, p, vs, rfl, ⟨o, hd, upd_same⟩, fun z => s.live _ z hp, st.stp.repDs s.sub r⟩
theorem Pst.newLst {p : Addr} {xs : List D} {vs : List V} (s : SimH K h ι av H) (hp : H p = none) (r : RepDs K H av xs vs) :
    Pst K ι av H h ι (fun a => av a ∨ a = p) (upd H p (.lst vs)) h ∧ RepR K H ι (fun a => av a ∨ a = p) (upd H p (.lst vs)) (.new xs) (.ref p) := by
  have st : Stp ι av H ι (fun a => av a ∨ a = p) (upd H p (.lst vs)) := by
    have b : Stp ι av H ι av (upd H p (.lst vs)) := Stp.upd_new hp s.live
    exact ⟨b.ext, b.keep, b.alive, fun a q => q.elim .inl fun z => .inr (z ▸ hp), fun a q _ _ => .inl q⟩
  have np : ∀ a, av a → a ≠ p := fun a q z => s.live a q (z ▸ hp)
  refine ⟨⟨st, s.step st (fun a q => .inl q) (fun a q => ?_) (fun a m => upd_ne fun z => s.lv a m (z ▸ hp)), fun _ _ e _ => e⟩, p, vs, rfl, hp, upd_same, .inr rfl, fun m => s.lv p m hp, st.repDs s.sub r⟩
  rcases q with q | q
  · exact st.alive a (s.live a q)
  · subst q; rw [upd_same]; simp
end
end MP

/-! ## EngE.lean -/
set_option Elab.async false
set_option linter.all false
set_option maxRecDepth 100000
namespace MP
open PySem PySem.Spec PyProof.Rows L2
section
variable {K : PySem.W.Frag} {H H0 H1 H2 H' : Hp} {av av' av1 av2 : Av} {ι ι' ι1 ι2 : List Addr} {h h' h1 h2 : Hs} {σ : L2.St} {ρ : Env'} {X : Cx}

/-! ### results that change nothing, of a scalar -/
theorem intV_eq {v : Val} {i : Int} (e : intV v = some i) : v = .p (.int i) := by
  unfold intV at e
  split at e
  · simp only [Option.some.injEq] at e; subst e; rfl
  · cases e
theorem strV_eq {v : Val} {i : Str} (e : strV v = some i) : v = .p (.str i) := by
  unfold strV at e
  split at e
  · simp only [Option.some.injEq] at e; subst e; rfl
  · cases e
theorem scrV_eq {v : Val} {i : List Int} (e : scrV v = some i) : v = .p (.scr i) := by
  unfold scrV at e
  split at e
  · simp only [Option.some.injEq] at e; subst e; rfl
  · cases e
theorem RepR.intE {i : Int} {u : V} (r : RepR K H0 ι av H (.p (.int i)) u) : u = .int i := r
theorem RepR.strE {i : Str} {u : V} (r : RepR K H0 ι av H (.p (.str i)) u) : u = .str i := r
theorem line_eq : line = sizeLine := by rw [sizeLine_eq]; rfl
theorem ble_line {n : Nat} (e : Nat.ble n line = true) : n ≤ sizeLine := by rw [← line_eq]; exact Nat.le_of_ble_eq_true e
theorem blt_line {n : Nat} (e : Nat.blt n line = true) : n < sizeLine := by
  rw [← line_eq]
  exact Nat.le_of_ble_eq_true e

/-! ### two-place operations -/
def rV2 (K : PySem.W.Frag) (m : Val → Val → Hs → Option Val) : R2 := fun x y H Q => ∃ h ι av vx vy v, SimH K h ι av H ∧ RepR K H_0 ι av H vx x ∧ RepR K H_0 ι av H vy y ∧ m vx vy h = some v ∧
  ∀ av' H' u, Pst K ι av H h ι av' H' h → RepR K H ι av' H' v u → Q u H'
theorem blt64 {i : Int} (e : Nat.blt i.natAbs 18446744073709551616 = true) : -(2 ^ 64) < i ∧ i < 2 ^ 64 := by
  have := Nat.le_of_ble_eq_true (show Nat.ble (i.natAbs + 1) 18446744073709551616 = true from e)
  omega
theorem op_bin (o : Operator) : OpR X (binaryOp o) (rV2 X.K (binV o)) := by
  intro pins s σ H x y v u Q I rx ry hh
  obtain ⟨h, ι, av, vx, vy, w, sim, r1, r2, e, k⟩ := hh
  have done : ∀ {d : D} {z : V}, RepD X.K H av d z → w = .p d → Q z H := fun {d z} r ew => k av H z (.refl sim) (by subst ew; exact r)
  unfold binV at e
  split at e
  · rename_i j ej
    have e2 := intV_eq ej
    subst e2
    have := r2.intE
    subst this
    split at e
    · rename_i i ei
      have e2 := intV_eq ei
      subst e2
      have := r1.intE
      subst this
      split at e
      · rename_i d ed
        simp only [Option.some.injEq] at e
        have fin : ∀ z, d = .int z → Q (.int z) H := fun z ez => done (d := d) (by subst ez; rfl) e.symm
        cases o <;> simp only [binI, Option.some.injEq, reduceCtorEq] at ed
        · exact op_add pins s σ H _ _ v u Q I rx ry ⟨i, j, rfl, rfl, fin _ ed.symm⟩
        · exact op_sub pins s σ H _ _ v u Q I rx ry ⟨i, j, rfl, rfl, fin _ ed.symm⟩
        · split at ed
          · rename_i hm
            simp only [Option.some.injEq] at ed
            unfold mulOk at hm
            simp only [Bool.or_eq_true] at hm
            rcases hm with hm | hm | hm
            · exact op_mul pins s σ H _ _ v u Q I rx ry ⟨i, j, rfl, rfl, .inl (blt64 hm), fin _ ed.symm⟩
            · exact op_mul pins s σ H _ _ v u Q I rx ry ⟨i, j, rfl, rfl, .inr (blt64 hm), fin _ ed.symm⟩
            · exact op_mulW pins s σ H _ _ v u Q I rx ry ⟨i, j, rfl, rfl, Nat.le_of_ble_eq_true hm, fin _ ed.symm⟩
          · cases ed
        · split at ed
          · rename_i hm
            simp only [Option.some.injEq] at ed
            simp only [decide_eq_true_eq] at hm
            exact op_mod pins s σ H _ _ v u Q I rx ry ⟨i, j, rfl, rfl, hm, fin _ ed.symm⟩
          · cases ed
        · split at ed
          · rename_i hm
            simp only [Option.some.injEq] at ed
            simp only [Bool.and_eq_true, decide_eq_true_eq] at hm
            exact op_pow pins s σ H _ _ v u Q I rx ry ⟨i, j, rfl, rfl, ⟨hm.1, hm.2.1, by have := Nat.le_of_ble_eq_true (show Nat.ble (i.natAbs + 1) 18446744073709551616 = true from hm.2.2); omega⟩, fin _ ed.symm⟩
          · cases ed
        · split at ed
          · rename_i hm
            simp only [Option.some.injEq] at ed
            simp only [Bool.and_eq_true, decide_eq_true_eq] at hm
            exact op_fdiv pins s σ H _ _ v u Q I rx ry ⟨i, j, rfl, rfl, hm, fin _ ed.symm⟩
          · cases ed
      · cases e
    · split at e
      · unfold timesV at e
        split at e
        · rename_i xs es
          split at e
          · rename_i hm
            simp only [Option.some.injEq] at e
            simp only [Bool.and_eq_true, decide_eq_true_eq] at hm
            obtain ⟨a, vs, rfl, rv, _, hl⟩ := seqD_ok sim r1 es
            refine op_rep pins s σ H _ _ v u Q I rx ry ⟨a, j, vs, rfl, rfl, hl rfl, by omega, by omega, by rw [rv.length]; exact ble_line hm.1, fun p hp => ?_⟩
            obtain ⟨p1, p2⟩ := Pst.newLst sim hp (rv.rep j.toNat)
            exact k _ _ _ p1 (by rw [← e]; exact p2)
          · cases e
        · rename_i xs es
          split at e
          · rename_i hm
            simp only [Option.some.injEq] at e
            simp only [Bool.and_eq_true, decide_eq_true_eq] at hm
            obtain ⟨⟨h1, h2⟩, h3⟩ := hm
            obtain ⟨a, vs, rfl, rv, hl, _⟩ := seqD_ok sim r1 es
            have l1 := rv.length
            refine op_repN pins s σ H _ _ v u Q I rx ry ⟨a, j, vs, rfl, rfl, (hl rfl).sq, h1, h2, by rw [l1]; exact Nat.le_of_ble_eq_true h3, fun z => ?_, fun _ z p o hp hd => ?_, fun _ z p o hp hd => ?_⟩
            · have ef : (List.replicate j.toNat xs).flatten = xs := by
                rcases z with z | z
                · subst z
                  have : xs = [] := List.eq_nil_of_length_eq_zero (by rw [← l1]; rfl)
                  subst this
                  generalize j.toNat = m
                  induction m with
                  | zero => rfl
                  | succ m ih => rw [List.replicate_succ, List.flatten_cons, ih]; rfl
                · subst z; simp
              rw [ef] at e
              cases vx with
              | p d => cases d <;> simp [seqD] at es; subst es; exact done (d := .tup _) r1 (by rw [← e])
              | new xs => simp [seqD] at es
              | loc n =>
                simp only [seqD] at es
                split at es <;> cases es
            · obtain ⟨p1, p2⟩ := Pst.newTup (xs := []) (vs := []) sim hp rfl hd
              rw [show j.toNat = 0 by omega] at e
              exact k _ _ _ p1 (by rw [← e]; exact p2)
            · obtain ⟨p1, p2⟩ := Pst.newTup sim hp (rv.rep j.toNat) hd
              exact k _ _ _ p1 (by rw [← e]; exact p2)
          · cases e
        · cases e
      · cases e
  · split at e
    · unfold catV at e
      split at e
      · rename_i xs es
        split at e
        · rename_i ys et
          split at e
          · rename_i hm
            simp only [Option.some.injEq] at e
            obtain ⟨a, vs, rfl, rv, _, hl⟩ := seqD_ok sim r1 es
            obtain ⟨b, ws, rfl, rw', _, hl2⟩ := seqD_ok sim r2 et
            refine op_cat pins s σ H _ _ v u Q I rx ry ⟨a, b, vs, ws, rfl, rfl, hl rfl, hl2 rfl, by rw [rv.length, rw'.length]; exact ble_line hm, fun p hp => ?_⟩
            obtain ⟨p1, p2⟩ := Pst.newLst sim hp (rv.append rw')
            exact k _ _ _ p1 (by rw [← e]; exact p2)
          · cases e
        · cases e
      · rename_i xs es
        split at e
        · rename_i ys et
          split at e
          · rename_i hm
            simp only [Option.some.injEq] at e
            obtain ⟨a, vs, rfl, rv, hl, _⟩ := seqD_ok sim r1 es
            obtain ⟨b, ws, rfl, rw', hl2, _⟩ := seqD_ok sim r2 et
            have l1 := rv.length
            have l2 := rw'.length
            refine op_catN pins s σ H _ _ v u Q I rx ry ⟨a, b, vs, ws, rfl, rfl, (hl rfl).sq, (hl2 rfl).sq, by rw [l1, l2]; exact ble_line hm, fun z => ?_, fun _ z => ?_, fun _ _ p o hp hd => ?_⟩
            · have zx : xs = [] := List.eq_nil_of_length_eq_zero (by rw [← l1, z]; rfl)
              subst zx
              cases vy with
              | p d => cases d <;> simp [seqD] at et; subst et; exact done (d := .tup _) r2 (by rw [← e]; simp)
              | new xs => simp [seqD] at et
              | loc n =>
                simp only [seqD] at et
                split at et <;> cases et
            · have zx : ys = [] := List.eq_nil_of_length_eq_zero (by rw [← l2, z]; rfl)
              subst zx
              cases vx with
              | p d => cases d <;> simp [seqD] at es; subst es; exact done (d := .tup _) r1 (by rw [← e]; simp)
              | new xs => simp [seqD] at es
              | loc n =>
                simp only [seqD] at es
                split at es <;> cases es
            · obtain ⟨p1, p2⟩ := Pst.newTup sim hp (rv.append rw') hd
              exact k _ _ _ p1 (by rw [← e]; exact p2)
          · cases e
        · cases e
      · split at e
        · rename_i a ea
          have e2 := strV_eq ea
          subst e2
          have := r1.strE
          subst this
          split at e
          · rename_i b eb
            have e2 := strV_eq eb
            subst e2
            have := r2.strE
            subst this
            split at e
            · rename_i hm
              simp only [Option.some.injEq] at e
              exact op_add_str pins s σ H _ _ v u Q I rx ry ⟨a, b, rfl, rfl, ble_line hm, done (d := .str (a ++ b)) rfl e.symm⟩
            · cases e
          · cases e
        · cases e
    · cases e

/-- two expressions, then an operation on the values -/
theorem two_ok {f : Value → Value → Sem Value} {m : Val → Val → Hs → Option Val} {ma mb : Ev1} :
    ∀ σ H Q, rdE K (fun ρ h => match ma ρ h with
      | none => none
      | some (x, h1) => match mb ρ h1 with
        | none => none
        | some (y, h2) => match m x y h2 with
          | none => none
          | some v => some (v, h2)) σ H Q → tOp (rV2 K m) (rdE K ma) (rdE K mb) σ H Q := by
  rintro σ H Q ⟨ρ, h, ι, av, v, h', sim, re, e, k⟩
  cases e1 : ma ρ h with
  | none => simp [e1] at e
  | some q1 =>
    obtain ⟨x, h1⟩ := q1
    simp only [e1] at e
    cases e2 : mb ρ h1 with
    | none => simp [e2] at e
    | some q2 =>
      obtain ⟨y, h2⟩ := q2
      simp only [e2] at e
      cases e3 : m x y h2 with
      | none => simp [e3] at e
      | some w =>
        simp only [e3, Option.some.injEq, Prod.mk.injEq] at e
        obtain ⟨rfl, rfl⟩ := e
        refine ⟨ρ, h, ι, av, x, h1, sim, re, e1, fun ι1 av1 H1 u1 p1 r1 => ?_⟩
        refine ⟨ρ, h1, ι1, av1, y, h2, p1.sim, p1.stp.repE sim.sub re, e2, fun ι2 av2 H2 u2 p2 r2 => ?_⟩
        refine ⟨h2, ι2, av2, x, y, w, p2.sim, (p2.stp.repR p1.sim.sub r1).any, r2.any, e3, fun av3 H3 u3 p3 r3 => ?_⟩
        exact k ι2 av3 H3 u3 ((p1.trans p2).trans p3) (r3.back (p1.trans p2).stp)
end
end MP

/-! ## EngF.lean -/
set_option Elab.async false
set_option linter.all false
set_option maxRecDepth 100000
namespace MP
open PySem PySem.Spec PyProof.Rows L2
mutual
theorem okD_lay : ∀ d : D, okD d = true → (toPy d).canLay0 = true
  | .non, _ => rfl
  | .bl _, _ => rfl
  | .int _, _ => rfl
  | .str _, h => h
  | .tup xs, h => okDs_lay xs h
  | .lst xs, h => okDs_lay xs h
  | .rep _, h => by simp [okD] at h
  | .scr _, h => by simp [okD] at h
theorem okDs_lay : ∀ d : List D, okDs d = true → PyData.canLayAll0 (toPys d) = true
  | [], _ => rfl
  | x :: xs, h => by
    simp only [okDs, Bool.and_eq_true] at h
    simp only [toPys, PyData.canLayAll0, Bool.and_eq_true]
    exact ⟨okD_lay x h.1, okDs_lay xs h.2⟩
end
theorem ints_depth : ∀ ns : List Int, PyData.depthAll (ns.map PyData.int) = 0
  | [] => rfl
  | n :: ns => by simp [PyData.depthAll, PyData.depth, ints_depth ns]
mutual
theorem depD_ok : ∀ d : D, (toPy d).depth = depD d
  | .non => rfl
  | .bl _ => rfl
  | .int _ => rfl
  | .str _ => rfl
  | .tup xs => by simp only [toPy, PyData.depth, depD, depDs_ok xs]
  | .lst xs => by simp only [toPy, PyData.depth, depD, depDs_ok xs]
  | .rep _ => rfl
  | .scr ns => by simp only [toPy, PyData.depth, depD, ints_depth ns]
theorem depDs_ok : ∀ d : List D, PyData.depthAll (toPys d) = depDs d
  | [] => rfl
  | x :: xs => by
    simp only [toPys, PyData.depthAll, depDs, depD_ok x, depDs_ok xs]
end
theorem shpD_ok {d : D} (h : shpD d = true) : SeqAt.shaped (toPy d) = true := by
  unfold shpD at h
  simp only [Bool.and_eq_true] at h
  unfold SeqAt.shaped
  rw [Bool.and_eq_true]
  refine ⟨okD_lay d h.1, decide_eq_true ?_⟩
  rw [depD_ok]
  have := Nat.le_of_ble_eq_true h.2
  omega
section
variable {K : PySem.W.Frag} {H H0 H1 H2 H' : Hp} {av av' av1 av2 : Av} {ι ι' ι1 ι2 : List Addr} {h h' h1 h2 : Hs} {σ : L2.St} {ρ : Env'} {X : Cx}
theorem txtD_ok {d : D} {u : V} (h : txtD d = true) (r : RepD K H av d u) : ∃ x, u = .str x ∧ toPy d = .str x := by
  cases d with
  | str x => exact ⟨x, r, rfl⟩
  | rep d => exact ⟨_, r, rfl⟩
  | _ => simp [txtD] at h
/-- == of two values -/
theorem eqV_ok {pins : List (Addr × Obj)} {s : Shared} {x y : V} {v u : Value} {Q : VK} {vx vy : Val} {b : Bool} {neg : Bool} (hu : X.A.units + 64 < cLine) (I : Inv X pins σ H s) (rx : RelV x v) (ry : RelV y u)
    (sim : SimH X.K h ι av H) (r1 : RepR X.K H_0 ι av H vx x) (r2 : RepR X.K H_0 ι av H vy y) (e : eqV vx vy h = some b) (q : Q (.bl (if neg then !b else b)) H) :
    wpAny (model X.prog X.w) X.A (compareOp (if neg then .NotEq else .Eq) v u) (EP X pins σ Q) X.xe s := by
  unfold eqV at e
  split at e
  · rename_i a ea
    split at e
    · rename_i c ec
      have d1 := datD_ok sim r1 ea
      have d2 := datD_ok sim r2 ec
      split at e
      · rename_i hm
        have pe := pyEq_ok a c b e
        rw [Bool.or_eq_true, Bool.and_eq_true, Bool.and_eq_true] at hm
        rcases hm with ⟨h1, h2⟩ | ⟨h1, h2⟩
        · obtain ⟨x1, rfl, p1⟩ := txtD_ok h1 d1
          obtain ⟨x2, rfl, p2⟩ := txtD_ok h2 d2
          rw [p1, p2] at pe
          have pe' : (x1 == x2) = b := pe
          have e2 : decide (V.str x1 = V.str x2) = b := by rw [dec_str]; exact pe'
          cases neg with
          | false => exact op_eq pins s σ H _ _ v u Q I rx ry ⟨rfl, by rw [e2]; exact q⟩
          | true => exact op_ne pins s σ H _ _ v u Q I rx ry ⟨rfl, by rw [e2]; exact q⟩
        · cases neg with
          | false => exact op_eqD hu pins s σ H _ _ v u Q I rx ry ⟨_, _, RepD.dp _ _ d1, RepD.dp _ _ d2, shpD_ok h1, shpD_ok h2, by rw [pe]; exact q⟩
          | true => exact op_neD hu pins s σ H _ _ v u Q I rx ry ⟨_, _, RepD.dp _ _ d1, RepD.dp _ _ d2, shpD_ok h1, shpD_ok h2, by rw [pe]; exact q⟩
      · cases e
    · cases e
  · cases e
theorem isN_ok {v : Val} {u : V} (r : RepR K H_0 ι av H v u) : isN v = decide (u = .non) := by
  cases v with
  | p d =>
    cases d with
    | non => have : u = .non := r; subst this; rfl
    | bl b => have : u = .bl b := r; subst this; rfl
    | int i => have : u = .int i := r; subst this; rfl
    | str x => have : u = .str x := r; subst this; rfl
    | rep d => have : u = .str (toPy d).shown := r; subst this; rfl
    | tup xs => obtain ⟨a, vs, rfl, _⟩ := r; rfl
    | lst xs => obtain ⟨a, vs, rfl, _⟩ := r; rfl
    | scr xs => obtain ⟨a, rfl, _⟩ := r; rfl
  | loc n => obtain ⟨a, _, rfl⟩ := r; rfl
  | new xs => obtain ⟨a, vs, rfl, _⟩ := r; rfl
theorem cmpI_eq {f : Int → Int → Bool} {vx vy : Val} {x y : V} {b : Bool} (r1 : RepR K H_0 ι av H vx x) (r2 : RepR K H_0 ι av H vy y) (e : cmpI f vx vy = some b) : ∃ i j, x = .int i ∧ y = .int j ∧ f i j = b := by
  unfold cmpI at e
  split at e
  · rename_i i ei
    split at e
    · rename_i j ej
      simp only [Option.some.injEq] at e
      rw [intV_eq ei] at r1
      rw [intV_eq ej] at r2
      exact ⟨i, j, r1.intE, r2.intE, e⟩
    · cases e
  · cases e
theorem intsOf_eq : ∀ {xs : List D} {is : List Int}, intsOf xs = some is → xs = is.map D.int
  | [], is, e => by simp [intsOf] at e; subst e; rfl
  | x :: xs, is, e => by
    cases x <;> simp only [intsOf, reduceCtorEq] at e
    split at e
    · cases e
    · rename_i is' ei
      simp only [Option.some.injEq] at e
      subst e
      rw [intsOf_eq ei]
      rfl
theorem blsOf_eq : ∀ {xs : List D} {is : List Bool}, blsOf xs = some is → xs = is.map D.bl
  | [], is, e => by simp [blsOf] at e; subst e; rfl
  | x :: xs, is, e => by
    cases x <;> simp only [blsOf, reduceCtorEq] at e
    split at e
    · cases e
    · rename_i is' ei
      simp only [Option.some.injEq] at e
      subst e
      rw [blsOf_eq ei]
      rfl
theorem tupI_eq {v : Val} {is : List Int} {u : V} (e : tupI v = some is) (r : RepR K H_0 ι av H v u) : ∃ a, u = .ref a ∧ SqT K H a (is.map V.int) := by
  unfold tupI at e
  split at e
  · rename_i xs
    rw [intsOf_eq e] at r
    obtain ⟨a, vs, rfl, q, _, rv⟩ := r
    rw [RepDs.ints rv] at q
    exact ⟨a, rfl, q.sq⟩
  · cases e
theorem inDs_ok {d : D} : ∀ {ds : List D} {b : Bool}, inV'.inDs d ds = some b → ((toPys ds).any fun z => PyData.eqv z (toPy d)) = b
  | [], b, e => by simp [inV'.inDs] at e; subst e; rfl
  | x :: xs, b, e => by
    simp only [inV'.inDs] at e
    split at e
    · cases e
    · rename_i b1 e1
      split at e
      · cases e
      · rename_i c e2
        simp only [Option.some.injEq] at e
        simp only [toPys, List.any_cons, pyEq_ok _ _ _ e1, inDs_ok e2, e]
theorem op_cmp (hu : X.A.units + 65 < cLine) (o : CmpOp) : OpR X (compareOp o) (rV2 X.K (cmpW o)) := by
  intro pins s σ H x y v u Q I rx ry hh
  obtain ⟨h, ι, av, vx, vy, w, sim, r1, r2, e, k⟩ := hh
  unfold cmpW at e
  split at e
  · cases e
  · rename_i b eb
    simp only [Option.some.injEq] at e
    subst e
    have q : Q (.bl b) H := k av H _ (.refl sim) rfl
    have fin : ∀ c, c = b → Q (.bl c) H := fun c z => by rw [z]; exact q
    cases o <;> simp only [cmpV] at eb
    · exact eqV_ok (neg := false) (by omega) I rx ry sim r1 r2 eb q
    · split at eb
      · rename_i c ec
        simp only [Option.some.injEq] at eb
        exact eqV_ok (neg := true) (by omega) I rx ry sim r1 r2 ec (fin _ (by simpa using eb))
      · cases eb
    · unfold ltV at eb
      split at eb
      · rename_i i ei
        split at eb
        · rename_i j ej
          simp only [Option.some.injEq] at eb
          rw [intV_eq ei] at r1
          rw [intV_eq ej] at r2
          exact op_lt pins s σ H _ _ v u Q I rx ry ⟨i, j, r1.intE, r2.intE, fin _ eb⟩
        · cases eb
      · split at eb
        · rename_i a ea
          split at eb
          · rename_i c ec
            simp only [Option.some.injEq] at eb
            obtain ⟨p1, rfl, s1⟩ := tupI_eq ea r1
            obtain ⟨p2, rfl, s2⟩ := tupI_eq ec r2
            exact op_ltT (by omega) pins s σ H _ _ v u Q I rx ry ⟨p1, p2, a, c, rfl, rfl, s1, s2, fin _ eb⟩
          · cases eb
        · cases eb
    · obtain ⟨i, j, rfl, rfl, e⟩ := cmpI_eq r1 r2 eb
      exact op_le pins s σ H _ _ v u Q I rx ry ⟨i, j, rfl, rfl, fin _ e⟩
    · obtain ⟨i, j, rfl, rfl, e⟩ := cmpI_eq r1 r2 eb
      exact op_gt pins s σ H _ _ v u Q I rx ry ⟨i, j, rfl, rfl, fin _ e⟩
    · obtain ⟨i, j, rfl, rfl, e⟩ := cmpI_eq r1 r2 eb
      exact op_ge pins s σ H _ _ v u Q I rx ry ⟨i, j, rfl, rfl, fin _ e⟩
    · split at eb
      · rename_i hn
        simp only [Option.some.injEq] at eb
        rw [isN_ok r2] at hn
        exact op_isN pins s σ H _ _ v u Q I rx ry ⟨of_decide_eq_true hn, fin _ (by rw [← eb, isN_ok r1])⟩
      · cases eb
    · split at eb
      · rename_i hn
        simp only [Option.some.injEq] at eb
        rw [isN_ok r2] at hn
        exact op_notN pins s σ H _ _ v u Q I rx ry ⟨of_decide_eq_true hn, fin _ (by rw [← eb, isN_ok r1])⟩
      · cases eb
    · unfold inV' at eb
      split at eb
      · rename_i d ed
        split at eb
        · rename_i ds es
          split at eb
          · rename_i hm
            rw [Bool.and_eq_true] at hm
            have d1 := datD_ok sim r1 ed
            obtain ⟨a, vs, rfl, rv, _, hl⟩ := seqD_ok sim r2 es
            exact op_inD hu pins s σ H _ _ v u Q I rx ry ⟨toPy d, toPys ds, RepD.dp _ _ d1, .lst (.of (hl rfl)) (RepDs.dp _ _ rv), shpD_ok hm.1, shpD_ok (d := .lst ds) hm.2, fin _ (inDs_ok eb)⟩
          · cases eb
        · cases eb
      · cases eb
    · split at eb
      · rename_i c ec
        simp only [Option.some.injEq] at eb
        unfold inV' at ec
        split at ec
        · rename_i d ed
          split at ec
          · rename_i ds es
            split at ec
            · rename_i hm
              rw [Bool.and_eq_true] at hm
              have d1 := datD_ok sim r1 ed
              obtain ⟨a, vs, rfl, rv, _, hl⟩ := seqD_ok sim r2 es
              exact op_notInD hu pins s σ H _ _ v u Q I rx ry ⟨toPy d, toPys ds, RepD.dp _ _ d1, .lst (.of (hl rfl)) (RepDs.dp _ _ rv), shpD_ok hm.1, shpD_ok (d := .lst ds) hm.2, fin _ (by rw [inDs_ok ec]; exact eb)⟩
            · cases ec
          · cases ec
        · cases ec
      · cases eb
end
end MP

/-! ## EngG.lean -/
set_option Elab.async false
set_option linter.all false
set_option maxRecDepth 100000
namespace MP
open PySem PySem.Spec PyProof.Rows L2
section
variable {K : PySem.W.Frag} {H H0 H1 H2 H' : Hp} {av av' av1 av2 : Av} {ι ι' ι1 ι2 : List Addr} {h h' h1 h2 : Hs} {σ : L2.St} {ρ : Env'} {X : Cx}
theorem atI_rep {xs : List D} {vs : List V} {i : Int} {d : D} (r : RepDs K H av xs vs) (e : atI xs i = some d) : ∃ v, atI vs i = some v ∧ RepD K H av d v := by
  unfold atI at e ⊢
  rw [r.length]
  cases q : ixN xs.length i with
  | none => rw [q] at e; cases e
  | some j =>
    rw [q] at e
    exact r.get e
theorem atI_map {α β : Type} {f : α → β} {xs : List α} {i : Int} {d : α} (e : atI xs i = some d) : atI (xs.map f) i = some (f d) := by
  unfold atI at e ⊢
  rw [List.length_map]
  cases q : ixN xs.length i with
  | none => rw [q] at e; cases e
  | some j =>
    rw [q] at e
    have e : xs[j]? = some d := e
    show (xs.map f)[j]? = _
    rw [List.getElem?_map, e]
    rfl
theorem paired_at {α β : Type} {F : α → β → Prop} : ∀ {xs : List α} {ys : List β} {j : Nat} {x : α}, Paired F xs ys → xs[j]? = some x → ∃ y, ys[j]? = some y ∧ F x y
  | _, _, _, _, .nil, e => by simp at e
  | _, _, 0, _, .cons r _, e => by simp at e; subst e; exact ⟨_, rfl, r⟩
  | _, _, j + 1, _, .cons _ t, e => by
    obtain ⟨y, h1, h2⟩ := paired_at (j := j) t (by simpa using e)
    exact ⟨y, by simpa using h1, h2⟩
theorem paired_len {α β : Type} {F : α → β → Prop} : ∀ {xs : List α} {ys : List β}, Paired F xs ys → xs.length = ys.length
  | _, _, .nil => rfl
  | _, _, .cons _ t => by simp [paired_len t]
theorem ix_sub : IxR X (rV2 X.K subV) := by
  intro value slice pins s σ H x y v u Q I rx ry hh hs
  obtain ⟨h, ι, av, vx, vy, w, sim, r1, r2, e, k⟩ := hh
  have fin : ∀ {z : V}, RepR X.K H ι av H w z → Q z H := fun {z} r => k av H z (.refl sim) r
  unfold subV at e
  split at e
  · cases e
  · rename_i i ei
    rw [intV_eq ei] at r2
    have := r2.intE
    subst this
    cases vx with
    | new xs =>
      simp only at e
      split at e
      · rename_i d ed
        simp only [Option.some.injEq] at e
        subst e
        obtain ⟨a, vs, rfl, _, q, _, _, rv⟩ := r1
        obtain ⟨z, q1, q2⟩ := atI_rep rv ed
        exact ix_list value slice pins s σ H _ _ v u Q I rx ry ⟨a, vs, i, z, rfl, rfl, .of q, q1, fin q2⟩ hs
      · cases e
    | loc n =>
      simp only at e
      obtain ⟨a, q, rfl⟩ := r1
      split at e
      · rename_i kk xs eo
        split at e
        · rename_i d ed
          simp only [Option.some.injEq] at e
          subst e
          obtain ⟨a', vs, q3, q4, rv⟩ := sim.ob n _ eo nofun
          rw [q] at q3; cases q3
          obtain ⟨z, q1, q2⟩ := atI_rep rv ed
          exact ix_list value slice pins s σ H _ _ v u Q I rx ry ⟨a, vs, i, z, rfl, rfl, .of q4, q1, fin q2⟩ hs
        · cases e
      · rename_i kk ns eo
        split at e
        · rename_i m em
          simp only [Option.some.injEq] at e
          subst e
          obtain ⟨a', vs, q3, q4, rv⟩ := sim.ob n _ eo nofun
          rw [q] at q3; cases q3
          unfold atI at em
          cases ej : ixN ns.length i with
          | none => rw [ej] at em; cases em
          | some j =>
            rw [ej] at em
            obtain ⟨z, q1, b, q2, rfl⟩ := paired_at rv (show ns[j]? = some m from em)
            refine ix_list value slice pins s σ H _ _ v u Q I rx ry ⟨a, vs, i, .ref b, rfl, rfl, .of q4, ?_, fin ⟨b, q2, rfl⟩⟩ hs
            unfold atI
            rw [← paired_len rv, ej]
            exact q1
        · cases e
      · cases e
    | p d =>
      cases d with
      | scr ns =>
        simp only at e
        split at e
        · rename_i d ed
          simp only [Option.some.injEq] at e
          subst e
          obtain ⟨a, rfl, q⟩ := r1
          exact ix_list value slice pins s σ H _ _ v u Q I rx ry ⟨a, _, i, .int d, rfl, rfl, sqL_of q, atI_map ed, fin rfl⟩ hs
        · cases e
      | tup xs =>
        simp only at e
        split at e
        · rename_i d ed
          simp only [Option.some.injEq] at e
          subst e
          obtain ⟨a, vs, rfl, q, _, rv⟩ := r1
          obtain ⟨z, q1, q2⟩ := atI_rep rv ed
          exact ix_tup value slice pins s σ H _ _ v u Q I rx ry ⟨a, vs, i, z, rfl, rfl, q.sq, q1, fin q2⟩ hs
        · cases e
      | lst xs =>
        simp only at e
        split at e
        · rename_i d ed
          simp only [Option.some.injEq] at e
          subst e
          obtain ⟨a, vs, rfl, q, _, rv⟩ := r1
          obtain ⟨z, q1, q2⟩ := atI_rep rv ed
          exact ix_list value slice pins s σ H _ _ v u Q I rx ry ⟨a, vs, i, z, rfl, rfl, .of q, q1, fin q2⟩ hs
        · cases e
      | str z =>
        simp only at e
        split at e
        · rename_i c ec
          split at e
          · rename_i hm
            simp only [Option.some.injEq] at e
            subst e
            have := r1.strE
            subst this
            exact ix_str value slice pins s σ H _ _ v u Q I rx ry ⟨z, i, c, rfl, rfl, ble_line hm, ec, fin rfl⟩ hs
          · cases e
        · cases e
      | _ => cases e

/-! ### slices -/
def rSV (K : PySem.W.Frag) : V → Option Int → Option Int → Hp → VK → Prop := fun x lo hi H Q => ∃ h ι av vx v, SimH K h ι av H ∧ RepR K H_0 ι av H vx x ∧ slV vx lo hi h = some v ∧
  ∀ av' H' u, Pst K ι av H h ι av' H' h → RepR K H ι av' H' v u → Q u H'
theorem cut_rep {xs : List D} {vs : List V} (r : RepDs K H av xs vs) (lo hi : Option Int) : RepDs K H av (cutD xs lo hi) (cutV vs lo hi) := by
  unfold cutD cutV
  rw [r.length]
  exact RepDs.take _ (RepDs.drop _ r)
theorem cut_len {xs : List D} {lo hi : Option Int} (h1 : HT.sIx xs.length 0 lo = 0) (h2 : HT.sIx xs.length xs.length hi = xs.length) : cutD xs lo hi = xs := by
  unfold cutD
  simp only [cutAt]
  rw [h1, h2]
  simp
theorem cut_map {ns : List Int} {lo hi : Option Int} : cutV (ns.map V.int) lo hi = (cutD ns lo hi).map V.int := by
  unfold cutD cutV
  rw [List.length_map, List.map_take, List.map_drop]
theorem sl_ok : SlR X (rSV X.K) := by
  intro pins s σ H x v vl vu lo hi sl Q I rx hs pl pu hh
  obtain ⟨h, ι, av, vx, w, sim, r1, e, k⟩ := hh
  have lst : ∀ {a : Addr} {vs : List V} {xs : List D}, x = .ref a → SqL X.K H a vs → RepDs X.K H av (cutD xs lo hi) (cutV vs lo hi) → w = .new (cutD xs lo hi) →
      ∃ T id, typeLookup (.type T) "__getitem__" = pure (some (.builtin id)) ∧ s.TypeIs v T ∧ wpAny (model X.prog X.w) X.A (getItem v (.ref sl)) (EP X pins σ Q) X.xe s := fun {a vs xs} ex q rv ew => by
    refine sl_list pins s σ H x v vl vu lo hi sl Q I rx hs pl pu ⟨a, vs, ex, q, fun p hp => ?_⟩
    obtain ⟨p1, p2⟩ := Pst.newLst sim hp rv
    exact k _ _ _ p1 (by rw [ew]; exact p2)
  unfold slV at e
  split at e
  · rename_i ns
    simp only [Option.some.injEq] at e
    obtain ⟨a, rfl, q⟩ := r1
    refine sl_list pins s σ H _ v vl vu lo hi sl Q I rx hs pl pu ⟨a, _, rfl, sqL_of q, fun p hp => ?_⟩
    rw [cut_map]
    obtain ⟨p1, p2⟩ := Pst.newLst sim hp (RepDs.ofInts (K := X.K) (H := H) (av := av) (cutD ns lo hi))
    exact k _ _ _ p1 (by rw [← e]; exact p2)
  · split at e
    · rename_i xs es
      simp only [Option.some.injEq] at e
      obtain ⟨a, vs, rfl, rv, hl, _⟩ := seqD_ok sim r1 es
      have ev : vx = .p (.tup xs) := by
        cases vx with
        | p d => cases d <;> simp [seqD] at es; rw [es]
        | new xs => simp [seqD] at es
        | loc n =>
          simp only [seqD] at es
          split at es <;> cases es
      refine sl_tupN pins s σ H _ v vl vu lo hi sl Q I rx hs pl pu ⟨a, vs, rfl, (hl rfl).sq, fun z => ?_, fun _ p o hp hd => ?_⟩
      · rw [rv.length] at z
        rw [cut_len z.1 z.2] at e
        exact k av H _ (.refl sim) (by rw [← e]; rw [ev] at r1; exact r1)
      · obtain ⟨p1, p2⟩ := Pst.newTup sim hp (cut_rep rv lo hi) hd
        exact k _ _ _ p1 (by rw [← e]; exact p2)
    · rename_i xs es
      simp only [Option.some.injEq] at e
      obtain ⟨a, vs, rfl, rv, _, hl⟩ := seqD_ok sim r1 es
      exact lst rfl (.of (hl rfl)) (cut_rep rv lo hi) e.symm
    · cases e

/-! ### truth -/
theorem tru_V {v : Val} {u : V} {b : Bool} (s : SimH K h ι av H) (r : RepR K H0 ι av H v u) (e : truV h v = some b) : TruV K u H b := by
  have sq : ∀ {xs : List D}, seqD h v = some (false, xs) → b = !xs.isEmpty → TruV K u H b := fun {xs} es eb => by
    obtain ⟨a, vs, rfl, rv, _, hl⟩ := seqD_ok s r es
    refine .inl ⟨vs, .of (hl rfl), ?_⟩
    rw [eb]
    cases xs with
    | nil => cases rv; rfl
    | cons x xs => obtain ⟨_, _, rfl, _⟩ := rv; rfl
  cases v with
  | p d =>
    cases d with
    | non => simp [truV] at e; subst e; cases r; rfl
    | bl b => simp [truV] at e; subst e; cases r; rfl
    | int i =>
      simp only [truV, Option.some.injEq] at e
      subst e
      cases r
      show decide (i ≠ 0) = (i != 0)
      by_cases z : i = 0 <;> simp [z]
    | tup xs =>
      simp only [truV, Option.some.injEq] at e
      obtain ⟨a, vs, rfl, q, _, rv⟩ := r
      refine .inr (.inl ⟨vs, q.sq, ?_⟩)
      rw [← e]
      cases xs with
      | nil => cases rv; rfl
      | cons x xs => obtain ⟨_, _, rfl, _⟩ := rv; rfl
    | _ =>
      simp only [truV] at e
      split at e
      · rename_i xs es
        exact sq es (by simpa using e.symm)
      · cases e
  | new xs =>
    simp only [truV] at e
    split at e
    · rename_i xs es
      exact sq es (by simpa using e.symm)
    · cases e
  | loc n =>
    simp only [truV] at e
    split at e
    · rename_i xs es
      exact sq es (by simpa using e.symm)
    · cases e
/-! ### xs[::-1] -/
theorem RepDs.rev : ∀ {xs : List D} {vs : List V}, RepDs K H av xs vs → RepDs K H av xs.reverse vs.reverse
  | [], _, h => by cases h; rfl
  | x :: xs, _, h => by
    obtain ⟨v, r, rfl, h1, h2⟩ := h
    rw [List.reverse_cons, List.reverse_cons]
    exact RepDs.append (RepDs.rev h2) ⟨v, [], rfl, h1, rfl⟩
end
end MP

/-! ## EngGs.lean -/
set_option Elab.async false
set_option linter.all false
set_option maxRecDepth 100000
namespace MP
open PySem PySem.Spec PySem.Calls PyProof.Rows L2
/-! ### sum of a tuple -/
section
variable {X : Cx}
theorem cr_sumT (hc : X.calm = true) : CallR X (.builtin "sum") (fun vs H Q => ∃ (a : Addr) (ns : List Int), vs = [V.ref a] ∧ SqT X.K H a (ns.map V.int) ∧ Q (.int ns.sum) H) := by
  intro pins s σ H vs us Q I r h
  obtain ⟨a, ns, rfl, hs, q⟩ := h
  obtain ⟨its, rv, hl, _⟩ := I.tuple hs
  rw [Vals.ref1 r]
  have hi := rv.ints
  obtain ⟨xs, e⟩ := hi.allInts.items
  have hn : numsOf (intItems xs).toList = ns := by rw [← e]; exact hi.numsOf
  rw [nums_intItems] at hn
  rw [e] at hl
  refine PySem.W.ktm_sumG (I.ok.hd hc) hl fun h' tk t' hk => ?_
  rw [preSum_eq, List.take_of_length_le (by simp), hn]
  exact ⟨.int _, H, I.kept hk, ⟨_, rfl⟩, q⟩
end
/-! ### the order -/
mutual
theorem alk_ok : ∀ a b : D, alkD a b = true → PySem.W.alike (toPy a) (toPy b) = true
  | .int _, .int _, _ => by simp [toPy, PySem.W.alike]
  | .bl _, .bl _, _ => by simp [toPy, PySem.W.alike]
  | .tup xs, .tup ys, h => by simp only [toPy, PySem.W.alike]; exact alks_ok xs ys (by simpa [alkD] using h)
  | .lst xs, .lst ys, h => by simp only [toPy, PySem.W.alike]; exact alks_ok xs ys (by simpa [alkD] using h)
  | .non, b, h => by cases b <;> simp [alkD] at h
  | .str _, b, h => by cases b <;> simp [alkD] at h
  | .rep _, b, h => by cases b <;> simp [alkD] at h
  | .scr _, b, h => by cases b <;> simp [alkD] at h
  | .int _, .non, h => by simp [alkD] at h
  | .int _, .bl _, h => by simp [alkD] at h
  | .int _, .str _, h => by simp [alkD] at h
  | .int _, .tup _, h => by simp [alkD] at h
  | .int _, .lst _, h => by simp [alkD] at h
  | .int _, .rep _, h => by simp [alkD] at h
  | .int _, .scr _, h => by simp [alkD] at h
  | .bl _, .non, h => by simp [alkD] at h
  | .bl _, .int _, h => by simp [alkD] at h
  | .bl _, .str _, h => by simp [alkD] at h
  | .bl _, .tup _, h => by simp [alkD] at h
  | .bl _, .lst _, h => by simp [alkD] at h
  | .bl _, .rep _, h => by simp [alkD] at h
  | .bl _, .scr _, h => by simp [alkD] at h
  | .tup _, .non, h => by simp [alkD] at h
  | .tup _, .int _, h => by simp [alkD] at h
  | .tup _, .str _, h => by simp [alkD] at h
  | .tup _, .bl _, h => by simp [alkD] at h
  | .tup _, .lst _, h => by simp [alkD] at h
  | .tup _, .rep _, h => by simp [alkD] at h
  | .tup _, .scr _, h => by simp [alkD] at h
  | .lst _, .non, h => by simp [alkD] at h
  | .lst _, .int _, h => by simp [alkD] at h
  | .lst _, .str _, h => by simp [alkD] at h
  | .lst _, .bl _, h => by simp [alkD] at h
  | .lst _, .tup _, h => by simp [alkD] at h
  | .lst _, .rep _, h => by simp [alkD] at h
  | .lst _, .scr _, h => by simp [alkD] at h
theorem alks_ok : ∀ a b : List D, alkDs a b = true → PySem.W.alikeAll (toPys a) (toPys b) = true
  | [], b, _ => by simp [toPys, PySem.W.alikeAll]
  | _ :: _, [], _ => by simp [toPys, PySem.W.alikeAll]
  | x :: xs, y :: ys, h => by
    simp only [alkDs, Bool.and_eq_true] at h
    simp only [toPys, PySem.W.alikeAll, alk_ok x y h.1, alks_ok xs ys h.2, Bool.and_self]
end
mutual
theorem eqv_D : ∀ a b : D, alkD a b = true → PyData.eqv (toPy a) (toPy b) = eqD a b
  | .int a, b, h => by cases b <;> simp_all [alkD, toPy, PyData.eqv, eqD]
  | .bl a, b, h => by cases b <;> simp_all [alkD, toPy, PyData.eqv, eqD]
  | .tup xs, b, h => by
    cases b <;> simp_all [alkD, toPy, PyData.eqv, eqD]
    exact eqv_Ds xs _ h
  | .lst xs, b, h => by
    cases b <;> simp_all [alkD, toPy, PyData.eqv, eqD]
    exact eqv_Ds xs _ h
  | .non, b, h => by cases b <;> simp [alkD] at h
  | .str _, b, h => by cases b <;> simp [alkD] at h
  | .rep _, b, h => by cases b <;> simp [alkD] at h
  | .scr _, b, h => by cases b <;> simp [alkD] at h
theorem eqv_Ds : ∀ a b : List D, alkDs a b = true → PyData.eqvAll (toPys a) (toPys b) = eqDs a b
  | [], [], _ => by simp [toPys, PyData.eqvAll, eqDs]
  | [], _ :: _, _ => by simp [toPys, PyData.eqvAll, eqDs]
  | _ :: _, [], _ => by simp [toPys, PyData.eqvAll, eqDs]
  | x :: xs, y :: ys, h => by
    simp only [alkDs, Bool.and_eq_true] at h
    simp only [toPys, PyData.eqvAll, eqv_D x y h.1, eqv_Ds xs ys h.2, eqDs]
end
mutual
theorem lt_D : ∀ a b : D, alkD a b = true → PySem.W.dataLt (toPy a) (toPy b) = ltD a b
  | .int a, b, h => by
    cases b <;> simp_all [alkD, toPy, ltD]
    exact PySem.W.dataLt_int _ _
  | .bl a, b, h => by
    cases b <;> simp_all [alkD, toPy, ltD]
    rename_i b
    rw [PySem.W.dataLt_bool]
    cases a <;> cases b <;> decide
  | .tup xs, b, h => by
    cases b <;> simp_all [alkD, toPy, ltD]
    rw [PySem.W.dataLt_tuple]
    exact lt_Ds xs _ h
  | .lst xs, b, h => by
    cases b <;> simp_all [alkD, toPy, ltD]
    rw [PySem.W.dataLt_list]
    exact lt_Ds xs _ h
  | .non, b, h => by cases b <;> simp [alkD] at h
  | .str _, b, h => by cases b <;> simp [alkD] at h
  | .rep _, b, h => by cases b <;> simp [alkD] at h
  | .scr _, b, h => by cases b <;> simp [alkD] at h
theorem lt_Ds : ∀ a b : List D, alkDs a b = true → PyProof.Rows.lexLt itemOrd (PySem.W.keyToksAll (toPys a)) (PySem.W.keyToksAll (toPys b)) = ltDs a b
  | [], [], _ => by simp [toPys, PySem.W.keyToksAll, ltDs, PyProof.Rows.lexLt, itemOrd, itemLt]
  | [], _ :: _, _ => by simp [toPys, PySem.W.keyToksAll, ltDs, PyProof.Rows.lexLt, itemOrd, itemLt]
  | _ :: _, [], _ => by simp [toPys, PySem.W.keyToksAll, ltDs, PyProof.Rows.lexLt, itemOrd, itemLt]
  | x :: xs, y :: ys, h => by
    simp only [alkDs, Bool.and_eq_true] at h
    simp only [toPys]
    rw [PySem.W.dataLt_cons (alk_ok x y h.1), eqv_D x y h.1, lt_D x y h.1, lt_Ds xs ys h.2]
    rfl
end
/-! sorting by insertion is the sort -/
theorem insB_permG {α : Type} (le : α → α → Bool) (x : α) : ∀ ys : List α, (insB le x ys).Perm (x :: ys)
  | [] => .refl _
  | y :: ys => by
    unfold insB
    split
    · exact .refl _
    · exact (List.Perm.cons y (insB_permG le x ys)).trans (List.Perm.swap x y ys)
theorem sortB_permG {α : Type} (le : α → α → Bool) : ∀ xs : List α, (sortB le xs).Perm xs
  | [] => .refl _
  | x :: xs => (insB_permG le x _).trans (List.Perm.cons x (sortB_permG le xs))
theorem insB_cg {α : Type} {r s : α → α → Bool} (x : α) : ∀ ys : List α, (∀ a ∈ ys, r x a = s x a) → insB r x ys = insB s x ys
  | [], _ => rfl
  | y :: ys, h => by
    unfold insB
    rw [h y List.mem_cons_self, insB_cg x ys fun a m => h a (List.mem_cons_of_mem _ m)]
theorem sortB_cg {α : Type} {r s : α → α → Bool} : ∀ xs : List α, (∀ a ∈ xs, ∀ b ∈ xs, r a b = s a b) → sortB r xs = sortB s xs
  | [], _ => rfl
  | x :: xs, h => by
    simp only [sortB]
    rw [sortB_cg xs fun a m b n => h a (List.mem_cons_of_mem _ m) b (List.mem_cons_of_mem _ n)]
    exact insB_cg x _ fun a m => h x List.mem_cons_self a (List.mem_cons_of_mem _ ((sortB_permG s xs).mem_iff.mp m))
theorem insB_srtG {α : Type} {le : α → α → Bool} (h : PySem.W.TotalLe le) (x : α) : ∀ ys : List α, ys.Pairwise (fun a b => le a b = true) → (insB le x ys).Pairwise (fun a b => le a b = true)
  | [], _ => by simp [insB]
  | y :: ys, p => by
    rw [List.pairwise_cons] at p
    unfold insB
    split
    · rename_i e
      refine List.pairwise_cons.mpr ⟨fun z m => ?_, List.pairwise_cons.mpr p⟩
      rcases List.mem_cons.mp m with rfl | m
      · exact e
      · exact h.trans _ _ _ e (p.1 z m)
    · rename_i e
      refine List.pairwise_cons.mpr ⟨fun z m => ?_, insB_srtG h x ys p.2⟩
      rcases List.mem_cons.mp ((insB_permG le x ys).mem_iff.mp m) with rfl | m
      · exact (h.total y z).resolve_right (by rw [e]; simp)
      · exact p.1 z m
theorem sortB_srtG {α : Type} {le : α → α → Bool} (h : PySem.W.TotalLe le) : ∀ xs : List α, (sortB le xs).Pairwise (fun a b => le a b = true)
  | [] => List.Pairwise.nil
  | x :: xs => insB_srtG h x _ (sortB_srtG h xs)
theorem sortB_eq {α : Type} {le : α → α → Bool} (h : PySem.W.TotalLe le) (xs : List α) (as : ∀ a ∈ xs, ∀ b ∈ xs, le a b = true → le b a = true → a = b) : xs.mergeSort le = sortB le xs := by
  have pm : (xs.mergeSort le).Perm (sortB le xs) := (List.mergeSort_perm xs le).trans (sortB_permG le xs).symm
  refine pm.eq_of_pairwise (le := fun a b => le a b = true) (fun x y m n h1 h2 => as x ((List.mergeSort_perm xs le).mem_iff.mp m) y ((sortB_permG le xs).mem_iff.mp n) h1 h2) (PySem.W.sort_pairwise h xs) (sortB_srtG h xs)
theorem sortOk_spec {ds : List D} (h : sortOk ds = true) : (∀ a ∈ ds, ∀ b ∈ ds, alkD a b = true) ∧ ((∀ a ∈ ds, isNeT a = true) ∨ ∀ a ∈ ds, isNoT a = true) ∧ depDs ds ≤ 60 ∧ ds.length ≤ line := by
  unfold sortOk at h
  simp only [Bool.and_eq_true, Bool.or_eq_true, List.all_eq_true] at h
  exact ⟨h.1, h.2.1, Nat.le_of_ble_eq_true h.2.2.1, Nat.le_of_ble_eq_true h.2.2.2⟩
theorem le_D {ds : List D} (h : sortOk ds = true) (rev : Bool) : ∀ a ∈ ds, ∀ b ∈ ds, PySem.W.dataLe rev toPy a b = cond rev (leD b a) (leD a b) := by
  intro a ma b mb
  have k := (sortOk_spec h).1
  rw [PySem.W.dataLe_eq]
  cases rev
  · show (!PySem.W.dataLt (toPy b) (toPy a)) = leD a b
    rw [lt_D b a (k b mb a ma)]; rfl
  · show (!PySem.W.dataLt (toPy a) (toPy b)) = leD b a
    rw [lt_D a b (k a ma b mb)]; rfl
/-- of one form and neither less: alike -/
theorem tot_D {ds : List D} (h : sortOk ds = true) : ∀ a ∈ ds, ∀ b ∈ ds, leD a b = true → leD b a = true → a = b := by
  intro a ma b mb h1 h2
  have k := (sortOk_spec h).1
  have e1 : PySem.W.dataLt (toPy b) (toPy a) = false := by rw [lt_D b a (k b mb a ma)]; unfold leD at h1; simpa using h1
  have e2 : PySem.W.dataLt (toPy a) (toPy b) = false := by rw [lt_D a b (k a ma b mb)]; unfold leD at h2; simpa using h2
  cases q : PyData.eqv (toPy a) (toPy b) with
  | true =>
    rw [eqv_D a b (k a ma b mb)] at q
    exact (eqD_iff a b).mp q
  | false =>
    -- unlike toks
    exfalso
    have tt := (PySem.W.toks_eqv _ _ (alk_ok a b (k a ma b mb))).2 q
    have e3 := (listOrd itemOrd).total (PySem.W.keyToks (toPy a)) (PySem.W.keyToks (toPy b)) e2 e1
    have t1 := tt [] [.inl 1]
    have t2 := tt [.inl 1] []
    rw [e3] at t1 t2
    rw [List.append_nil] at t1 t2
    have r0 : PyProof.Rows.lexLt itemOrd (PySem.W.keyToks (toPy b)) (PySem.W.keyToks (toPy b)) = false := (listOrd itemOrd).irrefl _
    rw [r0] at t1 t2
    have e4 := (listOrd itemOrd).total _ _ t1 t2
    have := congrArg List.length e4
    simp at this
theorem sort_D {ds : List D} (h : sortOk ds = true) : ds.mergeSort (PySem.W.dataLe false toPy) = sortB leD ds := by
  have T : PySem.W.TotalLe (PySem.W.dataLe (β := D) false toPy) := PySem.W.sortLe_total _ _ _
  rw [sortB_eq T ds fun a ma b mb h1 h2 => ?_]
  · exact sortB_cg ds fun a ma b mb => le_D h false a ma b mb
  · rw [le_D h false a ma b mb] at h1
    rw [le_D h false b mb a ma] at h2
    exact tot_D h a ma b mb h1 h2
section
variable {X : Cx} {K : PySem.W.Frag} {H : Hp} {av : Av}
theorem each_of : ∀ {ds : List D} {vs : List V} {us : List Value}, RepDs K H av ds vs → Vals vs us → PySem.W.EachIs (fun (u : Value) (d : D) => ∃ v, RelV v u ∧ RepD K H av d v) us ds
  | [], _, _, r, w => by cases r; cases w; exact .nil
  | d :: ds, _, _, r, w => by
    obtain ⟨v, vs, rfl, r1, r2⟩ := r
    cases w with
    | cons w1 w2 => exact .cons ⟨v, w1, r1⟩ (each_of r2 w2)
theorem of_each : ∀ {ds : List D} {us : List Value}, PySem.W.EachIs (fun (u : Value) (d : D) => ∃ v, RelV v u ∧ RepD K H av d v) us ds → ∃ vs, RepDs K H av ds vs ∧ Vals vs us
  | _, _, .nil => ⟨[], rfl, .nil⟩
  | _, _, .cons ⟨v, w, r⟩ e => by
    obtain ⟨vs, r2, w2⟩ := of_each e
    exact ⟨v :: vs, ⟨v, vs, rfl, r, r2⟩, .cons w w2⟩
theorem depDs_mem : ∀ {ds : List D} {d : D}, d ∈ ds → depD d ≤ depDs ds
  | x :: xs, d, m => by
    simp only [depDs]
    rcases List.mem_cons.mp m with rfl | m
    · exact Nat.le_max_left _ _
    · exact Nat.le_trans (depDs_mem m) (Nat.le_max_right _ _)
theorem cr_sortedG (hu : X.A.units + 65 < cLine) : CallR X (.builtin "sorted") (fun us H Q => ∃ (a : Addr) (vs : List V) (ds : List D) (av : Av), us = [V.ref a] ∧ H a = some (.lst vs) ∧ RepDs X.K H av ds vs ∧ sortOk ds = true ∧
    ∀ vs' p, RepDs X.K H av (sortB leD ds) vs' → H p = none → Q (.ref p) (upd H p (.lst vs'))) := by
  intro pins s σ H vs us Q I r h
  obtain ⟨a, xs, ds, av, rfl, ha, rv, ok, q⟩ := h
  obtain ⟨its, rv2, hl, hz⟩ := I.list (.of ha)
  rw [Vals.ref1 r]
  obtain ⟨o1, o2, o3, o4⟩ := sortOk_spec ok
  have e := each_of rv rv2
  refine PySem.W.sorted_data (enc := toPy) hl.isList e (e.mono fun u d ⟨v, w, r⟩ => Dp.reads I (toPy d) v u (RepD.dp d v r) w) ?_ ?_ (by rw [← line_eq]; exact o4) (fun d m => ?_) fun out hlen eo => ?_
  · intro d hd d' hd'
    obtain ⟨b, m, rfl⟩ := List.mem_map.mp hd
    obtain ⟨b', m', rfl⟩ := List.mem_map.mp hd'
    exact alk_ok b b' (o1 b m b' m')
  · rcases o2 with o2 | o2
    · refine .inl fun d hd => ?_
      obtain ⟨b, m, rfl⟩ := List.mem_map.mp hd
      have := o2 b m
      match b, this with
      | .tup (x :: r), _ => exact ⟨toPy x, toPys r, by simp only [toPy, toPys]⟩
    · refine .inr fun d hd => ?_
      obtain ⟨b, m, rfl⟩ := List.mem_map.mp hd
      have := o2 b m
      cases b <;> simp [isNoT, toPy] at this ⊢
  · rw [depD_ok]
    have := depDs_mem m
    omega
  · rw [sort_D ok] at eo
    obtain ⟨vs', r', w'⟩ := of_each eo
    obtain ⟨ep, he'⟩ := PyProof.Rows.sortedAll_at s.heap its out.toArray
    have hlv : vs'.length ≤ sizeLine := by
      rw [r'.length, (sortB_permG leD ds).length_eq, ← line_eq]; exact o4
    exact ⟨.ref _, upd H (s.heap.objs.size + 1) (.lst vs'), I.laid (t' := s.toks) (fun _ _ => PyProof.Rows.sortedAll_old) (Nat.le_succ _) ⟨hlv, out, ep, w', he'⟩, rfl, q _ _ r' (I.hok.fresh (Nat.le_succ _))⟩
/-- one item at most: nothing is compared -/
theorem cr_sorted1 : CallR X (.builtin "sorted") (fun us H Q => ∃ (a : Addr) (vs : List V), us = [V.ref a] ∧ H a = some (.lst vs) ∧ vs.length ≤ 1 ∧ ∀ p, H p = none → Q (.ref p) (upd H p (.lst vs))) := by
  intro pins s σ H vs us Q I r h
  obtain ⟨a, xs, rfl, ha, l1, q⟩ := h
  obtain ⟨its, rv, hl, hz⟩ := I.list (.of ha)
  rw [Vals.ref1 r]
  refine SrtO.sorted_ord (ltv := SrtO.ltIv) SrtO.swo_int hl.isList (by rw [← rv.length]; exact hz) (fun h2 => by have := rv.length; omega) fun out h1 h2 => ?_
  have eo : out = its := by
    have pl := h2.perm.length_eq
    have := rv.length
    match its, out, h2.perm with
    | [], out, pm => exact List.Perm.eq_nil pm
    | [x], out, pm => exact List.perm_singleton.mp pm
    | _ :: _ :: _, _, _ => simp at this; omega
  subst eo
  obtain ⟨ep, he'⟩ := PyProof.Rows.sortedAll_at s.heap out out.toArray
  exact ⟨.ref _, upd H (s.heap.objs.size + 1) (.lst xs), I.laid (t' := s.toks) (fun _ _ => PyProof.Rows.sortedAll_old) (Nat.le_succ _) ⟨hz, out, ep, rv, he'⟩, rfl, q _ (I.hok.fresh (Nat.le_succ _))⟩
end
section
variable {X : Cx} {K : PySem.W.Frag} {H : Hp} {av : Av}
theorem bestOk_spec {ds : List D} (h : bestOk ds = true) : (∀ a ∈ ds, ∀ b ∈ ds, alkD a b = true) ∧ depDs ds ≤ 60 := by
  unfold bestOk at h
  simp only [Bool.and_eq_true, List.all_eq_true] at h
  exact ⟨h.1, Nat.le_of_ble_eq_true h.2⟩
theorem toPys_getD : ∀ (ds : List D) (i : Nat), i < ds.length → (toPys ds).getD i .none = toPy (ds.getD i .non)
  | [], _, h => absurd h (Nat.not_lt_zero _)
  | d :: ds, 0, _ => by simp [toPys]
  | d :: ds, i + 1, h => by
    have := toPys_getD ds i (by simpa using h)
    simpa [toPys] using this
theorem repDs_at : ∀ {ds : List D} {vs : List V} {us : List Value}, RepDs K H av ds vs → Vals vs us → ∀ (i : Nat) (u : Value), us[i]? = some u → i < ds.length ∧ ∃ v, RelV v u ∧ RepD K H av (ds.getD i .non) v
  | [], _, _, r, w, i, u, e => by cases r; cases w; simp at e
  | d :: ds, _, _, r, w, i, u, e => by
    obtain ⟨v, vs, rfl, r1, r2⟩ := r
    cases w with
    | cons w1 w2 =>
      cases i with
      | zero => simp at e; subst e; exact ⟨by simp, v, w1, by simpa using r1⟩
      | succ i =>
        obtain ⟨h1, v', h2, h3⟩ := repDs_at r2 w2 i u (by simpa using e)
        exact ⟨by simpa using h1, v', h2, by simpa using h3⟩
theorem getD_mem {ds : List D} {i : Nat} (h : i < ds.length) : ds.getD i .non ∈ ds := by
  rw [List.getD_eq_getElem?_getD, List.getElem?_eq_getElem h]; exact List.getElem_mem _
theorem depAll_ok : ∀ ds : List D, PyData.depthAll (toPys ds) = depDs ds
  | [] => rfl
  | d :: ds => by simp only [toPys, PyData.depthAll, depDs, depD_ok, depAll_ok ds]
theorem toPys_len : ∀ ds : List D, (toPys ds).length = ds.length
  | [] => rfl
  | d :: ds => by simp only [toPys, List.length_cons, toPys_len ds]
theorem toPys_mem : ∀ {ds : List D} {p : PyData}, p ∈ toPys ds → ∃ d ∈ ds, p = toPy d
  | [], _, m => by simp [toPys] at m
  | d :: ds, p, m => by
    rcases List.mem_cons.mp m with rfl | m
    · exact ⟨d, List.mem_cons_self, rfl⟩
    · obtain ⟨e, h, q⟩ := toPys_mem m
      exact ⟨e, List.mem_cons_of_mem _ h, q⟩
theorem alkAll_ok {ds : List D} (h : ∀ a ∈ ds, ∀ b ∈ ds, alkD a b = true) : PySem.W.AlikeAll (toPys ds) := by
  refine ⟨fun x hx y hy => ?_, fun x hx => ?_⟩
  · obtain ⟨a, ma, rfl⟩ := toPys_mem hx
    obtain ⟨b, mb, rfl⟩ := toPys_mem hy
    exact alk_ok a b (h a ma b mb)
  · obtain ⟨a, ma, rfl⟩ := toPys_mem hx
    have := h a ma a ma
    cases a <;> simp [alkD, toPy] at this ⊢
theorem cr_maxG (hc : X.calm = true) (hu : X.A.units + 65 < cLine) : CallR X (.builtin "max") (fun us H Q => ∃ (a : Addr) (vs : List V) (d : D) (ds : List D) (av : Av), us = [V.ref a] ∧ H a = some (.lst vs) ∧ RepDs X.K H av (d :: ds) vs ∧ bestOk (d :: ds) = true ∧
    ∀ v, RepD X.K H av (maxG d ds) v → Q v H) := by
  intro pins s σ H vs us Q I r h
  obtain ⟨a, xs, d, ds, av, rfl, ha, rv, ok, q⟩ := h
  obtain ⟨its, rv2, hl, hz⟩ := I.list (.of ha)
  rw [Vals.ref1 r]
  obtain ⟨o1, o2⟩ := bestOk_spec ok
  obtain ⟨as, rr⟩ := Dp.readsAll I _ _ _ (RepDs.dp _ _ rv) rv2
  have hlen : its.toArray.size = ds.length + 1 := by rw [List.size_toArray, ← rv2.length, rv.length]; rfl
  refine PySem.call_max_walkH (PySem.W.iter_listW (A := X.A.in1) (I.ok.hd hc) hl.isList fun s₂ e W st hfp hw hk => ?_)
  have cm := PySem.W.cmpIn_gt (prog := X.prog) (w := X.w) (A := X.A.in1) (s := s) (vs := its.toArray) (by simpa using rr) (alkAll_ok o1) (by rw [depAll_ok]; show X.A.units + 1 + _ < _; omega)
  have same : ∀ i j, i < (d :: ds).length → j < (d :: ds).length → PySem.W.dataLt ((toPys (d :: ds)).getD j .none) ((toPys (d :: ds)).getD i .none) = ltD ((d :: ds).getD j .non) ((d :: ds).getD i .non) := by
    intro i j hi hj
    rw [toPys_getD _ _ hi, toPys_getD _ _ hj]
    exact lt_D _ _ (o1 _ (getD_mem hj) _ (getD_mem hi))
  refine ⟨_, _, _, _, _, _, _, s.heap, fun i j => ltD ((d :: ds).getD j .non) ((d :: ds).getD i .non), rfl, W, st, hfp, by omega, hw, hk, ?_, fun v s' hP m => ?_⟩
  · intro i j vi vj s' Q' E' k1 hi hj hq
    obtain ⟨l1, _⟩ := repDs_at rv rv2 i vi (by simpa using hi)
    obtain ⟨l2, _⟩ := repDs_at rv rv2 j vj (by simpa using hj)
    refine cm i j vi vj s' Q' E' k1 hi hj ?_
    show Q' (.bool (PySem.W.dataLt _ _)) _
    rw [same i j l1 l2]; exact hq
  · obtain ⟨h', tk, rfl, hk'⟩ := PySem.W.moved_old e rfl m
    obtain ⟨_, v', w', r'⟩ := repDs_at rv rv2 _ v (by rw [List.getElem?_toArray] at hP; exact hP)
    have e1 : its.toArray.size - 1 = ds.length := by omega
    rw [e1, (PySem.W.argBest_fold (fun a b => ltD b a) D.non d ds ds.length (Nat.le_refl _)).2, List.take_length] at r'
    exact ⟨v', H, I.kept hk', w', q v' r'⟩
theorem cr_minG (hc : X.calm = true) (hu : X.A.units + 65 < cLine) : CallR X (.builtin "min") (fun us H Q => ∃ (a : Addr) (vs : List V) (d : D) (ds : List D) (av : Av), us = [V.ref a] ∧ H a = some (.lst vs) ∧ RepDs X.K H av (d :: ds) vs ∧ bestOk (d :: ds) = true ∧
    ∀ v, RepD X.K H av (minG d ds) v → Q v H) := by
  intro pins s σ H vs us Q I r h
  obtain ⟨a, xs, d, ds, av, rfl, ha, rv, ok, q⟩ := h
  obtain ⟨its, rv2, hl, hz⟩ := I.list (.of ha)
  rw [Vals.ref1 r]
  obtain ⟨o1, o2⟩ := bestOk_spec ok
  obtain ⟨as, rr⟩ := Dp.readsAll I _ _ _ (RepDs.dp _ _ rv) rv2
  have hlen : its.toArray.size = ds.length + 1 := by rw [List.size_toArray, ← rv2.length, rv.length]; rfl
  refine PySem.call_min_walkH (PySem.W.iter_listW (A := X.A.in1) (I.ok.hd hc) hl.isList fun s₂ e W st hfp hw hk => ?_)
  have cm := PySem.W.cmpIn_lt (prog := X.prog) (w := X.w) (A := X.A.in1) (s := s) (vs := its.toArray) (by simpa using rr) (alkAll_ok o1) (by rw [depAll_ok]; show X.A.units + 1 + _ < _; omega)
  have same : ∀ i j, i < (d :: ds).length → j < (d :: ds).length → PySem.W.dataLt ((toPys (d :: ds)).getD i .none) ((toPys (d :: ds)).getD j .none) = ltD ((d :: ds).getD i .non) ((d :: ds).getD j .non) := by
    intro i j hi hj
    rw [toPys_getD _ _ hi, toPys_getD _ _ hj]
    exact lt_D _ _ (o1 _ (getD_mem hi) _ (getD_mem hj))
  refine ⟨_, _, _, _, _, _, _, s.heap, fun i j => ltD ((d :: ds).getD i .non) ((d :: ds).getD j .non), rfl, W, st, hfp, by omega, hw, hk, ?_, fun v s' hP m => ?_⟩
  · intro i j vi vj s' Q' E' k1 hi hj hq
    obtain ⟨l1, _⟩ := repDs_at rv rv2 i vi (by simpa using hi)
    obtain ⟨l2, _⟩ := repDs_at rv rv2 j vj (by simpa using hj)
    refine cm i j vi vj s' Q' E' k1 hi hj ?_
    show Q' (.bool (PySem.W.dataLt _ _)) _
    rw [same i j l1 l2]; exact hq
  · obtain ⟨h', tk, rfl, hk'⟩ := PySem.W.moved_old e rfl m
    obtain ⟨_, v', w', r'⟩ := repDs_at rv rv2 _ v (by rw [List.getElem?_toArray] at hP; exact hP)
    have e1 : its.toArray.size - 1 = ds.length := by omega
    rw [e1, (PySem.W.argBest_fold (fun a b => ltD a b) D.non d ds ds.length (Nat.le_refl _)).2, List.take_length] at r'
    exact ⟨v', H, I.kept hk', w', q v' r'⟩
end
end MP

/-! ## EngH.lean -/
set_option Elab.async false
set_option linter.all false
set_option maxRecDepth 100000
namespace MP
open PySem PySem.Spec PyProof.Rows L2
/-! ### the longest text of repr -/
theorem strOk_lt {x : Str} (h : PyData.strOk x = true) : ∀ c ∈ x.cps.toList, c < 16 ^ 8 := fun c hc => by
  unfold PyData.strOk at h
  rw [← Array.all_toList] at h
  have := List.all_eq_true.mp h c hc
  simp only [decide_eq_true_eq] at this
  omega
mutual
theorem shown_len : ∀ d : D, shwD d = true → (toPy d).shown.length ≤ szD d
  | .non, _ => by decide +kernel
  | .bl b, _ => by cases b <;> decide +kernel
  | .int i, h => by
    have h' : i.natAbs.log2 < 1920 := Nat.le_of_ble_eq_true h
    show (Str.ofString (toString i)).length ≤ 1922
    rw [PySem.ofString_length]
    have := int_text_length_le (k := 1920) (by omega) h'
    omega
  | .str x, h => by
    have := StrLaws.reprText_len x (strOk_lt h)
    simpa only [toPy, PyData.shown, szD] using this
  | .tup xs, h => by
    have h1 := shown_lens xs h
    have h2 := tupleText_len_le (PyData.shownAll (toPys xs))
    simp only [toPy, PyData.shown, szD]
    omega
  | .lst xs, h => by
    have h1 := shown_lens xs h
    have h2 := listText_len_le (PyData.shownAll (toPys xs))
    simp only [toPy, PyData.shown, szD]
    omega
  | .rep _, h => by simp [shwD] at h
  | .scr _, h => by simp [shwD] at h
theorem shown_lens : ∀ xs : List D, shwDs xs = true → ((PyData.shownAll (toPys xs)).map (·.length)).sum + 2 * (PyData.shownAll (toPys xs)).length ≤ szDs xs
  | [], _ => by simp [toPys, PyData.shownAll]
  | x :: xs, h => by
    simp only [shwDs, Bool.and_eq_true] at h
    have h1 := shown_len x h.1
    have h2 := shown_lens xs h.2
    simp only [toPys, PyData.shownAll, List.map_cons, List.sum_cons, List.length_cons, szDs]
    omega
end
mutual
theorem shw_ok : ∀ d : D, shwD d = true → (toPy d).showable = true
  | .non, _ => rfl
  | .bl _, _ => rfl
  | .int i, h => decide_eq_true (Nat.le_of_ble_eq_true h)
  | .str _, _ => rfl
  | .tup xs, h => shws_ok xs h
  | .lst xs, h => shws_ok xs h
  | .rep _, h => by simp [shwD] at h
  | .scr _, h => by simp [shwD] at h
theorem shws_ok : ∀ d : List D, shwDs d = true → PyData.showableAll (toPys d) = true
  | [], _ => rfl
  | x :: xs, h => by
    simp only [shwDs, Bool.and_eq_true] at h
    simp only [toPys, PyData.showableAll, Bool.and_eq_true]
    exact ⟨shw_ok x h.1, shws_ok xs h.2⟩
end
mutual
theorem noDict : ∀ d : D, (toPy d).hasDict = false
  | .non => rfl
  | .bl _ => rfl
  | .int i => rfl
  | .str _ => rfl
  | .tup xs => noDicts xs
  | .lst xs => noDicts xs
  | .rep _ => rfl
  | .scr ns => by
    show PyData.hasDictAll (ns.map PyData.int) = false
    induction ns with
    | nil => rfl
    | cons n ns ih => simp only [List.map_cons, PyData.hasDictAll, ih]; rfl
theorem noDicts : ∀ d : List D, PyData.hasDictAll (toPys d) = false
  | [] => rfl
  | x :: xs => by simp only [toPys, PyData.hasDictAll, noDict x, noDicts xs, Bool.or_self]
end
section
variable {K : PySem.W.Frag} {H H0 H1 H2 H' : Hp} {av av' av1 av2 : Av} {ι ι' ι1 ι2 : List Addr} {h h' h1 h2 : Hs} {σ : L2.St} {ρ : Env'} {X : Cx}
/-! ### built-in functions by their values -/
def rV1 (K : PySem.W.Frag) (m : Val → Hs → Option Val) : List V → Hp → VK → Prop := fun xs H Q => ∃ h ι av vx x v, xs = [x] ∧ SimH K h ι av H ∧ RepR K H_0 ι av H vx x ∧ m vx h = some v ∧
  ∀ av' H' u, Pst K ι av H h ι av' H' h → RepR K H ι av' H' v u → Q u H'
def biF : Bi → Value
  | .int => .type "int" | .tuple => .type "tuple" | .list => .type "list"
  | .len => .builtin "len" | .sum => .builtin "sum" | .all => .builtin "all" | .any => .builtin "any" | .max => .builtin "max" | .min => .builtin "min"
  | .abs => .builtin "abs" | .sorted => .builtin "sorted" | .divmod => .builtin "divmod" | .repr => .builtin "repr"
theorem intsV_eq {v : Val} {is : List Int} {u : V} (s : SimH K h ι av H) (e : intsV v h = some is) (r : RepR K H0 ι av H v u) : ∃ a, u = .ref a ∧ H a = some (.lst (is.map V.int)) := by
  unfold intsV at e
  split at e
  · rename_i xs es
    obtain ⟨a, vs, rfl, rv, _, hl⟩ := seqD_ok s r es
    rw [intsOf_eq e] at rv
    rw [RepDs.ints rv] at hl
    exact ⟨a, rfl, hl rfl⟩
  · cases e
theorem blsV_eq {v : Val} {is : List Bool} {u : V} (s : SimH K h ι av H) (e : blsV v h = some is) (r : RepR K H0 ι av H v u) : ∃ a, u = .ref a ∧ H a = some (.lst (is.map V.bl)) := by
  unfold blsV at e
  split at e
  · rename_i xs es
    obtain ⟨a, vs, rfl, rv, _, hl⟩ := seqD_ok s r es
    rw [blsOf_eq e] at rv
    rw [RepDs.bls rv] at hl
    exact ⟨a, rfl, hl rfl⟩
  · cases e
theorem maxI_go : ∀ (xs : List Int) (x : Int), xs.foldl (fun a b => if a < b then b else a) x ∈ x :: xs ∧ ∀ y ∈ x :: xs, y ≤ xs.foldl (fun a b => if a < b then b else a) x
  | [], x => by simp
  | z :: xs, x => by
    simp only [List.foldl_cons]
    obtain ⟨h1, h2⟩ := maxI_go xs (if x < z then z else x)
    refine ⟨?_, fun y hy => ?_⟩
    · rcases List.mem_cons.mp h1 with e | e
      · rw [e]; split <;> simp
      · simp [e]
    · have h3 := h2 _ List.mem_cons_self
      have k1 : x ≤ (if x < z then z else x) := by split <;> omega
      have k2 : z ≤ (if x < z then z else x) := by split <;> omega
      rcases List.mem_cons.mp hy with e | hy
      · rw [e]; exact Int.le_trans k1 h3
      · rcases List.mem_cons.mp hy with e | hy
        · rw [e]; exact Int.le_trans k2 h3
        · exact h2 y (List.mem_cons_of_mem _ hy)
theorem minI_go : ∀ (xs : List Int) (x : Int), xs.foldl (fun a b => if b < a then b else a) x ∈ x :: xs ∧ ∀ y ∈ x :: xs, xs.foldl (fun a b => if b < a then b else a) x ≤ y
  | [], x => by simp
  | z :: xs, x => by
    simp only [List.foldl_cons]
    obtain ⟨h1, h2⟩ := minI_go xs (if z < x then z else x)
    refine ⟨?_, fun y hy => ?_⟩
    · rcases List.mem_cons.mp h1 with e | e
      · rw [e]; split <;> simp
      · simp [e]
    · have h3 := h2 _ List.mem_cons_self
      have k1 : (if z < x then z else x) ≤ x := by split <;> omega
      have k2 : (if z < x then z else x) ≤ z := by split <;> omega
      rcases List.mem_cons.mp hy with e | hy
      · rw [e]; exact Int.le_trans h3 k1
      · rcases List.mem_cons.mp hy with e | hy
        · rw [e]; exact Int.le_trans h3 k2
        · exact h2 y (List.mem_cons_of_mem _ hy)
theorem insB_perm {α : Type} (le : α → α → Bool) (x : α) : ∀ xs : List α, (insB le x xs).Perm (x :: xs)
  | [] => List.Perm.refl _
  | y :: ys => by
    unfold insB
    split
    · exact List.Perm.refl _
    · exact (List.Perm.cons y (insB_perm le x ys)).trans (List.Perm.swap x y ys)
theorem insB_srt {α : Type} {le : α → α → Bool} (tot : ∀ a b, le a b = false → le b a = true) (tr : ∀ a b c, le a b = true → le b c = true → le a c = true) (x : α) :
    ∀ {xs : List α}, xs.Pairwise (fun a b => le a b = true) → (insB le x xs).Pairwise (fun a b => le a b = true)
  | [], _ => by simp [insB]
  | y :: ys, h => by
    unfold insB
    have h' := List.pairwise_cons.mp h
    split
    · rename_i hxy
      refine List.pairwise_cons.mpr ⟨fun z hz => ?_, h⟩
      rcases List.mem_cons.mp hz with e | hz
      · subst e; exact hxy
      · exact tr _ _ _ hxy (h'.1 z hz)
    · rename_i hxy
      refine List.pairwise_cons.mpr ⟨fun z hz => ?_, insB_srt tot tr x h'.2⟩
      rcases List.mem_cons.mp ((insB_perm le x ys).mem_iff.mp hz) with e | hz
      · subst e; exact tot _ _ hxy
      · exact h'.1 z hz
theorem sortB_perm {α : Type} (le : α → α → Bool) : ∀ xs : List α, (sortB le xs).Perm xs
  | [] => List.Perm.refl _
  | x :: xs => (insB_perm le x _).trans (List.Perm.cons x (sortB_perm le xs))
theorem sortB_srt {α : Type} {le : α → α → Bool} (tot : ∀ a b, le a b = false → le b a = true) (tr : ∀ a b c, le a b = true → le b c = true → le a c = true) : ∀ xs : List α, (sortB le xs).Pairwise (fun a b => le a b = true)
  | [] => List.Pairwise.nil
  | x :: xs => insB_srt tot tr x (sortB_srt tot tr xs)
theorem leI_tot (a b : Int) (h : leI a b = false) : leI b a = true := by simp only [leI, decide_eq_false_iff_not, decide_eq_true_eq] at *; omega
theorem leI_tr (a b c : Int) (h : leI a b = true) (h' : leI b c = true) : leI a c = true := by simp only [leI, decide_eq_true_eq] at *; omega
theorem lexP_iff {a b : Int × Int} : lexP a b = true ↔ a.1 < b.1 ∨ (a.1 = b.1 ∧ a.2 ≤ b.2) := by
  unfold lexP
  split <;> simp only [decide_eq_true_eq] <;> omega
theorem lexP_no {a b : Int × Int} : lexP a b = false ↔ ¬ (a.1 < b.1 ∨ (a.1 = b.1 ∧ a.2 ≤ b.2)) := by
  rw [← lexP_iff]
  cases lexP a b <;> simp
theorem lexP_tot (a b : Int × Int) (h : lexP a b = false) : lexP b a = true := by
  have := lexP_no.mp h
  exact lexP_iff.mpr (by omega)
theorem lexP_tr (a b c : Int × Int) (h : lexP a b = true) (h' : lexP b c = true) : lexP a c = true := by
  have h1 := lexP_iff.mp h
  have h2 := lexP_iff.mp h'
  exact lexP_iff.mpr (by omega)
theorem pairsOf_eq : ∀ {xs : List D} {is : List (Int × Int)}, pairsOf xs = some is → xs = is.map fun p => D.tup [.int p.1, .int p.2]
  | [], is, e => by simp [pairsOf] at e; subst e; rfl
  | x :: xs, is, e => by
    unfold pairsOf at e
    split at e
    · rename_i z; cases z
    · rename_i i j ys z
      simp only [List.cons.injEq] at z
      obtain ⟨z1, z2⟩ := z
      subst z1 z2
      split at e
      · cases e
      · rename_i is' ei
        simp only [Option.some.injEq] at e
        subst e
        rw [pairsOf_eq ei]
        rfl
    · cases e
theorem call_sorted (hu : X.A.units + 65 < cLine) : CallR X (.builtin "sorted") (rV1 X.K (bi1 .sorted)) := by
  intro pins s σ H xs us Q I rx hh
  obtain ⟨h, ι, av, vx, x, w, rfl, sim, r1, e, k⟩ := hh
  simp only [bi1] at e
  split at e
  · rename_i xs es
    split at e
    · rename_i ys ey
      simp only [Option.some.injEq] at e
      obtain ⟨a, vs, rfl, rv, _, hl⟩ := seqD_ok sim r1 es
      unfold sortV at ey
      split at ey
      · rename_i is ei
        simp only [Option.some.injEq] at ey
        rw [intsOf_eq ei] at rv
        rw [RepDs.ints rv] at hl
        refine cr_sortedI pins s σ H _ us Q I rx ⟨a, is, rfl, .of (hl rfl), fun ns p hp hs hn => ?_⟩
        have e2 : ns = sortB leI is := by
          refine (hp.trans (sortB_perm leI is).symm).eq_of_pairwise (fun x y _ _ h1 h2 => Int.le_antisymm h1 h2) hs ?_
          exact (sortB_srt leI_tot leI_tr is).imp fun {a b} z => of_decide_eq_true z
        subst e2
        obtain ⟨p1, p2⟩ := Pst.newLst sim hn (RepDs.ofInts (K := X.K) (H := H) (av := av) (sortB leI is))
        exact k _ _ _ p1 (by rw [← e, ← ey]; exact p2)
      · unfold sortG at ey
        split at ey
        · rename_i ok
          simp only [Option.some.injEq] at ey
          refine cr_sortedG hu pins s σ H _ us Q I rx ⟨a, vs, xs, av, rfl, hl rfl, rv, ok, fun vs' p r' hn => ?_⟩
          obtain ⟨p1, p2⟩ := Pst.newLst sim hn r'
          exact k _ _ _ p1 (by rw [← e, ← ey]; exact p2)
        · split at ey
          · rename_i l1
            simp only [Option.some.injEq] at ey
            refine cr_sorted1 pins s σ H _ us Q I rx ⟨a, vs, rfl, hl rfl, by rw [rv.length]; exact Nat.le_of_ble_eq_true l1, fun p hn => ?_⟩
            obtain ⟨p1, p2⟩ := Pst.newLst sim hn rv
            exact k _ _ _ p1 (by rw [← e, ← ey]; exact p2)
          · cases ey
    · cases e
  · cases e
/-- two values -/
def rV2' (K : PySem.W.Frag) (m : Val → Val → Option Val) : List V → Hp → VK → Prop := fun xs H Q => ∃ h ι av vx vy x y v, xs = [x, y] ∧ SimH K h ι av H ∧ RepR K H_0 ι av H vx x ∧ RepR K H_0 ι av H vy y ∧ m vx vy = some v ∧
  ∀ av' H' u, Pst K ι av H h ι av' H' h → RepR K H ι av' H' v u → Q u H'
theorem call_bi2 (hc : X.calm = true) (b : Bi) : CallR X (biF b) (rV2' X.K (bi2 b)) := by
  intro pins s σ H xs us Q I rx hh
  obtain ⟨h, ι, av, vx, vy, x, y, w, rfl, sim, r1, r2, e, k⟩ := hh
  unfold bi2 at e
  split at e
  · cases e
  · rename_i i ei
    split at e
    · cases e
    · rename_i j ej
      rw [intV_eq ei] at r1
      rw [intV_eq ej] at r2
      have := r1.intE
      subst this
      have := r2.intE
      subst this
      cases b <;> simp only [reduceCtorEq, Option.some.injEq] at e
      · exact call_max2 hc pins s σ H _ us Q I rx ⟨i, j, rfl, k av H _ (.refl sim) (by rw [← e]; rfl)⟩
      · exact call_min2 hc pins s σ H _ us Q I rx ⟨i, j, rfl, k av H _ (.refl sim) (by rw [← e]; rfl)⟩
      · split at e
        · rename_i hm
          simp only [Option.some.injEq] at e
          simp only [Bool.and_eq_true, decide_eq_true_eq] at hm
          refine call_divmodN pins s σ H _ us Q I rx ⟨i, j, rfl, hm, fun p o hp hd => ?_⟩
          obtain ⟨p1, p2⟩ := Pst.newTup (xs := [.int (i / j), .int (i % j)]) sim hp ⟨_, _, rfl, rfl, _, _, rfl, rfl, rfl⟩ hd
          exact k _ _ _ p1 (by rw [← e]; exact p2)
        · cases e
theorem call_bi1 (hc : X.calm = true) (hg : X.A.guards = some []) (hu : X.A.units + 65 < cLine) (b : Bi) (hb : b ≠ .sorted) : CallR X (biF b) (rV1 X.K (bi1 b)) := by
  intro pins s σ H xs us Q I rx hh
  obtain ⟨h, ι, av, vx, x, w, rfl, sim, r1, e, k⟩ := hh
  have fin : ∀ {d : D} {z : V}, w = .p d → RepD X.K H av d z → Q z H := fun {d z} ew r => k av H z (.refl sim) (by rw [ew]; exact r)
  cases b <;> simp only [bi1] at e
  · -- len
    split at e
    · rename_i n en
      simp only [Option.some.injEq] at e
      have fn : ∀ {m : Nat}, (m : Int) = n → Q (.int m) H := fun {m} em => fin (d := .int n) e.symm (by rw [em]; rfl)
      have sq : ∀ {b : Bool} {ys : List D}, seqD h vx = some (b, ys) → (ys.length : Int) = n → wpAny (model X.prog X.w) X.A (call (biF .len) us) (EP X pins σ Q) X.xe s := fun {b ys} es el => by
        obtain ⟨a, vs, rfl, rv, q⟩ := seqD_sq sim r1 es
        exact call_len_seq pins s σ H _ us Q I rx ⟨a, vs, rfl, q, by rw [rv.length]; exact fn el⟩
      unfold lenV at en
      split at en
      · simp only [Option.some.injEq] at en
        obtain ⟨a, rfl, q⟩ := r1
        exact call_len_seq pins s σ H _ us Q I rx ⟨a, _, rfl, .inl (sqL_of q), by rw [List.length_map]; exact fn en⟩
      · simp only [Option.some.injEq] at en
        exact sq (b := true) rfl en
      · simp only [Option.some.injEq] at en
        exact sq (b := false) rfl en
      · simp only [Option.some.injEq] at en
        exact sq (b := false) rfl en
      · split at en
        · rename_i z hm
          simp only [Option.some.injEq] at en
          have := r1.strE
          subst this
          exact call_len_str pins s σ H _ us Q I rx ⟨z, rfl, ble_line hm, fn en⟩
        · cases en
      · split at en
        · rename_i n' kk ys eo
          simp only [Option.some.injEq] at en
          exact sq (b := false) (by simp only [seqD, eo]) en
        · rename_i n' kk ns eo
          simp only [Option.some.injEq] at en
          obtain ⟨a, q, rfl⟩ := r1
          obtain ⟨a', vs, q3, q4, rv⟩ := sim.ob _ _ eo nofun
          rw [q] at q3; cases q3
          exact call_len_seq pins s σ H _ us Q I rx ⟨a, vs, rfl, .inl (.of q4), by rw [← paired_len rv]; exact fn en⟩
        · cases en
      · cases en
    · cases e
  · -- sum
    split at e
    · rename_i ns en
      simp only [Option.some.injEq] at e
      rw [scrV_eq en] at r1
      obtain ⟨a, rfl, q⟩ := r1
      exact cr_sum hc pins s σ H _ us Q I rx ⟨a, ns, rfl, sqL_of q, fin e.symm rfl⟩
    · split at e
      · rename_i is ei
        simp only [Option.some.injEq] at e
        obtain ⟨a, rfl, q⟩ := intsV_eq sim ei r1
        exact cr_sum hc pins s σ H _ us Q I rx ⟨a, is, rfl, .of q, fin e.symm rfl⟩
      · split at e
        · rename_i is ei
          simp only [Option.some.injEq] at e
          unfold tupI at ei
          split at ei
          · rename_i xs
            obtain ⟨a, vs, rfl, q, _, rv⟩ := r1
            rw [intsOf_eq ei] at rv
            rw [RepDs.ints rv] at q
            exact cr_sumT hc pins s σ H _ us Q I rx ⟨a, is, rfl, q.sq, fin e.symm rfl⟩
          · cases ei
        · cases e
  · split at e
    · rename_i is ei
      simp only [Option.some.injEq] at e
      obtain ⟨a, rfl, q⟩ := blsV_eq sim ei r1
      exact cr_all hc pins s σ H _ us Q I rx ⟨a, is, rfl, .of q, fin e.symm rfl⟩
    · cases e
  · split at e
    · rename_i is ei
      simp only [Option.some.injEq] at e
      obtain ⟨a, rfl, q⟩ := blsV_eq sim ei r1
      exact cr_any hc pins s σ H _ us Q I rx ⟨a, is, rfl, .of q, fin e.symm rfl⟩
    · cases e
  · split at e
    · rename_i is ei
      split at e
      · rename_i m em
        simp only [Option.some.injEq] at e
        obtain ⟨a, rfl, q⟩ := intsV_eq sim ei r1
        cases is with
        | nil => cases em
        | cons y ys =>
          simp only [maxI, Option.some.injEq] at em
          obtain ⟨g1, g2⟩ := maxI_go ys y
          rw [em] at g1 g2
          refine cr_max hc pins s σ H _ us Q I rx ⟨a, y :: ys, rfl, .of q, by simp, fun m' hm hm2 => ?_⟩
          have : m' = m := Int.le_antisymm (g2 m' hm) (hm2 m g1)
          subst this
          exact fin e.symm rfl
      · cases e
    · split at e
      · rename_i d ds es
        split at e
        · rename_i ok
          simp only [Option.some.injEq] at e
          obtain ⟨a, vs, rfl, rv, _, hl⟩ := seqD_ok sim r1 es
          exact cr_maxG hc hu pins s σ H _ us Q I rx ⟨a, vs, d, ds, av, rfl, hl rfl, rv, ok, fun v rv' => fin e.symm rv'⟩
        · cases e
      · cases e
  · split at e
    · rename_i is ei
      split at e
      · rename_i m em
        simp only [Option.some.injEq] at e
        obtain ⟨a, rfl, q⟩ := intsV_eq sim ei r1
        cases is with
        | nil => cases em
        | cons y ys =>
          simp only [minI, Option.some.injEq] at em
          obtain ⟨g1, g2⟩ := minI_go ys y
          rw [em] at g1 g2
          refine cr_min hc pins s σ H _ us Q I rx ⟨a, y :: ys, rfl, .of q, by simp, fun m' hm hm2 => ?_⟩
          have : m' = m := Int.le_antisymm (hm2 m g1) (g2 m' hm)
          subst this
          exact fin e.symm rfl
      · cases e
    · split at e
      · rename_i d ds es
        split at e
        · rename_i ok
          simp only [Option.some.injEq] at e
          obtain ⟨a, vs, rfl, rv, _, hl⟩ := seqD_ok sim r1 es
          exact cr_minG hc hu pins s σ H _ us Q I rx ⟨a, vs, d, ds, av, rfl, hl rfl, rv, ok, fun v rv' => fin e.symm rv'⟩
        · cases e
      · cases e
  · split at e
    · rename_i i ei
      simp only [Option.some.injEq] at e
      rw [intV_eq ei] at r1
      exact call_abs pins s σ H _ us Q I rx ⟨i, by rw [r1.intE], fin e.symm rfl⟩
    · cases e
  · split at e
    · rename_i i
      simp only [Option.some.injEq] at e
      exact call_int1 pins s σ H _ us Q I rx (.inl ⟨i, by rw [r1.intE], fin e.symm rfl⟩)
    · rename_i c
      simp only [Option.some.injEq] at e
      exact call_int1 pins s σ H _ us Q I rx (.inr ⟨c, by rw [show x = V.bl c from r1], fin e.symm rfl⟩)
    · cases e
  · split at e
    · rename_i b xs es
      simp only [Option.some.injEq] at e
      obtain ⟨a, vs, rfl, rv, ht, hl⟩ := seqD_ok sim r1 es
      cases b with
      | false =>
        refine call_tupleN pins s σ H _ us Q I rx ⟨a, vs, rfl, .inl ⟨.of (hl rfl), fun p o hp hd => ?_⟩⟩
        obtain ⟨p1, p2⟩ := Pst.newTup sim hp rv hd
        exact k _ _ _ p1 (by rw [← e]; exact p2)
      | true =>
        have ev : vx = .p (.tup xs) := by
          cases vx with
          | p d => cases d <;> simp [seqD] at es; rw [es]
          | new xs => simp [seqD] at es
          | loc n =>
            simp only [seqD] at es
            split at es <;> cases es
        exact call_tupleN pins s σ H _ us Q I rx ⟨a, vs, rfl, .inr ⟨(ht rfl).sq, fin e.symm (by rw [ev] at r1; exact r1)⟩⟩
    · cases e
  · split at e
    · rename_i ns en
      simp only [Option.some.injEq] at e
      rw [scrV_eq en] at r1
      obtain ⟨a, rfl, q⟩ := r1
      refine call_list_of pins s σ H _ us Q I rx ⟨a, _, rfl, .inl (sqL_of q), fun p hp => ?_⟩
      obtain ⟨p1, p2⟩ := Pst.newLst sim hp (RepDs.ofInts (K := X.K) (H := H) (av := av) ns)
      exact k _ _ _ p1 (by rw [← e]; exact p2)
    · split at e
      · rename_i b xs es
        simp only [Option.some.injEq] at e
        obtain ⟨a, vs, rfl, rv, q⟩ := seqD_sq sim r1 es
        refine call_list_of pins s σ H _ us Q I rx ⟨a, vs, rfl, q, fun p hp => ?_⟩
        obtain ⟨p1, p2⟩ := Pst.newLst sim hp rv
        exact k _ _ _ p1 (by rw [← e]; exact p2)
      · cases e
  · exact absurd rfl hb
  · cases e
  · split at e
    · rename_i d ed
      split at e
      · rename_i hm
        simp only [Option.some.injEq] at e
        simp only [Bool.and_eq_true] at hm
        obtain ⟨hr0, hm1, hm2, hm3⟩ := hm
        have hd := Nat.le_of_ble_eq_true hm1
        have rd := datD_ok sim r1 ed
        obtain ⟨u, rfl, ru⟩ := vals1 rx
        obtain ⟨as, rr⟩ := Dp.reads I _ _ _ (RepD.dp _ _ rd) ru
        have hz : (toPy d).shown.length ≤ sizeLine := Nat.le_trans (shown_len d hm2) (ble_line hm3)
        have hsh := shw_ok d hm2
        have hdep := depD_ok d
        have fq : Q (.str (toPy d).shown) H := fin (d := .rep d) e.symm rfl
        cases d with
        | tup xs =>
          obtain ⟨a, vs, rfl, _⟩ := rd
          cases ru
          refine repr_of_reads' rr hsh (PyData.noDict_hsm (noDict _)) hg (by rw [hdep]; omega) (fun _ _ e => e) (fun h' t tk kp => ?_) hz
          exact ⟨.str _, H, I.kept (t' := tk) kp, ⟨t, rfl⟩, fq⟩
        | lst xs =>
          obtain ⟨a, vs, rfl, _⟩ := rd
          cases ru
          refine repr_of_reads' rr hsh (PyData.noDict_hsm (noDict _)) hg (by rw [hdep]; omega) (fun _ _ e => e) (fun h' t tk kp => ?_) hz
          exact ⟨.str _, H, I.kept (t' := tk) kp, ⟨t, rfl⟩, fq⟩
        | int i =>
          have ex : x = V.int i := rd
          subst ex
          obtain ⟨t, rfl⟩ := ru
          exact SkE.call_repr_int pins s σ H _ _ Q I (show Vals [V.int i] [Value.int i t] from .cons (show RelV (V.int i) _ from ⟨t, rfl⟩) .nil) ⟨i, rfl, Nat.le_of_ble_eq_true hm2, fq⟩
        | _ => cases hr0
      · cases e
    · cases e
end
end MP

/-! ## EngI.lean -/
set_option Elab.async false
set_option linter.all false
set_option maxRecDepth 100000
namespace MP
open PySem PySem.Spec PyProof.Rows L2
abbrev Spg := List V → Hp → VK → Prop
/-- a def keeps its promise, where no repr is under way -/
structure FnG (P : Program) (w : World) (K : PySem.W.Frag) (mg : Str → Option Value) (base : Heap) (n : Nat) (f : Addr) (fd : FuncData) (ps : List Str) (sp : Spg) : Prop where
  len : ∀ vs H Q, sp vs H Q → vs.length = ps.length
  run : ∀ (A : Around) (fs : List Env) (s : Shared) (H : Hp) (args : Args) (us : List Value) (vs : List V) (Q : VK),
    Room n A → A.guards = some [] → Env0 P w K mg base A fs s H → BindsTo s fd args (ps.zip us) → Vals vs us → sp vs H Q →
      codeAny (model P w) A (.call (.ref f) args) (CR CX0 fs P w H s Q E0) s
section
variable {P : Program} {w : World} {K : PySem.W.Frag} {mg : Str → Option Value} {base : Heap}
/-- a def of the text by its body -/
theorem fnG_of {x qual : Str} {st : Stmt} {f : Addr} {fd : FuncData} {N ps : List Str} {n : Nat} {sp : Spg} (F : Fun K x qual st f fd) (S : FnScope N ps (defScope st))
    (len : ∀ vs H Q, sp vs H Q → vs.length = ps.length)
    (hb : ∀ (cdv : Value) (A : Around) (fs : List Env) (s : Shared) (H : Hp) (vs : List V) (Q : VK),
      Room n (A.deeper (envOfC qual (defScope st) s.heap.objs.size f cdv)) → A.guards = some [] → sp vs H Q →
      ∃ t, PSs (cxOf CX0 P w K mg base N qual (defScope st) f cdv A fs s H E0).nox (defBody st) t ∧ t ⟨fun _ H' => Q .non H', Q, fun _ _ => False, fun _ _ => False⟩ (start N vs) H) :
    FnG P w K mg base (n + 1) f fd ps sp := by
  obtain ⟨oc, od, kV, doc, pm, an, cdv, ct, osl, rfl, lk, hcd⟩ := F.ex
  constructor
  · exact len
  · intro A fs s H args us vs Q room gd e0 bt rv hsp
    have kin : K.In s.heap :=
      e0.mod.kin.keeps (fun b o q => (e0.bs b o q).1)
    have nolim : s.heap.NoLimit :=
      e0.mod.nolimit.keeps (fun b o q => (e0.bs b o q).1)
    have kinds : ∀ y ∈ ps.zip us, (defScope st).names.lookup y.1 = some .local ∨
        ((defScope st).names.lookup y.1 = some .cell ∧ ((cellsFrom (s.heap.objs.size + 1) (defScope st).names []).lookup y.1).isSome = true) := by
      rintro ⟨nm, v⟩ hy
      rcases S.par nm (List.of_mem_zip hy).1 with q | q
      · left; exact q
      · right
        refine ⟨q, ?_⟩
        exact PySem.W.cellsFrom_some _ _ _ (.inl q)
    apply codeAny_call_function room.depth (kin _ _ lk) rfl S.co S.gen rfl (PySem.W.codeRec_of kin hcd)
    apply bt
    apply wpAny_newFunctionEnv_cells S.kind kinds
    intro env he s1 hx
    subst he
    constructor
    · exact nolim.keeps hx.toInCall.keep
    · apply codeAny_func
      obtain ⟨t, ht, hq⟩ := hb cdv A fs s H vs Q (room.deeper _) gd hsp
      have inv := inv_start (CX := CX0) (E := E0) (mg := mg) (base := base) S room.hd e0 (len _ _ _ hsp) rv hx
      have res := ht.nox.run [] s1 (start N vs) H _ inv hq
      apply wpAny_mono res
      · intro fl s' hs
        cases fl
        case ret u =>
          obtain ⟨v, σ', H', J, r, q⟩ := hs
          exact ⟨v, H', J.os, J.bare, J.base, J.hok, r, q⟩
        case next =>
          obtain ⟨σ', H', J, q⟩ := hs
          exact ⟨V.non, H', J.os, J.bare, J.base, J.hok, rfl, q⟩
        case brk =>
          obtain ⟨_, _, _, q⟩ := hs
          exact q.elim
        case cont =>
          obtain ⟨_, _, _, q⟩ := hs
          exact q.elim
      · intro e s' hs
        exact hs
end
section
variable {X : Cx} {n : Nat} {f : Addr} {fd : FuncData} {ps ks : List Str} {pm : List Nat} {sp : Spg} {x : Str} {p pos : Pos} {es : List Expr} {kws : List Keyword} {t tk : TA}
theorem runG {pins : List (Addr × Obj)} {σ : L2.St} {H : Hp} {s : Shared} {Q : VK} {us : List Value} {kw : List (Str × Value)} {as : List Value} {vs : List V}
    (F : FnG X.prog X.w X.K X.mg X.base n f fd ps sp) (hr : Room n X.A) (hg : X.A.guards = some []) (I : Inv X pins σ H s) (bt : BindsTo s fd ⟨us, kw⟩ (ps.zip as)) (r : Vals vs as) (h : sp vs H Q) :
    wpAny (model X.prog X.w) X.A (call (.ref f) us kw) (EP X pins σ Q) X.xe s := by
  apply wpAny_call
  apply codeAny_mono (F.run X.A X.stack s H ⟨us, kw⟩ as vs Q hr hg I.env0 bt r h)
  intro res s' q
  cases res with
  | error e => exact q.elim
  | ok fl =>
    cases fl
    case ret u => exact I.after q
    all_goals exact q.elim
def tCallG (sp : Spg) (t : TA) : TE := fun σ H Q => t σ H fun vs H1 => sp vs H1 Q
/-- f(..), by place -/
theorem pe_callG {e : Expr} (F : FnG X.prog X.w X.K X.mg X.base n f fd ps sp) (hr : Room n X.A) (hg : X.A.guards = some []) (gl : Gl X x) (hm : X.mg x = some (.ref f)) (hk : PySem.W.keepIn X.K (.ref f) = true) (hb : Binds X.K fd ps [])
    (ha : PA X (e :: es) t) (hd : (x == ("__debug__" : Str)) = false)
    (h1 : starEach (e :: es) X.env = (false, eval e X.env) :: starEach es X.env) (h2 : (backTo pos (starEach es X.env)).any (·.1) = false) :
    PE X (.Call (.Name x p) (e :: es) [] pos) (tCallG sp t) := by
  constructor
  intro pins s σ H Q I h
  apply wpAny_Call_Name_kw
  apply ld_glob I gl hm _ hd
  apply PySem.W.callWith_K (h₀ := X.base) I.ok.mod.kin hk _ h1 h2
  apply thn (ha.run pos pins s σ H _ I h)
  rintro us s1 ⟨vs, H1, I1, rv, q⟩
  refine ⟨I1.kIn, ?_⟩
  have hl : (us ++ []).length = ps.length := by rw [List.append_nil, ← rv.length]; exact F.len _ _ _ q
  have bt := hb s1 us I1.kIn hl
  rw [List.append_nil] at bt
  exact runG F hr hg I1 bt rv q
theorem pe_callG0 (F : FnG X.prog X.w X.K X.mg X.base n f fd ps sp) (hr : Room n X.A) (hg : X.A.guards = some []) (gl : Gl X x) (hm : X.mg x = some (.ref f)) (hk : PySem.W.keepIn X.K (.ref f) = true) (hb : Binds X.K fd ps [])
    (hd : (x == ("__debug__" : Str)) = false) : PE X (.Call (.Name x p) [] [] pos) (tCallG sp tNil) := by
  constructor
  intro pins s σ H Q I h
  apply wpAny_Call_Name_kw
  apply ld_glob I gl hm _ hd
  apply PySem.W.callWith_K0 I.kIn hk
  have hl : (([] : List Value) ++ []).length = ps.length := by
    have := F.len _ _ _ (show sp [] H Q from h)
    rw [← this]; rfl
  have bt := hb s [] I.kIn hl
  exact runG F hr hg I bt .nil h
/-- how keywords bind, in the parameters' order -/
def KwB (K : PySem.W.Frag) (fd : FuncData) (ps : List Str) (q : List Str × List Nat) (m : Nat) : Prop :=
  ∀ (s : Shared) (us ws : List Value), K.In s.heap → us.length = m → ws.length = q.1.length → BindsTo s fd ⟨us, q.1.zip ws⟩ (ps.zip (us ++ permL q.2 ws))
theorem vals_perm {zs : List V} {ws : List Value} (r : Vals zs ws) (pm : List Nat) : Vals (permL pm zs) (permL pm ws) := by
  have g : ∀ {zs : List V} {ws : List Value}, Vals zs ws → ∀ j : Nat, (∃ z w, zs[j]? = some z ∧ ws[j]? = some w ∧ RelV z w) ∨ (zs[j]? = none ∧ ws[j]? = none) := by
    intro zs ws r
    induction r with
    | nil => intro j; exact .inr ⟨by simp, by simp⟩
    | cons h _ ih =>
      intro j
      cases j with
      | zero => exact .inl ⟨_, _, by simp, by simp, h⟩
      | succ j => simpa using ih j
  induction pm with
  | nil => exact .nil
  | cons j pm ih =>
    unfold permL at ih ⊢
    rw [List.filterMap_cons, List.filterMap_cons]
    rcases g r j with ⟨z, w, e1, e2, h⟩ | ⟨e1, e2⟩
    · rw [e1, e2]; exact .cons h ih
    · rw [e1, e2]; exact ih
def tCallGK (sp : Spg) (m k : Nat) (pm : List Nat) (t tk : TA) : TE := fun σ H Q => t σ H fun vs H1 => tk σ H1 fun zs H2 => vs.length = m ∧ zs.length = k ∧ sp (vs ++ permL pm zs) H2 Q
theorem pe_callGK {e : Expr} {m : Nat} (F : FnG X.prog X.w X.K X.mg X.base n f fd ps sp) (hr : Room n X.A) (hg : X.A.guards = some []) (gl : Gl X x) (hm : X.mg x = some (.ref f)) (hk : PySem.W.keepIn X.K (.ref f) = true) (hb : KwB X.K fd ps (ks, pm) m)
    (ha : PA X (e :: es) t) (hkw : PK X kws tk) (hd : (x == ("__debug__" : Str)) = false)
    (g1 : (backToKw pos (keywordEach kws X.env)).all (·.1.isSome) = true) (g2 : (backToKw pos (keywordEach kws X.env)).filterMap (·.1) = ks)
    (h1 : starEach (e :: es) X.env = (false, eval e X.env) :: starEach es X.env)
    (h2 : ((backTo pos (starEach (e :: es) X.env)).any (·.1) || (backToKw pos (keywordEach kws X.env)).any (·.1.isNone)) = false) :
    PE X (.Call (.Name x p) (e :: es) kws pos) (tCallGK sp m ks.length pm t tk) := by
  constructor
  intro pins s σ H Q I h
  apply wpAny_Call_Name_kw
  apply ld_glob I gl hm _ hd
  apply PySem.W.callWith_KW (h₀ := X.base) I.ok.mod.kin hk g1 _ h2 h1
  apply thn (ha.run pos pins s σ H _ I h)
  rintro us s1 ⟨vs, H1, I1, rv, q⟩
  apply thn (hkw.run pos pins s1 σ H1 _ I1 q)
  rintro ws s2 ⟨zs, H2, I2, rz, l1, l2, q2⟩
  refine ⟨I2.kIn, ?_⟩
  rw [g2]
  exact runG F hr hg I2 (hb s2 us ws I2.kIn (by rw [← rv.length]; exact l1) (by rw [← rz.length]; exact l2)) (rv.append (vals_perm rz pm)) q2
theorem pe_callGK0 (F : FnG X.prog X.w X.K X.mg X.base n f fd ps sp) (hr : Room n X.A) (hg : X.A.guards = some []) (gl : Gl X x) (hm : X.mg x = some (.ref f)) (hk : PySem.W.keepIn X.K (.ref f) = true) (hb : KwB X.K fd ps (ks, pm) 0)
    (hkw : PK X kws tk) (hd : (x == ("__debug__" : Str)) = false)
    (g1 : (backToKw pos (keywordEach kws X.env)).all (·.1.isSome) = true) (g2 : (backToKw pos (keywordEach kws X.env)).filterMap (·.1) = ks)
    (h2 : ((backTo pos (starEach [] X.env)).any (·.1) || (backToKw pos (keywordEach kws X.env)).any (·.1.isNone)) = false) :
    PE X (.Call (.Name x p) [] kws pos) (tCallGK sp 0 ks.length pm tNil tk) := by
  constructor
  intro pins s σ H Q I h
  apply wpAny_Call_Name_kw
  apply ld_glob I gl hm _ hd
  apply PySem.W.callWith_KW0 (h₀ := X.base) I.ok.mod.kin hk g1 _ h2
  apply thn (hkw.run pos pins s σ H _ I h)
  rintro ws s2 ⟨zs, H2, I2, rz, l1, l2, q2⟩
  refine ⟨I2.kIn, ?_⟩
  rw [g2]
  exact runG F hr hg I2 (hb s2 [] ws I2.kIn rfl (by rw [← rz.length]; exact l2)) (vals_perm rz pm) q2
end
end MP

/-! ## EngJ.lean -/
set_option Elab.async false
set_option linter.all false
set_option maxRecDepth 100000
namespace MP
open PySem PySem.Spec PyProof.Rows L2
def RepArgs (K : PySem.W.Frag) (H : Hp) (av : Av) : List Arg → List V → List Addr → Prop
  | [], vs, ι => vs = [] ∧ ι = []
  | .p d :: as, vs, ι => ∃ v r, vs = v :: r ∧ RepD K H av d v ∧ RepArgs K H av as r ι
  | .lst xs :: as, vs, ι => ∃ a ws r ι', vs = V.ref a :: r ∧ ι = a :: ι' ∧ H a = some (.lst ws) ∧ RepDs K H av xs ws ∧ RepArgs K H av as r ι'
def RepRet (K : PySem.W.Frag) (H0 : Hp) (ι : List Addr) (av : Av) (H : Hp) : Ret → V → Prop
  | .p d, u => RepD K H av d u
  | .new xs, u => ∃ a vs, u = .ref a ∧ H0 a = none ∧ H a = some (.lst vs) ∧ av a ∧ a ∉ ι ∧ RepDs K H av xs vs
  | .arg j, u => ∃ a, ι[j]? = some a ∧ u = .ref a
abbrev Outs (K : PySem.W.Frag) (av : Av) (H : Hp) (ι : List Addr) (xs : List (List D)) : Prop := Paired (fun a ys => ∃ ws, H a = some (.lst ws) ∧ RepDs K H av ys ws ∧ av a) ι xs
/-- what a def of the table promises -/
def spD (K : PySem.W.Frag) (F : CallF) (f : Nat) (np : Nat) : Spg := fun vs H Q => ∃ (as : List Arg) (ι : List Addr) (av : Av) (r : Ret) (xs : List (List D)),
  vs.length = np ∧ (∀ a ∈ ι, av a) ∧ ι.Nodup ∧ (∀ a, av a → H a ≠ none) ∧ RepArgs K H av as vs ι ∧ F f as = some (r, xs) ∧
  ∀ (av' : Av) (H' : Hp) (u : V), Stp ι av H ι av' H' → (∀ a, av' a → H' a ≠ none) → Outs K av' H' ι xs → RepRet K H ι av' H' r u → Q u H'
section
variable {K : PySem.W.Frag} {H H0 H1 H2 H' : Hp} {av av' av1 av2 : Av} {ι ι' ι1 ι2 : List Addr} {h h' h1 h2 : Hs} {σ : L2.St} {ρ : Env'} {X : Cx}
theorem RepArgs.length : ∀ {as : List Arg} {vs : List V} {ι : List Addr}, RepArgs K H av as vs ι → vs.length = as.length
  | [], _, _, h => by rw [h.1]; rfl
  | .p d :: as, _, _, h => by
    obtain ⟨v, r, rfl, _, h2⟩ := h
    simp [RepArgs.length h2]
  | .lst xs :: as, _, _, h => by
    obtain ⟨a, ws, r, ι', rfl, _, _, _, h2⟩ := h
    simp [RepArgs.length h2]
/-! ### inside: the state at a def's entry -/
theorem heap_len : ∀ {as : List Arg} {vs : List V} {ι : List Addr}, RepArgs K H av as vs ι → ι.length = (heap' as).length
  | [], _, _, h => by rw [h.2]; rfl
  | .p d :: as, _, _, h => by
    obtain ⟨v, r, _, _, h2⟩ := h
    simp only [heap']
    exact heap_len (as := as) h2
  | .lst xs :: as, _, _, h => by
    obtain ⟨a, ws, r, ι', _, rfl, _, _, h2⟩ := h
    simp [heap', heap_len h2]
theorem heap_ob : ∀ {as : List Arg} {vs : List V} {ι : List Addr}, RepArgs K H av as vs ι → ∀ (n : Nat) (o : O), (heap' as)[n]? = some o →
    ∃ a ws xs, o = .lst false xs ∧ ι[n]? = some a ∧ H a = some (.lst ws) ∧ RepDs K H av xs ws
  | [], _, _, h, n, o, e => by simp [heap'] at e
  | .p d :: as, _, _, h, n, o, e => by
    obtain ⟨v, r, _, _, h2⟩ := h
    simp only [heap'] at e
    exact heap_ob (as := as) h2 n o e
  | .lst xs :: as, _, _, h, n, o, e => by
    obtain ⟨a, ws, r, ι', _, rfl, q1, q2, h2⟩ := h
    cases n with
    | zero =>
      simp [heap'] at e
      subst e
      exact ⟨a, ws, xs, rfl, rfl, q1, q2⟩
    | succ n =>
      obtain ⟨a', ws', xs', g1, g2, g3⟩ := heap_ob h2 n o (by simpa [heap'] using e)
      exact ⟨a', ws', xs', g1, by simpa using g2, g3⟩
theorem sim_entry {as : List Arg} {vs : List V} (r : RepArgs K H av as vs ι) (sub : ∀ a ∈ ι, av a) (nd : ι.Nodup) (live : ∀ a, av a → H a ≠ none) : SimH K (heap' as) ι av H := by
  refine ⟨heap_len r, nd, fun n a _ e _ _ => sub a (List.mem_of_getElem? e), fun a m => live a (sub a m), live, fun n o e _ => ?_⟩
  obtain ⟨a, ws, xs, rfl, q1, q2, q3⟩ := heap_ob r n o e
  exact ⟨a, ws, q1, q2, q3⟩
theorem go_rep : ∀ {as : List Arg} {vs : List V} {ι κ : List Addr}, RepArgs K H av as vs ι → (start'.go as κ.length).length = vs.length ∧
    ∀ (i : Nat) (v : Val), (start'.go as κ.length)[i]? = some (some v) → ∃ u, vs[i]? = some u ∧ RepV K (κ ++ ι) av H v u
  | [], vs, ι, κ, h => by
    obtain ⟨rfl, _⟩ := h
    simp [start'.go]
  | .p d :: as, vs, ι, κ, h => by
    obtain ⟨v, r, rfl, h1, h2⟩ := h
    obtain ⟨g1, g2⟩ := go_rep (κ := κ) h2
    refine ⟨by simp [start'.go, g1], fun i w e => ?_⟩
    cases i with
    | zero =>
      simp [start'.go] at e
      subst e
      exact ⟨v, rfl, h1⟩
    | succ i =>
      obtain ⟨u, q1, q2⟩ := g2 i w (by simpa [start'.go] using e)
      exact ⟨u, by simpa using q1, q2⟩
  | .lst xs :: as, vs, ι, κ, h => by
    obtain ⟨a, ws, r, ι', rfl, rfl, h0, h1, h2⟩ := h
    obtain ⟨g1, g2⟩ := go_rep (κ := κ ++ [a]) h2
    simp only [List.length_append, List.length_cons, List.length_nil, Nat.zero_add] at g1 g2
    refine ⟨by simp [start'.go, g1], fun i w e => ?_⟩
    cases i with
    | zero =>
      simp [start'.go] at e
      subst e
      exact ⟨.ref a, rfl, a, by simp, rfl⟩
    | succ i =>
      obtain ⟨u, q1, q2⟩ := g2 i w (by simpa [start'.go] using e)
      exact ⟨u, by simpa using q1, by simpa using q2⟩
theorem go_len : ∀ (as : List Arg) (k : Nat), (start'.go as k).length = as.length
  | [], _ => rfl
  | .p _ :: as, k => by simp [start'.go, go_len as k]
  | .lst _ :: as, k => by simp [start'.go, go_len as (k + 1)]
theorem env_entry {as : List Arg} {vs : List V} {N : List Str} (r : RepArgs K H av as vs ι) (hl : as.length ≤ N.length) : RepE K (start' N.length as 0) ι av (L2.start N vs) H := by
  have hn := r.length
  have g0 := go_rep (κ := []) r
  simp only [List.length_nil, List.nil_append] at g0
  obtain ⟨g1, g2⟩ := g0
  unfold start' L2.start
  refine ⟨?_, fun i v e => ?_⟩
  · simp only [List.length_append, List.length_map, List.length_replicate, g1, hn]
  · by_cases hi : i < (start'.go as 0).length
    · rw [List.getElem?_append_left hi] at e
      obtain ⟨u, q1, q2⟩ := g2 i v e
      refine ⟨u, ?_, q2⟩
      have hi' : i < (vs.map some).length := by rw [List.length_map, ← g1]; exact hi
      rw [List.getElem?_append_left hi', List.getElem?_map, q1]
      rfl
    · rw [List.getElem?_append_right (by omega), List.getElem?_replicate] at e
      split at e <;> cases e
theorem outs_ok : ∀ {as : List Arg} {vs : List V} {ι κ : List Addr} {h : Hs} {xs : List (List D)}, RepArgs K H0 av as vs ι → outs' as h = some xs →
    (∀ (n : Nat) (o : O), h[n]? = some o → o ≠ .gone → ∃ a ws, (ι ++ κ)[n]? = some a ∧ H a = some (.lst ws) ∧ match o with
      | .lst _ ys => RepDs K H av' ys ws ∧ av' a
      | .ref _ _ => True
      | .gone => True) → Outs K av' H ι xs
  | [], _, ι, _, _, xs, r, e, _ => by
    obtain ⟨_, rfl⟩ := r
    simp [outs'] at e
    subst e
    exact .nil
  | .p d :: as, _, ι, κ, h, xs, r, e, k => by
    obtain ⟨v, r', _, _, h2⟩ := r
    exact outs_ok (as := as) h2 (by simpa [outs'] using e) k
  | .lst ys :: as, _, ι, κ, h, xs, r, e, k => by
    obtain ⟨a, ws, r', ι', _, rfl, _, _, h2⟩ := r
    cases h with
    | nil => simp [outs'] at e
    | cons o h =>
      cases o with
      | ref b ns => simp [outs'] at e
      | gone => simp [outs'] at e
      | lst b zs =>
        simp only [outs'] at e
        split at e
        · rename_i q eq
          simp only [Option.some.injEq] at e
          subst e
          obtain ⟨a', ws', k1, k2, k3⟩ := k 0 _ rfl nofun
          simp at k1
          subst k1
          refine .cons ⟨ws', k2, k3⟩ (outs_ok (κ := κ) h2 eq fun n o e g => ?_)
          obtain ⟨a2, ws2, g1, g2⟩ := k (n + 1) o (by simpa using e) g
          exact ⟨a2, ws2, by simpa using g1, g2⟩
        · cases e
end
end MP

/-! ## EngK.lean -/
set_option Elab.async false
set_option linter.all false
set_option maxRecDepth 100000
namespace MP
open PySem PySem.Spec PyProof.Rows L2
section
variable {K : PySem.W.Frag} {H H0 H1 H2 H' : Hp} {av av' av1 av2 : Av} {ι ι' ι0 ι1 ι2 : List Addr} {h h' h1 h2 : Hs} {σ : L2.St} {ρ : Env'} {X : Cx}
/-- a place of a list that is handed in, its address -/
def PlOk (H0 : Hp) (ι : List Addr) (av : Av) (h : Hs) (ns : List V) (pl : Option Nat) (a : Addr) : Prop := match pl with
  | some n => ι[n]? = some a ∧ ∃ xs, h[n]? = some (.lst false xs)
  | none => H0 a = none ∧ a ∉ ι ∧ av a ∧ V.ref a ∈ ns
theorem PlOk.av_ {ns : List V} {pl : Option Nat} {a : Addr} (sub : ∀ (n : Nat) (a : Addr) (o : O), ι[n]? = some a → h[n]? = some o → o ≠ .gone → av a) (p : PlOk H0 ι av h ns pl a) : av a := by
  cases pl with
  | some n => exact let ⟨_, q⟩ := p.2; sub n a _ p.1 q nofun
  | none => exact p.2.2.1
theorem PlOk.weak {ns ns' : List V} {pl : Option Nat} {a : Addr} (s : ∀ x ∈ ns, x ∈ ns') (p : PlOk H0 ι av h ns pl a) : PlOk H0 ι av h ns' pl a := by
  cases pl with
  | some n => exact p
  | none => exact ⟨p.1, p.2.1, p.2.2.1, s _ p.2.2.2⟩
theorem paired_imp {α β : Type} {F G : α → β → Prop} (i : ∀ a b, F a b → G a b) : ∀ {xs : List α} {ys : List β}, Paired F xs ys → Paired G xs ys
  | _, _, .nil => .nil
  | _, _, .cons r t => .cons (i _ _ r) (paired_imp i t)
theorem paired_of_mem {α β : Type} {F : α → β → Prop} : ∀ {xs : List α} {ys : List β} {y : β}, Paired F xs ys → y ∈ ys → ∃ x, x ∈ xs ∧ F x y
  | _, _, y, .nil, m => by simp at m
  | _, _, y, .cons r t, m => by
    rcases List.mem_cons.mp m with e | m
    · subst e; exact ⟨_, List.mem_cons_self, r⟩
    · obtain ⟨x, m1, q⟩ := paired_of_mem t m
      exact ⟨x, List.mem_cons_of_mem _ m1, q⟩
theorem args_ok (sim : SimH K h ι av H) : ∀ {vs : List Val} {us : List V} {as : List (Arg × Option Nat)}, RepRs K H0 ι av H vs us → argsOf h vs = some as → dupN (placesOf as) = false →
    ∃ ι0, RepArgs K H av (as.map (·.1)) us ι0 ∧ Paired (PlOk H0 ι av h (newsOf vs us)) (placesOf as) ι0 ∧ ι0.Nodup
  | [], us, as, r, e, _ => by
    cases r
    simp only [argsOf, Option.some.injEq] at e
    subst e
    exact ⟨[], ⟨rfl, rfl⟩, .nil, List.nodup_nil⟩
  | v :: vs, us, as, r, e, dd => by
    obtain ⟨u, us, rfl, r1, r2, r3⟩ := r
    simp only [argsOf] at e
    split at e
    · cases e
    · rename_i a ea
      split at e
      · cases e
      · rename_i as' eas
        simp only [Option.some.injEq] at e
        subst e
        cases v with
        | p d =>
          simp only [argOf, Option.some.injEq] at ea
          subst ea
          obtain ⟨ι0, g1, g2, g3⟩ := args_ok sim r2 eas dd
          exact ⟨ι0, ⟨u, us, rfl, r1, g1⟩, g2, g3⟩
        | new xs =>
          simp only [argOf, Option.some.injEq] at ea
          subst ea
          obtain ⟨ι0, g1, g2, g3⟩ := args_ok sim r2 eas dd
          obtain ⟨b, ws, rfl, q0, q1, q2, q3, q4⟩ := r1
          refine ⟨b :: ι0, ⟨b, ws, us, ι0, rfl, rfl, q1, q4, g1⟩, .cons ⟨q0, q3, q2, by simp [newsOf]⟩ (paired_imp (fun _ _ p => p.weak fun x m => by simp [newsOf, m]) g2), List.nodup_cons.mpr ⟨fun m => ?_, g3⟩⟩
          obtain ⟨pl, _, p⟩ := paired_of_mem g2 m
          cases pl with
          | some n => exact q3 (List.mem_of_getElem? p.1)
          | none => exact r3 rfl p.2.2.2
        | loc n =>
          simp only [argOf] at ea
          split at ea
          · rename_i xs en
            simp only [Option.some.injEq] at ea
            subst ea
            simp only [placesOf, dupN, Bool.or_eq_false_iff] at dd
            obtain ⟨ι0, g1, g2, g3⟩ := args_ok sim r2 eas dd.2
            obtain ⟨b, q, rfl⟩ := r1
            obtain ⟨b', ws, k1, k2, k3⟩ := sim.ob n _ en nofun
            rw [q] at k1; cases k1
            refine ⟨b :: ι0, ⟨b, ws, us, ι0, rfl, rfl, k2, k3, g1⟩, .cons ⟨q, xs, en⟩ (paired_imp (fun _ _ p => p.weak fun x m => by simpa [newsOf] using m) g2), List.nodup_cons.mpr ⟨fun m => ?_, g3⟩⟩
            obtain ⟨pl, m1, p⟩ := paired_of_mem g2 m
            cases pl with
            | some k =>
              have ek : k = n := by
                obtain ⟨l1, e1⟩ := List.getElem?_eq_some_iff.mp p.1
                obtain ⟨l2, e2⟩ := List.getElem?_eq_some_iff.mp q
                exact (List.getElem_inj sim.nd).mp (e1.trans e2.symm)
              subst ek
              have z := List.any_eq_false.mp dd.1 _ m1
              simp at z
            | none => exact p.2.1 (List.mem_of_getElem? q)
          · cases ea
/-- the heap behind a call -/
theorem back_ok : ∀ {pls : List (Option Nat)} {xs : List (List D)} {ι0 : List Addr} {h h' h0 : Hs} {ns : List V},
    Paired (PlOk H0 ι av h0 ns) pls ι0 → Outs K av' H' ι0 xs → putBack pls xs h = some h' → ι0.Nodup → ι.Nodup → h.length = ι.length → (∀ (n : Nat) (o : O), h[n]? = some o → o.locked = true → h0[n]? = some o) →
    (∀ (n : Nat) (o : O), h[n]? = some o → o ≠ .gone → ∃ a, ι[n]? = some a ∧ (a ∈ ι0 ∨ ∃ vs, av' a ∧ H' a = some (.lst vs) ∧ match o with
      | .lst _ xs => RepDs K H' av' xs vs
      | .ref _ ns => Paired (fun n v => ∃ b, ι[n]? = some b ∧ v = V.ref b) ns vs
      | .gone => True)) →
    h'.length = ι.length ∧ (∀ (n : Nat) (o : O), h[n]? = some o → o.locked = true → (∀ a ∈ ι0, ι[n]? ≠ some a ∨ False ∨ True) → True) ∧
    (∀ (n : Nat) (o : O), h'[n]? = some o → o ≠ .gone → ∃ a vs, ι[n]? = some a ∧ av' a ∧ H' a = some (.lst vs) ∧ match o with
      | .lst _ xs => RepDs K H' av' xs vs
      | .ref _ ns => Paired (fun n v => ∃ b, ι[n]? = some b ∧ v = V.ref b) ns vs
      | .gone => True) := by
  intro pls
  induction pls with
  | nil =>
    intro xs ι0 h h' h0 ns p o e nd ndι hl lk k
    cases p
    cases o
    simp only [putBack, Option.some.injEq] at e
    subst e
    refine ⟨hl, fun _ _ _ _ _ => trivial, fun n ob en g => ?_⟩
    obtain ⟨a, q, m | ⟨vs, k1, k2⟩⟩ := k n ob en g
    · simp at m
    · exact ⟨a, vs, q, k1, k2⟩
  | cons pl pls ih =>
    intro xs ι0 h h' h0 ns p o e nd ndι hl lk k
    cases p with
    | cons p1 p2 =>
      rename_i a ι0
      cases o with
      | cons o1 o2 =>
        rename_i ys xs
        obtain ⟨nd1, nd2⟩ := List.nodup_cons.mp nd
        cases pl with
        | none =>
          simp only [putBack] at e
          refine (ih p2 o2 e nd2 ndι hl lk fun n ob en g => ?_).imp id fun z => ⟨fun _ _ _ _ _ => trivial, z.2⟩
          obtain ⟨b, q, m | z⟩ := k n ob en g
          · rcases List.mem_cons.mp m with m | m
            · subst m
              exact absurd (List.mem_of_getElem? q) p1.2.1
            · exact ⟨b, q, .inl m⟩
          · exact ⟨b, q, .inr z⟩
        | some m =>
          simp only [putBack] at e
          obtain ⟨ws, w1, w2⟩ := o1
          obtain ⟨pa, pxs, pm⟩ := p1
          refine (ih p2 o2 e nd2 ndι (by rw [List.length_set]; exact hl) (fun n ob en l => ?_) fun n ob en g => ?_).imp id fun z => ⟨fun _ _ _ _ _ => trivial, z.2⟩
          · by_cases hn : m = n
            · subst hn
              by_cases hm : m < h.length
              · rw [List.getElem?_set_self hm] at en
                cases en
                cases l
              · rw [List.getElem?_eq_none (by rw [List.length_set]; omega)] at en
                cases en
            · rw [List.getElem?_set_ne hn] at en
              exact lk n ob en l
          · by_cases hn : m = n
            · subst hn
              by_cases hm : m < h.length
              · rw [List.getElem?_set_self hm] at en
                cases en
                exact ⟨a, pa, .inr ⟨ws, w2.2, w1, w2.1⟩⟩
              · rw [List.getElem?_eq_none (by rw [List.length_set]; omega)] at en
                cases en
            · rw [List.getElem?_set_ne hn] at en
              obtain ⟨b, q, z⟩ := k n ob en g
              refine ⟨b, q, ?_⟩
              rcases z with z | z
              · rcases List.mem_cons.mp z with z | z
                · subst z
                  exfalso
                  obtain ⟨l1, e1⟩ := List.getElem?_eq_some_iff.mp q
                  obtain ⟨l2, e2⟩ := List.getElem?_eq_some_iff.mp pa
                  exact hn ((List.getElem_inj ndι).mp (e2.trans e1.symm))
                · exact .inl z
              · exact .inr z
theorem back_lk : ∀ {pls : List (Option Nat)} {xs : List (List D)} {ι0 : List Addr} {h h' h0 : Hs} {ns : List V},
    Paired (PlOk H0 ι av h0 ns) pls ι0 → putBack pls xs h = some h' → ∀ (n : Nat) (o : O), h0[n]? = some o → o.locked = true → h[n]? = some o → h'[n]? = some o := by
  intro pls
  induction pls with
  | nil =>
    intro xs ι0 h h' h0 ns p e n o _ _ en
    cases xs with
    | nil => simp only [putBack, Option.some.injEq] at e; subst e; exact en
    | cons x xs => simp [putBack] at e
  | cons pl pls ih =>
    intro xs ι0 h h' h0 ns p e n o e0 l en
    cases p with
    | cons p1 p2 =>
      cases xs with
      | nil => cases pl <;> simp [putBack] at e
      | cons x xs =>
        cases pl with
        | none => exact ih p2 (by simpa [putBack] using e) n o e0 l en
        | some m =>
          simp only [putBack] at e
          obtain ⟨pa, pxs, pm⟩ := p1
          refine ih p2 e n o e0 l ?_
          by_cases hn : m = n
          · subst hn
            rw [e0] at pm
            cases pm
            cases l
          · rw [List.getElem?_set_ne hn]
            exact en
end
end MP

/-! ## EngL.lean -/
set_option Elab.async false
set_option linter.all false
set_option maxRecDepth 100000
namespace MP
open PySem PySem.Spec PyProof.Rows L2
section
variable {K : PySem.W.Frag} {H H0 H1 H2 H' : Hp} {av av' av1 av2 avs : Av} {ι ι' ι0 ι1 ι2 ιs : List Addr} {h h' h1 h2 hs : Hs} {σ : L2.St} {ρ : Env'} {X : Cx}
/-! ### keeping as data -/
/-- the state with some of its new lists kept -/
theorem Pst.less (p : Pst K ιs avs H0 hs ι av H h) (sim0 : ∀ a, avs a → H0 a ≠ none) {av' : Av} (m : ∀ a, av' a → av a) (kp : ∀ a, av a → ¬ av' a → H0 a = none ∧ a ∉ ι) : Pst K ιs avs H0 hs ι av' H h := by
  refine ⟨⟨p.stp.ext, p.stp.keep, p.stp.alive, fun a q => p.stp.avs a (m a q), fun a q n e => ?_⟩, ⟨p.sim.len, p.sim.nd, fun n a o e1 e2 g => ?_, p.sim.lv, fun a q => p.sim.live a (m a q), fun n o e g => ?_⟩, p.lk⟩
  · by_cases z : av' a
    · exact z
    · exact absurd (kp a (p.stp.avm a q n e) z).1 e
  · by_cases z : av' a
    · exact z
    · exact absurd (List.mem_of_getElem? e1) (kp a (p.sim.sub n a o e1 e2 g) z).2
  · obtain ⟨a, vs, q1, q2, q3⟩ := p.sim.ob n o e g
    refine ⟨a, vs, q1, q2, ?_⟩
    cases o with
    | lst k xs => exact RepDs.lessAv m q3
    | ref k ns => exact q3
    | gone => trivial
theorem frzD_ok {v : Val} {u : V} {d : D} (p : Pst K ιs avs H0 hs ι av H h) (sim0 : ∀ a, avs a → H0 a ≠ none) (r : RepR K H0 ι av H v u) (e : frzD v = some d) :
    ∃ av', (∀ a, av' a → av a) ∧ Pst K ιs avs H0 hs ι av' H h ∧ RepD K H av' d u := by
  cases v with
  | p d =>
    simp only [frzD, Option.some.injEq] at e
    subst e
    exact ⟨av, fun _ q => q, p, r⟩
  | loc n => cases e
  | new xs =>
    simp only [frzD, Option.some.injEq] at e
    subst e
    obtain ⟨a, vs, rfl, q0, q1, q2, q3, q4⟩ := r
    refine ⟨fun b => av b ∧ b ≠ a, fun _ q => q.1, p.less sim0 (fun _ q => q.1) (fun b z1 z2 => ?_), a, vs, rfl, q1, fun z => z.2 rfl, RepDs.lessAv (fun _ q => q.1) q4⟩
    have : b = a := Classical.byContradiction fun z => z2 ⟨z1, z⟩
    subst this
    exact ⟨q0, q3⟩
theorem frzDs_rep : ∀ {vs : List Val} {us : List V} {ds : List D} {av' : Av}, RepRs K H0 ι av H vs us → frzDs vs = some ds → (∀ a, av' a → av a) → (∀ a, V.ref a ∈ newsOf vs us → ¬ av' a) → RepDs K H av' ds us
  | [], us, ds, av', r, e, _, _ => by
    cases r
    simp only [frzDs, Option.some.injEq] at e
    subst e
    rfl
  | v :: vs, us, ds, av', r, e, m, nn => by
    obtain ⟨u, us, rfl, r1, r2, r3⟩ := r
    simp only [frzDs] at e
    split at e
    · cases e
    · rename_i d ed
      split at e
      · cases e
      · rename_i ds' eds
        simp only [Option.some.injEq] at e
        subst e
        refine ⟨u, us, rfl, ?_, frzDs_rep r2 eds m fun a q => nn a ?_⟩
        · cases v with
          | p d' =>
            simp only [frzD, Option.some.injEq] at ed
            subst ed
            exact RepD.lessAv m (show RepD K H av d' u from r1)
          | loc n => cases ed
          | new xs =>
            simp only [frzD, Option.some.injEq] at ed
            subst ed
            obtain ⟨a, ws, rfl, q0, q1, q2, q3, q4⟩ := r1
            exact ⟨a, ws, rfl, q1, nn a (by simp [newsOf]), RepDs.lessAv m q4⟩
        · cases v <;> simp [newsOf, q]
theorem newsOf_mem : ∀ {vs : List Val} {us : List V}, RepRs K H0 ι av H vs us → ∀ {a : Addr}, V.ref a ∈ newsOf vs us → H0 a = none ∧ a ∉ ι
  | [], us, r, a, m => by simp [newsOf] at m
  | v :: vs, us, r, a, m => by
    obtain ⟨u, us, rfl, r1, r2, r3⟩ := r
    cases v with
    | new xs =>
      simp only [newsOf, List.mem_cons] at m
      rcases m with m | m
      · obtain ⟨b, ws, rfl, q0, q1, q2, q3, q4⟩ := r1
        cases m
        exact ⟨q0, q3⟩
      · exact newsOf_mem r2 m
    | p d => exact newsOf_mem r2 m
    | loc n => exact newsOf_mem r2 m
theorem frzDs_ok {vs : List Val} {us : List V} {ds : List D} (p : Pst K ιs avs H0 hs ι av H h) (sim0 : ∀ a, avs a → H0 a ≠ none) (r : RepRs K H0 ι av H vs us) (e : frzDs vs = some ds) :
    ∃ av', (∀ a, av' a → av a) ∧ Pst K ιs avs H0 hs ι av' H h ∧ RepDs K H av' ds us := by
  refine ⟨fun a => av a ∧ V.ref a ∉ newsOf vs us, fun _ q => q.1, p.less sim0 (fun _ q => q.1) (fun a z1 z2 => ?_), frzDs_rep r e (fun _ q => q.1) fun a q z => z.2 q⟩
  exact newsOf_mem r (Classical.byContradiction fun z => z2 ⟨z1, z⟩)
/-! ### binding a name -/
theorem bind_ok {v : Val} {u : V} (p : Pst K ιs avs H0 hs ι av H h) (r : RepR K H0 ι av H v u) :
    ∃ ι', Pst K ιs avs H0 hs ι' av H (bind v h).2 ∧ RepV K ι' av H (bind v h).1 u ∧ ∃ κ, ι' = ι ++ κ := by
  cases v with
  | p d => exact ⟨ι, p, r, [], by simp⟩
  | loc n => exact ⟨ι, p, r, [], by simp⟩
  | new xs =>
    obtain ⟨a, vs, rfl, q0, q1, q2, q3, q4⟩ := r
    obtain ⟨κ, e1, f1⟩ := p.stp.ext
    have ln := p.sim.len
    refine ⟨ι ++ [a], ⟨⟨⟨κ ++ [a], by rw [e1, List.append_assoc], fun b m => ?_⟩, p.stp.keep, p.stp.alive, p.stp.avs, p.stp.avm⟩,
      ⟨by simp [bind, ln], ?_, fun n b o e1 e2 g => ?_, fun b m => ?_, p.sim.live, fun n o e g => ?_⟩, fun n o e l => ?_⟩, ⟨a, ?_, rfl⟩, [a], rfl⟩
    · rcases List.mem_append.mp m with m | m
      · exact f1 b m
      · rw [List.mem_singleton.mp m]; exact q0
    · refine List.nodup_append.mpr ⟨p.sim.nd, by simp, fun b mb c mc z => ?_⟩
      subst z
      rw [List.mem_singleton.mp mc] at mb
      exact q3 mb
    · by_cases hn : n < ι.length
      · rw [List.getElem?_append_left hn] at e1
        rw [show (bind (.new xs) h).2 = h ++ [.lst false xs] from rfl, List.getElem?_append_left (by rw [← ln]; exact hn)] at e2
        exact p.sim.sub n b o e1 e2 g
      · rw [List.getElem?_append_right (by omega)] at e1
        have m := List.mem_of_getElem? e1
        rw [List.mem_singleton.mp m]; exact q2
    · rcases List.mem_append.mp m with m | m
      · exact p.sim.lv b m
      · rw [List.mem_singleton.mp m, q1]; simp
    · have old : ∀ {n : Nat} {b : Addr}, ι[n]? = some b → (ι ++ [a])[n]? = some b := fun {n b} z => by
        obtain ⟨l, _⟩ := List.getElem?_eq_some_iff.mp z
        rw [List.getElem?_append_left l]; exact z
      by_cases hn : n < h.length
      · rw [show (bind (.new xs) h).2 = h ++ [.lst false xs] from rfl, List.getElem?_append_left hn] at e
        obtain ⟨b, ws, k1, k2, k3⟩ := p.sim.ob n o e g
        refine ⟨b, ws, old k1, k2, ?_⟩
        cases o with
        | lst k ys => exact k3
        | ref k ns => exact paired_imp (fun m v ⟨c, z1, z2⟩ => ⟨c, old z1, z2⟩) k3
        | gone => trivial
      · rw [show (bind (.new xs) h).2 = h ++ [.lst false xs] from rfl] at e
        have hn' : n = h.length := by
          obtain ⟨l, _⟩ := List.getElem?_eq_some_iff.mp e
          simp at l
          omega
        subst hn'
        rw [List.getElem?_append_right (Nat.le_refl _)] at e
        simp at e
        subst e
        exact ⟨a, vs, by rw [← ln]; simp, q1, q4⟩
    · show (h ++ [O.lst false xs])[n]? = some o
      have := p.lk n o e l
      obtain ⟨l2, _⟩ := List.getElem?_eq_some_iff.mp this
      rw [List.getElem?_append_left l2]
      exact this
    · show (ι ++ [a])[h.length]? = some a
      rw [← ln]
      simp
/-! ### a call -/
theorem paired_get {α β : Type} {F : α → β → Prop} : ∀ {xs : List α} {ys : List β} {j : Nat} {y : β}, Paired F xs ys → ys[j]? = some y → ∃ x, xs[j]? = some x ∧ F x y
  | _, _, _, _, .nil, e => by simp at e
  | _, _, 0, _, .cons r _, e => by simp at e; subst e; exact ⟨_, rfl, r⟩
  | _, _, j + 1, _, .cons _ t, e => by
    obtain ⟨y, h1, h2⟩ := paired_get (j := j) t (by simpa using e)
    exact ⟨y, by simpa using h1, h2⟩
theorem call_ok {F : CallF} {f np : Nat} {vs : List Val} {us : List V} {v : Val} {Q : VK} (p : Pst K ιs avs H0 hs ι av H h) (sim0 : ∀ a, avs a → H0 a ≠ none) (r : RepRs K H0 ι av H vs us) (e : callV F f vs h = some (v, h')) (hn : us.length = np)
    (k : ∀ ι' av' H' u, Pst K ιs avs H0 hs ι' av' H' h' → RepR K H0 ι' av' H' v u → Q u H') : spD K F f np us H Q := by
  unfold callV at e
  split at e
  · cases e
  · rename_i as eas
    split at e
    · cases e
    · rename_i dd
      split at e
      · cases e
      · rename_i rt xs ef
        split at e
        · cases e
        · rename_i h2 eb
          split at e
          · cases e
          · rename_i w ew
            simp only [Option.some.injEq, Prod.mk.injEq] at e
            obtain ⟨rfl, rfl⟩ := e
            obtain ⟨ι0, g1, g2, g3⟩ := args_ok p.sim r eas dd
            have sub : ∀ a ∈ ι0, av a := fun a m => by
              obtain ⟨pl, _, q⟩ := paired_of_mem g2 m
              exact q.av_ p.sim.sub
            refine ⟨_, ι0, av, rt, xs, hn, sub, g3, p.sim.live, g1, ef, fun av' H' u st lv ou rr => ?_⟩
            have fresh : ∀ a ∈ ι0, a ∉ ι → H0 a = none := fun a m n => by
              obtain ⟨pl, _, q⟩ := paired_of_mem g2 m
              cases pl with
              | some j => exact absurd (List.mem_of_getElem? q.1) n
              | none => exact q.1
            -- the whole step
            have dead : ∀ a, H a = none → H0 a = none := fun a z => by
              cases q : H0 a with
              | none => rfl
              | some o => exact absurd z (p.stp.alive a (by rw [q]; simp))
            have st2 : Stp ιs avs H0 ι av' H' := by
              have out : ∀ a, H0 a ≠ none → a ∉ ιs → a ∉ ι0 := fun a q n m => by
                by_cases z : a ∈ ι
                · cases e : H0 a with
                  | none => exact q e
                  | some o => exact absurd z (p.stp.nmem e n)
                · exact q (fresh a m z)
              refine ⟨p.stp.ext, fun a o q n => ?_, fun a q => st.alive a (p.stp.alive a q), fun a q => ?_, fun a q n e => st.avm a (p.stp.avm a q n e) (out a e n) (p.stp.alive a e)⟩
              · have q1 := p.stp.keep a o q n
                refine st.keep a o q1 ?_
                rcases n with n | n
                · exact .inl (out a (by rw [q]; simp) n)
                · refine .inr fun z => ?_
                  rcases p.stp.avs a z with y | y
                  · exact n y
                  · rw [q] at y; cases y
              · rcases st.avs a q with z | z
                · exact p.stp.avs a z
                · exact .inr (dead a z)
            have keepV : ∀ (n : Nat) (o : O), h[n]? = some o → o ≠ .gone → ∃ a, ι[n]? = some a ∧ (a ∈ ι0 ∨ ∃ vs, av' a ∧ H' a = some (.lst vs) ∧ match o with
                | .lst _ xs => RepDs K H' av' xs vs
                | .ref _ ns => Paired (fun n v => ∃ b, ι[n]? = some b ∧ v = V.ref b) ns vs
                | .gone => True) := fun n o q g => by
              obtain ⟨a, ws, z1, z2, z3⟩ := p.sim.ob n o q g
              refine ⟨a, z1, ?_⟩
              by_cases m : a ∈ ι0
              · exact .inl m
              · refine .inr ⟨ws, st.avm a (p.sim.sub n a o z1 q g) m (by rw [z2]; simp), st.keep a _ z2 (.inl m), ?_⟩
                cases o with
                | lst b ys => exact st.repDs sub z3
                | ref b ns => exact z3
                | gone => trivial
            obtain ⟨b1, _, b3⟩ := back_ok g2 ou eb g3 p.sim.nd p.sim.len.symm (fun n o q _ => q) keepV
            have sim2 : SimH K h2 ι av' H' := ⟨b1.symm, p.sim.nd, fun n a o e1 e2 g => let ⟨a', _, z1, z2, _⟩ := b3 n o e2 g; by rw [e1] at z1; cases z1; exact z2, fun a m => st.alive a (p.sim.lv a m), lv, fun n o e g => let ⟨a, vs, z1, _, z3⟩ := b3 n o e g; ⟨a, vs, z1, z3⟩⟩
            refine k ι av' H' u ⟨st2, sim2, fun n o q l => back_lk g2 eb n o (p.lk n o q l) l (p.lk n o q l)⟩ ?_
            -- the result
            cases rt with
            | p d =>
              simp only [retV, Option.some.injEq] at ew
              subst ew
              exact rr
            | new ys =>
              simp only [retV, Option.some.injEq] at ew
              subst ew
              obtain ⟨a, ws, rfl, q0, q1, q2, q3, q4⟩ := rr
              refine ⟨a, ws, rfl, dead a q0, q1, q2, fun m => ?_, q4⟩
              exact absurd q0 (p.sim.lv a m)
            | arg j =>
              obtain ⟨a, q1, rfl⟩ := rr
              obtain ⟨pl, q2, q3⟩ := paired_get g2 q1
              simp only [retV, q2] at ew
              cases pl with
              | some n =>
                simp only [Option.some.injEq] at ew
                subst ew
                exact ⟨a, q3.1, rfl⟩
              | none =>
                simp only at ew
                split at ew
                · rename_i ys ey
                  simp only [Option.some.injEq] at ew
                  subst ew
                  obtain ⟨a', z1, ws, z2, z3, z4⟩ := paired_get ou ey
                  rw [q1] at z1; cases z1
                  exact ⟨a, ws, rfl, q3.1, z2, z4, q3.2.1, z3⟩
                · cases ew
end
end MP

/-! ## EngM.lean -/
set_option Elab.async false
set_option linter.all false
set_option maxRecDepth 100000
namespace MP
open PySem PySem.Spec PyProof.Rows L2
/-! ### shapes -/
def isStar : Expr → Bool
  | .Starred .. => true
  | _ => false
def isSlice : Expr → Bool
  | .Slice .. => true
  | _ => false
def isSet : Expr → Bool
  | .Set .. => true
  | _ => false
def isComp : Expr → Bool
  | .ListComp .. => true
  | .SetComp .. => true
  | .DictComp .. => true
  | _ => false
def isTest : Expr → Bool
  | .UnaryOp .. => true
  | .BoolOp .. => true
  | .IfExp .. => true
  | .Compare .. => true
  | _ => false
theorem star_no {e : Expr} (h : isStar e = false) (es : List Expr) (env : Env) : starEach (e :: es) env = (false, eval e env) :: starEach es env := by cases e <;> first | rfl | cases h
theorem ix_no {e : Expr} (h : isSlice e = false) : PlainIx e := by cases e <;> first | (intro _ _; rfl) | cases h
theorem set_no {e : Expr} (h : isSet e = false) (env : Env) : ∀ x, foldedSetIterable e env x = pure x := by cases e <;> first | (intro _; rfl) | cases h
theorem mark_no {e : Expr} (h : isSet e = false) (op : CmpOp) : behindInMarks op e = false := by cases e <;> first | rfl | cases h
theorem comp_no {e : Expr} (h : isComp e = false) (t : Option Expr) (l : Nat) (env : Env) : swapsWith e t l env = pure false := by cases e <;> first | rfl | cases h
theorem test_no {e : Expr} (h : isTest e = false) (env : Env) (whole : Sem Value) : isTrue e env whole = (do let v ← whole; standAt e.pos; holding [v] (truthy v)) := by cases e <;> first | rfl | cases h
theorem back_no {es : List Expr} (h : es.all (fun e => !isStar e) = true) (pos : Pos) (env : Env) : (backTo pos (starEach es env)).any (·.1) = false := by
  induction es with
  | nil => rfl
  | cons e es ih =>
    rw [List.all_cons, Bool.and_eq_true] at h
    have h1 : isStar e = false := by simpa using h.1
    rw [star_no h1]
    have := ih h.2
    simpa [backTo] using this
theorem kw_none {α : Type} (pos : Pos) (env : Env) : ∀ kws : List Keyword, (∀ k ∈ kws, k.arg.isSome = true) → (backToKw pos (keywordEach kws env)).all (·.1.isSome) = true ∧ (backToKw pos (keywordEach kws env)).any (·.1.isNone) = false
  | [], _ => ⟨rfl, rfl⟩
  | ⟨nm, e, p⟩ :: kws, h => by
    obtain ⟨h1, h2⟩ := kw_none (α := α) pos env kws fun k m => h k (List.mem_cons_of_mem _ m)
    have h3 : nm.isSome = true := h _ List.mem_cons_self
    constructor
    · show (nm.isSome && (backToKw pos (keywordEach kws env)).all (·.1.isSome)) = true
      rw [h3, h1]; rfl
    · show (nm.isNone || (backToKw pos (keywordEach kws env)).any (·.1.isNone)) = false
      rw [h2]
      cases nm with
      | none => cases h3
      | some _ => rfl
theorem kw_names (pos : Pos) (env : Env) : ∀ kws : List Keyword, (backToKw pos (keywordEach kws env)).filterMap (·.1) = kws.filterMap (·.arg)
  | [] => rfl
  | ⟨nm, e, p⟩ :: kws => by
    show List.filterMap (·.1) ((nm, _) :: backToKw pos (keywordEach kws env)) = List.filterMap (·.arg) (⟨nm, e, p⟩ :: kws)
    rw [List.filterMap_cons, List.filterMap_cons, kw_names pos env kws]

/-! ### what the text is checked against -/
def plainO : Expr → Bool
  | .Name .. => true
  | .Subscript .. => true
  | _ => false
def isTup : Expr → Bool
  | .Tuple .. => true
  | _ => false
/-- an enumerate is unpacked at once -/
def itTg : It → Expr → Bool
  | .enm _ _, t => isTup t
  | _, _ => true
structure FnSig where
  name : Str
  params : List Str
  kws : List (Nat × List Str × List Nat)   -- how it is called by keywords: by place so many, then these, in this order
structure Chk where
  N : List Str
  fns : List FnSig
  consts : List (Str × D)
def visB (sc : Scope) (x : Str) : Bool := match sc.names.lookup x with
  | some .local => true
  | some .cell => true
  | some .free => true
  | _ => false
def glB (sc : Scope) (x : Str) : Bool := match sc.names.lookup x with
  | some .globalImplicit => true
  | _ => false
def nmB (x : Str) : Bool := !(x == ("__debug__" : Str)) && !(x == ("__classdict__" : Str))
/-- where a name may be stored -/
def stB (sc : Scope) (fnB : Str → Bool) (x : Str) : Bool := match sc.names.lookup x with
  | some .local => true
  | some .cell => fnB x
  | _ => false
def litB : D → Const → Bool
  | .int i, .int j => decide (i = j)
  | .bl b, .bool c => b == c
  | .non, .none => true
  | .str x, .str y => decide (x = y)
  | _, _ => false
def biName : Bi → Str
  | .int => "int" | .tuple => "tuple" | .list => "list"
  | .len => "len" | .sum => "sum" | .all => "all" | .any => "any" | .max => "max" | .min => "min"
  | .abs => "abs" | .sorted => "sorted" | .divmod => "divmod" | .repr => "repr"
def tyName : Ty → Str
  | .int => "int" | .bool => "bool" | .str => "str" | .list => "list" | .tuple => "tuple"
/-- what else must be no name of the module -/
def mOther : List Str := ["isinstance", "bool", "str", "dict", "enumerate"]
def biN : Bi → List Nat
  | .divmod => [2]
  | .max => [1, 2]
  | .min => [1, 2]
  | _ => [1]
def okTg (G : Chk) (sc : Scope) (fnB : Str → Bool) : Tg → Expr → Bool
  | .nm i, .Name x _ => decide (G.N[i]? = some x) && stB sc fnB x
  | .tp is, .Tuple es _ _ => go is es
  | _, _ => false
where go : List Nat → List Expr → Bool
  | [], [] => true
  | i :: is, .Name x _ :: es => decide (G.N[i]? = some x) && stB sc fnB x && go is es
  | _, _ => false
def tgSlots : Tg → List Nat
  | .nm i => [i]
  | .tp is => is
/-- a comparison, by its form -/
def cmpE : E → Bool
  | .cmp .. => true
  | .chn .. => true
  | _ => false
def blkFn (scope : Scope) : Str → Bool := fun x => scope.names.lookup x == some .cell
mutual
def okE (G : Chk) (sc : Scope) (fnB : Str → Bool) : E → Expr → Bool
  | .var i, x => match x with
    | .Name x _ => decide (G.N[i]? = some x) && (visB sc x && nmB x)
    | _ => false
  | .lit d, x => match x with
    | .Constant c _ _ => litB d c
    | _ => false
  | .glo x d, y => match y with
    | .Name y _ => decide (x = y) && (glB sc x && (nmB x && G.consts.any fun p => decide (p.1 = x) && eqD p.2 d))
    | _ => false
  | .bin o a b, x => match x with
    | .BinOp l o' r _ => decide (o = o') && (okE G sc fnB a l && okE G sc fnB b r)
    | _ => false
  | .neg a, x => match x with
    | .UnaryOp .USub e _ => okE G sc fnB a e
    | _ => false
  | .not a, x => match x with
    | .UnaryOp .Not e _ => okE G sc fnB a e
    | _ => false
  | .cmp o a b, x => match x with
    | .Compare l [o'] [r] _ => decide (o = o') && (!isSet r && (okE G sc fnB a l && okE G sc fnB b r))
    | _ => false
  | .chn o p a b c, x => match x with
    | .Compare l [o', p'] [r, r'] _ => (decide (o = o') && decide (p = p')) && (!isSet r' && (okE G sc fnB a l && (okE G sc fnB b r && okE G sc fnB c r')))
    | _ => false
  | .one a, x => match x with
    | .BoolOp _ [e] _ => okE G sc fnB a e
    | _ => false
  | .and a b, x => match x with
    | .BoolOp .And (e :: f :: es) pos => okE G sc fnB a e && okE G sc fnB b (.BoolOp .And (f :: es) pos)
    | _ => false
  | .or a b, x => match x with
    | .BoolOp .Or (e :: f :: es) pos => okE G sc fnB a e && okE G sc fnB b (.BoolOp .Or (f :: es) pos)
    | _ => false
  | .ife c a b, x => match x with
    | .IfExp t x y _ => okT G sc fnB c t && (okE G sc fnB a x && okE G sc fnB b y)
    | _ => false
  | .tup es, x => match x with
    | .Tuple xs _ _ => okEs G sc fnB es xs
    | _ => false
  | .lst es, x => match x with
    | .List xs _ => okEs G sc fnB es xs
    | _ => false
  | .sub a i, x => match x with
    | .Subscript x y _ => !isSlice y && (okE G sc fnB a x && okE G sc fnB i y)
    | _ => false
  | .sl a lo hi, x => match x with
    | .Subscript x (.Slice l u none _) _ => okE G sc fnB a x && (okO G sc fnB lo l && okO G sc fnB hi u)
    | _ => false
  | .rev a, x => match x with
    | .Subscript x (.Slice none none (some (.UnaryOp .USub (.Constant (.int j) _ _) _)) _) _ => decide (j = 1) && okE G sc fnB a x
    | _ => false
  | .lc own tg it cd elt, x => match x with
    | .ListComp e [⟨t, i, ifs, isa⟩] scope _ => decide (isa = 0) && ((own.all fun j => (G.N[j]?).isSome) && (blkC G.N sc scope (own.filterMap fun j => (G.N[j]?).map fun x => (x, j)) && ((tgSlots tg).all (fun j => own.contains j) &&
      (!isSet i && ((okI G sc fnB it i && itTg it t) && (okTg G (relS scope sc) (blkFn scope) tg t && (okC G (relS scope sc) (blkFn scope) cd ifs && okE G (relS scope sc) (blkFn scope) elt e)))))))
    | _ => false
  | .call f es, x => match x with
    | .Call (.Name x _) xs [] _ => (match G.fns[f]? with | some s => decide (s.name = x) && Nat.beq s.params.length xs.length | none => false) && (glB sc x && (nmB x && (xs.all (fun e => !isStar e) && okEs G sc fnB es xs)))
    | _ => false
  | .callK f pm es ks, x => match x with
    | .Call (.Name x _) xs kws _ => (match G.fns[f]? with | some s => decide (s.name = x) && (Nat.beq s.params.length (xs.length + kws.length) && s.kws.any fun p => Nat.beq p.1 xs.length && decide (p.2 = (kws.filterMap (·.arg), pm))) | none => false) && ((decide pm.Nodup && (Nat.beq pm.length kws.length && pm.all fun j => Nat.blt j kws.length)) && (glB sc x && (nmB x && (xs.all (fun e => !isStar e) && (okEs G sc fnB es xs && okK G sc fnB ks kws)))))
    | _ => false
  | .bi b es, x => match x with
    | .Call (.Name x _) xs [] _ => decide (x = biName b) && (glB sc x && ((biN b).contains xs.length && (xs.all (fun e => !isStar e) && okEs G sc fnB es xs)))
    | _ => false
  | .isi c a, x => match x with
    | .Call (.Name x _) [y, .Name t _] [] _ => decide (x = ("isinstance" : Str)) && (decide (t = tyName c) && (glB sc x && (glB sc t && (!isStar y && okE G sc fnB a y))))
    | _ => false
  | .srt a, x => match x with
    | .Call (.Name x _) [y] [⟨some k, .Constant c _ _, _⟩] _ => decide (x = ("sorted" : Str)) && (decide (k = ("reverse" : Str)) && (litB (.bl true) c && (glB sc x && (!isStar y && okE G sc fnB a y))))
    | _ => false
  | .lcnt o a, x => match x with
    | .Call (.Attribute y g ap) [z] [] cp => decide (g = ("count" : Str)) && (ap.endLine == cp.line && (plainO y && (!isStar z && (okE G sc fnB o y && okE G sc fnB a z))))
    | _ => false
  | .dget a k d, x => match x with
    | .Call (.Attribute (.Call (.Name x _) [y] [] _) g ap) [z, t] [] cp => decide (x = ("dict" : Str)) && (decide (g = ("get" : Str)) && (ap.endLine == cp.line && (glB sc x && (!isStar y && (!isStar z && (!isStar t && (okE G sc fnB a y && (okE G sc fnB k z && okE G sc fnB d t))))))))
    | _ => false
def okEs (G : Chk) (sc : Scope) (fnB : Str → Bool) : Es → List Expr → Bool
  | .nil, xs => match xs with
    | [] => true
    | _ => false
  | .cons e es, xs => match xs with
    | x :: xs => !isStar x && (okE G sc fnB e x && okEs G sc fnB es xs)
    | _ => false
  | .star e es, xs => match xs with
    | .Starred x _ :: xs => okE G sc fnB e x && okEs G sc fnB es xs
    | _ => false
def okK (G : Chk) (sc : Scope) (fnB : Str → Bool) : Es → List Keyword → Bool
  | .nil, xs => match xs with
    | [] => true
    | _ => false
  | .cons e es, xs => match xs with
    | ⟨some _, x, _⟩ :: xs => okE G sc fnB e x && okK G sc fnB es xs
    | _ => false
  | .star _ _, _ => false
def okO (G : Chk) (sc : Scope) (fnB : Str → Bool) : Eo → Option Expr → Bool
  | .no, x => match x with
    | none => true
    | _ => false
  | .yes e, x => match x with
    | some x => okE G sc fnB e x
    | _ => false
def okT (G : Chk) (sc : Scope) (fnB : Str → Bool) : T → Expr → Bool
  | .val e, x => (!isTest x || cmpE e) && okE G sc fnB e x
  | .not t, x => match x with
    | .UnaryOp .Not x _ => okT G sc fnB t x
    | _ => false
  | .one t, x => match x with
    | .BoolOp _ [x] _ => okT G sc fnB t x
    | _ => false
  | .and t u, x => match x with
    | .BoolOp .And (x :: y :: xs) pos => okT G sc fnB t x && okT G sc fnB u (.BoolOp .And (y :: xs) pos)
    | _ => false
  | .or t u, x => match x with
    | .BoolOp .Or (x :: y :: xs) pos => okT G sc fnB t x && okT G sc fnB u (.BoolOp .Or (y :: xs) pos)
    | _ => false
def okC (G : Chk) (sc : Scope) (fnB : Str → Bool) : To → List Expr → Bool
  | .no, xs => match xs with
    | [] => true
    | _ => false
  | .yes t, xs => match xs with
    | [x] => okT G sc fnB t x
    | _ => false
def okI (G : Chk) (sc : Scope) (fnB : Str → Bool) : It → Expr → Bool
  | .val e, x => okE G sc fnB e x
  | .rng es, x => match x with
    | .Call (.Name x _) xs [] _ => decide (x = ("range" : Str)) && (glB sc x && ((Nat.beq xs.length 1 || (Nat.beq xs.length 2 || Nat.beq xs.length 3)) && (xs.all (fun e => !isStar e) && okEs G sc fnB es xs)))
    | _ => false
  | .enm none e, x => match x with
    | .Call (.Name x _) [y] [] _ => decide (x = ("enumerate" : Str)) && (glB sc x && (!isStar y && okE G sc fnB e y))
    | _ => false
  | .enm (some k) e, x => match x with
    | .Call (.Name x _) [y, .Constant c _ _] [] _ => decide (x = ("enumerate" : Str)) && (glB sc x && (!isStar y && (litB (.int k) c && ((decide (-1000000 ≤ k) && decide (k < 1000000)) && okE G sc fnB e y))))
    | _ => false
  | .zip _ _, _ => false
end
end MP

/-! ## EngMr.lean -/
set_option Elab.async false
set_option linter.all false
set_option maxRecDepth 100000
namespace HT
open PySem PySem.Spec PyProof.Rows
section
variable {prog : Program} {w : World} {A : Around} {E : Value → Shared → Prop} {s : Shared}
theorem adjust_rev (n : Nat) : Builtin.Slice.sliceAdjust none none (-1) (n : Int) = ((n : Int) - 1, -1) := rfl
theorem places_rev (n : Nat) : Builtin.Slice.slicePlaces ((n : Int) - 1) (-1) (-1) = n := by
  unfold Builtin.Slice.slicePlaces
  rw [if_neg (by decide)]
  by_cases h : n = 0
  · subst h; rfl
  · rw [if_pos (by omega), show -(-1 : Int) = 1 from rfl, Int.ediv_one]; omega
theorem sliceApplied_rev {sl : Addr} {vl vu vs : Value} {n : Nat} {Q : Int × Int × Nat → Shared → Prop} (hs : s.heap.IsSliceOf sl vl vu vs) (pl : IsPart vl none) (pu : IsPart vu none) (ps : IsPart vs (some (-1)))
    (h : Q ((n : Int) - 1, -1, n) s) : wpAny (model prog w) A (Builtin.Slice.sliceApplied (.ref sl) (pure (n : Int))) Q E s := by
  obtain ⟨os, hos, hcs, hds⟩ := id hs
  unfold Builtin.Slice.sliceApplied Builtin.Slice.sliceFields
  refine wpAny_bind (wpAny_bind (wpAny_field hos hds (x := vl) rfl (wpAny_bind (wpAny_field hos hds (x := vu) rfl (wpAny_bind (wpAny_field hos hds (x := vs) rfl (wpAny_pure ?_)))))))
  refine wpAny_bind (slicePart_ ps ?_)
  show wpAny _ _ (if ((-1 : Int) == 0) = true then _ else _) _ _ s
  rw [if_neg (by decide)]
  refine wpAny_bind (slicePart_ pl (wpAny_bind (slicePart_ pu (wpAny_bind (wpAny_pure ?_)))))
  show wpAny _ _ (match Builtin.Slice.sliceAdjust none none (-1) (n : Int) with | (lo, hi) => pure (lo, (-1 : Int), Builtin.Slice.slicePlaces lo hi (-1))) _ _ s
  rw [adjust_rev n]
  show wpAny _ _ (pure ((n : Int) - 1, (-1 : Int), Builtin.Slice.slicePlaces ((n : Int) - 1) (-1) (-1))) _ _ s
  rw [places_rev]
  exact wpAny_pure h
theorem pick_rev (xs : Array Value) : ((List.range xs.size).filterMap fun (m : Nat) => xs[(((xs.size : Int) - 1) + (m : Int) * (-1)).toNat]?).toArray = xs.toList.reverse.toArray := by
  congr 1
  apply List.ext_getElem?
  intro i
  have e : ∀ k, k ≤ xs.size → (List.range k).filterMap (fun (m : Nat) => xs[(((xs.size : Int) - 1) + (m : Int) * (-1)).toNat]?) = xs.toList.reverse.take k := by
    intro k
    induction k with
    | zero => intro _; rfl
    | succ k ih =>
      intro hk
      rw [List.range_succ, List.filterMap_append, ih (by omega)]
      have : (((xs.size : Int) - 1) + (k : Int) * (-1)).toNat = xs.size - 1 - k := by omega
      have hl : xs.toList.reverse.length = xs.size := by simp
      rw [List.take_succ]
      congr 1
      simp only [List.filterMap_cons, List.filterMap_nil, this]
      rw [List.getElem?_reverse (by rw [Array.length_toList]; omega), Array.length_toList, Array.getElem?_toList]
      cases xs[xs.size - 1 - k]? <;> rfl
  rw [e xs.size (Nat.le_refl _), List.take_of_length_le (by simp)]
theorem getItem_tuple_rev {t sl : Addr} {items : Array Value} {vl vu vs : Value} {Q : Value → Shared → Prop} (ht : IsTup s.heap t items) (hs : s.heap.IsSliceOf sl vl vu vs) (pl : IsPart vl none) (pu : IsPart vu none) (ps : IsPart vs (some (-1)))
    (h : Q (.ref s.heap.objs.size) { s with heap := s.heap.push { cls := .type "tuple", data := .seq items.toList.reverse.toArray } })
    (hsz : items.size ≤ sizeLine) : wpAny (model prog w) A (getItem (.ref t) (.ref sl)) Q E s := by
  have htake : sizeOk (.seq items.toList.reverse.toArray) := by
    show items.toList.reverse.toArray.size ≤ sizeLine
    simpa using hsz
  obtain ⟨os, hos, hcs, hds⟩ := id hs
  have hTs : s.TypeIs (.ref sl) "slice" := ⟨os, hos, hcs⟩
  unfold getItem
  try with_reducible refine wpAny_holding ?_
  first | refine wpAny_bind (wpAny_pure ?_) | skip
  refine wpAny_bind (wpAny_sequenceKey ht.typeIs (by decide) ?_)
  refine wpAny_bind (wpAny_callSpecial?_slot (name := Str.ofString "__getitem__") ht.typeIs PyProof.Rows.slot_tuple_getitem
    (wpAny_call_entry PyProof.Rows.slot_tuple_getitem ht.typeIs entry_tuple_getitem ?_ (args_tuple_getitem _ _)))
  show wpAny _ _ (Builtin.Tuple.tupleItemsOf (.ref t) >>= _) _ _ s
  refine wpAny_bind (tupleItemsOf_ ht ?_)
  refine wpAny_bind (wpAny_typeOf hTs ?_)
  rw [if_pos (by decide)]
  refine wpAny_bind (sliceApplied_rev hs pl pu ps ?_)
  have hno : ¬ ((((items.size : Int) - 1) == 0 && (-1 : Int) == 1 && items.size == items.size) = true) := by
    intro q
    rw [Bool.and_eq_true, Bool.and_eq_true] at q
    exact absurd q.1.2 (by decide)
  show wpAny _ _ (if ((((items.size : Int) - 1) == 0 && (-1 : Int) == 1 && items.size == items.size)) = true then _ else _) _ _ s
  rw [if_neg hno, pick_rev]
  first
    | exact wpAny_bind (m := Builtin.Tuple.tupleExact _) (wpAny_newObj_type (wpAny_pure ⟨_, rfl, wpAny_pure h⟩) htake)
    | exact wpAny_bind (m := Builtin.Tuple.tupleExact _) (wpAny_newObj_type (wpAny_bind (wpAny_pure (wpAny_pure ⟨_, rfl, wpAny_pure h⟩))) htake)
    | exact wpAny_bind (wpAny_bind (m := Builtin.Tuple.tupleExact _) (wpAny_newObj_type (wpAny_pure (wpAny_pure ⟨_, rfl, wpAny_pure h⟩)) htake))
    | exact wpAny_bind (wpAny_bind (m := Builtin.Tuple.tupleExact _) (wpAny_newObj_type (wpAny_pure ⟨_, rfl, wpAny_pure h⟩) htake))
end
end HT

namespace MP
open PySem PySem.Spec PyProof.Rows L2
/-! ### xs[::-1], a list or a tuple -/
def tRevS (K : PySem.W.Frag) (te : TE) : TE := fun σ H Q => te σ H fun x H1 => ∃ a xs, x = .ref a ∧ ((SqL K H1 a xs ∧ ∀ p, H1 p = none → Q (.ref p) (upd H1 p (.lst xs.reverse))) ∨ (SqT K H1 a xs ∧ NewT H1 xs.reverse Q))
theorem pe_revS {X : Cx} {e : Expr} {te : TE} {k : Nat} {p1 p2 p3 pos : Pos} (he : PE X e te) : PE X (.Subscript e (.Slice none none (some (.UnaryOp .USub (.Constant (.int 1) k p1) p2)) p3) pos) (tRevS X.K te) := by
  refine ⟨fun pins s σ H Q I h => ?_⟩
  refine Subscript_ (thn (he.run pins s σ H _ I h) fun v s1 ⟨x, H1, I1, r1, q1⟩ => ?_)
  obtain ⟨a, xs, ex, hq⟩ := q1
  subst ex
  cases r1
  have hst : PO X (some (.UnaryOp .USub (.Constant (.int 1) k p1) p2)) (tPart (tUn (rU fun i => .int (-i)) (tC (.int 1)))) := po_some (pe_un un_neg pe_int)
  refine wpAny_Slice (thn (po_none.run pins s1 σ H1 (fun o H2 => o = none ∧ H2 = H1) I1 ⟨rfl, rfl⟩) fun vl s2 ⟨l, H2, I2, pl, el, e2⟩ => ?_)
  subst el e2
  refine thn (po_none.run pins s2 σ H2 (fun o H3 => o = none ∧ H3 = H2) I2 ⟨rfl, rfl⟩) fun vu s3 ⟨u, H3, I3, pu, eu, e3⟩ => ?_
  subst eu e3
  refine thn (hst.run pins s3 σ H3 (fun o H4 => o = some (-1) ∧ H4 = H3) I3 ⟨1, rfl, -1, rfl, rfl, rfl⟩) fun vs s4 ⟨o, H4, I4, ps, eo, e4⟩ => ?_
  subst eo e4
  have I5 : Inv X pins σ H4 { s4 with heap := s4.heap.push { cls := .type "slice", data := .fields #[vl, vu, vs] } } := I4.kept (t' := s4.toks) fun b ob q => Heap.get?_push_of_some _ q
  show wpAny (model X.prog X.w) X.A (subscriptTail e (.Slice none none (some (.UnaryOp .USub (.Constant (.int 1) k p1) p2)) p3) (.ref a) (.ref s4.heap.objs.size)) (EP X pins σ Q) X.xe { s4 with heap := s4.heap.push { cls := .type "slice", data := .fields #[vl, vu, vs] } }
  rcases hq with ⟨hx, q⟩ | ⟨hx, q⟩
  · obtain ⟨its, r, ht, hz⟩ := I5.list hx
    have hlen := r.length
    refine tail_any (ops := [.ref a, .ref s4.heap.objs.size]) ht.isList.typeIs (PySem.slot_list_getitem.lookup) ?_ (by with_unfolding_all rfl)
    refine wpAny_getItem_list_slice ht.isList (Heap.IsSliceOf.new _ vl vu vs) pl pu ps (by decide) ?_ (by rw [List.size_toArray]; omega)
    rw [PySem.W.krv_pick]
    refine ⟨.ref _, _, I5.laid (t' := s4.toks) (o := .lst xs.reverse) (fun b ob q => Heap.get?_push_of_some _ q) (Nat.le_refl _) ?_, rfl, q _ (I5.hok.fresh (Nat.le_refl _))⟩
    exact ⟨by rw [List.length_reverse]; exact hz, _, 0, r.reverse, Heap.get?_push_size _ rfl⟩
  · obtain ⟨its, r, ht, hz⟩ := I5.tuple hx
    have hlen := r.length
    refine tail_any (ops := [.ref a, .ref s4.heap.objs.size]) ht.typeIs (PyProof.Rows.slot_tuple_getitem.lookup) ?_ (by with_unfolding_all rfl)
    refine HT.getItem_tuple_rev ht (Heap.IsSliceOf.new _ vl vu vs) pl pu ps ?_ (by rw [List.size_toArray]; omega)
    exact NewT.at (t' := s4.toks) I5 r.reverse (by rw [List.length_reverse]; exact hz) q
end MP

/-! ## EngN.lean -/
set_option Elab.async false
set_option linter.all false
set_option maxRecDepth 100000
namespace MP
open PySem PySem.Spec PyProof.Rows L2
structure XOk (G : Chk) (F : CallF) (n : Nat) (sc : Scope) (fnB : Str → Bool) (X : Cx) : Prop where
  nN : X.N = G.N
  nd : G.N.Nodup
  sc : X.env.scope = sc
  calm : X.calm = true
  room : Room n X.A
  gd : X.A.guards = some []
  xe : X.xe = fun _ _ => False
  fn : ∀ x, fnB x = true → X.fn x = true
  fns : ∀ (i : Nat) (f : FnSig), G.fns[i]? = some f → ∃ a fd, X.mg f.name = some (.ref a) ∧ PySem.W.keepIn X.K (.ref a) = true ∧ Binds X.K fd f.params [] ∧
    (∀ k ∈ f.kws, KwB X.K fd f.params k.2 k.1) ∧ FnG X.prog X.w X.K X.mg X.base n a fd f.params (spD X.K F i f.params.length)
  cs : ∀ x d, (x, d) ∈ G.consts → ∃ u v, X.mg x = some u ∧ RelV v u ∧ ∀ H av, RepD X.K H av d v
  bl : ∀ b, X.mg (biName b) = none
  rg : X.mg "range" = none
  mo : ∀ x ∈ mOther, X.mg x = none
section
variable {K : PySem.W.Frag} {H H0 H1 H2 H' : Hp} {av av' av1 av2 avs : Av} {ι ι' ι0 ι1 ι2 ιs : List Addr} {h h' h1 h2 hs : Hs} {σ : L2.St} {ρ : Env'} {X : Cx}
variable {G : Chk} {F : CallF} {n : Nat} {sc : Scope} {fnB : Str → Bool}
theorem visB_ok {x : Str} (h : visB sc x = true) : Vis sc x := by
  unfold visB at h
  split at h
  · exact .inl (by assumption)
  · exact .inr (.inl (by assumption))
  · exact .inr (.inr (by assumption))
  · cases h
theorem glB_ok {x : Str} (o : XOk G F n sc fnB X) (h : glB sc x = true) : Gl X x := by
  unfold glB at h
  split at h
  · show X.env.scope.names.lookup x = _
    rw [o.sc]
    assumption
  · cases h
theorem stB_ok {x : Str} (o : XOk G F n sc fnB X) (h : stB sc fnB x = true) : Loc X.env.scope x ∧ (X.fn x = true ∨ X.env.scope.names.lookup x = some .local) := by
  rw [o.sc]
  unfold stB at h
  split at h
  · rename_i q
    exact ⟨.inl q, .inr q⟩
  · rename_i q
    exact ⟨.inr q, .inl (o.fn x h)⟩
  · cases h
theorem nmB_ok {x : Str} (h : nmB x = true) : (x == ("__debug__" : Str)) = false ∧ (x == ("__classdict__" : Str)) = false := by
  unfold nmB at h
  rw [Bool.and_eq_true] at h
  exact ⟨by simpa using h.1, by simpa using h.2⟩
theorem XOk.hu (o : XOk G F n sc fnB X) : X.A.units + 65 < cLine := by
  have := o.room.un
  omega
theorem bi_boot (b : Bi) : bootBuiltins (biName b) = some (biF b) := by cases b <;> decide +kernel
theorem bi_nm (b : Bi) : biName b ≠ "__name__" ∧ (biName b == ("__debug__" : Str)) = false := by cases b <;> exact ⟨by decide +kernel, by decide +kernel⟩

/-! ### one construct at a time -/
theorem g_var {i : Nat} {x : Str} {pos : Pos} (o : XOk G F n sc fnB X) (h1 : G.N[i]? = some x) (h2 : visB sc x = true) (h3 : nmB x = true) : PE X (.Name x pos) (rdE X.K (evE F (.var i))) := by
  obtain ⟨d1, d2⟩ := nmB_ok h3
  refine PEimp (pe_var (i := i) (by rw [o.nN]; exact h1) (by rw [o.sc]; exact visB_ok h2) d1 d2) ?_
  rintro σ H Q ⟨ρ, h, ι, av, v, h', sim, re, e, k⟩
  simp only [evE] at e
  split at e
  · rename_i w ew
    simp only [Option.some.injEq, Prod.mk.injEq] at e
    obtain ⟨rfl, rfl⟩ := e
    obtain ⟨u, q1, q2⟩ := re.2 i w ew
    refine ⟨u, q1, k ι av H u (.refl sim) ?_⟩
    cases w with
    | p d => exact q2
    | loc m => exact q2
    | new xs => exact q2.elim
  · cases e
theorem g_c {e : Expr} {d : D} {v : V} (g : PE X e (tC v)) (r : ∀ H av, RepD X.K H av d v) : PE X e (rdE X.K fun _ h => some (.p d, h)) := by
  refine PEimp g ?_
  rintro σ H Q ⟨ρ, h, ι, av, w, h', sim, re, e, k⟩
  simp only [Option.some.injEq, Prod.mk.injEq] at e
  obtain ⟨rfl, rfl⟩ := e
  exact k ι av H v (.refl sim) (r H av)
theorem g_lit {d : D} {c : Const} {j : Nat} {pos : Pos} (h : litB d c = true) : PE X (.Constant c j pos) (rdE X.K (evE F (.lit d))) := by
  cases d <;> cases c <;> simp only [litB, Bool.false_eq_true] at h
  · exact g_c pe_non fun _ _ => rfl
  · have := eq_of_beq h
    subst this
    exact g_c pe_bl fun _ _ => rfl
  · have := of_decide_eq_true h
    subst this
    exact g_c pe_int fun _ _ => rfl
  · have := of_decide_eq_true h
    subst this
    exact g_c pe_str fun _ _ => rfl
theorem g_glo {x : Str} {d : D} {pos : Pos} (o : XOk G F n sc fnB X) (h1 : glB sc x = true) (h2 : nmB x = true) (h3 : (G.consts.any fun p => decide (p.1 = x) && eqD p.2 d) = true) : PE X (.Name x pos) (rdE X.K (evE F (.glo x d))) := by
  obtain ⟨⟨y, d'⟩, m, q⟩ := List.any_eq_true.mp h3
  rw [Bool.and_eq_true] at q
  have e1 : y = x := of_decide_eq_true q.1
  have e2 := (eqD_iff _ _).mp q.2
  simp only at e2
  subst e1 e2
  obtain ⟨u, v, hm, r, rd⟩ := o.cs _ _ m
  exact g_c (pe_glob (glB_ok o h1) hm r (nmB_ok h2).1) rd
theorem g_neg {a : E} {e : Expr} {pos : Pos} (g : PE X e (rdE X.K (evE F a))) : PE X (.UnaryOp .USub e pos) (rdE X.K (evE F (.neg a))) := by
  refine PEimp (pe_un un_neg g) ?_
  rintro σ H Q ⟨ρ, h, ι, av, w, h', sim, re, e, k⟩
  simp only [evE] at e
  split at e
  · rename_i i h1 e1
    simp only [Option.some.injEq, Prod.mk.injEq] at e
    obtain ⟨rfl, rfl⟩ := e
    refine ⟨ρ, h, ι, av, _, h1, sim, re, e1, fun ι1 av1 H1 u p r => ⟨i, r, k ι1 av1 H1 _ p rfl⟩⟩
  · cases e
/-- a value, then its truth -/
theorem g_truth {a : E} {σ : L2.St} {H : Hp} {T : V → Bool → Hp → Prop} {m : Env' → Hs → Option (Val × Bool × Hs)}
    (hm : ∀ ρ h, m ρ h = match evE F a ρ h with
      | none => none
      | some (v, h1) => match truV h1 v with
        | none => none
        | some b => some (v, b, h1))
    (q : ∃ ρ h ι av v b h1, SimH X.K h ι av H ∧ RepE X.K ρ ι av σ H ∧ m ρ h = some (v, b, h1) ∧ ∀ ι' av' H' u, Pst X.K ι av H h ι' av' H' h1 → RepR X.K H ι' av' H' v u → T u b H') :
    rdE X.K (evE F a) σ H fun x H1 => ∃ k, TruV X.K x H1 k ∧ T x k H1 := by
  obtain ⟨ρ, h, ι, av, v, b, h1, sim, re, e, k⟩ := q
  rw [hm] at e
  split at e
  · cases e
  · rename_i w h2 e1
    split at e
    · cases e
    · rename_i c e2
      simp only [Option.some.injEq, Prod.mk.injEq] at e
      obtain ⟨rfl, rfl, rfl⟩ := e
      exact ⟨ρ, h, ι, av, w, h2, sim, re, e1, fun ι1 av1 H1 u p r => ⟨c, tru_V p.sim r e2, k ι1 av1 H1 u p r⟩⟩
theorem g_not {a : E} {e : Expr} {pos : Pos} (g : PE X e (rdE X.K (evE F a))) : PE X (.UnaryOp .Not e pos) (rdE X.K (evE F (.not a))) := by
  refine PEimp (pe_notT g) ?_
  rintro σ H Q ⟨ρ, h, ι, av, w, h', sim, re, e, k⟩
  simp only [evE] at e
  split at e
  · cases e
  · rename_i v h1 e1
    split at e
    · cases e
    · rename_i b e2
      simp only [Option.some.injEq, Prod.mk.injEq] at e
      obtain ⟨rfl, rfl⟩ := e
      exact ⟨ρ, h, ι, av, v, h1, sim, re, e1, fun ι1 av1 H1 u p r => ⟨b, tru_V p.sim r e2, k ι1 av1 H1 _ p rfl⟩⟩
theorem g_and {a b : E} {x y : Expr} {es : List Expr} {pos : Pos} (ga : PE X x (rdE X.K (evE F a))) (gb : PE X (.BoolOp .And (y :: es) pos) (rdE X.K (evE F b))) : PE X (.BoolOp .And (x :: y :: es) pos) (rdE X.K (evE F (.and a b))) := by
  refine PEimp (pe_andT ga gb) ?_
  rintro σ H Q ⟨ρ, h, ι, av, w, h', sim, re, e, k⟩
  simp only [evE] at e
  split at e
  · cases e
  · rename_i v h1 e1
    split at e
    · cases e
    · rename_i e2
      refine ⟨ρ, h, ι, av, v, h1, sim, re, e1, fun ι1 av1 H1 u p r => ⟨true, tru_V p.sim r e2, ?_⟩⟩
      exact iteT <| ⟨ρ, h1, ι1, av1, w, h', p.sim, p.stp.repE sim.sub re, e, fun ι2 av2 H2 u2 p2 r2 => k ι2 av2 H2 u2 (p.trans p2) (r2.back p.stp)⟩
    · rename_i e2
      simp only [Option.some.injEq, Prod.mk.injEq] at e
      obtain ⟨rfl, rfl⟩ := e
      refine ⟨ρ, h, ι, av, v, h1, sim, re, e1, fun ι1 av1 H1 u p r => ⟨false, tru_V p.sim r e2, ?_⟩⟩
      exact iteF <| k ι1 av1 H1 u p r
theorem g_or {a b : E} {x y : Expr} {es : List Expr} {pos : Pos} (ga : PE X x (rdE X.K (evE F a))) (gb : PE X (.BoolOp .Or (y :: es) pos) (rdE X.K (evE F b))) : PE X (.BoolOp .Or (x :: y :: es) pos) (rdE X.K (evE F (.or a b))) := by
  refine PEimp (pe_orT ga gb) ?_
  rintro σ H Q ⟨ρ, h, ι, av, w, h', sim, re, e, k⟩
  simp only [evE] at e
  split at e
  · cases e
  · rename_i v h1 e1
    split at e
    · cases e
    · rename_i e2
      simp only [Option.some.injEq, Prod.mk.injEq] at e
      obtain ⟨rfl, rfl⟩ := e
      refine ⟨ρ, h, ι, av, v, h1, sim, re, e1, fun ι1 av1 H1 u p r => ⟨true, tru_V p.sim r e2, ?_⟩⟩
      exact iteT <| k ι1 av1 H1 u p r
    · rename_i e2
      refine ⟨ρ, h, ι, av, v, h1, sim, re, e1, fun ι1 av1 H1 u p r => ⟨false, tru_V p.sim r e2, ?_⟩⟩
      exact iteF <| ⟨ρ, h1, ι1, av1, w, h', p.sim, p.stp.repE sim.sub re, e, fun ι2 av2 H2 u2 p2 r2 => k ι2 av2 H2 u2 (p.trans p2) (r2.back p.stp)⟩
theorem g_ife {c : T} {a b : E} {t x y : Expr} {pos : Pos} (gc : PT X t (rdT X.K (evT F c))) (ga : PE X x (rdE X.K (evE F a))) (gb : PE X y (rdE X.K (evE F b))) : PE X (.IfExp t x y pos) (rdE X.K (evE F (.ife c a b))) := by
  refine PEimp (pe_ifExp gc ga gb) ?_
  rintro σ H Q ⟨ρ, h, ι, av, w, h', sim, re, e, k⟩
  simp only [evE] at e
  split at e
  · cases e
  · rename_i h1 e1
    refine ⟨ρ, h, ι, av, true, h1, sim, re, e1, fun ι1 av1 H1 p => ?_⟩
    exact iteT ⟨ρ, h1, ι1, av1, w, h', p.sim, p.stp.repE sim.sub re, e, fun ι2 av2 H2 u2 p2 r2 => k ι2 av2 H2 u2 (p.trans p2) (r2.back p.stp)⟩
  · rename_i h1 e1
    refine ⟨ρ, h, ι, av, false, h1, sim, re, e1, fun ι1 av1 H1 p => ?_⟩
    exact iteF ⟨ρ, h1, ι1, av1, w, h', p.sim, p.stp.repE sim.sub re, e, fun ι2 av2 H2 u2 p2 r2 => k ι2 av2 H2 u2 (p.trans p2) (r2.back p.stp)⟩
theorem g_bin {op : Operator} {a b : E} {x y : Expr} {pos : Pos} (ga : PE X x (rdE X.K (evE F a))) (gb : PE X y (rdE X.K (evE F b))) : PE X (.BinOp x op y pos) (rdE X.K (evE F (.bin op a b))) :=
  PEimp (pe_op (op_bin op) ga gb) (two_ok (K := X.K) (f := fun _ _ => pure .none))
theorem g_sub {a b : E} {x y : Expr} {pos : Pos} (hs : isSlice y = false) (ga : PE X x (rdE X.K (evE F a))) (gb : PE X y (rdE X.K (evE F b))) : PE X (.Subscript x y pos) (rdE X.K (evE F (.sub a b))) :=
  PEimp (pe_ix ix_sub ga gb (ix_no hs)) (two_ok (K := X.K) (f := fun _ _ => pure .none))
theorem g_cmp {op : CmpOp} {a b : E} {x y : Expr} {pos : Pos} (o : XOk G F n sc fnB X) (hs : isSet y = false) (ga : PE X x (rdE X.K (evE F a))) (gb : PE X y (rdE X.K (evE F b))) : PE X (.Compare x [op] [y] pos) (rdE X.K (evE F (.cmp op a b))) := by
  exact PEimp (pe_cmpR (op_cmp o.hu op) ga gb (mark_no hs op)) (two_ok (K := X.K) (f := fun _ _ => pure .none) (m := cmpW op))
theorem last_no {p q : CmpOp} {y z : Expr} (h : isSet z = false) : lastMarks [p, q] [y, z] = false := by
  show behindInMarks q z = false
  exact mark_no h q
theorem chain_ok {op op' : CmpOp} {a b c : E} {σ : L2.St} {H : Hp} {Q : VK} (q : rdE X.K (evE F (.chn op op' a b c)) σ H Q) :
    tChain (rV2 X.K (cmpW op)) (rV2 X.K (cmpW op')) (rdE X.K (evE F a)) (rdE X.K (evE F b)) (rdE X.K (evE F c)) σ H Q := by
  obtain ⟨ρ, h, ι, av, w, h', sim, re, e, k⟩ := q
  simp only [evE] at e
  split at e
  · cases e
  · rename_i x h1 e1
    split at e
    · cases e
    · rename_i y h2 e2
      refine ⟨ρ, h, ι, av, x, h1, sim, re, e1, fun ι1 av1 H1 u1 p1 r1 => ⟨ρ, h1, ι1, av1, y, h2, p1.sim, p1.stp.repE sim.sub re, e2, fun ι2 av2 H2 u2 p2 r2 => ?_⟩⟩
      have r1' := p2.stp.repR p1.sim.sub r1
      have p12 := p1.trans p2
      split at e
      · cases e
      · rename_i e3
        simp only [Option.some.injEq, Prod.mk.injEq] at e
        obtain ⟨rfl, rfl⟩ := e
        refine ⟨h2, ι2, av2, x, y, .p (.bl false), p2.sim, r1'.any, r2.any, by simp only [cmpW, e3], fun av3 H3 u3 p3 r3 => ⟨false, r3, ?_⟩⟩
        exact iteF <| k ι2 av3 H3 _ (p12.trans p3) rfl
      · rename_i e3
        refine ⟨h2, ι2, av2, x, y, .p (.bl true), p2.sim, r1'.any, r2.any, by simp only [cmpW, e3], fun av3 H3 u3 p3 r3 => ⟨true, r3, iteT ?_⟩⟩
        have p13 := p12.trans p3
        split at e
        · cases e
        · rename_i z h3 e4
          refine ⟨ρ, h2, ι2, av3, z, h3, p3.sim, p13.stp.repE sim.sub re, e4, fun ι4 av4 H4 u4 p4 r4 => ?_⟩
          split at e
          · cases e
          · rename_i v e5
            simp only [Option.some.injEq, Prod.mk.injEq] at e
            obtain ⟨rfl, rfl⟩ := e
            have r2' := p4.stp.repR p3.sim.sub (p3.stp.repR p2.sim.sub r2)
            refine ⟨h3, ι4, av4, y, z, .p (.bl v), p4.sim, r2'.any, r4.any, by simp only [cmpW, e5], fun av5 H5 u5 p5 r5 => ?_⟩
            exact k ι4 av5 H5 u5 ((p13.trans p4).trans p5) (r5.back (p13.trans p4).stp)
theorem g_chn {op op' : CmpOp} {a b c : E} {x y z : Expr} {pos : Pos} (o : XOk G F n sc fnB X) (hs : isSet z = false) (ga : PE X x (rdE X.K (evE F a))) (gb : PE X y (rdE X.K (evE F b))) (gc : PE X z (rdE X.K (evE F c))) :
    PE X (.Compare x [op, op'] [y, z] pos) (rdE X.K (evE F (.chn op op' a b c))) :=
  PEimp (pe_chain (op_cmp o.hu op) (op_cmp o.hu op') ga gb gc (last_no hs)) fun _ _ _ q => chain_ok q
theorem g_one {op : BoolOp} {a : E} {x : Expr} {pos : Pos} (ga : PE X x (rdE X.K (evE F a))) : PE X (.BoolOp op [x] pos) (rdE X.K (evE F (.one a))) := PEimp (pe_one ga) fun _ _ _ q => q

/-! ### arguments, displays -/
theorem a_nil : PA X [] (rdA X.K (evEs F .nil)) := by
  refine PAimp pa_nil ?_
  rintro σ H Q ⟨ρ, h, ι, av, vs, h', sim, re, e, k⟩
  simp only [evEs, Option.some.injEq, Prod.mk.injEq] at e
  obtain ⟨rfl, rfl⟩ := e
  exact k ι av H [] (.refl sim) rfl
theorem a_cons {a : E} {es : Es} {x : Expr} {xs : List Expr} (hs : isStar x = false) (ga : PE X x (rdE X.K (evE F a))) (gs : PA X xs (rdA X.K (evEs F es))) : PA X (x :: xs) (rdA X.K (evEs F (.cons a es))) := by
  refine PAimp (pa_cons ga gs (star_no hs _ _)) ?_
  rintro σ H Q ⟨ρ, h, ι, av, vs, h', sim, re, e, k⟩
  simp only [evEs] at e
  split at e
  · cases e
  · rename_i v h1 e1
    split at e
    · cases e
    · rename_i ws h2 e2
      simp only [Option.some.injEq, Prod.mk.injEq] at e
      obtain ⟨rfl, rfl⟩ := e
      refine ⟨ρ, h, ι, av, v, h1, sim, re, e1, fun ι1 av1 H1 u p r => ⟨ρ, h1, ι1, av1, ws, h2, p.sim, p.stp.repE sim.sub re, e2, fun ι2 av2 H2 us p2 r2 => ?_⟩⟩
      exact k ι2 av2 H2 (u :: us) (p.trans p2) (RepRs.cons p2.stp p.sim.sub p.stp r r2)
theorem RepRs.appP : ∀ {xs : List D} {ws : List V} {vs : List Val} {us : List V}, RepDs K H av xs ws → RepRs K H0 ι av H vs us → RepRs K H0 ι av H (xs.map .p ++ vs) (ws ++ us)
  | [], ws, vs, us, r, r2 => by cases r; exact r2
  | x :: xs, ws, vs, us, r, r2 => by
    obtain ⟨w, ws, rfl, r1, r3⟩ := r
    exact ⟨w, _, rfl, r1, RepRs.appP r3 r2, fun z => nomatch z⟩
theorem a_star {a : E} {es : Es} {x : Expr} {xs : List Expr} {p : Pos} (ga : PE X x (rdE X.K (evE F a))) (gs : PA X xs (rdA X.K (evEs F es))) : PA X (.Starred x p :: xs) (rdA X.K (evEs F (.star a es))) := by
  refine PAimp (StX.pa_star ga gs rfl) ?_
  rintro σ H Q ⟨ρ, h, ι, av, vs, h', sim, re, e, k⟩
  simp only [evEs] at e
  split at e
  · cases e
  · rename_i v h1 e1
    split at e
    · cases e
    · rename_i b ds ed
      split at e
      · cases e
      · rename_i ws h2 e2
        simp only [Option.some.injEq, Prod.mk.injEq] at e
        obtain ⟨rfl, rfl⟩ := e
        refine ⟨ρ, h, ι, av, v, h1, sim, re, e1, fun ι1 av1 H1 u p r => ?_⟩
        obtain ⟨a', vs', rfl, rv, hq⟩ := seqD_sq p.sim r ed
        refine ⟨a', vs', rfl, hq.symm, ρ, h1, ι1, av1, ws, h2, p.sim, p.stp.repE sim.sub re, e2, fun ι2 av2 H2 us p2 r2 => ?_⟩
        exact k ι2 av2 H2 _ (p.trans p2) (RepRs.appP (p2.stp.repDs p.sim.sub rv) (r2.back p.stp))
theorem g_tup {es : Es} {xs : List Expr} {j : Nat} {pos : Pos} (gs : PA X xs (rdA X.K (evEs F es))) : PE X (.Tuple xs j pos) (rdE X.K (evE F (.tup es))) := by
  refine PEimp (pe_tupN gs) ?_
  rintro σ H Q ⟨ρ, h, ι, av, w, h', sim, re, e, k⟩
  simp only [evE] at e
  split at e
  · cases e
  · rename_i vs h1 e1
    split at e
    · cases e
    · rename_i ds ed
      split at e
      · rename_i hm
        simp only [Option.some.injEq, Prod.mk.injEq] at e
        obtain ⟨rfl, rfl⟩ := e
        refine ⟨ρ, h, ι, av, vs, h1, sim, re, e1, fun ι1 av1 H1 us p r => ?_⟩
        obtain ⟨av2, _, p2, rd⟩ := frzDs_ok p sim.live r ed
        refine ⟨by rw [rd.length]; exact ble_line hm, fun q o hq hd => ?_⟩
        obtain ⟨p3, r3⟩ := Pst.newTup p2.sim hq rd hd
        exact k ι1 av2 _ _ (p2.trans p3) (r3.back p2.stp)
      · cases e
theorem g_lst {es : Es} {xs : List Expr} {pos : Pos} (gs : PA X xs (rdA X.K (evEs F es))) : PE X (.List xs pos) (rdE X.K (evE F (.lst es))) := by
  refine PEimp (pe_lst gs) ?_
  rintro σ H Q ⟨ρ, h, ι, av, w, h', sim, re, e, k⟩
  simp only [evE] at e
  split at e
  · cases e
  · rename_i vs h1 e1
    split at e
    · cases e
    · rename_i ds ed
      split at e
      · rename_i hm
        simp only [Option.some.injEq, Prod.mk.injEq] at e
        obtain ⟨rfl, rfl⟩ := e
        refine ⟨ρ, h, ι, av, vs, h1, sim, re, e1, fun ι1 av1 H1 us p r => ?_⟩
        obtain ⟨av2, _, p2, rd⟩ := frzDs_ok p sim.live r ed
        refine ⟨by rw [rd.length]; exact ble_line hm, fun q hq => ?_⟩
        obtain ⟨p3, r3⟩ := Pst.newLst p2.sim hq rd
        exact k ι1 _ _ _ (p2.trans p3) (r3.back p2.stp)
      · cases e
theorem o_no : PO X none (rdO X.K (evO F .no)) := by
  refine ⟨fun pins s σ H Q I q => po_none.run pins s σ H Q I ?_⟩
  obtain ⟨ρ, h, ι, av, o, h', sim, re, e, k⟩ := q
  simp only [evO, Option.some.injEq, Prod.mk.injEq] at e
  obtain ⟨rfl, rfl⟩ := e
  exact k ι av H (.refl sim)
theorem o_yes {a : E} {x : Expr} (ga : PE X x (rdE X.K (evE F a))) : PO X (some x) (rdO X.K (evO F (.yes a))) := by
  refine ⟨fun pins s σ H Q I q => (po_some ga).run pins s σ H Q I ?_⟩
  obtain ⟨ρ, h, ι, av, o, h', sim, re, e, k⟩ := q
  simp only [evO] at e
  split at e
  · rename_i i h1 e1
    simp only [Option.some.injEq, Prod.mk.injEq] at e
    obtain ⟨rfl, rfl⟩ := e
    exact ⟨ρ, h, ι, av, _, h1, sim, re, e1, fun ι1 av1 H1 u p r => ⟨i, r, k ι1 av1 H1 p⟩⟩
  · cases e
theorem g_sl {a : E} {lo hi : Eo} {x : Expr} {l u : Option Expr} {p2 pos : Pos} (ga : PE X x (rdE X.K (evE F a))) (gl : PO X l (rdO X.K (evO F lo))) (gu : PO X u (rdO X.K (evO F hi))) :
    PE X (.Subscript x (.Slice l u none p2) pos) (rdE X.K (evE F (.sl a lo hi))) := by
  refine PEimp (pe_slice sl_ok ga gl gu) ?_
  rintro σ H Q ⟨ρ, h, ι, av, w, h', sim, re, e, k⟩
  simp only [evE] at e
  split at e
  · cases e
  · rename_i v h1 e1
    split at e
    · cases e
    · rename_i o1 h2 e2
      split at e
      · cases e
      · rename_i o2 h3 e3
        split at e
        · cases e
        · rename_i z e4
          simp only [Option.some.injEq, Prod.mk.injEq] at e
          obtain ⟨rfl, rfl⟩ := e
          refine ⟨ρ, h, ι, av, v, h1, sim, re, e1, fun ι1 av1 H1 u p r => ⟨ρ, h1, ι1, av1, o1, h2, p.sim, p.stp.repE sim.sub re, e2, fun ι2 av2 H2 p2 => ?_⟩⟩
          refine ⟨ρ, h2, ι2, av2, o2, h3, p2.sim, (p.trans p2).stp.repE sim.sub re, e3, fun ι3 av3 H3 p3 => ?_⟩
          have r3 := p3.stp.repR p2.sim.sub (p2.stp.repR p.sim.sub r)
          have p13 := (p.trans p2).trans p3
          exact ⟨h3, ι3, av3, v, z, p3.sim, r3.any, e4, fun av4 H4 u4 p4 r4 => k ι3 av4 H4 u4 (p13.trans p4) (r4.back p13.stp)⟩
theorem g_rev {a : E} {x : Expr} {j : Nat} {p1 p2 p3 pos : Pos} (ga : PE X x (rdE X.K (evE F a))) : PE X (.Subscript x (.Slice none none (some (.UnaryOp .USub (.Constant (.int 1) j p1) p2)) p3) pos) (rdE X.K (evE F (.rev a))) := by
  refine PEimp (pe_revS ga) ?_
  rintro σ H Q ⟨ρ, h, ι, av, w, h', sim, re, e, k⟩
  simp only [evE] at e
  split at e
  · cases e
  · rename_i v h1 e1
    split at e
    · cases e
    · rename_i z e4
      simp only [Option.some.injEq, Prod.mk.injEq] at e
      obtain ⟨rfl, rfl⟩ := e
      refine ⟨ρ, h, ι, av, v, h1, sim, re, e1, fun ι1 av1 H1 u p r => ?_⟩
      unfold revV at e4
      split at e4
      · rename_i xs es
        simp only [Option.some.injEq] at e4
        obtain ⟨a', vs, rfl, rv, _, hl⟩ := seqD_ok p.sim r es
        refine ⟨a', vs, rfl, .inl ⟨.of (hl rfl), fun q hq => ?_⟩⟩
        obtain ⟨p3, r3⟩ := Pst.newLst p.sim hq rv.rev
        exact k ι1 _ _ _ (p.trans p3) (by rw [← e4]; exact r3.back p.stp)
      · rename_i xs es
        simp only [Option.some.injEq] at e4
        obtain ⟨a', vs, rfl, rv, ht, _⟩ := seqD_ok p.sim r es
        refine ⟨a', vs, rfl, .inr ⟨(ht rfl).sq, fun q o hq hd => ?_⟩⟩
        obtain ⟨p3, r3⟩ := Pst.newTup p.sim hq rv.rev hd
        exact k ι1 _ _ _ (p.trans p3) (by rw [← e4]; exact r3.back p.stp)
      · cases e4
end
end MP

/-! ## EngO.lean -/
set_option Elab.async false
set_option linter.all false
set_option maxRecDepth 100000
namespace MP
open PySem PySem.Spec PyProof.Rows L2
section
variable {K : PySem.W.Frag} {H H0 H1 H2 H' : Hp} {av av' av1 av2 avs : Av} {ι ι' ι0 ι1 ι2 ιs : List Addr} {h h' h1 h2 hs : Hs} {σ : L2.St} {ρ : Env'} {X : Cx}
variable {G : Chk} {F : CallF} {n : Nat} {sc : Scope} {fnB : Str → Bool}
theorem RepRs.length : ∀ {vs : List Val} {us : List V}, RepRs K H0 ι av H vs us → us.length = vs.length
  | [], us, r => by cases r; rfl
  | v :: vs, us, r => by
    obtain ⟨u, us, rfl, _, r2, _⟩ := r
    simp [RepRs.length r2]
theorem newsOf_app : ∀ {vs ws : List Val} {us zs : List V}, us.length = vs.length → newsOf (vs ++ ws) (us ++ zs) = newsOf vs us ++ newsOf ws zs
  | [], ws, us, zs, e => by
    cases us with
    | nil => rfl
    | cons u us => simp at e
  | v :: vs, ws, us, zs, e => by
    cases us with
    | nil => simp at e
    | cons u us =>
      have ih := newsOf_app (vs := vs) (ws := ws) (us := us) (zs := zs) (by simpa using e)
      cases v with
      | new xs => simp only [List.cons_append, newsOf, ih]
      | p d => simpa only [List.cons_append, newsOf] using ih
      | loc m => simpa only [List.cons_append, newsOf] using ih
theorem RepRs.two {P : Prop} : ∀ {vs ws : List Val} {us zs : List V}, RepRs K H ι1 av1 H1 vs us → Stp ι1 av1 H1 ι2 av2 H2 → P → Stp ι av H ι1 av1 H1 → RepRs K H1 ι2 av2 H2 ws zs → RepRs K H ι2 av2 H2 (vs ++ ws) (us ++ zs)
  | [], ws, us, zs, r, s, sub, b, r2 => by
    cases r
    exact r2.back b
  | v :: vs, ws, us, zs, r, s, sub, b, r2 => by
    obtain ⟨u, us, rfl, q1, q2, q3⟩ := r
    refine ⟨u, us ++ zs, rfl, s.repR sub q1, RepRs.two q2 s sub b r2, fun hn => ?_⟩
    show u ∉ newsOf (vs ++ ws) (us ++ zs)
    rw [newsOf_app q2.length]
    intro m
    rcases List.mem_append.mp m with m | m
    · exact q3 hn m
    · cases v with
      | new xs =>
        obtain ⟨a, ws', rfl, z0, z1, _⟩ := q1
        exact r2.tie (by rw [z1]; simp) m
      | p d => cases hn
      | loc m => cases hn
/-! ### calls -/
theorem sig_of {f : Nat} {x : Str} {P : FnSig → Bool} (h : (match G.fns[f]? with | some s => decide (s.name = x) && P s | none => false) = true) : ∃ s, G.fns[f]? = some s ∧ s.name = x ∧ P s = true := by
  split at h
  · rename_i s es
    rw [Bool.and_eq_true] at h
    exact ⟨s, es, of_decide_eq_true h.1, h.2⟩
  · cases h
theorem call_reads {f : Nat} {es : Es} {np : Nat} {σ : L2.St} {H : Hp} {Q : VK} (ln : ∀ ρ h vs h', evEs F es ρ h = some (vs, h') → vs.length = np)
    (q : rdE X.K (evE F (.call f es)) σ H Q) : tCallG (spD X.K F f np) (rdA X.K (evEs F es)) σ H Q := by
  obtain ⟨ρ, h, ι, av, w, h', sim, re, e, k⟩ := q
  simp only [evE] at e
  split at e
  · cases e
  · rename_i vs h1 e1
    exact ⟨ρ, h, ι, av, vs, h1, sim, re, e1, fun ι1 av1 H1 us p r => call_ok p sim.live r e (by rw [r.length]; exact ln _ _ _ _ e1) k⟩
theorem es_len : ∀ {es : Es} {xs : List Expr}, okEs G sc fnB es xs = true → (xs.all fun e => !isStar e) = true → ∀ ρ h vs h', evEs F es ρ h = some (vs, h') → vs.length = xs.length
  | .nil, xs, ok, _, ρ, h, vs, h', e => by
    cases xs with
    | nil => simp only [evEs, Option.some.injEq, Prod.mk.injEq] at e; rw [← e.1]; rfl
    | cons x xs => simp [okEs] at ok
  | .cons a es, xs, ok, al, ρ, h, vs, h', e => by
    cases xs with
    | nil => simp [okEs] at ok
    | cons x xs =>
      simp only [okEs, Bool.and_eq_true] at ok
      simp only [List.all_cons, Bool.and_eq_true] at al
      simp only [evEs] at e
      split at e
      · cases e
      · split at e
        · cases e
        · rename_i ws h2 e2
          simp only [Option.some.injEq, Prod.mk.injEq] at e
          rw [← e.1, List.length_cons, List.length_cons, es_len ok.2.2 al.2 _ _ _ _ e2]
  | .star a es, xs, ok, al, ρ, h, vs, h', e => by
    cases xs with
    | nil => simp [okEs] at ok
    | cons x xs =>
      cases x <;> simp [okEs] at ok
      simp [isStar] at al
theorem ks_len : ∀ {es : Es} {xs : List Keyword}, okK G sc fnB es xs = true → ∀ ρ h vs h', evEs F es ρ h = some (vs, h') → vs.length = xs.length
  | .nil, xs, ok, ρ, h, vs, h', e => by
    cases xs with
    | nil => simp only [evEs, Option.some.injEq, Prod.mk.injEq] at e; rw [← e.1]; rfl
    | cons x xs => simp [okK] at ok
  | .cons a es, xs, ok, ρ, h, vs, h', e => by
    cases xs with
    | nil => simp [okK] at ok
    | cons x xs =>
      obtain ⟨nm, x, p⟩ := x
      cases nm with
      | none => simp [okK] at ok
      | some nm =>
        simp only [okK, Bool.and_eq_true] at ok
        simp only [evEs] at e
        split at e
        · cases e
        · split at e
          · cases e
          · rename_i ws h2 e2
            simp only [Option.some.injEq, Prod.mk.injEq] at e
            rw [← e.1, List.length_cons, List.length_cons, ks_len ok.2 _ _ _ _ e2]
  | .star a es, xs, ok, ρ, h, vs, h', e => by
    cases xs with
    | nil => simp [okK] at ok
    | cons x xs => simp [okK] at ok
theorem ks_some : ∀ {es : Es} {xs : List Keyword}, okK G sc fnB es xs = true → ∀ k ∈ xs, k.arg.isSome = true
  | .nil, xs, ok, k, m => by
    cases xs with
    | nil => simp at m
    | cons x xs => simp [okK] at ok
  | .cons a es, xs, ok, k, m => by
    cases xs with
    | nil => simp at m
    | cons x xs =>
      obtain ⟨nm, x, p⟩ := x
      cases nm with
      | none => simp [okK] at ok
      | some nm =>
        simp only [okK, Bool.and_eq_true] at ok
        rcases List.mem_cons.mp m with m | m
        · subst m; rfl
        · exact ks_some ok.2 k m
  | .star a es, xs, ok, k, m => by
    cases xs with
    | nil => simp at m
    | cons x xs => simp [okK] at ok
theorem filterMap_len : ∀ {xs : List Keyword}, (∀ k ∈ xs, k.arg.isSome = true) → (xs.filterMap (·.arg)).length = xs.length
  | [], _ => rfl
  | ⟨nm, x, p⟩ :: xs, h => by
    have h1 := h _ List.mem_cons_self
    cases nm with
    | none => cases h1
    | some nm =>
      simp only [List.filterMap_cons, List.length_cons, filterMap_len fun k m => h k (List.mem_cons_of_mem _ m)]
theorem g_call {f : Nat} {es : Es} {x : Str} {xs : List Expr} {p pos : Pos} (o : XOk G F n sc fnB X) (h1 : (match G.fns[f]? with | some s => decide (s.name = x) && Nat.beq s.params.length xs.length | none => false) = true)
    (h2 : glB sc x = true) (h3 : nmB x = true) (h4 : (xs.all fun e => !isStar e) = true) (h5 : okEs G sc fnB es xs = true) (gs : PA X xs (rdA X.K (evEs F es))) : PE X (.Call (.Name x p) xs [] pos) (rdE X.K (evE F (.call f es))) := by
  obtain ⟨s, es1, rfl, hp⟩ := sig_of h1
  obtain ⟨a, fd, hm, hk, hb, _, fn⟩ := o.fns f s es1
  have np : s.params.length = xs.length := Nat.eq_of_beq_eq_true hp
  cases xs with
  | nil =>
    refine PEimp (pe_callG0 fn o.room o.gd (glB_ok o h2) hm hk hb (nmB_ok h3).1) fun σ H Q q => ?_
    have r := call_reads (F := F) (np := s.params.length) (fun ρ h vs h' e => by rw [np]; exact es_len h5 h4 ρ h vs h' e) q
    have en : es = .nil := by cases es <;> first | rfl | simp [okEs] at h5
    subst en
    obtain ⟨ρ, h, ι, av, vs, h', sim, re, e, k⟩ := r
    simp only [evEs, Option.some.injEq, Prod.mk.injEq] at e
    obtain ⟨rfl, rfl⟩ := e
    exact k ι av H [] (.refl sim) rfl
  | cons e r =>
    have h4' := h4
    rw [List.all_cons, Bool.and_eq_true] at h4
    exact PEimp (pe_callG fn o.room o.gd (glB_ok o h2) hm hk hb gs (nmB_ok h3).1 (star_no (by simpa using h4.1) _ _) (back_no h4.2 _ _)) fun σ H Q q =>
      call_reads (F := F) (np := s.params.length) (fun ρ h vs h' e => by rw [np]; exact es_len h5 h4' ρ h vs h' e) q
/-- the keywords' values -/
structure PKr (X : Cx) (kws : List Keyword) (m : Env' → Hs → Option (List Val × Hs)) : Prop where
  pk : PK X kws (rdA X.K m)
theorem k_nil : PKr X [] (evEs F .nil) := by
  refine ⟨⟨fun pos pins s σ H Q I q => pk_nil.run pos pins s σ H Q I ?_⟩⟩
  obtain ⟨ρ, h, ι, av, vs, h', sim, re, e, k⟩ := q
  simp only [evEs, Option.some.injEq, Prod.mk.injEq] at e
  obtain ⟨rfl, rfl⟩ := e
  exact k ι av H [] (.refl sim) rfl
theorem k_cons {a : E} {es : Es} {nm : Option Str} {x : Expr} {p : Pos} {xs : List Keyword} (ga : PE X x (rdE X.K (evE F a))) (gs : PKr X xs (evEs F es)) : PKr X (⟨nm, x, p⟩ :: xs) (evEs F (.cons a es)) := by
  refine ⟨⟨fun pos pins s σ H Q I q => (pk_cons ga gs.pk).run pos pins s σ H Q I ?_⟩⟩
  obtain ⟨ρ, h, ι, av, vs, h', sim, re, e, k⟩ := q
  simp only [evEs] at e
  split at e
  · cases e
  · rename_i v h1 e1
    split at e
    · cases e
    · rename_i ws h2 e2
      simp only [Option.some.injEq, Prod.mk.injEq] at e
      obtain ⟨rfl, rfl⟩ := e
      refine ⟨ρ, h, ι, av, v, h1, sim, re, e1, fun ι1 av1 H1 u p r => ⟨ρ, h1, ι1, av1, ws, h2, p.sim, p.stp.repE sim.sub re, e2, fun ι2 av2 H2 us p2 r2 => ?_⟩⟩
      exact k ι2 av2 H2 (u :: us) (p.trans p2) (RepRs.cons p2.stp p.sim.sub p.stp r r2)
theorem permL_len {α : Type} {pm : List Nat} {xs : List α} (h : ∀ j ∈ pm, j < xs.length) : (permL pm xs).length = pm.length := by
  induction pm with
  | nil => rfl
  | cons j pm ih =>
    unfold permL at ih ⊢
    rw [List.filterMap_cons, List.getElem?_eq_getElem (h j List.mem_cons_self)]
    simp only [List.length_cons, ih fun k m => h k (List.mem_cons_of_mem _ m)]
theorem RepRs.get {K : PySem.W.Frag} {H0 H : Hp} {ι : List Addr} {av : Av} : ∀ {vs : List Val} {us : List V}, RepRs K H0 ι av H vs us → ∀ j, j < vs.length → ∃ v u, vs[j]? = some v ∧ us[j]? = some u ∧ RepR K H0 ι av H v u
  | [], _, _, j, h => absurd h (Nat.not_lt_zero _)
  | v :: vs, _, r, j, h => by
    obtain ⟨u, us, rfl, r1, r2, _⟩ := r
    cases j with
    | zero => exact ⟨v, u, rfl, rfl, r1⟩
    | succ j => simpa using r2.get j (by simpa using h)
theorem mem_newsOf {x : V} : ∀ {vs : List Val} {us : List V} {j : Nat} {v : Val}, vs[j]? = some v → us[j]? = some x → v.isNew = true → x ∈ newsOf vs us
  | [], _, j, _, h, _, _ => by simp at h
  | v :: vs, [], j, _, _, h, _ => by simp at h
  | v :: vs, u :: us, 0, w, h1, h2, hn => by
    simp at h1 h2; subst h1; subst h2
    cases v <;> simp [Val.isNew] at hn
    exact List.mem_cons_self
  | v :: vs, u :: us, j + 1, w, h1, h2, hn => by
    have := mem_newsOf (vs := vs) (us := us) (j := j) (by simpa using h1) (by simpa using h2) hn
    cases v <;> simp [newsOf, this]
theorem RepRs.ne {K : PySem.W.Frag} {H0 H : Hp} {ι : List Addr} {av : Av} : ∀ {vs : List Val} {us : List V}, RepRs K H0 ι av H vs us → ∀ {i j : Nat} {v w : Val} {u x : V}, i ≠ j → vs[i]? = some v → vs[j]? = some w → us[i]? = some u → us[j]? = some x → v.isNew = true → w.isNew = true → u ≠ x
  | [], _, _, i, j, _, _, _, _, _, h, _, _, _, _, _ => by simp at h
  | v0 :: vs, _, r, i, j, v, w, u, x, hij, h1, h2, h3, h4, n1, n2 => by
    obtain ⟨u0, us, rfl, r1, r2, nn⟩ := r
    cases i with
    | zero =>
      cases j with
      | zero => exact absurd rfl hij
      | succ j =>
        simp at h1 h2 h3 h4; subst h1; subst h3
        intro e; subst e
        exact nn n1 (mem_newsOf h2 h4 n2)
    | succ i =>
      cases j with
      | zero =>
        simp at h1 h2 h3 h4; subst h2; subst h4
        intro e; subst e
        exact nn n2 (mem_newsOf h1 h3 n1)
      | succ j => exact r2.ne (i := i) (j := j) (fun e => hij (by rw [e])) (by simpa using h1) (by simpa using h2) (by simpa using h3) (by simpa using h4) n1 n2
theorem newsOf_at {x : V} : ∀ {vs : List Val} {us : List V}, x ∈ newsOf vs us → ∃ (j : Nat) (v : Val), vs[j]? = some v ∧ us[j]? = some x ∧ v.isNew = true
  | [], _, h => by simp [newsOf] at h
  | v :: vs, [], h => by cases v <;> simp [newsOf] at h
  | v :: vs, u :: us, h => by
    have rest : x ∈ newsOf vs us → ∃ (j : Nat) (w : Val), (v :: vs)[j]? = some w ∧ (u :: us)[j]? = some x ∧ w.isNew = true := fun h => by
      obtain ⟨j, w, a, b, c⟩ := newsOf_at h
      exact ⟨j + 1, w, by simpa using a, by simpa using b, c⟩
    cases v with
    | new xs =>
      simp only [newsOf, List.mem_cons] at h
      rcases h with rfl | h
      · exact ⟨0, _, rfl, rfl, rfl⟩
      · exact rest h
    | p d => exact rest (by simpa [newsOf] using h)
    | loc i => exact rest (by simpa [newsOf] using h)
theorem permL_get {α : Type} {pm : List Nat} {xs : List α} (h : ∀ j ∈ pm, j < xs.length) (i : Nat) : (permL pm xs)[i]? = (pm[i]?).bind fun j => xs[j]? := by
  induction pm generalizing i with
  | nil => simp [permL]
  | cons j pm ih =>
    have e : permL (j :: pm) xs = xs[j]'(h j List.mem_cons_self) :: permL pm xs := by
      unfold permL; rw [List.filterMap_cons, List.getElem?_eq_getElem (h j List.mem_cons_self)]
    rw [e]
    cases i with
    | zero => simp [List.getElem?_eq_getElem (h j List.mem_cons_self)]
    | succ i => simpa using ih (fun k m => h k (List.mem_cons_of_mem _ m)) i
theorem RepRs.perm {K : PySem.W.Frag} {H0 H : Hp} {ι : List Addr} {av : Av} {vs : List Val} {us : List V} (r : RepRs K H0 ι av H vs us) : ∀ {pm : List Nat}, pm.Nodup → (∀ j ∈ pm, j < vs.length) → RepRs K H0 ι av H (permL pm vs) (permL pm us)
  | [], _, _ => rfl
  | j :: pm, nd, h => by
    have hl := r.length
    obtain ⟨v, u, e1, e2, r1⟩ := r.get j (h j List.mem_cons_self)
    have f1 : permL (j :: pm) vs = v :: permL pm vs := by unfold permL; rw [List.filterMap_cons, e1]
    have f2 : permL (j :: pm) us = u :: permL pm us := by unfold permL; rw [List.filterMap_cons, e2]
    rw [f1, f2]
    have hp : ∀ k ∈ pm, k < vs.length := fun k m => h k (List.mem_cons_of_mem _ m)
    refine ⟨u, _, rfl, r1, r.perm (List.nodup_cons.mp nd).2 hp, fun hn hm => ?_⟩
    obtain ⟨i, w, a, b, c⟩ := newsOf_at hm
    rw [permL_get hp] at a
    rw [permL_get (by rw [hl]; exact hp)] at b
    cases q : pm[i]? with
    | none => rw [q] at a; cases a
    | some k =>
      rw [q, Option.bind_some] at a b
      have mk : k ∈ pm := List.mem_of_getElem? q
      exact r.ne (fun e => (List.nodup_cons.mp nd).1 (by rw [e]; exact mk)) e1 a e2 b hn c rfl
theorem g_callK {f : Nat} {pm : List Nat} {es ks : Es} {x : Str} {xs : List Expr} {kws : List Keyword} {p pos : Pos} (o : XOk G F n sc fnB X)
    (h1 : (match G.fns[f]? with | some s => decide (s.name = x) && (Nat.beq s.params.length (xs.length + kws.length) && s.kws.any fun p => Nat.beq p.1 xs.length && decide (p.2 = (kws.filterMap (·.arg), pm))) | none => false) = true) (h0 : (decide pm.Nodup && (Nat.beq pm.length kws.length && pm.all fun j => Nat.blt j kws.length)) = true)
    (h2 : glB sc x = true) (h3 : nmB x = true) (h4 : (xs.all fun e => !isStar e) = true) (h5 : okEs G sc fnB es xs = true) (h6 : okK G sc fnB ks kws = true) (gs : PA X xs (rdA X.K (evEs F es))) (gk : PKr X kws (evEs F ks)) :
    PE X (.Call (.Name x p) xs kws pos) (rdE X.K (evE F (.callK f pm es ks))) := by
  obtain ⟨s, es1, rfl, hp⟩ := sig_of h1
  rw [Bool.and_eq_true] at hp
  have np : s.params.length = xs.length + kws.length := Nat.eq_of_beq_eq_true hp.1
  obtain ⟨⟨m, kn, pm'⟩, mm, hq⟩ := List.any_eq_true.mp hp.2
  rw [Bool.and_eq_true] at hq
  have em : m = xs.length := Nat.eq_of_beq_eq_true hq.1
  have ek' : (kn, pm') = (kws.filterMap (·.arg), pm) := of_decide_eq_true hq.2
  have ek : kn = kws.filterMap (·.arg) := congrArg Prod.fst ek'
  have ep : pm' = pm := congrArg Prod.snd ek'
  subst ep
  simp only [Bool.and_eq_true, decide_eq_true_eq, List.all_eq_true] at h0
  have pl : pm'.length = kws.length := Nat.eq_of_beq_eq_true h0.2.1
  obtain ⟨a, fd, hm, hk, _, hkb, fn⟩ := o.fns f s es1
  have kb := hkb _ mm
  simp only at kb
  have all := ks_some h6
  have kl : kn.length = kws.length := by rw [ek]; exact filterMap_len all
  obtain ⟨g1, g3⟩ := kw_none (α := Unit) pos X.env kws all
  have g2 := kw_names pos X.env kws
  rw [← ek] at g2
  have read : ∀ {σ H Q}, rdE X.K (evE F (.callK f pm' es ks)) σ H Q → tCallGK (spD X.K F f s.params.length) m kn.length pm' (rdA X.K (evEs F es)) (rdA X.K (evEs F ks)) σ H Q := by
    rintro σ H Q ⟨ρ, h, ι, av, w, h', sim, re, e, k⟩
    simp only [evE] at e
    split at e
    · cases e
    · rename_i vs h1 e1
      split at e
      · cases e
      · rename_i ws h2 e2
        refine ⟨ρ, h, ι, av, vs, h1, sim, re, e1, fun ι1 av1 H1 us p r => ⟨ρ, h1, ι1, av1, ws, h2, p.sim, p.stp.repE sim.sub re, e2, fun ι2 av2 H2 zs p2 r2 => ?_⟩⟩
        have l1 := es_len h5 h4 _ _ _ _ e1
        have l2 := ks_len h6 _ _ _ _ e2
        have q1 := r.length
        have q2 := r2.length
        refine ⟨by rw [q1, l1, em], by rw [q2, l2, kl], ?_⟩
        have in_ : ∀ j ∈ pm', j < ws.length := fun j m => by rw [l2]; exact Nat.le_of_ble_eq_true (h0.2.2 j m)
        exact call_ok (p.trans p2) sim.live (RepRs.two r p2.stp p.sim.sub p.stp (r2.perm h0.1 in_)) e (by rw [List.length_append, q1, l1, permL_len (by rw [q2]; exact in_), pl, np]) k
  cases xs with
  | nil =>
    have em0 : m = 0 := em
    subst em0
    refine PEimp (pe_callGK0 fn o.room o.gd (glB_ok o h2) hm hk kb gk.pk (nmB_ok h3).1 g1 g2 (by rw [g3]; rfl)) fun σ H Q q => ?_
    have r := read q
    have en : es = .nil := by cases es <;> first | rfl | simp [okEs] at h5
    subst en
    obtain ⟨ρ, h, ι, av, vs, h', sim, re, e, k⟩ := r
    simp only [evEs, Option.some.injEq, Prod.mk.injEq] at e
    obtain ⟨rfl, rfl⟩ := e
    exact k ι av H [] (.refl sim) rfl
  | cons e r =>
    have h4' := h4
    rw [List.all_cons, Bool.and_eq_true] at h4
    have se := star_no (e := e) (by simpa using h4.1) r X.env
    exact PEimp (pe_callGK fn o.room o.gd (glB_ok o h2) hm hk kb gs gk.pk (nmB_ok h3).1 g1 g2 se (by rw [g3, Bool.or_false]; exact back_no h4' _ _)) fun σ H Q q => read q

/-! ### built-in functions -/
theorem g_bi {b : Bi} {es : Es} {xs : List Expr} {p pos : Pos} (o : XOk G F n sc fnB X) (h2 : glB sc (biName b) = true) (h3 : (biN b).contains xs.length = true) (h4 : (xs.all fun e => !isStar e) = true) (h5 : okEs G sc fnB es xs = true)
    (gs : PA X xs (rdA X.K (evEs F es))) : PE X (.Call (.Name (biName b) p) xs [] pos) (rdE X.K (evE F (.bi b es))) := by
  have ln := es_len (F := F) h5 h4
  have ne : ∃ e r, xs = e :: r := by
    cases xs with
    | nil => cases b <;> simp [biN] at h3
    | cons e r => exact ⟨e, r, rfl⟩
  obtain ⟨e, r, rfl⟩ := ne
  have h4' := h4
  rw [List.all_cons, Bool.and_eq_true] at h4
  have se := star_no (e := e) (by simpa using h4.1) r X.env
  have bk := back_no h4.2 pos X.env
  -- the rule by values
  have rule : CallR X (biF b) (fun us H Q => ∃ h ι av vs v, RepRs X.K H_0 ι av H vs us ∧ SimH X.K h ι av H ∧ vs.length = (e :: r).length ∧ biV b vs h = some v ∧ ∀ av' H' u, Pst X.K ι av H h ι av' H' h → RepR X.K H ι av' H' v u → Q u H') := by
    intro pins s σ H us uv Q I rx hh
    obtain ⟨h, ι, av, vs, v, rr, sim, el, ev, k⟩ := hh
    match vs, rr, el, ev with
    | [v1], rr, el, ev =>
      obtain ⟨u1, us, rfl, r1, r2, _⟩ := rr
      cases r2
      by_cases hb : b = .sorted
      · subst hb
        exact call_sorted o.hu pins s σ H _ uv Q I rx ⟨h, ι, av, v1, u1, v, rfl, sim, r1, ev, k⟩
      · exact call_bi1 o.calm o.gd o.hu b hb pins s σ H _ uv Q I rx ⟨h, ι, av, v1, u1, v, rfl, sim, r1, ev, k⟩
    | [v1, v2], rr, el, ev =>
      obtain ⟨u1, us, rfl, r1, r2, _⟩ := rr
      obtain ⟨u2, us, rfl, r3, r4, _⟩ := r2
      cases r4
      exact call_bi2 o.calm b pins s σ H _ uv Q I rx ⟨h, ι, av, v1, v2, u1, u2, v, rfl, sim, r1, r3, ev, k⟩
    | [], rr, el, ev => cases ev
    | _ :: _ :: _ :: _, rr, el, ev => cases ev
  have read : ∀ {σ H Q}, rdE X.K (evE F (.bi b es)) σ H Q → tCB (fun us H Q => ∃ h ι av vs v, RepRs X.K H_0 ι av H vs us ∧ SimH X.K h ι av H ∧ vs.length = (e :: r).length ∧ biV b vs h = some v ∧ ∀ av' H' u, Pst X.K ι av H h ι av' H' h → RepR X.K H ι av' H' v u → Q u H') (rdA X.K (evEs F es)) σ H Q := by
    rintro σ H Q ⟨ρ, h, ι, av, w, h', sim, re, e, k⟩
    simp only [evE] at e
    split at e
    · cases e
    · rename_i vs h1 e1
      split at e
      · cases e
      · rename_i z e2
        simp only [Option.some.injEq, Prod.mk.injEq] at e
        obtain ⟨rfl, rfl⟩ := e
        refine ⟨ρ, h, ι, av, vs, h1, sim, re, e1, fun ι1 av1 H1 us p rr => ?_⟩
        refine ⟨h1, ι1, av1, vs, z, ?_, p.sim, ln _ _ _ _ e1, e2, fun av2 H2 u2 p2 r2 => k ι1 av2 H2 u2 (p.trans p2) (r2.back p.stp)⟩
        -- weaker
        have any : ∀ {vs : List Val} {us : List V}, RepRs X.K H ι1 av1 H1 vs us → RepRs X.K H_0 ι1 av1 H1 vs us := by
          intro vs
          induction vs with
          | nil => intro us r; exact r
          | cons v vs ih =>
            intro us r
            obtain ⟨u, us, rfl, q1, q2, q3⟩ := r
            exact ⟨u, us, rfl, q1.any, ih q2, q3⟩
        exact any rr
  have hm := o.bl b
  have hv := bi_boot b
  obtain ⟨n1, n2⟩ := bi_nm b
  cases b <;> first
    | exact PEimp (pe_callB (id := _) rule (glB_ok o h2) hm hv gs n1 n2 se bk) fun σ H Q q => read q
    | exact PEimp (pe_callTy (T := _) rule (glB_ok o h2) hm hv gs n1 n2 se bk) fun σ H Q q => read q
end
end MP

/-! ## EngP.lean -/
set_option Elab.async false
set_option linter.all false
set_option maxRecDepth 100000
namespace MP
open PySem PySem.Spec PyProof.Rows L2
section
variable {K : PySem.W.Frag} {H H0 H1 H2 H' : Hp} {av av' av1 av2 avs : Av} {ι ι' ι0 ι1 ι2 ιs : List Addr} {h h' h1 h2 hs : Hs} {σ : L2.St} {ρ : Env'} {X : Cx}
variable {G : Chk} {F : CallF} {n : Nat} {sc : Scope} {fnB : Str → Bool}
/-! ### what is walked -/
abbrev Lk (h h' : Hs) : Prop := ∀ (n : Nat) (o : O), h[n]? = some o → o.locked = true → h'[n]? = some o
def WkOk (K : PySem.W.Frag) (J : L2.It) (items : List Val) (ι1 : List Addr) (av1 : Av) (H1 : Hp) (h1 : Hs) : Prop :=
  ∃ (G : Hp → Prop) (Y : Nat → Hp → V → Hp → Prop), L2.Walk J items.length G Y ∧ ∀ ι av H h, Stp ι1 av1 H1 ι av H → SimH K h ι av H → Lk h1 h →
    G H ∧ ∀ i x H', i < items.length → Y i H x H' → ∃ v, items[i]? = some v ∧ Pst K ι av H h ι av H' h ∧ RepV K ι av H' v x
def BackOk (b : Option (Nat × O)) (h h' : Hs) : Prop := match b with
  | none => True
  | some (n, o) => h[n]? = some o ∧ h'[n]? = some (lockO o)
def rdI (K : PySem.W.Frag) (m : Env' → Hs → Option (MP.Walk × Hs)) : TI := fun σ H R => ∃ ρ h ι av w h', SimH K h ι av H ∧ RepE K ρ ι av σ H ∧ m ρ h = some (w, h') ∧
  ∀ ι' av' H' J h3, Pst K ι av H h ι' av' H' h3 → Pst K ι av H h ι' av' H' h' → BackOk w.back h3 h' → WkOk K J w.items ι' av' H' h' → R J H'
theorem lock_l (o : O) : (lockO o).locked = true := by cases o <;> rfl
theorem locked_eq {o : O} (h : o.locked = true) : lockO o = o := by
  cases o with
  | lst k xs => have : k = true := h; subst this; rfl
  | ref k xs => have : k = true := h; subst this; rfl
  | gone => rfl
/-- a list of the heap is locked or let go -/
theorem Pst.setO {n : Nat} {o o' : O} (p : Pst K ιs avs H0 hs ι av H h) (e : h[n]? = some o) (eo : lockO o = lockO o') (lk : ∀ u, hs[n]? = some u → u.locked = true → u = o') : Pst K ιs avs H0 hs ι av H (h.set n o') := by
  have hn : n < h.length := (List.getElem?_eq_some_iff.mp e).1
  refine ⟨p.stp, ⟨by rw [List.length_set]; exact p.sim.len, p.sim.nd, fun m a u e1 q g => ?_, p.sim.lv, p.sim.live, fun m u q g => ?_⟩, fun m u q l => ?_⟩
  · by_cases hm : n = m
    · subst hm
      rw [List.getElem?_set_self hn] at q
      cases q
      exact p.sim.sub n a o e1 e fun z => by subst z; cases o' <;> simp [lockO] at eo; exact g rfl
    · rw [List.getElem?_set_ne hm] at q
      exact p.sim.sub m a u e1 q g
  · by_cases hm : n = m
    · subst hm
      rw [List.getElem?_set_self hn] at q
      cases q
      obtain ⟨a, vs, k1, k2, k3⟩ := p.sim.ob n o e fun z => by subst z; cases o' <;> simp [lockO] at eo; exact g rfl
      refine ⟨a, vs, k1, k2, ?_⟩
      cases o <;> cases o' <;> simp only [lockO, reduceCtorEq, O.lst.injEq, O.ref.injEq, true_and] at eo
      · subst eo; exact k3
      · subst eo; exact k3
      · trivial
    · rw [List.getElem?_set_ne hm] at q
      exact p.sim.ob m u q g
  · by_cases hm : n = m
    · subst hm
      rw [List.getElem?_set_self hn, lk u q l]
    · rw [List.getElem?_set_ne hm]
      exact p.lk m u q l
theorem Pst.lock {n : Nat} {o : O} (p : Pst K ιs avs H0 hs ι av H h) (e : h[n]? = some o) : Pst K ιs avs H0 hs ι av H (h.set n (lockO o)) := by
  refine p.setO e (locked_eq (lock_l o)).symm fun u q l => ?_
  have := p.lk n u q l
  rw [e] at this
  cases this
  exact (locked_eq l).symm
theorem lockO_lockO (o : O) : lockO (lockO o) = lockO o := locked_eq (lock_l o)
/-- let go again, behind the loop -/
theorem Pst.unlock {b : Option (Nat × O)} {h3 : Hs} (p : Pst K ιs avs H0 hs ι1 av1 H1 h1) (p2 : Pst K ι1 av1 H1 h1 ι av H h) (bk : BackOk b h3 h1) (p0 : Pst K ιs avs H0 hs ι2 av2 H2 h3) : Pst K ιs avs H0 hs ι av H (unlock b h) := by
  have p3 := p.trans p2
  cases b with
  | none => exact p3
  | some q =>
    obtain ⟨m, o⟩ := q
    obtain ⟨b1, b2⟩ := bk
    have e := p2.lk m _ b2 (lock_l o)
    refine p3.setO e (lockO_lockO o) fun u z l => ?_
    have := p0.lk m u z l
    rw [b1] at this
    cases this
    rfl
theorem wk_lst {P : Prop} {a : Addr} {xs : List D} {vs : List V} (q : H1 a = some (.lst vs)) (na : a ∉ ι1 ∨ ¬ av1 a) (sub : P) (r : RepDs K H1 av1 xs vs) : WkOk K (Itl K a) (xs.map Val.p) ι1 av1 H1 h1 := by
  have ln : (xs.map Val.p).length = vs.length := by rw [List.length_map, r.length]
  refine ⟨fun H => SqL K H a vs, YAt vs, by rw [ln]; exact L2.walk_list (xs := vs), fun ι av H h st sim lk => ⟨.of (st.keep a _ q na), fun i x H' hi y => ?_⟩⟩
  obtain ⟨rfl, y⟩ := y
  obtain ⟨d, e1, e2⟩ := (st.repDs sub r).getV y
  exact ⟨.p d, by rw [List.getElem?_map, e1]; rfl, .refl sim, e2⟩
theorem wk_tup {P : Prop} {a : Addr} {xs : List D} {vs : List V} (q : TupO H1 a vs) (na : a ∉ ι1 ∨ ¬ av1 a) (sub : P) (r : RepDs K H1 av1 xs vs) : WkOk K (Itt K a) (xs.map Val.p) ι1 av1 H1 h1 := by
  have ln : (xs.map Val.p).length = vs.length := by rw [List.length_map, r.length]
  refine ⟨fun H => SqT K H a vs, YAt vs, by rw [ln]; exact L2.walk_tup (xs := vs), fun ι av H h st sim lk => ⟨let ⟨o, _, q⟩ := q; .inl (.inr ⟨o, st.keep a _ q na⟩), fun i x H' hi y => ?_⟩⟩
  obtain ⟨rfl, y⟩ := y
  obtain ⟨d, e1, e2⟩ := (st.repDs sub r).getV y
  exact ⟨.p d, by rw [List.getElem?_map, e1]; rfl, .refl sim, e2⟩
theorem wk_scr {P : Prop} {a : Addr} {ns : List Int} (q : (Rd H1 a (.lst (ns.map V.int)) ∧ ¬ av1 a) ∨ KL K a (ns.map V.int)) (sub : P) : WkOk K (Itl K a) (ns.map fun n => Val.p (.int n)) ι1 av1 H1 h1 := by
  have ln : (ns.map fun n => Val.p (.int n)).length = (ns.map V.int).length := by rw [List.length_map, List.length_map]
  refine ⟨fun H => SqL K H a (ns.map V.int), YAt (ns.map V.int), by rw [ln]; exact L2.walk_list (xs := ns.map V.int), fun ι av H h st sim lk => ⟨?_, fun i x H' hi y => ?_⟩⟩
  · have rd : RepD K H1 av1 (.scr ns) (.ref a) := ⟨a, rfl, q⟩
    obtain ⟨b, e, q2⟩ := st.repD sub rd
    cases e
    exact sqL_of q2
  · obtain ⟨rfl, y⟩ := y
    rw [List.getElem?_map] at y
    cases e : ns[i]? with
    | none => rw [e] at y; cases y
    | some z =>
      rw [e] at y
      cases y
      exact ⟨.p (.int z), by rw [List.getElem?_map, e]; rfl, .refl sim, rfl⟩
def itemsO : O → List Val
  | .lst _ xs => xs.map Val.p
  | .ref _ ns => ns.map Val.loc
  | .gone => []
/-- a list of the heap, locked -/
theorem wk_loc {m : Nat} {a : Addr} {o : O} (e : h1[m]? = some o) (l : o.locked = true) (g : o ≠ .gone) (q : ι1[m]? = some a) :
    WkOk K (Itl K a) (itemsO o) ι1 av1 H1 h1 := by
  have ln : ∀ {H : Hp} {ι : List Addr} {av : Av} {h : Hs}, Stp ι1 av1 H1 ι av H → SimH K h ι av H → Lk h1 h → ∃ vs, H a = some (.lst vs) ∧ vs.length = (itemsO o).length ∧
      ∀ (i : Nat) (x : V), vs[i]? = some x → ∃ v, (itemsO o)[i]? = some v ∧ RepV K ι av H v x := by
    intro H ι av h st sim lk
    obtain ⟨b, vs, k1, k2, k3⟩ := sim.ob m o (lk m o e l) g
    rw [st.ix q] at k1
    cases k1
    refine ⟨vs, k2, ?_, ?_⟩
    · cases o with
      | lst k xs => simp only [itemsO, List.length_map]; exact RepDs.length k3
      | ref k ns => simp only [itemsO, List.length_map]; exact (paired_len k3).symm
      | gone => exact absurd rfl g
    · intro i x y
      cases o with
      | lst k xs =>
        obtain ⟨d, e1, e2⟩ := RepDs.getV k3 y
        exact ⟨.p d, by simp only [itemsO, List.getElem?_map, e1]; rfl, e2⟩
      | ref k ns =>
        obtain ⟨j, e1, b, e2, rfl⟩ := paired_get k3 y
        exact ⟨.loc j, by simp only [itemsO, List.getElem?_map, e1]; rfl, b, e2, rfl⟩
      | gone => exact absurd rfl g
  generalize (itemsO o) = items at ln ⊢
  refine ⟨fun H => ∃ vs, SqL K H a vs ∧ H a = some (.lst vs) ∧ vs.length = items.length, fun i H x H' => H' = H ∧ ∀ vs, SqL K H a vs → vs[i]? = some x, ⟨fun i H hi g => ?_, fun H g => ?_, fun i H x H' hi g y => y⟩, fun ι av H h st sim lk => ?_⟩
  · obtain ⟨vs, g1, _, g2⟩ := g
    exact ⟨vs, vs[i]'(by omega), g1, by simp⟩
  · obtain ⟨vs, g1, _, g2⟩ := g
    exact ⟨vs, g1, by omega⟩
  · obtain ⟨vs, g1, g2, g3⟩ := ln st sim lk
    refine ⟨⟨vs, .of g1, g1, g2⟩, fun i x H' hi y => ?_⟩
    obtain ⟨rfl, y⟩ := y
    obtain ⟨v, e1, e2⟩ := g3 i x (y vs (.of g1))
    exact ⟨v, e1, .refl sim, e2⟩
theorem wk_rng (lo : Int) (n : Nat) : WkOk K (Itr lo n) (rngI lo n) ι1 av1 H1 h1 := by
  have at_ : ∀ (n : Nat) (lo : Int) (i : Nat), i < n → (rngI lo n)[i]? = some (.p (.int (lo + i))) := by
    intro n
    induction n with
    | zero => intro lo i hi; omega
    | succ n ih =>
      intro lo i hi
      cases i with
      | zero => simp [rngI]
      | succ i =>
        simp only [rngI, List.getElem?_cons_succ]
        rw [ih (lo + 1) i (by omega)]
        have : lo + 1 + (i : Int) = lo + ((i + 1 : Nat) : Int) := by omega
        rw [this]
  have ln : ∀ (n : Nat) (lo : Int), (rngI lo n).length = n := by
    intro n
    induction n with
    | zero => intro lo; rfl
    | succ n ih => intro lo; simp [rngI, ih]
  refine ⟨fun _ => True, YFn fun i => .int (lo + i), by rw [ln]; exact L2.walk_range, fun ι av H h st sim lk => ⟨trivial, fun i x H' hi y => ?_⟩⟩
  obtain ⟨rfl, rfl⟩ := y
  rw [ln] at hi
  exact ⟨_, at_ n lo i hi, .refl sim, rfl⟩
theorem rg_pos {i j c : Int} (h1 : -1099511627776 ≤ i) (h2 : i ≤ 1099511627776) (h3 : -1099511627776 ≤ j) (h4 : j ≤ 1099511627776) (h5 : 0 < c) (h6 : c < 1073741824) : RgC i j c (if i < j then (j - i - 1) / c + 1 else 0).toNat := by
  have q : 0 ≤ (if i < j then (j - i - 1) / c + 1 else 0) := by
    split
    · have := Int.ediv_nonneg (show 0 ≤ j - i - 1 by omega) (Int.le_of_lt h5); omega
    · omega
  have e : Builtin.Range.rangeSize i j c = if i < j then (j - i - 1) / c + 1 else 0 := by
    unfold Builtin.Range.rangeSize
    rw [if_pos h5]
  refine ⟨by omega, by omega, ?_, by rw [e]; omega⟩
  unfold Builtin.Range.small
  rw [e]
  simp only [Builtin.Range.rangeFitsLong, Bool.and_eq_true, Bool.or_eq_true, decide_eq_true_eq, beq_iff_eq, h5, if_true]
  split
  · have a1 := Int.ediv_nonneg (show 0 ≤ j - i - 1 by omega) (Int.le_of_lt h5)
    have a2 : (j - i - 1) / c ≤ j - i - 1 := Int.ediv_le_self _ (by omega)
    have a3 : (j - i - 1) / c * c ≤ j - i - 1 := Int.ediv_mul_le _ (by omega)
    generalize (j - i - 1) / c = q at a1 a2 a3
    have a4 : (q + 1) * c = q * c + c := by rw [Int.add_mul, Int.one_mul]
    try simp only [a4]
    omega
  · omega
theorem wk_rngS (lo c : Int) (n : Nat) : WkOk K (Itc lo c n) (rngS lo c n) ι1 av1 H1 h1 := by
  have at_ : ∀ (n : Nat) (lo : Int) (i : Nat), i < n → (rngS lo c n)[i]? = some (.p (.int (lo + (i : Nat) * c))) := by
    intro n
    induction n with
    | zero => intro lo i hi; omega
    | succ n ih =>
      intro lo i hi
      cases i with
      | zero => simp [rngS]
      | succ i =>
        simp only [rngS, List.getElem?_cons_succ]
        rw [ih (lo + c) i (by omega)]
        have : lo + c + (i : Int) * c = lo + ((i + 1 : Nat) : Int) * c := by
          rw [show ((i + 1 : Nat) : Int) = (i : Int) + 1 by omega, Int.add_mul]
          omega
        rw [this]
  have ln : ∀ (n : Nat) (lo : Int), (rngS lo c n).length = n := by
    intro n
    induction n with
    | zero => intro lo; rfl
    | succ n ih => intro lo; simp [rngS, ih]
  refine ⟨fun _ => True, YFn fun i => .int (lo + (i : Nat) * c), by rw [ln]; exact L2.walk_rangeC, fun ι av H h st sim lk => ⟨trivial, fun i x H' hi y => ?_⟩⟩
  obtain ⟨rfl, rfl⟩ := y
  rw [ln] at hi
  exact ⟨_, at_ n lo i hi, .refl sim, rfl⟩
/-- a value that is a list or a tuple, walked -/
def iSeq (K : PySem.W.Frag) (tl : TE) : TI := fun σ H R => tl σ H fun x H1 => ∃ a, x = .ref a ∧ ((∃ xs, SqL K H1 a xs ∧ R (Itl K a) H1) ∨ ∃ xs, SqT K H1 a xs ∧ R (Itt K a) H1)
theorem pi_seq {tg l : Expr} {tl : TE} (g : PE X l tl) : PI X tg l (iSeq X.K tl) := by
  constructor
  intro pins s σ H R I q
  apply thn (g.run pins s σ H _ I q)
  rintro v s1 ⟨x, H1, I1, r1, a, rfl, hq⟩
  cases r1
  have fresh : ∀ {H' : Hp}, H' s1.heap.objs.size = none → ∀ b ∈ [s1.heap.objs.size], FpOk X pins H' b := by
    intro H' e b m
    rw [List.mem_singleton.mp m]
    exact I1.fpOk (Nat.le_refl _) e
  have e1 : H1 s1.heap.objs.size = none := I1.hok.fresh (Nat.le_refl _)
  rcases hq with ⟨xs, q1, q2⟩ | ⟨xs, q1, q2⟩
  · obtain ⟨its, rv, pl, _⟩ := I1.list q1
    apply wpAny_pyIter_list pl.isList
    have I2 := I1.kept (t' := s1.toks) (h' := s1.heap.push { cls := .type "list_iterator", data := .fields #[.ref a, rawInt (0 : Nat)] }) fun b o e => Heap.get?_push_of_some _ e
    exact ⟨_, [_], _, _, H1, rfl, I2, turn_list a _, ⟨_, Heap.get?_push_size _ rfl, rfl, rfl⟩, fresh e1, q2⟩
  · obtain ⟨its, rv, pl, _⟩ := I1.tuple q1
    apply wpAny_pyIter_tuple (show s1.heap.IsTuple a its.toArray from pl)
    have I2 := I1.kept (t' := s1.toks) (h' := s1.heap.push { cls := .type "tuple_iterator", data := .fields #[.ref a, rawInt (0 : Nat)] }) fun b o e => Heap.get?_push_of_some _ e
    exact ⟨_, [_], _, _, H1, rfl, I2, turn_tuple a _, ⟨_, Heap.get?_push_size _ rfl, rfl, rfl⟩, fresh e1, q2⟩
end
end MP

/-! ## EngPe.lean -/
set_option Elab.async false
set_option linter.all false
set_option maxRecDepth 100000
namespace MP
open PySem PySem.Spec PySem.Calls PyProof.Rows L2
/-! ### enumerate(list or tuple, start) -/
def SqB (K : PySem.W.Frag) (b : Bool) (H : Hp) (a : Addr) (xs : List V) : Prop := match b with
  | true => SqT K H a xs
  | false => SqL K H a xs
def IterB (b : Bool) (h : Heap) (it a : Addr) (i : Nat) : Prop := match b with
  | true => h.IsTupleIter it a i
  | false => h.IsListIter it a i
def IteS (K : PySem.W.Frag) (b : Bool) (k0 : Int) (a : Addr) : L2.It :=
  ⟨fun i H => ∃ (xs : List V) (x : V), SqB K b H a xs ∧ xs[i]? = some x,
   fun i H v H' => ∃ T x o, v = .ref T ∧ H T = none ∧ o.dict = none ∧ H' = upd H T (.frz o (.tup [.int (k0 + (i : Int)), x])) ∧ ∀ xs, SqB K b H a xs → xs[i]? = some x,
   fun i H => ∃ xs : List V, SqB K b H a xs ∧ xs.length = i⟩
section
variable {X : Cx} {pins : List (Addr × Obj)} {σ : L2.St} {H : Hp} {s : Shared} {a : Addr} {b : Bool} {xs ys : List V}
theorem sqB_inj (I : Inv X pins σ H s) (h : SqB X.K b H a xs) (h' : SqB X.K b H a ys) : xs = ys := by
  cases b
  · exact I.list_inj h h'
  · exact I.tuple_inj h h'
theorem drawB (I : Inv X pins σ H s) (hq : SqB X.K b H a xs) {A : Around} (hh : A.handled = none) {it : Addr} {i : Nat} (hi : IterB b s.heap it a i) :
    ∃ (its : List Value) (St : Nat → Heap → Prop), Vals xs its ∧ Draws X.prog X.w A it [it, a] its.length (fun i v => its[i]? = some v) St ∧ (∀ i h, St i h → IterB b h it a i) ∧ St i s.heap ∧ a ≠ it ∧ (∃ o, s.heap.get? a = some o ∧ o.cls ≠ .type "enumerate") := by
  cases b
  · obtain ⟨its, rv, p, hz⟩ := I.list hq
    have pl := p.isList
    have hne : a ≠ it := by
      rintro rfl
      obtain ⟨o, e1, c1, _⟩ := pl
      obtain ⟨o', e2, c2, _⟩ := hi
      rw [e1] at e2; cases e2
      rw [c1] at c2; injection c2 with c2; exact absurd c2 (by decide)
    refine ⟨its, fun i h => h.IsListIter it a i ∧ h.IsList a its.toArray, rv, ?_, fun i h st => st.1, ⟨hi, pl⟩, hne, ?_⟩
    · have := Draws.list (prog := X.prog) (w := X.w) (A := A) hh it a hne its.toArray
      simpa using this
    · obtain ⟨o, e1, c1, _⟩ := pl
      exact ⟨o, e1, by rw [c1]; intro z; injection z with z; exact absurd z (by decide)⟩
  · obtain ⟨its, rv, p, hz⟩ := I.tuple hq
    have pl : s.heap.IsTuple a its.toArray := p
    have hne : a ≠ it := by
      rintro rfl
      obtain ⟨o, e1, c1, _⟩ := pl
      obtain ⟨o', e2, c2, _⟩ := hi
      rw [e1] at e2; cases e2
      rw [c1] at c2; injection c2 with c2; exact absurd c2 (by decide)
    refine ⟨its, fun i h => h.IsTupleIter it a i ∧ h.IsTuple a its.toArray, rv, ?_, fun i h st => st.1, ⟨hi, pl⟩, hne, ?_⟩
    · have := Draws.tuple (prog := X.prog) (w := X.w) (A := A) hh it a hne its.toArray
      simpa using this
    · obtain ⟨o, e1, c1, _⟩ := pl
      exact ⟨o, e1, by rw [c1]; intro z; injection z with z; exact absurd z (by decide)⟩
end
theorem iterB_obj {b : Bool} {h : Heap} {it a : Addr} {i : Nat} (x : IterB b h it a i) : ∃ o, h.get? it = some o ∧ (∀ v, o.data ≠ .cell v) ∧ o.cls ≠ .type "enumerate" := by
  cases b
  · obtain ⟨o, ho, hc, hd⟩ := x
    exact ⟨o, ho, (fun v q => by rw [hd] at q; cases q), by rw [hc]; intro z; injection z with z; exact absurd z (by decide)⟩
  · obtain ⟨o, ho, hc, hd⟩ := x
    exact ⟨o, ho, (fun v q => by rw [hd] at q; cases q), by rw [hc]; intro z; injection z with z; exact absurd z (by decide)⟩
theorem iterB_at {b : Bool} {h h' : Heap} {it a : Addr} {i : Nat} (x : IterB b h it a i) (k : ∀ o, h.get? it = some o → h'.get? it = some o) : IterB b h' it a i := by
  cases b
  · obtain ⟨o, ho, r⟩ := x; exact ⟨o, k o ho, r⟩
  · obtain ⟨o, ho, r⟩ := x; exact ⟨o, k o ho, r⟩
theorem turn_enumS {P : Program} {w : World} {K : PySem.W.Frag} {elts : List Expr} {kk : Nat} {tpos : Pos} (b : Bool) (k0 : Int) (a e it : Addr) :
    Turn P w K (.Tuple elts kk tpos) (IteS K b k0 a) [e, it] e (fun i h => (∃ old, IsEnum h e it (k0 + ((i : Nat) : Int)) old) ∧ IterB b h it a i ∧ e ≠ it) where
  mem := by simp
  obj := fun i h st c hb => by
    obtain ⟨⟨old, he⟩, hi, _⟩ := st
    have e' : c = e ∨ c = it := by simpa using hb
    rcases e' with z | z
    · rw [z]; exact ⟨_, he, fun v q => nomatch q⟩
    · rw [z]
      obtain ⟨o, ho, hd, _⟩ := iterB_obj hi
      exact ⟨o, ho, hd⟩
  keep := fun i h h' st k => let ⟨⟨old, he⟩, hi, hne⟩ := st; ⟨⟨old, k e (by simp) _ he⟩, iterB_at hi fun o q => k it (by simp) o q, hne⟩
  item := by
    intro X hP hw hK hc i pins s σ H E I hf st hg
    subst hP hw hK
    obtain ⟨⟨old, he⟩, hit, hne⟩ := st
    obtain ⟨xs, x, hq, hx⟩ := hg
    obtain ⟨its, St, rv, D, hSt, hst, hai, o1, ho1, hc1⟩ := drawB I hq (A := X.A.in1) (I.ok.hd hc) hit
    obtain ⟨u, hu, ru⟩ := rv.get hx
    have hel : e < s.heap.objs.size := Heap.lt_size he
    have hil : it < s.heap.objs.size := by obtain ⟨_, q, _⟩ := iterB_obj hit; exact Heap.lt_size q
    have hea : e ≠ a := by
      rintro rfl
      have he' := he
      unfold IsEnum at he'
      rw [ho1] at he'; cases he'
      exact hc1 rfl
    have hil2 : i < its.length := by
      obtain ⟨h1, _⟩ := List.getElem?_eq_some_iff.mp hu
      exact h1
    refine wpAny_pyNext_enum_itemC D he hst hil2 hne (by simp [hne, hea]) fun x' h' tk hP ho hit' hT hsz hk => ?_
    have ex : x' = u := by have := hP; rw [hu] at this; exact (Option.some.inj this).symm
    subst ex
    refine ⟨_, rfl, wpAny_letOwnedTupleGo_enum (s := { s with heap := h', toks := tk + 1 }) ho fun h'' he' sb => ?_⟩
    have hT2 : h''.get? s.heap.objs.size = some { cls := .type "tuple", data := .seq #[.int (k0 + (i : Int)) tk, x'] } := (sb.2 _ (Nat.ne_of_gt hel)).trans hT
    have new : ObjOk X.prog X.w (upd H s.heap.objs.size (.frz (tupOb [.int (k0 + (i : Int)) tk, x']) (.tup [.int (k0 + (i : Int)), x]))) h'' s.heap.objs.size (.frz (tupOb [.int (k0 + (i : Int)) tk, x']) (.tup [.int (k0 + (i : Int)), x])) :=
      ⟨hT2, by show 2 ≤ sizeLine; decide, [.int (k0 + (i : Int)) tk, x'], .cons ⟨_, rfl⟩ (.cons ru .nil), ⟨_, hT2, rfl, _, rfl⟩⟩
    have I1 : Inv X pins σ (upd H s.heap.objs.size (.frz (tupOb [.int (k0 + (i : Int)) tk, x']) (.tup [.int (k0 + (i : Int)), x]))) { s with heap := h'', toks := tk + 1 } :=
      I.turnedNew (ch := [e, it]) (fun b ob hb q => (sb.2 b (fun z => hb (by simp [z]))).trans (hk b ob (fun z => hb (by simp [z])) (fun z => hb (by simp [z])) q)) hf (Nat.le_refl _) new
    refine ⟨.ref s.heap.objs.size, _, I1, rfl, ⟨_, x, _, rfl, I.hok.fresh (Nat.le_refl _), rfl, rfl, fun ys hy => by rw [sqB_inj I hy hq]; exact hx⟩, ⟨⟨x', ?_⟩, iterB_at (hSt _ _ hit') fun o q => (sb.2 it (Ne.symm hne)).trans q, hne⟩, fun c hb => ?_⟩
    · have e1 : k0 + ((i + 1 : Nat) : Int) = k0 + (i : Int) + 1 := by omega
      rw [e1]; exact he'
    · have hb' : c < s.heap.objs.size := by
        have e' : c = e ∨ c = it := by simpa using hb
        rcases e' with z | z
        · rw [z]; exact hel
        · rw [z]; exact hil
      rw [upd_ne (Nat.ne_of_lt hb')]
      exact (hf c hb).1
  done := by
    intro X hP hw hK hc i pins s σ H E I hf st hg
    subst hP hw hK
    obtain ⟨⟨old, he⟩, hit, hne⟩ := st
    obtain ⟨xs, hq, hx⟩ := hg
    obtain ⟨f0, f1, f2, f3, f4, f5⟩ := hf it (by simp)
    obtain ⟨its, St, rv, D, hSt, hst, hai, _⟩ := drawB I hq (A := X.A.in1) (I.ok.hd hc) hit
    have hl : its.length = i := by rw [← rv.length]; exact hx
    subst hl
    exact wpAny_pyNext_enum_endD D he hst fun h' eb => ⟨rfl, I.turned (t' := s.toks) (fun c o hb q => eb c o hb q) f0 f1 f3 f4 f5⟩
  self := fun A i s Q E st h => let ⟨⟨_, he⟩, _⟩ := st; wpAny_pyIter_enum he h
open Sem (wp) in
set_option maxHeartbeats 1000000 in
theorem meets_enumerate_new1B {v : Value} {o : Obj} {Hq : Heap → Prop} (B : Begins v o Hq) :
    Meets (Builtin.«enumerate.__new__» ⟨[.type "enumerate", v], []⟩) (fun _ R s => Hq s.heap ∧
      R (.ok (.ret (.ref (s.heap.push o).objs.size))) { s with heap := (s.heap.push o).push { cls := .type "enumerate", data := .fields #[.none, .bool false, .ref s.heap.objs.size, rawInt 0, .none, .none] } }) :=
  .of_wp fun prog w A R s h => by
    obtain ⟨hp, g, d, tk, os⟩ := s; obtain ⟨h1, h⟩ := h
    have hsub := sub_enumerate
    have q1 : ∀ {A' : Around} {E : Value → Shared → Prop} {Q : Value → Shared → Prop}, Q (.ref hp.objs.size) ⟨hp.push o, g, d, tk, os⟩ → wpAny (model prog w) A' (pyIter v) Q E ⟨hp, g, d, tk, os⟩ :=
      fun q => B.iter prog w _ _ ⟨hp, g, d, tk, os⟩ _ h1 q
    wp_walk using q1
    refine wpAny_stack_any fun st => wpAny_pure ?_
    split
    · rename_i c _ _ _ _ _
      cases (c == Value.type "enumerate")
      · wp_walk using q1
        exact ⟨_, rfl, h⟩
      · wp_walk using q1
        exact ⟨_, rfl, h⟩
    · wp_walk using q1
      exact ⟨_, rfl, h⟩
section
variable {prog : Program} {w : World} {A : Around} {E : Value → Shared → Prop} {s : Shared}
theorem enum_begins1 {v : Value} {o : Obj} {Hq : Heap → Prop} {Q : Value → Shared → Prop} (B : Begins v o Hq) (h1 : Hq s.heap)
    (h : ∀ h', IsEnum h' (s.heap.objs.size + 1) s.heap.objs.size 0 .none → h'.get? s.heap.objs.size = some o → h'.objs.size = s.heap.objs.size + 2 →
      (∀ b o, s.heap.get? b = some o → h'.get? b = some o) → Q (.ref (s.heap.objs.size + 1)) { s with heap := h' }) :
    wpAny (model prog w) A (call (.type "enumerate") [v]) Q E s := by
  refine callType_new F.called_enumerate (by decide) (F.typeCall_enumerate_1 _) (F.newCall_enumerate_1 _) (fun obj => F.args_object_init_2 obj _) F.entry_enumerate_new
    (meets_enumerate_new1B B) ⟨h1, ?_⟩
  have hz : (s.heap.push o).objs.size = s.heap.objs.size + 1 := Heap.size_push ..
  show _ ∧ _
  rw [hz]
  have he : IsEnum ((s.heap.push o).push { cls := .type "enumerate", data := .fields #[.none, .bool false, .ref s.heap.objs.size, rawInt 0, .none, .none] }) (s.heap.objs.size + 1) s.heap.objs.size 0 .none := by
    have := Heap.get?_push_size (s.heap.push o) (o := { cls := .type "enumerate", data := .fields #[.none, .bool false, .ref s.heap.objs.size, rawInt 0, .none, .none] }) rfl
    rw [hz] at this; exact this
  refine ⟨⟨_, he, rfl⟩, h _ he (Heap.get?_push_of_some _ (Heap.get?_push_size _ B.free)) (by rw [Heap.size_push, hz]) fun b o x => Heap.get?_push_of_some _ (Heap.get?_push_of_some _ x)⟩
end
/-- the cells of an enumerate, made -/
theorem enum_made {X : Cx} {pins : List (Addr × Obj)} {σ : L2.St} {H1 : Hp} {s1 : Shared} {elts : List Expr} {kk : Nat} {tpos : Pos} {R : L2.It → Hp → Prop} {b : Bool} {k0 : Int} {a : Addr} {h' : Heap} (I1 : Inv X pins σ H1 s1)
    (he : IsEnum h' (s1.heap.objs.size + 1) s1.heap.objs.size k0 .none) (hit : IterB b h' s1.heap.objs.size a 0) (hk : ∀ c o, s1.heap.get? c = some o → h'.get? c = some o) (q : R (IteS X.K b k0 a) H1) :
    wpAny (model X.prog X.w) X.A (pyIter (.ref (s1.heap.objs.size + 1))) (PIE X pins σ (.Tuple elts kk tpos) R) X.xe { s1 with heap := h' } := by
  refine wpAny_pyIter_enum he ?_
  have I2 : Inv X pins σ H1 { s1 with heap := h' } := I1.kept (t' := s1.toks) hk
  refine ⟨s1.heap.objs.size + 1, [s1.heap.objs.size + 1, s1.heap.objs.size], _, _, H1, rfl, I2, turn_enumS b k0 a (s1.heap.objs.size + 1) s1.heap.objs.size, ⟨⟨.none, by simpa using he⟩, hit, Nat.succ_ne_self _⟩, fun c hb => ?_, q⟩
  have e' : c = s1.heap.objs.size + 1 ∨ c = s1.heap.objs.size := by simpa using hb
  have hle : s1.heap.objs.size ≤ c := by
    rcases e' with z | z
    · rw [z]; exact Nat.le_add_right _ _
    · rw [z]; exact Nat.le_refl _
  exact I1.fpOk hle (I1.hok.fresh hle)
def iEnumS (K : PySem.W.Frag) (ta : TA) : TI := fun σ H R => ta σ H fun vs H1 => ∃ a xs b, vs = [.ref a] ∧ SqB K b H1 a xs ∧ R (IteS K b 0 a) H1
theorem pi_enumS {X : Cx} {e : Expr} {ta : TA} {p pos tpos : Pos} {elts : List Expr} {kk : Nat} (hg : Gl X "enumerate") (hm : X.mg "enumerate" = none) (ha : PA X [e] ta) (hs : starEach [e] X.env = [(false, eval e X.env)]) :
    PI X (.Tuple elts kk tpos) (.Call (.Name "enumerate" p) [e] [] pos) (iEnumS X.K ta) := by
  refine ⟨fun pins s σ H R I h => ?_⟩
  refine Call_ (ld_blt I hg hm boot_enumerate (PyProof.Rows.callWith_type1 (thn (ha.run pos pins s σ H _ I h) fun us s1 ⟨vs, H1, I1, r1, q1⟩ => ?_) hs rfl))
  obtain ⟨a, xs, b, ex, hq, q⟩ := q1
  subst ex
  cases r1 with
  | cons r rr =>
    cases rr
    cases r
    cases b
    · obtain ⟨its, rv, p', hz⟩ := I1.list hq
      exact enum_begins1 (begins_list a its.toArray) p'.isList fun h' he hit hsz hk => enum_made (b := false) (a := a) I1 he (show Heap.IsListIter _ _ _ _ from ⟨_, hit, rfl, rfl⟩) hk q
    · obtain ⟨its, rv, p', hz⟩ := I1.tuple hq
      exact enum_begins1 (begins_tuple a its.toArray) p' fun h' he hit hsz hk => enum_made (b := true) (a := a) I1 he (show Heap.IsTupleIter _ _ _ _ from ⟨_, hit, rfl, rfl⟩) hk q
def iEnumK (K : PySem.W.Frag) (ta : TA) : TI := fun σ H R => ta σ H fun vs H1 => ∃ a xs b k, vs = [.ref a, .int k] ∧ -(2 ^ 63) ≤ k ∧ k < 2 ^ 63 ∧ SqB K b H1 a xs ∧ R (IteS K b k a) H1
theorem pi_enumK {X : Cx} {e e2 : Expr} {ta : TA} {p pos tpos : Pos} {elts : List Expr} {kk : Nat} (hg : Gl X "enumerate") (hm : X.mg "enumerate" = none) (ha : PA X [e, e2] ta) (hs : starEach [e, e2] X.env = (false, eval e X.env) :: starEach [e2] X.env) (hp : (backTo pos (starEach [e2] X.env)).any (·.1) = false) :
    PI X (.Tuple elts kk tpos) (.Call (.Name "enumerate" p) [e, e2] [] pos) (iEnumK X.K ta) := by
  refine ⟨fun pins s σ H R I h => ?_⟩
  refine Call_ (ld_blt I hg hm boot_enumerate (PyProof.Rows.callWith_type1 (thn (ha.run pos pins s σ H _ I h) fun us s1 ⟨vs, H1, I1, r1, q1⟩ => ?_) hs hp))
  obtain ⟨a, xs, b, k, ex, k1, k2, hq, q⟩ := q1
  subst ex
  cases r1 with
  | cons r rr =>
    cases rr with
    | cons r2 rr =>
      cases rr
      cases r
      obtain ⟨t, rfl⟩ := r2
      cases b
      · obtain ⟨its, rv, p', hz⟩ := I1.list hq
        exact enum_begins (begins_list a its.toArray) p'.isList k1 k2 fun h' he hit hsz hk => enum_made (b := false) (a := a) I1 he (show Heap.IsListIter _ _ _ _ from ⟨_, hit, rfl, rfl⟩) hk q
      · obtain ⟨its, rv, p', hz⟩ := I1.tuple hq
        exact enum_begins (begins_tuple a its.toArray) p' k1 k2 fun h' he hit hsz hk => enum_made (b := true) (a := a) I1 he (show Heap.IsTupleIter _ _ _ _ from ⟨_, hit, rfl, rfl⟩) hk q
end MP

/-! ## EngQ.lean -/
set_option Elab.async false
set_option linter.all false
set_option maxRecDepth 100000
namespace MP
open PySem PySem.Spec PyProof.Rows L2
section
variable {K : PySem.W.Frag} {H H0 H1 H2 H' : Hp} {av av' av1 av2 avs : Av} {ι ι' ι0 ι1 ι2 ιs : List Addr} {h h' h1 h2 hs : Hs} {σ : L2.St} {ρ : Env'} {X : Cx}
variable {G : Chk} {F : CallF} {n : Nat} {sc : Scope} {fnB : Str → Bool}
theorem i_val {a : E} {tg x : Expr} (ga : PE X x (rdE X.K (evE F a))) : PI X tg x (rdI X.K (evI F (.val a))) := by
  refine ⟨fun pins s σ H R I q => (pi_seq ga).run pins s σ H R I ?_⟩
  obtain ⟨ρ, h, ι, av, w, h', sim, re, e, k⟩ := q
  simp only [evI] at e
  split at e
  · cases e
  · rename_i v h1 e1
    refine ⟨ρ, h, ι, av, v, h1, sim, re, e1, fun ι1 av1 H1 u p r => ?_⟩
    have sq : ∀ {b xs}, seqD h1 v = some (b, xs) → (∀ m, v ≠ .loc m) → w = ⟨xs.map .p, none⟩ → h' = h1 → ∃ a, u = .ref a ∧ ((∃ xs, SqL X.K H1 a xs ∧ R (Itl X.K a) H1) ∨ ∃ xs, SqT X.K H1 a xs ∧ R (Itt X.K a) H1) := by
      intro b xs es nl ew eh
      subst ew eh
      cases v with
      | p d =>
        cases d <;> simp [seqD] at es
        · obtain ⟨rfl, rfl⟩ := es
          obtain ⟨a', vs, rfl, q1, q2, q3⟩ := r
          exact ⟨a', rfl, .inr ⟨vs, q1.sq, k ι1 av1 H1 _ _ p p trivial (wk_tup q1 (.inr q2) p.sim.sub q3)⟩⟩
        · obtain ⟨rfl, rfl⟩ := es
          obtain ⟨a', vs, rfl, q1, q2, q3⟩ := r
          exact ⟨a', rfl, .inl ⟨vs, .of q1, k ι1 av1 H1 _ _ p p trivial (wk_lst q1 (.inr q2) p.sim.sub q3)⟩⟩
      | new ys =>
        simp [seqD] at es
        obtain ⟨rfl, rfl⟩ := es
        obtain ⟨a', vs, rfl, q0, q1, q2, q3, q4⟩ := r
        exact ⟨a', rfl, .inl ⟨vs, .of q1, k ι1 av1 H1 _ _ p p trivial (wk_lst q1 (.inl q3) p.sim.sub q4)⟩⟩
      | loc m => exact absurd rfl (nl m)
    unfold walkV at e
    split at e
    · rename_i ns
      simp only [Option.some.injEq, Prod.mk.injEq] at e
      obtain ⟨rfl, rfl⟩ := e
      obtain ⟨a', rfl, q⟩ := r
      exact ⟨a', rfl, .inl ⟨_, sqL_of q, k ι1 av1 H1 _ _ p p trivial (wk_scr q p.sim.sub)⟩⟩
    · rename_i m
      obtain ⟨a', q, rfl⟩ := r
      have go : ∀ o, h1[m]? = some o → o ≠ .gone → w = ⟨itemsO o, some (m, o)⟩ → h' = h1.set m (lockO o) → ∃ b, V.ref a' = .ref b ∧ ((∃ xs, SqL X.K H1 b xs ∧ R (Itl X.K b) H1) ∨ ∃ xs, SqT X.K H1 b xs ∧ R (Itt X.K b) H1) := by
        intro o eo g ew eh
        subst ew eh
        obtain ⟨b, vs, k1, k2, k3⟩ := p.sim.ob m o eo g
        rw [q] at k1; cases k1
        refine ⟨a', rfl, .inl ⟨vs, .of k2, ?_⟩⟩
        have hm : m < h1.length := (List.getElem?_eq_some_iff.mp eo).1
        have eset : (h1.set m (lockO o))[m]? = some (lockO o) := List.getElem?_set_self hm
        have pl := p.lock eo
        exact k ι1 av1 H1 _ _ p pl ⟨eo, eset⟩ (by have := wk_loc (K := X.K) (av1 := av1) (H1 := H1) eset (lock_l o) (fun z => by cases o <;> simp [lockO] at z; exact g rfl) q; cases o <;> first | exact this | exact absurd rfl g)
      split at e
      · rename_i b xs eo
        simp only [Option.some.injEq, Prod.mk.injEq] at e
        exact go _ eo nofun e.1.symm e.2.symm
      · rename_i b ns eo
        simp only [Option.some.injEq, Prod.mk.injEq] at e
        exact go _ eo nofun e.1.symm e.2.symm
      · cases e
    · rename_i nl1 nl2
      split at e
      · rename_i b xs es
        simp only [Option.some.injEq, Prod.mk.injEq] at e
        exact sq es nl2 e.1.symm e.2.symm
      · cases e
theorem enmD_at {d : D} : ∀ {xs : List D} {k0 : Int} {i : Nat}, xs[i]? = some d → (enmD k0 xs)[i]? = some (.p (.tup [.int (k0 + (i : Int)), d]))
  | [], _, _, h => by simp at h
  | x :: xs, k0, 0, h => by simp at h; subst h; simp [enmD]
  | x :: xs, k0, i + 1, h => by
    have := enmD_at (xs := xs) (k0 := k0 + 1) (i := i) (by simpa using h)
    rw [show k0 + 1 + (i : Int) = k0 + ((i + 1 : Nat) : Int) by push_cast; omega] at this
    simp only [enmD, List.getElem?_cons_succ]
    exact this
theorem enmD_len : ∀ (xs : List D) (k0 : Int), (enmD k0 xs).length = xs.length
  | [], _ => rfl
  | x :: xs, k0 => by simp only [enmD, List.length_cons, enmD_len xs]
theorem wk_enm {b : Bool} {k0 : Int} {a : Addr} {xs : List D} (g : ∀ ι av H h, Stp ι1 av1 H1 ι av H → SimH K h ι av H → Lk h1 h → ∃ vs, SqB K b H a vs ∧ RepDs K H av xs vs) : WkOk K (IteS K b k0 a) (enmD k0 xs) ι1 av1 H1 h1 := by
  refine ⟨fun H => ∃ vs, SqB K b H a vs ∧ vs.length = xs.length, (IteS K b k0 a).yld, ⟨fun i H hi q => ?_, fun H q => ?_, fun _ _ _ _ _ _ y => y⟩, fun ι av H h st sim lk => ?_⟩
  · obtain ⟨vs, q1, q2⟩ := q
    rw [enmD_len] at hi
    exact ⟨vs, vs[i]'(by omega), q1, by simp⟩
  · obtain ⟨vs, q1, q2⟩ := q
    exact ⟨vs, q1, by rw [enmD_len]; exact q2⟩
  · obtain ⟨vs, s1, r1⟩ := g ι av H h st sim lk
    refine ⟨⟨vs, s1, r1.length⟩, fun i x H' hi y => ?_⟩
    obtain ⟨T, x0, o, rfl, hT, hd, rfl, hx⟩ := y
    obtain ⟨d, e1, e2⟩ := RepDs.getV r1 (hx vs s1)
    obtain ⟨p1, p2⟩ := Pst.newTup (xs := [.int (k0 + (i : Int)), d]) (vs := [.int (k0 + (i : Int)), x0]) sim hT ⟨_, _, rfl, rfl, x0, [], rfl, e2, rfl⟩ hd
    exact ⟨_, enmD_at e1, p1, p2⟩
theorem enm_wk {k0 : Int} {v : Val} {b : Bool} {xs : List D} {u : V} {w : MP.Walk} (p : Pst K ι av H h ι1 av1 H1 h1) (r : RepR K H ι1 av1 H1 v u) (es : seqD h1 v = some (b, xs)) (e : (match lockV v h1 with | (bk, h2) => some ((⟨enmD k0 xs, bk⟩ : MP.Walk), h2)) = some (w, h')) :
    ∃ a vs, u = .ref a ∧ SqB K b H1 a vs ∧ Pst K ι av H h ι1 av1 H1 h' ∧ BackOk w.back h1 h' ∧ WkOk K (IteS K b k0 a) w.items ι1 av1 H1 h' := by
  obtain ⟨a, vs, eu, rv, ht, hl⟩ := seqD_ok p.sim r es
  have sq : SqB K b H1 a vs := by
    cases b
    · exact .of (hl rfl)
    · exact (ht rfl).sq
  have stay : (a ∉ ι1 ∨ ¬ av1 a) → WkOk K (IteS K b k0 a) (enmD k0 xs) ι1 av1 H1 h1 := fun na => wk_enm fun ι av H h st sim lk => by
    refine ⟨vs, ?_, st.repDs p.sim.sub rv⟩
    cases b
    · exact .of (st.keep a _ (hl rfl) na)
    · obtain ⟨o, hd, q⟩ := ht rfl
      exact .inl (.inr ⟨o, st.keep a _ q na⟩)
  cases v with
  | p d =>
    simp only [lockV, Option.some.injEq, Prod.mk.injEq] at e
    obtain ⟨rfl, rfl⟩ := e
    refine ⟨a, vs, eu, sq, p, trivial, stay ?_⟩
    cases d <;> simp [seqD] at es
    · obtain ⟨a', vs', e1, q1, q2, q3⟩ := r
      rw [eu] at e1; cases e1
      exact .inr q2
    · obtain ⟨a', vs', e1, q1, q2, q3⟩ := r
      rw [eu] at e1; cases e1
      exact .inr q2
  | new ys =>
    simp only [lockV, Option.some.injEq, Prod.mk.injEq] at e
    obtain ⟨rfl, rfl⟩ := e
    refine ⟨a, vs, eu, sq, p, trivial, stay ?_⟩
    obtain ⟨a', vs', e1, q0, q1, q2, q3, q4⟩ := r
    rw [eu] at e1; cases e1
    exact .inl q3
  | loc m =>
    simp only [seqD] at es
    split at es
    · rename_i k ys eo
      simp only [Option.some.injEq, Prod.mk.injEq] at es
      obtain ⟨rfl, rfl⟩ := es
      obtain ⟨a', q, e1⟩ := r
      rw [eu] at e1; cases e1
      simp only [lockV, eo, lockO, Option.some.injEq, Prod.mk.injEq] at e
      obtain ⟨rfl, rfl⟩ := e
      have hm : m < h1.length := (List.getElem?_eq_some_iff.mp eo).1
      have eset : (h1.set m (.lst true ys))[m]? = some (.lst true ys) := List.getElem?_set_self hm
      have pl := p.lock eo
      refine ⟨a, vs, eu, sq, pl, ⟨eo, eset⟩, wk_enm fun ι av H h st sim lk => ?_⟩
      obtain ⟨b', vs', k1, k2, k3⟩ := sim.ob m _ (lk m _ eset rfl) nofun
      rw [st.ix q] at k1
      cases k1
      exact ⟨vs', .of k2, k3⟩
    · cases es
theorem i_enm {e : E} {elts : List Expr} {kk : Nat} {tpos p pos : Pos} {y : Expr} (o : XOk G F n sc fnB X) (h2 : glB sc "enumerate" = true) (h3 : isStar y = false) (ga : PE X y (rdE X.K (evE F e))) :
    PI X (.Tuple elts kk tpos) (.Call (.Name "enumerate" p) [y] [] pos) (rdI X.K (evI F (.enm none e))) := by
  have g := pi_enumS (X := X) (elts := elts) (kk := kk) (tpos := tpos) (p := p) (pos := pos) (glB_ok o h2) (o.mo _ (by simp [mOther])) (pa_cons ga pa_nil (star_no h3 _ _)) (star_no h3 _ _)
  refine ⟨fun pins s σ H R I q => g.run pins s σ H R I ?_⟩
  obtain ⟨ρ, h, ι, av, w, h', sim, re, e, k⟩ := q
  simp only [evI] at e
  split at e
  · cases e
  · rename_i v h1 e1
    split at e
    · cases e
    · rename_i b xs es
      refine ⟨ρ, h, ι, av, v, h1, sim, re, e1, fun ι1 av1 H1 u p r => ?_⟩
      obtain ⟨a, vs, rfl, sq, p', bk, wk⟩ := enm_wk p r es e
      exact ⟨a, vs, b, rfl, sq, k ι1 av1 H1 _ h1 p p' bk wk⟩
theorem i_enmK {e : E} {c : Int} {elts : List Expr} {kk : Nat} {tpos p pos : Pos} {y z : Expr} (o : XOk G F n sc fnB X) (h2 : glB sc "enumerate" = true) (h3 : isStar y = false) (h4 : isStar z = false) (l1 : -1000000 ≤ c) (l2 : c < 1000000) (ga : PE X y (rdE X.K (evE F e))) (gz : PE X z (rdE X.K (evE F (.lit (.int c))))) :
    PI X (.Tuple elts kk tpos) (.Call (.Name "enumerate" p) [y, z] [] pos) (rdI X.K (evI F (.enm (some c) e))) := by
  have g := pi_enumK (X := X) (elts := elts) (kk := kk) (tpos := tpos) (p := p) (pos := pos) (glB_ok o h2) (o.mo _ (by simp [mOther])) (pa_cons ga (pa_cons gz pa_nil (star_no h4 _ _)) (star_no h3 _ _)) (star_no h3 _ _) (by rw [star_no h4]; rfl)
  refine ⟨fun pins s σ H R I q => g.run pins s σ H R I ?_⟩
  obtain ⟨ρ, h, ι, av, w, h', sim, re, e, k⟩ := q
  simp only [evI] at e
  split at e
  · cases e
  · rename_i v h1 e1
    split at e
    · cases e
    · rename_i b xs es
      refine ⟨ρ, h, ι, av, v, h1, sim, re, e1, fun ι1 av1 H1 u p r => ?_⟩
      refine ⟨ρ, h1, ι1, av1, .p (.int c), h1, p.sim, p.stp.repE sim.sub re, rfl, fun ι2 av2 H2 u2 p2 r2 => ?_⟩
      have e2 : u2 = V.int c := r2
      subst e2
      have r' := p2.stp.repR p.sim.sub r
      obtain ⟨a, vs, rfl, sq, p', bk, wk⟩ := enm_wk (p.trans p2) r' es e
      exact ⟨a, vs, b, c, rfl, by omega, by omega, sq, k ι2 av2 H2 _ h1 (p.trans p2) p' bk wk⟩
theorem i_rng {es : Es} {tg : Expr} {xs : List Expr} {p pos : Pos} (o : XOk G F n sc fnB X) (h2 : glB sc "range" = true) (h4 : (xs.all fun e => !isStar e) = true) (h5 : okEs G sc fnB es xs = true) (gs : PA X xs (rdA X.K (evEs F es)))
    (hl : xs.length = 1 ∨ xs.length = 2 ∨ xs.length = 3) : PI X tg (.Call (.Name "range" p) xs [] pos) (rdI X.K (evI F (.rng es))) := by
  have ln := es_len (F := F) h5 h4
  have gl := glB_ok o h2
  have gen : ∀ σ H R, rdI X.K (evI F (.rng es)) σ H R → rdA X.K (evEs F es) σ H fun us H1 => ∃ vs xs' ι1 av1 h1, RepRs X.K H ι1 av1 H1 vs us ∧ vs.length = xs.length ∧ rngV vs = some xs' ∧ ∀ J, WkOk X.K J xs' ι1 av1 H1 h1 → R J H1 := by
    rintro σ H R ⟨ρ, h, ι, av, w, h', sim, re, e, k⟩
    simp only [evI] at e
    split at e
    · cases e
    · rename_i vs h1 e1
      split at e
      · cases e
      · rename_i ys e2
        simp only [Option.some.injEq, Prod.mk.injEq] at e
        obtain ⟨rfl, rfl⟩ := e
        exact ⟨ρ, h, ι, av, vs, h1, sim, re, e1, fun ι1 av1 H1 us p r => ⟨vs, ys, ι1, av1, h1, r, ln _ _ _ _ e1, e2, fun J wk => k ι1 av1 H1 J _ p p trivial wk⟩⟩
  have sm : ∀ {i : Int}, small i = true → -(2 ^ 62) ≤ i ∧ i < 2 ^ 62 := fun {i} z => by
    unfold small at z
    simp only [Bool.and_eq_true, decide_eq_true_eq] at z
    omega
  match xs, hl, h4, gs, gen with
  | [x], _, h4, gs, gen =>
    simp only [List.all_cons, List.all_nil, Bool.and_true, Bool.not_eq_true'] at h4
    refine ⟨fun pins s σ H R I q => (pi_range1 gl o.rg gs (by rw [star_no h4]; rfl)).run pins s σ H R I ?_⟩
    obtain ⟨ρ, h, ι, av, vs, h', sim, re, e, k⟩ := gen _ _ _ q
    refine ⟨ρ, h, ι, av, vs, h', sim, re, e, fun ι1 av1 H1 us p r => ?_⟩
    obtain ⟨vs, ys, ι2, av2, h2, r2, el, er, kk⟩ := k ι1 av1 H1 us p r
    match vs, el, r2, er with
    | [v], el, r2, er =>
      obtain ⟨u, us, rfl, q1, q2, _⟩ := r2
      cases q2
      unfold rngV at er
      split at er
      · rename_i j z
        simp only [List.cons.injEq, and_true] at z
        subst z
        split at er
        · rename_i hm
          simp only [Option.some.injEq] at er
          subst er
          exact ⟨j, by rw [q1.intE], (sm hm).1, (sm hm).2, kk _ (wk_rng 0 j.toNat)⟩
        · cases er
      · rename_i z; simp at z
      · rename_i z; simp at z
      · cases er
  | [x, y], _, h4, gs, gen =>
    simp only [List.all_cons, List.all_nil, Bool.and_true, Bool.and_eq_true, Bool.not_eq_true'] at h4
    refine ⟨fun pins s σ H R I q => (pi_range2 gl o.rg gs (by rw [star_no h4.1, star_no h4.2]; rfl) (by rw [star_no h4.2]; rfl)).run pins s σ H R I ?_⟩
    obtain ⟨ρ, h, ι, av, vs, h', sim, re, e, k⟩ := gen _ _ _ q
    refine ⟨ρ, h, ι, av, vs, h', sim, re, e, fun ι1 av1 H1 us p r => ?_⟩
    obtain ⟨vs, ys, ι2, av2, h2, r2, el, er, kk⟩ := k ι1 av1 H1 us p r
    match vs, el, r2, er with
    | [v, w], el, r2, er =>
      obtain ⟨u, us, rfl, q1, q2, _⟩ := r2
      obtain ⟨u2, us, rfl, q3, q4, _⟩ := q2
      cases q4
      unfold rngV at er
      split at er
      · rename_i z; simp at z
      · rename_i i j z
        simp only [List.cons.injEq, and_true] at z
        obtain ⟨rfl, rfl⟩ := z
        split at er
        · rename_i hm
          rw [Bool.and_eq_true] at hm
          simp only [Option.some.injEq] at er
          subst er
          exact ⟨i, j, by rw [q1.intE, q3.intE], ⟨(sm hm.1).1, (sm hm.1).2, (sm hm.2).1, (sm hm.2).2⟩, kk _ (wk_rng i (j - i).toNat)⟩
        · cases er
      · rename_i z; simp at z
      · cases er
  | [x, y, z], _, h4, gs, gen =>
    have h4' := h4
    rw [List.all_cons, Bool.and_eq_true] at h4'
    refine ⟨fun pins s σ H R I q => (pi_range3 gl o.rg gs (star_no (by simpa using h4'.1) _ _) (back_no h4'.2 _ _)).run pins s σ H R I ?_⟩
    obtain ⟨ρ, h, ι, av, vs, h', sim, re, e, k⟩ := gen _ _ _ q
    refine ⟨ρ, h, ι, av, vs, h', sim, re, e, fun ι1 av1 H1 us p r => ?_⟩
    obtain ⟨vs, ys, ι2, av2, h2, r2, el, er, kk⟩ := k ι1 av1 H1 us p r
    match vs, el, r2, er with
    | [v, w, t], el, r2, er =>
      obtain ⟨u, us, rfl, q1, q2, _⟩ := r2
      obtain ⟨u2, us, rfl, q3, q4, _⟩ := q2
      obtain ⟨u3, us, rfl, q5, q6, _⟩ := q4
      cases q6
      unfold rngV at er
      split at er
      · rename_i z; simp at z
      · rename_i z; simp at z
      · rename_i i j c z
        simp only [List.cons.injEq, and_true] at z
        obtain ⟨rfl, rfl, rfl⟩ := z
        split at er
        · rename_i hm
          simp only [Bool.and_eq_true, decide_eq_true_eq] at hm
          obtain ⟨⟨m1, m2⟩, m3⟩ := hm
          subst m3
          simp only [Option.some.injEq] at er
          subst er
          exact ⟨i, j, -1, (i - j).toNat, by rw [q1.intE, q3.intE, q5.intE], RgC.neg (sm m1).1 (sm m1).2 (sm m2).1 (sm m2).2, kk _ (wk_rngS i (-1) (i - j).toNat)⟩
        · split at er
          · rename_i hm
            unfold mid at hm
            simp only [Bool.and_eq_true, decide_eq_true_eq] at hm
            obtain ⟨⟨⟨m1, m2⟩, m3, m4⟩, m5, m6⟩ := hm
            simp only [Option.some.injEq] at er
            subst er
            exact ⟨i, j, c, stepN i j c, by rw [q1.intE, q3.intE, q5.intE], rg_pos m1 m2 m3 m4 m5 m6, kk _ (wk_rngS i c (stepN i j c))⟩
          · cases er
      · cases er
  | [], hl, _, _, _ => simp at hl
  | _ :: _ :: _ :: _ :: _, hl, _, _, _ => simp at hl

/-! ### tests -/
theorem t_val {a : E} {x : Expr} (hx : isTest x = false) (ga : PE X x (rdE X.K (evE F a))) : PT X x (rdT X.K (evT F (.val a))) := by
  refine PTimp (pt_truth ga (test_no hx _)) ?_
  rintro σ H Q ⟨ρ, h, ι, av, b, h', sim, re, e, k⟩
  simp only [evT] at e
  split at e
  · cases e
  · rename_i v h1 e1
    split at e
    · cases e
    · rename_i c e2
      simp only [Option.some.injEq, Prod.mk.injEq] at e
      obtain ⟨rfl, rfl⟩ := e
      exact ⟨ρ, h, ι, av, v, h1, sim, re, e1, fun ι1 av1 H1 u p r => ⟨c, tru_V p.sim r e2, k ι1 av1 H1 p⟩⟩
/-- a value that is a truth -/
theorem t_bool {a : E} {σ : L2.St} {H : Hp} {Q : Bool → Hp → Prop} (hb : ∀ ρ h v h', evE F a ρ h = some (v, h') → ∃ b, v = .p (.bl b)) (q : rdT X.K (evT F (.val a)) σ H Q) : rdE X.K (evE F a) σ H fun x H' => ∃ k, x = .bl k ∧ Q k H' := by
  obtain ⟨ρ, h, ι, av, b, h', sim, re, e, k⟩ := q
  simp only [evT] at e
  split at e
  · cases e
  · rename_i v h1 e1
    split at e
    · cases e
    · rename_i c e2
      simp only [Option.some.injEq, Prod.mk.injEq] at e
      obtain ⟨rfl, rfl⟩ := e
      obtain ⟨d, rfl⟩ := hb _ _ _ _ e1
      simp only [truV, Option.some.injEq] at e2
      subst e2
      exact ⟨ρ, h, ι, av, _, h1, sim, re, e1, fun ι1 av1 H1 u p r => ⟨d, r, k ι1 av1 H1 p⟩⟩
theorem cmp_bool {op : CmpOp} {a b : E} (ρ : Env') (h : Hs) (v : Val) (h' : Hs) (e : evE F (.cmp op a b) ρ h = some (v, h')) : ∃ b, v = .p (.bl b) := by
  simp only [evE] at e
  split at e
  · cases e
  · split at e
    · cases e
    · split at e
      · cases e
      · rename_i z e3
        simp only [Option.some.injEq, Prod.mk.injEq] at e
        obtain ⟨rfl, rfl⟩ := e
        unfold cmpW at e3
        split at e3
        · cases e3
        · simp only [Option.some.injEq] at e3
          exact ⟨_, e3.symm⟩
theorem chn_bool {op op' : CmpOp} {a b c : E} (ρ : Env') (h : Hs) (v : Val) (h' : Hs) (e : evE F (.chn op op' a b c) ρ h = some (v, h')) : ∃ b, v = .p (.bl b) := by
  simp only [evE] at e
  split at e
  · cases e
  · split at e
    · cases e
    · split at e
      · cases e
      · simp only [Option.some.injEq, Prod.mk.injEq] at e
        exact ⟨_, e.1.symm⟩
      · split at e
        · cases e
        · split at e
          · cases e
          · simp only [Option.some.injEq, Prod.mk.injEq] at e
            exact ⟨_, e.1.symm⟩
theorem t_cmp {op : CmpOp} {a b : E} {x y : Expr} {pos : Pos} (o : XOk G F n sc fnB X) (hs : isSet y = false) (ga : PE X x (rdE X.K (evE F a))) (gb : PE X y (rdE X.K (evE F b))) : PT X (.Compare x [op] [y] pos) (rdT X.K (evT F (.val (.cmp op a b)))) := by
  refine PTimp (pt_cmpR (op_cmp o.hu op) ga gb (mark_no hs op)) fun σ H Q q => ?_
  exact two_ok (K := X.K) (f := fun _ _ => pure .none) (m := cmpW op) σ H _ (t_bool cmp_bool q)
theorem t_chn {op op' : CmpOp} {a b c : E} {x y z : Expr} {pos : Pos} (o : XOk G F n sc fnB X) (hs : isSet z = false) (ga : PE X x (rdE X.K (evE F a))) (gb : PE X y (rdE X.K (evE F b))) (gc : PE X z (rdE X.K (evE F c))) :
    PT X (.Compare x [op, op'] [y, z] pos) (rdT X.K (evT F (.val (.chn op op' a b c)))) :=
  PTimp (pt_chain (op_cmp o.hu op) (op_cmp o.hu op') ga gb gc (last_no hs)) fun _ _ _ q => chain_ok (t_bool chn_bool q)
theorem t_not {t : T} {x : Expr} {pos : Pos} (g : PT X x (rdT X.K (evT F t))) : PT X (.UnaryOp .Not x pos) (rdT X.K (evT F (.not t))) := by
  refine PTimp (pt_not g) ?_
  rintro σ H Q ⟨ρ, h, ι, av, b, h', sim, re, e, k⟩
  simp only [evT] at e
  split at e
  · rename_i c h1 e1
    simp only [Option.some.injEq, Prod.mk.injEq] at e
    obtain ⟨rfl, rfl⟩ := e
    exact ⟨ρ, h, ι, av, c, h1, sim, re, e1, fun ι1 av1 H1 p => k ι1 av1 H1 p⟩
  · cases e
theorem w_one {op : BoolOp} {t : T} {x : Expr} {pos : Pos} (g : PT X x (rdT X.K (evT F t))) : PW X (.BoolOp op [x] pos) (rdT X.K (evT F (.one t))) := by
  cases op
  · exact PWimp (pw_and1 g) fun _ _ _ q => q
  · exact PWimp (pw_or1 g) fun _ _ _ q => q
theorem w_and {t u : T} {x y : Expr} {es : List Expr} {pos : Pos} (g : PT X x (rdT X.K (evT F t))) (gu : PW X (.BoolOp .And (y :: es) pos) (rdT X.K (evT F u))) : PW X (.BoolOp .And (x :: y :: es) pos) (rdT X.K (evT F (.and t u))) := by
  refine PWimp (pw_and g gu) ?_
  rintro σ H Q ⟨ρ, h, ι, av, b, h', sim, re, e, k⟩
  simp only [evT] at e
  split at e
  · cases e
  · rename_i h1 e1
    refine ⟨ρ, h, ι, av, true, h1, sim, re, e1, fun ι1 av1 H1 p => iteT ?_⟩
    exact ⟨ρ, h1, ι1, av1, b, h', p.sim, p.stp.repE sim.sub re, e, fun ι2 av2 H2 p2 => k ι2 av2 H2 (p.trans p2)⟩
  · rename_i h1 e1
    simp only [Option.some.injEq, Prod.mk.injEq] at e
    obtain ⟨rfl, rfl⟩ := e
    exact ⟨ρ, h, ι, av, false, h1, sim, re, e1, fun ι1 av1 H1 p => iteF <| k ι1 av1 H1 p⟩
theorem w_or {t u : T} {x y : Expr} {es : List Expr} {pos : Pos} (g : PT X x (rdT X.K (evT F t))) (gu : PW X (.BoolOp .Or (y :: es) pos) (rdT X.K (evT F u))) : PW X (.BoolOp .Or (x :: y :: es) pos) (rdT X.K (evT F (.or t u))) := by
  refine PWimp (pw_or g gu) ?_
  rintro σ H Q ⟨ρ, h, ι, av, b, h', sim, re, e, k⟩
  simp only [evT] at e
  split at e
  · cases e
  · rename_i h1 e1
    simp only [Option.some.injEq, Prod.mk.injEq] at e
    obtain ⟨rfl, rfl⟩ := e
    exact ⟨ρ, h, ι, av, true, h1, sim, re, e1, fun ι1 av1 H1 p => iteT <| k ι1 av1 H1 p⟩
  · rename_i h1 e1
    refine ⟨ρ, h, ι, av, false, h1, sim, re, e1, fun ι1 av1 H1 p => iteF ?_⟩
    exact ⟨ρ, h1, ι1, av1, b, h', p.sim, p.stp.repE sim.sub re, e, fun ι2 av2 H2 p2 => k ι2 av2 H2 (p.trans p2)⟩
end
end MP

/-! ## EngR.lean -/
set_option Elab.async false
set_option linter.all false
set_option maxRecDepth 100000
namespace MP
open PySem PySem.Spec PyProof.Rows L2
section
variable {K : PySem.W.Frag} {H H0 H1 H2 H' : Hp} {av av' av1 av2 avs : Av} {ι ι' ι0 ι1 ι2 ιs : List Addr} {h h' h1 h2 hs : Hs} {σ σ1 : L2.St} {ρ ρ1 : Env'} {X : Cx}
variable {G : Chk} {F : CallF} {n : Nat} {sc : Scope} {fnB : Str → Bool}
/-! ### targets -/
def gAll : List Nat → TGs
  | [] => gNil
  | i :: is => gCons (gName i) (gAll is)
def gTgK (K : PySem.W.Frag) : Tg → TG
  | .nm i => gName i
  | .tp is => gTup K is.length (gAll is)
theorem RepE.set {i : Nat} {v : Val} {u : V} (r : RepE K ρ ι av σ H) (rv : RepV K ι av H v u) : RepE K (ρ.set i (some v)) ι av (σ.set i (some u)) H := by
  refine ⟨by rw [List.length_set, List.length_set]; exact r.1, fun j w e => ?_⟩
  by_cases hj : i = j
  · subst hj
    by_cases hi : i < ρ.length
    · rw [List.getElem?_set_self hi] at e
      cases e
      exact ⟨u, by rw [List.getElem?_set_self (by rw [← r.1]; exact hi)], rv⟩
    · rw [List.getElem?_eq_none (by rw [List.length_set]; omega)] at e
      cases e
  · rw [List.getElem?_set_ne hj] at e
    obtain ⟨u', q1, q2⟩ := r.2 j w e
    exact ⟨u', by rw [List.getElem?_set_ne hj]; exact q1, q2⟩
theorem gAll_ok : ∀ {is : List Nat} {ds : List D} {vs : List V} {σ : L2.St} {ρ ρ1 : Env'} {Q : L2.St → Hp → Prop}, setAll is ds ρ = some ρ1 → RepDs K H av ds vs → RepE K ρ ι av σ H →
    (∀ σ1, σ1.length = σ.length → RepE K ρ1 ι av σ1 H → (∀ j, j ∉ is → σ1[j]? = σ[j]?) → Q σ1 H) → vs.length = is.length ∧ gAll is vs σ H Q
  | [], ds, vs, σ, ρ, ρ1, Q, e, r, re, k => by
    cases ds with
    | nil =>
      simp only [setAll, Option.some.injEq] at e
      subst e
      cases r
      exact ⟨rfl, rfl, k σ rfl re fun _ _ => rfl⟩
    | cons d ds => simp [setAll] at e
  | i :: is, ds, vs, σ, ρ, ρ1, Q, e, r, re, k => by
    cases ds with
    | nil => simp [setAll] at e
    | cons d ds =>
      obtain ⟨v, vs, rfl, r1, r2⟩ := r
      simp only [setAll] at e
      have re2 : RepE K (ρ.set i (some (.p d))) ι av (σ.set i (some v)) H := re.set r1
      obtain ⟨g1, g2⟩ := gAll_ok e r2 re2 (Q := Q) fun σ1 l1 q1 o1 => k σ1 (by rw [l1, List.length_set]) q1 fun j hj => by
        rw [o1 j fun m => hj (List.mem_cons_of_mem _ m), List.getElem?_set_ne fun z => hj (by rw [z]; exact List.mem_cons_self)]
      exact ⟨by simp [g1], v, vs, rfl, g2⟩
theorem tg_reads {t : Tg} {v : Val} {u : V} {Q : L2.St → Hp → Prop} (e : setTg t v ρ = some ρ1) (re : RepE K ρ ι av σ H) (rv : RepV K ι av H v u)
    (k : ∀ σ1, σ1.length = σ.length → RepE K ρ1 ι av σ1 H → (∀ j, j ∉ tgSlots t → σ1[j]? = σ[j]?) → Q σ1 H) : gTgK K t u σ H Q := by
  cases t with
  | nm i =>
    have e2 : ρ.set i (some v) = ρ1 := by
      cases v with
      | new xs => simp [setTg] at e
      | p d => simpa [setTg] using e
      | loc m => simpa [setTg] using e
    subst e2
    exact k _ (by rw [List.length_set]) (re.set rv) fun j hj => by rw [List.getElem?_set_ne fun z => hj (by rw [z]; exact List.mem_cons_self)]
  | tp is =>
    simp only [setTg] at e
    split at e
    · rename_i ds
      obtain ⟨a, vs, rfl, q1, q2, q3⟩ := rv
      obtain ⟨g1, g2⟩ := gAll_ok e q3 re (Q := Q) k
      exact ⟨a, vs, rfl, q1.sq, g1, g2⟩
    · cases e
theorem names_len : ∀ {is : List Nat} {es : List Expr} {env : Env}, okTg.go G sc fnB is es = true → (assignEach es env).length = is.length ∧ (assignEach es env).findIdx? (·.1) = none
  | [], es, env, h => by
    cases es with
    | nil => exact ⟨rfl, rfl⟩
    | cons e es => cases e <;> simp [okTg.go] at h
  | i :: is, es, env, h => by
    cases es with
    | nil => simp [okTg.go] at h
    | cons e es =>
      cases e <;> simp [okTg.go] at h
      rename_i x p
      obtain ⟨h1, h2⟩ := names_len (env := env) h.2
      refine ⟨?_, ?_⟩
      · show (assignEach es env).length + 1 = _
        rw [h1]; rfl
      · show List.findIdx? (·.1) ((false, _) :: assignEach es env) = none
        rw [List.findIdx?_cons, h2]
        rfl
theorem pgs_ok (o : XOk G F n sc fnB X) : ∀ {is : List Nat} {es : List Expr}, okTg.go G sc fnB is es = true → PGs X es (gAll is)
  | [], es, h => by
    cases es with
    | nil => exact pgs_nil
    | cons e es => cases e <;> simp [okTg.go] at h
  | i :: is, es, h => by
    cases es with
    | nil => simp [okTg.go] at h
    | cons e es =>
      cases e <;> simp only [okTg.go, Bool.false_eq_true] at h
      rename_i x p
      simp only [Bool.and_eq_true, decide_eq_true_eq] at h
      obtain ⟨s1, s2⟩ := stB_ok o h.1.2
      exact pgs_cons (pg_name (by rw [o.nN]; exact o.nd) (by rw [o.nN]; exact h.1.1) s1 s2) (pgs_ok o h.2) rfl
theorem tg_ok {t : Tg} {e : Expr} (o : XOk G F n sc fnB X) (h : okTg G sc fnB t e = true) : PG X e (gTgK X.K t) := by
  cases t with
  | nm i =>
    cases e <;> simp only [okTg, Bool.false_eq_true] at h
    rename_i x p
    simp only [Bool.and_eq_true, decide_eq_true_eq] at h
    obtain ⟨s1, s2⟩ := stB_ok o h.2
    exact pg_name (by rw [o.nN]; exact o.nd) (by rw [o.nN]; exact h.1) s1 s2
  | tp is =>
    cases e <;> simp only [okTg, Bool.false_eq_true] at h
    obtain ⟨l1, l2⟩ := names_len (env := X.env) h
    exact pg_tup o.calm (pgs_ok o h) l1 l2
/-! ### comprehensions -/
theorem wipe_at : ∀ (vs : List Nat) (σ : L2.St) (j : Nat), (wipe σ vs)[j]? = if j ∈ vs then (if j < σ.length then some none else none) else σ[j]?
  | [], σ, j => by simp [wipe]
  | v :: vs, σ, j => by
    unfold wipe
    by_cases hv : v = j
    · subst hv
      by_cases hl : v < σ.length
      · rw [List.getElem?_set_self (by rw [wipe_length]; exact hl)]
        simp [hl]
      · rw [List.getElem?_eq_none (by rw [List.length_set, wipe_length]; omega)]
        simp [hl]
    · rw [List.getElem?_set_ne hv, wipe_at vs σ j]
      have : (j ∈ v :: vs) ↔ j ∈ vs := by simp [Ne.symm hv]
      simp only [this]
theorem wipeE_at : ∀ (vs : List Nat) (σ : Env') (j : Nat), (wipeE σ vs)[j]? = if j ∈ vs then (if j < σ.length then some none else none) else σ[j]?
  | [], σ, j => by simp [wipeE]
  | v :: vs, σ, j => by
    have wl : ∀ vs : List Nat, (wipeE σ vs).length = σ.length := by
      intro vs
      induction vs with
      | nil => rfl
      | cons v vs ih => unfold wipeE; rw [List.length_set, ih]
    unfold wipeE
    by_cases hv : v = j
    · subst hv
      by_cases hl : v < σ.length
      · rw [List.getElem?_set_self (by rw [wl]; exact hl)]
        simp [hl]
      · rw [List.getElem?_eq_none (by rw [List.length_set, wl]; omega)]
        simp [hl]
    · rw [List.getElem?_set_ne hv, wipeE_at vs σ j]
      have : (j ∈ v :: vs) ↔ j ∈ vs := by simp [Ne.symm hv]
      simp only [this]
theorem wipeE_length (σ : Env') : ∀ vs : List Nat, (wipeE σ vs).length = σ.length
  | [] => rfl
  | v :: vs => by unfold wipeE; rw [List.length_set, wipeE_length σ vs]
theorem RepE.wipe (vs : List Nat) (r : RepE K ρ ι av σ H) : RepE K (wipeE ρ vs) ι av (L2.wipe σ vs) H := by
  refine ⟨by rw [wipeE_length, wipe_length]; exact r.1, fun j w e => ?_⟩
  rw [wipeE_at] at e
  rw [wipe_at]
  split at e
  · split at e <;> cases e
  · rename_i hj
    rw [if_neg hj]
    exact r.2 j w e
theorem wipe_same {vs : List Nat} {σ1 : L2.St} (l : σ1.length = (L2.wipe σ vs).length) (a : ∀ j, j ∉ vs → σ1[j]? = (L2.wipe σ vs)[j]?) : L2.wipe σ1 vs = L2.wipe σ vs := by
  rw [wipe_length] at l
  apply List.ext_getElem?
  intro j
  rw [wipe_at, wipe_at]
  by_cases hj : j ∈ vs
  · rw [if_pos hj, if_pos hj, l]
  · rw [if_neg hj, if_neg hj, a j hj, wipe_at, if_neg hj]
/-- a new list that nothing else holds is written -/
theorem Pst.temp {D : Addr} {o u : HO} {P : Prop} (p : Pst K ιs avs H0 hs ι av H h) (sim0 : P) (d0 : H0 D = none) (d1 : H D = some o) (d2 : av D) (d3 : D ∉ ι) : Pst K ιs avs H0 hs ι av (upd H D u) h := by
  have ne : ∀ a, H0 a ≠ none → a ≠ D := fun a z e => z (e ▸ d0)
  refine ⟨⟨p.stp.ext, fun a o q m => ?_, fun a q => ?_, p.stp.avs, p.stp.avm⟩, ⟨p.sim.len, p.sim.nd, p.sim.sub, fun a m => ?_, fun a q => ?_, fun n ob e g => ?_⟩, p.lk⟩
  · rw [upd_ne (ne a (by rw [q]; simp))]
    exact p.stp.keep a o q m
  · rw [upd_ne (ne a q)]
    exact p.stp.alive a q
  · rw [upd_ne (show a ≠ D from fun z => d3 (z ▸ m))]; exact p.sim.lv a m
  · by_cases z : a = D
    · subst z; rw [upd_same]; simp
    · rw [upd_ne z]; exact p.sim.live a q
  · obtain ⟨a, vs, k1, k2, k3⟩ := p.sim.ob n ob e g
    have na : a ≠ D := fun z => d3 (z ▸ List.mem_of_getElem? k1)
    refine ⟨a, vs, k1, by rw [upd_ne na]; exact k2, ?_⟩
    cases ob with
    | lst k xs => exact RepDs.mono (fun b o q nb => ⟨by rw [upd_ne (show b ≠ D from fun z => nb (by rw [z]; exact d2))]; exact q, nb⟩) _ _ k3
    | ref k ns => exact k3
    | gone => trivial
theorem RepDs.temp {D : Addr} {u : HO} {xs : List MP.D} {vs : List V} (r : RepDs K H av xs vs) (d2 : av D) : RepDs K (upd H D u) av xs vs :=
  RepDs.mono (fun b o q nb => ⟨by rw [upd_ne (show b ≠ D from fun z => nb (by rw [z]; exact d2))]; exact q, nb⟩) _ _ r
theorem RepD.temp {D : Addr} {u : HO} {x : MP.D} {v : V} (r : RepD K H av x v) (d2 : av D) : RepD K (upd H D u) av x v :=
  RepD.mono (fun b o q nb => ⟨by rw [upd_ne (show b ≠ D from fun z => nb (by rw [z]; exact d2))]; exact q, nb⟩) _ _ r
theorem lc_reads {own : List Nat} {tg : Tg} {it : MP.It} {cd : To} {elt : E} {Q : VK} (hown : ∀ j ∈ tgSlots tg, j ∈ own)
    (q : rdE K (evE F (.lc own tg it cd elt)) σ H Q) : tLc (rdI K (evI F it)) (gTgK K tg) (rdT K (evC F cd)) (rdE K (evE F elt)) own σ H Q := by
  obtain ⟨ρ, h, ι, av, v, h', sim, re, e, k⟩ := q
  simp only [evE] at e
  split at e
  · cases e
  · rename_i wk h1 e1
    split at e
    · cases e
    · rename_i ds h5 e2
      split at e
      · rename_i hm
        simp only [Option.some.injEq, Prod.mk.injEq] at e
        obtain ⟨rfl, rfl⟩ := e
        have e2 : lcGo (lcF tg (evC F cd) (evE F elt) (wipeE ρ own)) wk.items h1 = some (ds, h5) := e2
        have hlen := blt_line hm
        refine ⟨ρ, h, ι, av, wk, h1, sim, re, e1, fun ι1 av1 H1 J h3 p3 p bk w D hD => ?_⟩
        obtain ⟨Gp, Y, walk, cond⟩ := w
        refine lc_it walk (fun i Hc => ∃ ιc avc hc acc accV rest, Pst K ι1 av1 H1 h1 ιc avc Hc hc ∧ Hc D = some (.lst accV) ∧ avc D ∧ D ∉ ιc ∧ RepDs K Hc avc acc accV ∧ lcGo (lcF tg (evC F cd) (evE F elt) (wipeE ρ own)) (wk.items.drop i) hc = some (rest, h5) ∧ acc ++ rest = ds)
          ?_ ?_ ?_ ?_
        · obtain ⟨q1, a, vs, ea, q2, q3, q4, q5, q6⟩ := Pst.newLst (xs := []) (vs := []) p.sim hD rfl
          cases ea
          refine ⟨ι1, _, h1, [], [], ds, q1, upd_same, q4, q5, rfl, by simpa using e2, rfl⟩
        · rintro i Hc _ ⟨ιc, avc, hc, acc, accV, rest, pc, _⟩
          exact (cond ιc avc Hc hc pc.stp pc.sim pc.lk).1
        · rintro i x Hc H' hi ⟨ιc, avc, hc, acc, accV, rest, pc, d1, d2, d3, ra, eg, es⟩ y
          obtain ⟨v, ev, py, rv⟩ := (cond ιc avc Hc hc pc.stp pc.sim pc.lk).2 i x H' hi y
          have ed : wk.items.drop i = v :: wk.items.drop (i + 1) := by
            obtain ⟨hl, ev'⟩ := List.getElem?_eq_some_iff.mp ev
            rw [← ev']
            exact List.drop_eq_getElem_cons hl
          rw [ed] at eg
          simp only [lcGo] at eg
          split at eg
          · cases eg
          · rename_i od h2 ef
            split at eg
            · cases eg
            · rename_i rest' h6 er
              simp only [Option.some.injEq, Prod.mk.injEq] at eg
              obtain ⟨eg1, rfl⟩ := eg
              unfold lcF at ef
              split at ef
              · cases ef
              · rename_i ρ1 et
                have pcy := pc.trans py
                have d1' := py.stp.keep D _ d1 (.inl d3)
                have re' := (p.trans pcy).stp.repE sim.sub re
                refine tg_reads et (re'.wipe own) rv fun σ1 l1 re1 a1 => ⟨wipe_same l1 fun j hj => a1 j fun m => hj (hown j m), ?_⟩
                have ra' := py.stp.repDs pc.sim.sub ra
                split at ef
                · cases ef
                · rename_i h4 ec
                  simp only [Option.some.injEq, Prod.mk.injEq] at ef
                  obtain ⟨rfl, rfl⟩ := ef
                  refine ⟨ρ1, hc, ιc, avc, false, h4, py.sim, re1, ec, fun ι4 av4 H4 p4 => iteF ?_⟩
                  exact ⟨ι4, av4, h4, acc, accV, rest', pcy.trans p4, p4.stp.keep D _ d1' (.inl d3), p4.stp.avm D d2 d3 (by rw [d1']; simp), p4.stp.nmem d1' d3, p4.stp.repDs py.sim.sub ra', er, by rw [← es, ← eg1]⟩
                · rename_i h4 ec
                  split at ef
                  · cases ef
                  · rename_i w h7 ee
                    split at ef
                    · cases ef
                    · rename_i d ez
                      simp only [Option.some.injEq, Prod.mk.injEq] at ef
                      obtain ⟨rfl, rfl⟩ := ef
                      refine ⟨ρ1, hc, ιc, avc, true, h4, py.sim, re1, ec, fun ι4 av4 H4 p4 => iteT ?_⟩
                      have d4 := p4.stp.keep D _ d1' (.inl d3)
                      have n4 := p4.stp.nmem d1' d3
                      refine ⟨ρ1, h4, ι4, av4, w, h7, p4.sim, p4.stp.repE py.sim.sub re1, ee, fun ι7 av7 H7 yv p7 r7 => ?_⟩
                      obtain ⟨av8, _, p8, rd⟩ := frzD_ok p7 p4.sim.live r7 ez
                      have d8 := p8.stp.keep D _ d4 (.inl n4)
                      have n8 := p8.stp.nmem d4 n4
                      have a8 := p8.stp.avm D (p4.stp.avm D d2 d3 (by rw [d1']; simp)) n4 (by rw [d4]; simp)
                      have ra8 := p8.stp.repDs p4.sim.sub (p4.stp.repDs py.sim.sub ra')
                      have esd : acc ++ (d :: rest') = ds := by rw [← es, ← eg1]
                      refine ⟨accV, d8, ?_, ?_⟩
                      · have := ra8.length
                        have l2 := congrArg List.length esd
                        simp only [List.length_append, List.length_cons] at l2
                        omega
                      · have pt := (pcy.trans p4).trans p8
                        refine ⟨ι7, av8, h7, acc ++ [d], accV ++ [yv], rest', pt.temp trivial hD d8 a8 n8, upd_same, a8, n8, ?_, er, by rw [← esd]; simp⟩
                        exact RepDs.append (ra8.temp a8) ⟨yv, [], rfl, rd.temp a8, rfl⟩
        · rintro Hc ⟨ιc, avc, hc, acc, accV, rest, pc, d1, d2, d3, ra, eg, es⟩
          rw [List.drop_length] at eg
          simp only [lcGo, Option.some.injEq, Prod.mk.injEq] at eg
          obtain ⟨rfl, rfl⟩ := eg
          rw [List.append_nil] at es
          subst es
          have dead : H D = none := by
            cases q : H D with
            | none => rfl
            | some o => exact absurd hD (p.stp.alive D (by rw [q]; simp))
          exact k ιc avc Hc _ (p.unlock pc bk p3) ⟨D, accV, rfl, dead, d1, d2, d3, ra⟩
      · cases e
end
end MP

/-! ## EngR2.lean -/
set_option Elab.async false
set_option linter.all false
set_option maxRecDepth 100000
namespace MP
open PySem PySem.Spec PyProof.Rows L2
section
variable {K : PySem.W.Frag} {H H0 H1 H2 H' : Hp} {av av' av1 av2 avs : Av} {ι ι' ι0 ι1 ι2 ιs : List Addr} {h h' h1 h2 hs : Hs} {σ σ1 : L2.St} {ρ ρ1 : Env'} {X : Cx}
variable {G : Chk} {F : CallF} {n : Nat} {sc : Scope} {fnB : Str → Bool}
/-! ### isinstance -/
def tyS : Ty' → String
  | .non => "NoneType" | .int => "int" | .bool => "bool" | .str => "str" | .list => "list" | .tuple => "tuple"
def tyC : Ty → String
  | .int => "int" | .bool => "bool" | .str => "str" | .list => "list" | .tuple => "tuple"
theorem ty_V {v : Val} {u : V} {t : Ty'} (s : SimH K h ι av H) (e : tyV h v = some t) (r : RepR K H0 ι av H v u) : TyX K H u (.type (tyS t)) := by
  unfold tyV at e
  split at e
  · cases e; cases r; exact .base .non
  · cases e; cases r; exact .base (.bl _)
  · cases e; cases r; exact .base (.int _)
  · cases e; cases r; exact .base (.str _)
  · cases e
    obtain ⟨a, vs, rfl, q1, _⟩ := r
    obtain ⟨o, _, q2⟩ := q1
    exact .fTuple q2
  · cases e
    obtain ⟨a, vs, rfl, q1, _⟩ := r
    exact .base (.lst q1)
  · cases e
    obtain ⟨a, vs, rfl, _, q1, _⟩ := r
    exact .base (.lst q1)
  · split at e
    · cases e
    · rename_i o g eo
      cases e
      obtain ⟨a, q, rfl⟩ := r
      obtain ⟨b, vs, k1, k2, _⟩ := s.ob _ _ eo g
      rw [q] at k1; cases k1
      exact .base (.lst k2)
    · cases e
  · cases e
theorem isa_one (K : PySem.W.Frag) (t : Ty') (c : Ty) : PySem.W.kitOne K (.type (tyS t)) (.type (tyC c)) = some (isaT t c) := by cases t <;> cases c <;> first | rfl | decide +kernel | kernel_rfl
theorem boot_ty (c : Ty) : bootBuiltins (tyName c) = some (.type (tyC c)) := by cases c <;> decide +kernel
theorem ty_nm (c : Ty) : tyName c ≠ "__name__" ∧ (tyName c == ("__debug__" : Str)) = false := by cases c <;> exact ⟨by decide +kernel, by decide +kernel⟩
theorem ty_mg (o : XOk G F n sc fnB X) (c : Ty) : X.mg (tyName c) = none := by
  cases c
  · exact o.bl .int
  · exact o.mo _ (by simp [mOther, tyName])
  · exact o.mo _ (by simp [mOther, tyName])
  · exact o.bl .list
  · exact o.bl .tuple
theorem g_isi {c : Ty} {a : E} {y : Expr} {p tp pos : Pos} (o : XOk G F n sc fnB X) (h2 : glB sc "isinstance" = true) (h3 : glB sc (tyName c) = true) (h4 : isStar y = false) (g : PE X y (rdE X.K (evE F a))) :
    PE X (.Call (.Name "isinstance" p) [y, .Name (tyName c) tp] [] pos) (rdE X.K (evE F (.isi c a))) := by
  obtain ⟨n1, n2⟩ := ty_nm c
  have gt : PE X (.Name (tyName c) tp) (tC (.ty (tyC c))) := pe_bltn (glB_ok o h3) (ty_mg o c) (boot_ty c) rfl n1 n2
  refine PEimp (pe_callB call_isi (glB_ok o h2) (o.mo _ (by simp [mOther])) (by decide +kernel) (pa_cons g (pa_cons gt pa_nil rfl) (star_no h4 _ _)) (by decide +kernel) (by decide +kernel) (star_no h4 _ _) rfl) ?_
  rintro σ H Q ⟨ρ, h, ι, av, w, h', sim, re, e, k⟩
  simp only [evE] at e
  split at e
  · cases e
  · rename_i v h1 e1
    split at e
    · cases e
    · rename_i t e2
      simp only [Option.some.injEq, Prod.mk.injEq] at e
      obtain ⟨rfl, rfl⟩ := e
      refine ⟨ρ, h, ι, av, v, h1, sim, re, e1, fun ι1 av1 H1 u p r => ?_⟩
      exact ⟨u, .ty (tyC c), _, _, _, rfl, .ty _, ty_V p.sim e2 r, isa_one X.K t c, k ι1 av1 H1 _ p rfl⟩
/-! ### dict(..).get -/
def LkV (K : PySem.W.Frag) (H : Hp) (av : Av) : Option D → Option V → Prop
  | some d, some v => RepD K H av d v
  | none, none => True
  | _, _ => False
theorem kv_merge {i : Int} : ∀ {xs : List D} {vs : List V} {kvs : List (Int × D)} {acc : List (Key × V)} {o : Option D}, kvOf xs = some kvs → RepDs K H av xs vs → LkV K H av o (valV acc (.inl i)) →
    ∃ (ps : List Addr) (ks : List (Key × V)), vs = ps.map V.ref ∧ Paired (fun p kv => SqT K H p [kV kv.1, kv.2]) ps ks ∧ LkV K H av ((lastD i kvs).or o) (valV (mergeK acc ks) (.inl i))
  | [], vs, kvs, acc, o, e, r, l => by
    cases r
    simp only [kvOf, Option.some.injEq] at e
    subst e
    exact ⟨[], [], rfl, .nil, by simpa [lastD, mergeK] using l⟩
  | x :: xs, vs, kvs, acc, o, e, r, l => by
    obtain ⟨v, vs, rfl, r1, r2⟩ := r
    unfold kvOf at e
    split at e
    · rename_i z; cases z
    · rename_i j d xs' z
      simp only [List.cons.injEq] at z
      obtain ⟨rfl, rfl⟩ := z
      split at e
      · cases e
      · rename_i rr er
        simp only [Option.some.injEq] at e
        subst e
        obtain ⟨a, ws, rfl, q1, q2, q3⟩ := r1
        obtain ⟨w1, ws, rfl, r3, q3⟩ := q3
        obtain ⟨w2, ws, rfl, r4, q3⟩ := q3
        cases q3
        cases r3
        have l' : LkV K H av (if j = i then some d else o) (valV (putK acc (.inl j) w2) (.inl i)) := by
          rw [valV_put]
          by_cases hji : j = i
          · rw [if_pos hji, if_pos (by rw [hji])]
            exact r4
          · rw [if_neg hji, if_neg (fun z => hji (Sum.inl.inj z).symm)]
            exact l
        obtain ⟨ps, ks, rfl, g2, g3⟩ := kv_merge er r2 l'
        refine ⟨a :: ps, (.inl j, w2) :: ks, rfl, .cons (q1.sq) g2, ?_⟩
        have : (lastD i ((j, d) :: rr)).or o = (lastD i rr).or (if j = i then some d else o) := by
          simp only [lastD]
          cases lastD i rr with
          | some e => rfl
          | none => by_cases hji : j = i <;> simp [hji]
        rw [this]
        exact g3
    · cases e
theorem base_no {o : Expr} {a : Str} {env : Env} (h : plainO o = true) (w : Sem Value) : attributeBase o a env w = w := by
  cases o <;> first | rfl | cases h
/-! o.count(i), o a list or a tuple of numbers -/
def TyI (X : Cx) (T : String) (W : V → Hp → Prop) : Prop := ∀ (pins : List (Addr × Obj)) (σ : L2.St) (H : Hp) (s : Shared) (x : V) (v : Value), Inv X pins σ H s → RelV x v → W x H → s.TypeIs v T ∧ ∀ a, v = .ref a → ∃ ob, s.heap.get? a = some ob ∧ ob.dict = none
def tBMO (W W' : V → Hp → Prop) (r r' : V → List V → Hp → VK → Prop) (to : TE) (t : TA) : TE := fun σ H Q => to σ H fun x H1 => (W x H1 ∧ t σ H1 fun xs H2 => r x xs H2 Q) ∨ (W' x H1 ∧ t σ H1 fun xs H2 => r' x xs H2 Q)
theorem pe_bmO {o e : Expr} {es : List Expr} {to : TE} {t : TA} {name : Str} {apos cpos : Pos} {T id T' id' : String} {r r' : V → List V → Hp → VK → Prop} {W W' : V → Hp → Prop}
    (pa : PlainAttrs T) (slot : Slot T name id) (hty : typeOf (.builtin id) = pure (.type "method_descriptor")) (hm : MtR X id r) (hw : TyI X T W)
    (pa' : PlainAttrs T') (slot' : Slot T' name id') (hty' : typeOf (.builtin id') = pure (.type "method_descriptor")) (hm' : MtR X id' r') (hw' : TyI X T' W') (ho : PE X o to) (ha : PA X (e :: es) t)
    (hbase : attributeBase o name X.env (eval o X.env) = eval o X.env)
    (hfew : ((backTo cpos (starEach (e :: es) X.env)).all (fun x => !x.1) && (backToKw cpos (keywordEach [] X.env)).all (fun x => x.1.isSome)
      && decide ((e :: es).length + ([] : List Keyword).length + (if ([] : List Keyword).isEmpty then 0 else 1) < 30)) = true)
    (hline : (apos.endLine == cpos.line) = true) (hs : starEach (e :: es) X.env = (false, eval e X.env) :: starEach es X.env) (hplain : (backTo cpos (starEach es X.env)).any (·.1) = false) :
    PE X (.Call (.Attribute o name apos) (e :: es) [] cpos) (tBMO W W' r r' to t) := by
  refine ⟨fun pins s σ H Q I h => ?_⟩
  refine wpAny_Call_method_late hbase hfew hline rfl (thn (ho.run pins s σ H _ I h) fun v s1 ⟨x, H1, I1, r1, q⟩ => ?_)
  rcases q with ⟨ty, q1⟩ | ⟨ty, q1⟩
  · obtain ⟨h1, h2⟩ := hw _ _ _ _ _ _ I1 r1 ty
    refine ⟨T, id, pa, slot, hty, h1, h2, ?_⟩
    have hA := ha.run cpos pins s1 σ H1 _ I1 q1
    rw [hs] at hA ⊢
    refine Calls.callWith_builtin (by show (false || (backTo cpos (starEach es X.env)).any (·.1)) = false; rw [hplain] <;> rfl) (Calls.evalArgs_plain ?_)
    exact thn hA fun us s2 ⟨vs, H2, I2, r2, q2⟩ => hm pins s2 σ H2 x vs v us Q I2 r1 r2 q2
  · obtain ⟨h1, h2⟩ := hw' _ _ _ _ _ _ I1 r1 ty
    refine ⟨T', id', pa', slot', hty', h1, h2, ?_⟩
    have hA := ha.run cpos pins s1 σ H1 _ I1 q1
    rw [hs] at hA ⊢
    refine Calls.callWith_builtin (by show (false || (backTo cpos (starEach es X.env)).any (·.1)) = false; rw [hplain] <;> rfl) (Calls.evalArgs_plain ?_)
    exact thn hA fun us s2 ⟨vs, H2, I2, r2, q2⟩ => hm' pins s2 σ H2 x vs v us Q I2 r1 r2 q2
def isTupO (x : V) (H : Hp) : Prop := ∃ (p : Addr) (vs : List V), x = .ref p ∧ TupO H p vs
theorem tyI_list : TyI X "list" (fun x H => L2.tyV X.K "list" x H) := fun _ _ _ _ _ _ I r ty => tyV_is I r ty
theorem tyI_tup : TyI X "tuple" isTupO := by
  rintro pins σ H s x v I r ⟨p, vs, rfl, o, hd, e⟩
  cases r
  obtain ⟨e1, e2⟩ := I.hok p _ e
  have q := I.tuple (a := p) (xs := vs) (.inl (.inr ⟨o, e⟩))
  obtain ⟨its, _, ⟨ob, e3, c, n, d⟩, _⟩ := q
  rw [e1] at e3
  cases e3
  refine ⟨⟨o, e1, c⟩, fun a z => ?_⟩
  cases z
  exact ⟨o, e1, hd⟩
def rCntT (K : PySem.W.Frag) : V → List V → Hp → VK → Prop := fun x xs H Q => ∃ (p : Addr) (ns : List Int) (k : Int), x = .ref p ∧ xs = [.int k] ∧ SqT K H p (ns.map V.int) ∧ Q (.int (ns.count k : Nat)) H
theorem mt_tcount : MtR X "tuple.count" (rCntT X.K) := by
  intro pins s σ H x xs v us Q I rx rxs h
  obtain ⟨p, ns, k, rfl, rfl, hs, q⟩ := h
  cases rx
  obtain ⟨u, rfl, ru⟩ := rxs.one
  obtain ⟨t, rfl⟩ := ru
  obtain ⟨its, rv, ⟨⟨cls, dd, data, sl⟩, ho, hc, n, hd⟩, hlen⟩ := I.tuple hs
  simp only at hc hd
  subst hc hd
  have hi := ints_of_vals rv
  refine call_meets PySem.F.slot_tuple_count ⟨_, ho, rfl⟩ PySem.F.entry_tuple_count (PySem.F.args_tuple_count_2 _ _)
    (SeqAt.tuple_countAt p its.toArray n dd sl (.int k t) (eqk k)) ⟨ho, fun y hy => (eqk_gives hi y (by simpa using hy)).at _ _, ?_⟩
  have ec : its.toArray.toList.countP (eqk k) = ns.count k := eqk_count hi
  refine ⟨.int (ns.count k : Nat), H, I.tok _, ⟨s.toks, ?_⟩, q⟩
  show Value.int ((its.toArray.toList.countP (eqk k) : Nat) : Int) s.toks = Value.int ((ns.count k : Nat) : Int) s.toks
  rw [ec]
theorem intsC_eq {v : Val} {q : Bool} {is : List Int} {u : V} (s : SimH K h ι av H) (e : intsC v h = some (q, is)) (r : RepR K H0 ι av H v u) : ∃ a, u = .ref a ∧ (q = false → H a = some (.lst (is.map V.int))) ∧ (q = true → TupO H a (is.map V.int)) := by
  unfold intsC at e
  split at e
  · rename_i q' xs es
    obtain ⟨js, ej, e⟩ := Option.map_eq_some_iff.mp e
    cases e
    obtain ⟨a, vs, rfl, rv, ht, hl⟩ := seqD_ok s r es
    rw [intsOf_eq ej] at rv
    rw [RepDs.ints rv] at hl ht
    exact ⟨a, rfl, hl, ht⟩
  · cases e
theorem g_lcnt {a e : E} {x y : Expr} {ap cp : Pos} (hx : plainO x = true) (hs : isStar y = false) (hl : (ap.endLine == cp.line) = true) (go : PE X x (rdE X.K (evE F a))) (ge : PE X y (rdE X.K (evE F e))) :
    PE X (.Call (.Attribute x "count" ap) [y] [] cp) (rdE X.K (evE F (.lcnt a e))) := by
  have g := pe_bmO (X := X) (o := x) (e := y) (es := []) (apos := ap) (cpos := cp) PySem.F.plainAttrs_list PySem.F.slot_list_count PySem.F.type_list_count mt_lcount tyI_list
    PySem.F.plainAttrs_tuple PySem.F.slot_tuple_count PySem.F.type_tuple_count mt_tcount tyI_tup go (pa_cons ge pa_nil (star_no hs _ _)) (base_no hx _)
    (by rw [star_no hs]; rfl) hl (star_no hs _ _) rfl
  refine PEimp g ?_
  rintro σ H Q ⟨ρ, h, ι, av, w, h', sim, re, e, k⟩
  simp only [evE] at e
  split at e
  · cases e
  · rename_i v h1 e1
    split at e
    · cases e
    · rename_i q0 is0 ei0
      split at e
      · cases e
      · rename_i y h2 e2
        split at e
        · cases e
        · rename_i w' e3
          simp only [Option.some.injEq, Prod.mk.injEq] at e
          obtain ⟨rfl, rfl⟩ := e
          refine ⟨ρ, h, ι, av, v, h1, sim, re, e1, fun ι1 av1 H1 u1 p1 r1 => ?_⟩
          obtain ⟨b, eb, q1, q2⟩ := intsC_eq p1.sim ei0 r1
          have fin : ∀ (ι2 : List Addr) (av2 : Av) (H2 : Hp) (u2 : V), Pst X.K ι1 av1 H1 h1 ι2 av2 H2 h2 → RepR X.K H1 ι2 av2 H2 y u2 → ∃ (is : List Int) (n : Int), u2 = V.int n ∧ w' = .p (.int (is.count n : Nat)) ∧
              ((q0 = false → H2 b = some (.lst (is.map V.int))) ∧ (q0 = true → TupO H2 b (is.map V.int))) := by
            intro ι2 av2 H2 u2 p2 r2
            have r1' := p2.stp.repR p1.sim.sub r1
            unfold lcntV at e3
            split at e3
            · cases e3
            · rename_i q is ei
              split at e3
              · cases e3
              · rename_i n en
                split at e3
                · rename_i eq
                  cases e3
                  rw [intV_eq en] at r2
                  have := r2.intE
                  subst this
                  obtain ⟨b', eb', q1', q2'⟩ := intsC_eq p2.sim ei r1'
                  rw [eb] at eb'
                  cases eb'
                  have := eq_of_beq eq
                  subst this
                  exact ⟨is, n, rfl, rfl, q1', q2'⟩
                · cases e3
          cases q0 with
          | false =>
            refine .inl ⟨by rw [eb]; exact .inl ⟨rfl, _, .of (q1 rfl)⟩, ρ, h1, ι1, av1, y, h2, p1.sim, p1.stp.repE sim.sub re, e2, fun ι2 av2 H2 u2 p2 r2 => ?_⟩
            obtain ⟨is, n, rfl, rfl, l1, l2⟩ := fin ι2 av2 H2 u2 p2 r2
            refine ⟨b, is, n, eb, rfl, .of (l1 rfl), ?_⟩
            exact k ι2 av2 H2 _ (p1.trans p2) rfl
          | true =>
            refine .inr ⟨⟨b, _, eb, q2 rfl⟩, ρ, h1, ι1, av1, y, h2, p1.sim, p1.stp.repE sim.sub re, e2, fun ι2 av2 H2 u2 p2 r2 => ?_⟩
            obtain ⟨is, n, rfl, rfl, l1, l2⟩ := fin ι2 av2 H2 u2 p2 r2
            refine ⟨b, is, n, eb, rfl, (l2 rfl).sq, ?_⟩
            exact k ι2 av2 H2 _ (p1.trans p2) rfl
theorem geI_tot (a b : Int) (h : geI a b = false) : geI b a = true := by simp only [geI, decide_eq_false_iff_not, decide_eq_true_eq] at *; omega
theorem geI_tr (a b c : Int) (h : geI a b = true) (h' : geI b c = true) : geI a c = true := by simp only [geI, decide_eq_true_eq] at *; omega
theorem g_srt {a : E} {y z : Expr} {p pos kp : Pos} (o : XOk G F n sc fnB X) (h2 : glB sc "sorted" = true) (h3 : isStar y = false) (ga : PE X y (rdE X.K (evE F a))) (gz : PE X z (rdE X.K (evE F (.lit (.bl true))))) :
    PE X (.Call (.Name "sorted" p) [y] [⟨some "reverse", z, kp⟩] pos) (rdE X.K (evE F (.srt a))) := by
  have g := pe_callBK (X := X) (x := "sorted") (p := p) (pos := pos) (kws := [⟨some "reverse", z, kp⟩]) (cr_sortedRev (X := X) (b := true)) (glB_ok o h2) (o.bl .sorted) (bi_boot .sorted) (pa_cons ga pa_nil (star_no h3 _ _)) (pk_cons gz pk_nil) (by decide) (by decide)
    (by rw [star_no h3]; rfl) (by rw [star_no h3]; rfl) rfl rfl rfl
  refine PEimp g ?_
  rintro σ H Q ⟨ρ, h, ι, av, w, h', sim, re, e, k⟩
  simp only [evE] at e
  split at e
  · cases e
  · rename_i v h1 e1
    split at e
    · cases e
    · rename_i is ei
      simp only [Option.some.injEq, Prod.mk.injEq] at e
      obtain ⟨rfl, rfl⟩ := e
      refine ⟨ρ, h, ι, av, v, h1, sim, re, e1, fun ι1 av1 H1 u1 p1 r1 => ?_⟩
      refine ⟨ρ, h1, ι1, av1, .p (.bl true), h1, p1.sim, p1.stp.repE sim.sub re, rfl, fun ι2 av2 H2 u2 p2 r2 => ?_⟩
      have e2 : u2 = V.bl true := r2
      subst e2
      obtain ⟨b, eb, q2⟩ := intsV_eq p2.sim ei (p2.stp.repR p1.sim.sub r1)
      refine ⟨b, is, by rw [eb], rfl, .of q2, fun ns q hp ho hn => ?_⟩
      have es : ns = sortB geI is := by
        refine (hp.trans (sortB_perm geI is).symm).eq_of_pairwise (le := fun a b => a ≥ b) (fun x y _ _ h1 h2 => by omega) ho ?_
        exact (sortB_srt geI_tot geI_tr is).imp fun {a b} z => of_decide_eq_true z
      subst es
      obtain ⟨n1, n2⟩ := Pst.newLst p2.sim hn (RepDs.ofInts (K := X.K) (H := H2) (av := av2) (sortB geI is))
      exact k _ _ _ _ ((p1.trans p2).trans n1) (n2.back (p1.trans p2).stp)
theorem g_dget {a k d : E} {y z t : Expr} {p ap dp cp : Pos} (o : XOk G F n sc fnB X) (hl : (ap.endLine == cp.line) = true) (h2 : glB sc "dict" = true) (h3 : isStar y = false) (h4 : isStar z = false) (h5 : isStar t = false)
    (ga : PE X y (rdE X.K (evE F a))) (gk : PE X z (rdE X.K (evE F k))) (gd : PE X t (rdE X.K (evE F d))) : PE X (.Call (.Attribute (.Call (.Name "dict" p) [y] [] dp) "get" ap) [z, t] [] cp) (rdE X.K (evE F (.dget a k d))) := by
  have g1 := pe_callTy (p := p) (pos := dp) (call_dictP o.calm) (glB_ok o h2) (o.mo _ (by simp [mOther])) (by decide +kernel) (pa_cons ga pa_nil (star_no h3 _ _)) (by decide +kernel) (by decide +kernel) (star_no h3 _ _) rfl
  have m : M2 X (.Call (.Name "dict" p) [y] [] dp) "get" ap z t cp := ⟨rfl, by rw [star_no h4, star_no h5]; rfl, hl, by rw [star_no h4, star_no h5]; rfl⟩
  refine PEimp (pe_dget2 (by have := o.hu; omega) g1 gk gd m) ?_
  rintro σ H Q ⟨ρ, h, ι, av, w, h', sim, re, e, kk⟩
  simp only [evE] at e
  split at e
  · cases e
  · rename_i v h1 e1
    split at e
    · cases e
    · rename_i kvs ek
      split at e
      · cases e
      · rename_i x h2 e2
        split at e
        · cases e
        · rename_i yv h3 e3
          split at e
          · cases e
          · rename_i w' ew
            simp only [Option.some.injEq, Prod.mk.injEq] at e
            obtain ⟨rfl, rfl⟩ := e
            refine ⟨ρ, h, ι, av, v, h1, sim, re, e1, fun ι1 av1 H1 u p1 r1 => ?_⟩
            unfold pairsV at ek
            split at ek
            · rename_i xs es
              obtain ⟨b, vs, rfl, rv, _, hq⟩ := seqD_ok p1.sim r1 es
              have hb := hq rfl
              unfold dgV at ew
              split at ew
              · rename_i i
                obtain ⟨ps, ks, rfl, pr, lk⟩ := kv_merge (i := i) (acc := []) (o := none) ek rv trivial
                refine ⟨b, ps, ks, rfl, .of hb, pr, fun q hq => ?_⟩
                have pu : Pst X.K ι1 av1 H1 h1 ι1 av1 (upd H1 q (.dK (mergeK [] ks))) h1 := .upd_new p1.sim hq
                have p1u := p1.trans pu
                have nq : q ∉ ι1 := fun m => p1.sim.lv q m hq
                refine ⟨q, rfl, .inl ⟨_, .inl upd_same⟩, ?_⟩
                refine ⟨ρ, h1, ι1, av1, _, h2, pu.sim, p1u.stp.repE sim.sub re, e2, fun ι2 av2 H2 u2 p2 r2 => ?_⟩
                have d2 := p2.stp.keep q _ upd_same (.inl nq)
                have n2 := p2.stp.nmem upd_same nq
                refine ⟨ρ, h2, ι2, av2, yv, h3, p2.sim, (p1u.trans p2).stp.repE sim.sub re, e3, fun ι3 av3 H3 u3 p3 r3 => ?_⟩
                have d3 := p3.stp.keep q _ d2 (.inl n2)
                have i2 := r2.intE
                subst i2
                refine ⟨_, DGet.k (k := .inl i) d3, ?_⟩
                have fin := kk ι3 av3 H3
                have pf := (p1u.trans p2).trans p3
                have lk3 : LkV X.K H3 av3 (lastD i kvs) (valV (mergeK [] ks) (.inl i)) := by
                  have lk : LkV X.K H1 av1 (lastD i kvs) (valV (mergeK [] ks) (.inl i)) := by simpa using lk
                  cases q1 : lastD i kvs <;> cases q2 : valV (mergeK [] ks) (.inl i) <;> rw [q1, q2] at lk <;> first | exact lk | exact lk.elim | skip
                  exact p3.stp.repD p2.sim.sub (p2.stp.repD pu.sim.sub (pu.stp.repD p1.sim.sub lk))
                split at ew
                · rename_i e' el
                  simp only [Option.some.injEq] at ew
                  subst ew
                  rw [el] at lk3
                  cases q2 : valV (mergeK [] ks) (.inl i) with
                  | none => rw [q2] at lk3; exact lk3.elim
                  | some v2 =>
                    rw [q2] at lk3
                    exact fin v2 pf lk3
                · rename_i el
                  simp only [Option.some.injEq] at ew
                  subst ew
                  rw [el] at lk3
                  cases q2 : valV (mergeK [] ks) (.inl i) with
                  | none => exact fin u3 pf (r3.back (p1u.trans p2).stp)
                  | some v2 => rw [q2] at lk3; exact lk3.elim
              · cases ew
            · cases ek
end
end MP

/-! ## EngS.lean -/
set_option Elab.async false
set_option linter.all false
set_option maxRecDepth 100000
namespace MP
open PySem PySem.Spec PyProof.Rows L2
section
variable {G : Chk} {F : CallF} {n : Nat} {sc : Scope} {fnB : Str → Bool} {X : Cx}
theorem XOk.blk (o : XOk G F n sc fnB X) (s : Shared) (H : Hp) (scope : Scope) (C : Addr) (cl : List (Str × Addr)) (fp : List Addr) : XOk G F n (relS scope sc) (blkFn scope) (X.blk s H scope (compEnvC scope cl C X.env) fp) where
  nN := o.nN
  nd := o.nd
  sc := by
    have : (compEnvC scope cl C X.env).scope = relS scope X.env.scope := rfl
    rw [← o.sc]
    exact this
  calm := o.calm
  room := o.room
  gd := o.gd
  xe := rfl
  fn := fun x h => h
  fns := o.fns
  cs := o.cs
  bl := o.bl
  rg := o.rg
  mo := o.mo
theorem own_map {N : List Str} : ∀ {own : List Nat}, (own.all fun j => (N[j]?).isSome) = true → ((own.filterMap fun j => (N[j]?).map fun x => (x, j)).map (·.2)) = own
  | [], _ => rfl
  | j :: own, h => by
    rw [List.all_cons, Bool.and_eq_true] at h
    obtain ⟨x, e⟩ := Option.isSome_iff_exists.mp h.1
    rw [List.filterMap_cons, e]
    simp only [Option.map_some, List.map_cons, own_map h.2]
theorem g_lc {own : List Nat} {tg : Tg} {it : MP.It} {cd : To} {elt : E} {e t i : Expr} {ifs : List Expr} {scope : Scope} {pos : Pos} (o : XOk G F n sc fnB X)
    (h1 : (own.all fun j => (G.N[j]?).isSome) = true) (h2 : blkC G.N sc scope (own.filterMap fun j => (G.N[j]?).map fun x => (x, j)) = true) (h3 : (tgSlots tg).all (fun j => own.contains j) = true) (h4 : isSet i = false)
    (gi : PI X t i (rdI X.K (evI F it))) (h5 : okTg G (relS scope sc) (blkFn scope) tg t = true)
    (gc : ∀ (Y : Cx), XOk G F n (relS scope sc) (blkFn scope) Y → PTs Y ifs (rdT Y.K (evC F cd))) (ge : ∀ (Y : Cx), XOk G F n (relS scope sc) (blkFn scope) Y → PE Y e (rdE Y.K (evE F elt))) :
    PE X (.ListComp e [⟨t, i, ifs, 0⟩] scope pos) (rdE X.K (evE F (.lc own tg it cd elt))) := by
  have bk := blkOk_by h2
  have g := pe_lc (X := X) (elt := e) (pos := pos) o.calm (by rw [o.nN]; exact o.nd) gi (scope := scope) (by rw [o.nN, o.sc]; exact bk) (ifs := ifs) (g := gTgK X.K tg) (tt := rdT X.K (evC F cd)) (te := rdE X.K (evE F elt))
    (fun s H C cl fp => tg_ok (o.blk s H scope C cl fp) h5) (fun s H C cl fp => gc _ (o.blk s H scope C cl fp)) (fun s H C cl fp => ge _ (o.blk s H scope C cl fp)) (set_no h4 _)
  rw [own_map h1] at g
  refine PEimp g fun σ H Q q => lc_reads (fun j m => ?_) q
  simpa using List.all_eq_true.mp h3 j m
def isBoolOp : Expr → Bool
  | .BoolOp .. => true
  | _ => false
end
mutual
theorem sE {G : Chk} {F : CallF} {n : Nat} : ∀ (a : E) (sc : Scope) (fnB : Str → Bool) (X : Cx), XOk G F n sc fnB X → ∀ x : Expr, okE G sc fnB a x = true → PE X x (rdE X.K (evE F a))
  | .var i, sc, fnB, X, o, x, h => by
    simp only [okE] at h
    split at h
    · simp only [Bool.and_eq_true, decide_eq_true_eq] at h
      exact g_var o h.1 h.2.1 h.2.2
    · cases h
  | .lit d, sc, fnB, X, o, x, h => by
    simp only [okE] at h
    split at h
    · exact g_lit h
    · cases h
  | .glo y d, sc, fnB, X, o, x, h => by
    simp only [okE] at h
    split at h
    · simp only [Bool.and_eq_true, decide_eq_true_eq] at h
      obtain ⟨rfl, h2, h3, h4⟩ := h
      exact g_glo o h2 h3 h4
    · cases h
  | .bin op a b, sc, fnB, X, o, x, h => by
    simp only [okE] at h
    split at h
    · simp only [Bool.and_eq_true, decide_eq_true_eq] at h
      obtain ⟨rfl, h2, h3⟩ := h
      exact g_bin (sE a sc fnB X o _ h2) (sE b sc fnB X o _ h3)
    · cases h
  | .neg a, sc, fnB, X, o, x, h => by
    simp only [okE] at h
    split at h
    · exact g_neg (sE a sc fnB X o _ h)
    · cases h
  | .not a, sc, fnB, X, o, x, h => by
    simp only [okE] at h
    split at h
    · exact g_not (sE a sc fnB X o _ h)
    · cases h
  | .cmp op a b, sc, fnB, X, o, x, h => by
    simp only [okE] at h
    split at h
    · simp only [Bool.and_eq_true, decide_eq_true_eq, Bool.not_eq_true'] at h
      obtain ⟨rfl, h2, h3, h4⟩ := h
      exact g_cmp o h2 (sE a sc fnB X o _ h3) (sE b sc fnB X o _ h4)
    · cases h
  | .chn op p a b c, sc, fnB, X, o, x, h => by
    simp only [okE] at h
    split at h
    · simp only [Bool.and_eq_true, decide_eq_true_eq, Bool.not_eq_true'] at h
      obtain ⟨⟨rfl, rfl⟩, h2, h3, h4, h5⟩ := h
      exact g_chn o h2 (sE a sc fnB X o _ h3) (sE b sc fnB X o _ h4) (sE c sc fnB X o _ h5)
    · cases h
  | .one a, sc, fnB, X, o, x, h => by
    simp only [okE] at h
    split at h
    · exact g_one (sE a sc fnB X o _ h)
    · cases h
  | .and a b, sc, fnB, X, o, x, h => by
    simp only [okE] at h
    split at h
    · rw [Bool.and_eq_true] at h
      exact g_and (sE a sc fnB X o _ h.1) (sE b sc fnB X o _ h.2)
    · cases h
  | .or a b, sc, fnB, X, o, x, h => by
    simp only [okE] at h
    split at h
    · rw [Bool.and_eq_true] at h
      exact g_or (sE a sc fnB X o _ h.1) (sE b sc fnB X o _ h.2)
    · cases h
  | .ife c a b, sc, fnB, X, o, x, h => by
    simp only [okE] at h
    split at h
    · simp only [Bool.and_eq_true] at h
      exact g_ife (sT c sc fnB X o _ h.1).1 (sE a sc fnB X o _ h.2.1) (sE b sc fnB X o _ h.2.2)
    · cases h
  | .tup es, sc, fnB, X, o, x, h => by
    simp only [okE] at h
    split at h
    · exact g_tup (sEs es sc fnB X o _ h)
    · cases h
  | .lst es, sc, fnB, X, o, x, h => by
    simp only [okE] at h
    split at h
    · exact g_lst (sEs es sc fnB X o _ h)
    · cases h
  | .sub a i, sc, fnB, X, o, x, h => by
    simp only [okE] at h
    split at h
    · simp only [Bool.and_eq_true, Bool.not_eq_true'] at h
      exact g_sub h.1 (sE a sc fnB X o _ h.2.1) (sE i sc fnB X o _ h.2.2)
    · cases h
  | .sl a lo hi, sc, fnB, X, o, x, h => by
    simp only [okE] at h
    split at h
    · simp only [Bool.and_eq_true] at h
      exact g_sl (sE a sc fnB X o _ h.1) (sO lo sc fnB X o _ h.2.1) (sO hi sc fnB X o _ h.2.2)
    · cases h
  | .rev a, sc, fnB, X, o, x, h => by
    simp only [okE] at h
    split at h
    · simp only [Bool.and_eq_true, decide_eq_true_eq] at h
      obtain ⟨rfl, h2⟩ := h
      exact g_rev (sE a sc fnB X o _ h2)
    · cases h
  | .lc own tg it cd elt, sc, fnB, X, o, x, h => by
    simp only [okE] at h
    split at h
    · simp only [Bool.and_eq_true, decide_eq_true_eq, Bool.not_eq_true'] at h
      obtain ⟨rfl, h1, h2, h3, h4, h5, h6, h7, h8⟩ := h
      exact g_lc o h1 h2 h3 h4 (sI it sc fnB X o _ _ h5.1 h5.2) h6 (fun Y oY => sC cd _ _ Y oY _ h7) (fun Y oY => sE elt _ _ Y oY _ h8)
    · cases h
  | .call f es, sc, fnB, X, o, x, h => by
    simp only [okE] at h
    split at h
    · rw [Bool.and_eq_true, Bool.and_eq_true, Bool.and_eq_true, Bool.and_eq_true] at h
      obtain ⟨h1, h2, h3, h4, h5⟩ := h
      exact g_call o h1 h2 h3 h4 h5 (sEs es sc fnB X o _ h5)
    · cases h
  | .callK f pm es ks, sc, fnB, X, o, x, h => by
    simp only [okE] at h
    split at h
    · obtain ⟨h1, h⟩ := Bool.and_eq_true_iff.mp h
      obtain ⟨h0, h⟩ := Bool.and_eq_true_iff.mp h
      obtain ⟨h2, h⟩ := Bool.and_eq_true_iff.mp h
      obtain ⟨h3, h⟩ := Bool.and_eq_true_iff.mp h
      obtain ⟨h4, h⟩ := Bool.and_eq_true_iff.mp h
      obtain ⟨h5, h6⟩ := Bool.and_eq_true_iff.mp h
      exact g_callK o h1 h0 h2 h3 h4 h5 h6 (sEs es sc fnB X o _ h5) (sK ks sc fnB X o _ h6)
    · cases h
  | .bi b es, sc, fnB, X, o, x, h => by
    simp only [okE] at h
    split at h
    · simp only [Bool.and_eq_true, decide_eq_true_eq] at h
      obtain ⟨rfl, h2, h3, h4, h5⟩ := h
      exact g_bi o h2 h3 h4 h5 (sEs es sc fnB X o _ h5)
    · cases h
  | .isi c a, sc, fnB, X, o, x, h => by
    simp only [okE] at h
    split at h
    · simp only [Bool.and_eq_true, decide_eq_true_eq, Bool.not_eq_true'] at h
      obtain ⟨rfl, rfl, h2, h3, h4, h5⟩ := h
      exact g_isi o h2 h3 h4 (sE a sc fnB X o _ h5)
    · cases h
  | .srt a, sc, fnB, X, o, x, h => by
    simp only [okE] at h
    split at h
    · simp only [Bool.and_eq_true, decide_eq_true_eq, Bool.not_eq_true'] at h
      obtain ⟨rfl, rfl, h1, h2, h3, h4⟩ := h
      exact g_srt o h2 h3 (sE a sc fnB X o _ h4) (g_lit h1)
    · cases h
  | .lcnt b a, sc, fnB, X, o, x, h => by
    simp only [okE] at h
    split at h
    · simp only [Bool.and_eq_true, decide_eq_true_eq, Bool.not_eq_true'] at h
      obtain ⟨rfl, h2, h3, h4, h5, h6⟩ := h
      exact g_lcnt h3 h4 h2 (sE b sc fnB X o _ h5) (sE a sc fnB X o _ h6)
    · cases h
  | .dget a k d, sc, fnB, X, o, x, h => by
    simp only [okE] at h
    split at h
    · simp only [Bool.and_eq_true, decide_eq_true_eq, Bool.not_eq_true'] at h
      obtain ⟨rfl, rfl, h2, h3, h4, h5, h6, h7, h8, h9⟩ := h
      exact g_dget o h2 h3 h4 h5 h6 (sE a sc fnB X o _ h7) (sE k sc fnB X o _ h8) (sE d sc fnB X o _ h9)
    · cases h
theorem sEs {G : Chk} {F : CallF} {n : Nat} : ∀ (a : Es) (sc : Scope) (fnB : Str → Bool) (X : Cx), XOk G F n sc fnB X → ∀ xs : List Expr, okEs G sc fnB a xs = true → PA X xs (rdA X.K (evEs F a))
  | .nil, sc, fnB, X, o, xs, h => by
    simp only [okEs] at h
    split at h
    · exact a_nil
    · cases h
  | .cons a es, sc, fnB, X, o, xs, h => by
    simp only [okEs] at h
    split at h
    · simp only [Bool.and_eq_true, Bool.not_eq_true'] at h
      exact a_cons h.1 (sE a sc fnB X o _ h.2.1) (sEs es sc fnB X o _ h.2.2)
    · cases h
  | .star a es, sc, fnB, X, o, xs, h => by
    simp only [okEs] at h
    split at h
    · simp only [Bool.and_eq_true] at h
      exact a_star (sE a sc fnB X o _ h.1) (sEs es sc fnB X o _ h.2)
    · cases h
theorem sK {G : Chk} {F : CallF} {n : Nat} : ∀ (a : Es) (sc : Scope) (fnB : Str → Bool) (X : Cx), XOk G F n sc fnB X → ∀ xs : List Keyword, okK G sc fnB a xs = true → PKr X xs (evEs F a)
  | .nil, sc, fnB, X, o, xs, h => by
    simp only [okK] at h
    split at h
    · exact k_nil
    · cases h
  | .cons a es, sc, fnB, X, o, xs, h => by
    simp only [okK] at h
    split at h
    · simp only [Bool.and_eq_true] at h
      exact k_cons (sE a sc fnB X o _ h.1) (sK es sc fnB X o _ h.2)
    · cases h
  | .star a es, sc, fnB, X, o, xs, h => by
    simp only [okK] at h
    cases h
theorem sO {G : Chk} {F : CallF} {n : Nat} : ∀ (a : Eo) (sc : Scope) (fnB : Str → Bool) (X : Cx), XOk G F n sc fnB X → ∀ x : Option Expr, okO G sc fnB a x = true → PO X x (rdO X.K (evO F a))
  | .no, sc, fnB, X, o, x, h => by
    simp only [okO] at h
    split at h
    · exact o_no
    · cases h
  | .yes a, sc, fnB, X, o, x, h => by
    simp only [okO] at h
    split at h
    · exact o_yes (sE a sc fnB X o _ h)
    · cases h
theorem sT {G : Chk} {F : CallF} {n : Nat} : ∀ (a : T) (sc : Scope) (fnB : Str → Bool) (X : Cx), XOk G F n sc fnB X → ∀ x : Expr, okT G sc fnB a x = true → PT X x (rdT X.K (evT F a)) ∧ (isBoolOp x = true → PW X x (rdT X.K (evT F a)))
  | .val e, sc, fnB, X, o, x, h => by
    simp only [okT, Bool.and_eq_true, Bool.or_eq_true, Bool.not_eq_true'] at h
    obtain ⟨h1, h2⟩ := h
    rcases h1 with h1 | h1
    · refine ⟨t_val h1 (sE e sc fnB X o _ h2), fun z => ?_⟩
      cases x <;> first | (cases h1; done) | (cases z; done)
    · cases e with
      | cmp op a b =>
        simp only [okE] at h2
        split at h2
        · simp only [Bool.and_eq_true, decide_eq_true_eq, Bool.not_eq_true'] at h2
          obtain ⟨rfl, h3, h4, h5⟩ := h2
          exact ⟨t_cmp o h3 (sE a sc fnB X o _ h4) (sE b sc fnB X o _ h5), fun z => nomatch z⟩
        · cases h2
      | chn op p a b c =>
        simp only [okE] at h2
        split at h2
        · simp only [Bool.and_eq_true, decide_eq_true_eq, Bool.not_eq_true'] at h2
          obtain ⟨⟨rfl, rfl⟩, h3, h4, h5, h6⟩ := h2
          exact ⟨t_chn o h3 (sE a sc fnB X o _ h4) (sE b sc fnB X o _ h5) (sE c sc fnB X o _ h6), fun z => nomatch z⟩
        · cases h2
      | _ => cases h1
  | .not t, sc, fnB, X, o, x, h => by
    simp only [okT] at h
    split at h
    · exact ⟨t_not (sT t sc fnB X o _ h).1, fun z => nomatch z⟩
    · cases h
  | .one t, sc, fnB, X, o, x, h => by
    simp only [okT] at h
    split at h
    · have g := w_one (op := ‹_›) (pos := ‹_›) (sT t sc fnB X o _ h).1
      exact ⟨g.pt, fun _ => g⟩
    · cases h
  | .and t u, sc, fnB, X, o, x, h => by
    simp only [okT] at h
    split at h
    · rw [Bool.and_eq_true] at h
      have g := w_and (sT t sc fnB X o _ h.1).1 ((sT u sc fnB X o _ h.2).2 rfl)
      exact ⟨g.pt, fun _ => g⟩
    · cases h
  | .or t u, sc, fnB, X, o, x, h => by
    simp only [okT] at h
    split at h
    · rw [Bool.and_eq_true] at h
      have g := w_or (sT t sc fnB X o _ h.1).1 ((sT u sc fnB X o _ h.2).2 rfl)
      exact ⟨g.pt, fun _ => g⟩
    · cases h
theorem sC {G : Chk} {F : CallF} {n : Nat} : ∀ (a : To) (sc : Scope) (fnB : Str → Bool) (X : Cx), XOk G F n sc fnB X → ∀ xs : List Expr, okC G sc fnB a xs = true → PTs X xs (rdT X.K (evC F a))
  | .no, sc, fnB, X, o, xs, h => by
    simp only [okC] at h
    split at h
    · refine ⟨fun pins s σ H Q I q => pts_nil.run pins s σ H Q I ?_⟩
      obtain ⟨ρ, h, ι, av, b, h', sim, re, e, k⟩ := q
      simp only [evC, Option.some.injEq, Prod.mk.injEq] at e
      obtain ⟨rfl, rfl⟩ := e
      exact k ι av H (.refl sim)
    · cases h
  | .yes t, sc, fnB, X, o, xs, h => by
    simp only [okC] at h
    split at h
    · refine ⟨fun pins s σ H Q I q => (pts_one (sT t sc fnB X o _ h).1).run pins s σ H Q I ?_⟩
      obtain ⟨ρ, h, ι, av, b, h', sim, re, e, k⟩ := q
      exact ⟨ρ, h, ι, av, b, h', sim, re, e, k⟩
    · cases h
theorem sI {G : Chk} {F : CallF} {n : Nat} : ∀ (a : MP.It) (sc : Scope) (fnB : Str → Bool) (X : Cx), XOk G F n sc fnB X → ∀ (tg x : Expr), okI G sc fnB a x = true → itTg a tg = true → PI X tg x (rdI X.K (evI F a))
  | .val e, sc, fnB, X, o, tg, x, h, _ => i_val (sE e sc fnB X o x h)
  | .rng es, sc, fnB, X, o, tg, x, h, _ => by
    simp only [okI] at h
    split at h
    · simp only [Bool.and_eq_true, decide_eq_true_eq, Bool.or_eq_true] at h
      obtain ⟨rfl, h2, h3, h4, h5⟩ := h
      refine i_rng o h2 h4 h5 (sEs es sc fnB X o _ h5) ?_
      rcases h3 with z | z | z
      · exact .inl (Nat.eq_of_beq_eq_true z)
      · exact .inr (.inl (Nat.eq_of_beq_eq_true z))
      · exact .inr (.inr (Nat.eq_of_beq_eq_true z))
    · cases h
  | .enm none e, sc, fnB, X, o, tg, x, h, ht => by
    cases tg <;> simp [itTg, isTup] at ht
    simp only [okI] at h
    split at h
    · simp only [Bool.and_eq_true, decide_eq_true_eq, Bool.not_eq_true'] at h
      obtain ⟨rfl, h2, h3, h4⟩ := h
      exact i_enm o h2 h3 (sE e sc fnB X o _ h4)
    · cases h
  | .enm (some k) e, sc, fnB, X, o, tg, x, h, ht => by
    cases tg <;> simp [itTg, isTup] at ht
    simp only [okI] at h
    split at h
    · simp only [Bool.and_eq_true, decide_eq_true_eq, Bool.not_eq_true'] at h
      obtain ⟨rfl, h2, h3, h4, ⟨h5, h6⟩, h7⟩ := h
      exact i_enmK o h2 h3 rfl h5 h6 (sE e sc fnB X o _ h7) (g_lit h4)
    · cases h
  | .zip a b, sc, fnB, X, o, tg, x, h, _ => by simp [okI] at h
end
end MP

/-! ## EngT.lean -/
set_option Elab.async false
set_option linter.all false
set_option maxRecDepth 100000
namespace MP
open PySem PySem.Spec PyProof.Rows L2
/-! ### statements: the checker -/
/-- name = [..] on one line -/
def swB (sc : Scope) (t : Str) (tl : Nat) : Expr → Bool
  | .ListComp _ _ s p => (sc.names.lookup t == some .local && tl == p.line) && !(s.names.any fun (n, k) => n == t && (k == .local || k == .cell))
  | _ => false
def isName : Expr → Bool
  | .Name .. => true
  | _ => false
/-- a, b = x, y: stored from the right (some names), unpacked (none) -/
def nmOf (sc : Scope) (line : Nat) : Expr → Option Str
  | .Name id pos => if sc.names.lookup id == some .local && pos.line == line then some id else none
  | _ => none
def parB (sc : Scope) (ts vs : List Expr) : Option (Option (List Str)) :=
  if !(ts.length == 2 || ts.length == 3) || vs.length != ts.length then some none else
  if vs.any isStar then some none else
  if (ts.filterMap (nmOf sc ((ts.head?.map (·.pos.line)).getD 0))).length != ts.length || (ts.filterMap (nmOf sc ((ts.head?.map (·.pos.line)).getD 0))).eraseDups.length != (ts.filterMap (nmOf sc ((ts.head?.map (·.pos.line)).getD 0))).length then some none else
  if vs.all (foldedForSure 8) then some none else
  if vs.all (constantsAlone 8) then none else
  some (some (ts.filterMap (nmOf sc ((ts.head?.map (·.pos.line)).getD 0))))
def namesAt (N : List Str) : List Nat → List (Option Str)
  | [] => []
  | i :: is => N[i]? :: namesAt N is

mutual
def okS (G : Chk) (sc : Scope) (fnB : Str → Bool) : S → Stmt → Bool
  | .asg i e, s => match s with
    | .Assign [.Name x p] v _ => decide (G.N[i]? = some x) && (stB sc fnB x && ((!isComp v || !swB sc x p.line v || true) && okE G sc fnB e v && (match v with | .SetComp .. => false | .DictComp .. => false | _ => true)))
    | _ => false
  | .tup is e, s => match s with
    | .Assign [.Tuple es _ _] v _ => !isTup v && (!isComp v && (okTg.go G sc fnB is es && okE G sc fnB e v))
    | _ => false
  | .par is xs, s => match s with
    | .Assign [.Tuple es _ _] (.Tuple vs _ _) _ => okTg.go G sc fnB is es && (okEs G sc fnB xs vs && (vs.all (fun e => !isStar e) && (Nat.ble vs.length 1000 && (decide (is.Nodup) && (match parB sc es vs with | none => false | some none => true | some (some ns) => decide (ns.map some = namesAt G.N is) && decide (ns.length = is.length))))))
    | _ => false
  | .set o i e, s => match s with
    | .Assign [.Subscript x y _] v _ => !isSlice y && (!isComp v && (okE G sc fnB e v && (okE G sc fnB o x && okE G sc fnB i y)))
    | _ => false
  | .app o e, s => match s with
    | .Expr (.Call (.Attribute x a ap) [y] [] cp) _ => decide (a = ("append" : Str)) && (ap.endLine == cp.line && (plainO x && (!isStar y && (okE G sc fnB o x && okE G sc fnB e y))))
    | _ => false
  | .apf o i, s => match s with
    | .Expr (.Call (.Attribute x a ap) [y] [] cp) _ => decide (a = ("append" : Str)) && (ap.endLine == cp.line && (plainO x && (!isStar y && (okE G sc fnB (.var o) x && okE G sc fnB (.var i) y))))
    | _ => false
  | .ext o e, s => match s with
    | .Expr (.Call (.Attribute x a ap) [y] [] cp) _ => decide (a = ("extend" : Str)) && (ap.endLine == cp.line && (plainO x && (!isStar y && (okE G sc fnB o x && okE G sc fnB e y))))
    | _ => false
  | .tsn o i j e, s => match s with
    | .Assign [.Tuple [.Subscript x y _, .Name z _] _ _] v _ => !isTup v && (!isComp v && (!isSlice y && (decide (G.N[j]? = some z) && (stB sc fnB z && (okE G sc fnB e v && (okE G sc fnB o x && okE G sc fnB i y))))))
    | _ => false
  | .ex e, s => match s with
    | .Expr v _ => !isComp v && okE G sc fnB e v
    | _ => false
  | .ret e, s => match s with
    | .Return (some v) _ => okE G sc fnB e v
    | _ => false
  | .retN, s => match s with
    | .Return none _ => true
    | _ => false
  | .ife c a b, s => match s with
    | .If t x y _ => okT G sc fnB c t && (okSs G sc fnB a x && okSs G sc fnB b y)
    | _ => false
  | .for_ tg it body, s => match s with
    | .For t i b [] _ => !isSet i && ((okI G sc fnB it i && itTg it t) && (okTg G sc fnB tg t && okSs G sc fnB body b))
    | _ => false
  | .whl c body, s => match s with
    | .While t b [] _ => okT G sc fnB c t && okSs G sc fnB body b
    | _ => false
  | .brk, s => match s with
    | .Break _ => true
    | _ => false
  | .pss, s => match s with
    | .Pass _ => true
    | _ => false
  | .nev, _ => true
def okSs (G : Chk) (sc : Scope) (fnB : Str → Bool) : Ss → List Stmt → Bool
  | .nil, xs => match xs with
    | [] => true
    | _ => false
  | .cons s ss, xs => match xs with
    | x :: xs => okS G sc fnB s x && okSs G sc fnB ss xs
    | _ => false
end
section
variable {K : PySem.W.Frag} {H H0 H1 H2 H' : Hp} {av av' av1 av2 avs : Av} {ι ι' ι0 ι1 ι2 ιs : List Addr} {h h' h1 h2 hs : Hs} {σ σ1 : L2.St} {ρ ρ1 : Env'} {X : Cx}
variable {G : Chk} {F : CallF} {n : Nat} {sc : Scope} {fnB : Str → Bool}
abbrev Ev2 := Env' → Hs → Option (Out × Env' × Hs)
/-- the ends of a statement -/
def EndOk (K : PySem.W.Frag) (H0 : Hp) (ι : List Addr) (av : Av) (H : Hp) (D : Ends) (σ : L2.St) : Out → Prop
  | .nx => D.nx σ H
  | .bk => D.bk σ H
  | .rt v => ∀ u, RepR K H0 ι av H v u → D.rt u H
/-- what is wanted behind a statement -/
def rdS (K : PySem.W.Frag) (m : Ev2) : TS := fun D σ H => ∃ ρ h ι av o ρ1 h', SimH K h ι av H ∧ RepE K ρ ι av σ H ∧ m ρ h = some (o, ρ1, h') ∧
  ∀ ι' av' H' σ1, Pst K ι av H h ι' av' H' h' → RepE K ρ1 ι' av' σ1 H' → EndOk K H ι' av' H' D σ1 o
theorem swap_eq {t : Str} {p : Pos} {v : Expr} {l : Nat} (hk : X.env.scope.kind = .function) (hv : isComp v = false ∨ ∃ a b c d, v = .ListComp a b c d) : swapsWith v (some (.Name t p)) l X.env = pure (swB X.env.scope t p.line v) := by
  rcases hv with h | ⟨a, b, c, d, rfl⟩
  · rw [comp_no h]
    cases v <;> first | rfl | cases h
  · have hb : X.env.blockKind = .function := by unfold Env.blockKind; rw [hk]; rfl
    unfold swapsWith
    simp only [hb, Expr.pos, swB]
    have e : (ScopeKind.function == ScopeKind.function) = true := rfl
    rw [e, Bool.true_and]
    rfl
theorem s_asg {i : Nat} {e : E} {x : Str} {p pos : Pos} {v : Expr} (o : XOk G F n sc fnB X) (h1 : G.N[i]? = some x) (h2 : stB sc fnB x = true)
    (g : PS X (.Assign [.Name x p] v pos) (tAsg (rdE X.K (evE F e)) (gName i))) : PS X (.Assign [.Name x p] v pos) (rdS X.K (evS F (.asg i e))) := by
  refine PSimp g ?_
  rintro D σ H ⟨ρ, h, ι, av, oo, ρ1, h', sim, re, e, k⟩
  simp only [evS] at e
  split at e
  · cases e
  · rename_i w h1 e1
    simp only [Option.some.injEq, Prod.mk.injEq] at e
    obtain ⟨rfl, rfl, rfl⟩ := e
    refine ⟨ρ, h, ι, av, w, h1, sim, re, e1, fun ι1 av1 H1 u p1 r => ?_⟩
    obtain ⟨ι2, p2, rv, _⟩ := bind_ok p1 r
    exact k ι2 av1 H1 _ p2 ((p2.stp.repE sim.sub re).set rv)
/-- results stay when the heap grows by one of them -/
theorem bindAll_ok : ∀ {is : List Nat} {vs : List Val} {us : List V} {ρ ρ1 : Env'} {σ : L2.St} {ι : List Addr} {h h' : Hs}, bindAll is vs ρ h = some (ρ1, h') → Pst K ιs avs H0 hs ι av H h → RepRs K H0 ι av H vs us → RepE K ρ ι av σ H →
    vs.length = is.length ∧ ∃ ι', Pst K ιs avs H0 hs ι' av H h' ∧ RepE K ρ1 ι' av ((is.zip us).foldl (fun σ q => σ.set q.1 (some q.2)) σ) H
  | [], vs, us, ρ, ρ1, σ, ι, h, h', e, p, r, re => by
    cases vs with
    | nil =>
      simp only [bindAll, Option.some.injEq, Prod.mk.injEq] at e
      obtain ⟨rfl, rfl⟩ := e
      exact ⟨rfl, ι, p, re⟩
    | cons v vs => simp [bindAll] at e
  | i :: is, vs, us, ρ, ρ1, σ, ι, h, h', e, p, r, re => by
    cases vs with
    | nil => simp [bindAll] at e
    | cons v vs =>
      obtain ⟨u, us, rfl, r1, r2, r3⟩ := r
      simp only [bindAll] at e
      obtain ⟨ι2, p2, rv, κ, ek⟩ := bind_ok p r1
      have old : ∀ {m : Nat} {a : Addr}, ι[m]? = some a → ι2[m]? = some a := fun {m a} z => by
        rw [ek, List.getElem?_append_left (List.getElem?_eq_some_iff.mp z).1]; exact z
      have re2 : RepE K ρ ι2 av σ H := ⟨re.1, fun j w ew => by
        obtain ⟨u', q1, q2⟩ := re.2 j w ew
        refine ⟨u', q1, ?_⟩
        cases w with
        | p d => exact q2
        | loc m => obtain ⟨a, z1, z2⟩ := q2; exact ⟨a, old z1, z2⟩
        | new xs => exact q2⟩
      have rest : ∀ {vs : List Val} {us : List V}, RepRs K H0 ι av H vs us → (v.isNew = true → u ∉ newsOf vs us) → RepRs K H0 ι2 av H vs us := by
        intro vs
        induction vs with
        | nil => intro us r _; exact r
        | cons w vs ih =>
          intro us r nn
          obtain ⟨z, us, rfl, s1, s2, s3⟩ := r
          refine ⟨z, us, rfl, ?_, ih s2 fun q m => nn q ?_, s3⟩
          · cases w with
            | p d => exact s1
            | loc m => obtain ⟨a, z1, z2⟩ := s1; exact ⟨a, old z1, z2⟩
            | new xs =>
              obtain ⟨a, ws, rfl, t0, t1, t2, t3, t4⟩ := s1
              refine ⟨a, ws, rfl, t0, t1, t2, fun m => ?_, t4⟩
              cases v with
              | new ys =>
                obtain ⟨b, ws', rfl, b0, b1, b2, b3, b4⟩ := r1
                obtain ⟨b', c1, c2⟩ := rv
                cases c2
                rw [show ι2 = ι ++ κ from ek] at m
                -- the only new place is b
                have hb : ι2 = ι ++ [b] := by
                  have l1 := p2.sim.len
                  have l0 := p.sim.len
                  have lk : κ.length = 1 := by
                    have : (bind (Val.new ys) h).2.length = h.length + 1 := by simp [bind]
                    rw [this, ek, List.length_append, l0] at l1
                    omega
                  match κ, lk, ek with
                  | [c], _, ek =>
                    have : ι2[h.length]? = some b := c1
                    rw [ek, ← l0] at this
                    simp at this
                    rw [ek, this]
                rw [← ek, hb] at m
                rcases List.mem_append.mp m with m | m
                · exact t3 m
                · rw [List.mem_singleton.mp m] at nn
                  exact nn rfl (by simp [newsOf])
              | p d =>
                have l1 := p2.sim.len
                have l0 := p.sim.len
                have : κ = [] := List.eq_nil_of_length_eq_zero (by
                  have z : (bind (Val.p d) h).2.length = h.length := rfl
                  rw [z, ek, List.length_append, l0] at l1
                  omega)
                subst this
                rw [ek, List.append_nil] at m
                exact t3 m
              | loc j =>
                have l1 := p2.sim.len
                have l0 := p.sim.len
                have : κ = [] := List.eq_nil_of_length_eq_zero (by
                  have z : (bind (Val.loc j) h).2.length = h.length := rfl
                  rw [z, ek, List.length_append, l0] at l1
                  omega)
                subst this
                rw [ek, List.append_nil] at m
                exact t3 m
          · cases w <;> simp [newsOf, m]
      obtain ⟨g1, g2⟩ := bindAll_ok e p2 (rest r2 r3) (re2.set rv)
      exact ⟨by simp [g1], g2⟩
end
end MP

/-! ## EngU.lean -/
set_option Elab.async false
set_option linter.all false
set_option maxRecDepth 100000
namespace MP
open PySem PySem.Spec PyProof.Rows L2
section
variable {K : PySem.W.Frag} {H H0 H1 H2 H' : Hp} {av av' av1 av2 avs : Av} {ι ι' ι0 ι1 ι2 ιs : List Addr} {h h' h1 h2 hs : Hs} {σ σ1 : L2.St} {ρ ρ1 : Env'} {X : Cx}
variable {G : Chk} {F : CallF} {n : Nat} {sc : Scope} {fnB : Str → Bool}
theorem tup_no {es : List Expr} {k : Nat} {p : Pos} {v : Expr} (hv : isTup v = false) : swappedStores [.Tuple es k p] v X.env = pure none := by
  cases v <;> first | rfl | cases hv
theorem sole_no {t v : Expr} {l : Nat} (hv : isComp v = false) : swapsWithSole [t] v l X.env = pure false := comp_no hv _ _ _
theorem s_tup {is : List Nat} {e : E} {es : List Expr} {k : Nat} {p pos : Pos} {v : Expr} (o : XOk G F n sc fnB X) (hv : isTup v = false) (hc : isComp v = false) (h1 : okTg.go G sc fnB is es = true) (ge : PE X v (rdE X.K (evE F e))) :
    PS X (.Assign [.Tuple es k p] v pos) (rdS X.K (evS F (.tup is e))) := by
  refine PSimp (ps_asg ge (tg_ok (t := .tp is) o h1) (sole_no hc) (tup_no hv) rfl) ?_
  rintro D σ H ⟨ρ, h, ι, av, oo, ρ1, h', sim, re, e, k⟩
  simp only [evS] at e
  split at e
  · rename_i ds h1 e1
    split at e
    · cases e
    · rename_i ρ2 e2
      simp only [Option.some.injEq, Prod.mk.injEq] at e
      obtain ⟨rfl, rfl, rfl⟩ := e
      refine ⟨ρ, h, ι, av, _, h1, sim, re, e1, fun ι1 av1 H1 u p1 r => ?_⟩
      exact tg_reads (t := .tp is) (v := .p (.tup ds)) (by simp only [setTg, e2]) (p1.stp.repE sim.sub re) r fun σ1 l1 re1 _ => k ι1 av1 H1 σ1 p1 re1
  · cases e
theorem gAll_fold : ∀ {is : List Nat} {us : List V} {σ : L2.St} {Q : L2.St → Hp → Prop}, us.length = is.length → Q ((is.zip us).foldl (fun σ q => σ.set q.1 (some q.2)) σ) H → gAll is us σ H Q
  | [], us, σ, Q, l, q => by
    cases us with
    | nil => exact ⟨rfl, q⟩
    | cons u us => simp at l
  | i :: is, us, σ, Q, l, q => by
    cases us with
    | nil => simp at l
    | cons u us => exact ⟨u, us, rfl, gAll_fold (by simpa using l) q⟩
theorem assign_len : ∀ (es : List Expr), (assignEach es X.env).length = es.length
  | [] => rfl
  | e :: es => by cases e <;> (show (assignEach es X.env).length + 1 = _; rw [assign_len es]; rfl)
theorem par_reads {is : List Nat} {xs : Es} {D : Ends} {T : L2.St → Hp → Prop} (q : rdS K (evS F (.par is xs)) D σ H)
    (f : ∀ ρ h us h', evEs F xs ρ h = some (us, h') → us.length ≤ 1000) :
    rdA K (evEs F xs) σ H fun us H1 => us.length ≤ sizeLine ∧ us.length = is.length ∧ D.nx ((is.zip us).foldl (fun σ q => σ.set q.1 (some q.2)) σ) H1 ∧
      ∀ p, H1 p = none → D.nx ((is.zip us).foldl (fun σ q => σ.set q.1 (some q.2)) σ) (upd H1 p (.tup us)) := by
  obtain ⟨ρ, h, ι, av, oo, ρ1, h', sim, re, e, k⟩ := q
  simp only [evS] at e
  split at e
  · cases e
  · rename_i ws h1 e1
    split at e
    · cases e
    · rename_i ρ2 h2 e2
      simp only [Option.some.injEq, Prod.mk.injEq] at e
      obtain ⟨rfl, rfl, rfl⟩ := e
      refine ⟨ρ, h, ι, av, ws, h1, sim, re, e1, fun ι1 av1 H1 us p1 r => ?_⟩
      have l2 := r.length
      have lz := f _ _ _ _ e1
      have hz : (1000 : Nat) ≤ sizeLine := by rw [sizeLine_eq]; decide
      obtain ⟨l1, ι2, p2, re2⟩ := bindAll_ok e2 p1 r (p1.stp.repE sim.sub re)
      refine ⟨by omega, by omega, k ι2 av1 H1 _ p2 re2, fun q hq => ?_⟩
      have pu : Pst K ι1 av1 H1 h1 ι1 av1 (upd H1 q (.tup us)) h1 := .upd_new p1.sim hq
      obtain ⟨_, ι3, p3, re3⟩ := bindAll_ok e2 (p1.trans pu) (pu.stp.repRs p1.sim.sub r) ((p1.trans pu).stp.repE sim.sub re)
      exact k ι3 av1 _ _ p3 re3
/-- unpacked from the plain tuple -/
theorem par_plain {is : List Nat} {xs : Es} {es vs : List Expr} {k k2 : Nat} {p p2 pos : Pos} (o : XOk G F n sc fnB X) (h1 : okTg.go G sc fnB is es = true) (hw : swappedStores [.Tuple es k p] (.Tuple vs k2 p2) X.env = pure none)
    (h5 : okEs G sc fnB xs vs = true) (h4 : (vs.all fun e => !isStar e) = true) (hz : vs.length ≤ 1000) (gs : PA X vs (rdA X.K (evEs F xs))) : PS X (.Assign [.Tuple es k p] (.Tuple vs k2 p2) pos) (rdS X.K (evS F (.par is xs))) := by
  refine PSimp (ps_asg (pe_tup gs) (tg_ok (t := .tp is) o h1) (sole_no rfl) hw rfl) fun D σ H q => ?_
  have r := par_reads (T := fun _ _ => True) q fun ρ h us h' e => by rw [es_len h5 h4 _ _ _ _ e]; exact hz
  obtain ⟨ρ, h, ι, av, ws, h', sim, re, e, kk⟩ := r
  refine ⟨ρ, h, ι, av, ws, h', sim, re, e, fun ι1 av1 H1 us p1 rr => ?_⟩
  obtain ⟨a1, a2, a3, a4⟩ := kk ι1 av1 H1 us p1 rr
  exact ⟨a1, fun q hq => ⟨q, us, rfl, .of upd_same, a2, gAll_fold a2 (a4 q hq)⟩⟩
theorem any_eq (vs : List Expr) (f g : Expr → Bool) (h : ∀ e, f e = g e) : vs.any f = vs.any g := by rw [funext h]
theorem fm_eq (vs : List Expr) (f g : Expr → Option Str) (h : ∀ e, f e = g e) : vs.filterMap f = vs.filterMap g := by rw [funext h]
theorem swap_par {es vs : List Expr} {k k2 : Nat} {p p2 : Pos} {r : Option (List Str)} (hk : X.env.scope.kind = .function) (h : parB X.env.scope es vs = some r) : swappedStores [.Tuple es k p] (.Tuple vs k2 p2) X.env = pure r := by
  have hb : X.env.blockKind = .function := by unfold Env.blockKind; rw [hk]; rfl
  have hn : (ScopeKind.function != ScopeKind.function) = false := rfl
  unfold swappedStores
  simp only [hb, hn, Bool.or_false]
  rw [any_eq vs _ isStar, fm_eq es _ (nmOf X.env.scope ((es.head?.map (·.pos.line)).getD 0))]
  rotate_left
  · intro e; cases e <;> rfl
  · intro e; cases e <;> rfl
  unfold parB at h
  generalize ((es.head?.map (·.pos.line)).getD 0) = l at h ⊢
  generalize es.filterMap (nmOf X.env.scope l) = names at h ⊢
  by_cases c1 : (!(es.length == 2 || es.length == 3) || vs.length != es.length) = true
  · rw [if_pos c1] at h ⊢
    cases h; rfl
  · rw [if_neg c1] at h ⊢
    by_cases c2 : vs.any isStar = true
    · rw [if_pos c2] at h ⊢
      cases h; rfl
    · rw [if_neg c2] at h ⊢
      by_cases c3 : (names.length != es.length || names.eraseDups.length != names.length) = true
      · rw [if_pos c3] at h ⊢
        cases h; rfl
      · rw [if_neg c3] at h ⊢
        by_cases c4 : vs.all (foldedForSure 8) = true
        · rw [if_pos c4] at h ⊢
          cases h; rfl
        · rw [if_neg c4] at h ⊢
          by_cases c5 : vs.all (constantsAlone 8) = true
          · rw [if_pos c5] at h
            cases h
          · rw [if_neg c5] at h ⊢
            cases h; rfl
end
end MP

/-! ## EngV.lean -/
set_option Elab.async false
set_option linter.all false
set_option maxRecDepth 100000
namespace MP
open PySem PySem.Spec PyProof.Rows L2
section
variable {K : PySem.W.Frag} {H H0 H1 H2 H' : Hp} {av av' av1 av2 avs : Av} {ι ι' ι0 ι1 ι2 ιs : List Addr} {h h' h1 h2 hs : Hs} {σ σ1 : L2.St} {ρ ρ1 : Env'} {X : Cx}
variable {G : Chk} {F : CallF} {n : Nat} {sc : Scope} {fnB : Str → Bool}
/-- a list of the heap is written -/
theorem Pst.write {m : Nat} {a : Addr} {o o' : O} {ws : List V} (p : Pst K ιs avs H0 hs ι av H h) (e : h[m]? = some o) (ul : o.locked = false) (ea : ι[m]? = some a) (r : match o' with
      | .lst _ xs => RepDs K H av xs ws
      | .ref _ ns => Paired (fun n v => ∃ b, ι[n]? = some b ∧ v = V.ref b) ns ws
      | .gone => False) : Pst K ιs avs H0 hs ι av (upd H a (.lst ws)) (h.set m o') := by
  have hm : m < h.length := (List.getElem?_eq_some_iff.mp e).1
  have ma : a ∈ ι := List.mem_of_getElem? ea
  have aa := p.sim.sub m a o ea e fun z => by subst z; cases ul
  have tmp : ∀ {b : Addr} {u : HO}, H b = some u → ¬ av b → upd H a (.lst ws) b = some u ∧ ¬ av b := fun {b u} q nb => ⟨by rw [upd_ne (show b ≠ a from fun z => nb (by rw [z]; exact aa))]; exact q, nb⟩
  refine ⟨⟨p.stp.ext, fun b u q nb => ?_, fun b q => ?_, p.stp.avs, p.stp.avm⟩, ⟨by rw [List.length_set]; exact p.sim.len, p.sim.nd, fun j b u e1 q g => ?_, fun b q => ?_, fun b q => ?_, fun j u q g => ?_⟩, fun j u q l => ?_⟩
  · have hb : b ≠ a := by
      intro z
      subst z
      rcases nb with nb | nb
      · obtain ⟨κ, ek, fk⟩ := p.stp.ext
        rw [ek] at ma
        rcases List.mem_append.mp ma with z | z
        · exact nb z
        · rw [fk b z] at q; cases q
      · rcases p.stp.avs b aa with z | z
        · exact nb z
        · rw [z] at q; cases q
    rw [upd_ne hb]
    exact p.stp.keep b u q nb
  · by_cases z : b = a
    · subst z; rw [upd_same]; simp
    · rw [upd_ne z]; exact p.stp.alive b q
  · by_cases hj : m = j
    · subst hj
      rw [ea] at e1; cases e1
      exact aa
    · rw [List.getElem?_set_ne hj] at q
      exact p.sim.sub j b u e1 q g
  · by_cases z : b = a
    · subst z; rw [upd_same]; simp
    · rw [upd_ne z]; exact p.sim.lv b q
  · by_cases z : b = a
    · subst z; rw [upd_same]; simp
    · rw [upd_ne z]; exact p.sim.live b q
  · by_cases hj : m = j
    · subst hj
      rw [List.getElem?_set_self hm] at q
      cases q
      refine ⟨a, ws, ea, upd_same, ?_⟩
      cases o' with
      | lst k xs => exact RepDs.mono (fun b u q nb => tmp q nb) _ _ r
      | ref k ns => exact r
      | gone => exact r.elim
    · rw [List.getElem?_set_ne hj] at q
      obtain ⟨b, vs, k1, k2, k3⟩ := p.sim.ob j u q g
      have hb : b ≠ a := by
        intro z
        subst z
        obtain ⟨l1, e1⟩ := List.getElem?_eq_some_iff.mp ea
        obtain ⟨l2, e2⟩ := List.getElem?_eq_some_iff.mp k1
        exact hj ((List.getElem_inj p.sim.nd).mp (e1.trans e2.symm))
      refine ⟨b, vs, k1, by rw [upd_ne hb]; exact k2, ?_⟩
      cases u with
      | lst k xs => exact RepDs.mono (fun b u q nb => tmp q nb) _ _ k3
      | ref k ns => exact k3
      | gone => trivial
  · have := p.lk j u q l
    by_cases hj : m = j
    · subst hj
      rw [e] at this
      cases this
      rw [ul] at l
      cases l
    · rw [List.getElem?_set_ne hj]
      exact this
theorem Pst.reE {P : Prop} (p : Pst K ιs avs H0 hs ι av H h) (sub : P) (re : RepE K ρ ιs avs σ H0) : RepE K ρ ι av σ H := p.stp.repE sub re
theorem s_set {o i e : E} {x y v : Expr} {sp pos : Pos} (hy : isSlice y = false) (hv : isComp v = false) (ge : PE X v (rdE X.K (evE F e))) (go : PE X x (rdE X.K (evE F o))) (gi : PE X y (rdE X.K (evE F i))) :
    PS X (.Assign [.Subscript x y sp] v pos) (rdS X.K (evS F (.set o i e))) := by
  refine PSimp (ps_asg ge (pg_sub go gi set_list ?_) (sole_no hv) ?_ rfl) ?_
  · cases y <;> first | (intro _; rfl) | cases hy
  · rfl
  · rintro D σ H ⟨ρ, h, ι, av, oo, ρ1, h', sim, re, e, k⟩
    simp only [evS] at e
    split at e
    · cases e
    · rename_i w h1 e1
      split at e
      · cases e
      · rename_i d ed
        split at e
        · rename_i m h2 e2
          split at e
          · rename_i j h3 e3
            split at e
            · cases e
            · rename_i h4 e4
              simp only [Option.some.injEq, Prod.mk.injEq] at e
              obtain ⟨rfl, rfl, rfl⟩ := e
              refine ⟨ρ, h, ι, av, w, h1, sim, re, e1, fun ι1 av1 H1 u p1 r1 => ?_⟩
              obtain ⟨av1', _, p1', rd⟩ := frzD_ok p1 sim.live r1 ed
              refine ⟨ρ, h1, ι1, av1', _, h2, p1'.sim, p1'.reE sim.sub re, e2, fun ι2 av2 H2 u2 p2 r2 => ?_⟩
              have p12 := p1'.trans p2
              refine ⟨ρ, h2, ι2, av2, _, h3, p2.sim, p12.reE sim.sub re, e3, fun ι3 av3 H3 u3 p3 r3 => ?_⟩
              have p13 := p12.trans p3
              obtain ⟨a, ea, rfl⟩ := (p3.stp.repR p2.sim.sub r2)
              have rd3 := p3.stp.repD p2.sim.sub (p2.stp.repD p1'.sim.sub rd)
              unfold setV at e4
              split at e4
              · rename_i xs ex
                split at e4
                · rename_i jj ej
                  simp only [Option.some.injEq] at e4
                  subst e4
                  obtain ⟨b, vs, k1, k2, k3⟩ := p3.sim.ob m _ ex nofun
                  rw [ea] at k1; cases k1
                  refine ⟨a, vs, j, jj, rfl, r3.intE, k2, by rw [RepDs.length k3]; exact ej, ?_⟩
                  have pw := p13.write (o' := .lst false (xs.set jj d)) (ws := vs.set jj u) ex rfl ea (RepDs.set jj k3 rd3)
                  exact k ι3 av3 _ σ pw (pw.reE sim.sub re)
                · cases e4
              · cases e4
          · cases e
        · cases e
theorem s_tsn {o i e : E} {j : Nat} {x y v : Expr} {z : Str} {sp zp p pos : Pos} {kk : Nat} (ok : XOk G F n sc fnB X) (h1 : isTup v = false) (hv : isComp v = false) (hy : isSlice y = false) (hj : G.N[j]? = some z) (hz : stB sc fnB z = true)
    (ge : PE X v (rdE X.K (evE F e))) (go : PE X x (rdE X.K (evE F o))) (gi : PE X y (rdE X.K (evE F i))) : PS X (.Assign [.Tuple [.Subscript x y sp, .Name z zp] kk p] v pos) (rdS X.K (evS F (.tsn o i j e))) := by
  obtain ⟨s1, s2⟩ := stB_ok ok hz
  have hs : PG X (.Subscript x y sp) (gSub (rdE X.K (evE F o)) (rdE X.K (evE F i)) _) := pg_sub go gi set_list (by cases y <;> first | (intro _; rfl) | cases hy)
  have hn : PG X (.Name z zp) (gName j) := pg_name (by rw [ok.nN]; exact ok.nd) (by rw [ok.nN]; exact hj) s1 s2
  refine PSimp (ps_asg ge (pg_tup (n := 2) ok.calm (pgs_cons hs (pgs_cons hn pgs_nil rfl) rfl) rfl rfl) (sole_no hv) (tup_no h1) rfl) ?_
  rintro D σ H ⟨ρ, h, ι, av, oo, ρ1, h', sim, re, e, k⟩
  simp only [evS] at e
  split at e
  · rename_i d d2 h1 e1
    split at e
    · rename_i m h2 e2
      split at e
      · rename_i q h3 e3
        split at e
        · cases e
        · rename_i h4 e4
          simp only [Option.some.injEq, Prod.mk.injEq] at e
          obtain ⟨rfl, rfl, rfl⟩ := e
          refine ⟨ρ, h, ι, av, _, h1, sim, re, e1, fun ι1 av1 H1 u p1 r1 => ?_⟩
          obtain ⟨a, vs, rfl, q1, q2, q3⟩ := r1
          obtain ⟨v1, vs, rfl, r1, q3⟩ := q3
          obtain ⟨v2, vs, rfl, r2, q3⟩ := q3
          cases q3
          refine ⟨a, [v1, v2], rfl, q1.sq, rfl, v1, [v2], rfl, ?_⟩
          refine ⟨ρ, h1, ι1, av1, _, h2, p1.sim, p1.reE sim.sub re, e2, fun ι2 av2 H2 u2 p2 r2' => ?_⟩
          have p12 := p1.trans p2
          refine ⟨ρ, h2, ι2, av2, _, h3, p2.sim, p12.reE sim.sub re, e3, fun ι3 av3 H3 u3 p3 r3 => ?_⟩
          have p13 := p12.trans p3
          obtain ⟨b, eb, rfl⟩ := p3.stp.repR p2.sim.sub r2'
          have rd1 := p3.stp.repD p2.sim.sub (p2.stp.repD p1.sim.sub r1)
          have rd2 := p3.stp.repD p2.sim.sub (p2.stp.repD p1.sim.sub r2)
          unfold setV at e4
          split at e4
          · rename_i xs ex
            split at e4
            · rename_i jj ej
              simp only [Option.some.injEq] at e4
              subst e4
              obtain ⟨c, vs, k1, k2, k3⟩ := p3.sim.ob m _ ex nofun
              rw [eb] at k1; cases k1
              refine ⟨b, vs, q, jj, rfl, r3.intE, k2, by rw [RepDs.length k3]; exact ej, ?_⟩
              have pw := p13.write (o' := .lst false (xs.set jj d)) (ws := vs.set jj v1) ex rfl eb (RepDs.set jj k3 rd1)
              have rd2' : RepD X.K (upd H3 b (.lst (vs.set jj v1))) av3 d2 v2 := RepD.temp rd2 (p3.sim.sub m b _ eb ex nofun)
              refine ⟨v2, [], rfl, rfl, ?_⟩
              exact k ι3 av3 _ _ pw ((pw.reE sim.sub re).set rd2')
            · cases e4
          · cases e4
      · cases e
    · cases e
  · cases e
theorem s_app {o e : E} {x y : Expr} {ap cp pos : Pos} (hx : plainO x = true) (hs : isStar y = false) (hl : (ap.endLine == cp.line) = true) (go : PE X x (rdE X.K (evE F o))) (ge : PE X y (rdE X.K (evE F e))) :
    PS X (.Expr (.Call (.Attribute x "append" ap) [y] [] cp) pos) (rdS X.K (evS F (.app o e))) := by
  have g := pe_bm (X := X) (o := x) (e := y) (es := []) (apos := ap) (cpos := cp) PySem.F.plainAttrs_list PySem.F.slot_list_append PySem.F.type_list_append mt_append go (pa_cons ge pa_nil (star_no hs _ _)) (base_no hx _)
    (by rw [star_no hs]; rfl) hl (star_no hs _ _) rfl
  refine PSimp (ps_expr g rfl) ?_
  rintro D σ H ⟨ρ, h, ι, av, oo, ρ1, h', sim, re, e, k⟩
  simp only [evS] at e
  split at e
  · rename_i m h1 e1
    split at e
    · cases e
    rename_i lv
    split at e
    · cases e
    · rename_i w h2 e2
      split at e
      · cases e
      · rename_i h3 e3
        simp only [Option.some.injEq, Prod.mk.injEq] at e
        obtain ⟨rfl, rfl, rfl⟩ := e
        refine ⟨ρ, h, ι, av, _, h1, sim, re, e1, fun ι1 av1 H1 u1 p1 r1 => ?_⟩
        obtain ⟨a, ea, rfl⟩ := id r1
        have sq : ∃ xs, SqL X.K H1 a xs := by
          have lv2 : ∃ o, h1[m]? = some o ∧ o ≠ .gone := by
            unfold liveO at lv
            split at lv
            · cases lv
            · rename_i o g eo
              exact ⟨o, eo, g⟩
            · cases lv
          obtain ⟨o, eo, g⟩ := lv2
          obtain ⟨b, vs, k1, k2, k3⟩ := p1.sim.ob m o eo g
          rw [ea] at k1; cases k1
          exact ⟨vs, .of k2⟩
        refine ⟨.inl ⟨rfl, sq⟩, ρ, h1, ι1, av1, w, h2, p1.sim, p1.reE sim.sub re, e2, fun ι2 av2 H2 u2 p2 r2 => ?_⟩
        have ea2 := p2.stp.ix ea
        have p12 := p1.trans p2
        have dat : ∀ {d}, frzD w = some d → (∃ xs, h2[m]? = some (.lst false xs) ∧ xs.length < sizeLine ∧ h3 = h2.set m (.lst false (xs ++ [d]))) → ∃ l xs y, V.ref a = .ref l ∧ [u2] = [y] ∧ H2 l = some (.lst xs) ∧ xs.length < sizeLine ∧ D.nx σ (upd H2 l (.lst (xs ++ [y]))) := by
          rintro d ed ⟨xs, ex, hz, rfl⟩
          obtain ⟨b, vs, k1, k2, k3⟩ := p2.sim.ob m _ ex nofun
          rw [ea2] at k1; cases k1
          obtain ⟨av2', less, p2', rd⟩ := frzD_ok (p12) sim.live (r2.back p1.stp) ed
          refine ⟨a, vs, u2, rfl, rfl, k2, by rw [RepDs.length k3]; exact hz, ?_⟩
          have pw := p2'.write (o' := .lst false (xs ++ [d])) (ws := vs ++ [u2]) ex rfl ea2 (RepDs.append (RepDs.lessAv less k3) ⟨u2, [], rfl, rd, rfl⟩)
          exact k ι2 av2' _ σ pw (pw.reE sim.sub re)
        unfold appV at e3
        split at e3
        · rename_i j
          obtain ⟨b, eb, rfl⟩ := r2
          split at e3
          · rename_i ex
            simp only [Option.some.injEq] at e3
            subst e3
            obtain ⟨b', vs, k1, k2, k3⟩ := p2.sim.ob m _ ex nofun
            rw [ea2] at k1; cases k1
            cases k3
            refine ⟨a, [], .ref b, rfl, rfl, k2, by show 0 < sizeLine; rw [sizeLine_eq]; decide, ?_⟩
            have pw := p12.write (o' := .ref false [j]) (ws := [] ++ [V.ref b]) ex rfl ea2 (.cons ⟨b, eb, rfl⟩ .nil)
            exact k ι2 av2 _ σ pw (pw.reE sim.sub re)
          · rename_i ns ex
            split at e3
            · rename_i hm
              simp only [Option.some.injEq] at e3
              subst e3
              obtain ⟨b', vs, k1, k2, k3⟩ := p2.sim.ob m _ ex nofun
              rw [ea2] at k1; cases k1
              refine ⟨a, vs, .ref b, rfl, rfl, k2, by rw [← paired_len k3]; exact blt_line hm, ?_⟩
              have app : ∀ {ns : List Nat} {vs : List V}, Paired (fun n v => ∃ b, ι2[n]? = some b ∧ v = V.ref b) ns vs → Paired (fun n v => ∃ b, ι2[n]? = some b ∧ v = V.ref b) (ns ++ [j]) (vs ++ [V.ref b]) := by
                intro ns vs q
                induction q with
                | nil => exact .cons ⟨b, eb, rfl⟩ .nil
                | cons r _ ih => exact .cons r ih
              have pw := p12.write (o' := .ref false (ns ++ [j])) (ws := vs ++ [V.ref b]) ex rfl ea2 (app k3)
              exact k ι2 av2 _ σ pw (pw.reE sim.sub re)
            · cases e3
          · cases e3
        · split at e3
          · cases e3
          · rename_i d ed
            split at e3
            · rename_i xs ex
              split at e3
              · rename_i hm
                simp only [Option.some.injEq] at e3
                exact dat ed ⟨xs, ex, blt_line hm, e3.symm⟩
              · cases e3
            · cases e3
  · cases e
/-- a list of the heap becomes data -/
theorem Pst.giveUp {m : Nat} {b : Addr} {xs : List D} (p : Pst K ιs avs H0 hs ι av H h) (e : h[m]? = some (.lst false xs)) (eb : ι[m]? = some b) :
    Pst K ιs avs H0 hs ι (fun c => av c ∧ c ≠ b) H (h.set m .gone) ∧ RepD K H (fun c => av c ∧ c ≠ b) (.lst xs) (.ref b) := by
  have hm : m < h.length := (List.getElem?_eq_some_iff.mp e).1
  obtain ⟨b', vs, k1, k2, k3⟩ := p.sim.ob m _ e nofun
  rw [eb] at k1; cases k1
  refine ⟨⟨⟨p.stp.ext, p.stp.keep, p.stp.alive, fun c q => p.stp.avs c q.1, fun c q n z => ⟨p.stp.avm c q n z, ?_⟩⟩, ⟨by rw [List.length_set]; exact p.sim.len, p.sim.nd, fun j c u e1 q g => ?_, p.sim.lv, fun c q => p.sim.live c q.1, fun j u q g => ?_⟩, fun j u q l => ?_⟩, b, vs, rfl, k2, fun z => z.2 rfl, RepDs.lessAv (fun _ q => q.1) k3⟩
  · rintro rfl
    obtain ⟨κ, ek, fk⟩ := p.stp.ext
    have mb := List.mem_of_getElem? eb
    rw [ek] at mb
    rcases List.mem_append.mp mb with mb | mb
    · exact n mb
    · exact z (fk c mb)
  · by_cases hj : m = j
    · subst hj
      rw [List.getElem?_set_self hm] at q
      cases q
      exact absurd rfl g
    · rw [List.getElem?_set_ne hj] at q
      refine ⟨p.sim.sub j c u e1 q g, ?_⟩
      rintro rfl
      obtain ⟨l1, e3⟩ := List.getElem?_eq_some_iff.mp eb
      obtain ⟨l2, e4⟩ := List.getElem?_eq_some_iff.mp e1
      exact hj ((List.getElem_inj p.sim.nd).mp (e3.trans e4.symm))
  · by_cases hj : m = j
    · subst hj
      rw [List.getElem?_set_self hm] at q
      cases q
      exact absurd rfl g
    · rw [List.getElem?_set_ne hj] at q
      obtain ⟨c, ws, z1, z2, z3⟩ := p.sim.ob j u q g
      refine ⟨c, ws, z1, z2, ?_⟩
      cases u with
      | lst k ys => exact RepDs.lessAv (fun _ q => q.1) z3
      | ref k ns => exact z3
      | gone => trivial
  · have q2 := p.lk j u q l
    have hj : m ≠ j := by
      rintro rfl
      rw [e] at q2; cases q2; cases l
    rw [List.getElem?_set_ne hj]
    exact q2
theorem live_ok {m : Nat} {a : Addr} (sim : SimH K h ι av H) (ea : ι[m]? = some a) (lv : liveO h m = true) : ∃ xs, SqL K H a xs := by
  unfold liveO at lv
  split at lv
  · cases lv
  · rename_i o g eo
    obtain ⟨b, vs, k1, k2, k3⟩ := sim.ob m o eo g
    rw [ea] at k1; cases k1
    exact ⟨vs, .of k2⟩
  · cases lv
theorem s_apf {o i : Nat} {x y : Expr} {ap cp pos : Pos} (hx : plainO x = true) (hs : isStar y = false) (hl : (ap.endLine == cp.line) = true) (go : PE X x (rdE X.K (evE F (.var o)))) (ge : PE X y (rdE X.K (evE F (.var i)))) :
    PS X (.Expr (.Call (.Attribute x "append" ap) [y] [] cp) pos) (rdS X.K (evS F (.apf o i))) := by
  have g := pe_bm (X := X) (o := x) (e := y) (es := []) (apos := ap) (cpos := cp) PySem.F.plainAttrs_list PySem.F.slot_list_append PySem.F.type_list_append mt_append go (pa_cons ge pa_nil (star_no hs _ _)) (base_no hx _)
    (by rw [star_no hs]; rfl) hl (star_no hs _ _) rfl
  refine PSimp (ps_expr g rfl) ?_
  rintro D σ H ⟨ρ, h, ι, av, oo, ρ1, h', sim, re, e, k⟩
  simp only [evS] at e
  split at e
  · rename_i n eo
    split at e
    · cases e
    rename_i lv
    split at e
    · rename_i m ei
      split at e
      · cases e
      · rename_i h3 e3
        simp only [Option.some.injEq, Prod.mk.injEq] at e
        obtain ⟨rfl, rfl, rfl⟩ := e
        refine ⟨ρ, h, ι, av, .loc n, h, sim, re, by simp only [evE, eo], fun ι1 av1 H1 u1 p1 r1 => ?_⟩
        obtain ⟨a, ea, rfl⟩ := id r1
        refine ⟨.inl ⟨rfl, live_ok p1.sim ea lv⟩, ρ, h, ι1, av1, .loc m, h, p1.sim, p1.reE sim.sub re, by simp only [evE, ei], fun ι2 av2 H2 u2 p2 r2 => ?_⟩
        have ea2 := p2.stp.ix ea
        have p12 := p1.trans p2
        obtain ⟨b, eb, rfl⟩ := r2
        unfold apfV at e3
        split at e3
        · cases e3
        rename_i nm
        split at e3
        · rename_i xs exs
          split at e3
          · rename_i h4 e4
            simp only [Option.some.injEq] at e3
            subst e3
            have hnm : n ≠ m := fun z => by subst z; simp at nm
            obtain ⟨pg, rd⟩ := p12.giveUp exs eb
            simp only [appV, frzD] at e4
            split at e4
            · rename_i ys ey
              split at e4
              · rename_i hz
                simp only [Option.some.injEq] at e4
                subst e4
                obtain ⟨c, vs, k1, k2, k3⟩ := p2.sim.ob n _ ey nofun
                rw [ea2] at k1; cases k1
                refine ⟨a, vs, .ref b, rfl, rfl, k2, by rw [RepDs.length k3]; exact blt_line hz, ?_⟩
                have ey' : (h.set m O.gone)[n]? = some (.lst false ys) := by rw [List.getElem?_set_ne (Ne.symm hnm)]; exact ey
                have pw := pg.write (o' := .lst false (ys ++ [.lst xs])) (ws := vs ++ [V.ref b]) ey' rfl ea2 (RepDs.append (RepDs.lessAv (fun _ q => q.1) k3) ⟨_, [], rfl, rd, rfl⟩)
                rw [List.set_comm _ _ (Ne.symm hnm)] at pw
                exact k ι2 _ _ σ pw (pw.reE sim.sub re)
              · cases e4
            · cases e4
          · cases e3
        · cases e3
    · cases e
  · cases e
theorem s_ext {o e : E} {x y : Expr} {ap cp pos : Pos} (hx : plainO x = true) (hs : isStar y = false) (hl : (ap.endLine == cp.line) = true) (go : PE X x (rdE X.K (evE F o))) (ge : PE X y (rdE X.K (evE F e))) :
    PS X (.Expr (.Call (.Attribute x "extend" ap) [y] [] cp) pos) (rdS X.K (evS F (.ext o e))) := by
  have g := pe_bm (X := X) (o := x) (e := y) (es := []) (apos := ap) (cpos := cp) PySem.F.plainAttrs_list PySem.F.slot_list_extend PySem.F.type_list_extend mt_extend go (pa_cons ge pa_nil (star_no hs _ _)) (base_no hx _)
    (by rw [star_no hs]; rfl) hl (star_no hs _ _) rfl
  refine PSimp (ps_expr g rfl) ?_
  rintro D σ H ⟨ρ, h, ι, av, oo, ρ1, h', sim, re, e, k⟩
  simp only [evS] at e
  split at e
  · rename_i m h1 e1
    split at e
    · cases e
    rename_i lv
    split at e
    · cases e
    · rename_i w h2 e2
      split at e
      · cases e
      · rename_i h3 e3
        simp only [Option.some.injEq, Prod.mk.injEq] at e
        obtain ⟨rfl, rfl, rfl⟩ := e
        refine ⟨ρ, h, ι, av, _, h1, sim, re, e1, fun ι1 av1 H1 u1 p1 r1 => ?_⟩
        obtain ⟨a, ea, rfl⟩ := id r1
        refine ⟨.inl ⟨rfl, live_ok p1.sim ea lv⟩, ρ, h1, ι1, av1, w, h2, p1.sim, p1.reE sim.sub re, e2, fun ι2 av2 H2 u2 p2 r2 => ?_⟩
        have ea2 := p2.stp.ix ea
        have p12 := p1.trans p2
        unfold extV at e3
        split at e3
        · rename_i ys es
          obtain ⟨b, us, rfl, rv, _, hb⟩ := seqD_ok p2.sim r2 es
          split at e3
          · rename_i xs ex
            split at e3
            · rename_i hz
              simp only [Option.some.injEq] at e3
              subst e3
              obtain ⟨c, vs, k1, k2, k3⟩ := p2.sim.ob m _ ex nofun
              rw [ea2] at k1; cases k1
              refine ⟨a, b, vs, us, rfl, rfl, k2, hb rfl, by rw [RepDs.length k3, RepDs.length rv]; exact ble_line hz, ?_⟩
              have pw := p12.write (o' := .lst false (xs ++ ys)) (ws := vs ++ us) ex rfl ea2 (RepDs.append k3 rv)
              exact k ι2 av2 _ σ pw (pw.reE sim.sub re)
            · cases e3
          · cases e3
        · cases e3
  · cases e
theorem s_ex {e : E} {x : Expr} {pos : Pos} (hx : isComp x = false) (ge : PE X x (rdE X.K (evE F e))) : PS X (.Expr x pos) (rdS X.K (evS F (.ex e))) := by
  refine PSimp (ps_expr ge (comp_no hx _ _ _)) ?_
  rintro D σ H ⟨ρ, h, ι, av, oo, ρ1, h', sim, re, e, k⟩
  simp only [evS] at e
  split at e
  · cases e
  · rename_i w h1 e1
    simp only [Option.some.injEq, Prod.mk.injEq] at e
    obtain ⟨rfl, rfl, rfl⟩ := e
    exact ⟨ρ, h, ι, av, w, h1, sim, re, e1, fun ι1 av1 H1 u p1 r => k ι1 av1 H1 σ p1 (p1.reE sim.sub re)⟩
theorem s_ret {e : E} {x : Expr} {pos : Pos} (ge : PE X x (rdE X.K (evE F e))) : PS X (.Return (some x) pos) (rdS X.K (evS F (.ret e))) := by
  refine PSimp (ps_ret ge) ?_
  rintro D σ H ⟨ρ, h, ι, av, oo, ρ1, h', sim, re, e, k⟩
  simp only [evS] at e
  split at e
  · cases e
  · rename_i w h1 e1
    simp only [Option.some.injEq, Prod.mk.injEq] at e
    obtain ⟨rfl, rfl, rfl⟩ := e
    exact ⟨ρ, h, ι, av, w, h1, sim, re, e1, fun ι1 av1 H1 u p1 r => k ι1 av1 H1 σ p1 (p1.reE sim.sub re) u r⟩
theorem s_retN {pos : Pos} : PS X (.Return none pos) (rdS X.K (evS F .retN)) := by
  refine PSimp ps_retN ?_
  rintro D σ H ⟨ρ, h, ι, av, oo, ρ1, h', sim, re, e, k⟩
  simp only [evS, Option.some.injEq, Prod.mk.injEq] at e
  obtain ⟨rfl, rfl, rfl⟩ := e
  exact k ι av H σ (.refl sim) re .non rfl
theorem s_brk {pos : Pos} : PS X (.Break pos) (rdS X.K (evS F .brk)) := by
  refine PSimp ps_break ?_
  rintro D σ H ⟨ρ, h, ι, av, oo, ρ1, h', sim, re, e, k⟩
  simp only [evS, Option.some.injEq, Prod.mk.injEq] at e
  obtain ⟨rfl, rfl, rfl⟩ := e
  exact k ι av H σ (.refl sim) re
theorem s_pss {pos : Pos} : PS X (.Pass pos) (rdS X.K (evS F .pss)) := by
  refine PSimp ps_pass ?_
  rintro D σ H ⟨ρ, h, ι, av, oo, ρ1, h', sim, re, e, k⟩
  simp only [evS, Option.some.injEq, Prod.mk.injEq] at e
  obtain ⟨rfl, rfl, rfl⟩ := e
  exact k ι av H σ (.refl sim) re
theorem s_nev {st : Stmt} : PS X st (rdS X.K (evS F .nev)) := by
  refine PSimp ps_never ?_
  rintro D σ H ⟨ρ, h, ι, av, oo, ρ1, h', sim, re, e, k⟩
  cases e
theorem ss_nil : PSs X [] (rdS X.K (evSs F .nil)) := by
  refine PSsimp pss_nil ?_
  rintro D σ H ⟨ρ, h, ι, av, oo, ρ1, h', sim, re, e, k⟩
  simp only [evSs, Option.some.injEq, Prod.mk.injEq] at e
  obtain ⟨rfl, rfl, rfl⟩ := e
  exact k ι av H σ (.refl sim) re
/-- the ends seen from an earlier heap -/
theorem ends_back {o : Out} {D : Ends} {σ : L2.St} (b : Stp ι av H ι1 av1 H1) (q : EndOk K H ι' av' H' D σ o) : EndOk K H1 ι' av' H' D σ o := by
  cases o with
  | nx => exact q
  | bk => exact q
  | rt v => exact fun u r => q u (r.back b)
theorem ss_cons {s : S} {ss : Ss} {x : Stmt} {xs : List Stmt} (g : PS X x (rdS X.K (evS F s))) (gs : PSs X xs (rdS X.K (evSs F ss))) : PSs X (x :: xs) (rdS X.K (evSs F (.cons s ss))) := by
  refine PSsimp (pss_cons g gs) ?_
  rintro D σ H ⟨ρ, h, ι, av, oo, ρ1, h', sim, re, e, k⟩
  simp only [evSs] at e
  split at e
  · cases e
  · rename_i ρ2 h1 e1
    refine ⟨ρ, h, ι, av, .nx, ρ2, h1, sim, re, e1, fun ι1 av1 H1 σ1 p1 re1 => ?_⟩
    exact ⟨ρ2, h1, ι1, av1, oo, ρ1, h', p1.sim, re1, e, fun ι2 av2 H2 σ2 p2 re2 => ends_back p1.stp (k ι2 av2 H2 σ2 (p1.trans p2) re2)⟩
  · rename_i r nn e1
    simp only [Option.some.injEq] at e
    subst e
    refine ⟨ρ, h, ι, av, oo, ρ1, h', sim, re, e1, fun ι1 av1 H1 σ1 p1 re1 => ?_⟩
    have q := k ι1 av1 H1 σ1 p1 re1
    cases oo with
    | nx => exact absurd rfl (nn ρ1 h')
    | bk => exact q
    | rt v => exact q
theorem s_ife {c : T} {a b : Ss} {t : Expr} {xs ys : List Stmt} {pos : Pos} (gc : PT X t (rdT X.K (evT F c))) (ga : PSs X xs (rdS X.K (evSs F a))) (gb : PSs X ys (rdS X.K (evSs F b))) : PS X (.If t xs ys pos) (rdS X.K (evS F (.ife c a b))) := by
  refine PSimp (ps_if gc ga gb) ?_
  rintro D σ H ⟨ρ, h, ι, av, oo, ρ1, h', sim, re, e, k⟩
  simp only [evS] at e
  split at e
  · cases e
  · rename_i h1 e1
    refine ⟨ρ, h, ι, av, true, h1, sim, re, e1, fun ι1 av1 H1 p1 => iteT ?_⟩
    exact ⟨ρ, h1, ι1, av1, oo, ρ1, h', p1.sim, p1.reE sim.sub re, e, fun ι2 av2 H2 σ2 p2 re2 => ends_back p1.stp (k ι2 av2 H2 σ2 (p1.trans p2) re2)⟩
  · rename_i h1 e1
    refine ⟨ρ, h, ι, av, false, h1, sim, re, e1, fun ι1 av1 H1 p1 => iteF ?_⟩
    exact ⟨ρ, h1, ι1, av1, oo, ρ1, h', p1.sim, p1.reE sim.sub re, e, fun ι2 av2 H2 σ2 p2 re2 => ends_back p1.stp (k ι2 av2 H2 σ2 (p1.trans p2) re2)⟩
end
end MP

/-! ## EngW.lean -/
set_option Elab.async false
set_option linter.all false
set_option maxRecDepth 100000
namespace MP
open PySem PySem.Spec PyProof.Rows L2
section
variable {K : PySem.W.Frag} {H H0 H1 H2 H' : Hp} {av av' av1 av2 avs : Av} {ι ι' ι0 ι1 ι2 ιs : List Addr} {h h' h1 h2 hs : Hs} {σ σ1 : L2.St} {ρ ρ1 : Env'} {X : Cx}
variable {G : Chk} {F : CallF} {n : Nat} {sc : Scope} {fnB : Str → Bool}
theorem drop_cons {α : Type} {xs : List α} {i : Nat} {v : α} (ev : xs[i]? = some v) : xs.drop i = v :: xs.drop (i + 1) := by
  obtain ⟨hl, ev'⟩ := List.getElem?_eq_some_iff.mp ev
  rw [← ev']
  exact List.drop_eq_getElem_cons hl
theorem EndOk.back {o : Out} {D : Ends} (b : Stp ι av H ι1 av1 H1) (q : EndOk K H ι' av' H' D σ o) : EndOk K H1 ι' av' H' D σ o := ends_back b q
theorem s_for {tg : Tg} {it : MP.It} {body : Ss} {t i : Expr} {b : List Stmt} {pos : Pos} (o : XOk G F n sc fnB X) (h1 : isSet i = false) (gi : PI X t i (rdI X.K (evI F it))) (h2 : okTg G sc fnB tg t = true) (gb : PSs X b (rdS X.K (evSs F body))) :
    PS X (.For t i b [] pos) (rdS X.K (evS F (.for_ tg it body))) := by
  refine PSimp (ps_for (by rw [o.xe]; exact PassesOwn.never) o.calm gi (tg_ok o h2) gb (set_no h1 _)) ?_
  rintro D σ H ⟨ρ, h, ι, av, oo, ρ1, h', sim, re, e, k⟩
  simp only [evS] at e
  split at e
  · cases e
  · rename_i wk h1 e1
    split at e
    · cases e
    · rename_i o2 ρ2 h2 e2
      simp only [Option.some.injEq, Prod.mk.injEq] at e
      obtain ⟨rfl, rfl, rfl⟩ := e
      refine ⟨ρ, h, ι, av, wk, h1, sim, re, e1, fun ι1 av1 H1 J h3 p3 p bk w => ?_⟩
      obtain ⟨Gp, Y, walk, cond⟩ := w
      refine for_it walk (fun i σc Hc => ∃ ρc ιc avc hc, Pst X.K ι1 av1 H1 h1 ιc avc Hc hc ∧ RepE X.K ρc ιc avc σc Hc ∧
        forGo (forF tg (evSs F body)) (wk.items.drop i) ρc hc = some (o2, ρ2, h2)) ?_ ?_ ?_ ?_
      · exact ⟨ρ, ι1, av1, h1, .refl p.sim, p.reE sim.sub re, by rw [List.drop_zero]; exact e2⟩
      · rintro i σc Hc _ ⟨ρc, ιc, avc, hc, pc, _⟩
        exact (cond ιc avc Hc hc pc.stp pc.sim pc.lk).1
      · rintro i x σc Hc H' hi ⟨ρc, ιc, avc, hc, pc, rec, eg⟩ y
        obtain ⟨v, ev, py, rv⟩ := (cond ιc avc Hc hc pc.stp pc.sim pc.lk).2 i x H' hi y
        rw [drop_cons ev] at eg
        simp only [forGo, forF] at eg
        have pcy := pc.trans py
        have re' := py.reE pc.sim.sub rec
        cases et : setTg tg v ρc with
        | none => rw [et] at eg; cases eg
        | some ρ3 =>
          rw [et] at eg
          simp only at eg
          refine tg_reads et re' rv fun σ1 l1 re1 a1 => ?_
          cases eb : evSs F body ρ3 hc with
          | none => rw [eb] at eg; cases eg
          | some r =>
            obtain ⟨o4, ρ4, h4⟩ := r
            rw [eb] at eg
            refine ⟨ρ3, hc, ιc, avc, o4, ρ4, h4, py.sim, re1, eb, fun ι4 av4 H4 σ4 p4 re4 => ?_⟩
            have p14 := pcy.trans p4
            cases o4 with
            | nx => exact ⟨ρ4, ι4, av4, h4, p14, re4, eg⟩
            | bk =>
              simp only [Option.some.injEq, Prod.mk.injEq] at eg
              obtain ⟨rfl, rfl, rfl⟩ := eg
              exact k ι4 av4 H4 σ4 (p.unlock p14 bk p3) re4
            | rt v' =>
              simp only [Option.some.injEq, Prod.mk.injEq] at eg
              obtain ⟨rfl, rfl, rfl⟩ := eg
              exact (k ι4 av4 H4 σ4 (p.unlock p14 bk p3) re4).back (D := { D with nx := _, ct := _, bk := _ }) (p.trans pcy).stp
      · rintro σc Hc ⟨ρc, ιc, avc, hc, pc, rec, eg⟩
        rw [List.drop_length] at eg
        simp only [forGo, Option.some.injEq, Prod.mk.injEq] at eg
        obtain ⟨rfl, rfl, rfl⟩ := eg
        exact k ιc avc Hc σc (p.unlock pc bk p3) rec
theorem s_whl {c : T} {body : Ss} {t : Expr} {b : List Stmt} {pos : Pos} (o : XOk G F n sc fnB X) (gc : PT X t (rdT X.K (evT F c))) (gb : PSs X b (rdS X.K (evSs F body))) :
    PS X (.While t b [] pos) (rdS X.K (evS F (.whl c body))) := by
  refine PSimp (ps_while (by rw [o.xe]; exact PassesOwn.never) gc gb) ?_
  rintro D σ H ⟨ρ, h, ι, av, oo, ρ1, h', sim, re, e, k⟩
  simp only [evS] at e
  refine ⟨fun m σc Hc => ∃ ρc ιc avc hc, Pst X.K ι av H h ιc avc Hc hc ∧ RepE X.K ρc ιc avc σc Hc ∧ whlGo (evT F c) (evSs F body) m ρc hc = some (oo, ρ1, h'), ⟨fuelW, ρ, ι, av, h, .refl sim, re, e⟩, ?_⟩
  rintro m σc Hc ⟨ρc, ιc, avc, hc, pc, rec, eg⟩
  cases m with
  | zero => simp [whlGo] at eg
  | succ m =>
    simp only [whlGo] at eg
    split at eg
    · cases eg
    · rename_i h1 e1
      simp only [Option.some.injEq, Prod.mk.injEq] at eg
      obtain ⟨rfl, rfl, rfl⟩ := eg
      exact ⟨ρc, hc, ιc, avc, false, h1, pc.sim, rec, e1, fun ι1 av1 H1 p1 => iteF (k ι1 av1 H1 σc (pc.trans p1) (p1.reE pc.sim.sub rec))⟩
    · rename_i h1 e1
      refine ⟨ρc, hc, ιc, avc, true, h1, pc.sim, rec, e1, fun ι1 av1 H1 p1 => iteT ?_⟩
      refine ⟨_, fun σ' H' w => ⟨m, Nat.lt_succ_self m, w⟩, ?_⟩
      cases eb : evSs F body ρc h1 with
      | none => rw [eb] at eg; cases eg
      | some r =>
        obtain ⟨o4, ρ4, h4⟩ := r
        rw [eb] at eg
        refine ⟨ρc, h1, ι1, av1, o4, ρ4, h4, p1.sim, p1.reE pc.sim.sub rec, eb, fun ι4 av4 H4 σ4 p4 re4 => ?_⟩
        have p14 := (pc.trans p1).trans p4
        cases o4 with
        | nx => exact ⟨ρ4, ι4, av4, h4, p14, re4, eg⟩
        | bk =>
          simp only [Option.some.injEq, Prod.mk.injEq] at eg
          obtain ⟨rfl, rfl, rfl⟩ := eg
          exact k ι4 av4 H4 σ4 p14 re4
        | rt v' =>
          simp only [Option.some.injEq, Prod.mk.injEq] at eg
          obtain ⟨rfl, rfl, rfl⟩ := eg
          exact (k ι4 av4 H4 σ4 p14 re4).back (D := { D with nx := _, ct := _, bk := _ }) (pc.trans p1).stp
/-! stored from the right -/
theorem nm_one {line : Nat} {x : Str} {p : Pos} : nmOf sc line (.Name x p) = if sc.names.lookup x == some .local && p.line == line then some x else none := rfl
theorem parB_names {es vs : List Expr} {ns : List Str} (h : parB sc es vs = some (some ns)) : (es.length = 2 ∨ es.length = 3) ∧ vs.length = es.length ∧ ∃ l, ns = es.filterMap (nmOf sc l) ∧ ns.length = es.length := by
  unfold parB at h
  generalize ((es.head?.map (·.pos.line)).getD 0) = l at h
  generalize en : es.filterMap (nmOf sc l) = names at h
  by_cases c1 : (!(es.length == 2 || es.length == 3) || vs.length != es.length) = true
  · rw [if_pos c1] at h; cases h
  · rw [if_neg c1] at h
    by_cases c2 : vs.any isStar = true
    · rw [if_pos c2] at h; cases h
    · rw [if_neg c2] at h
      by_cases c3 : (names.length != es.length || names.eraseDups.length != names.length) = true
      · rw [if_pos c3] at h; cases h
      · rw [if_neg c3] at h
        by_cases c4 : vs.all (foldedForSure 8) = true
        · rw [if_pos c4] at h; cases h
        · rw [if_neg c4] at h
          by_cases c5 : vs.all (constantsAlone 8) = true
          · rw [if_pos c5] at h; cases h
          · rw [if_neg c5] at h
            simp only [Option.some.injEq] at h
            subst h
            simp only [Bool.or_eq_true, Bool.not_eq_true', bne_iff_ne, ne_eq, not_or, Decidable.not_not, Bool.or_eq_false_iff] at c1 c3
            refine ⟨?_, c1.2, l, en.symm, c3.1⟩
            have := c1.1
            by_cases z : es.length = 2
            · exact .inl z
            · right
              by_cases z3 : es.length = 3
              · exact z3
              · exact absurd (show (es.length == 2) = false ∧ (es.length == 3) = false from ⟨by simpa using z, by simpa using z3⟩) this
theorem fm_all {f : Expr → Option Str} : ∀ {es : List Expr} {ns : List Str}, ns = es.filterMap f → ns.length = es.length → Paired (fun e n => f e = some n) es ns
  | [], ns, e, _ => by subst e; exact .nil
  | x :: es, ns, e, l => by
    have le : (es.filterMap f).length ≤ es.length := List.length_filterMap_le _ _
    rw [List.filterMap_cons] at e
    cases q : f x with
    | none =>
      rw [q] at e
      simp only at e
      subst e
      simp only [List.length_cons] at l
      omega
    | some n =>
      rw [q] at e
      simp only at e
      subst e
      exact .cons q (fm_all rfl (by simpa using l))
theorem nm_ok {line : Nat} {e : Expr} {n : Str} (h : nmOf sc line e = some n) : ∃ p, e = .Name n p ∧ sc.names.lookup n = some .local := by
  cases e <;> simp only [nmOf, reduceCtorEq] at h
  split at h
  · rename_i c
    simp only [Option.some.injEq] at h
    subst h
    rw [Bool.and_eq_true] at c
    exact ⟨_, rfl, eq_of_beq c.1⟩
  · cases h
theorem at_len : ∀ (is : List Nat), (namesAt G.N is).length = is.length
  | [] => rfl
  | i :: is => by simp [namesAt, at_len is]
theorem s_par {is : List Nat} {xs : Es} {es vs : List Expr} {k k2 : Nat} {p p2 pos : Pos} (o : XOk G F n sc fnB X) (hk : X.env.scope.kind = .function) (h1 : okTg.go G sc fnB is es = true) (h2 : okEs G sc fnB xs vs = true) (h3 : (vs.all fun e => !isStar e) = true)
    (h4 : vs.length ≤ 1000) (h5 : is.Nodup) {r : Option (List Str)} (h6 : parB sc es vs = some r) (h7 : ∀ ns, r = some ns → ns.map some = namesAt G.N is ∧ ns.length = is.length) (gs : PA X vs (rdA X.K (evEs F xs))) :
    PS X (.Assign [.Tuple es k p] (.Tuple vs k2 p2) pos) (rdS X.K (evS F (.par is xs))) := by
  have h6' := h6
  rw [← o.sc] at h6'
  have hw := fun k k2 p p2 => swap_par (k := k) (k2 := k2) (p := p) (p2 := p2) hk h6'
  cases r with
  | none => exact par_plain o h1 (hw _ _ _ _) h2 h3 h4 gs
  | some ns =>
    obtain ⟨l1, l2, l, en, l3⟩ := parB_names h6
    obtain ⟨q1, q2⟩ := h7 ns rfl
    have ps := fm_all en l3
    have sz : ∀ ρ h us h', evEs F xs ρ h = some (us, h') → us.length ≤ 1000 := fun ρ h us h' e => by rw [es_len h2 h3 _ _ _ _ e]; exact h4
    match es, vs, ns, is, l1, l2, l3, q2, ps, q1, h5, hw, gs with
    | [a, b], [c, d], [x, y], [i, j], _, _, _, _, ps, q1, h5, hw, gs =>
      cases ps with
      | cons p1 ps =>
        cases ps with
        | cons p2 ps =>
          obtain ⟨_, rfl, e1⟩ := nm_ok p1
          obtain ⟨_, rfl, e2⟩ := nm_ok p2
          simp only [namesAt, List.map_cons, List.map_nil, List.cons.injEq, and_true] at q1
          simp only [List.nodup_cons, List.mem_singleton, List.not_mem_nil, not_false_eq_true, List.nodup_nil, and_true] at h5
          refine PSimp (ps_par (i := i) (j := j) o.calm (by rw [o.nN]; exact o.nd) (by rw [o.nN]; exact q1.1.symm) (by rw [o.nN]; exact q1.2.symm) h5 (by rw [o.sc]; exact e1) (by rw [o.sc]; exact e2) gs (hw _ _ _ _) (sole_no rfl)) fun D σ H q => ?_
          obtain ⟨ρ, h, ι, av, ws, h', sim, re, e, kk⟩ := par_reads (T := fun _ _ => True) q sz
          refine ⟨ρ, h, ι, av, ws, h', sim, re, e, fun ι1 av1 H1 us p1 rr => ?_⟩
          obtain ⟨_, a2, a3, _⟩ := kk ι1 av1 H1 us p1 rr
          match us, a2, a3 with
          | [u, v], _, a3 => exact ⟨u, v, rfl, a3⟩
    | [a, b, c], [d, e, f], [x, y, z], [i, j, m], _, _, _, _, ps, q1, h5, hw, gs =>
      cases ps with
      | cons p1 ps =>
        cases ps with
        | cons p2 ps =>
          cases ps with
          | cons p3 ps =>
            obtain ⟨_, rfl, e1⟩ := nm_ok p1
            obtain ⟨_, rfl, e2⟩ := nm_ok p2
            obtain ⟨_, rfl, e3⟩ := nm_ok p3
            simp only [namesAt, List.map_cons, List.map_nil, List.cons.injEq, and_true] at q1
            simp only [List.nodup_cons, List.mem_cons, List.mem_singleton, List.not_mem_nil, not_false_eq_true, List.nodup_nil, and_true, not_or, or_false] at h5
            refine PSimp (ps_par3 (i := i) (j := j) (l := m) o.calm (by rw [o.nN]; exact o.nd) (by rw [o.nN]; exact q1.1.symm) (by rw [o.nN]; exact q1.2.1.symm) (by rw [o.nN]; exact q1.2.2.symm) h5.1.1 h5.1.2 h5.2 (by rw [o.sc]; exact e1) (by rw [o.sc]; exact e2) (by rw [o.sc]; exact e3) gs (hw _ _ _ _) (sole_no rfl)) fun D σ H q => ?_
            obtain ⟨ρ, h, ι, av, ws, h', sim, re, e, kk⟩ := par_reads (T := fun _ _ => True) q sz
            refine ⟨ρ, h, ι, av, ws, h', sim, re, e, fun ι1 av1 H1 us p1 rr => ?_⟩
            obtain ⟨_, a2, a3, _⟩ := kk ι1 av1 H1 us p1 rr
            match us, a2, a3 with
            | [u, v, w], _, a3 => exact ⟨u, v, w, rfl, a3⟩
    | [], _, _, _, l1, _, _, _, _, _, _, _, _ => simp at l1
    | [_], _, _, _, l1, _, _, _, _, _, _, _, _ => simp at l1
    | _ :: _ :: _ :: _ :: _, _, _, _, l1, _, _, _, _, _, _, _, _ => simp at l1
/-- x = [..] whose name is stored from within the inlined loop -/
theorem s_setLc {j : Nat} {x : Str} {py spos : Pos} {own : List Nat} {tg : Tg} {it : MP.It} {cd : To} {elt : E} {e t i : Expr} {ifs : List Expr} {scope : Scope} {pos : Pos} (o : XOk G F n sc fnB X) (hk : X.env.scope.kind = .function)
    (hx : G.N[j]? = some x) (hst : stB sc fnB x = true) (hsw : swB sc x py.line (.ListComp e [⟨t, i, ifs, 0⟩] scope pos) = true)
    (h1 : (own.all fun j => (G.N[j]?).isSome) = true) (h2 : blkC G.N sc scope (own.filterMap fun j => (G.N[j]?).map fun x => (x, j)) = true) (h3 : (tgSlots tg).all (fun j => own.contains j) = true) (h4 : isSet i = false)
    (gi : PI X t i (rdI X.K (evI F it))) (h5 : okTg G (relS scope sc) (blkFn scope) tg t = true)
    (gc : ∀ (Y : Cx), XOk G F n (relS scope sc) (blkFn scope) Y → PTs Y ifs (rdT Y.K (evC F cd))) (ge : ∀ (Y : Cx), XOk G F n (relS scope sc) (blkFn scope) Y → PE Y e (rdE Y.K (evE F elt))) :
    PS X (.Assign [.Name x py] (.ListComp e [⟨t, i, ifs, 0⟩] scope pos) spos) (rdS X.K (evS F (.asg j (.lc own tg it cd elt)))) := by
  have bk := blkOk_by h2
  have hl : X.env.scope.names.lookup x = some .local := by
    rw [o.sc]
    unfold swB at hsw
    simp only [Bool.and_eq_true] at hsw
    exact eq_of_beq hsw.1.1
  have sw := fun l => swap_eq (X := X) (t := x) (p := py) (l := l) (v := .ListComp e [⟨t, i, ifs, 0⟩] scope pos) hk (.inr ⟨_, _, _, _, rfl⟩)
  rw [o.sc, hsw] at sw
  have g := ps_setLc (X := X) (i := j) (elt := e) (pos := pos) o.calm (by rw [o.nN]; exact o.nd) (by rw [o.nN]; exact hx) hl (sw spos.line) gi (scope := scope) (by rw [o.nN, o.sc]; exact bk) (ifs := ifs) (g := gTgK X.K tg) (tt := rdT X.K (evC F cd)) (te := rdE X.K (evE F elt))
    (fun s H C cl fp => tg_ok (o.blk s H scope C cl fp) h5) (fun s H C cl fp => gc _ (o.blk s H scope C cl fp)) (fun s H C cl fp => ge _ (o.blk s H scope C cl fp)) (set_no h4 _)
  rw [own_map h1] at g
  refine s_asg o hx hst (PSimp g fun D σ H q => ?_)
  exact lc_reads (Q := fun x H1 => gName j x σ H1 D.nx) (fun j m => by simpa using List.all_eq_true.mp h3 j m) q
end
mutual
theorem sS {G : Chk} {F : CallF} {n : Nat} {sc : Scope} {fnB : Str → Bool} {X : Cx} (o : XOk G F n sc fnB X) (hk : X.env.scope.kind = .function) : ∀ (a : S) (x : Stmt), okS G sc fnB a x = true → PS X x (rdS X.K (evS F a))
  | .asg i e, x, h => by
    simp only [okS] at h
    split at h
    · rename_i x p v pos
      simp only [Bool.and_eq_true, decide_eq_true_eq] at h
      obtain ⟨h1, h2, ⟨_, h3⟩, h4⟩ := h
      obtain ⟨s1, s2⟩ := stB_ok o h2
      have plain : isComp v = false → PS X (.Assign [.Name x p] v pos) (rdS X.K (evS F (.asg i e))) := fun hv =>
        s_asg o h1 h2 (ps_set (by rw [o.nN]; exact o.nd) (by rw [o.nN]; exact h1) s1 (sE e sc fnB X o _ h3) (comp_no hv _ _ _) s2)
      cases v with
      | ListComp a b c d =>
        cases hs : swB sc x p.line (.ListComp a b c d) with
        | false =>
          have sw := fun l => swap_eq (X := X) (t := x) (p := p) (l := l) (v := .ListComp a b c d) hk (.inr ⟨_, _, _, _, rfl⟩)
          rw [o.sc, hs] at sw
          exact s_asg o h1 h2 (ps_set (by rw [o.nN]; exact o.nd) (by rw [o.nN]; exact h1) s1 (sE e sc fnB X o _ h3) (sw _) s2)
        | true =>
          cases e <;> simp only [okE, Bool.false_eq_true] at h3
          split at h3
          · rename_i z
            simp only [Expr.ListComp.injEq] at z
            obtain ⟨rfl, rfl, rfl, rfl⟩ := z
            simp only [Bool.and_eq_true, decide_eq_true_eq, Bool.not_eq_true'] at h3
            obtain ⟨rfl, g1, g2, g3, g4, g5, g6, g7, g8⟩ := h3
            exact s_setLc o hk h1 h2 hs g1 g2 g3 g4 (sI _ sc fnB X o _ _ g5.1 g5.2) g6 (fun Y oY => sC _ _ _ Y oY _ g7) (fun Y oY => sE _ _ _ Y oY _ g8)
          · cases h3
      | SetComp => cases h4
      | DictComp => cases h4
      | _ => exact plain rfl
    · cases h
  | .tup is e, x, h => by
    simp only [okS] at h
    split at h
    · simp only [Bool.and_eq_true, Bool.not_eq_true'] at h
      exact s_tup o h.1 h.2.1 h.2.2.1 (sE e sc fnB X o _ h.2.2.2)
    · cases h
  | .par is xs, x, h => by
    simp only [okS] at h
    split at h
    · simp only [Bool.and_eq_true, decide_eq_true_eq] at h
      obtain ⟨h1, h2, h3, h4, h5, h6⟩ := h
      have h4 := Nat.le_of_ble_eq_true h4
      split at h6
      · cases h6
      · rename_i q
        exact s_par o hk h1 h2 h3 h4 h5 q (fun ns z => nomatch z) (sEs xs sc fnB X o _ h2)
      · rename_i ns q
        rw [Bool.and_eq_true, decide_eq_true_eq, decide_eq_true_eq] at h6
        exact s_par o hk h1 h2 h3 h4 h5 q (fun ns z => by cases z; exact h6) (sEs xs sc fnB X o _ h2)
    · cases h
  | .set a i e, x, h => by
    simp only [okS] at h
    split at h
    · simp only [Bool.and_eq_true, Bool.not_eq_true'] at h
      exact s_set h.1 h.2.1 (sE e sc fnB X o _ h.2.2.1) (sE a sc fnB X o _ h.2.2.2.1) (sE i sc fnB X o _ h.2.2.2.2)
    · cases h
  | .app a e, x, h => by
    simp only [okS] at h
    split at h
    · simp only [Bool.and_eq_true, Bool.not_eq_true', decide_eq_true_eq] at h
      obtain ⟨rfl, h2, h3, h4, h5, h6⟩ := h
      exact s_app h3 h4 h2 (sE a sc fnB X o _ h5) (sE e sc fnB X o _ h6)
    · cases h
  | .apf a i, x, h => by
    simp only [okS] at h
    split at h
    · simp only [Bool.and_eq_true, Bool.not_eq_true', decide_eq_true_eq] at h
      obtain ⟨rfl, h2, h3, h4, h5, h6⟩ := h
      exact s_apf h3 h4 h2 (sE (.var a) sc fnB X o _ h5) (sE (.var i) sc fnB X o _ h6)
    · cases h
  | .ext a e, x, h => by
    simp only [okS] at h
    split at h
    · simp only [Bool.and_eq_true, Bool.not_eq_true', decide_eq_true_eq] at h
      obtain ⟨rfl, h2, h3, h4, h5, h6⟩ := h
      exact s_ext h3 h4 h2 (sE a sc fnB X o _ h5) (sE e sc fnB X o _ h6)
    · cases h
  | .tsn a i j e, x, h => by
    simp only [okS] at h
    split at h
    · simp only [Bool.and_eq_true, Bool.not_eq_true', decide_eq_true_eq] at h
      obtain ⟨h1, h2, h3, h4, h5, h6, h7, h8⟩ := h
      exact s_tsn o h1 h2 h3 h4 h5 (sE e sc fnB X o _ h6) (sE a sc fnB X o _ h7) (sE i sc fnB X o _ h8)
    · cases h
  | .ex e, x, h => by
    simp only [okS] at h
    split at h
    · simp only [Bool.and_eq_true, Bool.not_eq_true'] at h
      exact s_ex h.1 (sE e sc fnB X o _ h.2)
    · cases h
  | .ret e, x, h => by
    simp only [okS] at h
    split at h
    · exact s_ret (sE e sc fnB X o _ h)
    · cases h
  | .retN, x, h => by
    simp only [okS] at h
    split at h
    · exact s_retN
    · cases h
  | .ife c a b, x, h => by
    simp only [okS] at h
    split at h
    · simp only [Bool.and_eq_true] at h
      exact s_ife (sT c sc fnB X o _ h.1).1 (sSs o hk a _ h.2.1) (sSs o hk b _ h.2.2)
    · cases h
  | .for_ tg it body, x, h => by
    simp only [okS] at h
    split at h
    · simp only [Bool.and_eq_true, Bool.not_eq_true'] at h
      exact s_for o h.1 (sI it sc fnB X o _ _ h.2.1.1 h.2.1.2) h.2.2.1 (sSs o hk body _ h.2.2.2)
    · cases h
  | .whl c body, x, h => by
    simp only [okS] at h
    split at h
    · simp only [Bool.and_eq_true] at h
      exact s_whl o (sT c sc fnB X o _ h.1).1 (sSs o hk body _ h.2)
    · cases h
  | .brk, x, h => by
    simp only [okS] at h
    split at h
    · exact s_brk
    · cases h
  | .pss, x, h => by
    simp only [okS] at h
    split at h
    · exact s_pss
    · cases h
  | .nev, x, h => s_nev
theorem sSs {G : Chk} {F : CallF} {n : Nat} {sc : Scope} {fnB : Str → Bool} {X : Cx} (o : XOk G F n sc fnB X) (hk : X.env.scope.kind = .function) : ∀ (a : Ss) (x : List Stmt), okSs G sc fnB a x = true → PSs X x (rdS X.K (evSs F a))
  | .nil, x, h => by
    simp only [okSs] at h
    split at h
    · exact ss_nil
    · cases h
  | .cons s ss, x, h => by
    simp only [okSs] at h
    split at h
    · rw [Bool.and_eq_true] at h
      exact ss_cons (sS o hk s _ h.1) (sSs o hk ss _ h.2)
    · cases h
end
end MP

/-! ## EngX.lean -/
set_option Elab.async false
set_option linter.all false
set_option maxRecDepth 100000
namespace MP
open PySem PySem.Spec PyProof.Rows L2
/-! ### a law's defs -/
structure DefT where
  name : Str
  params : List Str
  kws : List (Nat × List Str × List Nat)
  N : List Str
  st : Stmt
  fn : Fn
def DefT.sig (d : DefT) : FnSig := ⟨d.name, d.params, d.kws⟩
def scB (N P : List Str) (sc : Scope) : Bool :=
  decide (sc.kind = .function) && (!sc.isCoroutine && (!sc.isGenerator && (decide N.Nodup && (decide (N.take P.length = P) && (P.all (fun x => decide (sc.names.lookup x = some .local) || decide (sc.names.lookup x = some .cell)) && sc.names.all (fun y => !decide (y.2 = .free)))))))
theorem scB_ok {N P : List Str} {sc : Scope} (h : scB N P sc = true) : FnScope N P sc := by
  unfold scB at h
  simp only [Bool.and_eq_true, Bool.not_eq_true', decide_eq_true_eq, List.all_eq_true, Bool.or_eq_true, decide_eq_false_iff_not] at h
  exact ⟨h.1, h.2.1, h.2.2.1, h.2.2.2.1, h.2.2.2.2.1, h.2.2.2.2.2.1, h.2.2.2.2.2.2⟩
abbrev allB : Str → Bool := fun _ => true
def defB (consts : List (Str × D)) (sigs : List FnSig) (d : DefT) : Bool :=
  scB d.N d.params (defScope d.st) && (Nat.beq d.fn.nn d.N.length && (Nat.beq d.fn.np d.params.length && okSs ⟨d.N, sigs, consts⟩ (defScope d.st) allB d.fn.body (defBody d.st)))
/-- what stands behind the top -/
structure DefOk (K : PySem.W.Frag) (mg : Str → Option Value) (d : DefT) : Prop where
  ex : ∃ f fd, mg d.name = some (.ref f) ∧ Fun K d.name d.name d.st f fd ∧ Binds K fd d.params [] ∧ ∀ k ∈ d.kws, KwB K fd d.params k.2 k.1
structure ConstOk (K : PySem.W.Frag) (mg : Str → Option Value) (c : Str × D) : Prop where
  ex : ∃ u v, mg c.1 = some u ∧ RelV v u ∧ ∀ H av, RepD K H av c.2 v
section
variable {K : PySem.W.Frag} {H H0 H1 H2 H' : Hp} {av av' av1 av2 avs : Av} {ι ι' ι0 ι1 ι2 ιs : List Addr} {h h' h1 h2 hs : Hs} {σ σ1 : L2.St} {ρ ρ1 : Env'} {X : Cx}
variable {P : Program} {w : World} {mg : Str → Option Value} {base : Heap}
theorem Stp.cut (s : Stp ι av H ι' av' H') : Stp ι av H ι av' H' := ⟨⟨[], by simp, by simp⟩, s.keep, s.alive, s.avs, s.avm⟩
theorem run_rets {as : List Arg} {vs : List V} {v : Val} {r : Ret} {u : V} (ra : RepArgs K H av as vs ι) (p : Pst K ι av H (heap' as) ι' av' H' h') (e : retD (heap' as).length h' v = some r) (rr : RepR K H ι' av' H' v u) : RepRet K H ι av' H' r u := by
  obtain ⟨κ, ek, fk⟩ := p.stp.ext
  have ln := heap_len ra
  cases v with
  | p d =>
    simp only [retD, Option.some.injEq] at e
    subst e
    exact rr
  | new xs =>
    simp only [retD, Option.some.injEq] at e
    subst e
    obtain ⟨a, ws, rfl, q1, q2, q3, q4, q5⟩ := rr
    exact ⟨a, ws, rfl, q1, q2, q3, fun m => q4 (by rw [ek]; exact List.mem_append_left _ m), q5⟩
  | loc n =>
    obtain ⟨a, q1, rfl⟩ := rr
    simp only [retD] at e
    split at e
    · rename_i hn
      simp only [Option.some.injEq] at e
      subst e
      have hn' : n < ι.length := by rw [ln]; exact Nat.le_of_ble_eq_true hn
      exact ⟨a, by rw [ek, List.getElem?_append_left hn'] at q1; exact q1, rfl⟩
    · rename_i hn
      split at e
      · rename_i b xs ex
        simp only [Option.some.injEq] at e
        subst e
        have hn' : ¬ n < ι.length := by rw [ln]; exact fun z => hn (Nat.ble_eq_true_of_le z)
        obtain ⟨a', ws, k1, k2, k3⟩ := p.sim.ob n _ ex nofun
        rw [q1] at k1; cases k1
        have mk : a ∈ κ := by
          rw [ek, List.getElem?_append_right (by omega)] at q1
          exact List.mem_of_getElem? q1
        refine ⟨a, ws, rfl, fk a mk, k2, p.sim.sub n a _ q1 ex nofun, fun m => ?_, k3⟩
        have nd := p.sim.nd
        rw [ek, List.nodup_append] at nd
        exact nd.2.2 a m a mk rfl
      · cases e
theorem outs_all {as : List Arg} {vs : List V} {xs : List (List D)} (ra : RepArgs K H av as vs ι) (p : Pst K ι av H (heap' as) ι' av' H' h') (e : outs' as h' = some xs) : Outs K av' H' ι xs := by
  obtain ⟨κ, ek, fk⟩ := p.stp.ext
  refine outs_ok (κ := κ) ra e fun n o eo g => ?_
  obtain ⟨a, ws, k1, k2, k3⟩ := p.sim.ob n o eo g
  refine ⟨a, ws, by rw [← ek]; exact k1, k2, ?_⟩
  cases o with
  | lst b ys => exact ⟨k3, p.sim.sub n a _ k1 eo g⟩
  | ref b ns => trivial
  | gone => trivial
/-- what a def of the table promises it keeps -/
theorem runFn_ok {F : CallF} {f : Fn} {N : List Str} {as : List Arg} {vs : List V} {r : Ret} {xs : List (List D)} {Q : VK} (hn : f.nn = N.length) (hp : f.np ≤ N.length) (e : runFn F f as = some (r, xs)) (sub : ∀ a ∈ ι, av a) (nd : ι.Nodup) (live : ∀ a, av a → H a ≠ none) (ra : RepArgs K H av as vs ι)
    (q : ∀ (av' : Av) (H' : Hp) (u : V), Stp ι av H ι av' H' → (∀ a, av' a → H' a ≠ none) → Outs K av' H' ι xs → RepRet K H ι av' H' r u → Q u H') : rdS K (evSs F f.body) ⟨fun _ H' => Q .non H', Q, fun _ _ => False, fun _ _ => False⟩ (L2.start N vs) H := by
  unfold runFn at e
  split at e
  · rename_i hl
    have hl := Nat.eq_of_beq_eq_true hl
    split at e
    · cases e
    · rename_i o ρ1 h1 e1
      split at e
      · rename_i r' xs' er eo
        simp only [Option.some.injEq, Prod.mk.injEq] at e
        obtain ⟨rfl, rfl⟩ := e
        rw [hn] at e1
        refine ⟨_, _, ι, av, o, ρ1, h1, sim_entry ra sub nd live, env_entry ra (by omega), e1, fun ι' av' H' σ1 p re => ?_⟩
        have fin := fun u z => q av' H' u p.stp.cut p.sim.live (outs_all ra p eo) z
        cases o with
        | nx =>
          simp only [Option.some.injEq] at er
          subst er
          exact fin .non rfl
        | bk => cases er
        | rt v => exact fun u rr => fin u (run_rets ra p er rr)
      · cases e
  · cases e
/-- all of the table -/
theorem tab_ok {ds : List DefT} {consts : List (Str × D)} (chk : ds.all (defB consts (ds.map DefT.sig)) = true) (hD : ∀ d ∈ ds, DefOk K mg d) (hC : ∀ c ∈ consts, ConstOk K mg c) (bl : ∀ b, mg (biName b) = none) (rg : mg "range" = none) (mo : ∀ x ∈ mOther, mg x = none) :
    ∀ (n i : Nat) (d : DefT), ds[i]? = some d → ∀ f fd, mg d.name = some (.ref f) → Fun K d.name d.name d.st f fd → FnG P w K mg base n f fd d.params (spD K (callD (ds.map (·.fn)) n) i d.params.length) := by
  have len : ∀ (F : CallF) (i np : Nat) vs H Q, spD K F i np vs H Q → vs.length = np := fun F i np vs H Q ⟨_, _, _, _, _, z, _⟩ => z
  intro n
  induction n with
  | zero =>
    intro i d ed f fd hm hf
    refine ⟨fun vs H Q h => len _ _ _ _ _ _ h, fun A fs s H args us vs Q _ _ _ _ _ hsp => ?_⟩
    obtain ⟨as, ι, av, r, xs, _, _, _, _, _, e, _⟩ := hsp
    cases e
  | succ n ih =>
    intro i d ed f fd hm hf
    have md : d ∈ ds := List.mem_of_getElem? ed
    have hb := List.all_eq_true.mp chk d md
    unfold defB at hb
    rw [Bool.and_eq_true, Bool.and_eq_true, Bool.and_eq_true] at hb
    obtain ⟨hb1, hb2, hb3, hb4⟩ := hb
    have S := scB_ok hb1
    have hpl : d.params.length ≤ d.N.length := by have := congrArg List.length S.pre; rw [List.length_take] at this; omega
    refine fnG_of hf S (fun vs H Q h => len _ _ _ _ _ _ h) fun cdv A fs s H vs Q room gd hsp => ?_
    obtain ⟨as, ι, av, r, xs, l1, sub, nd, live, ra, e, q⟩ := hsp
    have o : XOk ⟨d.N, ds.map DefT.sig, consts⟩ (callD (ds.map (·.fn)) n) n (defScope d.st) allB (cxOf CX0 P w K mg base d.N d.name (defScope d.st) f cdv A fs s H E0).nox := by
      refine ⟨rfl, S.nd, rfl, rfl, room, gd, rfl, fun _ _ => rfl, fun j g eg => ?_, fun x v m => ?_, bl, rg, mo⟩
      · rw [List.getElem?_map] at eg
        cases ej : ds[j]? with
        | none => rw [ej] at eg; cases eg
        | some d' =>
          rw [ej] at eg
          cases eg
          obtain ⟨f', fd', k1, k2, k3, k4⟩ := (hD d' (List.mem_of_getElem? ej)).ex
          exact ⟨f', fd', k1, k2.kp, k3, k4, ih j d' ej f' fd' k1 k2⟩
      · exact (hC _ m).ex
    refine ⟨_, sSs o S.kind d.fn.body _ hb4, ?_⟩
    have e2 : runFn (callD (ds.map (·.fn)) n) d.fn as = some (r, xs) := by
      have : callD (ds.map (·.fn)) (n + 1) i as = some (r, xs) := e
      simp only [callD, List.getElem?_map, ed, Option.map_some] at this
      exact this
    exact runFn_ok (Nat.eq_of_beq_eq_true hb2) (by rw [Nat.eq_of_beq_eq_true hb3]; exact hpl) e2 sub nd live ra q
end
end MP

/-! ## EngY.lean -/
set_option Elab.async false
set_option linter.all false
set_option maxRecDepth 100000
namespace MP
open PySem PySem.Spec PyProof.Rows L2
/-- the heap as the law sees it: the script (g: how it is tracked) and nothing else -/
structure Seen (K : PySem.W.Frag) (P : Program) (w : World) (H : Hp) (h : Heap) (a : Addr) (xs : List V) : Prop where
  script : SqL K H a xs
  alone : ∀ b, H b ≠ none → b = a ∧ (∃ o, H b = some (.frz o (.lst xs))) ∧ K.lookup a = none
  hok : HOk P w H h
abbrev LawEnd (s : Shared) (r : Result) (s' : Shared) : Prop := r = .ok (.ret (.bool true)) ∧ OldK s.heap s'.heap ∧ s'.os = s.os ∧ AllBare s'.gens
section
variable {P : Program} {w : World} {K : PySem.W.Frag} {mg mb : Str → Option Value} {n : Nat} {f a : Addr} {fd : FuncData} {x : Str} {sp : Spg} {s : Shared} {vs : List Value} {xs : List V} {H : Hp}
theorem Seen.open (e : Seen K P w H s.heap a xs) {b : Addr} {o : Obj} (g : s.heap.get? b = some o) (other : s.heap.get? a ≠ some o ∨ K.lookup a = some o) : H b = none := by
  cases q : H b with
  | none => rfl
  | some u =>
    obtain ⟨rfl, _, k⟩ := e.alone b (by rw [q]; exact fun z => nomatch z)
    rcases other with z | z
    · exact absurd g z
    · rw [k] at z; cases z
theorem law_from (e : Seen K P w H s.heap a xs) (inK : K.In s.heap) (nsM : s.heap.Ns mainGlobals mg) (nsB : s.heap.Ns builtinsNs mb) (boot : ∀ y : Str, y ≠ "__name__" → mb y = bootBuiltins y) (lim : s.heap.NoLimit) (gens : s.gens = #[])
    (oa : s.heap.get? a = some { cls := .type "list", data := .seq vs.toArray }) (room : Room n callerA) (bt : ∀ u : Value, BindsTo s fd ⟨[u], []⟩ [(x, u)])
    (F : ∀ base : Heap, FnG P w K mg base n f fd [x] sp) (goal : sp [.ref a] H fun v _ => v = .bl true) : codeAny (model P w) callerA (.call (.ref f) ⟨[.ref a], []⟩) (LawEnd s) s := by
  -- what is no list stands in the base
  have hid : ∀ {b : Addr} {o : Obj}, s.heap.get? b = some o → H b = none → (hidT s.heap H).get? b = some o := fun g z => hidT_get g z
  have dct : ∀ {b : Addr} {m : Str → Option Value}, s.heap.Ns b m → (hidT s.heap H).Ns b m := by
    rintro b m ⟨o, es, ep, g, d, r⟩
    refine ⟨o, es, ep, hid g (e.open g (.inl ?_)), d, r⟩
    rw [oa]
    intro z
    cases z
    cases d
  have kin : K.In (hidT s.heap H) := by
    intro b o l
    refine hid (inK b o l) ?_
    cases q : H b with
    | none => rfl
    | some u =>
      obtain ⟨rfl, _, z⟩ := e.alone b (by rw [q]; exact fun z => nomatch z)
      rw [z] at l; cases l
  obtain ⟨mc, c1, c2⟩ := lim
  have env : Env0 P w K mg (hidT s.heap H) callerA [] s H := by
    refine ⟨rfl, ⟨kin, dct nsM, ⟨mb, dct nsB, boot⟩, mc, dct c1, c2⟩, fun b o g => of_hidT g, Nat.le_of_eq (hidT_size _ _), trivial, ?_, e.hok, .of_eq gens⟩
    intro b m
    cases m
  refine codeAny_mono ((F _).run callerA [] s H ⟨[.ref a], []⟩ [.ref a] [.ref a] _ room rfl env (bt (.ref a)) (.cons rfl .nil) goal) ?_
  intro r s' q
  match r, q with
  | .ok (.ret u), q =>
    obtain ⟨v, H', q1, q2, un, q3, q4, q5⟩ := q
    cases (show v = V.bl true from q5)
    cases (show u = Value.bool true from q4)
    refine ⟨rfl, .of_keep ?_, q1, q2⟩
    intro b o g
    cases hb : H b with
    | none => exact un.keep b o g hb (fun m => nomatch m) fun m => nomatch m
    | some u =>
      obtain ⟨_, ⟨ob, z⟩, _⟩ := e.alone b (by rw [hb]; exact fun z => nomatch z)
      have k1 := (e.hok b _ z).1
      have k2 := (q3 b _ (un.frzs b ob _ z)).1
      rw [g] at k1
      cases k1
      exact k2
theorem seen_here (inK : K.In s.heap) {ns : List Int} (oa : s.heap.get? a = some { cls := .type "list", data := .seq vs.toArray }) (iv : IntsAre vs ns) (few : ns.length ≤ sizeLine) : ∃ H, Seen K P w H s.heap a (ns.map V.int) := by
  have rv := vals_ints iv
  cases hk : K.lookup a with
  | none =>
    refine ⟨fun b => if b = a then some (.frz { cls := .type "list", data := .seq vs.toArray } (.lst (ns.map V.int))) else none, ⟨.inl (.inr ⟨_, if_pos rfl⟩), fun b z => ?_, fun b u z => ?_⟩⟩
    all_goals by_cases hb : b = a
    · exact ⟨hb, ⟨_, if_pos hb⟩, hk⟩
    · exact absurd (if_neg hb) z
    · have t := (if_pos hb).symm.trans z
      cases t
      rw [hb]
      exact ⟨oa, by rw [List.length_map]; exact few, vs, _, rv, oa⟩
    · have t := (if_neg hb).symm.trans z
      cases t
  | some o =>
    have g := inK a o hk
    rw [oa] at g
    cases g
    refine ⟨fun _ => none, ⟨.inr ⟨_, vs.toArray, _, hk, rfl, rfl, rfl, ?_, by simpa using rv⟩, fun b z => absurd rfl z, fun b u z => nomatch z⟩⟩
    rw [List.size_toArray, iv.length]
    exact few
/-- the script handed to the table's def -/
theorem sp_law {F : CallF} {i : Nat} {ns : List Int} (q : SqL K H a (ns.map V.int)) (e : F i [.p (.scr ns)] = some (.p (.bl true), [])) : spD K F i 1 [.ref a] H fun v _ => v = .bl true := by
  refine ⟨[.p (.scr ns)], [], fun _ => False, _, _, rfl, by simp, by simp, fun b z => False.elim z, ?_, e, fun av' H' u _ _ _ r => r⟩
  refine ⟨.ref a, [], rfl, ⟨a, rfl, ?_⟩, rfl, rfl⟩
  rcases q with q | q
  · exact .inl ⟨q, id⟩
  · exact .inr q
end
/-- THE END of a law: the row's walk from the plain fact about the table -/
theorem law_walk {l : PySem.W.OpenLaw} {most n i : Nat} {q : Program} {loose : List Str} {XP : (Str → Option Value) → Heap → Prop} {YP : World → Heap → Prop} {dr : DefRec} {K : Params → PySem.W.Frag} {ds : List DefT} {consts : List (Str × D)} {d : DefT} {x : Str}
    (hm : l.most = some most) (few : most ≤ sizeLine) (dflt : dr.params.defaults = []) (room : Room n callerA) (hY : ∀ (w : World) (h : Heap), YP w h → (K w.params).In h)
    (chk : ds.all (defB consts (ds.map DefT.sig)) = true) (ed : ds[i]? = some d) (hn : d.name = dr.name) (hp : d.params = [x])
    (facts : ∀ (w : World) (mg : Str → Option Value) (h : Heap), (K w.params).In h → h.Ns mainGlobals mg → (∀ d ∈ ds, DefOk (K w.params) mg d) ∧ (∀ c ∈ consts, ConstOk (K w.params) mg c) ∧ (∀ b, mg (biName b) = none) ∧ mg "range" = none ∧ ∀ x ∈ mOther, mg x = none)
    (plain : ∀ ns : List Int, ns.length ≤ most → callD (ds.map (·.fn)) n i [.p (.scr ns)] = some (.p (.bl true), [])) :
    PySem.W.WalkO q loose XP YP l.row.toRowW dr [] (fun f vs => PySem.call f vs) := by
  refine Att.attach_call hm dflt ?_
  intro w s0 s mg mb f o pm cd doc a vs ns G Y ho hd hcd hmg hobj iv len gens
  have inK := hY w _ Y
  obtain ⟨hD, hC, bl, rg, mo⟩ := facts w mg _ inK G.T.g
  obtain ⟨f', fd, k1, k2, k3, k4⟩ := (hD d (List.mem_of_getElem? ed)).ex
  rw [hn, hmg] at k1
  cases k1
  have bt : ∀ u : Value, BindsTo s fd ⟨[u], []⟩ [(x, u)] := by
    intro u
    have := k3 s [u] inK (by rw [hp]; rfl)
    rw [hp] at this
    exact this
  obtain ⟨H, e⟩ := seen_here (P := l.prog) (w := w) inK hobj iv (Nat.le_trans len few)
  have T := fun base => tab_ok (P := l.prog) (w := w) (base := base) chk hD hC bl rg mo n i d ed f fd (by rw [hn]; exact hmg) k2
  rw [hp] at T
  refine law_from e inK G.T.g G.T.b G.T.builtins G.T.nolimit gens hobj room bt T (sp_law e.script (plain ns len))
end MP

/-! ## EngZ.lean -/
set_option Elab.async false
set_option linter.all false
set_option maxRecDepth 100000
namespace MP
open PySem PySem.Spec PyProof.Rows L2
/-! ### what the top has made, put together -/
theorem all_n {α : Type} {P : α → Prop} : ∀ x ∈ ([] : List α), P x := fun x m => nomatch m
theorem all_c {α : Type} {P : α → Prop} {x : α} {xs : List α} (h : P x) (t : ∀ y ∈ xs, P y) : ∀ y ∈ x :: xs, P y := fun y m => by
  rcases List.mem_cons.mp m with e | m
  · rw [e]; exact h
  · exact t y m
theorem def_ok {K : PySem.W.Frag} {h : Heap} {mg : Str → Option Value} {d : DefT} {f : Addr} {od an : Option Addr} {sl : Array (Option Value)} {oc kV dc pm cd ct : Value} (X : K.In h) (G : h.Ns mainGlobals mg)
    (a : PySem.W.nsIn K mainGlobals d.name = some (some (.ref f))) (l : K.lookup f = some ⟨oc, od, .func (PySem.W.fnOf d.name d.name (defArgs d.st) (defBody d.st) (defScope d.st) .none kV dc pm an cd ct), sl⟩) (c : PySem.W.codeIn K cd d.name = true) (k : PySem.W.keepIn K (.ref f) = true)
    (b : ∀ (kV doc pm : Value) (an : Option Addr) (cdv ct : Value) (us : List Value), us.length = d.params.length → bindArgs (PySem.W.fnOf d.name d.name (defArgs d.st) (defBody d.st) (defScope d.st) .none kV doc pm an cdv ct) ⟨us, []⟩ = pure (d.params.zip us))
    (kw : ∀ q ∈ d.kws, ∀ (kV doc pm : Value) (an : Option Addr) (cdv ct : Value) (us ws : List Value), us.length = q.1 → ws.length = q.2.1.length →
      bindArgs (PySem.W.fnOf d.name d.name (defArgs d.st) (defBody d.st) (defScope d.st) .none kV doc pm an cdv ct) ⟨us, q.2.1.zip ws⟩ = pure (d.params.zip (us ++ permL q.2.2 ws))) : DefOk K mg d := by
  have F := fun_mk (st := d.st) l c k
  exact ⟨f, _, PySem.W.mg_of X G a, F, F.binds b, fun q m s us ws _ h1 h2 => .of_eq (kw q m _ _ _ _ _ _ us ws h1 h2)⟩
theorem const_int {K : PySem.W.Frag} {h : Heap} {mg : Str → Option Value} {x : Str} {i : Int} {t : Nat} (X : K.In h) (G : h.Ns mainGlobals mg) (a : PySem.W.nsIn K mainGlobals x = some (some (.int i t))) : ConstOk K mg (x, .int i) :=
  ⟨.int i t, .int i, PySem.W.mg_of X G a, ⟨t, rfl⟩, fun _ _ => rfl⟩
end MP

/-! ## EngPl.lean -/
set_option Elab.async false
set_option linter.all false
set_option maxRecDepth 100000
namespace MP
open PySem PySem.Spec L2
/-! ### plain laws: the evaluator in proofs -/
theorem callD_at {T : Tab} {n i : Nat} {as : List MP.Arg} {f : Fn} (h : T[i]? = some f) : callD T (n + 1) i as = runFn (callD T n) f as := by
  simp only [callD, h]
theorem forGo_inv {f : Val → Env' → Hs → Option (Out × Env' × Hs)} (P : Env' → Hs → Prop) : ∀ (xs : List Val), (∀ x ∈ xs, ∀ ρ h, P ρ h → ∃ ρ' h', f x ρ h = some (.nx, ρ', h') ∧ P ρ' h') → ∀ ρ h, P ρ h → ∃ ρ' h', forGo f xs ρ h = some (.nx, ρ', h') ∧ P ρ' h'
  | [], _, ρ, h, p => ⟨ρ, h, rfl, p⟩
  | x :: xs, hs, ρ, h, p => by
    obtain ⟨ρ1, h1, e, p1⟩ := hs x List.mem_cons_self ρ h p
    obtain ⟨ρ2, h2, e2, p2⟩ := forGo_inv P xs (fun y m => hs y (List.mem_cons_of_mem _ m)) ρ1 h1 p1
    exact ⟨ρ2, h2, by simp only [forGo, e, e2], p2⟩
theorem lcGo_map {f : Val → Hs → Option (Option D × Hs)} {h : Hs} (g : Val → D) : ∀ (xs : List Val), (∀ x ∈ xs, f x h = some (some (g x), h)) → lcGo f xs h = some (xs.map g, h)
  | [], _ => rfl
  | x :: xs, hs => by
    have e := hs x List.mem_cons_self
    have e2 := lcGo_map g xs fun y m => hs y (List.mem_cons_of_mem _ m)
    simp only [lcGo, e, e2, List.map_cons]
theorem mulOk_l {i j : Int} (h1 : -1000000000000 ≤ i) (h2 : i ≤ 1000000000000) : mulOk i j = true := by
  unfold mulOk
  have : i.natAbs + 1 ≤ 18446744073709551616 := by omega
  rw [show Nat.blt i.natAbs 18446744073709551616 = true from Nat.ble_eq_true_of_le this]
  rfl
theorem mulOk_r {i j : Int} (h1 : -1000000000000 ≤ j) (h2 : j ≤ 1000000000000) : mulOk i j = true := by
  unfold mulOk
  have : j.natAbs + 1 ≤ 18446744073709551616 := by omega
  rw [show Nat.blt j.natAbs 18446744073709551616 = true from Nat.ble_eq_true_of_le this, Bool.true_or, Bool.or_true]
end MP

/-! ## EngVa.lean -/
set_option Elab.async false
set_option linter.all false
set_option maxRecDepth 100000
namespace MP
open PySem PySem.Spec PyProof.Rows L2
/-! ### the evaluator by slots: each list belongs to one name -/
mutual
inductive SV where
  | asg (i : Nat) (e : E) | tup (is : List Nat) (e : E) | par (is : List Nat) (es : Es)
  | set (o i e : E) | app (o e : E) | apf (o i : Nat) | ext (o e : E) | tsn (o i : E) (j : Nat) (e : E)
  | ex (e : E) | ret (e : E) | retN
  | ife (c : T) (a b : SsV) | for_ (tg : Tg) (it : It) (body : SsV) | whl (c : T) (body : SsV)
  | brk | pss | nev
inductive SsV where
  | nil | cons (s : SV) (ss : SsV) | kill (is : List Nat) (ss : SsV)
end
mutual
def erS : SV → S
  | .asg i e => .asg i e
  | .tup is e => .tup is e
  | .par is es => .par is es
  | .set o i e => .set o i e
  | .app o e => .app o e
  | .apf o i => .apf o i
  | .ext o e => .ext o e
  | .tsn o i j e => .tsn o i j e
  | .ex e => .ex e
  | .ret e => .ret e
  | .retN => .retN
  | .ife c a b => .ife c (erSs a) (erSs b)
  | .for_ t i b => .for_ t i (erSs b)
  | .whl c b => .whl c (erSs b)
  | .brk => .brk
  | .pss => .pss
  | .nev => .nev
def erSs : SsV → Ss
  | .nil => .nil
  | .cons s ss => .cons (erS s) (erSs ss)
  | .kill _ ss => erSs ss
end
inductive OutV where
  | nx (ρ : Env') (h : Hs) | bk (ρ : Env') (h : Hs) | rt (r : Ret) (xs : List (List D))
  deriving Inhabited
abbrev dead : O := .lst true []
/-- is the slot's list walked just now -/
def heldV (i : Nat) (ρ : Env') (h : Hs) : Bool := match ρ[i]? with
  | some (some (.loc _)) => match h[i]? with
    | some o => o.locked
    | none => true
  | some _ => false
  | none => true
def parV (P : List Bool) (i : Nat) : Bool := match P[i]? with
  | some b => b
  | none => false
def bindV (P : List Bool) (i : Nat) (v : Val) (ρ : Env') (h : Hs) : Option (Env' × Hs) := match parV P i || heldV i ρ h with
  | true => none
  | false => match v with
    | .p d => some (ρ.set i (some (.p d)), h.set i dead)
    | .new xs => some (ρ.set i (some (.loc i)), h.set i (.lst false xs))
    | .loc j => match Nat.beq i j || parV P j with
      | true => none
      | false => match h[j]? with
        | some (.lst false xs) => some ((ρ.set j none).set i (some (.loc i)), (h.set j dead).set i (.lst false xs))
        | _ => none
def killV (P : List Bool) : List Nat → Env' → Hs → Option (Env' × Hs)
  | [], ρ, h => some (ρ, h)
  | i :: is, ρ, h => match parV P i || heldV i ρ h with
    | true => none
    | false => killV P is (ρ.set i none) (h.set i dead)
def setAllV (P : List Bool) : List Nat → List D → Env' → Hs → Option (Env' × Hs)
  | [], [], ρ, h => some (ρ, h)
  | i :: is, d :: ds, ρ, h => (bindV P i (.p d) ρ h).bind fun q => setAllV P is ds q.1 q.2
  | _, _, _, _ => none
def setTgV (P : List Bool) (t : Tg) (v : Val) (ρ : Env') (h : Hs) : Option (Env' × Hs) := match v with
  | .p d => match t with
    | .nm i => bindV P i (.p d) ρ h
    | .tp is => match d with
      | .tup ds => setAllV P is ds ρ h
      | _ => none
  | _ => none
def bindAllV (P : List Bool) : List Nat → List Val → Env' → Hs → Option (Env' × Hs)
  | [], [], ρ, h => some (ρ, h)
  | i :: is, v :: vs, ρ, h => match v with
    | .loc _ => none
    | v => (bindV P i v ρ h).bind fun q => bindAllV P is vs q.1 q.2
  | _, _, _, _ => none
def rankV (P : List Bool) (i : Nat) : Nat := (P.take i).countP id
def outsV (h : Hs) : List Bool → Nat → Option (List (List D))
  | [], _ => some []
  | false :: P, i => outsV h P (i + 1)
  | true :: P, i => match h[i]? with
    | some (.lst _ xs) => (outsV h P (i + 1)).map (xs :: ·)
    | _ => none
def retDV (P : List Bool) (h : Hs) : Val → Option Ret
  | .p d => some (.p d)
  | .new xs => some (.new xs)
  | .loc i => match parV P i with
    | true => some (.arg (rankV P i))
    | false => match h[i]? with
      | some (.lst _ xs) => some (.new xs)
      | _ => none
def endV (P : List Bool) (v : Val) (h : Hs) : Option OutV := (retDV P h v).bind fun r => (outsV h P 0).map fun xs => .rt r xs
def unlockV (b : Option (Nat × O)) : OutV → OutV
  | .nx ρ h => .nx ρ (unlock b h)
  | .bk ρ h => .bk ρ (unlock b h)
  | .rt r xs => .rt r xs
def forFV (P : List Bool) (tg : Tg) (b : Env' → Hs → Option OutV) (x : Val) (ρ : Env') (h : Hs) : Option OutV := (setTgV P tg x ρ h).bind fun q => b q.1 q.2
def forGoV (f : Val → Env' → Hs → Option OutV) : List Val → Env' → Hs → Option OutV
  | [], ρ, h => some (.nx ρ h)
  | x :: xs, ρ, h => (f x ρ h).bind fun o => match o with
    | .nx ρ1 h1 => forGoV f xs ρ1 h1
    | .bk ρ1 h1 => some (.nx ρ1 h1)
    | .rt r ys => some (.rt r ys)
def whlGoV (c : Env' → Hs → Option (Bool × Hs)) (f : Env' → Hs → Option OutV) : Nat → Env' → Hs → Option OutV
  | 0, _, _ => none
  | n + 1, ρ, h => (c ρ h).bind fun q => match q.1 with
    | false => some (.nx ρ q.2)
    | true => (f ρ q.2).bind fun o => match o with
      | .nx ρ1 h1 => whlGoV c f n ρ1 h1
      | .bk ρ1 h1 => some (.nx ρ1 h1)
      | .rt r ys => some (.rt r ys)
mutual
def evSV (F : CallF) (P : List Bool) : SV → Env' → Hs → Option OutV
  | .asg i e, ρ, h => (evE F e ρ h).bind fun q => (bindV P i q.1 ρ q.2).map fun r => .nx r.1 r.2
  | .tup is e, ρ, h => (evE F e ρ h).bind fun q => match q.1 with
    | .p (.tup ds) => (setAllV P is ds ρ q.2).map fun r => .nx r.1 r.2
    | _ => none
  | .par is es, ρ, h => (evEs F es ρ h).bind fun q => (bindAllV P is q.1 ρ q.2).map fun r => .nx r.1 r.2
  | .set o i e, ρ, h => (evE F e ρ h).bind fun q => (frzD q.1).bind fun d => (evE F o ρ q.2).bind fun q2 => match q2.1 with
    | .loc n => (evE F i ρ q2.2).bind fun q3 => match q3.1 with
      | .p (.int k) => (setV q3.2 n k d).map fun h4 => .nx ρ h4
      | _ => none
    | _ => none
  | .app o e, ρ, h => (evE F o ρ h).bind fun q => match q.1 with
    | .loc n => (evE F e ρ q.2).bind fun q2 => (frzD q2.1).bind fun d => (appV q2.2 n (.p d)).map fun h3 => .nx ρ h3
    | _ => none
  | .apf o i, ρ, h => match ρ[o]? with
    | some (some (.loc n)) => match ρ[i]? with
      | some (some (.loc m)) => match Nat.beq n m || !Nat.beq m i with
        | true => none
        | false => match h[m]? with
          | some (.lst false xs) => (appV h n (.p (.lst xs))).bind fun h3 => (killV P [i] ρ h3).map fun r => .nx r.1 r.2
          | _ => none
      | _ => none
    | _ => none
  | .ext o e, ρ, h => (evE F o ρ h).bind fun q => match q.1 with
    | .loc n => (evE F e ρ q.2).bind fun q2 => (extV q2.2 n q2.1).map fun h3 => .nx ρ h3
    | _ => none
  | .tsn o i j e, ρ, h => (evE F e ρ h).bind fun q => match q.1 with
    | .p (.tup [d, d2]) => (evE F o ρ q.2).bind fun q2 => match q2.1 with
      | .loc n => (evE F i ρ q2.2).bind fun q3 => match q3.1 with
        | .p (.int k) => (setV q3.2 n k d).bind fun h4 => (bindV P j (.p d2) ρ h4).map fun r => .nx r.1 r.2
        | _ => none
      | _ => none
    | _ => none
  | .ex e, ρ, h => (evE F e ρ h).map fun q => .nx ρ q.2
  | .ret e, ρ, h => (evE F e ρ h).bind fun q => endV P q.1 q.2
  | .retN, ρ, h => endV P (.p .non) h
  | .ife c a b, ρ, h => (evT F c ρ h).bind fun q => match q.1 with
    | true => evSsV F P a ρ q.2
    | false => evSsV F P b ρ q.2
  | .for_ tg it body, ρ, h => (evI F it ρ h).bind fun q => (forGoV (forFV P tg (evSsV F P body)) q.1.items ρ q.2).map (unlockV q.1.back)
  | .whl c body, ρ, h => whlGoV (evT F c) (evSsV F P body) fuelW ρ h
  | .brk, ρ, h => some (.bk ρ h)
  | .pss, ρ, h => some (.nx ρ h)
  | .nev, _, _ => none
def evSsV (F : CallF) (P : List Bool) : SsV → Env' → Hs → Option OutV
  | .nil, ρ, h => some (.nx ρ h)
  | .cons s ss, ρ, h => (evSV F P s ρ h).bind fun o => match o with
    | .nx ρ1 h1 => evSsV F P ss ρ1 h1
    | .bk ρ1 h1 => some (.bk ρ1 h1)
    | .rt r xs => some (.rt r xs)
  | .kill is ss, ρ, h => (killV P is ρ h).bind fun q => evSsV F P ss q.1 q.2
end
structure FnV where
  np : Nat
  nn : Nat
  body : SsV
def FnV.fn (f : FnV) : Fn := ⟨f.np, f.nn, erSs f.body⟩
abbrev TabV := List FnV
def envV : List Arg → Nat → Env'
  | [], _ => []
  | .p d :: as, i => some (.p d) :: envV as (i + 1)
  | .lst _ :: as, i => some (.loc i) :: envV as (i + 1)
def heapV : List Arg → Hs
  | [] => []
  | .p _ :: as => dead :: heapV as
  | .lst xs :: as => .lst false xs :: heapV as
def isLstA : Arg → Bool
  | .lst _ => true
  | .p _ => false
def parsV (as : List Arg) : List Bool := as.map isLstA
def stV (nn : Nat) (as : List Arg) : Env' := envV as 0 ++ List.replicate (nn - as.length) none
def hpV (nn : Nat) (as : List Arg) : Hs := heapV as ++ List.replicate (nn - as.length) dead
def finV (P : List Bool) : OutV → Option (Ret × List (List D))
  | .rt r xs => some (r, xs)
  | .nx _ h => (outsV h P 0).map fun xs => (.p .non, xs)
  | .bk _ _ => none
def runV (F : CallF) (f : FnV) (as : List Arg) : Option (Ret × List (List D)) :=
  if Nat.beq as.length f.np && Nat.ble f.np f.nn then (evSsV F (parsV as) f.body (stV f.nn as) (hpV f.nn as)).bind (finV (parsV as)) else none
def callV' (T : TabV) : Nat → CallF
  | 0 => fun _ _ => none
  | n + 1 => fun i as => match T[i]? with
    | some f => runV (callV' T n) f as
    | none => none
end MP

/-! ## EngVb.lean -/
set_option Elab.async false
set_option linter.all false
set_option maxRecDepth 100000
namespace MP
open PySem PySem.Spec PyProof.Rows L2
/-! ### the evaluator by slots is carried by the one over the heap: expressions -/
abbrev Pi := Nat → Option Nat
def vR (π : Pi) : Val → Val → Prop
  | .p d, v => v = .p d
  | .new xs, v => v = .new xs
  | .loc i, v => ∃ n, π i = some n ∧ v = .loc n
def vRs (π : Pi) : List Val → List Val → Prop
  | [], vs => vs = []
  | v :: vs, ws => ∃ w r, ws = w :: r ∧ vR π v w ∧ vRs π vs r
def HpR (π : Pi) (h h' : Hs) : Prop := ∀ i n, π i = some n → ∃ k xs, h[i]? = some (.lst k xs) ∧ h'[n]? = some (.lst k xs)
def EnR (π : Pi) (ρ ρ' : Env') : Prop := ∀ (i : Nat) (v : Val), ρ[i]? = some (some v) → ∃ v', ρ'[i]? = some (some v') ∧ vR π v v'
def Inj (π : Pi) : Prop := ∀ i j n, π i = some n → π j = some n → i = j
structure St2 (π : Pi) (h g h1 g1 : Hs) : Prop where
  hp : HpR π h1 g1
  kl : ∀ (i : Nat) (o : O), h[i]? = some o → o.locked = true → h1[i]? = some o
  l1 : h1.length = h.length
  l2 : g1.length = g.length
def Ref (F F' : CallF) : Prop := ∀ f as r, F f as = some r → F' f as = some r
section
variable {π : Pi} {h g h1 g1 h2 g2 : Hs} {ρ ρ' : Env'} {F F' : CallF}
theorem St2.refl (hp : HpR π h g) : St2 π h g h g := ⟨hp, fun _ _ e _ => e, rfl, rfl⟩
theorem St2.trans (a : St2 π h g h1 g1) (b : St2 π h1 g1 h2 g2) : St2 π h g h2 g2 := ⟨b.hp, fun i o e l => b.kl i o (a.kl i o e l) l, b.l1.trans a.l1, b.l2.trans a.l2⟩
theorem seqD_r {v v' : Val} (hp : HpR π h g) (r : vR π v v') : seqD g v' = seqD h v := by
  cases v with
  | p d => cases r; cases d <;> rfl
  | new xs => cases r; rfl
  | loc i =>
    obtain ⟨n, e, rfl⟩ := r
    obtain ⟨k, xs, e1, e2⟩ := hp i n e
    simp only [seqD, e1, e2]
theorem datD_r {v v' : Val} (hp : HpR π h g) (r : vR π v v') : datD g v' = datD h v := by
  cases v with
  | p d => cases r; rfl
  | new xs => cases r; rfl
  | loc i =>
    obtain ⟨n, e, rfl⟩ := r
    obtain ⟨k, xs, e1, e2⟩ := hp i n e
    simp only [datD, e1, e2]
theorem lenV_r {v v' : Val} (hp : HpR π h g) (r : vR π v v') : lenV v' g = lenV v h := by
  cases v with
  | p d => cases r; cases d <;> rfl
  | new xs => cases r; rfl
  | loc i =>
    obtain ⟨n, e, rfl⟩ := r
    obtain ⟨k, xs, e1, e2⟩ := hp i n e
    simp only [lenV, e1, e2]
theorem tyV_r {v v' : Val} (hp : HpR π h g) (r : vR π v v') : tyV g v' = tyV h v := by
  cases v with
  | p d => cases r; cases d <;> rfl
  | new xs => cases r; rfl
  | loc i =>
    obtain ⟨n, e, rfl⟩ := r
    obtain ⟨k, xs, e1, e2⟩ := hp i n e
    simp only [tyV, e1, e2]
theorem truV_r {v v' : Val} (hp : HpR π h g) (r : vR π v v') : truV g v' = truV h v := by
  have q := seqD_r hp r
  cases v with
  | p d => cases r; cases d <;> first | rfl | simp only [truV, q]
  | new xs => cases r; rfl
  | loc i =>
    obtain ⟨n, e, rfl⟩ := r
    simp only [truV, q]
theorem intV_r {v v' : Val} (r : vR π v v') : intV v' = intV v := by
  cases v with
  | p d => cases r; rfl
  | new xs => cases r; rfl
  | loc i => obtain ⟨n, e, rfl⟩ := r; rfl
theorem strV_r {v v' : Val} (r : vR π v v') : strV v' = strV v := by
  cases v with
  | p d => cases r; rfl
  | new xs => cases r; rfl
  | loc i => obtain ⟨n, e, rfl⟩ := r; rfl
theorem frzD_r {v v' : Val} (r : vR π v v') : frzD v' = frzD v := by
  cases v with
  | p d => cases r; rfl
  | new xs => cases r; rfl
  | loc i => obtain ⟨n, e, rfl⟩ := r; rfl
theorem tupI_r {v v' : Val} (r : vR π v v') : tupI v' = tupI v := by
  cases v with
  | p d => cases r; rfl
  | new xs => cases r; rfl
  | loc i => obtain ⟨n, e, rfl⟩ := r; rfl
theorem isN_r {v v' : Val} (r : vR π v v') : isN v' = isN v := by
  cases v with
  | p d => cases r; rfl
  | new xs => cases r; rfl
  | loc i => obtain ⟨n, e, rfl⟩ := r; rfl
theorem scrV_r {v v' : Val} (r : vR π v v') : scrV v' = scrV v := by
  cases v with
  | p d => cases r; rfl
  | new xs => cases r; rfl
  | loc i => obtain ⟨n, e, rfl⟩ := r; rfl
theorem valP {v v' : Val} {d : D} (r : vR π v v') (e : v = .p d) : v' = .p d := by subst e; exact r
theorem binV_r {o : Operator} {x y x' y' : Val} (hp : HpR π h g) (a : vR π x x') (b : vR π y y') : binV o x' y' g = binV o x y h := by
  have q1 := seqD_r hp a; have q2 := seqD_r hp b
  unfold binV catV timesV
  simp only [intV_r a, intV_r b, strV_r a, strV_r b, q1, q2]
theorem eqV_r {x y x' y' : Val} (hp : HpR π h g) (a : vR π x x') (b : vR π y y') : eqV x' y' g = eqV x y h := by
  unfold eqV; simp only [datD_r hp a, datD_r hp b]
theorem inV_r {x y x' y' : Val} (hp : HpR π h g) (a : vR π x x') (b : vR π y y') : inV' x' y' g = inV' x y h := by
  unfold inV'; simp only [datD_r hp a, seqD_r hp b]
theorem cmpV_r {o : CmpOp} {x y x' y' : Val} (hp : HpR π h g) (a : vR π x x') (b : vR π y y') : cmpV o x' y' g = cmpV o x y h := by
  cases o <;> simp only [cmpV, eqV_r hp a b, inV_r hp a b, ltV, cmpI, intV_r a, intV_r b, tupI_r a, tupI_r b, isN_r a, isN_r b]
theorem cmpW_r {o : CmpOp} {x y x' y' : Val} (hp : HpR π h g) (a : vR π x x') (b : vR π y y') : cmpW o x' y' g = cmpW o x y h := by
  unfold cmpW; simp only [cmpV_r hp a b]
theorem subV_r {x y x' y' : Val} (hp : HpR π h g) (a : vR π x x') (b : vR π y y') : subV x' y' g = subV x y h := by
  unfold subV
  rw [intV_r b]
  split
  · rfl
  · cases x with
    | p d => cases a; cases d <;> rfl
    | new xs => cases a; rfl
    | loc i =>
      obtain ⟨n, e, rfl⟩ := a
      obtain ⟨k, xs, e1, e2⟩ := hp i n e
      simp only [e1, e2]
theorem slV_r {x x' : Val} {lo hi : Option Int} (hp : HpR π h g) (a : vR π x x') : slV x' lo hi g = slV x lo hi h := by
  have q := seqD_r hp a
  cases x with
  | p d => cases a; cases d <;> first | rfl | simp only [slV, q]
  | new xs => cases a; rfl
  | loc i => obtain ⟨n, e, rfl⟩ := a; simp only [slV, q]
theorem revV_r {x x' : Val} (hp : HpR π h g) (a : vR π x x') : revV x' g = revV x h := by unfold revV; rw [seqD_r hp a]
theorem intsV_r {x x' : Val} (hp : HpR π h g) (a : vR π x x') : intsV x' g = intsV x h := by unfold intsV; rw [seqD_r hp a]
theorem intsC_r {x x' : Val} (hp : HpR π h g) (a : vR π x x') : intsC x' g = intsC x h := by unfold intsC; rw [seqD_r hp a]
theorem blsV_r {x x' : Val} (hp : HpR π h g) (a : vR π x x') : blsV x' g = blsV x h := by unfold blsV; rw [seqD_r hp a]
theorem pairsV_r {x x' : Val} (hp : HpR π h g) (a : vR π x x') : pairsV x' g = pairsV x h := by unfold pairsV; rw [seqD_r hp a]
theorem bi1_r {b : Bi} {x x' : Val} (hp : HpR π h g) (a : vR π x x') : bi1 b x' g = bi1 b x h := by
  cases b <;> simp only [bi1, lenV_r hp a, scrV_r a, intsV_r hp a, blsV_r hp a, intV_r a, seqD_r hp a, datD_r hp a, tupI_r a]
  cases x with
  | p d => cases a; rfl
  | new xs => cases a; rfl
  | loc i => obtain ⟨n, e, rfl⟩ := a; rfl
theorem bi2_r {b : Bi} {x y x' y' : Val} (a : vR π x x') (c : vR π y y') : bi2 b x' y' = bi2 b x y := by
  unfold bi2; simp only [intV_r a, intV_r c]
theorem biV_r {b : Bi} : ∀ {vs vs' : List Val}, HpR π h g → vRs π vs vs' → biV b vs' g = biV b vs h
  | [], _, hp, r => by cases r; rfl
  | [x], _, hp, r => by
    obtain ⟨x', _, rfl, a, rfl⟩ := r
    exact bi1_r hp a
  | [x, y], _, hp, r => by
    obtain ⟨x', _, rfl, a, y', _, rfl, c, rfl⟩ := r
    exact bi2_r a c
  | x :: y :: z :: vs, _, hp, r => by
    obtain ⟨x', _, rfl, a, y', _, rfl, c, z', _, rfl, d, r⟩ := r
    rfl
/-! what these give is never a name's list -/
def nloc : Val → Bool
  | .loc _ => false
  | _ => true
theorem vR_self {v : Val} (e : nloc v = true) : vR π v v := by cases v <;> first | rfl | cases e
theorem binV_n {o : Operator} {x y v : Val} (e : binV o x y h = some v) : nloc v = true := by
  unfold binV catV timesV at e
  (repeat' split at e) <;> first | (simp only [Option.some.injEq] at e; subst e; rfl) | cases e
theorem cmpW_n {o : CmpOp} {x y v : Val} (e : cmpW o x y h = some v) : nloc v = true := by unfold cmpW at e; (repeat' split at e) <;> first | (simp only [Option.some.injEq] at e; subst e; rfl) | cases e
theorem subV_n {x y v : Val} (hp : ∀ i, x = .loc i → ∃ k xs, h[i]? = some (.lst k xs)) (e : subV x y h = some v) : nloc v = true := by
  unfold subV at e
  split at e
  · cases e
  · cases x with
    | loc i =>
      obtain ⟨k, xs, q⟩ := hp i rfl
      simp only [q] at e
      (repeat' split at e) <;> first | (simp only [Option.some.injEq] at e; subst e; rfl) | cases e
    | p d =>
      cases d with
      | scr ns => simp only at e; (repeat' split at e) <;> first | (simp only [Option.some.injEq] at e; subst e; rfl) | cases e
      | tup ns => simp only at e; (repeat' split at e) <;> first | (simp only [Option.some.injEq] at e; subst e; rfl) | cases e
      | lst ns => simp only at e; (repeat' split at e) <;> first | (simp only [Option.some.injEq] at e; subst e; rfl) | cases e
      | str ns => simp only at e; (repeat' split at e) <;> first | (simp only [Option.some.injEq] at e; subst e; rfl) | cases e
      | _ => simp at e
    | new xs => simp only at e; (repeat' split at e) <;> first | (simp only [Option.some.injEq] at e; subst e; rfl) | cases e
theorem slV_n {x v : Val} {lo hi : Option Int} (e : slV x lo hi h = some v) : nloc v = true := by unfold slV at e; (repeat' split at e) <;> first | (simp only [Option.some.injEq] at e; subst e; rfl) | cases e
theorem revV_n {x v : Val} (e : revV x h = some v) : nloc v = true := by unfold revV at e; (repeat' split at e) <;> first | (simp only [Option.some.injEq] at e; subst e; rfl) | cases e
theorem bi1_n {b : Bi} {x v : Val} (e : bi1 b x h = some v) : nloc v = true := by cases b <;> (simp only [bi1] at e; (repeat' split at e) <;> first | (simp only [Option.some.injEq] at e; subst e; rfl) | cases e)
theorem bi2_n {b : Bi} {x y v : Val} (e : bi2 b x y = some v) : nloc v = true := by unfold bi2 at e; (repeat' split at e) <;> first | (simp only [Option.some.injEq] at e; subst e; rfl) | cases e
theorem biV_n {b : Bi} {vs : List Val} {v : Val} (e : biV b vs h = some v) : nloc v = true := by
  unfold biV at e
  split at e
  · exact bi1_n e
  · exact bi2_n e
  · cases e
theorem lst_of {x x' : Val} (hp : HpR π h g) (a : vR π x x') : ∀ i, x = .loc i → ∃ k xs, h[i]? = some (.lst k xs) := by
  rintro i rfl
  obtain ⟨n, e, rfl⟩ := a
  obtain ⟨k, xs, e1, _⟩ := hp i n e
  exact ⟨k, xs, e1⟩
/-! setting a list -/
theorem HpR.set (hp : HpR π h g) (inj : Inj π) {i n : Nat} (e : π i = some n) (k : Bool) (xs : List D) : HpR π (h.set i (.lst k xs)) (g.set n (.lst k xs)) := by
  intro j m q
  by_cases hj : j = i
  · subst hj
    rw [e] at q; cases q
    obtain ⟨k', ys, e1, e2⟩ := hp j n e
    obtain ⟨l1, _⟩ := List.getElem?_eq_some_iff.mp e1
    obtain ⟨l2, _⟩ := List.getElem?_eq_some_iff.mp e2
    exact ⟨k, xs, by rw [List.getElem?_set_self l1], by rw [List.getElem?_set_self l2]⟩
  · obtain ⟨k', ys, e1, e2⟩ := hp j m q
    have hm : m ≠ n := fun z => hj (inj j i n (z ▸ q) e)
    exact ⟨k', ys, by rw [List.getElem?_set_ne (Ne.symm hj)]; exact e1, by rw [List.getElem?_set_ne (Ne.symm hm)]; exact e2⟩
theorem EnR.wipe (r : EnR π ρ ρ') (len : ρ'.length = ρ.length) : ∀ own, EnR π (wipeE ρ own) (wipeE ρ' own) ∧ (wipeE ρ' own).length = (wipeE ρ own).length
  | [] => ⟨r, len⟩
  | j :: own => by
    obtain ⟨ih, il⟩ := EnR.wipe r len own
    refine ⟨fun i v e => ?_, by simp only [wipeE, List.length_set, il]⟩
    simp only [wipeE] at e ⊢
    by_cases hj : j = i
    · subst hj
      rw [List.getElem?_set] at e
      split at e
      · split at e <;> simp at e
      · exact absurd rfl (by assumption)
    · rw [List.getElem?_set_ne hj] at e ⊢
      exact ih i v e
theorem EnR.setP (r : EnR π ρ ρ') (len : ρ'.length = ρ.length) (j : Nat) (d : D) : EnR π (ρ.set j (some (.p d))) (ρ'.set j (some (.p d))) := by
  intro i v e
  by_cases hj : j = i
  · subst hj
    rw [List.getElem?_set] at e ⊢
    rw [if_pos rfl] at e ⊢
    rw [len]
    split at e
    · rename_i hl
      rw [if_pos hl]
      simp only [Option.some.injEq] at e
      subst e
      exact ⟨_, rfl, rfl⟩
    · cases e
  · rw [List.getElem?_set_ne hj] at e ⊢
    exact r i v e
theorem EnR.setAll : ∀ {is : List Nat} {ds : List D} {ρ ρ' ρ1 : Env'}, EnR π ρ ρ' → ρ'.length = ρ.length → setAll is ds ρ = some ρ1 → ∃ ρ1', setAll is ds ρ' = some ρ1' ∧ EnR π ρ1 ρ1' ∧ ρ1'.length = ρ1.length
  | [], [], ρ, ρ', ρ1, r, l, e => by
    simp only [MP.setAll, Option.some.injEq] at e; subst e
    exact ⟨ρ', rfl, r, l⟩
  | i :: is, d :: ds, ρ, ρ', ρ1, r, l, e => by
    simp only [MP.setAll] at e ⊢
    exact EnR.setAll (r.setP l i d) (by simp [l]) e
  | [], _ :: _, _, _, _, _, _, e => by cases e
  | _ :: _, [], _, _, _, _, _, e => by cases e
theorem setTg_r {t : Tg} {d : D} {ρ1 : Env'} (r : EnR π ρ ρ') (l : ρ'.length = ρ.length) (e : setTg t (.p d) ρ = some ρ1) : ∃ ρ1', setTg t (.p d) ρ' = some ρ1' ∧ EnR π ρ1 ρ1' ∧ ρ1'.length = ρ1.length := by
  cases t with
  | nm i =>
    simp only [setTg, Option.some.injEq] at e
    subst e
    exact ⟨_, rfl, r.setP l i d, by simp [l]⟩
  | tp is =>
    simp only [setTg] at e
    split at e
    · rename_i ds q
      cases q
      obtain ⟨ρ1', a, b, c⟩ := EnR.setAll r l e
      exact ⟨ρ1', a, b, c⟩
    · cases e
/-- a comprehension's turns -/
def isP : Val → Bool
  | .p _ => true
  | _ => false
theorem lcGo_r {f f' : Val → Hs → Option (Option D × Hs)} (hf : ∀ x h g, isP x = true → HpR π h g → ∀ d h1, f x h = some (d, h1) → ∃ g1, f' x g = some (d, g1) ∧ St2 π h g h1 g1) :
    ∀ (xs : List Val) (h g : Hs), (∀ x ∈ xs, isP x = true) → HpR π h g → ∀ ds h1, lcGo f xs h = some (ds, h1) → ∃ g1, lcGo f' xs g = some (ds, g1) ∧ St2 π h g h1 g1
  | [], h, g, _, hp, ds, h1, e => by
    simp only [lcGo, Option.some.injEq, Prod.mk.injEq] at e
    obtain ⟨rfl, rfl⟩ := e
    exact ⟨g, rfl, .refl hp⟩
  | x :: xs, h, g, m, hp, ds, h1, e => by
    simp only [lcGo] at e
    split at e
    · cases e
    · rename_i d h2 e1
      split at e
      · cases e
      · rename_i ds2 h3 e2
        simp only [Option.some.injEq, Prod.mk.injEq] at e
        obtain ⟨rfl, rfl⟩ := e
        obtain ⟨g2, q1, s1⟩ := hf x h g (m x List.mem_cons_self) hp d h2 e1
        obtain ⟨g3, q2, s2⟩ := lcGo_r hf xs h2 g2 (fun y n => m y (List.mem_cons_of_mem _ n)) s1.hp ds2 h3 e2
        exact ⟨g3, by simp only [lcGo, q1, q2], s1.trans s2⟩
/-! calls -/
def aR (π : Pi) : Arg × Option Nat → Arg × Option Nat → Prop
  | (a, none), b => b = (a, none)
  | (a, some i), b => ∃ n, π i = some n ∧ b = (a, some n)
def aRs (π : Pi) : List (Arg × Option Nat) → List (Arg × Option Nat) → Prop
  | [], bs => bs = []
  | a :: as, bs => ∃ b r, bs = b :: r ∧ aR π a b ∧ aRs π as r
theorem argOf_r {v v' : Val} {a : Arg × Option Nat} (hp : HpR π h g) (r : vR π v v') (e : argOf h v = some a) : ∃ b, argOf g v' = some b ∧ aR π a b := by
  cases v with
  | p d =>
    cases r
    simp only [argOf, Option.some.injEq] at e
    subst e
    exact ⟨_, rfl, rfl⟩
  | new xs =>
    cases r
    simp only [argOf, Option.some.injEq] at e
    subst e
    exact ⟨_, rfl, rfl⟩
  | loc i =>
    obtain ⟨n, q, rfl⟩ := r
    obtain ⟨k, xs, e1, e2⟩ := hp i n q
    cases k with
    | true => simp only [argOf, e1] at e; cases e
    | false =>
      simp only [argOf, e1, Option.some.injEq] at e
      subst e
      exact ⟨(.lst xs, some n), by simp only [argOf, e2], n, q, rfl⟩
theorem argsOf_r (hp : HpR π h g) : ∀ {vs vs' : List Val} {as : List (Arg × Option Nat)}, vRs π vs vs' → argsOf h vs = some as → ∃ bs, argsOf g vs' = some bs ∧ aRs π as bs
  | [], _, as, r, e => by
    cases r
    simp only [argsOf, Option.some.injEq] at e
    subst e
    exact ⟨[], rfl, rfl⟩
  | v :: vs, _, as, r, e => by
    obtain ⟨w, r', rfl, r1, r2⟩ := r
    simp only [argsOf] at e
    split at e
    · cases e
    · rename_i a e1
      split at e
      · cases e
      · rename_i as2 e2
        simp only [Option.some.injEq] at e
        subst e
        obtain ⟨b, q1, q2⟩ := argOf_r hp r1 e1
        obtain ⟨bs, q3, q4⟩ := argsOf_r hp r2 e2
        exact ⟨b :: bs, by simp only [argsOf, q1, q3], b, bs, rfl, q2, q4⟩
theorem aRs_fst : ∀ {as bs : List (Arg × Option Nat)}, aRs π as bs → bs.map (·.1) = as.map (·.1)
  | [], _, r => by cases r; rfl
  | (a, none) :: as, _, r => by
    obtain ⟨b, r', rfl, q, r2⟩ := r
    cases q
    simp only [List.map_cons, aRs_fst r2]
  | (a, some i) :: as, _, r => by
    obtain ⟨b, r', rfl, ⟨n, _, q⟩, r2⟩ := r
    subst q
    simp only [List.map_cons, aRs_fst r2]
def oR (π : Pi) : Option Nat → Option Nat → Prop
  | none, b => b = none
  | some i, b => ∃ n, π i = some n ∧ b = some n
def oRs (π : Pi) : List (Option Nat) → List (Option Nat) → Prop
  | [], bs => bs = []
  | a :: as, bs => ∃ b r, bs = b :: r ∧ oR π a b ∧ oRs π as r
theorem places_r : ∀ {as bs : List (Arg × Option Nat)}, aRs π as bs → oRs π (placesOf as) (placesOf bs)
  | [], _, r => by cases r; rfl
  | (.p d, none) :: as, _, r => by
    obtain ⟨b, r', rfl, q, r2⟩ := r
    cases q
    exact places_r (as := as) (bs := r') r2
  | (.lst d, none) :: as, _, r => by
    obtain ⟨b, r', rfl, q, r2⟩ := r
    cases q
    exact ⟨_, _, rfl, rfl, places_r r2⟩
  | (.p d, some i) :: as, _, r => by
    obtain ⟨b, r', rfl, ⟨n, z, q⟩, r2⟩ := r
    subst q
    exact places_r (as := as) (bs := r') r2
  | (.lst d, some i) :: as, _, r => by
    obtain ⟨b, r', rfl, ⟨n, z, q⟩, r2⟩ := r
    subst q
    exact ⟨_, _, rfl, ⟨n, z, rfl⟩, places_r r2⟩
theorem any_r (inj : Inj π) {i n : Nat} (e : π i = some n) : ∀ {r r' : List (Option Nat)}, oRs π r r' → (r.any fun m => match m with | some k => Nat.beq k i | none => false) = false → (r'.any fun m => match m with | some k => Nat.beq k n | none => false) = false
  | [], _, q, _ => by cases q; rfl
  | none :: r, _, q, a => by
    obtain ⟨b, s, rfl, q1, q2⟩ := q
    cases q1
    simp only [List.any_cons, Bool.false_or] at a ⊢
    exact any_r inj e q2 a
  | some j :: r, _, q, a => by
    obtain ⟨b, s, rfl, ⟨m, z, rfl⟩, q2⟩ := q
    simp only [List.any_cons, Bool.or_eq_false_iff] at a ⊢
    refine ⟨?_, any_r inj e q2 a.2⟩
    cases hb : Nat.beq m n with
    | false => rfl
    | true =>
      have := Nat.eq_of_beq_eq_true hb
      subst this
      have := inj j i m z e
      subst this
      rw [Nat.beq_refl] at a
      exact absurd a.1 (by simp)
theorem dup_r (inj : Inj π) : ∀ {r r' : List (Option Nat)}, oRs π r r' → dupN r = false → dupN r' = false
  | [], _, q, _ => by cases q; rfl
  | none :: r, _, q, a => by
    obtain ⟨b, s, rfl, q1, q2⟩ := q
    cases q1
    exact dup_r (r := r) (r' := s) inj q2 a
  | some i :: r, _, q, a => by
    obtain ⟨b, s, rfl, ⟨n, z, rfl⟩, q2⟩ := q
    simp only [dupN, Bool.or_eq_false_iff] at a ⊢
    exact ⟨any_r inj z q2 a.1, dup_r inj q2 a.2⟩
/-- the places of arguments are not locked -/
def frees (h : Hs) : List (Option Nat) → Prop
  | [] => True
  | none :: r => frees h r
  | some i :: r => (∃ xs, h[i]? = some (.lst false xs)) ∧ frees h r
theorem args_free : ∀ {vs : List Val} {as : List (Arg × Option Nat)}, argsOf h vs = some as → frees h (placesOf as)
  | [], as, e => by simp only [argsOf, Option.some.injEq] at e; subst e; trivial
  | v :: vs, as, e => by
    simp only [argsOf] at e
    split at e
    · cases e
    · rename_i a e1
      split at e
      · cases e
      · rename_i as2 e2
        simp only [Option.some.injEq] at e
        subst e
        have ih := args_free e2
        cases v with
        | p d => simp only [argOf, Option.some.injEq] at e1; subst e1; exact ih
        | new xs => simp only [argOf, Option.some.injEq] at e1; subst e1; exact ih
        | loc i =>
          simp only [argOf] at e1
          split at e1
          · rename_i xs q
            simp only [Option.some.injEq] at e1
            subst e1
            exact ⟨⟨xs, q⟩, ih⟩
          · cases e1
theorem frees.set {i : Nat} {xs : List D} : ∀ {r : List (Option Nat)}, frees h r → i < h.length → frees (h.set i (.lst false xs)) r
  | [], _, _ => trivial
  | none :: r, q, l => frees.set (r := r) q l
  | some j :: r, q, l => by
    refine ⟨?_, frees.set q.2 l⟩
    by_cases hj : i = j
    · subst hj
      exact ⟨xs, List.getElem?_set_self l⟩
    · rw [List.getElem?_set_ne hj]
      exact q.1
theorem putBack_r (inj : Inj π) : ∀ {r r' : List (Option Nat)} {xs : List (List D)} {h g h1 : Hs}, oRs π r r' → frees h r → HpR π h g → putBack r xs h = some h1 → ∃ g1, putBack r' xs g = some g1 ∧ St2 π h g h1 g1
  | [], _, [], h, g, h1, q, _, hp, e => by
    cases q
    simp only [putBack, Option.some.injEq] at e
    subst e
    exact ⟨g, rfl, .refl hp⟩
  | [], _, _ :: _, h, g, h1, q, _, hp, e => by cases e
  | none :: r, _, [], h, g, h1, q, _, hp, e => by cases e
  | some _ :: r, _, [], h, g, h1, q, _, hp, e => by cases e
  | none :: r, _, x :: xs, h, g, h1, q, fr, hp, e => by
    obtain ⟨b, s, rfl, q1, q2⟩ := q
    cases q1
    exact putBack_r (r := r) (r' := s) inj q2 fr hp e
  | some i :: r, _, x :: xs, h, g, h1, q, fr, hp, e => by
    obtain ⟨b, s, rfl, ⟨n, z, rfl⟩, q2⟩ := q
    obtain ⟨⟨ys, f1⟩, f2⟩ := fr
    obtain ⟨l1, _⟩ := List.getElem?_eq_some_iff.mp f1
    simp only [putBack] at e ⊢
    obtain ⟨g1, e1, s1⟩ := putBack_r inj q2 (f2.set l1) (hp.set inj z false x) e
    refine ⟨g1, e1, ⟨s1.hp, fun j o ej lk => s1.kl j o ?_ lk, by rw [s1.l1, List.length_set], by rw [s1.l2, List.length_set]⟩⟩
    by_cases hj : i = j
    · subst hj
      rw [f1] at ej
      cases ej
      cases lk
    · rw [List.getElem?_set_ne hj]; exact ej
theorem oRs_at : ∀ {r r' : List (Option Nat)} {j : Nat} {o : Option Nat}, oRs π r r' → r[j]? = some o → ∃ o', r'[j]? = some o' ∧ oR π o o'
  | [], _, j, o, q, e => by simp at e
  | a :: r, _, 0, o, q, e => by
    obtain ⟨b, s, rfl, q1, q2⟩ := q
    simp at e; subst e
    exact ⟨b, rfl, q1⟩
  | a :: r, _, j + 1, o, q, e => by
    obtain ⟨b, s, rfl, q1, q2⟩ := q
    obtain ⟨o', e', q'⟩ := oRs_at (j := j) q2 (by simpa using e)
    exact ⟨o', by simpa using e', q'⟩
theorem retV_r {r r' : List (Option Nat)} {xs : List (List D)} {t : Ret} {v : Val} (q : oRs π r r') (e : retV r xs t = some v) : ∃ v', retV r' xs t = some v' ∧ vR π v v' := by
  cases t with
  | p d => simp only [retV, Option.some.injEq] at e ⊢; subst e; exact ⟨_, rfl, rfl⟩
  | new ys => simp only [retV, Option.some.injEq] at e ⊢; subst e; exact ⟨_, rfl, rfl⟩
  | arg j =>
    simp only [retV] at e
    split at e
    · rename_i n en
      simp only [Option.some.injEq] at e
      subst e
      obtain ⟨o', e', m, z, rfl⟩ := oRs_at q en
      exact ⟨.loc m, by simp only [retV, e'], m, z, rfl⟩
    · rename_i en
      obtain ⟨o', e', rfl⟩ := oRs_at q en
      split at e
      · rename_i ys ey
        simp only [Option.some.injEq] at e
        subst e
        exact ⟨.new ys, by simp only [retV, e', ey], rfl⟩
      · cases e
    · cases e
theorem callV_r (inj : Inj π) (rf : Ref F F') {f : Nat} {vs vs' : List Val} {v : Val} (hp : HpR π h g) (r : vRs π vs vs') (e : callV F f vs h = some (v, h1)) : ∃ v' g1, callV F' f vs' g = some (v', g1) ∧ vR π v v' ∧ St2 π h g h1 g1 := by
  unfold callV at e
  split at e
  · cases e
  · rename_i as ea
    split at e
    · cases e
    · rename_i ed
      split at e
      · cases e
      · rename_i t xs ef
        split at e
        · cases e
        · rename_i h2 ep
          split at e
          · cases e
          · rename_i w ew
            simp only [Option.some.injEq, Prod.mk.injEq] at e
            obtain ⟨rfl, rfl⟩ := e
            obtain ⟨bs, q1, q2⟩ := argsOf_r hp r ea
            have q3 := places_r q2
            obtain ⟨g1, q4, s⟩ := putBack_r inj q3 (args_free ea) hp ep
            obtain ⟨v', q5, q6⟩ := retV_r q3 ew
            refine ⟨v', g1, ?_, q6, s⟩
            unfold callV
            simp only [q1, dup_r inj q3 ed, aRs_fst q2, rf _ _ _ ef, q4, q5]
theorem seq_star {xs : List D} : ∀ {vs vs' : List Val}, vRs π vs vs' → vRs π (xs.map .p ++ vs) (xs.map .p ++ vs') := by
  induction xs with
  | nil => intro vs vs' r; exact r
  | cons x xs ih => intro vs vs' r; exact ⟨_, _, rfl, rfl, ih r⟩
theorem frzDs_r : ∀ {vs vs' : List Val}, vRs π vs vs' → frzDs vs' = frzDs vs
  | [], _, r => by cases r; rfl
  | v :: vs, _, r => by
    obtain ⟨w, s, rfl, r1, r2⟩ := r
    simp only [frzDs, frzD_r r1, frzDs_r r2]
theorem walkV_r (inj : Inj π) {v v' : Val} {w : Walk} (hp : HpR π h g) (r : vR π v v') (e : walkV v h = some (w, h1)) :
    ∃ w' g1, walkV v' g = some (w', g1) ∧ w'.items = w.items ∧ (∀ x ∈ w.items, isP x = true) ∧ HpR π h1 g1 ∧ h1.length = h.length ∧ g1.length = g.length ∧ (∀ (i : Nat) (o : O), h[i]? = some o → o.locked = true → h1[i]? = some o) ∧
      ((w.back = none ∧ w'.back = none ∧ h1 = h) ∨ ∃ i n k xs, π i = some n ∧ h[i]? = some (.lst k xs) ∧ w.back = some (i, .lst k xs) ∧ w'.back = some (n, .lst k xs) ∧ h1[i]? = some (.lst true xs)) := by
  have allp : ∀ xs : List D, ∀ x ∈ xs.map Val.p, isP x = true := by intro xs x m; obtain ⟨d, _, rfl⟩ := List.mem_map.mp m; rfl
  have gen : ∀ (u : Val) (g0 : Hs) (q : Option (Walk × Hs)), nloc u = true → vR π u u := fun u _ _ => vR_self
  cases v with
  | loc i =>
    obtain ⟨n, e0, rfl⟩ := r
    obtain ⟨k, xs, e1, e2⟩ := hp i n e0
    simp only [walkV, e1, Option.some.injEq, Prod.mk.injEq] at e
    obtain ⟨rfl, rfl⟩ := e
    obtain ⟨l1, _⟩ := List.getElem?_eq_some_iff.mp e1
    refine ⟨⟨xs.map .p, some (n, .lst k xs)⟩, g.set n (.lst true xs), by simp only [walkV, e2], rfl, allp xs, hp.set inj e0 true xs, List.length_set .., List.length_set .., fun j o ej lk => ?_, .inr ⟨i, n, k, xs, e0, e1, rfl, rfl, List.getElem?_set_self l1⟩⟩
    by_cases hj : i = j
    · subst hj
      rw [e1] at ej; cases ej
      cases lk
      exact List.getElem?_set_self l1
    · rw [List.getElem?_set_ne hj]; exact ej
  | new xs =>
    cases r
    simp only [walkV, seqD, Option.some.injEq, Prod.mk.injEq] at e
    obtain ⟨rfl, rfl⟩ := e
    exact ⟨_, _, rfl, rfl, allp xs, hp, rfl, rfl, fun _ _ e _ => e, .inl ⟨rfl, rfl, rfl⟩⟩
  | p d =>
    cases r
    cases d with
    | scr ns =>
      simp only [walkV, Option.some.injEq, Prod.mk.injEq] at e
      obtain ⟨rfl, rfl⟩ := e
      exact ⟨_, _, rfl, rfl, by intro x m; obtain ⟨d, _, rfl⟩ := List.mem_map.mp m; rfl, hp, rfl, rfl, fun _ _ e _ => e, .inl ⟨rfl, rfl, rfl⟩⟩
    | tup xs =>
      simp only [walkV, seqD, Option.some.injEq, Prod.mk.injEq] at e
      obtain ⟨rfl, rfl⟩ := e
      exact ⟨_, _, rfl, rfl, allp xs, hp, rfl, rfl, fun _ _ e _ => e, .inl ⟨rfl, rfl, rfl⟩⟩
    | lst xs =>
      simp only [walkV, seqD, Option.some.injEq, Prod.mk.injEq] at e
      obtain ⟨rfl, rfl⟩ := e
      exact ⟨_, _, rfl, rfl, allp xs, hp, rfl, rfl, fun _ _ e _ => e, .inl ⟨rfl, rfl, rfl⟩⟩
    | _ => simp [walkV, seqD] at e
end
end MP

/-! ## EngVc.lean -/
set_option Elab.async false
set_option linter.all false
set_option maxRecDepth 100000
namespace MP
open PySem PySem.Spec PyProof.Rows L2
section
variable {π : Pi} {h g h1 g1 h2 g2 : Hs} {ρ ρ' : Env'} {F F' : CallF}
theorem HpR.unlock (hp : HpR π h1 g1) (inj : Inj π) {w w' : Walk} (l1 : h1.length = h.length)
    (q : (w.back = none ∧ w'.back = none) ∨ ∃ i n k xs, π i = some n ∧ w.back = some (i, .lst k xs) ∧ w'.back = some (n, .lst k xs)) :
    HpR π (unlock w.back h1) (unlock w'.back g1) ∧ (unlock w.back h1).length = h1.length ∧ (unlock w'.back g1).length = g1.length := by
  rcases q with ⟨e1, e2⟩ | ⟨i, n, k, xs, e0, e2, e3⟩
  · rw [e1, e2]; exact ⟨hp, rfl, rfl⟩
  · rw [e2, e3]; exact ⟨hp.set inj e0 k xs, List.length_set .., List.length_set ..⟩
/-- a comprehension's turn -/
theorem lcF_r {tg : Tg} {c c' : Env' → Hs → Option (Bool × Hs)} {e e' : Env' → Hs → Option (Val × Hs)} (en : EnR π ρ ρ') (len : ρ'.length = ρ.length)
    (hc : ∀ ρ ρ' h g b h1, EnR π ρ ρ' → ρ'.length = ρ.length → HpR π h g → c ρ h = some (b, h1) → ∃ g1, c' ρ' g = some (b, g1) ∧ St2 π h g h1 g1)
    (he : ∀ ρ ρ' h g v h1, EnR π ρ ρ' → ρ'.length = ρ.length → HpR π h g → e ρ h = some (v, h1) → ∃ v' g1, e' ρ' g = some (v', g1) ∧ vR π v v' ∧ St2 π h g h1 g1) :
    ∀ x h g, isP x = true → HpR π h g → ∀ d h1, lcF tg c e ρ x h = some (d, h1) → ∃ g1, lcF tg c' e' ρ' x g = some (d, g1) ∧ St2 π h g h1 g1 := by
  intro x h g hx hp d h1 q
  cases x with
  | p dx =>
    simp only [lcF] at q
    split at q
    · cases q
    · rename_i ρ1 e1
      obtain ⟨ρ1', k1, k2, k3⟩ := setTg_r en len e1
      split at q
      · cases q
      · rename_i h2 e2
        simp only [Option.some.injEq, Prod.mk.injEq] at q
        obtain ⟨rfl, rfl⟩ := q
        obtain ⟨g2, q1, s1⟩ := hc _ _ _ _ _ _ k2 k3 hp e2
        exact ⟨g2, by simp only [lcF, k1, q1], s1⟩
      · rename_i h2 e2
        obtain ⟨g2, q1, s1⟩ := hc _ _ _ _ _ _ k2 k3 hp e2
        split at q
        · cases q
        · rename_i v h3 e3
          obtain ⟨v', g3, q2, r2, s2⟩ := he _ _ _ _ _ _ k2 k3 s1.hp e3
          split at q
          · cases q
          · rename_i dv e4
            simp only [Option.some.injEq, Prod.mk.injEq] at q
            obtain ⟨rfl, rfl⟩ := q
            exact ⟨g3, by simp only [lcF, k1, q1, q2, frzD_r r2, e4], s1.trans s2⟩
  | loc _ => cases hx
  | new _ => cases hx
theorem vRs_get : ∀ {vs vs' : List Val}, vRs π vs vs' → ∀ j : Nat, (∃ v w, vs[j]? = some v ∧ vs'[j]? = some w ∧ vR π v w) ∨ (vs[j]? = none ∧ vs'[j]? = none)
  | [], _, r, j => by cases r; exact .inr ⟨by simp, by simp⟩
  | v :: vs, _, r, j => by
    obtain ⟨w, ws, rfl, a, r⟩ := r
    cases j with
    | zero => exact .inl ⟨v, w, rfl, rfl, a⟩
    | succ j => simpa using vRs_get r j
theorem vRs_perm {vs vs' : List Val} (r : vRs π vs vs') : ∀ pm : List Nat, vRs π (permL pm vs) (permL pm vs')
  | [] => rfl
  | j :: pm => by
    have ih := vRs_perm r pm
    unfold permL at ih ⊢
    rw [List.filterMap_cons, List.filterMap_cons]
    rcases vRs_get r j with ⟨v, w, e1, e2, a⟩ | ⟨e1, e2⟩
    · rw [e1, e2]; exact ⟨w, _, rfl, a, ih⟩
    · rw [e1, e2]; exact ih
theorem vRs.app : ∀ {a a' b b' : List Val}, vRs π a a' → vRs π b b' → vRs π (a ++ b) (a' ++ b')
  | [], _, _, _, r, r2 => by cases r; exact r2
  | v :: vs, _, _, _, r, r2 => by
    obtain ⟨w, s, rfl, r1, r3⟩ := r
    exact ⟨w, _, rfl, r1, vRs.app (a := vs) r3 r2⟩
theorem rngI_p : ∀ (n : Nat) (lo : Int), ∀ x ∈ rngI lo n, isP x = true
  | 0, _, x, m => by cases m
  | n + 1, lo, x, m => by
    simp only [rngI, List.mem_cons] at m
    rcases m with rfl | m
    · rfl
    · exact rngI_p n _ x m
theorem rngS_p : ∀ (n : Nat) (lo c : Int), ∀ x ∈ rngS lo c n, isP x = true
  | 0, _, _, x, m => by cases m
  | n + 1, lo, c, x, m => by
    simp only [rngS, List.mem_cons] at m
    rcases m with rfl | m
    · rfl
    · exact rngS_p n _ _ x m
theorem enmD_p : ∀ (xs : List D) (i : Int), ∀ x ∈ enmD i xs, isP x = true
  | [], _, x, m => by cases m
  | d :: xs, i, x, m => by
    simp only [enmD, List.mem_cons] at m
    rcases m with rfl | m
    · rfl
    · exact enmD_p xs _ x m
theorem zipD_p : ∀ (xs ys : List D), ∀ x ∈ zipD xs ys, isP x = true
  | [], _, x, m => by cases m
  | _ :: _, [], x, m => by cases m
  | d :: xs, e :: ys, x, m => by
    simp only [zipD, List.mem_cons] at m
    rcases m with rfl | m
    · rfl
    · exact zipD_p xs ys x m
theorem rngV_r {vs vs' xs : List Val} (r : vRs π vs vs') (e : rngV vs = some xs) : rngV vs' = some xs ∧ ∀ x ∈ xs, isP x = true := by
  unfold rngV at e
  split at e
  · obtain ⟨_, _, rfl, rfl, rfl⟩ := r
    split at e
    · simp only [Option.some.injEq] at e; subst e
      exact ⟨by simp only [rngV]; rw [if_pos (by assumption)], rngI_p _ _⟩
    · cases e
  · obtain ⟨_, _, rfl, rfl, _, _, rfl, rfl, rfl⟩ := r
    split at e
    · simp only [Option.some.injEq] at e; subst e
      exact ⟨by simp only [rngV]; rw [if_pos (by assumption)], rngI_p _ _⟩
    · cases e
  · obtain ⟨_, _, rfl, rfl, _, _, rfl, rfl, _, _, rfl, rfl, rfl⟩ := r
    split at e
    · simp only [Option.some.injEq] at e; subst e
      exact ⟨by simp only [rngV]; rw [if_pos (by assumption)], rngS_p _ _ _⟩
    · split at e
      · simp only [Option.some.injEq] at e; subst e
        exact ⟨by simp only [rngV]; rw [if_neg (by assumption), if_pos (by assumption)], rngS_p _ _ _⟩
      · cases e
  · cases e
variable (inj : Inj π) (rf : Ref F F')
include inj rf
mutual
theorem rE : ∀ (e : E) (ρ ρ' : Env') (h g : Hs) (v : Val) (h1 : Hs), EnR π ρ ρ' → ρ'.length = ρ.length → HpR π h g → evE F e ρ h = some (v, h1) → ∃ v' g1, evE F' e ρ' g = some (v', g1) ∧ vR π v v' ∧ St2 π h g h1 g1
  | .var i, ρ, ρ', h, g, v, h1, en, len, hp, q => by
    simp only [evE] at q
    split at q
    · rename_i w ew
      simp only [Option.some.injEq, Prod.mk.injEq] at q
      obtain ⟨rfl, rfl⟩ := q
      obtain ⟨v', a, b⟩ := en i _ ew
      exact ⟨v', g, by simp only [evE, a], b, .refl hp⟩
    · cases q
  | .lit d, ρ, ρ', h, g, v, h1, en, len, hp, q => by
    simp only [evE, Option.some.injEq, Prod.mk.injEq] at q
    obtain ⟨rfl, rfl⟩ := q
    exact ⟨_, g, rfl, rfl, .refl hp⟩
  | .glo x d, ρ, ρ', h, g, v, h1, en, len, hp, q => by
    simp only [evE, Option.some.injEq, Prod.mk.injEq] at q
    obtain ⟨rfl, rfl⟩ := q
    exact ⟨_, g, rfl, rfl, .refl hp⟩
  | .bin o a b, ρ, ρ', h, g, v, h1, en, len, hp, q => by
    simp only [evE] at q
    split at q
    · cases q
    · rename_i x h2 e1
      obtain ⟨x', g2, k1, r1, s1⟩ := rE a ρ ρ' h g x h2 en len hp e1
      split at q
      · cases q
      · rename_i y h3 e2
        obtain ⟨y', g3, k2, r2, s2⟩ := rE b ρ ρ' h2 g2 y h3 en len s1.hp e2
        split at q
        · cases q
        · rename_i w e3
          simp only [Option.some.injEq, Prod.mk.injEq] at q
          obtain ⟨rfl, rfl⟩ := q
          exact ⟨w, g3, by simp only [evE, k1, k2, binV_r s2.hp r1 r2, e3], vR_self (binV_n e3), s1.trans s2⟩
  | .neg a, ρ, ρ', h, g, v, h1, en, len, hp, q => by
    simp only [evE] at q
    split at q
    · rename_i i h2 e1
      simp only [Option.some.injEq, Prod.mk.injEq] at q
      obtain ⟨rfl, rfl⟩ := q
      obtain ⟨x', g2, k1, r1, s1⟩ := rE a ρ ρ' h g _ _ en len hp e1
      cases r1
      exact ⟨_, g2, by simp only [evE, k1], rfl, s1⟩
    · cases q
  | .not a, ρ, ρ', h, g, v, h1, en, len, hp, q => by
    simp only [evE] at q
    split at q
    · cases q
    · rename_i x h2 e1
      obtain ⟨x', g2, k1, r1, s1⟩ := rE a ρ ρ' h g x h2 en len hp e1
      split at q
      · cases q
      · rename_i b e2
        simp only [Option.some.injEq, Prod.mk.injEq] at q
        obtain ⟨rfl, rfl⟩ := q
        exact ⟨_, g2, by simp only [evE, k1, truV_r s1.hp r1, e2], rfl, s1⟩
  | .cmp o a b, ρ, ρ', h, g, v, h1, en, len, hp, q => by
    simp only [evE] at q
    split at q
    · cases q
    · rename_i x h2 e1
      obtain ⟨x', g2, k1, r1, s1⟩ := rE a ρ ρ' h g x h2 en len hp e1
      split at q
      · cases q
      · rename_i y h3 e2
        obtain ⟨y', g3, k2, r2, s2⟩ := rE b ρ ρ' h2 g2 y h3 en len s1.hp e2
        split at q
        · cases q
        · rename_i w e3
          simp only [Option.some.injEq, Prod.mk.injEq] at q
          obtain ⟨rfl, rfl⟩ := q
          exact ⟨w, g3, by simp only [evE, k1, k2, cmpW_r s2.hp r1 r2, e3], vR_self (cmpW_n e3), s1.trans s2⟩
  | .chn o o' a b c, ρ, ρ', h, g, v, h1, en, len, hp, q => by
    simp only [evE] at q
    split at q
    · cases q
    · rename_i x h2 e1
      obtain ⟨x', g2, k1, r1, s1⟩ := rE a ρ ρ' h g x h2 en len hp e1
      split at q
      · cases q
      · rename_i y h3 e2
        obtain ⟨y', g3, k2, r2, s2⟩ := rE b ρ ρ' h2 g2 y h3 en len s1.hp e2
        split at q
        · cases q
        · rename_i e3
          simp only [Option.some.injEq, Prod.mk.injEq] at q
          obtain ⟨rfl, rfl⟩ := q
          exact ⟨_, g3, by simp only [evE, k1, k2, cmpV_r s2.hp r1 r2, e3], rfl, s1.trans s2⟩
        · rename_i e3
          split at q
          · cases q
          · rename_i z h4 e4
            obtain ⟨z', g4, k4, r4, s4⟩ := rE c ρ ρ' h3 g3 z h4 en len s2.hp e4
            split at q
            · cases q
            · rename_i w e5
              simp only [Option.some.injEq, Prod.mk.injEq] at q
              obtain ⟨rfl, rfl⟩ := q
              exact ⟨_, g4, by simp only [evE, k1, k2, cmpV_r s2.hp r1 r2, e3, k4, cmpV_r s4.hp r2 r4, e5], rfl, (s1.trans s2).trans s4⟩
  | .one a, ρ, ρ', h, g, v, h1, en, len, hp, q => by
    simp only [evE] at q ⊢
    exact rE a ρ ρ' h g v h1 en len hp q
  | .and a b, ρ, ρ', h, g, v, h1, en, len, hp, q => by
    simp only [evE] at q
    split at q
    · cases q
    · rename_i x h2 e1
      obtain ⟨x', g2, k1, r1, s1⟩ := rE a ρ ρ' h g x h2 en len hp e1
      split at q
      · cases q
      · rename_i e2
        obtain ⟨v', g3, k3, r3, s3⟩ := rE b ρ ρ' h2 g2 v h1 en len s1.hp q
        exact ⟨v', g3, by simp only [evE, k1, truV_r s1.hp r1, e2, k3], r3, s1.trans s3⟩
      · rename_i e2
        simp only [Option.some.injEq, Prod.mk.injEq] at q
        obtain ⟨rfl, rfl⟩ := q
        exact ⟨x', g2, by simp only [evE, k1, truV_r s1.hp r1, e2], r1, s1⟩
  | .or a b, ρ, ρ', h, g, v, h1, en, len, hp, q => by
    simp only [evE] at q
    split at q
    · cases q
    · rename_i x h2 e1
      obtain ⟨x', g2, k1, r1, s1⟩ := rE a ρ ρ' h g x h2 en len hp e1
      split at q
      · cases q
      · rename_i e2
        simp only [Option.some.injEq, Prod.mk.injEq] at q
        obtain ⟨rfl, rfl⟩ := q
        exact ⟨x', g2, by simp only [evE, k1, truV_r s1.hp r1, e2], r1, s1⟩
      · rename_i e2
        obtain ⟨v', g3, k3, r3, s3⟩ := rE b ρ ρ' h2 g2 v h1 en len s1.hp q
        exact ⟨v', g3, by simp only [evE, k1, truV_r s1.hp r1, e2, k3], r3, s1.trans s3⟩
  | .ife c a b, ρ, ρ', h, g, v, h1, en, len, hp, q => by
    simp only [evE] at q
    split at q
    · cases q
    · rename_i h2 e1
      obtain ⟨g2, k1, s1⟩ := rT c ρ ρ' h g _ h2 en len hp e1
      obtain ⟨v', g3, k3, r3, s3⟩ := rE a ρ ρ' h2 g2 v h1 en len s1.hp q
      exact ⟨v', g3, by simp only [evE, k1, k3], r3, s1.trans s3⟩
    · rename_i h2 e1
      obtain ⟨g2, k1, s1⟩ := rT c ρ ρ' h g _ h2 en len hp e1
      obtain ⟨v', g3, k3, r3, s3⟩ := rE b ρ ρ' h2 g2 v h1 en len s1.hp q
      exact ⟨v', g3, by simp only [evE, k1, k3], r3, s1.trans s3⟩
  | .tup es, ρ, ρ', h, g, v, h1, en, len, hp, q => by
    simp only [evE] at q
    split at q
    · cases q
    · rename_i vs h2 e1
      obtain ⟨vs', g2, k1, r1, s1⟩ := rEs es ρ ρ' h g vs h2 en len hp e1
      split at q
      · cases q
      · rename_i ds ed
        split at q
        · rename_i hl
          simp only [Option.some.injEq, Prod.mk.injEq] at q
          obtain ⟨rfl, rfl⟩ := q
          exact ⟨_, g2, by simp only [evE, k1, frzDs_r r1, ed, hl, if_true], rfl, s1⟩
        · cases q
  | .lst es, ρ, ρ', h, g, v, h1, en, len, hp, q => by
    simp only [evE] at q
    split at q
    · cases q
    · rename_i vs h2 e1
      obtain ⟨vs', g2, k1, r1, s1⟩ := rEs es ρ ρ' h g vs h2 en len hp e1
      split at q
      · cases q
      · rename_i ds ed
        split at q
        · rename_i hl
          simp only [Option.some.injEq, Prod.mk.injEq] at q
          obtain ⟨rfl, rfl⟩ := q
          exact ⟨_, g2, by simp only [evE, k1, frzDs_r r1, ed, hl, if_true], rfl, s1⟩
        · cases q
  | .sub a i, ρ, ρ', h, g, v, h1, en, len, hp, q => by
    simp only [evE] at q
    split at q
    · cases q
    · rename_i x h2 e1
      obtain ⟨x', g2, k1, r1, s1⟩ := rE a ρ ρ' h g x h2 en len hp e1
      split at q
      · cases q
      · rename_i y h3 e2
        obtain ⟨y', g3, k2, r2, s2⟩ := rE i ρ ρ' h2 g2 y h3 en len s1.hp e2
        split at q
        · cases q
        · rename_i w e3
          simp only [Option.some.injEq, Prod.mk.injEq] at q
          obtain ⟨rfl, rfl⟩ := q
          exact ⟨w, g3, by simp only [evE, k1, k2, subV_r s2.hp r1 r2, e3], vR_self (subV_n (lst_of s2.hp r1) e3), s1.trans s2⟩
  | .sl a lo hi, ρ, ρ', h, g, v, h1, en, len, hp, q => by
    simp only [evE] at q
    split at q
    · cases q
    · rename_i x h2 e1
      obtain ⟨x', g2, k1, r1, s1⟩ := rE a ρ ρ' h g x h2 en len hp e1
      split at q
      · cases q
      · rename_i l h3 e2
        obtain ⟨g3, k2, s2⟩ := rO lo ρ ρ' h2 g2 l h3 en len s1.hp e2
        split at q
        · cases q
        · rename_i u h4 e3
          obtain ⟨g4, k3, s3⟩ := rO hi ρ ρ' h3 g3 u h4 en len s2.hp e3
          split at q
          · cases q
          · rename_i w e4
            simp only [Option.some.injEq, Prod.mk.injEq] at q
            obtain ⟨rfl, rfl⟩ := q
            exact ⟨w, g4, by simp only [evE, k1, k2, k3, slV_r s3.hp r1, e4], vR_self (slV_n e4), (s1.trans s2).trans s3⟩
  | .rev a, ρ, ρ', h, g, v, h1, en, len, hp, q => by
    simp only [evE] at q
    split at q
    · cases q
    · rename_i x h2 e1
      obtain ⟨x', g2, k1, r1, s1⟩ := rE a ρ ρ' h g x h2 en len hp e1
      split at q
      · cases q
      · rename_i w e3
        simp only [Option.some.injEq, Prod.mk.injEq] at q
        obtain ⟨rfl, rfl⟩ := q
        exact ⟨w, g2, by simp only [evE, k1, revV_r s1.hp r1, e3], vR_self (revV_n e3), s1⟩
  | .lc own tg it cd elt, ρ, ρ', h, g, v, h1, en, len, hp, q => by
    simp only [evE] at q
    split at q
    · cases q
    · rename_i w h2 e1
      obtain ⟨w', g2, k1, ki, kp, khp, kl1, kl2, kk, kb⟩ := rI it ρ ρ' h g w h2 en len hp e1
      split at q
      · cases q
      · rename_i ds h5 e2
        split at q
        · rename_i hl
          simp only [Option.some.injEq, Prod.mk.injEq] at q
          obtain ⟨rfl, rfl⟩ := q
          obtain ⟨en1, len1⟩ := en.wipe len own
          obtain ⟨g5, k2, s2⟩ := lcGo_r (lcF_r en1 len1 (fun ρ ρ' h g b h1 a b' c d => rC cd ρ ρ' h g b h1 a b' c d) (fun ρ ρ' h g b h1 a b' c d => rE elt ρ ρ' h g b h1 a b' c d)) w.items h2 g2 kp khp ds h5 e2
          obtain ⟨u1, u2, u3⟩ := s2.hp.unlock inj (h := h) (w := w) (w' := w') (s2.l1.trans kl1) (kb.imp (fun z => ⟨z.1, z.2⟩) fun ⟨i, n, k, xs, a, b, c, d, _⟩ => ⟨i, n, k, xs, a, c, d⟩)
          refine ⟨.new ds, unlock w'.back g5, by simp only [evE, k1, ki, k2, hl, if_true], rfl, ⟨u1, fun i o ei lk => ?_, by rw [u2, s2.l1, kl1], by rw [u3, s2.l2, kl2]⟩⟩
          have a1 := s2.kl i o (kk i o ei lk) lk
          rcases kb with ⟨z, _⟩ | ⟨j, n, k, xs, a, b, c, d, e⟩
          · rw [z]; exact a1
          · rw [c]
            show (h5.set j _)[i]? = _
            by_cases hj : j = i
            · subst hj
              cases b _ ei lk
              obtain ⟨l5, _⟩ := List.getElem?_eq_some_iff.mp a1
              exact List.getElem?_set_self l5
            · rw [List.getElem?_set_ne hj]; exact a1
        · cases q
  | .call f es, ρ, ρ', h, g, v, h1, en, len, hp, q => by
    simp only [evE] at q
    split at q
    · cases q
    · rename_i vs h2 e1
      obtain ⟨vs', g2, k1, r1, s1⟩ := rEs es ρ ρ' h g vs h2 en len hp e1
      obtain ⟨v', g3, k2, r2, s2⟩ := callV_r inj rf s1.hp r1 q
      exact ⟨v', g3, by simp only [evE, k1, k2], r2, s1.trans s2⟩
  | .callK f pm es ks, ρ, ρ', h, g, v, h1, en, len, hp, q => by
    simp only [evE] at q
    split at q
    · cases q
    · rename_i vs h2 e1
      obtain ⟨vs', g2, k1, r1, s1⟩ := rEs es ρ ρ' h g vs h2 en len hp e1
      split at q
      · cases q
      · rename_i ws h3 e2
        obtain ⟨ws', g3, k2, r2, s2⟩ := rEs ks ρ ρ' h2 g2 ws h3 en len s1.hp e2
        obtain ⟨v', g4, k3, r3, s3⟩ := callV_r inj rf s2.hp (r1.app (vRs_perm r2 pm)) q
        exact ⟨v', g4, by simp only [evE, k1, k2, k3], r3, (s1.trans s2).trans s3⟩
  | .bi b es, ρ, ρ', h, g, v, h1, en, len, hp, q => by
    simp only [evE] at q
    split at q
    · cases q
    · rename_i vs h2 e1
      obtain ⟨vs', g2, k1, r1, s1⟩ := rEs es ρ ρ' h g vs h2 en len hp e1
      split at q
      · cases q
      · rename_i w e2
        simp only [Option.some.injEq, Prod.mk.injEq] at q
        obtain ⟨rfl, rfl⟩ := q
        exact ⟨w, g2, by simp only [evE, k1, biV_r s1.hp r1, e2], vR_self (biV_n e2), s1⟩
  | .isi c a, ρ, ρ', h, g, v, h1, en, len, hp, q => by
    simp only [evE] at q
    split at q
    · cases q
    · rename_i x h2 e1
      obtain ⟨x', g2, k1, r1, s1⟩ := rE a ρ ρ' h g x h2 en len hp e1
      split at q
      · cases q
      · rename_i t e2
        simp only [Option.some.injEq, Prod.mk.injEq] at q
        obtain ⟨rfl, rfl⟩ := q
        exact ⟨_, g2, by simp only [evE, k1, tyV_r s1.hp r1, e2], rfl, s1⟩
  | .srt a, ρ, ρ', h, g, v, h1, en, len, hp, q => by
    simp only [evE] at q
    split at q
    · cases q
    · rename_i x h2 e1
      obtain ⟨x', g2, k1, r1, s1⟩ := rE a ρ ρ' h g x h2 en len hp e1
      split at q
      · cases q
      · rename_i is e2
        simp only [Option.some.injEq, Prod.mk.injEq] at q
        obtain ⟨rfl, rfl⟩ := q
        exact ⟨_, g2, by simp only [evE, k1, intsV_r s1.hp r1, e2], rfl, s1⟩
  | .lcnt o a, ρ, ρ', h, g, v, h1, en, len, hp, q => by
    simp only [evE] at q
    split at q
    · cases q
    · rename_i x h2 e1
      obtain ⟨x', g2, k1, r1, s1⟩ := rE o ρ ρ' h g x h2 en len hp e1
      split at q
      · cases q
      · rename_i q0 is e2
        split at q
        · cases q
        · rename_i y h3 e3
          obtain ⟨y', g3, k3, r3, s3⟩ := rE a ρ ρ' h2 g2 y h3 en len s1.hp e3
          split at q
          · cases q
          · rename_i w e4
            simp only [Option.some.injEq, Prod.mk.injEq] at q
            obtain ⟨rfl, rfl⟩ := q
            have n4 : nloc w = true := by
              unfold lcntV at e4
              (repeat' split at e4) <;> first | (simp only [Option.some.injEq] at e4; subst e4; rfl) | cases e4
            have e4' : lcntV q0 x' y' g3 = some w := by
              unfold lcntV at e4 ⊢
              rw [intsC_r s3.hp r1, intV_r r3]; exact e4
            exact ⟨w, g3, by simp only [evE, k1, intsC_r s1.hp r1, e2, k3, e4'], vR_self n4, s1.trans s3⟩
  | .dget a k d, ρ, ρ', h, g, v, h1, en, len, hp, q => by
    simp only [evE] at q
    split at q
    · cases q
    · rename_i x h2 e1
      obtain ⟨x', g2, k1, r1, s1⟩ := rE a ρ ρ' h g x h2 en len hp e1
      split at q
      · cases q
      · rename_i kvs e2
        split at q
        · cases q
        · rename_i y h3 e3
          obtain ⟨y', g3, k3, r3, s3⟩ := rE k ρ ρ' h2 g2 y h3 en len s1.hp e3
          split at q
          · cases q
          · rename_i z h4 e4
            obtain ⟨z', g4, k4, r4, s4⟩ := rE d ρ ρ' h3 g3 z h4 en len s3.hp e4
            split at q
            · cases q
            · rename_i w e5
              simp only [Option.some.injEq, Prod.mk.injEq] at q
              obtain ⟨rfl, rfl⟩ := q
              have key : ∃ w', dgV kvs y' z' = some w' ∧ vR π w w' := by
                unfold dgV at e5 ⊢
                cases y with
                | p dy =>
                  cases r3
                  cases dy with
                  | int i =>
                    simp only at e5 ⊢
                    split at e5
                    · rename_i u eu
                      simp only [Option.some.injEq] at e5; subst e5
                      exact ⟨_, by simp only [eu], rfl⟩
                    · rename_i eu
                      simp only [Option.some.injEq] at e5; subst e5
                      exact ⟨z', by simp only [eu], r4⟩
                  | _ => cases e5
                | _ => cases e5
              obtain ⟨w', kw, rw'⟩ := key
              exact ⟨w', g4, by simp only [evE, k1, pairsV_r s1.hp r1, e2, k3, k4, kw], rw', (s1.trans s3).trans s4⟩
theorem rT : ∀ (t : T) (ρ ρ' : Env') (h g : Hs) (b : Bool) (h1 : Hs), EnR π ρ ρ' → ρ'.length = ρ.length → HpR π h g → MP.evT F t ρ h = some (b, h1) → ∃ g1, MP.evT F' t ρ' g = some (b, g1) ∧ St2 π h g h1 g1
  | .val e, ρ, ρ', h, g, b, h1, en, len, hp, q => by
    simp only [MP.evT] at q
    split at q
    · cases q
    · rename_i x h2 e1
      obtain ⟨x', g2, k1, r1, s1⟩ := rE e ρ ρ' h g x h2 en len hp e1
      split at q
      · cases q
      · rename_i c e2
        simp only [Option.some.injEq, Prod.mk.injEq] at q
        obtain ⟨rfl, rfl⟩ := q
        exact ⟨g2, by simp only [MP.evT, k1, truV_r s1.hp r1, e2], s1⟩
  | .not t, ρ, ρ', h, g, b, h1, en, len, hp, q => by
    simp only [MP.evT] at q
    split at q
    · rename_i c h2 e1
      simp only [Option.some.injEq, Prod.mk.injEq] at q
      obtain ⟨rfl, rfl⟩ := q
      obtain ⟨g2, k1, s1⟩ := rT t ρ ρ' h g c h2 en len hp e1
      exact ⟨g2, by simp only [MP.evT, k1], s1⟩
    · cases q
  | .one t, ρ, ρ', h, g, b, h1, en, len, hp, q => by
    simp only [MP.evT] at q ⊢
    exact rT t ρ ρ' h g b h1 en len hp q
  | .and t u, ρ, ρ', h, g, b, h1, en, len, hp, q => by
    simp only [MP.evT] at q
    split at q
    · cases q
    · rename_i h2 e1
      obtain ⟨g2, k1, s1⟩ := rT t ρ ρ' h g _ h2 en len hp e1
      obtain ⟨g3, k2, s2⟩ := rT u ρ ρ' h2 g2 b h1 en len s1.hp q
      exact ⟨g3, by simp only [MP.evT, k1, k2], s1.trans s2⟩
    · rename_i h2 e1
      obtain ⟨g2, k1, s1⟩ := rT t ρ ρ' h g _ h2 en len hp e1
      simp only [Option.some.injEq, Prod.mk.injEq] at q
      obtain ⟨rfl, rfl⟩ := q
      exact ⟨g2, by simp only [MP.evT, k1], s1⟩
  | .or t u, ρ, ρ', h, g, b, h1, en, len, hp, q => by
    simp only [MP.evT] at q
    split at q
    · cases q
    · rename_i h2 e1
      obtain ⟨g2, k1, s1⟩ := rT t ρ ρ' h g _ h2 en len hp e1
      simp only [Option.some.injEq, Prod.mk.injEq] at q
      obtain ⟨rfl, rfl⟩ := q
      exact ⟨g2, by simp only [MP.evT, k1], s1⟩
    · rename_i h2 e1
      obtain ⟨g2, k1, s1⟩ := rT t ρ ρ' h g _ h2 en len hp e1
      obtain ⟨g3, k2, s2⟩ := rT u ρ ρ' h2 g2 b h1 en len s1.hp q
      exact ⟨g3, by simp only [MP.evT, k1, k2], s1.trans s2⟩
theorem rEs : ∀ (es : Es) (ρ ρ' : Env') (h g : Hs) (vs : List Val) (h1 : Hs), EnR π ρ ρ' → ρ'.length = ρ.length → HpR π h g → evEs F es ρ h = some (vs, h1) → ∃ vs' g1, evEs F' es ρ' g = some (vs', g1) ∧ vRs π vs vs' ∧ St2 π h g h1 g1
  | .nil, ρ, ρ', h, g, vs, h1, en, len, hp, q => by
    simp only [evEs, Option.some.injEq, Prod.mk.injEq] at q
    obtain ⟨rfl, rfl⟩ := q
    exact ⟨[], g, rfl, rfl, .refl hp⟩
  | .cons e es, ρ, ρ', h, g, vs, h1, en, len, hp, q => by
    simp only [evEs] at q
    split at q
    · cases q
    · rename_i v h2 e1
      obtain ⟨v', g2, k1, r1, s1⟩ := rE e ρ ρ' h g v h2 en len hp e1
      split at q
      · cases q
      · rename_i ws h3 e2
        obtain ⟨ws', g3, k2, r2, s2⟩ := rEs es ρ ρ' h2 g2 ws h3 en len s1.hp e2
        simp only [Option.some.injEq, Prod.mk.injEq] at q
        obtain ⟨rfl, rfl⟩ := q
        exact ⟨v' :: ws', g3, by simp only [evEs, k1, k2], ⟨_, _, rfl, r1, r2⟩, s1.trans s2⟩
  | .star e es, ρ, ρ', h, g, vs, h1, en, len, hp, q => by
    simp only [evEs] at q
    split at q
    · cases q
    · rename_i v h2 e1
      obtain ⟨v', g2, k1, r1, s1⟩ := rE e ρ ρ' h g v h2 en len hp e1
      split at q
      · cases q
      · rename_i b xs ex
        split at q
        · cases q
        · rename_i ws h3 e2
          obtain ⟨ws', g3, k2, r2, s2⟩ := rEs es ρ ρ' h2 g2 ws h3 en len s1.hp e2
          simp only [Option.some.injEq, Prod.mk.injEq] at q
          obtain ⟨rfl, rfl⟩ := q
          exact ⟨_, g3, by simp only [evEs, k1, seqD_r s1.hp r1, ex, k2], seq_star r2, s1.trans s2⟩
theorem rO : ∀ (o : Eo) (ρ ρ' : Env') (h g : Hs) (x : Option Int) (h1 : Hs), EnR π ρ ρ' → ρ'.length = ρ.length → HpR π h g → evO F o ρ h = some (x, h1) → ∃ g1, evO F' o ρ' g = some (x, g1) ∧ St2 π h g h1 g1
  | .no, ρ, ρ', h, g, x, h1, en, len, hp, q => by
    simp only [evO, Option.some.injEq, Prod.mk.injEq] at q
    obtain ⟨rfl, rfl⟩ := q
    exact ⟨g, rfl, .refl hp⟩
  | .yes e, ρ, ρ', h, g, x, h1, en, len, hp, q => by
    simp only [evO] at q
    split at q
    · rename_i i h2 e1
      simp only [Option.some.injEq, Prod.mk.injEq] at q
      obtain ⟨rfl, rfl⟩ := q
      obtain ⟨v', g2, k1, r1, s1⟩ := rE e ρ ρ' h g _ h2 en len hp e1
      cases r1
      exact ⟨g2, by simp only [evO, k1], s1⟩
    · cases q
theorem rC : ∀ (o : To) (ρ ρ' : Env') (h g : Hs) (b : Bool) (h1 : Hs), EnR π ρ ρ' → ρ'.length = ρ.length → HpR π h g → evC F o ρ h = some (b, h1) → ∃ g1, evC F' o ρ' g = some (b, g1) ∧ St2 π h g h1 g1
  | .no, ρ, ρ', h, g, x, h1, en, len, hp, q => by
    simp only [evC, Option.some.injEq, Prod.mk.injEq] at q
    obtain ⟨rfl, rfl⟩ := q
    exact ⟨g, rfl, .refl hp⟩
  | .yes t, ρ, ρ', h, g, x, h1, en, len, hp, q => by
    simp only [evC] at q ⊢
    exact rT t ρ ρ' h g x h1 en len hp q
theorem rI : ∀ (it : It) (ρ ρ' : Env') (h g : Hs) (w : Walk) (h1 : Hs), EnR π ρ ρ' → ρ'.length = ρ.length → HpR π h g → evI F it ρ h = some (w, h1) →
    ∃ w' g1, evI F' it ρ' g = some (w', g1) ∧ w'.items = w.items ∧ (∀ x ∈ w.items, isP x = true) ∧ HpR π h1 g1 ∧ h1.length = h.length ∧ g1.length = g.length ∧ (∀ (i : Nat) (o : O), h[i]? = some o → o.locked = true → h1[i]? = some o) ∧
      ((w.back = none ∧ w'.back = none) ∨ ∃ i n k xs, π i = some n ∧ (∀ o, h[i]? = some o → o.locked = true → o = .lst k xs) ∧ w.back = some (i, .lst k xs) ∧ w'.back = some (n, .lst k xs) ∧ h1[i]? = some (.lst true xs))
  | .val e, ρ, ρ', h, g, w, h1, en, len, hp, q => by
    simp only [evI] at q
    split at q
    · cases q
    · rename_i v h2 e1
      obtain ⟨v', g2, k1, r1, s1⟩ := rE e ρ ρ' h g v h2 en len hp e1
      obtain ⟨w', g3, a1, a2, a3, a4, a5, a6, a7, a8⟩ := walkV_r inj s1.hp r1 q
      refine ⟨w', g3, by simp only [evI, k1, a1], a2, a3, a4, a5.trans s1.l1, a6.trans s1.l2, fun i o e l => a7 i o (s1.kl i o e l) l, ?_⟩
      rcases a8 with ⟨z1, z2, _⟩ | ⟨i, n, k, xs, z1, z2, z3, z4, z5⟩
      · exact .inl ⟨z1, z2⟩
      · refine .inr ⟨i, n, k, xs, z1, fun o eo lo => ?_, z3, z4, z5⟩
        have := s1.kl i o eo lo
        rw [z2] at this
        cases this
        rfl
  | .rng es, ρ, ρ', h, g, w, h1, en, len, hp, q => by
    simp only [evI] at q
    split at q
    · cases q
    · rename_i vs h2 e1
      obtain ⟨vs', g2, k1, r1, s1⟩ := rEs es ρ ρ' h g vs h2 en len hp e1
      split at q
      · cases q
      · rename_i xs e2
        simp only [Option.some.injEq, Prod.mk.injEq] at q
        obtain ⟨rfl, rfl⟩ := q
        obtain ⟨a1, a2⟩ := rngV_r r1 e2
        exact ⟨⟨xs, none⟩, g2, by simp only [evI, k1, a1], rfl, a2, s1.hp, s1.l1, s1.l2, s1.kl, .inl ⟨rfl, rfl⟩⟩
  | .enm k0 e, ρ, ρ', h, g, w, h1, en, len, hp, q => by
    simp only [evI] at q
    split at q
    · cases q
    · rename_i v h2 e1
      obtain ⟨v', g2, k1, r1, s1⟩ := rE e ρ ρ' h g v h2 en len hp e1
      split at q
      · cases q
      · rename_i b xs e2
        have q2 := seqD_r s1.hp r1
        cases v with
        | p d =>
          cases r1
          simp only [lockV, Option.some.injEq, Prod.mk.injEq] at q
          obtain ⟨rfl, rfl⟩ := q
          exact ⟨⟨enmD (k0.getD 0) xs, none⟩, g2, by simp only [evI, k1, q2, e2, lockV], rfl, enmD_p xs (k0.getD 0), s1.hp, s1.l1, s1.l2, s1.kl, .inl ⟨rfl, rfl⟩⟩
        | new ys =>
          cases r1
          simp only [lockV, Option.some.injEq, Prod.mk.injEq] at q
          obtain ⟨rfl, rfl⟩ := q
          exact ⟨⟨enmD (k0.getD 0) xs, none⟩, g2, by simp only [evI, k1, q2, e2, lockV], rfl, enmD_p xs (k0.getD 0), s1.hp, s1.l1, s1.l2, s1.kl, .inl ⟨rfl, rfl⟩⟩
        | loc i =>
          obtain ⟨n, z1, rfl⟩ := r1
          obtain ⟨k, ys, z2, z3⟩ := s1.hp i n z1
          obtain ⟨l1, _⟩ := List.getElem?_eq_some_iff.mp z2
          simp only [lockV, z2, lockO, Option.some.injEq, Prod.mk.injEq] at q
          obtain ⟨rfl, rfl⟩ := q
          refine ⟨⟨enmD (k0.getD 0) xs, some (n, .lst k ys)⟩, g2.set n (.lst true ys), by simp only [evI, k1, q2, e2, lockV, z3, lockO], rfl, enmD_p xs (k0.getD 0), s1.hp.set inj z1 true ys, (List.length_set ..).trans s1.l1, (List.length_set ..).trans s1.l2, fun j o ej lk => ?_, .inr ⟨i, n, k, ys, z1, fun o eo lo => ?_, rfl, rfl, List.getElem?_set_self l1⟩⟩
          · have e3 := s1.kl j o ej lk
            by_cases hj : i = j
            · subst hj
              rw [z2] at e3; cases e3
              cases lk
              exact List.getElem?_set_self l1
            · rw [List.getElem?_set_ne hj]; exact e3
          · have := s1.kl i o eo lo
            rw [z2] at this
            cases this
            rfl
  | .zip a b, ρ, ρ', h, g, w, h1, en, len, hp, q => by
    simp only [evI] at q
    split at q
    · cases q
    · rename_i x h2 e1
      obtain ⟨x', g2, k1, r1, s1⟩ := rE a ρ ρ' h g x h2 en len hp e1
      split at q
      · cases q
      · rename_i y h3 e2
        obtain ⟨y', g3, k2, r2, s2⟩ := rE b ρ ρ' h2 g2 y h3 en len s1.hp e2
        split at q
        · cases q
        · rename_i d ed
          split at q
          · cases q
          · rename_i f ef
            have s12 := s1.trans s2
            split at q
            · simp only [Option.some.injEq, Prod.mk.injEq] at q
              obtain ⟨rfl, rfl⟩ := q
              exact ⟨_, g3, by simp only [evI, k1, k2, frzD_r r1, frzD_r r2, ed, ef], rfl, zipD_p _ _, s12.hp, s12.l1, s12.l2, s12.kl, .inl ⟨rfl, rfl⟩⟩
            · simp only [Option.some.injEq, Prod.mk.injEq] at q
              obtain ⟨rfl, rfl⟩ := q
              exact ⟨_, g3, by simp only [evI, k1, k2, frzD_r r1, frzD_r r2, ed, ef], rfl, zipD_p _ _, s12.hp, s12.l1, s12.l2, s12.kl, .inl ⟨rfl, rfl⟩⟩
            · cases q
end
end
end MP

/-! ## EngVd.lean -/
set_option Elab.async false
set_option linter.all false
set_option maxRecDepth 100000
namespace MP
open PySem PySem.Spec PyProof.Rows L2
structure Rel (P : List Bool) (na : Nat) (π : Pi) (ρ ρ' : Env') (h g : Hs) : Prop where
  en : EnR π ρ ρ'
  self : ∀ (i j : Nat), ρ[i]? = some (some (.loc j)) → j = i
  al : ∀ i n, π i = some n → ρ[i]? = some (some (.loc i))
  len : ρ'.length = ρ.length
  lh : h.length = ρ.length
  hp : HpR π h g
  inj : Inj π
  par : ∀ i, parV P i = true → π i = some (rankV P i)
  big : ∀ i n, π i = some n → parV P i = false → na ≤ n
  ng : na ≤ g.length
def Kp (π : Pi) (h : Hs) (π1 : Pi) (h1 : Hs) : Prop := ∀ i n ys, π i = some n → h[i]? = some (.lst true ys) → π1 i = some n ∧ h1[i]? = some (.lst true ys)
structure RetOk (na : Nat) (g : Hs) (v : Val) (r : Ret) (xs : List (List D)) : Prop where
  rt : retD na g v = some r
  lx : xs.length = na
  out : ∀ (k : Nat) (x : List D), xs[k]? = some x → ∃ b, g[k]? = some (.lst b x)
def OutR (P : List Bool) (na : Nat) (π : Pi) (h : Hs) : OutV → Out × Env' × Hs → Prop
  | .nx ρ1 h1, o => o.1 = .nx ∧ ∃ π1, Rel P na π1 ρ1 o.2.1 h1 o.2.2 ∧ Kp π h π1 h1
  | .bk ρ1 h1, o => o.1 = .bk ∧ ∃ π1, Rel P na π1 ρ1 o.2.1 h1 o.2.2 ∧ Kp π h π1 h1
  | .rt r xs, o => ∃ v, o.1 = .rt v ∧ RetOk na o.2.2 v r xs ∧ ∀ i n ys, π i = some n → h[i]? = some (.lst true ys) → o.2.2[n]? = some (.lst true ys)
section
variable {P : List Bool} {na : Nat} {π π1 π2 : Pi} {h g h1 g1 h2 g2 : Hs} {ρ ρ' ρ1 ρ1' : Env'} {F F' : CallF}
theorem Kp.refl : Kp π h π h := fun _ _ _ a b => ⟨a, b⟩
theorem Kp.trans (a : Kp π h π1 h1) (b : Kp π1 h1 π2 h2) : Kp π h π2 h2 := fun i n ys e1 e2 => b i n ys (a i n ys e1 e2).1 (a i n ys e1 e2).2
theorem St2.kp (s : St2 π h g h1 g1) : Kp π h π h1 := fun i n ys a b => ⟨a, s.kl i _ b rfl⟩
theorem Rel.step (r : Rel P na π ρ ρ' h g) (s : St2 π h g h1 g1) : Rel P na π ρ ρ' h1 g1 :=
  ⟨r.en, r.self, r.al, r.len, s.l1.trans r.lh, s.hp, r.inj, r.par, r.big, by rw [s.l2]; exact r.ng⟩
theorem OutR.back (k : Kp π h π1 h1) {o : OutV} {o' : Out × Env' × Hs} (q : OutR P na π1 h1 o o') : OutR P na π h o o' := by
  cases o with
  | nx ρ1 h2 => exact ⟨q.1, let ⟨π2, a, b⟩ := q.2; ⟨π2, a, k.trans b⟩⟩
  | bk ρ1 h2 => exact ⟨q.1, let ⟨π2, a, b⟩ := q.2; ⟨π2, a, k.trans b⟩⟩
  | rt r xs => exact let ⟨v, a, b, c⟩ := q; ⟨v, a, b, fun i n ys e1 e2 => c i n ys (k i n ys e1 e2).1 (k i n ys e1 e2).2⟩
theorem held_no {i : Nat} (r : Rel P na π ρ ρ' h g) (e : heldV i ρ h = false) : i < ρ.length ∧ ∀ n ys, π i = some n → h[i]? ≠ some (.lst true ys) := by
  unfold heldV at e
  constructor
  · split at e
    · rename_i q; exact (List.getElem?_eq_some_iff.mp q).1
    · rename_i q; exact (List.getElem?_eq_some_iff.mp q).1
    · cases e
  · intro n ys e1 e2
    rw [r.al i n e1] at e
    simp only [e2, O.locked] at e
    cases e
theorem or_no {a b : Bool} {α : Type} {x : Option α} {y : α} (e : (match a || b with | true => none | false => x) = some y) : a = false ∧ b = false ∧ x = some y := by
  cases a <;> cases b <;> first | exact ⟨rfl, rfl, e⟩ | cases e
/-- a name gets no list, or none at all -/
theorem drop_r (r : Rel P na π ρ ρ' h g) {i : Nat} (hP : parV P i = false) (hh : heldV i ρ h = false) (w : Option Val) (ρ1' : Env') (l1 : ρ1'.length = ρ'.length) (hw : ∀ v, w = some v → ∃ d, v = .p d ∧ ρ1'[i]? = some (some (.p d)))
    (hk : ∀ j, j ≠ i → ρ1'[j]? = ρ'[j]?) : Rel P na (fun j => if j = i then none else π j) (ρ.set i w) ρ1' (h.set i dead) g ∧ Kp π h (fun j => if j = i then none else π j) (h.set i dead) := by
  obtain ⟨li, hl⟩ := held_no r hh
  refine ⟨⟨fun j v e => ?_, fun j k e => ?_, fun j n e => ?_, ?_, ?_, fun j n e => ?_, fun j k n e1 e2 => ?_, fun j e => ?_, fun j n e e2 => ?_, r.ng⟩, fun j n ys e1 e2 => ?_⟩
  · by_cases hj : j = i
    · subst hj
      rw [List.getElem?_set_self li] at e
      cases e
      obtain ⟨d, rfl, e3⟩ := hw _ rfl
      exact ⟨_, e3, rfl⟩
    · rw [List.getElem?_set_ne (Ne.symm hj)] at e
      obtain ⟨v', a, b⟩ := r.en j v e
      refine ⟨v', by rw [hk j hj]; exact a, ?_⟩
      cases v with
      | p d => exact b
      | new xs => exact b
      | loc k =>
        obtain ⟨n, z1, z2⟩ := b
        have := r.self j k e
        subst this
        exact ⟨n, by simp only [hj, if_false]; exact z1, z2⟩
  · by_cases hj : j = i
    · subst hj
      rw [List.getElem?_set_self li] at e
      cases e
      obtain ⟨d, z, _⟩ := hw _ rfl
      cases z
    · rw [List.getElem?_set_ne (Ne.symm hj)] at e
      exact r.self j k e
  · by_cases hj : j = i
    · subst hj; simp at e
    · simp only [hj, if_false] at e
      rw [List.getElem?_set_ne (Ne.symm hj)]
      exact r.al j n e
  · rw [l1, List.length_set]; exact r.len
  · rw [List.length_set, List.length_set]; exact r.lh
  · by_cases hj : j = i
    · subst hj; simp at e
    · simp only [hj, if_false] at e
      obtain ⟨k, xs, a, b⟩ := r.hp j n e
      exact ⟨k, xs, by rw [List.getElem?_set_ne (Ne.symm hj)]; exact a, b⟩
  · by_cases hj : j = i
    · subst hj; simp at e1
    · by_cases hk2 : k = i
      · subst hk2; simp at e2
      · simp only [hj, if_false] at e1
        simp only [hk2, if_false] at e2
        exact r.inj j k n e1 e2
  · have hj : j ≠ i := fun z => by rw [z, hP] at e; cases e
    simp only [hj, if_false]; exact r.par j e
  · by_cases hj : j = i
    · subst hj; simp at e
    · simp only [hj, if_false] at e
      exact r.big j n e e2
  · have hj : j ≠ i := fun z => by subst z; exact hl n ys e1 e2
    exact ⟨by simp only [hj, if_false]; exact e1, by rw [List.getElem?_set_ne (Ne.symm hj)]; exact e2⟩
/-- a name gets a new list -/
theorem new_r (r : Rel P na π ρ ρ' h g) {i : Nat} (hP : parV P i = false) (hh : heldV i ρ h = false) (xs : List D) : ∃ π1, Rel P na π1 (ρ.set i (some (.loc i))) (ρ'.set i (some (.loc g.length))) (h.set i (.lst false xs)) (g ++ [.lst false xs]) ∧ Kp π h π1 (h.set i (.lst false xs)) := by
  obtain ⟨li, hl⟩ := held_no r hh
  have gl : ∀ {n : Nat} {o : O}, g[n]? = some o → (g ++ [.lst false xs])[n]? = some o := fun {n o} e => by
    obtain ⟨l, _⟩ := List.getElem?_eq_some_iff.mp e
    rw [List.getElem?_append_left l]; exact e
  have lt : ∀ j n, π j = some n → n < g.length := fun j n e => by
    obtain ⟨k, ys, _, b⟩ := r.hp j n e
    exact (List.getElem?_eq_some_iff.mp b).1
  refine ⟨fun j => if j = i then some g.length else π j, ⟨fun j v e => ?_, fun j k e => ?_, fun j n e => ?_, ?_, ?_, fun j n e => ?_, fun j k n e1 e2 => ?_, fun j e => ?_, fun j n e e2 => ?_, ?_⟩, fun j n ys e1 e2 => ?_⟩
  · by_cases hj : j = i
    · subst hj
      rw [List.getElem?_set_self li] at e
      cases e
      exact ⟨_, List.getElem?_set_self (by rw [r.len]; exact li), g.length, by simp, rfl⟩
    · rw [List.getElem?_set_ne (Ne.symm hj)] at e
      obtain ⟨v', a, b⟩ := r.en j v e
      refine ⟨v', by rw [List.getElem?_set_ne (Ne.symm hj)]; exact a, ?_⟩
      cases v with
      | p d => exact b
      | new xs => exact b
      | loc k =>
        obtain ⟨n, z1, z2⟩ := b
        have := r.self j k e
        subst this
        exact ⟨n, by simp only [hj, if_false]; exact z1, z2⟩
  · by_cases hj : j = i
    · subst hj
      rw [List.getElem?_set_self li] at e
      cases e; rfl
    · rw [List.getElem?_set_ne (Ne.symm hj)] at e
      exact r.self j k e
  · by_cases hj : j = i
    · subst hj; exact List.getElem?_set_self li
    · simp only [hj, if_false] at e
      rw [List.getElem?_set_ne (Ne.symm hj)]
      exact r.al j n e
  · rw [List.length_set, List.length_set]; exact r.len
  · rw [List.length_set, List.length_set]; exact r.lh
  · by_cases hj : j = i
    · subst hj
      simp only [if_true, Option.some.injEq] at e
      subst e
      exact ⟨false, xs, List.getElem?_set_self (by rw [r.lh]; exact li), by rw [List.getElem?_append_right (Nat.le_refl _), Nat.sub_self]; rfl⟩
    · simp only [hj, if_false] at e
      obtain ⟨k, ys, a, b⟩ := r.hp j n e
      exact ⟨k, ys, by rw [List.getElem?_set_ne (Ne.symm hj)]; exact a, gl b⟩
  · by_cases hj : j = i
    · by_cases hk2 : k = i
      · rw [hj, hk2]
      · simp only [hj, if_true, Option.some.injEq] at e1
        simp only [hk2, if_false] at e2
        have := lt k n e2
        omega
    · by_cases hk2 : k = i
      · simp only [hk2, if_true, Option.some.injEq] at e2
        simp only [hj, if_false] at e1
        have := lt j n e1
        omega
      · simp only [hj, if_false] at e1
        simp only [hk2, if_false] at e2
        exact r.inj j k n e1 e2
  · have hj : j ≠ i := fun z => by rw [z, hP] at e; cases e
    simp only [hj, if_false]; exact r.par j e
  · by_cases hj : j = i
    · subst hj
      simp only [if_true, Option.some.injEq] at e
      subst e
      exact r.ng
    · simp only [hj, if_false] at e
      exact r.big j n e e2
  · rw [List.length_append]; have := r.ng; omega
  · have hj : j ≠ i := fun z => by subst z; exact hl n ys e1 e2
    exact ⟨by simp only [hj, if_false]; exact e1, by rw [List.getElem?_set_ne (Ne.symm hj)]; exact e2⟩
/-- a name gets another name's list -/
theorem move_r (r : Rel P na π ρ ρ' h g) {i j n : Nat} {xs : List D} (hP : parV P i = false) (hh : heldV i ρ h = false) (hij : i ≠ j) (hPj : parV P j = false) (ej : π j = some n) (hx : h[j]? = some (.lst false xs)) :
    ∃ π1, Rel P na π1 ((ρ.set j none).set i (some (.loc i))) (ρ'.set i (some (.loc n))) ((h.set j dead).set i (.lst false xs)) g ∧ Kp π h π1 ((h.set j dead).set i (.lst false xs)) := by
  obtain ⟨li, hl⟩ := held_no r hh
  have lj : j < ρ.length := by rw [← r.lh]; exact (List.getElem?_eq_some_iff.mp hx).1
  have li' : i < (ρ.set j none).length := by rw [List.length_set]; exact li
  refine ⟨fun k => if k = i then some n else if k = j then none else π k, ⟨fun k v e => ?_, fun k m e => ?_, fun k m e => ?_, ?_, ?_, fun k m e => ?_, fun k m q e1 e2 => ?_, fun k e => ?_, fun k m e e2 => ?_, r.ng⟩, fun k m ys e1 e2 => ?_⟩
  · by_cases hk : k = i
    · subst hk
      rw [List.getElem?_set_self li'] at e
      cases e
      exact ⟨_, List.getElem?_set_self (by rw [r.len]; exact li), n, by simp, rfl⟩
    · rw [List.getElem?_set_ne (Ne.symm hk)] at e
      by_cases hk2 : k = j
      · subst hk2
        rw [List.getElem?_set_self lj] at e
        cases e
      · rw [List.getElem?_set_ne (Ne.symm hk2)] at e
        obtain ⟨v', a, b⟩ := r.en k v e
        refine ⟨v', by rw [List.getElem?_set_ne (Ne.symm hk)]; exact a, ?_⟩
        cases v with
        | p d => exact b
        | new xs => exact b
        | loc m =>
          obtain ⟨n', z1, z2⟩ := b
          have := r.self k m e
          subst this
          exact ⟨n', by simp only [hk, hk2, if_false]; exact z1, z2⟩
  · by_cases hk : k = i
    · subst hk
      rw [List.getElem?_set_self li'] at e
      cases e; rfl
    · rw [List.getElem?_set_ne (Ne.symm hk)] at e
      by_cases hk2 : k = j
      · subst hk2
        rw [List.getElem?_set_self lj] at e
        cases e
      · rw [List.getElem?_set_ne (Ne.symm hk2)] at e
        exact r.self k m e
  · by_cases hk : k = i
    · subst hk; exact List.getElem?_set_self li'
    · simp only [hk, if_false] at e
      by_cases hk2 : k = j
      · subst hk2; simp at e
      · simp only [hk2, if_false] at e
        rw [List.getElem?_set_ne (Ne.symm hk), List.getElem?_set_ne (Ne.symm hk2)]
        exact r.al k m e
  · rw [List.length_set, List.length_set, List.length_set]; exact r.len
  · rw [List.length_set, List.length_set, List.length_set, List.length_set]; exact r.lh
  · by_cases hk : k = i
    · subst hk
      simp only [if_true, Option.some.injEq] at e
      subst e
      obtain ⟨b, ys, q1, q2⟩ := r.hp j n ej
      rw [hx] at q1; cases q1
      exact ⟨false, xs, List.getElem?_set_self (by rw [List.length_set, r.lh]; exact li), q2⟩
    · simp only [hk, if_false] at e
      by_cases hk2 : k = j
      · subst hk2; simp at e
      · simp only [hk2, if_false] at e
        obtain ⟨b, ys, q1, q2⟩ := r.hp k m e
        exact ⟨b, ys, by rw [List.getElem?_set_ne (Ne.symm hk), List.getElem?_set_ne (Ne.symm hk2)]; exact q1, q2⟩
  · -- one list, one name
    have un : ∀ k m, (if k = i then some n else if k = j then none else π k) = some m → ∃ k', π k' = some m ∧ ((k = i ∧ k' = j) ∨ (k ≠ i ∧ k ≠ j ∧ k' = k)) := by
      intro k m e
      by_cases hk : k = i
      · simp only [hk, if_true, Option.some.injEq] at e
        exact ⟨j, e ▸ ej, .inl ⟨hk, rfl⟩⟩
      · simp only [hk, if_false] at e
        by_cases hk2 : k = j
        · subst hk2; simp at e
        · simp only [hk2, if_false] at e
          exact ⟨k, e, .inr ⟨hk, hk2, rfl⟩⟩
    obtain ⟨a, a1, a2⟩ := un k q e1
    obtain ⟨b, b1, b2⟩ := un m q e2
    have := r.inj a b q a1 b1
    rcases a2 with ⟨x1, x2⟩ | ⟨x1, x2, x3⟩ <;> rcases b2 with ⟨y1, y2⟩ | ⟨y1, y2, y3⟩ <;> omega
  · have hk : k ≠ i := fun z => by rw [z, hP] at e; cases e
    have hk2 : k ≠ j := fun z => by rw [z, hPj] at e; cases e
    simp only [hk, hk2, if_false]; exact r.par k e
  · by_cases hk : k = i
    · subst hk
      simp only [if_true, Option.some.injEq] at e
      subst e
      exact r.big j n ej hPj
    · simp only [hk, if_false] at e
      by_cases hk2 : k = j
      · subst hk2; simp at e
      · simp only [hk2, if_false] at e
        exact r.big k m e e2
  · have hk : k ≠ i := fun z => by subst z; exact hl m ys e1 e2
    have hk2 : k ≠ j := fun z => by subst z; rw [hx] at e2; cases e2
    exact ⟨by simp only [hk, hk2, if_false]; exact e1, by rw [List.getElem?_set_ne (Ne.symm hk), List.getElem?_set_ne (Ne.symm hk2)]; exact e2⟩
theorem bind_r (r : Rel P na π ρ ρ' h g) {i : Nat} {v v' : Val} (rv : vR π v v') (e : bindV P i v ρ h = some (ρ1, h1)) : ∃ π1, Rel P na π1 ρ1 (ρ'.set i (some (bind v' g).1)) h1 (bind v' g).2 ∧ Kp π h π1 h1 := by
  unfold bindV at e
  obtain ⟨hP, hh, e⟩ := or_no e
  cases v with
  | p d =>
    cases rv
    simp only [Option.some.injEq, Prod.mk.injEq] at e
    obtain ⟨rfl, rfl⟩ := e
    have li := (held_no r hh).1
    obtain ⟨a, b⟩ := drop_r r hP hh (some (.p d)) (ρ'.set i (some (.p d))) (List.length_set ..) (fun v e => by cases e; exact ⟨d, rfl, List.getElem?_set_self (by rw [r.len]; exact li)⟩) fun j hj => List.getElem?_set_ne (Ne.symm hj)
    exact ⟨_, a, b⟩
  | new xs =>
    cases rv
    simp only [Option.some.injEq, Prod.mk.injEq] at e
    obtain ⟨rfl, rfl⟩ := e
    exact new_r r hP hh xs
  | loc j =>
    obtain ⟨n, z1, rfl⟩ := rv
    simp only at e
    obtain ⟨hij, hPj, e⟩ := or_no e
    split at e
    · rename_i xs ex
      simp only [Option.some.injEq, Prod.mk.injEq] at e
      obtain ⟨rfl, rfl⟩ := e
      have ne : i ≠ j := fun z => by subst z; rw [Nat.beq_refl] at hij; cases hij
      exact move_r r hP hh ne hPj z1 ex
    · cases e
theorem kill_r : ∀ {is : List Nat} {π : Pi} {ρ : Env'} {h : Hs}, Rel P na π ρ ρ' h g → killV P is ρ h = some (ρ1, h1) → ∃ π1, Rel P na π1 ρ1 ρ' h1 g ∧ Kp π h π1 h1
  | [], π, ρ, h, r, e => by
    simp only [killV, Option.some.injEq, Prod.mk.injEq] at e
    obtain ⟨rfl, rfl⟩ := e
    exact ⟨π, r, .refl⟩
  | i :: is, π, ρ, h, r, e => by
    simp only [killV] at e
    obtain ⟨hP, hh, e⟩ := or_no e
    obtain ⟨a, b⟩ := drop_r r hP hh none ρ' rfl (fun v e => by cases e) fun _ _ => rfl
    obtain ⟨π1, c, d⟩ := kill_r a e
    exact ⟨π1, c, b.trans d⟩
theorem setAll_r : ∀ {is : List Nat} {ds : List D} {π : Pi} {ρ ρ' : Env'} {h : Hs}, Rel P na π ρ ρ' h g → setAllV P is ds ρ h = some (ρ1, h1) → ∃ π1 ρ1', setAll is ds ρ' = some ρ1' ∧ Rel P na π1 ρ1 ρ1' h1 g ∧ Kp π h π1 h1
  | [], [], π, ρ, ρ', h, r, e => by
    simp only [setAllV, Option.some.injEq, Prod.mk.injEq] at e
    obtain ⟨rfl, rfl⟩ := e
    exact ⟨π, ρ', rfl, r, .refl⟩
  | i :: is, d :: ds, π, ρ, ρ', h, r, e => by
    simp only [setAllV, Option.bind_eq_some_iff] at e
    obtain ⟨⟨ρ2, h2⟩, e1, e2⟩ := e
    obtain ⟨π2, a, b⟩ := bind_r r (v := .p d) rfl e1
    obtain ⟨π1, ρ1', c, q, f⟩ := setAll_r a e2
    exact ⟨π1, ρ1', c, q, b.trans f⟩
  | [], _ :: _, _, _, _, _, _, e => by cases e
  | _ :: _, [], _, _, _, _, _, e => by cases e
theorem setTgV_r {t : Tg} {x : Val} (r : Rel P na π ρ ρ' h g) (e : setTgV P t x ρ h = some (ρ1, h1)) : ∃ π1 ρ1', setTg t x ρ' = some ρ1' ∧ Rel P na π1 ρ1 ρ1' h1 g ∧ Kp π h π1 h1 := by
  cases x with
  | p d =>
    cases t with
    | nm i =>
      obtain ⟨π1, a, b⟩ := bind_r r (v := .p d) rfl e
      exact ⟨π1, _, rfl, a, b⟩
    | tp is =>
      cases d with
      | tup ds => exact setAll_r r e
      | _ => cases e
  | _ => cases e
theorem bindAll_r : ∀ {is : List Nat} {vs vs' : List Val} {π : Pi} {ρ ρ' : Env'} {h g : Hs}, Rel P na π ρ ρ' h g → vRs π vs vs' → bindAllV P is vs ρ h = some (ρ1, h1) → ∃ π1 q, bindAll is vs' ρ' g = some q ∧ Rel P na π1 ρ1 q.1 h1 q.2 ∧ Kp π h π1 h1
  | [], [], _, π, ρ, ρ', h, g, r, rv, e => by
    cases rv
    simp only [bindAllV, Option.some.injEq, Prod.mk.injEq] at e
    obtain ⟨rfl, rfl⟩ := e
    exact ⟨π, (ρ', g), rfl, r, .refl⟩
  | i :: is, v :: vs, _, π, ρ, ρ', h, g, r, rv, e => by
    obtain ⟨v', s, rfl, r1, r2⟩ := rv
    -- data and new lists stand whatever names hold
    have any : nloc v = true → ∀ π', vR π' v v' := fun z π' => by cases v <;> first | exact r1 | cases z
    cases hv : nloc v with
    | false =>
      cases v with
      | loc j => cases e
      | p d => cases hv
      | new d => cases hv
    | true =>
      have e' : (bindV P i v ρ h).bind (fun q => bindAllV P is vs q.1 q.2) = some (ρ1, h1) := by cases v <;> first | exact e | cases hv
      rw [Option.bind_eq_some_iff] at e'
      obtain ⟨⟨ρ2, h2⟩, e1, e2⟩ := e'
      obtain ⟨π2, a, b⟩ := bind_r r r1 e1
      -- the rest of the values are no names' lists either
      have r3 : vRs π2 vs s := by
        clear e1 a b
        have all : ∀ {is : List Nat} {vs : List Val} {ρ2 : Env'} {h2 : Hs}, bindAllV P is vs ρ2 h2 = some (ρ1, h1) → ∀ w ∈ vs, nloc w = true := by
          intro is vs
          induction vs generalizing is with
          | nil => intro _ _ _ w m; cases m
          | cons w ws ih =>
            intro ρ2 h2 e u m
            cases is with
            | nil => cases e
            | cons i is =>
              cases w with
              | loc j => cases e
              | p d =>
                simp only [bindAllV, Option.bind_eq_some_iff] at e
                obtain ⟨q, _, e⟩ := e
                rcases List.mem_cons.mp m with rfl | m
                · rfl
                · exact ih e u m
              | new d =>
                simp only [bindAllV, Option.bind_eq_some_iff] at e
                obtain ⟨q, _, e⟩ := e
                rcases List.mem_cons.mp m with rfl | m
                · rfl
                · exact ih e u m
        have av := all e2
        clear all e2 e any r1
        induction vs generalizing s with
        | nil => cases r2; rfl
        | cons w ws ih =>
          obtain ⟨w', t, rfl, k1, k2⟩ := r2
          refine ⟨w', t, rfl, ?_, ih t k2 fun u m => av u (List.mem_cons_of_mem _ m)⟩
          have := av w List.mem_cons_self
          cases w <;> first | exact k1 | cases this
      obtain ⟨π1, q, c, d, f⟩ := bindAll_r a r3 e2
      exact ⟨π1, q, c, d, b.trans f⟩
  | [], _ :: _, _, _, _, _, _, _, _, _, e => by cases e
  | _ :: _, [], _, _, _, _, _, _, _, _, e => by cases e
end
end MP

/-! ## EngVe.lean -/
set_option Elab.async false
set_option linter.all false
set_option maxRecDepth 100000
namespace MP
open PySem PySem.Spec PyProof.Rows L2
section
variable {P : List Bool} {na : Nat} {π π1 π2 : Pi} {h g h1 g1 h2 g2 : Hs} {ρ ρ' ρ1 ρ1' : Env'} {F F' : CallF}
/-! ### the end of a def -/
theorem outs_r : ∀ (P P0 : List Bool) (xs : List (List D)), (∀ i, i < P0.length + P.length → parV (P0 ++ P) i = true → π i = some (rankV (P0 ++ P) i)) → HpR π h g → outsV h P P0.length = some xs →
    xs.length = P.countP id ∧ ∀ (k : Nat) (x : List D), xs[k]? = some x → ∃ b, g[P0.countP id + k]? = some (.lst b x)
  | [], P0, xs, _, _, e => by
    simp only [outsV, Option.some.injEq] at e
    subst e
    exact ⟨rfl, fun k x q => by simp at q⟩
  | false :: P, P0, xs, hp, hh, e => by
    have e' : outsV h P (P0 ++ [false]).length = some xs := by simpa [outsV] using e
    obtain ⟨a, b⟩ := outs_r P (P0 ++ [false]) xs (by
      intro i hi pe
      rw [List.append_assoc] at pe ⊢
      exact hp i (by simp at hi ⊢; omega) pe) hh e'
    refine ⟨by simpa using a, fun k x q => ?_⟩
    have := b k x q
    simpa [List.countP_append] using this
  | true :: P, P0, xs, hp, hh, e => by
    simp only [outsV] at e
    split at e
    · rename_i b ys ey
      rw [Option.map_eq_some_iff] at e
      obtain ⟨zs, e1, rfl⟩ := e
      have e' : outsV h P (P0 ++ [true]).length = some zs := by simpa using e1
      obtain ⟨a1, a2⟩ := outs_r P (P0 ++ [true]) zs (by
        intro i hi pe
        rw [List.append_assoc] at pe ⊢
        exact hp i (by simp at hi ⊢; omega) pe) hh e'
      have pp : parV (P0 ++ true :: P) P0.length = true := by
        unfold parV
        rw [List.getElem?_append_right (Nat.le_refl _), Nat.sub_self]
        rfl
      have q1 := hp P0.length (by simp) pp
      have rk : rankV (P0 ++ true :: P) P0.length = P0.countP id := by
        unfold rankV
        rw [List.take_left']
        rfl
      rw [rk] at q1
      obtain ⟨c, ws, q2, q3⟩ := hh _ _ q1
      rw [ey] at q2
      cases q2
      refine ⟨by simp [a1], fun k x q => ?_⟩
      cases k with
      | zero =>
        simp only [List.getElem?_cons_zero, Option.some.injEq] at q
        subst q
        exact ⟨b, q3⟩
      | succ k =>
        simp only [List.getElem?_cons_succ] at q
        obtain ⟨c, q4⟩ := a2 k x q
        refine ⟨c, ?_⟩
        rw [List.countP_append] at q4
        simpa [Nat.add_assoc, Nat.add_comm, Nat.add_left_comm] using q4
    · cases e
theorem rank_lt {i : Nat} (e : parV P i = true) : rankV P i < P.countP id := by
  unfold parV at e
  split at e
  · rename_i b q
    subst e
    obtain ⟨l, q⟩ := List.getElem?_eq_some_iff.mp q
    have : P = P.take i ++ P[i] :: P.drop (i + 1) := by
      rw [← List.drop_eq_getElem_cons l, List.take_append_drop]
    unfold rankV
    rw [show P.countP id = (P.take i ++ P[i] :: P.drop (i + 1)).countP id from congrArg _ this]
    rw [List.countP_append, q]
    simp
  · cases e
theorem end_r {v v' : Val} {o : OutV} (r : Rel P (P.countP id) π ρ ρ' h g) (rv : vR π v v') (e : endV P v h = some o) : ∃ t xs, o = .rt t xs ∧ RetOk (P.countP id) g v' t xs := by
  unfold endV at e
  rw [Option.bind_eq_some_iff] at e
  obtain ⟨t, e1, e2⟩ := e
  rw [Option.map_eq_some_iff] at e2
  obtain ⟨xs, e2, rfl⟩ := e2
  obtain ⟨a, b⟩ := outs_r (π := π) (g := g) P [] xs (fun i _ pe => r.par i pe) r.hp e2
  refine ⟨t, xs, rfl, ?_, a, fun k x q => by simpa using b k x q⟩
  cases v with
  | p d => cases rv; exact e1
  | new ys => cases rv; exact e1
  | loc i =>
    obtain ⟨n, z1, rfl⟩ := rv
    simp only [retDV] at e1
    split at e1
    · rename_i hp
      simp only [Option.some.injEq] at e1
      subst e1
      have := r.par i hp
      rw [z1] at this
      cases this
      have lt := rank_lt hp
      simp only [retD, show Nat.blt (rankV P i) (P.countP id) = true from Nat.ble_eq_true_of_le lt, if_true]
    · rename_i hp
      have ge := r.big i n z1 hp
      split at e1
      · rename_i b ys q
        simp only [Option.some.injEq] at e1
        subst e1
        obtain ⟨c, ws, q2, q3⟩ := r.hp i n z1
        rw [q] at q2
        cases q2
        have nb : ¬ Nat.blt n (P.countP id) = true := fun z => by
          have := Nat.le_of_ble_eq_true z
          omega
        simp only [retD, nb, if_false, q3]
        simp
      · cases e1
theorem RetOk.set {v : Val} {t : Ret} {xs : List (List D)} (r : RetOk na g v t xs) {n : Nat} {k : Bool} {ys : List D} (e : g[n]? = some (.lst true ys)) : RetOk na (g.set n (.lst k ys)) v t xs := by
  obtain ⟨l, _⟩ := List.getElem?_eq_some_iff.mp e
  refine ⟨?_, r.lx, fun j x q => ?_⟩
  · have q := r.rt
    cases v with
    | p d => exact q
    | new zs => exact q
    | loc m =>
      simp only [retD] at q ⊢
      split at q
      · rename_i c; rw [if_pos c]; exact q
      · rename_i c
        rw [if_neg c]
        by_cases hm : n = m
        · subst hm
          rw [e] at q
          rw [List.getElem?_set_self l]
          exact q
        · rw [List.getElem?_set_ne hm]; exact q
  · obtain ⟨b, q1⟩ := r.out j x q
    by_cases hm : n = j
    · subst hm
      rw [e] at q1
      cases q1
      exact ⟨k, List.getElem?_set_self l⟩
    · exact ⟨b, by rw [List.getElem?_set_ne hm]; exact q1⟩

/-! ### loops -/
theorem forGo_r {f : Val → Env' → Hs → Option OutV} {f' : Val → Env' → Hs → Option (Out × Env' × Hs)}
    (hf : ∀ x π ρ ρ' h g o, Rel P na π ρ ρ' h g → f x ρ h = some o → ∃ o', f' x ρ' g = some o' ∧ OutR P na π h o o') :
    ∀ (xs : List Val) (π : Pi) (ρ ρ' : Env') (h g : Hs) (o : OutV), Rel P na π ρ ρ' h g → forGoV f xs ρ h = some o → ∃ o', forGo f' xs ρ' g = some o' ∧ OutR P na π h o o'
  | [], π, ρ, ρ', h, g, o, r, e => by
    simp only [forGoV, Option.some.injEq] at e
    subst e
    exact ⟨_, rfl, rfl, π, r, .refl⟩
  | x :: xs, π, ρ, ρ', h, g, o, r, e => by
    simp only [forGoV, Option.bind_eq_some_iff] at e
    obtain ⟨o1, e1, e2⟩ := e
    obtain ⟨⟨a1, a2, a3⟩, q1, q2⟩ := hf x π ρ ρ' h g o1 r e1
    cases o1 with
    | nx ρ1 h1 =>
      obtain ⟨rfl, π1, r1, k1⟩ := q2
      obtain ⟨o', q3, q4⟩ := forGo_r hf xs π1 ρ1 a2 h1 a3 o r1 e2
      exact ⟨o', by simp only [forGo, q1, q3], q4.back k1⟩
    | bk ρ1 h1 =>
      obtain ⟨rfl, π1, r1, k1⟩ := q2
      simp only [Option.some.injEq] at e2
      subst e2
      exact ⟨(.nx, a2, a3), by simp only [forGo, q1], rfl, π1, r1, k1⟩
    | rt t ys =>
      obtain ⟨v, rfl, q3, q4⟩ := q2
      simp only [Option.some.injEq] at e2
      subst e2
      exact ⟨(.rt v, a2, a3), by simp only [forGo, q1], v, rfl, q3, q4⟩
theorem whlGo_r {c : Env' → Hs → Option (Bool × Hs)} {c' : Env' → Hs → Option (Bool × Hs)} {f : Env' → Hs → Option OutV} {f' : Env' → Hs → Option (Out × Env' × Hs)}
    (hc : ∀ π ρ ρ' h g b h1, Rel P na π ρ ρ' h g → c ρ h = some (b, h1) → ∃ g1, c' ρ' g = some (b, g1) ∧ Rel P na π ρ ρ' h1 g1 ∧ Kp π h π h1)
    (hf : ∀ π ρ ρ' h g o, Rel P na π ρ ρ' h g → f ρ h = some o → ∃ o', f' ρ' g = some o' ∧ OutR P na π h o o') :
    ∀ (n : Nat) (π : Pi) (ρ ρ' : Env') (h g : Hs) (o : OutV), Rel P na π ρ ρ' h g → whlGoV c f n ρ h = some o → ∃ o', whlGo c' f' n ρ' g = some o' ∧ OutR P na π h o o'
  | 0, π, ρ, ρ', h, g, o, r, e => by cases e
  | n + 1, π, ρ, ρ', h, g, o, r, e => by
    simp only [whlGoV, Option.bind_eq_some_iff] at e
    obtain ⟨⟨b, h1⟩, e1, e2⟩ := e
    obtain ⟨g1, q1, r1, k1⟩ := hc π ρ ρ' h g b h1 r e1
    cases b with
    | false =>
      simp only [Option.some.injEq] at e2
      subst e2
      exact ⟨(.nx, ρ', g1), by simp only [whlGo, q1], rfl, π, r1, k1⟩
    | true =>
      simp only [Option.bind_eq_some_iff] at e2
      obtain ⟨o1, e2, e3⟩ := e2
      obtain ⟨⟨a1, a2, a3⟩, q2, q3⟩ := hf π ρ ρ' h1 g1 o1 r1 e2
      cases o1 with
      | nx ρ1 h2 =>
        obtain ⟨rfl, π1, r2, k2⟩ := q3
        obtain ⟨o', q4, q5⟩ := whlGo_r hc hf n π1 ρ1 a2 h2 a3 o r2 e3
        exact ⟨o', by simp only [whlGo, q1, q2, q4], (q5.back k2).back k1⟩
      | bk ρ1 h2 =>
        obtain ⟨rfl, π1, r2, k2⟩ := q3
        simp only [Option.some.injEq] at e3
        subst e3
        exact ⟨(.nx, a2, a3), by simp only [whlGo, q1, q2], rfl, π1, r2, k1.trans k2⟩
      | rt t ys =>
        obtain ⟨v, rfl, q4, q5⟩ := q3
        simp only [Option.some.injEq] at e3
        subst e3
        exact ⟨(.rt v, a2, a3), by simp only [whlGo, q1, q2], (OutR.back (o := .rt t ys) k1 ⟨v, rfl, q4, q5⟩)⟩
/-- unlocked again -/
theorem unlock_r {o : OutV} {o' : Out × Env' × Hs} {w w' : Walk} (inj : Inj π) (kk : Kp π h π h1) (kb : (w.back = none ∧ w'.back = none) ∨ ∃ i n k xs, π i = some n ∧ (∀ o, h[i]? = some o → o.locked = true → o = .lst k xs) ∧ w.back = some (i, .lst k xs) ∧ w'.back = some (n, .lst k xs) ∧ h1[i]? = some (.lst true xs))
    (q : OutR P na π h1 o o') : OutR P na π h (unlockV w.back o) (o'.1, o'.2.1, unlock w'.back o'.2.2) := by
  rcases kb with ⟨z1, z2⟩ | ⟨i, n, k, xs, z1, z2, z3, z4, z5⟩
  · rw [z1, z2]
    have : unlockV none o = o := by cases o <;> rfl
    rw [this]
    exact q.back kk
  · rw [z3, z4]
    have main : ∀ (ρ1 : Env') (h2 : Hs) (π1 : Pi), Rel P na π1 ρ1 o'.2.1 h2 o'.2.2 → Kp π h1 π1 h2 → ∃ π1, Rel P na π1 ρ1 o'.2.1 (h2.set i (.lst k xs)) (o'.2.2.set n (.lst k xs)) ∧ Kp π h π1 (h2.set i (.lst k xs)) := by
      intro ρ1 h2 π1 r1 k1
      obtain ⟨a1, a2⟩ := k1 i n xs z1 z5
      obtain ⟨li, _⟩ := List.getElem?_eq_some_iff.mp a2
      refine ⟨π1, ⟨r1.en, r1.self, r1.al, r1.len, by rw [List.length_set]; exact r1.lh, r1.hp.set r1.inj a1 k xs, r1.inj, r1.par, r1.big, by rw [List.length_set]; exact r1.ng⟩, fun j m ys e1 e2 => ?_⟩
      obtain ⟨b1, b2⟩ := kk j m ys e1 e2
      obtain ⟨c1, c2⟩ := k1 j m ys b1 b2
      refine ⟨c1, ?_⟩
      by_cases hj : i = j
      · subst hj
        have := z2 _ e2 rfl
        cases this
        exact List.getElem?_set_self li
      · rw [List.getElem?_set_ne hj]; exact c2
    cases o with
    | nx ρ1 h2 =>
      obtain ⟨e, π1, r1, k1⟩ := q
      exact ⟨e, main ρ1 h2 π1 r1 k1⟩
    | bk ρ1 h2 =>
      obtain ⟨e, π1, r1, k1⟩ := q
      exact ⟨e, main ρ1 h2 π1 r1 k1⟩
    | rt t ys =>
      obtain ⟨v, e, r1, k1⟩ := q
      have b0 := k1 i n xs z1 z5
      refine ⟨v, e, r1.set b0, fun j m zs e1 e2 => ?_⟩
      obtain ⟨b1, b2⟩ := kk j m zs e1 e2
      have c2 := k1 j m zs b1 b2
      show (o'.2.2.set n (.lst k xs))[m]? = _
      by_cases hm : n = m
      · subst hm
        rw [b0] at c2
        cases c2
        obtain ⟨ln, _⟩ := List.getElem?_eq_some_iff.mp b0
        rw [List.getElem?_set_self ln]
        -- what was locked ahead of the loop is given back locked
        have hj : i = j := inj i j n z1 e1
        subst hj
        have := z2 _ e2 rfl
        cases this
        rfl
      · rw [List.getElem?_set_ne hm]; exact c2
theorem setV_r {n m : Nat} {k : Int} {d : D} (r : Rel P na π ρ ρ' h g) (z : π n = some m) (e : setV h n k d = some h1) : ∃ g1, setV g m k d = some g1 ∧ Rel P na π ρ ρ' h1 g1 ∧ Kp π h π h1 := by
  obtain ⟨b, xs, q1, q2⟩ := r.hp n m z
  unfold setV at e
  rw [q1] at e
  cases b with
  | true => cases e
  | false =>
    simp only at e
    split at e
    · rename_i j ej
      simp only [Option.some.injEq] at e
      subst e
      refine ⟨g.set m (.lst false (xs.set j d)), by simp only [setV, q2, ej], ⟨r.en, r.self, r.al, r.len, by rw [List.length_set]; exact r.lh, r.hp.set r.inj z _ _, r.inj, r.par, r.big, by rw [List.length_set]; exact r.ng⟩, fun j' m' ys e1 e2 => ⟨e1, ?_⟩⟩
      have hj : n ≠ j' := fun z => by subst z; rw [q1] at e2; cases e2
      rw [List.getElem?_set_ne hj]; exact e2
    · cases e
theorem appV_r {n m : Nat} {d : D} (r : Rel P na π ρ ρ' h g) (z : π n = some m) (e : appV h n (.p d) = some h1) : (∀ v, frzD v = some d → ∃ g1, appV g m v = some g1 ∧ Rel P na π ρ ρ' h1 g1 ∧ Kp π h π h1) := by
  intro v ev
  obtain ⟨b, xs, q1, q2⟩ := r.hp n m z
  simp only [appV, frzD, q1] at e
  cases b with
  | true => cases e
  | false =>
    simp only at e
    split at e
    · rename_i hl
      simp only [Option.some.injEq] at e
      subst e
      refine ⟨g.set m (.lst false (xs ++ [d])), ?_, ⟨r.en, r.self, r.al, r.len, by rw [List.length_set]; exact r.lh, r.hp.set r.inj z _ _, r.inj, r.par, r.big, by rw [List.length_set]; exact r.ng⟩, fun j' m' ys e1 e2 => ⟨e1, ?_⟩⟩
      · cases v with
        | loc j => cases ev
        | p d' => simp only [appV, ev, q2, hl, if_true]
        | new d' => simp only [appV, ev, q2, hl, if_true]
      · have hj : n ≠ j' := fun z => by subst z; rw [q1] at e2; cases e2
        rw [List.getElem?_set_ne hj]; exact e2
    · cases e
theorem extV_r {n m : Nat} {v v' : Val} (r : Rel P na π ρ ρ' h g) (z : π n = some m) (rv : vR π v v') (e : extV h n v = some h1) : ∃ g1, extV g m v' = some g1 ∧ Rel P na π ρ ρ' h1 g1 ∧ Kp π h π h1 := by
  obtain ⟨b, xs, q1, q2⟩ := r.hp n m z
  unfold extV at e
  split at e
  · rename_i ys es
    rw [q1] at e
    cases b with
    | true => cases e
    | false =>
      simp only at e
      split at e
      · rename_i hl
        simp only [Option.some.injEq] at e
        subst e
        refine ⟨g.set m (.lst false (xs ++ ys)), by simp only [extV, seqD_r r.hp rv, es, q2, hl, if_true], ⟨r.en, r.self, r.al, r.len, by rw [List.length_set]; exact r.lh, r.hp.set r.inj z _ _, r.inj, r.par, r.big, by rw [List.length_set]; exact r.ng⟩, fun j' m' ys e1 e2 => ⟨e1, ?_⟩⟩
        have hj : n ≠ j' := fun z => by subst z; rw [q1] at e2; cases e2
        rw [List.getElem?_set_ne hj]; exact e2
      · cases e
  · cases e
/-- what no name holds may change -/
theorem Rel.apart {m : Nat} {o : O} (r : Rel P na π ρ ρ' h g) (no : ∀ j, π j ≠ some m) : Rel P na π ρ ρ' h (g.set m o) :=
  ⟨r.en, r.self, r.al, r.len, r.lh, fun i n e => let ⟨k, xs, a, b⟩ := r.hp i n e; ⟨k, xs, a, by rw [List.getElem?_set_ne (show m ≠ n from fun z => no i (z ▸ e))]; exact b⟩, r.inj, r.par, r.big, by rw [List.length_set]; exact r.ng⟩
end
end MP

/-! ## EngVf.lean -/
set_option Elab.async false
set_option linter.all false
set_option maxRecDepth 100000
namespace MP
open PySem PySem.Spec PyProof.Rows L2
section
variable {P : List Bool} {π π1 π2 : Pi} {h g h1 g1 h2 g2 : Hs} {ρ ρ' ρ1 ρ1' : Env'} {F F' : CallF}
variable (rf : Ref F F')
include rf
mutual
theorem rS : ∀ (s : SV) (π : Pi) (ρ ρ' : Env') (h g : Hs) (o : OutV), Rel P (P.countP id) π ρ ρ' h g → evSV F P s ρ h = some o → ∃ o', evS F' (erS s) ρ' g = some o' ∧ OutR P (P.countP id) π h o o'
  | .asg i e, π, ρ, ρ', h, g, o, r, q => by
    simp only [evSV, Option.bind_eq_some_iff, Option.map_eq_some_iff] at q
    obtain ⟨⟨v, h1⟩, e1, ⟨ρ2, h2⟩, e2, rfl⟩ := q
    obtain ⟨v', g1, k1, r1, s1⟩ := rE r.inj rf e ρ ρ' h g v h1 r.en r.len r.hp e1
    obtain ⟨π1, a, b⟩ := bind_r (r.step s1) r1 e2
    exact ⟨(.nx, _, _), by simp only [erS, evS, k1], rfl, π1, a, s1.kp.trans b⟩
  | .tup is e, π, ρ, ρ', h, g, o, r, q => by
    simp only [evSV, Option.bind_eq_some_iff] at q
    obtain ⟨⟨v, h1⟩, e1, e2⟩ := q
    obtain ⟨v', g1, k1, r1, s1⟩ := rE r.inj rf e ρ ρ' h g v h1 r.en r.len r.hp e1
    cases v with
    | p d =>
      cases r1
      cases d with
      | tup ds =>
        simp only [Option.map_eq_some_iff] at e2
        obtain ⟨⟨ρ2, h2⟩, e2, rfl⟩ := e2
        obtain ⟨π1, ρ1', c, a, b⟩ := setAll_r (r.step s1) e2
        exact ⟨(.nx, ρ1', g1), by simp only [erS, evS, k1, c], rfl, π1, a, s1.kp.trans b⟩
      | _ => cases e2
    | _ => cases e2
  | .par is es, π, ρ, ρ', h, g, o, r, q => by
    simp only [evSV, Option.bind_eq_some_iff, Option.map_eq_some_iff] at q
    obtain ⟨⟨v, h1⟩, e1, ⟨ρ2, h2⟩, e2, rfl⟩ := q
    obtain ⟨v', g1, k1, r1, s1⟩ := rEs r.inj rf es ρ ρ' h g v h1 r.en r.len r.hp e1
    obtain ⟨π1, ⟨c1, c2⟩, c, a, b⟩ := bindAll_r (r.step s1) r1 e2
    exact ⟨(.nx, c1, c2), by simp only [erS, evS, k1, c], rfl, π1, a, s1.kp.trans b⟩
  | .set ob ix e, π, ρ, ρ', h, g, o, r, q => by
    simp only [evSV, Option.bind_eq_some_iff] at q
    obtain ⟨⟨v, h1⟩, e1, d, ed, ⟨w, h2⟩, e2, q⟩ := q
    obtain ⟨v', g1, k1, r1, s1⟩ := rE r.inj rf e ρ ρ' h g v h1 r.en r.len r.hp e1
    obtain ⟨w', g2, k2, r2, s2⟩ := rE r.inj rf ob ρ ρ' h1 g1 w h2 r.en r.len s1.hp e2
    cases w with
    | loc n =>
      simp only [Option.bind_eq_some_iff] at q
      obtain ⟨⟨u, h3⟩, e3, q⟩ := q
      obtain ⟨u', g3, k3, r3, s3⟩ := rE r.inj rf ix ρ ρ' h2 g2 u h3 r.en r.len s2.hp e3
      cases u with
      | p du =>
        cases r3
        cases du with
        | int k =>
          simp only [Option.map_eq_some_iff] at q
          obtain ⟨h4, e4, rfl⟩ := q
          obtain ⟨m, z1, rfl⟩ := r2
          obtain ⟨g4, k4, a, b⟩ := setV_r (((r.step s1).step s2).step s3) z1 e4
          exact ⟨(.nx, ρ', g4), by simp only [erS, evS, k1, frzD_r r1, ed, k2, k3, k4], rfl, π, a, ((s1.kp.trans s2.kp).trans s3.kp).trans b⟩
        | _ => cases q
      | _ => cases q
    | _ => cases q
  | .app ob e, π, ρ, ρ', h, g, o, r, q => by
    simp only [evSV, Option.bind_eq_some_iff] at q
    obtain ⟨⟨w, h1⟩, e1, q⟩ := q
    obtain ⟨w', g1, k1, r1, s1⟩ := rE r.inj rf ob ρ ρ' h g w h1 r.en r.len r.hp e1
    cases w with
    | loc n =>
      simp only [Option.bind_eq_some_iff, Option.map_eq_some_iff] at q
      obtain ⟨⟨v, h2⟩, e2, d, ed, h3, e3, rfl⟩ := q
      obtain ⟨v', g2, k2, r2, s2⟩ := rE r.inj rf e ρ ρ' h1 g1 v h2 r.en r.len s1.hp e2
      obtain ⟨m, z1, rfl⟩ := r1
      obtain ⟨g3, k3, a, b⟩ := appV_r ((r.step s1).step s2) z1 e3 v' (by rw [frzD_r r2]; exact ed)
      have lv : liveO g1 m = true := by
        obtain ⟨_, _, _, y⟩ := s1.hp n m z1
        simp only [liveO, y]
      exact ⟨(.nx, ρ', g3), by simp only [erS, evS, k1, lv, k2, k3], rfl, π, a, (s1.kp.trans s2.kp).trans b⟩
    | _ => cases q
  | .apf ob i, π, ρ, ρ', h, g, o, r, q => by
    simp only [evSV] at q
    split at q
    · rename_i n eo
      split at q
      · rename_i m ei
        split at q
        · cases q
        rename_i nm
        simp only [Bool.or_eq_false_iff, Bool.not_eq_false'] at nm
        have em : m = i := by simpa using nm.2
        subst em
        split at q
        · rename_i xs exs
          simp only [Option.bind_eq_some_iff, Option.map_eq_some_iff] at q
          obtain ⟨h3, e3, ⟨ρ1, h4⟩, e4, rfl⟩ := q
          obtain ⟨_, a1, n', z1, rfl⟩ := r.en ob _ eo
          obtain ⟨_, a2, m', z2, rfl⟩ := r.en m _ ei
          have hnm : n ≠ m := fun z => by subst z; simp at nm
          have hnm' : n' ≠ m' := fun z => by subst z; exact hnm (r.inj n m n' z1 z2)
          have hb' : Nat.beq n' m' = false := Bool.eq_false_iff.mpr fun z => hnm' (Nat.eq_of_beq_eq_true z)
          obtain ⟨k, ys, y1, y2⟩ := r.hp m m' z2
          rw [exs] at y1
          simp only [Option.some.injEq, O.lst.injEq] at y1
          obtain ⟨rfl, rfl⟩ := y1
          have lv : liveO g n' = true := by
            obtain ⟨_, _, _, y⟩ := r.hp n n' z1
            simp only [liveO, y]
          obtain ⟨g3, k3, r3, kp⟩ := appV_r r z1 e3 (.p (.lst xs)) rfl
          simp only [killV] at e4
          obtain ⟨p1, p2, e5⟩ := or_no e4
          simp only [Option.some.injEq, Prod.mk.injEq] at e5
          obtain ⟨rfl, rfl⟩ := e5
          obtain ⟨r4, kp2⟩ := drop_r r3 p1 p2 none ρ' rfl (fun v e => by cases e) fun _ _ => rfl
          have no : ∀ j, (if j = m then none else π j) ≠ some m' := by
            intro j ej
            by_cases c : j = m
            · rw [if_pos c] at ej; cases ej
            · rw [if_neg c] at ej; exact c (r.inj j m m' ej z2)
          exact ⟨(.nx, ρ', g3.set m' .gone), by simp only [erS, evS, a1, lv, a2, apfV, hb', y2, k3], rfl, _, r4.apart no, kp.trans kp2⟩
        · cases q
      · cases q
    · cases q
  | .ext ob e, π, ρ, ρ', h, g, o, r, q => by
    simp only [evSV, Option.bind_eq_some_iff] at q
    obtain ⟨⟨w, h1⟩, e1, q⟩ := q
    obtain ⟨w', g1, k1, r1, s1⟩ := rE r.inj rf ob ρ ρ' h g w h1 r.en r.len r.hp e1
    cases w with
    | loc n =>
      simp only [Option.bind_eq_some_iff, Option.map_eq_some_iff] at q
      obtain ⟨⟨v, h2⟩, e2, h3, e3, rfl⟩ := q
      obtain ⟨v', g2, k2, r2, s2⟩ := rE r.inj rf e ρ ρ' h1 g1 v h2 r.en r.len s1.hp e2
      obtain ⟨m, z1, rfl⟩ := r1
      obtain ⟨g3, k3, a, b⟩ := extV_r ((r.step s1).step s2) z1 r2 e3
      have lv : liveO g1 m = true := by
        obtain ⟨_, _, _, y⟩ := s1.hp n m z1
        simp only [liveO, y]
      exact ⟨(.nx, ρ', g3), by simp only [erS, evS, k1, lv, k2, k3], rfl, π, a, (s1.kp.trans s2.kp).trans b⟩
    | _ => cases q
  | .tsn ob ix j e, π, ρ, ρ', h, g, o, r, q => by
    simp only [evSV, Option.bind_eq_some_iff] at q
    obtain ⟨⟨v, h1⟩, e1, q⟩ := q
    obtain ⟨v', g1, k1, r1, s1⟩ := rE r.inj rf e ρ ρ' h g v h1 r.en r.len r.hp e1
    split at q
    · rename_i d d2 ev
      simp only at ev
      subst ev
      cases r1
      simp only [Option.bind_eq_some_iff] at q
      obtain ⟨⟨w, h2⟩, e2, q⟩ := q
      obtain ⟨w', g2, k2, r2, s2⟩ := rE r.inj rf ob ρ ρ' h1 g1 w h2 r.en r.len s1.hp e2
      cases w with
      | loc n =>
        simp only [Option.bind_eq_some_iff] at q
        obtain ⟨⟨u, h3⟩, e3, q⟩ := q
        obtain ⟨u', g3, k3, r3, s3⟩ := rE r.inj rf ix ρ ρ' h2 g2 u h3 r.en r.len s2.hp e3
        cases u with
        | p du =>
          cases r3
          cases du with
          | int k =>
            simp only [Option.bind_eq_some_iff, Option.map_eq_some_iff] at q
            obtain ⟨h4, e4, ⟨ρ5, h5⟩, e5, rfl⟩ := q
            obtain ⟨m, z1, rfl⟩ := r2
            obtain ⟨g4, k4, a, b⟩ := setV_r (((r.step s1).step s2).step s3) z1 e4
            obtain ⟨π1, a1, b1⟩ := bind_r a (v := .p d2) rfl e5
            exact ⟨(.nx, _, _), by simp only [erS, evS, k1, k2, k3, k4]; rfl, rfl, π1, a1, (((s1.kp.trans s2.kp).trans s3.kp).trans b).trans b1⟩
          | _ => cases q
        | _ => cases q
      | _ => cases q
    · cases q
  | .ex e, π, ρ, ρ', h, g, o, r, q => by
    simp only [evSV, Option.map_eq_some_iff] at q
    obtain ⟨⟨v, h1⟩, e1, rfl⟩ := q
    obtain ⟨v', g1, k1, r1, s1⟩ := rE r.inj rf e ρ ρ' h g v h1 r.en r.len r.hp e1
    exact ⟨(.nx, ρ', g1), by simp only [erS, evS, k1], rfl, π, r.step s1, s1.kp⟩
  | .ret e, π, ρ, ρ', h, g, o, r, q => by
    simp only [evSV, Option.bind_eq_some_iff] at q
    obtain ⟨⟨v, h1⟩, e1, e2⟩ := q
    obtain ⟨v', g1, k1, r1, s1⟩ := rE r.inj rf e ρ ρ' h g v h1 r.en r.len r.hp e1
    obtain ⟨t, xs, rfl, ok⟩ := end_r (r.step s1) r1 e2
    refine ⟨(.rt v', ρ', g1), by simp only [erS, evS, k1], v', rfl, ok, fun i n ys a b => ?_⟩
    obtain ⟨_, c⟩ := s1.kp i n ys a b
    obtain ⟨k, zs, d1, d2⟩ := s1.hp i n a
    rw [c] at d1; cases d1
    exact d2
  | .retN, π, ρ, ρ', h, g, o, r, q => by
    simp only [evSV] at q
    obtain ⟨t, xs, rfl, ok⟩ := end_r r (v := .p .non) rfl q
    refine ⟨(.rt (.p .non), ρ', g), by simp only [erS, evS], _, rfl, ok, fun i n ys a b => ?_⟩
    obtain ⟨k, zs, d1, d2⟩ := r.hp i n a
    rw [b] at d1; cases d1
    exact d2
  | .ife c a b, π, ρ, ρ', h, g, o, r, q => by
    simp only [evSV, Option.bind_eq_some_iff] at q
    obtain ⟨⟨v, h1⟩, e1, q⟩ := q
    obtain ⟨g1, k1, s1⟩ := rT r.inj rf c ρ ρ' h g v h1 r.en r.len r.hp e1
    cases v with
    | true =>
      obtain ⟨o', q1, q2⟩ := rSs a π ρ ρ' h1 g1 o (r.step s1) q
      exact ⟨o', by simp only [erS, evS, k1, q1], q2.back s1.kp⟩
    | false =>
      obtain ⟨o', q1, q2⟩ := rSs b π ρ ρ' h1 g1 o (r.step s1) q
      exact ⟨o', by simp only [erS, evS, k1, q1], q2.back s1.kp⟩
  | .for_ tg it body, π, ρ, ρ', h, g, o, r, q => by
    simp only [evSV, Option.bind_eq_some_iff, Option.map_eq_some_iff] at q
    obtain ⟨⟨w, h1⟩, e1, o1, e2, rfl⟩ := q
    obtain ⟨w', g1, k1, ki, kp, khp, kl1, kl2, kk, kb⟩ := rI r.inj rf it ρ ρ' h g w h1 r.en r.len r.hp e1
    have r1 : Rel P (P.countP id) π ρ ρ' h1 g1 := ⟨r.en, r.self, r.al, r.len, kl1.trans r.lh, khp, r.inj, r.par, r.big, by rw [kl2]; exact r.ng⟩
    obtain ⟨⟨o1', ρ2', g2⟩, q1, q2⟩ := forGo_r (f' := forF tg (evSs F' (erSs body))) (fun x π ρ ρ' h g o r e => by
      simp only [forFV, Option.bind_eq_some_iff] at e
      obtain ⟨⟨ρ1, h1⟩, e1, e2⟩ := e
      obtain ⟨π1, ρ1', a, b, c⟩ := setTgV_r r e1
      obtain ⟨o', q1, q2⟩ := rSs body π1 ρ1 ρ1' h1 g o b e2
      exact ⟨o', by simp only [forF, a, q1], q2.back c⟩) w.items π ρ ρ' h1 g1 o1 r1 e2
    exact ⟨(o1', ρ2', unlock w'.back g2), by simp only [erS, evS, k1, ki, q1], unlock_r (o' := (o1', ρ2', g2)) r.inj (fun i n ys a b => ⟨a, kk i _ b rfl⟩) kb q2⟩
  | .whl c body, π, ρ, ρ', h, g, o, r, q => by
    simp only [evSV] at q
    simp only [erS, evS]
    refine whlGo_r (fun π ρ ρ' h g b h1 r e => ?_) (fun π ρ ρ' h g o r e => rSs body π ρ ρ' h g o r e) fuelW π ρ ρ' h g o r q
    obtain ⟨g1, k1, s1⟩ := rT r.inj rf c ρ ρ' h g b h1 r.en r.len r.hp e
    exact ⟨g1, k1, r.step s1, s1.kp⟩
  | .brk, π, ρ, ρ', h, g, o, r, q => by
    simp only [evSV, Option.some.injEq] at q
    subst q
    exact ⟨(.bk, ρ', g), rfl, rfl, π, r, .refl⟩
  | .pss, π, ρ, ρ', h, g, o, r, q => by
    simp only [evSV, Option.some.injEq] at q
    subst q
    exact ⟨(.nx, ρ', g), rfl, rfl, π, r, .refl⟩
  | .nev, π, ρ, ρ', h, g, o, r, q => by cases q
theorem rSs : ∀ (ss : SsV) (π : Pi) (ρ ρ' : Env') (h g : Hs) (o : OutV), Rel P (P.countP id) π ρ ρ' h g → evSsV F P ss ρ h = some o → ∃ o', evSs F' (erSs ss) ρ' g = some o' ∧ OutR P (P.countP id) π h o o'
  | .nil, π, ρ, ρ', h, g, o, r, q => by
    simp only [evSsV, Option.some.injEq] at q
    subst q
    exact ⟨(.nx, ρ', g), rfl, rfl, π, r, .refl⟩
  | .cons s ss, π, ρ, ρ', h, g, o, r, q => by
    simp only [evSsV, Option.bind_eq_some_iff] at q
    obtain ⟨o1, e1, q⟩ := q
    obtain ⟨⟨o1', ρ2, g2⟩, q1, q2⟩ := rS s π ρ ρ' h g o1 r e1
    cases o1 with
    | nx ρ1 h1 =>
      obtain ⟨z, π1, r1, k1⟩ := q2
      cases z
      obtain ⟨o', q3, q4⟩ := rSs ss π1 ρ1 ρ2 h1 g2 o r1 q
      exact ⟨o', by simp only [erSs, evSs, q1, q3], q4.back k1⟩
    | bk ρ1 h1 =>
      simp only [Option.some.injEq] at q
      subst q
      have z := q2.1
      cases z
      exact ⟨(.bk, ρ2, g2), by simp only [erSs, evSs, q1], q2⟩
    | rt t xs =>
      simp only [Option.some.injEq] at q
      subst q
      obtain ⟨v, z, q3⟩ := q2
      cases z
      exact ⟨(.rt v, ρ2, g2), by simp only [erSs, evSs, q1], v, rfl, q3⟩
  | .kill is ss, π, ρ, ρ', h, g, o, r, q => by
    simp only [evSsV, Option.bind_eq_some_iff] at q
    obtain ⟨⟨ρ1, h1⟩, e1, q⟩ := q
    obtain ⟨π1, a, b⟩ := kill_r r e1
    obtain ⟨o', q3, q4⟩ := rSs ss π1 ρ1 ρ' h1 g o a q
    exact ⟨o', by simp only [erSs, q3], q4.back b⟩
end
end
/-! ### defs -/
theorem start_r : ∀ (as : List Arg) (i0 k0 i : Nat) (v : Val), (envV as i0)[i]? = some (some v) → ∃ v', (start'.go as k0)[i]? = some (some v') ∧ (∀ d, v = .p d → v' = .p d) ∧ (∀ j, v = .loc j → j = i0 + i ∧ v' = .loc (k0 + ((parsV as).take i).countP id) ∧ (parsV as)[i]? = some true) ∧ ∀ xs, v ≠ .new xs
  | [], _, _, i, v, e => by simp [envV] at e
  | .p d :: as, i0, k0, 0, v, e => by
    simp [envV] at e
    subst e
    exact ⟨.p d, rfl, (fun _ z => z), (fun j z => by cases z), (fun xs z => by cases z)⟩
  | .lst xs :: as, i0, k0, 0, v, e => by
    simp [envV] at e
    subst e
    exact ⟨.loc k0, rfl, (fun _ z => by cases z), (fun j z => by cases z; exact ⟨rfl, rfl, rfl⟩), (fun xs z => by cases z)⟩
  | .p d :: as, i0, k0, i + 1, v, e => by
    simp only [envV, List.getElem?_cons_succ] at e
    obtain ⟨v', a, b, c, f⟩ := start_r as (i0 + 1) k0 i v e
    refine ⟨v', by simpa [start'.go] using a, b, fun j z => ?_, f⟩
    obtain ⟨c1, c2, c3⟩ := c j z
    exact ⟨by omega, by rw [c2]; simp [parsV, isLstA], by simpa [parsV] using c3⟩
  | .lst xs :: as, i0, k0, i + 1, v, e => by
    simp only [envV, List.getElem?_cons_succ] at e
    obtain ⟨v', a, b, c, f⟩ := start_r as (i0 + 1) (k0 + 1) i v e
    refine ⟨v', by simpa [start'.go] using a, b, fun j z => ?_, f⟩
    obtain ⟨c1, c2, c3⟩ := c j z
    refine ⟨by omega, ?_, by simpa [parsV] using c3⟩
    rw [c2]
    simp [parsV, isLstA]
    omega
theorem env_len : ∀ (as : List Arg) (i : Nat), (envV as i).length = as.length
  | [], _ => rfl
  | .p _ :: as, i => by simp [envV, env_len as]
  | .lst _ :: as, i => by simp [envV, env_len as]
theorem goV_len : ∀ (as : List Arg) (i : Nat), (start'.go as i).length = as.length
  | [], _ => rfl
  | .p _ :: as, i => by simp [start'.go, goV_len as]
  | .lst _ :: as, i => by simp [start'.go, goV_len as]
theorem hpV_len : ∀ (as : List Arg), (heapV as).length = as.length
  | [] => rfl
  | .p _ :: as => by simp [heapV, hpV_len as]
  | .lst _ :: as => by simp [heapV, hpV_len as]
theorem heap_cnt : ∀ (as : List Arg), (heap' as).length = (parsV as).countP id
  | [] => rfl
  | .p _ :: as => by
    have := heap_cnt as
    simpa [heap', parsV, isLstA] using this
  | .lst _ :: as => by
    have := heap_cnt as
    simpa [heap', parsV, isLstA] using this
theorem heap_at : ∀ (as : List Arg) (i : Nat), (parsV as)[i]? = some true → ∃ xs, (heapV as)[i]? = some (.lst false xs) ∧ (heap' as)[((parsV as).take i).countP id]? = some (.lst false xs) ∧ (envV as 0)[i]? ≠ none
  | [], i, e => by simp [parsV] at e
  | .p d :: as, 0, e => by simp [parsV, isLstA] at e
  | .lst xs :: as, 0, e => ⟨xs, rfl, rfl, by simp [envV]⟩
  | .p d :: as, i + 1, e => by
    obtain ⟨xs, a, b, c⟩ := heap_at as i (by simpa [parsV] using e)
    refine ⟨xs, by simpa [heapV] using a, by simpa [heap', parsV, isLstA] using b, ?_⟩
    intro z
    rw [List.getElem?_eq_none_iff, env_len] at z
    have : (parsV as)[i]? = some true := by simpa [parsV] using e
    obtain ⟨l, _⟩ := List.getElem?_eq_some_iff.mp this
    simp [parsV] at l z
    omega
  | .lst ys :: as, i + 1, e => by
    obtain ⟨xs, a, b, c⟩ := heap_at as i (by simpa [parsV] using e)
    refine ⟨xs, by simpa [heapV] using a, by simpa [heap', parsV, isLstA] using b, ?_⟩
    intro z
    rw [List.getElem?_eq_none_iff, env_len] at z
    have : (parsV as)[i]? = some true := by simpa [parsV] using e
    obtain ⟨l, _⟩ := List.getElem?_eq_some_iff.mp this
    simp [parsV] at l z
    omega
theorem env_loc : ∀ (as : List Arg) (i0 i : Nat), (parsV as)[i]? = some true → (envV as i0)[i]? = some (some (.loc (i0 + i)))
  | [], _, i, e => by simp [parsV] at e
  | .p d :: as, _, 0, e => by simp [parsV, isLstA] at e
  | .lst xs :: as, i0, 0, e => rfl
  | .p d :: as, i0, i + 1, e => by
    have := env_loc as (i0 + 1) i (by simpa [parsV] using e)
    simp only [envV, List.getElem?_cons_succ, this]
    congr 3; omega
  | .lst ys :: as, i0, i + 1, e => by
    have := env_loc as (i0 + 1) i (by simpa [parsV] using e)
    simp only [envV, List.getElem?_cons_succ, this]
    congr 3; omega
theorem rank_inj : ∀ (P : List Bool) (i j : Nat), P[i]? = some true → P[j]? = some true → (P.take i).countP id = (P.take j).countP id → i = j
  | [], i, _, e, _, _ => by simp at e
  | b :: P, 0, 0, _, _, _ => rfl
  | b :: P, 0, j + 1, e1, e2, e => by
    simp at e1; subst e1
    simp at e
  | b :: P, i + 1, 0, e1, e2, e => by
    simp at e2; subst e2
    simp at e
  | b :: P, i + 1, j + 1, e1, e2, e => by
    have := rank_inj P i j (by simpa using e1) (by simpa using e2) (by
      cases b <;> simpa using e)
    omega
theorem parV_iff {P : List Bool} {i : Nat} : parV P i = true ↔ P[i]? = some true := by
  unfold parV
  cases P[i]? <;> simp
theorem outs_fin : ∀ (as : List Arg) (xs : List (List D)) (g : Hs), xs.length = (parsV as).countP id → (∀ (k : Nat) (x : List D), xs[k]? = some x → ∃ b, g[k]? = some (.lst b x)) → outs' as g = some xs
  | [], xs, g, l, q => by
    have : xs = [] := by simpa [parsV] using l
    subst this; rfl
  | .p d :: as, xs, g, l, q => by
    simp only [outs']
    exact outs_fin as xs g (by simpa [parsV, isLstA] using l) q
  | .lst ys :: as, xs, g, l, q => by
    cases xs with
    | nil => simp [parsV, isLstA] at l
    | cons x xs =>
      obtain ⟨b, e⟩ := q 0 x rfl
      cases g with
      | nil => simp at e
      | cons o g =>
        simp at e
        subst e
        have := outs_fin as xs g (by simpa [parsV, isLstA] using l) fun k y e => by simpa using q (k + 1) y (by simpa using e)
        simp only [outs', this]
theorem run_r {F F' : CallF} (rf : Ref F F') {f : FnV} {as : List Arg} {r : Ret × List (List D)} (e : runV F f as = some r) : runFn F' f.fn as = some r := by
  unfold runV at e
  split at e
  · rename_i hl
    rw [Bool.and_eq_true] at hl
    obtain ⟨hl, hn⟩ := hl
    have ln : as.length ≤ f.nn := by rw [Nat.eq_of_beq_eq_true hl]; exact Nat.le_of_ble_eq_true hn
    rw [Option.bind_eq_some_iff] at e
    obtain ⟨o, e1, e2⟩ := e
    have at1 : ∀ {i : Nat} {v : Val}, (stV f.nn as)[i]? = some (some v) → (envV as 0)[i]? = some (some v) := by
      intro i v q
      unfold stV at q
      by_cases c : i < (envV as 0).length
      · rwa [List.getElem?_append_left c] at q
      · rw [List.getElem?_append_right (by omega)] at q
        rw [List.getElem?_replicate] at q
        split at q <;> cases q
    have rel : Rel (parsV as) ((parsV as).countP id) (fun i => if parV (parsV as) i = true then some (rankV (parsV as) i) else none) (stV f.nn as) (start' f.nn as 0) (hpV f.nn as) (heap' as) := by
      refine ⟨fun i v q => ?_, fun i j q => ?_, fun i n q => ?_, ?_, ?_, fun i n q => ?_, fun i j n q1 q2 => ?_, fun i q => ?_, fun i n q q2 => ?_, by rw [heap_cnt]; exact Nat.le_refl _⟩
      · have q := at1 q
        obtain ⟨v', a, b, c, d⟩ := start_r as 0 0 i v q
        refine ⟨v', ?_, ?_⟩
        · unfold start'
          rw [List.getElem?_append_left (List.getElem?_eq_some_iff.mp a).1]
          exact a
        · cases v with
          | p dd => exact b dd rfl
          | new xs => exact absurd rfl (d xs)
          | loc j =>
            obtain ⟨c1, c2, c3⟩ := c j rfl
            have : j = i := by omega
            subst this
            exact ⟨rankV (parsV as) j, if_pos (parV_iff.mpr c3), by rw [c2, Nat.zero_add]; rfl⟩
      · obtain ⟨v', a, b, c, d⟩ := start_r as 0 0 i _ (at1 q)
        have := (c j rfl).1
        omega
      · split at q
        · rename_i c
          have := env_loc as 0 i (parV_iff.mp c)
          unfold stV
          rw [List.getElem?_append_left (List.getElem?_eq_some_iff.mp this).1, this, Nat.zero_add]
        · cases q
      · unfold start' stV
        rw [List.length_append, List.length_append, goV_len, env_len]
      · unfold hpV stV
        rw [List.length_append, List.length_append, hpV_len, env_len]
        simp
      · split at q
        · rename_i c
          cases q
          obtain ⟨xs, a, b, _⟩ := heap_at as i (parV_iff.mp c)
          refine ⟨false, xs, ?_, b⟩
          unfold hpV
          rw [List.getElem?_append_left (List.getElem?_eq_some_iff.mp a).1]
          exact a
        · cases q
      · split at q1
        · rename_i c1
          split at q2
          · rename_i c2
            cases q1
            simp only [Option.some.injEq] at q2
            exact rank_inj _ i j (parV_iff.mp c1) (parV_iff.mp c2) q2.symm
          · cases q2
        · cases q1
      · rw [if_pos q]
      · rw [q2] at q
        simp at q
    obtain ⟨⟨o', ρ2, g2⟩, q1, q2⟩ := rSs rf f.body _ _ _ _ _ o rel e1
    unfold runFn
    rw [if_pos (show Nat.beq as.length f.fn.np = true from hl)]
    have q1' : evSs F' f.fn.body (start' f.fn.nn as 0) (heap' as) = some (o', ρ2, g2) := q1
    rw [q1']
    have hc := heap_cnt as
    cases o with
    | nx ρ1 h1 =>
      obtain ⟨z, π1, r1, _⟩ := q2
      cases z
      simp only [finV, Option.map_eq_some_iff] at e2
      obtain ⟨xs, e2, rfl⟩ := e2
      obtain ⟨a, b⟩ := outs_r (π := π1) (g := g2) (parsV as) [] xs (fun i _ pe => r1.par i pe) r1.hp e2
      have := outs_fin as xs g2 a fun k x q => by simpa using b k x q
      simp only [this]
    | bk ρ1 h1 => cases e2
    | rt t xs =>
      obtain ⟨v, z, ok, _⟩ := q2
      cases z
      simp only [finV, Option.some.injEq] at e2
      subst e2
      have := outs_fin as xs g2 ok.lx ok.out
      have k := ok.rt
      rw [← hc] at k
      simp only [this, k]
  · cases e
theorem callV_ref (T : TabV) : ∀ n, Ref (callV' T n) (callD (T.map FnV.fn) n)
  | 0 => fun f as r e => by cases e
  | n + 1 => fun f as r e => by
    simp only [callV'] at e
    split at e
    · rename_i fn ef
      simp only [callD, List.getElem?_map, ef, Option.map_some]
      exact run_r (callV_ref T n) e
    · cases e
end MP

/-! ## EngLa.lean -/
set_option Elab.async false
set_option linter.all false
set_option maxRecDepth 100000
namespace MP
open PySem PySem.Spec L2
/-! ### typed values -/
abbrev vI (x : Int) : Val := .p (.int x)
abbrev vB (x : Bool) : Val := .p (.bl x)
abbrev vD {α : Type} (f : α → D) (x : α) : Val := .p (f x)
abbrev vT {α : Type} (f : α → D) (xs : List α) : Val := .p (.tup (xs.map f))
abbrev vF {α : Type} (f : α → D) (xs : List α) : Val := .p (.lst (xs.map f))
abbrev vN {α : Type} (f : α → D) (xs : List α) : Val := .new (xs.map f)
abbrev vL {α : Type} (i : Nat) (_ : α) : Val := .loc i
abbrev eT {α : Type} (f : α → D) (xs : List α) : D := .tup (xs.map f)
abbrev eF {α : Type} (f : α → D) (xs : List α) : D := .lst (xs.map f)
abbrev eP {α β : Type} (f : α → D) (g : β → D) (p : α × β) : D := .tup [f p.1, g p.2]
abbrev eP3 {α β γ : Type} (f : α → D) (g : β → D) (k : γ → D) (p : α × β × γ) : D := .tup [f p.1, g p.2.1, k p.2.2]
def eO {α : Type} (f : α → D) : Option α → D
  | none => .non
  | some x => f x
/-! ### what may fail -/
def mulS (x y : Int) : Option Int := if mulOk x y then some (x * y) else none
def fdivS (x y : Int) : Option Int := if decide (0 < y) && decide (y < 1073741824) then some (x / y) else none
def modS (x y : Int) : Option Int := if decide (0 < y) then some (x % y) else none
def powS (x y : Int) : Option Int := if decide (0 ≤ y) && (decide (y ≤ 1000000) && Nat.blt x.natAbs 18446744073709551616) then some (x ^ y.toNat) else none
def catS {α : Type} (xs ys : List α) : Option (List α) := if Nat.ble (xs.length + ys.length) line then some (xs ++ ys) else none
def timesS {α : Type} (xs : List α) (k : Int) : Option (List α) := if Nat.ble (xs.length * k.toNat) line && (decide (k < 16777217) && decide (-16777217 < k)) then some (List.replicate k.toNat xs).flatten else none
def timesTS {α : Type} (xs : List α) (k : Int) : Option (List α) := if (decide (-1000 ≤ k) && decide (k ≤ 1000)) && Nat.ble xs.length 1000 then some (List.replicate k.toNat xs).flatten else none
def lenT {α : Type} (xs : List α) : Option (List α) := if Nat.ble xs.length line then some xs else none
def lenC {α : Type} (xs : List α) : Option (List α) := if Nat.blt xs.length line then some xs else none
def setS {α : Type} (xs : List α) (k : Int) (v : α) : Option (List α) := (ixN xs.length k).bind fun j => some (xs.set j v)
def appS {α : Type} (xs : List α) (v : α) : Option (List α) := if Nat.blt xs.length line then some (xs ++ [v]) else none
def repS (d : D) : Option D := if repD d && (Nat.ble (depD d) 60 && (shwD d && Nat.ble (szD d) line)) then some d else none
def repEq (a b : D) : Option Bool := pyEq a b
def rng1 (j : Int) : Option (List Int) := if small j then some ((List.range j.toNat).map fun (k : Nat) => (k : Int)) else none
def rng2 (i j : Int) : Option (List Int) := if small i && small j then some ((List.range (j - i).toNat).map fun (k : Nat) => i + (k : Int)) else none
def rngD (i j : Int) : Option (List Int) := if small i && small j then some ((List.range (i - j).toNat).map fun (k : Nat) => i - (k : Int)) else none
def rngP (i j c : Int) : Option (List Int) := if mid i && mid j && (decide (0 < c) && decide (c < 1073741824)) then some ((List.range (stepN i j c)).map fun (k : Nat) => i + (k : Int) * c) else none
def divS (x y : Int) : Option (Int × Int) := if decide (0 < y) && decide (y < 1073741824) then some (x / y, x % y) else none

/-! ### judgements: what the typed code gives is what the text gives -/
def J (F : CallF) (e : E) (ρ : Env') (h : Hs) {γ : Type} (m : Option γ) (V : γ → Val) : Prop := ∀ r, m = some r → evE F e ρ h = some (V r, h)
def Js (F : CallF) (es : Es) (ρ : Env') (h : Hs) {γ : Type} (m : Option γ) (V : γ → List Val) : Prop := ∀ r, m = some r → evEs F es ρ h = some (V r, h)
def JT (F : CallF) (c : T) (ρ : Env') (h : Hs) (m : Option Bool) : Prop := ∀ b, m = some b → MP.evT F c ρ h = some (b, h)
def JC (F : CallF) (c : To) (ρ : Env') (h : Hs) (m : Option Bool) : Prop := ∀ b, m = some b → evC F c ρ h = some (b, h)
def JO (F : CallF) (o : Eo) (ρ : Env') (h : Hs) (m : Option (Option Int)) : Prop := ∀ b, m = some b → evO F o ρ h = some (b, h)
/-- what is walked: its items xs, as g says; h1: the heap meanwhile; b: what is given back -/
def JI (F : CallF) (it : It) (ρ : Env') (h : Hs) {α : Type} (m : Option (List α)) (g : α → Val) (b : Option (Nat × O)) (h1 : Hs) : Prop := ∀ xs, m = some xs → evI F it ρ h = some (⟨xs.map g, b⟩, h1)
theorem bs {α β : Type} {m : Option α} {k : α → Option β} {z : β} (h : m.bind k = some z) : ∃ x, m = some x ∧ k x = some z := Option.bind_eq_some_iff.mp h
section
variable {F : CallF} {ρ : Env'} {h h1 : Hs} {α β γ δ : Type} {a b c : E} {i j : Nat} {es ks : Es}
theorem J.var {V : γ → Val} {x : γ} (hv : ρ[i]? = some (some (V x))) : J F (.var i) ρ h (some x) V := by
  intro r e; cases e; simp only [evE, hv]
theorem J.lit {V : γ → Val} {x : γ} {d : D} (hv : V x = .p d) : J F (.lit d) ρ h (some x) V := by
  intro r e; cases e; simp only [evE, hv]
theorem J.glo {V : γ → Val} {x : γ} {d : D} {n : Str} (hv : V x = .p d) : J F (.glo n d) ρ h (some x) V := by
  intro r e; cases e; simp only [evE, hv]
theorem J.of_eq {F : CallF} {ρ : Env'} {h : Hs} {γ : Type} {e : E} {m m' : Option γ} {V : γ → Val} (k : J F e ρ h m V) (q : m' = m) : J F e ρ h m' V := q ▸ k
theorem JT.of_eq {F : CallF} {ρ : Env'} {h : Hs} {c : T} {m m' : Option Bool} (k : JT F c ρ h m) (q : m' = m) : JT F c ρ h m' := q ▸ k
/-- a value by a finer name -/
theorem J.as {V : γ → Val} {W : δ → Val} {f : γ → δ} {m : Option γ} (ja : J F a ρ h m V) (hv : ∀ r, V r = W (f r)) : J F a ρ h (m.bind fun r => some (f r)) W := by
  intro z e
  obtain ⟨x, hx, e⟩ := bs e
  cases e
  rw [ja x hx, hv]
theorem J.two {o : Operator} {Va : α → Val} {Vb : β → Val} {V : γ → Val} {ma : Option α} {mb : Option β} {op : α → β → Option γ} (ja : J F a ρ h ma Va) (jb : J F b ρ h mb Vb)
    (ho : ∀ x y, ma = some x → mb = some y → binV o (Va x) (Vb y) h = (op x y).bind fun z => some (V z)) : J F (.bin o a b) ρ h (ma.bind fun x => mb.bind fun y => op x y) V := by
  intro z e
  obtain ⟨x, hx, e⟩ := bs e
  obtain ⟨y, hy, e⟩ := bs e
  have q := ho x y hx hy
  rw [e, Option.bind_some] at q
  simp only [evE, ja x hx, jb y hy, q]
theorem J.cmp {o : CmpOp} {Va : α → Val} {Vb : β → Val} {ma : Option α} {mb : Option β} {op : α → β → Option Bool} (ja : J F a ρ h ma Va) (jb : J F b ρ h mb Vb)
    (ho : ∀ x y, ma = some x → mb = some y → cmpV o (Va x) (Vb y) h = op x y) : J F (.cmp o a b) ρ h (ma.bind fun x => mb.bind fun y => op x y) vB := by
  intro z e
  obtain ⟨x, hx, e⟩ := bs e
  obtain ⟨y, hy, e⟩ := bs e
  have q := ho x y hx hy
  rw [e] at q
  simp only [evE, ja x hx, jb y hy, cmpW, q]
theorem J.chn {o o' : CmpOp} {Va : α → Val} {Vb : β → Val} {Vc : γ → Val} {ma : Option α} {mb : Option β} {mc : Option γ} {op : α → β → Option Bool} {op' : β → γ → Option Bool} (ja : J F a ρ h ma Va) (jb : J F b ρ h mb Vb) (jc : J F c ρ h mc Vc)
    (ho : ∀ x y, ma = some x → mb = some y → cmpV o (Va x) (Vb y) h = op x y) (ho' : ∀ x y, mb = some x → mc = some y → cmpV o' (Vb x) (Vc y) h = op' x y) :
    J F (.chn o o' a b c) ρ h (ma.bind fun x => mb.bind fun y => (op x y).bind fun p => if p then mc.bind fun z => op' y z else some false) vB := by
  intro z e
  obtain ⟨x, hx, e⟩ := bs e
  obtain ⟨y, hy, e⟩ := bs e
  obtain ⟨p, hp, e⟩ := bs e
  have q := ho x y hx hy
  rw [hp] at q
  cases p with
  | false => cases e; simp only [evE, ja x hx, jb y hy, q]
  | true =>
    obtain ⟨w, hw, e⟩ := bs e
    have q' := ho' y w hy hw
    rw [e] at q'
    simp only [evE, ja x hx, jb y hy, q, jc w hw, q']
theorem J.chnP {o o' : CmpOp} {Va : α → Val} {Vb : β → Val} {Vc : γ → Val} {x : α} {y : β} {z : γ} {p p' : Bool} (ja : J F a ρ h (some x) Va) (jb : J F b ρ h (some y) Vb) (jc : J F c ρ h (some z) Vc)
    (ho : cmpV o (Va x) (Vb y) h = some p) (ho' : cmpV o' (Vb y) (Vc z) h = some p') : J F (.chn o o' a b c) ρ h (some (p && p')) vB := by
  intro r e
  cases e
  simp only [evE, ja x rfl, jb y rfl, ho]
  cases p with
  | false => rfl
  | true => simp only [jc z rfl, ho', Bool.true_and]
theorem J.neg {m : Option Int} (ja : J F a ρ h m vI) : J F (.neg a) ρ h (m.bind fun x => some (-x)) vI := by
  intro z e
  obtain ⟨x, hx, e⟩ := bs e
  cases e
  simp only [evE, ja x hx]
theorem J.notV {V : α → Val} {t : α → Bool} {m : Option α} (ja : J F a ρ h m V) (ht : ∀ x, m = some x → truV h (V x) = some (t x)) : J F (.not a) ρ h (m.bind fun x => some (!t x)) vB := by
  intro z e
  obtain ⟨x, hx, e⟩ := bs e
  cases e
  simp only [evE, ja x hx, ht x hx]
theorem J.one {V : α → Val} {m : Option α} (ja : J F a ρ h m V) : J F (.one a) ρ h m V := by
  intro z e
  simp only [evE, ja z e]
theorem J.and {ma mb : Option Bool} (ja : J F a ρ h ma vB) (jb : J F b ρ h mb vB) : J F (.and a b) ρ h (ma.bind fun x => if x then mb else some false) vB := by
  intro z e
  obtain ⟨x, hx, e⟩ := bs e
  cases x with
  | false => cases e; simp only [evE, ja _ hx, truV]
  | true => simp only [evE, ja _ hx, truV]; exact jb z e
theorem J.andP {x y : Bool} (ja : J F a ρ h (some x) vB) (jb : J F b ρ h (some y) vB) : J F (.and a b) ρ h (some (x && y)) vB := by
  intro z e
  cases e
  cases x with
  | false => simp only [evE, ja _ rfl, truV]; rfl
  | true => simp only [evE, ja _ rfl, truV]; exact jb y rfl
theorem J.or {ma mb : Option Bool} (ja : J F a ρ h ma vB) (jb : J F b ρ h mb vB) : J F (.or a b) ρ h (ma.bind fun x => if x then some true else mb) vB := by
  intro z e
  obtain ⟨x, hx, e⟩ := bs e
  cases x with
  | true => cases e; simp only [evE, ja _ hx, truV]
  | false => simp only [evE, ja _ hx, truV]; exact jb z e
theorem J.orP {x y : Bool} (ja : J F a ρ h (some x) vB) (jb : J F b ρ h (some y) vB) : J F (.or a b) ρ h (some (x || y)) vB := by
  intro z e
  cases e
  cases x with
  | true => simp only [evE, ja _ rfl, truV]; rfl
  | false => simp only [evE, ja _ rfl, truV]; exact jb y rfl
theorem J.ife {V : α → Val} {c : T} {mc : Option Bool} {ma mb : Option α} (jc : JT F c ρ h mc) (ja : J F a ρ h ma V) (jb : J F b ρ h mb V) : J F (.ife c a b) ρ h (mc.bind fun p => if p then ma else mb) V := by
  intro z e
  obtain ⟨x, hx, e⟩ := bs e
  cases x with
  | true => simp only [evE, jc _ hx]; exact ja z e
  | false => simp only [evE, jc _ hx]; exact jb z e
theorem J.ifeP {V : α → Val} {c : T} {p : Bool} {x y : α} (jc : JT F c ρ h (some p)) (ja : J F a ρ h (some x) V) (jb : J F b ρ h (some y) V) : J F (.ife c a b) ρ h (some (if p then x else y)) V := by
  intro z e
  cases e
  cases p with
  | true => simp only [evE, jc _ rfl]; exact ja x rfl
  | false => simp only [evE, jc _ rfl]; exact jb y rfl
/-! arguments -/
theorem Js.nil : Js F .nil ρ h (some ()) (fun _ => []) := fun _ _ => rfl
theorem Js.cons {Va : α → Val} {Vb : β → List Val} {ma : Option α} {mb : Option β} (ja : J F a ρ h ma Va) (jb : Js F es ρ h mb Vb) : Js F (.cons a es) ρ h (ma.bind fun x => mb.bind fun y => some (x, y)) (fun r => Va r.1 :: Vb r.2) := by
  intro z e
  obtain ⟨x, hx, e⟩ := bs e
  obtain ⟨y, hy, e⟩ := bs e
  cases e
  simp only [evEs, ja x hx, jb y hy]
theorem Js.star {Va : α → Val} {Vb : β → List Val} {ma : Option α} {mb : Option β} {t : α → Bool} {ds : α → List D} (ja : J F a ρ h ma Va) (ht : ∀ x, ma = some x → seqD h (Va x) = some (t x, ds x)) (jb : Js F es ρ h mb Vb) :
    Js F (.star a es) ρ h (ma.bind fun x => mb.bind fun y => some (x, y)) (fun r => (ds r.1).map .p ++ Vb r.2) := by
  intro z e
  obtain ⟨x, hx, e⟩ := bs e
  obtain ⟨y, hy, e⟩ := bs e
  cases e
  simp only [evEs, ja x hx, ht x hx, jb y hy]
/-- a display: its items -/
theorem J.tup {Vs : γ → List Val} {m : Option γ} {ds : γ → List D} {g : γ → Option δ} {V : δ → Val} (js : Js F es ρ h m Vs) (hf : ∀ r, frzDs (Vs r) = some (ds r))
    (hv : ∀ r, (if Nat.ble (ds r).length line then some (Val.p (.tup (ds r)), h) else none) = (g r).bind fun z => some (V z, h)) : J F (.tup es) ρ h (m.bind fun r => g r) V := by
  intro z e
  obtain ⟨x, hx, e⟩ := bs e
  have q := hv x
  rw [e, Option.bind_some] at q
  simp only [evE, js x hx, hf x, q]
theorem J.lst {Vs : γ → List Val} {m : Option γ} {ds : γ → List D} {g : γ → Option δ} {V : δ → Val} (js : Js F es ρ h m Vs) (hf : ∀ r, frzDs (Vs r) = some (ds r))
    (hv : ∀ r, (if Nat.ble (ds r).length line then some (Val.new (ds r), h) else none) = (g r).bind fun z => some (V z, h)) : J F (.lst es) ρ h (m.bind fun r => g r) V := by
  intro z e
  obtain ⟨x, hx, e⟩ := bs e
  have q := hv x
  rw [e, Option.bind_some] at q
  simp only [evE, js x hx, hf x, q]
theorem J.sub {Va : α → Val} {Vb : β → Val} {V : γ → Val} {ma : Option α} {mb : Option β} {op : α → β → Option γ} (ja : J F a ρ h ma Va) (jb : J F b ρ h mb Vb)
    (ho : ∀ x y, ma = some x → mb = some y → subV (Va x) (Vb y) h = (op x y).bind fun z => some (V z)) : J F (.sub a b) ρ h (ma.bind fun x => mb.bind fun y => op x y) V := by
  intro z e
  obtain ⟨x, hx, e⟩ := bs e
  obtain ⟨y, hy, e⟩ := bs e
  have q := ho x y hx hy
  rw [e, Option.bind_some] at q
  simp only [evE, ja x hx, jb y hy, q]
theorem JO.no : JO F .no ρ h (some none) := by intro z e; cases e; rfl
theorem JO.yes {m : Option Int} (ja : J F a ρ h m vI) : JO F (.yes a) ρ h (m.bind fun x => some (some x)) := by
  intro z e
  obtain ⟨x, hx, e⟩ := bs e
  cases e
  simp only [evO, ja x hx]
theorem J.sl {lo hi : Eo} {Va : α → Val} {V : γ → Val} {ma : Option α} {ml mh : Option (Option Int)} {op : α → Option Int → Option Int → γ} (ja : J F a ρ h ma Va) (jl : JO F lo ρ h ml) (jh : JO F hi ρ h mh)
    (ho : ∀ x l u, ma = some x → slV (Va x) l u h = some (V (op x l u))) : J F (.sl a lo hi) ρ h (ma.bind fun x => ml.bind fun l => mh.bind fun u => some (op x l u)) V := by
  intro z e
  obtain ⟨x, hx, e⟩ := bs e
  obtain ⟨l, hl, e⟩ := bs e
  obtain ⟨u, hu, e⟩ := bs e
  cases e
  simp only [evE, ja x hx, jl l hl, jh u hu, ho x l u hx]
theorem J.rev {Va : α → Val} {V : γ → Val} {ma : Option α} {op : α → γ} (ja : J F a ρ h ma Va) (ho : ∀ x, ma = some x → revV (Va x) h = some (V (op x))) : J F (.rev a) ρ h (ma.bind fun x => some (op x)) V := by
  intro z e
  obtain ⟨x, hx, e⟩ := bs e
  cases e
  simp only [evE, ja x hx, ho x hx]
theorem J.call {f : Nat} {Vs : γ → List Val} {m : Option γ} {V : δ → Val} {op : γ → Option δ} (js : Js F es ρ h m Vs) (ho : ∀ r z, m = some r → op r = some z → callV F f (Vs r) h = some (V z, h)) : J F (.call f es) ρ h (m.bind fun r => op r) V := by
  intro z e
  obtain ⟨x, hx, e⟩ := bs e
  simp only [evE, js x hx]
  exact ho x z hx e
theorem J.callK {f : Nat} {pm : List Nat} {Vs : γ → List Val} {Ws : β → List Val} {m : Option γ} {mk : Option β} {V : δ → Val} {op : γ → β → Option δ} (js : Js F es ρ h m Vs) (jk : Js F ks ρ h mk Ws)
    (ho : ∀ r s z, m = some r → mk = some s → op r s = some z → callV F f (Vs r ++ permL pm (Ws s)) h = some (V z, h)) : J F (.callK f pm es ks) ρ h (m.bind fun r => mk.bind fun s => op r s) V := by
  intro z e
  obtain ⟨x, hx, e⟩ := bs e
  obtain ⟨y, hy, e⟩ := bs e
  simp only [evE, js x hx, jk y hy]
  exact ho x y z hx hy e
theorem J.b1 {k : Bi} {Va : α → Val} {V : γ → Val} {ma : Option α} {op : α → Option γ} (ja : J F a ρ h ma Va) (ho : ∀ x, ma = some x → bi1 k (Va x) h = (op x).bind fun z => some (V z)) : J F (.bi k (.cons a .nil)) ρ h (ma.bind fun x => op x) V := by
  intro z e
  obtain ⟨x, hx, e⟩ := bs e
  have q := ho x hx
  rw [e, Option.bind_some] at q
  simp only [evE, evEs, ja x hx, biV, q]
theorem J.b1i {k : Bi} {Va : α → Val} {V : γ → Val} {ma : Option α} {op : α → Option γ} (ja : J F a ρ h ma Va) (ho : ∀ x z, ma = some x → op x = some z → bi1 k (Va x) h = some (V z)) : J F (.bi k (.cons a .nil)) ρ h (ma.bind fun x => op x) V := by
  intro z e
  obtain ⟨x, hx, e⟩ := bs e
  simp only [evE, evEs, ja x hx, biV, ho x z hx e]
theorem J.b2 {k : Bi} {Va : α → Val} {Vb : β → Val} {V : γ → Val} {ma : Option α} {mb : Option β} {op : α → β → Option γ} (ja : J F a ρ h ma Va) (jb : J F b ρ h mb Vb) (ho : ∀ x y, bi2 k (Va x) (Vb y) = (op x y).bind fun z => some (V z)) :
    J F (.bi k (.cons a (.cons b .nil))) ρ h (ma.bind fun x => mb.bind fun y => op x y) V := by
  intro z e
  obtain ⟨x, hx, e⟩ := bs e
  obtain ⟨y, hy, e⟩ := bs e
  have q := ho x y
  rw [e, Option.bind_some] at q
  simp only [evE, evEs, ja x hx, jb y hy, biV, q]
theorem J.isi {t : Ty} {k : Ty'} {Va : α → Val} {ma : Option α} (ja : J F a ρ h ma Va) (ho : ∀ x, ma = some x → tyV h (Va x) = some k) : J F (.isi t a) ρ h (ma.bind fun _ => some (isaT k t)) vB := by
  intro z e
  obtain ⟨x, hx, e⟩ := bs e
  cases e
  simp only [evE, ja x hx, ho x hx]
/-! tests -/
theorem JT.val {V : α → Val} {t : α → Bool} {m : Option α} (ja : J F a ρ h m V) (ht : ∀ x, m = some x → truV h (V x) = some (t x)) : JT F (.val a) ρ h (m.bind fun x => some (t x)) := by
  intro z e
  obtain ⟨x, hx, e⟩ := bs e
  cases e
  simp only [MP.evT, ja x hx, ht x hx]
theorem JT.bo {m : Option Bool} (ja : J F a ρ h m vB) : JT F (.val a) ρ h m := by
  intro z e
  simp only [MP.evT, ja z e, truV]
theorem JT.not {c : T} {m : Option Bool} (jc : JT F c ρ h m) : JT F (.not c) ρ h (m.bind fun x => some (!x)) := by
  intro z e
  obtain ⟨x, hx, e⟩ := bs e
  cases e
  simp only [MP.evT, jc x hx]
theorem JT.one {c : T} {m : Option Bool} (jc : JT F c ρ h m) : JT F (.one c) ρ h m := by
  intro z e
  simp only [MP.evT, jc z e]
theorem JT.and {c d : T} {m n : Option Bool} (jc : JT F c ρ h m) (jd : JT F d ρ h n) : JT F (.and c d) ρ h (m.bind fun x => if x then n else some false) := by
  intro z e
  obtain ⟨x, hx, e⟩ := bs e
  cases x with
  | false => cases e; simp only [MP.evT, jc _ hx]
  | true => simp only [MP.evT, jc _ hx]; exact jd z e
theorem JT.andP {c d : T} {x y : Bool} (jc : JT F c ρ h (some x)) (jd : JT F d ρ h (some y)) : JT F (.and c d) ρ h (some (x && y)) := by
  intro z e
  cases e
  cases x with
  | false => simp only [MP.evT, jc _ rfl]; rfl
  | true => simp only [MP.evT, jc _ rfl]; exact jd y rfl
theorem JT.or {c d : T} {m n : Option Bool} (jc : JT F c ρ h m) (jd : JT F d ρ h n) : JT F (.or c d) ρ h (m.bind fun x => if x then some true else n) := by
  intro z e
  obtain ⟨x, hx, e⟩ := bs e
  cases x with
  | true => cases e; simp only [MP.evT, jc _ hx]
  | false => simp only [MP.evT, jc _ hx]; exact jd z e
theorem JT.orP {c d : T} {x y : Bool} (jc : JT F c ρ h (some x)) (jd : JT F d ρ h (some y)) : JT F (.or c d) ρ h (some (x || y)) := by
  intro z e
  cases e
  cases x with
  | true => simp only [MP.evT, jc _ rfl]; rfl
  | false => simp only [MP.evT, jc _ rfl]; exact jd y rfl
theorem JC.no : JC F .no ρ h (some true) := by intro z e; cases e; rfl
theorem JC.yes {c : T} {m : Option Bool} (jc : JT F c ρ h m) : JC F (.yes c) ρ h m := jc
end
end MP

/-! ## EngLb.lean -/
set_option Elab.async false
set_option linter.all false
set_option maxRecDepth 100000
namespace MP
open PySem PySem.Spec L2
section
variable {α β γ δ : Type} {h h1 : Hs} {f : α → D} {v : Val} {b : Bool} {i n : Nat}
/-! ### what operators do to typed values -/
theorem op_mul (x y : Int) : binV .Mult (vI x) (vI y) h = (mulS x y).bind fun z => some (vI z) := by
  unfold mulS; simp only [binV, intV, binI]; by_cases c : mulOk x y = true <;> simp only [c, if_true, if_false, Option.bind_some, Option.bind_none, Bool.false_eq_true]
theorem op_fdiv (x y : Int) : binV .FloorDiv (vI x) (vI y) h = (fdivS x y).bind fun z => some (vI z) := by
  unfold fdivS; simp only [binV, intV, binI]; by_cases c : (decide (0 < y) && decide (y < 1073741824)) = true <;> simp only [c, if_true, if_false, Option.bind_some, Option.bind_none, Bool.false_eq_true]
theorem op_mod (x y : Int) : binV .Mod (vI x) (vI y) h = (modS x y).bind fun z => some (vI z) := by
  unfold modS; simp only [binV, intV, binI]; by_cases c : decide (0 < y) = true <;> simp only [c, if_true, if_false, Option.bind_some, Option.bind_none, Bool.false_eq_true]
theorem op_pow (x y : Int) : binV .Pow (vI x) (vI y) h = (powS x y).bind fun z => some (vI z) := by
  unfold powS; simp only [binV, intV, binI]; by_cases c : (decide (0 ≤ y) && (decide (y ≤ 1000000) && Nat.blt x.natAbs 18446744073709551616)) = true <;> simp only [c, if_true, if_false, Option.bind_some, Option.bind_none, Bool.false_eq_true]
theorem op_mulR {x y : Int} (hc : Nat.blt y.natAbs 18446744073709551616 = true) : binV .Mult (vI x) (vI y) h = (some (x * y)).bind fun z => some (vI z) := by
  have : mulOk x y = true := by unfold mulOk; rw [hc, Bool.true_or, Bool.or_true]
  simp only [binV, intV, binI, this, if_true, Option.bind_some]
theorem op_mulL {x y : Int} (hc : Nat.blt x.natAbs 18446744073709551616 = true) : binV .Mult (vI x) (vI y) h = (some (x * y)).bind fun z => some (vI z) := by
  have : mulOk x y = true := by unfold mulOk; rw [hc, Bool.true_or]
  simp only [binV, intV, binI, this, if_true, Option.bind_some]
theorem op_fdivL {x y : Int} (hc : (decide (0 < y) && decide (y < 1073741824)) = true) : binV .FloorDiv (vI x) (vI y) h = (some (x / y)).bind fun z => some (vI z) := by
  simp only [binV, intV, binI, hc, if_true, Option.bind_some]
theorem op_modL {x y : Int} (hc : decide (0 < y) = true) : binV .Mod (vI x) (vI y) h = (some (x % y)).bind fun z => some (vI z) := by
  simp only [binV, intV, binI, hc, if_true, Option.bind_some]
theorem op_powL {x y : Int} (hc : (decide (0 ≤ y) && (decide (y ≤ 1000000) && Nat.blt x.natAbs 18446744073709551616)) = true) : binV .Pow (vI x) (vI y) h = (some (x ^ y.toNat)).bind fun z => some (vI z) := by
  simp only [binV, intV, binI, hc, if_true, Option.bind_some]
theorem seq_loc {k : Bool} {xs ys : List α} (hx : h[i]? = some (.lst k (xs.map f))) (e : some xs = some ys) : seqD h (.loc i) = some (false, ys.map f) := by
  cases e; simp only [seqD, hx]
theorem int_seq {v : Val} {q : Bool × List D} (e : seqD h v = some q) : intV v = none := by
  cases v with
  | p d => cases d <;> first | rfl | cases e
  | _ => rfl
theorem op_cat {x y : Val} {xs ys : List α} (hx : seqD h x = some (false, xs.map f)) (hy : seqD h y = some (false, ys.map f)) : binV .Add x y h = (catS xs ys).bind fun z => some (vN f z) := by
  unfold catS
  simp only [binV, catV, hx, hy, int_seq hy, List.length_map]
  split
  · simp only [Option.bind_some, vN, List.map_append]
  · rfl
theorem op_catT {x y : Val} {xs ys : List α} (hx : seqD h x = some (true, xs.map f)) (hy : seqD h y = some (true, ys.map f)) : binV .Add x y h = (catS xs ys).bind fun z => some (vT f z) := by
  unfold catS
  simp only [binV, catV, hx, hy, int_seq hy, List.length_map]
  split
  · simp only [Option.bind_some, vT, List.map_append]
  · rfl
theorem op_times {x : Val} {xs : List α} {k : Int} (hx : seqD h x = some (false, xs.map f)) : binV .Mult x (vI k) h = (timesS xs k).bind fun z => some (vN f z) := by
  unfold timesS
  simp only [binV, timesV, hx, int_seq hx, List.length_map]
  simp only [intV]
  split
  · simp only [Option.bind_some, vN, List.map_flatten, List.map_replicate]
  · rfl
theorem op_timesT {xs : List α} {k : Int} : binV .Mult (vT f xs) (vI k) h = (timesTS xs k).bind fun z => some (vT f z) := by
  unfold timesTS
  simp only [binV, timesV, seqD, intV, List.length_map, List.isEmpty_map]
  split
  · simp only [Option.bind_some, vT, List.map_flatten, List.map_replicate]
  · rfl
theorem len_seq {q : Bool} {xs : List α} (hx : seqD h v = some (q, xs.map f)) : lenV v h = some (xs.length : Int) := by
  cases v with
  | p d =>
    cases d <;> simp only [seqD, Option.some.injEq, Prod.mk.injEq, reduceCtorEq] at hx
    · obtain ⟨_, rfl⟩ := hx; simp [lenV]
    · obtain ⟨_, rfl⟩ := hx; simp [lenV]
  | new d =>
    simp only [seqD, Option.some.injEq, Prod.mk.injEq] at hx
    obtain ⟨_, rfl⟩ := hx; simp [lenV]
  | loc i =>
    simp only [seqD] at hx
    split at hx
    · rename_i k ys q
      simp only [Option.some.injEq, Prod.mk.injEq] at hx
      obtain ⟨_, rfl⟩ := hx; simp [lenV, q]
    · cases hx
theorem b_len {q : Bool} {xs : List α} (hx : seqD h v = some (q, xs.map f)) : bi1 .len v h = (some (xs.length : Int)).bind fun z => some (vI z) := by
  simp only [bi1, len_seq hx, Option.bind_some]
theorem atI_mp (xs : List α) (k : Int) : atI (xs.map f) k = (atI xs k).map f := by
  unfold atI
  rw [List.length_map]
  cases ixN xs.length k <;> simp
theorem op_ix {q : Bool} {xs : List α} {k : Int} (hx : seqD h v = some (q, xs.map f)) : subV v (vI k) h = (atI xs k).bind fun z => some (vD f z) := by
  have e := atI_mp (f := f) xs k
  cases v with
  | p d =>
    cases d <;> simp only [seqD, Option.some.injEq, Prod.mk.injEq, reduceCtorEq] at hx
    · obtain ⟨_, rfl⟩ := hx; simp only [subV, intV, e]; cases atI xs k <;> rfl
    · obtain ⟨_, rfl⟩ := hx; simp only [subV, intV, e]; cases atI xs k <;> rfl
  | new d =>
    simp only [seqD, Option.some.injEq, Prod.mk.injEq] at hx
    obtain ⟨_, rfl⟩ := hx; simp only [subV, intV, e]; cases atI xs k <;> rfl
  | loc i =>
    simp only [seqD] at hx
    split at hx
    · rename_i k' ys q
      simp only [Option.some.injEq, Prod.mk.injEq] at hx
      obtain ⟨_, rfl⟩ := hx; simp only [subV, intV, q, e]; cases atI xs k <;> rfl
    · cases hx
theorem op_ixS (ns : List Int) (k : Int) : subV (.p (.scr ns)) (vI k) h = (atI ns k).bind fun z => some (vI z) := by
  simp only [subV, intV]; cases atI ns k <;> rfl
theorem cutD_map (xs : List α) (lo hi : Option Int) : cutD (xs.map f) lo hi = (cutD xs lo hi).map f := by
  unfold cutD; rw [List.length_map, List.map_take, List.map_drop]
theorem sl_N {xs : List α} {lo hi : Option Int} (hx : seqD h v = some (false, xs.map f)) : slV v lo hi h = some (vN f (cutD xs lo hi)) := by
  have e := cutD_map (f := f) xs lo hi
  cases v with
  | p d => cases d <;> simp only [seqD, Option.some.injEq, Prod.mk.injEq, reduceCtorEq, Bool.true_eq_false, false_and] at hx; simp only [slV, seqD, hx.2, e]
  | new d => simp only [slV, hx, e]
  | loc i => simp only [slV, hx, e]
theorem sl_T {xs : List α} {lo hi : Option Int} (hx : seqD h v = some (true, xs.map f)) : slV v lo hi h = some (vT f (cutD xs lo hi)) := by
  have e := cutD_map (f := f) xs lo hi
  cases v with
  | p d => cases d <;> simp only [seqD, Option.some.injEq, Prod.mk.injEq, reduceCtorEq, Bool.false_eq_true, false_and] at hx; simp only [slV, seqD, hx.2, e]
  | new d => simp only [slV, hx, e]
  | loc i => simp only [slV, hx, e]
theorem op_rev {xs : List α} (hx : seqD h v = some (false, xs.map f)) : revV v h = some (vN f xs.reverse) := by
  simp only [revV, hx, vN, List.map_reverse]
theorem op_revT {xs : List α} (hx : seqD h v = some (true, xs.map f)) : revV v h = some (vT f xs.reverse) := by
  simp only [revV, hx, vT, List.map_reverse]
/-! truth -/
theorem tr_seq {q : Bool} {xs : List α} (hx : seqD h v = some (q, xs.map f)) : truV h v = some (!xs.isEmpty) := by
  cases v with
  | p d =>
    cases d <;> simp only [seqD, Option.some.injEq, Prod.mk.injEq, reduceCtorEq] at hx
    · obtain ⟨_, rfl⟩ := hx; simp only [truV]; cases xs <;> rfl
    · obtain ⟨_, rfl⟩ := hx; simp only [truV, seqD]; cases xs <;> rfl
  | new d =>
    simp only [seqD, Option.some.injEq, Prod.mk.injEq] at hx
    obtain ⟨_, rfl⟩ := hx; simp only [truV, seqD]; cases xs <;> rfl
  | loc i =>
    have : q = false := by
      simp only [seqD] at hx
      split at hx <;> simp_all
    subst this
    simp only [truV, hx]; cases xs <;> rfl
/-! equality -/
structure EqT (f : α → D) [BEq α] (k : Nat) : Prop where
  ok : ∀ a, okD (f a) = true
  dp : ∀ a, depD (f a) ≤ k
  eq : ∀ a b, pyEq (f a) (f b) = some (a == b)
theorem EqT.int : EqT D.int 0 := ⟨fun _ => rfl, fun _ => Nat.le_refl _, fun _ _ => rfl⟩
theorem EqT.bl : EqT D.bl 0 := ⟨fun _ => rfl, fun _ => Nat.le_refl _, fun _ _ => rfl⟩
theorem oks_map [BEq α] {k : Nat} (e : EqT f k) : ∀ xs : List α, okDs (xs.map f) = true
  | [] => rfl
  | x :: xs => by simp only [List.map_cons, okDs, e.ok x, oks_map e xs, Bool.and_self]
theorem dps_map [BEq α] {k : Nat} (e : EqT f k) : ∀ xs : List α, depDs (xs.map f) ≤ k
  | [] => Nat.zero_le _
  | x :: xs => by simp only [List.map_cons, depDs]; exact Nat.max_le.mpr ⟨e.dp x, dps_map e xs⟩
theorem eqs_map [BEq α] {k : Nat} (e : EqT f k) : ∀ xs ys : List α, pyEqs (xs.map f) (ys.map f) = some (xs == ys)
  | [], [] => rfl
  | [], _ :: _ => rfl
  | _ :: _, [] => rfl
  | x :: xs, y :: ys => by simp only [List.map_cons, pyEqs, e.eq x y, eqs_map e xs ys]; rfl
theorem EqT.tup [BEq α] {k : Nat} (e : EqT f k) : EqT (eT f) (k + 1) :=
  ⟨fun xs => by simp only [okD, oks_map e], fun xs => by simp only [depD]; exact Nat.succ_le_succ (dps_map e xs), fun xs ys => by simp only [pyEq, eqs_map e]⟩
theorem EqT.lst [BEq α] {k : Nat} (e : EqT f k) : EqT (eF f) (k + 1) :=
  ⟨fun xs => by simp only [okD, oks_map e], fun xs => by simp only [depD]; exact Nat.succ_le_succ (dps_map e xs), fun xs ys => by simp only [pyEq, eqs_map e]⟩
theorem EqT.pair [BEq α] [BEq β] {g : β → D} {k : Nat} (e : EqT f k) (e' : EqT g k) : EqT (eP f g) (k + 1) :=
  ⟨fun p => by simp only [okD, okDs, e.ok, e'.ok, Bool.and_self], fun p => by
    simp only [depD, depDs]; exact Nat.succ_le_succ (Nat.max_le.mpr ⟨e.dp _, Nat.max_le.mpr ⟨e'.dp _, Nat.zero_le _⟩⟩), fun p q => by
    simp only [pyEq, pyEqs, e.eq, e'.eq, Bool.and_true]; rfl⟩
theorem EqT.up [BEq α] {k m : Nat} (e : EqT f k) (l : k ≤ m) : EqT f m := ⟨e.ok, fun a => Nat.le_trans (e.dp a) l, e.eq⟩
theorem shp_of [BEq α] {k : Nat} (e : EqT f k) (l : Nat.ble k 60 = true) (a : α) : shpD (f a) = true := by
  unfold shpD
  rw [e.ok, Bool.true_and]
  exact Nat.ble_eq_true_of_le (Nat.le_trans (e.dp a) (Nat.le_of_ble_eq_true l))
theorem op_eq [BEq α] {k : Nat} (e : EqT f k) (l : Nat.ble k 60 = true) {x y : Val} {a b : α} (hx : datD h x = some (f a)) (hy : datD h y = some (f b)) : cmpV .Eq x y h = some (a == b) := by
  simp only [cmpV, eqV, hx, hy, shp_of e l, Bool.and_self, Bool.or_true, if_true, e.eq]
theorem op_ne [BEq α] {k : Nat} (e : EqT f k) (l : Nat.ble k 60 = true) {x y : Val} {a b : α} (hx : datD h x = some (f a)) (hy : datD h y = some (f b)) : cmpV .NotEq x y h = some (!(a == b)) := by
  simp only [cmpV, eqV, hx, hy, shp_of e l, Bool.and_self, Bool.or_true, if_true, e.eq]
theorem op_eqR (a b : D) : cmpV .Eq (.p (.rep a)) (.p (.rep b)) h = (if eqD a b then some true else none) := by
  simp only [cmpV, eqV, datD, txtD, Bool.and_self, Bool.true_or, if_true, pyEq]
theorem op_neR (a b : D) : cmpV .NotEq (.p (.rep a)) (.p (.rep b)) h = (if eqD a b then some false else none) := by
  simp only [cmpV, eqV, datD, txtD, Bool.and_self, Bool.true_or, if_true, pyEq]
  cases eqD a b <;> rfl
theorem dat_loc {k : Bool} {xs ys : List α} (hx : h[i]? = some (.lst k (xs.map f))) (e : some xs = some ys) : datD h (.loc i) = some (eF f ys) := by
  cases e; simp only [datD, hx]
theorem op_in [BEq α] {k : Nat} (e : EqT f k) (l : Nat.ble (k + 1) 60 = true) {x y : Val} {a : α} {xs : List α} (hx : datD h x = some (f a)) (hy : seqD h y = some (false, xs.map f)) : cmpV .In x y h = some (xs.any fun z => z == a) := by
  have l' : Nat.ble k 60 = true := Nat.ble_eq_true_of_le (Nat.le_trans (Nat.le_succ k) (Nat.le_of_ble_eq_true l))
  have e2 : shpD (.lst (xs.map f)) = true := shp_of e.lst l xs
  have e3 : ∀ ys : List α, inV'.inDs (f a) (ys.map f) = some (ys.any fun z => z == a) := by
    intro ys
    induction ys with
    | nil => rfl
    | cons y ys ih => simp only [List.map_cons, inV'.inDs, e.eq, ih, List.any_cons]
  simp only [cmpV, inV', hx, hy, shp_of e l', e2, Bool.and_self, if_true, e3]
theorem op_notin [BEq α] {k : Nat} (e : EqT f k) (l : Nat.ble (k + 1) 60 = true) {x y : Val} {a : α} {xs : List α} (hx : datD h x = some (f a)) (hy : seqD h y = some (false, xs.map f)) : cmpV .NotIn x y h = some (!xs.any fun z => z == a) := by
  have := op_in e l hx hy
  simp only [cmpV] at this ⊢
  rw [this]
/-! built-ins -/
theorem ints_map : ∀ xs : List Int, intsOf (xs.map D.int) = some xs
  | [] => rfl
  | x :: xs => by simp only [List.map_cons, intsOf, ints_map xs]
theorem intsV_seq {v : Val} {xs : List Int} (hx : seqD h v = some (false, xs.map D.int)) : intsV v h = some xs := by simp only [intsV, hx, ints_map]
theorem intsC_seq {v : Val} {b : Bool} {xs : List Int} (hx : seqD h v = some (b, xs.map D.int)) : intsC v h = some (b, xs) := by simp only [intsC, hx, ints_map, Option.map_some]
theorem J.lcnt {F : CallF} {ρ : Env'} {a b : E} {q : Bool} {Va : List Int → Val} {ma : Option (List Int)} {mb : Option Int} (ja : J F a ρ h ma Va) (jb : J F b ρ h mb vI) (hs : ∀ x, ma = some x → intsC (Va x) h = some (q, x)) :
    J F (.lcnt a b) ρ h (ma.bind fun x => mb.bind fun y => some ((List.count y x : Nat) : Int)) vI := by
  intro z e
  obtain ⟨x, hx, e⟩ := bs e
  obtain ⟨y, hy, e⟩ := bs e
  cases e
  simp only [evE, ja x hx, hs x hx, jb y hy, lcntV, intV, beq_self_eq_true, if_true]
theorem J.srt {F : CallF} {ρ : Env'} {a : E} {Va : List Int → Val} {ma : Option (List Int)} (ja : J F a ρ h ma Va) (hs : ∀ x, ma = some x → intsV (Va x) h = some x) :
    J F (.srt a) ρ h (ma.bind fun x => some (sortB geI x)) (vN D.int) := by
  intro z e
  obtain ⟨x, hx, e⟩ := bs e
  cases e
  simp only [evE, ja x hx, hs x hx]
theorem bls_map : ∀ xs : List Bool, blsOf (xs.map D.bl) = some xs
  | [] => rfl
  | x :: xs => by simp only [List.map_cons, blsOf, bls_map xs]
theorem scr_seq {q : Bool × List D} (e : seqD h v = some q) : scrV v = none := by
  cases v with
  | p d => cases d <;> first | rfl | cases e
  | _ => rfl
theorem b_sum {xs : List Int} (hx : seqD h v = some (false, xs.map D.int)) : bi1 .sum v h = (some xs.sum).bind fun z => some (vI z) := by
  simp only [bi1, scr_seq hx, intsV, hx, ints_map, Option.bind_some]
theorem b_sumT (xs : List Int) : bi1 .sum (vT D.int xs) h = (some xs.sum).bind fun z => some (vI z) := by
  simp only [bi1, scrV, intsV, seqD, tupI, ints_map, Option.bind_some]
theorem b_sumS (xs : List Int) : bi1 .sum (.p (.scr xs)) h = (some xs.sum).bind fun z => some (vI z) := rfl
theorem b_all {xs : List Bool} (hx : seqD h v = some (false, xs.map D.bl)) : bi1 .all v h = (some (xs.all id)).bind fun z => some (vB z) := by
  simp only [bi1, blsV, hx, bls_map, Option.bind_some]
theorem b_any {xs : List Bool} (hx : seqD h v = some (false, xs.map D.bl)) : bi1 .any v h = (some (xs.any id)).bind fun z => some (vB z) := by
  simp only [bi1, blsV, hx, bls_map, Option.bind_some]
theorem b_max {xs : List Int} (hx : seqD h v = some (false, xs.map D.int)) : bi1 .max v h = (maxI xs).bind fun z => some (vI z) := by
  simp only [bi1, intsV, hx, ints_map]; cases maxI xs <;> rfl
theorem b_min {xs : List Int} (hx : seqD h v = some (false, xs.map D.int)) : bi1 .min v h = (minI xs).bind fun z => some (vI z) := by
  simp only [bi1, intsV, hx, ints_map]; cases minI xs <;> rfl
theorem b_abs (x : Int) : bi1 .abs (vI x) h = (some (if x < 0 then -x else x)).bind fun z => some (vI z) := rfl
theorem b_int (x : Int) : bi1 .int (vI x) h = (some x).bind fun z => some (vI z) := rfl
theorem b_intB (x : Bool) : bi1 .int (vB x) h = (some (if x then 1 else 0)).bind fun z => some (vI z) := rfl
theorem b_tuple {q : Bool} {xs : List α} (hx : seqD h v = some (q, xs.map f)) : bi1 .tuple v h = (some xs).bind fun z => some (vT f z) := by
  simp only [bi1, hx, Option.bind_some]
theorem b_list {q : Bool} {xs : List α} (hx : seqD h v = some (q, xs.map f)) : bi1 .list v h = (some xs).bind fun z => some (vN f z) := by
  simp only [bi1, scr_seq hx, hx, Option.bind_some]
theorem b_listS (xs : List Int) : bi1 .list (.p (.scr xs)) h = (some xs).bind fun z => some (vN D.int z) := rfl
theorem b_sortI {xs : List Int} (hx : seqD h v = some (false, xs.map D.int)) : bi1 .sorted v h = (some (sortB leI xs)).bind fun z => some (vN D.int z) := by
  simp only [bi1, hx, sortV, ints_map, Option.bind_some]
/-! order of typed data -/
structure OrdT (f : α → D) [BEq α] (lt : α → α → Bool) (k : Nat) : Prop where
  alk : ∀ a b, alkD (f a) (f b) = true
  lt : ∀ a b, ltD (f a) (f b) = lt a b
  eq : ∀ a b, eqD (f a) (f b) = (a == b)
  dp : ∀ a, depD (f a) ≤ k
def ltI (a b : Int) : Bool := decide (a < b)
def ltL [BEq α] (lt : α → α → Bool) : List α → List α → Bool
  | x :: xs, y :: ys => if x == y then ltL lt xs ys else lt x y
  | [], _ :: _ => true
  | _, [] => false
def ltP [BEq α] [BEq β] (lt : α → α → Bool) (lt' : β → β → Bool) (p q : α × β) : Bool := if p.1 == q.1 then (if p.2 == q.2 then false else lt' p.2 q.2) else lt p.1 q.1
def leB (lt : α → α → Bool) (a b : α) : Bool := !lt b a
theorem OrdT.int : OrdT D.int ltI 0 := ⟨fun _ _ => rfl, fun _ _ => rfl, fun a b => by by_cases h : a = b <;> simp [eqD, h], fun _ => Nat.le_refl _⟩
theorem OrdT.alks [BEq α] {lt : α → α → Bool} {k : Nat} (o : OrdT f lt k) : ∀ xs ys : List α, alkDs (xs.map f) (ys.map f) = true
  | [], ys => by cases ys <;> rfl
  | _ :: _, [] => rfl
  | x :: xs, y :: ys => by simp only [List.map_cons, alkDs, o.alk x y, o.alks xs ys, Bool.and_self]
theorem OrdT.eqs [BEq α] {lt : α → α → Bool} {k : Nat} (o : OrdT f lt k) : ∀ xs ys : List α, eqDs (xs.map f) (ys.map f) = (xs == ys)
  | [], [] => rfl
  | [], _ :: _ => rfl
  | _ :: _, [] => rfl
  | x :: xs, y :: ys => by simp only [List.map_cons, eqDs, o.eq x y, o.eqs xs ys]; rfl
theorem OrdT.lts [BEq α] {lt : α → α → Bool} {k : Nat} (o : OrdT f lt k) : ∀ xs ys : List α, ltDs (xs.map f) (ys.map f) = ltL lt xs ys
  | [], [] => rfl
  | [], _ :: _ => rfl
  | _ :: _, [] => rfl
  | x :: xs, y :: ys => by simp only [List.map_cons, ltDs, o.eq x y, o.lts xs ys, o.lt x y, ltL]
theorem OrdT.dps [BEq α] {lt : α → α → Bool} {k : Nat} (o : OrdT f lt k) : ∀ xs : List α, depDs (xs.map f) ≤ k
  | [] => Nat.zero_le _
  | x :: xs => by simp only [List.map_cons, depDs]; exact Nat.max_le.mpr ⟨o.dp x, o.dps xs⟩
theorem OrdT.tup [BEq α] {lt : α → α → Bool} {k : Nat} (o : OrdT f lt k) : OrdT (eT f) (ltL lt) (k + 1) :=
  ⟨fun a b => by simp only [alkD, o.alks], fun a b => by simp only [ltD, o.lts], fun a b => by simp only [eqD, o.eqs], fun a => by simp only [depD]; exact Nat.succ_le_succ (o.dps a)⟩
theorem OrdT.lst [BEq α] {lt : α → α → Bool} {k : Nat} (o : OrdT f lt k) : OrdT (eF f) (ltL lt) (k + 1) :=
  ⟨fun a b => by simp only [alkD, o.alks], fun a b => by simp only [ltD, o.lts], fun a b => by simp only [eqD, o.eqs], fun a => by simp only [depD]; exact Nat.succ_le_succ (o.dps a)⟩
theorem OrdT.up [BEq α] {lt : α → α → Bool} {k m : Nat} (o : OrdT f lt k) (l : k ≤ m) : OrdT f lt m := ⟨o.alk, o.lt, o.eq, fun a => Nat.le_trans (o.dp a) l⟩
theorem OrdT.pair [BEq α] [BEq β] {g : β → D} {lt : α → α → Bool} {lt' : β → β → Bool} {k : Nat} (o : OrdT f lt k) (o' : OrdT g lt' k) : OrdT (eP f g) (ltP lt lt') (k + 1) :=
  ⟨fun a b => by simp only [alkD, alkDs, o.alk, o'.alk, Bool.and_self], fun a b => by simp only [ltD, ltDs, o.eq, o'.eq, o.lt, o'.lt, ltP], fun a b => by simp only [eqD, eqDs, o.eq, o'.eq, Bool.and_true]; rfl, fun a => by
    simp only [depD, depDs]; exact Nat.succ_le_succ (Nat.max_le.mpr ⟨o.dp _, Nat.max_le.mpr ⟨o'.dp _, Nat.zero_le _⟩⟩)⟩
theorem alkAll_map [BEq α] {lt : α → α → Bool} {k : Nat} (o : OrdT f lt k) (xs : List α) : ((xs.map f).all fun a => (xs.map f).all fun b => alkD a b) = true := by
  rw [List.all_eq_true]; intro a ha; rw [List.all_eq_true]; intro b hb
  obtain ⟨x, _, rfl⟩ := List.mem_map.mp ha
  obtain ⟨y, _, rfl⟩ := List.mem_map.mp hb
  exact o.alk x y
def maxS (lt : α → α → Bool) : List α → Option α
  | [] => none
  | x :: xs => some (xs.foldl (fun a y => if lt a y then y else a) x)
def minS (lt : α → α → Bool) : List α → Option α
  | [] => none
  | x :: xs => some (xs.foldl (fun a y => if lt y a then y else a) x)
theorem maxG_map [BEq α] {lt : α → α → Bool} {k : Nat} (o : OrdT f lt k) : ∀ (xs : List α) (x : α), maxG (f x) (xs.map f) = f (xs.foldl (fun a y => if lt a y then y else a) x)
  | [], x => rfl
  | y :: ys, x => by
    have := maxG_map o ys (if lt x y then y else x)
    unfold maxG at this ⊢
    rw [List.map_cons, List.foldl_cons, List.foldl_cons, o.lt, ← this]
    congr 1; split <;> rfl
theorem minG_map [BEq α] {lt : α → α → Bool} {k : Nat} (o : OrdT f lt k) : ∀ (xs : List α) (x : α), minG (f x) (xs.map f) = f (xs.foldl (fun a y => if lt y a then y else a) x)
  | [], x => rfl
  | y :: ys, x => by
    have := minG_map o ys (if lt y x then y else x)
    unfold minG at this ⊢
    rw [List.map_cons, List.foldl_cons, List.foldl_cons, o.lt, ← this]
    congr 1; split <;> rfl
theorem b_maxG [BEq α] {lt : α → α → Bool} {k : Nat} (o : OrdT f lt k) (l : Nat.ble k 60 = true) (hi : ∀ a ds, intsOf (f a :: ds) = none) {xs : List α} (hx : seqD h v = some (false, xs.map f)) : bi1 .max v h = (maxS lt xs).bind fun z => some (vD f z) := by
  cases xs with
  | nil => simp only [bi1, intsV, hx, List.map_nil, intsOf]; rfl
  | cons x xs =>
    have q : bestOk (f x :: xs.map f) = true := by
      unfold bestOk
      rw [show (f x :: xs.map f) = (x :: xs).map f from rfl, alkAll_map o, Bool.true_and]
      exact Nat.ble_eq_true_of_le (Nat.le_trans (o.dps _) (Nat.le_of_ble_eq_true l))
    simp only [bi1, intsV, hx, List.map_cons, hi, q, if_true, maxG_map o, maxS, Option.bind_some]
theorem b_minG [BEq α] {lt : α → α → Bool} {k : Nat} (o : OrdT f lt k) (l : Nat.ble k 60 = true) (hi : ∀ a ds, intsOf (f a :: ds) = none) {xs : List α} (hx : seqD h v = some (false, xs.map f)) : bi1 .min v h = (minS lt xs).bind fun z => some (vD f z) := by
  cases xs with
  | nil => simp only [bi1, intsV, hx, List.map_nil, intsOf]; rfl
  | cons x xs =>
    have q : bestOk (f x :: xs.map f) = true := by
      unfold bestOk
      rw [show (f x :: xs.map f) = (x :: xs).map f from rfl, alkAll_map o, Bool.true_and]
      exact Nat.ble_eq_true_of_le (Nat.le_trans (o.dps _) (Nat.le_of_ble_eq_true l))
    simp only [bi1, intsV, hx, List.map_cons, hi, q, if_true, minG_map o, minS, Option.bind_some]
theorem insB_map {le : D → D → Bool} {le' : α → α → Bool} (hl : ∀ a b, le (f a) (f b) = le' a b) (x : α) : ∀ ys : List α, insB le (f x) (ys.map f) = (insB le' x ys).map f
  | [] => rfl
  | y :: ys => by
    simp only [List.map_cons, insB, hl]
    split
    · rfl
    · rw [insB_map hl x ys]; rfl
theorem sortB_map {le : D → D → Bool} {le' : α → α → Bool} (hl : ∀ a b, le (f a) (f b) = le' a b) : ∀ ys : List α, sortB le (ys.map f) = (sortB le' ys).map f
  | [] => rfl
  | y :: ys => by simp only [List.map_cons, sortB]; rw [sortB_map hl ys, insB_map hl]
theorem OrdT.le [BEq α] {lt : α → α → Bool} {k : Nat} (o : OrdT f lt k) (a b : α) : leD (f a) (f b) = leB lt a b := by unfold leD leB; rw [o.lt]
/-- sorted, of data that are not numbers; ne: none is an empty tuple (or there is one only) -/
def sortS (lt : α → α → Bool) (ne : α → Bool) (xs : List α) : Option (List α) := if (xs.all ne && Nat.ble xs.length line) || Nat.ble xs.length 1 then some (sortB (leB lt) xs) else none
theorem sortG_map [BEq α] {lt : α → α → Bool} {ne : α → Bool} {k : Nat} (o : OrdT f lt k) (l : Nat.ble k 60 = true) (hn : (∀ a, ne a = true → isNeT (f a) = true) ∨ (∀ a, isNoT (f a) = true)) (xs : List α) {ys : List α} (e : sortS lt ne xs = some ys) : sortG (xs.map f) = some (ys.map f) := by
  have single : ∀ {zs : List α}, zs.length ≤ 1 → sortB (leB lt) zs = zs := fun {zs} h => by
    match zs, h with
    | [], _ => rfl
    | [_], _ => rfl
    | _ :: _ :: _, h => simp at h
  unfold sortS at e
  split at e
  · rename_i c
    cases e
    unfold sortG
    split
    · rw [sortB_map (fun a b => o.le a b)]
    · rename_i c2
      by_cases c3 : xs.length ≤ 1
      · rw [if_pos (by rw [List.length_map]; exact Nat.ble_eq_true_of_le c3), single c3]
      · exfalso; apply c2
        rw [Bool.or_eq_true, Bool.and_eq_true] at c
        have c := c.resolve_right (fun z => c3 (Nat.le_of_ble_eq_true z))
        unfold sortOk
        rw [alkAll_map o, Bool.true_and, List.length_map, c.2, Bool.and_true, Nat.ble_eq_true_of_le (Nat.le_trans (o.dps _) (Nat.le_of_ble_eq_true l)), Bool.and_true, Bool.or_eq_true]
        rcases hn with hn | hn
        · left; rw [List.all_eq_true]; intro a ha
          obtain ⟨x, hx, rfl⟩ := List.mem_map.mp ha
          exact hn x (List.all_eq_true.mp c.1 x hx)
        · right; rw [List.all_eq_true]; intro a ha
          obtain ⟨x, hx, rfl⟩ := List.mem_map.mp ha
          exact hn x
  · cases e
/-- rows: tuples of numbers -/
theorem b_sortT {xs ys : List (List Int)} (hx : seqD h v = some (false, xs.map (eT D.int))) (e : sortS (ltL ltI) (fun r => !r.isEmpty) xs = some ys) : bi1 .sorted v h = some (vN (eT D.int) ys) := by
  have g := sortG_map (f := eT D.int) OrdT.int.tup (by decide) (.inl fun a q => by cases a with | nil => simp at q | cons => rfl) xs e
  cases xs with
  | nil =>
    have : ys = [] := by unfold sortS at e; simpa [sortB] using e.symm
    subst this
    simp only [bi1, hx, List.map_nil, sortV, intsOf]; rfl
  | cons x xs =>
    have q : intsOf ((x :: xs).map (eT D.int)) = none := rfl
    simp only [bi1, hx, sortV, q]
    simp only [g]
/-- lists of data that are not tuples and not numbers -/
theorem b_sortL [BEq α] {lt : List α → List α → Bool} {k : Nat} (o : OrdT (eF f) lt k) (l : Nat.ble k 60 = true) {xs ys : List (List α)} (hx : seqD h v = some (false, xs.map (eF f))) (e : sortS lt (fun _ => true) xs = some ys) : bi1 .sorted v h = some (vN (eF f) ys) := by
  have g := sortG_map (f := eF f) o l (.inr fun _ => rfl) xs e
  cases xs with
  | nil =>
    have : ys = [] := by unfold sortS at e; simpa [sortB] using e.symm
    subst this
    simp only [bi1, hx, List.map_nil, sortV, intsOf]; rfl
  | cons x xs =>
    have q : intsOf ((x :: xs).map (eF f)) = none := rfl
    simp only [bi1, hx, sortV, q, g]
/-- pairs whose second (or first) is no number -/
theorem b_sortG [BEq α] {lt : α → α → Bool} {k : Nat} (o : OrdT f lt k) (l : Nat.ble k 60 = true) (hn : ∀ a, isNeT (f a) = true) (hi : ∀ a ds, intsOf (f a :: ds) = none) {xs ys : List α} (hx : seqD h v = some (false, xs.map f)) (e : sortS lt (fun _ => true) xs = some ys) : bi1 .sorted v h = some (vN f ys) := by
  have g := sortG_map (f := f) o l (.inl fun a _ => hn a) xs e
  cases xs with
  | nil =>
    have : ys = [] := by unfold sortS at e; simpa [sortB] using e.symm
    subst this
    simp only [bi1, hx, List.map_nil, sortV, intsOf]; rfl
  | cons x xs => simp only [bi1, hx, sortV, List.map_cons, hi]; rw [show (f x :: xs.map f) = (x :: xs).map f from rfl, g]
theorem b_repr {d : D} {x : Val} (hx : datD h x = some d) : bi1 .repr x h = (repS d).bind fun z => some (vD D.rep z) := by
  unfold repS
  simp only [bi1, hx]; split <;> rfl
theorem b2_max (x y : Int) : bi2 .max (vI x) (vI y) = (some (if y > x then y else x)).bind fun z => some (vI z) := rfl
theorem b2_min (x y : Int) : bi2 .min (vI x) (vI y) = (some (if y < x then y else x)).bind fun z => some (vI z) := rfl
theorem b2_div (x y : Int) : bi2 .divmod (vI x) (vI y) = (divS x y).bind fun z => some (vD (eP D.int D.int) z) := by
  unfold divS; simp only [bi2, intV]; split <;> rfl
theorem disp_len {d : Val} {ds : List D} (l : Nat.ble ds.length line = true) {z : δ} {V : δ → Val} (e : d = V z) : (if Nat.ble ds.length line then some (d, h) else none) = (some z).bind fun z => some (V z, h) := by
  rw [if_pos l, e]; rfl
theorem disp_T {ds : List D} {xs : List α} (e : ds = xs.map f) : (if Nat.ble ds.length line then some (Val.p (.tup ds), h) else none) = (lenT xs).bind fun z => some (vT f z, h) := by
  subst e; unfold lenT; rw [List.length_map]; split <;> rfl
theorem disp_N {ds : List D} {xs : List α} (e : ds = xs.map f) : (if Nat.ble ds.length line then some (Val.new ds, h) else none) = (lenT xs).bind fun z => some (vN f z, h) := by
  subst e; unfold lenT; rw [List.length_map]; split <;> rfl
end
/-! ### comprehensions -/
section
variable {F : CallF} {ρ : Env'} {h h1 : Hs} {α β γ : Type}
def lcS (f : α → Option (Option β)) : List α → Option (List β)
  | [] => some []
  | x :: xs => (f x).bind fun o => (lcS f xs).bind fun ys => some (match o with | some y => y :: ys | none => ys)
theorem lcGo_s {k : Val → Hs → Option (Option D × Hs)} {g : α → Val} {f : α → Option (Option β)} {en : β → D} (hk : ∀ x o, f x = some o → k (g x) h = some (o.map en, h)) :
    ∀ (xs : List α) (ys : List β), lcS f xs = some ys → lcGo k (xs.map g) h = some (ys.map en, h)
  | [], ys, e => by cases e; rfl
  | x :: xs, ys, e => by
    simp only [lcS] at e
    obtain ⟨o, ho, e⟩ := bs e
    obtain ⟨zs, hz, e⟩ := bs e
    simp only [List.map_cons, lcGo, hk x o ho, lcGo_s hk xs zs hz]
    cases o with
    | none => cases e; rfl
    | some y => cases e; rfl
theorem unlock_none : unlock none h = h := rfl
/-- [elt for x in it if cd] -/
theorem J.lc {own : List Nat} {tg : Tg} {it : It} {cd : To} {elt : E} {mi : Option (List α)} {g : α → Val} {b : Option (Nat × O)} {ρ1 : α → Env'} {mc : α → Option Bool} {me : α → Option β} {V : β → Val} {en : β → D}
    (ji : JI F it ρ h mi g b h1) (ht : ∀ x, setTg tg (g x) (wipeE ρ own) = some (ρ1 x)) (jc : ∀ x, JC F cd (ρ1 x) h1 (mc x)) (je : ∀ x, J F elt (ρ1 x) h1 (me x) V) (hv : ∀ y, frzD (V y) = some (en y)) (hu : unlock b h1 = h) :
    J F (.lc own tg it cd elt) ρ h (mi.bind fun xs => (lcS (fun x => (mc x).bind fun c => if c then (me x).bind fun y => some (some y) else some none) xs).bind fun ys => lenC ys) (vN en) := by
  intro z e
  obtain ⟨xs, hx, e⟩ := bs e
  obtain ⟨ys, hy, e⟩ := bs e
  unfold lenC at e
  split at e
  · rename_i hl
    cases e
    have q := lcGo_s (k := lcF tg (evC F cd) (evE F elt) (wipeE ρ own)) (h := h1) (g := g) (en := en) (f := fun x => (mc x).bind fun c => if c then (me x).bind fun y => some (some y) else some none) (fun x o ho => by
      obtain ⟨c, hc, ho⟩ := bs ho
      cases c with
      | false => cases ho; simp only [lcF, ht x, jc x _ hc]; rfl
      | true =>
        obtain ⟨y, hy, ho⟩ := bs ho
        cases ho
        simp only [lcF, ht x, jc x _ hc, je x y hy, hv y]; rfl) xs z hy
    simp only [evE, ji xs hx, q, List.length_map, hl, if_true, hu]
  · cases e
theorem lcS_pure {c : α → Bool} {e : α → β} : ∀ xs : List α, lcS (fun x => if c x then some (some (e x)) else some none) xs = some ((xs.filter c).map e)
  | [] => rfl
  | x :: xs => by
    simp only [lcS, lcS_pure xs, List.filter_cons]
    cases c x <;> rfl
/-- pure ones -/
theorem J.lcP {own : List Nat} {tg : Tg} {it : It} {cd : To} {elt : E} {mi : Option (List α)} {g : α → Val} {b : Option (Nat × O)} {ρ1 : α → Env'} {c : α → Bool} {e : α → β} {V : β → Val} {en : β → D}
    (ji : JI F it ρ h mi g b h1) (ht : ∀ x, setTg tg (g x) (wipeE ρ own) = some (ρ1 x)) (jc : ∀ x, JC F cd (ρ1 x) h1 (some (c x))) (je : ∀ x, J F elt (ρ1 x) h1 (some (e x)) V) (hv : ∀ y, frzD (V y) = some (en y)) (hu : unlock b h1 = h) :
    J F (.lc own tg it cd elt) ρ h (mi.bind fun xs => lenC ((xs.filter c).map e)) (vN en) := by
  have := J.lc ji ht jc je hv hu
  intro z q
  refine this z ?_
  obtain ⟨xs, hx, q⟩ := bs q
  rw [hx, Option.bind_some]
  show ((lcS (fun x => if c x then some (some (e x)) else some none) xs).bind fun ys => lenC ys) = some z
  rw [lcS_pure]
  exact q
theorem J.lcM {own : List Nat} {tg : Tg} {it : It} {elt : E} {mi : Option (List α)} {g : α → Val} {b : Option (Nat × O)} {ρ1 : α → Env'} {e : α → β} {V : β → Val} {en : β → D}
    (ji : JI F it ρ h mi g b h1) (ht : ∀ x, setTg tg (g x) (wipeE ρ own) = some (ρ1 x)) (je : ∀ x, J F elt (ρ1 x) h1 (some (e x)) V) (hv : ∀ y, frzD (V y) = some (en y)) (hu : unlock b h1 = h) :
    J F (.lc own tg it .no elt) ρ h (mi.bind fun xs => lenC (xs.map e)) (vN en) := by
  have := J.lcP (c := fun _ => true) ji ht (fun x => JC.no) je hv hu
  intro z q
  refine this z ?_
  obtain ⟨xs, hx, q⟩ := bs q
  have : xs.filter (fun _ => true) = xs := List.filter_eq_self.mpr fun _ _ => rfl
  simp only [hx, Option.bind_some, this, q]
/-- the element may fail, all are taken -/
def lcE (f : α → Option β) : List α → Option (List β)
  | [] => some []
  | x :: xs => (f x).bind fun y => (lcE f xs).bind fun ys => some (y :: ys)
theorem lcE_s {f : α → Option β} : ∀ xs : List α, lcS (fun x => (f x).bind fun y => some (some y)) xs = lcE f xs
  | [] => rfl
  | x :: xs => by
    simp only [lcS, lcE, lcE_s xs]
    cases f x <;> rfl
theorem J.lcE {own : List Nat} {tg : Tg} {it : It} {elt : E} {mi : Option (List α)} {g : α → Val} {b : Option (Nat × O)} {ρ1 : α → Env'} {me : α → Option β} {V : β → Val} {en : β → D}
    (ji : JI F it ρ h mi g b h1) (ht : ∀ x, setTg tg (g x) (wipeE ρ own) = some (ρ1 x)) (je : ∀ x, J F elt (ρ1 x) h1 (me x) V) (hv : ∀ y, frzD (V y) = some (en y)) (hu : unlock b h1 = h) :
    J F (.lc own tg it .no elt) ρ h (mi.bind fun xs => (MP.lcE me xs).bind fun ys => lenC ys) (vN en) := by
  have := J.lc ji ht (fun x => JC.no) je hv hu
  intro z q
  refine this z ?_
  obtain ⟨xs, hx, q⟩ := bs q
  rw [hx, Option.bind_some]
  show ((lcS (fun x => (me x).bind fun y => some (some y)) xs).bind fun ys => lenC ys) = some z
  rw [lcE_s]
  exact q
/-! what is walked -/
theorem rngI_map : ∀ (n : Nat) (lo : Int), rngI lo n = ((List.range n).map fun (k : Nat) => lo + (k : Int)).map vI
  | 0, _ => rfl
  | n + 1, lo => by
    rw [rngI, rngI_map n, List.range_succ_eq_map, List.map_cons, List.map_cons, List.map_map, List.map_map, List.map_map]
    congr 1
    · simp
    · apply List.map_congr_left
      intro k _
      simp only [Function.comp, vI]
      congr 2; push_cast; omega
theorem rngS_map : ∀ (n : Nat) (lo : Int), rngS lo (-1) n = ((List.range n).map fun (k : Nat) => lo - (k : Int)).map vI
  | 0, _ => rfl
  | n + 1, lo => by
    rw [rngS, rngS_map n, List.range_succ_eq_map, List.map_cons, List.map_cons, List.map_map, List.map_map, List.map_map]
    congr 1
    · simp
    · apply List.map_congr_left
      intro k _
      simp only [Function.comp, vI]
      congr 2; push_cast; omega
theorem JI.rng1 {a : E} {m : Option Int} (ja : J F a ρ h m vI) : JI F (.rng (.cons a .nil)) ρ h (m.bind fun j => rng1 j) vI none h := by
  intro z e
  obtain ⟨j, hj, e⟩ := bs e
  unfold MP.rng1 at e
  split at e
  · rename_i q
    cases e
    simp only [evI, evEs, ja j hj, rngV, q, if_true, rngI_map, Int.zero_add]
  · cases e
theorem JI.rng2 {a b : E} {m n : Option Int} (ja : J F a ρ h m vI) (jb : J F b ρ h n vI) : JI F (.rng (.cons a (.cons b .nil))) ρ h (m.bind fun i => n.bind fun j => rng2 i j) vI none h := by
  intro z e
  obtain ⟨i, hi, e⟩ := bs e
  obtain ⟨j, hj, e⟩ := bs e
  unfold MP.rng2 at e
  split at e
  · rename_i q
    cases e
    simp only [evI, evEs, ja i hi, jb j hj, rngV, q, if_true, rngI_map]
  · cases e
theorem JI.rngD {a b c : E} {m n : Option Int} (ja : J F a ρ h m vI) (jb : J F b ρ h n vI) (jc : J F c ρ h (some (-1)) vI) : JI F (.rng (.cons a (.cons b (.cons c .nil)))) ρ h (m.bind fun i => n.bind fun j => rngD i j) vI none h := by
  intro z e
  obtain ⟨i, hi, e⟩ := bs e
  obtain ⟨j, hj, e⟩ := bs e
  unfold MP.rngD at e
  split at e
  · rename_i q
    cases e
    simp only [evI, evEs, ja i hi, jb j hj, jc _ rfl, rngV, q, decide_true, Bool.and_true, if_true, rngS_map]
  · cases e
theorem rngS_mapP (c : Int) : ∀ (n : Nat) (lo : Int), rngS lo c n = ((List.range n).map fun (k : Nat) => lo + (k : Int) * c).map vI
  | 0, _ => rfl
  | n + 1, lo => by
    rw [rngS, rngS_mapP c n, List.range_succ_eq_map, List.map_cons, List.map_cons, List.map_map, List.map_map, List.map_map]
    congr 1
    · simp
    · apply List.map_congr_left
      intro k _
      simp only [Function.comp, vI]
      congr 2
      rw [show ((k.succ : Nat) : Int) = (k : Int) + 1 by omega, Int.add_mul]
      omega
theorem JI.rngP {a b c : E} {m n l : Option Int} (ja : J F a ρ h m vI) (jb : J F b ρ h n vI) (jc : J F c ρ h l vI) : JI F (.rng (.cons a (.cons b (.cons c .nil)))) ρ h (m.bind fun i => n.bind fun j => l.bind fun c => rngP i j c) vI none h := by
  intro z e
  obtain ⟨i, hi, e⟩ := bs e
  obtain ⟨j, hj, e⟩ := bs e
  obtain ⟨c, hc, e⟩ := bs e
  unfold MP.rngP at e
  split at e
  · rename_i q
    cases e
    have q2 : decide (c = -1) = false := by
      have q' := q
      simp only [Bool.and_eq_true, decide_eq_true_eq] at q'
      have := q'.2.1
      exact decide_eq_false (by omega)
    simp only [evI, evEs, ja i hi, jb j hj, jc c hc, rngV, q, q2, Bool.and_false, Bool.false_eq_true, if_false, if_true, rngS_mapP]
  · cases e
/-- a tuple, a new list, a kept list -/
theorem JI.val {a : E} {V : List α → Val} {m : Option (List α)} {f : α → D} (ja : J F a ρ h m V) (hn : ∀ xs, m = some xs → walkV (V xs) h = some (⟨(xs.map f).map .p, none⟩, h)) : JI F (.val a) ρ h m (vD f) none h := by
  intro z e
  have q := hn z e
  simp only [evI, ja z e, q, List.map_map]
  rfl
theorem JI.loc {a : E} {f : α → D} {i : Nat} {k : Bool} {xs : List α} (ja : J F a ρ h (some xs) (vL i)) (hx : h[i]? = some (.lst k (xs.map f))) : JI F (.val a) ρ h (some xs) (vD f) (some (i, .lst k (xs.map f))) (h.set i (.lst true (xs.map f))) := by
  intro z e
  cases e
  simp only [evI, ja _ rfl, walkV, hx, List.map_map]
  rfl
/-- enumerate: places from k -/
def enmS {α : Type} (k : Int) : List α → List (Int × α)
  | [] => []
  | x :: xs => (k, x) :: enmS (k + 1) xs
theorem enmD_map {f : α → D} : ∀ (xs : List α) (k : Int), enmD k (xs.map f) = (enmS k xs).map (vD (eP D.int f))
  | [], _ => rfl
  | x :: xs, k => by simp only [List.map_cons, enmD, enmS, enmD_map xs]
theorem JI.enm {k : Option Int} {a : E} {V : List α → Val} {m : Option (List α)} {f : α → D} {q : Bool} (ja : J F a ρ h m V) (hn : ∀ xs, m = some xs → seqD h (V xs) = some (q, xs.map f) ∧ lockV (V xs) h = (none, h)) :
    JI F (.enm k a) ρ h (m.bind fun xs => some (enmS (k.getD 0) xs)) (vD (eP D.int f)) none h := by
  intro z e
  obtain ⟨xs, hx, e⟩ := bs e
  cases e
  obtain ⟨h1, h2⟩ := hn xs hx
  simp only [evI, ja xs hx, h1, h2, enmD_map]
theorem JI.enmL {k : Option Int} {a : E} {f : α → D} {i : Nat} {b : Bool} {xs : List α} (ja : J F a ρ h (some xs) (vL i)) (hx : h[i]? = some (.lst b (xs.map f))) :
    JI F (.enm k a) ρ h (some (enmS (k.getD 0) xs)) (vD (eP D.int f)) (some (i, .lst b (xs.map f))) (h.set i (.lst true (xs.map f))) := by
  intro z e
  cases e
  simp only [evI, ja _ rfl, seqD, hx, lockV, lockO, enmD_map]
end
end MP

/-! ## EngLc.lean -/
set_option Elab.async false
set_option linter.all false
set_option maxRecDepth 100000
namespace MP
open PySem PySem.Spec L2
/-! ### statements -/
inductive Ctl (R S : Type) where
  | nx (s : S) | bk (s : S) | rt (r : R)
def Ctl.go {R S γ : Type} (k : S → Option γ) (kr : R → γ) : Ctl R S → Option γ
  | .nx s => k s
  | .bk s => k s
  | .rt r => some (kr r)
def Ctl.out {R S : Type} (ρs : S → Env') (hs : S → Hs) (rr : R → Ret) (rx : R → List (List D)) : Ctl R S → OutV
  | .nx s => .nx (ρs s) (hs s)
  | .bk s => .bk (ρs s) (hs s)
  | .rt r => .rt (rr r) (rx r)
def TJ (F : CallF) (P : List Bool) (ss : SsV) (ρ : Env') (h : Hs) {γ : Type} (m : Option γ) (En : γ → OutV) : Prop := ∀ c, m = some c → evSsV F P ss ρ h = some (En c)
theorem TJ.of_eq {F : CallF} {P : List Bool} {ss : SsV} {ρ : Env'} {h : Hs} {γ : Type} {m m' : Option γ} {En : γ → OutV} (k : TJ F P ss ρ h m En) (e : m' = m) : TJ F P ss ρ h m' En := e ▸ k
section
variable {F : CallF} {P : List Bool} {ρ : Env'} {h h1 : Hs} {α β γ δ σ : Type} {e o ix : E} {es : Es} {ss : SsV} {i j n : Nat} {En : γ → OutV}
theorem T.nil {s : γ} (hs : En s = .nx ρ h) : TJ F P .nil ρ h (some s) En := by
  intro z q; cases q; simp only [evSsV, hs]
theorem T.kill {is : List Nat} {ρ' : Env'} {h' : Hs} {m : Option γ} (hk : killV P is ρ h = some (ρ', h')) (t : TJ F P ss ρ' h' m En) : TJ F P (.kill is ss) ρ h m En := by
  intro z q; simp only [evSsV, hk, Option.bind_some, t z q]
theorem T.asg {V : α → Val} {H : α → Hs} {m : Option α} {ρ' : α → Env'} {h' : α → Hs} {k : α → Option γ} (je : ∀ r, m = some r → evE F e ρ h = some (V r, H r)) (hb : ∀ x, bindV P i (V x) ρ (H x) = some (ρ' x, h' x)) (t : ∀ x, TJ F P ss (ρ' x) (h' x) (k x) En) : TJ F P (.cons (.asg i e) ss) ρ h (m.bind k) En := by
  intro z q
  obtain ⟨x, hx, q⟩ := bs q
  simp only [evSsV, evSV, je x hx, Option.bind_some, hb x, Option.map_some, t x z q]
/-- a name's list moves on: its content is known -/
theorem T.mov {x : α} {ρ' : Env'} {h' : Hs} {m : Option γ} (je : J F e ρ h (some x) (vL j)) (hb : bindV P i (.loc j) ρ h = some (ρ', h')) (t : TJ F P ss ρ' h' m En) : TJ F P (.cons (.asg i e) ss) ρ h m En := by
  intro z q
  simp only [evSsV, evSV, je x rfl, Option.bind_some, hb, Option.map_some, t z q]
theorem T.tup {V : α → Val} {H : α → Hs} {m : Option α} {is : List Nat} {ds : α → List D} {ρ' : α → Env'} {h' : α → Hs} {k : α → Option γ} (je : ∀ r, m = some r → evE F e ρ h = some (V r, H r)) (hd : ∀ x, V x = .p (.tup (ds x))) (hb : ∀ x, setAllV P is (ds x) ρ (H x) = some (ρ' x, h' x)) (t : ∀ x, TJ F P ss (ρ' x) (h' x) (k x) En) :
    TJ F P (.cons (.tup is e) ss) ρ h (m.bind k) En := by
  intro z q
  obtain ⟨x, hx, q⟩ := bs q
  simp only [evSsV, evSV, je x hx, Option.bind_some, hd x, hb x, Option.map_some, t x z q]
theorem T.par {V : α → List Val} {H : α → Hs} {m : Option α} {is : List Nat} {ρ' : α → Env'} {h' : α → Hs} {k : α → Option γ} (je : ∀ r, m = some r → evEs F es ρ h = some (V r, H r)) (hb : ∀ x, bindAllV P is (V x) ρ (H x) = some (ρ' x, h' x)) (t : ∀ x, TJ F P ss (ρ' x) (h' x) (k x) En) :
    TJ F P (.cons (.par is es) ss) ρ h (m.bind k) En := by
  intro z q
  obtain ⟨x, hx, q⟩ := bs q
  simp only [evSsV, evSV, je x hx, Option.bind_some, hb x, Option.map_some, t x z q]
theorem set_map {f : α → D} {xs : List α} {k : Int} {v : α} (hx : h[n]? = some (.lst false (xs.map f))) : setV h n k (f v) = (setS xs k v).bind fun ys => some (h.set n (.lst false (ys.map f))) := by
  unfold setV setS
  simp only [hx, List.length_map]
  cases ixN xs.length k with
  | none => rfl
  | some j => simp only [Option.bind_some, List.map_set]
theorem T.set {V : α → Val} {f : α → D} {xs : List α} {me : Option α} {mi : Option Int} {h' : List α → Hs} {k : List α → Option γ} (je : J F e ρ h me V) (hf : ∀ x, frzD (V x) = some (f x)) (jo : ρ[n]? = some (some (.loc n))) (ji : J F ix ρ h mi vI)
    (hx : h[n]? = some (.lst false (xs.map f))) (hh : ∀ ys : List α, h.set n (.lst false (ys.map f)) = h' ys) (t : ∀ ys, TJ F P ss ρ (h' ys) (k ys) En) :
    TJ F P (.cons (.set (.var n) ix e) ss) ρ h (me.bind fun v => mi.bind fun i => (setS xs i v).bind k) En := by
  intro z q
  obtain ⟨v, hv, q⟩ := bs q
  obtain ⟨i, hi, q⟩ := bs q
  obtain ⟨ys, hy, q⟩ := bs q
  have a := set_map (v := v) (k := i) hx
  rw [hy, Option.bind_some] at a
  simp only [evSsV, evSV, je v hv, Option.bind_some, hf v, evE, jo, ji i hi, a, Option.map_some, hh ys, t ys z q]
theorem T.app {V : α → Val} {f : α → D} {xs : List α} {me : Option α} {h' : List α → Hs} {k : List α → Option γ} (jo : ρ[n]? = some (some (.loc n))) (je : J F e ρ h me V) (hf : ∀ x, frzD (V x) = some (f x))
    (hx : h[n]? = some (.lst false (xs.map f))) (hh : ∀ ys : List α, h.set n (.lst false (ys.map f)) = h' ys) (t : ∀ ys, TJ F P ss ρ (h' ys) (k ys) En) :
    TJ F P (.cons (.app (.var n) e) ss) ρ h (me.bind fun v => (appS xs v).bind k) En := by
  intro z q
  obtain ⟨v, hv, q⟩ := bs q
  obtain ⟨ys, hy, q⟩ := bs q
  unfold appS at hy
  split at hy
  · rename_i c
    cases hy
    have a := hh (xs ++ [v])
    rw [List.map_append] at a
    have t' := t (xs ++ [v]) z q
    rw [← a] at t'
    simp only [evSsV, evSV, evE, jo, Option.bind_some, je v hv, hf v]
    simp only [appV, frzD, hx, List.length_map, c, if_true, Option.map_some, Option.bind_some]
    exact t'
  · cases hy
/-- o.append(e), e changes another list -/
theorem T.appE {V : α → Val} {f : α → D} {xs : List α} {ma : Option (α × σ)} {H : α × σ → Hs} {h' : α × σ → List α → Hs} {k : α × σ → List α → Option γ} (jo : ρ[n]? = some (some (.loc n))) (je : ∀ r, ma = some r → evE F e ρ h = some (V r.1, H r)) (hf : ∀ x, frzD (V x) = some (f x))
    (hx : ∀ r, (H r)[n]? = some (.lst false (xs.map f))) (hh : ∀ r (ys : List α), (H r).set n (.lst false (ys.map f)) = h' r ys) (t : ∀ r ys, TJ F P ss ρ (h' r ys) (k r ys) En) :
    TJ F P (.cons (.app (.var n) e) ss) ρ h (ma.bind fun r => (appS xs r.1).bind (k r)) En := by
  intro z q
  obtain ⟨v, hv, q⟩ := bs q
  obtain ⟨ys, hy, q⟩ := bs q
  unfold appS at hy
  split at hy
  · rename_i c
    cases hy
    have a := hh v (xs ++ [v.1])
    rw [List.map_append] at a
    have t' := t v (xs ++ [v.1]) z q
    rw [← a] at t'
    simp only [evSsV, evSV, evE, jo, Option.bind_some, je v hv, hf v.1]
    simp only [appV, frzD, hx v, List.length_map, c, if_true, Option.map_some, Option.bind_some]
    exact t'
  · cases hy
/-- o.append(i), i's list is given up -/
theorem T.apf {f : α → D} {xs : List (List α)} {ys : List α} {ρ' : Env'} {h' : List (List α) → Hs} {k : List (List α) → Option γ} (jo : ρ[n]? = some (some (.loc n))) (ji : ρ[i]? = some (some (.loc i))) (hn : Nat.beq n i = false)
    (hx : h[n]? = some (.lst false (xs.map (eF f)))) (hy : h[i]? = some (.lst false (ys.map f))) (hh : ∀ zs : List (List α), killV P [i] ρ (h.set n (.lst false (zs.map (eF f)))) = some (ρ', h' zs)) (t : ∀ zs, TJ F P ss ρ' (h' zs) (k zs) En) :
    TJ F P (.cons (.apf n i) ss) ρ h ((appS xs ys).bind k) En := by
  intro z q
  obtain ⟨zs, hz, q⟩ := bs q
  unfold appS at hz
  split at hz
  · rename_i c
    cases hz
    have a := hh (xs ++ [ys])
    rw [List.map_append] at a
    have t' := t (xs ++ [ys]) z q
    have b : (Nat.beq n i || !Nat.beq i i) = false := by rw [hn, Nat.beq_refl]; rfl
    simp only [evSsV, evSV, jo, ji, b, hy]
    simp only [appV, frzD, hx, List.length_map, c, if_true, Option.map_some, Option.bind_some]
    have a' : killV P [i] ρ (h.set n (.lst false (xs.map (eF f) ++ [D.lst (ys.map f)]))) = some (ρ', h' (xs ++ [ys])) := a
    rw [a']
    simp only [Option.map_some, Option.bind_some]
    exact t'
  · cases hz
/-- o.extend(e) -/
theorem T.ext {V : List α → Val} {f : α → D} {xs : List α} {me : Option (List α)} {h' : List α → Hs} {k : List α → Option γ} (jo : ρ[n]? = some (some (.loc n))) (je : J F e ρ h me V) (hf : ∀ x, me = some x → seqD h (V x) = some (false, x.map f))
    (hx : h[n]? = some (.lst false (xs.map f))) (hh : ∀ ys : List α, h.set n (.lst false (ys.map f)) = h' ys) (t : ∀ ys, TJ F P ss ρ (h' ys) (k ys) En) :
    TJ F P (.cons (.ext (.var n) e) ss) ρ h (me.bind fun v => (catS xs v).bind k) En := by
  intro z q
  obtain ⟨v, hv, q⟩ := bs q
  obtain ⟨ys, hy, q⟩ := bs q
  unfold catS at hy
  split at hy
  · rename_i c
    cases hy
    have a := hh (xs ++ v)
    rw [List.map_append] at a
    have t' := t (xs ++ v) z q
    rw [← a] at t'
    simp only [evSsV, evSV, evE, jo, Option.bind_some, je v hv]
    simp only [extV, hf v hv, hx, List.length_map, c, if_true, Option.map_some, Option.bind_some]
    exact t'
  · cases hy
/-- o[i], name = divmod(..) -/
theorem T.tsn {V : α → Val} {xs : List Int} {p r : α → Int} {me : Option α} {mi : Option Int} {ρ' : α → Env'} {h' : List Int → α → Hs} {k : List Int → α → Option γ} (je : J F e ρ h me V) (hd : ∀ x, V x = .p (.tup [.int (p x), .int (r x)])) (jo : ρ[n]? = some (some (.loc n))) (ji : J F ix ρ h mi vI)
    (hx : h[n]? = some (.lst false (xs.map D.int))) (hb : ∀ (ys : List Int) x, bindV P j (vI (r x)) ρ (h.set n (.lst false (ys.map D.int))) = some (ρ' x, h' ys x)) (t : ∀ ys x, TJ F P ss (ρ' x) (h' ys x) (k ys x) En) :
    TJ F P (.cons (.tsn (.var n) ix j e) ss) ρ h (me.bind fun x => mi.bind fun i => (setS xs i (p x)).bind fun ys => k ys x) En := by
  intro z q
  obtain ⟨x, hxx, q⟩ := bs q
  obtain ⟨i, hi, q⟩ := bs q
  obtain ⟨ys, hy, q⟩ := bs q
  have a := set_map (v := p x) (k := i) hx
  rw [hy, Option.bind_some] at a
  simp only [evSsV, evSV, je x hxx, Option.bind_some, hd x, evE, jo, ji i hi, a, hb ys x, Option.map_some, t ys x z q]
theorem T.ex {V : α → Val} {H : α → Hs} {m : Option α} {k : α → Option γ} (je : ∀ r, m = some r → evE F e ρ h = some (V r, H r)) (t : ∀ x, TJ F P ss ρ (H x) (k x) En) : TJ F P (.cons (.ex e) ss) ρ h (m.bind k) En := by
  intro z q
  obtain ⟨x, hx, q⟩ := bs q
  simp only [evSsV, evSV, je x hx, Option.map_some, Option.bind_some, t x z q]
def isRt : OutV → Bool
  | .rt _ _ => true
  | _ => false
theorem T.ret {V : α → Val} {H : α → Hs} {m : Option α} {g : α → γ} (je : ∀ r, m = some r → evE F e ρ h = some (V r, H r)) (hr : ∀ x, m = some x → endV P (V x) (H x) = some (En (g x))) (ht : ∀ x, isRt (En (g x)) = true) : TJ F P (.cons (.ret e) ss) ρ h (m.bind fun x => some (g x)) En := by
  intro z q
  obtain ⟨x, hx, q⟩ := bs q
  cases q
  simp only [evSsV, evSV, je x hx, Option.bind_some, hr x hx]
  have := ht x
  cases h : En (g x) with
  | rt r xs => rfl
  | nx _ _ => simp [h, isRt] at this
  | bk _ _ => simp [h, isRt] at this
theorem T.retN {c : γ} (hr : endV P (.p .non) h = some (En c)) (ht : isRt (En c) = true) : TJ F P (.cons .retN ss) ρ h (some c) En := by
  intro z q
  cases q
  simp only [evSsV, evSV, hr, Option.bind_some]
  cases h : En c with
  | rt r xs => rfl
  | nx _ _ => simp [h, isRt] at ht
  | bk _ _ => simp [h, isRt] at ht
theorem T.brk {c : γ} (hr : En c = .bk ρ h) : TJ F P (.cons .brk ss) ρ h (some c) En := by
  intro z q
  cases q
  simp only [evSsV, evSV, Option.bind_some, hr]
theorem T.pss {m : Option γ} (t : TJ F P ss ρ h m En) : TJ F P (.cons .pss ss) ρ h m En := by
  intro z q
  simp only [evSsV, evSV, Option.bind_some, t z q]
theorem T.nev : TJ F P (.cons .nev ss) ρ h (none : Option γ) En := by
  intro z q; cases q
/-- the branch never goes on -/
def noNx : OutV → Bool
  | .nx _ _ => false
  | _ => true
theorem T.ifT {α : Type} {cb : α → Bool} {H : α → Hs} {c : T} {a : SsV} {mc : Option α} {ma mb : α → Option γ} (jc : ∀ r, mc = some r → MP.evT F c ρ h = some (cb r, H r)) (ta : ∀ r, TJ F P a ρ (H r) (ma r) En) (hn : ∀ r x, ma r = some x → noNx (En x) = true) (tb : ∀ r, TJ F P ss ρ (H r) (mb r) En) : TJ F P (.cons (.ife c a .nil) ss) ρ h (mc.bind fun p => if cb p then ma p else mb p) En := by
  intro z q
  obtain ⟨p, hp, q⟩ := bs q
  cases hc : cb p with
  | true =>
    simp only [hc, if_true] at q
    simp only [evSsV, evSV, jc _ hp, hc, Option.bind_some, ta p z q]
    have := hn p z q
    cases h : En z with
    | nx _ _ => rw [h] at this; cases this
    | bk _ _ => rfl
    | rt _ _ => rfl
  | false =>
    simp only [hc, Bool.false_eq_true, if_false] at q
    simp only [evSsV, evSV, jc _ hp, hc, Option.bind_some, tb p z q]
/-- the last statement: both branches end -/
theorem T.ifE {c : T} {a b : SsV} {mc : Option Bool} {ma mb : Option γ} (jc : JT F c ρ h mc) (ta : TJ F P a ρ h ma En) (tb : TJ F P b ρ h mb En) : TJ F P (.cons (.ife c a b) .nil) ρ h (mc.bind fun p => if p then ma else mb) En := by
  intro z q
  obtain ⟨p, hp, q⟩ := bs q
  have fin : ∀ o : OutV, (match o with
      | .nx ρ1 h1 => some (.nx ρ1 h1)
      | .bk ρ1 h1 => some (.bk ρ1 h1)
      | .rt r xs => some (.rt r xs)) = some o := by
    intro o
    cases o <;> rfl
  cases p with
  | true =>
    have q : ma = some z := q
    simp only [evSsV, evSV, jc _ hp, Option.bind_some, ta z q]
    exact fin _
  | false =>
    have q : mb = some z := q
    simp only [evSsV, evSV, jc _ hp, Option.bind_some, tb z q]
    exact fin _
/-- both branches go on, with the names s -/
theorem T.ifJ {c : T} {a b : SsV} {mc : Option Bool} {ma mb : Option σ} {ρ' : σ → Env'} {h' : σ → Hs} {k : σ → Option γ} (jc : JT F c ρ h mc) (ta : TJ F P a ρ h ma (fun s => .nx (ρ' s) (h' s))) (tb : TJ F P b ρ h mb (fun s => .nx (ρ' s) (h' s)))
    (t : ∀ s, TJ F P ss (ρ' s) (h' s) (k s) En) : TJ F P (.cons (.ife c a b) ss) ρ h (mc.bind fun p => (if p then ma else mb).bind k) En := by
  intro z q
  obtain ⟨p, hp, q⟩ := bs q
  obtain ⟨s, hs, q'⟩ := bs q
  cases p with
  | true =>
    have hs : ma = some s := hs
    simp only [evSsV, evSV, jc _ hp, Option.bind_some, ta s hs, t s z q']
  | false =>
    have hs : mb = some s := hs
    simp only [evSsV, evSV, jc _ hp, Option.bind_some, tb s hs, t s z q']
theorem T.ifJP {c : T} {a b : SsV} {mc : Option Bool} {x y : σ} {ρ' : σ → Env'} {h' : σ → Hs} {k : σ → Option γ} (jc : JT F c ρ h mc) (ta : TJ F P a ρ h (some x) (fun s => .nx (ρ' s) (h' s))) (tb : TJ F P b ρ h (some y) (fun s => .nx (ρ' s) (h' s)))
    (t : ∀ s, TJ F P ss (ρ' s) (h' s) (k s) En) : TJ F P (.cons (.ife c a b) ss) ρ h (mc.bind fun p => k (if p then x else y)) En := by
  have := T.ifJ jc ta tb t
  intro z q
  refine this z ?_
  obtain ⟨p, hp, q⟩ := bs q
  rw [hp]
  cases p <;> exact q
/-- a branch may end, or go on -/
theorem T.ifM {R : Type} {c : T} {a b : SsV} {mc : Option Bool} {ma mb : Option (Ctl R σ)} {ρ' : σ → Env'} {h' : σ → Hs} {k : σ → Option γ} {kr : R → γ} {Eb : Ctl R σ → OutV} (jc : JT F c ρ h mc) (ta : TJ F P a ρ h ma Eb) (tb : TJ F P b ρ h mb Eb)
    (e1 : ∀ s, Eb (.nx s) = .nx (ρ' s) (h' s)) (e3 : ∀ r, Eb (.rt r) = En (kr r)) (hr : ∀ r, isRt (En (kr r)) = true) (hbk : ∀ s, ma ≠ some (.bk s) ∧ mb ≠ some (.bk s)) (t : ∀ s, TJ F P ss (ρ' s) (h' s) (k s) En) :
    TJ F P (.cons (.ife c a b) ss) ρ h (mc.bind fun p => (if p then ma else mb).bind fun x => Ctl.go k kr x) En := by
  intro z q
  obtain ⟨p, hp, q⟩ := bs q
  obtain ⟨x, hx, q⟩ := bs q
  have main : (evSV F P (.ife c a b) ρ h) = some (Eb x) := by
    cases p with
    | true => simp only [evSV, jc _ hp, Option.bind_some]; exact ta x hx
    | false => simp only [evSV, jc _ hp, Option.bind_some]; exact tb x hx
  simp only [evSsV, main, Option.bind_some]
  cases x with
  | nx s => simp only [e1]; exact t s z q
  | bk s => cases p <;> first | exact absurd hx (hbk s).1 | exact absurd hx (hbk s).2
  | rt r =>
    cases q
    rw [e3]
    have := hr r
    cases h : En (kr r) with
    | rt r xs => rfl
    | nx _ _ => simp [h, isRt] at this
    | bk _ _ => simp [h, isRt] at this
theorem T.asgP {V : α → Val} {m : Option α} {ρ' : α → Env'} {h' : α → Hs} {k : α → Option γ} (je : J F e ρ h m V) (hb : ∀ x, bindV P i (V x) ρ h = some (ρ' x, h' x)) (t : ∀ x, TJ F P ss (ρ' x) (h' x) (k x) En) : TJ F P (.cons (.asg i e) ss) ρ h (m.bind k) En := T.asg (H := fun _ => h) je hb t
theorem T.tupP {V : α → Val} {m : Option α} {is : List Nat} {ds : α → List D} {ρ' : α → Env'} {h' : α → Hs} {k : α → Option γ} (je : J F e ρ h m V) (hd : ∀ x, V x = .p (.tup (ds x))) (hb : ∀ x, setAllV P is (ds x) ρ h = some (ρ' x, h' x)) (t : ∀ x, TJ F P ss (ρ' x) (h' x) (k x) En) :
    TJ F P (.cons (.tup is e) ss) ρ h (m.bind k) En := T.tup (H := fun _ => h) je hd hb t
theorem T.parP {V : α → List Val} {m : Option α} {is : List Nat} {ρ' : α → Env'} {h' : α → Hs} {k : α → Option γ} (je : Js F es ρ h m V) (hb : ∀ x, bindAllV P is (V x) ρ h = some (ρ' x, h' x)) (t : ∀ x, TJ F P ss (ρ' x) (h' x) (k x) En) :
    TJ F P (.cons (.par is es) ss) ρ h (m.bind k) En := T.par (H := fun _ => h) je hb t
theorem T.exP {V : α → Val} {m : Option α} {k : Option γ} (je : J F e ρ h m V) (t : TJ F P ss ρ h k En) : TJ F P (.cons (.ex e) ss) ρ h (m.bind fun _ => k) En := T.ex (H := fun _ => h) je fun _ => t
theorem T.retP {V : α → Val} {m : Option α} {g : α → γ} (je : J F e ρ h m V) (hr : ∀ x, m = some x → endV P (V x) h = some (En (g x))) (ht : ∀ x, isRt (En (g x)) = true) : TJ F P (.cons (.ret e) ss) ρ h (m.bind fun x => some (g x)) En := T.ret (H := fun _ => h) je hr ht
theorem T.ifTR {R α : Type} {cb : α → Bool} {H : α → Hs} {c : T} {a : SsV} {mc : Option α} {ma : α → Option R} {mb : α → Option γ} {kr : R → γ} (jc : ∀ r, mc = some r → MP.evT F c ρ h = some (cb r, H r)) (ta : ∀ r, TJ F P a ρ (H r) (ma r) (fun z => En (kr z))) (hn : ∀ z, isRt (En (kr z)) = true) (tb : ∀ r, TJ F P ss ρ (H r) (mb r) En) :
    TJ F P (.cons (.ife c a .nil) ss) ρ h (mc.bind fun p => if cb p then (ma p).bind (fun z => some (kr z)) else mb p) En := by
  refine T.ifT (ma := fun p => (ma p).bind fun z => some (kr z)) jc (fun r z q => ?_) (fun r z q => ?_) tb
  · obtain ⟨x, hx, q⟩ := bs q
    cases q
    exact ta r x hx
  · obtain ⟨x, hx, q⟩ := bs q
    cases q
    have := hn x
    cases h : En (kr x) with
    | rt _ _ => rfl
    | nx _ _ => simp [h, isRt] at this
    | bk _ _ => rfl
theorem T.ifTP {c : T} {a : SsV} {mc : Option Bool} {ma mb : Option γ} (jc : JT F c ρ h mc) (ta : TJ F P a ρ h ma En) (hn : ∀ x, ma = some x → noNx (En x) = true) (tb : TJ F P ss ρ h mb En) : TJ F P (.cons (.ife c a .nil) ss) ρ h (mc.bind fun p => if p then ma else mb) En :=
  T.ifT (cb := fun b => b) (H := fun _ => h) jc (fun _ => ta) (fun _ => hn) fun _ => tb
theorem T.ifTRP {R : Type} {c : T} {a : SsV} {mc : Option Bool} {ma : Option R} {mb : Option γ} {kr : R → γ} (jc : JT F c ρ h mc) (ta : TJ F P a ρ h ma (fun z => En (kr z))) (hn : ∀ z, isRt (En (kr z)) = true) (tb : TJ F P ss ρ h mb En) :
    TJ F P (.cons (.ife c a .nil) ss) ρ h (mc.bind fun p => if p then ma.bind (fun z => some (kr z)) else mb) En :=
  T.ifTR (cb := fun b => b) (H := fun _ => h) jc (fun _ => ta) hn fun _ => tb
/-! ### loops -/
def forN (f : α → σ → Option σ) : List α → σ → Option σ
  | [], s => some s
  | x :: xs, s => (f x s).bind fun s1 => forN f xs s1
def forS {R : Type} (f : α → σ → Option (Ctl R σ)) : List α → σ → Option (Ctl R σ)
  | [], s => some (.nx s)
  | x :: xs, s => (f x s).bind fun c => match c with
    | .nx s1 => forS f xs s1
    | .bk s1 => some (.nx s1)
    | .rt r => some (.rt r)
theorem forN_pure {f : α → σ → σ} : ∀ (xs : List α) (s : σ), forN (fun x s => some (f x s)) xs s = some (xs.foldl (fun s x => f x s) s)
  | [], _ => rfl
  | x :: xs, s => by simp only [forN, Option.bind_some, forN_pure xs, List.foldl_cons]
theorem forGoN {tg : Tg} {body : SsV} {g : α → Val} {ρs : σ → Env'} {hs : σ → Hs} {ρb : α → σ → Env'} {hb : α → σ → Hs} {mb : α → σ → Option σ} (ht : ∀ x s, setTgV P tg (g x) (ρs s) (hs s) = some (ρb x s, hb x s))
    (tb : ∀ x s, TJ F P body (ρb x s) (hb x s) (mb x s) (fun s => .nx (ρs s) (hs s))) : ∀ (xs : List α) (s s' : σ), forN mb xs s = some s' → forGoV (forFV P tg (evSsV F P body)) (xs.map g) (ρs s) (hs s) = some (.nx (ρs s') (hs s'))
  | [], s, s', q => by cases q; rfl
  | x :: xs, s, s', q => by
    simp only [forN] at q
    obtain ⟨s1, h1, q⟩ := bs q
    simp only [List.map_cons, forGoV, forFV, ht x s, Option.bind_some, tb x s s1 h1, forGoN ht tb xs s1 s' q]
theorem forGoS {R : Type} {tg : Tg} {body : SsV} {g : α → Val} {ρs : σ → Env'} {hs : σ → Hs} {ρb : α → σ → Env'} {hb : α → σ → Hs} {mb : α → σ → Option (Ctl R σ)} {rr : R → Ret} {rx : R → List (List D)} (ht : ∀ x s, setTgV P tg (g x) (ρs s) (hs s) = some (ρb x s, hb x s))
    {Eb : Ctl R σ → OutV} (e1 : ∀ s, Eb (.nx s) = .nx (ρs s) (hs s)) (e2 : ∀ s, Eb (.bk s) = .bk (ρs s) (hs s)) (e3 : ∀ r, Eb (.rt r) = .rt (rr r) (rx r))
    (tb : ∀ x s, TJ F P body (ρb x s) (hb x s) (mb x s) Eb) : ∀ (xs : List α) (s : σ) (c : Ctl R σ), forS mb xs s = some c → forGoV (forFV P tg (evSsV F P body)) (xs.map g) (ρs s) (hs s) = some (Eb c)
  | [], s, c, q => by cases q; simp only [List.map_nil, forGoV, e1]
  | x :: xs, s, c, q => by
    simp only [forS] at q
    obtain ⟨y, h1, q⟩ := bs q
    simp only [List.map_cons, forGoV, forFV, ht x s, Option.bind_some, tb x s y h1]
    cases y with
    | nx s1 => simp only [e1, forGoS ht e1 e2 e3 tb xs s1 c q]
    | bk s1 => cases q; simp only [e1, e2]
    | rt r => cases q; simp only [e3]
/-- a loop that goes on -/
theorem T.for_ {tg : Tg} {it : It} {body : SsV} {mi : Option (List α)} {g : α → Val} {b : Option (Nat × O)} {ρs : σ → Env'} {hs hs' : σ → Hs} {ρb : α → σ → Env'} {hb : α → σ → Hs} {mb : α → σ → Option σ} {s0 : σ} {k : σ → Option γ}
    (ji : JI F it ρ h mi g b h1) (h0 : ρ = ρs s0) (h0' : h1 = hs s0) (ht : ∀ x s, setTgV P tg (g x) (ρs s) (hs s) = some (ρb x s, hb x s)) (tb : ∀ x s, TJ F P body (ρb x s) (hb x s) (mb x s) (fun s => .nx (ρs s) (hs s)))
    (hu : ∀ s, unlock b (hs s) = hs' s) (t : ∀ s, TJ F P ss (ρs s) (hs' s) (k s) En) : TJ F P (.cons (.for_ tg it body) ss) ρ h (mi.bind fun xs => (forN mb xs s0).bind k) En := by
  subst h0 h0'
  intro z q
  obtain ⟨xs, hx, q⟩ := bs q
  obtain ⟨s, hs1, q⟩ := bs q
  simp only [evSsV, evSV, ji xs hx, Option.bind_some, forGoN ht tb xs s0 s hs1, Option.map_some, unlockV, hu s, t s z q]
theorem forS_bk {R : Type} {f : α → σ → Option (Ctl R σ)} : ∀ (xs : List α) (s s' : σ), MP.forS f xs s ≠ some (.bk s')
  | [], s, s' => by simp [MP.forS]
  | x :: xs, s, s' => by
    simp only [MP.forS]
    cases f x s with
    | none => simp
    | some c =>
      cases c with
      | nx s1 => simp only [Option.bind_some]; exact forS_bk xs s1 s'
      | bk s1 => simp
      | rt r => simp
/-- a loop that may end by a return or a break -/
theorem T.forS {R : Type} {tg : Tg} {it : It} {body : SsV} {mi : Option (List α)} {g : α → Val} {b : Option (Nat × O)} {ρs : σ → Env'} {hs hs' : σ → Hs} {ρb : α → σ → Env'} {hb : α → σ → Hs} {mb : α → σ → Option (Ctl R σ)} {s0 : σ} {k : σ → Option γ} {kr : R → γ} {rr : R → Ret} {rx : R → List (List D)}
    {Eb : Ctl R σ → OutV} (ji : JI F it ρ h mi g b h1) (h0 : ρ = ρs s0) (h0' : h1 = hs s0) (ht : ∀ x s, setTgV P tg (g x) (ρs s) (hs s) = some (ρb x s, hb x s)) (e1 : ∀ s, Eb (.nx s) = .nx (ρs s) (hs s)) (e2 : ∀ s, Eb (.bk s) = .bk (ρs s) (hs s)) (e3 : ∀ r, Eb (.rt r) = .rt (rr r) (rx r))
    (tb : ∀ x s, TJ F P body (ρb x s) (hb x s) (mb x s) Eb) (hu : ∀ s, unlock b (hs s) = hs' s) (hr : ∀ r, En (kr r) = .rt (rr r) (rx r)) (t : ∀ s, TJ F P ss (ρs s) (hs' s) (k s) En) :
    TJ F P (.cons (.for_ tg it body) ss) ρ h (mi.bind fun xs => (MP.forS mb xs s0).bind fun c => Ctl.go k kr c) En := by
  subst h0 h0'
  intro z q
  obtain ⟨xs, hx, q⟩ := bs q
  obtain ⟨c, hc, q⟩ := bs q
  simp only [evSsV, evSV, ji xs hx, Option.bind_some, forGoS ht e1 e2 e3 tb xs s0 c hc, Option.map_some]
  cases c with
  | nx s1 => simp only [e1, unlockV, hu s1]; exact t s1 z q
  | bk s1 => exact absurd hc (forS_bk _ _ _)
  | rt r => cases q; simp only [e3, unlockV, hr]
def whlN (c : σ → Option Bool) (f : σ → Option σ) : Nat → σ → Option σ
  | 0, _ => none
  | n + 1, s => (c s).bind fun b => if b then (f s).bind fun s1 => whlN c f n s1 else some s
def whlS {R : Type} (c : σ → Option Bool) (f : σ → Option (Ctl R σ)) : Nat → σ → Option (Ctl R σ)
  | 0, _ => none
  | n + 1, s => (c s).bind fun b => if b then (f s).bind fun x => match x with
    | .nx s1 => whlS c f n s1
    | .bk s1 => some (.nx s1)
    | .rt r => some (.rt r) else some (.nx s)
def whlF (c : σ → Option Bool) (f : σ → Option σ) (s : σ) : Option σ := whlN c f fuelW s
def whlFS {R : Type} (c : σ → Option Bool) (f : σ → Option (Ctl R σ)) (s : σ) : Option (Ctl R σ) := whlS c f fuelW s
theorem whlGoN {c : T} {body : SsV} {ρs : σ → Env'} {hs : σ → Hs} {mc : σ → Option Bool} {mb : σ → Option σ} (tc : ∀ s, JT F c (ρs s) (hs s) (mc s)) (tb : ∀ s, TJ F P body (ρs s) (hs s) (mb s) (fun s => .nx (ρs s) (hs s))) :
    ∀ (n : Nat) (s s' : σ), whlN mc mb n s = some s' → whlGoV (MP.evT F c) (evSsV F P body) n (ρs s) (hs s) = some (.nx (ρs s') (hs s'))
  | 0, _, _, q => by cases q
  | n + 1, s, s', q => by
    simp only [whlN] at q
    obtain ⟨b, hb, q⟩ := bs q
    cases b with
    | false => cases q; simp only [whlGoV, tc s _ hb, Option.bind_some]
    | true =>
      obtain ⟨s1, h1, q⟩ := bs q
      simp only [whlGoV, tc s _ hb, Option.bind_some, tb s s1 h1, whlGoN tc tb n s1 s' q]
theorem whlGoS {R : Type} {c : T} {body : SsV} {ρs : σ → Env'} {hs : σ → Hs} {mc : σ → Option Bool} {mb : σ → Option (Ctl R σ)} {rr : R → Ret} {rx : R → List (List D)} {Eb : Ctl R σ → OutV} (e1 : ∀ s, Eb (.nx s) = .nx (ρs s) (hs s)) (e2 : ∀ s, Eb (.bk s) = .bk (ρs s) (hs s)) (e3 : ∀ r, Eb (.rt r) = .rt (rr r) (rx r))
    (tc : ∀ s, JT F c (ρs s) (hs s) (mc s)) (tb : ∀ s, TJ F P body (ρs s) (hs s) (mb s) Eb) :
    ∀ (n : Nat) (s : σ) (y : Ctl R σ), whlS mc mb n s = some y → whlGoV (MP.evT F c) (evSsV F P body) n (ρs s) (hs s) = some (Eb y)
  | 0, _, _, q => by cases q
  | n + 1, s, y, q => by
    simp only [whlS] at q
    obtain ⟨b, hb, q⟩ := bs q
    cases b with
    | false => cases q; simp only [whlGoV, tc s _ hb, Option.bind_some, e1]
    | true =>
      obtain ⟨x, h1, q⟩ := bs q
      simp only [whlGoV, tc s _ hb, Option.bind_some, tb s x h1]
      cases x with
      | nx s1 => simp only [e1, whlGoS e1 e2 e3 tc tb n s1 y q]
      | bk s1 => cases q; simp only [e1, e2]
      | rt r => cases q; simp only [e3]
theorem T.whl {c : T} {body : SsV} {ρs : σ → Env'} {hs : σ → Hs} {mc : σ → Option Bool} {mb : σ → Option σ} {s0 : σ} {k : σ → Option γ} (h0 : ρ = ρs s0) (h0' : h = hs s0) (tc : ∀ s, JT F c (ρs s) (hs s) (mc s)) (tb : ∀ s, TJ F P body (ρs s) (hs s) (mb s) (fun s => .nx (ρs s) (hs s)))
    (t : ∀ s, TJ F P ss (ρs s) (hs s) (k s) En) : TJ F P (.cons (.whl c body) ss) ρ h ((whlF mc mb s0).bind k) En := by
  subst h0 h0'
  intro z q
  obtain ⟨s, hs1, q⟩ := bs q
  unfold whlF at hs1
  simp only [evSsV, evSV, whlGoN tc tb fuelW s0 s hs1, Option.bind_some, t s z q]
theorem whlS_bk {R : Type} {c : σ → Option Bool} {f : σ → Option (Ctl R σ)} : ∀ (n : Nat) (s s' : σ), MP.whlS c f n s ≠ some (.bk s')
  | 0, s, s' => by simp [MP.whlS]
  | n + 1, s, s' => by
    simp only [MP.whlS]
    cases c s with
    | none => simp
    | some b =>
      cases b with
      | false => simp
      | true =>
        simp only [Option.bind_some, if_true]
        cases f s with
        | none => simp
        | some x =>
          cases x with
          | nx s1 => simp only [Option.bind_some]; exact whlS_bk n s1 s'
          | bk s1 => simp
          | rt r => simp
theorem T.whlS {R : Type} {c : T} {body : SsV} {ρs : σ → Env'} {hs : σ → Hs} {mc : σ → Option Bool} {mb : σ → Option (Ctl R σ)} {s0 : σ} {k : σ → Option γ} {kr : R → γ} {rr : R → Ret} {rx : R → List (List D)} {Eb : Ctl R σ → OutV} (h0 : ρ = ρs s0) (h0' : h = hs s0)
    (tc : ∀ s, JT F c (ρs s) (hs s) (mc s)) (e1 : ∀ s, Eb (.nx s) = .nx (ρs s) (hs s)) (e2 : ∀ s, Eb (.bk s) = .bk (ρs s) (hs s)) (e3 : ∀ r, Eb (.rt r) = .rt (rr r) (rx r)) (tb : ∀ s, TJ F P body (ρs s) (hs s) (mb s) Eb)
    (hr : ∀ r, En (kr r) = .rt (rr r) (rx r)) (t : ∀ s, TJ F P ss (ρs s) (hs s) (k s) En) : TJ F P (.cons (.whl c body) ss) ρ h ((MP.whlFS mc mb s0).bind fun c => Ctl.go k kr c) En := by
  subst h0 h0'
  intro z q
  obtain ⟨y, hy, q⟩ := bs q
  unfold whlFS at hy
  simp only [evSsV, evSV, whlGoS e1 e2 e3 tc tb fuelW s0 y hy, Option.bind_some]
  cases y with
  | nx s1 => simp only [e1]; exact t s1 z q
  | bk s1 => exact absurd hy (whlS_bk _ _ _)
  | rt r => cases q; simp only [e3, hr]
end
/-! ### calls and defs -/
section
variable {F : CallF} {h : Hs} {f : Nat} {vs : List Val} {as : List (Arg × Option Nat)} {α δ : Type}
theorem call_link {m : Option α} {R : α → Ret × List (List D)} {V : α → Val} {H : α → Hs} (ha : argsOf h vs = some as) (hd : dupN (placesOf as) = false) (hF : ∀ z, m = some z → F f (as.map (·.1)) = some (R z))
    (hp : ∀ r, putBack (placesOf as) (R r).2 h = some (H r)) (hR : ∀ r, retV (placesOf as) (R r).2 (R r).1 = some (V r)) : ∀ z, m = some z → callV F f vs h = some (V z, H z) := by
  intro z q
  unfold callV
  simp only [ha, hd, hF z q, hp z, hR z]
theorem run_link {T : TabV} {n i : Nat} {as : List Arg} {fn : FnV} {γ : Type} {m : Option γ} {En : γ → OutV} {R : γ → Ret × List (List D)} (hT : T[i]? = some fn) (hl : (Nat.beq as.length fn.np && Nat.ble fn.np fn.nn) = true)
    (t : TJ (callV' T n) (parsV as) fn.body (stV fn.nn as) (hpV fn.nn as) m En) (hf : ∀ r, finV (parsV as) (En r) = some (R r)) : ∀ z, m = some z → callV' T (n + 1) i as = some (R z) := by
  intro z q
  simp only [callV', hT, runV, hl, if_true, t z q, Option.bind_some, hf z]
end
end MP

/-! ## EngLd.lean -/
set_option Elab.async false
set_option linter.all false
set_option maxRecDepth 100000
namespace MP
open PySem PySem.Spec L2
/-! ### expressions that change one list of the caller (its content: s) -/
def JE (F : CallF) (e : E) (ρ : Env') {γ σ : Type} (H : σ → Hs) (m : σ → Option (γ × σ)) (V : γ → Val) : Prop := ∀ s r, m s = some r → evE F e ρ (H s) = some (V r.1, H r.2)
def JEs (F : CallF) (es : Es) (ρ : Env') {γ σ : Type} (H : σ → Hs) (m : σ → Option (γ × σ)) (V : γ → List Val) : Prop := ∀ s r, m s = some r → evEs F es ρ (H s) = some (V r.1, H r.2)
def JTE (F : CallF) (c : T) (ρ : Env') {σ : Type} (H : σ → Hs) (m : σ → Option (Bool × σ)) : Prop := ∀ s r, m s = some r → MP.evT F c ρ (H s) = some (r.1, H r.2)
section
variable {F : CallF} {ρ : Env'} {σ α β γ δ : Type} {H : σ → Hs} {a b c : E} {i j : Nat} {es ks : Es}
theorem JE.up {V : γ → Val} {m : σ → Option γ} (ja : ∀ s, J F a ρ (H s) (m s) V) : JE F a ρ H (fun s => (m s).bind fun x => some (x, s)) V := by
  intro s r q
  obtain ⟨x, hx, q⟩ := bs q
  cases q
  exact ja s x hx
theorem JTE.up {m : σ → Option Bool} (ja : ∀ s, JT F t ρ (H s) (m s)) : JTE F t ρ H (fun s => (m s).bind fun x => some (x, s)) := by
  intro s r q
  obtain ⟨x, hx, q⟩ := bs q
  cases q
  exact ja s x hx
theorem JE.two {o : Operator} {Va : α → Val} {Vb : β → Val} {V : γ → Val} {ma : σ → Option (α × σ)} {mb : σ → Option (β × σ)} {op : α → β → Option γ} (ja : JE F a ρ H ma Va) (jb : JE F b ρ H mb Vb)
    (ho : ∀ s x y, binV o (Va x) (Vb y) (H s) = (op x y).bind fun z => some (V z)) : JE F (.bin o a b) ρ H (fun s => (ma s).bind fun x => (mb x.2).bind fun y => (op x.1 y.1).bind fun z => some (z, y.2)) V := by
  intro s r q
  obtain ⟨x, hx, q⟩ := bs q
  obtain ⟨y, hy, q⟩ := bs q
  obtain ⟨z, hz, q⟩ := bs q
  cases q
  have k := ho y.2 x.1 y.1
  rw [hz, Option.bind_some] at k
  simp only [evE, ja s x hx, jb x.2 y hy, k]
theorem JE.loc {i : Nat} (hρ : ρ[i]? = some (some (.loc i))) : JE F (.var i) ρ H (fun s : σ => some ((), s)) (fun _ => .loc i) := by
  intro s r q
  cases q
  simp only [evE, hρ]
theorem JE.cmp {o : CmpOp} {Va : α → Val} {Vb : β → Val} {ma : σ → Option (α × σ)} {mb : σ → Option (β × σ)} {op : α → β → Option Bool} (ja : JE F a ρ H ma Va) (jb : JE F b ρ H mb Vb)
    (ho : ∀ s x y, cmpV o (Va x) (Vb y) (H s) = op x y) : JE F (.cmp o a b) ρ H (fun s => (ma s).bind fun x => (mb x.2).bind fun y => (op x.1 y.1).bind fun z => some (z, y.2)) vB := by
  intro s r q
  obtain ⟨x, hx, q⟩ := bs q
  obtain ⟨y, hy, q⟩ := bs q
  obtain ⟨z, hz, q⟩ := bs q
  cases q
  have k := ho y.2 x.1 y.1
  rw [hz] at k
  simp only [evE, ja s x hx, jb x.2 y hy, cmpW, k]
theorem JE.one {V : α → Val} {m : σ → Option (α × σ)} (ja : JE F a ρ H m V) : JE F (.one a) ρ H m V := by
  intro s r q
  simp only [evE, ja s r q]
theorem JE.and {ma mb : σ → Option (Bool × σ)} (ja : JE F a ρ H ma vB) (jb : JE F b ρ H mb vB) : JE F (.and a b) ρ H (fun s => (ma s).bind fun x => if x.1 then mb x.2 else some (false, x.2)) vB := by
  intro s r q
  obtain ⟨⟨x, s1⟩, hx, q⟩ := bs q
  cases x with
  | false => cases q; simp only [evE, ja s _ hx, truV]
  | true => simp only [evE, ja s _ hx, truV]; exact jb s1 r q
theorem JE.or {ma mb : σ → Option (Bool × σ)} (ja : JE F a ρ H ma vB) (jb : JE F b ρ H mb vB) : JE F (.or a b) ρ H (fun s => (ma s).bind fun x => if x.1 then some (true, x.2) else mb x.2) vB := by
  intro s r q
  obtain ⟨⟨x, s1⟩, hx, q⟩ := bs q
  cases x with
  | true => cases q; simp only [evE, ja s _ hx, truV]
  | false => simp only [evE, ja s _ hx, truV]; exact jb s1 r q
theorem JEs.nil : JEs F .nil ρ H (fun s => some ((), s)) (fun _ => []) := by
  intro s r q; cases q; rfl
theorem JEs.cons {Va : α → Val} {Vb : β → List Val} {ma : σ → Option (α × σ)} {mb : σ → Option (β × σ)} (ja : JE F a ρ H ma Va) (jb : JEs F es ρ H mb Vb) : JEs F (.cons a es) ρ H (fun s => (ma s).bind fun x => (mb x.2).bind fun y => some ((x.1, y.1), y.2)) (fun r => Va r.1 :: Vb r.2) := by
  intro s r q
  obtain ⟨x, hx, q⟩ := bs q
  obtain ⟨y, hy, q⟩ := bs q
  cases q
  simp only [evEs, ja s x hx, jb x.2 y hy]
theorem JE.tup {Vs : γ → List Val} {m : σ → Option (γ × σ)} {ds : γ → List D} {g : γ → Option δ} {V : δ → Val} (js : JEs F es ρ H m Vs) (hf : ∀ r, frzDs (Vs r) = some (ds r))
    (hv : ∀ s r, (if Nat.ble (ds r).length line then some (Val.p (.tup (ds r)), H s) else none) = (g r).bind fun z => some (V z, H s)) : JE F (.tup es) ρ H (fun s => (m s).bind fun r => (g r.1).bind fun z => some (z, r.2)) V := by
  intro s r q
  obtain ⟨x, hx, q⟩ := bs q
  obtain ⟨z, hz, q⟩ := bs q
  cases q
  have k := hv x.2 x.1
  rw [hz, Option.bind_some] at k
  simp only [evE, js s x hx, hf x.1, k]
theorem JE.lst {Vs : γ → List Val} {m : σ → Option (γ × σ)} {ds : γ → List D} {g : γ → Option δ} {V : δ → Val} (js : JEs F es ρ H m Vs) (hf : ∀ r, frzDs (Vs r) = some (ds r))
    (hv : ∀ s r, (if Nat.ble (ds r).length line then some (Val.new (ds r), H s) else none) = (g r).bind fun z => some (V z, H s)) : JE F (.lst es) ρ H (fun s => (m s).bind fun r => (g r.1).bind fun z => some (z, r.2)) V := by
  intro s r q
  obtain ⟨x, hx, q⟩ := bs q
  obtain ⟨z, hz, q⟩ := bs q
  cases q
  have k := hv x.2 x.1
  rw [hz, Option.bind_some] at k
  simp only [evE, js s x hx, hf x.1, k]
theorem JE.sub {Va : α → Val} {Vb : β → Val} {V : γ → Val} {ma : σ → Option (α × σ)} {mb : σ → Option (β × σ)} {op : α → β → Option γ} (ja : JE F a ρ H ma Va) (jb : JE F b ρ H mb Vb)
    (ho : ∀ s x y, subV (Va x) (Vb y) (H s) = (op x y).bind fun z => some (V z)) : JE F (.sub a b) ρ H (fun s => (ma s).bind fun x => (mb x.2).bind fun y => (op x.1 y.1).bind fun z => some (z, y.2)) V := by
  intro s r q
  obtain ⟨x, hx, q⟩ := bs q
  obtain ⟨y, hy, q⟩ := bs q
  obtain ⟨z, hz, q⟩ := bs q
  cases q
  have k := ho y.2 x.1 y.1
  rw [hz, Option.bind_some] at k
  simp only [evE, ja s x hx, jb x.2 y hy, k]
theorem JE.rev {Va : α → Val} {V : γ → Val} {ma : σ → Option (α × σ)} {op : α → γ} (ja : JE F a ρ H ma Va) (ho : ∀ s x, revV (Va x) (H s) = some (V (op x))) : JE F (.rev a) ρ H (fun s => (ma s).bind fun x => some (op x.1, x.2)) V := by
  intro s r q
  obtain ⟨x, hx, q⟩ := bs q
  cases q
  simp only [evE, ja s x hx, ho]
theorem JE.b1 {k : Bi} {Va : α → Val} {V : γ → Val} {ma : σ → Option (α × σ)} {op : α → Option γ} (ja : JE F a ρ H ma Va) (ho : ∀ s x, bi1 k (Va x) (H s) = (op x).bind fun z => some (V z)) : JE F (.bi k (.cons a .nil)) ρ H (fun s => (ma s).bind fun x => (op x.1).bind fun z => some (z, x.2)) V := by
  intro s r q
  obtain ⟨x, hx, q⟩ := bs q
  obtain ⟨z, hz, q⟩ := bs q
  cases q
  have k := ho x.2 x.1
  rw [hz, Option.bind_some] at k
  simp only [evE, evEs, ja s x hx, biV, k]
theorem JE.b2 {k : Bi} {Va : α → Val} {Vb : β → Val} {V : γ → Val} {ma : σ → Option (α × σ)} {mb : σ → Option (β × σ)} {op : α → β → Option γ} (ja : JE F a ρ H ma Va) (jb : JE F b ρ H mb Vb) (ho : ∀ x y, bi2 k (Va x) (Vb y) = (op x y).bind fun z => some (V z)) :
    JE F (.bi k (.cons a (.cons b .nil))) ρ H (fun s => (ma s).bind fun x => (mb x.2).bind fun y => (op x.1 y.1).bind fun z => some (z, y.2)) V := by
  intro s r q
  obtain ⟨x, hx, q⟩ := bs q
  obtain ⟨y, hy, q⟩ := bs q
  obtain ⟨z, hz, q⟩ := bs q
  cases q
  have k := ho x.1 y.1
  rw [hz, Option.bind_some] at k
  simp only [evE, evEs, ja s x hx, jb x.2 y hy, biV, k]
theorem JE.call {f : Nat} {Vs : γ → List Val} {m : σ → Option (γ × σ)} {V : δ → Val} {op : γ → σ → Option (δ × σ)} (js : JEs F es ρ H m Vs) (ho : ∀ r s z, op r s = some z → callV F f (Vs r) (H s) = some (V z.1, H z.2)) : JE F (.call f es) ρ H (fun s => (m s).bind fun r => op r.1 r.2) V := by
  intro s r q
  obtain ⟨x, hx, q⟩ := bs q
  simp only [evE, js s x hx]
  exact ho x.1 x.2 r q
theorem JTE.bo {m : σ → Option (Bool × σ)} (ja : JE F a ρ H m vB) : JTE F (.val a) ρ H m := by
  intro s r q
  simp only [MP.evT, ja s r q, truV]
theorem JTE.not {t : T} {m : σ → Option (Bool × σ)} (jc : JTE F t ρ H m) : JTE F (.not t) ρ H (fun s => (m s).bind fun x => some (!x.1, x.2)) := by
  intro s r q
  obtain ⟨x, hx, q⟩ := bs q
  cases q
  simp only [MP.evT, jc s x hx]
theorem JTE.one {t : T} {m : σ → Option (Bool × σ)} (jc : JTE F t ρ H m) : JTE F (.one t) ρ H m := by
  intro s r q
  simp only [MP.evT, jc s r q]
theorem JTE.and {t u : T} {m n : σ → Option (Bool × σ)} (jc : JTE F t ρ H m) (jd : JTE F u ρ H n) : JTE F (.and t u) ρ H (fun s => (m s).bind fun x => if x.1 then n x.2 else some (false, x.2)) := by
  intro s r q
  obtain ⟨⟨x, s1⟩, hx, q⟩ := bs q
  cases x with
  | false => cases q; simp only [MP.evT, jc s _ hx]
  | true => simp only [MP.evT, jc s _ hx]; exact jd s1 r q
theorem JTE.or {t u : T} {m n : σ → Option (Bool × σ)} (jc : JTE F t ρ H m) (jd : JTE F u ρ H n) : JTE F (.or t u) ρ H (fun s => (m s).bind fun x => if x.1 then some (true, x.2) else n x.2) := by
  intro s r q
  obtain ⟨⟨x, s1⟩, hx, q⟩ := bs q
  cases x with
  | true => cases q; simp only [MP.evT, jc s _ hx]
  | false => simp only [MP.evT, jc s _ hx]; exact jd s1 r q
theorem JE.ife {V : α → Val} {c : T} {mc : σ → Option (Bool × σ)} {ma mb : σ → Option (α × σ)} (jc : JTE F c ρ H mc) (ja : JE F a ρ H ma V) (jb : JE F b ρ H mb V) : JE F (.ife c a b) ρ H (fun s => (mc s).bind fun x => if x.1 then ma x.2 else mb x.2) V := by
  intro s r q
  obtain ⟨⟨x, s1⟩, hx, q⟩ := bs q
  cases x with
  | true => simp only [evE, jc s _ hx]; exact ja s1 r q
  | false => simp only [evE, jc s _ hx]; exact jb s1 r q
/-- comprehensions whose elements change the list -/
def lcF' (f : α → σ → Option (β × σ)) : List α → σ → Option (List β × σ)
  | [], s => some ([], s)
  | x :: xs, s => (f x s).bind fun r => (lcF' f xs r.2).bind fun t => some (r.1 :: t.1, t.2)
theorem lcF'_ok {k : Val → Hs → Option (Option D × Hs)} {g : α → Val} {f : α → σ → Option (β × σ)} {en : β → D} (hk : ∀ x s r, f x s = some r → k (g x) (H s) = some (some (en r.1), H r.2)) :
    ∀ (xs : List α) (s : σ) (r : List β × σ), lcF' f xs s = some r → lcGo k (xs.map g) (H s) = some (r.1.map en, H r.2)
  | [], s, r, q => by cases q; rfl
  | x :: xs, s, r, q => by
    simp only [lcF'] at q
    obtain ⟨y, hy, q⟩ := bs q
    obtain ⟨z, hz, q⟩ := bs q
    cases q
    simp only [List.map_cons, lcGo, hk x s y hy, lcF'_ok hk xs y.2 z hz]
theorem JE.lc {own : List Nat} {tg : Tg} {it : It} {elt : E} {mi : σ → Option (List α × σ)} {g : α → Val} {ρ1 : α → Env'} {me : α → σ → Option (β × σ)} {V : β → Val} {en : β → D}
    (ji : ∀ s r, mi s = some r → evI F it ρ (H s) = some (⟨r.1.map g, none⟩, H r.2)) (ht : ∀ x, setTg tg (g x) (wipeE ρ own) = some (ρ1 x)) (je : ∀ x, JE F elt (ρ1 x) H (me x) V) (hv : ∀ y, frzD (V y) = some (en y)) :
    JE F (.lc own tg it .no elt) ρ H (fun s => (mi s).bind fun r => (lcF' me r.1 r.2).bind fun t => (lenC t.1).bind fun z => some (z, t.2)) (vN en) := by
  intro s r q
  obtain ⟨xs, hx, q⟩ := bs q
  obtain ⟨t, hy, q⟩ := bs q
  obtain ⟨z, hz, q⟩ := bs q
  cases q
  unfold lenC at hz
  split at hz
  · rename_i hl
    cases hz
    have k := lcF'_ok (H := H) (k := lcF tg (evC F .no) (evE F elt) (wipeE ρ own)) (g := g) (en := en) (f := me) (fun x s r hr => by
      simp only [lcF, ht x, evC, je x s r hr, hv]) xs.1 xs.2 t hy
    simp only [evE, ji s xs hx, k, List.length_map, hl, if_true, unlock]
  · cases hz
theorem frzDs_app : ∀ (vs ws : List Val) (ds es : List D), frzDs vs = some ds → frzDs ws = some es → frzDs (vs ++ ws) = some (ds ++ es)
  | [], ws, ds, es, h1, h2 => by simp only [frzDs, Option.some.injEq] at h1; subst h1; exact h2
  | v :: vs, ws, ds, es, h1, h2 => by
    simp only [frzDs] at h1
    cases q : frzD v with
    | none => rw [q] at h1; cases h1
    | some d =>
      rw [q] at h1
      cases q2 : frzDs vs with
      | none => rw [q2] at h1; cases h1
      | some ds' =>
        rw [q2] at h1
        cases h1
        simp only [List.cons_append, frzDs, q, frzDs_app vs ws ds' es q2 h2]
theorem frzDs_cons {v : Val} {d : D} {vs : List Val} {ds : List D} (h1 : frzD v = some d) (h2 : frzDs vs = some ds) : frzDs (v :: vs) = some (d :: ds) := by simp only [frzDs, h1, h2]
theorem frzDs_p : ∀ ds : List D, frzDs (ds.map Val.p) = some ds
  | [] => rfl
  | d :: ds => by simp only [List.map_cons, frzDs, frzD, frzDs_p ds]
theorem JIE.rng1 {a : E} {m : σ → Option (Int × σ)} (ja : JE F a ρ H m vI) : ∀ s r, (fun s => (m s).bind fun x => (MP.rng1 x.1).bind fun z => some (z, x.2)) s = some r → evI F (.rng (.cons a .nil)) ρ (H s) = some (⟨r.1.map vI, none⟩, H r.2) := by
  intro s r q
  obtain ⟨x, hx, q⟩ := bs q
  obtain ⟨z, hz, q⟩ := bs q
  cases q
  unfold MP.rng1 at hz
  split at hz
  · rename_i c
    cases hz
    simp only [evI, evEs, ja s x hx, rngV, c, if_true, rngI_map, Int.zero_add]
  · cases hz
end
end MP

/-! ## EngLp.lean -/
set_option Elab.async false
set_option linter.all false
set_option maxRecDepth 100000
namespace MP
open PySem PySem.Spec L2
/-! ### plain laws over typed code -/
section
variable {α β γ σ : Type}
def Sat (m : Option α) (P : α → Prop) : Prop := ∃ z, m = some z ∧ P z
theorem Sat.ret {x : α} {P : α → Prop} (h : P x) : Sat (some x) P := ⟨x, rfl, h⟩
theorem Sat.bind {m : Option α} {k : α → Option β} {P : α → Prop} {Q : β → Prop} (h : Sat m P) (hk : ∀ x, P x → Sat (k x) Q) : Sat (m.bind k) Q := by
  obtain ⟨x, rfl, hp⟩ := h
  exact hk x hp
theorem Sat.mono {m : Option α} {P Q : α → Prop} (h : Sat m P) (hk : ∀ x, P x → Q x) : Sat m Q := by
  obtain ⟨x, rfl, hp⟩ := h
  exact ⟨x, rfl, hk x hp⟩
theorem Sat.eq {m : Option α} {x : α} {P : α → Prop} (e : m = some x) (h : P x) : Sat m P := ⟨x, e, h⟩
theorem Sat.ite {c : Prop} [Decidable c] {m n : Option α} {P : α → Prop} (h1 : c → Sat m P) (h2 : ¬ c → Sat n P) : Sat (if c then m else n) P := by
  by_cases h : c
  · rw [if_pos h]; exact h1 h
  · rw [if_neg h]; exact h2 h
theorem small_of {i : Int} (h1 : -1000000000 ≤ i) (h2 : i ≤ 1000000000) : small i = true := by
  unfold small
  rw [Bool.and_eq_true, decide_eq_true_eq, decide_eq_true_eq]
  omega
theorem mulS_l {i j : Int} (h1 : -1000000000000 ≤ i) (h2 : i ≤ 1000000000000) : mulS i j = some (i * j) := by
  unfold mulS; rw [mulOk_l h1 h2]; rfl
theorem mulS_r {i j : Int} (h1 : -1000000000000 ≤ j) (h2 : j ≤ 1000000000000) : mulS i j = some (i * j) := by
  unfold mulS; rw [mulOk_r h1 h2]; rfl
theorem modS_ok {x y : Int} (h : 0 < y) : modS x y = some (x % y) := by
  unfold modS; rw [decide_eq_true h]; rfl
theorem fdivS_ok {x y : Int} (h : 0 < y) (h2 : y < 1073741824) : fdivS x y = some (x / y) := by
  unfold fdivS; rw [decide_eq_true h, decide_eq_true h2]; rfl
theorem divS_ok {x y : Int} (h : 0 < y) (h2 : y < 1073741824) : divS x y = some (x / y, x % y) := by
  unfold divS; rw [decide_eq_true h, decide_eq_true h2]; rfl
theorem rng1_ok {n : Nat} (h : n ≤ 1000000000) : MP.rng1 (n : Int) = some ((List.range n).map fun (k : Nat) => (k : Int)) := by
  unfold MP.rng1; rw [small_of (by omega) (by omega)]; rfl
theorem rng2_ok {i j : Int} (h1 : -1000000000 ≤ i) (h2 : i ≤ 1000000000) (h3 : -1000000000 ≤ j) (h4 : j ≤ 1000000000) : MP.rng2 i j = some ((List.range (j - i).toNat).map fun (k : Nat) => i + (k : Int)) := by
  unfold MP.rng2; rw [small_of h1 h2, small_of h3 h4]; rfl
theorem atI_nat {xs : List α} {k : Nat} (h : k < xs.length) : atI xs (k : Int) = some xs[k] := by
  unfold atI ixN
  rw [if_pos (by omega), if_pos (by omega)]
  simp [h]
theorem atI_ok {xs : List α} {k : Int} (h0 : 0 ≤ k) (h : k < xs.length) : Sat (atI xs k) fun x => x ∈ xs := by
  obtain ⟨n, rfl⟩ := Int.eq_ofNat_of_zero_le h0
  rw [atI_nat (by omega)]
  exact .ret (List.getElem_mem _)
theorem ixN_nat {n k : Nat} (h : k < n) : ixN n (k : Int) = some k := by
  unfold ixN
  rw [if_pos (by omega), if_pos (by omega)]
  simp
theorem setS_nat {xs : List α} {k : Nat} {v : α} (h : k < xs.length) : setS xs (k : Int) v = some (xs.set k v) := by
  unfold setS; rw [ixN_nat h]; rfl
theorem ble_t {m n : Nat} (h : m ≤ n) : Nat.ble m n = true := Nat.ble_eq_true_of_le h
theorem blt_t {m n : Nat} (h : m < n) : Nat.blt m n = true := Nat.ble_eq_true_of_le h
theorem catS_ok {xs ys : List α} (h : xs.length + ys.length ≤ 16777216) : catS xs ys = some (xs ++ ys) := by
  unfold catS; rw [if_pos (show _ = true from ble_t (n := line) h)]
theorem lenT_ok {xs : List α} (h : xs.length ≤ 16777216) : lenT xs = some xs := by
  unfold lenT; rw [if_pos (show _ = true from ble_t (n := line) h)]
theorem lenC_ok {xs : List α} (h : xs.length < 16777216) : lenC xs = some xs := by
  unfold lenC; rw [if_pos (show _ = true from blt_t (n := line) h)]
theorem appS_ok {xs : List α} {x : α} (h : xs.length < 16777216) : appS xs x = some (xs ++ [x]) := by
  unfold appS; rw [if_pos (show _ = true from blt_t (n := line) h)]
theorem timesS_one {x : α} {k : Int} (h : k ≤ 16777216) (h0 : 0 ≤ k) : timesS [x] k = some (List.replicate k.toNat x) := by
  unfold timesS
  rw [if_pos]
  · congr 1
    induction k.toNat with
    | zero => rfl
    | succ n ih => rw [List.replicate_succ, List.flatten_cons, ih]; rfl
  · rw [decide_eq_true (by omega : k < 16777217), decide_eq_true (by omega : -16777217 < k)]
    rw [show Nat.ble ([x].length * k.toNat) line = true from ble_t (by simp [line]; omega)]
    rfl
section
variable (a b c v : α)
theorem at3_0 : atI [a, b, c] 0 = some a := rfl
theorem at3_1 : atI [a, b, c] 1 = some b := rfl
theorem at3_2 : atI [a, b, c] 2 = some c := rfl
theorem set3_0 : setS [a, b, c] 0 v = some [v, b, c] := rfl
theorem set3_1 : setS [a, b, c] 1 v = some [a, v, c] := rfl
theorem set3_2 : setS [a, b, c] 2 v = some [a, b, v] := rfl
end
/-- a jar of three -/
def Pot (p : List Int) : Prop := ∃ a b c, p = [a, b, c]
theorem cutD_six (xs : List α) {k : Nat} : (cutD xs none (some (k : Int))).length ≤ k := by
  unfold cutD
  rw [List.length_take]
  have : cutAt xs.length xs.length (some (k : Int)) ≤ k := by
    show HT.sIx xs.length xs.length (some (k : Int)) ≤ k
    rw [HT.sIx_nat]; omega
  omega
/-! loops -/
theorem sat_forN {f : α → σ → Option σ} {I : σ → Prop} : ∀ {xs : List α} {s : σ}, (∀ x ∈ xs, ∀ s, I s → Sat (f x s) I) → I s → Sat (forN f xs s) I
  | [], s, _, h => ⟨s, rfl, h⟩
  | x :: xs, s, hf, h => by
    obtain ⟨s1, e, h1⟩ := hf x List.mem_cons_self s h
    show Sat ((f x s).bind fun s1 => forN f xs s1) I
    rw [e]
    exact sat_forN (fun y m => hf y (List.mem_cons_of_mem _ m)) h1
/-- a loop is a fold -/
theorem forN_fold {f : α → σ → Option σ} {g : σ → α → σ} {I : σ → Prop} : ∀ {xs : List α} {s : σ}, (∀ x ∈ xs, ∀ s, I s → f x s = some (g s x) ∧ I (g s x)) → I s → forN f xs s = some (xs.foldl g s) ∧ I (xs.foldl g s)
  | [], s, _, h => ⟨rfl, h⟩
  | x :: xs, s, hf, h => by
    obtain ⟨e, h1⟩ := hf x List.mem_cons_self s h
    have := forN_fold (xs := xs) (fun y m => hf y (List.mem_cons_of_mem _ m)) h1
    exact ⟨by show (f x s).bind (fun s1 => forN f xs s1) = _; rw [e]; exact this.1, this.2⟩
/-- a loop that only appends -/
theorem forN_acc {F : α → List β → Option (List β)} {G : α → List β} : ∀ {xs : List α} {s : List β}, (∀ x ∈ xs, ∀ s : List β, s.length + (G x).length ≤ 16777216 → F x s = some (s ++ G x)) → s.length + (xs.flatMap G).length ≤ 16777216 → forN F xs s = some (s ++ xs.flatMap G)
  | [], s, _, _ => by simp [forN]
  | x :: xs, s, hf, h => by
    rw [List.flatMap_cons, List.length_append] at h
    show (F x s).bind (fun s1 => forN F xs s1) = _
    rw [hf x List.mem_cons_self s (by omega)]
    show forN F xs (s ++ G x) = _
    rw [forN_acc (fun y m => hf y (List.mem_cons_of_mem _ m)) (by rw [List.length_append]; omega), List.flatMap_cons, List.append_assoc]
theorem flatMap_same {f g : α → List β} : ∀ {xs : List α}, (∀ x ∈ xs, f x = g x) → xs.flatMap f = xs.flatMap g
  | [], _ => rfl
  | x :: xs, h => by rw [List.flatMap_cons, List.flatMap_cons, h x List.mem_cons_self, flatMap_same fun y m => h y (List.mem_cons_of_mem _ m)]
theorem forN_app {F : α → List β → Option (List β)} {g : α → β} {xs : List α} {s : List β} (hf : ∀ x ∈ xs, ∀ s : List β, s.length < 16777216 → F x s = some (s ++ [g x])) (h : s.length + xs.length ≤ 16777216) : forN F xs s = some (s ++ xs.map g) := by
  have e : xs.flatMap (fun x => [g x]) = xs.map g := by
    clear h hf
    induction xs with
    | nil => rfl
    | cons x xs ih => rw [List.flatMap_cons, ih]; rfl
  rw [← e]
  refine forN_acc (fun x m s h => hf x m s ?_) (by rw [e, List.length_map]; exact h)
  simp at h; omega
theorem lcE_map {f : α → Option β} {g : α → β} : ∀ {xs : List α}, (∀ x ∈ xs, f x = some (g x)) → lcE f xs = some (xs.map g)
  | [], _ => rfl
  | x :: xs, h => by
    simp only [lcE, h x List.mem_cons_self, lcE_map fun y m => h y (List.mem_cons_of_mem _ m), Option.bind_some, List.map_cons]
end
/-! counting into cells -/
theorem sum_set_one : ∀ (xs : List Int) (j : Nat) (h : j < xs.length), (xs.set j (xs[j] + 1)).sum = xs.sum + 1
  | [], _, h => absurd h (Nat.not_lt_zero _)
  | x :: xs, 0, _ => by simp only [List.set_cons_zero, List.getElem_cons_zero, List.sum_cons]; omega
  | x :: xs, j + 1, h => by
    have := sum_set_one xs j (by simpa using h)
    simp only [List.set_cons_succ, List.getElem_cons_succ, List.sum_cons, this]; omega
theorem cells {by' : Nat} {f : Int → List Int → Option (List Int)} (hb : 0 < by') (hf : ∀ m s, f m s = ((((modS m (by' : Int)).bind fun x1 => atI s x1).bind fun x2 => some (x2 + 1)).bind fun x3 => (modS m (by' : Int)).bind fun x4 => (setS s x4 x3).bind fun s => some s)) :
    ∀ (marks found : List Int), found.length = by' → ∃ r, forN f marks found = some r ∧ r.length = by' ∧ r.sum = found.sum + (marks.length : Int) ∧ ∀ i, i < by' → r[i]? = (found[i]?).map fun x => x + ((marks.countP fun m => (m % (by' : Int)).toNat == i : Nat) : Int)
  | [], found, hl => ⟨found, rfl, hl, by simp, fun i _ => by cases found[i]? <;> simp⟩
  | m :: marks, found, hl => by
    have h0 : 0 ≤ m % (by' : Int) := Int.emod_nonneg _ (by omega)
    have h1 : m % (by' : Int) < by' := Int.emod_lt_of_pos _ (by omega)
    obtain ⟨j, ej⟩ := Int.eq_ofNat_of_zero_le h0
    have hj : j < found.length := by omega
    obtain ⟨r, e, l, sm, g⟩ := cells hb hf marks (found.set j (found[j] + 1)) (by rw [List.length_set]; exact hl)
    refine ⟨r, ?_, l, ?_, ?_⟩
    · show (f m found).bind (fun s1 => forN f marks s1) = _
      rw [hf, modS_ok (by omega), Option.bind_some, ej, atI_nat hj, Option.bind_some, Option.bind_some, Option.bind_some, setS_nat hj, Option.bind_some, Option.bind_some, e]
    · rw [sm, sum_set_one, List.length_cons]; push_cast; omega
    · intro i hi
      rw [g i hi, List.getElem?_set, List.countP_cons, ej]
      by_cases c : j = i
      · subst c
        rw [if_pos rfl, if_pos hj, List.getElem?_eq_getElem hj]
        simp; omega
      · rw [if_neg c]
        simp [c]
theorem cells_zero {by' : Nat} {f : Int → List Int → Option (List Int)} (hb : 0 < by') (hf : ∀ m s, f m s = ((((modS m (by' : Int)).bind fun x1 => atI s x1).bind fun x2 => some (x2 + 1)).bind fun x3 => (modS m (by' : Int)).bind fun x4 => (setS s x4 x3).bind fun s => some s)) (marks : List Int) :
    forN f marks (List.replicate by' 0) = some ((List.range by').map fun i => ((marks.countP fun m => (m % (by' : Int)).toNat == i : Nat) : Int)) ∧ ((List.range by').map fun i => ((marks.countP fun m => (m % (by' : Int)).toNat == i : Nat) : Int)).sum = (marks.length : Int) := by
  obtain ⟨r, e, l, sm, g⟩ := cells hb hf marks (List.replicate by' 0) (by simp)
  have : r = (List.range by').map fun i => ((marks.countP fun m => (m % (by' : Int)).toNat == i : Nat) : Int) := by
    apply List.ext_getElem?
    intro i
    by_cases hi : i < by'
    · rw [g i hi]; simp [hi]
    · rw [List.getElem?_eq_none (by omega), List.getElem?_eq_none (by simp; omega)]
  subst this
  refine ⟨e, ?_⟩
  rw [sm]
  have : (List.replicate by' (0 : Int)).sum = 0 := by
    clear hb hf e l sm g
    induction by' with
    | zero => rfl
    | succ n ih => rw [List.replicate_succ, List.sum_cons, ih]; rfl
  rw [this]; omega
/-! ### the rows (partitions) -/
def rowsN : Nat → Nat → Nat → List (List Nat)
  | 0, _, _ => []
  | k + 1, n, m => if n = 0 then [[]] else (List.range (min n m)).flatMap fun i => (rowsN k (n - (i + 1)) (i + 1)).map fun r => (i + 1) :: r
theorem rowsN_len : ∀ (k n m : Nat), n < k → (rowsN k n m).length ≤ 2 ^ n
  | 0, _, _, h => by omega
  | k + 1, n, m, h => by
    rw [rowsN]
    split
    · simp; exact Nat.one_le_two_pow
    · have key : ∀ c, c ≤ n → ((List.range c).flatMap fun i => (rowsN k (n - (i + 1)) (i + 1)).map fun r => (i + 1) :: r).length + 2 ^ (n - c) ≤ 2 ^ n := by
        intro c
        induction c with
        | zero => intro _; simp
        | succ c ih =>
          intro hc
          have := ih (by omega)
          rw [List.range_succ, List.flatMap_append, List.length_append]
          have l2 := rowsN_len k (n - (c + 1)) (c + 1) (by omega)
          have e : 2 ^ (n - c) = 2 * 2 ^ (n - (c + 1)) := by rw [show n - c = (n - (c + 1)) + 1 by omega, Nat.pow_succ]; omega
          simp only [List.flatMap_cons, List.flatMap_nil, List.append_nil, List.length_map]
          omega
      exact Nat.le_trans (Nat.le_add_right _ _) (key (min n m) (Nat.min_le_left _ _))
theorem rowsN_lt {k n : Nat} (m : Nat) (h : n < k) (h2 : n ≤ 24) : (rowsN k n m).length < 16777216 := by
  have e : (rowsN k n m).length ≤ 2 ^ n := rowsN_len k n m h
  by_cases h3 : n < 24
  · have : 2 ^ n ≤ 2 ^ 23 := Nat.pow_le_pow_right (by omega) (by omega)
    have : (2 : Nat) ^ 23 = 8388608 := rfl
    omega
  · have : n = 24 := by omega
    subst this
    obtain ⟨k, rfl⟩ : ∃ j, k = j + 1 := ⟨k - 1, by omega⟩
    have : (rowsN (k + 1) 24 m).length + 1 ≤ 2 ^ 24 := by
      rw [rowsN, if_neg (by decide)]
      have key : ∀ c, c ≤ 24 → ((List.range c).flatMap fun i => (rowsN k (24 - (i + 1)) (i + 1)).map fun r => (i + 1) :: r).length + 2 ^ (24 - c) ≤ 2 ^ 24 := by
        intro c
        induction c with
        | zero => intro _; simp
        | succ c ih =>
          intro hc
          have := ih (by omega)
          rw [List.range_succ, List.flatMap_append, List.length_append]
          have l2 := rowsN_len k (24 - (c + 1)) (c + 1) (by omega)
          have e : 2 ^ (24 - c) = 2 * 2 ^ (24 - (c + 1)) := by rw [show 24 - c = (24 - (c + 1)) + 1 by omega, Nat.pow_succ]; omega
          simp only [List.flatMap_cons, List.flatMap_nil, List.append_nil, List.length_map]
          omega
      have := key (min 24 m) (Nat.min_le_left _ _)
      have h1 : 1 ≤ 2 ^ (24 - min 24 m) := Nat.one_le_two_pow
      omega
    have : (2 : Nat) ^ 24 = 16777216 := rfl
    omega
theorem rowsN_sum : ∀ (k n m : Nat), n < k → ∀ r ∈ rowsN k n m, r.sum = n ∧ (∀ p ∈ r, 1 ≤ p ∧ p ≤ m) ∧ r.length ≤ n
  | 0, _, _, h => by omega
  | k + 1, n, m, h => by
    intro r hr
    rw [rowsN] at hr
    split at hr
    · rename_i e
      simp at hr; subst hr; subst e; simp
    · rename_i e
      rw [List.mem_flatMap] at hr
      obtain ⟨i, hi, hr⟩ := hr
      rw [List.mem_map] at hr
      obtain ⟨q, hq, rfl⟩ := hr
      rw [List.mem_range] at hi
      obtain ⟨h1, h2, h3⟩ := rowsN_sum k (n - (i + 1)) (i + 1) (by omega) q hq
      refine ⟨by rw [List.sum_cons, h1]; omega, ?_, by rw [List.length_cons]; omega⟩
      intro p hp
      rcases List.mem_cons.mp hp with rfl | hp
      · omega
      · have := h2 p hp; omega
abbrev nts (r : List Nat) : List Int := r.map fun (p : Nat) => (p : Int)
/-- rows_within, once it is known to be this loop -/
theorem rows_ok {s : Nat → Int → Int → Option (List (List Int))} {b1 : Int → List Int → List (List Int) → Option (List (List Int))} {b0 : (Int → Int → Option (List (List Int))) → Int → Int → List (List Int) → Option (List (List Int))}
    (hb1 : ∀ p r f, b1 p r f = (lenT (p :: r)).bind fun x => (appS f x).bind fun f => some f)
    (hb0 : ∀ rc n p f, b0 rc n p f = (rc (n - p) p).bind fun x => (forN (fun r s => b1 p r s) x f).bind fun z => some z)
    (hs : ∀ k n m, s (k + 1) n m = if (n == 0) then some [([] : List Int)] else (MP.rng2 1 ((if m < n then m else n) + 1)).bind fun x => (forN (fun p f => b0 (s k) n p f) x []).bind fun z => some z) :
    ∀ (k n m : Nat), n < k → n ≤ 24 → s k (n : Int) (m : Int) = some ((rowsN k n m).map nts)
  | 0, _, _, h, _ => by omega
  | k + 1, n, m, h, h2 => by
    rw [hs, rowsN]
    by_cases e : n = 0
    · subst e; rfl
    · rw [if_neg (by simpa using e), if_neg e, show ((if (m : Int) < (n : Int) then (m : Int) else (n : Int)) + 1 : Int) = ((min n m + 1 : Nat) : Int) by split <;> omega, rng2_ok (by omega) (by omega) (by omega) (by omega), Option.bind_some,
        show (((min n m + 1 : Nat) : Int) - 1).toNat = min n m by omega]
      have hl : ((List.range (min n m)).flatMap fun i => (rowsN k (n - (i + 1)) (i + 1)).map fun r => (i + 1) :: r).length ≤ 16777216 := by
        have := rowsN_len (k + 1) n m h
        rw [rowsN, if_neg e] at this
        have h3 : 2 ^ n ≤ 2 ^ 24 := Nat.pow_le_pow_right (by omega) h2
        have : (2 : Nat) ^ 24 = 16777216 := rfl
        omega
      have := forN_acc (F := fun p f => b0 (s k) (n : Int) p f) (G := fun p => (rowsN k (n - p.toNat) p.toNat).map fun r => p :: nts r) (xs := (List.range (min n m)).map fun (j : Nat) => (1 : Int) + (j : Int)) (s := []) ?_ ?_
      · rw [this, Option.bind_some, List.nil_append]
        congr 1
        rw [List.flatMap_map, List.map_flatMap]
        apply flatMap_same
        intro i _
        rw [show ((1 : Int) + (i : Int)).toNat = i + 1 by omega, List.map_map]
        apply List.map_congr_left
        intro r _
        simp only [Function.comp, nts, List.map_cons]
        congr 1
        push_cast; omega
      · intro p hp f hf
        obtain ⟨i, hi, rfl⟩ := List.mem_map.mp hp
        rw [List.mem_range] at hi
        have ep : ((1 : Int) + (i : Int)).toNat = i + 1 := by omega
        rw [ep] at hf ⊢
        rw [hb0, show ((n : Int) - (1 + (i : Int))) = ((n - (i + 1) : Nat) : Int) by omega, show ((1 : Int) + (i : Int)) = ((i + 1 : Nat) : Int) by push_cast; omega, rows_ok hb1 hb0 hs k (n - (i + 1)) (i + 1) (by omega) (by omega), Option.bind_some]
        rw [forN_app (g := fun r => ((i + 1 : Nat) : Int) :: r)]
        · rw [Option.bind_some, List.map_map]; rfl
        · intro r hr s hs2
          obtain ⟨q, hq, rfl⟩ := List.mem_map.mp hr
          have := (rowsN_sum k (n - (i + 1)) (i + 1) (by omega) q hq).2.2
          rw [hb1, lenT_ok (by simp; omega), Option.bind_some, appS_ok hs2, Option.bind_some]
        · simpa using hf
      · rw [List.flatMap_map, List.length_nil, Nat.zero_add]
        refine Nat.le_trans (Nat.le_of_eq ?_) hl
        rw [List.length_flatMap, List.length_flatMap]
        congr 1
        apply List.map_congr_left
        intro i _
        rw [show ((1 : Int) + (i : Int)).toNat = i + 1 by omega, List.length_map, List.length_map]
end MP

/-! ## EngSr.lean -/
set_option Elab.async false
set_option linter.all false
set_option maxRecDepth 100000
namespace MP
open PySem PySem.Spec L2
/-! ### series: lists of numbers that are the begin of a function of the place -/
def tab (f : Nat → Int) (n : Nat) : List Int := (List.range n).map f
section
variable {f g h : Nat → Int} {n k : Nat}
theorem tab_len : (tab f n).length = n := by simp [tab]
theorem tab_get? (i : Nat) : (tab f n)[i]? = if i < n then some (f i) else none := by
  unfold tab
  rw [List.getElem?_map]
  by_cases c : i < n
  · rw [if_pos c, List.getElem?_range c]; rfl
  · rw [if_neg c, List.getElem?_eq_none (by simpa using c)]; rfl
theorem tab_get (i : Nat) (c : i < (tab f n).length) : (tab f n)[i] = f i := by simp [tab]
theorem tab_ext {xs : List Int} (hl : xs.length = n) (he : ∀ i (c : i < xs.length), xs[i] = f i) : xs = tab f n := by
  apply List.ext_getElem
  · rw [hl, tab_len]
  · intro i c1 c2
    rw [he i c1, tab_get]
theorem tab_congr (e : ∀ i, i < n → f i = g i) : tab f n = tab g n := by
  unfold tab
  apply List.map_congr_left
  intro i m
  exact e i (List.mem_range.mp m)
theorem tab_succ : tab f (n + 1) = tab f n ++ [f n] := by simp [tab, List.range_succ]
theorem tab_zero : tab f 0 = [] := rfl
theorem tab_cons : tab f (n + 1) = f 0 :: tab (fun i => f (i + 1)) n := by simp [tab, List.range_succ_eq_map, Function.comp_def]
theorem tab_take (m : Nat) (c : m ≤ n) : (tab f n).take m = tab f m := by
  apply tab_ext
  · rw [List.length_take, tab_len]; omega
  · intro i c; rw [List.getElem_take, tab_get]
theorem tab_app {m : Nat} : tab f (n + m) = tab f n ++ tab (fun i => f (n + i)) m := by
  symm
  apply tab_ext
  · simp [tab_len]
  · intro i c
    by_cases q : i < n
    · rw [List.getElem_append_left (by rw [tab_len]; exact q), tab_get]
    · rw [List.getElem_append_right (by rw [tab_len]; omega), tab_get, tab_len]
      congr 1; omega
theorem tab_rep (m : Nat) (x : Int) : List.replicate m x = tab (fun _ => x) m := by
  apply tab_ext
  · simp
  · intro i c; simp
theorem atI_tab (c : k < n) : atI (tab f n) (k : Int) = some (f k) := by
  rw [atI_nat (by rw [tab_len]; exact c), tab_get]
theorem atI_tab' {j : Int} (e : j = (k : Int)) (c : k < n) : atI (tab f n) j = some (f k) := by subst e; exact atI_tab c
theorem setS_tab {v : Int} (c : k < n) : setS (tab f n) (k : Int) v = some (tab (fun i => if i = k then v else f i) n) := by
  rw [setS_nat (by rw [tab_len]; exact c)]
  congr 1
  apply tab_ext
  · simp [tab_len]
  · intro i c2
    rw [List.getElem_set]
    by_cases q : k = i
    · subst q; rw [if_pos rfl, if_pos rfl]
    · rw [if_neg q, if_neg (Ne.symm q), tab_get]
theorem setS_tab' {v j : Int} (e : j = (k : Int)) (c : k < n) : setS (tab f n) j v = some (tab (fun i => if i = k then v else f i) n) := by subst e; exact setS_tab c
def mix (k : Nat) (f g : Nat → Int) (i : Nat) : Int := if i < k then g i else f i
theorem mix_lt {i : Nat} (c : i < k) : mix k f g i = g i := if_pos c
theorem mix_ge {i : Nat} (c : k ≤ i) : mix k f g i = f i := if_neg (by omega)
theorem forN_append {α σ : Type} {b : α → σ → Option σ} : ∀ (xs ys : List α) (s : σ), forN b (xs ++ ys) s = (forN b xs s).bind fun s1 => forN b ys s1
  | [], _, _ => rfl
  | x :: xs, ys, s => by
    show (b x s).bind (fun s1 => forN b (xs ++ ys) s1) = ((b x s).bind fun s1 => forN b xs s1).bind _
    cases b x s with
    | none => rfl
    | some s1 => exact forN_append xs ys s1
theorem forN_one {α σ : Type} {b : α → σ → Option σ} (x : α) (s : σ) : forN b [x] s = b x s := by
  show (b x s).bind (fun s1 => some s1) = b x s
  cases b x s <;> rfl
/-- a loop from a on, cell by cell -/
theorem asc {b : Int → List Int → Option (List Int)} {a : Nat} : ∀ m, (∀ k, a ≤ k → k < a + m → b (k : Int) (tab (mix k f g) n) = some (tab (mix (k + 1) f g) n)) →
    forN b ((List.range m).map fun (j : Nat) => (a : Int) + (j : Int)) (tab (mix a f g) n) = some (tab (mix (a + m) f g) n)
  | 0, _ => rfl
  | m + 1, hb => by
    rw [List.range_succ, List.map_append, forN_append, asc m fun k h1 h2 => hb k h1 (by omega), Option.bind_some]
    show forN b [(a : Int) + (m : Int)] _ = _
    rw [forN_one, show (a : Int) + (m : Int) = ((a + m : Nat) : Int) by omega, hb (a + m) (by omega) (by omega)]
    rfl
/-- a loop of appending -/
theorem asc_app {b : Int → List Int → Option (List Int)} {a : Nat} : ∀ m, (∀ k, a ≤ k → k < a + m → b (k : Int) (tab f k) = some (tab f (k + 1))) →
    forN b ((List.range m).map fun (j : Nat) => (a : Int) + (j : Int)) (tab f a) = some (tab f (a + m))
  | 0, _ => rfl
  | m + 1, hb => by
    rw [List.range_succ, List.map_append, forN_append, asc_app m fun k h1 h2 => hb k h1 (by omega), Option.bind_some]
    show forN b [(a : Int) + (m : Int)] _ = _
    rw [forN_one, show (a : Int) + (m : Int) = ((a + m : Nat) : Int) by omega, hb (a + m) (by omega) (by omega)]
    rfl
/-- a loop over any state, known turn by turn -/
theorem asc_st {σ : Type} {b : Int → σ → Option σ} {F : Nat → σ} {a : Nat} : ∀ m, (∀ k, a ≤ k → k < a + m → b (k : Int) (F k) = some (F (k + 1))) →
    forN b ((List.range m).map fun (j : Nat) => (a : Int) + (j : Int)) (F a) = some (F (a + m))
  | 0, _ => rfl
  | m + 1, hb => by
    rw [List.range_succ, List.map_append, forN_append, asc_st m fun k h1 h2 => hb k h1 (by omega), Option.bind_some]
    show forN b [(a : Int) + (m : Int)] _ = _
    rw [forN_one, show (a : Int) + (m : Int) = ((a + m : Nat) : Int) by omega, hb (a + m) (by omega) (by omega)]
    rfl
/-- a loop from the last cell down -/
theorem desc {b : Int → List Int → Option (List Int)} : ∀ m, m ≤ n → (∀ k, n - m ≤ k → k < n → b (k : Int) (tab (mix (k + 1) g f) n) = some (tab (mix k g f) n)) →
    forN b ((List.range m).map fun (j : Nat) => ((n : Int) - 1) - (j : Int)) (tab (mix n g f) n) = some (tab (mix (n - m) g f) n)
  | 0, _, _ => rfl
  | m + 1, hm, hb => by
    rw [List.range_succ, List.map_append, forN_append, desc m (by omega) fun k h1 h2 => hb k (by omega) h2, Option.bind_some]
    show forN b [((n : Int) - 1) - (m : Int)] _ = _
    have q := hb (n - (m + 1)) (by omega) (by omega)
    rw [show n - (m + 1) + 1 = n - m by omega] at q
    rw [forN_one, show ((n : Int) - 1) - (m : Int) = ((n - (m + 1) : Nat) : Int) by omega, q]

/-! one size more: f / (1 - q ^ (c + 1)) -/
def wS (c : Nat) (f : Nat → Int) (i : Nat) : Int := if _ : c + 1 ≤ i then f i + wS c f (i - (c + 1)) else f i
termination_by i
theorem wS_ge {c i : Nat} (q : c + 1 ≤ i) : wS c f i = f i + wS c f (i - (c + 1)) := by rw [wS, dif_pos q]
theorem wS_lt {c i : Nat} (q : i < c + 1) : wS c f i = f i := by rw [wS, dif_neg (by omega)]
theorem wS_congr {c : Nat} (m : Nat) (e : ∀ i, i < m → f i = g i) : ∀ i, i < m → wS c f i = wS c g i := by
  intro i
  induction i using Nat.strongRecOn with
  | ind i ih =>
    intro hi
    by_cases q : c + 1 ≤ i
    · rw [wS_ge q, wS_ge q, e i hi, ih (i - (c + 1)) (by omega) (by omega)]
    · rw [wS_lt (by omega), wS_lt (by omega), e i hi]
abbrev addB (size total : Int) (found : List Int) : Option (List Int) := ((atI found total).bind fun x2 => (atI found (total - size)).bind fun x3 => some (x2 + x3)).bind fun x4 => (setS found total x4).bind fun found => some found
theorem addB_ok {c : Nat} (h1 : c + 1 ≤ k) (h2 : k < n) : addB ((c + 1 : Nat) : Int) (k : Int) (tab (mix k f (wS c f)) n) = some (tab (mix (k + 1) f (wS c f)) n) := by
  unfold addB
  rw [atI_tab h2, Option.bind_some, atI_tab' (k := k - (c + 1)) (by omega) (by omega), Option.bind_some, Option.bind_some, setS_tab h2, Option.bind_some]
  congr 1
  apply tab_congr
  intro i hi
  by_cases q : i = k
  · subst q
    rw [if_pos rfl, mix_ge (Nat.le_refl _), mix_lt (by omega), mix_lt (by omega), wS_ge h1]
  · rw [if_neg q]
    by_cases q2 : i < k
    · rw [mix_lt q2, mix_lt (by omega)]
    · rw [mix_ge (by omega), mix_ge (by omega)]
theorem loop_add {c : Nat} {b : Int → List Int → Option (List Int)} (hb : ∀ k L, b k L = addB ((c + 1 : Nat) : Int) k L) : forN b ((List.range (n - (c + 1))).map fun (j : Nat) => ((c + 1 : Nat) : Int) + (j : Int)) (tab f n) = some (tab (wS c f) n) := by
  have e0 : tab f n = tab (mix (c + 1) f (wS c f)) n := by
    apply tab_congr
    intro i hi
    by_cases q : i < c + 1
    · rw [mix_lt q, wS_lt q]
    · rw [mix_ge (by omega)]
  rw [e0, asc (n - (c + 1)) fun k h1 h2 => by rw [hb]; exact addB_ok h1 (by omega)]
  congr 1
  apply tab_congr
  intro i hi
  by_cases q : i < c + 1 + (n - (c + 1))
  · rw [mix_lt q]
  · rw [mix_ge (by omega), wS_lt (by omega)]
/-! times 1 - q ^ c -/
def mD (c : Nat) (f : Nat → Int) (i : Nat) : Int := if c ≤ i then f i - f (i - c) else f i
abbrev subB (step k : Int) (longer : List Int) : Option (List Int) := ((atI longer k).bind fun x3 => (atI longer (k - step)).bind fun x4 => some (x3 - x4)).bind fun x5 => (setS longer k x5).bind fun longer => some longer
theorem subB_ok {c : Nat} (h1 : c ≤ k) (h2 : k < n) (h0 : 0 < c) : subB (c : Int) (k : Int) (tab (mix (k + 1) (mD c f) f) n) = some (tab (mix k (mD c f) f) n) := by
  unfold subB
  rw [atI_tab h2, Option.bind_some, atI_tab' (k := k - c) (by omega) (by omega), Option.bind_some, Option.bind_some, setS_tab h2, Option.bind_some]
  congr 1
  apply tab_congr
  intro i hi
  by_cases q : i = k
  · subst q
    rw [if_pos rfl, mix_lt (by omega), mix_lt (by omega), mix_ge (Nat.le_refl _)]
    unfold mD
    rw [if_pos h1]
  · rw [if_neg q]
    by_cases q2 : i < k
    · rw [mix_lt q2, mix_lt (by omega)]
    · rw [mix_ge (by omega), mix_ge (by omega)]
theorem loop_sub {c : Nat} (h0 : 0 < c) {b : Int → List Int → Option (List Int)} (hb : ∀ k L, b k L = subB (c : Int) k L) : forN b ((List.range (n - c)).map fun (j : Nat) => ((n : Int) - 1) - (j : Int)) (tab f n) = some (tab (mD c f) n) := by
  have e0 : tab f n = tab (mix n (mD c f) f) n := tab_congr fun i hi => by rw [mix_lt hi]
  rw [e0, desc (n - c) (by omega) fun k h1 h2 => by rw [hb]; exact subB_ok (by omega) h2 h0]
  congr 1
  apply tab_congr
  intro i hi
  by_cases q : i < n - (n - c)
  · rw [mix_lt q]; unfold mD; rw [if_neg (by omega)]
  · rw [mix_ge (by omega)]
end
/-! the begin 1, 0, 0, .. -/
def one (i : Nat) : Int := if i = 0 then 1 else 0
theorem tab_one (n : Nat) : [1] ++ List.replicate n (0 : Int) = tab one (n + 1) := by
  rw [tab_cons, tab_rep]
  rfl
/-! ### quick in the kernel -/
noncomputable def zipA (xs ys : List Int) : List Int := List.rec (motive := fun _ => List Int → List Int) (fun _ => []) (fun x _ ih ys => List.rec (motive := fun _ => List Int) [] (fun y ys _ => (x + y) :: ih ys) ys) xs ys
theorem zipA_nil (ys : List Int) : zipA [] ys = [] := rfl
theorem zipA_cons (x y : Int) (xs ys : List Int) : zipA (x :: xs) (y :: ys) = (x + y) :: zipA xs ys := rfl
theorem zipA_cons_nil (x : Int) (xs : List Int) : zipA (x :: xs) [] = [] := rfl
theorem zipA_tab (f g : Nat → Int) : ∀ (n m : Nat), n ≤ m → zipA (tab f n) (tab g m) = tab (fun i => f i + g i) n := by
  intro n
  induction n generalizing f g with
  | zero => intro m _; rfl
  | succ n ih =>
    intro m hm
    obtain ⟨m, rfl⟩ : ∃ j, m = j + 1 := ⟨m - 1, by omega⟩
    rw [tab_cons, tab_cons, tab_cons, zipA_cons, ih _ _ m (by omega)]
/-- blocks of a size, each added to the one ahead -/
noncomputable def wsGo (c : Nat) (k : Nat) : List Int → List Int → List Int := Nat.rec (motive := fun _ => List Int → List Int → List Int) (fun _ _ => []) (fun _ ih prev xs => List.append (zipA (List.take c xs) prev) (ih (zipA (List.take c xs) prev) (List.drop c xs))) k
theorem wsGo_succ (c k : Nat) (prev xs : List Int) : wsGo c (k + 1) prev xs = zipA (xs.take c) prev ++ wsGo c k (zipA (xs.take c) prev) (xs.drop c) := rfl
theorem tab_drop {f : Nat → Int} {n : Nat} (m : Nat) : (tab f n).drop m = tab (fun i => f (m + i)) (n - m) := by
  apply tab_ext
  · rw [List.length_drop, tab_len]
  · intro i c; rw [List.getElem_drop, tab_get]
theorem wsGo_ok (c : Nat) (f : Nat → Int) (n : Nat) : ∀ (k s : Nat), n ≤ s + k * (c + 1) → c + 1 ≤ s → wsGo (c + 1) k (tab (fun i => wS c f (s - (c + 1) + i)) (c + 1)) (tab (fun i => f (s + i)) (n - s)) = tab (fun i => wS c f (s + i)) (n - s)
  | 0, s, h, _ => by rw [show n - s = 0 by omega]; rfl
  | k + 1, s, h, hs => by
    have a : zipA ((tab (fun i => f (s + i)) (n - s)).take (c + 1)) (tab (fun i => wS c f (s - (c + 1) + i)) (c + 1)) = tab (fun i => wS c f (s + i)) (min (c + 1) (n - s)) := by
      by_cases q : c + 1 ≤ n - s
      · rw [tab_take _ q, zipA_tab _ _ _ _ (Nat.le_refl _), Nat.min_eq_left q]
        apply tab_congr
        intro i hi
        rw [wS_ge (by omega : c + 1 ≤ s + i)]
        congr 2; omega
      · rw [List.take_of_length_le (by rw [tab_len]; omega), zipA_tab _ _ _ _ (by omega), Nat.min_eq_right (by omega)]
        apply tab_congr
        intro i hi
        rw [wS_ge (by omega : c + 1 ≤ s + i)]
        congr 2; omega
    rw [wsGo_succ, a, tab_drop]
    by_cases q : c + 1 ≤ n - s
    · have ih := wsGo_ok c f n k (s + (c + 1)) (by rw [Nat.add_mul] at h; omega) (by omega)
      rw [Nat.min_eq_left q]
      have e1 : tab (fun i => wS c f (s + i)) (c + 1) = tab (fun i => wS c f (s + (c + 1) - (c + 1) + i)) (c + 1) := tab_congr fun i _ => by rw [Nat.add_sub_cancel]
      have e2 : tab (fun i => f (s + (c + 1 + i))) (n - s - (c + 1)) = tab (fun i => f (s + (c + 1) + i)) (n - (s + (c + 1))) := by
        rw [show n - s - (c + 1) = n - (s + (c + 1)) by omega]
        exact tab_congr fun i _ => congrArg f (by omega)
      rw [e2]
      conv => lhs; arg 2; rw [e1]
      rw [ih]
      have e3 : n - s = (c + 1) + (n - (s + (c + 1))) := by omega
      rw [e3, tab_app (n := c + 1)]
      congr 1
      exact tab_congr fun i _ => congrArg (wS c f) (by omega)
    · rw [Nat.min_eq_right (by omega), show n - s - (c + 1) = 0 by omega]
      have nil : ∀ k prev, wsGo (c + 1) k prev [] = [] := by
        intro k
        induction k with
        | zero => intro prev; rfl
        | succ k ih => intro prev; rw [wsGo_succ, List.take_nil, List.drop_nil, zipA_nil, ih]; rfl
      rw [tab_zero, nil, List.append_nil]
noncomputable def wsL (c : Nat) (xs : List Int) : List Int := List.append (List.take c xs) (wsGo c (List.length xs / c) (List.take c xs) (List.drop c xs))
theorem wsL_ok (c : Nat) (f : Nat → Int) (n : Nat) : wsL (c + 1) (tab f n) = tab (wS c f) n := by
  unfold wsL
  show (tab f n).take (c + 1) ++ wsGo (c + 1) ((tab f n).length / (c + 1)) ((tab f n).take (c + 1)) ((tab f n).drop (c + 1)) = _
  by_cases q : c + 1 ≤ n
  · rw [tab_take _ q, tab_drop, tab_len]
    have e : tab f (c + 1) = tab (fun i => wS c f (c + 1 - (c + 1) + i)) (c + 1) := tab_congr fun i hi => by rw [Nat.sub_self, Nat.zero_add, wS_lt hi]
    have := wsGo_ok c f n (n / (c + 1)) (c + 1) (by
      have h1 := Nat.div_add_mod n (c + 1)
      have h2 := Nat.mod_lt n (show 0 < c + 1 by omega)
      rw [Nat.mul_comm] at h1
      omega) (Nat.le_refl _)
    conv => lhs; arg 2; rw [e]
    rw [this]
    conv => rhs; rw [show n = (c + 1) + (n - (c + 1)) by omega, tab_app]
    congr 1
    exact tab_congr fun i hi => by rw [wS_lt hi]
  · rw [List.take_of_length_le (by rw [tab_len]; omega), tab_drop, show n - (c + 1) = 0 by omega, tab_zero]
    have nil : ∀ k prev, wsGo (c + 1) k prev [] = [] := by
      intro k
      induction k with
      | zero => intro prev; rfl
      | succ k ih => intro prev; rw [wsGo_succ, List.take_nil, List.drop_nil, zipA_nil, ih]; rfl
    rw [nil, List.append_nil]
    exact tab_congr fun i hi => by rw [wS_lt (by omega)]
end MP
namespace MP
open PySem PySem.Spec L2
/-- a comprehension with a test is a filter -/
theorem lcS_filter {α : Type} {f : α → Option Bool} {g : α → Bool} : ∀ xs : List α, (∀ x ∈ xs, f x = some (g x)) → lcS (fun x => (f x).bind fun c => if c then (some x).bind fun y => some (some y) else some none) xs = some (xs.filter g)
  | [], _ => rfl
  | x :: xs, h => by
    have ih := lcS_filter xs fun y m => h y (List.mem_cons_of_mem _ m)
    rw [lcS, h x List.mem_cons_self, Option.bind_some, ih, List.filter_cons]
    cases g x <;> rfl
/-- how many below a number, for the kernel -/
noncomputable def cntN (p : Nat → Bool) (m : Nat) : Nat := Nat.rec 0 (fun k ih => Nat.add ih (Bool.rec 0 1 (p k))) m
theorem cntN_eq (p : Nat → Bool) : ∀ m, cntN p m = (List.range m).countP p
  | 0 => rfl
  | m + 1 => by
    rw [List.range_succ, List.countP_append, ← cntN_eq p m]
    show cntN p m + (Bool.rec 0 1 (p m) : Nat) = _
    cases h : p m <;> simp [h]
/-- for all below a number, for the kernel -/
noncomputable def allN (p : Nat → Bool) (m : Nat) : Bool := Nat.rec true (fun k ih => Bool.rec false (p k) ih) m
theorem allN_ok (p : Nat → Bool) : ∀ m, allN p m = true → ∀ k, k < m → p k = true
  | 0, _, k, h => by omega
  | m + 1, e, k, h => by
    have e' : (Bool.rec false (p m) (allN p m) : Bool) = true := e
    cases c : allN p m with
    | false => rw [c] at e'; cases e'
    | true =>
      rw [c] at e'
      by_cases q : k = m
      · subst q; exact e'
      · exact allN_ok p m c k (by omega)
end MP

/-! ## EngKr.lean -/
set_option Elab.async false
set_option linter.all false
set_option maxRecDepth 100000
namespace MP
open PySem PySem.Spec L2
/-! ### many small numbers in one great one: the digits by 2 ^ (v + 1), all below 2 ^ v -/
def dig (v Z i : Nat) : Nat := Z / (2 ^ (v + 1)) ^ i % 2 ^ (v + 1)
section
variable {v X Y Z n : Nat}
theorem dig_mod_succ (i : Nat) : Z % (2 ^ (v + 1)) ^ (i + 1) = Z % (2 ^ (v + 1)) ^ i + (2 ^ (v + 1)) ^ i * dig v Z i := Nat.mod_pow_succ
theorem dig_half (h : ∀ i, i < n → dig v Z i < 2 ^ v) : 0 < n → 2 * (Z % (2 ^ (v + 1)) ^ n) < (2 ^ (v + 1)) ^ n := by
  intro h0
  induction n with
  | zero => omega
  | succ n ih =>
    have hp : 0 < (2 ^ (v + 1)) ^ n := Nat.pow_pos (Nat.pow_pos (by decide))
    have hd := h n (by omega)
    rw [dig_mod_succ]
    have h1 : Z % (2 ^ (v + 1)) ^ n < (2 ^ (v + 1)) ^ n := Nat.mod_lt _ hp
    have h2 : 2 * (Z % (2 ^ (v + 1)) ^ n) < (2 ^ (v + 1)) ^ n ∨ n = 0 := by
      by_cases c : n = 0
      · exact .inr c
      · exact .inl (ih (fun i hi => h i (by omega)) (by omega))
    have h3 : (2 ^ (v + 1)) ^ n * dig v Z n ≤ (2 ^ (v + 1)) ^ n * (2 ^ v - 1) := Nat.mul_le_mul_left _ (by omega)
    have e : (2 ^ (v + 1)) ^ (n + 1) = 2 * ((2 ^ (v + 1)) ^ n * (2 ^ v - 1)) + 2 * (2 ^ (v + 1)) ^ n := by
      have hv : 0 < 2 ^ v := Nat.pow_pos (by decide)
      have : (2 ^ (v + 1)) ^ (n + 1) = 2 * ((2 ^ (v + 1)) ^ n * 2 ^ v) := by
        rw [Nat.pow_succ ((2 ^ (v + 1))), Nat.pow_succ 2 v, Nat.mul_comm (2 ^ v) 2, Nat.mul_left_comm]
      rw [this, ← Nat.mul_add, ← Nat.mul_succ]
      congr 2
      omega
    rcases h2 with h2 | h2
    · omega
    · subst h2
      simp only [Nat.pow_zero, Nat.mod_one] at *
      omega
theorem dig_add (hX : ∀ i, i < n → dig v X i < 2 ^ v) (hY : ∀ i, i < n → dig v Y i < 2 ^ v) : ∀ i, i < n → dig v (X + Y) i = dig v X i + dig v Y i := by
  have key : ∀ m, m ≤ n → (X + Y) % (2 ^ (v + 1)) ^ m = X % (2 ^ (v + 1)) ^ m + Y % (2 ^ (v + 1)) ^ m := by
    intro m hm
    by_cases c : m = 0
    · subst c; simp [Nat.mod_one]
    · have a := dig_half (fun i hi => hX i (by omega)) (show 0 < m by omega)
      have b := dig_half (fun i hi => hY i (by omega)) (show 0 < m by omega)
      rw [Nat.add_mod, Nat.mod_eq_of_lt (by omega)]
  intro i hi
  have hp : 0 < (2 ^ (v + 1)) ^ i := Nat.pow_pos (Nat.pow_pos (by decide))
  have k1 := key (i + 1) hi
  have k0 := key i (by omega)
  rw [dig_mod_succ, dig_mod_succ, dig_mod_succ, k0] at k1
  have : (2 ^ (v + 1)) ^ i * dig v (X + Y) i = (2 ^ (v + 1)) ^ i * (dig v X i + dig v Y i) := by rw [Nat.mul_add]; omega
  exact Nat.eq_of_mul_eq_mul_left hp this
theorem dig_shift (s : Nat) (i : Nat) : dig v (Z * (2 ^ (v + 1)) ^ s) i = if s ≤ i then dig v Z (i - s) else 0 := by
  have hb : 0 < 2 ^ (v + 1) := Nat.pow_pos (by decide)
  unfold dig
  split
  · rename_i h
    congr 1
    rw [show (2 ^ (v + 1)) ^ i = (2 ^ (v + 1)) ^ (i - s) * (2 ^ (v + 1)) ^ s by rw [← Nat.pow_add]; congr 1; omega, Nat.mul_div_mul_right _ _ (Nat.pow_pos hb)]
  · rename_i h
    rw [show (2 ^ (v + 1)) ^ s = (2 ^ (v + 1)) ^ (s - i) * (2 ^ (v + 1)) ^ i by rw [← Nat.pow_add]; congr 1; omega, ← Nat.mul_assoc, Nat.mul_div_cancel _ (Nat.pow_pos hb)]
    rw [show s - i = (s - i - 1) + 1 by omega, Nat.pow_succ, ← Nat.mul_assoc, Nat.mul_mod_left]
theorem dig_mod (n : Nat) (i : Nat) (h : i < n) : dig v (Z % (2 ^ (v + 1)) ^ n) i = dig v Z i := by
  unfold dig
  rw [show (2 ^ (v + 1)) ^ n = (2 ^ (v + 1)) ^ i * (2 ^ (v + 1)) ^ (n - i) by rw [← Nat.pow_add]; congr 1; omega, Nat.mod_mul_right_div_self]
  exact Nat.mod_mod_of_dvd _ (by rw [show n - i = (n - i - 1) + 1 by omega, Nat.pow_succ]; exact Nat.dvd_mul_left _ _)
end
/-- the bits that must not be there -/
def mask (v : Nat) : Nat → Nat
  | 0 => 0
  | n + 1 => mask v n ||| 2 ^ ((v + 1) * n + v)
theorem mask_bit (v : Nat) : ∀ (n i : Nat), i < n → (mask v n).testBit ((v + 1) * i + v) = true
  | 0, i, h => by omega
  | n + 1, i, h => by
    rw [mask, Nat.testBit_or]
    by_cases c : i = n
    · subst c; simp [Nat.testBit_two_pow_self]
    · rw [mask_bit v n i (by omega)]; rfl
theorem dig_small {v Z M n : Nat} (hM : M = mask v n) (h : Z &&& M = 0) : ∀ i, i < n → dig v Z i < 2 ^ v := by
  intro i hi
  have b : (Z &&& M).testBit ((v + 1) * i + v) = false := by rw [h]; exact Nat.zero_testBit _
  rw [Nat.testBit_and, hM, mask_bit v n i hi, Bool.and_true] at b
  unfold dig
  apply Nat.lt_pow_two_of_testBit
  intro j hj
  rw [Nat.testBit_mod_two_pow, ← Nat.pow_mul, Nat.testBit_div_two_pow]
  by_cases c : j = v
  · subst c
    rw [Nat.add_comm] at b
    rw [b, Bool.and_false]
  · rw [decide_eq_false (by omega), Bool.false_and]
/-! ### a series in a great number -/
/-- Z holds the first n numbers of f -/
def Rp (v : Nat) (f : Nat → Int) (n Z : Nat) : Prop := ∀ i, i < n → f i = (dig v Z i : Nat) ∧ dig v Z i < 2 ^ v
section
variable {v n X Y Z M : Nat} {f g : Nat → Int}
theorem Rp.less {m : Nat} (r : Rp v f n X) (h : m ≤ n) : Rp v f m X := fun i hi => r i (by omega)
theorem Rp.congr (r : Rp v f n X) (e : ∀ i, i < n → g i = f i) : Rp v g n X := fun i hi => by rw [e i hi]; exact r i hi
theorem Rp.eq (r : Rp v f n X) (q : Rp v g n X) : ∀ i, i < n → f i = g i := fun i hi => (r i hi).1.trans (q i hi).1.symm
theorem Rp.mod (r : Rp v f n X) : Rp v f n (X % (2 ^ (v + 1)) ^ n) := fun i hi => by rw [dig_mod n i hi]; exact r i hi
theorem Rp.of_mod (r : Rp v f n (X % (2 ^ (v + 1)) ^ n)) : Rp v f n X := fun i hi => by have := r i hi; rw [dig_mod n i hi] at this; exact this
theorem Rp.one (hv : 0 < v) : Rp v one n 1 := by
  intro i hi
  have h2 : 2 ≤ 2 ^ v := by
    have : 2 ^ 1 ≤ 2 ^ v := Nat.pow_le_pow_right (by decide) hv
    simpa using this
  by_cases c : i = 0
  · subst c
    have : dig v 1 0 = 1 := by
      unfold dig
      rw [Nat.pow_zero, Nat.div_one, Nat.mod_eq_of_lt]
      rw [Nat.pow_succ]; omega
    rw [this]
    exact ⟨rfl, by omega⟩
  · have : dig v 1 i = 0 := by
      unfold dig
      rw [Nat.div_eq_of_lt, Nat.zero_mod]
      have a : (2 ^ (v + 1)) ^ 1 ≤ (2 ^ (v + 1)) ^ i := Nat.pow_le_pow_right (Nat.pow_pos (by decide)) (by omega)
      have b : (2 : Nat) ^ (v + 1) = 2 ^ v * 2 := Nat.pow_succ ..
      rw [Nat.pow_one] at a
      omega
    rw [this]
    exact ⟨by simp [MP.one, c], by omega⟩
theorem Rp.zero : Rp v (fun _ => 0) n 0 := by
  intro i hi
  have : dig v 0 i = 0 := by unfold dig; rw [Nat.zero_div, Nat.zero_mod]
  rw [this]
  exact ⟨rfl, Nat.pow_pos (by decide)⟩
theorem Rp.add (r : Rp v f n X) (q : Rp v g n Y) (hM : M = mask v n) (h : (X + Y) &&& M = 0) : Rp v (fun i => f i + g i) n (X + Y) := by
  have s := dig_small hM h
  intro i hi
  refine ⟨?_, s i hi⟩
  rw [dig_add (fun i hi => (r i hi).2) (fun i hi => (q i hi).2) i hi]
  simp only [(r i hi).1, (q i hi).1]
  push_cast; rfl
def shS (s : Nat) (f : Nat → Int) (i : Nat) : Int := if s ≤ i then f (i - s) else 0
theorem Rp.shift (r : Rp v f n X) (s : Nat) : Rp v (shS s f) n (X * (2 ^ (v + 1)) ^ s) := by
  intro i hi
  rw [dig_shift]
  unfold shS
  split
  · exact r (i - s) (by omega)
  · exact ⟨rfl, Nat.pow_pos (by decide)⟩
/-- what satisfies the equation of f / (1 - q ^ (c + 1)) -/
theorem Rp.ws {c : Nat} (r : Rp v f n X) (hM : M = mask v n) (h : Z &&& M = 0) (e : (X + Z * (2 ^ (v + 1)) ^ (c + 1)) % (2 ^ (v + 1)) ^ n = Z % (2 ^ (v + 1)) ^ n) : Rp v (wS c f) n Z := by
  have s := dig_small hM h
  have sh : ∀ i, i < n → dig v (Z * (2 ^ (v + 1)) ^ (c + 1)) i < 2 ^ v := by
    intro i hi
    rw [dig_shift]
    split
    · exact s _ (by omega)
    · exact Nat.pow_pos (by decide)
  have key : ∀ i, i < n → dig v Z i = dig v X i + if c + 1 ≤ i then dig v Z (i - (c + 1)) else 0 := by
    intro i hi
    rw [← dig_mod n i hi, ← e, dig_mod n i hi, dig_add (fun i hi => (r i hi).2) sh i hi, dig_shift]
  intro i
  induction i using Nat.strongRecOn with
  | ind i ih =>
    intro hi
    refine ⟨?_, s i hi⟩
    rw [key i hi]
    by_cases q : c + 1 ≤ i
    · rw [wS_ge q, if_pos q, (ih (i - (c + 1)) (by omega) (by omega)).1, (r i hi).1]
      push_cast; rfl
    · rw [wS_lt (by omega), if_neg q, (r i hi).1]
      rfl
/-- one step more, checked -/
noncomputable def wsK (v n M P c X : Nat) : Nat := Nat.mod (Nat.mul X (Nat.div (Nat.pow (Nat.pow 2 (v + 1)) ((c + 1) * (n / (c + 1) + 1)) - 1) (Nat.pow (Nat.pow 2 (v + 1)) (c + 1) - 1))) P
noncomputable def okZ (v M P c X Z : Nat) : Bool := and (Nat.beq (Nat.land Z M) 0) (Nat.beq (Nat.mod (Nat.add X (Nat.mul Z (Nat.pow (Nat.pow 2 (v + 1)) (c + 1)))) P) (Nat.mod Z P))
theorem okZ_ok {c P : Nat} (r : Rp v f n X) (hM : M = mask v n) (hP : P = (2 ^ (v + 1)) ^ n) (h : okZ v M P c X Z = true) : Rp v (wS c f) n Z := by
  unfold okZ at h
  obtain ⟨h1, h2⟩ := (Bool.and_eq_true _ _).mp h
  refine r.ws hM (Nat.eq_of_beq_eq_true h1) ?_
  rw [← hP]
  exact Nat.eq_of_beq_eq_true h2
end
end MP

/-! ## EngEx.lean -/
set_option Elab.async false
set_option linter.all false
set_option maxRecDepth 100000
namespace MP
open PySem PySem.Spec L2
/-! ### sums below a number -/
def sumN (F : Nat → Int) : Nat → Int
  | 0 => 0
  | n + 1 => sumN F n + F n
section
variable {F G : Nat → Int} {n : Nat}
theorem sumN_congr : ∀ n, (∀ i, i < n → F i = G i) → sumN F n = sumN G n
  | 0, _ => rfl
  | n + 1, h => by rw [sumN, sumN, sumN_congr n fun i hi => h i (by omega), h n (by omega)]
theorem sumN_add : ∀ n, sumN (fun i => F i + G i) n = sumN F n + sumN G n
  | 0 => rfl
  | n + 1 => by rw [sumN, sumN, sumN, sumN_add n]; omega
theorem sumN_zero (h : ∀ i, i < n → F i = 0) : sumN F n = 0 := by
  rw [sumN_congr (G := fun _ => 0) n h]
  clear h
  induction n with
  | zero => rfl
  | succ n ih => rw [sumN, ih]; rfl
theorem sumN_split : ∀ m, sumN F (n + m) = sumN F n + sumN (fun i => F (n + i)) m
  | 0 => by simp [sumN]
  | m + 1 => by rw [← Nat.add_assoc, sumN, sumN_split m, sumN]; omega
theorem sumN_front : sumN F (n + 1) = F 0 + sumN (fun i => F (i + 1)) n := by
  rw [Nat.add_comm n 1, sumN_split]
  simp only [sumN, Int.zero_add]
  congr 1
  exact sumN_congr _ fun i _ => by rw [Nat.add_comm]
theorem sum_tab (f : Nat → Int) : ∀ n, (tab f n).sum = sumN f n
  | 0 => rfl
  | n + 1 => by
    rw [tab_succ, List.sum_append, sum_tab f n, sumN]
    simp
end
/-! ### n * A n = sum of K k * A (n - k) -/
def dfc (A K : Nat → Int) (n : Nat) : Int := (n : Int) * A n - sumN (fun k => K k * A (n - k)) (n + 1)
def dl (t k : Nat) : Int := if k ≠ 0 ∧ k % t = 0 then t else 0
theorem dl_lt {t k : Nat} (h : k < t) : dl t k = 0 := by
  unfold dl
  by_cases c : k = 0
  · rw [if_neg (by simp [c])]
  · rw [if_neg]
    rintro ⟨_, h2⟩
    rw [Nat.mod_eq_of_lt h] at h2
    exact c h2
theorem dl_add {t k : Nat} (ht : 0 < t) : dl t (t + k) = dl t k + if k = 0 then (t : Int) else 0 := by
  unfold dl
  rw [Nat.add_mod_left]
  by_cases c : k = 0
  · subst c
    rw [if_pos ⟨by omega, Nat.zero_mod _⟩, if_neg (by simp), if_pos rfl]; omega
  · rw [if_neg c]
    by_cases d : k % t = 0
    · rw [if_pos ⟨by omega, d⟩, if_pos ⟨c, d⟩]; omega
    · rw [if_neg (fun h => d h.2), if_neg (fun h => d h.2)]; omega
theorem dfc_congr {A B K L : Nat → Int} {n : Nat} (hA : ∀ i, i ≤ n → A i = B i) (hK : ∀ i, i ≤ n → K i = L i) : dfc A K n = dfc B L n := by
  unfold dfc
  rw [hA n (Nat.le_refl _), sumN_congr (G := fun k => L k * B (n - k)) (n + 1) fun i hi => by rw [hK i (by omega), hA (n - i) (by omega)]]
/-- one factor more -/
theorem dfc_ws (c : Nat) (A K : Nat → Int) (n : Nat) : dfc (wS c A) (fun k => K k + dl (c + 1) k) n = dfc A K n + if c + 1 ≤ n then dfc (wS c A) (fun k => K k + dl (c + 1) k) (n - (c + 1)) else 0 := by
  by_cases h : c + 1 ≤ n
  · rw [if_pos h]
    unfold dfc
    have e1 : sumN (fun k => (K k + dl (c + 1) k) * wS c A (n - k)) (n + 1) = sumN (fun k => K k * wS c A (n - k)) (n + 1) + sumN (fun k => dl (c + 1) k * wS c A (n - k)) (n + 1) := by
      rw [← sumN_add]
      exact sumN_congr _ fun i _ => Int.add_mul _ _ _
    have e1' : sumN (fun k => (K k + dl (c + 1) k) * wS c A (n - (c + 1) - k)) (n - (c + 1) + 1) = sumN (fun k => K k * wS c A (n - (c + 1) - k)) (n - (c + 1) + 1) + sumN (fun k => dl (c + 1) k * wS c A (n - (c + 1) - k)) (n - (c + 1) + 1) := by
      rw [← sumN_add]
      exact sumN_congr _ fun i _ => Int.add_mul _ _ _
    -- the known part
    have e2 : sumN (fun k => K k * wS c A (n - k)) (n + 1) = sumN (fun k => K k * A (n - k)) (n + 1) + sumN (fun k => K k * wS c A (n - (c + 1) - k)) (n - (c + 1) + 1) := by
      have hs : ∀ F, sumN F (n + 1) = sumN F (n - (c + 1) + 1) + sumN (fun i => F (n - (c + 1) + 1 + i)) (c + 1) := fun F => by
        have q := sumN_split (F := F) (n := n - (c + 1) + 1) (c + 1)
        rw [← q]; congr 1; omega
      rw [hs, hs]
      have a : sumN (fun k => K k * wS c A (n - k)) (n - (c + 1) + 1) = sumN (fun k => K k * A (n - k)) (n - (c + 1) + 1) + sumN (fun k => K k * wS c A (n - (c + 1) - k)) (n - (c + 1) + 1) := by
        rw [← sumN_add]
        apply sumN_congr
        intro i hi
        rw [wS_ge (by omega : c + 1 ≤ n - i), Int.mul_add, show n - i - (c + 1) = n - (c + 1) - i by omega]
      have b : sumN (fun i => K (n - (c + 1) + 1 + i) * wS c A (n - (n - (c + 1) + 1 + i))) (c + 1) = sumN (fun i => K (n - (c + 1) + 1 + i) * A (n - (n - (c + 1) + 1 + i))) (c + 1) := by
        apply sumN_congr
        intro i hi
        rw [wS_lt (by omega)]
      rw [a, b]; omega
    -- the new part
    have e3 : sumN (fun k => dl (c + 1) k * wS c A (n - k)) (n + 1) = sumN (fun k => dl (c + 1) k * wS c A (n - (c + 1) - k)) (n - (c + 1) + 1) + ((c + 1 : Nat) : Int) * wS c A (n - (c + 1)) := by
      have hs : ∀ F, sumN F (n + 1) = sumN F (c + 1) + sumN (fun i => F (c + 1 + i)) (n - (c + 1) + 1) := fun F => by
        have q := sumN_split (F := F) (n := c + 1) (n - (c + 1) + 1)
        rw [← q]; congr 1; omega
      rw [hs]
      rw [sumN_zero (n := c + 1) fun i hi => by rw [dl_lt hi, Int.zero_mul], Int.zero_add]
      have a : sumN (fun i => dl (c + 1) (c + 1 + i) * wS c A (n - (c + 1 + i))) (n - (c + 1) + 1) = sumN (fun k => dl (c + 1) k * wS c A (n - (c + 1) - k)) (n - (c + 1) + 1) + sumN (fun k => (if k = 0 then ((c + 1 : Nat) : Int) else 0) * wS c A (n - (c + 1) - k)) (n - (c + 1) + 1) := by
        rw [← sumN_add]
        apply sumN_congr
        intro i hi
        rw [dl_add (by omega), Int.add_mul, show n - (c + 1 + i) = n - (c + 1) - i by omega]
      rw [a, sumN_front (n := n - (c + 1)) (F := fun k => (if k = 0 then ((c + 1 : Nat) : Int) else 0) * wS c A (n - (c + 1) - k))]
      rw [sumN_zero (n := n - (c + 1)) fun i hi => by rw [if_neg (by omega), Int.zero_mul], if_pos rfl]
      simp only [Nat.sub_zero]
      omega
    rw [e1, e2, e3, e1', wS_ge h]
    have e4 : (n : Int) * (A n + wS c A (n - (c + 1))) = (n : Int) * A n + ((n - (c + 1) : Nat) : Int) * wS c A (n - (c + 1)) + ((c + 1 : Nat) : Int) * wS c A (n - (c + 1)) := by
      rw [Int.mul_add, Int.add_assoc, ← Int.add_mul]
      congr 2
      omega
    rw [e4]
    omega
  · rw [if_neg h, Int.add_zero]
    exact dfc_congr (fun i hi => wS_lt (by omega)) (fun i hi => by rw [dl_lt (by omega), Int.add_zero])
/-- with one size more the rule stays -/
theorem dfc_up {c : Nat} {A K : Nat → Int} {m : Nat} (h : ∀ n, n ≤ m → dfc A K n = 0) : ∀ n, n ≤ m → dfc (wS c A) (fun k => K k + dl (c + 1) k) n = 0 := by
  intro n
  induction n using Nat.strongRecOn with
  | ind n ih =>
    intro hn
    rw [dfc_ws, h n hn]
    split
    · rw [ih _ (by omega) (by omega)]; rfl
    · rfl
theorem wS_mD {c : Nat} (f : Nat → Int) : ∀ i, wS c (mD (c + 1) f) i = f i := by
  intro i
  induction i using Nat.strongRecOn with
  | ind i ih =>
    by_cases h : c + 1 ≤ i
    · rw [wS_ge h, ih _ (by omega), mD, if_pos h]; omega
    · rw [wS_lt (by omega), mD, if_neg h]
theorem mD_wS {c : Nat} (f : Nat → Int) (i : Nat) : mD (c + 1) (wS c f) i = f i := by
  unfold mD
  by_cases h : c + 1 ≤ i
  · rw [if_pos h, wS_ge h]; omega
  · rw [if_neg h, wS_lt (by omega)]
/-- with one size less, too -/
theorem dfc_down {c : Nat} {A K : Nat → Int} {m : Nat} (h : ∀ n, n ≤ m → dfc A K n = 0) : ∀ n, n ≤ m → dfc (mD (c + 1) A) (fun k => K k - dl (c + 1) k) n = 0 := by
  intro n hn
  have q := dfc_ws c (mD (c + 1) A) (fun k => K k - dl (c + 1) k) n
  have e : ∀ j, j ≤ n → dfc (wS c (mD (c + 1) A)) (fun k => K k - dl (c + 1) k + dl (c + 1) k) j = 0 := fun j hj => by
    rw [dfc_congr (B := A) (L := K) (fun i _ => wS_mD A i) (fun i _ => by omega)]
    exact h j (by omega)
  rw [e n (Nat.le_refl _)] at q
  split at q
  · rw [e _ (by omega)] at q; omega
  · omega
/-- what begins with 1 and keeps the rule is told by it -/
theorem dfc_next {A K : Nat → Int} {n : Nat} (hn : 0 < n) (h : dfc A K n = 0) (h0 : K 0 = 0) : sumN (fun k => K (k + 1) * A (n - (k + 1))) n / (n : Int) = A n := by
  unfold dfc at h
  rw [sumN_front, h0, Int.zero_mul, Int.zero_add] at h
  have : sumN (fun k => K (k + 1) * A (n - (k + 1))) n = (n : Int) * A n := by omega
  rw [this, Int.mul_ediv_cancel_left _ (by omega)]
/-! ### the loops -/
theorem rng2_nat {a b : Nat} (h1 : a ≤ 1000000000) (h2 : b ≤ 1000000000) : MP.rng2 (a : Int) (b : Int) = some ((List.range (b - a)).map fun (j : Nat) => (a : Int) + (j : Int)) := by
  rw [rng2_ok (by omega) (by omega) (by omega) (by omega)]
  congr 3
  omega
theorem rngD_nat {a b : Nat} (h1 : a ≤ 1000000000) (h2 : b ≤ 1000000000) : MP.rngD ((a : Int) - 1) ((b : Int) - 1) = some ((List.range (a - b)).map fun (j : Nat) => ((a : Int) - 1) - (j : Int)) := by
  unfold MP.rngD
  rw [small_of (by omega) (by omega), small_of (by omega) (by omega)]
  rw [show (((a : Int) - 1) - ((b : Int) - 1)).toNat = a - b by omega]
  rfl
/-- multiples: d, 2 d, .. below a number -/
theorem rngP_nat {d n : Nat} (h0 : 0 < d) (h1 : d ≤ 1000000) (h2 : n ≤ 1000000) : MP.rngP (d : Int) ((n : Int) + 1) (d : Int) = some ((List.range (n / d)).map fun (j : Nat) => ((d * (j + 1) : Nat) : Int)) := by
  unfold MP.rngP
  have m : ∀ i : Int, -1000000 ≤ i → i ≤ 1000001 → mid i = true := fun i a b => by
    unfold mid; rw [decide_eq_true (by omega), decide_eq_true (by omega)]; rfl
  rw [m _ (by omega) (by omega), m _ (by omega) (by omega), decide_eq_true (by omega), decide_eq_true (by omega)]
  have e : stepN (d : Int) ((n : Int) + 1) (d : Int) = n / d := by
    unfold stepN
    by_cases c : d ≤ n
    · rw [if_pos (by omega), show ((n : Int) + 1 - (d : Int) - 1) = ((n - d : Nat) : Int) by omega, ← Int.natCast_ediv]
      have : (n - d) / d + 1 = n / d := by
        rw [Nat.div_eq (n) d, if_pos ⟨h0, c⟩]
      rw [← this]
      generalize (n - d) / d = q
      omega
    · rw [if_neg (by omega), Nat.div_eq_of_lt (by omega)]; rfl
  rw [e]
  simp only [Bool.and_true, if_true, Option.some.injEq]
  apply List.map_congr_left
  intro j _
  rw [Nat.mul_add, Nat.mul_one]
  push_cast
  rw [Int.mul_comm (d : Int) (j : Int)]
  omega
theorem timesS_tab {n : Nat} (h : n ≤ 16777216) : timesS [0] (n : Int) = some (tab (fun _ => 0) n) := by
  rw [timesS_one (by omega) (by omega)]
  rw [show ((n : Int)).toNat = n by omega, tab_rep]
/-- a loop over any list, known turn by turn -/
theorem asc_map {α σ : Type} {b : α → σ → Option σ} {φ : Nat → α} {F : Nat → σ} : ∀ m, (∀ j, j < m → b (φ j) (F j) = some (F (j + 1))) → forN b ((List.range m).map φ) (F 0) = some (F m)
  | 0, _ => rfl
  | m + 1, hb => by
    rw [List.range_succ, List.map_append, forN_append, asc_map m fun j h => hb j (by omega), Option.bind_some]
    show forN b [φ m] _ = _
    rw [forN_one, hb m (by omega)]
theorem enmS_tab (k : Int) : ∀ (n : Nat) (f : Nat → Int), enmS k (tab f n) = (List.range n).map fun (j : Nat) => (k + (j : Int), f j) := by
  intro n
  induction n generalizing k with
  | zero => intro f; rfl
  | succ n ih =>
    intro f
    rw [tab_cons, List.range_succ_eq_map, List.map_cons, List.map_map]
    show (k, f 0) :: enmS (k + 1) (tab (fun i => f (i + 1)) n) = _
    rw [ih]
    congr 1
    · simp
    · apply List.map_congr_left
      intro j _
      simp only [Function.comp]
      congr 1
      push_cast; omega
theorem lcE_tab {α : Type} {F : α → Option Int} {φ : Nat → α} {g : Nat → Int} {n : Nat} (h : ∀ j, j < n → F (φ j) = some (g j)) : lcE F ((List.range n).map φ) = some (tab g n) := by
  have key : ∀ xs : List Nat, (∀ j ∈ xs, j < n) → lcE F (xs.map φ) = some (xs.map g) := by
    intro xs
    induction xs with
    | nil => intro _; rfl
    | cons x xs ih =>
      intro hx
      have a := h x (hx x List.mem_cons_self)
      have b := ih fun j m => hx j (List.mem_cons_of_mem _ m)
      rw [List.map_cons, List.map_cons]
      simp only [lcE, a, b, Option.bind_some]
  exact key _ fun j m => List.mem_range.mp m
theorem rng1_nat {n : Nat} (h : n ≤ 1000000000) : MP.rng1 (n : Int) = some ((List.range n).map fun (k : Nat) => (k : Int)) := rng1_ok h
/-! counts by excesses, as the program works them out -/
abbrev sbdB1 (divisor amount total : Int) (found : List Int) : Option (List Int) := ((atI found (total - 1)).bind fun x2 => (mulS divisor amount).bind fun x3 => some (x2 + x3)).bind fun x4 => (setS found (total - 1) x4).bind fun found => some found
abbrev sbdB0 (amounts : List Int) (x1 : Int × Int) (found : List Int) : Option (List Int) := (rngP x1.1 (((amounts.length : Nat) : Int) + 1) x1.1).bind fun x6 => (forN (fun (total : Int) (s : List Int) => sbdB1 x1.1 x1.2 total s) x6 found).bind fun (x5 : List Int) => some x5
def sbd (amounts : List Int) : Option (List Int) := (timesS ([0] : List Int) ((amounts.length : Nat) : Int)).bind fun found => (forN (fun (x1 : (Int × Int)) (s : List Int) => sbdB0 amounts x1 s) (enmS 1 amounts) found).bind fun (x7 : List Int) => some x7
abbrev cbeB0 (known : List Int) (total : Int) (found : List Int) : Option (List Int) := ((((rng2 1 (total + 1)).bind fun x4 => (lcE (fun (k : Int) => (atI known (k - 1)).bind fun x2 => (atI found (total - k)).bind fun x3 => mulS x2 x3) x4).bind fun ys => lenC ys).bind fun x5 => some (List.sum x5)).bind fun x6 => fdivS x6 total).bind fun x7 => (appS found x7).bind fun found => some found
def cbe (amounts : List Int) : Option (List Int) := ((sbd amounts).bind fun x10 => some (x10, (([1] : List Int), ()))).bind fun x1 => (rng2 1 (((amounts.length : Nat) : Int) + 1)).bind fun x9 => (forN (fun (total : Int) (s : List Int) => cbeB0 x1.1 total s) x9 x1.2.1).bind fun (x8 : List Int) => some x8
/-- for each number the sum of its divisors up to n, each times its amount -/
def exK (e : Nat → Int) (n k : Nat) : Int := sumN (fun i => dl (i + 1) k * e (i + 1)) n
theorem exK_zero (e : Nat → Int) (n : Nat) : exK e n 0 = 0 := sumN_zero fun i _ => by unfold dl; rw [if_neg (by simp), Int.zero_mul]
theorem sbd_in {d n : Nat} (hd : 0 < d) (h1 : d ≤ 1000000) (h2 : n ≤ 1000000) {a : Int} (f : Nat → Int) : forN (fun (total : Int) (s : List Int) => sbdB1 (d : Int) a total s) ((List.range (n / d)).map fun (j : Nat) => ((d * (j + 1) : Nat) : Int)) (tab f n) = some (tab (fun i => f i + dl d (i + 1) * a) n) := by
  have e0 : tab f n = tab (fun i => f i + if i + 1 ≤ d * 0 then dl d (i + 1) * a else 0) n := tab_congr fun i _ => by rw [Nat.mul_zero, if_neg (by omega), Int.add_zero]
  rw [e0, asc_map (F := fun j => tab (fun i => f i + if i + 1 ≤ d * j then dl d (i + 1) * a else 0) n) (n / d) ?_]
  · congr 1
    apply tab_congr
    intro i hi
    by_cases c : i + 1 ≤ d * (n / d)
    · rw [if_pos c]
    · rw [if_neg c]
      have : dl d (i + 1) = 0 := by
        unfold dl
        rw [if_neg]
        rintro ⟨_, h⟩
        obtain ⟨q, hq⟩ := Nat.dvd_of_mod_eq_zero h
        have h3 : q ≤ n / d := by
          rw [Nat.le_div_iff_mul_le hd, Nat.mul_comm]; omega
        have := Nat.mul_le_mul_left d h3
        omega
      rw [this, Int.zero_mul]
  · intro j hj
    have hp : d * (j + 1) ≤ n := by
      have := Nat.mul_le_mul_left d (show j + 1 ≤ n / d by omega)
      have := Nat.mul_div_le n d
      omega
    have hq : 0 < d * (j + 1) := Nat.mul_pos hd (by omega)
    unfold sbdB1
    rw [atI_tab' (k := d * (j + 1) - 1) (by omega) (by omega), Option.bind_some, mulS_l (by omega) (by omega), Option.bind_some, Option.bind_some, setS_tab' (k := d * (j + 1) - 1) (by omega) (by omega), Option.bind_some]
    congr 1
    apply tab_congr
    intro i hi
    have hm : d * j < d * (j + 1) := by rw [Nat.mul_succ]; omega
    by_cases c : i = d * (j + 1) - 1
    · subst c
      rw [if_pos rfl, if_neg (by omega), if_pos (by omega)]
      have : dl d (d * (j + 1) - 1 + 1) = d := by
        rw [show d * (j + 1) - 1 + 1 = d * (j + 1) by omega]
        unfold dl
        rw [if_pos ⟨by omega, Nat.mul_mod_right _ _⟩]
      rw [this]; omega
    · rw [if_neg c]
      congr 1
      by_cases c1 : i + 1 ≤ d * j
      · rw [if_pos c1, if_pos (by omega)]
      · rw [if_neg c1]
        by_cases c2 : i + 1 ≤ d * (j + 1)
        · rw [if_pos c2]
          have : dl d (i + 1) = 0 := by
            unfold dl
            rw [if_neg]
            rintro ⟨_, h⟩
            obtain ⟨q, hq⟩ := Nat.dvd_of_mod_eq_zero h
            have a1 : j < q := Nat.lt_of_mul_lt_mul_left (a := d) (by omega)
            have a2 : q < j + 1 := Nat.lt_of_mul_lt_mul_left (a := d) (by omega)
            omega
          rw [this, Int.zero_mul]
        · rw [if_neg c2]
theorem sbd_ok {n : Nat} (hn : n ≤ 1000) (e : Nat → Int) : sbd (tab (fun i => e (i + 1)) n) = some (tab (fun i => exK e n (i + 1)) n) := by
  unfold sbd
  rw [tab_len, timesS_tab (by omega), Option.bind_some, enmS_tab]
  have e0 : tab (fun _ => (0 : Int)) n = tab (fun i => exK e 0 (i + 1)) n := rfl
  rw [e0, asc_map (F := fun d => tab (fun i => exK e d (i + 1)) n) n ?_, Option.bind_some]
  intro j hj
  show sbdB0 _ (1 + (j : Int), e (j + 1)) _ = _
  unfold sbdB0
  rw [tab_len]
  simp only
  rw [show (1 : Int) + (j : Int) = ((j + 1 : Nat) : Int) by omega, rngP_nat (by omega) (by omega) (by omega), Option.bind_some, sbd_in (by omega) (by omega) (by omega), Option.bind_some]
  rfl
theorem dl_bound (t k : Nat) : 0 ≤ dl t k ∧ dl t k ≤ t := by
  unfold dl; split <;> omega
theorem sumN_bound {F : Nat → Int} {B : Int} (hB : 0 ≤ B) : ∀ n, (∀ i, i < n → -B ≤ F i ∧ F i ≤ B) → -((n : Int) * B) ≤ sumN F n ∧ sumN F n ≤ (n : Int) * B
  | 0, _ => by simp [sumN]
  | n + 1, h => by
    have a := sumN_bound hB n fun i hi => h i (by omega)
    have b := h n (by omega)
    rw [sumN, show ((n + 1 : Nat) : Int) * B = (n : Int) * B + B by push_cast; rw [Int.add_mul, Int.one_mul]]
    omega
theorem exK_bound {e : Nat → Int} {n : Nat} (hn : n ≤ 1000) (he : ∀ i, i ≤ n → -1000 ≤ e i ∧ e i ≤ 1000) (k : Nat) : -1000000000000 ≤ exK e n k ∧ exK e n k ≤ 1000000000000 := by
  have := sumN_bound (F := fun i => dl (i + 1) k * e (i + 1)) (B := 1000000) (by decide) n fun i hi => by
    obtain ⟨d1, d2⟩ := dl_bound (i + 1) k
    obtain ⟨e1, e2⟩ := he (i + 1) (by omega)
    have d3 : dl (i + 1) k ≤ 1000 := by omega
    generalize dl (i + 1) k = x at *
    generalize e (i + 1) = y at *
    have p1 : x * y ≤ x * 1000 := Int.mul_le_mul_of_nonneg_left e2 d1
    have p2 : x * (-1000) ≤ x * y := Int.mul_le_mul_of_nonneg_left e1 d1
    omega
  unfold exK
  have hm : (n : Int) * 1000000 ≤ 1000 * 1000000 := Int.mul_le_mul_of_nonneg_right (by omega) (by decide)
  omega
/-- the counts that keep the rule are the ones that are told -/
theorem cbe_ok {n : Nat} (hn : n ≤ 1000) {e A : Nat → Int} (he : ∀ i, i ≤ n → -1000 ≤ e i ∧ e i ≤ 1000) (h0 : A 0 = 1) (hA : ∀ m, m ≤ n → dfc A (exK e n) m = 0) : cbe (tab (fun i => e (i + 1)) n) = some (tab A (n + 1)) := by
  unfold cbe
  rw [sbd_ok hn, Option.bind_some, Option.bind_some, tab_len]
  simp only
  rw [show ((n : Int) + 1) = ((n + 1 : Nat) : Int) by omega, show (1 : Int) = ((1 : Nat) : Int) from rfl, rng2_nat (by omega) (by omega), Option.bind_some]
  have e0 : ([1] : List Int) = tab A 1 := by simp [tab, h0]
  have key := asc_app (f := A) (b := fun (total : Int) (s : List Int) => cbeB0 (tab (fun i => exK e n (i + 1)) n) total s) (a := 1) (n + 1 - 1) fun t ht1 ht2 => by
    unfold cbeB0
    rw [show ((t : Int) + 1) = ((t + 1 : Nat) : Int) by omega, show (1 : Int) = ((1 : Nat) : Int) from rfl, rng2_nat (by omega) (by omega), Option.bind_some, show t + 1 - 1 = t by omega]
    rw [lcE_tab (g := fun k => exK e n (k + 1) * A (t - (k + 1))) fun j hj => by
      rw [atI_tab' (k := j) (by omega) (by omega), Option.bind_some, atI_tab' (k := t - (j + 1)) (by omega) (by omega), Option.bind_some]
      have := exK_bound hn he (j + 1)
      exact mulS_l this.1 this.2]
    rw [Option.bind_some, lenC_ok (by rw [tab_len]; omega), Option.bind_some, Option.bind_some, sum_tab, fdivS_ok (by omega) (by omega), Option.bind_some, dfc_next (by omega) (hA t (by omega)) (exK_zero e n)]
    rw [appS_ok (by rw [tab_len]; omega), Option.bind_some, tab_succ]
  have e0' : ([((1 : Nat) : Int)] : List Int) = tab A 1 := e0
  rw [e0', key, Option.bind_some, show 1 + (n + 1 - 1) = n + 1 by omega]
/-! all sizes up to a number: all rows -/
def allW : Nat → Nat → Int
  | 0 => one
  | m + 1 => wS m (allW m)
theorem allW_zero : ∀ m, allW m 0 = 1
  | 0 => rfl
  | m + 1 => by rw [allW, wS_lt (by omega), allW_zero m]
theorem allW_up {m i : Nat} (h : i ≤ m) : ∀ d, allW (m + d) i = allW m i
  | 0 => rfl
  | d + 1 => by rw [← Nat.add_assoc, allW, wS_lt (by omega), allW_up h d]
theorem allW_dfc (n : Nat) : ∀ m, dfc (allW m) (fun k => sumN (fun i => dl (i + 1) k) m) n = 0
  | 0 => by
    unfold dfc
    rw [sumN_zero fun i _ => by simp [sumN]]
    simp only [allW, one]
    split
    · rename_i h; subst h; rfl
    · simp
  | m + 1 => by
    have := dfc_up (c := m) (m := n) (fun j _ => allW_dfc j m) n (Nat.le_refl _)
    exact this
end MP
namespace MP
open PySem PySem.Spec L2
/-! all rows to 400, in great numbers -/
noncomputable def pW : Nat := Nat.pow (Nat.pow 2 64) 401
noncomputable def kW : Nat := mask 63 401
noncomputable def xW (c : Nat) : Nat := Nat.rec 1 (fun c ih => wsK 63 401 0 pW c ih) c
noncomputable def chkW (m : Nat) : Bool := Nat.rec true (fun c ih => and ih (okZ 63 kW pW c (xW c) (xW (c + 1)))) m
theorem chkW_400 : chkW 400 = true := by decide +kernel
theorem chkW_rp : ∀ m, chkW m = true → Rp 63 (allW m) 401 (xW m)
  | 0, _ => Rp.one (by decide)
  | m + 1, h => by
    obtain ⟨h1, h2⟩ := (Bool.and_eq_true _ _).mp (show and (chkW m) (okZ 63 kW pW m (xW m) (xW (m + 1))) = true from h)
    exact okZ_ok (chkW_rp m h1) rfl rfl h2
theorem allW_rp : Rp 63 (allW 400) 401 (xW 400) := chkW_rp 400 chkW_400
theorem allW_bd {m i : Nat} (h : i ≤ m) (hm : m ≤ 400) : 0 ≤ allW m i ∧ allW m i < 9223372036854775808 := by
  have e := allW_up h (400 - m)
  rw [show m + (400 - m) = 400 by omega] at e
  rw [← e]
  obtain ⟨a, b⟩ := allW_rp i (by omega)
  rw [a]
  have : (2 : Nat) ^ 63 = 9223372036854775808 := by decide
  omega
/-! many factors, told in a list -/
def wsAll : List Nat → (Nat → Int) → Nat → Int
  | [], f => f
  | c :: cs, f => wsAll cs (wS c f)
def mdAll : List Nat → (Nat → Int) → Nat → Int
  | [], f => f
  | c :: cs, f => mdAll cs (mD (c + 1) f)
theorem wsAll_app : ∀ (cs ds : List Nat) (f : Nat → Int), wsAll (cs ++ ds) f = wsAll ds (wsAll cs f)
  | [], _, _ => rfl
  | c :: cs, ds, f => wsAll_app cs ds (wS c f)
theorem mdAll_app : ∀ (cs ds : List Nat) (f : Nat → Int), mdAll (cs ++ ds) f = mdAll ds (mdAll cs f)
  | [], _, _ => rfl
  | c :: cs, ds, f => mdAll_app cs ds (mD (c + 1) f)
theorem mD_congr {c : Nat} {f g : Nat → Int} {m : Nat} (e : ∀ i, i < m → f i = g i) : ∀ i, i < m → mD c f i = mD c g i := by
  intro i hi
  unfold mD
  rw [e i hi, e (i - c) (by omega)]
theorem mdAll_congr : ∀ (cs : List Nat) {f g : Nat → Int} {m : Nat}, (∀ i, i < m → f i = g i) → ∀ i, i < m → mdAll cs f i = mdAll cs g i
  | [], _, _, _, e => e
  | c :: cs, _, _, _, e => mdAll_congr cs (mD_congr e)
theorem mdAll_wsAll : ∀ (cs : List Nat) (g : Nat → Int), mdAll cs (wsAll cs.reverse g) = g
  | [], _ => rfl
  | c :: cs, g => by
    rw [List.reverse_cons, wsAll_app]
    show mdAll cs (mD (c + 1) (wS c (wsAll cs.reverse g))) = g
    rw [show mD (c + 1) (wS c (wsAll cs.reverse g)) = wsAll cs.reverse g from funext fun i => mD_wS _ i]
    exact mdAll_wsAll cs g
/-- the factors put to a great number, each step checked -/
noncomputable def chainZ (v n M P : Nat) (k : Nat → Bool) (cs : List Nat) : Nat → Bool := List.rec (motive := fun _ => Nat → Bool) (fun Z => k Z) (fun c _ ih Z => and (okZ v M P c Z (wsK v n M P c Z)) (ih (wsK v n M P c Z))) cs
theorem chainZ_ok {v n M P : Nat} (hM : M = mask v n) (hP : P = (2 ^ (v + 1)) ^ n) {k : Nat → Bool} : ∀ (cs : List Nat) {f : Nat → Int} {Z : Nat}, Rp v f n Z → chainZ v n M P k cs Z = true → ∃ Y, k Y = true ∧ Rp v (wsAll cs f) n Y
  | [], f, Z, r, h => ⟨Z, h, r⟩
  | c :: cs, f, Z, r, h => by
    obtain ⟨h1, h2⟩ := (Bool.and_eq_true _ _).mp (show and (okZ v M P c Z (wsK v n M P c Z)) (chainZ v n M P k cs (wsK v n M P c Z)) = true from h)
    exact chainZ_ok hM hP cs (okZ_ok r hM hP h1) h2
end MP

/-! ## EngLr.lean -/
set_option Elab.async false
set_option linter.all false
set_option maxRecDepth 100000
namespace MP
open PySem PySem.Spec L2
/-! ### the laws' own list of all rows of a number, size by size -/
def FN (n : Nat) : Nat → List (List Nat × Nat)
  | 0 => [([], 0)]
  | s + 1 => (FN n s).flatMap fun p => (List.range ((n - p.2) / (s + 1) + 1)).map fun m => (List.replicate m (s + 1) ++ p.1, p.2 + (s + 1) * m)
def ntp (p : List Nat × Nat) : List Int × Int := (nts p.1, (p.2 : Int))
theorem FN_le (n : Nat) : ∀ s, ∀ p ∈ FN n s, p.2 ≤ n ∧ p.1.length ≤ p.2
  | 0, p, h => by simp [FN] at h; subst h; simp
  | s + 1, p, h => by
    rw [FN, List.mem_flatMap] at h
    obtain ⟨q, hq, h⟩ := h
    obtain ⟨m, hm, rfl⟩ := List.mem_map.mp h
    rw [List.mem_range] at hm
    obtain ⟨a, b⟩ := FN_le n s q hq
    have h1 : (s + 1) * m ≤ n - q.2 := by
      have := Nat.mul_div_le (n - q.2) (s + 1)
      have := Nat.mul_le_mul_left (s + 1) (show m ≤ (n - q.2) / (s + 1) by omega)
      omega
    have h2 : m ≤ (s + 1) * m := Nat.le_mul_of_pos_left _ (by omega)
    simp only [List.length_append, List.length_replicate]
    omega
def lenOk (n : Nat) : Bool := (List.range (n + 1)).all fun s => Nat.ble (FN n s).length 2000
def rowOk (n : Nat) : Bool := (sortS (ltL ltI) (fun r => !List.isEmpty r) (((FN n n).filter fun p => p.2 == n).map fun p => nts p.1) == some ((rowsN (n + 1) n n).map nts))
theorem lenOk_15 : ((List.range 15).all lenOk) = true := by decide +kernel
theorem rowOk_15 : ((List.range 15).all rowOk) = true := by decide +kernel
theorem timesTS_one {x : Int} {k : Nat} (h : k ≤ 1000) : timesTS [x] (k : Int) = some (List.replicate k x) := by
  unfold timesTS
  rw [decide_eq_true (show (-1000 : Int) ≤ (k : Int) by omega), decide_eq_true (show (k : Int) ≤ 1000 by omega)]
  show some (List.replicate ((k : Int)).toNat [x]).flatten = _
  rw [show ((k : Int)).toNat = k by omega]
  congr 1
  induction k with
  | zero => rfl
  | succ k ih => rw [List.replicate_succ, List.flatten_cons, ih (by omega)]; rfl
abbrev lrB2 (size : Int) (row : List Int) (total : Int) (many : Int) (longer : List (List Int × Int)) : Option (List (List Int × Int)) := (((timesTS ([size] : List Int) many).bind fun x4 => catS x4 row).bind fun x6 => ((mulS size many).bind fun x5 => some (total + x5)).bind fun x7 => some (x6, x7)).bind fun x8 => (appS longer x8).bind fun longer => some longer
abbrev lrB1 (number : Int) (size : Int) (x1 : (List Int × Int)) (longer : List (List Int × Int)) : Option (List (List Int × Int)) := (((fdivS (number - x1.2) size).bind fun x2 => some (x2 + 1)).bind fun x3 => rng1 x3).bind fun x10 => (forN (fun (many : Int) (s : List (List Int × Int)) => lrB2 size x1.1 x1.2 many s) x10 longer).bind fun (x9 : List (List Int × Int)) => some x9
abbrev lrB0 (number : Int) (size : Int) (found : List (List Int × Int)) : Option (List (List Int × Int)) := (let longer : List (List Int × Int) := ([] : List (List Int × Int)); (forN (fun (x1 : (List Int × Int)) (s : List (List Int × Int)) => lrB1 number size x1 s) found longer).bind fun (x11 : List (List Int × Int)) => some x11)
def lawRows (number : Int) : Option (List (List Int)) := (let found : List (List Int × Int) := ([(([] : List Int), 0)] : List (List Int × Int)); (rng2 1 (number + 1)).bind fun x16 => (forN (fun (size : Int) (s : List (List Int × Int)) => lrB0 number size s) x16 found).bind fun (x12 : List (List Int × Int)) => ((lenC (List.map (fun (x13 : (List Int × Int)) => x13.1) (List.filter (fun (x13 : (List Int × Int)) => (x13.2 == number)) x12))).bind fun x14 => sortS (ltL ltI) (fun r => !List.isEmpty r) x14).bind fun x15 => some x15)
theorem nts_app (a b : List Nat) : nts (a ++ b) = nts a ++ nts b := List.map_append ..
theorem nts_rep (k x : Nat) : nts (List.replicate k x) = List.replicate k (x : Int) := List.map_replicate ..
theorem lrB1_ok {n c : Nat} (hn : n ≤ 14) (hc : c + 1 ≤ n) {p : List Nat × Nat} (h1 : p.2 ≤ n) (h2 : p.1.length ≤ p.2) {L : List (List Int × Int)} (hL : L.length + ((List.range ((n - p.2) / (c + 1) + 1)).map fun m => ntp (List.replicate m (c + 1) ++ p.1, p.2 + (c + 1) * m)).length ≤ 16777216) :
    lrB1 (n : Int) ((c + 1 : Nat) : Int) (ntp p) L = some (L ++ (List.range ((n - p.2) / (c + 1) + 1)).map fun m => ntp (List.replicate m (c + 1) ++ p.1, p.2 + (c + 1) * m)) := by
  have hd : (n - p.2) / (c + 1) ≤ 14 := Nat.le_trans (Nat.div_le_self _ _) (by omega)
  show (((fdivS ((n : Int) - (p.2 : Int)) ((c + 1 : Nat) : Int)).bind fun x2 => some (x2 + 1)).bind fun x3 => rng1 x3).bind (fun x10 => (forN (fun (many : Int) (s : List (List Int × Int)) => lrB2 ((c + 1 : Nat) : Int) (nts p.1) (p.2 : Int) many s) x10 L).bind fun x9 => some x9) = _
  rw [show ((n : Int) - (p.2 : Int)) = ((n - p.2 : Nat) : Int) by omega, fdivS_ok (by omega) (by omega), Option.bind_some, Option.bind_some, ← Int.natCast_ediv, show (((n - p.2) / (c + 1) : Nat) : Int) + 1 = (((n - p.2) / (c + 1) + 1 : Nat) : Int) by omega, rng1_ok (by omega), Option.bind_some]
  rw [forN_app (g := fun (m : Int) => ntp (List.replicate m.toNat (c + 1) ++ p.1, p.2 + (c + 1) * m.toNat)), Option.bind_some, List.map_map]
  · rfl
  · intro x hx s hs
    obtain ⟨m, hm, rfl⟩ := List.mem_map.mp hx
    rw [List.mem_range] at hm
    show lrB2 _ _ _ _ _ = _
    unfold lrB2
    rw [timesTS_one (by omega), Option.bind_some, catS_ok (by simp; omega), Option.bind_some, mulS_l (by omega) (by omega), Option.bind_some, Option.bind_some, Option.bind_some, appS_ok hs, Option.bind_some]
    congr 2
    unfold ntp
    simp only [Int.toNat_natCast, nts_app, nts_rep]
    push_cast
    rfl
  · simpa using hL
def lrG (n m : Nat) (p : List Int × Int) : List (List Int × Int) := (List.range ((n - p.2.toNat) / (m + 1) + 1)).map fun k => (List.replicate k ((m + 1 : Nat) : Int) ++ p.1, p.2 + (((m + 1) * k : Nat) : Int))
theorem lrG_eq (n m : Nat) (p : List Nat × Nat) : lrG n m (ntp p) = ((List.range ((n - p.2) / (m + 1) + 1)).map fun k => (List.replicate k (m + 1) ++ p.1, p.2 + (m + 1) * k)).map ntp := by
  unfold lrG
  rw [List.map_map]
  apply List.map_congr_left
  intro k _
  simp only [Function.comp, ntp, nts_app, nts_rep]
  push_cast
  rfl
theorem lawRows_ok {n : Nat} (hn : n ≤ 14) : lawRows (n : Int) = some ((rowsN (n + 1) n n).map nts) := by
  have l1 := List.all_eq_true.mp lenOk_15 n (List.mem_range.mpr (by omega))
  have r1 := List.all_eq_true.mp rowOk_15 n (List.mem_range.mpr (by omega))
  have len : ∀ s, s ≤ n → (FN n s).length ≤ 2000 := fun s hs => Nat.le_of_ble_eq_true (List.all_eq_true.mp l1 s (List.mem_range.mpr (by omega)))
  unfold lawRows
  have q : MP.rng2 1 ((n : Int) + 1) = some ((List.range n).map fun (j : Nat) => ((j + 1 : Nat) : Int)) := by
    rw [rng2_ok (by omega) (by omega) (by omega) (by omega), show ((n : Int) + 1 - 1).toNat = n by omega]
    congr 1
    apply List.map_congr_left
    intro j _
    omega
  have loop : forN (fun (size : Int) (s : List (List Int × Int)) => lrB0 (n : Int) size s) ((List.range n).map fun (j : Nat) => ((j + 1 : Nat) : Int)) ((FN n 0).map ntp) = some ((FN n n).map ntp) := by
    have key : ∀ m, m ≤ n → forN (fun (size : Int) (s : List (List Int × Int)) => lrB0 (n : Int) size s) ((List.range m).map fun (j : Nat) => ((j + 1 : Nat) : Int)) ((FN n 0).map ntp) = some ((FN n m).map ntp) := by
      intro m
      induction m with
      | zero => intro _; rfl
      | succ m ih =>
        intro hm
        rw [List.range_succ, List.map_append, forN_append, ih (by omega), Option.bind_some]
        show forN _ [((m + 1 : Nat) : Int)] _ = _
        rw [forN_one]
        show (forN (fun (x1 : (List Int × Int)) (s : List (List Int × Int)) => lrB1 (n : Int) ((m + 1 : Nat) : Int) x1 s) ((FN n m).map ntp) []).bind (fun (x11 : List (List Int × Int)) => some x11) = _
        have e : (FN n (m + 1)).map ntp = ((FN n m).map ntp).flatMap (lrG n m) := by
          show List.map ntp ((FN n m).flatMap _) = _
          rw [List.map_flatMap, List.flatMap_map]
          apply flatMap_same
          intro p hp
          exact (lrG_eq n m p).symm
        rw [forN_acc (G := lrG n m), Option.bind_some, ← e, List.nil_append]
        · intro x hx s hs
          obtain ⟨p, hp, rfl⟩ := List.mem_map.mp hx
          obtain ⟨a, b⟩ := FN_le n m p hp
          rw [lrG_eq, List.map_map] at hs ⊢
          exact lrB1_ok (n := n) (c := m) hn hm a b (L := s) hs
        · rw [← e, List.length_map, List.length_nil]
          have := len (m + 1) hm
          omega
    exact key n (Nat.le_refl _)
  rw [q, Option.bind_some]
  have z : ([(([] : List Int), 0)] : List (List Int × Int)) = (FN n 0).map ntp := rfl
  show (forN (fun (size : Int) (s : List (List Int × Int)) => lrB0 (n : Int) size s) ((List.range n).map fun (j : Nat) => ((j + 1 : Nat) : Int)) [([], 0)]).bind _ = _
  rw [z, loop, Option.bind_some]
  have fe : List.map (fun (x13 : (List Int × Int)) => x13.1) (List.filter (fun (x13 : (List Int × Int)) => (x13.2 == (n : Int))) ((FN n n).map ntp)) = ((FN n n).filter fun p => p.2 == n).map fun p => nts p.1 := by
    have fc : (FN n n).filter ((fun (x13 : (List Int × Int)) => (x13.2 == (n : Int))) ∘ ntp) = (FN n n).filter (fun p => p.2 == n) := by
      apply List.filter_congr
      intro p _
      simp only [Function.comp, ntp]
      by_cases c : p.2 = n
      · subst c; simp
      · rw [beq_false_of_ne c, beq_false_of_ne (by omega)]
    rw [List.filter_map, List.map_map, fc]
    exact List.map_congr_left (fun p _ => rfl)
  rw [fe, lenC_ok (by
    rw [List.length_map]
    have := List.length_filter_le (fun p => p.2 == n) (FN n n)
    have := len n (Nat.le_refl _)
    omega), Option.bind_some, eq_of_beq r1, Option.bind_some]
end MP

/-! ## EngRe.lean -/
set_option Elab.async false
set_option linter.all false
set_option maxRecDepth 100000
namespace MP
open PySem PySem.Spec L2
/-! ### repr of tables; more of lists -/
def lowI (x : Int) : Prop := x.natAbs.log2 < 1920
theorem lowI_shw {x : Int} (h : lowI x) : shwD (.int x) = true := blt_t h
theorem lowI_of {x : Int} (h0 : -9223372036854775808 ≤ x) (h1 : x ≤ 9223372036854775808) : lowI x := by
  unfold lowI
  by_cases c : x.natAbs = 0
  · rw [c]; decide
  · have := (Nat.log2_lt c (k := 64)).mpr (by omega)
    omega
theorem depI (xs : List Int) : depDs (xs.map D.int) = 0 := by
  induction xs with
  | nil => rfl
  | cons x xs ih => rw [List.map_cons]; show Nat.max 0 (depDs (xs.map D.int)) = 0; rw [ih]; rfl
theorem szI (xs : List Int) : szDs (xs.map D.int) = 1924 * xs.length := by
  induction xs with
  | nil => rfl
  | cons x xs ih => rw [List.map_cons, List.length_cons]; show 1922 + 2 + szDs (xs.map D.int) = _; rw [ih]; omega
theorem shwI {xs : List Int} (h : ∀ x ∈ xs, lowI x) : shwDs (xs.map D.int) = true := by
  induction xs with
  | nil => rfl
  | cons x xs ih =>
    rw [List.map_cons]
    show (shwD (.int x) && shwDs (xs.map D.int)) = true
    rw [lowI_shw (h x List.mem_cons_self), ih fun y hy => h y (List.mem_cons_of_mem _ hy)]
    rfl
theorem repS_of {d : D} (h1 : repD d = true) (h2 : depD d ≤ 60) (h3 : shwD d = true) (h4 : szD d ≤ 16777216) : repS d = some d := by
  unfold repS
  rw [h1, h3, show Nat.ble (depD d) 60 = true from ble_t h2, show Nat.ble (szD d) line = true from ble_t h4]
  rfl
theorem repI {x : Int} (h : lowI x) : repS (D.int x) = some (D.int x) := repS_of rfl (show (0 : Nat) ≤ 60 by decide) (lowI_shw h) (show (1922 : Nat) ≤ 16777216 by decide)
theorem repT {xs : List Int} (h : ∀ x ∈ xs, lowI x) (hl : xs.length ≤ 4000) : repS (eT D.int xs) = some (eT D.int xs) := by
  refine repS_of rfl ?_ (shwI h) ?_
  · show depDs (xs.map D.int) + 1 ≤ 60; rw [depI]; decide
  · show szDs (xs.map D.int) + 3 ≤ 16777216; rw [szI]; omega
theorem repL {xs : List Int} (h : ∀ x ∈ xs, lowI x) (hl : xs.length ≤ 4000) : repS (eF D.int xs) = some (eF D.int xs) := by
  refine repS_of rfl ?_ (shwI h) ?_
  · show depDs (xs.map D.int) + 1 ≤ 60; rw [depI]; decide
  · show szDs (xs.map D.int) + 3 ≤ 16777216; rw [szI]; omega
theorem repF2 {xs ys : List Int} (h : ∀ x ∈ xs, lowI x) (h' : ∀ x ∈ ys, lowI x) (hl : xs.length ≤ 2000) (hl' : ys.length ≤ 2000) : repS (eF (eT D.int) [xs, ys]) = some (eF (eT D.int) [xs, ys]) := by
  refine repS_of rfl ?_ ?_ ?_
  · show Nat.max (depDs (xs.map D.int) + 1) (Nat.max (depDs (ys.map D.int) + 1) 0) + 1 ≤ 60; rw [depI, depI]; decide
  · show (shwDs (xs.map D.int) && (shwDs (ys.map D.int) && true)) = true; rw [shwI h, shwI h']; rfl
  · show szDs (xs.map D.int) + 3 + 2 + (szDs (ys.map D.int) + 3 + 2 + 0) + 3 ≤ 16777216; rw [szI, szI]; omega
theorem tab_low {f : Nat → Int} {n : Nat} (h : ∀ i, i < n → lowI (f i)) : ∀ x ∈ tab f n, lowI x := by
  intro x hx
  obtain ⟨i, hi, rfl⟩ := List.mem_map.mp hx
  exact h i (List.mem_range.mp hi)
theorem eqD_self' (d : D) : eqD d d = true := (eqD_iff d d).mpr rfl
theorem tab_rev {f : Nat → Int} {n : Nat} : (tab f n).reverse = tab (fun i => f (n - 1 - i)) n := by
  apply tab_ext (by simp [tab_len])
  intro i c
  rw [List.getElem_reverse, tab_get, tab_len]
theorem cutD_tab {f : Nat → Int} {n k : Nat} (h : k ≤ n) : cutD (tab f n) none (some (k : Int)) = tab f k := by
  unfold cutD
  have e : cutAt (tab f n).length (tab f n).length (some (k : Int)) = k := by
    show HT.sIx _ _ (some (k : Int)) = k
    rw [HT.sIx_nat, tab_len]; omega
  have e0 : cutAt (tab f n).length 0 none = 0 := rfl
  rw [e, e0, List.drop_zero, Nat.sub_zero, tab_take _ h]
theorem atI_rng {α : Type} {φ : Nat → α} {n k : Nat} (h : k < n) : atI ((List.range n).map φ) (k : Int) = some (φ k) := by
  rw [atI_nat (by simpa using h)]; simp
end MP

/-! ## EngGb.lean -/
set_option Elab.async false
set_option linter.all false
set_option maxRecDepth 100000
namespace MP
open PySem PySem.Spec L2
/-! ### rows in a box: the two rules, the quotients, both ends, all together -/
def sh (k : Nat) (f : Nat → Int) (n : Nat) : Int := if k ≤ n then f (n - k) else 0
theorem sh_sh (a b : Nat) (f : Nat → Int) : sh a (sh b f) = sh (a + b) f := by
  funext n
  unfold sh
  by_cases h : a + b ≤ n
  · rw [if_pos (by omega), if_pos (by omega), if_pos h]; congr 1; omega
  · rw [if_neg h]
    by_cases h2 : a ≤ n
    · rw [if_pos h2, if_neg (by omega)]
    · rw [if_neg h2]
theorem sh_add (a : Nat) (f g : Nat → Int) : sh a (fun n => f n + g n) = fun n => sh a f n + sh a g n := by
  funext n
  unfold sh
  by_cases h : a ≤ n
  · simp [h]
  · simp [h]
def FB : Nat → Nat → Nat → Int
  | 0 => fun _ => one
  | l + 1 => fun g => Nat.rec one (fun g ih n => ih n + sh (g + 1) (FB l (g + 1)) n) g
theorem FB_l (g : Nat) : FB 0 g = one := rfl
theorem FB_g : ∀ l, FB l 0 = one
  | 0 => rfl
  | _ + 1 => rfl
theorem FB_r (l g : Nat) : FB (l + 1) (g + 1) = fun n => FB (l + 1) g n + sh (g + 1) (FB l (g + 1)) n := rfl
theorem FB_d : ∀ l g, FB (l + 1) (g + 1) = fun n => FB l (g + 1) n + sh (l + 1) (FB (l + 1) g) n
  | 0, 0 => rfl
  | 0, g + 1 => by
    rw [FB_r]
    conv => rhs; rw [FB_r, sh_add, sh_sh]
    funext n
    have e := congrFun (FB_d 0 g) n
    rw [FB_l, FB_l] at *
    simp only [show 0 + 1 + (g + 1) = g + 1 + 1 by omega, Nat.zero_add] at *
    omega
  | l + 1, 0 => by
    rw [FB_r]
    conv => lhs; rw [FB_d l 0, sh_add, sh_sh]
    funext n
    have e := congrFun (FB_r l 0) n
    rw [FB_g, FB_g] at *
    simp only [show 0 + 1 + (l + 1) = l + 1 + 1 by omega, Nat.zero_add] at *
    omega
  | l + 1, g + 1 => by
    have e1 := FB_d (l + 1) g
    have e2 := FB_d l (g + 1)
    funext n
    have b1 := congrFun (FB_r (l + 1) (g + 1)) n
    have b2 := congrFun (FB_r l (g + 1)) n
    have a1 : sh (g + 1 + 1) (FB (l + 1) (g + 1 + 1)) n = sh (g + 1 + 1) (FB l (g + 1 + 1)) n + sh (g + 1 + 1 + (l + 1)) (FB (l + 1) (g + 1)) n := by rw [e2, sh_add, sh_sh]
    have a2 : sh (l + 1 + 1) (FB (l + 1 + 1) (g + 1)) n = sh (l + 1 + 1) (FB (l + 1 + 1) g) n + sh (l + 1 + 1 + (g + 1)) (FB (l + 1) (g + 1)) n := by rw [FB_r (l + 1) g, sh_add, sh_sh]
    have a3 := congrFun e1 n
    rw [show g + 1 + 1 + (l + 1) = l + 1 + 1 + (g + 1) by omega] at a1
    omega
theorem FB_r' (l g n : Nat) : FB (l + 1) (g + 1) n = FB (l + 1) g n + sh (g + 1) (FB l (g + 1)) n := rfl
theorem FB_d' (l g n : Nat) : FB (l + 1) (g + 1) n = FB l (g + 1) n + sh (l + 1) (FB (l + 1) g) n := congrFun (FB_d l g) n
theorem mD_sh (c : Nat) (f : Nat → Int) (n : Nat) : mD c f n = f n - sh c f n := by
  unfold mD sh
  by_cases h : c ≤ n
  · rw [if_pos h, if_pos h]
  · rw [if_neg h, if_neg h]; omega
theorem FB_q : ∀ l g n, mD (g + 1) (FB l (g + 1)) n = mD (l + (g + 1)) (FB l g) n
  | 0, g, n => by rw [Nat.zero_add]; rfl
  | l + 1, g, n => by
    rw [mD_sh, mD_sh]
    have a1 : sh (g + 1) (FB (l + 1) (g + 1)) n = sh (g + 1) (FB l (g + 1)) n + sh (g + 1 + (l + 1)) (FB (l + 1) g) n := by rw [FB_d l g, sh_add, sh_sh]
    have a2 := FB_r' l g n
    have a3 := FB_d' l g n
    rw [show g + 1 + (l + 1) = l + 1 + (g + 1) by omega] at a1
    omega
theorem FB_ws (l g i : Nat) : wS g (mD (l + (g + 1)) (FB l g)) i = FB l (g + 1) i := by
  rw [wS_congr (i + 1) (fun j _ => (FB_q l g j).symm) i (by omega), wS_mD]
theorem FB_out : ∀ l g n, l * g < n → FB l g n = 0
  | 0, g, n, h => by rw [FB_l]; unfold one; rw [if_neg (by omega)]
  | l + 1, g, n, h => by
    induction g generalizing n with
    | zero => rw [FB_g]; unfold one; rw [if_neg (by omega)]
    | succ g ih =>
      have e : (l + 1) * (g + 1) = (l + 1) * g + (l + 1) := Nat.mul_succ ..
      have e2 : (l + 1) * (g + 1) = l * (g + 1) + (g + 1) := Nat.succ_mul ..
      rw [FB_r]
      show FB (l + 1) g n + sh (g + 1) (FB l (g + 1)) n = 0
      rw [ih n (by omega), show sh (g + 1) (FB l (g + 1)) n = FB l (g + 1) (n - (g + 1)) from if_pos (by omega), FB_out l (g + 1) _ (by omega)]
      rfl
theorem FB_pal : ∀ l g n, n ≤ l * g → FB l g (l * g - n) = FB l g n
  | 0, g, n, h => by rw [show n = 0 by omega]; simp
  | l + 1, g, n, h => by
    induction g generalizing n with
    | zero => rw [show n = 0 by omega]; simp
    | succ g ih =>
      have e : (l + 1) * (g + 1) = (l + 1) * g + (l + 1) := Nat.mul_succ ..
      have e2 : (l + 1) * (g + 1) = l * (g + 1) + (g + 1) := Nat.succ_mul ..
      have x1 : FB (l + 1) g ((l + 1) * (g + 1) - n) = sh (l + 1) (FB (l + 1) g) n := by
        unfold sh
        by_cases c : l + 1 ≤ n
        · rw [if_pos c, ← ih (n - (l + 1)) (by omega)]; congr 1; omega
        · rw [if_neg c, FB_out _ _ _ (by omega)]
      have x2 : sh (g + 1) (FB l (g + 1)) ((l + 1) * (g + 1) - n) = FB l (g + 1) n := by
        unfold sh
        by_cases c : n ≤ l * (g + 1)
        · rw [if_pos (by omega), ← FB_pal l (g + 1) n c]; congr 1; omega
        · rw [if_neg (by omega), FB_out _ _ _ (by omega)]
      have a1 := FB_r' l g ((l + 1) * (g + 1) - n)
      have a2 := FB_d' l g n
      rw [a1, a2, x1, x2]
      omega
/-- as many as there are choices -/
def CH : Nat → Nat → Nat
  | 0 => fun _ => 1
  | l + 1 => fun g => Nat.rec 1 (fun g ih => ih + CH l (g + 1)) g
theorem CH_r (l g : Nat) : CH (l + 1) (g + 1) = CH (l + 1) g + CH l (g + 1) := rfl
theorem CH_g : ∀ l, CH l 0 = 1
  | 0 => rfl
  | _ + 1 => rfl
theorem CH_step : ∀ k m, (k + 1) * CH (k + 1) m = (m + 1) * CH k (m + 1)
  | 0, 0 => rfl
  | 0, m + 1 => by
    have := CH_step 0 m
    rw [CH_r]
    show (0 + 1) * (CH (0 + 1) m + 1) = (m + 1 + 1) * 1
    have : CH (0 + 1) m * 1 = (m + 1) * 1 := by rw [Nat.mul_comm]; exact this
    omega
  | k + 1, 0 => by
    have := CH_step k 0
    rw [CH_r, CH_g, CH_g] at *
    have e : (k + 1) * 1 = (0 + 1) * CH k (0 + 1) := this
    omega
  | k + 1, m + 1 => by
    have a := CH_step (k + 1) m
    have b := CH_step k (m + 1)
    rw [CH_r (k + 1) m, CH_r k (m + 1), Nat.mul_add, Nat.mul_add, a]
    have c : (k + 1 + 1) * CH (k + 1) (m + 1) = (k + 1) * CH (k + 1) (m + 1) + CH (k + 1) (m + 1) := Nat.succ_mul ..
    have d : (m + 1 + 1) * CH (k + 1) (m + 1) = (m + 1) * CH (k + 1) (m + 1) + CH (k + 1) (m + 1) := Nat.succ_mul ..
    omega
theorem sumN_sh (k : Nat) (f : Nat → Int) (n : Nat) : sumN (sh k f) (k + n) = sumN f n := by
  rw [sumN_split, show sumN (sh k f) k = 0 from sumN_zero (fun i hi => by unfold sh; rw [if_neg (by omega)]), Int.zero_add]
  exact sumN_congr n fun i _ => by unfold sh; rw [if_pos (by omega)]; congr 1; omega
theorem sumN_out {f : Nat → Int} {m n : Nat} (h : ∀ i, m ≤ i → f i = 0) (c : m ≤ n) : sumN f n = sumN f m := by
  obtain ⟨d, rfl⟩ := Nat.le.dest c
  rw [sumN_split, show sumN (fun i => f (m + i)) d = 0 from sumN_zero fun i _ => h _ (by omega), Int.add_zero]
theorem FB_sum : ∀ l g, sumN (FB l g) (l * g + 1) = CH l g
  | 0, g => by rw [Nat.zero_mul]; rfl
  | l + 1, g => by
    induction g with
    | zero => rw [Nat.mul_zero]; rfl
    | succ g ih =>
      have e : (l + 1) * (g + 1) = (l + 1) * g + (l + 1) := Nat.mul_succ ..
      have e2 : (l + 1) * (g + 1) = l * (g + 1) + (g + 1) := Nat.succ_mul ..
      rw [FB_r, sumN_add, CH_r, sumN_out (m := (l + 1) * g + 1) (fun i hi => FB_out _ _ _ (by omega)) (by omega), ih]
      rw [show (l + 1) * (g + 1) + 1 = (g + 1) + (l * (g + 1) + 1) by omega, sumN_sh, FB_sum l (g + 1)]
      omega
theorem FB_pos : ∀ l g n, 0 ≤ FB l g n
  | 0, g, n => by rw [FB_l]; unfold one; split <;> decide
  | l + 1, g, n => by
    induction g generalizing n with
    | zero => rw [FB_g]; unfold one; split <;> decide
    | succ g ih =>
      have a := ih n
      have b : 0 ≤ sh (g + 1) (FB l (g + 1)) n := by
        unfold sh
        by_cases c : g + 1 ≤ n
        · rw [if_pos c]; exact FB_pos l (g + 1) _
        · rw [if_neg c]; decide
      rw [FB_r]
      show 0 ≤ FB (l + 1) g n + sh (g + 1) (FB l (g + 1)) n
      omega
theorem CH_le : ∀ l g, CH l g ≤ 2 ^ (l + g)
  | 0, g => Nat.one_le_two_pow
  | l + 1, g => by
    induction g with
    | zero => rw [CH_g]; exact Nat.one_le_two_pow
    | succ g ih =>
      have := CH_le l (g + 1)
      rw [CH_r, show l + 1 + (g + 1) = (l + (g + 1)) + 1 by omega, Nat.pow_succ]
      rw [show l + 1 + g = l + (g + 1) by omega] at ih
      omega
theorem FB_le {l g : Nat} (h : l + g ≤ 60) (n : Nat) : 0 ≤ FB l g n ∧ FB l g n ≤ 9223372036854775808 := by
  refine ⟨FB_pos l g n, ?_⟩
  have key : FB l g n ≤ 2 ^ (l + g) := by
    by_cases c : n < l * g + 1
    · have a := FB_sum l g
      obtain ⟨d, hd⟩ := Nat.le.dest (show n + 1 ≤ l * g + 1 from c)
      rw [← hd, sumN_split] at a
      have p : ∀ (f : Nat → Int), (∀ i, 0 ≤ f i) → ∀ m, 0 ≤ sumN f m := fun f hf m => by
        induction m with
        | zero => exact Int.le_refl 0
        | succ m ih => have := hf m; show 0 ≤ sumN f m + f m; omega
      have p1 := p (FB l g) (FB_pos l g) n
      have p2 := p (fun i => FB l g (n + 1 + i)) (fun i => FB_pos l g _) d
      have p3 : sumN (FB l g) (n + 1) = sumN (FB l g) n + FB l g n := rfl
      have p4 := CH_le l g
      have p5 : ((2 ^ (l + g) : Nat) : Int) = (2 : Int) ^ (l + g) := by simp
      omega
    · rw [FB_out _ _ _ (by omega)]
      have : (0 : Int) < 2 ^ (l + g) := Int.pow_pos (by decide)
      omega
  have : (2 : Int) ^ (l + g) ≤ 2 ^ 63 := by
    have q : (2 : Nat) ^ (l + g) ≤ 2 ^ 63 := Nat.pow_le_pow_right (by decide) (by omega)
    exact_mod_cast q
  have e : (2 : Int) ^ 63 = 9223372036854775808 := by decide
  omega
end MP

/-! ## EngDu.lean -/
set_option Elab.async false
set_option linter.all false
set_option maxRecDepth 100000
namespace MP
open PySem PySem.Spec L2
/-! ### series: steps in any order, products, squares -/
theorem wS_f (c : Nat) (f : Nat → Int) : wS c (mD (c + 1) f) = f := funext (wS_mD f)
theorem mD_f (c : Nat) (f : Nat → Int) : mD (c + 1) (wS c f) = f := funext (mD_wS f)
theorem mD_e (c : Nat) (f : Nat → Int) : mD c f = fun n => f n - sh c f n := funext (mD_sh c f)
theorem sh_sub (a : Nat) (f g : Nat → Int) : sh a (fun n => f n - g n) = fun n => sh a f n - sh a g n := by
  funext n
  unfold sh
  by_cases h : a ≤ n
  · simp [h]
  · simp [h]
theorem mD_sh_c (a c : Nat) (f : Nat → Int) : mD c (sh a f) = sh a (mD c f) := by
  rw [mD_e, mD_e, sh_sub, sh_sh, sh_sh, Nat.add_comm]
theorem mD_mD (c d : Nat) (f : Nat → Int) : mD c (mD d f) = mD d (mD c f) := by
  rw [mD_e c (mD d f), mD_e d f, sh_sub, sh_sh, mD_e d (mD c f), mD_e c f, sh_sub, sh_sh, Nat.add_comm d c]
  funext n
  simp only []
  omega
theorem mD_add (c : Nat) (f g : Nat → Int) : mD c (fun n => f n + g n) = fun n => mD c f n + mD c g n := by
  rw [mD_e, mD_e, mD_e, sh_add]
  funext n
  simp only []
  omega
theorem wS_sh (a c : Nat) (f : Nat → Int) : wS c (sh a f) = sh a (wS c f) := by
  have : sh a f = mD (c + 1) (sh a (wS c f)) := by rw [mD_sh_c, mD_f]
  conv => lhs; rw [this, wS_f]
theorem wS_mD_c (c d : Nat) (f : Nat → Int) : wS c (mD d f) = mD d (wS c f) := by
  have : mD d f = mD (c + 1) (mD d (wS c f)) := by rw [mD_mD, mD_f]
  conv => lhs; rw [this, wS_f]
theorem wS_wS (c d : Nat) (f : Nat → Int) : wS c (wS d f) = wS d (wS c f) := by
  have : wS d f = mD (c + 1) (wS d (wS c f)) := by rw [← wS_mD_c, mD_f]
  conv => lhs; rw [this, wS_f]
theorem wS_add (c : Nat) (f g : Nat → Int) : wS c (fun n => f n + g n) = fun n => wS c f n + wS c g n := by
  have : (fun n => f n + g n) = mD (c + 1) (fun n => wS c f n + wS c g n) := by rw [mD_add, mD_f, mD_f]
  conv => lhs; rw [this, wS_f]
theorem wS_pos {c : Nat} {f : Nat → Int} (h : ∀ i, 0 ≤ f i) (n : Nat) : 0 ≤ wS c f n := by
  induction n using Nat.strongRecOn with
  | ind n ih =>
    by_cases q : c + 1 ≤ n
    · rw [wS_ge q]; have := ih (n - (c + 1)) (by omega); have := h n; omega
    · rw [wS_lt (by omega)]; exact h n
theorem wS_none {c : Nat} {f : Nat → Int} {m : Nat} (h : ∀ i, i ≤ m → f i = 0) (n : Nat) (hn : n ≤ m) : wS c f n = 0 := by
  induction n using Nat.strongRecOn with
  | ind n ih =>
    by_cases q : c + 1 ≤ n
    · rw [wS_ge q, ih (n - (c + 1)) (by omega) (by omega), h n hn]; rfl
    · rw [wS_lt (by omega)]; exact h n hn
/-- all sizes to a number, on some series -/
def Wc : Nat → (Nat → Int) → Nat → Int
  | 0, f => f
  | k + 1, f => wS k (Wc k f)
theorem Wc_one : ∀ k, Wc k one = allW k
  | 0 => rfl
  | k + 1 => by rw [Wc, Wc_one k]; rfl
theorem Wc_wS (c : Nat) (f : Nat → Int) : ∀ k, Wc k (wS c f) = wS c (Wc k f)
  | 0 => rfl
  | k + 1 => by rw [Wc, Wc_wS c f k, wS_wS]; rfl
theorem Wc_sh (a : Nat) (f : Nat → Int) : ∀ k, Wc k (sh a f) = sh a (Wc k f)
  | 0 => rfl
  | k + 1 => by rw [Wc, Wc_sh a f k, wS_sh]; rfl
theorem Wc_mD (c : Nat) (f : Nat → Int) : ∀ k, Wc k (mD c f) = mD c (Wc k f)
  | 0 => rfl
  | k + 1 => by rw [Wc, Wc_mD c f k, wS_mD_c]; rfl
theorem Wc_add (f g : Nat → Int) : ∀ k, Wc k (fun n => f n + g n) = fun n => Wc k f n + Wc k g n
  | 0 => rfl
  | k + 1 => by rw [Wc, Wc_add f g k, wS_add]; rfl
theorem Wc_none {f : Nat → Int} {m : Nat} (h : ∀ i, i ≤ m → f i = 0) : ∀ k n, n ≤ m → Wc k f n = 0
  | 0 => h
  | k + 1 => fun n hn => wS_none (Wc_none h k) n hn
theorem Wc_congr {f g : Nat → Int} {m : Nat} (h : ∀ i, i < m → f i = g i) : ∀ k i, i < m → Wc k f i = Wc k g i
  | 0 => h
  | k + 1 => wS_congr m (Wc_congr h k)
theorem Wc_sum (F : Nat → Nat → Int) (k : Nat) : ∀ M, Wc k (fun n => sumN (fun j => F j n) M) = fun n => sumN (fun j => Wc k (F j) n) M
  | 0 => by
    funext n
    exact Wc_none (m := n) (fun _ _ => rfl) k n (Nat.le_refl _)
  | M + 1 => by
    show Wc k (fun n => sumN (fun j => F j n) M + F M n) = _
    rw [Wc_add, Wc_sum F k M]
    rfl
/-- with two of each size to a number -/
def Dq : Nat → Nat → Int
  | 0 => one
  | s + 1 => wS s (wS s (Dq s))
theorem Dq_eq : ∀ s, Dq s = Wc s (allW s)
  | 0 => rfl
  | s + 1 => by rw [Dq, Dq_eq s, Wc, allW, Wc_wS]
theorem one_pos (i : Nat) : 0 ≤ one i := by unfold one; split <;> decide
theorem allW_pos : ∀ m i, 0 ≤ allW m i
  | 0 => one_pos
  | m + 1 => wS_pos (allW_pos m)
theorem Dq_pos : ∀ s i, 0 ≤ Dq s i
  | 0 => one_pos
  | s + 1 => wS_pos (wS_pos (Dq_pos s))
theorem sh_pos {a : Nat} {f : Nat → Int} (h : ∀ i, 0 ≤ f i) (n : Nat) : 0 ≤ sh a f n := by
  unfold sh; split
  · exact h _
  · decide
theorem allW_next (m n : Nat) : allW (m + 1) n = allW m n + sh (m + 1) (allW (m + 1)) n := by
  unfold sh
  by_cases q : m + 1 ≤ n
  · rw [if_pos q]; conv => lhs; rw [allW, wS_ge q]
    rfl
  · rw [if_neg q, allW, wS_lt (by omega)]; omega
theorem sum_len (n : Nat) : ∀ m, sumN (fun k => sh k (allW k) n) (m + 1) = allW m n
  | 0 => by simp [sumN, sh, allW]
  | m + 1 => by
    show sumN (fun k => sh k (allW k) n) (m + 1) + sh (m + 1) (allW (m + 1)) n = _
    rw [sum_len n m, allW_next m n]
theorem allW_mono (n : Nat) : ∀ m d, allW m n ≤ allW (m + d) n
  | m, 0 => Int.le_refl _
  | m, d + 1 => by
    have a := allW_mono n m d
    have b := sh_pos (a := m + d + 1) (allW_pos (m + d + 1)) n
    rw [← Nat.add_assoc, allW_next]; omega
theorem allW_le {m n : Nat} (hn : n ≤ 400) : 0 ≤ allW m n ∧ allW m n < 9223372036854775808 := by
  refine ⟨allW_pos m n, ?_⟩
  by_cases c : n ≤ m
  · obtain ⟨d, rfl⟩ := Nat.le.dest c
    rw [allW_up (Nat.le_refl n)]
    exact (allW_bd (Nat.le_refl n) hn).2
  · have a := allW_mono n m (n - m)
    have b := (allW_bd (Nat.le_refl n) hn).2
    rw [show m + (n - m) = n by omega] at a
    omega
/-- rows of just so many parts that are so great, at least -/
def UU (m s : Nat) : Nat → Int := sh (m * s) (allW m)
theorem UU_zero {m s n : Nat} (h : n < m * s) : UU m s n = 0 := if_neg (by omega)
def Vi (s n : Nat) : Int := sumN (fun j => UU (s + j) s n) (n + 1)
theorem Vi_eq {s n M : Nat} (h : ∀ j, M ≤ j → UU (s + j) s n = 0) (hs : 0 < s) : Vi s n = sumN (fun j => UU (s + j) s n) M := by
  unfold Vi
  have z : ∀ j, n + 1 ≤ j → UU (s + j) s n = 0 := fun j hj => UU_zero (by
    have := Nat.le_mul_of_pos_right (s + j) hs
    omega)
  by_cases c : M ≤ n + 1
  · rw [sumN_out (f := fun j => UU (s + j) s n) h c]
  · rw [sumN_out (f := fun j => UU (s + j) s n) (n := M) z (by omega)]
theorem UU_step (m s : Nat) (n : Nat) : UU (m + 1) s n = UU (m + 1) (s + 1) n + sh s (UU m s) n := by
  unfold UU
  have e : sh ((m + 1) * s) (allW (m + 1)) = fun n => sh ((m + 1) * s) (allW m) n + sh ((m + 1) * s + (m + 1)) (allW (m + 1)) n := by
    conv => lhs; rw [show allW (m + 1) = fun n => allW m n + sh (m + 1) (allW (m + 1)) n from funext (allW_next m), sh_add, sh_sh]
  rw [e, sh_sh, show (m + 1) * (s + 1) = (m + 1) * s + (m + 1) from Nat.mul_succ .., show s + m * s = (m + 1) * s by rw [Nat.succ_mul]; omega]
  simp only []
  omega
theorem Vi_step {s : Nat} (hs : 0 < s) (n : Nat) : Vi s n = Vi (s + 1) n + (UU s s n + sh s (Vi s) n) := by
  have z : ∀ t, 0 < t → ∀ i, i ≤ n → ∀ j, n + 1 ≤ j → UU (t + j) t i = 0 := fun t ht i hi j hj => UU_zero (by
    have := Nat.le_mul_of_pos_right (t + j) ht
    omega)
  rw [Vi_eq (M := n + 2) (fun j hj => z s hs n (Nat.le_refl _) j (by omega)) hs, sumN_front]
  have e : sumN (fun i => UU (s + (i + 1)) s n) (n + 1) = sumN (fun i => UU (s + 1 + i) (s + 1) n) (n + 1) + sumN (fun i => sh s (UU (s + i) s) n) (n + 1) := by
    rw [← sumN_add]
    exact sumN_congr _ fun i _ => by rw [← Nat.add_assoc, UU_step, show s + 1 + i = s + i + 1 by omega]
  have e2 : sumN (fun i => sh s (UU (s + i) s) n) (n + 1) = sh s (Vi s) n := by
    unfold sh
    by_cases c : s ≤ n
    · simp only [if_pos c]
      rw [Vi_eq (M := n + 1) (fun j hj => z s hs (n - s) (by omega) j hj) hs]
    · simp only [if_neg c]
      exact sumN_zero fun _ _ => rfl
  rw [e, e2]
  show UU s s n + _ = _
  rw [show sumN (fun i => UU (s + 1 + i) (s + 1) n) (n + 1) = Vi (s + 1) n from rfl]
  omega
/-- rows with at least so many parts that are so great -/
def RR (c : Nat) : Nat → Int := Wc c (Vi (c + 1))
theorem RR_step (c n : Nat) : RR c n = RR (c + 1) n + sh ((c + 1) * (c + 1)) (Dq (c + 1)) n := by
  have e : mD (c + 1) (Vi (c + 1)) = fun n => Vi (c + 1 + 1) n + UU (c + 1) (c + 1) n := by
    funext n
    rw [mD_sh, Vi_step (by omega) n]; omega
  have : RR c = wS c (mD (c + 1) (RR c)) := (wS_f c _).symm
  rw [this]
  unfold RR
  rw [← Wc_mD, e, Wc_add, wS_add]
  show Wc (c + 1) (Vi (c + 1 + 1)) n + Wc (c + 1) (UU (c + 1) (c + 1)) n = _
  unfold UU
  rw [Wc_sh, Dq_eq]
theorem RR_zero {c n : Nat} (h : n < (c + 1) * (c + 1)) : RR c n = 0 := by
  refine Wc_none (m := n) (fun i hi => ?_) c n (Nat.le_refl _)
  exact sumN_zero fun j _ => UU_zero (by
    have := Nat.mul_le_mul_right (c + 1) (show c + 1 ≤ c + 1 + j by omega)
    omega)
theorem RR_first (n : Nat) : RR 0 n = allW n n - one n := by
  have a := sum_len n (n + 1)
  rw [sumN_front] at a
  have b : allW (n + 1) n = allW n n := allW_up (Nat.le_refl n) 1
  have c : RR 0 n = sumN (fun i => sh (i + 1) (allW (i + 1)) n) (n + 1) := by
    show sumN (fun j => UU (0 + 1 + j) (0 + 1) n) (n + 1) = _
    exact sumN_congr _ fun i _ => by unfold UU; rw [Nat.zero_add, Nat.mul_one, Nat.add_comm 1 i]
  have d : sh 0 (allW 0) n = one n := by unfold sh; rw [if_pos (by omega)]; rfl
  rw [c]
  omega
/-- how many rows have which square -/
def SQ (n s : Nat) : Int := sh (s * s) (Dq s) n
theorem SQ_zero (n : Nat) : SQ n 0 = one n := by unfold SQ sh; rw [if_pos (by omega)]; rfl
theorem SQ_sum (n : Nat) : ∀ s, sumN (SQ n) (s + 1) = allW n n - RR s n
  | 0 => by
    show 0 + SQ n 0 = _
    rw [SQ_zero, RR_first]; omega
  | s + 1 => by
    show sumN (SQ n) (s + 1) + SQ n (s + 1) = _
    rw [SQ_sum n s, RR_step s n]
    unfold SQ
    omega
theorem SQ_all {n s : Nat} (h : n < (s + 1) * (s + 1)) : sumN (SQ n) (s + 1) = allW n n := by rw [SQ_sum, RR_zero h]; omega
theorem SQ_pos (n s : Nat) : 0 ≤ SQ n s := sh_pos (Dq_pos s) n
/-! products -/
def conv (f g : Nat → Int) (n : Nat) : Int := sumN (fun i => f i * g (n - i)) (n + 1)
theorem conv_one (f : Nat → Int) : conv f one = f := by
  funext n
  show sumN (fun i => f i * one (n - i)) n + f n * one (n - n) = f n
  rw [sumN_zero fun i hi => by unfold one; rw [if_neg (by omega), Int.mul_zero]]
  rw [Nat.sub_self]; unfold one; rw [if_pos rfl]; omega
theorem sh_zero (f : Nat → Int) : sh 0 f = f := funext fun n => if_pos (Nat.zero_le n)
theorem conv_sh (f g : Nat → Int) (k : Nat) : conv f (sh k g) = sh k (conv f g) := by
  by_cases k0 : k = 0
  · subst k0; rw [sh_zero, sh_zero]
  funext n
  unfold conv
  by_cases c : k ≤ n
  · rw [show sh k (fun n => sumN (fun i => f i * g (n - i)) (n + 1)) n = sumN (fun i => f i * g (n - k - i)) (n - k + 1) from if_pos c]
    rw [sumN_out (f := fun i => f i * sh k g (n - i)) (m := n - k + 1) (n := n + 1) ?_ (by omega)]
    · exact sumN_congr _ fun i hi => by
        unfold sh; rw [if_pos (by omega)]; congr 2; omega
    · intro i hi
      unfold sh
      by_cases d : k ≤ n - i
      · omega
      · rw [if_neg d, Int.mul_zero]
  · rw [show sh k (fun n => sumN (fun i => f i * g (n - i)) (n + 1)) n = 0 from if_neg c]
    exact sumN_zero fun i hi => by unfold sh; rw [if_neg (by omega), Int.mul_zero]
theorem sumN_sub {F G : Nat → Int} : ∀ n, sumN (fun i => F i - G i) n = sumN F n - sumN G n
  | 0 => rfl
  | n + 1 => by
    show sumN (fun i => F i - G i) n + (F n - G n) = sumN F n + F n - (sumN G n + G n)
    rw [sumN_sub n]; omega
theorem conv_mD (f g : Nat → Int) (c : Nat) : conv f (mD c g) = mD c (conv f g) := by
  rw [mD_e, mD_e, ← conv_sh]
  funext n
  unfold conv
  rw [← sumN_sub]
  exact sumN_congr _ fun i _ => by rw [Int.mul_sub]
theorem conv_wS (f g : Nat → Int) (c : Nat) : conv f (wS c g) = wS c (conv f g) := by
  have : conv f g = mD (c + 1) (conv f (wS c g)) := by rw [← conv_mD, mD_f]
  rw [this, wS_f]
theorem conv_allW (f : Nat → Int) : ∀ k, conv f (allW k) = Wc k f
  | 0 => conv_one f
  | k + 1 => by rw [allW, conv_wS, conv_allW f k]; rfl
/-! loops that end by a test -/
theorem whl_asc {σ : Type} {c : σ → Option Bool} {f : σ → Option σ} : ∀ (m : Nat) (F : Nat → σ) (fuel : Nat), m < fuel → (∀ j, j < m → c (F j) = some true ∧ f (F j) = some (F (j + 1))) → c (F m) = some false → whlN c f fuel (F 0) = some (F m)
  | _, _, 0, h, _, _ => absurd h (Nat.not_lt_zero _)
  | 0, F, fuel + 1, _, _, h => by
    show (c (F 0)).bind (fun b => if b then (f (F 0)).bind fun s1 => whlN c f fuel s1 else some (F 0)) = _
    rw [h]; rfl
  | m + 1, F, fuel + 1, hl, h1, h2 => by
    show (c (F 0)).bind (fun b => if b then (f (F 0)).bind fun s1 => whlN c f fuel s1 else some (F 0)) = _
    obtain ⟨a, b⟩ := h1 0 (by omega)
    rw [a, b]
    exact whl_asc m (fun j => F (j + 1)) fuel (by omega) (fun j hj => h1 (j + 1) (by omega)) h2
theorem root : ∀ n : Nat, ∃ s, s * s ≤ n ∧ n < (s + 1) * (s + 1)
  | 0 => ⟨0, by decide, by decide⟩
  | n + 1 => by
    obtain ⟨s, a, b⟩ := root n
    by_cases c : n + 1 < (s + 1) * (s + 1)
    · exact ⟨s, by omega, c⟩
    · refine ⟨s + 1, by omega, ?_⟩
      have : (s + 1 + 1) * (s + 1 + 1) = (s + 1) * (s + 1) + 2 * (s + 1) + 1 := by
        rw [Nat.succ_mul, Nat.mul_succ]; omega
      omega
end MP

/-! ## EngRo.lean -/
set_option Elab.async false
set_option linter.all false
set_option maxRecDepth 100000
namespace MP
open PySem PySem.Spec L2
/-! ### rows of the laws' own: drawn, turned, and what the program holds for a row -/
def l_draw (pot : List Int) (size : Int) : Option (Int × List Int) := ((atI pot 2).bind fun x1 => some (x1 + 1)).bind fun x21 => (setS pot 2 x21).bind fun pot => ((atI pot 0).bind fun x2 => some (decide (0 < x2))).bind fun x20 => if x20 then ((atI pot 0).bind fun x3 => divS x3 size).bind fun x4 => (setS pot 0 x4.1).bind fun pot => some (x4.2, pot) else ((((atI pot 1).bind fun x5 => some x5).bind fun x6 => some (x6 % 30011)).bind fun x7 => some (x7 + 40013)).bind fun by' => ((((((atI pot 1).bind fun x8 => mulS x8 by').bind fun x10 => ((atI pot 2).bind fun x9 => some (60013 * x9)).bind fun x11 => some (x10 + x11)).bind fun x12 => some (x12 + 11)).bind fun x13 => some x13).bind fun x14 => some (x14 % 2147483549)).bind fun x19 => (setS pot 1 x19).bind fun pot => ((((atI pot 1).bind fun x15 => some (x15 / 97)).bind fun x16 => some x16).bind fun x17 => modS x17 size).bind fun x18 => some (x18, pot)
def l_turned (row : List Int) : Option (List Int) := (((((some (!(row == ([] : List Int)))).bind fun x1 => if x1 then atI row 0 else some 0).bind fun x2 => rng1 x2).bind fun x4 => (lcE (fun (k : Int) => (lenC (List.map (fun (part : Int) => part) (List.filter (fun (part : Int) => (decide (k < part))) row))).bind fun x3 => some ((x3.length : Nat) : Int)) x4).bind fun ys => lenC ys).bind fun x5 => some x5).bind fun x6 => some x6
def l_drawn_row_w0 (pot : List Int) (left : Int) (most : Int) (found : List Int) : Option (List Int × Int × Int × List Int) := ((some (1, pot)).bind fun x2 => ((some (x2.2, x2.2)).bind fun x4 => (some ((if left < most then left else most), x2.2)).bind fun x5 => l_draw x5.2 x5.1).bind fun x3 => some ((x2.1 + x3.1), x3.2)).bind fun x6 => (appS found x6.1).bind fun found => some (let x7 : Int × Int × Unit := ((left - x6.1), (x6.1, ())); (x6.2, x7.1, x7.2.1, found))
def l_drawn_row (pot : List Int) (total : Int) : Option (List Int × List Int) := (let x1 : Int × Int × List Int × Unit := (total, (total, (([] : List Int), ()))); (whlF (fun (s : List Int × Int × Int × List Int) => some (decide (0 < s.2.1))) (fun (s : List Int × Int × Int × List Int) => l_drawn_row_w0 s.1 s.2.1 s.2.2.1 s.2.2.2) (pot, x1.1, x1.2.1, x1.2.2.1)).bind fun (x9 : List Int × Int × Int × List Int) => (((some (x9.1, x9.1)).bind fun x10 => (some (2, x9.1)).bind fun x11 => l_draw x11.2 x11.1).bind fun x12 => (some (0, x12.2)).bind fun x13 => some ((x12.1 == x13.1), x13.2)).bind fun x14 => if x14.1 then some (x9.2.2.2, x14.2) else (l_turned x9.2.2.2).bind fun z => some (z, x14.2))
def p_is_integer (value : Int) : Option (Bool) := some (true && (!false))
def p_is_within_bounds (value : Int) (least : Int) (most : Int) : Option (Bool) := ((p_is_integer value).bind fun x1 => if x1 then some ((decide (least ≤ value)) && (decide (value ≤ most))) else some false).bind fun x2 => some x2
def p_is_falling (parts : List Int) (step : Int) : Option (Bool) := (((rng1 (((parts.length : Nat) : Int) - 1)).bind fun x4 => (lcE (fun (at' : Int) => (atI parts at').bind fun x2 => ((atI parts (at' + 1)).bind fun x1 => some (x1 + step)).bind fun x3 => some (decide (x3 ≤ x2))) x4).bind fun ys => lenC ys).bind fun x5 => some (List.all x5 id)).bind fun x6 => some x6
def p_is_row (value : List Int) : Option (Bool) := ((some (!true)).bind fun x3 => if x3 then some true else (((lcE (fun (part : Int) => p_is_within_bounds part 1 600) value).bind fun ys => lenC ys).bind fun x1 => some (List.all x1 id)).bind fun x2 => some (!x2)).bind fun x6 => if x6 then some false else ((p_is_falling value 0).bind fun x4 => if x4 then some (decide ((List.sum value) ≤ 600)) else some false).bind fun x5 => some x5
def p_check_row (value : List Int) : Option (Unit) := ((p_is_row value).bind fun x1 => some (!x1)).bind fun x2 => if x2 then none else some ()
def p_check_within (value : Int) (least : Int) (most : Int) : Option (Unit) := ((p_is_within_bounds value least most).bind fun x1 => some (!x1)).bind fun x2 => if x2 then none else some ()
theorem l_draw_ok {p : List Int} (hp : Pot p) {m : Int} (hm : 0 < m) (hm2 : m < 1073741824) : Sat (l_draw p m) fun r => 0 ≤ r.1 ∧ r.1 < m ∧ Pot r.2 := by
  obtain ⟨a, b, c, rfl⟩ := hp
  have e1 : mulS b (b % 30011 + 40013) = some (b * (b % 30011 + 40013)) := mulS_r (by omega) (by omega)
  simp only [l_draw, at3_0, at3_1, at3_2, set3_0, set3_1, set3_2, Option.bind_some, divS_ok hm hm2, e1, modS_ok hm]
  by_cases h : 0 < a
  · rw [decide_eq_true h]
    exact .ret ⟨Int.emod_nonneg _ (by omega), Int.emod_lt_of_pos _ hm, _, _, _, rfl⟩
  · rw [decide_eq_false h]
    exact .ret ⟨Int.emod_nonneg _ (by omega), Int.emod_lt_of_pos _ hm, _, _, _, rfl⟩
/-- a row: parts from 1, none greater than the one ahead of it -/
structure RowT (f : Nat → Int) (n : Nat) (T : Int) : Prop where
  pos : ∀ i, i < n → 1 ≤ f i
  fall : ∀ i, i + 1 < n → f (i + 1) ≤ f i
  sum : sumN f n = T
def Row (xs : List Int) (T : Int) : Prop := ∃ f n, xs = tab f n ∧ RowT f n T
theorem RowT.len {f : Nat → Int} {n : Nat} {T : Int} (h : RowT f n T) : (n : Int) ≤ T := by
  have : ∀ m, m ≤ n → (m : Int) ≤ sumN f m := fun m hm => by
    induction m with
    | zero => exact Int.le_refl 0
    | succ m ih => have a := ih (by omega); have b := h.pos m (by omega); show ((m + 1 : Nat) : Int) ≤ sumN f m + f m; omega
  have := this n (Nat.le_refl n)
  rw [h.sum] at this; exact this
theorem RowT.anti {f : Nat → Int} {n : Nat} {T : Int} (h : RowT f n T) {i : Nat} : ∀ j, i ≤ j → j < n → f j ≤ f i
  | 0, h1, _ => by rw [show i = 0 by omega]; exact Int.le_refl _
  | j + 1, h1, h2 => by
    by_cases c : i = j + 1
    · rw [c]; exact Int.le_refl _
    · have := h.anti (i := i) j (by omega) (by omega); have := h.fall j h2; omega
theorem sumN_nn {f : Nat → Int} : ∀ n, (∀ i, i < n → 0 ≤ f i) → 0 ≤ sumN f n
  | 0, _ => Int.le_refl 0
  | n + 1, h => by have a := sumN_nn n fun i hi => h i (by omega); have := h n (by omega); show 0 ≤ sumN f n + f n; omega
theorem sumN_mem {f : Nat → Int} {n i : Nat} (h : ∀ i, i < n → 0 ≤ f i) (hi : i < n) : f i ≤ sumN f n := by
  obtain ⟨d, rfl⟩ := Nat.le.dest (show i + 1 ≤ n from hi)
  rw [sumN_split]
  have a := sumN_nn (f := f) i fun j hj => h j (by omega)
  have b := sumN_nn (f := fun j => f (i + 1 + j)) d fun j hj => h _ (by omega)
  show f i ≤ sumN f i + f i + _
  omega
theorem RowT.le {f : Nat → Int} {n : Nat} {T : Int} (h : RowT f n T) {i : Nat} (hi : i < n) : f i ≤ T := by
  rw [← h.sum]; exact sumN_mem (fun j hj => by have := h.pos j hj; omega) hi
theorem rng1_pred (n : Nat) (h : n ≤ 1000000) : MP.rng1 ((n : Int) - 1) = some ((List.range (n - 1)).map fun (k : Nat) => (k : Int)) := by
  cases n with
  | zero => rfl
  | succ n => rw [show (((n + 1 : Nat) : Int) - 1) = (n : Int) by omega, rng1_nat (by omega)]; rfl
theorem all_true {α : Type} (xs : List α) : List.all (xs.map fun _ => true) id = true := by
  induction xs with
  | nil => rfl
  | cons x xs ih => simp
theorem p_within {x a b : Int} (h1 : a ≤ x) (h2 : x ≤ b) : p_is_within_bounds x a b = some true := by
  unfold p_is_within_bounds p_is_integer
  simp only [Option.bind_some, Bool.true_and, Bool.not_false, if_true]
  rw [decide_eq_true h1, decide_eq_true h2]
  rfl
theorem p_check {x a b : Int} (h1 : a ≤ x) (h2 : x ≤ b) : p_check_within x a b = some () := by
  unfold p_check_within
  rw [p_within h1 h2]
  rfl
theorem p_falling {f : Nat → Int} {n : Nat} {T : Int} (h : RowT f n T) (hn : n ≤ 600) : p_is_falling (tab f n) 0 = some true := by
  unfold p_is_falling
  rw [tab_len, rng1_pred n (by omega), Option.bind_some, lcE_map (g := fun _ => true), Option.bind_some, lenC_ok (by simp; omega), Option.bind_some, all_true]
  · rfl
  · intro x hx
    obtain ⟨k, hk, rfl⟩ := List.mem_map.mp hx
    rw [List.mem_range] at hk
    have := h.fall k (by omega)
    rw [atI_tab (by omega), Option.bind_some, atI_tab' (k := k + 1) (by omega) (by omega), Option.bind_some, Option.bind_some, decide_eq_true (by omega)]
theorem p_row {xs : List Int} {T : Int} (h : Row xs T) (hT : T ≤ 600) : p_is_row xs = some true := by
  obtain ⟨f, n, rfl, h⟩ := h
  have hn := h.len
  unfold p_is_row
  simp only [Option.bind_some, Bool.not_true, Bool.false_eq_true, if_false]
  rw [lcE_map (g := fun _ => true), Option.bind_some, lenC_ok (by rw [List.length_map, tab_len]; omega), Option.bind_some, all_true, p_falling h (by omega)]
  · simp only [Option.bind_some, Bool.not_true, Bool.false_eq_true, if_false, if_true]
    rw [sum_tab, h.sum, decide_eq_true hT]
  · intro x hx
    obtain ⟨i, hi, rfl⟩ := List.mem_map.mp hx
    rw [List.mem_range] at hi
    have := h.le hi
    exact p_within (h.pos i hi) (by omega)
theorem p_checked {xs : List Int} {T : Int} (h : Row xs T) (hT : T ≤ 600) : p_check_row xs = some () := by
  unfold p_check_row
  rw [p_row h hT]; rfl
/-! turned rows -/
def ind (f : Nat → Int) (k : Int) (i : Nat) : Int := if k < f i then 1 else 0
def cnj (f : Nat → Int) (n : Nat) (k : Nat) : Int := sumN (ind f (k : Int)) n
theorem filter_len (f : Nat → Int) (k : Int) : ∀ n, (((List.filter (fun (p : Int) => decide (k < p)) (tab f n)).length : Nat) : Int) = sumN (ind f k) n
  | 0 => rfl
  | n + 1 => by
    rw [tab_succ, List.filter_append, List.length_append]
    have := filter_len f k n
    have e : sumN (ind f k) (n + 1) = sumN (ind f k) n + (if k < f n then 1 else 0) := rfl
    rw [e, ← this]
    by_cases c : k < f n
    · rw [List.filter_cons_of_pos (by simpa using c), if_pos c]
      simp only [List.filter_nil, List.length_singleton]
      omega
    · rw [List.filter_cons_of_neg (by simpa using c), if_neg c]
      simp only [List.filter_nil, List.length_nil]
      omega
theorem sumN_comm (F : Nat → Nat → Int) (m : Nat) : ∀ n, sumN (fun k => sumN (F k) m) n = sumN (fun i => sumN (fun k => F k i) n) m
  | 0 => by
    exact (sumN_zero (F := fun i => sumN (fun k => F k i) 0) (n := m) (fun _ _ => rfl)).symm
  | n + 1 => by
    show sumN (fun k => sumN (F k) m) n + sumN (F n) m = _
    rw [sumN_comm F m n, ← sumN_add]
    rfl
theorem sum_ind (f : Nat → Int) (i : Nat) : ∀ m : Nat, 0 ≤ f i → sumN (fun k => ind f (k : Int) i) m = if f i ≤ m then f i else m
  | 0, h => by
    show 0 = _
    split <;> omega
  | m + 1, h => by
    show sumN (fun k => ind f (k : Int) i) m + ind f (m : Int) i = _
    rw [sum_ind f i m h]
    unfold ind
    split <;> split <;> split <;> omega
theorem turn_row {f : Nat → Int} {n : Nat} {T : Int} (h : RowT f n T) (h0 : 0 < n) : RowT (cnj f n) (f 0).toNat T := by
  constructor
  · intro k hk
    have a : ind f (k : Int) 0 = 1 := if_pos (by omega)
    have b := sumN_mem (f := ind f (k : Int)) (n := n) (i := 0) (fun j _ => by unfold ind; split <;> decide) h0
    unfold cnj; omega
  · intro k hk
    have : ∀ m, sumN (ind f ((k + 1 : Nat) : Int)) m ≤ sumN (ind f (k : Int)) m := fun m => by
      induction m with
      | zero => exact Int.le_refl _
      | succ m ih =>
        show sumN (ind f ((k + 1 : Nat) : Int)) m + ind f ((k + 1 : Nat) : Int) m ≤ sumN (ind f (k : Int)) m + ind f (k : Int) m
        have : ind f ((k + 1 : Nat) : Int) m ≤ ind f (k : Int) m := by unfold ind; split <;> split <;> omega
        omega
    exact this n
  · unfold cnj
    rw [sumN_comm (fun k i => ind f (k : Int) i) n, ← h.sum]
    refine sumN_congr n fun i hi => ?_
    have a := h.anti i (Nat.zero_le i) hi
    have b := h.pos i hi
    rw [sum_ind f i _ (by omega), if_pos (by omega)]
theorem l_turned_ok {f : Nat → Int} {n : Nat} {T : Int} (h : RowT f n T) (hT : T ≤ 1000000) : l_turned (tab f n) = some (if 0 < n then tab (cnj f n) (f 0).toNat else []) := by
  unfold l_turned
  have hl := h.len
  cases n with
  | zero => rfl
  | succ n =>
    have hle := h.le (i := 0) (by omega)
    have hp := h.pos 0 (by omega)
    have ne : ((tab f (n + 1)) == ([] : List Int)) = false := by rw [tab_cons]; rfl
    rw [ne]
    simp only [Bool.not_false, Option.bind_some, if_true]
    have a0 : atI (tab f (n + 1)) 0 = some (f 0) := atI_tab' (k := 0) rfl (by omega)
    obtain ⟨m, hm⟩ := Int.eq_ofNat_of_zero_le (show 0 ≤ f 0 by omega)
    rw [a0, Option.bind_some, hm, rng1_nat (by omega), Option.bind_some]
    rw [lcE_tab (g := cnj f (n + 1)), Option.bind_some, lenC_ok (by rw [tab_len]; omega), Option.bind_some, Option.bind_some]
    · rw [if_pos (by omega)]
      rfl
    · intro k hk
      rw [lenC_ok (by rw [List.length_map]; have := List.length_filter_le (fun (part : Int) => decide ((k : Int) < part)) (tab f (n + 1)); rw [tab_len] at this; omega), Option.bind_some, List.length_map]
      exact congrArg some (filter_len f (k : Int) (n + 1))
theorem l_turned_row {xs : List Int} {T : Int} (h : Row xs T) (hT : T ≤ 1000000) : Sat (l_turned xs) fun ys => Row ys T := by
  obtain ⟨f, n, rfl, h⟩ := h
  refine .eq (l_turned_ok h hT) ?_
  by_cases c : 0 < n
  · rw [if_pos c]; exact ⟨_, _, rfl, turn_row h c⟩
  · rw [if_neg c]
    refine ⟨f, 0, rfl, ?_⟩
    rw [show n = 0 by omega] at h
    exact h
/-! drawn rows -/
theorem sat_whlN {σ : Type} {c : σ → Option Bool} {f : σ → Option σ} {I : σ → Prop} {μ : σ → Nat} (h : ∀ s, I s → (c s = some true ∧ Sat (f s) fun t => I t ∧ μ t < μ s) ∨ c s = some false) : ∀ (fuel : Nat) (s : σ), I s → μ s < fuel → Sat (whlN c f fuel s) fun t => I t ∧ c t = some false
  | 0, _, _, hm => absurd hm (Nat.not_lt_zero _)
  | fuel + 1, s, hs, hm => by
    show Sat ((c s).bind fun b => if b then (f s).bind fun s1 => whlN c f fuel s1 else some s) _
    rcases h s hs with ⟨a, b⟩ | a
    · rw [a]
      exact b.bind fun t ht => sat_whlN h fuel t ht.1 (by omega)
    · rw [a]
      exact .ret ⟨hs, a⟩
theorem l_drawn_ok {p : List Int} (hp : Pot p) {T : Int} (h0 : 0 ≤ T) (hT : T ≤ 900000) : Sat (l_drawn_row p T) fun r => Row r.1 T ∧ Pot r.2 := by
  unfold l_drawn_row
  dsimp only
  unfold whlF
  refine Sat.bind (P := fun s => Pot s.1 ∧ Row s.2.2.2 T) ?_ fun s hs => ?_
  · refine Sat.mono (sat_whlN (I := fun s : List Int × Int × Int × List Int => Pot s.1 ∧ 0 ≤ s.2.1 ∧ s.2.1 ≤ T ∧ (0 < s.2.1 → 1 ≤ s.2.2.1) ∧ ∃ f n, s.2.2.2 = tab f n ∧ RowT f n (T - s.2.1) ∧ ∀ i, i < n → s.2.2.1 ≤ f i) (μ := fun s => s.2.1.toNat) ?_ fuelW (p, T, T, []) ?_ ?_) ?_
    · rintro ⟨q, left, most, found⟩ ⟨hq, hl, hlT, hm, f, n, rfl, hr, hmf⟩
      dsimp only at *
      by_cases c : 0 < left
      · refine .inl ⟨by rw [decide_eq_true c], ?_⟩
        have hm1 := hm c
        have hlen := hr.len
        unfold l_drawn_row_w0
        simp only [Option.bind_some]
        have g : 0 < (if left < most then left else most) ∧ (if left < most then left else most) ≤ left ∧ (if left < most then left else most) ≤ most := by split <;> omega
        generalize (if left < most then left else most) = w at g
        obtain ⟨⟨x, q'⟩, e, x0, x1, hq'⟩ := l_draw_ok hq (m := w) (by omega) (by omega)
        rw [e]
        simp only [Option.bind_some]
        dsimp only at x0 x1 hq'
        rw [appS_ok (by rw [tab_len]; omega), Option.bind_some]
        refine .ret ⟨⟨hq', by dsimp only; omega, by dsimp only; omega, fun _ => by dsimp only; omega, fun i => if i = n then 1 + x else f i, n + 1, ?_, ?_, ?_⟩, by dsimp only; omega⟩
        · rw [tab_succ, if_pos rfl]
          show tab f n ++ [1 + x] = tab (fun i => if i = n then 1 + x else f i) n ++ [1 + x]
          congr 1
          exact tab_congr fun i hi => by rw [if_neg (by omega)]
        · constructor
          · intro i hi
            by_cases d : i = n
            · rw [if_pos d]; omega
            · rw [if_neg d]; exact hr.pos i (by omega)
          · intro i hi
            rw [if_neg (show i ≠ n by omega)]
            by_cases d : i + 1 = n
            · rw [if_pos d]; have := hmf i (by omega); omega
            · rw [if_neg d]; exact hr.fall i (by omega)
          · show sumN (fun i => if i = n then 1 + x else f i) n + (if n = n then 1 + x else f n) = _
            rw [if_pos rfl, sumN_congr (G := f) n fun i hi => if_neg (by omega), hr.sum]
            dsimp only; omega
        · intro i hi
          dsimp only
          by_cases d : i = n
          · rw [if_pos d]; omega
          · rw [if_neg d]; have := hmf i (by omega); omega
      · exact .inr (by rw [decide_eq_false c])
    · exact ⟨hp, h0, Int.le_refl _, fun h => by dsimp only at *; omega, fun _ => 0, 0, rfl, ⟨fun i hi => absurd hi (Nat.not_lt_zero _), fun i hi => absurd hi (Nat.not_lt_zero _), by show 0 = T - T; omega⟩, fun i hi => absurd hi (Nat.not_lt_zero _)⟩
    · unfold fuelW; dsimp only; omega
    · rintro ⟨q, left, most, found⟩ ⟨⟨hq, hl, hlT, hm, f, n, e, hr, hmf⟩, hc⟩
      dsimp only at *
      have : ¬ 0 < left := by
        intro c; rw [decide_eq_true c] at hc; cases hc
      refine ⟨hq, f, n, e, ?_⟩
      rw [show T - left = T by omega] at hr
      exact hr
  · obtain ⟨q, left, most, found⟩ := s
    obtain ⟨hq, hr⟩ := hs
    simp only [Option.bind_some]
    dsimp only at *
    obtain ⟨⟨x, q'⟩, e, x0, x1, hq'⟩ := l_draw_ok hq (m := 2) (by omega) (by omega)
    rw [e]
    simp only [Option.bind_some]
    refine Sat.ite (fun _ => .ret ⟨hr, hq'⟩) fun _ => ?_
    exact (l_turned_row hr (by omega)).bind fun z hz => .ret ⟨hz, hq'⟩
end MP

/-! ## EngRp.lean -/
set_option Elab.async false
set_option linter.all false
set_option maxRecDepth 100000
namespace MP
open PySem PySem.Spec L2
/-! ### rows: made, listed; more of comprehensions and repr -/
theorem Row_nil : Row [] 0 := ⟨fun _ => 0, 0, rfl, ⟨fun i hi => absurd hi (Nat.not_lt_zero _), fun i hi => absurd hi (Nat.not_lt_zero _), rfl⟩⟩
theorem Row_cons {x : Int} {xs : List Int} {T : Int} (h : Row xs T) (h1 : 1 ≤ x) (h2 : ∀ y ∈ xs, y ≤ x) : Row (x :: xs) (x + T) := by
  obtain ⟨f, n, rfl, h⟩ := h
  refine ⟨fun i => if i = 0 then x else f (i - 1), n + 1, ?_, ?_⟩
  · rw [tab_cons, if_pos rfl]
    congr 1
  · constructor
    · intro i hi
      by_cases c : i = 0
      · rw [if_pos c]; exact h1
      · rw [if_neg c]; exact h.pos _ (by omega)
    · intro i hi
      rw [if_neg (by omega), Nat.add_sub_cancel]
      by_cases c : i = 0
      · rw [if_pos c]; exact h2 _ (List.mem_map.mpr ⟨i, List.mem_range.mpr (by omega), rfl⟩)
      · rw [if_neg c]
        have := h.fall (i - 1) (by omega)
        rw [show i - 1 + 1 = i by omega] at this
        exact this
    · rw [sumN_front, if_pos rfl, ← h.sum]
      rfl
theorem Row_rep (x : Int) (h1 : 1 ≤ x) : ∀ k : Nat, Row (List.replicate k x) ((k : Int) * x)
  | 0 => by rw [show ((0 : Nat) : Int) * x = 0 by simp]; exact Row_nil
  | k + 1 => by
    rw [List.replicate_succ, show ((k + 1 : Nat) : Int) * x = x + (k : Int) * x by rw [show ((k + 1 : Nat) : Int) = (k : Int) + 1 by omega, Int.add_mul]; omega]
    exact Row_cons (Row_rep x h1 k) h1 fun y hy => by rw [List.eq_of_mem_replicate hy]; exact Int.le_refl _
theorem rowsN_row : ∀ (k n m : Nat), ∀ r ∈ rowsN k n m, Row (nts r) n ∧ ∀ y ∈ r, y ≤ m
  | 0, _, _, r, h => by cases h
  | k + 1, n, m, r, h => by
    rw [rowsN] at h
    split at h
    · rename_i c
      rw [List.mem_singleton] at h
      subst h c
      exact ⟨Row_nil, fun y hy => by cases hy⟩
    · obtain ⟨i, hi, h⟩ := List.mem_flatMap.mp h
      obtain ⟨q, hq, rfl⟩ := List.mem_map.mp h
      rw [List.mem_range] at hi
      obtain ⟨a, b⟩ := rowsN_row k (n - (i + 1)) (i + 1) q hq
      refine ⟨?_, fun y hy => ?_⟩
      · have := Row_cons (x := ((i + 1 : Nat) : Int)) a (by omega) fun y hy => by
          obtain ⟨z, hz, rfl⟩ := List.mem_map.mp hy
          have := b z hz; omega
        rw [show ((i + 1 : Nat) : Int) + ((n - (i + 1) : Nat) : Int) = (n : Int) by omega] at this
        exact this
      · rcases List.mem_cons.mp hy with rfl | hy
        · omega
        · have := b y hy; omega
theorem lcS_fm {α β : Type} {f : α → Option Bool} {g : α → Option β} {p : α → Bool} {q : α → β} : ∀ xs : List α, (∀ x ∈ xs, f x = some (p x)) → (∀ x ∈ xs, g x = some (q x)) → lcS (fun x => (f x).bind fun c => if c then (g x).bind fun y => some (some y) else some none) xs = some ((xs.filter p).map q)
  | [], _, _ => rfl
  | x :: xs, h1, h2 => by
    show (((f x).bind fun c => if c then (g x).bind fun y => some (some y) else some none).bind _) = _
    have ih := lcS_fm (f := f) (g := g) (p := p) (q := q) xs (fun y hy => h1 y (List.mem_cons_of_mem _ hy)) (fun y hy => h2 y (List.mem_cons_of_mem _ hy))
    rw [h1 x List.mem_cons_self, Option.bind_some]
    cases c : p x with
    | true =>
      rw [if_pos rfl, h2 x List.mem_cons_self, Option.bind_some, Option.bind_some, ih, Option.bind_some, List.filter_cons_of_pos c]
      rfl
    | false =>
      rw [if_neg (by simp), Option.bind_some, ih, Option.bind_some, List.filter_cons_of_neg (by simp [c])]
/-- all small: two lists of rows shown -/
def sizeL (u : List (List Int)) : Nat := List.foldr (fun xs n => xs.length + n) 0 u
theorem shwF {u : List (List Int)} (h : ∀ xs ∈ u, ∀ x ∈ xs, lowI x) : shwDs (u.map (eT D.int)) = true := by
  induction u with
  | nil => rfl
  | cons xs u ih =>
    rw [List.map_cons]
    show (shwDs (xs.map D.int) && shwDs (u.map (eT D.int))) = true
    rw [shwI (h xs List.mem_cons_self), ih fun ys hy => h ys (List.mem_cons_of_mem _ hy)]
    rfl
theorem szF (u : List (List Int)) : szDs (u.map (eT D.int)) = 1924 * sizeL u + 5 * u.length := by
  induction u with
  | nil => rfl
  | cons xs u ih =>
    rw [List.map_cons, List.length_cons]
    show szDs (xs.map D.int) + 3 + 2 + szDs (u.map (eT D.int)) = 1924 * (xs.length + sizeL u) + 5 * (u.length + 1)
    rw [ih, szI]; omega
theorem depF (u : List (List Int)) : depDs (u.map (eT D.int)) ≤ 1 := by
  induction u with
  | nil => exact Nat.zero_le _
  | cons xs u ih =>
    rw [List.map_cons]
    show Nat.max (depDs (xs.map D.int) + 1) (depDs (u.map (eT D.int))) ≤ 1
    rw [depI]
    exact Nat.max_le.mpr ⟨Nat.le_refl _, ih⟩
theorem repF3 {u v : List (List Int)} (h : ∀ xs ∈ u, ∀ x ∈ xs, lowI x) (h' : ∀ xs ∈ v, ∀ x ∈ xs, lowI x) (l : sizeL u + u.length ≤ 4000) (l' : sizeL v + v.length ≤ 4000) : repS (eF (eT (eT D.int)) [u, v]) = some (eF (eT (eT D.int)) [u, v]) := by
  refine repS_of rfl ?_ ?_ ?_
  · show Nat.max (depDs (u.map (eT D.int)) + 1) (Nat.max (depDs (v.map (eT D.int)) + 1) 0) + 1 ≤ 60
    have a := depF u; have b := depF v
    have := Nat.max_le.mpr ⟨show depDs (u.map (eT D.int)) + 1 ≤ 2 by omega, Nat.max_le.mpr ⟨show depDs (v.map (eT D.int)) + 1 ≤ 2 by omega, Nat.zero_le 2⟩⟩
    exact Nat.le_trans (Nat.succ_le_succ this) (by decide)
  · show (shwDs (u.map (eT D.int)) && (shwDs (v.map (eT D.int)) && true)) = true; rw [shwF h, shwF h']; rfl
  · show szDs (u.map (eT D.int)) + 3 + 2 + (szDs (v.map (eT D.int)) + 3 + 2 + 0) + 3 ≤ 16777216; rw [szF, szF]; omega
end MP

/-! ## K56a.lean -/
set_option Elab.async false
set_option linter.all false
set_option maxRecDepth 100000
namespace K56
open PySem MP L2
def top (i : Nat) : Stmt := PySem.Challenge.pw_letparts_k56_whole_ranks_and_cranks_and.main.body.getD i (.Pass ⟨0, 0, 0, 0⟩)
def b_rows_within_1 : SsV := (.cons (.app (.var 2) (.tup (.cons (.var 3) (.star (.var 4) .nil))))
    (.kill [4] .nil))
def b_rows_within_0 : SsV := (.cons (.for_ (.nm 4) (.val (.call 7 (.cons (.bin .Sub (.var 0) (.var 3)) (.cons (.var 3) .nil)))) b_rows_within_1)
    (.kill [3, 4] .nil))
def b_shared_0 : SsV := (.cons (.set (.var 2) (.bin .Mod (.bi .int (.cons (.var 3) .nil)) (.var 1)) (.bin .Add (.sub (.var 2) (.bin .Mod (.bi .int (.cons (.var 3) .nil)) (.var 1))) (.lit (.int 1))))
    (.kill [3] .nil))
def b__law_pot_0 : SsV := (.cons (.asg 3 (.bin .Mod (.bi .int (.cons (.bin .Add (.bin .Add (.bin .Mult (.var 3) (.lit (.int 40961))) (.bin .Mod (.bi .int (.cons (.var 4) .nil)) (.lit (.int 2147483549)))) (.lit (.int 31))) .nil)) (.lit (.int 2147483549))))
    (.kill [4] .nil))
def b__law_rows_2 : SsV := (.cons (.app (.var 3) (.tup (.cons (.bin .Add (.bin .Mult (.tup (.cons (.var 2) .nil)) (.var 6)) (.var 4)) (.cons (.bin .Add (.var 5) (.bin .Mult (.var 2) (.var 6))) .nil))))
    (.kill [6] .nil))
def b__law_rows_1 : SsV := (.cons (.for_ (.nm 6) (.rng (.cons (.bin .Add (.bin .FloorDiv (.bin .Sub (.var 0) (.var 5)) (.var 2)) (.lit (.int 1))) .nil)) b__law_rows_2)
    (.kill [4, 5, 6] .nil))
def b__law_rows_0 : SsV := (.cons (.asg 3 (.lst .nil))
    (.cons (.for_ (.tp [4, 5]) (.val (.var 1)) b__law_rows_1)
    (.cons (.asg 1 (.var 3))
    (.kill [2, 3, 4, 5, 6] .nil))))
def b__law_drawn_row_0 : SsV := (.cons (.asg 5 (.bin .Add (.lit (.int 1)) (.call 16 (.cons (.var 0) (.cons (.bi .min (.cons (.var 3) (.cons (.var 2) .nil))) .nil)))))
    (.cons (.app (.var 4) (.var 5))
    (.cons (.par [2, 3] (.cons (.bin .Sub (.var 2) (.var 5)) (.cons (.var 5) .nil)))
    (.kill [5] .nil))))
def v_is_integer : FnV := ⟨1, 1,
    (.cons (.ret (.and (.isi .int (.var 0)) (.one (.not (.isi .bool (.var 0))))))
    .nil)⟩
def v_is_within_bounds : FnV := ⟨3, 3,
    (.cons (.ret (.and (.call 0 (.cons (.var 0) .nil)) (.one (.chn .LtE .LtE (.var 1) (.var 0) (.var 2)))))
    .nil)⟩
def v_check_within : FnV := ⟨3, 3,
    (.cons (.ife (.not (.val (.call 1 (.cons (.var 0) (.cons (.var 1) (.cons (.var 2) .nil)))))) (.cons .nev
    .nil) .nil)
    .nil)⟩
def v_is_falling : FnV := ⟨2, 3,
    (.cons (.ret (.bi .all (.cons (.lc [2] (.nm 2) (.rng (.cons (.bin .Sub (.bi .len (.cons (.var 0) .nil)) (.lit (.int 1))) .nil)) .no (.cmp .GtE (.sub (.var 0) (.var 2)) (.bin .Add (.sub (.var 0) (.bin .Add (.var 2) (.lit (.int 1)))) (.var 1)))) .nil)))
    .nil)⟩
def v_is_row : FnV := ⟨1, 2,
    (.cons (.ife (.or (.not (.val (.isi .tuple (.var 0)))) (.one (.not (.val (.bi .all (.cons (.lc [1] (.nm 1) (.val (.var 0)) .no (.call 1 (.cons (.var 1) (.cons (.lit (.int 1)) (.cons (.glo ("MOST_SUM" : Str) (.int 600)) .nil))))) .nil)))))) (.cons (.ret (.lit (.bl false)))
    .nil) .nil)
    (.cons (.ret (.and (.call 3 (.cons (.var 0) (.cons (.lit (.int 0)) .nil))) (.one (.cmp .LtE (.bi .sum (.cons (.bi .list (.cons (.var 0) .nil)) .nil)) (.glo ("MOST_SUM" : Str) (.int 600))))))
    .nil))⟩
def v_check_row : FnV := ⟨1, 1,
    (.cons (.ife (.not (.val (.call 4 (.cons (.var 0) .nil)))) (.cons .nev
    .nil) .nil)
    .nil)⟩
def v_times_in : FnV := ⟨2, 3,
    (.cons (.ret (.bi .len (.cons (.lc [2] (.nm 2) (.val (.var 0)) (.yes (.val (.cmp .Eq (.var 2) (.var 1)))) (.var 2)) .nil)))
    .nil)⟩
def v_rows_within : FnV := ⟨2, 5,
    (.cons (.ife (.val (.cmp .Eq (.var 0) (.lit (.int 0)))) (.cons (.ret (.lst (.cons (.tup .nil) .nil)))
    .nil) .nil)
    (.cons (.asg 2 (.lst .nil))
    (.cons (.for_ (.nm 3) (.rng (.cons (.lit (.int 1)) (.cons (.bin .Add (.bi .min (.cons (.var 0) (.cons (.var 1) .nil))) (.lit (.int 1))) .nil))) b_rows_within_0)
    (.cons (.ret (.var 2))
    .nil))))⟩
def v_rank_of : FnV := ⟨1, 1,
    (.cons (.ret (.ife (.val (.cmp .NotEq (.var 0) (.tup .nil))) (.bin .Sub (.sub (.var 0) (.lit (.int 0))) (.bi .len (.cons (.var 0) .nil))) (.lit (.int 0))))
    .nil)⟩
def v_crank_of : FnV := ⟨1, 3,
    (.cons (.asg 1 (.call 6 (.cons (.var 0) (.cons (.lit (.int 1)) .nil))))
    (.cons (.ife (.val (.cmp .Eq (.var 1) (.lit (.int 0)))) (.cons (.ret (.ife (.val (.cmp .NotEq (.var 0) (.tup .nil))) (.sub (.var 0) (.lit (.int 0))) (.lit (.int 0))))
    .nil) .nil)
    (.cons (.ret (.bin .Sub (.bi .len (.cons (.lc [2] (.nm 2) (.val (.var 0)) (.yes (.val (.cmp .Gt (.var 2) (.var 1)))) (.var 2)) .nil)) (.var 1)))
    .nil)))⟩
def v_rank : FnV := ⟨1, 1,
    (.cons (.ex (.call 5 (.cons (.var 0) .nil)))
    (.cons (.ret (.call 8 (.cons (.var 0) .nil)))
    .nil))⟩
def v_crank : FnV := ⟨1, 1,
    (.cons (.ex (.call 5 (.cons (.var 0) .nil)))
    (.cons (.ret (.call 9 (.cons (.var 0) .nil)))
    .nil))⟩
def v_shared : FnV := ⟨2, 4,
    (.cons (.asg 2 (.bin .Mult (.lst (.cons (.lit (.int 0)) .nil)) (.var 1)))
    (.cons (.for_ (.nm 3) (.val (.var 0)) b_shared_0)
    (.cons (.ret (.bi .tuple (.cons (.var 2) .nil)))
    .nil)))⟩
def v_by_rank : FnV := ⟨2, 3,
    (.cons (.ex (.call 2 (.cons (.var 0) (.cons (.lit (.int 0)) (.cons (.glo ("MOST_LISTED" : Str) (.int 24)) .nil)))))
    (.cons (.ex (.call 2 (.cons (.var 1) (.cons (.glo ("LEAST_BY" : Str) (.int 2)) (.cons (.glo ("MOST_BY" : Str) (.int 20)) .nil)))))
    (.cons (.ret (.call 12 (.cons (.lc [2] (.nm 2) (.val (.call 7 (.cons (.var 0) (.cons (.var 0) .nil)))) .no (.call 8 (.cons (.var 2) .nil))) (.cons (.var 1) .nil))))
    .nil)))⟩
def v_by_crank : FnV := ⟨2, 3,
    (.cons (.ex (.call 2 (.cons (.var 0) (.cons (.lit (.int 0)) (.cons (.glo ("MOST_LISTED" : Str) (.int 24)) .nil)))))
    (.cons (.ex (.call 2 (.cons (.var 1) (.cons (.glo ("LEAST_BY" : Str) (.int 2)) (.cons (.glo ("MOST_BY" : Str) (.int 20)) .nil)))))
    (.cons (.ret (.call 12 (.cons (.lc [2] (.nm 2) (.val (.call 7 (.cons (.var 0) (.cons (.var 0) .nil)))) .no (.call 9 (.cons (.var 2) .nil))) (.cons (.var 1) .nil))))
    .nil)))⟩
def v__law_pot : FnV := ⟨2, 5,
    (.cons (.asg 2 (.ife (.val (.cmp .Lt (.var 1) (.bi .len (.cons (.var 0) .nil)))) (.bi .int (.cons (.sub (.var 0) (.var 1)) .nil)) (.bin .Add (.bin .Mult (.lit (.int 6007)) (.var 1)) (.bin .Mod (.bi .int (.cons (.bi .sum (.cons (.sl (.var 0) .no (.yes (.lit (.int 1)))) .nil)) .nil)) (.lit (.int 1000003))))))
    (.cons (.asg 3 (.bin .Add (.lit (.int 52361)) (.bin .Mult (.lit (.int 811)) (.var 1))))
    (.cons (.for_ (.nm 4) (.val (.bin .Add (.sl (.var 0) .no (.yes (.lit (.int 6)))) (.lst (.cons (.var 2) .nil)))) b__law_pot_0)
    (.cons (.ret (.lst (.cons (.ife (.or (.val (.cmp .Lt (.var 2) (.lit (.int 0)))) (.one (.val (.cmp .GtE (.var 2) (.bin .Pow (.lit (.int 10)) (.lit (.int 18))))))) (.bi .abs (.cons (.var 2) .nil)) (.lit (.int 0))) (.cons (.var 3) (.cons (.lit (.int 0)) .nil)))))
    .nil))))⟩
def v__law_draw : FnV := ⟨2, 4,
    (.cons (.set (.var 0) (.lit (.int 2)) (.bin .Add (.sub (.var 0) (.lit (.int 2))) (.lit (.int 1))))
    (.cons (.ife (.val (.cmp .Gt (.sub (.var 0) (.lit (.int 0))) (.lit (.int 0)))) (.cons (.tsn (.var 0) (.lit (.int 0)) 3 (.bi .divmod (.cons (.sub (.var 0) (.lit (.int 0))) (.cons (.var 1) .nil))))
    (.cons (.ret (.var 3))
    .nil)) .nil)
    (.cons (.asg 2 (.bin .Add (.bin .Mod (.bi .int (.cons (.sub (.var 0) (.lit (.int 1))) .nil)) (.lit (.int 30011))) (.lit (.int 40013))))
    (.cons (.set (.var 0) (.lit (.int 1)) (.bin .Mod (.bi .int (.cons (.bin .Add (.bin .Add (.bin .Mult (.sub (.var 0) (.lit (.int 1))) (.var 2)) (.bin .Mult (.lit (.int 60013)) (.sub (.var 0) (.lit (.int 2))))) (.lit (.int 11))) .nil)) (.lit (.int 2147483549))))
    (.cons (.ret (.bin .Mod (.bi .int (.cons (.bin .FloorDiv (.sub (.var 0) (.lit (.int 1))) (.lit (.int 97))) .nil)) (.var 1)))
    .nil)))))⟩
def v__law_rows : FnV := ⟨1, 7,
    (.cons (.asg 1 (.lst (.cons (.tup (.cons (.tup .nil) (.cons (.lit (.int 0)) .nil))) .nil)))
    (.cons (.for_ (.nm 2) (.rng (.cons (.lit (.int 1)) (.cons (.bin .Add (.var 0) (.lit (.int 1))) .nil))) b__law_rows_0)
    (.cons (.ret (.bi .sorted (.cons (.lc [4, 5] (.tp [4, 5]) (.val (.var 1)) (.yes (.val (.cmp .Eq (.var 5) (.var 0)))) (.var 4)) .nil)))
    .nil)))⟩
def v__law_drawn_row : FnV := ⟨2, 6,
    (.cons (.par [2, 3, 4] (.cons (.var 1) (.cons (.var 1) (.cons (.lst .nil) .nil))))
    (.cons (.whl (.val (.cmp .Gt (.var 2) (.lit (.int 0)))) b__law_drawn_row_0)
    (.cons (.ret (.ife (.val (.cmp .Eq (.call 16 (.cons (.var 0) (.cons (.lit (.int 2)) .nil))) (.lit (.int 0)))) (.bi .tuple (.cons (.var 4) .nil)) (.call 19 (.cons (.bi .tuple (.cons (.var 4) .nil)) .nil))))
    .nil)))⟩
def v__law_turned : FnV := ⟨1, 3,
    (.cons (.ret (.bi .tuple (.cons (.lc [1] (.nm 1) (.rng (.cons (.ife (.val (.cmp .NotEq (.var 0) (.tup .nil))) (.sub (.var 0) (.lit (.int 0))) (.lit (.int 0))) .nil)) .no (.bi .len (.cons (.lc [2] (.nm 2) (.val (.var 0)) (.yes (.val (.cmp .Gt (.var 2) (.var 1)))) (.var 2)) .nil))) .nil)))
    .nil)⟩
def v__law_crank : FnV := ⟨1, 3,
    (.cons (.ife (.val (.cmp .Eq (.var 0) (.tup .nil))) (.cons (.ret (.lit (.int 0)))
    .nil) .nil)
    (.cons (.asg 1 (.lcnt (.var 0) (.lit (.int 1))))
    (.cons (.ret (.ife (.val (.cmp .Eq (.var 1) (.lit (.int 0)))) (.sub (.var 0) (.lit (.int 0))) (.bin .Sub (.bi .len (.cons (.lc [2] (.nm 2) (.val (.var 0)) (.yes (.val (.cmp .Gt (.var 2) (.var 1)))) (.var 2)) .nil)) (.var 1))))
    .nil)))⟩
def v__law_told_right : FnV := ⟨1, 2,
    (.cons (.asg 1 (.ife (.val (.cmp .NotEq (.var 0) (.tup .nil))) (.bin .Sub (.sub (.var 0) (.lit (.int 0))) (.bi .len (.cons (.var 0) .nil))) (.lit (.int 0))))
    (.cons (.ife (.val (.cmp .NotEq (.bi .repr (.cons (.lst (.cons (.call 10 (.cons (.var 0) .nil)) (.cons (.callK 10 [0] .nil (.cons (.var 0) .nil)) (.cons (.call 10 (.cons (.call 19 (.cons (.var 0) .nil)) .nil)) .nil)))) .nil)) (.bi .repr (.cons (.lst (.cons (.var 1) (.cons (.var 1) (.cons (.bin .Sub (.lit (.int 0)) (.var 1)) .nil)))) .nil)))) (.cons (.ret (.lit (.bl false)))
    .nil) .nil)
    (.cons (.asg 1 (.call 20 (.cons (.var 0) .nil)))
    (.cons (.ret (.cmp .Eq (.bi .repr (.cons (.lst (.cons (.call 11 (.cons (.var 0) .nil)) (.cons (.callK 11 [0] .nil (.cons (.var 0) .nil)) .nil))) .nil)) (.bi .repr (.cons (.lst (.cons (.var 1) (.cons (.var 1) .nil))) .nil))))
    .nil))))⟩
def v__law_shared : FnV := ⟨2, 4,
    (.cons (.ret (.bi .tuple (.cons (.lc [2] (.nm 2) (.rng (.cons (.var 1) .nil)) .no (.bi .len (.cons (.lc [3] (.nm 3) (.val (.var 0)) (.yes (.val (.cmp .Eq (.bin .Mod (.bi .int (.cons (.bin .Sub (.var 3) (.var 2)) .nil)) (.var 1)) (.lit (.int 0))))) (.var 3)) .nil))) .nil)))
    .nil)⟩
def v__law_rests_right : FnV := ⟨1, 6,
    (.cons (.par [3, 4] (.cons (.call 16 (.cons (.var 0) (.cons (.lit (.int 15)) .nil))) (.cons (.bin .Add (.lit (.int 2)) (.call 16 (.cons (.var 0) (.cons (.lit (.int 19)) .nil)))) .nil)))
    (.cons (.asg 1 (.call 17 (.cons (.var 3) .nil)))
    (.cons (.asg 2 (.call 22 (.cons (.lc [5] (.nm 5) (.val (.var 1)) .no (.ife (.val (.cmp .NotEq (.var 5) (.tup .nil))) (.bin .Sub (.sub (.var 5) (.lit (.int 0))) (.bi .len (.cons (.var 5) .nil))) (.lit (.int 0)))) (.cons (.var 4) .nil))))
    (.cons (.ife (.val (.cmp .NotEq (.bi .repr (.cons (.lst (.cons (.call 13 (.cons (.var 3) (.cons (.var 4) .nil))) (.cons (.callK 13 [1, 0] .nil (.cons (.var 4) (.cons (.var 3) .nil))) .nil))) .nil)) (.bi .repr (.cons (.lst (.cons (.var 2) (.cons (.var 2) .nil))) .nil)))) (.cons (.ret (.lit (.bl false)))
    .nil) .nil)
    (.cons (.asg 2 (.call 22 (.cons (.lc [5] (.nm 5) (.val (.var 1)) .no (.call 20 (.cons (.var 5) .nil))) (.cons (.var 4) .nil))))
    (.cons (.ret (.cmp .Eq (.bi .repr (.cons (.lst (.cons (.call 14 (.cons (.var 3) (.cons (.var 4) .nil))) (.cons (.callK 14 [1, 0] .nil (.cons (.var 4) (.cons (.var 3) .nil))) .nil))) .nil)) (.bi .repr (.cons (.lst (.cons (.var 2) (.cons (.var 2) .nil))) .nil))))
    .nil))))))⟩
def v__law_right : FnV := ⟨1, 10,
    (.cons (.asg 1 (.call 16 (.cons (.var 0) (.cons (.lit (.int 13)) .nil))))
    (.cons (.asg 2 (.call 17 (.cons (.var 1) .nil)))
    (.cons (.asg 3 (.bin .Sub (.lit (.int 600)) (.call 16 (.cons (.var 0) (.cons (.lit (.int 40)) .nil)))))
    (.cons (.asg 4 (.lst (.cons (.tup .nil) (.cons (.tup (.cons (.var 3) .nil)) (.cons (.bin .Mult (.tup (.cons (.lit (.int 1)) .nil)) (.var 3)) (.cons (.bin .Add (.tup (.cons (.bin .Sub (.var 3) (.lit (.int 30))) .nil)) (.bin .Mult (.tup (.cons (.lit (.int 1)) .nil)) (.lit (.int 30)))) (.cons (.bin .Mult (.tup (.cons (.lit (.int 2)) .nil)) (.bin .FloorDiv (.var 3) (.lit (.int 2)))) (.cons (.tup (.cons (.bin .FloorDiv (.var 3) (.lit (.int 2))) (.cons (.bin .FloorDiv (.var 3) (.lit (.int 2))) .nil))) .nil))))))))
    (.cons (.asg 4 (.bin .Add (.var 4) (.lc [9] (.nm 9) (.rng (.cons (.lit (.int 4)) .nil)) .no (.call 18 (.cons (.var 0) (.cons (.call 16 (.cons (.var 0) (.cons (.lit (.int 91)) .nil))) .nil))))))
    (.cons (.ife (.val (.cmp .NotEq (.lc [7] (.nm 7) (.val (.bin .Add (.var 2) (.var 4))) (.yes (.not (.val (.call 21 (.cons (.var 7) .nil))))) (.var 7)) (.lst .nil))) (.cons (.ret (.lit (.bl false)))
    .nil) .nil)
    (.cons (.asg 5 (.lc [7] (.nm 7) (.val (.var 2)) .no (.call 11 (.cons (.var 7) .nil))))
    (.cons (.asg 6 (.lc [8] (.nm 8) (.val (.var 5)) (.yes (.val (.cmp .NotEq (.lcnt (.var 5) (.var 8)) (.lcnt (.var 5) (.bin .Sub (.lit (.int 0)) (.var 8)))))) (.var 8)))
    (.cons (.ret (.and (.or (.cmp .Eq (.var 1) (.lit (.int 1))) (.one (.cmp .Eq (.var 6) (.lst .nil)))) (.one (.call 23 (.cons (.var 0) .nil)))))
    .nil)))))))))⟩
def v_law : FnV := ⟨1, 2,
    (.cons (.ret (.bi .all (.cons (.lc [1] (.nm 1) (.rng (.cons (.lit (.int 3)) .nil)) .no (.call 24 (.cons (.call 15 (.cons (.var 0) (.cons (.var 1) .nil))) .nil))) .nil)))
    .nil)⟩
abbrev st_is_integer : Stmt := top 7
def d_is_integer : DefT := ⟨("is_integer" : Str), [("value" : Str)], [], [("value" : Str)], st_is_integer, v_is_integer.fn⟩
abbrev st_is_within_bounds : Stmt := top 8
def d_is_within_bounds : DefT := ⟨("is_within_bounds" : Str), [("value" : Str), ("least" : Str), ("most" : Str)], [], [("value" : Str), ("least" : Str), ("most" : Str)], st_is_within_bounds, v_is_within_bounds.fn⟩
abbrev st_check_within : Stmt := top 9
def d_check_within : DefT := ⟨("check_within" : Str), [("value" : Str), ("least" : Str), ("most" : Str)], [], [("value" : Str), ("least" : Str), ("most" : Str)], st_check_within, v_check_within.fn⟩
abbrev st_is_falling : Stmt := top 11
def d_is_falling : DefT := ⟨("is_falling" : Str), [("parts" : Str), ("step" : Str)], [], [("parts" : Str), ("step" : Str), ("at" : Str)], st_is_falling, v_is_falling.fn⟩
abbrev st_is_row : Stmt := top 12
def d_is_row : DefT := ⟨("is_row" : Str), [("value" : Str)], [], [("value" : Str), ("part" : Str)], st_is_row, v_is_row.fn⟩
abbrev st_check_row : Stmt := top 13
def d_check_row : DefT := ⟨("check_row" : Str), [("value" : Str)], [], [("value" : Str)], st_check_row, v_check_row.fn⟩
abbrev st_times_in : Stmt := top 14
def d_times_in : DefT := ⟨("times_in" : Str), [("row" : Str), ("size" : Str)], [], [("row" : Str), ("size" : Str), ("part" : Str)], st_times_in, v_times_in.fn⟩
abbrev st_rows_within : Stmt := top 15
def d_rows_within : DefT := ⟨("rows_within" : Str), [("number" : Str), ("most" : Str)], [], [("number" : Str), ("most" : Str), ("found" : Str), ("part" : Str), ("rest" : Str)], st_rows_within, v_rows_within.fn⟩
abbrev st_rank_of : Stmt := top 19
def d_rank_of : DefT := ⟨("rank_of" : Str), [("row" : Str)], [], [("row" : Str)], st_rank_of, v_rank_of.fn⟩
abbrev st_crank_of : Stmt := top 20
def d_crank_of : DefT := ⟨("crank_of" : Str), [("row" : Str)], [], [("row" : Str), ("ones" : Str), ("part" : Str)], st_crank_of, v_crank_of.fn⟩
abbrev st_rank : Stmt := top 21
def d_rank : DefT := ⟨("rank" : Str), [("row" : Str)], [(0, [("row" : Str)], [0])], [("row" : Str)], st_rank, v_rank.fn⟩
abbrev st_crank : Stmt := top 22
def d_crank : DefT := ⟨("crank" : Str), [("row" : Str)], [(0, [("row" : Str)], [0])], [("row" : Str)], st_crank, v_crank.fn⟩
abbrev st_shared : Stmt := top 23
def d_shared : DefT := ⟨("shared" : Str), [("marks" : Str), ("by" : Str)], [], [("marks" : Str), ("by" : Str), ("found" : Str), ("mark" : Str)], st_shared, v_shared.fn⟩
abbrev st_by_rank : Stmt := top 24
def d_by_rank : DefT := ⟨("by_rank" : Str), [("number" : Str), ("by" : Str)], [(0, [("by" : Str), ("number" : Str)], [1, 0])], [("number" : Str), ("by" : Str), ("row" : Str)], st_by_rank, v_by_rank.fn⟩
abbrev st_by_crank : Stmt := top 25
def d_by_crank : DefT := ⟨("by_crank" : Str), [("number" : Str), ("by" : Str)], [(0, [("by" : Str), ("number" : Str)], [1, 0])], [("number" : Str), ("by" : Str), ("row" : Str)], st_by_crank, v_by_crank.fn⟩
abbrev st__law_pot : Stmt := top 27
def d__law_pot : DefT := ⟨("_law_pot" : Str), [("script" : Str), ("turn" : Str)], [], [("script" : Str), ("turn" : Str), ("cell" : Str), ("mixed" : Str), ("each" : Str)], st__law_pot, v__law_pot.fn⟩
abbrev st__law_draw : Stmt := top 28
def d__law_draw : DefT := ⟨("_law_draw" : Str), [("pot" : Str), ("size" : Str)], [], [("pot" : Str), ("size" : Str), ("by" : Str), ("digit" : Str)], st__law_draw, v__law_draw.fn⟩
abbrev st__law_rows : Stmt := top 29
def d__law_rows : DefT := ⟨("_law_rows" : Str), [("number" : Str)], [], [("number" : Str), ("found" : Str), ("size" : Str), ("longer" : Str), ("row" : Str), ("total" : Str), ("many" : Str)], st__law_rows, v__law_rows.fn⟩
abbrev st__law_drawn_row : Stmt := top 30
def d__law_drawn_row : DefT := ⟨("_law_drawn_row" : Str), [("pot" : Str), ("total" : Str)], [], [("pot" : Str), ("total" : Str), ("left" : Str), ("most" : Str), ("found" : Str), ("part" : Str)], st__law_drawn_row, v__law_drawn_row.fn⟩
abbrev st__law_turned : Stmt := top 31
def d__law_turned : DefT := ⟨("_law_turned" : Str), [("row" : Str)], [], [("row" : Str), ("k" : Str), ("part" : Str)], st__law_turned, v__law_turned.fn⟩
abbrev st__law_crank : Stmt := top 32
def d__law_crank : DefT := ⟨("_law_crank" : Str), [("row" : Str)], [], [("row" : Str), ("ones" : Str), ("part" : Str)], st__law_crank, v__law_crank.fn⟩
abbrev st__law_told_right : Stmt := top 33
def d__law_told_right : DefT := ⟨("_law_told_right" : Str), [("row" : Str)], [], [("row" : Str), ("due" : Str)], st__law_told_right, v__law_told_right.fn⟩
abbrev st__law_shared : Stmt := top 34
def d__law_shared : DefT := ⟨("_law_shared" : Str), [("marks" : Str), ("by" : Str)], [], [("marks" : Str), ("by" : Str), ("rest" : Str), ("mark" : Str)], st__law_shared, v__law_shared.fn⟩
abbrev st__law_rests_right : Stmt := top 35
def d__law_rests_right : DefT := ⟨("_law_rests_right" : Str), [("pot" : Str)], [], [("pot" : Str), ("rows" : Str), ("due" : Str), ("number" : Str), ("by" : Str), ("row" : Str)], st__law_rests_right, v__law_rests_right.fn⟩
abbrev st__law_right : Stmt := top 36
def d__law_right : DefT := ⟨("_law_right" : Str), [("pot" : Str)], [], [("pot" : Str), ("number" : Str), ("rows" : Str), ("near" : Str), ("some" : Str), ("marks" : Str), ("uneven" : Str), ("row" : Str), ("mark" : Str), ("turn" : Str)], st__law_right, v__law_right.fn⟩
abbrev st_law : Stmt := top 37
def d_law : DefT := ⟨("law" : Str), [("script" : Str)], [], [("script" : Str), ("turn" : Str)], st_law, v_law.fn⟩
def defs : List DefT := [d_is_integer, d_is_within_bounds, d_check_within, d_is_falling, d_is_row, d_check_row, d_times_in, d_rows_within, d_rank_of, d_crank_of, d_rank, d_crank, d_shared, d_by_rank, d_by_crank, d__law_pot, d__law_draw, d__law_rows, d__law_drawn_row, d__law_turned, d__law_crank, d__law_told_right, d__law_shared, d__law_rests_right, d__law_right, d_law]
def tabV : TabV := [v_is_integer, v_is_within_bounds, v_check_within, v_is_falling, v_is_row, v_check_row, v_times_in, v_rows_within, v_rank_of, v_crank_of, v_rank, v_crank, v_shared, v_by_rank, v_by_crank, v__law_pot, v__law_draw, v__law_rows, v__law_drawn_row, v__law_turned, v__law_crank, v__law_told_right, v__law_shared, v__law_rests_right, v__law_right, v_law]
def consts : List (Str × D) := [(("LEAST_BY" : Str), .int 2), (("MOST_BY" : Str), .int 20), (("MOST_LISTED" : Str), .int 24), (("MOST_SUM" : Str), .int 600)]
theorem tab_eq : defs.map (·.fn) = tabV.map FnV.fn := rfl
theorem chk : defs.all (defB consts (defs.map DefT.sig)) = true := by decide +kernel
theorem facts {K : PySem.W.Frag} {h : Heap} {mg : Str → Option Value} (X : K.In h) (G : h.Ns mainGlobals mg) {g0 g1 g2 g3 g4 g5 g6 g7 g8 g9 g10 g11 g12 g13 g14 g15 g16 g17 g18 g19 g20 g21 g22 g23 g24 g25 : Addr} {od0 an0 od1 an1 od2 an2 od3 an3 od4 an4 od5 an5 od6 an6 od7 an7 od8 an8 od9 an9 od10 an10 od11 an11 od12 an12 od13 an13 od14 an14 od15 an15 od16 an16 od17 an17 od18 an18 od19 an19 od20 an20 od21 an21 od22 an22 od23 an23 od24 an24 od25 an25 : Option Addr} {sl0 sl1 sl2 sl3 sl4 sl5 sl6 sl7 sl8 sl9 sl10 sl11 sl12 sl13 sl14 sl15 sl16 sl17 sl18 sl19 sl20 sl21 sl22 sl23 sl24 sl25 : Array (Option Value)} {oc0 kV0 dc0 pm0 cd0 ct0 oc1 kV1 dc1 pm1 cd1 ct1 oc2 kV2 dc2 pm2 cd2 ct2 oc3 kV3 dc3 pm3 cd3 ct3 oc4 kV4 dc4 pm4 cd4 ct4 oc5 kV5 dc5 pm5 cd5 ct5 oc6 kV6 dc6 pm6 cd6 ct6 oc7 kV7 dc7 pm7 cd7 ct7 oc8 kV8 dc8 pm8 cd8 ct8 oc9 kV9 dc9 pm9 cd9 ct9 oc10 kV10 dc10 pm10 cd10 ct10 oc11 kV11 dc11 pm11 cd11 ct11 oc12 kV12 dc12 pm12 cd12 ct12 oc13 kV13 dc13 pm13 cd13 ct13 oc14 kV14 dc14 pm14 cd14 ct14 oc15 kV15 dc15 pm15 cd15 ct15 oc16 kV16 dc16 pm16 cd16 ct16 oc17 kV17 dc17 pm17 cd17 ct17 oc18 kV18 dc18 pm18 cd18 ct18 oc19 kV19 dc19 pm19 cd19 ct19 oc20 kV20 dc20 pm20 cd20 ct20 oc21 kV21 dc21 pm21 cd21 ct21 oc22 kV22 dc22 pm22 cd22 ct22 oc23 kV23 dc23 pm23 cd23 ct23 oc24 kV24 dc24 pm24 cd24 ct24 oc25 kV25 dc25 pm25 cd25 ct25 : Value} {t0 t1 t2 t3 : Nat}
    (a0 : PySem.W.nsIn K mainGlobals "is_integer" = some (some (.ref g0))) (l0 : K.lookup g0 = some ⟨oc0, od0, .func (PySem.W.fnOf "is_integer" "is_integer" (defArgs st_is_integer) (defBody st_is_integer) (defScope st_is_integer) .none kV0 dc0 pm0 an0 cd0 ct0), sl0⟩) (c0 : PySem.W.codeIn K cd0 "is_integer" = true) (k0 : PySem.W.keepIn K (.ref g0) = true)
    (a1 : PySem.W.nsIn K mainGlobals "is_within_bounds" = some (some (.ref g1))) (l1 : K.lookup g1 = some ⟨oc1, od1, .func (PySem.W.fnOf "is_within_bounds" "is_within_bounds" (defArgs st_is_within_bounds) (defBody st_is_within_bounds) (defScope st_is_within_bounds) .none kV1 dc1 pm1 an1 cd1 ct1), sl1⟩) (c1 : PySem.W.codeIn K cd1 "is_within_bounds" = true) (k1 : PySem.W.keepIn K (.ref g1) = true)
    (a2 : PySem.W.nsIn K mainGlobals "check_within" = some (some (.ref g2))) (l2 : K.lookup g2 = some ⟨oc2, od2, .func (PySem.W.fnOf "check_within" "check_within" (defArgs st_check_within) (defBody st_check_within) (defScope st_check_within) .none kV2 dc2 pm2 an2 cd2 ct2), sl2⟩) (c2 : PySem.W.codeIn K cd2 "check_within" = true) (k2 : PySem.W.keepIn K (.ref g2) = true)
    (a3 : PySem.W.nsIn K mainGlobals "is_falling" = some (some (.ref g3))) (l3 : K.lookup g3 = some ⟨oc3, od3, .func (PySem.W.fnOf "is_falling" "is_falling" (defArgs st_is_falling) (defBody st_is_falling) (defScope st_is_falling) .none kV3 dc3 pm3 an3 cd3 ct3), sl3⟩) (c3 : PySem.W.codeIn K cd3 "is_falling" = true) (k3 : PySem.W.keepIn K (.ref g3) = true)
    (a4 : PySem.W.nsIn K mainGlobals "is_row" = some (some (.ref g4))) (l4 : K.lookup g4 = some ⟨oc4, od4, .func (PySem.W.fnOf "is_row" "is_row" (defArgs st_is_row) (defBody st_is_row) (defScope st_is_row) .none kV4 dc4 pm4 an4 cd4 ct4), sl4⟩) (c4 : PySem.W.codeIn K cd4 "is_row" = true) (k4 : PySem.W.keepIn K (.ref g4) = true)
    (a5 : PySem.W.nsIn K mainGlobals "check_row" = some (some (.ref g5))) (l5 : K.lookup g5 = some ⟨oc5, od5, .func (PySem.W.fnOf "check_row" "check_row" (defArgs st_check_row) (defBody st_check_row) (defScope st_check_row) .none kV5 dc5 pm5 an5 cd5 ct5), sl5⟩) (c5 : PySem.W.codeIn K cd5 "check_row" = true) (k5 : PySem.W.keepIn K (.ref g5) = true)
    (a6 : PySem.W.nsIn K mainGlobals "times_in" = some (some (.ref g6))) (l6 : K.lookup g6 = some ⟨oc6, od6, .func (PySem.W.fnOf "times_in" "times_in" (defArgs st_times_in) (defBody st_times_in) (defScope st_times_in) .none kV6 dc6 pm6 an6 cd6 ct6), sl6⟩) (c6 : PySem.W.codeIn K cd6 "times_in" = true) (k6 : PySem.W.keepIn K (.ref g6) = true)
    (a7 : PySem.W.nsIn K mainGlobals "rows_within" = some (some (.ref g7))) (l7 : K.lookup g7 = some ⟨oc7, od7, .func (PySem.W.fnOf "rows_within" "rows_within" (defArgs st_rows_within) (defBody st_rows_within) (defScope st_rows_within) .none kV7 dc7 pm7 an7 cd7 ct7), sl7⟩) (c7 : PySem.W.codeIn K cd7 "rows_within" = true) (k7 : PySem.W.keepIn K (.ref g7) = true)
    (a8 : PySem.W.nsIn K mainGlobals "rank_of" = some (some (.ref g8))) (l8 : K.lookup g8 = some ⟨oc8, od8, .func (PySem.W.fnOf "rank_of" "rank_of" (defArgs st_rank_of) (defBody st_rank_of) (defScope st_rank_of) .none kV8 dc8 pm8 an8 cd8 ct8), sl8⟩) (c8 : PySem.W.codeIn K cd8 "rank_of" = true) (k8 : PySem.W.keepIn K (.ref g8) = true)
    (a9 : PySem.W.nsIn K mainGlobals "crank_of" = some (some (.ref g9))) (l9 : K.lookup g9 = some ⟨oc9, od9, .func (PySem.W.fnOf "crank_of" "crank_of" (defArgs st_crank_of) (defBody st_crank_of) (defScope st_crank_of) .none kV9 dc9 pm9 an9 cd9 ct9), sl9⟩) (c9 : PySem.W.codeIn K cd9 "crank_of" = true) (k9 : PySem.W.keepIn K (.ref g9) = true)
    (a10 : PySem.W.nsIn K mainGlobals "rank" = some (some (.ref g10))) (l10 : K.lookup g10 = some ⟨oc10, od10, .func (PySem.W.fnOf "rank" "rank" (defArgs st_rank) (defBody st_rank) (defScope st_rank) .none kV10 dc10 pm10 an10 cd10 ct10), sl10⟩) (c10 : PySem.W.codeIn K cd10 "rank" = true) (k10 : PySem.W.keepIn K (.ref g10) = true)
    (a11 : PySem.W.nsIn K mainGlobals "crank" = some (some (.ref g11))) (l11 : K.lookup g11 = some ⟨oc11, od11, .func (PySem.W.fnOf "crank" "crank" (defArgs st_crank) (defBody st_crank) (defScope st_crank) .none kV11 dc11 pm11 an11 cd11 ct11), sl11⟩) (c11 : PySem.W.codeIn K cd11 "crank" = true) (k11 : PySem.W.keepIn K (.ref g11) = true)
    (a12 : PySem.W.nsIn K mainGlobals "shared" = some (some (.ref g12))) (l12 : K.lookup g12 = some ⟨oc12, od12, .func (PySem.W.fnOf "shared" "shared" (defArgs st_shared) (defBody st_shared) (defScope st_shared) .none kV12 dc12 pm12 an12 cd12 ct12), sl12⟩) (c12 : PySem.W.codeIn K cd12 "shared" = true) (k12 : PySem.W.keepIn K (.ref g12) = true)
    (a13 : PySem.W.nsIn K mainGlobals "by_rank" = some (some (.ref g13))) (l13 : K.lookup g13 = some ⟨oc13, od13, .func (PySem.W.fnOf "by_rank" "by_rank" (defArgs st_by_rank) (defBody st_by_rank) (defScope st_by_rank) .none kV13 dc13 pm13 an13 cd13 ct13), sl13⟩) (c13 : PySem.W.codeIn K cd13 "by_rank" = true) (k13 : PySem.W.keepIn K (.ref g13) = true)
    (a14 : PySem.W.nsIn K mainGlobals "by_crank" = some (some (.ref g14))) (l14 : K.lookup g14 = some ⟨oc14, od14, .func (PySem.W.fnOf "by_crank" "by_crank" (defArgs st_by_crank) (defBody st_by_crank) (defScope st_by_crank) .none kV14 dc14 pm14 an14 cd14 ct14), sl14⟩) (c14 : PySem.W.codeIn K cd14 "by_crank" = true) (k14 : PySem.W.keepIn K (.ref g14) = true)
    (a15 : PySem.W.nsIn K mainGlobals "_law_pot" = some (some (.ref g15))) (l15 : K.lookup g15 = some ⟨oc15, od15, .func (PySem.W.fnOf "_law_pot" "_law_pot" (defArgs st__law_pot) (defBody st__law_pot) (defScope st__law_pot) .none kV15 dc15 pm15 an15 cd15 ct15), sl15⟩) (c15 : PySem.W.codeIn K cd15 "_law_pot" = true) (k15 : PySem.W.keepIn K (.ref g15) = true)
    (a16 : PySem.W.nsIn K mainGlobals "_law_draw" = some (some (.ref g16))) (l16 : K.lookup g16 = some ⟨oc16, od16, .func (PySem.W.fnOf "_law_draw" "_law_draw" (defArgs st__law_draw) (defBody st__law_draw) (defScope st__law_draw) .none kV16 dc16 pm16 an16 cd16 ct16), sl16⟩) (c16 : PySem.W.codeIn K cd16 "_law_draw" = true) (k16 : PySem.W.keepIn K (.ref g16) = true)
    (a17 : PySem.W.nsIn K mainGlobals "_law_rows" = some (some (.ref g17))) (l17 : K.lookup g17 = some ⟨oc17, od17, .func (PySem.W.fnOf "_law_rows" "_law_rows" (defArgs st__law_rows) (defBody st__law_rows) (defScope st__law_rows) .none kV17 dc17 pm17 an17 cd17 ct17), sl17⟩) (c17 : PySem.W.codeIn K cd17 "_law_rows" = true) (k17 : PySem.W.keepIn K (.ref g17) = true)
    (a18 : PySem.W.nsIn K mainGlobals "_law_drawn_row" = some (some (.ref g18))) (l18 : K.lookup g18 = some ⟨oc18, od18, .func (PySem.W.fnOf "_law_drawn_row" "_law_drawn_row" (defArgs st__law_drawn_row) (defBody st__law_drawn_row) (defScope st__law_drawn_row) .none kV18 dc18 pm18 an18 cd18 ct18), sl18⟩) (c18 : PySem.W.codeIn K cd18 "_law_drawn_row" = true) (k18 : PySem.W.keepIn K (.ref g18) = true)
    (a19 : PySem.W.nsIn K mainGlobals "_law_turned" = some (some (.ref g19))) (l19 : K.lookup g19 = some ⟨oc19, od19, .func (PySem.W.fnOf "_law_turned" "_law_turned" (defArgs st__law_turned) (defBody st__law_turned) (defScope st__law_turned) .none kV19 dc19 pm19 an19 cd19 ct19), sl19⟩) (c19 : PySem.W.codeIn K cd19 "_law_turned" = true) (k19 : PySem.W.keepIn K (.ref g19) = true)
    (a20 : PySem.W.nsIn K mainGlobals "_law_crank" = some (some (.ref g20))) (l20 : K.lookup g20 = some ⟨oc20, od20, .func (PySem.W.fnOf "_law_crank" "_law_crank" (defArgs st__law_crank) (defBody st__law_crank) (defScope st__law_crank) .none kV20 dc20 pm20 an20 cd20 ct20), sl20⟩) (c20 : PySem.W.codeIn K cd20 "_law_crank" = true) (k20 : PySem.W.keepIn K (.ref g20) = true)
    (a21 : PySem.W.nsIn K mainGlobals "_law_told_right" = some (some (.ref g21))) (l21 : K.lookup g21 = some ⟨oc21, od21, .func (PySem.W.fnOf "_law_told_right" "_law_told_right" (defArgs st__law_told_right) (defBody st__law_told_right) (defScope st__law_told_right) .none kV21 dc21 pm21 an21 cd21 ct21), sl21⟩) (c21 : PySem.W.codeIn K cd21 "_law_told_right" = true) (k21 : PySem.W.keepIn K (.ref g21) = true)
    (a22 : PySem.W.nsIn K mainGlobals "_law_shared" = some (some (.ref g22))) (l22 : K.lookup g22 = some ⟨oc22, od22, .func (PySem.W.fnOf "_law_shared" "_law_shared" (defArgs st__law_shared) (defBody st__law_shared) (defScope st__law_shared) .none kV22 dc22 pm22 an22 cd22 ct22), sl22⟩) (c22 : PySem.W.codeIn K cd22 "_law_shared" = true) (k22 : PySem.W.keepIn K (.ref g22) = true)
    (a23 : PySem.W.nsIn K mainGlobals "_law_rests_right" = some (some (.ref g23))) (l23 : K.lookup g23 = some ⟨oc23, od23, .func (PySem.W.fnOf "_law_rests_right" "_law_rests_right" (defArgs st__law_rests_right) (defBody st__law_rests_right) (defScope st__law_rests_right) .none kV23 dc23 pm23 an23 cd23 ct23), sl23⟩) (c23 : PySem.W.codeIn K cd23 "_law_rests_right" = true) (k23 : PySem.W.keepIn K (.ref g23) = true)
    (a24 : PySem.W.nsIn K mainGlobals "_law_right" = some (some (.ref g24))) (l24 : K.lookup g24 = some ⟨oc24, od24, .func (PySem.W.fnOf "_law_right" "_law_right" (defArgs st__law_right) (defBody st__law_right) (defScope st__law_right) .none kV24 dc24 pm24 an24 cd24 ct24), sl24⟩) (c24 : PySem.W.codeIn K cd24 "_law_right" = true) (k24 : PySem.W.keepIn K (.ref g24) = true)
    (a25 : PySem.W.nsIn K mainGlobals "law" = some (some (.ref g25))) (l25 : K.lookup g25 = some ⟨oc25, od25, .func (PySem.W.fnOf "law" "law" (defArgs st_law) (defBody st_law) (defScope st_law) .none kV25 dc25 pm25 an25 cd25 ct25), sl25⟩) (c25 : PySem.W.codeIn K cd25 "law" = true) (k25 : PySem.W.keepIn K (.ref g25) = true)
    (q0 : PySem.W.nsIn K mainGlobals "LEAST_BY" = some (some (.int 2 t0)))
    (q1 : PySem.W.nsIn K mainGlobals "MOST_BY" = some (some (.int 20 t1)))
    (q2 : PySem.W.nsIn K mainGlobals "MOST_LISTED" = some (some (.int 24 t2)))
    (q3 : PySem.W.nsIn K mainGlobals "MOST_SUM" = some (some (.int 600 t3)))
    (b0 : PySem.W.nsIn K mainGlobals "isinstance" = some none)
    (b1 : PySem.W.nsIn K mainGlobals "bool" = some none)
    (b2 : PySem.W.nsIn K mainGlobals "str" = some none)
    (b3 : PySem.W.nsIn K mainGlobals "dict" = some none)
    (b4 : PySem.W.nsIn K mainGlobals "range" = some none)
    (b5 : PySem.W.nsIn K mainGlobals "int" = some none)
    (b6 : PySem.W.nsIn K mainGlobals "tuple" = some none)
    (b7 : PySem.W.nsIn K mainGlobals "list" = some none)
    (b8 : PySem.W.nsIn K mainGlobals "len" = some none)
    (b9 : PySem.W.nsIn K mainGlobals "sum" = some none)
    (b10 : PySem.W.nsIn K mainGlobals "all" = some none)
    (b11 : PySem.W.nsIn K mainGlobals "any" = some none)
    (b12 : PySem.W.nsIn K mainGlobals "max" = some none)
    (b13 : PySem.W.nsIn K mainGlobals "min" = some none)
    (b14 : PySem.W.nsIn K mainGlobals "abs" = some none)
    (b15 : PySem.W.nsIn K mainGlobals "sorted" = some none)
    (b16 : PySem.W.nsIn K mainGlobals "divmod" = some none)
    (b17 : PySem.W.nsIn K mainGlobals "repr" = some none)
    (b18 : PySem.W.nsIn K mainGlobals "enumerate" = some none) :
    (∀ d ∈ defs, DefOk K mg d) ∧ (∀ c ∈ consts, ConstOk K mg c) ∧ (∀ b, mg (biName b) = none) ∧ mg "range" = none ∧ ∀ x ∈ mOther, mg x = none := by
  refine ⟨all_c ?_ (all_c ?_ (all_c ?_ (all_c ?_ (all_c ?_ (all_c ?_ (all_c ?_ (all_c ?_ (all_c ?_ (all_c ?_ (all_c ?_ (all_c ?_ (all_c ?_ (all_c ?_ (all_c ?_ (all_c ?_ (all_c ?_ (all_c ?_ (all_c ?_ (all_c ?_ (all_c ?_ (all_c ?_ (all_c ?_ (all_c ?_ (all_c ?_ (all_c ?_ (all_n)))))))))))))))))))))))))), all_c ?_ (all_c ?_ (all_c ?_ (all_c ?_ (all_n)))), ?_, PySem.W.mg_none_of X G b4, all_c (PySem.W.mg_none_of X G b0) (all_c (PySem.W.mg_none_of X G b1) (all_c (PySem.W.mg_none_of X G b2) (all_c (PySem.W.mg_none_of X G b3) (all_c (PySem.W.mg_none_of X G b18) all_n))))⟩
  · exact def_ok X G a0 l0 c0 k0 (fun _ _ _ _ _ _ us hl => match us, hl with | [_], _ => rfl) all_n
  · exact def_ok X G a1 l1 c1 k1 (fun _ _ _ _ _ _ us hl => match us, hl with | [_, _, _], _ => rfl) all_n
  · exact def_ok X G a2 l2 c2 k2 (fun _ _ _ _ _ _ us hl => match us, hl with | [_, _, _], _ => rfl) all_n
  · exact def_ok X G a3 l3 c3 k3 (fun _ _ _ _ _ _ us hl => match us, hl with | [_, _], _ => rfl) all_n
  · exact def_ok X G a4 l4 c4 k4 (fun _ _ _ _ _ _ us hl => match us, hl with | [_], _ => rfl) all_n
  · exact def_ok X G a5 l5 c5 k5 (fun _ _ _ _ _ _ us hl => match us, hl with | [_], _ => rfl) all_n
  · exact def_ok X G a6 l6 c6 k6 (fun _ _ _ _ _ _ us hl => match us, hl with | [_, _], _ => rfl) all_n
  · exact def_ok X G a7 l7 c7 k7 (fun _ _ _ _ _ _ us hl => match us, hl with | [_, _], _ => rfl) all_n
  · exact def_ok X G a8 l8 c8 k8 (fun _ _ _ _ _ _ us hl => match us, hl with | [_], _ => rfl) all_n
  · exact def_ok X G a9 l9 c9 k9 (fun _ _ _ _ _ _ us hl => match us, hl with | [_], _ => rfl) all_n
  · exact def_ok X G a10 l10 c10 k10 (fun _ _ _ _ _ _ us hl => match us, hl with | [_], _ => rfl) (all_c (fun _ _ _ _ _ _ us ws h1 h2 => match us, ws, h1, h2 with | [], [_], _, _ => rfl) all_n)
  · exact def_ok X G a11 l11 c11 k11 (fun _ _ _ _ _ _ us hl => match us, hl with | [_], _ => rfl) (all_c (fun _ _ _ _ _ _ us ws h1 h2 => match us, ws, h1, h2 with | [], [_], _, _ => rfl) all_n)
  · exact def_ok X G a12 l12 c12 k12 (fun _ _ _ _ _ _ us hl => match us, hl with | [_, _], _ => rfl) all_n
  · exact def_ok X G a13 l13 c13 k13 (fun _ _ _ _ _ _ us hl => match us, hl with | [_, _], _ => rfl) (all_c (fun _ _ _ _ _ _ us ws h1 h2 => match us, ws, h1, h2 with | [], [_, _], _, _ => rfl) all_n)
  · exact def_ok X G a14 l14 c14 k14 (fun _ _ _ _ _ _ us hl => match us, hl with | [_, _], _ => rfl) (all_c (fun _ _ _ _ _ _ us ws h1 h2 => match us, ws, h1, h2 with | [], [_, _], _, _ => rfl) all_n)
  · exact def_ok X G a15 l15 c15 k15 (fun _ _ _ _ _ _ us hl => match us, hl with | [_, _], _ => rfl) all_n
  · exact def_ok X G a16 l16 c16 k16 (fun _ _ _ _ _ _ us hl => match us, hl with | [_, _], _ => rfl) all_n
  · exact def_ok X G a17 l17 c17 k17 (fun _ _ _ _ _ _ us hl => match us, hl with | [_], _ => rfl) all_n
  · exact def_ok X G a18 l18 c18 k18 (fun _ _ _ _ _ _ us hl => match us, hl with | [_, _], _ => rfl) all_n
  · exact def_ok X G a19 l19 c19 k19 (fun _ _ _ _ _ _ us hl => match us, hl with | [_], _ => rfl) all_n
  · exact def_ok X G a20 l20 c20 k20 (fun _ _ _ _ _ _ us hl => match us, hl with | [_], _ => rfl) all_n
  · exact def_ok X G a21 l21 c21 k21 (fun _ _ _ _ _ _ us hl => match us, hl with | [_], _ => rfl) all_n
  · exact def_ok X G a22 l22 c22 k22 (fun _ _ _ _ _ _ us hl => match us, hl with | [_, _], _ => rfl) all_n
  · exact def_ok X G a23 l23 c23 k23 (fun _ _ _ _ _ _ us hl => match us, hl with | [_], _ => rfl) all_n
  · exact def_ok X G a24 l24 c24 k24 (fun _ _ _ _ _ _ us hl => match us, hl with | [_], _ => rfl) all_n
  · exact def_ok X G a25 l25 c25 k25 (fun _ _ _ _ _ _ us hl => match us, hl with | [_], _ => rfl) all_n
  · exact const_int X G q0
  · exact const_int X G q1
  · exact const_int X G q2
  · exact const_int X G q3
  · intro b
    cases b
    · exact PySem.W.mg_none_of X G b8
    · exact PySem.W.mg_none_of X G b9
    · exact PySem.W.mg_none_of X G b10
    · exact PySem.W.mg_none_of X G b11
    · exact PySem.W.mg_none_of X G b12
    · exact PySem.W.mg_none_of X G b13
    · exact PySem.W.mg_none_of X G b14
    · exact PySem.W.mg_none_of X G b5
    · exact PySem.W.mg_none_of X G b6
    · exact PySem.W.mg_none_of X G b7
    · exact PySem.W.mg_none_of X G b15
    · exact PySem.W.mg_none_of X G b16
    · exact PySem.W.mg_none_of X G b17
end K56
/-! ## K56b.lean -/
set_option Elab.async false
set_option linter.all false
set_option maxRecDepth 100000
set_option maxHeartbeats 4000000
namespace K56
open PySem MP L2
def s_l_pot_b0 (each : Int) (mixed : Int) : Option (Int) := some (let mixed : Int := ((((mixed * 40961) + (each % 2147483549)) + 31) % 2147483549); mixed)
theorem B_l_pot_b0 (n : Nat) (script : List Int) (turn : Int) (cell : Int) (each : Int) (mixed : Int) : TJ (callV' tabV (n + 0)) [false, false] b__law_pot_0 [some (vD D.scr script), some (vI turn), some (vI cell), some (vI mixed), some (vI each)] [dead, dead, dead, dead, dead] (s_l_pot_b0 each mixed) (fun s : Int => OutV.nx [some (vD D.scr script), some (vI turn), some (vI cell), some (vI s), none] [dead, dead, dead, dead, dead]) := by
  have key : TJ (callV' tabV (n + 0)) [false, false] b__law_pot_0 [some (vD D.scr script), some (vI turn), some (vI cell), some (vI mixed), some (vI each)] [dead, dead, dead, dead, dead] _ (fun s : Int => OutV.nx [some (vD D.scr script), some (vI turn), some (vI cell), some (vI s), none] [dead, dead, dead, dead, dead]) := (T.asgP (V := vI) (ρ' := fun mixed => [some (vD D.scr script), some (vI turn), some (vI cell), some (vI mixed), some (vI each)]) (h' := fun mixed => [dead, dead, dead, dead, dead]) (J.two (op := fun (x y : Int) => some (x % y)) (V := vI) (J.b1 (k := .int) (op := fun x => some (x)) (V := vI) (J.two (op := fun (x y : Int) => some (x + y)) (V := vI) (J.two (op := fun (x y : Int) => some (x + y)) (V := vI) (J.two (op := fun (x y : Int) => some (x * y)) (V := vI) (J.var (i := 3) (V := vI) (x := mixed) rfl) (J.lit (V := vI) (x := 40961) rfl) (fun x y e1 e2 => by cases e2; exact op_mulR rfl)) (J.two (op := fun (x y : Int) => some (x % y)) (V := vI) (J.b1 (k := .int) (op := fun x => some (x)) (V := vI) (J.var (i := 4) (V := vI) (x := each) rfl) (fun x e => b_int x)) (J.lit (V := vI) (x := 2147483549) rfl) (fun x y e1 e2 => by cases e2; exact op_modL rfl)) (fun _ _ _ _ => rfl)) (J.lit (V := vI) (x := 31) rfl) (fun _ _ _ _ => rfl)) (fun x e => b_int x)) (J.lit (V := vI) (x := 2147483549) rfl) (fun x y e1 e2 => by cases e2; exact op_modL rfl)) (fun _ => rfl) (fun mixed => (T.kill (is := [4]) (ρ' := [some (vD D.scr script), some (vI turn), some (vI cell), some (vI mixed), none]) (h' := [dead, dead, dead, dead, dead]) rfl (T.nil (s := mixed) rfl))))
  first | exact TJ.of_eq key (by simp -implicitDefEqProofs only [s_l_pot_b0, Option.bind_assoc, Option.bind_some, Option.bind_none, Option.bind_fun_some] <;> rfl) | exact key
def s_l_pot (script : List Int) (turn : Int) : Option (List Int) := ((some (decide (turn < ((script.length : Nat) : Int)))).bind fun x2 => if x2 then (atI script turn).bind fun x1 => some x1 else some ((6007 * turn) + ((List.sum (cutD script none (some 1))) % 1000003))).bind fun cell => (let mixed : Int := (52361 + (811 * turn)); (catS (cutD script none (some 6)) ([cell] : List Int)).bind fun x4 => (forN (fun (each : Int) (s : Int) => s_l_pot_b0 each s) x4 mixed).bind fun (x3 : Int) => some ([(if ((decide (cell < 0)) || (decide ((10 ^ 18 : Int) ≤ cell))) then (if cell < 0 then -cell else cell) else 0), x3, 0] : List Int))
theorem B_l_pot (n : Nat) (script : List Int) (turn : Int) : TJ (callV' tabV (n + 0)) [false, false] v__law_pot.body [some (vD D.scr script), some (vI turn), none, none, none] [dead, dead, dead, dead, dead] (s_l_pot script turn) (fun z : List Int => OutV.rt ((fun z : List Int => ((Ret.new (List.map D.int z), []) : Ret × List (List D))) z).1 ((fun z : List Int => ((Ret.new (List.map D.int z), []) : Ret × List (List D))) z).2) := by
  have key : TJ (callV' tabV (n + 0)) [false, false] v__law_pot.body [some (vD D.scr script), some (vI turn), none, none, none] [dead, dead, dead, dead, dead] _ (fun z : List Int => OutV.rt ((fun z : List Int => ((Ret.new (List.map D.int z), []) : Ret × List (List D))) z).1 ((fun z : List Int => ((Ret.new (List.map D.int z), []) : Ret × List (List D))) z).2) := (T.asgP (V := vI) (ρ' := fun cell => [some (vD D.scr script), some (vI turn), some (vI cell), none, none]) (h' := fun cell => [dead, dead, dead, dead, dead]) (J.ife (JT.bo (J.cmp (op := fun x y => some (decide (x < y))) (J.var (i := 1) (V := vI) (x := turn) rfl) (J.b1 (k := .len) (op := fun x => some (((x.length : Nat) : Int))) (V := vI) (J.var (i := 0) (V := (vD D.scr)) (x := script) rfl) (fun x e => rfl)) (fun x y e1 e2 => rfl))) (J.b1 (k := .int) (op := fun x => some (x)) (V := vI) (J.sub (op := fun x y => atI x y) (V := vI) (J.var (i := 0) (V := (vD D.scr)) (x := script) rfl) (J.var (i := 1) (V := vI) (x := turn) rfl) (fun x y e1 e2 => op_ixS x y)) (fun x e => b_int x)) (J.two (op := fun (x y : Int) => some (x + y)) (V := vI) (J.two (op := fun (x y : Int) => some (x * y)) (V := vI) (J.lit (V := vI) (x := 6007) rfl) (J.var (i := 1) (V := vI) (x := turn) rfl) (fun x y e1 e2 => by cases e1; exact op_mulL rfl)) (J.two (op := fun (x y : Int) => some (x % y)) (V := vI) (J.b1 (k := .int) (op := fun x => some (x)) (V := vI) (J.b1 (k := .sum) (op := fun x => some ((List.sum x))) (V := vI) (J.sl (op := fun x l u => cutD x l u) (V := (vN D.int)) (J.var (i := 0) (V := (vD D.scr)) (x := script) rfl) JO.no (JO.yes (J.lit (V := vI) (x := 1) rfl)) (fun x l u e => rfl)) (fun x e => b_sum rfl)) (fun x e => b_int x)) (J.lit (V := vI) (x := 1000003) rfl) (fun x y e1 e2 => by cases e2; exact op_modL rfl)) (fun _ _ _ _ => rfl))) (fun _ => rfl) (fun cell => (T.asgP (V := vI) (ρ' := fun mixed => [some (vD D.scr script), some (vI turn), some (vI cell), some (vI mixed), none]) (h' := fun mixed => [dead, dead, dead, dead, dead]) (J.two (op := fun (x y : Int) => some (x + y)) (V := vI) (J.lit (V := vI) (x := 52361) rfl) (J.two (op := fun (x y : Int) => some (x * y)) (V := vI) (J.lit (V := vI) (x := 811) rfl) (J.var (i := 1) (V := vI) (x := turn) rfl) (fun x y e1 e2 => by cases e1; exact op_mulL rfl)) (fun _ _ _ _ => rfl)) (fun _ => rfl) (fun mixed => (T.for_ (tg := (.nm 4)) (body := b__law_pot_0) (g := (vD D.int)) (b := none) (ρs := (fun s => [some (vD D.scr script), some (vI turn), some (vI cell), some (vI s), none])) (hs := (fun s => [dead, dead, dead, dead, dead])) (hs' := (fun s => [dead, dead, dead, dead, dead])) (ρb := (fun each s => [some (vD D.scr script), some (vI turn), some (vI cell), some (vI s), some (vI each)])) (hb := (fun each s => [dead, dead, dead, dead, dead])) (mb := fun (each : Int) (s : Int) => s_l_pot_b0 each s) (s0 := mixed) (JI.val (f := D.int) (J.two (op := fun x y => catS x y) (V := (vN D.int)) (J.sl (op := fun x l u => cutD x l u) (V := (vN D.int)) (J.var (i := 0) (V := (vD D.scr)) (x := script) rfl) JO.no (JO.yes (J.lit (V := vI) (x := 6) rfl)) (fun x l u e => rfl)) (J.lst (ds := fun r => [D.int r.1]) (g := fun r => some ([r.1] : List Int)) (V := (vN D.int)) (Js.cons (J.var (i := 2) (V := vI) (x := cell) rfl) Js.nil) (fun _ => rfl) (fun _ => rfl)) (fun x y e1 e2 => op_cat (f := D.int) rfl rfl)) (fun _ _ => rfl)) rfl rfl (fun _ _ => rfl) (fun each s => by exact B_l_pot_b0 n script turn cell each s) (fun _ => rfl) (fun x3 => (T.retP (V := (vN D.int)) (g := fun z => z) (J.lst (ds := fun r => [D.int r.1, D.int r.2.1, D.int r.2.2.1]) (g := fun r => some ([r.1, r.2.1, r.2.2.1] : List Int)) (V := (vN D.int)) (Js.cons (J.ifeP (JT.orP (JT.bo (J.cmp (op := fun x y => some (decide (x < y))) (J.var (i := 2) (V := vI) (x := cell) rfl) (J.lit (V := vI) (x := 0) rfl) (fun x y e1 e2 => rfl))) (JT.one (JT.bo (J.cmp (op := fun x y => some (decide (y ≤ x))) (J.var (i := 2) (V := vI) (x := cell) rfl) (J.two (op := fun (x y : Int) => some (x ^ y.toNat)) (V := vI) (J.lit (V := vI) (x := 10) rfl) (J.lit (V := vI) (x := 18) rfl) (fun x y e1 e2 => by cases e1; cases e2; exact op_powL rfl)) (fun x y e1 e2 => rfl))))) (J.b1 (k := .abs) (op := fun x => some ((if x < 0 then -x else x))) (V := vI) (J.var (i := 2) (V := vI) (x := cell) rfl) (fun x e => b_abs x)) (J.lit (V := vI) (x := 0) rfl)) (Js.cons (J.var (i := 3) (V := vI) (x := x3) rfl) (Js.cons (J.lit (V := vI) (x := 0) rfl) Js.nil))) (fun _ => rfl) (fun _ => rfl)) (fun _ _ => rfl) (fun _ => rfl))))))))
  first | exact TJ.of_eq key (by simp -implicitDefEqProofs only [s_l_pot, Option.bind_assoc, Option.bind_some, Option.bind_none, Option.bind_fun_some] <;> rfl) | exact key
theorem L_l_pot (n : Nat) (script : List Int) (turn : Int) : ∀ z, s_l_pot script turn = some z → callV' tabV (n + 1) 15 [Arg.p (D.scr script), Arg.p (D.int turn)] = some ((fun z : List Int => ((Ret.new (List.map D.int z), []) : Ret × List (List D))) z) :=
  run_link (n := n + 0) (fn := v__law_pot) (En := (fun z : List Int => OutV.rt ((fun z : List Int => ((Ret.new (List.map D.int z), []) : Ret × List (List D))) z).1 ((fun z : List Int => ((Ret.new (List.map D.int z), []) : Ret × List (List D))) z).2)) (R := (fun z : List Int => ((Ret.new (List.map D.int z), []) : Ret × List (List D)))) rfl rfl (B_l_pot n script turn) (fun _ => rfl)
def s_l_draw (pot : List Int) (size : Int) : Option (Int × List Int) := ((atI pot 2).bind fun x1 => some (x1 + 1)).bind fun x21 => (setS pot 2 x21).bind fun pot => ((atI pot 0).bind fun x2 => some (decide (0 < x2))).bind fun x20 => if x20 then ((atI pot 0).bind fun x3 => divS x3 size).bind fun x4 => (setS pot 0 x4.1).bind fun pot => some (x4.2, pot) else ((((atI pot 1).bind fun x5 => some x5).bind fun x6 => some (x6 % 30011)).bind fun x7 => some (x7 + 40013)).bind fun by' => ((((((atI pot 1).bind fun x8 => mulS x8 by').bind fun x10 => ((atI pot 2).bind fun x9 => some (60013 * x9)).bind fun x11 => some (x10 + x11)).bind fun x12 => some (x12 + 11)).bind fun x13 => some x13).bind fun x14 => some (x14 % 2147483549)).bind fun x19 => (setS pot 1 x19).bind fun pot => ((((atI pot 1).bind fun x15 => some (x15 / 97)).bind fun x16 => some x16).bind fun x17 => modS x17 size).bind fun x18 => some (x18, pot)
theorem B_l_draw (n : Nat) (pot : List Int) (size : Int) : TJ (callV' tabV (n + 0)) [true, false] v__law_draw.body [some (.loc 0), some (vI size), none, none] [.lst false (List.map D.int pot), dead, dead, dead] (s_l_draw pot size) (fun z : Int × List Int => OutV.rt ((fun z : Int × List Int => ((Ret.p (D.int z.1), [List.map D.int z.2]) : Ret × List (List D))) z).1 ((fun z : Int × List Int => ((Ret.p (D.int z.1), [List.map D.int z.2]) : Ret × List (List D))) z).2) := by
  have key : TJ (callV' tabV (n + 0)) [true, false] v__law_draw.body [some (.loc 0), some (vI size), none, none] [.lst false (List.map D.int pot), dead, dead, dead] _ (fun z : Int × List Int => OutV.rt ((fun z : Int × List Int => ((Ret.p (D.int z.1), [List.map D.int z.2]) : Ret × List (List D))) z).1 ((fun z : Int × List Int => ((Ret.p (D.int z.1), [List.map D.int z.2]) : Ret × List (List D))) z).2) := (T.set (n := 0) (f := D.int) (xs := pot) (h' := fun pot => [.lst false (List.map D.int pot), dead, dead, dead]) (J.two (op := fun (x y : Int) => some (x + y)) (V := vI) (J.sub (op := fun x y => atI x y) (V := vI) (J.var (i := 0) (V := (vL 0)) (x := pot) rfl) (J.lit (V := vI) (x := 2) rfl) (fun x y e1 e2 => op_ix (f := D.int) (seq_loc rfl e1))) (J.lit (V := vI) (x := 1) rfl) (fun _ _ _ _ => rfl)) (fun _ => rfl) rfl (J.lit (V := vI) (x := 2) rfl) rfl (fun _ => rfl) (fun pot => (T.ifTP (JT.bo (J.cmp (op := fun x y => some (decide (y < x))) (J.sub (op := fun x y => atI x y) (V := vI) (J.var (i := 0) (V := (vL 0)) (x := pot) rfl) (J.lit (V := vI) (x := 0) rfl) (fun x y e1 e2 => op_ix (f := D.int) (seq_loc rfl e1))) (J.lit (V := vI) (x := 0) rfl) (fun x y e1 e2 => rfl))) (T.tsn (n := 0) (xs := pot) (p := fun (x4 : Int × Int) => x4.1) (r := fun (x4 : Int × Int) => x4.2) (ρ' := fun x4 => [some (.loc 0), some (vI size), none, some (vI x4.2)]) (h' := fun pot x4 => [.lst false (List.map D.int pot), dead, dead, dead]) (J.b2 (k := .divmod) (op := fun x y => divS x y) (V := vD (eP D.int D.int)) (J.sub (op := fun x y => atI x y) (V := vI) (J.var (i := 0) (V := (vL 0)) (x := pot) rfl) (J.lit (V := vI) (x := 0) rfl) (fun x y e1 e2 => op_ix (f := D.int) (seq_loc rfl e1))) (J.var (i := 1) (V := vI) (x := size) rfl) (fun x y => b2_div x y)) (fun _ => rfl) rfl (J.lit (V := vI) (x := 0) rfl) rfl (fun _ _ => rfl) (fun pot x4 => (T.retP (V := vI) (g := fun z => (z, pot)) (J.var (i := 3) (V := vI) (x := x4.2) rfl) (fun _ _ => rfl) (fun _ => rfl)))) (fun _ _ => rfl) (T.asgP (V := vI) (ρ' := fun by' => [some (.loc 0), some (vI size), some (vI by'), none]) (h' := fun by' => [.lst false (List.map D.int pot), dead, dead, dead]) (J.two (op := fun (x y : Int) => some (x + y)) (V := vI) (J.two (op := fun (x y : Int) => some (x % y)) (V := vI) (J.b1 (k := .int) (op := fun x => some (x)) (V := vI) (J.sub (op := fun x y => atI x y) (V := vI) (J.var (i := 0) (V := (vL 0)) (x := pot) rfl) (J.lit (V := vI) (x := 1) rfl) (fun x y e1 e2 => op_ix (f := D.int) (seq_loc rfl e1))) (fun x e => b_int x)) (J.lit (V := vI) (x := 30011) rfl) (fun x y e1 e2 => by cases e2; exact op_modL rfl)) (J.lit (V := vI) (x := 40013) rfl) (fun _ _ _ _ => rfl)) (fun _ => rfl) (fun by' => (T.set (n := 0) (f := D.int) (xs := pot) (h' := fun pot => [.lst false (List.map D.int pot), dead, dead, dead]) (J.two (op := fun (x y : Int) => some (x % y)) (V := vI) (J.b1 (k := .int) (op := fun x => some (x)) (V := vI) (J.two (op := fun (x y : Int) => some (x + y)) (V := vI) (J.two (op := fun (x y : Int) => some (x + y)) (V := vI) (J.two (op := fun x y => mulS x y) (V := vI) (J.sub (op := fun x y => atI x y) (V := vI) (J.var (i := 0) (V := (vL 0)) (x := pot) rfl) (J.lit (V := vI) (x := 1) rfl) (fun x y e1 e2 => op_ix (f := D.int) (seq_loc rfl e1))) (J.var (i := 2) (V := vI) (x := by') rfl) (fun x y _ _ => op_mul x y)) (J.two (op := fun (x y : Int) => some (x * y)) (V := vI) (J.lit (V := vI) (x := 60013) rfl) (J.sub (op := fun x y => atI x y) (V := vI) (J.var (i := 0) (V := (vL 0)) (x := pot) rfl) (J.lit (V := vI) (x := 2) rfl) (fun x y e1 e2 => op_ix (f := D.int) (seq_loc rfl e1))) (fun x y e1 e2 => by cases e1; exact op_mulL rfl)) (fun _ _ _ _ => rfl)) (J.lit (V := vI) (x := 11) rfl) (fun _ _ _ _ => rfl)) (fun x e => b_int x)) (J.lit (V := vI) (x := 2147483549) rfl) (fun x y e1 e2 => by cases e2; exact op_modL rfl)) (fun _ => rfl) rfl (J.lit (V := vI) (x := 1) rfl) rfl (fun _ => rfl) (fun pot => (T.retP (V := vI) (g := fun z => (z, pot)) (J.two (op := fun x y => modS x y) (V := vI) (J.b1 (k := .int) (op := fun x => some (x)) (V := vI) (J.two (op := fun (x y : Int) => some (x / y)) (V := vI) (J.sub (op := fun x y => atI x y) (V := vI) (J.var (i := 0) (V := (vL 0)) (x := pot) rfl) (J.lit (V := vI) (x := 1) rfl) (fun x y e1 e2 => op_ix (f := D.int) (seq_loc rfl e1))) (J.lit (V := vI) (x := 97) rfl) (fun x y e1 e2 => by cases e2; exact op_fdivL rfl)) (fun x e => b_int x)) (J.var (i := 1) (V := vI) (x := size) rfl) (fun x y _ _ => op_mod x y)) (fun _ _ => rfl) (fun _ => rfl)))))))))
  first | exact TJ.of_eq key (by simp -implicitDefEqProofs only [s_l_draw, Option.bind_assoc, Option.bind_some, Option.bind_none, Option.bind_fun_some] <;> rfl) | exact key
theorem L_l_draw (n : Nat) (pot : List Int) (size : Int) : ∀ z, s_l_draw pot size = some z → callV' tabV (n + 1) 16 [Arg.lst (List.map D.int pot), Arg.p (D.int size)] = some ((fun z : Int × List Int => ((Ret.p (D.int z.1), [List.map D.int z.2]) : Ret × List (List D))) z) :=
  run_link (n := n + 0) (fn := v__law_draw) (En := (fun z : Int × List Int => OutV.rt ((fun z : Int × List Int => ((Ret.p (D.int z.1), [List.map D.int z.2]) : Ret × List (List D))) z).1 ((fun z : Int × List Int => ((Ret.p (D.int z.1), [List.map D.int z.2]) : Ret × List (List D))) z).2)) (R := (fun z : Int × List Int => ((Ret.p (D.int z.1), [List.map D.int z.2]) : Ret × List (List D)))) rfl rfl (B_l_draw n pot size) (fun _ => rfl)
def s_l_rows_b2 (size : Int) (row : List Int) (total : Int) (many : Int) (longer : List (List Int × Int)) : Option (List (List Int × Int)) := (((timesTS ([size] : List Int) many).bind fun x4 => catS x4 row).bind fun x6 => ((mulS size many).bind fun x5 => some (total + x5)).bind fun x7 => some (x6, x7)).bind fun x8 => (appS longer x8).bind fun longer => some longer
theorem B_l_rows_b2 (n : Nat) (number : Int) (found : List (List Int × Int)) (size : Int) (row : List Int) (total : Int) (many : Int) (longer : List (List Int × Int)) : TJ (callV' tabV (n + 0)) [false] b__law_rows_2 [some (vI number), some (.loc 1), some (vI size), some (.loc 3), some (vT D.int row), some (vI total), some (vI many)] [dead, .lst true (List.map (eP (eT D.int) D.int) found), dead, .lst false (List.map (eP (eT D.int) D.int) longer), dead, dead, dead] (s_l_rows_b2 size row total many longer) (fun s : List (List Int × Int) => OutV.nx [some (vI number), some (.loc 1), some (vI size), some (.loc 3), some (vT D.int row), some (vI total), none] [dead, .lst true (List.map (eP (eT D.int) D.int) found), dead, .lst false (List.map (eP (eT D.int) D.int) s), dead, dead, dead]) := by
  have key : TJ (callV' tabV (n + 0)) [false] b__law_rows_2 [some (vI number), some (.loc 1), some (vI size), some (.loc 3), some (vT D.int row), some (vI total), some (vI many)] [dead, .lst true (List.map (eP (eT D.int) D.int) found), dead, .lst false (List.map (eP (eT D.int) D.int) longer), dead, dead, dead] _ (fun s : List (List Int × Int) => OutV.nx [some (vI number), some (.loc 1), some (vI size), some (.loc 3), some (vT D.int row), some (vI total), none] [dead, .lst true (List.map (eP (eT D.int) D.int) found), dead, .lst false (List.map (eP (eT D.int) D.int) s), dead, dead, dead]) := (T.app (n := 3) (f := (eP (eT D.int) D.int)) (xs := longer) (h' := fun longer => [dead, .lst true (List.map (eP (eT D.int) D.int) found), dead, .lst false (List.map (eP (eT D.int) D.int) longer), dead, dead, dead]) rfl (J.tup (ds := fun r => [(eT D.int) r.1, D.int r.2.1]) (g := fun r => some (r.1, r.2.1)) (V := (vD (eP (eT D.int) D.int))) (Js.cons (J.two (op := fun x y => catS x y) (V := (vT D.int)) (J.two (op := fun x y => timesTS x y) (V := (vT D.int)) (J.tup (ds := fun r => [D.int r.1]) (g := fun r => some ([r.1] : List Int)) (V := (vT D.int)) (Js.cons (J.var (i := 2) (V := vI) (x := size) rfl) Js.nil) (fun _ => rfl) (fun _ => rfl)) (J.var (i := 6) (V := vI) (x := many) rfl) (fun x y e1 e2 => op_timesT (f := D.int))) (J.var (i := 4) (V := (vT D.int)) (x := row) rfl) (fun x y e1 e2 => op_catT (f := D.int) rfl rfl)) (Js.cons (J.two (op := fun (x y : Int) => some (x + y)) (V := vI) (J.var (i := 5) (V := vI) (x := total) rfl) (J.two (op := fun x y => mulS x y) (V := vI) (J.var (i := 2) (V := vI) (x := size) rfl) (J.var (i := 6) (V := vI) (x := many) rfl) (fun x y _ _ => op_mul x y)) (fun _ _ _ _ => rfl)) Js.nil)) (fun _ => rfl) (fun _ => rfl)) (fun _ => rfl) rfl (fun _ => rfl) (fun longer => (T.kill (is := [6]) (ρ' := [some (vI number), some (.loc 1), some (vI size), some (.loc 3), some (vT D.int row), some (vI total), none]) (h' := [dead, .lst true (List.map (eP (eT D.int) D.int) found), dead, .lst false (List.map (eP (eT D.int) D.int) longer), dead, dead, dead]) rfl (T.nil (s := longer) rfl))))
  first | exact TJ.of_eq key (by simp -implicitDefEqProofs only [s_l_rows_b2, Option.bind_assoc, Option.bind_some, Option.bind_none, Option.bind_fun_some] <;> rfl) | exact key
def s_l_rows_b1 (number : Int) (size : Int) (x1 : (List Int × Int)) (longer : List (List Int × Int)) : Option (List (List Int × Int)) := (((fdivS (number - x1.2) size).bind fun x2 => some (x2 + 1)).bind fun x3 => rng1 x3).bind fun x10 => (forN (fun (many : Int) (s : List (List Int × Int)) => s_l_rows_b2 size x1.1 x1.2 many s) x10 longer).bind fun (x9 : List (List Int × Int)) => some x9
theorem B_l_rows_b1 (n : Nat) (number : Int) (found : List (List Int × Int)) (size : Int) (x1 : (List Int × Int)) (longer : List (List Int × Int)) : TJ (callV' tabV (n + 0)) [false] b__law_rows_1 [some (vI number), some (.loc 1), some (vI size), some (.loc 3), some (vT D.int x1.1), some (vI x1.2), none] [dead, .lst true (List.map (eP (eT D.int) D.int) found), dead, .lst false (List.map (eP (eT D.int) D.int) longer), dead, dead, dead] (s_l_rows_b1 number size x1 longer) (fun s : List (List Int × Int) => OutV.nx [some (vI number), some (.loc 1), some (vI size), some (.loc 3), none, none, none] [dead, .lst true (List.map (eP (eT D.int) D.int) found), dead, .lst false (List.map (eP (eT D.int) D.int) s), dead, dead, dead]) := by
  have key : TJ (callV' tabV (n + 0)) [false] b__law_rows_1 [some (vI number), some (.loc 1), some (vI size), some (.loc 3), some (vT D.int x1.1), some (vI x1.2), none] [dead, .lst true (List.map (eP (eT D.int) D.int) found), dead, .lst false (List.map (eP (eT D.int) D.int) longer), dead, dead, dead] _ (fun s : List (List Int × Int) => OutV.nx [some (vI number), some (.loc 1), some (vI size), some (.loc 3), none, none, none] [dead, .lst true (List.map (eP (eT D.int) D.int) found), dead, .lst false (List.map (eP (eT D.int) D.int) s), dead, dead, dead]) := (T.for_ (tg := (.nm 6)) (body := b__law_rows_2) (g := vI) (b := none) (ρs := (fun s => [some (vI number), some (.loc 1), some (vI size), some (.loc 3), some (vT D.int x1.1), some (vI x1.2), none])) (hs := (fun s => [dead, .lst true (List.map (eP (eT D.int) D.int) found), dead, .lst false (List.map (eP (eT D.int) D.int) s), dead, dead, dead])) (hs' := (fun s => [dead, .lst true (List.map (eP (eT D.int) D.int) found), dead, .lst false (List.map (eP (eT D.int) D.int) s), dead, dead, dead])) (ρb := (fun many s => [some (vI number), some (.loc 1), some (vI size), some (.loc 3), some (vT D.int x1.1), some (vI x1.2), some (vI many)])) (hb := (fun many s => [dead, .lst true (List.map (eP (eT D.int) D.int) found), dead, .lst false (List.map (eP (eT D.int) D.int) s), dead, dead, dead])) (mb := fun (many : Int) (s : List (List Int × Int)) => s_l_rows_b2 size x1.1 x1.2 many s) (s0 := longer) (JI.rng1 (J.two (op := fun (x y : Int) => some (x + y)) (V := vI) (J.two (op := fun x y => fdivS x y) (V := vI) (J.two (op := fun (x y : Int) => some (x - y)) (V := vI) (J.var (i := 0) (V := vI) (x := number) rfl) (J.var (i := 5) (V := vI) (x := x1.2) rfl) (fun _ _ _ _ => rfl)) (J.var (i := 2) (V := vI) (x := size) rfl) (fun x y _ _ => op_fdiv x y)) (J.lit (V := vI) (x := 1) rfl) (fun _ _ _ _ => rfl))) rfl rfl (fun _ _ => rfl) (fun many s => by exact B_l_rows_b2 n number found size x1.1 x1.2 many s) (fun _ => rfl) (fun x9 => (T.kill (is := [4, 5, 6]) (ρ' := [some (vI number), some (.loc 1), some (vI size), some (.loc 3), none, none, none]) (h' := [dead, .lst true (List.map (eP (eT D.int) D.int) found), dead, .lst false (List.map (eP (eT D.int) D.int) x9), dead, dead, dead]) rfl (T.nil (s := x9) rfl))))
  first | exact TJ.of_eq key (by simp -implicitDefEqProofs only [s_l_rows_b1, Option.bind_assoc, Option.bind_some, Option.bind_none, Option.bind_fun_some] <;> rfl) | exact key
def s_l_rows_b0 (number : Int) (size : Int) (found : List (List Int × Int)) : Option (List (List Int × Int)) := (let longer : List (List Int × Int) := ([] : List (List Int × Int)); (forN (fun (x1 : (List Int × Int)) (s : List (List Int × Int)) => s_l_rows_b1 number size x1 s) found longer).bind fun (x11 : List (List Int × Int)) => some x11)
theorem B_l_rows_b0 (n : Nat) (number : Int) (size : Int) (found : List (List Int × Int)) : TJ (callV' tabV (n + 0)) [false] b__law_rows_0 [some (vI number), some (.loc 1), some (vI size), none, none, none, none] [dead, .lst false (List.map (eP (eT D.int) D.int) found), dead, dead, dead, dead, dead] (s_l_rows_b0 number size found) (fun s : List (List Int × Int) => OutV.nx [some (vI number), some (.loc 1), none, none, none, none, none] [dead, .lst false (List.map (eP (eT D.int) D.int) s), dead, dead, dead, dead, dead]) := by
  have key : TJ (callV' tabV (n + 0)) [false] b__law_rows_0 [some (vI number), some (.loc 1), some (vI size), none, none, none, none] [dead, .lst false (List.map (eP (eT D.int) D.int) found), dead, dead, dead, dead, dead] _ (fun s : List (List Int × Int) => OutV.nx [some (vI number), some (.loc 1), none, none, none, none, none] [dead, .lst false (List.map (eP (eT D.int) D.int) s), dead, dead, dead, dead, dead]) := (T.asgP (V := (vN (eP (eT D.int) D.int))) (ρ' := fun longer => [some (vI number), some (.loc 1), some (vI size), some (.loc 3), none, none, none]) (h' := fun longer => [dead, .lst false (List.map (eP (eT D.int) D.int) found), dead, .lst false (List.map (eP (eT D.int) D.int) longer), dead, dead, dead]) (J.lst (ds := fun r => []) (g := fun r => some ([] : List (List Int × Int))) (V := (vN (eP (eT D.int) D.int))) Js.nil (fun _ => rfl) (fun _ => rfl)) (fun _ => rfl) (fun longer => (T.for_ (tg := (.tp [4, 5])) (body := b__law_rows_1) (g := (vD (eP (eT D.int) D.int))) (b := (some (1, .lst false (List.map (eP (eT D.int) D.int) found)))) (ρs := (fun s => [some (vI number), some (.loc 1), some (vI size), some (.loc 3), none, none, none])) (hs := (fun s => [dead, .lst true (List.map (eP (eT D.int) D.int) found), dead, .lst false (List.map (eP (eT D.int) D.int) s), dead, dead, dead])) (hs' := (fun s => [dead, .lst false (List.map (eP (eT D.int) D.int) found), dead, .lst false (List.map (eP (eT D.int) D.int) s), dead, dead, dead])) (ρb := (fun x1 s => [some (vI number), some (.loc 1), some (vI size), some (.loc 3), some (vT D.int x1.1), some (vI x1.2), none])) (hb := (fun x1 s => [dead, .lst true (List.map (eP (eT D.int) D.int) found), dead, .lst false (List.map (eP (eT D.int) D.int) s), dead, dead, dead])) (mb := fun (x1 : (List Int × Int)) (s : List (List Int × Int)) => s_l_rows_b1 number size x1 s) (s0 := longer) (JI.loc (f := (eP (eT D.int) D.int)) (i := 1) (k := false) (J.var (i := 1) (V := (vL 1)) (x := found) rfl) rfl) rfl rfl (fun _ _ => rfl) (fun x1 s => by exact B_l_rows_b1 n number found size x1 s) (fun _ => rfl) (fun x11 => (T.mov (x := x11) (j := 3) (ρ' := [some (vI number), some (.loc 1), some (vI size), none, none, none, none]) (h' := [dead, .lst false (List.map (eP (eT D.int) D.int) x11), dead, dead, dead, dead, dead]) (J.var (i := 3) (V := (vL 3)) (x := x11) rfl) rfl (T.kill (is := [2, 3, 4, 5, 6]) (ρ' := [some (vI number), some (.loc 1), none, none, none, none, none]) (h' := [dead, .lst false (List.map (eP (eT D.int) D.int) x11), dead, dead, dead, dead, dead]) rfl (T.nil (s := x11) rfl)))))))
  first | exact TJ.of_eq key (by simp -implicitDefEqProofs only [s_l_rows_b0, Option.bind_assoc, Option.bind_some, Option.bind_none, Option.bind_fun_some] <;> rfl) | exact key
def s_l_rows (number : Int) : Option (List (List Int)) := (let found : List (List Int × Int) := ([(([] : List Int), 0)] : List (List Int × Int)); (rng2 1 (number + 1)).bind fun x16 => (forN (fun (size : Int) (s : List (List Int × Int)) => s_l_rows_b0 number size s) x16 found).bind fun (x12 : List (List Int × Int)) => ((lenC (List.map (fun (x13 : (List Int × Int)) => x13.1) (List.filter (fun (x13 : (List Int × Int)) => (x13.2 == number)) x12))).bind fun x14 => sortS (ltL ltI) (fun r => !List.isEmpty r) x14).bind fun x15 => some x15)
theorem B_l_rows (n : Nat) (number : Int) : TJ (callV' tabV (n + 0)) [false] v__law_rows.body [some (vI number), none, none, none, none, none, none] [dead, dead, dead, dead, dead, dead, dead] (s_l_rows number) (fun z : List (List Int) => OutV.rt ((fun z : List (List Int) => ((Ret.new (List.map (eT D.int) z), []) : Ret × List (List D))) z).1 ((fun z : List (List Int) => ((Ret.new (List.map (eT D.int) z), []) : Ret × List (List D))) z).2) := by
  have key : TJ (callV' tabV (n + 0)) [false] v__law_rows.body [some (vI number), none, none, none, none, none, none] [dead, dead, dead, dead, dead, dead, dead] _ (fun z : List (List Int) => OutV.rt ((fun z : List (List Int) => ((Ret.new (List.map (eT D.int) z), []) : Ret × List (List D))) z).1 ((fun z : List (List Int) => ((Ret.new (List.map (eT D.int) z), []) : Ret × List (List D))) z).2) := (T.asgP (V := (vN (eP (eT D.int) D.int))) (ρ' := fun found => [some (vI number), some (.loc 1), none, none, none, none, none]) (h' := fun found => [dead, .lst false (List.map (eP (eT D.int) D.int) found), dead, dead, dead, dead, dead]) (J.lst (ds := fun r => [(eP (eT D.int) D.int) r.1]) (g := fun r => some ([r.1] : List (List Int × Int))) (V := (vN (eP (eT D.int) D.int))) (Js.cons (J.tup (ds := fun r => [(eT D.int) r.1, D.int r.2.1]) (g := fun r => some (r.1, r.2.1)) (V := (vD (eP (eT D.int) D.int))) (Js.cons (J.tup (ds := fun r => []) (g := fun r => some ([] : List Int)) (V := (vT D.int)) Js.nil (fun _ => rfl) (fun _ => rfl)) (Js.cons (J.lit (V := vI) (x := 0) rfl) Js.nil)) (fun _ => rfl) (fun _ => rfl)) Js.nil) (fun _ => rfl) (fun _ => rfl)) (fun _ => rfl) (fun found => (T.for_ (tg := (.nm 2)) (body := b__law_rows_0) (g := vI) (b := none) (ρs := (fun s => [some (vI number), some (.loc 1), none, none, none, none, none])) (hs := (fun s => [dead, .lst false (List.map (eP (eT D.int) D.int) s), dead, dead, dead, dead, dead])) (hs' := (fun s => [dead, .lst false (List.map (eP (eT D.int) D.int) s), dead, dead, dead, dead, dead])) (ρb := (fun size s => [some (vI number), some (.loc 1), some (vI size), none, none, none, none])) (hb := (fun size s => [dead, .lst false (List.map (eP (eT D.int) D.int) s), dead, dead, dead, dead, dead])) (mb := fun (size : Int) (s : List (List Int × Int)) => s_l_rows_b0 number size s) (s0 := found) (JI.rng2 (J.lit (V := vI) (x := 1) rfl) (J.two (op := fun (x y : Int) => some (x + y)) (V := vI) (J.var (i := 0) (V := vI) (x := number) rfl) (J.lit (V := vI) (x := 1) rfl) (fun _ _ _ _ => rfl))) rfl rfl (fun _ _ => rfl) (fun size s => by exact B_l_rows_b0 n number size s) (fun _ => rfl) (fun x12 => (T.retP (V := (vN (eT D.int))) (g := fun z => z) (J.b1i (k := .sorted) (op := fun x => sortS (ltL ltI) (fun r => !List.isEmpty r) x) (V := (vN (eT D.int))) (J.lcP (c := fun (x13 : (List Int × Int)) => (x13.2 == number)) (e := fun (x13 : (List Int × Int)) => x13.1) (own := [4, 5]) (tg := (.tp [4, 5])) (g := (vD (eP (eT D.int) D.int))) (ρ1 := (fun x13 => [some (vI number), some (.loc 1), none, none, some (vT D.int x13.1), some (vI x13.2), none])) (V := (vT D.int)) (en := (eT D.int)) (JI.loc (f := (eP (eT D.int) D.int)) (i := 1) (k := false) (J.var (i := 1) (V := (vL 1)) (x := x12) rfl) rfl) (fun _ => rfl) (fun x13 => JC.yes (JT.bo (J.cmp (op := fun x y => some (x == y)) (J.var (i := 5) (V := vI) (x := x13.2) rfl) (J.var (i := 0) (V := vI) (x := number) rfl) (fun x y e1 e2 => op_eq EqT.int rfl rfl rfl)))) (fun x13 => (J.var (i := 4) (V := (vT D.int)) (x := x13.1) rfl)) (fun _ => rfl) rfl) (fun x z e e2 => b_sortT rfl e2)) (fun _ _ => rfl) (fun _ => rfl))))))
  first | exact TJ.of_eq key (by simp -implicitDefEqProofs only [s_l_rows, Option.bind_assoc, Option.bind_some, Option.bind_none, Option.bind_fun_some] <;> rfl) | exact key
theorem L_l_rows (n : Nat) (number : Int) : ∀ z, s_l_rows number = some z → callV' tabV (n + 1) 17 [Arg.p (D.int number)] = some ((fun z : List (List Int) => ((Ret.new (List.map (eT D.int) z), []) : Ret × List (List D))) z) :=
  run_link (n := n + 0) (fn := v__law_rows) (En := (fun z : List (List Int) => OutV.rt ((fun z : List (List Int) => ((Ret.new (List.map (eT D.int) z), []) : Ret × List (List D))) z).1 ((fun z : List (List Int) => ((Ret.new (List.map (eT D.int) z), []) : Ret × List (List D))) z).2)) (R := (fun z : List (List Int) => ((Ret.new (List.map (eT D.int) z), []) : Ret × List (List D)))) rfl rfl (B_l_rows n number) (fun _ => rfl)
def s_l_turned (row : List Int) : Option (List Int) := (((((some (!(row == ([] : List Int)))).bind fun x1 => if x1 then atI row 0 else some 0).bind fun x2 => rng1 x2).bind fun x4 => (lcE (fun (k : Int) => (lenC (List.map (fun (part : Int) => part) (List.filter (fun (part : Int) => (decide (k < part))) row))).bind fun x3 => some ((x3.length : Nat) : Int)) x4).bind fun ys => lenC ys).bind fun x5 => some x5).bind fun x6 => some x6
theorem B_l_turned (n : Nat) (row : List Int) : TJ (callV' tabV (n + 0)) [false] v__law_turned.body [some (vT D.int row), none, none] [dead, dead, dead] (s_l_turned row) (fun z : List Int => OutV.rt ((fun z : List Int => ((Ret.p ((eT D.int) z), []) : Ret × List (List D))) z).1 ((fun z : List Int => ((Ret.p ((eT D.int) z), []) : Ret × List (List D))) z).2) := by
  have key : TJ (callV' tabV (n + 0)) [false] v__law_turned.body [some (vT D.int row), none, none] [dead, dead, dead] _ (fun z : List Int => OutV.rt ((fun z : List Int => ((Ret.p ((eT D.int) z), []) : Ret × List (List D))) z).1 ((fun z : List Int => ((Ret.p ((eT D.int) z), []) : Ret × List (List D))) z).2) := (T.retP (V := (vT D.int)) (g := fun z => z) (J.b1 (k := .tuple) (op := fun x => some (x)) (V := (vT D.int)) (J.lcE (me := fun (k : Int) => (lenC (List.map (fun (part : Int) => part) (List.filter (fun (part : Int) => (decide (k < part))) row))).bind fun x3 => some ((x3.length : Nat) : Int)) (own := [1]) (tg := (.nm 1)) (g := vI) (ρ1 := (fun k => [some (vT D.int row), some (vI k), none])) (V := vI) (en := D.int) (JI.rng1 (J.ife (JT.bo (J.cmp (op := fun x y => some (!(x == y))) (J.var (i := 0) (V := (vT D.int)) (x := row) rfl) (J.tup (ds := fun r => []) (g := fun r => some ([] : List Int)) (V := (vT D.int)) Js.nil (fun _ => rfl) (fun _ => rfl)) (fun x y e1 e2 => op_ne (EqT.tup EqT.int) rfl rfl rfl))) (J.sub (op := fun x y => atI x y) (V := vI) (J.var (i := 0) (V := (vT D.int)) (x := row) rfl) (J.lit (V := vI) (x := 0) rfl) (fun x y e1 e2 => op_ix (f := D.int) rfl)) (J.lit (V := vI) (x := 0) rfl))) (fun _ => rfl) (fun k => (J.of_eq (J.b1 (k := .len) (op := fun x => some (((x.length : Nat) : Int))) (V := vI) (J.lcP (c := fun (part : Int) => (decide (k < part))) (e := fun (part : Int) => part) (own := [2]) (tg := (.nm 2)) (g := (vD D.int)) (ρ1 := (fun part => [some (vT D.int row), some (vI k), some (vI part)])) (V := vI) (en := D.int) (JI.val (f := D.int) (J.var (i := 0) (V := (vT D.int)) (x := row) rfl) (fun _ _ => rfl)) (fun _ => rfl) (fun part => JC.yes (JT.bo (J.cmp (op := fun x y => some (decide (y < x))) (J.var (i := 2) (V := vI) (x := part) rfl) (J.var (i := 1) (V := vI) (x := k) rfl) (fun x y e1 e2 => rfl)))) (fun part => (J.var (i := 2) (V := vI) (x := part) rfl)) (fun _ => rfl) rfl) (fun x e => b_len (f := D.int) rfl)) (by simp -implicitDefEqProofs only [Option.bind_assoc, Option.bind_some, Option.bind_none, Option.bind_fun_some] <;> rfl))) (fun _ => rfl) rfl) (fun x e => b_tuple (f := D.int) rfl)) (fun _ _ => rfl) (fun _ => rfl))
  first | exact TJ.of_eq key (by simp -implicitDefEqProofs only [s_l_turned, Option.bind_assoc, Option.bind_some, Option.bind_none, Option.bind_fun_some] <;> rfl) | exact key
theorem L_l_turned (n : Nat) (row : List Int) : ∀ z, s_l_turned row = some z → callV' tabV (n + 1) 19 [Arg.p ((eT D.int) row)] = some ((fun z : List Int => ((Ret.p ((eT D.int) z), []) : Ret × List (List D))) z) :=
  run_link (n := n + 0) (fn := v__law_turned) (En := (fun z : List Int => OutV.rt ((fun z : List Int => ((Ret.p ((eT D.int) z), []) : Ret × List (List D))) z).1 ((fun z : List Int => ((Ret.p ((eT D.int) z), []) : Ret × List (List D))) z).2)) (R := (fun z : List Int => ((Ret.p ((eT D.int) z), []) : Ret × List (List D)))) rfl rfl (B_l_turned n row) (fun _ => rfl)
def s_l_drawn_row_w0 (pot : List Int) (left : Int) (most : Int) (found : List Int) : Option (List Int × Int × Int × List Int) := ((some (1, pot)).bind fun x2 => ((some (x2.2, x2.2)).bind fun x4 => (some ((if left < most then left else most), x2.2)).bind fun x5 => s_l_draw x5.2 x5.1).bind fun x3 => some ((x2.1 + x3.1), x3.2)).bind fun x6 => (appS found x6.1).bind fun found => some (let x7 : Int × Int × Unit := ((left - x6.1), (x6.1, ())); (x6.2, x7.1, x7.2.1, found))
theorem B_l_drawn_row_w0 (n : Nat) (total : Int) (pot : List Int) (left : Int) (most : Int) (found : List Int) : TJ (callV' tabV (n + 1)) [true, false] b__law_drawn_row_0 [some (.loc 0), some (vI total), some (vI left), some (vI most), some (.loc 4), none] [.lst false (List.map D.int pot), dead, dead, dead, .lst false (List.map D.int found), dead] (s_l_drawn_row_w0 pot left most found) (fun s : List Int × Int × Int × List Int => OutV.nx [some (.loc 0), some (vI total), some (vI s.2.1), some (vI s.2.2.1), some (.loc 4), none] [.lst false (List.map D.int s.1), dead, dead, dead, .lst false (List.map D.int s.2.2.2), dead]) := by
  have key : TJ (callV' tabV (n + 1)) [true, false] b__law_drawn_row_0 [some (.loc 0), some (vI total), some (vI left), some (vI most), some (.loc 4), none] [.lst false (List.map D.int pot), dead, dead, dead, .lst false (List.map D.int found), dead] _ (fun s : List Int × Int × Int × List Int => OutV.nx [some (.loc 0), some (vI total), some (vI s.2.1), some (vI s.2.2.1), some (.loc 4), none] [.lst false (List.map D.int s.1), dead, dead, dead, .lst false (List.map D.int s.2.2.2), dead]) := (T.asg (V := fun (x6 : Int × List Int) => vI x6.1) (H := fun (x6 : Int × List Int) => [.lst false (List.map D.int x6.2), dead, dead, dead, .lst false (List.map D.int found), dead]) (ρ' := fun x6 => [some (.loc 0), some (vI total), some (vI left), some (vI most), some (.loc 4), some (vI x6.1)]) (h' := fun x6 => [.lst false (List.map D.int x6.2), dead, dead, dead, .lst false (List.map D.int found), dead]) (fun r e => (show JE _ _ [some (.loc 0), some (vI total), some (vI left), some (vI most), some (.loc 4), none] (fun sj => [.lst false (List.map D.int sj), dead, dead, dead, .lst false (List.map D.int found), dead]) _ _ from (JE.two (op := fun (x y : Int) => some (x + y)) (V := vI) (JE.up (m := fun sj => some 1) (fun sj => (J.lit (V := vI) (x := 1) rfl))) (JE.call (f := 16) (op := fun r sj => s_l_draw sj r.2.1) (V := vI) (JEs.cons (JE.up (m := fun sj => some sj) (fun sj => (J.var (i := 0) (V := (vL 0)) (x := sj) rfl))) (JEs.cons (JE.up (m := fun sj => some (if left < most then left else most)) (fun sj => (J.b2 (k := .min) (op := fun x y => some (if y < x then y else x)) (V := vI) (J.var (i := 3) (V := vI) (x := most) rfl) (J.var (i := 2) (V := vI) (x := left) rfl) (fun x y => b2_min x y)))) JEs.nil)) (fun r sj z e => (call_link (as := [(Arg.lst (List.map D.int sj), some 0), (Arg.p (D.int r.2.1), none)]) (R := (fun z : Int × List Int => ((Ret.p (D.int z.1), [List.map D.int z.2]) : Ret × List (List D)))) (V := fun z => vI z.1) (H := fun z => [.lst false (List.map D.int z.2), dead, dead, dead, .lst false (List.map D.int found), dead]) rfl rfl (L_l_draw (n + 0) sj r.2.1) (fun _ => rfl) (fun _ => rfl) z e))) (fun _ _ _ => rfl))) pot r e) (fun _ => rfl) (fun x6 => (T.app (n := 4) (f := D.int) (xs := found) (h' := fun found => [.lst false (List.map D.int x6.2), dead, dead, dead, .lst false (List.map D.int found), dead]) rfl (J.var (i := 5) (V := vI) (x := x6.1) rfl) (fun _ => rfl) rfl (fun _ => rfl) (fun found => (T.parP (is := [2, 3]) (V := fun (x7 : Int × Int × Unit) => [vI x7.1, vI x7.2.1]) (ρ' := fun x7 => [some (.loc 0), some (vI total), some (vI x7.1), some (vI x7.2.1), some (.loc 4), some (vI x6.1)]) (h' := fun x7 => [.lst false (List.map D.int x6.2), dead, dead, dead, .lst false (List.map D.int found), dead]) (Js.cons (J.two (op := fun (x y : Int) => some (x - y)) (V := vI) (J.var (i := 2) (V := vI) (x := left) rfl) (J.var (i := 5) (V := vI) (x := x6.1) rfl) (fun _ _ _ _ => rfl)) (Js.cons (J.var (i := 5) (V := vI) (x := x6.1) rfl) Js.nil)) (fun _ => rfl) (fun x7 => (T.kill (is := [5]) (ρ' := [some (.loc 0), some (vI total), some (vI x7.1), some (vI x7.2.1), some (.loc 4), none]) (h' := [.lst false (List.map D.int x6.2), dead, dead, dead, .lst false (List.map D.int found), dead]) rfl (T.nil (s := (x6.2, x7.1, x7.2.1, found)) rfl))))))))
  first | exact TJ.of_eq key (by simp -implicitDefEqProofs only [s_l_drawn_row_w0, Option.bind_assoc, Option.bind_some, Option.bind_none, Option.bind_fun_some] <;> rfl) | exact key
def s_l_drawn_row (pot : List Int) (total : Int) : Option (List Int × List Int) := (let x1 : Int × Int × List Int × Unit := (total, (total, (([] : List Int), ()))); (whlF (fun (s : List Int × Int × Int × List Int) => some (decide (0 < s.2.1))) (fun (s : List Int × Int × Int × List Int) => s_l_drawn_row_w0 s.1 s.2.1 s.2.2.1 s.2.2.2) (pot, x1.1, x1.2.1, x1.2.2.1)).bind fun (x9 : List Int × Int × Int × List Int) => (((some (x9.1, x9.1)).bind fun x10 => (some (2, x9.1)).bind fun x11 => s_l_draw x11.2 x11.1).bind fun x12 => (some (0, x12.2)).bind fun x13 => some ((x12.1 == x13.1), x13.2)).bind fun x14 => if x14.1 then some (x9.2.2.2, x14.2) else (s_l_turned x9.2.2.2).bind fun z => some (z, x14.2))
theorem B_l_drawn_row (n : Nat) (pot : List Int) (total : Int) : TJ (callV' tabV (n + 1)) [true, false] v__law_drawn_row.body [some (.loc 0), some (vI total), none, none, none, none] [.lst false (List.map D.int pot), dead, dead, dead, dead, dead] (s_l_drawn_row pot total) (fun z : List Int × List Int => OutV.rt ((fun z : List Int × List Int => ((Ret.p ((eT D.int) z.1), [List.map D.int z.2]) : Ret × List (List D))) z).1 ((fun z : List Int × List Int => ((Ret.p ((eT D.int) z.1), [List.map D.int z.2]) : Ret × List (List D))) z).2) := by
  have key : TJ (callV' tabV (n + 1)) [true, false] v__law_drawn_row.body [some (.loc 0), some (vI total), none, none, none, none] [.lst false (List.map D.int pot), dead, dead, dead, dead, dead] _ (fun z : List Int × List Int => OutV.rt ((fun z : List Int × List Int => ((Ret.p ((eT D.int) z.1), [List.map D.int z.2]) : Ret × List (List D))) z).1 ((fun z : List Int × List Int => ((Ret.p ((eT D.int) z.1), [List.map D.int z.2]) : Ret × List (List D))) z).2) := (T.parP (is := [2, 3, 4]) (V := fun (x1 : Int × Int × List Int × Unit) => [vI x1.1, vI x1.2.1, (vN D.int) x1.2.2.1]) (ρ' := fun x1 => [some (.loc 0), some (vI total), some (vI x1.1), some (vI x1.2.1), some (.loc 4), none]) (h' := fun x1 => [.lst false (List.map D.int pot), dead, dead, dead, .lst false (List.map D.int x1.2.2.1), dead]) (Js.cons (J.var (i := 1) (V := vI) (x := total) rfl) (Js.cons (J.var (i := 1) (V := vI) (x := total) rfl) (Js.cons (J.lst (ds := fun r => []) (g := fun r => some ([] : List Int)) (V := (vN D.int)) Js.nil (fun _ => rfl) (fun _ => rfl)) Js.nil))) (fun _ => rfl) (fun x1 => (T.whl (body := b__law_drawn_row_0) (ρs := (fun s => [some (.loc 0), some (vI total), some (vI s.2.1), some (vI s.2.2.1), some (.loc 4), none])) (hs := (fun s => [.lst false (List.map D.int s.1), dead, dead, dead, .lst false (List.map D.int s.2.2.2), dead])) (mc := fun (s : List Int × Int × Int × List Int) => some (decide (0 < s.2.1))) (mb := fun (s : List Int × Int × Int × List Int) => s_l_drawn_row_w0 s.1 s.2.1 s.2.2.1 s.2.2.2) (s0 := (pot, x1.1, x1.2.1, x1.2.2.1)) rfl rfl (fun s => (JT.bo (J.cmp (op := fun x y => some (decide (y < x))) (J.var (i := 2) (V := vI) (x := s.2.1) rfl) (J.lit (V := vI) (x := 0) rfl) (fun x y e1 e2 => rfl)))) (fun s => by exact B_l_drawn_row_w0 n total s.1 s.2.1 s.2.2.1 s.2.2.2) (fun x9 => (T.ret (V := fun (r : List Int × List Int) => (vT D.int) r.1) (H := fun (r : List Int × List Int) => [.lst false (List.map D.int r.2), dead, dead, dead, .lst false (List.map D.int x9.2.2.2), dead]) (g := fun r => r) (fun r e => (show JE _ _ [some (.loc 0), some (vI total), some (vI x9.2.1), some (vI x9.2.2.1), some (.loc 4), none] (fun sj => [.lst false (List.map D.int sj), dead, dead, dead, .lst false (List.map D.int x9.2.2.2), dead]) _ _ from (JE.ife (JTE.bo (JE.cmp (op := fun x y => some (x == y)) (JE.call (f := 16) (op := fun r sj => s_l_draw sj r.2.1) (V := vI) (JEs.cons (JE.up (m := fun sj => some sj) (fun sj => (J.var (i := 0) (V := (vL 0)) (x := sj) rfl))) (JEs.cons (JE.up (m := fun sj => some 2) (fun sj => (J.lit (V := vI) (x := 2) rfl))) JEs.nil)) (fun r sj z e => (call_link (as := [(Arg.lst (List.map D.int sj), some 0), (Arg.p (D.int r.2.1), none)]) (R := (fun z : Int × List Int => ((Ret.p (D.int z.1), [List.map D.int z.2]) : Ret × List (List D)))) (V := fun z => vI z.1) (H := fun z => [.lst false (List.map D.int z.2), dead, dead, dead, .lst false (List.map D.int x9.2.2.2), dead]) rfl rfl (L_l_draw (n + 0) sj r.2.1) (fun _ => rfl) (fun _ => rfl) z e))) (JE.up (m := fun sj => some 0) (fun sj => (J.lit (V := vI) (x := 0) rfl))) (fun s x y => op_eq EqT.int rfl rfl rfl))) (JE.up (m := fun sj => some x9.2.2.2) (fun sj => (J.b1 (k := .tuple) (op := fun x => some (x)) (V := (vT D.int)) (J.var (i := 4) (V := (vL 4)) (x := x9.2.2.2) rfl) (fun x e => b_tuple (f := D.int) (seq_loc rfl e))))) (JE.up (m := fun sj => s_l_turned x9.2.2.2) (fun sj => (J.call (f := 19) (op := fun r => s_l_turned r.1) (V := (vT D.int)) (Js.cons (J.b1 (k := .tuple) (op := fun x => some (x)) (V := (vT D.int)) (J.var (i := 4) (V := (vL 4)) (x := x9.2.2.2) rfl) (fun x e => b_tuple (f := D.int) (seq_loc rfl e))) Js.nil) (fun r z _ e => (call_link (as := [(Arg.p ((eT D.int) r.1), none)]) (R := (fun z : List Int => ((Ret.p ((eT D.int) z), []) : Ret × List (List D)))) (V := (vT D.int)) (H := fun _ => [.lst false (List.map D.int sj), dead, dead, dead, .lst false (List.map D.int x9.2.2.2), dead]) rfl rfl (L_l_turned (n + 0) r.1) (fun _ => rfl) (fun _ => rfl) z e))))))) x9.1 r e) (fun _ _ => rfl) (fun _ => rfl))))))
  first | exact TJ.of_eq key (by simp -implicitDefEqProofs only [s_l_drawn_row, Option.bind_assoc, Option.bind_some, Option.bind_none, Option.bind_fun_some] <;> rfl) | exact key
theorem L_l_drawn_row (n : Nat) (pot : List Int) (total : Int) : ∀ z, s_l_drawn_row pot total = some z → callV' tabV (n + 2) 18 [Arg.lst (List.map D.int pot), Arg.p (D.int total)] = some ((fun z : List Int × List Int => ((Ret.p ((eT D.int) z.1), [List.map D.int z.2]) : Ret × List (List D))) z) :=
  run_link (n := n + 1) (fn := v__law_drawn_row) (En := (fun z : List Int × List Int => OutV.rt ((fun z : List Int × List Int => ((Ret.p ((eT D.int) z.1), [List.map D.int z.2]) : Ret × List (List D))) z).1 ((fun z : List Int × List Int => ((Ret.p ((eT D.int) z.1), [List.map D.int z.2]) : Ret × List (List D))) z).2)) (R := (fun z : List Int × List Int => ((Ret.p ((eT D.int) z.1), [List.map D.int z.2]) : Ret × List (List D)))) rfl rfl (B_l_drawn_row n pot total) (fun _ => rfl)
def s_is_integer (value : Int) : Option (Bool) := some (true && (!false))
theorem B_is_integer (n : Nat) (value : Int) : TJ (callV' tabV (n + 0)) [false] v_is_integer.body [some (vI value)] [dead] (s_is_integer value) (fun z : Bool => OutV.rt ((fun z : Bool => ((Ret.p (D.bl z), []) : Ret × List (List D))) z).1 ((fun z : Bool => ((Ret.p (D.bl z), []) : Ret × List (List D))) z).2) := by
  have key : TJ (callV' tabV (n + 0)) [false] v_is_integer.body [some (vI value)] [dead] _ (fun z : Bool => OutV.rt ((fun z : Bool => ((Ret.p (D.bl z), []) : Ret × List (List D))) z).1 ((fun z : Bool => ((Ret.p (D.bl z), []) : Ret × List (List D))) z).2) := (T.retP (V := vB) (g := fun z => z) (J.andP (J.isi (t := .int) (k := .int) (J.var (i := 0) (V := vI) (x := value) rfl) (fun _ _ => rfl)) (J.one (J.notV (t := fun x => x) (J.isi (t := .bool) (k := .int) (J.var (i := 0) (V := vI) (x := value) rfl) (fun _ _ => rfl)) (fun _ _ => rfl)))) (fun _ _ => rfl) (fun _ => rfl))
  first | exact TJ.of_eq key (by simp -implicitDefEqProofs only [s_is_integer, Option.bind_assoc, Option.bind_some, Option.bind_none, Option.bind_fun_some] <;> rfl) | exact key
theorem L_is_integer (n : Nat) (value : Int) : ∀ z, s_is_integer value = some z → callV' tabV (n + 1) 0 [Arg.p (D.int value)] = some ((fun z : Bool => ((Ret.p (D.bl z), []) : Ret × List (List D))) z) :=
  run_link (n := n + 0) (fn := v_is_integer) (En := (fun z : Bool => OutV.rt ((fun z : Bool => ((Ret.p (D.bl z), []) : Ret × List (List D))) z).1 ((fun z : Bool => ((Ret.p (D.bl z), []) : Ret × List (List D))) z).2)) (R := (fun z : Bool => ((Ret.p (D.bl z), []) : Ret × List (List D)))) rfl rfl (B_is_integer n value) (fun _ => rfl)
def s_is_within_bounds (value : Int) (least : Int) (most : Int) : Option (Bool) := ((s_is_integer value).bind fun x1 => if x1 then some ((decide (least ≤ value)) && (decide (value ≤ most))) else some false).bind fun x2 => some x2
theorem B_is_within_bounds (n : Nat) (value : Int) (least : Int) (most : Int) : TJ (callV' tabV (n + 1)) [false, false, false] v_is_within_bounds.body [some (vI value), some (vI least), some (vI most)] [dead, dead, dead] (s_is_within_bounds value least most) (fun z : Bool => OutV.rt ((fun z : Bool => ((Ret.p (D.bl z), []) : Ret × List (List D))) z).1 ((fun z : Bool => ((Ret.p (D.bl z), []) : Ret × List (List D))) z).2) := by
  have key : TJ (callV' tabV (n + 1)) [false, false, false] v_is_within_bounds.body [some (vI value), some (vI least), some (vI most)] [dead, dead, dead] _ (fun z : Bool => OutV.rt ((fun z : Bool => ((Ret.p (D.bl z), []) : Ret × List (List D))) z).1 ((fun z : Bool => ((Ret.p (D.bl z), []) : Ret × List (List D))) z).2) := (T.retP (V := vB) (g := fun z => z) (J.and (J.call (f := 0) (op := fun r => s_is_integer r.1) (V := vB) (Js.cons (J.var (i := 0) (V := vI) (x := value) rfl) Js.nil) (fun r z _ e => (call_link (as := [(Arg.p (D.int r.1), none)]) (R := (fun z : Bool => ((Ret.p (D.bl z), []) : Ret × List (List D)))) (V := vB) (H := fun _ => [dead, dead, dead]) rfl rfl (L_is_integer (n + 0) r.1) (fun _ => rfl) (fun _ => rfl) z e))) (J.one (J.chnP (p := (decide (least ≤ value))) (p' := (decide (value ≤ most))) (J.var (i := 1) (V := vI) (x := least) rfl) (J.var (i := 0) (V := vI) (x := value) rfl) (J.var (i := 2) (V := vI) (x := most) rfl) (rfl) (rfl)))) (fun _ _ => rfl) (fun _ => rfl))
  first | exact TJ.of_eq key (by simp -implicitDefEqProofs only [s_is_within_bounds, Option.bind_assoc, Option.bind_some, Option.bind_none, Option.bind_fun_some] <;> rfl) | exact key
theorem L_is_within_bounds (n : Nat) (value : Int) (least : Int) (most : Int) : ∀ z, s_is_within_bounds value least most = some z → callV' tabV (n + 2) 1 [Arg.p (D.int value), Arg.p (D.int least), Arg.p (D.int most)] = some ((fun z : Bool => ((Ret.p (D.bl z), []) : Ret × List (List D))) z) :=
  run_link (n := n + 1) (fn := v_is_within_bounds) (En := (fun z : Bool => OutV.rt ((fun z : Bool => ((Ret.p (D.bl z), []) : Ret × List (List D))) z).1 ((fun z : Bool => ((Ret.p (D.bl z), []) : Ret × List (List D))) z).2)) (R := (fun z : Bool => ((Ret.p (D.bl z), []) : Ret × List (List D)))) rfl rfl (B_is_within_bounds n value least most) (fun _ => rfl)
def s_is_falling (parts : List Int) (step : Int) : Option (Bool) := (((rng1 (((parts.length : Nat) : Int) - 1)).bind fun x4 => (lcE (fun (at' : Int) => (atI parts at').bind fun x2 => ((atI parts (at' + 1)).bind fun x1 => some (x1 + step)).bind fun x3 => some (decide (x3 ≤ x2))) x4).bind fun ys => lenC ys).bind fun x5 => some (List.all x5 id)).bind fun x6 => some x6
theorem B_is_falling (n : Nat) (parts : List Int) (step : Int) : TJ (callV' tabV (n + 0)) [false, false] v_is_falling.body [some (vT D.int parts), some (vI step), none] [dead, dead, dead] (s_is_falling parts step) (fun z : Bool => OutV.rt ((fun z : Bool => ((Ret.p (D.bl z), []) : Ret × List (List D))) z).1 ((fun z : Bool => ((Ret.p (D.bl z), []) : Ret × List (List D))) z).2) := by
  have key : TJ (callV' tabV (n + 0)) [false, false] v_is_falling.body [some (vT D.int parts), some (vI step), none] [dead, dead, dead] _ (fun z : Bool => OutV.rt ((fun z : Bool => ((Ret.p (D.bl z), []) : Ret × List (List D))) z).1 ((fun z : Bool => ((Ret.p (D.bl z), []) : Ret × List (List D))) z).2) := (T.retP (V := vB) (g := fun z => z) (J.b1 (k := .all) (op := fun x => some ((List.all x id))) (V := vB) (J.lcE (me := fun (at' : Int) => (atI parts at').bind fun x2 => ((atI parts (at' + 1)).bind fun x1 => some (x1 + step)).bind fun x3 => some (decide (x3 ≤ x2))) (own := [2]) (tg := (.nm 2)) (g := vI) (ρ1 := (fun at' => [some (vT D.int parts), some (vI step), some (vI at')])) (V := vB) (en := D.bl) (JI.rng1 (J.two (op := fun (x y : Int) => some (x - y)) (V := vI) (J.b1 (k := .len) (op := fun x => some (((x.length : Nat) : Int))) (V := vI) (J.var (i := 0) (V := (vT D.int)) (x := parts) rfl) (fun x e => b_len (f := D.int) rfl)) (J.lit (V := vI) (x := 1) rfl) (fun _ _ _ _ => rfl))) (fun _ => rfl) (fun at' => (J.of_eq (J.cmp (op := fun x y => some (decide (y ≤ x))) (J.sub (op := fun x y => atI x y) (V := vI) (J.var (i := 0) (V := (vT D.int)) (x := parts) rfl) (J.var (i := 2) (V := vI) (x := at') rfl) (fun x y e1 e2 => op_ix (f := D.int) rfl)) (J.two (op := fun (x y : Int) => some (x + y)) (V := vI) (J.sub (op := fun x y => atI x y) (V := vI) (J.var (i := 0) (V := (vT D.int)) (x := parts) rfl) (J.two (op := fun (x y : Int) => some (x + y)) (V := vI) (J.var (i := 2) (V := vI) (x := at') rfl) (J.lit (V := vI) (x := 1) rfl) (fun _ _ _ _ => rfl)) (fun x y e1 e2 => op_ix (f := D.int) rfl)) (J.var (i := 1) (V := vI) (x := step) rfl) (fun _ _ _ _ => rfl)) (fun x y e1 e2 => rfl)) (by simp -implicitDefEqProofs only [Option.bind_assoc, Option.bind_some, Option.bind_none, Option.bind_fun_some] <;> rfl))) (fun _ => rfl) rfl) (fun x e => b_all rfl)) (fun _ _ => rfl) (fun _ => rfl))
  first | exact TJ.of_eq key (by simp -implicitDefEqProofs only [s_is_falling, Option.bind_assoc, Option.bind_some, Option.bind_none, Option.bind_fun_some] <;> rfl) | exact key
theorem L_is_falling (n : Nat) (parts : List Int) (step : Int) : ∀ z, s_is_falling parts step = some z → callV' tabV (n + 1) 3 [Arg.p ((eT D.int) parts), Arg.p (D.int step)] = some ((fun z : Bool => ((Ret.p (D.bl z), []) : Ret × List (List D))) z) :=
  run_link (n := n + 0) (fn := v_is_falling) (En := (fun z : Bool => OutV.rt ((fun z : Bool => ((Ret.p (D.bl z), []) : Ret × List (List D))) z).1 ((fun z : Bool => ((Ret.p (D.bl z), []) : Ret × List (List D))) z).2)) (R := (fun z : Bool => ((Ret.p (D.bl z), []) : Ret × List (List D)))) rfl rfl (B_is_falling n parts step) (fun _ => rfl)
def s_is_row (value : List Int) : Option (Bool) := ((some (!true)).bind fun x3 => if x3 then some true else (((lcE (fun (part : Int) => s_is_within_bounds part 1 600) value).bind fun ys => lenC ys).bind fun x1 => some (List.all x1 id)).bind fun x2 => some (!x2)).bind fun x6 => if x6 then some false else ((s_is_falling value 0).bind fun x4 => if x4 then some (decide ((List.sum value) ≤ 600)) else some false).bind fun x5 => some x5
theorem B_is_row (n : Nat) (value : List Int) : TJ (callV' tabV (n + 2)) [false] v_is_row.body [some (vT D.int value), none] [dead, dead] (s_is_row value) (fun z : Bool => OutV.rt ((fun z : Bool => ((Ret.p (D.bl z), []) : Ret × List (List D))) z).1 ((fun z : Bool => ((Ret.p (D.bl z), []) : Ret × List (List D))) z).2) := by
  have key : TJ (callV' tabV (n + 2)) [false] v_is_row.body [some (vT D.int value), none] [dead, dead] _ (fun z : Bool => OutV.rt ((fun z : Bool => ((Ret.p (D.bl z), []) : Ret × List (List D))) z).1 ((fun z : Bool => ((Ret.p (D.bl z), []) : Ret × List (List D))) z).2) := (T.ifTP (JT.or (JT.not (JT.bo (J.isi (t := .tuple) (k := .tuple) (J.var (i := 0) (V := (vT D.int)) (x := value) rfl) (fun _ _ => rfl)))) (JT.one (JT.not (JT.bo (J.b1 (k := .all) (op := fun x => some ((List.all x id))) (V := vB) (J.lcE (me := fun (part : Int) => s_is_within_bounds part 1 600) (own := [1]) (tg := (.nm 1)) (g := (vD D.int)) (ρ1 := (fun part => [some (vT D.int value), some (vI part)])) (V := vB) (en := D.bl) (JI.val (f := D.int) (J.var (i := 0) (V := (vT D.int)) (x := value) rfl) (fun _ _ => rfl)) (fun _ => rfl) (fun part => (J.of_eq (J.call (f := 1) (op := fun r => s_is_within_bounds r.1 r.2.1 r.2.2.1) (V := vB) (Js.cons (J.var (i := 1) (V := vI) (x := part) rfl) (Js.cons (J.lit (V := vI) (x := 1) rfl) (Js.cons (J.glo (V := vI) (x := 600) rfl) Js.nil))) (fun r z _ e => (call_link (as := [(Arg.p (D.int r.1), none), (Arg.p (D.int r.2.1), none), (Arg.p (D.int r.2.2.1), none)]) (R := (fun z : Bool => ((Ret.p (D.bl z), []) : Ret × List (List D)))) (V := vB) (H := fun _ => [dead, dead]) rfl rfl (L_is_within_bounds (n + 0) r.1 r.2.1 r.2.2.1) (fun _ => rfl) (fun _ => rfl) z e))) (by simp -implicitDefEqProofs only [Option.bind_assoc, Option.bind_some, Option.bind_none, Option.bind_fun_some] <;> rfl))) (fun _ => rfl) rfl) (fun x e => b_all rfl)))))) (T.retP (V := vB) (g := fun z => z) (J.lit (V := vB) (x := false) rfl) (fun _ _ => rfl) (fun _ => rfl)) (fun _ _ => rfl) (T.retP (V := vB) (g := fun z => z) (J.and (J.call (f := 3) (op := fun r => s_is_falling r.1 r.2.1) (V := vB) (Js.cons (J.var (i := 0) (V := (vT D.int)) (x := value) rfl) (Js.cons (J.lit (V := vI) (x := 0) rfl) Js.nil)) (fun r z _ e => (call_link (as := [(Arg.p ((eT D.int) r.1), none), (Arg.p (D.int r.2.1), none)]) (R := (fun z : Bool => ((Ret.p (D.bl z), []) : Ret × List (List D)))) (V := vB) (H := fun _ => [dead, dead]) rfl rfl (L_is_falling (n + 1) r.1 r.2.1) (fun _ => rfl) (fun _ => rfl) z e))) (J.one (J.cmp (op := fun x y => some (decide (x ≤ y))) (J.b1 (k := .sum) (op := fun x => some ((List.sum x))) (V := vI) (J.b1 (k := .list) (op := fun x => some (x)) (V := (vN D.int)) (J.var (i := 0) (V := (vT D.int)) (x := value) rfl) (fun x e => b_list (f := D.int) rfl)) (fun x e => b_sum rfl)) (J.glo (V := vI) (x := 600) rfl) (fun x y e1 e2 => rfl)))) (fun _ _ => rfl) (fun _ => rfl)))
  first | exact TJ.of_eq key (by simp -implicitDefEqProofs only [s_is_row, Option.bind_assoc, Option.bind_some, Option.bind_none, Option.bind_fun_some] <;> rfl) | exact key
theorem L_is_row (n : Nat) (value : List Int) : ∀ z, s_is_row value = some z → callV' tabV (n + 3) 4 [Arg.p ((eT D.int) value)] = some ((fun z : Bool => ((Ret.p (D.bl z), []) : Ret × List (List D))) z) :=
  run_link (n := n + 2) (fn := v_is_row) (En := (fun z : Bool => OutV.rt ((fun z : Bool => ((Ret.p (D.bl z), []) : Ret × List (List D))) z).1 ((fun z : Bool => ((Ret.p (D.bl z), []) : Ret × List (List D))) z).2)) (R := (fun z : Bool => ((Ret.p (D.bl z), []) : Ret × List (List D)))) rfl rfl (B_is_row n value) (fun _ => rfl)
def s_check_row (value : List Int) : Option (Unit) := ((s_is_row value).bind fun x1 => some (!x1)).bind fun x2 => if x2 then none else some ()
theorem B_check_row (n : Nat) (value : List Int) : TJ (callV' tabV (n + 3)) [false] v_check_row.body [some (vT D.int value)] [dead] (s_check_row value) (fun z : Unit => OutV.nx [some (vT D.int value)] [dead]) := by
  have key : TJ (callV' tabV (n + 3)) [false] v_check_row.body [some (vT D.int value)] [dead] _ (fun z : Unit => OutV.nx [some (vT D.int value)] [dead]) := (T.ifTP (JT.not (JT.bo (J.call (f := 4) (op := fun r => s_is_row r.1) (V := vB) (Js.cons (J.var (i := 0) (V := (vT D.int)) (x := value) rfl) Js.nil) (fun r z _ e => (call_link (as := [(Arg.p ((eT D.int) r.1), none)]) (R := (fun z : Bool => ((Ret.p (D.bl z), []) : Ret × List (List D)))) (V := vB) (H := fun _ => [dead]) rfl rfl (L_is_row (n + 0) r.1) (fun _ => rfl) (fun _ => rfl) z e))))) T.nev (fun _ e => by cases e) (T.nil (s := ()) rfl))
  first | exact TJ.of_eq key (by simp -implicitDefEqProofs only [s_check_row, Option.bind_assoc, Option.bind_some, Option.bind_none, Option.bind_fun_some] <;> rfl) | exact key
theorem L_check_row (n : Nat) (value : List Int) : ∀ z, s_check_row value = some z → callV' tabV (n + 4) 5 [Arg.p ((eT D.int) value)] = some ((fun z : Unit => ((Ret.p D.non, []) : Ret × List (List D))) z) :=
  run_link (n := n + 3) (fn := v_check_row) (En := (fun z : Unit => OutV.nx [some (vT D.int value)] [dead])) (R := (fun z : Unit => ((Ret.p D.non, []) : Ret × List (List D)))) rfl rfl (B_check_row n value) (fun _ => rfl)
def s_rank_of (row : List Int) : Option (Int) := ((some (!(row == ([] : List Int)))).bind fun x2 => if x2 then (atI row 0).bind fun x1 => some (x1 - ((row.length : Nat) : Int)) else some 0).bind fun x3 => some x3
theorem B_rank_of (n : Nat) (row : List Int) : TJ (callV' tabV (n + 0)) [false] v_rank_of.body [some (vT D.int row)] [dead] (s_rank_of row) (fun z : Int => OutV.rt ((fun z : Int => ((Ret.p (D.int z), []) : Ret × List (List D))) z).1 ((fun z : Int => ((Ret.p (D.int z), []) : Ret × List (List D))) z).2) := by
  have key : TJ (callV' tabV (n + 0)) [false] v_rank_of.body [some (vT D.int row)] [dead] _ (fun z : Int => OutV.rt ((fun z : Int => ((Ret.p (D.int z), []) : Ret × List (List D))) z).1 ((fun z : Int => ((Ret.p (D.int z), []) : Ret × List (List D))) z).2) := (T.retP (V := vI) (g := fun z => z) (J.ife (JT.bo (J.cmp (op := fun x y => some (!(x == y))) (J.var (i := 0) (V := (vT D.int)) (x := row) rfl) (J.tup (ds := fun r => []) (g := fun r => some ([] : List Int)) (V := (vT D.int)) Js.nil (fun _ => rfl) (fun _ => rfl)) (fun x y e1 e2 => op_ne (EqT.tup EqT.int) rfl rfl rfl))) (J.two (op := fun (x y : Int) => some (x - y)) (V := vI) (J.sub (op := fun x y => atI x y) (V := vI) (J.var (i := 0) (V := (vT D.int)) (x := row) rfl) (J.lit (V := vI) (x := 0) rfl) (fun x y e1 e2 => op_ix (f := D.int) rfl)) (J.b1 (k := .len) (op := fun x => some (((x.length : Nat) : Int))) (V := vI) (J.var (i := 0) (V := (vT D.int)) (x := row) rfl) (fun x e => b_len (f := D.int) rfl)) (fun _ _ _ _ => rfl)) (J.lit (V := vI) (x := 0) rfl)) (fun _ _ => rfl) (fun _ => rfl))
  first | exact TJ.of_eq key (by simp -implicitDefEqProofs only [s_rank_of, Option.bind_assoc, Option.bind_some, Option.bind_none, Option.bind_fun_some] <;> rfl) | exact key
theorem L_rank_of (n : Nat) (row : List Int) : ∀ z, s_rank_of row = some z → callV' tabV (n + 1) 8 [Arg.p ((eT D.int) row)] = some ((fun z : Int => ((Ret.p (D.int z), []) : Ret × List (List D))) z) :=
  run_link (n := n + 0) (fn := v_rank_of) (En := (fun z : Int => OutV.rt ((fun z : Int => ((Ret.p (D.int z), []) : Ret × List (List D))) z).1 ((fun z : Int => ((Ret.p (D.int z), []) : Ret × List (List D))) z).2)) (R := (fun z : Int => ((Ret.p (D.int z), []) : Ret × List (List D)))) rfl rfl (B_rank_of n row) (fun _ => rfl)
def s_rank (row : List Int) : Option (Int) := (s_check_row row).bind fun _ => (s_rank_of row).bind fun x1 => some x1
theorem B_rank (n : Nat) (row : List Int) : TJ (callV' tabV (n + 4)) [false] v_rank.body [some (vT D.int row)] [dead] (s_rank row) (fun z : Int => OutV.rt ((fun z : Int => ((Ret.p (D.int z), []) : Ret × List (List D))) z).1 ((fun z : Int => ((Ret.p (D.int z), []) : Ret × List (List D))) z).2) := by
  have key : TJ (callV' tabV (n + 4)) [false] v_rank.body [some (vT D.int row)] [dead] _ (fun z : Int => OutV.rt ((fun z : Int => ((Ret.p (D.int z), []) : Ret × List (List D))) z).1 ((fun z : Int => ((Ret.p (D.int z), []) : Ret × List (List D))) z).2) := (T.exP (J.call (f := 5) (op := fun r => s_check_row r.1) (V := (fun _ => Val.p .non)) (Js.cons (J.var (i := 0) (V := (vT D.int)) (x := row) rfl) Js.nil) (fun r z _ e => (call_link (as := [(Arg.p ((eT D.int) r.1), none)]) (R := (fun z : Unit => ((Ret.p D.non, []) : Ret × List (List D)))) (V := (fun _ => Val.p .non)) (H := fun _ => [dead]) rfl rfl (L_check_row (n + 0) r.1) (fun _ => rfl) (fun _ => rfl) z e))) (T.retP (V := vI) (g := fun z => z) (J.call (f := 8) (op := fun r => s_rank_of r.1) (V := vI) (Js.cons (J.var (i := 0) (V := (vT D.int)) (x := row) rfl) Js.nil) (fun r z _ e => (call_link (as := [(Arg.p ((eT D.int) r.1), none)]) (R := (fun z : Int => ((Ret.p (D.int z), []) : Ret × List (List D)))) (V := vI) (H := fun _ => [dead]) rfl rfl (L_rank_of (n + 3) r.1) (fun _ => rfl) (fun _ => rfl) z e))) (fun _ _ => rfl) (fun _ => rfl)))
  first | exact TJ.of_eq key (by simp -implicitDefEqProofs only [s_rank, Option.bind_assoc, Option.bind_some, Option.bind_none, Option.bind_fun_some] <;> rfl) | exact key
theorem L_rank (n : Nat) (row : List Int) : ∀ z, s_rank row = some z → callV' tabV (n + 5) 10 [Arg.p ((eT D.int) row)] = some ((fun z : Int => ((Ret.p (D.int z), []) : Ret × List (List D))) z) :=
  run_link (n := n + 4) (fn := v_rank) (En := (fun z : Int => OutV.rt ((fun z : Int => ((Ret.p (D.int z), []) : Ret × List (List D))) z).1 ((fun z : Int => ((Ret.p (D.int z), []) : Ret × List (List D))) z).2)) (R := (fun z : Int => ((Ret.p (D.int z), []) : Ret × List (List D)))) rfl rfl (B_rank n row) (fun _ => rfl)
def s_l_crank (row : List Int) : Option (Int) := (if (row == ([] : List Int)) then some 0 else (let ones : Int := ((List.count 1 row : Nat) : Int); ((some (ones == 0)).bind fun x3 => if x3 then atI row 0 else ((lenC (List.map (fun (part : Int) => part) (List.filter (fun (part : Int) => (decide (ones < part))) row))).bind fun x1 => some ((x1.length : Nat) : Int)).bind fun x2 => some (x2 - ones)).bind fun x4 => some x4))
theorem B_l_crank (n : Nat) (row : List Int) : TJ (callV' tabV (n + 0)) [false] v__law_crank.body [some (vT D.int row), none, none] [dead, dead, dead] (s_l_crank row) (fun z : Int => OutV.rt ((fun z : Int => ((Ret.p (D.int z), []) : Ret × List (List D))) z).1 ((fun z : Int => ((Ret.p (D.int z), []) : Ret × List (List D))) z).2) := by
  have key : TJ (callV' tabV (n + 0)) [false] v__law_crank.body [some (vT D.int row), none, none] [dead, dead, dead] _ (fun z : Int => OutV.rt ((fun z : Int => ((Ret.p (D.int z), []) : Ret × List (List D))) z).1 ((fun z : Int => ((Ret.p (D.int z), []) : Ret × List (List D))) z).2) := (T.ifTP (JT.bo (J.cmp (op := fun x y => some (x == y)) (J.var (i := 0) (V := (vT D.int)) (x := row) rfl) (J.tup (ds := fun r => []) (g := fun r => some ([] : List Int)) (V := (vT D.int)) Js.nil (fun _ => rfl) (fun _ => rfl)) (fun x y e1 e2 => op_eq (EqT.tup EqT.int) rfl rfl rfl))) (T.retP (V := vI) (g := fun z => z) (J.lit (V := vI) (x := 0) rfl) (fun _ _ => rfl) (fun _ => rfl)) (fun _ _ => rfl) (T.asgP (V := vI) (ρ' := fun ones => [some (vT D.int row), some (vI ones), none]) (h' := fun ones => [dead, dead, dead]) (J.lcnt (J.var (i := 0) (V := (vT D.int)) (x := row) rfl) (J.lit (V := vI) (x := 1) rfl) (fun x e => intsC_seq rfl)) (fun _ => rfl) (fun ones => (T.retP (V := vI) (g := fun z => z) (J.ife (JT.bo (J.cmp (op := fun x y => some (x == y)) (J.var (i := 1) (V := vI) (x := ones) rfl) (J.lit (V := vI) (x := 0) rfl) (fun x y e1 e2 => op_eq EqT.int rfl rfl rfl))) (J.sub (op := fun x y => atI x y) (V := vI) (J.var (i := 0) (V := (vT D.int)) (x := row) rfl) (J.lit (V := vI) (x := 0) rfl) (fun x y e1 e2 => op_ix (f := D.int) rfl)) (J.two (op := fun (x y : Int) => some (x - y)) (V := vI) (J.b1 (k := .len) (op := fun x => some (((x.length : Nat) : Int))) (V := vI) (J.lcP (c := fun (part : Int) => (decide (ones < part))) (e := fun (part : Int) => part) (own := [2]) (tg := (.nm 2)) (g := (vD D.int)) (ρ1 := (fun part => [some (vT D.int row), some (vI ones), some (vI part)])) (V := vI) (en := D.int) (JI.val (f := D.int) (J.var (i := 0) (V := (vT D.int)) (x := row) rfl) (fun _ _ => rfl)) (fun _ => rfl) (fun part => JC.yes (JT.bo (J.cmp (op := fun x y => some (decide (y < x))) (J.var (i := 2) (V := vI) (x := part) rfl) (J.var (i := 1) (V := vI) (x := ones) rfl) (fun x y e1 e2 => rfl)))) (fun part => (J.var (i := 2) (V := vI) (x := part) rfl)) (fun _ => rfl) rfl) (fun x e => b_len (f := D.int) rfl)) (J.var (i := 1) (V := vI) (x := ones) rfl) (fun _ _ _ _ => rfl))) (fun _ _ => rfl) (fun _ => rfl)))))
  first | exact TJ.of_eq key (by simp -implicitDefEqProofs only [s_l_crank, Option.bind_assoc, Option.bind_some, Option.bind_none, Option.bind_fun_some] <;> rfl) | exact key
theorem L_l_crank (n : Nat) (row : List Int) : ∀ z, s_l_crank row = some z → callV' tabV (n + 1) 20 [Arg.p ((eT D.int) row)] = some ((fun z : Int => ((Ret.p (D.int z), []) : Ret × List (List D))) z) :=
  run_link (n := n + 0) (fn := v__law_crank) (En := (fun z : Int => OutV.rt ((fun z : Int => ((Ret.p (D.int z), []) : Ret × List (List D))) z).1 ((fun z : Int => ((Ret.p (D.int z), []) : Ret × List (List D))) z).2)) (R := (fun z : Int => ((Ret.p (D.int z), []) : Ret × List (List D)))) rfl rfl (B_l_crank n row) (fun _ => rfl)
def s_times_in (row : List Int) (size : Int) : Option (Int) := ((lenC (List.map (fun (part : Int) => part) (List.filter (fun (part : Int) => (part == size)) row))).bind fun x1 => some ((x1.length : Nat) : Int)).bind fun x2 => some x2
theorem B_times_in (n : Nat) (row : List Int) (size : Int) : TJ (callV' tabV (n + 0)) [false, false] v_times_in.body [some (vT D.int row), some (vI size), none] [dead, dead, dead] (s_times_in row size) (fun z : Int => OutV.rt ((fun z : Int => ((Ret.p (D.int z), []) : Ret × List (List D))) z).1 ((fun z : Int => ((Ret.p (D.int z), []) : Ret × List (List D))) z).2) := by
  have key : TJ (callV' tabV (n + 0)) [false, false] v_times_in.body [some (vT D.int row), some (vI size), none] [dead, dead, dead] _ (fun z : Int => OutV.rt ((fun z : Int => ((Ret.p (D.int z), []) : Ret × List (List D))) z).1 ((fun z : Int => ((Ret.p (D.int z), []) : Ret × List (List D))) z).2) := (T.retP (V := vI) (g := fun z => z) (J.b1 (k := .len) (op := fun x => some (((x.length : Nat) : Int))) (V := vI) (J.lcP (c := fun (part : Int) => (part == size)) (e := fun (part : Int) => part) (own := [2]) (tg := (.nm 2)) (g := (vD D.int)) (ρ1 := (fun part => [some (vT D.int row), some (vI size), some (vI part)])) (V := vI) (en := D.int) (JI.val (f := D.int) (J.var (i := 0) (V := (vT D.int)) (x := row) rfl) (fun _ _ => rfl)) (fun _ => rfl) (fun part => JC.yes (JT.bo (J.cmp (op := fun x y => some (x == y)) (J.var (i := 2) (V := vI) (x := part) rfl) (J.var (i := 1) (V := vI) (x := size) rfl) (fun x y e1 e2 => op_eq EqT.int rfl rfl rfl)))) (fun part => (J.var (i := 2) (V := vI) (x := part) rfl)) (fun _ => rfl) rfl) (fun x e => b_len (f := D.int) rfl)) (fun _ _ => rfl) (fun _ => rfl))
  first | exact TJ.of_eq key (by simp -implicitDefEqProofs only [s_times_in, Option.bind_assoc, Option.bind_some, Option.bind_none, Option.bind_fun_some] <;> rfl) | exact key
theorem L_times_in (n : Nat) (row : List Int) (size : Int) : ∀ z, s_times_in row size = some z → callV' tabV (n + 1) 6 [Arg.p ((eT D.int) row), Arg.p (D.int size)] = some ((fun z : Int => ((Ret.p (D.int z), []) : Ret × List (List D))) z) :=
  run_link (n := n + 0) (fn := v_times_in) (En := (fun z : Int => OutV.rt ((fun z : Int => ((Ret.p (D.int z), []) : Ret × List (List D))) z).1 ((fun z : Int => ((Ret.p (D.int z), []) : Ret × List (List D))) z).2)) (R := (fun z : Int => ((Ret.p (D.int z), []) : Ret × List (List D)))) rfl rfl (B_times_in n row size) (fun _ => rfl)
def s_crank_of (row : List Int) : Option (Int) := (s_times_in row 1).bind fun ones => (if (ones == 0) then ((some (!(row == ([] : List Int)))).bind fun x1 => if x1 then atI row 0 else some 0).bind fun x2 => some x2 else (((lenC (List.map (fun (part : Int) => part) (List.filter (fun (part : Int) => (decide (ones < part))) row))).bind fun x3 => some ((x3.length : Nat) : Int)).bind fun x4 => some (x4 - ones)).bind fun x5 => some x5)
theorem B_crank_of (n : Nat) (row : List Int) : TJ (callV' tabV (n + 1)) [false] v_crank_of.body [some (vT D.int row), none, none] [dead, dead, dead] (s_crank_of row) (fun z : Int => OutV.rt ((fun z : Int => ((Ret.p (D.int z), []) : Ret × List (List D))) z).1 ((fun z : Int => ((Ret.p (D.int z), []) : Ret × List (List D))) z).2) := by
  have key : TJ (callV' tabV (n + 1)) [false] v_crank_of.body [some (vT D.int row), none, none] [dead, dead, dead] _ (fun z : Int => OutV.rt ((fun z : Int => ((Ret.p (D.int z), []) : Ret × List (List D))) z).1 ((fun z : Int => ((Ret.p (D.int z), []) : Ret × List (List D))) z).2) := (T.asgP (V := vI) (ρ' := fun ones => [some (vT D.int row), some (vI ones), none]) (h' := fun ones => [dead, dead, dead]) (J.call (f := 6) (op := fun r => s_times_in r.1 r.2.1) (V := vI) (Js.cons (J.var (i := 0) (V := (vT D.int)) (x := row) rfl) (Js.cons (J.lit (V := vI) (x := 1) rfl) Js.nil)) (fun r z _ e => (call_link (as := [(Arg.p ((eT D.int) r.1), none), (Arg.p (D.int r.2.1), none)]) (R := (fun z : Int => ((Ret.p (D.int z), []) : Ret × List (List D)))) (V := vI) (H := fun _ => [dead, dead, dead]) rfl rfl (L_times_in (n + 0) r.1 r.2.1) (fun _ => rfl) (fun _ => rfl) z e))) (fun _ => rfl) (fun ones => (T.ifTP (JT.bo (J.cmp (op := fun x y => some (x == y)) (J.var (i := 1) (V := vI) (x := ones) rfl) (J.lit (V := vI) (x := 0) rfl) (fun x y e1 e2 => op_eq EqT.int rfl rfl rfl))) (T.retP (V := vI) (g := fun z => z) (J.ife (JT.bo (J.cmp (op := fun x y => some (!(x == y))) (J.var (i := 0) (V := (vT D.int)) (x := row) rfl) (J.tup (ds := fun r => []) (g := fun r => some ([] : List Int)) (V := (vT D.int)) Js.nil (fun _ => rfl) (fun _ => rfl)) (fun x y e1 e2 => op_ne (EqT.tup EqT.int) rfl rfl rfl))) (J.sub (op := fun x y => atI x y) (V := vI) (J.var (i := 0) (V := (vT D.int)) (x := row) rfl) (J.lit (V := vI) (x := 0) rfl) (fun x y e1 e2 => op_ix (f := D.int) rfl)) (J.lit (V := vI) (x := 0) rfl)) (fun _ _ => rfl) (fun _ => rfl)) (fun _ _ => rfl) (T.retP (V := vI) (g := fun z => z) (J.two (op := fun (x y : Int) => some (x - y)) (V := vI) (J.b1 (k := .len) (op := fun x => some (((x.length : Nat) : Int))) (V := vI) (J.lcP (c := fun (part : Int) => (decide (ones < part))) (e := fun (part : Int) => part) (own := [2]) (tg := (.nm 2)) (g := (vD D.int)) (ρ1 := (fun part => [some (vT D.int row), some (vI ones), some (vI part)])) (V := vI) (en := D.int) (JI.val (f := D.int) (J.var (i := 0) (V := (vT D.int)) (x := row) rfl) (fun _ _ => rfl)) (fun _ => rfl) (fun part => JC.yes (JT.bo (J.cmp (op := fun x y => some (decide (y < x))) (J.var (i := 2) (V := vI) (x := part) rfl) (J.var (i := 1) (V := vI) (x := ones) rfl) (fun x y e1 e2 => rfl)))) (fun part => (J.var (i := 2) (V := vI) (x := part) rfl)) (fun _ => rfl) rfl) (fun x e => b_len (f := D.int) rfl)) (J.var (i := 1) (V := vI) (x := ones) rfl) (fun _ _ _ _ => rfl)) (fun _ _ => rfl) (fun _ => rfl)))))
  first | exact TJ.of_eq key (by simp -implicitDefEqProofs only [s_crank_of, Option.bind_assoc, Option.bind_some, Option.bind_none, Option.bind_fun_some] <;> rfl) | exact key
theorem L_crank_of (n : Nat) (row : List Int) : ∀ z, s_crank_of row = some z → callV' tabV (n + 2) 9 [Arg.p ((eT D.int) row)] = some ((fun z : Int => ((Ret.p (D.int z), []) : Ret × List (List D))) z) :=
  run_link (n := n + 1) (fn := v_crank_of) (En := (fun z : Int => OutV.rt ((fun z : Int => ((Ret.p (D.int z), []) : Ret × List (List D))) z).1 ((fun z : Int => ((Ret.p (D.int z), []) : Ret × List (List D))) z).2)) (R := (fun z : Int => ((Ret.p (D.int z), []) : Ret × List (List D)))) rfl rfl (B_crank_of n row) (fun _ => rfl)
def s_crank (row : List Int) : Option (Int) := (s_check_row row).bind fun _ => (s_crank_of row).bind fun x1 => some x1
theorem B_crank (n : Nat) (row : List Int) : TJ (callV' tabV (n + 4)) [false] v_crank.body [some (vT D.int row)] [dead] (s_crank row) (fun z : Int => OutV.rt ((fun z : Int => ((Ret.p (D.int z), []) : Ret × List (List D))) z).1 ((fun z : Int => ((Ret.p (D.int z), []) : Ret × List (List D))) z).2) := by
  have key : TJ (callV' tabV (n + 4)) [false] v_crank.body [some (vT D.int row)] [dead] _ (fun z : Int => OutV.rt ((fun z : Int => ((Ret.p (D.int z), []) : Ret × List (List D))) z).1 ((fun z : Int => ((Ret.p (D.int z), []) : Ret × List (List D))) z).2) := (T.exP (J.call (f := 5) (op := fun r => s_check_row r.1) (V := (fun _ => Val.p .non)) (Js.cons (J.var (i := 0) (V := (vT D.int)) (x := row) rfl) Js.nil) (fun r z _ e => (call_link (as := [(Arg.p ((eT D.int) r.1), none)]) (R := (fun z : Unit => ((Ret.p D.non, []) : Ret × List (List D)))) (V := (fun _ => Val.p .non)) (H := fun _ => [dead]) rfl rfl (L_check_row (n + 0) r.1) (fun _ => rfl) (fun _ => rfl) z e))) (T.retP (V := vI) (g := fun z => z) (J.call (f := 9) (op := fun r => s_crank_of r.1) (V := vI) (Js.cons (J.var (i := 0) (V := (vT D.int)) (x := row) rfl) Js.nil) (fun r z _ e => (call_link (as := [(Arg.p ((eT D.int) r.1), none)]) (R := (fun z : Int => ((Ret.p (D.int z), []) : Ret × List (List D)))) (V := vI) (H := fun _ => [dead]) rfl rfl (L_crank_of (n + 2) r.1) (fun _ => rfl) (fun _ => rfl) z e))) (fun _ _ => rfl) (fun _ => rfl)))
  first | exact TJ.of_eq key (by simp -implicitDefEqProofs only [s_crank, Option.bind_assoc, Option.bind_some, Option.bind_none, Option.bind_fun_some] <;> rfl) | exact key
theorem L_crank (n : Nat) (row : List Int) : ∀ z, s_crank row = some z → callV' tabV (n + 5) 11 [Arg.p ((eT D.int) row)] = some ((fun z : Int => ((Ret.p (D.int z), []) : Ret × List (List D))) z) :=
  run_link (n := n + 4) (fn := v_crank) (En := (fun z : Int => OutV.rt ((fun z : Int => ((Ret.p (D.int z), []) : Ret × List (List D))) z).1 ((fun z : Int => ((Ret.p (D.int z), []) : Ret × List (List D))) z).2)) (R := (fun z : Int => ((Ret.p (D.int z), []) : Ret × List (List D)))) rfl rfl (B_crank n row) (fun _ => rfl)
def s_l_told_right (row : List Int) : Option (Bool) := ((some (!(row == ([] : List Int)))).bind fun x2 => if x2 then (atI row 0).bind fun x1 => some (x1 - ((row.length : Nat) : Int)) else some 0).bind fun due => ((((s_rank row).bind fun x4 => (s_rank row).bind fun x5 => ((s_l_turned row).bind fun x3 => s_rank x3).bind fun x6 => some ([x4, x5, x6] : List Int)).bind fun x7 => repS ((eF D.int) x7)).bind fun x8 => (repS ((eF D.int) ([due, due, (0 - due)] : List Int))).bind fun x9 => (if eqD x8 x9 then some false else none)).bind fun x16 => if x16 then some false else (s_l_crank row).bind fun due => ((((s_crank row).bind fun x10 => (s_crank row).bind fun x11 => some ([x10, x11] : List Int)).bind fun x12 => repS ((eF D.int) x12)).bind fun x13 => (repS ((eF D.int) ([due, due] : List Int))).bind fun x14 => (if eqD x13 x14 then some true else none)).bind fun x15 => some x15
theorem B_l_told_right (n : Nat) (row : List Int) : TJ (callV' tabV (n + 5)) [false] v__law_told_right.body [some (vT D.int row), none] [dead, dead] (s_l_told_right row) (fun z : Bool => OutV.rt ((fun z : Bool => ((Ret.p (D.bl z), []) : Ret × List (List D))) z).1 ((fun z : Bool => ((Ret.p (D.bl z), []) : Ret × List (List D))) z).2) := by
  have key : TJ (callV' tabV (n + 5)) [false] v__law_told_right.body [some (vT D.int row), none] [dead, dead] _ (fun z : Bool => OutV.rt ((fun z : Bool => ((Ret.p (D.bl z), []) : Ret × List (List D))) z).1 ((fun z : Bool => ((Ret.p (D.bl z), []) : Ret × List (List D))) z).2) := (T.asgP (V := vI) (ρ' := fun due => [some (vT D.int row), some (vI due)]) (h' := fun due => [dead, dead]) (J.ife (JT.bo (J.cmp (op := fun x y => some (!(x == y))) (J.var (i := 0) (V := (vT D.int)) (x := row) rfl) (J.tup (ds := fun r => []) (g := fun r => some ([] : List Int)) (V := (vT D.int)) Js.nil (fun _ => rfl) (fun _ => rfl)) (fun x y e1 e2 => op_ne (EqT.tup EqT.int) rfl rfl rfl))) (J.two (op := fun (x y : Int) => some (x - y)) (V := vI) (J.sub (op := fun x y => atI x y) (V := vI) (J.var (i := 0) (V := (vT D.int)) (x := row) rfl) (J.lit (V := vI) (x := 0) rfl) (fun x y e1 e2 => op_ix (f := D.int) rfl)) (J.b1 (k := .len) (op := fun x => some (((x.length : Nat) : Int))) (V := vI) (J.var (i := 0) (V := (vT D.int)) (x := row) rfl) (fun x e => b_len (f := D.int) rfl)) (fun _ _ _ _ => rfl)) (J.lit (V := vI) (x := 0) rfl)) (fun _ => rfl) (fun due => (T.ifTP (JT.bo (J.cmp (op := fun x y => (if eqD x y then some false else none)) (J.b1 (k := .repr) (op := fun x => repS ((eF D.int) x)) (V := (vD D.rep)) (J.lst (ds := fun r => [D.int r.1, D.int r.2.1, D.int r.2.2.1]) (g := fun r => some ([r.1, r.2.1, r.2.2.1] : List Int)) (V := (vN D.int)) (Js.cons (J.call (f := 10) (op := fun r => s_rank r.1) (V := vI) (Js.cons (J.var (i := 0) (V := (vT D.int)) (x := row) rfl) Js.nil) (fun r z _ e => (call_link (as := [(Arg.p ((eT D.int) r.1), none)]) (R := (fun z : Int => ((Ret.p (D.int z), []) : Ret × List (List D)))) (V := vI) (H := fun _ => [dead, dead]) rfl rfl (L_rank (n + 0) r.1) (fun _ => rfl) (fun _ => rfl) z e))) (Js.cons (J.callK (f := 10) (pm := [0]) (op := fun r s => s_rank s.1) (V := vI) Js.nil (Js.cons (J.var (i := 0) (V := (vT D.int)) (x := row) rfl) Js.nil) (fun r s z _ _ e => (call_link (as := [(Arg.p ((eT D.int) s.1), none)]) (R := (fun z : Int => ((Ret.p (D.int z), []) : Ret × List (List D)))) (V := vI) (H := fun _ => [dead, dead]) rfl rfl (L_rank (n + 0) s.1) (fun _ => rfl) (fun _ => rfl) z e))) (Js.cons (J.call (f := 10) (op := fun r => s_rank r.1) (V := vI) (Js.cons (J.call (f := 19) (op := fun r => s_l_turned r.1) (V := (vT D.int)) (Js.cons (J.var (i := 0) (V := (vT D.int)) (x := row) rfl) Js.nil) (fun r z _ e => (call_link (as := [(Arg.p ((eT D.int) r.1), none)]) (R := (fun z : List Int => ((Ret.p ((eT D.int) z), []) : Ret × List (List D)))) (V := (vT D.int)) (H := fun _ => [dead, dead]) rfl rfl (L_l_turned (n + 4) r.1) (fun _ => rfl) (fun _ => rfl) z e))) Js.nil) (fun r z _ e => (call_link (as := [(Arg.p ((eT D.int) r.1), none)]) (R := (fun z : Int => ((Ret.p (D.int z), []) : Ret × List (List D)))) (V := vI) (H := fun _ => [dead, dead]) rfl rfl (L_rank (n + 0) r.1) (fun _ => rfl) (fun _ => rfl) z e))) Js.nil))) (fun _ => rfl) (fun _ => rfl)) (fun x e => b_repr rfl)) (J.b1 (k := .repr) (op := fun x => repS ((eF D.int) x)) (V := (vD D.rep)) (J.lst (ds := fun r => [D.int r.1, D.int r.2.1, D.int r.2.2.1]) (g := fun r => some ([r.1, r.2.1, r.2.2.1] : List Int)) (V := (vN D.int)) (Js.cons (J.var (i := 1) (V := vI) (x := due) rfl) (Js.cons (J.var (i := 1) (V := vI) (x := due) rfl) (Js.cons (J.two (op := fun (x y : Int) => some (x - y)) (V := vI) (J.lit (V := vI) (x := 0) rfl) (J.var (i := 1) (V := vI) (x := due) rfl) (fun _ _ _ _ => rfl)) Js.nil))) (fun _ => rfl) (fun _ => rfl)) (fun x e => b_repr rfl)) (fun x y e1 e2 => op_neR x y))) (T.retP (V := vB) (g := fun z => z) (J.lit (V := vB) (x := false) rfl) (fun _ _ => rfl) (fun _ => rfl)) (fun _ _ => rfl) (T.asgP (V := vI) (ρ' := fun due => [some (vT D.int row), some (vI due)]) (h' := fun due => [dead, dead]) (J.call (f := 20) (op := fun r => s_l_crank r.1) (V := vI) (Js.cons (J.var (i := 0) (V := (vT D.int)) (x := row) rfl) Js.nil) (fun r z _ e => (call_link (as := [(Arg.p ((eT D.int) r.1), none)]) (R := (fun z : Int => ((Ret.p (D.int z), []) : Ret × List (List D)))) (V := vI) (H := fun _ => [dead, dead]) rfl rfl (L_l_crank (n + 4) r.1) (fun _ => rfl) (fun _ => rfl) z e))) (fun _ => rfl) (fun due => (T.retP (V := vB) (g := fun z => z) (J.cmp (op := fun x y => (if eqD x y then some true else none)) (J.b1 (k := .repr) (op := fun x => repS ((eF D.int) x)) (V := (vD D.rep)) (J.lst (ds := fun r => [D.int r.1, D.int r.2.1]) (g := fun r => some ([r.1, r.2.1] : List Int)) (V := (vN D.int)) (Js.cons (J.call (f := 11) (op := fun r => s_crank r.1) (V := vI) (Js.cons (J.var (i := 0) (V := (vT D.int)) (x := row) rfl) Js.nil) (fun r z _ e => (call_link (as := [(Arg.p ((eT D.int) r.1), none)]) (R := (fun z : Int => ((Ret.p (D.int z), []) : Ret × List (List D)))) (V := vI) (H := fun _ => [dead, dead]) rfl rfl (L_crank (n + 0) r.1) (fun _ => rfl) (fun _ => rfl) z e))) (Js.cons (J.callK (f := 11) (pm := [0]) (op := fun r s => s_crank s.1) (V := vI) Js.nil (Js.cons (J.var (i := 0) (V := (vT D.int)) (x := row) rfl) Js.nil) (fun r s z _ _ e => (call_link (as := [(Arg.p ((eT D.int) s.1), none)]) (R := (fun z : Int => ((Ret.p (D.int z), []) : Ret × List (List D)))) (V := vI) (H := fun _ => [dead, dead]) rfl rfl (L_crank (n + 0) s.1) (fun _ => rfl) (fun _ => rfl) z e))) Js.nil)) (fun _ => rfl) (fun _ => rfl)) (fun x e => b_repr rfl)) (J.b1 (k := .repr) (op := fun x => repS ((eF D.int) x)) (V := (vD D.rep)) (J.lst (ds := fun r => [D.int r.1, D.int r.2.1]) (g := fun r => some ([r.1, r.2.1] : List Int)) (V := (vN D.int)) (Js.cons (J.var (i := 1) (V := vI) (x := due) rfl) (Js.cons (J.var (i := 1) (V := vI) (x := due) rfl) Js.nil)) (fun _ => rfl) (fun _ => rfl)) (fun x e => b_repr rfl)) (fun x y e1 e2 => op_eqR x y)) (fun _ _ => rfl) (fun _ => rfl)))))))
  first | exact TJ.of_eq key (by simp -implicitDefEqProofs only [s_l_told_right, Option.bind_assoc, Option.bind_some, Option.bind_none, Option.bind_fun_some] <;> rfl) | exact key
theorem L_l_told_right (n : Nat) (row : List Int) : ∀ z, s_l_told_right row = some z → callV' tabV (n + 6) 21 [Arg.p ((eT D.int) row)] = some ((fun z : Bool => ((Ret.p (D.bl z), []) : Ret × List (List D))) z) :=
  run_link (n := n + 5) (fn := v__law_told_right) (En := (fun z : Bool => OutV.rt ((fun z : Bool => ((Ret.p (D.bl z), []) : Ret × List (List D))) z).1 ((fun z : Bool => ((Ret.p (D.bl z), []) : Ret × List (List D))) z).2)) (R := (fun z : Bool => ((Ret.p (D.bl z), []) : Ret × List (List D)))) rfl rfl (B_l_told_right n row) (fun _ => rfl)
def s_l_shared (marks : List Int) (by' : Int) : Option (List Int) := (((rng1 by').bind fun x3 => (lcE (fun (rest : Int) => ((lcS (fun (mark : Int) => ((modS (mark - rest) by').bind fun x1 => some (x1 == 0)).bind fun c => if c then (some mark).bind fun y => some (some y) else some none) marks).bind fun ys => lenC ys).bind fun x2 => some ((x2.length : Nat) : Int)) x3).bind fun ys => lenC ys).bind fun x4 => some x4).bind fun x5 => some x5
theorem B_l_shared (n : Nat) (marks : List Int) (by' : Int) : TJ (callV' tabV (n + 0)) [true, false] v__law_shared.body [some (.loc 0), some (vI by'), none, none] [.lst false (List.map D.int marks), dead, dead, dead] (s_l_shared marks by') (fun z : List Int => OutV.rt ((fun z : List Int => ((Ret.p ((eT D.int) z), [List.map D.int marks]) : Ret × List (List D))) z).1 ((fun z : List Int => ((Ret.p ((eT D.int) z), [List.map D.int marks]) : Ret × List (List D))) z).2) := by
  have key : TJ (callV' tabV (n + 0)) [true, false] v__law_shared.body [some (.loc 0), some (vI by'), none, none] [.lst false (List.map D.int marks), dead, dead, dead] _ (fun z : List Int => OutV.rt ((fun z : List Int => ((Ret.p ((eT D.int) z), [List.map D.int marks]) : Ret × List (List D))) z).1 ((fun z : List Int => ((Ret.p ((eT D.int) z), [List.map D.int marks]) : Ret × List (List D))) z).2) := (T.retP (V := (vT D.int)) (g := fun z => z) (J.b1 (k := .tuple) (op := fun x => some (x)) (V := (vT D.int)) (J.lcE (me := fun (rest : Int) => ((lcS (fun (mark : Int) => ((modS (mark - rest) by').bind fun x1 => some (x1 == 0)).bind fun c => if c then (some mark).bind fun y => some (some y) else some none) marks).bind fun ys => lenC ys).bind fun x2 => some ((x2.length : Nat) : Int)) (own := [2]) (tg := (.nm 2)) (g := vI) (ρ1 := (fun rest => [some (.loc 0), some (vI by'), some (vI rest), none])) (V := vI) (en := D.int) (JI.rng1 (J.var (i := 1) (V := vI) (x := by') rfl)) (fun _ => rfl) (fun rest => (J.of_eq (J.b1 (k := .len) (op := fun x => some (((x.length : Nat) : Int))) (V := vI) (J.lc (mc := fun (mark : Int) => (modS (mark - rest) by').bind fun x1 => some (x1 == 0)) (me := fun (mark : Int) => some mark) (own := [3]) (tg := (.nm 3)) (g := (vD D.int)) (ρ1 := (fun mark => [some (.loc 0), some (vI by'), some (vI rest), some (vI mark)])) (V := vI) (en := D.int) (JI.loc (f := D.int) (i := 0) (k := false) (J.var (i := 0) (V := (vL 0)) (x := marks) rfl) rfl) (fun _ => rfl) (fun mark => JC.yes (JT.of_eq (JT.bo (J.cmp (op := fun x y => some (x == y)) (J.two (op := fun x y => modS x y) (V := vI) (J.b1 (k := .int) (op := fun x => some (x)) (V := vI) (J.two (op := fun (x y : Int) => some (x - y)) (V := vI) (J.var (i := 3) (V := vI) (x := mark) rfl) (J.var (i := 2) (V := vI) (x := rest) rfl) (fun _ _ _ _ => rfl)) (fun x e => b_int x)) (J.var (i := 1) (V := vI) (x := by') rfl) (fun x y _ _ => op_mod x y)) (J.lit (V := vI) (x := 0) rfl) (fun x y e1 e2 => op_eq EqT.int rfl rfl rfl))) (by simp -implicitDefEqProofs only [Option.bind_assoc, Option.bind_some, Option.bind_none, Option.bind_fun_some] <;> rfl))) (fun mark => (J.var (i := 3) (V := vI) (x := mark) rfl)) (fun _ => rfl) rfl) (fun x e => b_len (f := D.int) rfl)) (by simp -implicitDefEqProofs only [Option.bind_assoc, Option.bind_some, Option.bind_none, Option.bind_fun_some] <;> rfl))) (fun _ => rfl) rfl) (fun x e => b_tuple (f := D.int) rfl)) (fun _ _ => rfl) (fun _ => rfl))
  first | exact TJ.of_eq key (by simp -implicitDefEqProofs only [s_l_shared, Option.bind_assoc, Option.bind_some, Option.bind_none, Option.bind_fun_some] <;> rfl) | exact key
theorem L_l_shared (n : Nat) (marks : List Int) (by' : Int) : ∀ z, s_l_shared marks by' = some z → callV' tabV (n + 1) 22 [Arg.lst (List.map D.int marks), Arg.p (D.int by')] = some ((fun z : List Int => ((Ret.p ((eT D.int) z), [List.map D.int marks]) : Ret × List (List D))) z) :=
  run_link (n := n + 0) (fn := v__law_shared) (En := (fun z : List Int => OutV.rt ((fun z : List Int => ((Ret.p ((eT D.int) z), [List.map D.int marks]) : Ret × List (List D))) z).1 ((fun z : List Int => ((Ret.p ((eT D.int) z), [List.map D.int marks]) : Ret × List (List D))) z).2)) (R := (fun z : List Int => ((Ret.p ((eT D.int) z), [List.map D.int marks]) : Ret × List (List D)))) rfl rfl (B_l_shared n marks by') (fun _ => rfl)
def s_check_within (value : Int) (least : Int) (most : Int) : Option (Unit) := ((s_is_within_bounds value least most).bind fun x1 => some (!x1)).bind fun x2 => if x2 then none else some ()
theorem B_check_within (n : Nat) (value : Int) (least : Int) (most : Int) : TJ (callV' tabV (n + 2)) [false, false, false] v_check_within.body [some (vI value), some (vI least), some (vI most)] [dead, dead, dead] (s_check_within value least most) (fun z : Unit => OutV.nx [some (vI value), some (vI least), some (vI most)] [dead, dead, dead]) := by
  have key : TJ (callV' tabV (n + 2)) [false, false, false] v_check_within.body [some (vI value), some (vI least), some (vI most)] [dead, dead, dead] _ (fun z : Unit => OutV.nx [some (vI value), some (vI least), some (vI most)] [dead, dead, dead]) := (T.ifTP (JT.not (JT.bo (J.call (f := 1) (op := fun r => s_is_within_bounds r.1 r.2.1 r.2.2.1) (V := vB) (Js.cons (J.var (i := 0) (V := vI) (x := value) rfl) (Js.cons (J.var (i := 1) (V := vI) (x := least) rfl) (Js.cons (J.var (i := 2) (V := vI) (x := most) rfl) Js.nil))) (fun r z _ e => (call_link (as := [(Arg.p (D.int r.1), none), (Arg.p (D.int r.2.1), none), (Arg.p (D.int r.2.2.1), none)]) (R := (fun z : Bool => ((Ret.p (D.bl z), []) : Ret × List (List D)))) (V := vB) (H := fun _ => [dead, dead, dead]) rfl rfl (L_is_within_bounds (n + 0) r.1 r.2.1 r.2.2.1) (fun _ => rfl) (fun _ => rfl) z e))))) T.nev (fun _ e => by cases e) (T.nil (s := ()) rfl))
  first | exact TJ.of_eq key (by simp -implicitDefEqProofs only [s_check_within, Option.bind_assoc, Option.bind_some, Option.bind_none, Option.bind_fun_some] <;> rfl) | exact key
theorem L_check_within (n : Nat) (value : Int) (least : Int) (most : Int) : ∀ z, s_check_within value least most = some z → callV' tabV (n + 3) 2 [Arg.p (D.int value), Arg.p (D.int least), Arg.p (D.int most)] = some ((fun z : Unit => ((Ret.p D.non, []) : Ret × List (List D))) z) :=
  run_link (n := n + 2) (fn := v_check_within) (En := (fun z : Unit => OutV.nx [some (vI value), some (vI least), some (vI most)] [dead, dead, dead])) (R := (fun z : Unit => ((Ret.p D.non, []) : Ret × List (List D)))) rfl rfl (B_check_within n value least most) (fun _ => rfl)
def s_rows_within_b1 (rc : Int → Int → Option (List (List Int))) (part : Int) (rest : List Int) (found : List (List Int)) : Option (List (List Int)) := (lenT (part :: rest)).bind fun x1 => (appS found x1).bind fun found => some found
theorem B_rows_within_b1 {rc : Int → Int → Option (List (List Int))} (n : Nat) (ih : ∀ (number0 : Int) (most0 : Int) (z : List (List Int)), rc number0 most0 = some z → (callV' tabV (n + 0)) 7 [Arg.p (D.int number0), Arg.p (D.int most0)] = some ((fun z : List (List Int) => ((Ret.new (List.map (eT D.int) z), []) : Ret × List (List D))) z)) (number : Int) (most : Int) (part : Int) (rest : List Int) (found : List (List Int)) : TJ (callV' tabV (n + 0)) [false, false] b_rows_within_1 [some (vI number), some (vI most), some (.loc 2), some (vI part), some (vT D.int rest)] [dead, dead, .lst false (List.map (eT D.int) found), dead, dead] (s_rows_within_b1 rc part rest found) (fun s : List (List Int) => OutV.nx [some (vI number), some (vI most), some (.loc 2), some (vI part), none] [dead, dead, .lst false (List.map (eT D.int) s), dead, dead]) := by
  have key : TJ (callV' tabV (n + 0)) [false, false] b_rows_within_1 [some (vI number), some (vI most), some (.loc 2), some (vI part), some (vT D.int rest)] [dead, dead, .lst false (List.map (eT D.int) found), dead, dead] _ (fun s : List (List Int) => OutV.nx [some (vI number), some (vI most), some (.loc 2), some (vI part), none] [dead, dead, .lst false (List.map (eT D.int) s), dead, dead]) := (T.app (n := 2) (f := (eT D.int)) (xs := found) (h' := fun found => [dead, dead, .lst false (List.map (eT D.int) found), dead, dead]) rfl (J.tup (ds := fun r => (D.int r.1 :: (List.map D.int r.2.1 ++ []))) (g := fun r => lenT (r.1 :: r.2.1)) (V := (vT D.int)) (Js.cons (J.var (i := 3) (V := vI) (x := part) rfl) (Js.star (t := fun _ => true) (ds := fun z => List.map D.int z) (J.var (i := 4) (V := (vT D.int)) (x := rest) rfl) (fun _ e => rfl) Js.nil)) (fun r => (frzDs_cons rfl (frzDs_app _ _ _ _ (frzDs_p _) rfl))) (fun r => disp_T (f := D.int) (by simp))) (fun _ => rfl) rfl (fun _ => rfl) (fun found => (T.kill (is := [4]) (ρ' := [some (vI number), some (vI most), some (.loc 2), some (vI part), none]) (h' := [dead, dead, .lst false (List.map (eT D.int) found), dead, dead]) rfl (T.nil (s := found) rfl))))
  first | exact TJ.of_eq key (by simp -implicitDefEqProofs only [s_rows_within_b1, Option.bind_assoc, Option.bind_some, Option.bind_none, Option.bind_fun_some] <;> rfl) | exact key
def s_rows_within_b0 (rc : Int → Int → Option (List (List Int))) (number : Int) (part : Int) (found : List (List Int)) : Option (List (List Int)) := (rc (number - part) part).bind fun x3 => (forN (fun (rest : List Int) (s : List (List Int)) => s_rows_within_b1 rc part rest s) x3 found).bind fun (x2 : List (List Int)) => some x2
theorem B_rows_within_b0 {rc : Int → Int → Option (List (List Int))} (n : Nat) (ih : ∀ (number0 : Int) (most0 : Int) (z : List (List Int)), rc number0 most0 = some z → (callV' tabV (n + 0)) 7 [Arg.p (D.int number0), Arg.p (D.int most0)] = some ((fun z : List (List Int) => ((Ret.new (List.map (eT D.int) z), []) : Ret × List (List D))) z)) (number : Int) (most : Int) (part : Int) (found : List (List Int)) : TJ (callV' tabV (n + 0)) [false, false] b_rows_within_0 [some (vI number), some (vI most), some (.loc 2), some (vI part), none] [dead, dead, .lst false (List.map (eT D.int) found), dead, dead] (s_rows_within_b0 rc number part found) (fun s : List (List Int) => OutV.nx [some (vI number), some (vI most), some (.loc 2), none, none] [dead, dead, .lst false (List.map (eT D.int) s), dead, dead]) := by
  have key : TJ (callV' tabV (n + 0)) [false, false] b_rows_within_0 [some (vI number), some (vI most), some (.loc 2), some (vI part), none] [dead, dead, .lst false (List.map (eT D.int) found), dead, dead] _ (fun s : List (List Int) => OutV.nx [some (vI number), some (vI most), some (.loc 2), none, none] [dead, dead, .lst false (List.map (eT D.int) s), dead, dead]) := (T.for_ (tg := (.nm 4)) (body := b_rows_within_1) (g := (vD (eT D.int))) (b := none) (ρs := (fun s => [some (vI number), some (vI most), some (.loc 2), some (vI part), none])) (hs := (fun s => [dead, dead, .lst false (List.map (eT D.int) s), dead, dead])) (hs' := (fun s => [dead, dead, .lst false (List.map (eT D.int) s), dead, dead])) (ρb := (fun rest s => [some (vI number), some (vI most), some (.loc 2), some (vI part), some (vT D.int rest)])) (hb := (fun rest s => [dead, dead, .lst false (List.map (eT D.int) s), dead, dead])) (mb := fun (rest : List Int) (s : List (List Int)) => s_rows_within_b1 rc part rest s) (s0 := found) (JI.val (f := (eT D.int)) (J.call (f := 7) (op := fun r => rc r.1 r.2.1) (V := (vN (eT D.int))) (Js.cons (J.two (op := fun (x y : Int) => some (x - y)) (V := vI) (J.var (i := 0) (V := vI) (x := number) rfl) (J.var (i := 3) (V := vI) (x := part) rfl) (fun _ _ _ _ => rfl)) (Js.cons (J.var (i := 3) (V := vI) (x := part) rfl) Js.nil)) (fun r z _ e => (call_link (as := [(Arg.p (D.int r.1), none), (Arg.p (D.int r.2.1), none)]) (R := (fun z : List (List Int) => ((Ret.new (List.map (eT D.int) z), []) : Ret × List (List D)))) (V := (vN (eT D.int))) (H := fun _ => [dead, dead, .lst false (List.map (eT D.int) found), dead, dead]) rfl rfl (ih r.1 r.2.1) (fun _ => rfl) (fun _ => rfl) z e))) (fun _ _ => rfl)) rfl rfl (fun _ _ => rfl) (fun rest s => by exact B_rows_within_b1 n ih number most part rest s) (fun _ => rfl) (fun x2 => (T.kill (is := [3, 4]) (ρ' := [some (vI number), some (vI most), some (.loc 2), none, none]) (h' := [dead, dead, .lst false (List.map (eT D.int) x2), dead, dead]) rfl (T.nil (s := x2) rfl))))
  first | exact TJ.of_eq key (by simp -implicitDefEqProofs only [s_rows_within_b0, Option.bind_assoc, Option.bind_some, Option.bind_none, Option.bind_fun_some] <;> rfl) | exact key
def s_rows_within_r (rc : Int → Int → Option (List (List Int))) (number : Int) (most : Int) : Option (List (List Int)) := (if (number == 0) then some ([([] : List Int)] : List (List Int)) else (let found : List (List Int) := ([] : List (List Int)); (rng2 1 ((if most < number then most else number) + 1)).bind fun x5 => (forN (fun (part : Int) (s : List (List Int)) => s_rows_within_b0 rc number part s) x5 found).bind fun (x4 : List (List Int)) => some x4))
def s_rows_within : Nat → Int → Int → Option (List (List Int))
  | 0, _, _ => none
  | k + 1, number, most => s_rows_within_r (s_rows_within k) number most
theorem B_rows_within {rc : Int → Int → Option (List (List Int))} (n : Nat) (ih : ∀ (number0 : Int) (most0 : Int) (z : List (List Int)), rc number0 most0 = some z → (callV' tabV (n + 0)) 7 [Arg.p (D.int number0), Arg.p (D.int most0)] = some ((fun z : List (List Int) => ((Ret.new (List.map (eT D.int) z), []) : Ret × List (List D))) z)) (number : Int) (most : Int) : TJ (callV' tabV (n + 0)) [false, false] v_rows_within.body [some (vI number), some (vI most), none, none, none] [dead, dead, dead, dead, dead] (s_rows_within_r rc number most) (fun z : List (List Int) => OutV.rt ((fun z : List (List Int) => ((Ret.new (List.map (eT D.int) z), []) : Ret × List (List D))) z).1 ((fun z : List (List Int) => ((Ret.new (List.map (eT D.int) z), []) : Ret × List (List D))) z).2) := by
  have key : TJ (callV' tabV (n + 0)) [false, false] v_rows_within.body [some (vI number), some (vI most), none, none, none] [dead, dead, dead, dead, dead] _ (fun z : List (List Int) => OutV.rt ((fun z : List (List Int) => ((Ret.new (List.map (eT D.int) z), []) : Ret × List (List D))) z).1 ((fun z : List (List Int) => ((Ret.new (List.map (eT D.int) z), []) : Ret × List (List D))) z).2) := (T.ifTP (JT.bo (J.cmp (op := fun x y => some (x == y)) (J.var (i := 0) (V := vI) (x := number) rfl) (J.lit (V := vI) (x := 0) rfl) (fun x y e1 e2 => op_eq EqT.int rfl rfl rfl))) (T.retP (V := (vN (eT D.int))) (g := fun z => z) (J.lst (ds := fun r => [(eT D.int) r.1]) (g := fun r => some ([r.1] : List (List Int))) (V := (vN (eT D.int))) (Js.cons (J.tup (ds := fun r => []) (g := fun r => some ([] : List Int)) (V := (vT D.int)) Js.nil (fun _ => rfl) (fun _ => rfl)) Js.nil) (fun _ => rfl) (fun _ => rfl)) (fun _ _ => rfl) (fun _ => rfl)) (fun _ _ => rfl) (T.asgP (V := (vN (eT D.int))) (ρ' := fun found => [some (vI number), some (vI most), some (.loc 2), none, none]) (h' := fun found => [dead, dead, .lst false (List.map (eT D.int) found), dead, dead]) (J.lst (ds := fun r => []) (g := fun r => some ([] : List (List Int))) (V := (vN (eT D.int))) Js.nil (fun _ => rfl) (fun _ => rfl)) (fun _ => rfl) (fun found => (T.for_ (tg := (.nm 3)) (body := b_rows_within_0) (g := vI) (b := none) (ρs := (fun s => [some (vI number), some (vI most), some (.loc 2), none, none])) (hs := (fun s => [dead, dead, .lst false (List.map (eT D.int) s), dead, dead])) (hs' := (fun s => [dead, dead, .lst false (List.map (eT D.int) s), dead, dead])) (ρb := (fun part s => [some (vI number), some (vI most), some (.loc 2), some (vI part), none])) (hb := (fun part s => [dead, dead, .lst false (List.map (eT D.int) s), dead, dead])) (mb := fun (part : Int) (s : List (List Int)) => s_rows_within_b0 rc number part s) (s0 := found) (JI.rng2 (J.lit (V := vI) (x := 1) rfl) (J.two (op := fun (x y : Int) => some (x + y)) (V := vI) (J.b2 (k := .min) (op := fun x y => some (if y < x then y else x)) (V := vI) (J.var (i := 0) (V := vI) (x := number) rfl) (J.var (i := 1) (V := vI) (x := most) rfl) (fun x y => b2_min x y)) (J.lit (V := vI) (x := 1) rfl) (fun _ _ _ _ => rfl))) rfl rfl (fun _ _ => rfl) (fun part s => by exact B_rows_within_b0 n ih number most part s) (fun _ => rfl) (fun x4 => (T.retP (V := (vL 2)) (g := fun z => z) (J.var (i := 2) (V := (vL 2)) (x := x4) rfl) (fun _ e => by cases e; rfl) (fun _ => rfl)))))))
  first | exact TJ.of_eq key (by simp -implicitDefEqProofs only [s_rows_within_r, Option.bind_assoc, Option.bind_some, Option.bind_none, Option.bind_fun_some] <;> rfl) | exact key
theorem L_rows_within_k (n : Nat) : ∀ (k : Nat) (number : Int) (most : Int) z, s_rows_within k number most = some z → callV' tabV (n + k + 0) 7 [Arg.p (D.int number), Arg.p (D.int most)] = some ((fun z : List (List Int) => ((Ret.new (List.map (eT D.int) z), []) : Ret × List (List D))) z)
  | 0, _, _, _, e => by cases e
  | k + 1, number, most, z, e => by
    have := run_link (n := n + k + 0) (i := 7) (fn := v_rows_within) (En := (fun z : List (List Int) => OutV.rt ((fun z : List (List Int) => ((Ret.new (List.map (eT D.int) z), []) : Ret × List (List D))) z).1 ((fun z : List (List Int) => ((Ret.new (List.map (eT D.int) z), []) : Ret × List (List D))) z).2)) (R := (fun z : List (List Int) => ((Ret.new (List.map (eT D.int) z), []) : Ret × List (List D)))) (as := [Arg.p (D.int number), Arg.p (D.int most)]) rfl rfl (B_rows_within (rc := s_rows_within k) (n + k) (L_rows_within_k n k) number most) (fun _ => rfl) z e
    rw [show n + (k + 1) + 0 = n + k + 0 + 1 by omega]
    exact this
theorem L_rows_within (n : Nat) (number : Int) (most : Int) z (e : s_rows_within 30 number most = some z) : callV' tabV (n + 30) 7 [Arg.p (D.int number), Arg.p (D.int most)] = some ((fun z : List (List Int) => ((Ret.new (List.map (eT D.int) z), []) : Ret × List (List D))) z) := L_rows_within_k n 30 number most z e
def s_shared_b0 (by' : Int) (mark : Int) (found : List Int) : Option (List Int) := (((modS mark by').bind fun x1 => atI found x1).bind fun x2 => some (x2 + 1)).bind fun x3 => (modS mark by').bind fun x4 => (setS found x4 x3).bind fun found => some found
theorem B_shared_b0 (n : Nat) (marks : List Int) (by' : Int) (mark : Int) (found : List Int) : TJ (callV' tabV (n + 0)) [true, false] b_shared_0 [some (.loc 0), some (vI by'), some (.loc 2), some (vI mark)] [.lst true (List.map D.int marks), dead, .lst false (List.map D.int found), dead] (s_shared_b0 by' mark found) (fun s : List Int => OutV.nx [some (.loc 0), some (vI by'), some (.loc 2), none] [.lst true (List.map D.int marks), dead, .lst false (List.map D.int s), dead]) := by
  have key : TJ (callV' tabV (n + 0)) [true, false] b_shared_0 [some (.loc 0), some (vI by'), some (.loc 2), some (vI mark)] [.lst true (List.map D.int marks), dead, .lst false (List.map D.int found), dead] _ (fun s : List Int => OutV.nx [some (.loc 0), some (vI by'), some (.loc 2), none] [.lst true (List.map D.int marks), dead, .lst false (List.map D.int s), dead]) := (T.set (n := 2) (f := D.int) (xs := found) (h' := fun found => [.lst true (List.map D.int marks), dead, .lst false (List.map D.int found), dead]) (J.two (op := fun (x y : Int) => some (x + y)) (V := vI) (J.sub (op := fun x y => atI x y) (V := vI) (J.var (i := 2) (V := (vL 2)) (x := found) rfl) (J.two (op := fun x y => modS x y) (V := vI) (J.b1 (k := .int) (op := fun x => some (x)) (V := vI) (J.var (i := 3) (V := vI) (x := mark) rfl) (fun x e => b_int x)) (J.var (i := 1) (V := vI) (x := by') rfl) (fun x y _ _ => op_mod x y)) (fun x y e1 e2 => op_ix (f := D.int) (seq_loc rfl e1))) (J.lit (V := vI) (x := 1) rfl) (fun _ _ _ _ => rfl)) (fun _ => rfl) rfl (J.two (op := fun x y => modS x y) (V := vI) (J.b1 (k := .int) (op := fun x => some (x)) (V := vI) (J.var (i := 3) (V := vI) (x := mark) rfl) (fun x e => b_int x)) (J.var (i := 1) (V := vI) (x := by') rfl) (fun x y _ _ => op_mod x y)) rfl (fun _ => rfl) (fun found => (T.kill (is := [3]) (ρ' := [some (.loc 0), some (vI by'), some (.loc 2), none]) (h' := [.lst true (List.map D.int marks), dead, .lst false (List.map D.int found), dead]) rfl (T.nil (s := found) rfl))))
  first | exact TJ.of_eq key (by simp -implicitDefEqProofs only [s_shared_b0, Option.bind_assoc, Option.bind_some, Option.bind_none, Option.bind_fun_some] <;> rfl) | exact key
def s_shared (marks : List Int) (by' : Int) : Option (List Int) := (timesS ([0] : List Int) by').bind fun found => (forN (fun (mark : Int) (s : List Int) => s_shared_b0 by' mark s) marks found).bind fun (x5 : List Int) => some x5
theorem B_shared (n : Nat) (marks : List Int) (by' : Int) : TJ (callV' tabV (n + 0)) [true, false] v_shared.body [some (.loc 0), some (vI by'), none, none] [.lst false (List.map D.int marks), dead, dead, dead] (s_shared marks by') (fun z : List Int => OutV.rt ((fun z : List Int => ((Ret.p ((eT D.int) z), [List.map D.int marks]) : Ret × List (List D))) z).1 ((fun z : List Int => ((Ret.p ((eT D.int) z), [List.map D.int marks]) : Ret × List (List D))) z).2) := by
  have key : TJ (callV' tabV (n + 0)) [true, false] v_shared.body [some (.loc 0), some (vI by'), none, none] [.lst false (List.map D.int marks), dead, dead, dead] _ (fun z : List Int => OutV.rt ((fun z : List Int => ((Ret.p ((eT D.int) z), [List.map D.int marks]) : Ret × List (List D))) z).1 ((fun z : List Int => ((Ret.p ((eT D.int) z), [List.map D.int marks]) : Ret × List (List D))) z).2) := (T.asgP (V := (vN D.int)) (ρ' := fun found => [some (.loc 0), some (vI by'), some (.loc 2), none]) (h' := fun found => [.lst false (List.map D.int marks), dead, .lst false (List.map D.int found), dead]) (J.two (op := fun x y => timesS x y) (V := (vN D.int)) (J.lst (ds := fun r => [D.int r.1]) (g := fun r => some ([r.1] : List Int)) (V := (vN D.int)) (Js.cons (J.lit (V := vI) (x := 0) rfl) Js.nil) (fun _ => rfl) (fun _ => rfl)) (J.var (i := 1) (V := vI) (x := by') rfl) (fun x y e1 e2 => op_times (f := D.int) rfl)) (fun _ => rfl) (fun found => (T.for_ (tg := (.nm 3)) (body := b_shared_0) (g := (vD D.int)) (b := (some (0, .lst false (List.map D.int marks)))) (ρs := (fun s => [some (.loc 0), some (vI by'), some (.loc 2), none])) (hs := (fun s => [.lst true (List.map D.int marks), dead, .lst false (List.map D.int s), dead])) (hs' := (fun s => [.lst false (List.map D.int marks), dead, .lst false (List.map D.int s), dead])) (ρb := (fun mark s => [some (.loc 0), some (vI by'), some (.loc 2), some (vI mark)])) (hb := (fun mark s => [.lst true (List.map D.int marks), dead, .lst false (List.map D.int s), dead])) (mb := fun (mark : Int) (s : List Int) => s_shared_b0 by' mark s) (s0 := found) (JI.loc (f := D.int) (i := 0) (k := false) (J.var (i := 0) (V := (vL 0)) (x := marks) rfl) rfl) rfl rfl (fun _ _ => rfl) (fun mark s => by exact B_shared_b0 n marks by' mark s) (fun _ => rfl) (fun x5 => (T.retP (V := (vT D.int)) (g := fun z => z) (J.b1 (k := .tuple) (op := fun x => some (x)) (V := (vT D.int)) (J.var (i := 2) (V := (vL 2)) (x := x5) rfl) (fun x e => b_tuple (f := D.int) (seq_loc rfl e))) (fun _ _ => rfl) (fun _ => rfl))))))
  first | exact TJ.of_eq key (by simp -implicitDefEqProofs only [s_shared, Option.bind_assoc, Option.bind_some, Option.bind_none, Option.bind_fun_some] <;> rfl) | exact key
theorem L_shared (n : Nat) (marks : List Int) (by' : Int) : ∀ z, s_shared marks by' = some z → callV' tabV (n + 1) 12 [Arg.lst (List.map D.int marks), Arg.p (D.int by')] = some ((fun z : List Int => ((Ret.p ((eT D.int) z), [List.map D.int marks]) : Ret × List (List D))) z) :=
  run_link (n := n + 0) (fn := v_shared) (En := (fun z : List Int => OutV.rt ((fun z : List Int => ((Ret.p ((eT D.int) z), [List.map D.int marks]) : Ret × List (List D))) z).1 ((fun z : List Int => ((Ret.p ((eT D.int) z), [List.map D.int marks]) : Ret × List (List D))) z).2)) (R := (fun z : List Int => ((Ret.p ((eT D.int) z), [List.map D.int marks]) : Ret × List (List D)))) rfl rfl (B_shared n marks by') (fun _ => rfl)
def s_by_rank (number : Int) (by' : Int) : Option (List Int) := (s_check_within number 0 24).bind fun _ => (s_check_within by' 2 20).bind fun _ => (((s_rows_within 30 number number).bind fun x1 => (lcE (fun (row : List Int) => s_rank_of row) x1).bind fun ys => lenC ys).bind fun x2 => s_shared x2 by').bind fun x3 => some x3
theorem B_by_rank (n : Nat) (number : Int) (by' : Int) : TJ (callV' tabV (n + 30)) [false, false] v_by_rank.body [some (vI number), some (vI by'), none] [dead, dead, dead] (s_by_rank number by') (fun z : List Int => OutV.rt ((fun z : List Int => ((Ret.p ((eT D.int) z), []) : Ret × List (List D))) z).1 ((fun z : List Int => ((Ret.p ((eT D.int) z), []) : Ret × List (List D))) z).2) := by
  have key : TJ (callV' tabV (n + 30)) [false, false] v_by_rank.body [some (vI number), some (vI by'), none] [dead, dead, dead] _ (fun z : List Int => OutV.rt ((fun z : List Int => ((Ret.p ((eT D.int) z), []) : Ret × List (List D))) z).1 ((fun z : List Int => ((Ret.p ((eT D.int) z), []) : Ret × List (List D))) z).2) := (T.exP (J.call (f := 2) (op := fun r => s_check_within r.1 r.2.1 r.2.2.1) (V := (fun _ => Val.p .non)) (Js.cons (J.var (i := 0) (V := vI) (x := number) rfl) (Js.cons (J.lit (V := vI) (x := 0) rfl) (Js.cons (J.glo (V := vI) (x := 24) rfl) Js.nil))) (fun r z _ e => (call_link (as := [(Arg.p (D.int r.1), none), (Arg.p (D.int r.2.1), none), (Arg.p (D.int r.2.2.1), none)]) (R := (fun z : Unit => ((Ret.p D.non, []) : Ret × List (List D)))) (V := (fun _ => Val.p .non)) (H := fun _ => [dead, dead, dead]) rfl rfl (L_check_within (n + 27) r.1 r.2.1 r.2.2.1) (fun _ => rfl) (fun _ => rfl) z e))) (T.exP (J.call (f := 2) (op := fun r => s_check_within r.1 r.2.1 r.2.2.1) (V := (fun _ => Val.p .non)) (Js.cons (J.var (i := 1) (V := vI) (x := by') rfl) (Js.cons (J.glo (V := vI) (x := 2) rfl) (Js.cons (J.glo (V := vI) (x := 20) rfl) Js.nil))) (fun r z _ e => (call_link (as := [(Arg.p (D.int r.1), none), (Arg.p (D.int r.2.1), none), (Arg.p (D.int r.2.2.1), none)]) (R := (fun z : Unit => ((Ret.p D.non, []) : Ret × List (List D)))) (V := (fun _ => Val.p .non)) (H := fun _ => [dead, dead, dead]) rfl rfl (L_check_within (n + 27) r.1 r.2.1 r.2.2.1) (fun _ => rfl) (fun _ => rfl) z e))) (T.retP (V := (vT D.int)) (g := fun z => z) (J.call (f := 12) (op := fun r => s_shared r.1 r.2.1) (V := (vT D.int)) (Js.cons (J.lcE (me := fun (row : List Int) => s_rank_of row) (own := [2]) (tg := (.nm 2)) (g := (vD (eT D.int))) (ρ1 := (fun row => [some (vI number), some (vI by'), some (vT D.int row)])) (V := vI) (en := D.int) (JI.val (f := (eT D.int)) (J.call (f := 7) (op := fun r => s_rows_within 30 r.1 r.2.1) (V := (vN (eT D.int))) (Js.cons (J.var (i := 0) (V := vI) (x := number) rfl) (Js.cons (J.var (i := 0) (V := vI) (x := number) rfl) Js.nil)) (fun r z _ e => (call_link (as := [(Arg.p (D.int r.1), none), (Arg.p (D.int r.2.1), none)]) (R := (fun z : List (List Int) => ((Ret.new (List.map (eT D.int) z), []) : Ret × List (List D)))) (V := (vN (eT D.int))) (H := fun _ => [dead, dead, dead]) rfl rfl (L_rows_within (n + 0) r.1 r.2.1) (fun _ => rfl) (fun _ => rfl) z e))) (fun _ _ => rfl)) (fun _ => rfl) (fun row => (J.of_eq (J.call (f := 8) (op := fun r => s_rank_of r.1) (V := vI) (Js.cons (J.var (i := 2) (V := (vT D.int)) (x := row) rfl) Js.nil) (fun r z _ e => (call_link (as := [(Arg.p ((eT D.int) r.1), none)]) (R := (fun z : Int => ((Ret.p (D.int z), []) : Ret × List (List D)))) (V := vI) (H := fun _ => [dead, dead, dead]) rfl rfl (L_rank_of (n + 29) r.1) (fun _ => rfl) (fun _ => rfl) z e))) (by simp -implicitDefEqProofs only [Option.bind_assoc, Option.bind_some, Option.bind_none, Option.bind_fun_some] <;> rfl))) (fun _ => rfl) rfl) (Js.cons (J.var (i := 1) (V := vI) (x := by') rfl) Js.nil)) (fun r z _ e => (call_link (as := [(Arg.lst (List.map D.int r.1), none), (Arg.p (D.int r.2.1), none)]) (R := (fun z : List Int => ((Ret.p ((eT D.int) z), [List.map D.int r.1]) : Ret × List (List D)))) (V := (vT D.int)) (H := fun _ => [dead, dead, dead]) rfl rfl (L_shared (n + 29) r.1 r.2.1) (fun _ => rfl) (fun _ => rfl) z e))) (fun _ _ => rfl) (fun _ => rfl))))
  first | exact TJ.of_eq key (by simp -implicitDefEqProofs only [s_by_rank, Option.bind_assoc, Option.bind_some, Option.bind_none, Option.bind_fun_some] <;> rfl) | exact key
theorem L_by_rank (n : Nat) (number : Int) (by' : Int) : ∀ z, s_by_rank number by' = some z → callV' tabV (n + 31) 13 [Arg.p (D.int number), Arg.p (D.int by')] = some ((fun z : List Int => ((Ret.p ((eT D.int) z), []) : Ret × List (List D))) z) :=
  run_link (n := n + 30) (fn := v_by_rank) (En := (fun z : List Int => OutV.rt ((fun z : List Int => ((Ret.p ((eT D.int) z), []) : Ret × List (List D))) z).1 ((fun z : List Int => ((Ret.p ((eT D.int) z), []) : Ret × List (List D))) z).2)) (R := (fun z : List Int => ((Ret.p ((eT D.int) z), []) : Ret × List (List D)))) rfl rfl (B_by_rank n number by') (fun _ => rfl)
def s_by_crank (number : Int) (by' : Int) : Option (List Int) := (s_check_within number 0 24).bind fun _ => (s_check_within by' 2 20).bind fun _ => (((s_rows_within 30 number number).bind fun x1 => (lcE (fun (row : List Int) => s_crank_of row) x1).bind fun ys => lenC ys).bind fun x2 => s_shared x2 by').bind fun x3 => some x3
theorem B_by_crank (n : Nat) (number : Int) (by' : Int) : TJ (callV' tabV (n + 30)) [false, false] v_by_crank.body [some (vI number), some (vI by'), none] [dead, dead, dead] (s_by_crank number by') (fun z : List Int => OutV.rt ((fun z : List Int => ((Ret.p ((eT D.int) z), []) : Ret × List (List D))) z).1 ((fun z : List Int => ((Ret.p ((eT D.int) z), []) : Ret × List (List D))) z).2) := by
  have key : TJ (callV' tabV (n + 30)) [false, false] v_by_crank.body [some (vI number), some (vI by'), none] [dead, dead, dead] _ (fun z : List Int => OutV.rt ((fun z : List Int => ((Ret.p ((eT D.int) z), []) : Ret × List (List D))) z).1 ((fun z : List Int => ((Ret.p ((eT D.int) z), []) : Ret × List (List D))) z).2) := (T.exP (J.call (f := 2) (op := fun r => s_check_within r.1 r.2.1 r.2.2.1) (V := (fun _ => Val.p .non)) (Js.cons (J.var (i := 0) (V := vI) (x := number) rfl) (Js.cons (J.lit (V := vI) (x := 0) rfl) (Js.cons (J.glo (V := vI) (x := 24) rfl) Js.nil))) (fun r z _ e => (call_link (as := [(Arg.p (D.int r.1), none), (Arg.p (D.int r.2.1), none), (Arg.p (D.int r.2.2.1), none)]) (R := (fun z : Unit => ((Ret.p D.non, []) : Ret × List (List D)))) (V := (fun _ => Val.p .non)) (H := fun _ => [dead, dead, dead]) rfl rfl (L_check_within (n + 27) r.1 r.2.1 r.2.2.1) (fun _ => rfl) (fun _ => rfl) z e))) (T.exP (J.call (f := 2) (op := fun r => s_check_within r.1 r.2.1 r.2.2.1) (V := (fun _ => Val.p .non)) (Js.cons (J.var (i := 1) (V := vI) (x := by') rfl) (Js.cons (J.glo (V := vI) (x := 2) rfl) (Js.cons (J.glo (V := vI) (x := 20) rfl) Js.nil))) (fun r z _ e => (call_link (as := [(Arg.p (D.int r.1), none), (Arg.p (D.int r.2.1), none), (Arg.p (D.int r.2.2.1), none)]) (R := (fun z : Unit => ((Ret.p D.non, []) : Ret × List (List D)))) (V := (fun _ => Val.p .non)) (H := fun _ => [dead, dead, dead]) rfl rfl (L_check_within (n + 27) r.1 r.2.1 r.2.2.1) (fun _ => rfl) (fun _ => rfl) z e))) (T.retP (V := (vT D.int)) (g := fun z => z) (J.call (f := 12) (op := fun r => s_shared r.1 r.2.1) (V := (vT D.int)) (Js.cons (J.lcE (me := fun (row : List Int) => s_crank_of row) (own := [2]) (tg := (.nm 2)) (g := (vD (eT D.int))) (ρ1 := (fun row => [some (vI number), some (vI by'), some (vT D.int row)])) (V := vI) (en := D.int) (JI.val (f := (eT D.int)) (J.call (f := 7) (op := fun r => s_rows_within 30 r.1 r.2.1) (V := (vN (eT D.int))) (Js.cons (J.var (i := 0) (V := vI) (x := number) rfl) (Js.cons (J.var (i := 0) (V := vI) (x := number) rfl) Js.nil)) (fun r z _ e => (call_link (as := [(Arg.p (D.int r.1), none), (Arg.p (D.int r.2.1), none)]) (R := (fun z : List (List Int) => ((Ret.new (List.map (eT D.int) z), []) : Ret × List (List D)))) (V := (vN (eT D.int))) (H := fun _ => [dead, dead, dead]) rfl rfl (L_rows_within (n + 0) r.1 r.2.1) (fun _ => rfl) (fun _ => rfl) z e))) (fun _ _ => rfl)) (fun _ => rfl) (fun row => (J.of_eq (J.call (f := 9) (op := fun r => s_crank_of r.1) (V := vI) (Js.cons (J.var (i := 2) (V := (vT D.int)) (x := row) rfl) Js.nil) (fun r z _ e => (call_link (as := [(Arg.p ((eT D.int) r.1), none)]) (R := (fun z : Int => ((Ret.p (D.int z), []) : Ret × List (List D)))) (V := vI) (H := fun _ => [dead, dead, dead]) rfl rfl (L_crank_of (n + 28) r.1) (fun _ => rfl) (fun _ => rfl) z e))) (by simp -implicitDefEqProofs only [Option.bind_assoc, Option.bind_some, Option.bind_none, Option.bind_fun_some] <;> rfl))) (fun _ => rfl) rfl) (Js.cons (J.var (i := 1) (V := vI) (x := by') rfl) Js.nil)) (fun r z _ e => (call_link (as := [(Arg.lst (List.map D.int r.1), none), (Arg.p (D.int r.2.1), none)]) (R := (fun z : List Int => ((Ret.p ((eT D.int) z), [List.map D.int r.1]) : Ret × List (List D)))) (V := (vT D.int)) (H := fun _ => [dead, dead, dead]) rfl rfl (L_shared (n + 29) r.1 r.2.1) (fun _ => rfl) (fun _ => rfl) z e))) (fun _ _ => rfl) (fun _ => rfl))))
  first | exact TJ.of_eq key (by simp -implicitDefEqProofs only [s_by_crank, Option.bind_assoc, Option.bind_some, Option.bind_none, Option.bind_fun_some] <;> rfl) | exact key
theorem L_by_crank (n : Nat) (number : Int) (by' : Int) : ∀ z, s_by_crank number by' = some z → callV' tabV (n + 31) 14 [Arg.p (D.int number), Arg.p (D.int by')] = some ((fun z : List Int => ((Ret.p ((eT D.int) z), []) : Ret × List (List D))) z) :=
  run_link (n := n + 30) (fn := v_by_crank) (En := (fun z : List Int => OutV.rt ((fun z : List Int => ((Ret.p ((eT D.int) z), []) : Ret × List (List D))) z).1 ((fun z : List Int => ((Ret.p ((eT D.int) z), []) : Ret × List (List D))) z).2)) (R := (fun z : List Int => ((Ret.p ((eT D.int) z), []) : Ret × List (List D)))) rfl rfl (B_by_crank n number by') (fun _ => rfl)
def s_l_rests_right (pot : List Int) : Option (Bool × List Int) := (((some (pot, pot)).bind fun x2 => (some (15, pot)).bind fun x3 => s_l_draw x3.2 x3.1).bind fun x4 => ((some (2, x4.2)).bind fun x5 => ((some (x5.2, x5.2)).bind fun x7 => (some (19, x5.2)).bind fun x8 => s_l_draw x8.2 x8.1).bind fun x6 => some ((x5.1 + x6.1), x6.2)).bind fun x9 => some ((x4.1, (x9.1, ())), x9.2)).bind fun x1 => (s_l_rows x1.1.1).bind fun rows => (((lcE (fun (row : List Int) => (some (!(row == ([] : List Int)))).bind fun x11 => if x11 then (atI row 0).bind fun x10 => some (x10 - ((row.length : Nat) : Int)) else some 0) rows).bind fun ys => lenC ys).bind fun x12 => s_l_shared x12 x1.1.2.1).bind fun due => ((((s_by_rank x1.1.1 x1.1.2.1).bind fun x13 => (s_by_rank x1.1.1 x1.1.2.1).bind fun x14 => some ([x13, x14] : List (List Int))).bind fun x15 => repS ((eF (eT D.int)) x15)).bind fun x16 => (repS ((eF (eT D.int)) ([due, due] : List (List Int)))).bind fun x17 => (if eqD x16 x17 then some false else none)).bind fun x25 => if x25 then some (false, x1.2) else (((lcE (fun (row : List Int) => s_l_crank row) rows).bind fun ys => lenC ys).bind fun x18 => s_l_shared x18 x1.1.2.1).bind fun due => ((((s_by_crank x1.1.1 x1.1.2.1).bind fun x19 => (s_by_crank x1.1.1 x1.1.2.1).bind fun x20 => some ([x19, x20] : List (List Int))).bind fun x21 => repS ((eF (eT D.int)) x21)).bind fun x22 => (repS ((eF (eT D.int)) ([due, due] : List (List Int)))).bind fun x23 => (if eqD x22 x23 then some true else none)).bind fun x24 => some (x24, x1.2)
theorem B_l_rests_right (n : Nat) (pot : List Int) : TJ (callV' tabV (n + 31)) [true] v__law_rests_right.body [some (.loc 0), none, none, none, none, none] [.lst false (List.map D.int pot), dead, dead, dead, dead, dead] (s_l_rests_right pot) (fun z : Bool × List Int => OutV.rt ((fun z : Bool × List Int => ((Ret.p (D.bl z.1), [List.map D.int z.2]) : Ret × List (List D))) z).1 ((fun z : Bool × List Int => ((Ret.p (D.bl z.1), [List.map D.int z.2]) : Ret × List (List D))) z).2) := by
  have key : TJ (callV' tabV (n + 31)) [true] v__law_rests_right.body [some (.loc 0), none, none, none, none, none] [.lst false (List.map D.int pot), dead, dead, dead, dead, dead] _ (fun z : Bool × List Int => OutV.rt ((fun z : Bool × List Int => ((Ret.p (D.bl z.1), [List.map D.int z.2]) : Ret × List (List D))) z).1 ((fun z : Bool × List Int => ((Ret.p (D.bl z.1), [List.map D.int z.2]) : Ret × List (List D))) z).2) := (T.par (is := [3, 4]) (V := fun (x1 : (Int × Int × Unit) × List Int) => [vI x1.1.1, vI x1.1.2.1]) (H := fun (x1 : (Int × Int × Unit) × List Int) => [.lst false (List.map D.int x1.2), dead, dead, dead, dead, dead]) (ρ' := fun x1 => [some (.loc 0), none, none, some (vI x1.1.1), some (vI x1.1.2.1), none]) (h' := fun x1 => [.lst false (List.map D.int x1.2), dead, dead, dead, dead, dead]) (fun r e => (show JEs _ _ [some (.loc 0), none, none, none, none, none] (fun sj => [.lst false (List.map D.int sj), dead, dead, dead, dead, dead]) _ _ from (JEs.cons (JE.call (f := 16) (op := fun r sj => s_l_draw sj r.2.1) (V := vI) (JEs.cons (JE.up (m := fun sj => some sj) (fun sj => (J.var (i := 0) (V := (vL 0)) (x := sj) rfl))) (JEs.cons (JE.up (m := fun sj => some 15) (fun sj => (J.lit (V := vI) (x := 15) rfl))) JEs.nil)) (fun r sj z e => (call_link (as := [(Arg.lst (List.map D.int sj), some 0), (Arg.p (D.int r.2.1), none)]) (R := (fun z : Int × List Int => ((Ret.p (D.int z.1), [List.map D.int z.2]) : Ret × List (List D)))) (V := fun z => vI z.1) (H := fun z => [.lst false (List.map D.int z.2), dead, dead, dead, dead, dead]) rfl rfl (L_l_draw (n + 30) sj r.2.1) (fun _ => rfl) (fun _ => rfl) z e))) (JEs.cons (JE.two (op := fun (x y : Int) => some (x + y)) (V := vI) (JE.up (m := fun sj => some 2) (fun sj => (J.lit (V := vI) (x := 2) rfl))) (JE.call (f := 16) (op := fun r sj => s_l_draw sj r.2.1) (V := vI) (JEs.cons (JE.up (m := fun sj => some sj) (fun sj => (J.var (i := 0) (V := (vL 0)) (x := sj) rfl))) (JEs.cons (JE.up (m := fun sj => some 19) (fun sj => (J.lit (V := vI) (x := 19) rfl))) JEs.nil)) (fun r sj z e => (call_link (as := [(Arg.lst (List.map D.int sj), some 0), (Arg.p (D.int r.2.1), none)]) (R := (fun z : Int × List Int => ((Ret.p (D.int z.1), [List.map D.int z.2]) : Ret × List (List D)))) (V := fun z => vI z.1) (H := fun z => [.lst false (List.map D.int z.2), dead, dead, dead, dead, dead]) rfl rfl (L_l_draw (n + 30) sj r.2.1) (fun _ => rfl) (fun _ => rfl) z e))) (fun _ _ _ => rfl)) JEs.nil))) pot r e) (fun _ => rfl) (fun x1 => (T.asgP (V := (vN (eT D.int))) (ρ' := fun rows => [some (.loc 0), some (.loc 1), none, some (vI x1.1.1), some (vI x1.1.2.1), none]) (h' := fun rows => [.lst false (List.map D.int x1.2), .lst false (List.map (eT D.int) rows), dead, dead, dead, dead]) (J.call (f := 17) (op := fun r => s_l_rows r.1) (V := (vN (eT D.int))) (Js.cons (J.var (i := 3) (V := vI) (x := x1.1.1) rfl) Js.nil) (fun r z _ e => (call_link (as := [(Arg.p (D.int r.1), none)]) (R := (fun z : List (List Int) => ((Ret.new (List.map (eT D.int) z), []) : Ret × List (List D)))) (V := (vN (eT D.int))) (H := fun _ => [.lst false (List.map D.int x1.2), dead, dead, dead, dead, dead]) rfl rfl (L_l_rows (n + 30) r.1) (fun _ => rfl) (fun _ => rfl) z e))) (fun _ => rfl) (fun rows => (T.asgP (V := (vT D.int)) (ρ' := fun due => [some (.loc 0), some (.loc 1), some (vT D.int due), some (vI x1.1.1), some (vI x1.1.2.1), none]) (h' := fun due => [.lst false (List.map D.int x1.2), .lst false (List.map (eT D.int) rows), dead, dead, dead, dead]) (J.call (f := 22) (op := fun r => s_l_shared r.1 r.2.1) (V := (vT D.int)) (Js.cons (J.lcE (me := fun (row : List Int) => (some (!(row == ([] : List Int)))).bind fun x11 => if x11 then (atI row 0).bind fun x10 => some (x10 - ((row.length : Nat) : Int)) else some 0) (own := [5]) (tg := (.nm 5)) (g := (vD (eT D.int))) (ρ1 := (fun row => [some (.loc 0), some (.loc 1), none, some (vI x1.1.1), some (vI x1.1.2.1), some (vT D.int row)])) (V := vI) (en := D.int) (JI.loc (f := (eT D.int)) (i := 1) (k := false) (J.var (i := 1) (V := (vL 1)) (x := rows) rfl) rfl) (fun _ => rfl) (fun row => (J.of_eq (J.ife (JT.bo (J.cmp (op := fun x y => some (!(x == y))) (J.var (i := 5) (V := (vT D.int)) (x := row) rfl) (J.tup (ds := fun r => []) (g := fun r => some ([] : List Int)) (V := (vT D.int)) Js.nil (fun _ => rfl) (fun _ => rfl)) (fun x y e1 e2 => op_ne (EqT.tup EqT.int) rfl rfl rfl))) (J.two (op := fun (x y : Int) => some (x - y)) (V := vI) (J.sub (op := fun x y => atI x y) (V := vI) (J.var (i := 5) (V := (vT D.int)) (x := row) rfl) (J.lit (V := vI) (x := 0) rfl) (fun x y e1 e2 => op_ix (f := D.int) rfl)) (J.b1 (k := .len) (op := fun x => some (((x.length : Nat) : Int))) (V := vI) (J.var (i := 5) (V := (vT D.int)) (x := row) rfl) (fun x e => b_len (f := D.int) rfl)) (fun _ _ _ _ => rfl)) (J.lit (V := vI) (x := 0) rfl)) (by simp -implicitDefEqProofs only [Option.bind_assoc, Option.bind_some, Option.bind_none, Option.bind_fun_some] <;> rfl))) (fun _ => rfl) rfl) (Js.cons (J.var (i := 4) (V := vI) (x := x1.1.2.1) rfl) Js.nil)) (fun r z _ e => (call_link (as := [(Arg.lst (List.map D.int r.1), none), (Arg.p (D.int r.2.1), none)]) (R := (fun z : List Int => ((Ret.p ((eT D.int) z), [List.map D.int r.1]) : Ret × List (List D)))) (V := (vT D.int)) (H := fun _ => [.lst false (List.map D.int x1.2), .lst false (List.map (eT D.int) rows), dead, dead, dead, dead]) rfl rfl (L_l_shared (n + 30) r.1 r.2.1) (fun _ => rfl) (fun _ => rfl) z e))) (fun _ => rfl) (fun due => (T.ifTP (JT.bo (J.cmp (op := fun x y => (if eqD x y then some false else none)) (J.b1 (k := .repr) (op := fun x => repS ((eF (eT D.int)) x)) (V := (vD D.rep)) (J.lst (ds := fun r => [(eT D.int) r.1, (eT D.int) r.2.1]) (g := fun r => some ([r.1, r.2.1] : List (List Int))) (V := (vN (eT D.int))) (Js.cons (J.call (f := 13) (op := fun r => s_by_rank r.1 r.2.1) (V := (vT D.int)) (Js.cons (J.var (i := 3) (V := vI) (x := x1.1.1) rfl) (Js.cons (J.var (i := 4) (V := vI) (x := x1.1.2.1) rfl) Js.nil)) (fun r z _ e => (call_link (as := [(Arg.p (D.int r.1), none), (Arg.p (D.int r.2.1), none)]) (R := (fun z : List Int => ((Ret.p ((eT D.int) z), []) : Ret × List (List D)))) (V := (vT D.int)) (H := fun _ => [.lst false (List.map D.int x1.2), .lst false (List.map (eT D.int) rows), dead, dead, dead, dead]) rfl rfl (L_by_rank (n + 0) r.1 r.2.1) (fun _ => rfl) (fun _ => rfl) z e))) (Js.cons (J.callK (f := 13) (pm := [1, 0]) (op := fun r s => s_by_rank s.2.1 s.1) (V := (vT D.int)) Js.nil (Js.cons (J.var (i := 4) (V := vI) (x := x1.1.2.1) rfl) (Js.cons (J.var (i := 3) (V := vI) (x := x1.1.1) rfl) Js.nil)) (fun r s z _ _ e => (call_link (as := [(Arg.p (D.int s.2.1), none), (Arg.p (D.int s.1), none)]) (R := (fun z : List Int => ((Ret.p ((eT D.int) z), []) : Ret × List (List D)))) (V := (vT D.int)) (H := fun _ => [.lst false (List.map D.int x1.2), .lst false (List.map (eT D.int) rows), dead, dead, dead, dead]) rfl rfl (L_by_rank (n + 0) s.2.1 s.1) (fun _ => rfl) (fun _ => rfl) z e))) Js.nil)) (fun _ => rfl) (fun _ => rfl)) (fun x e => b_repr rfl)) (J.b1 (k := .repr) (op := fun x => repS ((eF (eT D.int)) x)) (V := (vD D.rep)) (J.lst (ds := fun r => [(eT D.int) r.1, (eT D.int) r.2.1]) (g := fun r => some ([r.1, r.2.1] : List (List Int))) (V := (vN (eT D.int))) (Js.cons (J.var (i := 2) (V := (vT D.int)) (x := due) rfl) (Js.cons (J.var (i := 2) (V := (vT D.int)) (x := due) rfl) Js.nil)) (fun _ => rfl) (fun _ => rfl)) (fun x e => b_repr rfl)) (fun x y e1 e2 => op_neR x y))) (T.retP (V := vB) (g := fun z => (z, x1.2)) (J.lit (V := vB) (x := false) rfl) (fun _ _ => rfl) (fun _ => rfl)) (fun _ _ => rfl) (T.asgP (V := (vT D.int)) (ρ' := fun due => [some (.loc 0), some (.loc 1), some (vT D.int due), some (vI x1.1.1), some (vI x1.1.2.1), none]) (h' := fun due => [.lst false (List.map D.int x1.2), .lst false (List.map (eT D.int) rows), dead, dead, dead, dead]) (J.call (f := 22) (op := fun r => s_l_shared r.1 r.2.1) (V := (vT D.int)) (Js.cons (J.lcE (me := fun (row : List Int) => s_l_crank row) (own := [5]) (tg := (.nm 5)) (g := (vD (eT D.int))) (ρ1 := (fun row => [some (.loc 0), some (.loc 1), some (vT D.int due), some (vI x1.1.1), some (vI x1.1.2.1), some (vT D.int row)])) (V := vI) (en := D.int) (JI.loc (f := (eT D.int)) (i := 1) (k := false) (J.var (i := 1) (V := (vL 1)) (x := rows) rfl) rfl) (fun _ => rfl) (fun row => (J.of_eq (J.call (f := 20) (op := fun r => s_l_crank r.1) (V := vI) (Js.cons (J.var (i := 5) (V := (vT D.int)) (x := row) rfl) Js.nil) (fun r z _ e => (call_link (as := [(Arg.p ((eT D.int) r.1), none)]) (R := (fun z : Int => ((Ret.p (D.int z), []) : Ret × List (List D)))) (V := vI) (H := fun _ => [.lst false (List.map D.int x1.2), .lst true (List.map (eT D.int) rows), dead, dead, dead, dead]) rfl rfl (L_l_crank (n + 30) r.1) (fun _ => rfl) (fun _ => rfl) z e))) (by simp -implicitDefEqProofs only [Option.bind_assoc, Option.bind_some, Option.bind_none, Option.bind_fun_some] <;> rfl))) (fun _ => rfl) rfl) (Js.cons (J.var (i := 4) (V := vI) (x := x1.1.2.1) rfl) Js.nil)) (fun r z _ e => (call_link (as := [(Arg.lst (List.map D.int r.1), none), (Arg.p (D.int r.2.1), none)]) (R := (fun z : List Int => ((Ret.p ((eT D.int) z), [List.map D.int r.1]) : Ret × List (List D)))) (V := (vT D.int)) (H := fun _ => [.lst false (List.map D.int x1.2), .lst false (List.map (eT D.int) rows), dead, dead, dead, dead]) rfl rfl (L_l_shared (n + 30) r.1 r.2.1) (fun _ => rfl) (fun _ => rfl) z e))) (fun _ => rfl) (fun due => (T.retP (V := vB) (g := fun z => (z, x1.2)) (J.cmp (op := fun x y => (if eqD x y then some true else none)) (J.b1 (k := .repr) (op := fun x => repS ((eF (eT D.int)) x)) (V := (vD D.rep)) (J.lst (ds := fun r => [(eT D.int) r.1, (eT D.int) r.2.1]) (g := fun r => some ([r.1, r.2.1] : List (List Int))) (V := (vN (eT D.int))) (Js.cons (J.call (f := 14) (op := fun r => s_by_crank r.1 r.2.1) (V := (vT D.int)) (Js.cons (J.var (i := 3) (V := vI) (x := x1.1.1) rfl) (Js.cons (J.var (i := 4) (V := vI) (x := x1.1.2.1) rfl) Js.nil)) (fun r z _ e => (call_link (as := [(Arg.p (D.int r.1), none), (Arg.p (D.int r.2.1), none)]) (R := (fun z : List Int => ((Ret.p ((eT D.int) z), []) : Ret × List (List D)))) (V := (vT D.int)) (H := fun _ => [.lst false (List.map D.int x1.2), .lst false (List.map (eT D.int) rows), dead, dead, dead, dead]) rfl rfl (L_by_crank (n + 0) r.1 r.2.1) (fun _ => rfl) (fun _ => rfl) z e))) (Js.cons (J.callK (f := 14) (pm := [1, 0]) (op := fun r s => s_by_crank s.2.1 s.1) (V := (vT D.int)) Js.nil (Js.cons (J.var (i := 4) (V := vI) (x := x1.1.2.1) rfl) (Js.cons (J.var (i := 3) (V := vI) (x := x1.1.1) rfl) Js.nil)) (fun r s z _ _ e => (call_link (as := [(Arg.p (D.int s.2.1), none), (Arg.p (D.int s.1), none)]) (R := (fun z : List Int => ((Ret.p ((eT D.int) z), []) : Ret × List (List D)))) (V := (vT D.int)) (H := fun _ => [.lst false (List.map D.int x1.2), .lst false (List.map (eT D.int) rows), dead, dead, dead, dead]) rfl rfl (L_by_crank (n + 0) s.2.1 s.1) (fun _ => rfl) (fun _ => rfl) z e))) Js.nil)) (fun _ => rfl) (fun _ => rfl)) (fun x e => b_repr rfl)) (J.b1 (k := .repr) (op := fun x => repS ((eF (eT D.int)) x)) (V := (vD D.rep)) (J.lst (ds := fun r => [(eT D.int) r.1, (eT D.int) r.2.1]) (g := fun r => some ([r.1, r.2.1] : List (List Int))) (V := (vN (eT D.int))) (Js.cons (J.var (i := 2) (V := (vT D.int)) (x := due) rfl) (Js.cons (J.var (i := 2) (V := (vT D.int)) (x := due) rfl) Js.nil)) (fun _ => rfl) (fun _ => rfl)) (fun x e => b_repr rfl)) (fun x y e1 e2 => op_eqR x y)) (fun _ _ => rfl) (fun _ => rfl)))))))))))
  first | exact TJ.of_eq key (by simp -implicitDefEqProofs only [s_l_rests_right, Option.bind_assoc, Option.bind_some, Option.bind_none, Option.bind_fun_some] <;> rfl) | exact key
theorem L_l_rests_right (n : Nat) (pot : List Int) : ∀ z, s_l_rests_right pot = some z → callV' tabV (n + 32) 23 [Arg.lst (List.map D.int pot)] = some ((fun z : Bool × List Int => ((Ret.p (D.bl z.1), [List.map D.int z.2]) : Ret × List (List D))) z) :=
  run_link (n := n + 31) (fn := v__law_rests_right) (En := (fun z : Bool × List Int => OutV.rt ((fun z : Bool × List Int => ((Ret.p (D.bl z.1), [List.map D.int z.2]) : Ret × List (List D))) z).1 ((fun z : Bool × List Int => ((Ret.p (D.bl z.1), [List.map D.int z.2]) : Ret × List (List D))) z).2)) (R := (fun z : Bool × List Int => ((Ret.p (D.bl z.1), [List.map D.int z.2]) : Ret × List (List D)))) rfl rfl (B_l_rests_right n pot) (fun _ => rfl)
def s_l_right (pot : List Int) : Option (Bool × List Int) := ((some (pot, pot)).bind fun x1 => (some (13, pot)).bind fun x2 => s_l_draw x2.2 x2.1).bind fun x3 => (s_l_rows x3.1).bind fun rows => ((some (600, x3.2)).bind fun x4 => ((some (x4.2, x4.2)).bind fun x6 => (some (40, x4.2)).bind fun x7 => s_l_draw x7.2 x7.1).bind fun x5 => some ((x4.1 - x5.1), x5.2)).bind fun x8 => ((timesTS ([1] : List Int) x8.1).bind fun x10 => ((timesTS ([1] : List Int) 30).bind fun x9 => catS ([(x8.1 - 30)] : List Int) x9).bind fun x11 => (timesTS ([2] : List Int) (x8.1 / 2)).bind fun x12 => some ([([] : List Int), ([x8.1] : List Int), x10, x11, x12, ([(x8.1 / 2), (x8.1 / 2)] : List Int)] : List (List Int))).bind fun some' => ((((some (4, x8.2)).bind fun x13 => (rng1 x13.1).bind fun z => some (z, x13.2)).bind fun x18 => (lcF' (fun (turn : Int) s1 => (some (s1, s1)).bind fun x14 => ((some (s1, s1)).bind fun x15 => (some (91, s1)).bind fun x16 => s_l_draw x16.2 x16.1).bind fun x17 => s_l_drawn_row x17.2 x17.1) x18.1 x18.2).bind fun x19 => (lenC x19.1).bind fun z => some (z, x19.2)).bind fun x20 => (catS some' x20.1).bind fun z => some (z, x20.2)).bind fun x21 => (((catS rows x21.1).bind fun x23 => (lcS (fun (row : List Int) => ((s_l_told_right row).bind fun x22 => some (!x22)).bind fun c => if c then (some row).bind fun y => some (some y) else some none) x23).bind fun ys => lenC ys).bind fun x24 => some (!(x24 == ([] : List (List Int))))).bind fun x27 => if x27 then some (false, x21.2) else ((lcE (fun (row : List Int) => s_crank row) rows).bind fun ys => lenC ys).bind fun marks => (lenC (List.map (fun (mark : Int) => mark) (List.filter (fun (mark : Int) => (!(((List.count mark marks : Nat) : Int) == ((List.count (0 - mark) marks : Nat) : Int)))) marks))).bind fun uneven => (some (((x3.1 == 1) || (uneven == ([] : List Int))), x21.2)).bind fun x25 => if x25.1 then (some (x25.2, x25.2)).bind fun x26 => s_l_rests_right x25.2 else some (false, x25.2)
theorem B_l_right (n : Nat) (pot : List Int) : TJ (callV' tabV (n + 32)) [true] v__law_right.body [some (.loc 0), none, none, none, none, none, none, none, none, none] [.lst false (List.map D.int pot), dead, dead, dead, dead, dead, dead, dead, dead, dead] (s_l_right pot) (fun z : Bool × List Int => OutV.rt ((fun z : Bool × List Int => ((Ret.p (D.bl z.1), [List.map D.int z.2]) : Ret × List (List D))) z).1 ((fun z : Bool × List Int => ((Ret.p (D.bl z.1), [List.map D.int z.2]) : Ret × List (List D))) z).2) := by
  have key : TJ (callV' tabV (n + 32)) [true] v__law_right.body [some (.loc 0), none, none, none, none, none, none, none, none, none] [.lst false (List.map D.int pot), dead, dead, dead, dead, dead, dead, dead, dead, dead] _ (fun z : Bool × List Int => OutV.rt ((fun z : Bool × List Int => ((Ret.p (D.bl z.1), [List.map D.int z.2]) : Ret × List (List D))) z).1 ((fun z : Bool × List Int => ((Ret.p (D.bl z.1), [List.map D.int z.2]) : Ret × List (List D))) z).2) := (T.asg (V := fun (x3 : Int × List Int) => vI x3.1) (H := fun (x3 : Int × List Int) => [.lst false (List.map D.int x3.2), dead, dead, dead, dead, dead, dead, dead, dead, dead]) (ρ' := fun x3 => [some (.loc 0), some (vI x3.1), none, none, none, none, none, none, none, none]) (h' := fun x3 => [.lst false (List.map D.int x3.2), dead, dead, dead, dead, dead, dead, dead, dead, dead]) (fun r e => (show JE _ _ [some (.loc 0), none, none, none, none, none, none, none, none, none] (fun sj => [.lst false (List.map D.int sj), dead, dead, dead, dead, dead, dead, dead, dead, dead]) _ _ from (JE.call (f := 16) (op := fun r sj => s_l_draw sj r.2.1) (V := vI) (JEs.cons (JE.up (m := fun sj => some sj) (fun sj => (J.var (i := 0) (V := (vL 0)) (x := sj) rfl))) (JEs.cons (JE.up (m := fun sj => some 13) (fun sj => (J.lit (V := vI) (x := 13) rfl))) JEs.nil)) (fun r sj z e => (call_link (as := [(Arg.lst (List.map D.int sj), some 0), (Arg.p (D.int r.2.1), none)]) (R := (fun z : Int × List Int => ((Ret.p (D.int z.1), [List.map D.int z.2]) : Ret × List (List D)))) (V := fun z => vI z.1) (H := fun z => [.lst false (List.map D.int z.2), dead, dead, dead, dead, dead, dead, dead, dead, dead]) rfl rfl (L_l_draw (n + 31) sj r.2.1) (fun _ => rfl) (fun _ => rfl) z e)))) pot r e) (fun _ => rfl) (fun x3 => (T.asgP (V := (vN (eT D.int))) (ρ' := fun rows => [some (.loc 0), some (vI x3.1), some (.loc 2), none, none, none, none, none, none, none]) (h' := fun rows => [.lst false (List.map D.int x3.2), dead, .lst false (List.map (eT D.int) rows), dead, dead, dead, dead, dead, dead, dead]) (J.call (f := 17) (op := fun r => s_l_rows r.1) (V := (vN (eT D.int))) (Js.cons (J.var (i := 1) (V := vI) (x := x3.1) rfl) Js.nil) (fun r z _ e => (call_link (as := [(Arg.p (D.int r.1), none)]) (R := (fun z : List (List Int) => ((Ret.new (List.map (eT D.int) z), []) : Ret × List (List D)))) (V := (vN (eT D.int))) (H := fun _ => [.lst false (List.map D.int x3.2), dead, dead, dead, dead, dead, dead, dead, dead, dead]) rfl rfl (L_l_rows (n + 31) r.1) (fun _ => rfl) (fun _ => rfl) z e))) (fun _ => rfl) (fun rows => (T.asg (V := fun (x8 : Int × List Int) => vI x8.1) (H := fun (x8 : Int × List Int) => [.lst false (List.map D.int x8.2), dead, .lst false (List.map (eT D.int) rows), dead, dead, dead, dead, dead, dead, dead]) (ρ' := fun x8 => [some (.loc 0), some (vI x3.1), some (.loc 2), some (vI x8.1), none, none, none, none, none, none]) (h' := fun x8 => [.lst false (List.map D.int x8.2), dead, .lst false (List.map (eT D.int) rows), dead, dead, dead, dead, dead, dead, dead]) (fun r e => (show JE _ _ [some (.loc 0), some (vI x3.1), some (.loc 2), none, none, none, none, none, none, none] (fun sj => [.lst false (List.map D.int sj), dead, .lst false (List.map (eT D.int) rows), dead, dead, dead, dead, dead, dead, dead]) _ _ from (JE.two (op := fun (x y : Int) => some (x - y)) (V := vI) (JE.up (m := fun sj => some 600) (fun sj => (J.lit (V := vI) (x := 600) rfl))) (JE.call (f := 16) (op := fun r sj => s_l_draw sj r.2.1) (V := vI) (JEs.cons (JE.up (m := fun sj => some sj) (fun sj => (J.var (i := 0) (V := (vL 0)) (x := sj) rfl))) (JEs.cons (JE.up (m := fun sj => some 40) (fun sj => (J.lit (V := vI) (x := 40) rfl))) JEs.nil)) (fun r sj z e => (call_link (as := [(Arg.lst (List.map D.int sj), some 0), (Arg.p (D.int r.2.1), none)]) (R := (fun z : Int × List Int => ((Ret.p (D.int z.1), [List.map D.int z.2]) : Ret × List (List D)))) (V := fun z => vI z.1) (H := fun z => [.lst false (List.map D.int z.2), dead, .lst false (List.map (eT D.int) rows), dead, dead, dead, dead, dead, dead, dead]) rfl rfl (L_l_draw (n + 31) sj r.2.1) (fun _ => rfl) (fun _ => rfl) z e))) (fun _ _ _ => rfl))) x3.2 r e) (fun _ => rfl) (fun x8 => (T.asgP (V := (vN (eT D.int))) (ρ' := fun some' => [some (.loc 0), some (vI x3.1), some (.loc 2), some (vI x8.1), some (.loc 4), none, none, none, none, none]) (h' := fun some' => [.lst false (List.map D.int x8.2), dead, .lst false (List.map (eT D.int) rows), dead, .lst false (List.map (eT D.int) some'), dead, dead, dead, dead, dead]) (J.lst (ds := fun r => [(eT D.int) r.1, (eT D.int) r.2.1, (eT D.int) r.2.2.1, (eT D.int) r.2.2.2.1, (eT D.int) r.2.2.2.2.1, (eT D.int) r.2.2.2.2.2.1]) (g := fun r => some ([r.1, r.2.1, r.2.2.1, r.2.2.2.1, r.2.2.2.2.1, r.2.2.2.2.2.1] : List (List Int))) (V := (vN (eT D.int))) (Js.cons (J.tup (ds := fun r => []) (g := fun r => some ([] : List Int)) (V := (vT D.int)) Js.nil (fun _ => rfl) (fun _ => rfl)) (Js.cons (J.tup (ds := fun r => [D.int r.1]) (g := fun r => some ([r.1] : List Int)) (V := (vT D.int)) (Js.cons (J.var (i := 3) (V := vI) (x := x8.1) rfl) Js.nil) (fun _ => rfl) (fun _ => rfl)) (Js.cons (J.two (op := fun x y => timesTS x y) (V := (vT D.int)) (J.tup (ds := fun r => [D.int r.1]) (g := fun r => some ([r.1] : List Int)) (V := (vT D.int)) (Js.cons (J.lit (V := vI) (x := 1) rfl) Js.nil) (fun _ => rfl) (fun _ => rfl)) (J.var (i := 3) (V := vI) (x := x8.1) rfl) (fun x y e1 e2 => op_timesT (f := D.int))) (Js.cons (J.two (op := fun x y => catS x y) (V := (vT D.int)) (J.tup (ds := fun r => [D.int r.1]) (g := fun r => some ([r.1] : List Int)) (V := (vT D.int)) (Js.cons (J.two (op := fun (x y : Int) => some (x - y)) (V := vI) (J.var (i := 3) (V := vI) (x := x8.1) rfl) (J.lit (V := vI) (x := 30) rfl) (fun _ _ _ _ => rfl)) Js.nil) (fun _ => rfl) (fun _ => rfl)) (J.two (op := fun x y => timesTS x y) (V := (vT D.int)) (J.tup (ds := fun r => [D.int r.1]) (g := fun r => some ([r.1] : List Int)) (V := (vT D.int)) (Js.cons (J.lit (V := vI) (x := 1) rfl) Js.nil) (fun _ => rfl) (fun _ => rfl)) (J.lit (V := vI) (x := 30) rfl) (fun x y e1 e2 => op_timesT (f := D.int))) (fun x y e1 e2 => op_catT (f := D.int) rfl rfl)) (Js.cons (J.two (op := fun x y => timesTS x y) (V := (vT D.int)) (J.tup (ds := fun r => [D.int r.1]) (g := fun r => some ([r.1] : List Int)) (V := (vT D.int)) (Js.cons (J.lit (V := vI) (x := 2) rfl) Js.nil) (fun _ => rfl) (fun _ => rfl)) (J.two (op := fun (x y : Int) => some (x / y)) (V := vI) (J.var (i := 3) (V := vI) (x := x8.1) rfl) (J.lit (V := vI) (x := 2) rfl) (fun x y e1 e2 => by cases e2; exact op_fdivL rfl)) (fun x y e1 e2 => op_timesT (f := D.int))) (Js.cons (J.tup (ds := fun r => [D.int r.1, D.int r.2.1]) (g := fun r => some ([r.1, r.2.1] : List Int)) (V := (vT D.int)) (Js.cons (J.two (op := fun (x y : Int) => some (x / y)) (V := vI) (J.var (i := 3) (V := vI) (x := x8.1) rfl) (J.lit (V := vI) (x := 2) rfl) (fun x y e1 e2 => by cases e2; exact op_fdivL rfl)) (Js.cons (J.two (op := fun (x y : Int) => some (x / y)) (V := vI) (J.var (i := 3) (V := vI) (x := x8.1) rfl) (J.lit (V := vI) (x := 2) rfl) (fun x y e1 e2 => by cases e2; exact op_fdivL rfl)) Js.nil)) (fun _ => rfl) (fun _ => rfl)) Js.nil)))))) (fun _ => rfl) (fun _ => rfl)) (fun _ => rfl) (fun some' => (T.asg (V := fun (x21 : List (List Int) × List Int) => (vN (eT D.int)) x21.1) (H := fun (x21 : List (List Int) × List Int) => [.lst false (List.map D.int x21.2), dead, .lst false (List.map (eT D.int) rows), dead, .lst false (List.map (eT D.int) some'), dead, dead, dead, dead, dead]) (ρ' := fun x21 => [some (.loc 0), some (vI x3.1), some (.loc 2), some (vI x8.1), some (.loc 4), none, none, none, none, none]) (h' := fun x21 => [.lst false (List.map D.int x21.2), dead, .lst false (List.map (eT D.int) rows), dead, .lst false (List.map (eT D.int) x21.1), dead, dead, dead, dead, dead]) (fun r e => (show JE _ _ [some (.loc 0), some (vI x3.1), some (.loc 2), some (vI x8.1), some (.loc 4), none, none, none, none, none] (fun sj => [.lst false (List.map D.int sj), dead, .lst false (List.map (eT D.int) rows), dead, .lst false (List.map (eT D.int) some'), dead, dead, dead, dead, dead]) _ _ from (JE.two (op := fun (_ : Unit) y => catS some' y) (V := (vN (eT D.int))) (JE.loc (i := 4) rfl) (JE.lc (own := [9]) (tg := (.nm 9)) (g := vI) (ρ1 := (fun turn => [some (.loc 0), some (vI x3.1), some (.loc 2), some (vI x8.1), some (.loc 4), none, none, none, none, some (vI turn)]))  (V := (vT D.int)) (en := (eT D.int)) (JIE.rng1 (JE.up (m := fun sj => some 4) (fun sj => (J.lit (V := vI) (x := 4) rfl)))) (fun _ => rfl) (fun turn => (JE.call (f := 18) (op := fun r sj => s_l_drawn_row sj r.2.1) (V := (vT D.int)) (JEs.cons (JE.up (m := fun sj => some sj) (fun sj => (J.var (i := 0) (V := (vL 0)) (x := sj) rfl))) (JEs.cons (JE.call (f := 16) (op := fun r sj => s_l_draw sj r.2.1) (V := vI) (JEs.cons (JE.up (m := fun sj => some sj) (fun sj => (J.var (i := 0) (V := (vL 0)) (x := sj) rfl))) (JEs.cons (JE.up (m := fun sj => some 91) (fun sj => (J.lit (V := vI) (x := 91) rfl))) JEs.nil)) (fun r sj z e => (call_link (as := [(Arg.lst (List.map D.int sj), some 0), (Arg.p (D.int r.2.1), none)]) (R := (fun z : Int × List Int => ((Ret.p (D.int z.1), [List.map D.int z.2]) : Ret × List (List D)))) (V := fun z => vI z.1) (H := fun z => [.lst false (List.map D.int z.2), dead, .lst false (List.map (eT D.int) rows), dead, .lst false (List.map (eT D.int) some'), dead, dead, dead, dead, dead]) rfl rfl (L_l_draw (n + 31) sj r.2.1) (fun _ => rfl) (fun _ => rfl) z e))) JEs.nil)) (fun r sj z e => (call_link (as := [(Arg.lst (List.map D.int sj), some 0), (Arg.p (D.int r.2.1), none)]) (R := (fun z : List Int × List Int => ((Ret.p ((eT D.int) z.1), [List.map D.int z.2]) : Ret × List (List D)))) (V := fun z => (vT D.int) z.1) (H := fun z => [.lst false (List.map D.int z.2), dead, .lst false (List.map (eT D.int) rows), dead, .lst false (List.map (eT D.int) some'), dead, dead, dead, dead, dead]) rfl rfl (L_l_drawn_row (n + 30) sj r.2.1) (fun _ => rfl) (fun _ => rfl) z e)))) (fun _ => rfl)) (fun s x y => op_cat (f := (eT D.int)) (xs := some') rfl rfl))) x8.2 r e) (fun _ => rfl) (fun x21 => (T.ifTP (JT.bo (J.cmp (op := fun x y => some (!(x == y))) (J.lc (mc := fun (row : List Int) => (s_l_told_right row).bind fun x22 => some (!x22)) (me := fun (row : List Int) => some row) (own := [7]) (tg := (.nm 7)) (g := (vD (eT D.int))) (ρ1 := (fun row => [some (.loc 0), some (vI x3.1), some (.loc 2), some (vI x8.1), some (.loc 4), none, none, some (vT D.int row), none, none])) (V := (vT D.int)) (en := (eT D.int)) (JI.val (f := (eT D.int)) (J.two (op := fun x y => catS x y) (V := (vN (eT D.int))) (J.var (i := 2) (V := (vL 2)) (x := rows) rfl) (J.var (i := 4) (V := (vL 4)) (x := x21.1) rfl) (fun x y e1 e2 => op_cat (f := (eT D.int)) (seq_loc rfl e1) (seq_loc rfl e2))) (fun _ _ => rfl)) (fun _ => rfl) (fun row => JC.yes (JT.of_eq (JT.not (JT.bo (J.call (f := 21) (op := fun r => s_l_told_right r.1) (V := vB) (Js.cons (J.var (i := 7) (V := (vT D.int)) (x := row) rfl) Js.nil) (fun r z _ e => (call_link (as := [(Arg.p ((eT D.int) r.1), none)]) (R := (fun z : Bool => ((Ret.p (D.bl z), []) : Ret × List (List D)))) (V := vB) (H := fun _ => [.lst false (List.map D.int x21.2), dead, .lst false (List.map (eT D.int) rows), dead, .lst false (List.map (eT D.int) x21.1), dead, dead, dead, dead, dead]) rfl rfl (L_l_told_right (n + 26) r.1) (fun _ => rfl) (fun _ => rfl) z e))))) (by simp -implicitDefEqProofs only [Option.bind_assoc, Option.bind_some, Option.bind_none, Option.bind_fun_some] <;> rfl))) (fun row => (J.var (i := 7) (V := (vT D.int)) (x := row) rfl)) (fun _ => rfl) rfl) (J.lst (ds := fun r => []) (g := fun r => some ([] : List (List Int))) (V := (vN (eT D.int))) Js.nil (fun _ => rfl) (fun _ => rfl)) (fun x y e1 e2 => op_ne (EqT.lst (EqT.tup EqT.int)) rfl rfl rfl))) (T.retP (V := vB) (g := fun z => (z, x21.2)) (J.lit (V := vB) (x := false) rfl) (fun _ _ => rfl) (fun _ => rfl)) (fun _ _ => rfl) (T.asgP (V := (vN D.int)) (ρ' := fun marks => [some (.loc 0), some (vI x3.1), some (.loc 2), some (vI x8.1), some (.loc 4), some (.loc 5), none, none, none, none]) (h' := fun marks => [.lst false (List.map D.int x21.2), dead, .lst false (List.map (eT D.int) rows), dead, .lst false (List.map (eT D.int) x21.1), .lst false (List.map D.int marks), dead, dead, dead, dead]) (J.lcE (me := fun (row : List Int) => s_crank row) (own := [7]) (tg := (.nm 7)) (g := (vD (eT D.int))) (ρ1 := (fun row => [some (.loc 0), some (vI x3.1), some (.loc 2), some (vI x8.1), some (.loc 4), none, none, some (vT D.int row), none, none])) (V := vI) (en := D.int) (JI.loc (f := (eT D.int)) (i := 2) (k := false) (J.var (i := 2) (V := (vL 2)) (x := rows) rfl) rfl) (fun _ => rfl) (fun row => (J.of_eq (J.call (f := 11) (op := fun r => s_crank r.1) (V := vI) (Js.cons (J.var (i := 7) (V := (vT D.int)) (x := row) rfl) Js.nil) (fun r z _ e => (call_link (as := [(Arg.p ((eT D.int) r.1), none)]) (R := (fun z : Int => ((Ret.p (D.int z), []) : Ret × List (List D)))) (V := vI) (H := fun _ => [.lst false (List.map D.int x21.2), dead, .lst true (List.map (eT D.int) rows), dead, .lst false (List.map (eT D.int) x21.1), dead, dead, dead, dead, dead]) rfl rfl (L_crank (n + 27) r.1) (fun _ => rfl) (fun _ => rfl) z e))) (by simp -implicitDefEqProofs only [Option.bind_assoc, Option.bind_some, Option.bind_none, Option.bind_fun_some] <;> rfl))) (fun _ => rfl) rfl) (fun _ => rfl) (fun marks => (T.asgP (V := (vN D.int)) (ρ' := fun uneven => [some (.loc 0), some (vI x3.1), some (.loc 2), some (vI x8.1), some (.loc 4), some (.loc 5), some (.loc 6), none, none, none]) (h' := fun uneven => [.lst false (List.map D.int x21.2), dead, .lst false (List.map (eT D.int) rows), dead, .lst false (List.map (eT D.int) x21.1), .lst false (List.map D.int marks), .lst false (List.map D.int uneven), dead, dead, dead]) (J.lcP (c := fun (mark : Int) => (!(((List.count mark marks : Nat) : Int) == ((List.count (0 - mark) marks : Nat) : Int)))) (e := fun (mark : Int) => mark) (own := [8]) (tg := (.nm 8)) (g := (vD D.int)) (ρ1 := (fun mark => [some (.loc 0), some (vI x3.1), some (.loc 2), some (vI x8.1), some (.loc 4), some (.loc 5), none, none, some (vI mark), none])) (V := vI) (en := D.int) (JI.loc (f := D.int) (i := 5) (k := false) (J.var (i := 5) (V := (vL 5)) (x := marks) rfl) rfl) (fun _ => rfl) (fun mark => JC.yes (JT.bo (J.cmp (op := fun x y => some (!(x == y))) (J.lcnt (J.var (i := 5) (V := (vL 5)) (x := marks) rfl) (J.var (i := 8) (V := vI) (x := mark) rfl) (fun x e => intsC_seq (seq_loc rfl e))) (J.lcnt (J.var (i := 5) (V := (vL 5)) (x := marks) rfl) (J.two (op := fun (x y : Int) => some (x - y)) (V := vI) (J.lit (V := vI) (x := 0) rfl) (J.var (i := 8) (V := vI) (x := mark) rfl) (fun _ _ _ _ => rfl)) (fun x e => intsC_seq (seq_loc rfl e))) (fun x y e1 e2 => op_ne EqT.int rfl rfl rfl)))) (fun mark => (J.var (i := 8) (V := vI) (x := mark) rfl)) (fun _ => rfl) rfl) (fun _ => rfl) (fun uneven => (T.ret (V := fun (r : Bool × List Int) => vB r.1) (H := fun (r : Bool × List Int) => [.lst false (List.map D.int r.2), dead, .lst false (List.map (eT D.int) rows), dead, .lst false (List.map (eT D.int) x21.1), .lst false (List.map D.int marks), .lst false (List.map D.int uneven), dead, dead, dead]) (g := fun r => r) (fun r e => (show JE _ _ [some (.loc 0), some (vI x3.1), some (.loc 2), some (vI x8.1), some (.loc 4), some (.loc 5), some (.loc 6), none, none, none] (fun sj => [.lst false (List.map D.int sj), dead, .lst false (List.map (eT D.int) rows), dead, .lst false (List.map (eT D.int) x21.1), .lst false (List.map D.int marks), .lst false (List.map D.int uneven), dead, dead, dead]) _ _ from (JE.and (JE.up (m := fun sj => some ((x3.1 == 1) || (uneven == ([] : List Int)))) (fun sj => (J.orP (J.cmp (op := fun x y => some (x == y)) (J.var (i := 1) (V := vI) (x := x3.1) rfl) (J.lit (V := vI) (x := 1) rfl) (fun x y e1 e2 => op_eq EqT.int rfl rfl rfl)) (J.one (J.cmp (op := fun x y => some (x == y)) (J.var (i := 6) (V := (vL 6)) (x := uneven) rfl) (J.lst (ds := fun r => []) (g := fun r => some ([] : List Int)) (V := (vN D.int)) Js.nil (fun _ => rfl) (fun _ => rfl)) (fun x y e1 e2 => op_eq (EqT.lst EqT.int) rfl (dat_loc rfl e1) rfl)))))) (JE.one (JE.call (f := 23) (op := fun r sj => s_l_rests_right sj) (V := vB) (JEs.cons (JE.up (m := fun sj => some sj) (fun sj => (J.var (i := 0) (V := (vL 0)) (x := sj) rfl))) JEs.nil) (fun r sj z e => (call_link (as := [(Arg.lst (List.map D.int sj), some 0)]) (R := (fun z : Bool × List Int => ((Ret.p (D.bl z.1), [List.map D.int z.2]) : Ret × List (List D)))) (V := fun z => vB z.1) (H := fun z => [.lst false (List.map D.int z.2), dead, .lst false (List.map (eT D.int) rows), dead, .lst false (List.map (eT D.int) x21.1), .lst false (List.map D.int marks), .lst false (List.map D.int uneven), dead, dead, dead]) rfl rfl (L_l_rests_right (n + 0) sj) (fun _ => rfl) (fun _ => rfl) z e)))))) x21.2 r e) (fun _ _ => rfl) (fun _ => rfl)))))))))))))))))
  first | exact TJ.of_eq key (by simp -implicitDefEqProofs only [s_l_right, Option.bind_assoc, Option.bind_some, Option.bind_none, Option.bind_fun_some] <;> rfl) | exact key
theorem L_l_right (n : Nat) (pot : List Int) : ∀ z, s_l_right pot = some z → callV' tabV (n + 33) 24 [Arg.lst (List.map D.int pot)] = some ((fun z : Bool × List Int => ((Ret.p (D.bl z.1), [List.map D.int z.2]) : Ret × List (List D))) z) :=
  run_link (n := n + 32) (fn := v__law_right) (En := (fun z : Bool × List Int => OutV.rt ((fun z : Bool × List Int => ((Ret.p (D.bl z.1), [List.map D.int z.2]) : Ret × List (List D))) z).1 ((fun z : Bool × List Int => ((Ret.p (D.bl z.1), [List.map D.int z.2]) : Ret × List (List D))) z).2)) (R := (fun z : Bool × List Int => ((Ret.p (D.bl z.1), [List.map D.int z.2]) : Ret × List (List D)))) rfl rfl (B_l_right n pot) (fun _ => rfl)
def s_law (script : List Int) : Option (Bool) := (((rng1 3).bind fun x3 => (lcE (fun (turn : Int) => ((s_l_pot script turn).bind fun x1 => s_l_right x1).bind fun x2 => some x2.1) x3).bind fun ys => lenC ys).bind fun x4 => some (List.all x4 id)).bind fun x5 => some x5
theorem B_law (n : Nat) (script : List Int) : TJ (callV' tabV (n + 33)) [false] v_law.body [some (vD D.scr script), none] [dead, dead] (s_law script) (fun z : Bool => OutV.rt ((fun z : Bool => ((Ret.p (D.bl z), []) : Ret × List (List D))) z).1 ((fun z : Bool => ((Ret.p (D.bl z), []) : Ret × List (List D))) z).2) := by
  have key : TJ (callV' tabV (n + 33)) [false] v_law.body [some (vD D.scr script), none] [dead, dead] _ (fun z : Bool => OutV.rt ((fun z : Bool => ((Ret.p (D.bl z), []) : Ret × List (List D))) z).1 ((fun z : Bool => ((Ret.p (D.bl z), []) : Ret × List (List D))) z).2) := (T.retP (V := vB) (g := fun z => z) (J.b1 (k := .all) (op := fun x => some ((List.all x id))) (V := vB) (J.lcE (me := fun (turn : Int) => ((s_l_pot script turn).bind fun x1 => s_l_right x1).bind fun x2 => some x2.1) (own := [1]) (tg := (.nm 1)) (g := vI) (ρ1 := (fun turn => [some (vD D.scr script), some (vI turn)])) (V := vB) (en := D.bl) (JI.rng1 (J.lit (V := vI) (x := 3) rfl)) (fun _ => rfl) (fun turn => (J.of_eq (J.as (W := vB) (f := fun z => z.1) (J.call (f := 24) (op := fun r => s_l_right r.1) (V := (fun z => vB z.1)) (Js.cons (J.call (f := 15) (op := fun r => s_l_pot r.1 r.2.1) (V := (vN D.int)) (Js.cons (J.var (i := 0) (V := (vD D.scr)) (x := script) rfl) (Js.cons (J.var (i := 1) (V := vI) (x := turn) rfl) Js.nil)) (fun r z _ e => (call_link (as := [(Arg.p (D.scr r.1), none), (Arg.p (D.int r.2.1), none)]) (R := (fun z : List Int => ((Ret.new (List.map D.int z), []) : Ret × List (List D)))) (V := (vN D.int)) (H := fun _ => [dead, dead]) rfl rfl (L_l_pot (n + 32) r.1 r.2.1) (fun _ => rfl) (fun _ => rfl) z e))) Js.nil) (fun r z _ e => (call_link (as := [(Arg.lst (List.map D.int r.1), none)]) (R := (fun z : Bool × List Int => ((Ret.p (D.bl z.1), [List.map D.int z.2]) : Ret × List (List D)))) (V := (fun z => vB z.1)) (H := fun _ => [dead, dead]) rfl rfl (L_l_right (n + 0) r.1) (fun _ => rfl) (fun _ => rfl) z e))) (fun _ => rfl)) (by simp -implicitDefEqProofs only [Option.bind_assoc, Option.bind_some, Option.bind_none, Option.bind_fun_some] <;> rfl))) (fun _ => rfl) rfl) (fun x e => b_all rfl)) (fun _ _ => rfl) (fun _ => rfl))
  first | exact TJ.of_eq key (by simp -implicitDefEqProofs only [s_law, Option.bind_assoc, Option.bind_some, Option.bind_none, Option.bind_fun_some] <;> rfl) | exact key
theorem L_law (n : Nat) (script : List Int) : ∀ z, s_law script = some z → callV' tabV (n + 34) 25 [Arg.p (D.scr script)] = some ((fun z : Bool => ((Ret.p (D.bl z), []) : Ret × List (List D))) z) :=
  run_link (n := n + 33) (fn := v_law) (En := (fun z : Bool => OutV.rt ((fun z : Bool => ((Ret.p (D.bl z), []) : Ret × List (List D))) z).1 ((fun z : Bool => ((Ret.p (D.bl z), []) : Ret × List (List D))) z).2)) (R := (fun z : Bool => ((Ret.p (D.bl z), []) : Ret × List (List D)))) rfl rfl (B_law n script) (fun _ => rfl)
end K56

/-! ## K56p.lean -/
set_option Elab.async false
set_option linter.all false
set_option maxRecDepth 100000
namespace K56
open PySem MP L2
theorem draw_eq : (s_l_draw : List Int → Int → _) = MP.l_draw := rfl
theorem drawn_eq : (s_l_drawn_row : List Int → Int → _) = MP.l_drawn_row := rfl
theorem turned_eq : (s_l_turned : List Int → _) = MP.l_turned := rfl
theorem lrows_eq : (s_l_rows : Int → _) = MP.lawRows := rfl
theorem check_eq : (s_check_row : List Int → _) = MP.p_check_row := rfl
theorem pot_ok (ns : List Int) {t : Int} (ht : 0 ≤ t) : Sat (s_l_pot ns t) Pot := by
  unfold s_l_pot
  refine Sat.bind (P := fun _ => True) ?_ fun x _ => ?_
  · rw [Option.bind_some]
    by_cases h : t < (ns.length : Int)
    · rw [decide_eq_true h]
      exact (atI_ok ht h).bind fun x _ => .ret trivial
    · rw [decide_eq_false h]
      exact .ret trivial
  · have := cutD_six ns (k := 6)
    rw [catS_ok (by simp only [List.length_cons, List.length_nil]; have : ((6 : Nat) : Int) = 6 := rfl; rw [← this]; omega), Option.bind_some]
    exact (sat_forN (I := fun _ => True) (fun _ _ _ _ => .ret trivial) trivial).bind fun x _ => .ret ⟨_, _, _, rfl⟩
theorem rows (n m : Nat) (h : n ≤ 24) : s_rows_within 30 (n : Int) (m : Int) = some ((rowsN 30 n m).map nts) :=
  rows_ok (s := s_rows_within) (b1 := s_rows_within_b1 (fun _ _ => none)) (b0 := s_rows_within_b0) (fun _ _ _ => rfl) (fun _ _ _ _ => rfl) (fun _ _ _ => rfl) 30 n m (by omega) h
def rankN (r : List Nat) : Int := match r with
  | [] => 0
  | p :: q => (p : Int) - ((q.length + 1 : Nat) : Int)
def crankN (r : List Nat) : Int := match r.countP (· == 1) with
  | 0 => match r with
    | [] => 0
    | p :: _ => (p : Int)
  | o + 1 => ((r.countP fun p => Nat.blt (o + 1) p : Nat) : Int) - ((o + 1 : Nat) : Int)
theorem rank_ok (r : List Nat) : s_rank_of (nts r) = some (rankN r) := by
  cases r with
  | nil => rfl
  | cons p q =>
    have e : ((nts (p :: q)) == ([] : List Int)) = false := rfl
    have e2 : atI (nts (p :: q)) 0 = some (p : Int) := by
      have := atI_nat (xs := nts (p :: q)) (k := 0) (by simp)
      simpa using this
    unfold s_rank_of
    simp only [Option.bind_some, e, Bool.not_false, if_true, e2, rankN, nts, List.length_map, List.length_cons]
theorem filt (r : List Nat) (c : Int → Bool) : (((List.filter c (nts r)).map fun p => p).length) = r.countP fun (p : Nat) => c (p : Int) := by
  rw [List.length_map, ← List.countP_eq_length_filter, List.countP_map]; rfl
theorem times_ok (r : List Nat) (hr : r.length < 16777216) : s_times_in (nts r) 1 = some ((r.countP (· == 1) : Nat) : Int) := by
  unfold s_times_in
  have h1 := filt r fun p => p == 1
  have h2 : (r.countP fun (p : Nat) => ((p : Int) == 1)) = r.countP (· == 1) := by
    apply List.countP_congr
    intro p _
    simp only [beq_iff_eq]; omega
  have h3 : r.countP (· == 1) ≤ r.length := List.countP_le_length
  rw [lenC_ok (by rw [h1, h2]; omega), Option.bind_some, Option.bind_some, h1, h2]
theorem crank_ok (r : List Nat) (hr : r.length < 16777216) : s_crank_of (nts r) = some (crankN r) := by
  unfold s_crank_of
  rw [times_ok r hr, Option.bind_some]
  unfold crankN
  cases h : r.countP (· == 1) with
  | zero =>
    cases r with
    | nil => rfl
    | cons p q =>
      have e : ((nts (p :: q)) == ([] : List Int)) = false := rfl
      have e2 : atI (nts (p :: q)) 0 = some (p : Int) := by
        have := atI_nat (xs := nts (p :: q)) (k := 0) (by simp)
        simpa using this
      rw [if_pos (show (((0 : Nat) : Int) == 0) = true from rfl)]
      simp only [Option.bind_some, e, Bool.not_false, if_true, e2]
  | succ o =>
    rw [if_neg (by simp; omega)]
    have h1 := filt r fun p => decide (((o + 1 : Nat) : Int) < p)
    have h2 : (r.countP fun (p : Nat) => decide (((o + 1 : Nat) : Int) < (p : Int))) = r.countP fun p => Nat.blt (o + 1) p := by
      apply List.countP_congr
      intro p _
      rw [decide_eq_true_eq, Nat.blt_eq]
      omega
    have h3 : (r.countP fun p => Nat.blt (o + 1) p) ≤ r.length := List.countP_le_length
    rw [lenC_ok (by rw [h1, h2]; omega), Option.bind_some, Option.bind_some, Option.bind_some, h1, h2]
def cellsN (marks : List Int) (by' : Nat) : List Int := (List.range by').map fun i => ((marks.countP fun m => (m % (by' : Int)).toNat == i : Nat) : Int)
theorem shared_ok (marks : List Int) (b : Nat) (h1 : 2 ≤ b) (h2 : b ≤ 20) : s_shared marks (b : Int) = some (cellsN marks b) ∧ (cellsN marks b).sum = (marks.length : Int) := by
  obtain ⟨e, l⟩ := cells_zero (by' := b) (f := fun m s => s_shared_b0 (b : Int) m s) (by omega) (fun _ _ => rfl) marks
  refine ⟨?_, l⟩
  unfold s_shared
  rw [timesS_one (by omega) (by omega), Option.bind_some, show ((b : Int)).toNat = b from Int.toNat_natCast b]
  rw [e]; rfl
theorem within (v l m : Int) (h1 : l ≤ v) (h2 : v ≤ m) : s_check_within v l m = some () := by
  unfold s_check_within s_is_within_bounds s_is_integer
  simp [h1, h2]
theorem row_len {n : Nat} (h : n ≤ 24) {r : List Nat} (hr : r ∈ rowsN 30 n n) : r.length < 16777216 := by
  have := (rowsN_sum 30 n n (by omega) r hr).2.2
  omega
theorem marks_ok {s : List Int → Option Int} {g : List Nat → Int} {n : Nat} (h : n ≤ 24) (hs : ∀ r, r.length < 16777216 → s (nts r) = some (g r)) :
    ((lcE (fun (row : List Int) => s row) ((rowsN 30 n n).map nts)).bind fun ys => lenC ys) = some ((rowsN 30 n n).map g) := by
  have : lcE (fun (row : List Int) => s row) ((rowsN 30 n n).map nts) = some ((rowsN 30 n n).map g) := by
    have key : ∀ xs : List (List Nat), (∀ r ∈ xs, r.length < 16777216) → lcE (fun (row : List Int) => s row) (xs.map nts) = some (xs.map g) := by
      intro xs
      induction xs with
      | nil => intro _; rfl
      | cons x xs ih =>
        intro hx
        rw [List.map_cons, lcE, hs x (hx x List.mem_cons_self), Option.bind_some, ih fun r m => hx r (List.mem_cons_of_mem _ m)]; rfl
    exact key _ fun r hr => row_len h hr
  rw [this, Option.bind_some, lenC_ok]
  rw [List.length_map]
  exact rowsN_lt n (by omega) h
theorem by_rank_ok {n b : Nat} (h : n ≤ 24) (h1 : 2 ≤ b) (h2 : b ≤ 20) : s_by_rank (n : Int) (b : Int) = some (cellsN ((rowsN 30 n n).map rankN) b) ∧ (cellsN ((rowsN 30 n n).map rankN) b).sum = ((rowsN 30 n n).length : Int) := by
  obtain ⟨e, l⟩ := shared_ok ((rowsN 30 n n).map rankN) b h1 h2
  refine ⟨?_, by rw [l, List.length_map]⟩
  unfold s_by_rank
  rw [within _ _ _ (by omega) (by omega), Option.bind_some, within _ _ _ (by omega) (by omega), Option.bind_some, rows n n h, Option.bind_some, marks_ok h (fun r _ => rank_ok r), Option.bind_some, e, Option.bind_some]
theorem by_crank_ok {n b : Nat} (h : n ≤ 24) (h1 : 2 ≤ b) (h2 : b ≤ 20) : s_by_crank (n : Int) (b : Int) = some (cellsN ((rowsN 30 n n).map crankN) b) ∧ (cellsN ((rowsN 30 n n).map crankN) b).sum = ((rowsN 30 n n).length : Int) := by
  obtain ⟨e, l⟩ := shared_ok ((rowsN 30 n n).map crankN) b h1 h2
  refine ⟨?_, by rw [l, List.length_map]⟩
  unfold s_by_crank
  rw [within _ _ _ (by omega) (by omega), Option.bind_some, within _ _ _ (by omega) (by omega), Option.bind_some, rows n n h, Option.bind_some, marks_ok h (fun r hr => crank_ok r hr), Option.bind_some, e, Option.bind_some]
end K56

/-! ## K56q.lean -/
set_option Elab.async false
set_option linter.all false
set_option maxRecDepth 100000
namespace K56
open PySem MP L2
/-! ranks and cranks of any row -/
theorem rank_tab (f : Nat → Int) (n : Nat) : s_rank_of (tab f n) = some (if 0 < n then f 0 - (n : Int) else 0) := by
  cases n with
  | zero => rfl
  | succ n =>
    have ne : ((tab f (n + 1)) == ([] : List Int)) = false := by rw [tab_cons]; rfl
    have a0 : atI (tab f (n + 1)) 0 = some (f 0) := atI_tab' (k := 0) rfl (by omega)
    unfold s_rank_of
    rw [ne, tab_len]
    simp only [Bool.not_false, Option.bind_some, if_true]
    rw [a0, if_pos (by omega)]
    rfl
theorem due_rank (xs : List Int) : ((some (!(xs == ([] : List Int)))).bind fun x2 => if x2 then (atI xs 0).bind fun x1 => some (x1 - ((xs.length : Nat) : Int)) else some 0) = s_rank_of xs := by
  unfold s_rank_of
  generalize ((some (!(xs == ([] : List Int)))).bind fun x2 => if x2 then (atI xs 0).bind fun x1 => some (x1 - ((xs.length : Nat) : Int)) else some 0) = o
  cases o <;> rfl
theorem rank_ok' {xs : List Int} {T : Int} (h : Row xs T) (hT : T ≤ 600) {v : Int} (e : s_rank_of xs = some v) : s_rank xs = some v := by
  unfold s_rank
  rw [check_eq, p_checked h hT, Option.bind_some, e, Option.bind_some]
theorem cnj_zero {f : Nat → Int} {n : Nat} {T : Int} (h : RowT f n T) : cnj f n 0 = (n : Int) := by
  have : ∀ m, m ≤ n → sumN (ind f ((0 : Nat) : Int)) m = (m : Int) := fun m => by
    induction m with
    | zero => intro _; rfl
    | succ m ih =>
      intro hm
      show sumN (ind f ((0 : Nat) : Int)) m + ind f ((0 : Nat) : Int) m = _
      rw [ih (by omega), show ind f ((0 : Nat) : Int) m = 1 from if_pos (by have := h.pos m (by omega); omega)]
      omega
  exact this n (Nat.le_refl n)
theorem ranks {xs : List Int} {T : Int} (h : Row xs T) (hT : T ≤ 600) : ∃ v ys, s_rank_of xs = some v ∧ s_rank xs = some v ∧ s_l_turned xs = some ys ∧ s_rank ys = some (0 - v) ∧ -1000 ≤ v ∧ v ≤ 1000 := by
  obtain ⟨f, n, rfl, r⟩ := h
  have hl := r.len
  have t := l_turned_ok r (by omega)
  have e := rank_tab f n
  refine ⟨_, _, e, rank_ok' ⟨f, n, rfl, r⟩ hT e, by rw [turned_eq]; exact t, ?_, ?_⟩
  · by_cases c : 0 < n
    · rw [if_pos c, if_pos c]
      have tr := turn_row r c
      have q := rank_tab (cnj f n) (f 0).toNat
      have p0 := r.pos 0 c
      rw [if_pos (by omega), cnj_zero r] at q
      rw [rank_ok' ⟨_, _, rfl, tr⟩ hT q]
      congr 1; omega
    · rw [if_neg c, if_neg c]
      exact rank_ok' Row_nil (by decide) rfl
  · by_cases c : 0 < n
    · rw [if_pos c]
      have := r.pos 0 c
      have := r.le c
      omega
    · rw [if_neg c]; decide
theorem crank_same {xs : List Int} (hl : xs.length < 16777216) : s_l_crank xs = s_crank_of xs := by
  have e : s_times_in xs 1 = some ((List.count 1 xs : Nat) : Int) := by
    unfold s_times_in
    rw [lenC_ok (by rw [List.length_map]; exact Nat.lt_of_le_of_lt (List.length_filter_le _ _) hl), Option.bind_some, Option.bind_some, List.length_map, List.count, List.countP_eq_length_filter]
  unfold s_l_crank s_crank_of
  rw [e, Option.bind_some]
  cases xs with
  | nil => rfl
  | cons x xs =>
    rw [if_neg (show ¬ (((x :: xs) == ([] : List Int)) = true) by simp)]
    dsimp only
    by_cases c : ((((List.count 1 (x :: xs) : Nat) : Int) == 0) = true)
    · rw [if_pos c, c]
      rfl
    · rw [if_neg c, Bool.eq_false_iff.mpr c]
      simp only [Option.bind_some, Bool.false_eq_true, if_false]
theorem cranks {xs : List Int} {T : Int} (h : Row xs T) (hT : T ≤ 600) : ∃ v, s_l_crank xs = some v ∧ s_crank xs = some v ∧ -1000 ≤ v ∧ v ≤ 1000 := by
  obtain ⟨f, n, rfl, r⟩ := h
  have hl := r.len
  have len : (tab f n).length = n := tab_len
  have same := crank_same (xs := tab f n) (by rw [len]; omega)
  have : ∃ v, s_l_crank (tab f n) = some v ∧ -1000 ≤ v ∧ v ≤ 1000 := by
    unfold s_l_crank
    cases n with
    | zero => exact ⟨0, rfl, by decide, by decide⟩
    | succ n =>
      have ne : ((tab f (n + 1)) == ([] : List Int)) = false := by rw [tab_cons]; rfl
      have a0 : atI (tab f (n + 1)) 0 = some (f 0) := atI_tab' (k := 0) rfl (by omega)
      rw [ne, if_neg (by simp)]
      dsimp only
      by_cases c : ((((List.count 1 (tab f (n + 1)) : Nat) : Int) == 0) = true)
      · rw [c]
        simp only [Option.bind_some, if_true]
        have := r.pos 0 (by omega)
        have := r.le (i := 0) (by omega)
        exact ⟨f 0, by rw [a0]; rfl, by omega, by omega⟩
      · rw [Bool.eq_false_iff.mpr c]
        simp only [Option.bind_some, Bool.false_eq_true, if_false]
        have c1 : List.count 1 (tab f (n + 1)) ≤ n + 1 := by have := List.count_le_length (a := (1 : Int)) (l := tab f (n + 1)); rw [len] at this; exact this
        have c2 := List.length_filter_le (fun (part : Int) => (decide (((List.count 1 (tab f (n + 1)) : Nat) : Int) < part))) (tab f (n + 1))
        rw [len] at c2
        rw [lenC_ok (by rw [List.length_map]; omega), Option.bind_some, Option.bind_some, List.length_map]
        exact ⟨_, rfl, by omega, by omega⟩
  obtain ⟨v, e, b1, b2⟩ := this
  refine ⟨v, e, ?_, b1, b2⟩
  unfold s_crank
  rw [check_eq, p_checked ⟨f, n, rfl, r⟩ hT, Option.bind_some, ← same, e, Option.bind_some]
theorem low_of {x : Int} (h0 : -10000 ≤ x) (h1 : x ≤ 10000) : lowI x := lowI_of (by omega) (by omega)
theorem told_ok {xs : List Int} {T : Int} (h : Row xs T) (hT : T ≤ 600) : s_l_told_right xs = some true := by
  obtain ⟨v, ys, a1, a2, a3, a4, b1, b2⟩ := ranks h hT
  obtain ⟨w, c1, c2, d1, d2⟩ := cranks h hT
  have r1 := repL (xs := [v, v, 0 - v]) (by intro x hx; simp only [List.mem_cons, List.not_mem_nil, or_false] at hx; exact low_of (by omega) (by omega)) (by simp)
  have r2 := repL (xs := [w, w]) (by intro x hx; simp only [List.mem_cons, List.not_mem_nil, or_false] at hx; exact low_of (by omega) (by omega)) (by simp)
  unfold s_l_told_right
  rw [due_rank, a1]
  simp -implicitDefEqProofs only [Option.bind_some, a2, a3, a4, c1, c2, r1, r2, eqD_self', if_true, if_false, Bool.false_eq_true]
/-! rests -/
theorem fuel_same : allN (fun n => rowsN (n + 1) n n == rowsN 30 n n) 15 = true := by decide +kernel
theorem lrows {n : Nat} (h : n < 15) : s_l_rows (n : Int) = some ((rowsN 30 n n).map nts) := by
  rw [lrows_eq, lawRows_ok (by omega), eq_of_beq (allN_ok (fun n => rowsN (n + 1) n n == rowsN 30 n n) 15 fuel_same n h)]
theorem l_shared_ok (marks : List Int) (b : Nat) (h1 : 2 ≤ b) (h2 : b ≤ 20) (hl : marks.length < 16777216) : s_l_shared marks (b : Int) = some (cellsN marks b) := by
  unfold s_l_shared
  rw [rng1_nat (by omega), Option.bind_some, lcE_map (g := fun (x : Int) => ((marks.countP fun m => (m % (b : Int)).toNat == x.toNat : Nat) : Int)), Option.bind_some, List.map_map]
  · have e : (List.range b).map ((fun (x : Int) => ((marks.countP fun m => (m % (b : Int)).toNat == x.toNat : Nat) : Int)) ∘ fun (k : Nat) => (k : Int)) = cellsN marks b := rfl
    rw [e, lenC_ok (by simp [cellsN]; omega), Option.bind_some, Option.bind_some]
  · intro x hx
    obtain ⟨i, hi, rfl⟩ := List.mem_map.mp hx
    rw [List.mem_range] at hi
    rw [lcS_filter (g := fun m => (m - (i : Int)) % (b : Int) == 0)]
    · rw [Option.bind_some, lenC_ok (Nat.lt_of_le_of_lt (List.length_filter_le _ _) hl), Option.bind_some, ← List.countP_eq_length_filter]
      congr 2
      apply List.countP_congr
      intro m _
      rw [beq_iff_eq, beq_iff_eq, ← Int.emod_eq_emod_iff_emod_sub_eq_zero, Int.emod_eq_of_lt (show 0 ≤ (i : Int) by omega) (show (i : Int) < (b : Int) by omega)]
      have := Int.emod_nonneg m (show (b : Int) ≠ 0 by omega)
      rw [Int.toNat_natCast]
      omega
    · intro m _
      rw [modS_ok (by omega), Option.bind_some]
end K56

/-! ## K56r.lean -/
set_option Elab.async false
set_option linter.all false
set_option maxRecDepth 100000
namespace K56
open PySem MP L2
/-! cranks of all rows: as many as their opposites -/
def unev (marks : List Int) : List Int := List.filter (fun (mark : Int) => (!(((List.count mark marks : Nat) : Int) == ((List.count (0 - mark) marks : Nat) : Int)))) marks
theorem evenK : allN (fun n => Nat.beq n 1 || (unev ((rowsN 30 n n).map crankN)).isEmpty) 13 = true := by decide +kernel
theorem rows_n {n : Nat} (h : n < 15) : (rowsN 30 n n).length ≤ 65536 := by
  refine Nat.le_trans (rowsN_len 30 n n (by omega)) ?_
  exact Nat.le_trans (Nat.pow_le_pow_right (by decide) (show n ≤ 16 by omega)) (by decide)
theorem row_of {n : Nat} {r : List Nat} (hr : r ∈ rowsN 30 n n) : Row (nts r) n := (rowsN_row 30 n n r hr).1
theorem marks_of {s : List Int → Option Int} {g : List Nat → Int} {n : Nat} (h : n < 15) (hs : ∀ r ∈ rowsN 30 n n, s (nts r) = some (g r)) :
    ((lcE (fun (row : List Int) => s row) ((rowsN 30 n n).map nts)).bind fun ys => lenC ys) = some ((rowsN 30 n n).map g) := by
  have key : ∀ xs : List (List Nat), (∀ r ∈ xs, s (nts r) = some (g r)) → lcE (fun (row : List Int) => s row) (xs.map nts) = some (xs.map g) := by
    intro xs
    induction xs with
    | nil => intro _; rfl
    | cons x xs ih =>
      intro hx
      rw [List.map_cons, lcE, hx x List.mem_cons_self, Option.bind_some, ih fun r m => hx r (List.mem_cons_of_mem _ m)]; rfl
  have := rows_n h
  rw [key _ hs, Option.bind_some, lenC_ok (by rw [List.length_map]; omega)]
theorem cells_low (marks : List Int) (b : Nat) (h : marks.length ≤ 65536) : ∀ x ∈ cellsN marks b, lowI x := by
  intro x hx
  obtain ⟨i, _, rfl⟩ := List.mem_map.mp hx
  have := List.countP_le_length (p := fun m => (m % (b : Int)).toNat == i) (l := marks)
  exact lowI_of (by omega) (by omega)
theorem rests_ok {p : List Int} (hp : Pot p) : ∃ q, s_l_rests_right p = some (true, q) := by
  obtain ⟨⟨x1, p1⟩, e1, h1, h1', hp1⟩ := l_draw_ok hp (m := 15) (by decide) (by decide)
  obtain ⟨⟨x2, p2⟩, e2, h2, h2', hp2⟩ := l_draw_ok hp1 (m := 19) (by decide) (by decide)
  dsimp only at h1 h1' h2 h2'
  obtain ⟨n, rfl⟩ := Int.eq_ofNat_of_zero_le h1
  obtain ⟨b, hb⟩ := Int.eq_ofNat_of_zero_le (show 0 ≤ 2 + x2 by omega)
  have hn : n < 15 := by omega
  have b1 : 2 ≤ b := by omega
  have b2 : b ≤ 20 := by omega
  have ln := rows_n hn
  have a0 := lrows hn
  have a1 := marks_of (s := fun row => (some (!(row == ([] : List Int)))).bind fun x11 => if x11 then (atI row 0).bind fun x10 => some (x10 - ((row.length : Nat) : Int)) else some 0) (g := rankN) hn (fun r _ => by rw [due_rank]; exact rank_ok r)
  have lc : ∀ r ∈ rowsN 30 n n, (nts r).length < 16777216 := fun r hr => by
    have := row_len (n := n) (by omega) hr
    unfold nts; rw [List.length_map]; exact this
  have a2 := marks_of (s := s_l_crank) (g := crankN) hn (fun r hr => by
    rw [crank_same (lc r hr)]
    exact crank_ok r (row_len (n := n) (by omega) hr))
  have a3 := l_shared_ok ((rowsN 30 n n).map rankN) b b1 b2 (by rw [List.length_map]; omega)
  have a4 := l_shared_ok ((rowsN 30 n n).map crankN) b b1 b2 (by rw [List.length_map]; omega)
  have a5 := (by_rank_ok (n := n) (b := b) (by omega) b1 b2).1
  have a6 := (by_crank_ok (n := n) (b := b) (by omega) b1 b2).1
  have l1 := cells_low ((rowsN 30 n n).map rankN) b (by rw [List.length_map]; omega)
  have l2 := cells_low ((rowsN 30 n n).map crankN) b (by rw [List.length_map]; omega)
  have r1 := repF2 l1 l1 (by simp [cellsN]; omega) (by simp [cellsN]; omega)
  have r2 := repF2 l2 l2 (by simp [cellsN]; omega) (by simp [cellsN]; omega)
  rw [← draw_eq] at e1 e2
  generalize cellsN ((rowsN 30 n n).map rankN) b = u at *
  generalize cellsN ((rowsN 30 n n).map crankN) b = v at *
  simp -implicitDefEqProofs only [Option.bind_some] at a1
  generalize (rowsN 30 n n).map rankN = mr at *
  generalize (rowsN 30 n n).map crankN = mc at *
  generalize (rowsN 30 n n).map nts = rs at *
  refine ⟨p2, ?_⟩
  simp -implicitDefEqProofs only [s_l_rests_right, Option.bind_some, e1, e2, hb, a0, a1, a2, a3, a4, a5, a6, r1, r2, eqD_self', if_true, if_false, Bool.false_eq_true]
theorem sat_lcF' {α β : Type} {f : α → List Int → Option (β × List Int)} {P : β → Prop} (h : ∀ x s, Pot s → Sat (f x s) fun r => P r.1 ∧ Pot r.2) : ∀ (xs : List α) (s : List Int), Pot s → Sat (lcF' f xs s) fun r => (∀ y ∈ r.1, P y) ∧ r.1.length = xs.length ∧ Pot r.2
  | [], s, hs => .ret ⟨fun y hy => (nomatch hy), rfl, hs⟩
  | x :: xs, s, hs => by
    unfold lcF'
    refine (h x s hs).bind fun r hr => ?_
    refine (sat_lcF' h xs r.2 hr.2).bind fun q hq => ?_
    refine .ret ⟨fun y hy => ?_, by dsimp only; rw [List.length_cons, List.length_cons, hq.2.1], hq.2.2⟩
    rcases List.mem_cons.mp hy with rfl | hy
    · exact hr.1
    · exact hq.1 y hy
/-- the rows that are always asked -/
def spec (x : Int) (k : Nat) : List (List Int) := [[], [x], List.replicate k 1, [x - 30] ++ List.replicate 30 1, List.replicate (k / 2) 2, [x / 2, x / 2]]
theorem spec_row {x : Int} {k : Nat} (h0 : 500 ≤ x) (h1 : x ≤ 600) (hk : x = (k : Int)) : ∀ xs ∈ spec x k, ∃ T, Row xs T ∧ T ≤ 600 := by
  intro xs hx
  unfold spec at hx
  simp only [List.mem_cons, List.not_mem_nil, or_false] at hx
  rcases hx with rfl | rfl | rfl | rfl | rfl | rfl
  · exact ⟨_, Row_nil, by decide⟩
  · exact ⟨_, Row_cons Row_nil (by omega) (fun y hy => by cases hy), by omega⟩
  · exact ⟨_, Row_rep 1 (by decide) k, by omega⟩
  · exact ⟨_, Row_cons (Row_rep 1 (by decide) 30) (by omega) (fun y hy => by rw [List.eq_of_mem_replicate hy]; omega), by omega⟩
  · exact ⟨_, Row_rep 2 (by decide) (k / 2), by omega⟩
  · exact ⟨_, Row_rep (x / 2) (by omega) 2, by omega⟩
theorem right_ok {p : List Int} (hp : Pot p) : ∃ q, s_l_right p = some (true, q) := by
  obtain ⟨⟨x1, p1⟩, e1, h1, h1', hp1⟩ := l_draw_ok hp (m := 13) (by decide) (by decide)
  obtain ⟨⟨x2, p2⟩, e2, h2, h2', hp2⟩ := l_draw_ok hp1 (m := 40) (by decide) (by decide)
  dsimp only at h1 h1' h2 h2' hp2
  obtain ⟨n, rfl⟩ := Int.eq_ofNat_of_zero_le h1
  obtain ⟨k, hk⟩ := Int.eq_ofNat_of_zero_le (show 0 ≤ 600 - x2 by omega)
  have hn : n < 15 := by omega
  have ln := rows_n hn
  have a0 := lrows hn
  obtain ⟨⟨ds, p3⟩, e3, hd, hdl, hp3⟩ := sat_lcF' (f := fun (turn : Int) s1 => (some (s1, s1)).bind fun x14 => ((some (s1, s1)).bind fun x15 => (some (91, s1)).bind fun x16 => s_l_draw x16.2 x16.1).bind fun x17 => s_l_drawn_row x17.2 x17.1) (P := fun xs => ∃ T, Row xs T ∧ T ≤ 600) (fun x s hs => by
    simp only [Option.bind_some]
    rw [draw_eq, drawn_eq]
    refine (l_draw_ok hs (m := 91) (by decide) (by decide)).bind fun r hr => ?_
    exact (l_drawn_ok hr.2.2 (T := r.1) hr.1 (by omega)).mono fun z hz => ⟨⟨_, hz.1, by omega⟩, hz.2⟩) ((List.range 4).map fun (k : Nat) => (k : Int)) p2 hp2
  dsimp only at hd hdl hp3
  have hdl' : ds.length = 4 := by rw [hdl]; rfl
  obtain ⟨q, e4⟩ := rests_ok hp3
  have t1 : timesTS ([1] : List Int) (600 - x2) = some (List.replicate k 1) := by rw [hk]; exact timesTS_one (k := k) (by omega)
  have t2 : timesTS ([1] : List Int) 30 = some (List.replicate 30 1) := timesTS_one (k := 30) (by omega)
  have hh : (600 - x2) / 2 = ((k / 2 : Nat) : Int) := by rw [hk]; exact (Int.natCast_ediv k 2).symm
  have t3 : timesTS ([2] : List Int) ((600 - x2) / 2) = some (List.replicate (k / 2) 2) := by rw [hh]; exact timesTS_one (k := k / 2) (by omega)
  have t4 : catS [(600 - x2) - 30] (List.replicate 30 (1 : Int)) = some ([(600 - x2) - 30] ++ List.replicate 30 1) := catS_ok (by simp)
  have r4 : MP.rng1 4 = some ((List.range 4).map fun (k : Nat) => (k : Int)) := rng1_nat (n := 4) (by omega)
  have c0 : lenC ds = some ds := lenC_ok (by omega)
  have c5 : catS ([[], [600 - x2], List.replicate k 1, [(600 - x2) - 30] ++ List.replicate 30 1, List.replicate (k / 2) 2, [(600 - x2) / 2, (600 - x2) / 2]] : List (List Int)) ds = some (spec (600 - x2) k ++ ds) := catS_ok (by rw [hdl']; simp)
  have sl : (spec (600 - x2) k).length = 6 := rfl
  have so := spec_row (x := 600 - x2) (k := k) (by omega) (by omega) hk
  have rl : ((rowsN 30 n n).map nts).length ≤ 65536 := by rw [List.length_map]; exact ln
  have c6 : catS ((rowsN 30 n n).map nts) (spec (600 - x2) k ++ ds) = some ((rowsN 30 n n).map nts ++ (spec (600 - x2) k ++ ds)) := catS_ok (by rw [List.length_append, sl, hdl']; omega)
  have all : ∀ xs ∈ (rowsN 30 n n).map nts ++ (spec (600 - x2) k ++ ds), s_l_told_right xs = some true := by
    intro xs hx
    have hT : ∃ T, Row xs T ∧ T ≤ 600 := by
      rcases List.mem_append.mp hx with hx | hx
      · obtain ⟨y, hy, rfl⟩ := List.mem_map.mp hx
        exact ⟨_, row_of hy, by omega⟩
      · rcases List.mem_append.mp hx with hx | hx
        · exact so xs hx
        · exact hd xs hx
    obtain ⟨T, a, b⟩ := hT
    exact told_ok a b
  have last : (lcS (fun (row : List Int) => ((s_l_told_right row).bind fun x22 => some (!x22)).bind fun c => if c then (some row).bind fun y => some (some y) else some none) ((rowsN 30 n n).map nts ++ (spec (600 - x2) k ++ ds))) = some [] := by
    rw [lcS_filter (g := fun _ => false)]
    · rw [List.filter_eq_nil_iff.mpr fun _ _ => by simp]
    · intro x hx
      rw [all x hx]; rfl
  simp -implicitDefEqProofs only [Option.bind_some] at last
  have c3 : lenC ([] : List (List Int)) = some [] := rfl
  have c4 : (([] : List (List Int)) == []) = true := rfl
  have mk := marks_of (s := s_crank) (g := crankN) hn (fun r hr => by
    obtain ⟨w, w1, w2, _⟩ := cranks (row_of hr) (show (n : Int) ≤ 600 by omega)
    have lc : (nts r).length < 16777216 := by
      have := row_len (n := n) (by omega) hr
      unfold nts; rw [List.length_map]; exact this
    rw [crank_same lc, crank_ok r (row_len (n := n) (by omega) hr)] at w1
    rw [w2, w1])
  have ev := allN_ok _ _ evenK n (by omega)
  have un : lenC (unev ((rowsN 30 n n).map crankN)) = some (unev ((rowsN 30 n n).map crankN)) := lenC_ok (by
    unfold unev
    refine Nat.lt_of_le_of_lt (List.length_filter_le _ _) ?_
    rw [List.length_map]; omega)
  have fin : (((n : Int) == 1) || (unev ((rowsN 30 n n).map crankN) == ([] : List Int))) = true := by
    rcases Bool.or_eq_true _ _ ▸ ev with h | h
    · have : n = 1 := Nat.eq_of_beq_eq_true h
      subst this; rfl
    · rw [List.isEmpty_iff.mp h]; simp
  unfold unev at un fin
  rw [← draw_eq] at e1 e2
  simp -implicitDefEqProofs only [Option.bind_some] at e3
  generalize spec (600 - x2) k ++ ds = sd at *
  generalize (rowsN 30 n n).map crankN = mc at *
  generalize (rowsN 30 n n).map nts = rs at *
  refine ⟨q, ?_⟩
  simp -implicitDefEqProofs only [s_l_right, Option.bind_some, e1, e2, a0, t1, t2, t3, t4, r4, e3, c0, c5, c6, last, c3, c4, mk, List.map_id', un, fin, e4, Bool.not_true, if_true, if_false, Bool.false_eq_true]
theorem plain' (ns : List Int) : s_law ns = some true := by
  have key : ∀ t : Int, 0 ≤ t → (((s_l_pot ns t).bind fun x1 => s_l_right x1).bind fun x2 => some x2.1) = some true := by
    intro t ht
    obtain ⟨p, e, hp⟩ := pot_ok ns ht
    obtain ⟨q, e2⟩ := right_ok hp
    rw [e, Option.bind_some, e2, Option.bind_some]
  unfold s_law
  rw [show (3 : Int) = ((3 : Nat) : Int) from rfl, rng1_ok (by decide), Option.bind_some]
  rw [lcE_map (g := fun _ => true)]
  · rfl
  · intro t ht
    obtain ⟨k, _, rfl⟩ := List.mem_map.mp ht
    exact key _ (by omega)
theorem plain (ns : List Int) (h : ns.length ≤ 63) : callD (defs.map (·.fn)) 34 25 [.p (.scr ns)] = some (.p (.bl true), []) := by
  rw [tab_eq]
  exact callV_ref tabV 34 25 _ _ (L_law 0 ns true (plain' ns))
end K56

/-! ## K56.end -/
open PySem PySem.W PyProof.Rows
set_option maxRecDepth 100000 in
set_option maxHeartbeats 0 in
theorem PySem.Challenge.cw_letparts_k56_whole_ranks_and_cranks_and_holds : PySem.Challenge.rw_letparts_k56_whole_ranks_and_cranks_and.Holds := by
  w_on; o_law; k_head; (case hw => w_witness2)
  k_fill
  refine MP.law_walk (l := PySem.Challenge.rw_letparts_k56_whole_ranks_and_cranks_and) (n := 34) (i := 25) (ds := K56.defs) (consts := K56.consts) (d := K56.d_law) (x := "script") rfl (by decide) rfl ⟨rfl, by decide, by decide⟩ (fun w h Y => PySem.W.kIn_of Y) K56.chk rfl rfl rfl ?F K56.plain
  case F =>
    intro w mg h KX G
    refine' K56.facts KX G ?a0 ?l0 ?c0 ?k0 ?a1 ?l1 ?c1 ?k1 ?a2 ?l2 ?c2 ?k2 ?a3 ?l3 ?c3 ?k3 ?a4 ?l4 ?c4 ?k4 ?a5 ?l5 ?c5 ?k5 ?a6 ?l6 ?c6 ?k6 ?a7 ?l7 ?c7 ?k7 ?a8 ?l8 ?c8 ?k8 ?a9 ?l9 ?c9 ?k9 ?a10 ?l10 ?c10 ?k10 ?a11 ?l11 ?c11 ?k11 ?a12 ?l12 ?c12 ?k12 ?a13 ?l13 ?c13 ?k13 ?a14 ?l14 ?c14 ?k14 ?a15 ?l15 ?c15 ?k15 ?a16 ?l16 ?c16 ?k16 ?a17 ?l17 ?c17 ?k17 ?a18 ?l18 ?c18 ?k18 ?a19 ?l19 ?c19 ?k19 ?a20 ?l20 ?c20 ?k20 ?a21 ?l21 ?c21 ?k21 ?a22 ?l22 ?c22 ?k22 ?a23 ?l23 ?c23 ?k23 ?a24 ?l24 ?c24 ?k24 ?a25 ?l25 ?c25 ?k25 ?q0 ?q1 ?q2 ?q3 ?b0 ?b1 ?b2 ?b3 ?b4 ?b5 ?b6 ?b7 ?b8 ?b9 ?b10 ?b11 ?b12 ?b13 ?b14 ?b15 ?b16 ?b17 ?b18
    (case a0 => k_is); (case l0 => k_is); (case c0 => k_is); (case k0 => k_is); (case a1 => k_is); (case l1 => k_is); (case c1 => k_is); (case k1 => k_is)
    (case a2 => k_is); (case l2 => k_is); (case c2 => k_is); (case k2 => k_is); (case a3 => k_is); (case l3 => k_is); (case c3 => k_is); (case k3 => k_is)
    (case a4 => k_is); (case l4 => k_is); (case c4 => k_is); (case k4 => k_is); (case a5 => k_is); (case l5 => k_is); (case c5 => k_is); (case k5 => k_is)
    (case a6 => k_is); (case l6 => k_is); (case c6 => k_is); (case k6 => k_is); (case a7 => k_is); (case l7 => k_is); (case c7 => k_is); (case k7 => k_is)
    (case a8 => k_is); (case l8 => k_is); (case c8 => k_is); (case k8 => k_is); (case a9 => k_is); (case l9 => k_is); (case c9 => k_is); (case k9 => k_is)
    (case a10 => k_is); (case l10 => k_is); (case c10 => k_is); (case k10 => k_is); (case a11 => k_is); (case l11 => k_is); (case c11 => k_is); (case k11 => k_is)
    (case a12 => k_is); (case l12 => k_is); (case c12 => k_is); (case k12 => k_is); (case a13 => k_is); (case l13 => k_is); (case c13 => k_is); (case k13 => k_is)
    (case a14 => k_is); (case l14 => k_is); (case c14 => k_is); (case k14 => k_is); (case a15 => k_is); (case l15 => k_is); (case c15 => k_is); (case k15 => k_is)
    (case a16 => k_is); (case l16 => k_is); (case c16 => k_is); (case k16 => k_is); (case a17 => k_is); (case l17 => k_is); (case c17 => k_is); (case k17 => k_is)
    (case a18 => k_is); (case l18 => k_is); (case c18 => k_is); (case k18 => k_is); (case a19 => k_is); (case l19 => k_is); (case c19 => k_is); (case k19 => k_is)
    (case a20 => k_is); (case l20 => k_is); (case c20 => k_is); (case k20 => k_is); (case a21 => k_is); (case l21 => k_is); (case c21 => k_is); (case k21 => k_is)
    (case a22 => k_is); (case l22 => k_is); (case c22 => k_is); (case k22 => k_is); (case a23 => k_is); (case l23 => k_is); (case c23 => k_is); (case k23 => k_is)
    (case a24 => k_is); (case l24 => k_is); (case c24 => k_is); (case k24 => k_is); (case a25 => k_is); (case l25 => k_is); (case c25 => k_is); (case k25 => k_is)
    (case q0 => k_is); (case q1 => k_is); (case q2 => k_is); (case q3 => k_is); (case b0 => k_is); (case b1 => k_is); (case b2 => k_is); (case b3 => k_is)
    (case b4 => k_is); (case b5 => k_is); (case b6 => k_is); (case b7 => k_is); (case b8 => k_is); (case b9 => k_is); (case b10 => k_is); (case b11 => k_is)
    (case b12 => k_is); (case b13 => k_is); (case b14 => k_is); (case b15 => k_is); (case b16 => k_is); (case b17 => k_is); (case b18 => k_is)