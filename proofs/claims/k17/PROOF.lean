import PyProof.Rows.All
import Wide.All
import OpenK.AllK
import Wide.FinOn
import KE.DataEq
import HandS.ForMost
import HandS.ForExc
import HandS.CallSlots
import HandS.TryMany
import HandS.Conv
import HandS.Wide
import HandS.TupAny
import HandS.TupMul
import HandS.Style
import HandS.Flow
import HandS.Zip
import HandS.IsInst
import HandS.SortInts
import HandS.FStr
import HandS.Small
import HandS.Defaults
import HandS.Lambda
import HandS.HeadHook4
import HandS.ExcInit
import HandS.ExcValue
import HandS.Walk
import HandS.HeadHook1
import HandS.HeadHook2
import HandS.TryOnly
import KE.GoesEnum
import KE.GoesMore
import HandS.HeadEnd
import HandS.EndTab
import HandS.HeadWalk
import HandS.NestedK
import HandS.ExcField
import KE.KExcSuper
import HandS.RaiseMore
import HandS.Text
import HandS.Dict
import HandS.WordsDict
import HandS.Strs
import KE.KExcIs
import KE.KStateDown
import HandS.Head0
import HandS.Head1
import HandS.Head2
import HandS.Words
import PySem.Challenge.RW_anyminute_k17_errors_and_their_classes
set_option Elab.async false
set_option linter.all false
set_option maxRecDepth 100000
set_option maxHeartbeats 0
/-! The D layer: what a def does, as a plain function of data. -/
namespace DL
open PySem PySem.Spec L2
abbrev D := PyData
/-- a value: pure data, a mutable list of the store, the script -/
inductive Vl where
  | d (x : D)
  | r (n : Nat)
  | s (ns : List Int)
  | f (x : Str)
/-- an object of the store: a list of data, a table of code objects, a dict of data by text keys, an instance, a list or a tuple of any values, a dict of any values, an exception -/
inductive Ob where
  | lst (xs : List D)
  | tab (p : Str × Option Str) (q : Str)
  | dct (ks : List Str) (xs : List D)
  | ins (cn : Str) (fs : List (Str × Vl))
  | mix (t : Bool) (xs : List Vl)
  | dcm (ks : List Str) (xs : List Vl)
  | exv (cn : Str) (fs : List (Str × D))
abbrev Store := List Ob
abbrev DEnv := List (Option Vl)
structure Ex where
  cn : Str
  fs : List (Str × D)
inductive Rs (α : Type) where
  | ok (a : α) (st : Store)
  | exc (e : Ex) (st : Store)
  | bad
def Rs.bind {α β : Type} (r : Rs α) (k : α → Store → Rs β) : Rs β := match r with
  | .ok a st => k a st
  | .exc e st => .exc e st
  | .bad => .bad
/-! ### data in the abstract heap -/
/-- m: the addresses of the store's objects; f: addresses that no data stands at (a list that is being made) -/
structure Mu where
  m : List Addr
  f : List Addr
instance : Membership Addr Mu := ⟨fun μ a => a ∈ μ.m ∨ a ∈ μ.f⟩
theorem Mu.mem {μ : Mu} {a : Addr} : a ∈ μ ↔ a ∈ μ.m ∨ a ∈ μ.f := Iff.rfl
def Mu.add (μ : Mu) (a : Addr) : Mu := ⟨μ.m, a :: μ.f⟩
def Mu.push (μ : Mu) (a : Addr) : Mu := ⟨μ.m ++ [a], μ.f⟩
def Lm (K : PySem.W.Frag) (μ : Mu) (H : Hp) (a : Addr) (vs : List V) : Prop := H a = some (.lst vs) ∧ a ∉ μ
def Tm (K : PySem.W.Frag) (μ : Mu) (H : Hp) (a : Addr) (vs : List V) : Prop := H a = some (.tup vs) ∧ a ∉ μ
mutual
inductive Rp (K : PySem.W.Frag) (μ : Mu) (H : Hp) : D → V → Prop
  | non : Rp K μ H .none .non
  | bl (b : Bool) : Rp K μ H (.bool b) (.bl b)
  | int (i : Int) : Rp K μ H (.int i) (.int i)
  | str (x : Str) : Rp K μ H (.str x) (.str x)
  | lst {a : Addr} {vs : List V} {xs : List D} : Lm K μ H a vs → RpL K μ H xs vs → Rp K μ H (.list xs) (.ref a)
  | tup {a : Addr} {vs : List V} {xs : List D} : Tm K μ H a vs → RpL K μ H xs vs → Rp K μ H (.tuple xs) (.ref a)
inductive RpL (K : PySem.W.Frag) (μ : Mu) (H : Hp) : List D → List V → Prop
  | nil : RpL K μ H [] []
  | cons {x : D} {xs : List D} {v : V} {vs : List V} : Rp K μ H x v → RpL K μ H xs vs → RpL K μ H (x :: xs) (v :: vs)
end
/-- no code object's table -/
abbrev NT (o : HO) : Prop := ∀ ps, o ≠ .tbl ps
/-- what changes from a state to a later one -/
structure Step (μ : Mu) (H : Hp) (μ' : Mu) (H' : Hp) : Prop where
  ext : ∃ ν : List Addr, μ' = ⟨μ.m ++ ν, μ.f⟩ ∧ ∀ a ∈ ν, a ∉ μ.m → ∀ o, H a = some o → ¬ NT o
  keep : ∀ a o, H a = some o → a ∉ μ.m → NT o → H' a = some o
section
variable {K : PySem.W.Frag} {μ μ' μ1 μ2 : Mu} {H H' H1 H2 : Hp} {a : Addr} {vs : List V} {xs : List D} {x : D} {v : V}
theorem Step.refl : Step μ H μ H := ⟨⟨[], by cases μ; simp, fun _ h => nomatch h⟩, fun _ _ h _ _ => h⟩
theorem Step.ninm (s : Step μ H μ' H') {o : HO} (h : H a = some o) (n : a ∉ μ.m) (nt : NT o := by intro ps z; cases z) : a ∉ μ'.m := by
  obtain ⟨ν, rfl, hν⟩ := s.ext
  intro q
  rcases List.mem_append.mp q with q | q
  · exact n q
  · exact hν a q n o h nt
theorem Step.nin (s : Step μ H μ' H') {o : HO} (h : H a = some o) (n : a ∉ μ) (nt : NT o := by intro ps z; cases z) : a ∉ μ' := by
  intro q
  rcases q with q | q
  · exact s.ninm h (fun z => n (.inl z)) nt q
  · obtain ⟨ν, rfl, _⟩ := s.ext
    exact n (.inr q)
theorem Step.trans (s : Step μ H μ1 H1) (t : Step μ1 H1 μ2 H2) : Step μ H μ2 H2 := by
  have s0 := s
  obtain ⟨ν1, rfl, h1⟩ := s.ext
  obtain ⟨ν2, rfl, h2⟩ := t.ext
  refine ⟨⟨ν1 ++ ν2, by rw [List.append_assoc], fun a ha n => ?_⟩, fun a o h n nt => t.keep a o (s.keep a o h n nt) (s0.ninm h n nt) nt⟩
  rcases List.mem_append.mp ha with q | q
  · exact h1 a q n
  · intro o e nt
    exact h2 a q (s0.ninm e n nt) o (s.keep a o e n nt) nt
theorem Step.keep' (s : Step μ H μ' H') {o : HO} (h : H a = some o) (n : a ∉ μ) (nt : NT o := by intro ps z; cases z) : H' a = some o := s.keep a o h (fun z => n (.inl z)) nt
/-- what stands outside stays, and stays outside -/
def Grow (μ : Mu) (H : Hp) (μ' : Mu) (H' : Hp) : Prop := ∀ a o, H a = some o → a ∉ μ → NT o → H' a = some o ∧ a ∉ μ'
theorem Step.grow (s : Step μ H μ' H') : Grow μ H μ' H' := fun _ _ h n nt => ⟨s.keep' h n nt, s.nin h n nt⟩
theorem Grow.refl : Grow μ H μ H := fun _ _ h n _ => ⟨h, n⟩
theorem Grow.trans (s : Grow μ H μ1 H1) (t : Grow μ1 H1 μ2 H2) : Grow μ H μ2 H2 := fun a o h n nt => t a o (s a o h n nt).1 (s a o h n nt).2 nt
theorem Lm.grow (s : Grow μ H μ' H') (h : Lm K μ H a vs) : Lm K μ' H' a vs := s a _ h.1 h.2 fun _ z => by cases z
theorem Tm.grow (s : Grow μ H μ' H') (h : Tm K μ H a vs) : Tm K μ' H' a vs := s a _ h.1 h.2 fun _ z => by cases z
theorem Lm.step (s : Step μ H μ' H') (h : Lm K μ H a vs) : Lm K μ' H' a vs := h.grow s.grow
theorem Tm.step (s : Step μ H μ' H') (h : Tm K μ H a vs) : Tm K μ' H' a vs := h.grow s.grow
theorem Lm.sq (h : Lm K μ H a vs) : SqL K H a vs := .inl (.inl h.1)
theorem Tm.sq (h : Tm K μ H a vs) : SqT K H a vs := .inl (.inl h.1)
mutual
theorem Rp.grow (s : Grow μ H μ' H') : ∀ {x : D} {v : V}, Rp K μ H x v → Rp K μ' H' x v
  | _, _, .non => .non
  | _, _, .bl b => .bl b
  | _, _, .int i => .int i
  | _, _, .str x => .str x
  | _, _, .lst h r => .lst (h.grow s) (RpL.grow s r)
  | _, _, .tup h r => .tup (h.grow s) (RpL.grow s r)
theorem RpL.grow (s : Grow μ H μ' H') : ∀ {xs : List D} {vs : List V}, RpL K μ H xs vs → RpL K μ' H' xs vs
  | _, _, .nil => .nil
  | _, _, .cons h r => .cons (Rp.grow s h) (RpL.grow s r)
end
theorem Rp.step (s : Step μ H μ' H') {x : D} {v : V} (h : Rp K μ H x v) : Rp K μ' H' x v := Rp.grow s.grow h
theorem RpL.step (s : Step μ H μ' H') {xs : List D} {vs : List V} (h : RpL K μ H xs vs) : RpL K μ' H' xs vs := RpL.grow s.grow h
theorem RpL.length : ∀ {xs : List D} {vs : List V}, RpL K μ H xs vs → xs.length = vs.length
  | _, _, .nil => rfl
  | _, _, .cons _ r => by rw [List.length_cons, List.length_cons, RpL.length r]
theorem RpL.get : ∀ {xs : List D} {vs : List V} {i : Nat} {x : D}, RpL K μ H xs vs → xs[i]? = some x → ∃ v, vs[i]? = some v ∧ Rp K μ H x v
  | _, _, _, _, .nil, e => by simp at e
  | _, _, 0, _, .cons h _, e => by simp at e; subst e; exact ⟨_, rfl, h⟩
  | _, _, i + 1, _, .cons _ r, e => by
    obtain ⟨v, h1, h2⟩ := RpL.get (i := i) r (by simpa using e)
    exact ⟨v, by simpa using h1, h2⟩
theorem RpL.get2 : ∀ {xs : List D} {vs : List V} {i : Nat} {v : V}, RpL K μ H xs vs → vs[i]? = some v → ∃ x, xs[i]? = some x ∧ Rp K μ H x v
  | _, _, _, _, .nil, e => by simp at e
  | _, _, 0, _, .cons h _, e => by simp at e; subst e; exact ⟨_, rfl, h⟩
  | _, _, i + 1, _, .cons _ r, e => by
    obtain ⟨v, h1, h2⟩ := RpL.get2 (i := i) r (by simpa using e)
    exact ⟨v, by simpa using h1, h2⟩
theorem RpL.append : ∀ {xs ys : List D} {vs ws : List V}, RpL K μ H xs vs → RpL K μ H ys ws → RpL K μ H (xs ++ ys) (vs ++ ws)
  | _, _, _, _, .nil, s => s
  | _, _, _, _, .cons h r, s => .cons h (RpL.append r s)
theorem RpL.tk : ∀ {xs : List D} {vs : List V} (n : Nat), RpL K μ H xs vs → RpL K μ H (xs.take n) (vs.take n)
  | _, _, 0, _ => .nil
  | _, _, _ + 1, .nil => .nil
  | _, _, n + 1, .cons h r => .cons h (RpL.tk n r)
theorem RpL.dp : ∀ {xs : List D} {vs : List V} (n : Nat), RpL K μ H xs vs → RpL K μ H (xs.drop n) (vs.drop n)
  | _, _, 0, r => r
  | _, _, _ + 1, .nil => .nil
  | _, _, n + 1, .cons _ r => RpL.dp n r
theorem RpL.rev {xs : List D} {vs : List V} (r : RpL K μ H xs vs) : RpL K μ H xs.reverse vs.reverse := by
  have go : ∀ {xs : List D} {vs : List V}, RpL K μ H xs vs → ∀ {ys : List D} {ws : List V}, RpL K μ H ys ws → RpL K μ H (xs.reverseAux ys) (vs.reverseAux ws) := by
    intro xs
    induction xs with
    | nil => intro vs h ys ws s; cases h; exact s
    | cons x xs ih => intro vs h ys ws s; cases h with | cons h1 h2 => exact ih h2 (.cons h1 s)
  exact go r .nil
theorem RpL.set {w : V} {y : D} (q : Rp K μ H y w) : ∀ {xs : List D} {vs : List V} (i : Nat), RpL K μ H xs vs → RpL K μ H (xs.set i y) (vs.set i w)
  | _, _, _, .nil => .nil
  | _, _, 0, .cons _ t => .cons q t
  | _, _, i + 1, .cons h t => .cons h (RpL.set q i t)
theorem RpL.ints : ∀ {ns : List Int} {vs : List V}, RpL K μ H (ns.map PyData.int) vs → vs = ns.map V.int
  | [], _, h => by cases h; rfl
  | n :: ns, _, h => by
    cases h with
    | cons h1 h2 =>
      cases h1
      rw [RpL.ints h2]; rfl
theorem RpL.bls : ∀ {ns : List Bool} {vs : List V}, RpL K μ H (ns.map PyData.bool) vs → vs = ns.map V.bl
  | [], _, h => by cases h; rfl
  | n :: ns, _, h => by
    cases h with
    | cons h1 h2 =>
      cases h1
      rw [RpL.bls h2]; rfl
theorem RpL.strs : ∀ {ns : List Str} {vs : List V}, RpL K μ H (ns.map PyData.str) vs → vs = ns.map V.str
  | [], _, h => by cases h; rfl
  | n :: ns, _, h => by
    cases h with
    | cons h1 h2 =>
      cases h1
      rw [RpL.strs h2]; rfl
theorem RpL.of_ints : ∀ (ns : List Int), RpL K μ H (ns.map PyData.int) (ns.map V.int)
  | [] => .nil
  | n :: ns => .cons (.int n) (RpL.of_ints ns)
theorem RpL.of_strs : ∀ (ns : List Str), RpL K μ H (ns.map PyData.str) (ns.map V.str)
  | [] => .nil
  | n :: ns => .cons (.str n) (RpL.of_strs ns)
/-- a write where no data stands -/
theorem Lm.at_ {p : Addr} {o : HO} (hp : p ∈ μ) (h : Lm K μ H a vs) : Lm K μ (upd H p o) a vs := ⟨by rw [upd_ne (show a ≠ p from fun z => h.2 (by rw [z]; exact hp))]; exact h.1, h.2⟩
theorem Tm.at_ {p : Addr} {o : HO} (hp : p ∈ μ) (h : Tm K μ H a vs) : Tm K μ (upd H p o) a vs := ⟨by rw [upd_ne (show a ≠ p from fun z => h.2 (by rw [z]; exact hp))]; exact h.1, h.2⟩
mutual
theorem Rp.at_ {p : Addr} {o : HO} (hp : p ∈ μ) : ∀ {x : D} {v : V}, Rp K μ H x v → Rp K μ (upd H p o) x v
  | _, _, .non => .non
  | _, _, .bl b => .bl b
  | _, _, .int i => .int i
  | _, _, .str x => .str x
  | _, _, .lst h r => .lst (h.at_ hp) (RpL.at_ hp r)
  | _, _, .tup h r => .tup (h.at_ hp) (RpL.at_ hp r)
theorem RpL.at_ {p : Addr} {o : HO} (hp : p ∈ μ) : ∀ {xs : List D} {vs : List V}, RpL K μ H xs vs → RpL K μ (upd H p o) xs vs
  | _, _, .nil => .nil
  | _, _, .cons h r => .cons (Rp.at_ hp h) (RpL.at_ hp r)
end
mutual
theorem Rp.plain : ∀ {x : D} {v : V}, Rp K μ H x v → x.plain = true
  | _, _, .non => rfl
  | _, _, .bl b => rfl
  | _, _, .int i => rfl
  | _, _, .str x => rfl
  | _, _, .lst _ r => RpL.plain r
  | _, _, .tup _ r => RpL.plain r
theorem RpL.plain : ∀ {xs : List D} {vs : List V}, RpL K μ H xs vs → PyData.plainAll xs = true
  | _, _, .nil => rfl
  | _, _, .cons h r => by show (_ && _) = true; rw [Rp.plain h, RpL.plain r]; rfl
theorem Rp.dp : ∀ {x : D} {v : V}, Rp K μ H x v → Dp K H v x
  | _, _, .non => .non
  | _, _, .bl b => .bl b
  | _, _, .int i => .int i
  | _, _, .str x => .str x
  | _, _, .lst h r => .lst h.sq (RpL.dpa r)
  | _, _, .tup h r => .tup h.sq (RpL.dpa r)
theorem RpL.dpa : ∀ {xs : List D} {vs : List V}, RpL K μ H xs vs → DpAll K H vs xs
  | _, _, .nil => .nil
  | _, _, .cons h r => .cons (Rp.dp h) (RpL.dpa r)
end
end
/-! ### the store, values, slots -/
/-- the script -/
def Sc (K : PySem.W.Frag) (μ : Mu) (H : Hp) (a : Addr) (ns : List Int) : Prop := ((∃ u, H a = some u ∧ (u = .lst (ns.map V.int) ∨ ∃ o, u = .frz o (.lst (ns.map V.int)))) ∧ a ∉ μ) ∨ SqL K (fun _ => none) a (ns.map V.int)
theorem Sc.step {K : PySem.W.Frag} {μ μ' : Mu} {H H' : Hp} {a : Addr} {ns : List Int} (s : Step μ H μ' H') (h : Sc K μ H a ns) : Sc K μ' H' a ns := by
  rcases h with ⟨⟨u, h, e⟩, n⟩ | h
  · have nt : NT u := fun ps z => by
      rcases e with e | ⟨o, e⟩
      · rw [e] at z; cases z
      · rw [e] at z; cases z
    exact .inl ⟨⟨u, s.keep' h n nt, e⟩, s.nin h n nt⟩
  · exact .inr h
theorem Sc.sq {K : PySem.W.Frag} {μ : Mu} {H : Hp} {a : Addr} {ns : List Int} (h : Sc K μ H a ns) : SqL K H a (ns.map V.int) := by
  rcases h with ⟨⟨u, h, e⟩, n⟩ | h
  · rcases e with e | ⟨o, e⟩
    · subst e; exact .inl (.inl h)
    · subst e; exact .inl (.inr ⟨o, h⟩)
  · rcases h with (h | ⟨o, h⟩) | h
    · cases h
    · cases h
    · exact .inr h
/-- the table of a def's code object -/
def TabM (μ : Mu) (H : Hp) (P : Addr) (q : Str) : Prop := ∃ ps : Array Value, H P = some (.tbl ps) ∧ TriplesOk ps.toList ∧ ∀ (pos : Pos) (cv : Value), codeAmong pos ps.toList = some cv → ∃ c, cv = .ref c ∧ H c = some (LamX.CodeO c q) ∧ c ∉ μ
theorem TabM.tabS {μ : Mu} {H : Hp} {P : Addr} {q : Str} (h : TabM μ H P q) : LamX.TabS H P q := by
  obtain ⟨ps, h1, h2, h3⟩ := h
  refine ⟨ps, h1, h2, fun pos cv e => ?_⟩
  obtain ⟨c, e1, e2, _⟩ := h3 pos cv e
  exact ⟨c, e1, e2⟩
/-- a dict's entries, by text keys -/
def kz (ks : List Str) (vs : List V) : List (Key × V) := (ks.map Sum.inr).zip vs
def RV (K : PySem.W.Frag) (μ : Mu) (H : Hp) : Vl → V → Prop
  | .d x, v => Rp K μ H x v
  | .r n, v => ∃ a, μ.m[n]? = some a ∧ v = .ref a
  | .s ns, v => ∃ a, v = .ref a ∧ Sc K μ H a ns
  | .f x, v => v = .ref (He.ga K x)
inductive RVL (K : PySem.W.Frag) (μ : Mu) (H : Hp) : List Vl → List V → Prop
  | nil : RVL K μ H [] []
  | cons {x : Vl} {xs : List Vl} {v : V} {vs : List V} : RV K μ H x v → RVL K μ H xs vs → RVL K μ H (x :: xs) (v :: vs)
/-- the store's indices go on -/
def Ix (μ μ' : Mu) : Prop := ∀ (n : Nat) (a : Addr), μ.m[n]? = some a → μ'.m[n]? = some a
theorem Ix.refl {μ : Mu} : Ix μ μ := fun _ _ h => h
theorem Step.ix {μ μ' : Mu} {H H' : Hp} (s : Step μ H μ' H') : Ix μ μ' := fun n a h => by
  obtain ⟨ν, rfl, _⟩ := s.ext
  show (μ.m ++ ν)[n]? = some a
  rw [List.getElem?_append_left (List.getElem?_eq_some_iff.mp h).1]
  exact h
theorem RV.grow {K : PySem.W.Frag} {μ μ' : Mu} {H H' : Hp} (g : Grow μ H μ' H') (ix : Ix μ μ') {x : Vl} {v : V} (h : RV K μ H x v) : RV K μ' H' x v := by
  cases x with
  | d x => exact Rp.grow g h
  | r n =>
    obtain ⟨a, h1, h2⟩ := h
    exact ⟨a, ix n a h1, h2⟩
  | s ns =>
    obtain ⟨a, h1, h2⟩ := h
    refine ⟨a, h1, ?_⟩
    rcases h2 with ⟨⟨u, q, e⟩, n⟩ | q
    · have nt : NT u := fun ps z => by
        rcases e with e | ⟨o, e⟩
        · rw [e] at z; cases z
        · rw [e] at z; cases z
      obtain ⟨q1, q2⟩ := g a u q n nt
      exact .inl ⟨⟨u, q1, e⟩, q2⟩
    · exact .inr q
  | f x => exact h
theorem RVL.grow {K : PySem.W.Frag} {μ μ' : Mu} {H H' : Hp} (g : Grow μ H μ' H') (ix : Ix μ μ') : ∀ {xs : List Vl} {vs : List V}, RVL K μ H xs vs → RVL K μ' H' xs vs
  | _, _, .nil => .nil
  | _, _, .cons h r => .cons (h.grow g ix) (RVL.grow g ix r)
def fkeys {α : Type} (fs : List (Str × α)) : List Str := fs.map (·.1)
def fvals {α : Type} (fs : List (Str × α)) : List α := fs.map (·.2)
def RO (K : PySem.W.Frag) (μ : Mu) (H : Hp) (a : Addr) : Ob → Prop
  | .lst xs => ∃ vs, H a = some (.lst vs) ∧ RpL K μ H xs vs
  | .tab p q => a = (He.cT K p).2 ∧ TabM μ H a q
  | .dct ks xs => ∃ vs, H a = some (.dK (kz ks vs)) ∧ RpL K μ H xs vs
  | .ins cn fs => ∃ dx gs, H a = some (.ins (He.ga K cn) dx gs) ∧ fkeys gs = fkeys fs ∧ RVL K μ H (fvals fs) (fvals gs)
  | .mix t xs => ∃ vs, H a = some (cond t (.tup vs) (.lst vs)) ∧ RVL K μ H xs vs
  | .dcm ks xs => ∃ vs, H a = some (.dK (kz ks vs)) ∧ RVL K μ H xs vs
  | .exv cn fs => (fs = [] ∧ H a = some (ExO (.ref (He.ga K cn)) a)) ∨ ∃ dx gs, H a = some (exo a (He.ga K cn) (some dx)) ∧ (H dx = some (exd dx gs) ∧ dx ∉ μ) ∧ fkeys gs = fkeys fs ∧ RpL K μ H (fvals fs) (fvals gs)
theorem exo_nt {e C : Addr} {d : Option Addr} : NT (exo e C d) := fun ps z => by
  have z' : HO.ext _ = HO.tbl ps := z
  cases z'
theorem exd_nt {dx : Addr} {fs : List (Str × V)} : NT (exd dx fs) := fun ps z => by
  have z' : HO.ext _ = HO.tbl ps := z
  cases z'
theorem exO_nt {c : Value} {a : Addr} : NT (ExO c a) := fun ps z => by
  have z' : HO.ext _ = HO.tbl ps := z
  cases z'
/-- an object that stands stays what it is -/
theorem RO.move {K : PySem.W.Frag} {μ μ' : Mu} {H H' : Hp} {a : Addr} (g : Grow μ H μ' H') (ix : Ix μ μ') (e : H' a = H a) : ∀ {o : Ob}, RO K μ H a o → RO K μ' H' a o
  | .lst xs, ⟨vs, h, r⟩ => ⟨vs, e.trans h, RpL.grow g r⟩
  | .dct ks xs, ⟨vs, h, r⟩ => ⟨vs, e.trans h, RpL.grow g r⟩
  | .tab p q, ⟨h0, ps, h1, h2, h3⟩ => ⟨h0, ps, e.trans h1, h2, fun pos cv z => by
    obtain ⟨c, e1, e2, e3⟩ := h3 pos cv z
    obtain ⟨a1, a2⟩ := g c _ e2 e3 fun _ z => by unfold LamX.CodeO at z; cases z
    exact ⟨c, e1, a1, a2⟩⟩
  | .ins cn fs, ⟨dx, gs, h, hk, r⟩ => ⟨dx, gs, e.trans h, hk, r.grow g ix⟩
  | .mix t xs, ⟨vs, h, r⟩ => ⟨vs, e.trans h, r.grow g ix⟩
  | .dcm ks xs, ⟨vs, h, r⟩ => ⟨vs, e.trans h, r.grow g ix⟩
  | .exv cn fs, .inl ⟨h0, h⟩ => .inl ⟨h0, e.trans h⟩
  | .exv cn fs, .inr ⟨dx, gs, h, hd, hk, r⟩ => .inr ⟨dx, gs, e.trans h, g dx _ hd.1 hd.2 exd_nt, hk, RpL.grow g r⟩
theorem RO.there {K : PySem.W.Frag} {μ : Mu} {H : Hp} {a : Addr} : ∀ {o : Ob}, RO K μ H a o → ∃ u, H a = some u
  | .lst xs, ⟨vs, h, r⟩ => ⟨_, h⟩
  | .dct ks xs, ⟨vs, h, r⟩ => ⟨_, h⟩
  | .tab p q, ⟨_, ps, h1, _⟩ => ⟨_, h1⟩
  | .ins cn fs, ⟨dx, gs, h, hk, r⟩ => ⟨_, h⟩
  | .mix t xs, ⟨vs, h, r⟩ => ⟨_, h⟩
  | .dcm ks xs, ⟨vs, h, r⟩ => ⟨_, h⟩
  | .exv cn fs, .inl ⟨h0, h⟩ => ⟨_, h⟩
  | .exv cn fs, .inr ⟨dx, gs, h, _⟩ => ⟨_, h⟩
structure RepS (K : PySem.W.Frag) (μ : Mu) (H : Hp) (st : Store) : Prop where
  len : μ.m.length = st.length
  nd : μ.m.Nodup
  ob : ∀ (n : Nat) (a : Addr) (o : Ob), μ.m[n]? = some a → st[n]? = some o → RO K μ H a o
  fx : ∀ a ∈ μ.f, a ∉ μ.m ∧ ∃ vs : List V, H a = some (.lst vs)
structure RE (K : PySem.W.Frag) (μ : Mu) (H : Hp) (δ : DEnv) (σ : St) : Prop where
  len : δ.length = σ.length
  at_ : ∀ (i : Nat) (x : Vl), δ[i]? = some (some x) → ∃ v, σ[i]? = some (some v) ∧ RV K μ H x v
def RX (K : PySem.W.Frag) (mg : Str → Option Value) (μ : Mu) (H : Hp) (e : Ex) (c : Value) (dd : Option Addr) : Prop :=
  mg e.cn = some c ∧ match e.fs with
    | [] => dd = none
    | fs => ∃ d vs, dd = some d ∧ H d = some (.xd vs) ∧ ∀ f x, fs.lookup f = some x → ∃ v, vs.lookup f = some v ∧ Rp K μ H x v
section
variable {K : PySem.W.Frag} {μ μ' : Mu} {H H' : Hp} {x : Vl} {v : V} {st : Store} {δ : DEnv} {σ : St} {a : Addr}
theorem RV.step (s : Step μ H μ' H') (h : RV K μ H x v) : RV K μ' H' x v := h.grow s.grow s.ix
theorem RVL.step (s : Step μ H μ' H') : ∀ {xs : List Vl} {vs : List V}, RVL K μ H xs vs → RVL K μ' H' xs vs
  | _, _, .nil => .nil
  | _, _, .cons h r => .cons (h.step s) (RVL.step s r)
theorem RVL.length : ∀ {xs : List Vl} {vs : List V}, RVL K μ H xs vs → xs.length = vs.length
  | _, _, .nil => rfl
  | _, _, .cons _ r => by rw [List.length_cons, List.length_cons, RVL.length r]
theorem RVL.append : ∀ {xs ys : List Vl} {vs ws : List V}, RVL K μ H xs vs → RVL K μ H ys ws → RVL K μ H (xs ++ ys) (vs ++ ws)
  | _, _, _, _, .nil, s => s
  | _, _, _, _, .cons h r, s => .cons h (RVL.append r s)
theorem RVL.get : ∀ {xs : List Vl} {vs : List V} {i : Nat} {x : Vl}, RVL K μ H xs vs → xs[i]? = some x → ∃ v, vs[i]? = some v ∧ RV K μ H x v
  | _, _, _, _, .nil, e => by simp at e
  | _, _, 0, _, .cons h _, e => by simp at e; subst e; exact ⟨_, rfl, h⟩
  | _, _, i + 1, _, .cons _ r, e => by
    obtain ⟨v, h1, h2⟩ := RVL.get (i := i) r (by simpa using e)
    exact ⟨v, by simpa using h1, h2⟩
theorem RE.step (s : Step μ H μ' H') (h : RE K μ H δ σ) : RE K μ' H' δ σ := ⟨h.len, fun i x e => by
  obtain ⟨v, h1, h2⟩ := h.at_ i x e
  exact ⟨v, h1, h2.step s⟩⟩
theorem RE.set {x : Vl} {v : V} (h : RE K μ H δ σ) (i : Nat) (r : RV K μ H x v) : RE K μ H (δ.set i (some x)) (σ.set i (some v)) := by
  refine ⟨by rw [List.length_set, List.length_set]; exact h.len, fun j y e => ?_⟩
  by_cases hj : i = j
  · subst hj
    have hi : i < δ.length := by
      have := (List.getElem?_eq_some_iff.mp e).1
      simpa using this
    rw [List.getElem?_set_self hi] at e
    cases e
    exact ⟨v, List.getElem?_set_self (by rw [← h.len]; exact hi), r⟩
  · rw [List.getElem?_set_ne hj] at e ⊢
    exact h.at_ j y e
theorem RE.setNone (h : RE K μ H δ σ) (i : Nat) : RE K μ H (δ.set i none) (σ.set i none) := by
  refine ⟨by rw [List.length_set, List.length_set]; exact h.len, fun j y e => ?_⟩
  by_cases hj : i = j
  · subst hj
    have hi : i < δ.length := by
      have := (List.getElem?_eq_some_iff.mp e).1
      simpa using this
    rw [List.getElem?_set_self hi] at e
    cases e
  · rw [List.getElem?_set_ne hj] at e ⊢
    exact h.at_ j y e
def dwipe (δ : DEnv) : List Nat → DEnv
  | [] => δ
  | v :: vs => (dwipe δ vs).set v none
theorem RE.wipe (h : RE K μ H δ σ) : ∀ vs : List Nat, RE K μ H (dwipe δ vs) (L2.wipe σ vs)
  | [] => h
  | v :: vs => (RE.wipe h vs).setNone v
theorem RepS.some (S : RepS K μ H st) (h : a ∈ μ.m) : ∃ u, H a = Option.some u := by
  obtain ⟨n, hn, e⟩ := List.getElem_of_mem h
  have hn' : n < st.length := by rw [← S.len]; exact hn
  have := S.ob n a st[n] (by rw [List.getElem?_eq_some_iff]; exact ⟨hn, e⟩) (by simp [hn'])
  exact this.there
theorem RepS.nin (S : RepS K μ H st) {p : Addr} (h : H p = none) : p ∉ μ := fun z => by
  rcases z with z | z
  · obtain ⟨xs, e⟩ := S.some z
    rw [h] at e; cases e
  · obtain ⟨_, o, e⟩ := S.fx p z
    rw [h] at e; cases e
/-- the mutable lists stand, the rest is kept -/
theorem RepS.keep (S : RepS K μ H st) (s : Step μ H μ H') (h : ∀ a ∈ μ, H' a = H a) : RepS K μ H' st := by
  refine ⟨S.len, S.nd, fun n a o h1 h2 => ?_, fun a ha => ⟨(S.fx a ha).1, by rw [h a (.inr ha)]; exact (S.fx a ha).2⟩⟩
  exact (S.ob n a o h1 h2).move s.grow s.ix (h a (.inl (List.mem_of_getElem? h1)))
theorem step_new {p : Addr} {o : HO} (h : H p = none) : Step μ H μ (upd H p o) := ⟨⟨[], by cases μ; simp, fun _ z => nomatch z⟩, fun a o' e _ _ => by
  rw [upd_ne (ne_of_none e h)]; exact e⟩
theorem RepS.new {p : Addr} {o : HO} (S : RepS K μ H st) (h : H p = none) : RepS K μ (upd H p o) st :=
  S.keep (step_new h) fun a ha => upd_ne fun z => S.nin h (z ▸ ha)
/-- a new mutable list -/
theorem RepS.push {p : Addr} {vs : List V} {xs : List D} (S : RepS K μ H st) (h : H p = none) (r : RpL K μ H xs vs) :
    Step μ H (μ.push p) (upd H p (.lst vs)) ∧ RepS K (μ.push p) (upd H p (.lst vs)) (st ++ [.lst xs]) := by
  have hn : p ∉ μ := S.nin h
  have s : Step μ H (μ.push p) (upd H p (.lst vs)) := ⟨⟨[p], rfl, fun a ha _ o e _ => by
    have : a = p := by simpa using ha
    rw [this, h] at e; cases e⟩, fun a o' e _ _ => by rw [upd_ne (ne_of_none e h)]; exact e⟩
  refine ⟨s, ⟨by show (μ.m ++ [p]).length = _; rw [List.length_append, List.length_append, S.len]; rfl, ?_, fun n a o h1 h2 => ?_, fun a ha => ?_⟩⟩
  · show (μ.m ++ [p]).Nodup
    rw [List.nodup_append]
    refine ⟨S.nd, by simp, fun a ha b hb => ?_⟩
    have : b = p := by simpa using hb
    subst this
    exact fun z => hn (.inl (z ▸ ha))
  · have h1 : (μ.m ++ [p])[n]? = Option.some a := h1
    by_cases hn : n < μ.m.length
    · rw [List.getElem?_append_left hn] at h1
      rw [List.getElem?_append_left (by rw [← S.len]; exact hn)] at h2
      have q := S.ob n a o h1 h2
      obtain ⟨u, e⟩ := q.there
      exact q.move s.grow s.ix (upd_ne (ne_of_none e h))
    · have hn1 := (List.getElem?_eq_some_iff.mp h1).1
      rw [List.length_append, List.length_singleton] at hn1
      have en : n = μ.m.length := by omega
      subst en
      rw [List.getElem?_append_right (Nat.le_refl _), Nat.sub_self] at h1
      rw [S.len, List.getElem?_append_right (Nat.le_refl _), Nat.sub_self] at h2
      cases h1
      cases h2
      exact ⟨vs, upd_same, r.step s⟩
  · obtain ⟨f1, o, f2⟩ := S.fx a ha
    have ne : a ≠ p := ne_of_none f2 h
    exact ⟨fun z => by
      rcases List.mem_append.mp z with z | z
      · exact f1 z
      · exact ne (by simpa using z), o, by rw [upd_ne ne]; exact f2⟩
theorem nodup_ixA {l : List Addr} (hN : l.Nodup) {i j : Nat} {x : Addr} (a : l[i]? = Option.some x) (b : l[j]? = Option.some x) : i = j := by
  obtain ⟨h1, e1⟩ := List.getElem?_eq_some_iff.mp a
  obtain ⟨h2, e2⟩ := List.getElem?_eq_some_iff.mp b
  exact (List.getElem_inj hN).mp (e1.trans e2.symm)
/-- a mutable list is rewritten -/
theorem RepS.write {n : Nat} {vs : List V} {xs : List D} (S : RepS K μ H st) (h : μ.m[n]? = Option.some a) (r : RpL K μ H xs vs) :
    Step μ H μ (upd H a (.lst vs)) ∧ RepS K μ (upd H a (.lst vs)) (st.set n (.lst xs)) := by
  have s : Step μ H μ (upd H a (.lst vs)) := ⟨⟨[], by cases μ; simp, fun _ z => nomatch z⟩, fun b o' e hb _ => by
    rw [upd_ne fun z => hb (by rw [z]; exact List.mem_of_getElem? h)]; exact e⟩
  refine ⟨s, ⟨by rw [List.length_set]; exact S.len, S.nd, fun j b o h1 h2 => ?_, fun b hb => ?_⟩⟩
  · by_cases hj : n = j
    · subst hj
      rw [h] at h1; cases h1
      rw [List.getElem?_set_self (by rw [← S.len]; exact (List.getElem?_eq_some_iff.mp h).1)] at h2
      cases h2
      exact ⟨vs, upd_same, r.step s⟩
    · rw [List.getElem?_set_ne hj] at h2
      have q := S.ob j b o h1 h2
      have hb : b ≠ a := fun z => hj (nodup_ixA S.nd h (z ▸ h1))
      exact q.move s.grow s.ix (upd_ne hb)
  · obtain ⟨f1, o, f2⟩ := S.fx b hb
    exact ⟨f1, o, by rw [upd_ne fun z => f1 (by rw [z]; exact List.mem_of_getElem? h)]; exact f2⟩
theorem RepS.pushO {p : Addr} {u : HO} {ob : Ob} (S : RepS K μ H st) (h : H p = none) (r : Step μ H (μ.push p) (upd H p u) → RO K (μ.push p) (upd H p u) p ob) :
    Step μ H (μ.push p) (upd H p u) ∧ RepS K (μ.push p) (upd H p u) (st ++ [ob]) := by
  have hn : p ∉ μ := S.nin h
  have s : Step μ H (μ.push p) (upd H p u) := ⟨⟨[p], rfl, fun a ha _ o e _ => by
    have : a = p := by simpa using ha
    rw [this, h] at e; cases e⟩, fun a o' e _ _ => by rw [upd_ne (ne_of_none e h)]; exact e⟩
  refine ⟨s, ⟨by show (μ.m ++ [p]).length = _; rw [List.length_append, List.length_append, S.len]; rfl, ?_, fun n a o h1 h2 => ?_, fun a ha => ?_⟩⟩
  · show (μ.m ++ [p]).Nodup
    rw [List.nodup_append]
    refine ⟨S.nd, by simp, fun a ha b hb => ?_⟩
    have : b = p := by simpa using hb
    subst this
    exact fun z => hn (.inl (z ▸ ha))
  · have h1 : (μ.m ++ [p])[n]? = Option.some a := h1
    by_cases hn : n < μ.m.length
    · rw [List.getElem?_append_left hn] at h1
      rw [List.getElem?_append_left (by rw [← S.len]; exact hn)] at h2
      have q := S.ob n a o h1 h2
      obtain ⟨u, e⟩ := q.there
      exact q.move s.grow s.ix (upd_ne (ne_of_none e h))
    · have hn1 := (List.getElem?_eq_some_iff.mp h1).1
      rw [List.length_append, List.length_singleton] at hn1
      have en : n = μ.m.length := by omega
      subst en
      rw [List.getElem?_append_right (Nat.le_refl _), Nat.sub_self] at h1
      rw [S.len, List.getElem?_append_right (Nat.le_refl _), Nat.sub_self] at h2
      cases h1
      cases h2
      exact r s
  · obtain ⟨f1, o, f2⟩ := S.fx a ha
    have ne : a ≠ p := ne_of_none f2 h
    exact ⟨fun z => by
      rcases List.mem_append.mp z with z | z
      · exact f1 z
      · exact ne (by simpa using z), o, by rw [upd_ne ne]; exact f2⟩
theorem RepS.writeO {n : Nat} {u : HO} {ob : Ob} (S : RepS K μ H st) (h : μ.m[n]? = Option.some a) (r : Step μ H μ (upd H a u) → RO K μ (upd H a u) a ob) :
    Step μ H μ (upd H a u) ∧ RepS K μ (upd H a u) (st.set n ob) := by
  have s : Step μ H μ (upd H a u) := ⟨⟨[], by cases μ; simp, fun _ z => nomatch z⟩, fun b o' e hb _ => by
    rw [upd_ne fun z => hb (by rw [z]; exact List.mem_of_getElem? h)]; exact e⟩
  refine ⟨s, ⟨by rw [List.length_set]; exact S.len, S.nd, fun j b o h1 h2 => ?_, fun b hb => ?_⟩⟩
  · by_cases hj : n = j
    · subst hj
      rw [h] at h1; cases h1
      rw [List.getElem?_set_self (by rw [← S.len]; exact (List.getElem?_eq_some_iff.mp h).1)] at h2
      cases h2
      exact r s
    · rw [List.getElem?_set_ne hj] at h2
      have q := S.ob j b o h1 h2
      have hb : b ≠ a := fun z => hj (nodup_ixA S.nd h (z ▸ h1))
      exact q.move s.grow s.ix (upd_ne hb)
  · obtain ⟨f1, o, f2⟩ := S.fx b hb
    exact ⟨f1, o, by rw [upd_ne fun z => f1 (by rw [z]; exact List.mem_of_getElem? h)]; exact f2⟩
/-! a list that is being made stands at p: no data stands there -/
theorem Out.add {p : Addr} {o : HO} (h : H p = none) (e : H a = Option.some o) (n : a ∉ μ) : a ∉ μ.add p := fun z => by
  rcases z with z | z
  · exact n (.inl z)
  · rcases List.mem_cons.mp z with z | z
    · rw [z, h] at e; cases e
    · exact n (.inr z)
theorem grow_add {p : Addr} (h : H p = none) : Grow μ H (μ.add p) H := fun a o e n _ => ⟨e, Out.add h e n⟩
theorem Rp.add {p : Addr} (h : H p = none) {x : D} {v : V} (r : Rp K μ H x v) : Rp K (μ.add p) H x v := Rp.grow (grow_add h) r
theorem RpL.add {p : Addr} (h : H p = none) {xs : List D} {vs : List V} (r : RpL K μ H xs vs) : RpL K (μ.add p) H xs vs := RpL.grow (grow_add h) r
mutual
theorem Rp.unadd {p : Addr} : ∀ {x : D} {v : V}, Rp K (μ.add p) H x v → Rp K μ H x v
  | _, _, .non => .non
  | _, _, .bl b => .bl b
  | _, _, .int i => .int i
  | _, _, .str x => .str x
  | _, _, .lst q r => .lst ⟨q.1, fun z => q.2 (z.imp id (List.mem_cons_of_mem _))⟩ (RpL.unadd r)
  | _, _, .tup q r => .tup ⟨q.1, fun z => q.2 (z.imp id (List.mem_cons_of_mem _))⟩ (RpL.unadd r)
theorem RpL.unadd {p : Addr} : ∀ {xs : List D} {vs : List V}, RpL K (μ.add p) H xs vs → RpL K μ H xs vs
  | _, _, .nil => .nil
  | _, _, .cons q r => .cons (Rp.unadd q) (RpL.unadd r)
end
theorem RV.add {p : Addr} (h : H p = none) (r : RV K μ H x v) : RV K (μ.add p) H x v := r.grow (grow_add h) fun _ _ h => h
theorem Sc.unadd {p : Addr} {ns : List Int} (h : Sc K (μ.add p) H a ns) : Sc K μ H a ns := h.imp (fun q => ⟨q.1, fun z => q.2 (z.imp id (List.mem_cons_of_mem _))⟩) id
theorem RV.unadd {p : Addr} {x : Vl} {v : V} (r : RV K (μ.add p) H x v) : RV K μ H x v := by
  cases x with
  | d x => exact Rp.unadd r
  | r n => exact r
  | s ns =>
    obtain ⟨a, h1, h2⟩ := r
    exact ⟨a, h1, h2.unadd⟩
  | f x => exact r
theorem RVL.unadd {p : Addr} : ∀ {xs : List Vl} {vs : List V}, RVL K (μ.add p) H xs vs → RVL K μ H xs vs
  | _, _, .nil => .nil
  | _, _, .cons q r => .cons q.unadd (RVL.unadd r)
theorem Sc.at_ {p : Addr} {o : HO} {ns : List Int} (hp : p ∈ μ) (h : Sc K μ H a ns) : Sc K μ (upd H p o) a ns := by
  rcases h with ⟨⟨u, h, e⟩, n⟩ | h
  · exact .inl ⟨⟨u, by rw [upd_ne (show a ≠ p from fun z => n (by rw [z]; exact hp))]; exact h, e⟩, n⟩
  · exact .inr h
theorem RV.at_ {p : Addr} {o : HO} (hp : p ∈ μ) {x : Vl} {v : V} (r : RV K μ H x v) : RV K μ (upd H p o) x v := by
  cases x with
  | d x => exact Rp.at_ hp r
  | r n => exact r
  | s ns =>
    obtain ⟨a, h1, h2⟩ := r
    exact ⟨a, h1, h2.at_ hp⟩
  | f x => exact r
theorem RVL.at_ {p : Addr} {o : HO} (hp : p ∈ μ) : ∀ {xs : List Vl} {vs : List V}, RVL K μ H xs vs → RVL K μ (upd H p o) xs vs
  | _, _, .nil => .nil
  | _, _, .cons q r => .cons (q.at_ hp) (RVL.at_ hp r)
theorem RE.add {p : Addr} (h : H p = none) (r : RE K μ H δ σ) : RE K (μ.add p) H δ σ := ⟨r.len, fun i x e => by
  obtain ⟨v, h1, h2⟩ := r.at_ i x e
  exact ⟨v, h1, h2.add h⟩⟩
theorem RepS.add {p : Addr} {o : List V} (S : RepS K μ H st) (h : H p = none) : RepS K (μ.add p) (upd H p (.lst o)) st := by
  have s : Step (μ.add p) H (μ.add p) (upd H p (.lst o)) := step_new h
  refine ⟨S.len, S.nd, fun n a ob h1 h2 => ?_, fun a ha => ?_⟩
  · have q := S.ob n a ob h1 h2
    obtain ⟨u, e⟩ := q.there
    exact q.move ((grow_add h).trans s.grow) (fun _ _ h => h) (upd_ne (ne_of_none e h))
  · rcases List.mem_cons.mp ha with z | z
    · subst z
      exact ⟨fun q => S.nin h (.inl q), o, upd_same⟩
    · obtain ⟨f1, o', f2⟩ := S.fx a z
      exact ⟨f1, o', by rw [upd_ne (ne_of_none f2 h)]; exact f2⟩
theorem RO.unadd {p : Addr} : ∀ {ob : Ob}, RO K (μ.add p) H a ob → RO K μ H a ob
  | .lst xs, ⟨vs, h, r⟩ => ⟨vs, h, r.unadd⟩
  | .dct ks xs, ⟨vs, h, r⟩ => ⟨vs, h, r.unadd⟩
  | .tab t t2, ⟨e0, ps, e1, e2, e3⟩ => ⟨e0, ps, e1, e2, fun pos cv z => by
    obtain ⟨c, g1, g2, g3⟩ := e3 pos cv z
    exact ⟨c, g1, g2, fun z => g3 (z.imp id (List.mem_cons_of_mem _))⟩⟩
  | .ins cn fs, ⟨dx, gs, h, hk, r⟩ => ⟨dx, gs, h, hk, r.unadd⟩
  | .mix t xs, ⟨vs, h, r⟩ => ⟨vs, h, r.unadd⟩
  | .dcm ks xs, ⟨vs, h, r⟩ => ⟨vs, h, r.unadd⟩
  | .exv cn fs, .inl h => .inl h
  | .exv cn fs, .inr ⟨dx, gs, h, hd, hk, r⟩ => .inr ⟨dx, gs, h, ⟨hd.1, fun z => hd.2 (z.imp id (List.mem_cons_of_mem _))⟩, hk, r.unadd⟩
theorem RO.at_ {p : Addr} {o : HO} (hp : p ∈ μ) (ne : a ≠ p) : ∀ {ob : Ob}, RO K μ H a ob → RO K μ (upd H p o) a ob
  | .lst xs, ⟨vs, h, r⟩ => ⟨vs, by rw [upd_ne ne]; exact h, RpL.at_ hp r⟩
  | .dct ks xs, ⟨vs, h, r⟩ => ⟨vs, by rw [upd_ne ne]; exact h, RpL.at_ hp r⟩
  | .tab t t2, ⟨e0, ps, e1, e2, e3⟩ => ⟨e0, ps, by rw [upd_ne ne]; exact e1, e2, fun pos cv z => by
    obtain ⟨c, g1, g2, g3⟩ := e3 pos cv z
    exact ⟨c, g1, by rw [upd_ne fun z => g3 (by rw [z]; exact hp)]; exact g2, g3⟩⟩
  | .ins cn fs, ⟨dx, gs, h, hk, r⟩ => ⟨dx, gs, by rw [upd_ne ne]; exact h, hk, RVL.at_ hp r⟩
  | .mix t xs, ⟨vs, h, r⟩ => ⟨vs, by rw [upd_ne ne]; exact h, RVL.at_ hp r⟩
  | .dcm ks xs, ⟨vs, h, r⟩ => ⟨vs, by rw [upd_ne ne]; exact h, RVL.at_ hp r⟩
  | .exv cn fs, .inl ⟨h0, h⟩ => .inl ⟨h0, by rw [upd_ne ne]; exact h⟩
  | .exv cn fs, .inr ⟨dx, gs, h, hd, hk, r⟩ => .inr ⟨dx, gs, by rw [upd_ne ne]; exact h, ⟨by rw [upd_ne (show dx ≠ p from fun z => hd.2 (by rw [z]; exact hp))]; exact hd.1, hd.2⟩, hk, RpL.at_ hp r⟩
theorem RepS.unadd {p : Addr} (S : RepS K (μ.add p) H st) : RepS K μ H st :=
  ⟨S.len, S.nd, fun n a ob h1 h2 => (S.ob n a ob h1 h2).unadd, fun a ha => S.fx a (List.mem_cons_of_mem _ ha)⟩
/-- the list at p grows -/
theorem RepS.grow {p : Addr} {o : List V} (S : RepS K (μ.add p) H st) : RepS K (μ.add p) (upd H p (.lst o)) st := by
  refine ⟨S.len, S.nd, fun n a ob h1 h2 => ?_, fun a ha => ?_⟩
  · have q := S.ob n a ob h1 h2
    have ne : a ≠ p := fun z => (S.fx p List.mem_cons_self).1 (z ▸ List.mem_of_getElem? h1)
    exact q.at_ (.inr List.mem_cons_self) ne
  · by_cases z : a = p
    · subst z
      exact ⟨(S.fx a ha).1, o, upd_same⟩
    · obtain ⟨f1, o', f2⟩ := S.fx a ha
      exact ⟨f1, o', by rw [upd_ne z]; exact f2⟩
end
/-! ### what a value reads as -/
def deref (st : Store) : Vl → Option D
  | .d x => some x
  | .r n => match st[n]? with
    | some (.lst xs) => some (.list xs)
    | _ => none
  | .s ns => some (.list (ns.map PyData.int))
  | .f _ => none
/-- readable now as data -/
def Rr (K : PySem.W.Frag) (μ : Mu) (H : Hp) (x : D) (v : V) : Prop := Rp K μ H x v ∨ (∃ a xs vs, x = .list xs ∧ v = .ref a ∧ H a = some (.lst vs) ∧ RpL K μ H xs vs) ∨ ∃ a ns, x = .list (List.map PyData.int ns) ∧ v = .ref a ∧ Sc K μ H a ns
/-- .. and no script -/
def Rt (K : PySem.W.Frag) (μ : Mu) (H : Hp) (x : D) (v : V) : Prop := Rp K μ H x v ∨ ∃ a xs vs, x = .list xs ∧ v = .ref a ∧ H a = some (.lst vs) ∧ RpL K μ H xs vs
section
variable {K : PySem.W.Frag} {μ μ' : Mu} {H H' : Hp} {x : D} {v : V} {st : Store} {a : Addr}
theorem deref_ok {y : Vl} (S : RepS K μ H st) (h : deref st y = some x) (r : RV K μ H y v) : Rr K μ H x v := by
  cases y with
  | d z => cases h; exact .inl r
  | r n =>
    obtain ⟨a, h1, h2⟩ := r
    unfold deref at h
    cases q : st[n]? with
    | none => simp only [q] at h; cases h
    | some o =>
      cases o with
      | lst xs =>
        simp only [q] at h
        cases h
        obtain ⟨vs, e, r⟩ := S.ob n a _ h1 q
        exact .inr (.inl ⟨a, xs, vs, rfl, h2, e, r⟩)
      | _ => simp only [q] at h; cases h
  | s ns =>
    obtain ⟨a, h1, h2⟩ := r
    cases h
    exact .inr (.inr ⟨a, ns, rfl, h1, h2⟩)
  | f x => cases h
def derefT (st : Store) : Vl → Option D
  | .s _ => none
  | x => deref st x
theorem derefT_ok {y : Vl} (S : RepS K μ H st) (h : derefT st y = some x) (r : RV K μ H y v) : Rt K μ H x v := by
  cases y with
  | d z => cases h; exact .inl r
  | r n =>
    obtain ⟨a', h1, h2⟩ := r
    unfold derefT deref at h
    cases q : st[n]? with
    | none => simp only [q] at h; cases h
    | some o =>
      cases o with
      | lst xs =>
        simp only [q] at h
        cases h
        obtain ⟨vs, e, r⟩ := S.ob n a' _ h1 q
        exact .inr ⟨a', xs, vs, rfl, h2, e, r⟩
      | _ => simp only [q] at h; cases h
  | s ns => cases h
  | f x => cases h
theorem Rt.rr (h : Rt K μ H x v) : Rr K μ H x v := h.imp id .inl
theorem Rt.lst {xs : List D} (h : Rt K μ H (.list xs) v) : ∃ a vs, v = .ref a ∧ H a = some (.lst vs) ∧ RpL K μ H xs vs := by
  rcases h with h | ⟨a, ys, vs, e1, e2, e3, r⟩
  · cases h with | lst q r => exact ⟨_, _, rfl, q.1, r⟩
  · cases e1
    exact ⟨a, vs, e2, e3, r⟩
theorem Rr.lst {xs : List D} (h : Rr K μ H (.list xs) v) : ∃ a vs, v = .ref a ∧ SqL K H a vs ∧ RpL K μ H xs vs := by
  rcases h with h | ⟨a, ys, vs, e1, e2, e3, r⟩ | ⟨a, ns, e1, e2, q⟩
  · cases h with | lst q r => exact ⟨_, _, rfl, q.sq, r⟩
  · cases e1
    exact ⟨a, vs, e2, .inl (.inl e3), r⟩
  · cases e1
    exact ⟨a, _, e2, q.sq, RpL.of_ints ns⟩
theorem Rr.tup {xs : List D} (h : Rr K μ H (.tuple xs) v) : ∃ a vs, v = .ref a ∧ H a = some (.tup vs) ∧ RpL K μ H xs vs := by
  rcases h with h | ⟨a, ys, vs, e1, e2, e3, r⟩ | ⟨a, ns, e1, e2, q⟩
  · cases h with | tup q r => exact ⟨_, _, rfl, q.1, r⟩
  · cases e1
  · cases e1
theorem Rr.int {i : Int} (h : Rr K μ H (.int i) v) : v = .int i := by
  rcases h with h | ⟨a, ys, vs, e1, e2, e3, r⟩ | ⟨a, ns, e1, e2, q⟩
  · cases h; rfl
  · cases e1
  · cases e1
theorem Rr.bl {i : Bool} (h : Rr K μ H (.bool i) v) : v = .bl i := by
  rcases h with h | ⟨a, ys, vs, e1, e2, e3, r⟩ | ⟨a, ns, e1, e2, q⟩
  · cases h; rfl
  · cases e1
  · cases e1
theorem Rr.str {i : Str} (h : Rr K μ H (.str i) v) : v = .str i := by
  rcases h with h | ⟨a, ys, vs, e1, e2, e3, r⟩ | ⟨a, ns, e1, e2, q⟩
  · cases h; rfl
  · cases e1
  · cases e1
theorem Rr.non (h : Rr K μ H .none v) : v = .non := by
  rcases h with h | ⟨a, ys, vs, e1, e2, e3, r⟩ | ⟨a, ns, e1, e2, q⟩
  · cases h; rfl
  · cases e1
  · cases e1
theorem Rr.dp (h : Rr K μ H x v) : Dp K H v x := by
  rcases h with h | ⟨a, ys, vs, rfl, rfl, e3, r⟩ | ⟨a, ns, rfl, rfl, q⟩
  · exact h.dp
  · exact .lst (.inl (.inl e3)) r.dpa
  · exact .lst q.sq (RpL.of_ints (μ := μ) ns).dpa
theorem Rr.plain (h : Rr K μ H x v) : x.plain = true := by
  rcases h with h | ⟨a, ys, vs, rfl, rfl, e3, r⟩ | ⟨a, ns, rfl, rfl, q⟩
  · exact h.plain
  · exact r.plain
  · exact (RpL.of_ints (K := K) (μ := μ) (H := H) ns).plain
end
end DL
/-! readings and judgements -/
namespace DL
open PySem PySem.Spec L2
def Den {α β : Type} (K : PySem.W.Frag) (mg : Str → Option Value) (Rl : Mu → Hp → α → β → Prop) (Qx : XK) (Q : β → Hp → Prop) (μ : Mu) (H : Hp) : Rs α → Prop
  | .ok x st' => ∀ v μ' H', Step μ H μ' H' → RepS K μ' H' st' → Rl μ' H' x v → Q v H'
  | .exc e st' => ∀ c dd μ' H', Step μ H μ' H' → RepS K μ' H' st' → RX K mg μ' H' e c dd → Qx c dd H'
  | .bad => False
section
variable {α β γ ε : Type} {K : PySem.W.Frag} {mg : Str → Option Value} {Rl : Mu → Hp → α → β → Prop} {Rm : Mu → Hp → γ → ε → Prop} {Qx : XK} {Q : β → Hp → Prop} {Q' : ε → Hp → Prop} {μ μ' : Mu} {H H' : Hp} {r : Rs α}
theorem Den.step (s : Step μ H μ' H') (h : Den K mg Rl Qx Q μ H r) : Den K mg Rl Qx Q μ' H' r := by
  cases r with
  | ok x st' => exact fun v μ2 H2 s2 => h v μ2 H2 (s.trans s2)
  | exc e st' => exact fun c dd μ2 H2 s2 => h c dd μ2 H2 (s.trans s2)
  | bad => exact h
theorem Den.bind {k : α → Store → Rs γ} (h : Den K mg Rm Qx Q' μ H (r.bind k))
    (hk : ∀ x st1 v μ1 H1, r = .ok x st1 → Step μ H μ1 H1 → RepS K μ1 H1 st1 → Rl μ1 H1 x v → Den K mg Rm Qx Q' μ1 H1 (k x st1) → Q v H1) : Den K mg Rl Qx Q μ H r := by
  cases r with
  | ok x st' => exact fun v μ2 H2 s2 S r => hk x st' v μ2 H2 rfl s2 S r (Den.step s2 h)
  | exc e st' => exact h
  | bad => exact h
theorem Den.imp {Q2 : β → Hp → Prop} (h : Den K mg Rl Qx Q μ H r) (hq : ∀ v H, Q v H → Q2 v H) : Den K mg Rl Qx Q2 μ H r := by
  cases r with
  | ok x st' => exact fun v μ2 H2 s2 S r => hq _ _ (h v μ2 H2 s2 S r)
  | exc e st' => exact h
  | bad => exact h
end
abbrev DE := DEnv → Store → Rs Vl
abbrev DT := DEnv → Store → Rs Bool
abbrev DA := DEnv → Store → Rs (List Vl)
def tE (K : PySem.W.Frag) (mg : Str → Option Value) (W : WX) (f : DE) : TE := fun σ H Q => ∃ δ μ st, RE K μ H δ σ ∧ RepS K μ H st ∧ Den K mg (RV K) (fun c d H => W c d σ H) Q μ H (f δ st)
def tT (K : PySem.W.Frag) (mg : Str → Option Value) (W : WX) (f : DT) : TT := fun σ H Q => ∃ δ μ st, RE K μ H δ σ ∧ RepS K μ H st ∧ Den K mg (fun _ _ a b => a = b) (fun c d H => W c d σ H) Q μ H (f δ st)
def tA (K : PySem.W.Frag) (mg : Str → Option Value) (W : WX) (f : DA) : TA := fun σ H Q => ∃ δ μ st, RE K μ H δ σ ∧ RepS K μ H st ∧ Den K mg (RVL K) (fun c d H => W c d σ H) Q μ H (f δ st)
abbrev DEx (X : Cx) (W : WX) (e : Expr) (f : DE) : Prop := PE X e (tE X.K X.mg W f)
abbrev DTx (X : Cx) (W : WX) (e : Expr) (f : DT) : Prop := PT X e (tT X.K X.mg W f)
abbrev DWx (X : Cx) (W : WX) (e : Expr) (f : DT) : Prop := PW X e (tT X.K X.mg W f)
abbrev DAx (X : Cx) (W : WX) (es : List Expr) (f : DA) : Prop := PA X es (tA X.K X.mg W f)
theorem PE.imp {X : Cx} {e : Expr} {t t' : TE} (h : PE X e t) (w : ∀ σ H Q, t' σ H Q → t σ H Q) : PE X e t' := ⟨fun pins s σ H Q I q => h.run pins s σ H Q I (w σ H Q q)⟩
theorem PT.imp {X : Cx} {e : Expr} {t t' : TT} (h : PT X e t) (w : ∀ σ H Q, t' σ H Q → t σ H Q) : PT X e t' := ⟨fun pins s σ H Q I q => h.run pins s σ H Q I (w σ H Q q)⟩
theorem PW.imp {X : Cx} {e : Expr} {t t' : TT} (h : PW X e t) (w : ∀ σ H Q, t' σ H Q → t σ H Q) : PW X e t' := ⟨fun wh pins s σ H Q I q => h.run wh pins s σ H Q I (w σ H Q q)⟩
theorem PA.imp {X : Cx} {e : List Expr} {t t' : TA} (h : PA X e t) (w : ∀ σ H Q, t' σ H Q → t σ H Q) : PA X e t' := ⟨fun p pins s σ H Q I q => h.run p pins s σ H Q I (w σ H Q q)⟩
theorem PS.imp {X : Cx} {e : Stmt} {t t' : TS} (h : PS X e t) (w : ∀ D σ H, t' D σ H → t D σ H) : PS X e t' := ⟨fun pins s σ H D I q => h.run pins s σ H D I (w D σ H q)⟩
theorem PSs.imp {X : Cx} {e : List Stmt} {t t' : TS} (h : PSs X e t) (w : ∀ D σ H, t' D σ H → t D σ H) : PSs X e t' := ⟨fun pins s σ H D I q => h.run pins s σ H D I (w D σ H q)⟩
section
variable {K : PySem.W.Frag} {mg : Str → Option Value} {W : WX} {σ : L2.St} {H : Hp}
/-- first f, then the rest -/
theorem tE.bind {f : DE} {γ ε : Type} {Rm : Mu → Hp → γ → ε → Prop} {Q' : ε → Hp → Prop} {k : DEnv → Vl → Store → Rs γ} {Q1 : VK}
    (h : ∃ δ μ st, RE K μ H δ σ ∧ RepS K μ H st ∧ Den K mg Rm (fun c d H => W c d σ H) Q' μ H ((f δ st).bind (k δ)))
    (hk : ∀ δ μ1 H1 x st1 v, RE K μ1 H1 δ σ → RepS K μ1 H1 st1 → RV K μ1 H1 x v → Den K mg Rm (fun c d H => W c d σ H) Q' μ1 H1 (k δ x st1) → Q1 v H1) : tE K mg W f σ H Q1 := by
  obtain ⟨δ, μ, st, hE, hS, h⟩ := h
  exact ⟨δ, μ, st, hE, hS, h.bind fun x st1 v μ1 H1 _ s S r q => hk δ μ1 H1 x st1 v (hE.step s) S r q⟩
theorem tT.bind {f : DT} {γ ε : Type} {Rm : Mu → Hp → γ → ε → Prop} {Q' : ε → Hp → Prop} {k : DEnv → Bool → Store → Rs γ} {Q1 : Bool → Hp → Prop}
    (h : ∃ δ μ st, RE K μ H δ σ ∧ RepS K μ H st ∧ Den K mg Rm (fun c d H => W c d σ H) Q' μ H ((f δ st).bind (k δ)))
    (hk : ∀ δ μ1 H1 x st1, RE K μ1 H1 δ σ → RepS K μ1 H1 st1 → Den K mg Rm (fun c d H => W c d σ H) Q' μ1 H1 (k δ x st1) → Q1 x H1) : tT K mg W f σ H Q1 := by
  obtain ⟨δ, μ, st, hE, hS, h⟩ := h
  exact ⟨δ, μ, st, hE, hS, h.bind fun x st1 v μ1 H1 _ s S r q => by cases r; exact hk δ μ1 H1 x st1 (hE.step s) S q⟩
theorem tA.bind {f : DA} {γ ε : Type} {Rm : Mu → Hp → γ → ε → Prop} {Q' : ε → Hp → Prop} {k : DEnv → List Vl → Store → Rs γ} {Q1 : List V → Hp → Prop}
    (h : ∃ δ μ st, RE K μ H δ σ ∧ RepS K μ H st ∧ Den K mg Rm (fun c d H => W c d σ H) Q' μ H ((f δ st).bind (k δ)))
    (hk : ∀ δ μ1 H1 x st1 v, RE K μ1 H1 δ σ → RepS K μ1 H1 st1 → RVL K μ1 H1 x v → Den K mg Rm (fun c d H => W c d σ H) Q' μ1 H1 (k δ x st1) → Q1 v H1) : tA K mg W f σ H Q1 := by
  obtain ⟨δ, μ, st, hE, hS, h⟩ := h
  exact ⟨δ, μ, st, hE, hS, h.bind fun x st1 v μ1 H1 _ s S r q => hk δ μ1 H1 x st1 v (hE.step s) S r q⟩
end
/-! ### names, constants -/
def eV (i : Nat) : DE := fun δ st => match δ[i]? with
  | some (some x) => .ok x st
  | _ => .bad
def eC (x : D) : DE := fun _ st => .ok (.d x) st
section
variable {X : Cx} {W : WX} {pos : Pos}
theorem de_var {i : Nat} {e : Expr} (h : PE X e (tVar i)) : DEx X W e (eV i) := PE.imp h fun σ H Q ⟨δ, μ, st, hE, hS, h⟩ => by
  cases q : δ[i]? with
  | none => simp only [eV, q] at h; exact h.elim
  | some o =>
    cases o with
    | none => simp only [eV, q] at h; exact h.elim
    | some x =>
      simp only [eV, q] at h
      obtain ⟨v, h1, h2⟩ := hE.at_ i x q
      exact ⟨v, h1, h v μ H .refl hS h2⟩
theorem dv (i : Nat) {x : Str} {pos : Pos} (hN : X.N[i]? = some x := by rfl) (hv : Vis X.env.scope x := by first | exact Or.inl rfl | exact Or.inr (Or.inl rfl) | exact Or.inr (Or.inr rfl)) (hd : (x == ("__debug__" : Str)) = false := by decide)
    (hcd : (x == ("__classdict__" : Str)) = false := by decide) : DEx X W (.Name x pos) (eV i) := de_var (pe_var hN hv hd hcd)
theorem de_c {e : Expr} {v : V} {x : D} (h : PE X e (tC v)) (r : ∀ μ H, Rp X.K μ H x v) : DEx X W e (eC x) := PE.imp h fun σ H Q ⟨δ, μ, st, hE, hS, h⟩ => h v μ H .refl hS (r μ H)
theorem de_int {i j pos} : DEx X W (.Constant (.int i) j pos) (eC (.int i)) := de_c pe_int fun _ _ => .int i
theorem de_bl {i j pos} : DEx X W (.Constant (.bool i) j pos) (eC (.bool i)) := de_c pe_bl fun _ _ => .bl i
theorem de_non {j pos} : DEx X W (.Constant .none j pos) (eC .none) := de_c pe_non fun _ _ => .non
theorem de_str {i j pos} : DEx X W (.Constant (.str i) j pos) (eC (.str i)) := de_c pe_str fun _ _ => .str i
/-- a module's constant -/
theorem de_glob {x : Str} {u : Value} {v : V} {d : D} (hg : Gl X x) (hm : X.mg x = some u) (r : RelV v u) (rp : ∀ μ H, Rp X.K μ H d v) (hd : (x == ("__debug__" : Str)) = false := by decide) : DEx X W (.Name x pos) (eC d) := de_c (pe_glob hg hm r hd) rp
end
/-! ### operations by values -/
abbrev O2 := Vl → Vl → Store → Rs Vl
def OpD (K : PySem.W.Frag) (mg : Str → Option Value) (r : R2) (o : O2) : Prop :=
  ∀ (μ : Mu) (H : Hp) (st : Store) (x y : Vl) (v w : V) (Qx : XK) (Q : VK), RepS K μ H st → RV K μ H x v → RV K μ H y w → Den K mg (RV K) Qx Q μ H (o x y st) → r v w H Q
def eO (o : O2) (f g : DE) : DE := fun δ st => (f δ st).bind fun x st1 => (g δ st1).bind fun y st2 => o x y st2
/-- the answer, at a heap with at most something new -/
def Ans (K : PySem.W.Frag) (μ : Mu) (H : Hp) (d : D) (Q : VK) : Prop := ∀ v H', Step μ H μ H' → (∀ a ∈ μ, H' a = H a) → Rp K μ H' d v → Q v H'
def optR (st : Store) : Option D → Rs Vl
  | some d => .ok (.d d) st
  | none => .bad
def pur2 (o : D → D → Option D) : O2 := fun x y st => optR st ((deref st x).bind fun a => (deref st y).bind fun b => o a b)
def pur2T (o : D → D → Option D) : O2 := fun x y st => optR st ((derefT st x).bind fun a => (derefT st y).bind fun b => o a b)
def pur1 (o : D → Option D) : Vl → Store → Rs Vl := fun x st => optR st ((deref st x).bind o)
section
variable {K : PySem.W.Frag} {mg : Str → Option Value} {μ : Mu} {H : Hp} {d : D} {Q : VK} {v : V} {st : Store} {Qx : XK}
theorem Ans.here (h : Ans K μ H d Q) (r : Rp K μ H d v) : Q v H := h v H .refl (fun _ _ => rfl) r
theorem Ans.tup {xs : List D} {vs : List V} {p : Addr} (h : Ans K μ H (.tuple xs) Q) (r : RpL K μ H xs vs) (N : ∀ p, H p = none → p ∉ μ) (hp : H p = none) : Q (.ref p) (upd H p (.tup vs)) :=
  h _ _ (step_new hp) (fun a ha => upd_ne fun z => N p hp (z ▸ ha)) (.tup ⟨upd_same, N p hp⟩ (r.step (step_new hp)))
theorem Ans.lst {xs : List D} {vs : List V} {p : Addr} (h : Ans K μ H (.list xs) Q) (r : RpL K μ H xs vs) (N : ∀ p, H p = none → p ∉ μ) (hp : H p = none) : Q (.ref p) (upd H p (.lst vs)) :=
  h _ _ (step_new hp) (fun a ha => upd_ne fun z => N p hp (z ▸ ha)) (.lst ⟨upd_same, N p hp⟩ (r.step (step_new hp)))
theorem Ans.of_den (S : RepS K μ H st) (h : Den K mg (RV K) Qx Q μ H (.ok (.d d) st)) : Ans K μ H d Q := fun v H' s k r => h v μ H' s (S.keep s k) r
theorem OpD.pur {r : R2} {o : D → D → Option D} (h : ∀ (μ : Mu) (H : Hp) (x y d : D) (v w : V) (Q : VK), (∀ p, H p = none → p ∉ μ) → Rr K μ H x v → Rr K μ H y w → o x y = some d → Ans K μ H d Q → r v w H Q) : OpD K mg r (pur2 o) := by
  intro μ H st x y v w Qx Q S rx ry q
  unfold pur2 at q
  cases e1 : deref st x with
  | none => rw [e1] at q; exact q.elim
  | some a =>
    cases e2 : deref st y with
    | none => rw [e1, e2] at q; exact q.elim
    | some b =>
      rw [e1, e2] at q
      cases e3 : o a b with
      | none => simp only [Option.bind_some, e3] at q; exact q.elim
      | some d =>
        simp only [Option.bind_some, e3] at q
        exact h μ H a b d v w Q (fun _ z => S.nin z) (deref_ok S e1 rx) (deref_ok S e2 ry) e3 (Ans.of_den S q)
theorem OpD.purT {r : R2} {o : D → D → Option D} (h : ∀ (μ : Mu) (H : Hp) (x y d : D) (v w : V) (Q : VK), (∀ p, H p = none → p ∉ μ) → Rt K μ H x v → Rt K μ H y w → o x y = some d → Ans K μ H d Q → r v w H Q) : OpD K mg r (pur2T o) := by
  intro μ H st x y v w Qx Q S rx ry q
  unfold pur2T at q
  cases e1 : derefT st x with
  | none => rw [e1] at q; exact q.elim
  | some a =>
    cases e2 : derefT st y with
    | none => rw [e1, e2] at q; exact q.elim
    | some b =>
      rw [e1, e2] at q
      cases e3 : o a b with
      | none => simp only [Option.bind_some, e3] at q; exact q.elim
      | some d =>
        simp only [Option.bind_some, e3] at q
        exact h μ H a b d v w Q (fun _ z => S.nin z) (derefT_ok S e1 rx) (derefT_ok S e2 ry) e3 (Ans.of_den S q)
end
section
variable {X : Cx} {W : WX} {pos : Pos}
theorem de_tOp {r : R2} {o : O2} {e : Expr} {f g : DE} (hr : OpD X.K X.mg r o) (h : PE X e (tOp r (tE X.K X.mg W f) (tE X.K X.mg W g))) : DEx X W e (eO o f g) := PE.imp h fun σ H Q q =>
  tE.bind q fun δ μ1 H1 x st1 v hE hS rx q1 => ⟨δ, μ1, st1, hE, hS, Den.bind q1 fun y st2 w μ2 H2 _ s2 S2 ry q2 => hr μ2 H2 st2 x y v w _ Q S2 (rx.step s2) ry q2⟩
/-- a test's truth: a bool -/
def asB : Vl → Store → Rs Bool := fun x st => match x with
  | .d (.bool b) => .ok b st
  | _ => .bad
def tst (f : DE) : DT := fun δ st => (f δ st).bind asB
theorem den_asB {μ : Mu} {H : Hp} {st : Store} {x : Vl} {v : V} {Qx : XK} {Q : Bool → Hp → Prop} {K : PySem.W.Frag} {mg : Str → Option Value} (S : RepS K μ H st) (r : RV K μ H x v) (q : Den K mg (fun _ _ a b => a = b) Qx Q μ H (asB x st)) : ∃ k, v = .bl k ∧ Q k H := by
  cases x with
  | r n => exact q.elim
  | s n => exact q.elim
  | f n => exact q.elim
  | d x =>
    cases x with
    | bool b => cases r; exact ⟨b, rfl, q b μ H .refl S rfl⟩
    | _ => exact q.elim
theorem dt_tOp {r : R2} {o : O2} {e : Expr} {f g : DE} (hr : OpD X.K X.mg r o) (h : PT X e (tTest (tOp r (tE X.K X.mg W f) (tE X.K X.mg W g)))) : DTx X W e (tst (eO o f g)) := PT.imp h fun σ H Q q => by
  obtain ⟨δ, μ, st, hE, hS, q⟩ := q
  have q' : Den X.K X.mg (fun _ _ a b => a = b) (fun c d H => W c d σ H) Q μ H ((f δ st).bind fun x st1 => (g δ st1).bind fun y st2 => (o x y st2).bind asB) := by
    unfold tst eO at q
    cases e1 : f δ st with
    | ok x st1 =>
      rw [e1] at q
      show Den _ _ _ _ _ _ _ ((g δ st1).bind fun y st2 => (o x y st2).bind asB)
      have q : Den X.K X.mg (fun _ _ a b => a = b) (fun c d H => W c d σ H) Q μ H (((g δ st1).bind fun y st2 => o x y st2).bind asB) := q
      cases e2 : g δ st1 with
      | ok y st2 => rw [e2] at q; exact q
      | exc e st2 => rw [e2] at q; exact q
      | bad => rw [e2] at q; exact q
    | exc e st1 => rw [e1] at q; exact q
    | bad => rw [e1] at q; exact q
  refine tE.bind ⟨δ, μ, st, hE, hS, q'⟩ (k := fun δ x st1 => (g δ st1).bind fun y st2 => (o x y st2).bind asB) fun δ μ1 H1 x st1 v hE hS rx q1 => ⟨δ, μ1, st1, hE, hS, Den.bind q1 fun y st2 w μ2 H2 _ s2 S2 ry q2 => ?_⟩
  exact hr μ2 H2 st2 x y v w _ _ S2 (rx.step s2) ry (Den.bind q2 fun z st3 u μ3 H3 _ s3 S3 rz q3 => den_asB S3 rz q3)
/-- an expression whose value is a bool, as a test -/
theorem dt_val {e : Expr} {f : DE} (h : DEx X W e f) (he : ∀ whole, isTrue e X.env whole = (do let v ← whole; standAt e.pos; holding [v] (truthy v)) := by intro _; rfl) : DTx X W e (tst f) := PT.imp (pt_val h he) fun σ H Q q =>
  tE.bind (k := fun _ => asB) q fun δ μ1 H1 x st1 v hE hS rx q1 => den_asB hS rx q1
/-! ### and, or, not -/
def tAn (f g : DT) : DT := fun δ st => (f δ st).bind fun b st1 => if b = true then g δ st1 else .ok false st1
def tOrr (f g : DT) : DT := fun δ st => (f δ st).bind fun b st1 => if b = true then .ok true st1 else g δ st1
def tNo (f : DT) : DT := fun δ st => (f δ st).bind fun b st1 => .ok (!b) st1
section
variable {a b : Expr} {rest : List Expr} {f g : DT}
theorem dw_and1 (h : DTx X W a f) : DWx X W (.BoolOp .And [a] pos) f := pw_and1 h
theorem dw_or1 (h : DTx X W a f) : DWx X W (.BoolOp .Or [a] pos) f := pw_or1 h
theorem dw_and (h : DTx X W a f) (h2 : DWx X W (.BoolOp .And (b :: rest) pos) g) : DWx X W (.BoolOp .And (a :: b :: rest) pos) (tAn f g) := PW.imp (pw_and h h2) fun σ H Q q =>
  tT.bind (k := fun δ b st1 => if b = true then g δ st1 else .ok false st1) q fun δ μ1 H1 x st1 hE hS q1 => by
    cases x with
    | true => exact iteT ⟨δ, μ1, st1, hE, hS, q1⟩
    | false => exact iteF (q1 false μ1 H1 .refl hS rfl)
theorem dw_or (h : DTx X W a f) (h2 : DWx X W (.BoolOp .Or (b :: rest) pos) g) : DWx X W (.BoolOp .Or (a :: b :: rest) pos) (tOrr f g) := PW.imp (pw_or h h2) fun σ H Q q =>
  tT.bind (k := fun δ b st1 => if b = true then .ok true st1 else g δ st1) q fun δ μ1 H1 x st1 hE hS q1 => by
    cases x with
    | false => exact iteF ⟨δ, μ1, st1, hE, hS, q1⟩
    | true => exact iteT (q1 true μ1 H1 .refl hS rfl)
theorem dt_w {e : Expr} (h : DWx X W e f) : DTx X W e f := h.pt
theorem dt_not (h : DTx X W a f) : DTx X W (.UnaryOp .Not a pos) (tNo f) := PT.imp (pt_not h) fun σ H Q q =>
  tT.bind (k := fun _ b st1 => .ok (!b) st1) q fun δ μ1 H1 x st1 hE hS q1 => q1 _ μ1 H1 .refl hS rfl
end
/-! values -/
def eAn (f g : DE) : DE := fun δ st => (f δ st).bind fun x st1 => (asB x st1).bind fun b st2 => if b = true then g δ st2 else .ok (.d (.bool false)) st2
def eOrr (f g : DE) : DE := fun δ st => (f δ st).bind fun x st1 => (asB x st1).bind fun b st2 => if b = true then .ok (.d (.bool true)) st2 else g δ st2
def eNo (f : DE) : DE := fun δ st => (f δ st).bind fun x st1 => (asB x st1).bind fun b st2 => .ok (.d (.bool !b)) st2
theorem den_asB2 {γ ε : Type} {Rm : Mu → Hp → γ → ε → Prop} {μ : Mu} {H : Hp} {st : Store} {x : Vl} {v : V} {Qx : XK} {Q : ε → Hp → Prop} {K : PySem.W.Frag} {mg : Str → Option Value} {k : Bool → Store → Rs γ} (r : RV K μ H x v) (q : Den K mg Rm Qx Q μ H ((asB x st).bind k)) :
    ∃ c, v = .bl c ∧ Den K mg Rm Qx Q μ H (k c st) := by
  cases x with
  | r n => exact q.elim
  | s n => exact q.elim
  | f n => exact q.elim
  | d x =>
    cases x with
    | bool b => cases r; exact ⟨b, rfl, q⟩
    | _ => exact q.elim
section
variable {a b : Expr} {rest : List Expr} {op : BoolOp} {f g : DE}
theorem de_one (h : DEx X W a f) : DEx X W (.BoolOp op [a] pos) f := pe_one h
theorem de_and (h : DEx X W a f) (h2 : DEx X W (.BoolOp .And (b :: rest) pos) g) : DEx X W (.BoolOp .And (a :: b :: rest) pos) (eAn f g) := PE.imp (pe_and h h2) fun σ H Q q =>
  tE.bind (γ := Vl) (k := fun δ x st1 => (asB x st1).bind fun b st2 => if b = true then g δ st2 else .ok (.d (.bool false)) st2) q fun δ μ1 H1 x st1 v hE hS rx q1 => by
    obtain ⟨c, e, q2⟩ := den_asB2 rx q1
    refine ⟨c, e, ?_⟩
    cases c with
    | true => exact iteT ⟨δ, μ1, st1, hE, hS, q2⟩
    | false => exact iteF (q2 _ μ1 H1 .refl hS (.bl false))
theorem de_or (h : DEx X W a f) (h2 : DEx X W (.BoolOp .Or (b :: rest) pos) g) : DEx X W (.BoolOp .Or (a :: b :: rest) pos) (eOrr f g) := PE.imp (pe_or h h2) fun σ H Q q =>
  tE.bind (γ := Vl) (k := fun δ x st1 => (asB x st1).bind fun b st2 => if b = true then .ok (.d (.bool true)) st2 else g δ st2) q fun δ μ1 H1 x st1 v hE hS rx q1 => by
    obtain ⟨c, e, q2⟩ := den_asB2 rx q1
    refine ⟨c, e, ?_⟩
    cases c with
    | false => exact iteF ⟨δ, μ1, st1, hE, hS, q2⟩
    | true => exact iteT (q2 _ μ1 H1 .refl hS (.bl true))
theorem de_not (h : DEx X W a f) : DEx X W (.UnaryOp .Not a pos) (eNo f) := PE.imp (pe_not h) fun σ H Q q =>
  tE.bind (γ := Vl) (k := fun δ x st1 => (asB x st1).bind fun b st2 => .ok (.d (.bool !b)) st2) q fun δ μ1 H1 x st1 v hE hS rx q1 => by
    obtain ⟨c, e, q2⟩ := den_asB2 rx q1
    exact ⟨c, e, q2 _ μ1 H1 .refl hS (.bl _)⟩
end
def eIf (c : DT) (f g : DE) : DE := fun δ st => (c δ st).bind fun b st1 => if b = true then f δ st1 else g δ st1
theorem de_if {c a b : Expr} {t : DT} {f g : DE} (hc : DTx X W c t) (ha : DEx X W a f) (hb : DEx X W b g) : DEx X W (.IfExp c a b pos) (eIf t f g) := PE.imp (pe_ifExp hc ha hb) fun σ H Q q =>
  tT.bind (k := fun δ b st1 => if b = true then f δ st1 else g δ st1) q fun δ μ1 H1 x st1 hE hS q1 => by
    cases x with
    | false => exact iteF ⟨δ, μ1, st1, hE, hS, q1⟩
    | true => exact iteT ⟨δ, μ1, st1, hE, hS, q1⟩
/-! ### argument lists, displays -/
def aN : DA := fun _ st => .ok [] st
def aC (f : DE) (g : DA) : DA := fun δ st => (f δ st).bind fun x st1 => (g δ st1).bind fun xs st2 => .ok (x :: xs) st2
theorem da_nil : DAx X W [] aN := PA.imp pa_nil fun σ H Q ⟨δ, μ, st, hE, hS, h⟩ => h [] μ H .refl hS .nil
theorem da_cons {e : Expr} {es : List Expr} {f : DE} {g : DA} (h : DEx X W e f) (h2 : DAx X W es g) (hs : starEach (e :: es) X.env = (false, eval e X.env) :: starEach es X.env := by rfl) : DAx X W (e :: es) (aC f g) := PA.imp (pa_cons h h2 hs) fun σ H Q q =>
  tE.bind (k := fun δ x st1 => (g δ st1).bind fun xs st2 => .ok (x :: xs) st2) q fun δ μ1 H1 x st1 v hE hS rx q1 => ⟨δ, μ1, st1, hE, hS, Den.bind q1 fun xs st2 vs μ2 H2 _ s2 S2 rxs q2 => q2 _ μ2 H2 .refl S2 (.cons (rx.step s2) rxs)⟩
/-- all of them pure data -/
def pures : List Vl → Option (List D)
  | [] => some []
  | .d x :: r => (pures r).map (x :: ·)
  | .r _ :: _ => none
  | .s _ :: _ => none
  | .f _ :: _ => none
theorem pures_ok {K : PySem.W.Frag} {μ : Mu} {H : Hp} : ∀ {xs : List Vl} {vs : List V} {ds : List D}, RVL K μ H xs vs → pures xs = some ds → RpL K μ H ds vs
  | [], _, _, .nil, e => by cases e; exact .nil
  | .d x :: r, _, ds, .cons h t, e => by
    unfold pures at e
    cases q : pures r with
    | none => rw [q] at e; cases e
    | some l => rw [q] at e; cases e; exact .cons h (pures_ok t q)
  | .r _ :: _, _, _, _, e => by cases e
  | .s _ :: _, _, _, _, e => by cases e
  | .f _ :: _, _, _, _, e => by cases e
theorem pures_length : ∀ {xs : List Vl} {ds : List D}, pures xs = some ds → ds.length = xs.length
  | [], _, e => by cases e; rfl
  | .d x :: r, ds, e => by
    unfold pures at e
    cases q : pures r with
    | none => rw [q] at e; cases e
    | some l => rw [q] at e; cases e; rw [List.length_cons, List.length_cons, pures_length q]
  | .r _ :: _, _, e => by cases e
  | .s _ :: _, _, e => by cases e
  | .f _ :: _, _, e => by cases e
def szOk (n : Nat) : Bool := decide (n ≤ 16777216)
theorem szOk_ok {n : Nat} (h : szOk n = true) : n ≤ sizeLine := by rw [sizeLine_eq]; exact of_decide_eq_true h
def dispK (mk : List D → Store → Rs Vl) : List Vl → Store → Rs Vl := fun xs st => if szOk xs.length = true then (match pures xs with
  | some ds => mk ds st
  | none => .bad) else .bad
def mkTup : List D → Store → Rs Vl := fun ds st => .ok (.d (.tuple ds)) st
def mkLst : List D → Store → Rs Vl := fun ds st => .ok (.d (.list ds)) st
def mkMut : List D → Store → Rs Vl := fun ds st => .ok (.r st.length) (st ++ [.lst ds])
def eTup (a : DA) : DE := fun δ st => (a δ st).bind (dispK mkTup)
def eLst (a : DA) : DE := fun δ st => (a δ st).bind (dispK mkLst)
/-- a mutable list -/
def eMut (a : DA) : DE := fun δ st => (a δ st).bind (dispK mkMut)
theorem den_disp {μ : Mu} {H : Hp} {st : Store} {xs : List Vl} {vs : List V} {Qx : XK} {Q : VK} {K : PySem.W.Frag} {mg : Str → Option Value} {mk : List D → Store → Rs Vl} (r : RVL K μ H xs vs) (q : Den K mg (RV K) Qx Q μ H (dispK mk xs st)) :
    vs.length ≤ sizeLine ∧ ∃ ds, RpL K μ H ds vs ∧ Den K mg (RV K) Qx Q μ H (mk ds st) := by
  unfold dispK at q
  by_cases h : szOk xs.length = true
  · rw [if_pos h] at q
    refine ⟨by rw [← r.length]; exact szOk_ok h, ?_⟩
    cases e : pures xs with
    | none => rw [e] at q; exact q.elim
    | some ds => rw [e] at q; exact ⟨ds, pures_ok r e, q⟩
  · rw [if_neg h] at q; exact q.elim
section
variable {es : List Expr} {a : DA}
theorem de_tup {k} (h : DAx X W es a) : DEx X W (.Tuple es k pos) (eTup a) := PE.imp (pe_tup h) fun σ H Q q =>
  tA.bind (γ := Vl) (k := fun _ => dispK mkTup) q fun δ μ1 H1 xs st1 vs hE hS rx q1 => by
    obtain ⟨z, ds, r, q2⟩ := den_disp rx q1
    exact ⟨z, fun p hp => (Ans.of_den hS q2).tup r (fun _ z => hS.nin z) hp⟩
theorem de_lst (h : DAx X W es a) : DEx X W (.List es pos) (eLst a) := PE.imp (pe_lst h) fun σ H Q q =>
  tA.bind (γ := Vl) (k := fun _ => dispK mkLst) q fun δ μ1 H1 xs st1 vs hE hS rx q1 => by
    obtain ⟨z, ds, r, q2⟩ := den_disp rx q1
    exact ⟨z, fun p hp => (Ans.of_den hS q2).lst r (fun _ z => hS.nin z) hp⟩
theorem de_mut (h : DAx X W es a) : DEx X W (.List es pos) (eMut a) := PE.imp (pe_lst h) fun σ H Q q =>
  tA.bind (γ := Vl) (k := fun _ => dispK mkMut) q fun δ μ1 H1 xs st1 vs hE hS rx q1 => by
    obtain ⟨z, ds, r, q2⟩ := den_disp rx q1
    refine ⟨z, fun p hp => ?_⟩
    obtain ⟨s, S⟩ := hS.push hp r
    exact q2 _ _ _ s S ⟨p, by show (μ1.m ++ [p])[_]? = _; rw [← hS.len, List.getElem?_append_right (Nat.le_refl _), Nat.sub_self]; rfl, rfl⟩
end
/-! ### built-ins by values -/
def CallD (K : PySem.W.Frag) (mg : Str → Option Value) (r : List V → Hp → VK → Prop) (o : List Vl → Store → Rs Vl) : Prop :=
  ∀ (μ : Mu) (H : Hp) (st : Store) (xs : List Vl) (vs : List V) (Qx : XK) (Q : VK), RepS K μ H st → RVL K μ H xs vs → Den K mg (RV K) Qx Q μ H (o xs st) → r vs H Q
def eB (o : List Vl → Store → Rs Vl) (a : DA) : DE := fun δ st => (a δ st).bind o
theorem de_cB {r : List V → Hp → VK → Prop} {o : List Vl → Store → Rs Vl} {e : Expr} {a : DA} (hr : CallD X.K X.mg r o) (h : PE X e (tCB r (tA X.K X.mg W a))) : DEx X W e (eB o a) := PE.imp h fun σ H Q q =>
  tA.bind (k := fun _ => o) q fun δ μ1 H1 xs st1 vs hE hS rx q1 => hr μ1 H1 st1 xs vs _ Q hS rx q1
def derefs (st : Store) : List Vl → Option (List D)
  | [] => some []
  | x :: r => (deref st x).bind fun d => (derefs st r).map (d :: ·)
inductive RrL (K : PySem.W.Frag) (μ : Mu) (H : Hp) : List D → List V → Prop
  | nil : RrL K μ H [] []
  | cons {x : D} {xs : List D} {v : V} {vs : List V} : Rr K μ H x v → RrL K μ H xs vs → RrL K μ H (x :: xs) (v :: vs)
theorem derefs_ok {K : PySem.W.Frag} {μ : Mu} {H : Hp} {st : Store} (S : RepS K μ H st) : ∀ {xs : List Vl} {vs : List V} {ds : List D}, RVL K μ H xs vs → derefs st xs = some ds → RrL K μ H ds vs
  | [], _, _, .nil, e => by cases e; exact .nil
  | x :: r, _, ds, .cons h t, e => by
    unfold derefs at e
    cases q : deref st x with
    | none => rw [q] at e; cases e
    | some d =>
      cases q2 : derefs st r with
      | none => rw [q, q2] at e; cases e
      | some l =>
        rw [q, q2] at e
        cases e
        exact .cons (deref_ok S q h) (derefs_ok S t q2)
def purL (o : List D → Option D) : List Vl → Store → Rs Vl := fun xs st => optR st ((derefs st xs).bind o)
theorem CallD.pur {K : PySem.W.Frag} {mg : Str → Option Value} {r : List V → Hp → VK → Prop} {o : List D → Option D}
    (h : ∀ (μ : Mu) (H : Hp) (xs : List D) (d : D) (vs : List V) (Q : VK), (∀ p, H p = none → p ∉ μ) → RrL K μ H xs vs → o xs = some d → Ans K μ H d Q → r vs H Q) : CallD K mg r (purL o) := by
  intro μ H st xs vs Qx Q S rx q
  unfold purL at q
  cases e1 : derefs st xs with
  | none => rw [e1] at q; exact q.elim
  | some a =>
    rw [e1] at q
    cases e3 : o a with
    | none => simp only [Option.bind_some, e3] at q; exact q.elim
    | some d =>
      simp only [Option.bind_some, e3] at q
      exact h μ H a d vs Q (fun _ z => S.nin z) (derefs_ok S rx e1) e3 (Ans.of_den S q)
end
end DL
/-! operations -/
namespace DL
open PySem PySem.Spec L2
/-! ### ==, in over plain data; is -/
def rEqP (K : PySem.W.Frag) : R2 := fun x y H Q => ∃ d e, Dp K H x d ∧ Dp K H y e ∧ d.plain = true ∧ e.plain = true ∧ min d.depth e.depth ≤ 60 ∧ Q (.bl (PyData.eqv d e)) H
def rNeP (K : PySem.W.Frag) : R2 := fun x y H Q => ∃ d e, Dp K H x d ∧ Dp K H y e ∧ d.plain = true ∧ e.plain = true ∧ min d.depth e.depth ≤ 60 ∧ Q (.bl (!PyData.eqv d e)) H
def rInP (K : PySem.W.Frag) : R2 := fun x y H Q => ∃ d ds, Dp K H x d ∧ (Dp K H y (.list ds) ∨ Dp K H y (.tuple ds)) ∧ d.plain = true ∧ PyData.plainAll ds = true ∧ d.depth ≤ 60 ∧ Q (.bl (ds.any fun z => PyData.eqv z d)) H
def rNinP (K : PySem.W.Frag) : R2 := fun x y H Q => ∃ d ds, Dp K H x d ∧ (Dp K H y (.list ds) ∨ Dp K H y (.tuple ds)) ∧ d.plain = true ∧ PyData.plainAll ds = true ∧ d.depth ≤ 60 ∧ Q (.bl (!ds.any fun z => PyData.eqv z d)) H
/-- x is b, b a written bool -/
def isBl (b : Bool) : V → Option Bool
  | .non => some false
  | .bl c => some (decide (c = b))
  | .int _ => some false
  | .str _ => some false
  | .ref _ => some false
  | _ => none
def rIsK : R2 := fun x y H Q => ∃ b c, y = .bl b ∧ isBl b x = some c ∧ Q (.bl c) H
def rNisK : R2 := fun x y H Q => ∃ b c, y = .bl b ∧ isBl b x = some c ∧ Q (.bl (!c)) H
section
variable {X : Cx}
theorem op_eqP (hu : X.A.units + 64 < cLine) : OpR X (compareOp .Eq) (rEqP X.K) := by
  intro pins s σ H x y v u Q I rx ry h
  obtain ⟨d, e, hd, he, sd, se, hm, q⟩ := h
  obtain ⟨as, r1⟩ := Dp.reads I d x v hd rx
  obtain ⟨bs, r2⟩ := Dp.reads I e y u he ry
  exact SeqAt.eq_plain r1 r2 sd se (by omega) ⟨.bl _, H, I, rfl, q⟩
theorem op_neP (hu : X.A.units + 64 < cLine) : OpR X (compareOp .NotEq) (rNeP X.K) := by
  intro pins s σ H x y v u Q I rx ry h
  obtain ⟨d, e, hd, he, sd, se, hm, q⟩ := h
  obtain ⟨as, r1⟩ := Dp.reads I d x v hd rx
  obtain ⟨bs, r2⟩ := Dp.reads I e y u he ry
  exact SeqAt.ne_plain r1 r2 sd se (by omega) ⟨.bl _, H, I, rfl, q⟩
theorem op_inP (hu : X.A.units + 64 < cLine) : OpR X (compareOp .In) (rInP X.K) := by
  intro pins s σ H x y v u Q I rx ry h
  obtain ⟨d, ds, hd, he, sd, se, hm, q⟩ := h
  obtain ⟨as, r1⟩ := Dp.reads I d x v hd rx
  have hle := Nat.min_le_right (PyData.depthAll ds) d.depth
  rcases he with he | he
  · obtain ⟨bs, r2⟩ := Dp.reads I _ y u he ry
    exact SeqAt.in_list_data r2 r1 se sd (by omega) ⟨.bl _, H, I, rfl, q⟩
  · obtain ⟨bs, r2⟩ := Dp.reads I _ y u he ry
    exact SeqAt.in_tuple_data r2 r1 se sd (by omega) ⟨.bl _, H, I, rfl, q⟩
theorem op_ninP (hu : X.A.units + 64 < cLine) : OpR X (compareOp .NotIn) (rNinP X.K) := by
  intro pins s σ H x y v u Q I rx ry h
  obtain ⟨d, ds, hd, he, sd, se, hm, q⟩ := h
  obtain ⟨as, r1⟩ := Dp.reads I d x v hd rx
  have hle := Nat.min_le_right (PyData.depthAll ds) d.depth
  rcases he with he | he
  · obtain ⟨bs, r2⟩ := Dp.reads I _ y u he ry
    exact SeqAt.notIn_list_data r2 r1 se sd (by omega) ⟨.bl _, H, I, rfl, q⟩
  · obtain ⟨bs, r2⟩ := Dp.reads I _ y u he ry
    exact SeqAt.notIn_tuple_data r2 r1 se sd (by omega) ⟨.bl _, H, I, rfl, q⟩
theorem op_isK : OpR X (compareOp .Is) rIsK := by
  intro pins s σ H x y v u Q I rx ry h
  obtain ⟨b, c, rfl, e, q⟩ := h
  cases (show u = Value.bool b from ry)
  cases x with
  | non => cases (show v = Value.none from rx); cases e; exact wpAny_is_other rfl (fun z => nomatch z) ⟨.bl false, H, I, rfl, q⟩
  | bl a =>
    cases (show v = Value.bool a from rx)
    cases e
    by_cases e : a = b
    · subst e
      exact wpAny_is_self rfl ⟨.bl true, H, I, rfl, by simpa using q⟩
    · exact wpAny_is_other rfl (fun z => e (Value.bool.inj z)) ⟨.bl false, H, I, rfl, by simpa [e] using q⟩
  | int i => obtain ⟨t, rfl⟩ := rx; cases e; exact wpAny_is_other rfl (fun z => nomatch z) ⟨.bl false, H, I, rfl, q⟩
  | str i => obtain ⟨t, rfl⟩ := rx; cases e; exact wpAny_is_other rfl (fun z => nomatch z) ⟨.bl false, H, I, rfl, q⟩
  | ref a => cases (show v = Value.ref a from rx); cases e; exact wpAny_is_other rfl (fun z => nomatch z) ⟨.bl false, H, I, rfl, q⟩
  | _ => cases e
theorem op_nisK : OpR X (compareOp .IsNot) rNisK := by
  intro pins s σ H x y v u Q I rx ry h
  obtain ⟨b, c, rfl, e, q⟩ := h
  cases (show u = Value.bool b from ry)
  cases x with
  | non => cases (show v = Value.none from rx); cases e; exact wpAny_isNot_other rfl (fun z => nomatch z) ⟨.bl true, H, I, rfl, q⟩
  | bl a =>
    cases (show v = Value.bool a from rx)
    cases e
    by_cases e : a = b
    · subst e
      exact wpAny_isNot_self rfl ⟨.bl false, H, I, rfl, by simpa using q⟩
    · exact wpAny_isNot_other rfl (fun z => e (Value.bool.inj z)) ⟨.bl true, H, I, rfl, by simpa [e] using q⟩
  | int i => obtain ⟨t, rfl⟩ := rx; cases e; exact wpAny_isNot_other rfl (fun z => nomatch z) ⟨.bl true, H, I, rfl, q⟩
  | str i => obtain ⟨t, rfl⟩ := rx; cases e; exact wpAny_isNot_other rfl (fun z => nomatch z) ⟨.bl true, H, I, rfl, q⟩
  | ref a => cases (show v = Value.ref a from rx); cases e; exact wpAny_isNot_other rfl (fun z => nomatch z) ⟨.bl true, H, I, rfl, q⟩
  | _ => cases e
end
/-! ### the operators -/
def dAdd : D → D → Option D
  | .int i, .int j => some (.int (i + j))
  | .str a, .str b => if szOk (a.length + b.length) = true then some (.str (a ++ b)) else none
  | .tuple a, .tuple b => if szOk (a.length + b.length) = true then some (.tuple (a ++ b)) else none
  | .list a, .list b => if szOk (a.length + b.length) = true then some (.list (a ++ b)) else none
  | _, _ => none
def rAdd4 (K : PySem.W.Frag) : R2 := fun x y H Q => rI0 (fun i j => .int (i + j)) x y H Q ∨ (∃ i j, x = .str i ∧ y = .str j ∧ i.length + j.length ≤ sizeLine ∧ Q (.str (i ++ j)) H) ∨ rCatA K x y H Q ∨ rCat x y H Q
theorem op_add4 {X : Cx} : OpR X (binaryOp .Add) (rAdd4 X.K) := op_add.or (op_add_str.or (op_catA.or op_cat))
theorem RpL.nil_iff {K : PySem.W.Frag} {μ : Mu} {H : Hp} {xs : List D} {vs : List V} (r : RpL K μ H xs vs) : vs = [] ↔ xs = [] := by
  cases r <;> simp
theorem od_add {K : PySem.W.Frag} {mg : Str → Option Value} : OpD K mg (rAdd4 K) (pur2T dAdd) := OpD.purT fun μ H x y d v w Q N rx ry e q => by
  cases x with
  | int i =>
    cases y with
    | int j => cases e; exact .inl ⟨i, j, rx.rr.int, ry.rr.int, q.here (.int _)⟩
    | _ => cases e
  | str i =>
    cases y with
    | str j =>
      simp only [dAdd] at e
      split at e
      · rename_i h
        cases e
        exact .inr (.inl ⟨i, j, rx.rr.str, ry.rr.str, szOk_ok h, q.here (.str _)⟩)
      · cases e
    | _ => cases e
  | tuple a =>
    cases y with
    | tuple b =>
      simp only [dAdd] at e
      split at e
      · rename_i h
        cases e
        obtain ⟨p1, vs, rfl, h1, r1⟩ := rx.rr.tup
        obtain ⟨p2, ws, rfl, h2, r2⟩ := ry.rr.tup
        have t1 : Rp K μ H (.tuple a) (.ref p1) := by
          rcases rx with z | ⟨_, _, _, z, _⟩
          · exact z
          · cases z
        have t2 : Rp K μ H (.tuple b) (.ref p2) := by
          rcases ry with z | ⟨_, _, _, z, _⟩
          · exact z
          · cases z
        refine .inr (.inr (.inl ⟨p1, p2, vs, ws, rfl, rfl, .inl (.inl h1), .inl (.inl h2), by rw [← r1.length, ← r2.length]; exact szOk_ok h, fun z => ?_, fun z1 z2 => ?_, fun _ _ p hp => q.tup (r1.append r2) N hp⟩))
        · have z' := r1.nil_iff.mp z
          subst z'
          exact q.here t2
        · have z' := r2.nil_iff.mp z2
          subst z'
          rw [List.append_nil] at q
          exact q.here t1
      · cases e
    | _ => cases e
  | list a =>
    cases y with
    | list b =>
      simp only [dAdd] at e
      split at e
      · rename_i h
        cases e
        obtain ⟨p1, vs, rfl, h1, r1⟩ := rx.lst
        obtain ⟨p2, ws, rfl, h2, r2⟩ := ry.lst
        exact .inr (.inr (.inr ⟨p1, p2, vs, ws, rfl, rfl, h1, h2, by rw [← r1.length, ← r2.length]; exact szOk_ok h, fun p hp => q.lst (r1.append r2) N hp⟩))
      · cases e
    | _ => cases e
  | _ => cases y <;> cases e
/-- ints alone -/
def dI (C : Int → Int → Bool) (g : Int → Int → D) : D → D → Option D
  | .int i, .int j => if C i j = true then some (g i j) else none
  | _, _ => none
theorem od_I {K : PySem.W.Frag} {mg : Str → Option Value} {C : Int → Int → Prop} {Cb : Int → Int → Bool} {g : Int → Int → V} {gd : Int → Int → D} (hC : ∀ i j, Cb i j = true → C i j) (hg : ∀ μ H i j, Rp K μ H (gd i j) (g i j)) : OpD K mg (rI C g) (pur2 (dI Cb gd)) :=
  OpD.pur fun μ H x y d v w Q N rx ry e q => by
    cases x with
    | int i =>
      cases y with
      | int j =>
        simp only [dI] at e
        split at e
        · rename_i h
          cases e
          exact ⟨i, j, rx.int, ry.int, hC i j h, q.here (hg μ H i j)⟩
        · cases e
      | _ => cases e
    | _ => cases y <;> cases e
def dI0 (g : Int → Int → D) : D → D → Option D
  | .int i, .int j => some (g i j)
  | _, _ => none
theorem od_I0 {K : PySem.W.Frag} {mg : Str → Option Value} {g : Int → Int → V} {gd : Int → Int → D} (hg : ∀ μ H i j, Rp K μ H (gd i j) (g i j)) : OpD K mg (rI0 g) (pur2 (dI0 gd)) :=
  OpD.pur fun μ H x y d v w Q N rx ry e q => by
    cases x with
    | int i =>
      cases y with
      | int j =>
        cases e
        exact ⟨i, j, rx.int, ry.int, q.here (hg μ H i j)⟩
      | _ => cases e
    | _ => cases y <;> cases e
abbrev dSub : D → D → Option D := dI0 fun i j => .int (i - j)
abbrev dLt : D → D → Option D := dI0 fun i j => .bool (decide (i < j))
abbrev dLe : D → D → Option D := dI0 fun i j => .bool (decide (i ≤ j))
abbrev dGt : D → D → Option D := dI0 fun i j => .bool (decide (j < i))
abbrev dGe : D → D → Option D := dI0 fun i j => .bool (decide (j ≤ i))
theorem od_sub {K : PySem.W.Frag} {mg : Str → Option Value} : OpD K mg (rI0 fun i j => .int (i - j)) (pur2 dSub) := od_I0 fun _ _ _ _ => .int _
theorem od_lt {K : PySem.W.Frag} {mg : Str → Option Value} : OpD K mg (rI0 fun i j => .bl (decide (i < j))) (pur2 dLt) := od_I0 fun _ _ _ _ => .bl _
theorem od_le {K : PySem.W.Frag} {mg : Str → Option Value} : OpD K mg (rI0 fun i j => .bl (decide (i ≤ j))) (pur2 dLe) := od_I0 fun _ _ _ _ => .bl _
theorem od_gt {K : PySem.W.Frag} {mg : Str → Option Value} : OpD K mg (rI0 fun i j => .bl (decide (j < i))) (pur2 dGt) := od_I0 fun _ _ _ _ => .bl _
theorem od_ge {K : PySem.W.Frag} {mg : Str → Option Value} : OpD K mg (rI0 fun i j => .bl (decide (j ≤ i))) (pur2 dGe) := od_I0 fun _ _ _ _ => .bl _
/-- a divisor above 0, of at most 2 ^ 200 -/
def okDiv (_ j : Int) : Bool := decide (0 < j) && decide (j < 2 ^ 200)
def okMod (_ j : Int) : Bool := decide (0 < j)
def okMul (i j : Int) : Bool := (decide (-(2 ^ 64) < i) && decide (i < 2 ^ 64)) || (decide (-(2 ^ 64) < j) && decide (j < 2 ^ 64)) || (decide (i.natAbs < 2 ^ 300) && decide (j.natAbs < 2 ^ 300))
def okPow (i j : Int) : Bool := decide (0 ≤ j) && decide (j ≤ 1000000) && decide (i.natAbs < 2 ^ 64)
abbrev dFdiv : D → D → Option D := dI okDiv fun i j => .int (i / j)
abbrev dMod : D → D → Option D := dI okMod fun i j => .int (i % j)
abbrev dPow : D → D → Option D := dI okPow fun i j => .int (i ^ j.toNat)
theorem od_fdiv {K : PySem.W.Frag} {mg : Str → Option Value} : OpD K mg (rI CDivW fun i j => .int (i / j)) (pur2 dFdiv) := od_I (fun i j h => by
  unfold okDiv at h
  simp only [Bool.and_eq_true, decide_eq_true_eq] at h
  exact wide_div h.1 (b := 200) (by omega) (by decide) (by decide)) fun _ _ _ _ => .int _
theorem od_mod {K : PySem.W.Frag} {mg : Str → Option Value} : OpD K mg (rI (fun _ j => 0 < j) fun i j => .int (i % j)) (pur2 dMod) := od_I (fun i j h => of_decide_eq_true h) fun _ _ _ _ => .int _
theorem od_pow {K : PySem.W.Frag} {mg : Str → Option Value} : OpD K mg (rI CPow fun i j => .int (i ^ j.toNat)) (pur2 dPow) := od_I (fun i j h => by
  unfold okPow at h
  simp only [Bool.and_eq_true, decide_eq_true_eq] at h
  exact ⟨h.1.1, h.1.2, h.2⟩) fun _ _ _ _ => .int _
/-! * -/
def dMul : D → D → Option D
  | .int i, .int j => if okMul i j = true then some (.int (i * j)) else none
  | .tuple a, .int k => if (!a.isEmpty && decide (2 ≤ k) && decide (k ≤ 1000) && decide (a.length ≤ 1000)) = true then some (.tuple (List.replicate k.toNat a).flatten) else none
  | .list a, .int k => if (decide (-(2 ^ 63) ≤ k) && decide (k < 2 ^ 63) && szOk (a.length * k.toNat)) = true then some (.list (List.replicate k.toNat a).flatten) else none
  | _, _ => none
def CMul3 (i j : Int) : Prop := CMul i j ∨ CMulW i j
def rMul3 (K : PySem.W.Frag) : R2 := fun x y H Q => rI CMul (fun i j => .int (i * j)) x y H Q ∨ rI CMulW (fun i j => .int (i * j)) x y H Q ∨ rRepT K x y H Q ∨ rRep x y H Q
theorem op_mul3 {X : Cx} : OpR X (binaryOp .Mult) (rMul3 X.K) := op_mul.or (op_mulW.or (op_repT.or op_rep))
theorem RpL.rep {K : PySem.W.Frag} {μ : Mu} {H : Hp} {xs : List D} {vs : List V} (r : RpL K μ H xs vs) : ∀ k : Nat, RpL K μ H (List.replicate k xs).flatten (List.replicate k vs).flatten
  | 0 => .nil
  | k + 1 => by
    rw [List.replicate_succ, List.flatten_cons, List.replicate_succ, List.flatten_cons]
    exact r.append (RpL.rep r k)
theorem od_mul {K : PySem.W.Frag} {mg : Str → Option Value} : OpD K mg (rMul3 K) (pur2T dMul) := OpD.purT fun μ H x y d v w Q N rx ry e q => by
  cases x with
  | int i =>
    cases y with
    | int j =>
      simp only [dMul] at e
      split at e
      · rename_i h
        cases e
        unfold okMul at h
        simp only [Bool.or_eq_true, Bool.and_eq_true, decide_eq_true_eq] at h
        rcases h with (h | h) | h
        · exact .inl ⟨i, j, rx.rr.int, ry.rr.int, .inl h, q.here (.int _)⟩
        · exact .inl ⟨i, j, rx.rr.int, ry.rr.int, .inr h, q.here (.int _)⟩
        · exact .inr (.inl ⟨i, j, rx.rr.int, ry.rr.int, wide_mul h.1 h.2 (by decide) (by decide) (by decide), q.here (.int _)⟩)
      · cases e
    | _ => cases e
  | tuple a =>
    cases y with
    | int k =>
      simp only [dMul] at e
      split at e
      · rename_i h
        cases e
        simp only [Bool.and_eq_true, decide_eq_true_eq, Bool.not_eq_true'] at h
        obtain ⟨p1, vs, rfl, h1, r1⟩ := rx.rr.tup
        refine .inr (.inr (.inl ⟨p1, k, vs, rfl, ry.rr.int, .inl (.inl h1), fun z => ?_, h.1.1.2, h.1.2, by rw [← r1.length]; exact h.2, fun p hp => q.tup (r1.rep _) N hp⟩))
        have z' := r1.nil_iff.mp z
        subst z'
        simp at h
      · cases e
    | _ => cases e
  | list a =>
    cases y with
    | int k =>
      simp only [dMul] at e
      split at e
      · rename_i h
        cases e
        simp only [Bool.and_eq_true, decide_eq_true_eq] at h
        obtain ⟨p1, vs, rfl, h1, r1⟩ := rx.lst
        exact .inr (.inr (.inr ⟨p1, k, vs, rfl, ry.rr.int, h1, h.1.1, h.1.2, by rw [← r1.length]; exact szOk_ok h.2, fun p hp => q.lst (r1.rep _) N hp⟩))
      · cases e
    | _ => cases e
  | _ => cases y <;> cases e
/-! ==, in, is -/
def dEq (x y : D) : Option D := if decide (min x.depth y.depth ≤ 60) = true then some (.bool (PyData.eqv x y)) else none
def dNe (x y : D) : Option D := if decide (min x.depth y.depth ≤ 60) = true then some (.bool (!PyData.eqv x y)) else none
def inD (x : D) : D → Option Bool
  | .list ys => if decide (x.depth ≤ 60) = true then some (ys.any fun z => PyData.eqv z x) else none
  | .tuple ys => if decide (x.depth ≤ 60) = true then some (ys.any fun z => PyData.eqv z x) else none
  | _ => none
def dIn (x y : D) : Option D := (inD x y).map PyData.bool
def dNin (x y : D) : Option D := (inD x y).map fun b => PyData.bool !b
def dIsN : D → D → Option D
  | .none, .none => some (.bool true)
  | _, .none => some (.bool false)
  | _, _ => none
def dNotN : D → D → Option D
  | .none, .none => some (.bool false)
  | _, .none => some (.bool true)
  | _, _ => none
def isB (b : Bool) : D → Bool
  | .bool c => decide (c = b)
  | _ => false
def dIsK : D → D → Option D
  | x, .bool b => some (.bool (isB b x))
  | _, _ => none
def dNisK : D → D → Option D
  | x, .bool b => some (.bool !isB b x)
  | _, _ => none
section
variable {K : PySem.W.Frag} {mg : Str → Option Value}
theorem od_eq : OpD K mg (rEqP K) (pur2 dEq) := OpD.pur fun μ H x y d v w Q N rx ry e q => by
  simp only [dEq] at e
  split at e
  · rename_i h
    cases e
    exact ⟨x, y, rx.dp, ry.dp, rx.plain, ry.plain, of_decide_eq_true h, q.here (.bl _)⟩
  · cases e
theorem od_ne : OpD K mg (rNeP K) (pur2 dNe) := OpD.pur fun μ H x y d v w Q N rx ry e q => by
  simp only [dNe] at e
  split at e
  · rename_i h
    cases e
    exact ⟨x, y, rx.dp, ry.dp, rx.plain, ry.plain, of_decide_eq_true h, q.here (.bl _)⟩
  · cases e
theorem inD_ok {x y : D} {b : Bool} (h : inD x y = some b) : x.depth ≤ 60 ∧ ∃ ds, (y = .list ds ∨ y = .tuple ds) ∧ b = ds.any fun z => PyData.eqv z x := by
  cases y with
  | list ds =>
    simp only [inD] at h
    split at h
    · rename_i h1
      cases h
      exact ⟨of_decide_eq_true h1, ds, .inl rfl, rfl⟩
    · cases h
  | tuple ds =>
    simp only [inD] at h
    split at h
    · rename_i h1
      cases h
      exact ⟨of_decide_eq_true h1, ds, .inr rfl, rfl⟩
    · cases h
  | _ => cases h
theorem od_in : OpD K mg (rInP K) (pur2 dIn) := OpD.pur fun μ H x y d v w Q N rx ry e q => by
  unfold dIn at e
  cases h : inD x y with
  | none => rw [h] at e; cases e
  | some b =>
    rw [h] at e
    cases e
    obtain ⟨hd, ds, hy, rfl⟩ := inD_ok h
    have hp : PyData.plainAll ds = true := by
      rcases hy with rfl | rfl
      · exact ry.plain
      · exact ry.plain
    have hq : Dp K H w (.list ds) ∨ Dp K H w (.tuple ds) := by
      rcases hy with rfl | rfl
      · exact .inl ry.dp
      · exact .inr ry.dp
    exact ⟨x, ds, rx.dp, hq, rx.plain, hp, hd, q.here (.bl _)⟩
theorem od_nin : OpD K mg (rNinP K) (pur2 dNin) := OpD.pur fun μ H x y d v w Q N rx ry e q => by
  unfold dNin at e
  cases h : inD x y with
  | none => rw [h] at e; cases e
  | some b =>
    rw [h] at e
    cases e
    obtain ⟨hd, ds, hy, rfl⟩ := inD_ok h
    have hp : PyData.plainAll ds = true := by
      rcases hy with rfl | rfl
      · exact ry.plain
      · exact ry.plain
    have hq : Dp K H w (.list ds) ∨ Dp K H w (.tuple ds) := by
      rcases hy with rfl | rfl
      · exact .inl ry.dp
      · exact .inr ry.dp
    exact ⟨x, ds, rx.dp, hq, rx.plain, hp, hd, q.here (.bl _)⟩
theorem Rr.isN {μ : Mu} {H : Hp} {x : D} {v : V} (r : Rr K μ H x v) : (v = .non ↔ x = .none) := by
  cases x with
  | none => rw [r.non]; simp
  | bool b => rw [r.bl]; simp
  | int b => rw [r.int]; simp
  | str b => rw [r.str]; simp
  | list xs => obtain ⟨a, vs, rfl, _⟩ := r.lst; simp
  | tuple xs => obtain ⟨a, vs, rfl, _⟩ := r.tup; simp
  | dict xs =>
    rcases r with h | ⟨a, ys, vs, e1, _⟩ | ⟨a, ns, e1, _⟩
    · cases h
    · cases e1
    · cases e1
theorem od_isN : OpD K mg (fun x y H Q => y = .non ∧ Q (.bl (decide (x = .non))) H) (pur2 dIsN) := OpD.pur fun μ H x y d v w Q N rx ry e q => by
  cases y with
  | none =>
    refine ⟨ry.non, ?_⟩
    have h1 := rx.isN
    cases x with
    | none =>
      cases e
      rw [decide_eq_true (h1.mpr rfl)]
      exact q.here (.bl _)
    | _ =>
      cases e
      rw [decide_eq_false fun z => by cases h1.mp z]
      exact q.here (.bl _)
  | _ => cases x <;> cases e
theorem od_notN : OpD K mg (fun x y H Q => y = .non ∧ Q (.bl (!decide (x = .non))) H) (pur2 dNotN) := OpD.pur fun μ H x y d v w Q N rx ry e q => by
  cases y with
  | none =>
    refine ⟨ry.non, ?_⟩
    have h1 := rx.isN
    cases x with
    | none =>
      cases e
      rw [decide_eq_true (h1.mpr rfl)]
      exact q.here (.bl _)
    | _ =>
      cases e
      rw [decide_eq_false fun z => by cases h1.mp z]
      exact q.here (.bl _)
  | _ => cases x <;> cases e
theorem Rr.isK {μ : Mu} {H : Hp} {x : D} {v : V} (r : Rr K μ H x v) (b : Bool) : isBl b v = some (isB b x) := by
  cases x with
  | none => rw [r.non]; rfl
  | bool b => rw [r.bl]; rfl
  | int b => rw [r.int]; rfl
  | str b => rw [r.str]; rfl
  | list xs => obtain ⟨a, vs, rfl, _⟩ := r.lst; rfl
  | tuple xs => obtain ⟨a, vs, rfl, _⟩ := r.tup; rfl
  | dict xs =>
    rcases r with h | ⟨a, ys, vs, e1, _⟩ | ⟨a, ns, e1, _⟩
    · cases h
    · cases e1
    · cases e1
theorem od_isK : OpD K mg rIsK (pur2 dIsK) := OpD.pur fun μ H x y d v w Q N rx ry e q => by
  cases y with
  | bool b => cases e; exact ⟨b, isB b x, ry.bl, rx.isK b, q.here (.bl _)⟩
  | _ => cases e
theorem od_nisK : OpD K mg rNisK (pur2 dNisK) := OpD.pur fun μ H x y d v w Q N rx ry e q => by
  cases y with
  | bool b => cases e; exact ⟨b, isB b x, ry.bl, rx.isK b, q.here (.bl _)⟩
  | _ => cases e
end
end DL
/-! loops, comprehensions, statements, calls -/
namespace DL
open PySem PySem.Spec L2
/-! ### what is walked -/
structure DWalk (K : PySem.W.Frag) (μ : Mu) (H : Hp) (items : List D) (J : It) : Prop where
  ex : ∃ (n : Nat) (G : Hp → Prop) (Y : Nat → Hp → V → Hp → Prop), Walk J n G Y ∧ n = items.length ∧ (∀ μ' H', Grow μ H μ' H' → G H') ∧
    ∀ (i : Nat) (μ' : Mu) (H1 : Hp) (x : V) (H2 : Hp), i < n → Grow μ H μ' H1 → (∀ p, H1 p = none → p ∉ μ') → Y i H1 x H2 → Step μ' H1 μ' H2 ∧ (∀ a ∈ μ', H2 a = H1 a) ∧ ∃ d, items[i]? = some d ∧ Rp K μ' H2 d x
abbrev DI := DEnv → Store → Rs (List D)
def tI (K : PySem.W.Frag) (mg : Str → Option Value) (W : WX) (f : DI) : TI := fun σ H R => ∃ δ μ st, RE K μ H δ σ ∧ RepS K μ H st ∧ Den K mg (DWalk K) (fun c d H => W c d σ H) R μ H (f δ st)
abbrev DIx (X : Cx) (W : WX) (tg iter : Expr) (f : DI) : Prop := PI X tg iter (tI X.K X.mg W f)
theorem PI.imp {X : Cx} {tg e : Expr} {t t' : TI} (h : PI X tg e t) (w : ∀ σ H R, t' σ H R → t σ H R) : PI X tg e t' := ⟨fun pins s σ H R I q => h.run pins s σ H R I (w σ H R q)⟩
/-- a list or a tuple of data -/
def asSeq : Vl → Store → Rs (List D) := fun x st => match x with
  | .d (.list xs) => .ok xs st
  | .d (.tuple xs) => .ok xs st
  | _ => .bad
def iSeq (f : DE) : DI := fun δ st => (f δ st).bind asSeq
def iSq (K : PySem.W.Frag) (tl : TE) : TI := fun σ H R => tl σ H fun x H1 => (∃ a xs, x = .ref a ∧ SqL K H1 a xs ∧ R (Itl K a) H1) ∨ ∃ a xs, x = .ref a ∧ SqT K H1 a xs ∧ R (Itt K a) H1
section
variable {X : Cx} {W : WX} {tg : Expr}
theorem pi_seq {l : Expr} {tl : TE} (hl : PE X l tl) : PI X tg l (iSq X.K tl) := by
  refine ⟨fun pins s σ H R I h => ?_⟩
  refine thn (hl.run pins s σ H _ I h) fun v s1 ⟨x, H1, I1, r1, q1⟩ => ?_
  rcases q1 with ⟨a, xs, e, hq, q⟩ | ⟨a, xs, e, hq, q⟩
  · subst e
    cases r1
    obtain ⟨its, rv, p, hz⟩ := I1.list hq
    refine wpAny_pyIter_list p.isList ?_
    refine ⟨s1.heap.objs.size, [s1.heap.objs.size], _, _, H1, rfl, I1.kept (t' := s1.toks) fun b o e => Heap.get?_push_of_some _ e, turn_list a _, ⟨_, Heap.get?_push_size _ rfl, rfl, rfl⟩, fun b hb => ?_, q⟩
    have e : b = s1.heap.objs.size := by simpa using hb
    subst e
    exact I1.fpOk (Nat.le_refl _) (I1.hok.fresh (Nat.le_refl _))
  · subst e
    cases r1
    obtain ⟨its, rv, p, hz⟩ := I1.tuple hq
    refine wpAny_pyIter_tuple (show s1.heap.IsTuple a its.toArray from p) ?_
    refine ⟨s1.heap.objs.size, [s1.heap.objs.size], _, _, H1, rfl, I1.kept (t' := s1.toks) fun b o e => Heap.get?_push_of_some _ e, turn_tuple a _, ⟨_, Heap.get?_push_size _ rfl, rfl, rfl⟩, fun b hb => ?_, q⟩
    have e : b = s1.heap.objs.size := by simpa using hb
    subst e
    exact I1.fpOk (Nat.le_refl _) (I1.hok.fresh (Nat.le_refl _))
theorem dwalk_list {K : PySem.W.Frag} {μ : Mu} {H : Hp} {a : Addr} {xs : List D} (h : Rp K μ H (.list xs) (.ref a)) : DWalk K μ H xs (Itl K a) := by
  cases h with
  | @lst a vs xs q r =>
    refine ⟨_, _, _, walk_list (xs := vs), r.length.symm, fun μ' H' s => (q.grow s).sq, fun i μ' H1 x H2 hi s N y => ?_⟩
    obtain ⟨rfl, e⟩ := y
    obtain ⟨d, h1, h2⟩ := (r.grow s).get2 e
    exact ⟨.refl, fun _ _ => rfl, d, h1, h2⟩
theorem dwalk_tup {K : PySem.W.Frag} {μ : Mu} {H : Hp} {a : Addr} {xs : List D} (h : Rp K μ H (.tuple xs) (.ref a)) : DWalk K μ H xs (Itt K a) := by
  cases h with
  | @tup a vs xs q r =>
    refine ⟨_, _, _, walk_tup (xs := vs), r.length.symm, fun μ' H' s => (q.grow s).sq, fun i μ' H1 x H2 hi s N y => ?_⟩
    obtain ⟨rfl, e⟩ := y
    obtain ⟨d, h1, h2⟩ := (r.grow s).get2 e
    exact ⟨.refl, fun _ _ => rfl, d, h1, h2⟩
theorem di_seq {e : Expr} {f : DE} (h : DEx X W e f) : DIx X W tg e (iSeq f) := PI.imp (pi_seq h) fun σ H R q =>
  tE.bind (γ := List D) (k := fun _ => asSeq) q fun δ μ1 H1 x st1 v hE hS rx q1 => by
    cases x with
    | r n => exact q1.elim
    | s n => exact q1.elim
    | f n => exact q1.elim
    | d x =>
      cases x with
      | list xs =>
        have rx' : Rp X.K μ1 H1 (.list xs) v := rx
        cases id rx' with
        | @lst a vs xs q2 r => exact .inl ⟨a, vs, rfl, q2.sq, q1 _ μ1 H1 .refl hS (dwalk_list rx')⟩
      | tuple xs =>
        have rx' : Rp X.K μ1 H1 (.tuple xs) v := rx
        cases id rx' with
        | @tup a vs xs q2 r => exact .inr ⟨a, vs, rfl, q2.sq, q1 _ μ1 H1 .refl hS (dwalk_tup rx')⟩
      | _ => exact q1.elim
/-- range -/
def rngD (lo : Int) (n : Nat) : List D := (List.range n).map fun i => PyData.int (lo + (i : Nat))
theorem dwalk_range {K : PySem.W.Frag} {μ : Mu} {H : Hp} {lo : Int} {n : Nat} : DWalk K μ H (rngD lo n) (Itr lo n) := by
  refine ⟨_, _, _, walk_range (lo := lo) (n := n), by simp [rngD], fun _ _ _ => trivial, fun i μ' H1 x H2 hi s N y => ?_⟩
  obtain ⟨rfl, rfl⟩ := y
  exact ⟨.refl, fun _ _ => rfl, _, by simp [rngD, hi], .int _⟩
def ok62 (j : Int) : Bool := decide (-(2 ^ 62) ≤ j) && decide (j < 2 ^ 62)
theorem ok62_ok {j : Int} (h : ok62 j = true) : -(2 ^ 62) ≤ j ∧ j < 2 ^ 62 := by
  unfold ok62 at h
  simpa only [Bool.and_eq_true, decide_eq_true_eq] using h
def rng1 : List Vl → Store → Rs (List D) := fun xs st => match xs with
  | [.d (.int j)] => if ok62 j = true then .ok (rngD 0 j.toNat) st else .bad
  | _ => .bad
def rng2 : List Vl → Store → Rs (List D) := fun xs st => match xs with
  | [.d (.int i), .d (.int j)] => if (ok62 i && ok62 j) = true then .ok (rngD i (j - i).toNat) st else .bad
  | _ => .bad
def iRng (o : List Vl → Store → Rs (List D)) (a : DA) : DI := fun δ st => (a δ st).bind o
theorem di_range1 {e : Expr} {a : DA} {p pos : Pos} (hg : Gl X "range") (hm : X.mg "range" = none) (ha : DAx X W [e] a) (hs : starEach [e] X.env = [(false, eval e X.env)] := by rfl) : DIx X W tg (.Call (.Name "range" p) [e] [] pos) (iRng rng1 a) := PI.imp (pi_range1 hg hm ha hs) fun σ H R q =>
  tA.bind (γ := List D) (k := fun _ => rng1) q fun δ μ1 H1 xs st1 vs hE hS rx q1 => by
    unfold rng1 at q1
    split at q1
    · rename_i j
      cases rx with
      | cons h1 h2 =>
        cases h2
        cases h1
        by_cases hj : ok62 j = true
        · rw [if_pos hj] at q1
          exact ⟨j, rfl, (ok62_ok hj).1, (ok62_ok hj).2, q1 _ μ1 H1 .refl hS dwalk_range⟩
        · rw [if_neg hj] at q1; exact q1.elim
    · exact q1.elim
theorem di_range2 {e e2 : Expr} {a : DA} {p pos : Pos} (hg : Gl X "range") (hm : X.mg "range" = none) (ha : DAx X W [e, e2] a) (hs : starEach [e, e2] X.env = [(false, eval e X.env), (false, eval e2 X.env)] := by rfl) (hs2 : starEach [e2] X.env = [(false, eval e2 X.env)] := by rfl) : DIx X W tg (.Call (.Name "range" p) [e, e2] [] pos) (iRng rng2 a) := PI.imp (pi_range2 hg hm ha hs hs2) fun σ H R q =>
  tA.bind (γ := List D) (k := fun _ => rng2) q fun δ μ1 H1 xs st1 vs hE hS rx q1 => by
    unfold rng2 at q1
    split at q1
    · rename_i i j
      cases rx with
      | cons h1 h2 =>
        cases h2 with
        | cons h2 h3 =>
          cases h3
          cases h1
          cases h2
          by_cases hj : (ok62 i && ok62 j) = true
          · rw [if_pos hj] at q1
            obtain ⟨j1, j2⟩ := Bool.and_eq_true_iff.mp hj
            exact ⟨i, j, rfl, ⟨(ok62_ok j1).1, (ok62_ok j1).2, (ok62_ok j2).1, (ok62_ok j2).2⟩, q1 _ μ1 H1 .refl hS dwalk_range⟩
          · rw [if_neg hj] at q1; exact q1.elim
    · exact q1.elim
/-- pairs, each a new tuple -/
theorem dwalk_pair {K : PySem.W.Frag} {μ : Mu} {H : Hp} {n : Nat} {G : Hp → Prop} {xs ys : Nat → Option V} {J : It} {ds es : List D} (w : Walk J n G (YPair xs ys)) (hG : ∀ μ' H', Grow μ H μ' H' → G H') (hn : n = min ds.length es.length)
    (hx : ∀ i x, i < n → xs i = some x → ∃ d, ds[i]? = some d ∧ Rp K μ H d x) (hy : ∀ i x, i < n → ys i = some x → ∃ d, es[i]? = some d ∧ Rp K μ H d x) : DWalk K μ H ((ds.zip es).map fun p => .tuple [p.1, p.2]) J := by
  refine ⟨n, G, _, w, by simp [hn], hG, fun i μ' H1 x H2 hi s N y => ?_⟩
  obtain ⟨T, u, v, rfl, hT, rfl, h1, h2⟩ := y
  obtain ⟨d, e1, r1⟩ := hx i u hi h1
  obtain ⟨e, e2, r2⟩ := hy i v hi h2
  have s1 : Step μ' H1 μ' (upd H1 T (.tup [u, v])) := step_new hT
  refine ⟨s1, fun a ha => upd_ne fun z => N T hT (z ▸ ha), .tuple [d, e], ?_, .tup ⟨upd_same, N T hT⟩ (.cons (r1.grow (s.trans s1.grow)) (.cons (r2.grow (s.trans s1.grow)) .nil))⟩
  have : (ds.zip es)[i]? = some (d, e) := by rw [List.getElem?_zip_eq_some]; exact ⟨e1, e2⟩
  rw [List.getElem?_map, this]; rfl
def zipD (xs ys : List D) : List D := (xs.zip ys).map fun p => PyData.tuple [p.1, p.2]
def enumD (xs : List D) : List D := ((rngD 0 xs.length).zip xs).map fun p => PyData.tuple [p.1, p.2]
def zipL : List Vl → Store → Rs (List D) := fun xs st => match xs with
  | [.d (.list a), .d (.list b)] => .ok (zipD a b) st
  | _ => .bad
def zipT : List Vl → Store → Rs (List D) := fun xs st => match xs with
  | [.d (.tuple a), .d (.tuple b)] => .ok (zipD a b) st
  | _ => .bad
def enumL : List Vl → Store → Rs (List D) := fun xs st => match xs with
  | [.d (.list a)] => .ok (enumD a) st
  | _ => .bad
theorem Rp.lst_inv {K : PySem.W.Frag} {μ : Mu} {H : Hp} {xs : List D} {v : V} (h : Rp K μ H (.list xs) v) : ∃ a vs, v = .ref a ∧ Lm K μ H a vs ∧ RpL K μ H xs vs := by
  cases h with | lst q r => exact ⟨_, _, rfl, q, r⟩
theorem Rp.tup_inv {K : PySem.W.Frag} {μ : Mu} {H : Hp} {xs : List D} {v : V} (h : Rp K μ H (.tuple xs) v) : ∃ a vs, v = .ref a ∧ Tm K μ H a vs ∧ RpL K μ H xs vs := by
  cases h with | tup q r => exact ⟨_, _, rfl, q, r⟩
theorem di_zipL {e e2 : Expr} {a : DA} {p pos tpos : Pos} {elts : List Expr} {kk : Nat} (hg : Gl X "zip") (hm : X.mg "zip" = none) (ha : DAx X W [e, e2] a)
    (hs : starEach [e, e2] X.env = (false, eval e X.env) :: starEach [e2] X.env := by rfl) (hpl : (backTo pos (starEach [e2] X.env)).any (·.1) = false := by rfl) : DIx X W (.Tuple elts kk tpos) (.Call (.Name "zip" p) [e, e2] [] pos) (iRng zipL a) := PI.imp (pi_zip hg hm ha hs hpl) fun σ H R q =>
  tA.bind (γ := List D) (k := fun _ => zipL) q fun δ μ1 H1 xs st1 vs hE hS rx q1 => by
    unfold zipL at q1
    split at q1
    · rename_i i j
      cases rx with
      | cons h1 h2 =>
        cases h2 with
        | cons h2 h3 =>
          cases h3
          obtain ⟨a1, v1, rfl, l1, r1⟩ := Rp.lst_inv h1
          obtain ⟨a2, v2, rfl, l2, r2⟩ := Rp.lst_inv h2
          refine ⟨a1, a2, v1, v2, rfl, l1.sq, l2.sq, q1 _ μ1 H1 .refl hS ?_⟩
          refine dwalk_pair (walk_zip (xs := v1) (ys := v2) (n := min v1.length v2.length) rfl) (fun μ' H' s => ⟨(l1.grow s).sq, (l2.grow s).sq⟩) (by rw [r1.length, r2.length]) (fun i x _ e => r1.get2 e) (fun i x _ e => r2.get2 e)
    · exact q1.elim
theorem di_enumL {e : Expr} {a : DA} {p pos tpos : Pos} {elts : List Expr} {kk : Nat} (hg : Gl X "enumerate") (hm : X.mg "enumerate" = none) (ha : DAx X W [e] a) (hs : starEach [e] X.env = [(false, eval e X.env)] := by rfl) :
    DIx X W (.Tuple elts kk tpos) (.Call (.Name "enumerate" p) [e] [] pos) (iRng enumL a) := PI.imp (pi_enum hg hm ha hs) fun σ H R q =>
  tA.bind (γ := List D) (k := fun _ => enumL) q fun δ μ1 H1 xs st1 vs hE hS rx q1 => by
    unfold enumL at q1
    split at q1
    · rename_i i
      cases rx with
      | cons h1 h2 =>
        cases h2
        obtain ⟨a1, v1, rfl, l1, r1⟩ := Rp.lst_inv h1
        refine ⟨a1, v1, rfl, l1.sq, q1 _ μ1 H1 .refl hS ?_⟩
        refine dwalk_pair (walk_enum (xs := v1)) (fun μ' H' s => (l1.grow s).sq) (by simp [rngD, r1.length]) (fun i x hi e => ?_) (fun i x _ e => r1.get2 e)
        cases e
        exact ⟨.int (i : Nat), by simp [rngD, r1.length, hi], .int _⟩
    · exact q1.elim
end
end DL
/-! targets, comprehensions -/
namespace DL
open PySem PySem.Spec L2
/-! ### targets -/
abbrev GD := D → DEnv → Option DEnv
/-- only these slots differ -/
structure Only (ss : List Nat) (σ σ' : L2.St) : Prop where
  len : σ'.length = σ.length
  at_ : ∀ i, i ∉ ss → σ'[i]? = σ[i]?
theorem Only.refl {ss : List Nat} {σ : L2.St} : Only ss σ σ := ⟨rfl, fun _ _ => rfl⟩
theorem Only.trans {ss tt : List Nat} {σ σ1 σ2 : L2.St} (a : Only ss σ σ1) (b : Only tt σ1 σ2) : Only (ss ++ tt) σ σ2 := ⟨b.len.trans a.len, fun i hi => by
  rw [List.mem_append, not_or] at hi
  rw [b.at_ i hi.2, a.at_ i hi.1]⟩
theorem wipe_get {σ : L2.St} {i : Nat} : ∀ {ss : List Nat}, (L2.wipe σ ss)[i]? = if i ∈ ss ∧ i < σ.length then some none else σ[i]?
  | [] => by simp [L2.wipe]
  | s :: ss => by
    have ih := @wipe_get σ i ss
    unfold L2.wipe
    by_cases h : s = i
    · subst h
      by_cases hl : s < σ.length
      · rw [List.getElem?_set_self (by rw [wipe_length]; exact hl), if_pos ⟨List.mem_cons_self, hl⟩]
      · rw [if_neg fun q => hl q.2, List.getElem?_eq_none (by rw [List.length_set, wipe_length]; omega), List.getElem?_eq_none (by omega)]
    · rw [List.getElem?_set_ne h, ih]
      have e : (i ∈ s :: ss ∧ i < σ.length) ↔ (i ∈ ss ∧ i < σ.length) := by
        rw [List.mem_cons]
        constructor
        · rintro ⟨q | q, r⟩
          · exact absurd q.symm h
          · exact ⟨q, r⟩
        · rintro ⟨q, r⟩
          exact ⟨.inr q, r⟩
      simp only [e]
theorem wipe_only {ss own : List Nat} {σ σ' : L2.St} (o : Only ss (L2.wipe σ own) σ') (h : ∀ i ∈ ss, i ∈ own) : L2.wipe σ' own = L2.wipe σ own := by
  refine List.ext_getElem? fun i => ?_
  rw [wipe_get, wipe_get]
  have hl : σ'.length = σ.length := by rw [o.len, wipe_length]
  by_cases hi : i ∈ own
  · by_cases hlt : i < σ.length
    · rw [if_pos ⟨hi, by rw [hl]; exact hlt⟩, if_pos ⟨hi, hlt⟩]
    · rw [if_neg fun q => hlt (by rw [← hl]; exact q.2), if_neg fun q => hlt q.2, List.getElem?_eq_none (by omega), List.getElem?_eq_none (by omega)]
  · rw [if_neg fun q => hi q.1, if_neg fun q => hi q.1, o.at_ i fun z => hi (h i z), wipe_get, if_neg fun q => hi q.1]
def tG (K : PySem.W.Frag) (ss : List Nat) (g : GD) : TG := fun v σ H Q => ∃ δ μ st x, RE K μ H δ σ ∧ RepS K μ H st ∧ Rp K μ H x v ∧ ∃ δ', g x δ = some δ' ∧ ∀ σ', RE K μ H δ' σ' → Only ss σ σ' → Q σ' H
abbrev DGx (X : Cx) (ss : List Nat) (tg : Expr) (g : GD) : Prop := PG X tg (tG X.K ss g)
theorem PG.imp {X : Cx} {tg : Expr} {t t' : TG} (h : PG X tg t) (w : ∀ v σ H Q, t' v σ H Q → t v σ H Q) : PG X tg t' := ⟨fun pins s σ H v u Q I r q => h.run pins s σ H v u Q I r (w v σ H Q q)⟩
theorem PGs.imp {X : Cx} {tg : List Expr} {t t' : TGs} (h : PGs X tg t) (w : ∀ v σ H Q, t' v σ H Q → t v σ H Q) : PGs X tg t' := ⟨fun pins s σ H v u Q I r q => h.run pins s σ H v u Q I r (w v σ H Q q)⟩
def gN (i : Nat) : GD := fun x δ => some (δ.set i (some (.d x)))
section
variable {X : Cx} {pos : Pos}
theorem dg_name {i : Nat} {x : Str} (hN : X.N.Nodup) (hi : X.N[i]? = some x) (hx : Loc X.env.scope x) (hf : X.fn x = true ∨ X.env.scope.names.lookup x = some .local := by first | exact .inl rfl | exact .inr rfl | assumption) : DGx X [i] (.Name x pos) (gN i) := PG.imp (pg_name hN hi hx hf) fun v σ H Q ⟨δ, μ, st, x, hE, hS, rx, δ', e, q⟩ => by
  cases e
  exact q _ (hE.set i rx) ⟨by rw [List.length_set], fun j hj => List.getElem?_set_ne fun z => hj (by simp [z])⟩
def gsL : List GD → List D → DEnv → Option DEnv
  | [], [], δ => some δ
  | g :: gs, x :: xs, δ => (g x δ).bind (gsL gs xs)
  | _, _, _ => none
def tGs (K : PySem.W.Frag) (ss : List Nat) (gs : List GD) : TGs := fun vs σ H Q => ∃ δ μ st xs, RE K μ H δ σ ∧ RepS K μ H st ∧ RpL K μ H xs vs ∧ ∃ δ', gsL gs xs δ = some δ' ∧ ∀ σ', RE K μ H δ' σ' → Only ss σ σ' → Q σ' H
abbrev DGsx (X : Cx) (ss : List Nat) (tg : List Expr) (g : List GD) : Prop := PGs X tg (tGs X.K ss g)
theorem dgs_nil : DGsx X [] [] [] := PGs.imp pgs_nil fun vs σ H Q ⟨δ, μ, st, xs, hE, hS, rx, δ', e, q⟩ => by
  cases xs with
  | nil => cases rx; cases e; exact ⟨rfl, q _ hE .refl⟩
  | cons x xs => cases e
theorem dgs_cons {e : Expr} {es : List Expr} {ss tt : List Nat} {g : GD} {gs : List GD} (h1 : DGx X ss e g) (h2 : DGsx X tt es gs)
    (hs : (assignEach (e :: es) X.env).map (·.2) = assign e X.env :: (assignEach es X.env).map (·.2) := by rfl) : DGsx X (ss ++ tt) (e :: es) (g :: gs) := PGs.imp (pgs_cons h1 h2 hs) fun vs σ H Q ⟨δ, μ, st, xs, hE, hS, rx, δ', e, q⟩ => by
  cases xs with
  | nil => cases e
  | cons x xs =>
    cases rx with
    | cons r1 r2 =>
      have e : (g x δ).bind (gsL gs xs) = some δ' := e
      cases e1 : g x δ with
      | none => rw [e1] at e; cases e
      | some δ1 =>
        rw [e1] at e
        exact ⟨_, _, rfl, δ, μ, st, x, hE, hS, r1, δ1, e1, fun σ1 hE1 o1 => ⟨δ1, μ, st, xs, hE1, hS, r2, δ', e, fun σ2 hE2 o2 => q σ2 hE2 (o1.trans o2)⟩⟩
def gT (gs : List GD) : GD := fun x δ => match x with
  | .tuple xs => gsL gs xs δ
  | _ => none
theorem gsL_length : ∀ {gs : List GD} {xs : List D} {δ δ' : DEnv}, gsL gs xs δ = some δ' → xs.length = gs.length
  | [], [], _, _, _ => rfl
  | g :: gs, x :: xs, δ, δ', e => by
    have e : (g x δ).bind (gsL gs xs) = some δ' := e
    cases e1 : g x δ with
    | none => rw [e1] at e; cases e
    | some δ1 =>
      rw [e1] at e
      rw [List.length_cons, List.length_cons, gsL_length e]
  | [], _ :: _, _, _, e => by cases e
  | _ :: _, [], _, _, e => by cases e
theorem dg_tup {es : List Expr} {k : Nat} {ss : List Nat} {gs : List GD} (hc : X.calm = true) (h : DGsx X ss es gs)
    (hn : (assignEach es X.env).length = gs.length := by rfl) (hst : (assignEach es X.env).findIdx? (·.1) = none := by rfl) : DGx X ss (.Tuple es k pos) (gT gs) := PG.imp (pg_tup hc h hn hst) fun v σ H Q ⟨δ, μ, st, x, hE, hS, rx, δ', e, q⟩ => by
  cases x with
  | tuple xs =>
    have e : gsL gs xs δ = some δ' := e
    obtain ⟨a, vs, rfl, l, r⟩ := Rp.tup_inv rx
    exact ⟨a, vs, rfl, l.sq, by rw [← r.length]; exact gsL_length e, δ, μ, st, xs, hE, hS, r, δ', e, q⟩
  | _ => cases e
end
/-! ### list comprehensions -/
abbrev WF : WX := fun _ _ _ _ => False
def lcL (g : GD) (t : DT) (f : DE) (δw : DEnv) : List D → Store → Rs (List D)
  | [], st => .ok [] st
  | x :: xs, st => match g x δw with
    | none => .bad
    | some δ1 => match t δ1 st with
      | .ok true st1 => (match f δ1 st1 with
        | .ok (.d y) st2 => (lcL g t f δw xs st2).bind fun ys st3 => .ok (y :: ys) st3
        | _ => .bad)
      | .ok false st1 => lcL g t f δw xs st1
      | _ => .bad
def lcE (own : List Nat) (g : GD) (t : DT) (f : DE) : DEnv → List D → Store → Rs Vl := fun δ xs st => if szOk xs.length = true then (lcL g t f (dwipe δ own) xs st).bind mkLst else .bad
def eLc (own : List Nat) (i : DI) (g : GD) (t : DT) (f : DE) : DE := fun δ st => (i δ st).bind (lcE own g t f δ)
def tY : DT := fun _ st => .ok true st
section
variable {X : Cx} {W : WX}
theorem dts_nil {X : Cx} {W : WX} : PTs X [] (tT X.K X.mg W tY) := ⟨fun pins s σ H Q I ⟨δ, μ, st, hE, hS, q⟩ => pts_nil.run pins s σ H Q I (q true μ H .refl hS rfl)⟩
theorem dts_one {X : Cx} {W : WX} {c : Expr} {t : DT} (h : DTx X W c t) : PTs X [c] (tT X.K X.mg W t) := pts_one h
/-- the place D, apart -/
theorem Step.at_add {μ μ' : Mu} {H H' : Hp} {p : Addr} (s : Step μ H μ' H') : Step (μ.add p) H (μ'.add p) H' := by
  obtain ⟨ν, rfl, hν⟩ := s.ext
  exact ⟨⟨ν, rfl, hν⟩, s.keep⟩
theorem Step.of_add {μ μ' : Mu} {H H' : Hp} {p : Addr} (s : Step (μ.add p) H μ' H') : ∃ μ2, μ' = μ2.add p ∧ Step μ H μ2 H' := by
  obtain ⟨ν, rfl, hν⟩ := s.ext
  exact ⟨⟨μ.m ++ ν, μ.f⟩, rfl, ⟨ν, rfl, hν⟩, s.keep⟩
theorem Step.f {μ μ' : Mu} {H H' : Hp} (s : Step μ H μ' H') : μ'.f = μ.f := by
  obtain ⟨ν, rfl, hν⟩ := s.ext
  rfl
theorem lc_den {K : PySem.W.Frag} {mg : Str → Option Value} {own ss : List Nat} {i : DI} {g : GD} {t : DT} {f : DE} (hsub : ∀ i ∈ ss, i ∈ own) {σ : L2.St} {H : Hp} {Q : VK} (h : tE K mg W (eLc own i g t f) σ H Q) :
    tLc (tI K mg W i) (tG K ss g) (tT K mg WF t) (tE K mg WF f) own σ H Q := by
  obtain ⟨δ, μ, st, hE, hS, h⟩ := h
  refine ⟨δ, μ, st, hE, hS, Den.bind h fun items st1 J μ1 H1 _ s1 S1 w q => ?_⟩
  have hE1 := (hE.step s1).wipe own
  intro D hD
  have hDf0 : D ∉ μ1 := S1.nin hD
  unfold lcE at q
  by_cases hz : szOk items.length = true
  · rw [if_pos hz] at q
    have hzl := szOk_ok hz
    obtain ⟨n, G, Y, w, hn, hG, hY⟩ := w
    have g0 : Grow μ1 H1 (μ1.add D) (upd H1 D (.lst [])) := (grow_add hD).trans (step_new hD).grow
    have hE0 : RE K (μ1.add D) H1 (dwipe δ own) (L2.wipe σ own) := hE1.add hD
    refine lc_it w (fun i H' => ∃ μ' st' acc vs, Step μ1 H1 μ' H' ∧ RepS K (μ'.add D) H' st' ∧ H' D = some (.lst vs) ∧ RpL K (μ'.add D) H' acc vs ∧ vs.length ≤ i ∧
      Den K mg (RV K) (fun c d H => W c d σ H) Q μ1 H1 ((lcL g t f (dwipe δ own) (items.drop i) st').bind fun ys st3 => .ok (.d (.list (acc ++ ys))) st3)) ?_ ?_ ?_ ?_
    · refine ⟨μ1, st1, [], [], step_new hD, S1.add hD, upd_same, .nil, Nat.le_refl _, ?_⟩
      rw [List.drop_zero]
      exact q
    · rintro i H' hi ⟨μ', st', acc, vs, s, _⟩
      exact hG _ _ s.grow
    · rintro i x H' H2 hi ⟨μ', st', acc, vs, s, S, hl, r, hlen, q⟩ y
      have N' : ∀ p, H' p = none → p ∉ μ'.add D := fun p hp => S.nin hp
      have gr : Grow μ1 H1 (μ'.add D) H' := (grow_add hD).trans (s.at_add (p := D)).grow
      obtain ⟨s2, k2, d, hd, rd⟩ := hY i (μ'.add D) H' x H2 hi gr N' y
      have hDf : D ∉ μ'.m := (S.fx D List.mem_cons_self).1
      have hl2 : H2 D = some (.lst vs) := s2.keep D _ hl hDf (fun _ z => by cases z)
      have S2 : RepS K (μ'.add D) H2 st' := S.keep s2 k2
      have hE2 : RE K (μ'.add D) H2 (dwipe δ own) (L2.wipe σ own) := hE0.step ((s.at_add (p := D)).trans s2)
      have hdrop : items.drop i = d :: items.drop (i + 1) := by
        rw [List.drop_eq_getElem?_toList_append, hd]; rfl
      rw [hdrop] at q
      unfold lcL at q
      cases hg : g d (dwipe δ own) with
      | none => simp only [hg] at q; exact q.elim
      | some δ1 =>
        simp only [hg] at q
        refine ⟨dwipe δ own, μ'.add D, st', d, hE2, S2, rd, δ1, hg, fun σ2 hE3 o => ⟨wipe_only o hsub, ?_⟩⟩
        refine ⟨δ1, μ'.add D, st', hE3, S2, ?_⟩
        cases ht : t δ1 st' with
        | bad => simp only [ht] at q; exact q.elim
        | exc e st2 => simp only [ht] at q; exact q.elim
        | ok b st2 =>
          simp only [ht] at q
          intro b' μ3 H3 s3 S3 eb
          subst eb
          obtain ⟨μ4, rfl, s4⟩ := (s2.trans s3).of_add
          have hl3 : H3 D = some (.lst vs) := s3.keep D _ hl2 hDf (fun _ z => by cases z)
          cases b with
          | false =>
            refine iteF ⟨μ4, st2, acc, vs, s.trans s4, S3, hl3, r.step (s2.trans s3), Nat.le_succ_of_le hlen, q⟩
          | true =>
            simp only at q
            refine iteT ⟨δ1, μ4.add D, st2, hE3.step s3, S3, ?_⟩
            cases hf : f δ1 st2 with
            | bad => simp only [hf] at q; exact q.elim
            | exc e st3 => simp only [hf] at q; exact q.elim
            | ok z st3 =>
              simp only [hf] at q
              cases z with
              | r n => exact q.elim
              | s n => exact q.elim
              | f n => exact q.elim
              | d y =>
                intro u μ5 H5 s5 S5 ru
                obtain ⟨μ6, rfl, s6⟩ := s5.of_add
                have hDf4 : D ∉ μ4.m := (S3.fx D List.mem_cons_self).1
                have hl5 : H5 D = some (.lst vs) := s5.keep D _ hl3 hDf4 (fun _ z => by cases z)
                have hsz : vs.length < sizeLine := by
                  have : i < items.length := by rw [← hn]; exact hi
                  omega
                have hD5 : D ∉ μ6.m := (S5.fx D List.mem_cons_self).1
                have s0 : Step μ1 H1 μ6 H5 := (s.trans s4).trans s6
                have s7 : Step μ1 H1 μ6 (upd H5 D (.lst (vs ++ [u]))) := ⟨s0.ext, fun a o e n => by rw [upd_ne (ne_of_none e hD)]; exact s0.keep a o e n⟩
                refine ⟨vs, hl5, hsz, μ6, st3, acc ++ [y], vs ++ [u], s7, S5.grow, upd_same, ?_, by rw [List.length_append, List.length_singleton]; omega, ?_⟩
                · exact ((r.step ((s2.trans s3).trans s5)).append (.cons ru .nil)).at_ (.inr List.mem_cons_self)
                · have e : ∀ r : Rs (List PyData), ((r.bind fun ys st3 => Rs.ok (y :: ys) st3).bind fun ys st3 => (.ok (.d (.list (acc ++ ys))) st3 : Rs Vl)) = r.bind fun ys st3 => .ok (.d (.list (acc ++ [y] ++ ys))) st3 := fun r => by
                    cases r with
                    | ok ys st4 => simp [Rs.bind]
                    | exc e st4 => rfl
                    | bad => rfl
                  rw [e] at q
                  exact q
    · rintro H' ⟨μ', st', acc, vs, s, S, hl, r, hlen, q⟩
      have hdrop : items.drop n = [] := by rw [hn]; simp
      rw [hdrop] at q
      have q : Den K mg (RV K) (fun c d H => W c d σ H) Q μ1 H1 (.ok (.d (.list (acc ++ []))) st') := q
      rw [List.append_nil] at q
      refine q _ μ' H' s S.unadd (.lst ⟨hl, fun z => ?_⟩ r.unadd)
      rcases z with z | z
      · exact (S.fx D List.mem_cons_self).1 z
      · rw [s.f] at z
        exact hDf0 (.inr z)
  · rw [if_neg hz] at q; exact q.elim
section
variable {elt tg iter : Expr} {ifs : List Expr} {scope : Scope} {own : List (Str × Nat)} {pos : Pos} {ss : List Nat} {i : DI} {g : GD} {t : DT} {f : DE}
theorem de_lc (hc : X.calm = true) (hN : X.N.Nodup) (hi : DIx X W tg iter i) (ok : BlkOk X.N X.env.scope scope own)
    (hg : ∀ (s : Shared) (H : Hp) (C : Addr) (cl : List (Str × Addr)) (fp : List Addr), DGx (X.blk s H scope (compEnvC scope cl C X.env) fp) ss tg g)
    (ht : ∀ (s : Shared) (H : Hp) (C : Addr) (cl : List (Str × Addr)) (fp : List Addr), PTs (X.blk s H scope (compEnvC scope cl C X.env) fp) ifs (tT X.K X.mg WF t))
    (he : ∀ (s : Shared) (H : Hp) (C : Addr) (cl : List (Str × Addr)) (fp : List Addr), DEx (X.blk s H scope (compEnvC scope cl C X.env) fp) WF elt f)
    (hsub : ∀ i ∈ ss, i ∈ own.map (·.2) := by decide) (hs : ∀ x, foldedSetIterable iter X.env x = pure x := by intro _; rfl) :
    DEx X W (.ListComp elt [⟨tg, iter, ifs, 0⟩] scope pos) (eLc (own.map (·.2)) i g t f) := PE.imp (pe_lc hc hN hi ok hg ht he hs) fun σ H Q h => lc_den hsub h
end
end
end DL
/-! statements, calls, defs -/
namespace DL
open PySem PySem.Spec L2
inductive Sr where
  | nx (δ : DEnv) (st : Store)
  | bk (δ : DEnv) (st : Store)
  | ct (δ : DEnv) (st : Store)
  | rt (x : Vl) (st : Store)
  | exc (e : Ex) (δ : DEnv) (st : Store)
  | bad
abbrev DS := DEnv → Store → Sr
def DenS (K : PySem.W.Frag) (mg : Str → Option Value) (W : WX) (E : Ends) (μ : Mu) (H : Hp) : Sr → Prop
  | .nx δ st => ∀ σ μ' H', Step μ H μ' H' → RepS K μ' H' st → RE K μ' H' δ σ → E.nx σ H'
  | .bk δ st => ∀ σ μ' H', Step μ H μ' H' → RepS K μ' H' st → RE K μ' H' δ σ → E.bk σ H'
  | .ct δ st => ∀ σ μ' H', Step μ H μ' H' → RepS K μ' H' st → RE K μ' H' δ σ → E.ct σ H'
  | .rt x st => ∀ v μ' H', Step μ H μ' H' → RepS K μ' H' st → RV K μ' H' x v → E.rt v H'
  | .exc e δ st => ∀ c dd σ μ' H', Step μ H μ' H' → RepS K μ' H' st → RE K μ' H' δ σ → RX K mg μ' H' e c dd → W c dd σ H'
  | .bad => False
theorem DenS.step {K : PySem.W.Frag} {mg : Str → Option Value} {W : WX} {E : Ends} {μ μ' : Mu} {H H' : Hp} {r : Sr} (s : Step μ H μ' H') (h : DenS K mg W E μ H r) : DenS K mg W E μ' H' r := by
  cases r with
  | nx δ st => exact fun σ μ2 H2 s2 => h σ μ2 H2 (s.trans s2)
  | bk δ st => exact fun σ μ2 H2 s2 => h σ μ2 H2 (s.trans s2)
  | ct δ st => exact fun σ μ2 H2 s2 => h σ μ2 H2 (s.trans s2)
  | rt x st => exact fun σ μ2 H2 s2 => h σ μ2 H2 (s.trans s2)
  | exc e δ st => exact fun c dd σ μ2 H2 s2 => h c dd σ μ2 H2 (s.trans s2)
  | bad => exact h
def tS (K : PySem.W.Frag) (mg : Str → Option Value) (W : WX) (f : DS) : TS := fun E σ H => ∃ δ μ st, RE K μ H δ σ ∧ RepS K μ H st ∧ DenS K mg W E μ H (f δ st)
abbrev DSx (X : Cx) (W : WX) (s : Stmt) (f : DS) : Prop := PS X s (tS X.K X.mg W f)
abbrev DSsx (X : Cx) (W : WX) (s : List Stmt) (f : DS) : Prop := PSs X s (tS X.K X.mg W f)
/-- an expression's result, then a statement's -/
def toS {α : Type} (r : Rs α) (δ : DEnv) (k : α → Store → Sr) : Sr := match r with
  | .ok x st => k x st
  | .exc e st => .exc e δ st
  | .bad => .bad
section
variable {K : PySem.W.Frag} {mg : Str → Option Value} {W : WX} {σ : L2.St} {H : Hp} {E : Ends}
theorem den_toS {α β : Type} {Rl : Mu → Hp → α → β → Prop} {μ : Mu} {r : Rs α} {δ : DEnv} {k : α → Store → Sr} {Q : β → Hp → Prop} (hE : RE K μ H δ σ) (h : DenS K mg W E μ H (toS r δ k))
    (hk : ∀ x st1 v μ1 H1, Step μ H μ1 H1 → RepS K μ1 H1 st1 → Rl μ1 H1 x v → DenS K mg W E μ1 H1 (k x st1) → Q v H1) : Den K mg Rl (fun c d H => W c d σ H) Q μ H r := by
  cases r with
  | ok x st1 => exact fun v μ1 H1 s S r => hk x st1 v μ1 H1 s S r (DenS.step s h)
  | exc e st1 => exact fun c dd μ1 H1 s S r => h c dd σ μ1 H1 s S (hE.step s) r
  | bad => exact h
theorem tE.toS {f : DE} {k : DEnv → Vl → Store → Sr} {Q1 : VK} (h : ∃ δ μ st, RE K μ H δ σ ∧ RepS K μ H st ∧ DenS K mg W E μ H (toS (f δ st) δ (k δ)))
    (hk : ∀ δ μ1 H1 x st1 v, RE K μ1 H1 δ σ → RepS K μ1 H1 st1 → RV K μ1 H1 x v → DenS K mg W E μ1 H1 (k δ x st1) → Q1 v H1) : tE K mg W f σ H Q1 := by
  obtain ⟨δ, μ, st, hE, hS, h⟩ := h
  exact ⟨δ, μ, st, hE, hS, den_toS hE h fun x st1 v μ1 H1 s S r q => hk δ μ1 H1 x st1 v (hE.step s) S r q⟩
theorem tT.toS {f : DT} {k : DEnv → Bool → Store → Sr} {Q1 : Bool → Hp → Prop} (h : ∃ δ μ st, RE K μ H δ σ ∧ RepS K μ H st ∧ DenS K mg W E μ H (DL.toS (f δ st) δ (k δ)))
    (hk : ∀ δ μ1 H1 x st1, RE K μ1 H1 δ σ → RepS K μ1 H1 st1 → DenS K mg W E μ1 H1 (k δ x st1) → Q1 x H1) : tT K mg W f σ H Q1 := by
  obtain ⟨δ, μ, st, hE, hS, h⟩ := h
  exact ⟨δ, μ, st, hE, hS, den_toS hE h fun x st1 v μ1 H1 s S r q => by cases r; exact hk δ μ1 H1 x st1 (hE.step s) S q⟩
theorem tA.toS {f : DA} {k : DEnv → List Vl → Store → Sr} {Q1 : List V → Hp → Prop} (h : ∃ δ μ st, RE K μ H δ σ ∧ RepS K μ H st ∧ DenS K mg W E μ H (DL.toS (f δ st) δ (k δ)))
    (hk : ∀ δ μ1 H1 x st1 v, RE K μ1 H1 δ σ → RepS K μ1 H1 st1 → RVL K μ1 H1 x v → DenS K mg W E μ1 H1 (k δ x st1) → Q1 v H1) : tA K mg W f σ H Q1 := by
  obtain ⟨δ, μ, st, hE, hS, h⟩ := h
  exact ⟨δ, μ, st, hE, hS, den_toS hE h fun x st1 v μ1 H1 s S r q => hk δ μ1 H1 x st1 v (hE.step s) S r q⟩
end
/-! ### blocks -/
def sNil : DS := fun δ st => .nx δ st
def sCons (f g : DS) : DS := fun δ st => match f δ st with
  | .nx δ1 st1 => g δ1 st1
  | r => r
section
variable {X : Cx} {W : WX} {s : Stmt} {ss : List Stmt} {f g : DS} {pos : Pos}
theorem dss_nil : DSsx X W [] sNil := PSs.imp pss_nil fun E σ H ⟨δ, μ, st, hE, hS, h⟩ => h σ μ H .refl hS hE
theorem dss_one (h : DSx X W s f) : DSsx X W [s] f := pss_one h
theorem dss_cons (h : DSx X W s f) (h2 : DSsx X W ss g) : DSsx X W (s :: ss) (sCons f g) := PSs.imp (pss_cons h h2) fun E σ H ⟨δ, μ, st, hE, hS, h⟩ => by
  refine ⟨δ, μ, st, hE, hS, ?_⟩
  unfold sCons at h
  cases e : f δ st with
  | nx δ1 st1 =>
    simp only [e] at h
    exact fun σ1 μ1 H1 s1 S1 hE1 => ⟨δ1, μ1, st1, hE1, S1, DenS.step s1 h⟩
  | bk δ1 st1 => simp only [e] at h; exact h
  | ct δ1 st1 => simp only [e] at h; exact h
  | rt δ1 st1 => simp only [e] at h; exact h
  | exc e δ1 st1 => simp only [e] at h; exact h
  | bad => simp only [e] at h; exact h
theorem ds_pass : DSx X W (.Pass pos) sNil := PS.imp ps_pass fun E σ H ⟨δ, μ, st, hE, hS, h⟩ => h σ μ H .refl hS hE
def sBk : DS := fun δ st => .bk δ st
def sCt : DS := fun δ st => .ct δ st
theorem ds_break : DSx X W (.Break pos) sBk := PS.imp ps_break fun E σ H ⟨δ, μ, st, hE, hS, h⟩ => h σ μ H .refl hS hE
theorem ds_continue : DSx X W (.Continue pos) sCt := PS.imp ps_continue fun E σ H ⟨δ, μ, st, hE, hS, h⟩ => h σ μ H .refl hS hE
/-! ### assignments -/
def sSet (i : Nat) (f : DE) : DS := fun δ st => toS (f δ st) δ fun x st1 => .nx (δ.set i (some x)) st1
theorem set_den {i : Nat} {f : DE} {E : Ends} {σ : L2.St} {H : Hp} (h : tS X.K X.mg W (sSet i f) E σ H) : tAsg (tE X.K X.mg W f) (gName i) E σ H :=
  tE.toS (k := fun δ x st1 => .nx (δ.set i (some x)) st1) h fun δ μ1 H1 x st1 v hE hS rx q => q _ μ1 H1 .refl hS (hE.set i rx)
theorem ds_set {i : Nat} {x : Str} {e : Expr} {f : DE} {pos' : Pos} (hN : X.N.Nodup) (hi : X.N[i]? = some x) (hx : Loc X.env.scope x) (he : DEx X W e f) (hs : swapsWith e (some (.Name x pos')) pos.line X.env = pure false := by rfl) (hf : X.fn x = true ∨ X.env.scope.names.lookup x = some .local := by first | exact .inl rfl | exact .inr rfl | assumption) :
    DSx X W (.Assign [.Name x pos'] e pos) (sSet i f) := PS.imp (ps_set hN hi hx he hs hf) fun E σ H h => set_den h
/-- name = [..] on one line -/
theorem ds_setLc {i : Nat} {y : Str} {py : Pos} {elt tg iter : Expr} {ifs : List Expr} {scope : Scope} {own : List (Str × Nat)} {pos spos : Pos} {ss : List Nat} {it : DI} {g : GD} {t : DT} {f : DE} (hc : X.calm = true) (hN : X.N.Nodup) (hy : X.N[i]? = some y) (hyl : X.env.scope.names.lookup y = some .local)
    (hsw : swapsWith (.ListComp elt [⟨tg, iter, ifs, 0⟩] scope pos) (some (.Name y py)) spos.line X.env = pure true) (hi : DIx X W tg iter it) (ok : BlkOk X.N X.env.scope scope own)
    (hg : ∀ (s : Shared) (H : Hp) (C : Addr) (cl : List (Str × Addr)) (fp : List Addr), DGx (X.blk s H scope (compEnvC scope cl C X.env) fp) ss tg g)
    (ht : ∀ (s : Shared) (H : Hp) (C : Addr) (cl : List (Str × Addr)) (fp : List Addr), PTs (X.blk s H scope (compEnvC scope cl C X.env) fp) ifs (tT X.K X.mg WF t))
    (he : ∀ (s : Shared) (H : Hp) (C : Addr) (cl : List (Str × Addr)) (fp : List Addr), DEx (X.blk s H scope (compEnvC scope cl C X.env) fp) WF elt f)
    (hsub : ∀ i ∈ ss, i ∈ own.map (·.2) := by decide) (hs : ∀ x, foldedSetIterable iter X.env x = pure x := by intro _; rfl) :
    DSx X W (.Assign [.Name y py] (.ListComp elt [⟨tg, iter, ifs, 0⟩] scope pos) spos) (sSet i (eLc (own.map (·.2)) it g t f)) := PS.imp (ps_setLc hc hN hy hyl hsw hi ok hg ht he hs) fun E σ H h => lc_den hsub (set_den h)
def sPar (i j : Nat) (a : DA) : DS := fun δ st => toS (a δ st) δ fun xs st1 => match xs with
  | [x, y] => .nx ((δ.set i (some x)).set j (some y)) st1
  | _ => .bad
theorem ds_par {i j : Nat} {x y : Str} {a b : Expr} {f : DA} {px py pt : Pos} {kt k2 pt2} (hc : X.calm = true) (hN : X.N.Nodup) (hi : X.N[i]? = some x) (hj : X.N[j]? = some y) (hij : i ≠ j)
    (hx : X.env.scope.names.lookup x = some .local) (hy : X.env.scope.names.lookup y = some .local) (ha : DAx X W [a, b] f)
    (hw : swappedStores [.Tuple [.Name x px, .Name y py] kt pt] (.Tuple [a, b] k2 pt2) X.env = pure (some [x, y]) := by rfl)
    (hs : swapsWithSole [.Tuple [.Name x px, .Name y py] kt pt] (.Tuple [a, b] k2 pt2) pos.line X.env = pure false := by rfl) :
    DSx X W (.Assign [.Tuple [.Name x px, .Name y py] kt pt] (.Tuple [a, b] k2 pt2) pos) (sPar i j f) := PS.imp (ps_par hc hN hi hj hij hx hy ha hw hs) fun E σ H h =>
  tA.toS (k := fun δ xs st1 => match xs with
    | [x, y] => .nx ((δ.set i (some x)).set j (some y)) st1
    | _ => .bad) h fun δ μ1 H1 xs st1 vs hE hS rx q => by
    split at q
    · cases rx with
      | cons r1 r2 =>
        cases r2 with
        | cons r2 r3 =>
          cases r3
          exact ⟨_, _, rfl, q _ μ1 H1 .refl hS ((hE.set i r1).set j r2)⟩
    · exact q.elim
def sPar3 (i j l : Nat) (a : DA) : DS := fun δ st => toS (a δ st) δ fun xs st1 => match xs with
  | [x, y, z] => .nx (((δ.set i (some x)).set j (some y)).set l (some z)) st1
  | _ => .bad
theorem ds_par3 {i j l : Nat} {x y z : Str} {a b c : Expr} {f : DA} {px py pz pt pos : Pos} {kt k2 pt2} (hc : X.calm = true) (hN : X.N.Nodup) (hi : X.N[i]? = some x) (hj : X.N[j]? = some y) (hl : X.N[l]? = some z) (hij : i ≠ j) (hil : i ≠ l) (hjl : j ≠ l)
    (hx : X.env.scope.names.lookup x = some .local) (hy : X.env.scope.names.lookup y = some .local) (hz : X.env.scope.names.lookup z = some .local) (ha : DAx X W [a, b, c] f)
    (hw : swappedStores [.Tuple [.Name x px, .Name y py, .Name z pz] kt pt] (.Tuple [a, b, c] k2 pt2) X.env = pure (some [x, y, z]) := by rfl)
    (hs : swapsWithSole [.Tuple [.Name x px, .Name y py, .Name z pz] kt pt] (.Tuple [a, b, c] k2 pt2) pos.line X.env = pure false := by rfl) :
    DSx X W (.Assign [.Tuple [.Name x px, .Name y py, .Name z pz] kt pt] (.Tuple [a, b, c] k2 pt2) pos) (sPar3 i j l f) := PS.imp (ps_par3 hc hN hi hj hl hij hil hjl hx hy hz ha hw hs) fun E σ H h =>
  tA.toS (k := fun δ xs st1 => match xs with
    | [x, y, z] => .nx (((δ.set i (some x)).set j (some y)).set l (some z)) st1
    | _ => .bad) h fun δ μ1 H1 xs st1 vs hE hS rx q => by
    split at q
    · cases rx with
      | cons r1 r2 =>
        cases r2 with
        | cons r2 r3 =>
          cases r3 with
          | cons r3 r4 =>
            cases r4
            exact ⟨_, _, _, rfl, q _ μ1 H1 .refl hS (((hE.set i r1).set j r2).set l r3)⟩
    · exact q.elim
/-- a target that takes a tuple apart -/
def sUn (g : GD) (f : DE) : DS := fun δ st => toS (f δ st) δ fun x st1 => match x with
  | .d d => (match g d δ with
    | some δ1 => .nx δ1 st1
    | none => .bad)
  | _ => .bad
theorem ds_un {tg e : Expr} {f : DE} {g : GD} {ss : List Nat} (he : DEx X W e f) (hg : DGx X ss tg g) (hs : swapsWithSole [tg] e pos.line X.env = pure false := by rfl) (hw : swappedStores [tg] e X.env = pure none := by rfl)
    (h1 : (assignEach [tg] X.env).map (·.2) = [assign tg X.env] := by rfl) : DSx X W (.Assign [tg] e pos) (sUn g f) := PS.imp (ps_asg he hg hs hw h1) fun E σ H h =>
  tE.toS (k := fun δ x st1 => match x with
    | .d d => (match g d δ with
      | some δ1 => .nx δ1 st1
      | none => .bad)
    | _ => .bad) h fun δ μ1 H1 x st1 v hE hS rx q => by
    cases x with
    | d d =>
      simp only at q
      cases e : g d δ with
      | none => simp only [e] at q; exact q.elim
      | some δ1 =>
        simp only [e] at q
        exact ⟨δ, μ1, st1, d, hE, hS, rx, δ1, e, fun σ1 hE1 _ => q σ1 μ1 H1 .refl hS hE1⟩
    | r n => exact q.elim
    | s n => exact q.elim
    | f n => exact q.elim
/-! ### the rest -/
def sDrop (f : DE) : DS := fun δ st => toS (f δ st) δ fun _ st1 => .nx δ st1
theorem ds_expr {e : Expr} {f : DE} (he : DEx X W e f) (hs : swapsWith e none pos.line X.env = pure false := by rfl) : DSx X W (.Expr e pos) (sDrop f) := PS.imp (ps_expr he hs) fun E σ H h =>
  tE.toS (k := fun δ _ st1 => .nx δ st1) h fun δ μ1 H1 x st1 v hE hS rx q => q σ μ1 H1 .refl hS hE
def sRet (f : DE) : DS := fun δ st => toS (f δ st) δ fun x st1 => .rt x st1
theorem ds_ret {e : Expr} {f : DE} (he : DEx X W e f) : DSx X W (.Return (some e) pos) (sRet f) := PS.imp (ps_ret he) fun E σ H h =>
  tE.toS (k := fun δ x st1 => .rt x st1) h fun δ μ1 H1 x st1 v hE hS rx q => q v μ1 H1 .refl hS rx
def sIf (c : DT) (f g : DS) : DS := fun δ st => toS (c δ st) δ fun b st1 => if b = true then f δ st1 else g δ st1
theorem ds_if {c : Expr} {a b : List Stmt} {t : DT} (hc : DTx X W c t) (ha : DSsx X W a f) (hb : DSsx X W b g) : DSx X W (.If c a b pos) (sIf t f g) := PS.imp (ps_if hc ha hb) fun E σ H h =>
  tT.toS (k := fun δ b st1 => if b = true then f δ st1 else g δ st1) h fun δ μ1 H1 x st1 hE hS q => by
    cases x with
    | true => exact iteT ⟨δ, μ1, st1, hE, hS, q⟩
    | false => exact iteF ⟨δ, μ1, st1, hE, hS, q⟩
/-- a statement, weaker -/
theorem dss_imp {f g : DS} (h : DSsx X W ss f) (e : ∀ δ st, g δ st = f δ st) : DSsx X W ss g := PSs.imp h fun E σ H ⟨δ, μ, st, hE, hS, q⟩ => ⟨δ, μ, st, hE, hS, by rw [← e]; exact q⟩
/-! ### for -/
def forL (g : GD) (body : DS) : List D → DS
  | [], δ, st => .nx δ st
  | x :: xs, δ, st => match g x δ with
    | none => .bad
    | some δ1 => match body δ1 st with
      | .nx δ2 st2 => forL g body xs δ2 st2
      | .ct δ2 st2 => forL g body xs δ2 st2
      | .bk δ2 st2 => .nx δ2 st2
      | r => r
def sFor (i : DI) (g : GD) (body : DS) : DS := fun δ st => toS (i δ st) δ fun xs st1 => forL g body xs δ st1
theorem ds_for {tg iter : Expr} {body : List Stmt} {i : DI} {ss : List Nat} {g : GD} (hp : PassesOwn (model X.prog X.w) X.A X.env X.xe) (hc : X.calm = true) (hi : DIx X W tg iter i) (hg : DGx X ss tg g) (hb : DSsx X W body f)
    (hs : ∀ x, foldedSetIterable iter X.env x = pure x := by intro _; rfl) : DSx X W (.For tg iter body [] pos) (sFor i g f) := PS.imp (ps_for hp hc hi hg hb hs) fun E σ H h => by
  obtain ⟨δ, μ, st, hE, hS, h⟩ := h
  refine ⟨δ, μ, st, hE, hS, den_toS hE h fun items st1 J μ1 H1 s1 S1 w q => ?_⟩
  obtain ⟨n, G, Y, w, hn, hG, hY⟩ := w
  refine for_it w (fun i σ' H' => ∃ δ' μ' st', RE X.K μ' H' δ' σ' ∧ RepS X.K μ' H' st' ∧ Step μ1 H1 μ' H' ∧ DenS X.K X.mg W E μ' H' (forL g f (items.drop i) δ' st')) ?_ ?_ ?_ ?_
  · exact ⟨δ, μ1, st1, hE.step s1, S1, .refl, by rw [List.drop_zero]; exact q⟩
  · rintro i σ' H' hi ⟨δ', μ', st', _, _, s, _⟩
    exact hG _ _ s.grow
  · rintro i x σ' H' H2 hi ⟨δ', μ', st', hE', S', s, q⟩ y
    obtain ⟨s2, k2, d, hd, rd⟩ := hY i μ' H' x H2 hi s.grow (fun p hp => S'.nin hp) y
    have hdrop : items.drop i = d :: items.drop (i + 1) := by
      rw [List.drop_eq_getElem?_toList_append, hd]; rfl
    rw [hdrop] at q
    unfold forL at q
    cases hg' : g d δ' with
    | none => simp only [hg'] at q; exact q.elim
    | some δ1 =>
      simp only [hg'] at q
      refine ⟨δ', μ', st', d, hE'.step s2, S'.keep s2 k2, rd, δ1, hg', fun σ2 hE2 o => ⟨δ1, μ', st', hE2, S'.keep s2 k2, ?_⟩⟩
      cases hb : f δ1 st' with
      | nx δ2 st2 =>
        simp only [hb] at q
        exact fun σ3 μ3 H3 s3 S3 hE3 => ⟨δ2, μ3, st2, hE3, S3, (s.trans s2).trans s3, DenS.step (s2.trans s3) q⟩
      | ct δ2 st2 =>
        simp only [hb] at q
        exact fun σ3 μ3 H3 s3 S3 hE3 => ⟨δ2, μ3, st2, hE3, S3, (s.trans s2).trans s3, DenS.step (s2.trans s3) q⟩
      | bk δ2 st2 =>
        simp only [hb] at q
        exact fun σ3 μ3 H3 s3 S3 hE3 => q σ3 μ3 H3 (s2.trans s3) S3 hE3
      | rt x2 st2 =>
        simp only [hb] at q
        exact fun v μ3 H3 s3 S3 r3 => q v μ3 H3 (s2.trans s3) S3 r3
      | exc e2 δ2 st2 =>
        simp only [hb] at q
        exact fun c dd σ3 μ3 H3 s3 S3 hE3 r3 => q c dd σ3 μ3 H3 (s2.trans s3) S3 hE3 r3
      | bad => simp only [hb] at q; exact q.elim
  · rintro σ' H' ⟨δ', μ', st', hE', S', s, q⟩
    have hdrop : items.drop n = [] := by rw [hn]; simp
    rw [hdrop] at q
    exact q σ' μ' H' .refl S' hE'
/-! ### while -/
def whL (c : DT) (body : DS) : Nat → DS
  | 0, _, _ => .bad
  | n + 1, δ, st => toS (c δ st) δ fun b st1 => if b = true then (match body δ st1 with
    | .nx δ2 st2 => whL c body n δ2 st2
    | .ct δ2 st2 => whL c body n δ2 st2
    | .bk δ2 st2 => .nx δ2 st2
    | r => r) else .nx δ st1
def fuel : Nat := 10 ^ 60
def sWh (c : DT) (body : DS) : DS := whL c body fuel
theorem ds_while {c : Expr} {body : List Stmt} {t : DT} (hp : PassesOwn (model X.prog X.w) X.A X.env X.xe) (hc : DTx X W c t) (hb : DSsx X W body f) : DSx X W (.While c body [] pos) (sWh t f) := PS.imp (ps_while hp hc hb) fun E σ H h => by
  refine ⟨fun m σ' H' => ∃ δ' μ' st', RE X.K μ' H' δ' σ' ∧ RepS X.K μ' H' st' ∧ DenS X.K X.mg W E μ' H' (whL t f m δ' st'), ⟨fuel, h⟩, ?_⟩
  rintro m σ' H' ⟨δ', μ', st', hE', S', q⟩
  cases m with
  | zero => exact q.elim
  | succ m =>
    unfold whL at q
    refine ⟨δ', μ', st', hE', S', den_toS hE' q fun b st1 b' μ1 H1 s1 S1 eb q1 => ?_⟩
    subst eb
    cases b with
    | false =>
      rw [if_neg Bool.false_ne_true] at q1
      exact iteF (q1 σ' μ1 H1 .refl S1 (hE'.step s1))
    | true =>
      rw [if_pos rfl] at q1
      refine iteT ⟨fun σ2 H2 => ∃ δ2 μ2 st2, RE X.K μ2 H2 δ2 σ2 ∧ RepS X.K μ2 H2 st2 ∧ DenS X.K X.mg W E μ2 H2 (whL t f m δ2 st2), fun σ2 H2 z => ⟨m, Nat.lt_succ_self m, z⟩, δ', μ1, st1, hE'.step s1, S1, ?_⟩
      cases hb : f δ' st1 with
      | nx δ2 st2 =>
        simp only [hb] at q1
        exact fun σ3 μ3 H3 s3 S3 hE3 => ⟨δ2, μ3, st2, hE3, S3, DenS.step s3 q1⟩
      | ct δ2 st2 =>
        simp only [hb] at q1
        exact fun σ3 μ3 H3 s3 S3 hE3 => ⟨δ2, μ3, st2, hE3, S3, DenS.step s3 q1⟩
      | bk δ2 st2 => simp only [hb] at q1; exact q1
      | rt x2 st2 => simp only [hb] at q1; exact q1
      | exc e2 δ2 st2 => simp only [hb] at q1; exact q1
      | bad => simp only [hb] at q1; exact q1.elim
end
end DL
/-! calls, defs, raise; subscripts, built-ins -/
namespace DL
open PySem PySem.Spec L2
/-! ### defs -/
abbrev DF := List Vl → Store → Rs Vl
def spD (K : PySem.W.Frag) (mg : Str → Option Value) (n : Nat) (m : DF) : Sp := fun vs H Q E => vs.length = n ∧ ∃ xs μ st, RVL K μ H xs vs ∧ RepS K μ H st ∧ Den K mg (RV K) E Q μ H (m xs st)
/-- a def of the module, by its name: it does what m says, at most k calls deep -/
def Kn (P : Program) (w : World) (K : PySem.W.Frag) (mg : Str → Option Value) (base : Heap) (k : Nat) (x : Str) (n : Nat) (m : DF) : Prop :=
  ∃ (f : Addr) (fd : FuncData) (ps : List Str), ps.length = n ∧ FnOk P w K mg base (L2.CX P w) k f fd ps (spD K mg n m) ∧ mg x = some (.ref f) ∧ PySem.W.keepIn K (.ref f) = true ∧ Binds K fd ps []
def lenIs (n : Nat) (m : DF) : DF := fun xs st => if xs.length = n then m xs st else .bad
def eCall (n : Nat) (m : DF) (a : DA) : DE := fun δ st => (a δ st).bind (lenIs n m)
theorem den_lenIs {K : PySem.W.Frag} {mg : Str → Option Value} {E : XK} {Q : VK} {μ : Mu} {H : Hp} {n : Nat} {m : DF} {xs : List Vl} {st : Store} (h : Den K mg (RV K) E Q μ H (lenIs n m xs st)) : xs.length = n ∧ Den K mg (RV K) E Q μ H (m xs st) := by
  unfold lenIs at h
  by_cases e : xs.length = n
  · rw [if_pos e] at h; exact ⟨e, h⟩
  · rw [if_neg e] at h; exact h.elim
section
variable {X : Cx} {W : WX} {pos p : Pos} {k j n : Nat} {x : Str} {m : DF} {e : Expr} {es : List Expr} {a : DA}
theorem de_call (c : Kn X.prog X.w X.K X.mg X.base k x n m) (hr : Room j X.A) (hk : k ≤ j) (tk : Takes X W) (hg : Gl X x) (ha : DAx X W (e :: es) a) (hdb : (x == ("__debug__" : Str)) = false := by decide)
    (he : starEach (e :: es) X.env = (false, eval e X.env) :: starEach es X.env := by rfl) (hpl : (backTo pos (starEach es X.env)).any (·.1) = false := by rfl) : DEx X W (.Call (.Name x p) (e :: es) [] pos) (eCall n m a) := by
  obtain ⟨f, fd, ps, hn, F, hm, hk', hb⟩ := c
  exact PE.imp (pe_callS F (hr.mono hk) hg hm hk' hb (fun σ => passAt tk σ) ha hdb he hpl) fun σ H Q h =>
    tA.bind (γ := Vl) (k := fun _ => lenIs n m) h fun δ μ1 H1 xs st1 vs hE hS rx q => by
      obtain ⟨hl, q⟩ := den_lenIs q
      exact ⟨by rw [← rx.length]; exact hl, xs, μ1, st1, rx, hS, q⟩
theorem de_call0 (c : Kn X.prog X.w X.K X.mg X.base k x n m) (hr : Room j X.A) (hk : k ≤ j) (tk : Takes X W) (hg : Gl X x) (hdb : (x == ("__debug__" : Str)) = false := by decide) : DEx X W (.Call (.Name x p) [] [] pos) (eCall n m aN) := by
  obtain ⟨f, fd, ps, hn, F, hm, hk', hb⟩ := c
  refine ⟨fun pins s σ H Q I h => ?_⟩
  obtain ⟨δ, μ, st, hE, hS, h⟩ := h
  obtain ⟨hl, q⟩ := den_lenIs (show Den X.K X.mg (RV X.K) (fun c d H => W c d σ H) Q μ H (lenIs n m [] st) from h)
  refine wpAny_Call_Name_kw (ld_glob I hg hm ?_ hdb)
  exact PySem.W.callWith_K0 I.kIn hk' (run_fnS (E := WE W) (us := []) F (hr.mono hk) hb (passAt tk σ) I .nil ⟨hl, [], μ, st, .nil, hS, q⟩)
end
/-- what is handed back -/
def thaw (_ : Nat) : Vl → Store → Rs Vl := fun x st => .ok x st
/-- a list that was made here is handed back as it is -/
def noThaw (_ : Nat) : Vl → Store → Rs Vl := fun x st => .ok x st
def startD (N : Nat) (xs : List Vl) : DEnv := xs.map some ++ List.replicate (N - xs.length) none
/-- a def of N slots -/
def dfn (N : Nat) (th : Nat → Vl → Store → Rs Vl) (body : DS) : DF := fun xs st => match body (startD N xs) st with
  | .nx _ st1 => th st.length (.d .none) st1
  | .rt x st1 => th st.length x st1
  | .exc e _ st1 => .exc e st1
  | _ => .bad
def ThOk (th : Nat → Vl → Store → Rs Vl) : Prop := ∀ (K : PySem.W.Frag) (mg : Str → Option Value) (E : XK) (Q : VK) (μ0 μ : Mu) (H0 H : Hp) (st0 st : Store) (x : Vl) (v : V), RepS K μ0 H0 st0 → Step μ0 H0 μ H → RepS K μ H st → RV K μ H x v → Den K mg (RV K) E Q μ0 H0 (th st0.length x st) → Q v H
theorem noThaw_ok : ThOk noThaw := fun K mg E Q μ0 μ H0 H st0 st x v S0 s S r q => q v μ H s S r
theorem thaw_ok : ThOk thaw := fun K mg E Q μ0 μ H0 H st0 st x v S0 s S r q => q v μ H s S r
theorem startD_ok {K : PySem.W.Frag} {μ : Mu} {H : Hp} {N : List Str} {xs : List Vl} {vs : List V} (r : RVL K μ H xs vs) : RE K μ H (startD N.length xs) (L2.start N vs) := by
  have hl := r.length
  refine ⟨by unfold startD L2.start; rw [List.length_append, List.length_append, List.length_map, List.length_map, List.length_replicate, List.length_replicate, hl], fun i x e => ?_⟩
  unfold startD at e
  unfold L2.start
  by_cases hi : i < xs.length
  · rw [List.getElem?_append_left (by simpa using hi), List.getElem?_map] at e
    rw [List.getElem?_append_left (by rw [List.length_map, ← hl]; exact hi), List.getElem?_map]
    cases q : xs[i]? with
    | none => rw [q] at e; cases e
    | some y =>
      rw [q] at e
      cases e
      obtain ⟨v, h1, h2⟩ := r.get q
      exact ⟨v, by rw [h1]; rfl, h2⟩
  · rw [List.getElem?_append_right (by simpa using hi), List.getElem?_replicate] at e
    split at e <;> cases e
section
variable {P : Program} {w : World} {K : PySem.W.Frag} {mg : Str → Option Value} {base : Heap}
/-- THE RULE: a def by its body's derivation -/
theorem fn_mk {x qual : Str} {params : Arguments} {body : List Stmt} {scope : Scope} {f : Addr} {fd : FuncData} {N ps : List Str} {k n : Nat} {th : Nat → Vl → Store → Rs Vl} {g : DS} (F : FunD K x qual params body scope [] [] f fd) (S : FnScope N ps scope) (hn : ps.length = n) (hth : ThOk th)
    (hbody : ∀ (X : Cx) (W : WX), X.prog = P → X.w = w → X.K = K → X.mg = mg → X.base = base → X.N = N → X.env.scope = scope → X.calm = true → X.fn = (fun _ => true) → X.stack = X.env :: X.outer → X.env.frame = some X.env.locals → Takes X W → PassesOwn (model X.prog X.w) X.A X.env X.xe → Room k X.A → DSsx X W body g) :
    FnOk P w K mg base (L2.CX P w) (k + 1) f fd ps (spD K mg n (dfn N.length th g)) := by
  refine F.ok S (fun vs H Q E h => by rw [hn]; exact h.1) (fun cdv A outer s H vs Q E hr h => ?_)
  obtain ⟨hl, xs, μ, st, rx, hS, h⟩ := h
  refine ⟨_, hbody (cxOf (L2.CX P w) P w K mg base N qual scope f cdv A outer s H E) (fun c d _ H => E c d H) rfl rfl rfl rfl rfl rfl rfl rfl rfl rfl rfl (takes_of rfl rfl rfl rfl) (passes_of rfl) hr, startD N.length xs, μ, st, startD_ok rx, hS, ?_⟩
  unfold dfn at h
  cases e : g (startD N.length xs) st with
  | nx δ1 st1 =>
    simp only [e] at h
    exact fun σ1 μ1 H1 s1 S1 hE1 => hth K mg E Q μ μ1 H H1 st st1 (.d .none) .non hS s1 S1 .non h
  | rt x1 st1 =>
    simp only [e] at h
    exact fun v μ1 H1 s1 S1 r1 => hth K mg E Q μ μ1 H H1 st st1 x1 v hS s1 S1 r1 h
  | exc e1 δ1 st1 =>
    simp only [e] at h
    intro c dd σ1 μ1 H1 s1 S1 hE1 r1
    exact h c dd _ H1 s1 S1 r1
  | bk δ1 st1 => simp only [e] at h; exact h.elim
  | ct δ1 st1 => simp only [e] at h; exact h.elim
  | bad => simp only [e] at h; exact h.elim
theorem kn_mk {x qual : Str} {params : Arguments} {body : List Stmt} {scope : Scope} {f : Addr} {fd : FuncData} {N ps : List Str} {k n : Nat} {th : Nat → Vl → Store → Rs Vl} {g : DS} (F : FunD K x qual params body scope [] [] f fd) (S : FnScope N ps scope) (hn : ps.length = n) (hth : ThOk th) {y : Str} (hm : mg y = some (.ref f))
    (hb : ∀ (kV doc pm : Value) (an : Option Addr) (cdv ct : Value) (us : List Value), us.length = ps.length → bindArgs (PySem.W.fnOf x qual params body scope .none kV doc pm an cdv ct) ⟨us, []⟩ = pure (ps.zip us))
    (hbody : ∀ (X : Cx) (W : WX), X.prog = P → X.w = w → X.K = K → X.mg = mg → X.base = base → X.N = N → X.env.scope = scope → X.calm = true → X.fn = (fun _ => true) → X.stack = X.env :: X.outer → X.env.frame = some X.env.locals → Takes X W → PassesOwn (model X.prog X.w) X.A X.env X.xe → Room k X.A → DSsx X W body g) :
    Kn P w K mg base (k + 1) y n (dfn N.length th g) := ⟨f, fd, ps, hn, fn_mk F S hn hth hbody, hm, F.kp, F.bindsN hb⟩
end
/-! ### raise -/
def sRaise (cn : Str) : DS := fun δ st => .exc ⟨cn, []⟩ δ st
section
variable {X : Cx} {W : WX} {pos : Pos}
theorem ds_raise {C : Addr} {x m : Str} {j : Nat} {p p2 p3 : Pos} (hc : X.calm = true) (tk : Takes X W) (q : PySem.W.excIn X.K C He.veBase "ValueError.__new__" = true) (gC : X.mg x = some (.ref C)) (kC : PySem.W.keepIn X.K (.ref C) = true)
    (h1 : PySem.W.subIn X.K (.ref C) (.type "BaseException") = some true) (h2 : PySem.W.typeIn X.K (.ref C) = some (.type "type")) (hg : Gl X x) (hdb : (x == ("__debug__" : Str)) = false := by decide) :
    DSx X W (.Raise (some (.Call (.Name x p) [.Constant (.str m) j p2] [] p3)) none pos) (sRaise x) := PS.imp (ps_raise hc tk (pmk_own PySem.F.excBase_ValueError q gC kC (raises_own h1 h2) hg hdb)) fun E σ H ⟨δ, μ, st, hE, hS, h⟩ =>
  h (.ref C) none σ μ H .refl hS hE ⟨gC, rfl⟩
end
end DL
/-! subscripts, slices, built-ins -/
namespace DL
open PySem PySem.Spec L2
/-! ### x[i] -/
def dIx : D → D → Option D
  | .list xs, .int i => atI xs i
  | .tuple xs, .int i => atI xs i
  | _, _ => none
theorem RpL.atI {K : PySem.W.Frag} {μ : Mu} {H : Hp} {xs : List D} {vs : List V} {i : Int} {d : D} (r : RpL K μ H xs vs) (h : L2.atI xs i = some d) : ∃ v, L2.atI vs i = some v ∧ Rp K μ H d v := by
  unfold L2.atI at h ⊢
  rw [← r.length]
  cases e : ixN xs.length i with
  | none => rw [e] at h; cases h
  | some j =>
    rw [e] at h
    exact r.get h
section
variable {X : Cx} {W : WX} {pos : Pos}
theorem od_ix {K : PySem.W.Frag} {mg : Str → Option Value} : OpD K mg (rIx K) (pur2 dIx) := OpD.pur fun μ H x y d v w Q N rx ry e q => by
  cases y with
  | int i =>
    cases x with
    | list xs =>
      have e : L2.atI xs i = some d := e
      obtain ⟨a, vs, rfl, h, r⟩ := rx.lst
      obtain ⟨u, h1, h2⟩ := r.atI e
      exact .inl ⟨a, vs, i, u, rfl, ry.int, h, h1, q.here h2⟩
    | tuple xs =>
      have e : L2.atI xs i = some d := e
      obtain ⟨a, vs, rfl, h, r⟩ := rx.tup
      obtain ⟨u, h1, h2⟩ := r.atI e
      exact .inr (.inl ⟨a, vs, i, u, rfl, ry.int, .inl (.inl h), h1, q.here h2⟩)
    | _ => cases e
  | _ => cases x <;> cases e
theorem de_ix {a b : Expr} {f g : DE} (ha : DEx X W a f) (hb : DEx X W b g) (hs : PlainIx b := by exact fun _ _ => rfl) : DEx X W (.Subscript a b pos) (eO (pur2 dIx) f g) := de_tOp od_ix (pe_ix ix_seq ha hb hs)
/-! ### slices -/
abbrev DO := DEnv → Store → Rs (Option Int)
def tO (K : PySem.W.Frag) (mg : Str → Option Value) (W : WX) (f : DO) : TO := fun σ H Q => ∃ δ μ st, RE K μ H δ σ ∧ RepS K μ H st ∧ Den K mg (fun _ _ a b => a = b) (fun c d H => W c d σ H) Q μ H (f δ st)
abbrev DOx (X : Cx) (W : WX) (e : Option Expr) (f : DO) : Prop := PO X e (tO X.K X.mg W f)
theorem PO.imp {X : Cx} {e : Option Expr} {t t' : TO} (h : PO X e t) (w : ∀ σ H Q, t' σ H Q → t σ H Q) : PO X e t' := ⟨fun pins s σ H Q I q => h.run pins s σ H Q I (w σ H Q q)⟩
def oN : DO := fun _ st => .ok none st
def oS (f : DE) : DO := fun δ st => (f δ st).bind fun x st1 => match x with
  | .d (.int i) => .ok (some i) st1
  | _ => .bad
theorem do_none : DOx X W none oN := PO.imp po_none fun σ H Q ⟨δ, μ, st, hE, hS, h⟩ => h none μ H .refl hS rfl
theorem do_some {e : Expr} {f : DE} (h : DEx X W e f) : DOx X W (some e) (oS f) := PO.imp (po_some h) fun σ H Q q =>
  tE.bind (γ := Option Int) (k := fun _ x st1 => match x with
    | .d (.int i) => .ok (some i) st1
    | _ => .bad) q fun δ μ1 H1 x st1 v hE hS rx q1 => by
    cases x with
    | r n => exact q1.elim
    | s n => exact q1.elim
    | f n => exact q1.elim
    | d x =>
      cases x with
      | int i => cases rx; exact ⟨i, rfl, q1 _ μ1 H1 .refl hS rfl⟩
      | _ => exact q1.elim
def cutD (xs : List D) (lo hi : Option Int) : List D := (xs.drop (HT.sIx xs.length 0 lo)).take (HT.sIx xs.length xs.length hi - HT.sIx xs.length 0 lo)
theorem RpL.cut {K : PySem.W.Frag} {μ : Mu} {H : Hp} {xs : List D} {vs : List V} (r : RpL K μ H xs vs) (lo hi : Option Int) : RpL K μ H (cutD xs lo hi) (cutV vs lo hi) := by
  unfold cutD cutV
  rw [← r.length]
  exact (r.dp _).tk _
def slD (lo hi : Option Int) : D → Option D
  | .list xs => some (.list (cutD xs lo hi))
  | .tuple xs => some (.tuple (cutD xs lo hi))
  | .str z => if szOk z.length = true then some (.str (cutS z lo hi)) else none
  | _ => none
def rSl3 (K : PySem.W.Frag) : V → Option Int → Option Int → Hp → VK → Prop := fun x lo hi H Q => rSlL K x lo hi H Q ∨ rSlA K x lo hi H Q ∨ rSlS x lo hi H Q
theorem sl3 : SlR X (rSl3 X.K) := sl_list.or (sl_tupA.or sl_str)
def slK (lo hi : Option Int) : Vl → Store → Rs Vl := fun x st => optR st ((deref st x).bind (slD lo hi))
def eSl (f : DE) (l h : DO) : DE := fun δ st => (f δ st).bind fun x st1 => (l δ st1).bind fun lo st2 => (h δ st2).bind fun hi st3 => slK lo hi x st3
theorem sIx_all (n : Nat) (lo hi : Option Int) (h : HT.sIx n 0 lo = 0 ∧ HT.sIx n n hi = n) (xs : List D) (hn : xs.length = n) : cutD xs lo hi = xs := by
  subst hn
  unfold cutD
  rw [h.1, h.2, List.drop_zero, Nat.sub_zero, List.take_length]
theorem de_sl {e : Expr} {lo hi : Option Expr} {p2 : Pos} {f : DE} {l h : DO} (he : DEx X W e f) (hl : DOx X W lo l) (hu : DOx X W hi h) : DEx X W (.Subscript e (.Slice lo hi none p2) pos) (eSl f l h) := PE.imp (pe_slice sl3 he hl hu) fun σ H Q q =>
  tE.bind (γ := Vl) (k := fun δ x st1 => (l δ st1).bind fun lo st2 => (h δ st2).bind fun hi st3 => slK lo hi x st3) q fun δ μ1 H1 x st1 v hE hS rx q1 =>
    ⟨δ, μ1, st1, hE, hS, Den.bind q1 fun lo st2 lo' μ2 H2 _ s2 S2 el q2 => ⟨δ, μ2, st2, hE.step s2, S2, Den.bind q2 fun hi st3 hi' μ3 H3 _ s3 S3 eh q3 => by
      subst el eh
      unfold slK at q3
      have rx3 := (rx.step s2).step s3
      cases e1 : deref st3 x with
      | none => rw [e1] at q3; exact q3.elim
      | some d =>
        rw [e1, Option.bind_some] at q3
        have rr := deref_ok S3 e1 rx3
        cases d with
        | list xs =>
          obtain ⟨a, vs, rfl, h1, r⟩ := rr.lst
          exact .inl ⟨a, vs, rfl, h1, fun p hp => (Ans.of_den S3 q3).lst (r.cut _ _) (fun _ z => S3.nin z) hp⟩
        | tuple xs =>
          have rt : Rp X.K μ3 H3 (.tuple xs) v := by
            rcases rr with z | ⟨_, _, _, z, _⟩ | ⟨_, _, z, _⟩
            · exact z
            · cases z
            · cases z
          obtain ⟨a, vs, rfl, h1, r⟩ := Rp.tup_inv rt
          refine .inr (.inl ⟨a, vs, rfl, h1.sq, fun z => ?_, fun z p hp => (Ans.of_den S3 q3).tup (r.cut _ _) (fun _ z => S3.nin z) hp⟩)
          have q4 := Ans.of_den S3 q3
          rw [sIx_all _ _ _ z xs r.length] at q4
          exact q4.here rt
        | str z =>
          have q3 : Den X.K X.mg (RV X.K) (fun c d H => W c d σ H) Q μ3 H3 (optR st3 (if szOk z.length = true then some (.str (cutS z lo hi)) else none)) := q3
          by_cases hz : szOk z.length = true
          · rw [if_pos hz] at q3
            exact .inr (.inr ⟨z, rr.str, szOk_ok hz, (Ans.of_den S3 q3).here (.str _)⟩)
          · rw [if_neg hz] at q3; exact q3.elim
        | _ => exact q3.elim⟩⟩
end
/-! ### built-ins -/
theorem RrL.one {K : PySem.W.Frag} {μ : Mu} {H : Hp} {x : D} {vs : List V} (r : RrL K μ H [x] vs) : ∃ v, vs = [v] ∧ Rr K μ H x v := by
  cases r with
  | cons h t => cases t; exact ⟨_, rfl, h⟩
theorem RrL.two {K : PySem.W.Frag} {μ : Mu} {H : Hp} {x y : D} {vs : List V} (r : RrL K μ H [x, y] vs) : ∃ v w, vs = [v, w] ∧ Rr K μ H x v ∧ Rr K μ H y w := by
  cases r with
  | cons h t =>
    obtain ⟨w, rfl, h2⟩ := t.one
    exact ⟨_, _, rfl, h, h2⟩
def bLen : List D → Option D
  | [.list xs] => some (.int xs.length)
  | [.tuple xs] => some (.int xs.length)
  | [.str z] => if szOk z.length = true then some (.int z.length) else none
  | _ => none
def bAbs : List D → Option D
  | [.int i] => some (.int (if i < 0 then -i else i))
  | _ => none
def bMax2 : List D → Option D
  | [.int i, .int j] => some (.int (if j > i then j else i))
  | _ => none
def bMin2 : List D → Option D
  | [.int i, .int j] => some (.int (if j < i then j else i))
  | _ => none
def bInt : List D → Option D
  | [.int i] => some (.int i)
  | [.bool k] => some (.int (if k then 1 else 0))
  | _ => none
def bBool : List D → Option D
  | [.int i] => some (.bool (i != 0))
  | [.bool k] => some (.bool k)
  | _ => none
def bStr : List D → Option D
  | [.int i] => if decide (i.natAbs < 2 ^ 1900) = true then some (.str (toString i)) else none
  | _ => none
def bTuple : List D → Option D
  | [.list xs] => some (.tuple xs)
  | [.tuple xs] => some (.tuple xs)
  | _ => none
def bList : List D → Option D
  | [.list xs] => some (.list xs)
  | [.tuple xs] => some (.list xs)
  | _ => none
def intsD : List D → Option (List Int)
  | [] => some []
  | .int i :: r => (intsD r).map (i :: ·)
  | _ :: _ => none
def boolsD : List D → Option (List Bool)
  | [] => some []
  | .bool i :: r => (boolsD r).map (i :: ·)
  | _ :: _ => none
theorem intsD_ok : ∀ {xs : List D} {ns : List Int}, intsD xs = some ns → xs = ns.map PyData.int
  | [], _, e => by cases e; rfl
  | .int i :: r, ns, e => by
    unfold intsD at e
    cases q : intsD r with
    | none => rw [q] at e; cases e
    | some l => rw [q] at e; cases e; rw [intsD_ok q]; rfl
  | .none :: _, _, e => by cases e
  | .bool _ :: _, _, e => by cases e
  | .str _ :: _, _, e => by cases e
  | .list _ :: _, _, e => by cases e
  | .tuple _ :: _, _, e => by cases e
  | .dict _ :: _, _, e => by cases e
theorem boolsD_ok : ∀ {xs : List D} {ns : List Bool}, boolsD xs = some ns → xs = ns.map PyData.bool
  | [], _, e => by cases e; rfl
  | .bool i :: r, ns, e => by
    unfold boolsD at e
    cases q : boolsD r with
    | none => rw [q] at e; cases e
    | some l => rw [q] at e; cases e; rw [boolsD_ok q]; rfl
  | .none :: _, _, e => by cases e
  | .int _ :: _, _, e => by cases e
  | .str _ :: _, _, e => by cases e
  | .list _ :: _, _, e => by cases e
  | .tuple _ :: _, _, e => by cases e
  | .dict _ :: _, _, e => by cases e
theorem intsD_map (ns : List Int) : intsD (ns.map PyData.int) = some ns := by
  induction ns with
  | nil => rfl
  | cons n r ih => rw [List.map_cons, intsD, ih]; rfl
theorem boolsD_map (ns : List Bool) : boolsD (ns.map PyData.bool) = some ns := by
  induction ns with
  | nil => rfl
  | cons n r ih => rw [List.map_cons, boolsD, ih]; rfl
def maxI : List Int → Option Int
  | [] => none
  | x :: r => some (r.foldl max x)
def minI : List Int → Option Int
  | [] => none
  | x :: r => some (r.foldl min x)
theorem foldl_max : ∀ (r : List Int) (x : Int), (r.foldl max x ∈ x :: r) ∧ ∀ y ∈ x :: r, y ≤ r.foldl max x
  | [], x => ⟨by simp, fun y h => by simp at h; subst h; exact Int.le_refl _⟩
  | z :: r, x => by
    obtain ⟨h1, h2⟩ := foldl_max r (max x z)
    have hx : x ≤ max x z := Int.le_max_left _ _
    have hz : z ≤ max x z := Int.le_max_right _ _
    refine ⟨?_, fun y h => ?_⟩
    · rw [List.foldl_cons]
      rcases List.mem_cons.mp h1 with e | e
      · rw [e]
        rcases Int.le_total x z with q | q
        · rw [Int.max_eq_right q]; simp
        · rw [Int.max_eq_left q]; simp
      · exact List.mem_cons_of_mem _ (List.mem_cons_of_mem _ e)
    · rw [List.foldl_cons]
      have h0 := h2 (max x z) List.mem_cons_self
      rcases List.mem_cons.mp h with e | e
      · subst e; omega
      · rcases List.mem_cons.mp e with e | e
        · subst e; omega
        · exact h2 y (List.mem_cons_of_mem _ e)
theorem foldl_min : ∀ (r : List Int) (x : Int), (r.foldl min x ∈ x :: r) ∧ ∀ y ∈ x :: r, r.foldl min x ≤ y
  | [], x => ⟨by simp, fun y h => by simp at h; subst h; exact Int.le_refl _⟩
  | z :: r, x => by
    obtain ⟨h1, h2⟩ := foldl_min r (min x z)
    have hx : min x z ≤ x := Int.min_le_left _ _
    have hz : min x z ≤ z := Int.min_le_right _ _
    refine ⟨?_, fun y h => ?_⟩
    · rw [List.foldl_cons]
      rcases List.mem_cons.mp h1 with e | e
      · rw [e]
        rcases Int.le_total x z with q | q
        · rw [Int.min_eq_left q]; simp
        · rw [Int.min_eq_right q]; simp
      · exact List.mem_cons_of_mem _ (List.mem_cons_of_mem _ e)
    · rw [List.foldl_cons]
      have h0 := h2 (min x z) List.mem_cons_self
      rcases List.mem_cons.mp h with e | e
      · subst e; omega
      · rcases List.mem_cons.mp e with e | e
        · subst e; omega
        · exact h2 y (List.mem_cons_of_mem _ e)
def bMaxL : List D → Option D
  | [.list xs] => ((intsD xs).bind maxI).map PyData.int
  | _ => none
def bMinL : List D → Option D
  | [.list xs] => ((intsD xs).bind minI).map PyData.int
  | _ => none
def bSum : List D → Option D
  | [.list xs] => (intsD xs).map fun ns => PyData.int ns.sum
  | _ => none
def bAll : List D → Option D
  | [.list xs] => (boolsD xs).map fun ns => PyData.bool (ns.all id)
  | _ => none
def bAny : List D → Option D
  | [.list xs] => (boolsD xs).map fun ns => PyData.bool (ns.any id)
  | _ => none
/-- ints in order -/
def sortI (ns : List Int) : List Int := ns.mergeSort fun a b => decide (a ≤ b)
def bSorted : List D → Option D
  | [.list xs] => (intsD xs).map fun ns => PyData.list ((sortI ns).map PyData.int)
  | _ => none
section
variable {K : PySem.W.Frag} {mg : Str → Option Value} {X : Cx}
theorem cd_len : CallD K mg (fun xs H Q => ∃ x n, xs = [x] ∧ LenV K x H n ∧ Q (.int n) H) (purL bLen) := CallD.pur fun μ H xs d vs Q N rx e q => by
  unfold bLen at e
  split at e
  · obtain ⟨v, rfl, r⟩ := rx.one
    cases e
    obtain ⟨a, ws, rfl, h, r⟩ := r.lst
    exact ⟨_, _, rfl, .inl ⟨ws, h, rfl⟩, by rw [← r.length]; exact q.here (.int _)⟩
  · obtain ⟨v, rfl, r⟩ := rx.one
    cases e
    obtain ⟨a, ws, rfl, h, r⟩ := r.tup
    exact ⟨_, _, rfl, .inr ⟨ws, .inl (.inl h), rfl⟩, by rw [← r.length]; exact q.here (.int _)⟩
  · obtain ⟨v, rfl, r⟩ := rx.one
    split at e
    · rename_i hz
      cases e
      cases r.str
      exact ⟨_, _, rfl, ⟨szOk_ok hz, rfl⟩, q.here (.int _)⟩
    · cases e
  · cases e
theorem cd_abs : CallD K mg (fun xs H Q => ∃ i, xs = [.int i] ∧ Q (.int (if i < 0 then -i else i)) H) (purL bAbs) := CallD.pur fun μ H xs d vs Q N rx e q => by
  unfold bAbs at e
  split at e
  · obtain ⟨v, rfl, r⟩ := rx.one
    cases e
    cases r.int
    exact ⟨_, rfl, q.here (.int _)⟩
  · cases e
theorem cd_max2 : CallD K mg (fun xs H Q => ∃ i j, xs = [.int i, .int j] ∧ Q (.int (if j > i then j else i)) H) (purL bMax2) := CallD.pur fun μ H xs d vs Q N rx e q => by
  unfold bMax2 at e
  split at e
  · obtain ⟨v, w, rfl, r, r2⟩ := rx.two
    cases e
    cases r.int
    cases r2.int
    exact ⟨_, _, rfl, q.here (.int _)⟩
  · cases e
theorem cd_min2 : CallD K mg (fun xs H Q => ∃ i j, xs = [.int i, .int j] ∧ Q (.int (if j < i then j else i)) H) (purL bMin2) := CallD.pur fun μ H xs d vs Q N rx e q => by
  unfold bMin2 at e
  split at e
  · obtain ⟨v, w, rfl, r, r2⟩ := rx.two
    cases e
    cases r.int
    cases r2.int
    exact ⟨_, _, rfl, q.here (.int _)⟩
  · cases e
theorem cd_int : CallD K mg (fun xs H Q => (∃ i, xs = [.int i] ∧ Q (.int i) H) ∨ ∃ k, xs = [.bl k] ∧ Q (.int (if k then 1 else 0)) H) (purL bInt) := CallD.pur fun μ H xs d vs Q N rx e q => by
  unfold bInt at e
  split at e
  · obtain ⟨v, rfl, r⟩ := rx.one
    cases e
    cases r.int
    exact .inl ⟨_, rfl, q.here (.int _)⟩
  · obtain ⟨v, rfl, r⟩ := rx.one
    cases e
    cases r.bl
    exact .inr ⟨_, rfl, q.here (.int _)⟩
  · cases e
theorem cd_bool : CallD K mg (fun xs H Q => (∃ i, xs = [.int i] ∧ Q (.bl (i != 0)) H) ∨ ∃ k, xs = [.bl k] ∧ Q (.bl k) H) (purL bBool) := CallD.pur fun μ H xs d vs Q N rx e q => by
  unfold bBool at e
  split at e
  · obtain ⟨v, rfl, r⟩ := rx.one
    cases e
    cases r.int
    exact .inl ⟨_, rfl, q.here (.bl _)⟩
  · obtain ⟨v, rfl, r⟩ := rx.one
    cases e
    cases r.bl
    exact .inr ⟨_, rfl, q.here (.bl _)⟩
  · cases e
theorem log2_of {n k : Nat} (hk : 0 < k) (h : n < 2 ^ k) : n.log2 < k := PySem.Flt.log2_lt_of hk h
theorem cd_str : CallD K mg (fun xs H Q => ∃ i, xs = [.int i] ∧ i.natAbs.log2 < 1920 ∧ Q (.str (toString i)) H) (purL bStr) := CallD.pur fun μ H xs d vs Q N rx e q => by
  unfold bStr at e
  split at e
  · obtain ⟨v, rfl, r⟩ := rx.one
    split at e
    · rename_i h
      cases e
      cases r.int
      exact ⟨_, rfl, Nat.lt_of_lt_of_le (log2_of (by decide) (of_decide_eq_true h)) (by decide), q.here (.str _)⟩
    · cases e
  · cases e
theorem cd_tuple : CallD K mg (fun xs H Q => ∃ p ys, xs = [.ref p] ∧ ((SqL K H p ys ∧ ∀ l, H l = none → Q (.ref l) (upd H l (.tup ys))) ∨ (SqT K H p ys ∧ Q (.ref p) H))) (purL bTuple) := CallD.pur fun μ H xs d vs Q N rx e q => by
  unfold bTuple at e
  split at e
  · obtain ⟨v, rfl, r⟩ := rx.one
    cases e
    obtain ⟨a, ws, rfl, h, r⟩ := r.lst
    exact ⟨a, ws, rfl, .inl ⟨h, fun l hl => q.tup r N hl⟩⟩
  · obtain ⟨v, rfl, r⟩ := rx.one
    cases e
    rcases r with z | ⟨_, _, _, z, _⟩ | ⟨_, _, z, _⟩
    · obtain ⟨a, ws, rfl, h, r⟩ := Rp.tup_inv z
      exact ⟨a, ws, rfl, .inr ⟨h.sq, q.here z⟩⟩
    · cases z
    · cases z
  · cases e
theorem cd_list : CallD K mg (fun xs H Q => ∃ p ys, xs = [.ref p] ∧ (SqL K H p ys ∨ SqT K H p ys) ∧ ∀ l, H l = none → Q (.ref l) (upd H l (.lst ys))) (purL bList) := CallD.pur fun μ H xs d vs Q N rx e q => by
  unfold bList at e
  split at e
  · obtain ⟨v, rfl, r⟩ := rx.one
    cases e
    obtain ⟨a, ws, rfl, h, r⟩ := r.lst
    exact ⟨a, ws, rfl, .inl h, fun l hl => q.lst r N hl⟩
  · obtain ⟨v, rfl, r⟩ := rx.one
    cases e
    obtain ⟨a, ws, rfl, h, r⟩ := r.tup
    exact ⟨a, ws, rfl, .inr (.inl (.inl h)), fun l hl => q.lst r N hl⟩
  · cases e
theorem ints_of {μ : Mu} {H : Hp} {xs : List D} {ns : List Int} {v : V} (r : Rr K μ H (.list xs) v) (e : intsD xs = some ns) : ∃ a, v = .ref a ∧ SqL K H a (ns.map V.int) := by
  obtain ⟨a, ws, rfl, h, r⟩ := r.lst
  rw [intsD_ok e] at r
  rw [r.ints] at h
  exact ⟨a, rfl, h⟩
theorem bools_of {μ : Mu} {H : Hp} {xs : List D} {ns : List Bool} {v : V} (r : Rr K μ H (.list xs) v) (e : boolsD xs = some ns) : ∃ a, v = .ref a ∧ SqL K H a (ns.map V.bl) := by
  obtain ⟨a, ws, rfl, h, r⟩ := r.lst
  rw [boolsD_ok e] at r
  rw [r.bls] at h
  exact ⟨a, rfl, h⟩
theorem cd_maxL : CallD K mg (rMax K) (purL bMaxL) := CallD.pur fun μ H xs d vs Q N rx e q => by
  unfold bMaxL at e
  split at e
  · obtain ⟨v, rfl, r⟩ := rx.one
    rename_i xs
    cases h1 : intsD xs with
    | none => rw [h1] at e; cases e
    | some ns =>
      rw [h1] at e
      cases ns with
      | nil => cases e
      | cons n ns =>
        cases e
        obtain ⟨a, rfl, h⟩ := ints_of r h1
        refine ⟨a, n :: ns, rfl, h, Nat.zero_lt_succ _, fun m hm hle => ?_⟩
        obtain ⟨k1, k2⟩ := foldl_max ns n
        have : m = ns.foldl max n := Int.le_antisymm (k2 m hm) (hle _ k1)
        rw [this]
        exact q.here (.int _)
  · cases e
theorem cd_minL : CallD K mg (rMin K) (purL bMinL) := CallD.pur fun μ H xs d vs Q N rx e q => by
  unfold bMinL at e
  split at e
  · obtain ⟨v, rfl, r⟩ := rx.one
    rename_i xs
    cases h1 : intsD xs with
    | none => rw [h1] at e; cases e
    | some ns =>
      rw [h1] at e
      cases ns with
      | nil => cases e
      | cons n ns =>
        cases e
        obtain ⟨a, rfl, h⟩ := ints_of r h1
        refine ⟨a, n :: ns, rfl, h, Nat.zero_lt_succ _, fun m hm hle => ?_⟩
        obtain ⟨k1, k2⟩ := foldl_min ns n
        have : m = ns.foldl min n := Int.le_antisymm (hle _ k1) (k2 m hm)
        rw [this]
        exact q.here (.int _)
  · cases e
theorem cd_sum : CallD K mg (rSum K) (purL bSum) := CallD.pur fun μ H xs d vs Q N rx e q => by
  unfold bSum at e
  split at e
  · obtain ⟨v, rfl, r⟩ := rx.one
    rename_i xs
    cases h1 : intsD xs with
    | none => rw [h1] at e; cases e
    | some ns =>
      rw [h1] at e
      cases e
      obtain ⟨a, rfl, h⟩ := ints_of r h1
      exact ⟨a, ns, rfl, h, q.here (.int _)⟩
  · cases e
theorem cd_all : CallD K mg (rAll K) (purL bAll) := CallD.pur fun μ H xs d vs Q N rx e q => by
  unfold bAll at e
  split at e
  · obtain ⟨v, rfl, r⟩ := rx.one
    rename_i xs
    cases h1 : boolsD xs with
    | none => rw [h1] at e; cases e
    | some ns =>
      rw [h1] at e
      cases e
      obtain ⟨a, rfl, h⟩ := bools_of r h1
      exact ⟨a, ns, rfl, h, q.here (.bl _)⟩
  · cases e
theorem cd_any : CallD K mg (rAny K) (purL bAny) := CallD.pur fun μ H xs d vs Q N rx e q => by
  unfold bAny at e
  split at e
  · obtain ⟨v, rfl, r⟩ := rx.one
    rename_i xs
    cases h1 : boolsD xs with
    | none => rw [h1] at e; cases e
    | some ns =>
      rw [h1] at e
      cases e
      obtain ⟨a, rfl, h⟩ := bools_of r h1
      exact ⟨a, ns, rfl, h, q.here (.bl _)⟩
  · cases e
theorem sorted_uniq : ∀ {xs ys : List Int}, xs.Perm ys → xs.Pairwise (· ≤ ·) → ys.Pairwise (· ≤ ·) → xs = ys := fun p h1 h2 =>
  p.eq_of_pairwise (le := (· ≤ ·)) (fun a b _ _ h h' => Int.le_antisymm h h') h1 h2
theorem sortI_perm (ns : List Int) : (sortI ns).Perm ns := List.mergeSort_perm _ _
theorem sortI_sorted (ns : List Int) : (sortI ns).Pairwise (· ≤ ·) := by
  have := List.pairwise_mergeSort (le := fun a b : Int => decide (a ≤ b)) (fun a b c h1 h2 => by simp at h1 h2 ⊢; omega) (fun a b => by simp; omega) ns
  exact this.imp fun h => by simpa using h
theorem cd_sorted : CallD K mg (rSortedI K) (purL bSorted) := CallD.pur fun μ H xs d vs Q N rx e q => by
  unfold bSorted at e
  split at e
  · obtain ⟨v, rfl, r⟩ := rx.one
    rename_i xs
    cases h1 : intsD xs with
    | none => rw [h1] at e; cases e
    | some ns =>
      rw [h1] at e
      cases e
      obtain ⟨a, rfl, h⟩ := ints_of r h1
      refine ⟨a, ns, rfl, h, fun ns' p hp hs hf => ?_⟩
      have : ns' = sortI ns := sorted_uniq (hp.trans (sortI_perm ns).symm) hs (sortI_sorted ns)
      subst this
      exact q.lst (RpL.of_ints _) N hf
  · cases e
end
/-! ### isinstance(x, T), T a built-in type -/
def tyN : D → String
  | .none => "NoneType"
  | .bool _ => "bool"
  | .int _ => "int"
  | .str _ => "str"
  | .list _ => "list"
  | .tuple _ => "tuple"
  | .dict _ => "dict"
/-- whether the type T is x's own, or bool's int -/
def isTy (T : String) (x : D) : Bool := tyN x == T || (tyN x == "bool" && T == "int")
def eIs (T : String) (f : DE) : DE := fun δ st => (f δ st).bind fun x st1 => match deref st1 x with
  | some d => .ok (.d (.bool (isTy T d))) st1
  | none => .bad
theorem kit_tab : ∀ T ∈ ["int", "bool", "str", "tuple", "list"], ∀ U ∈ ["NoneType", "bool", "int", "str", "list", "tuple"], kitB U T = some (U == T || (U == "bool" && T == "int")) := by decide +kernel
section
variable {X : Cx} {W : WX} {pos p p2 : Pos}
theorem Rr.ty {K : PySem.W.Frag} {μ : Mu} {H : Hp} {x : D} {v : V} (r : Rr K μ H x v) : TyX K H v (.type (tyN x)) ∧ tyN x ∈ ["NoneType", "bool", "int", "str", "list", "tuple"] := by
  cases x with
  | none => rw [r.non]; exact ⟨.base .non, by decide⟩
  | bool b => rw [r.bl]; exact ⟨.base (.bl _), by show "bool" ∈ _; decide⟩
  | int b => rw [r.int]; exact ⟨.base (.int _), by show "int" ∈ _; decide⟩
  | str b => rw [r.str]; exact ⟨.base (.str _), by show "str" ∈ _; decide⟩
  | list xs =>
    obtain ⟨a, vs, rfl, h, _⟩ := r.lst
    refine ⟨?_, by show "list" ∈ _; decide⟩
    rcases h with (h | ⟨o, h⟩) | ⟨o, its, n, h1, h2, _⟩
    · exact .base (.lst h)
    · exact .base (.frz h)
    · exact .kList h1 h2
  | tuple xs =>
    obtain ⟨a, vs, rfl, h, _⟩ := r.tup
    exact ⟨.base (.tup h), by show "tuple" ∈ _; decide⟩
  | dict xs =>
    rcases r with h | ⟨a, ys, vs, e1, _⟩ | ⟨a, ns, e1, _⟩
    · cases h
    · cases e1
    · cases e1
theorem de_is {e : Expr} {T : String} {x : Str} {f : DE} (hT : T ∈ ["int", "bool", "str", "tuple", "list"]) (hg : Gl X "isinstance") (hm : X.mg "isinstance" = none) (hg2 : Gl X x) (hm2 : X.mg x = none) (hv : bootBuiltins x = some (.type T)) (hn : x ≠ "__name__") (hd : (x == ("__debug__" : Str)) = false) (he : DEx X W e f)
    (h1 : starEach [e, .Name x p2] X.env = (false, eval e X.env) :: starEach [.Name x p2] X.env := by rfl) (h2 : starEach [.Name x p2] X.env = (false, eval (.Name x p2) X.env) :: starEach [] X.env := by rfl)
    (hpl : (backTo pos (starEach [.Name x p2] X.env)).any (·.1) = false := by rfl) : DEx X W (.Call (.Name "isinstance" p) [e, .Name x p2] [] pos) (eIs T f) :=
  PE.imp (pe_callB call_isi hg hm (by decide +kernel) (pa_cons he (pa_cons (pe_bltn (v := .ty T) hg2 hm2 hv rfl hn hd) pa_nil h2) h1) (he := h1) (hpl := hpl)) fun σ H Q q =>
    tE.bind (γ := Vl) (k := fun _ x st1 => match deref st1 x with
      | some d => .ok (.d (.bool (isTy T d))) st1
      | none => .bad) q fun δ μ1 H1 y st1 v hE hS rx q1 => by
      cases e1 : deref st1 y with
      | none => simp only [e1] at q1; exact q1.elim
      | some d =>
        simp only [e1] at q1
        have rr := deref_ok hS e1 rx
        obtain ⟨t1, t2⟩ := rr.ty
        exact ⟨v, .ty T, .type (tyN d), .type T, _, rfl, .ty T, t1, kit_ty (kit_tab T hT _ t2), q1 _ μ1 H1 .refl hS (.bl _)⟩
/-! ### o[i] = e, o.append(e) on a mutable list -/
def sSub (o i e : DE) : DS := fun δ st => toS (e δ st) δ fun v st1 => toS (o δ st1) δ fun x st2 => toS (i δ st2) δ fun y st3 => match v, x, y with
  | .d d, .r n, .d (.int k) => (match st3[n]? with
    | some (.lst xs) => (match ixN xs.length k with
      | some j => .nx δ (st3.set n (.lst (xs.set j d)))
      | none => .bad)
    | _ => .bad)
  | _, _, _ => .bad
theorem ds_sub {o i e : Expr} {fo fi fe : DE} {spos : Pos} (ho : DEx X W o fo) (hi : DEx X W i fi) (he : DEx X W e fe)
    (ha : ∀ v, assign (.Subscript o i spos) X.env v = (do
      let ov ← holding [v] (eval o X.env)
      let iv ← holding [v, ov] (eval i X.env)
      standAt spos
      holding [v, ov, iv] (setItem ov iv v)
      release [v, ov, iv] []) := by intro _; rfl)
    (hs : swapsWithSole [.Subscript o i spos] e pos.line X.env = pure false := by rfl) (hw : swappedStores [.Subscript o i spos] e X.env = pure none := by rfl)
    (h1 : (assignEach [.Subscript o i spos] X.env).map (·.2) = [assign (.Subscript o i spos) X.env] := by rfl) : DSx X W (.Assign [.Subscript o i spos] e pos) (sSub fo fi fe) := PS.imp (ps_asg he (pg_sub ho hi set_list ha) hs hw h1) fun E σ H h => by
  refine tE.toS (k := fun δ v st1 => toS (fo δ st1) δ fun x st2 => toS (fi δ st2) δ fun y st3 => match v, x, y with
    | .d d, .r n, .d (.int k) => (match st3[n]? with
      | some (.lst xs) => (match ixN xs.length k with
        | some j => .nx δ (st3.set n (.lst (xs.set j d)))
        | none => .bad)
      | _ => .bad)
    | _, _, _ => .bad) h fun δ μ1 H1 v st1 u hE hS rv q => ?_
  refine ⟨δ, μ1, st1, hE, hS, den_toS hE q fun x st2 ux μ2 H2 s2 S2 rx q2 => ⟨δ, μ2, st2, hE.step s2, S2, den_toS (hE.step s2) q2 fun y st3 uy μ3 H3 s3 S3 ry q3 => ?_⟩⟩
  cases v with
  | r n => exact q3.elim
  | s n => exact q3.elim
  | f n => exact q3.elim
  | d d =>
    cases x with
    | d n => exact q3.elim
    | s n => exact q3.elim
    | f n => exact q3.elim
    | r n =>
      cases y with
      | r n => exact q3.elim
      | s n => exact q3.elim
      | f n => exact q3.elim
      | d y =>
        cases y with
        | int k =>
          simp only at q3
          cases e1 : st3[n]? with
          | none => rw [e1] at q3; exact q3.elim
          | some ob =>
            cases ob with
            | tab t t2 => rw [e1] at q3; exact q3.elim
            | dct t t2 => rw [e1] at q3; exact q3.elim
            | ins t t2 => rw [e1] at q3; exact q3.elim
            | mix t t2 => rw [e1] at q3; exact q3.elim
            | dcm t t2 => rw [e1] at q3; exact q3.elim
            | exv t t2 => rw [e1] at q3; exact q3.elim
            | lst xs =>
              simp only [e1] at q3
              cases e2 : ixN xs.length k with
              | none => rw [e2] at q3; exact q3.elim
              | some j =>
                simp only [e2] at q3
                obtain ⟨a, ha1, rfl⟩ := rx.step s3
                obtain ⟨vs, hH, r⟩ := S3.ob n a _ ha1 e1
                cases ry
                have rd : Rp X.K μ3 H3 d u := Rp.step s3 (Rp.step s2 rv)
                obtain ⟨s4, S4⟩ := S3.write ha1 (r.set rd j)
                exact ⟨a, vs, k, j, rfl, rfl, hH, by rw [← r.length]; exact e2, q3 σ μ3 _ s4 S4 (((hE.step s2).step s3).step s4)⟩
        | _ => exact q3.elim
def appK (n : Nat) : Vl → Store → Rs Vl := fun y st => match y with
  | .d d => (match st[n]? with
    | some (.lst xs) => if decide (xs.length < 16777216) = true then .ok (.d .none) (st.set n (.lst (xs ++ [d]))) else .bad
    | _ => .bad)
  | _ => .bad
def appG (fe : DE) (δ : DEnv) : Vl → Store → Rs Vl := fun x st => match x with
  | .r n => (match st[n]? with
    | some (.lst _) => (fe δ st).bind (appK n)
    | _ => .bad)
  | _ => .bad
def eApp (o e : DE) : DE := fun δ st => (o δ st).bind (appG e δ)
theorem de_app {o e : Expr} {fo fe : DE} {apos cpos : Pos} (ho : DEx X W o fo) (he : DEx X W e fe) (hbase : attributeBase o "append" X.env (eval o X.env) = eval o X.env := by rfl)
    (hfew : ((backTo cpos (starEach [e] X.env)).all (fun x => !x.1) && (backToKw cpos (keywordEach [] X.env)).all (fun x => x.1.isSome)
      && decide ([e].length + ([] : List Keyword).length + (if ([] : List Keyword).isEmpty then 0 else 1) < 30)) = true := by rfl)
    (hline : (apos.endLine == cpos.line) = true := by rfl) (hs : starEach [e] X.env = (false, eval e X.env) :: starEach [] X.env := by rfl) (hplain : (backTo cpos (starEach [] X.env)).any (·.1) = false := by rfl) :
    DEx X W (.Call (.Attribute o "append" apos) [e] [] cpos) (eApp fo fe) :=
  PE.imp (pe_bm PySem.F.plainAttrs_list PySem.F.slot_list_append PySem.F.type_list_append mt_append ho (pa_cons he pa_nil hs) hbase hfew hline hs hplain) fun σ H Q q =>
    tE.bind (γ := Vl) (k := fun δ x st1 => appG fe δ x st1) q fun δ μ1 H1 x st1 v hE hS rx q1 => by
      cases x with
      | d x => exact q1.elim
      | s n => exact q1.elim
      | f n => exact q1.elim
      | r n =>
        have q1 : Den X.K X.mg (RV X.K) (fun c d H => W c d σ H) Q μ1 H1 (match st1[n]? with
          | some (.lst _) => (fe δ st1).bind (appK n)
          | _ => .bad) := q1
        cases e0 : st1[n]? with
        | none => rw [e0] at q1; exact q1.elim
        | some ob =>
          rw [e0] at q1
          cases ob with
          | tab t t2 => exact q1.elim
          | dct t t2 => exact q1.elim
          | ins t t2 => exact q1.elim
          | mix t t2 => exact q1.elim
          | dcm t t2 => exact q1.elim
          | exv t t2 => exact q1.elim
          | lst zs =>
          have q1 : Den X.K X.mg (RV X.K) (fun c d H => W c d σ H) Q μ1 H1 ((fe δ st1).bind (appK n)) := q1
          obtain ⟨a, ha, rfl⟩ := rx
          obtain ⟨ws, hH, _⟩ := hS.ob n a _ ha e0
          refine ⟨.inl ⟨rfl, ws, .inl (.inl hH)⟩, δ, μ1, st1, hE, hS, Den.bind q1 fun y st2 w μ2 H2 _ s2 S2 ry q2 => ?_⟩
          show rAppend (.ref a) [w] H2 Q
          cases y with
          | r n => exact q2.elim
          | s n => exact q2.elim
          | f n => exact q2.elim
          | d y =>
            simp only [appK] at q2
            have ha2 : μ2.m[n]? = some a := by
              obtain ⟨b, hb, e⟩ := RV.step s2 (x := .r n) (K := X.K) (v := .ref a) ⟨a, ha, rfl⟩
              cases e; exact hb
            cases e2 : st2[n]? with
            | none => rw [e2] at q2; exact q2.elim
            | some ob =>
              cases ob with
              | tab t t2 => rw [e2] at q2; exact q2.elim
              | dct t t2 => rw [e2] at q2; exact q2.elim
              | ins t t2 => rw [e2] at q2; exact q2.elim
              | mix t t2 => rw [e2] at q2; exact q2.elim
              | dcm t t2 => rw [e2] at q2; exact q2.elim
              | exv t t2 => rw [e2] at q2; exact q2.elim
              | lst xs =>
                simp only [e2] at q2
                by_cases hz : decide (xs.length < 16777216) = true
                · rw [if_pos hz] at q2
                  obtain ⟨vs, hH2, r⟩ := S2.ob n a _ ha2 e2
                  obtain ⟨s3, S3⟩ := S2.write ha2 (r.append (.cons ry .nil))
                  refine ⟨a, vs, w, rfl, rfl, hH2, by rw [sizeLine_eq, ← r.length]; exact of_decide_eq_true hz, q2 _ μ2 _ s3 S3 .non⟩
                · rw [if_neg hz] at q2; exact q2.elim
end
end DL
/-! comparisons in a row, signs, op= and so on -/
namespace DL
open PySem PySem.Spec L2
def eCh (o o' : O2) (f g h : DE) : DE := fun δ st => (f δ st).bind fun x st1 => (g δ st1).bind fun y st2 => (o x y st2).bind fun z st3 => (asB z st3).bind fun k st4 =>
  if k = true then (h δ st4).bind fun w st5 => o' y w st5 else .ok (.d (.bool false)) st4
section
variable {X : Cx} {W : WX} {pos : Pos} {a b c : Expr} {f g h : DE}
theorem de_tChain {r r' : R2} {o o' : O2} {e : Expr} (hr : OpD X.K X.mg r o) (hr' : OpD X.K X.mg r' o') (hp : PE X e (tChain r r' (tE X.K X.mg W f) (tE X.K X.mg W g) (tE X.K X.mg W h))) : DEx X W e (eCh o o' f g h) := PE.imp hp fun σ H Q q =>
  tE.bind (γ := Vl) (k := fun δ x st1 => (g δ st1).bind fun y st2 => (o x y st2).bind fun z st3 => (asB z st3).bind fun k st4 =>
    if k = true then (h δ st4).bind fun w st5 => o' y w st5 else .ok (.d (.bool false)) st4) q fun δ μ1 H1 x st1 v hE hS rx q1 =>
    ⟨δ, μ1, st1, hE, hS, Den.bind q1 fun y st2 w μ2 H2 _ s2 S2 ry q2 => by
      refine hr μ2 H2 st2 x y v w _ _ S2 (rx.step s2) ry (Den.bind q2 fun z st3 u μ3 H3 _ s3 S3 rz q3 => ?_)
      obtain ⟨k, e, q4⟩ := den_asB2 rz q3
      refine ⟨k, e, ?_⟩
      cases k with
      | false => exact iteF (q4 _ μ3 H3 .refl S3 (.bl false))
      | true => exact iteT ⟨δ, μ3, st3, (hE.step s2).step s3, S3, Den.bind q4 fun w' st4 u' μ4 H4 _ s4 S4 rw q5 => hr' μ4 H4 st4 y w' w u' _ Q S4 ((ry.step s3).step s4) rw q5⟩⟩
theorem de_chain {op op' : CmpOp} {r r' : R2} {o o' : O2} (ho : OpR X (compareOp op) r) (ho' : OpR X (compareOp op') r') (hr : OpD X.K X.mg r o) (hr' : OpD X.K X.mg r' o') (ha : DEx X W a f) (hb : DEx X W b g) (hc : DEx X W c h)
    (hm : lastMarks [op, op'] [b, c] = false := by with_unfolding_all rfl) : DEx X W (.Compare a [op, op'] [b, c] pos) (eCh o o' f g h) := de_tChain hr hr' (pe_chain ho ho' ha hb hc hm)
theorem dt_chain {op op' : CmpOp} {r r' : R2} {o o' : O2} (ho : OpR X (compareOp op) r) (ho' : OpR X (compareOp op') r') (hr : OpD X.K X.mg r o) (hr' : OpD X.K X.mg r' o') (ha : DEx X W a f) (hb : DEx X W b g) (hc : DEx X W c h)
    (hm : lastMarks [op, op'] [b, c] = false := by with_unfolding_all rfl) : DTx X W (.Compare a [op, op'] [b, c] pos) (tst (eCh o o' f g h)) := PT.imp (pt_chain ho ho' ha hb hc hm) fun σ H Q q => by
  obtain ⟨δ, μ, st, hE, hS, q⟩ := q
  have q' : Den X.K X.mg (fun _ _ a b => a = b) (fun c d H => W c d σ H) Q μ H ((f δ st).bind fun x st1 => (g δ st1).bind fun y st2 => (o x y st2).bind fun z st3 => (asB z st3).bind fun k st4 =>
      if k = true then (h δ st4).bind fun w st5 => (o' y w st5).bind asB else .ok false st4) := by
    unfold tst eCh at q
    cases e1 : f δ st with
    | exc e st1 => rw [e1] at q; exact q
    | bad => rw [e1] at q; exact q
    | ok x st1 =>
      rw [e1] at q
      simp only [Rs.bind] at q ⊢
      cases e2 : g δ st1 with
      | exc e st2 => rw [e2] at q; exact q
      | bad => rw [e2] at q; exact q
      | ok y st2 =>
        rw [e2] at q
        simp only at q ⊢
        cases e3 : o x y st2 with
        | exc e st3 => rw [e3] at q; exact q
        | bad => rw [e3] at q; exact q
        | ok z st3 =>
          rw [e3] at q
          simp only at q ⊢
          cases e4 : asB z st3 with
          | exc e st4 => rw [e4] at q; exact q
          | bad => rw [e4] at q; exact q
          | ok k st4 =>
            rw [e4] at q
            simp only at q ⊢
            cases k with
            | false => exact q
            | true =>
              simp only [if_pos] at q ⊢
              cases e5 : h δ st4 with
              | exc e st5 => rw [e5] at q; exact q
              | bad => rw [e5] at q; exact q
              | ok w st5 => rw [e5] at q; exact q
  refine tE.bind ⟨δ, μ, st, hE, hS, q'⟩ (k := fun δ x st1 => (g δ st1).bind fun y st2 => (o x y st2).bind fun z st3 => (asB z st3).bind fun k st4 =>
      if k = true then (h δ st4).bind fun w st5 => (o' y w st5).bind asB else .ok false st4) fun δ μ1 H1 x st1 v hE hS rx q1 => ⟨δ, μ1, st1, hE, hS, Den.bind q1 fun y st2 w μ2 H2 _ s2 S2 ry q2 => ?_⟩
  refine hr μ2 H2 st2 x y v w _ _ S2 (rx.step s2) ry (Den.bind q2 fun z st3 u μ3 H3 _ s3 S3 rz q3 => ?_)
  obtain ⟨k, e, q4⟩ := den_asB2 rz q3
  refine ⟨k, e, ?_⟩
  cases k with
  | false => exact iteF ⟨false, rfl, q4 _ μ3 H3 .refl S3 rfl⟩
  | true => exact iteT ⟨δ, μ3, st3, (hE.step s2).step s3, S3, Den.bind q4 fun w' st4 u' μ4 H4 _ s4 S4 rw q5 => hr' μ4 H4 st4 y w' w u' _ _ S4 ((ry.step s3).step s4) rw (Den.bind q5 fun z5 st5 u5 μ5 H5 _ s5 S5 rz5 q6 => den_asB S5 rz5 q6)⟩
/-! one operand -/
def eNg (f : DE) : DE := fun δ st => (f δ st).bind fun x st1 => match x with
  | .d (.int i) => .ok (.d (.int (-i))) st1
  | _ => .bad
theorem de_neg (ha : DEx X W a f) : DEx X W (.UnaryOp .USub a pos) (eNg f) := PE.imp (pe_un un_neg ha) fun σ H Q q =>
  tE.bind (γ := Vl) (k := fun _ x st1 => match x with
    | .d (.int i) => .ok (.d (.int (-i))) st1
    | _ => .bad) q fun δ μ1 H1 x st1 v hE hS rx q1 => by
    cases x with
    | r n => exact q1.elim
    | s n => exact q1.elim
    | f n => exact q1.elim
    | d x =>
      cases x with
      | int i => cases rx; exact ⟨i, rfl, q1 _ μ1 H1 .refl hS (.int _)⟩
      | _ => exact q1.elim
/-- a value's truth -/
def truD : D → Option Bool
  | .none => some false
  | .bool b => some b
  | .int i => some (i != 0)
  | .str y => if szOk y.length = true then some ((y.length : Int) != 0) else none
  | .list xs => some !xs.isEmpty
  | .tuple xs => some !xs.isEmpty
  | .dict _ => none
def truK : Vl → Store → Rs Bool := fun x st => match (deref st x).bind truD with
  | some b => .ok b st
  | none => .bad
def tTr (f : DE) : DT := fun δ st => (f δ st).bind truK
theorem RpL.isEmpty {K : PySem.W.Frag} {μ : Mu} {H : Hp} {xs : List D} {vs : List V} (r : RpL K μ H xs vs) : xs.isEmpty = vs.isEmpty := by
  cases r <;> rfl
theorem dt_tru (ha : DEx X W a f) (he : ∀ whole, isTrue a X.env whole = (do let v ← whole; standAt a.pos; holding [v] (truthy v)) := by intro _; rfl) : DTx X W a (tTr f) := PT.imp (pt_truth ha he) fun σ H Q q =>
  tE.bind (k := fun _ => truK) q fun δ μ1 H1 x st1 v hE hS rx q1 => by
    unfold truK at q1
    cases e : deref st1 x with
    | none => rw [e] at q1; exact q1.elim
    | some d =>
      have rr := deref_ok hS e rx
      rw [e, Option.bind_some] at q1
      cases e2 : truD d with
      | none => rw [e2] at q1; exact q1.elim
      | some k =>
        rw [e2] at q1
        refine ⟨k, ?_, q1 k μ1 H1 .refl hS rfl⟩
        cases d with
        | none => rw [rr.non]; cases e2; rfl
        | bool b => rw [rr.bl]; cases e2; rfl
        | int i => rw [rr.int]; cases e2; rfl
        | str y =>
          rw [rr.str]
          have e2 : (if szOk y.length = true then some ((y.length : Int) != 0) else none) = some k := e2
          by_cases hz : szOk y.length = true
          · rw [if_pos hz] at e2; cases e2; exact ⟨szOk_ok hz, rfl⟩
          · rw [if_neg hz] at e2; cases e2
        | list xs =>
          obtain ⟨a, vs, rfl, h1, r⟩ := rr.lst
          cases e2
          exact .inl ⟨vs, h1, by rw [r.isEmpty]⟩
        | tuple xs =>
          obtain ⟨a, vs, rfl, h1, r⟩ := rr.tup
          cases e2
          exact .inr (.inl ⟨vs, .inl (.inl h1), by rw [r.isEmpty]⟩)
        | dict _ => cases e2
def sRetN : DS := fun _ st => .rt (.d .none) st
theorem ds_retN : DSx X W (.Return none pos) sRetN := PS.imp ps_retN fun E σ H ⟨δ, μ, st, hE, hS, h⟩ => h _ μ H .refl hS .non
theorem ds_doc {x j pos pos'} : DSx X W (.Expr (.Constant (.str x) j pos) pos') sNil := PS.imp ps_doc fun E σ H ⟨δ, μ, st, hE, hS, h⟩ => h σ μ H .refl hS hE
end
end DL
/-! the rules over a def's own scope -/
namespace DL
open PySem PySem.Spec L2
/-- the surroundings -/
structure Wd where
  P : Program
  w : World
  K : PySem.W.Frag
  mg : Str → Option Value
  base : Heap
abbrev Kw (U : Wd) (k : Nat) (x : Str) (n : Nat) (m : DF) : Prop := Kn U.P U.w U.K U.mg U.base k x n m
/-- what holds at every place of a def's body -/
structure Cz (U : Wd) (X : Cx) (W : WX) (N : List Str) (sc : Scope) (F : Str → Bool) (k : Nat) : Prop where
  e1 : X.prog = U.P
  e2 : X.w = U.w
  e3 : X.K = U.K
  e4 : X.mg = U.mg
  e5 : X.base = U.base
  n : X.N = N
  s : X.env.scope = sc
  f : X.fn = F
  calm : X.calm = true
  nd : N.Nodup
  room : Room k X.A
  tk : Takes X W
abbrev fAll : Str → Bool := fun _ => true
abbrev fCell (scope : Scope) : Str → Bool := fun x => scope.names.lookup x == some .cell
theorem relab {scope : Scope} {env : Env} {sc : Scope} (h : env.scope = sc) : relabel scope env = relS scope sc := by
  subst h; rfl
theorem takes_WF {X : Cx} : Takes X WF := fun u s' ⟨a, B, sI, pins, σ, H, cls, d, e, I, nb, up, sky, na, os, ag, w⟩ => w.elim
section
variable {U : Wd} {X : Cx} {W : WX} {N : List Str} {sc : Scope} {F : Str → Bool} {k : Nat} {pos p : Pos}
theorem Cz.blk (c : Cz U X W N sc F k) {scope : Scope} (s : Shared) (H : Hp) (C : Addr) (cl : List (Str × Addr)) (fp : List Addr) :
    Cz U (X.blk s H scope (compEnvC scope cl C X.env) fp) WF N (relS scope sc) (fCell scope) k :=
  ⟨c.e1, c.e2, c.e3, c.e4, c.e5, c.n, relab c.s, rfl, c.calm, c.nd, c.room, takes_WF⟩
theorem Cz.gl (c : Cz U X W N sc F k) {x : Str} (h : sc.names.lookup x = some .globalImplicit) : Gl X x := by
  unfold Gl Env.kindOf
  rw [c.s]; exact h
theorem Cz.v (c : Cz U X W N sc F k) (i : Nat) {x : Str} {pos : Pos} (hN : N[i]? = some x := by rfl) (hv : Vis sc x := by first | exact Or.inl rfl | exact Or.inr (Or.inl rfl) | exact Or.inr (Or.inr rfl)) (hd : (x == ("__debug__" : Str)) = false := by decide)
    (hcd : (x == ("__classdict__" : Str)) = false := by decide) : DEx X W (.Name x pos) (eV i) := dv i (by rw [c.n]; exact hN) (by rw [c.s]; exact hv) hd hcd
theorem Cz.gint (c : Cz U X W N sc F k) {x : Str} {i : Int} (hm : ∃ t, U.mg x = some (.int i t)) (g : sc.names.lookup x = some .globalImplicit := by rfl) (hd : (x == ("__debug__" : Str)) = false := by decide) : DEx X W (.Name x pos) (eC (.int i)) := by
  obtain ⟨t, ht⟩ := hm
  exact de_glob (v := .int i) (c.gl g) (by rw [c.e4]; exact ht) ⟨t, rfl⟩ (fun μ H => .int i) hd
theorem Cz.g (c : Cz U X W N sc F k) (i : Nat) {x : Str} (hi : N[i]? = some x := by rfl) (hx : Loc sc x := by first | exact .inl rfl | exact .inr rfl) (hf : F x = true ∨ sc.names.lookup x = some .local := by first | exact .inl rfl | exact .inr rfl) : DGx X [i] (.Name x pos) (gN i) :=
  dg_name (by rw [c.n]; exact c.nd) (by rw [c.n]; exact hi) (by rw [c.s]; exact hx) (by rw [c.f, c.s]; exact hf)
theorem Cz.gt (c : Cz U X W N sc F k) {es : List Expr} {kk : Nat} {ss : List Nat} {gs : List GD} (h : DGsx X ss es gs)
    (hn : (assignEach es X.env).length = gs.length := by rfl) (hst : (assignEach es X.env).findIdx? (·.1) = none := by rfl) : DGx X ss (.Tuple es kk pos) (gT gs) := dg_tup c.calm h hn hst
theorem Cz.set (c : Cz U X W N sc F k) (i : Nat) {x : Str} {e : Expr} {f : DE} {pos' : Pos} (he : DEx X W e f) (hi : N[i]? = some x := by rfl) (hx : Loc sc x := by first | exact .inl rfl | exact .inr rfl) (hs : swapsWith e (some (.Name x pos')) pos.line X.env = pure false := by rfl) (hf : F x = true ∨ sc.names.lookup x = some .local := by first | exact .inl rfl | exact .inr rfl) :
    DSx X W (.Assign [.Name x pos'] e pos) (sSet i f) := ds_set (by rw [c.n]; exact c.nd) (by rw [c.n]; exact hi) (by rw [c.s]; exact hx) he hs (by rw [c.f, c.s]; exact hf)
theorem Cz.env (c : Cz U X W N sc F k) : X.env = { X.env with scope := sc } := by
  have h := c.s
  cases q : X.env with
  | mk a b c d e f g h2 =>
    rw [q] at h
    subst h
    rfl
theorem Cz.setC (c : Cz U X W N sc F k) (i : Nat) {x : Str} {e : Expr} {f : DE} {pos' : Pos} (he : DEx X W e f) (hi : N[i]? = some x := by rfl) (hx : Loc sc x := by first | exact .inl rfl | exact .inr rfl) (hs : swapsWith e (some (.Name x pos')) pos.line { X.env with scope := sc } = pure false := by rfl) (hf : F x = true ∨ sc.names.lookup x = some .local := by first | exact .inl rfl | exact .inr rfl) :
    DSx X W (.Assign [.Name x pos'] e pos) (sSet i f) := c.set i he hi hx (by rw [c.env]; exact hs) hf
theorem Cz.un (c : Cz U X W N sc F k) {es : List Expr} {kk : Nat} {tp : Pos} {e : Expr} {f : DE} {g : GD} {ss : List Nat} (he : DEx X W e f) (hg : DGx X ss (.Tuple es kk tp) g) (hs : swapsWithSole [.Tuple es kk tp] e pos.line { X.env with scope := sc } = pure false := by rfl) (hw : swappedStores [.Tuple es kk tp] e { X.env with scope := sc } = pure none := by rfl)
    (h1 : (assignEach [.Tuple es kk tp] X.env).map (·.2) = [assign (.Tuple es kk tp) X.env] := by rfl) : DSx X W (.Assign [.Tuple es kk tp] e pos) (sUn g f) := ds_un he hg (by rw [c.env]; exact hs) (by rw [c.env]; exact hw) h1
theorem Cz.blkOk {scope : Scope} {own : List (Str × Nat)} (c : Cz U X W N sc F k) (h : blkC N sc scope own = true) : BlkOk X.N X.env.scope scope own := by
  rw [c.n, c.s]; exact blkOk_by h
section
variable {elt tg iter : Expr} {ifs : List Expr} {scope : Scope} {ss : List Nat} {i : DI} {g : GD} {t : DT} {f : DE}
theorem Cz.lc (c : Cz U X W N sc F k) (own : List (Str × Nat)) (hi : DIx X W tg iter i)
    (hg : ∀ Y : Cx, Cz U Y WF N (relS scope sc) (fCell scope) k → DGx Y ss tg g ∧ PTs Y ifs (tT Y.K Y.mg WF t) ∧ DEx Y WF elt f)
    (hsub : ∀ i ∈ ss, i ∈ own.map (·.2) := by decide) (ok : blkC N sc scope own = true := by decide +kernel) (hs : ∀ x, foldedSetIterable iter X.env x = pure x := by intro _; rfl) :
    DEx X W (.ListComp elt [⟨tg, iter, ifs, 0⟩] scope pos) (eLc (own.map (·.2)) i g t f) :=
  de_lc c.calm (by rw [c.n]; exact c.nd) hi (c.blkOk ok) (fun s H C cl fp => (hg (X.blk s H scope (compEnvC scope cl C X.env) fp) (c.blk s H C cl fp)).1) (fun s H C cl fp => (hg (X.blk s H scope (compEnvC scope cl C X.env) fp) (c.blk s H C cl fp)).2.1) (fun s H C cl fp => (hg (X.blk s H scope (compEnvC scope cl C X.env) fp) (c.blk s H C cl fp)).2.2) hsub hs
theorem Cz.setLc (c : Cz U X W N sc F k) (j : Nat) (own : List (Str × Nat)) {y : Str} {py spos : Pos} (hi : DIx X W tg iter i)
    (hg : ∀ Y : Cx, Cz U Y WF N (relS scope sc) (fCell scope) k → DGx Y ss tg g ∧ PTs Y ifs (tT Y.K Y.mg WF t) ∧ DEx Y WF elt f)
    (hy : N[j]? = some y := by rfl) (hyl : sc.names.lookup y = some .local := by rfl) (hk : sc.kind = .function := by rfl) (hl : (py.line == pos.line) = true := by rfl)
    (hsub : ∀ i ∈ ss, i ∈ own.map (·.2) := by decide) (ok : blkC N sc scope own = true := by decide +kernel) (hs : ∀ x, foldedSetIterable iter X.env x = pure x := by intro _; rfl)
    (ha : (scope.names.any fun (n, k) => n == y && (k == .local || k == .cell)) = false := by decide +kernel) :
    DSx X W (.Assign [.Name y py] (.ListComp elt [⟨tg, iter, ifs, 0⟩] scope pos) spos) (sSet j (eLc (own.map (·.2)) i g t f)) :=
  ds_setLc c.calm (by rw [c.n]; exact c.nd) (by rw [c.n]; exact hy) (by rw [c.s]; exact hyl) (sw_true (by rw [c.s]; exact hk) (by rw [c.s]; exact hyl) hl ha) hi (c.blkOk ok)
    (fun s H C cl fp => (hg (X.blk s H scope (compEnvC scope cl C X.env) fp) (c.blk s H C cl fp)).1) (fun s H C cl fp => (hg (X.blk s H scope (compEnvC scope cl C X.env) fp) (c.blk s H C cl fp)).2.1) (fun s H C cl fp => (hg (X.blk s H scope (compEnvC scope cl C X.env) fp) (c.blk s H C cl fp)).2.2) hsub hs
end
theorem Cz.par (c : Cz U X W N sc F k) (i j : Nat) {x y : Str} {a b : Expr} {f : DA} {px py pt : Pos} {kt k2 pt2} (ha : DAx X W [a, b] f) (hi : N[i]? = some x := by rfl) (hj : N[j]? = some y := by rfl)
    (hx : sc.names.lookup x = some .local := by rfl) (hy : sc.names.lookup y = some .local := by rfl) (hij : i ≠ j := by decide)
    (hw : swappedStores [.Tuple [.Name x px, .Name y py] kt pt] (.Tuple [a, b] k2 pt2) { X.env with scope := sc } = pure (some [x, y]) := by rfl)
    (hs : swapsWithSole [.Tuple [.Name x px, .Name y py] kt pt] (.Tuple [a, b] k2 pt2) pos.line X.env = pure false := by rfl) :
    DSx X W (.Assign [.Tuple [.Name x px, .Name y py] kt pt] (.Tuple [a, b] k2 pt2) pos) (sPar i j f) :=
  ds_par c.calm (by rw [c.n]; exact c.nd) (by rw [c.n]; exact hi) (by rw [c.n]; exact hj) hij (by rw [c.s]; exact hx) (by rw [c.s]; exact hy) ha (by rw [c.env]; exact hw) hs
theorem Cz.par3 (c : Cz U X W N sc F k) (i j l : Nat) {x y z : Str} {a b d : Expr} {f : DA} {px py pz pt : Pos} {kt k2 pt2} (ha : DAx X W [a, b, d] f) (hi : N[i]? = some x := by rfl) (hj : N[j]? = some y := by rfl) (hl : N[l]? = some z := by rfl)
    (hx : sc.names.lookup x = some .local := by rfl) (hy : sc.names.lookup y = some .local := by rfl) (hz : sc.names.lookup z = some .local := by rfl) (hij : i ≠ j := by decide) (hil : i ≠ l := by decide) (hjl : j ≠ l := by decide)
    (hw : swappedStores [.Tuple [.Name x px, .Name y py, .Name z pz] kt pt] (.Tuple [a, b, d] k2 pt2) { X.env with scope := sc } = pure (some [x, y, z]) := by rfl)
    (hs : swapsWithSole [.Tuple [.Name x px, .Name y py, .Name z pz] kt pt] (.Tuple [a, b, d] k2 pt2) pos.line X.env = pure false := by rfl) :
    DSx X W (.Assign [.Tuple [.Name x px, .Name y py, .Name z pz] kt pt] (.Tuple [a, b, d] k2 pt2) pos) (sPar3 i j l f) :=
  ds_par3 c.calm (by rw [c.n]; exact c.nd) (by rw [c.n]; exact hi) (by rw [c.n]; exact hj) (by rw [c.n]; exact hl) hij hil hjl (by rw [c.s]; exact hx) (by rw [c.s]; exact hy) (by rw [c.s]; exact hz) ha (by rw [c.env]; exact hw) hs
/-! calls -/
section
variable {x : Str} {e : Expr} {es : List Expr} {a : DA} {n j : Nat} {m : DF} {mg : Str → Option Value} {K : PySem.W.Frag}
theorem Cz.call (c : Cz U X W N sc F k) (h : Kw U j x n m) (ha : DAx X W (e :: es) a) (g : sc.names.lookup x = some .globalImplicit := by rfl) (hk : j ≤ k := by decide) (hdb : (x == ("__debug__" : Str)) = false := by decide)
    (he : starEach (e :: es) X.env = (false, eval e X.env) :: starEach es X.env := by rfl) (hpl : (backTo pos (starEach es X.env)).any (·.1) = false := by rfl) : DEx X W (.Call (.Name x p) (e :: es) [] pos) (eCall n m a) := by
  have h : Kn X.prog X.w X.K X.mg X.base j x n m := by rw [c.e1, c.e2, c.e3, c.e4, c.e5]; exact h
  exact de_call h c.room hk c.tk (c.gl g) ha hdb he hpl
theorem Cz.call0 (c : Cz U X W N sc F k) (h : Kw U j x n m) (g : sc.names.lookup x = some .globalImplicit := by rfl) (hk : j ≤ k := by decide) (hdb : (x == ("__debug__" : Str)) = false := by decide) : DEx X W (.Call (.Name x p) [] [] pos) (eCall n m aN) := by
  have h : Kn X.prog X.w X.K X.mg X.base j x n m := by rw [c.e1, c.e2, c.e3, c.e4, c.e5]; exact h
  exact de_call0 h c.room hk c.tk (c.gl g) hdb
theorem Cz.bB (c : Cz U X W N sc F k) {o : List Vl → Store → Rs Vl} {r : List V → Hp → VK → Prop} {id : String} (hr : CallD X.K X.mg r o) (cl : CallR X (.builtin id) r) (hm : U.mg x = none) (ha : DAx X W (e :: es) a) (hb : bootBuiltins x = some (.builtin id) := by rfl) (g : sc.names.lookup x = some .globalImplicit := by rfl)
    (hn : x ≠ "__name__" := by decide) (hdb : (x == ("__debug__" : Str)) = false := by decide) (he : starEach (e :: es) X.env = (false, eval e X.env) :: starEach es X.env := by rfl) (hpl : (backTo pos (starEach es X.env)).any (·.1) = false := by rfl) : DEx X W (.Call (.Name x p) (e :: es) [] pos) (eB o a) :=
  de_cB hr (pe_callB cl (c.gl g) (by rw [c.e4]; exact hm) hb ha hn hdb he hpl)
theorem Cz.bT (c : Cz U X W N sc F k) {o : List Vl → Store → Rs Vl} {r : List V → Hp → VK → Prop} {id : String} (hr : CallD X.K X.mg r o) (cl : CallR X (.type id) r) (hm : U.mg x = none) (ha : DAx X W (e :: es) a) (hb : bootBuiltins x = some (.type id) := by rfl) (g : sc.names.lookup x = some .globalImplicit := by rfl)
    (hn : x ≠ "__name__" := by decide) (hdb : (x == ("__debug__" : Str)) = false := by decide) (he : starEach (e :: es) X.env = (false, eval e X.env) :: starEach es X.env := by rfl) (hpl : (backTo pos (starEach es X.env)).any (·.1) = false := by rfl) : DEx X W (.Call (.Name x p) (e :: es) [] pos) (eB o a) :=
  de_cB hr (pe_callTy cl (c.gl g) (by rw [c.e4]; exact hm) hb ha hn hdb he hpl)
theorem Cz.is (c : Cz U X W N sc F k) {T : String} {x : Str} {f : DE} {p2 : Pos} (hT : T ∈ ["int", "bool", "str", "tuple", "list"]) (hm : U.mg "isinstance" = none) (hm2 : U.mg x = none) (he : DEx X W e f) (hv : bootBuiltins x = some (.type T) := by rfl) (hg : sc.names.lookup ("isinstance" : Str) = some .globalImplicit := by rfl) (hg2 : sc.names.lookup x = some .globalImplicit := by rfl) (hn : x ≠ "__name__" := by decide) (hd : (x == ("__debug__" : Str)) = false := by decide)
    (h1 : starEach [e, .Name x p2] X.env = (false, eval e X.env) :: starEach [.Name x p2] X.env := by rfl) (h2 : starEach [.Name x p2] X.env = (false, eval (.Name x p2) X.env) :: starEach [] X.env := by rfl)
    (hpl : (backTo pos (starEach [.Name x p2] X.env)).any (·.1) = false := by rfl) : DEx X W (.Call (.Name "isinstance" p) [e, .Name x p2] [] pos) (eIs T f) :=
  de_is hT (c.gl hg) (by rw [c.e4]; exact hm) (c.gl hg2) (by rw [c.e4]; exact hm2) hv hn hd he h1 h2 hpl
theorem Cz.raise (c : Cz U X W N sc F k) {x m : Str} {j : Nat} {p p2 p3 : Pos} {C : Addr} (hx : He.Fa.ok U.K (.exc x) = true) (hm : U.mg x = some (.ref (He.ga U.K x))) (hg : sc.names.lookup x = some .globalImplicit := by rfl) (hdb : (x == ("__debug__" : Str)) = false := by decide) :
    DSx X W (.Raise (some (.Call (.Name x p) [.Constant (.str m) j p2] [] p3)) none pos) (sRaise x) := by
  rw [← c.e3] at hx hm
  rw [← c.e4] at hm
  obtain ⟨q, kC, h1, h2⟩ := He.exc_ok hx
  exact ds_raise c.calm c.tk q hm kC h1 h2 (c.gl hg) hdb
theorem Cz.for_ (c : Cz U X W N sc F k) {tg iter : Expr} {body : List Stmt} {i : DI} {ss : List Nat} {g : GD} {f : DS} (hp : PassesOwn (model X.prog X.w) X.A X.env X.xe) (hi : DIx X W tg iter i) (hg : DGx X ss tg g) (hb : DSsx X W body f)
    (hs : ∀ x, foldedSetIterable iter X.env x = pure x := by intro _; rfl) : DSx X W (.For tg iter body [] pos) (sFor i g f) := ds_for hp c.calm hi hg hb hs
end
theorem Cz.rng1 (c : Cz U X W N sc F k) {tg e : Expr} {a : DA} (hm : U.mg "range" = none) (ha : DAx X W [e] a) (g : sc.names.lookup ("range" : Str) = some .globalImplicit := by rfl) (hs : starEach [e] X.env = [(false, eval e X.env)] := by rfl) : DIx X W tg (.Call (.Name "range" p) [e] [] pos) (iRng rng1 a) := di_range1 (c.gl g) (by rw [c.e4]; exact hm) ha hs
theorem Cz.rng2 (c : Cz U X W N sc F k) {tg e e2 : Expr} {a : DA} (hm : U.mg "range" = none) (ha : DAx X W [e, e2] a) (g : sc.names.lookup ("range" : Str) = some .globalImplicit := by rfl) (hs : starEach [e, e2] X.env = [(false, eval e X.env), (false, eval e2 X.env)] := by rfl) (hs2 : starEach [e2] X.env = [(false, eval e2 X.env)] := by rfl) : DIx X W tg (.Call (.Name "range" p) [e, e2] [] pos) (iRng rng2 a) := di_range2 (c.gl g) (by rw [c.e4]; exact hm) ha hs hs2
theorem Cz.zipL (c : Cz U X W N sc F k) {e e2 : Expr} {a : DA} {tpos : Pos} {elts : List Expr} {kk : Nat} (hm : U.mg "zip" = none) (ha : DAx X W [e, e2] a) (g : sc.names.lookup ("zip" : Str) = some .globalImplicit := by rfl)
    (hs : starEach [e, e2] X.env = (false, eval e X.env) :: starEach [e2] X.env := by rfl) (hpl : (backTo pos (starEach [e2] X.env)).any (·.1) = false := by rfl) : DIx X W (.Tuple elts kk tpos) (.Call (.Name "zip" p) [e, e2] [] pos) (iRng DL.zipL a) := di_zipL (c.gl g) (by rw [c.e4]; exact hm) ha hs hpl
theorem Cz.enumL (c : Cz U X W N sc F k) {e : Expr} {a : DA} {tpos : Pos} {elts : List Expr} {kk : Nat} (hm : U.mg "enumerate" = none) (ha : DAx X W [e] a) (g : sc.names.lookup ("enumerate" : Str) = some .globalImplicit := by rfl) (hs : starEach [e] X.env = [(false, eval e X.env)] := by rfl) :
    DIx X W (.Tuple elts kk tpos) (.Call (.Name "enumerate" p) [e] [] pos) (iRng DL.enumL a) := di_enumL (c.gl g) (by rw [c.e4]; exact hm) ha hs
/-- THE RULE for a def over its surroundings -/
theorem kw_mk {x qual : Str} {params : Arguments} {body : List Stmt} {scope : Scope} {f : Addr} {fd : FuncData} {N ps : List Str} {k n : Nat} {th : Nat → Vl → Store → Rs Vl} {g : DS} (F : FunD U.K x qual params body scope [] [] f fd) (S : FnScope N ps scope) (hn : ps.length = n) (hth : ThOk th) {y : Str} (hm : U.mg y = some (.ref f))
    (hb : ∀ (kV doc pm : Value) (an : Option Addr) (cdv ct : Value) (us : List Value), us.length = ps.length → bindArgs (PySem.W.fnOf x qual params body scope .none kV doc pm an cdv ct) ⟨us, []⟩ = pure (ps.zip us))
    (hbody : ∀ (X : Cx) (W : WX), PassesOwn (model X.prog X.w) X.A X.env X.xe → Cz U X W N scope fAll k → DSsx X W body g) : Kw U (k + 1) y n (dfn N.length th g) :=
  kn_mk F S hn hth hm hb fun X W e1 e2 e3 e4 e5 hN hs hc hfn _ _ tk hp hr => hbody X W hp ⟨e1, e2, e3, e4, e5, hN, hs, hfn, hc, S.nd, hr, tk⟩
theorem fw_mk {x qual : Str} {params : Arguments} {body : List Stmt} {scope : Scope} {f : Addr} {fd : FuncData} {N ps : List Str} {k n : Nat} {th : Nat → Vl → Store → Rs Vl} {g : DS} (F : FunD U.K x qual params body scope [] [] f fd) (S : FnScope N ps scope) (hn : ps.length = n) (hth : ThOk th)
    (hbody : ∀ (X : Cx) (W : WX), PassesOwn (model X.prog X.w) X.A X.env X.xe → Cz U X W N scope fAll k → DSsx X W body g) : FnOk U.P U.w U.K U.mg U.base (L2.CX U.P U.w) (k + 1) f fd ps (spD U.K U.mg n (dfn N.length th g)) :=
  fn_mk F S hn hth fun X W e1 e2 e3 e4 e5 hN hs hc hfn _ _ tk hp hr => hbody X W hp ⟨e1, e2, e3, e4, e5, hN, hs, hfn, hc, S.nd, hr, tk⟩
theorem walk_zipT {K : PySem.W.Frag} {a b : Addr} {xs ys : List V} {n : Nat} (hn : n = min xs.length ys.length) : Walk (RZ.ItzT K a b) n (fun H => SqT K H a xs ∧ SqT K H b ys) (YPair (fun i => xs[i]?) (fun i => ys[i]?)) := by
  subst hn
  refine ⟨fun i _ hi q => ?_, fun _ q => ⟨xs, ys, q.1, q.2, by omega⟩, fun i H v H' _ q y => ?_⟩
  · have h1 : i < xs.length := by omega
    have h2 : i < ys.length := by omega
    exact ⟨xs, ys, xs[i], ys[i], q.1, q.2, by simp [h1], by simp [h2]⟩
  · obtain ⟨T, x, z, h1, h2, h3, h4, h5⟩ := y
    exact ⟨T, x, z, h1, h2, h3, h4 xs q.1, h5 ys q.2⟩
def zipS : List Vl → Store → Rs (List D) := fun xs st => match xs with
  | [.d (.list a), .d (.list b)] => .ok (zipD a b) st
  | [.d (.tuple a), .d (.tuple b)] => .ok (zipD a b) st
  | _ => .bad
theorem Cz.zip (c : Cz U X W N sc F k) {e e2 : Expr} {a : DA} {tpos : Pos} {elts : List Expr} {kk : Nat} (hm : U.mg "zip" = none) (ha : DAx X W [e, e2] a) (g : sc.names.lookup ("zip" : Str) = some .globalImplicit := by rfl)
    (hs : starEach [e, e2] X.env = (false, eval e X.env) :: starEach [e2] X.env := by rfl) (hpl : (backTo pos (starEach [e2] X.env)).any (·.1) = false := by rfl) : DIx X W (.Tuple elts kk tpos) (.Call (.Name "zip" p) [e, e2] [] pos) (iRng zipS a) := PI.imp (RZ.pi_zipA (c.gl g) (by rw [c.e4]; exact hm) ha hs hpl) fun σ H R q =>
  tA.bind (γ := List D) (k := fun _ => zipS) q fun δ μ1 H1 xs st1 vs hE hS rx q1 => by
    unfold zipS at q1
    split at q1
    · cases rx with
      | cons h1 h2 =>
        cases h2 with
        | cons h2 h3 =>
          cases h3
          obtain ⟨a1, v1, rfl, l1, r1⟩ := Rp.lst_inv h1
          obtain ⟨a2, v2, rfl, l2, r2⟩ := Rp.lst_inv h2
          exact ⟨a1, a2, v1, v2, rfl, .inl ⟨l1.sq, l2.sq, q1 _ μ1 H1 .refl hS (dwalk_pair (walk_zip (xs := v1) (ys := v2) (n := min v1.length v2.length) rfl) (fun μ' H' s => ⟨(l1.grow s).sq, (l2.grow s).sq⟩) (by rw [r1.length, r2.length]) (fun i x _ e => r1.get2 e) (fun i x _ e => r2.get2 e))⟩⟩
    · cases rx with
      | cons h1 h2 =>
        cases h2 with
        | cons h2 h3 =>
          cases h3
          obtain ⟨a1, v1, rfl, l1, r1⟩ := Rp.tup_inv h1
          obtain ⟨a2, v2, rfl, l2, r2⟩ := Rp.tup_inv h2
          exact ⟨a1, a2, v1, v2, rfl, .inr ⟨l1.sq, l2.sq, q1 _ μ1 H1 .refl hS (dwalk_pair (walk_zipT (xs := v1) (ys := v2) (n := min v1.length v2.length) rfl) (fun μ' H' s => ⟨(l1.grow s).sq, (l2.grow s).sq⟩) (by rw [r1.length, r2.length]) (fun i x _ e => r1.get2 e) (fun i x _ e => r2.get2 e))⟩⟩
    · exact q1.elim
end
end DL
/-! more expressions -/
namespace DL
open PySem PySem.Spec L2
theorem truK_ok {K : PySem.W.Frag} {μ : Mu} {H : Hp} {st : Store} {x : Vl} {v : V} {b : Bool} {st' : Store} (S : RepS K μ H st) (r : RV K μ H x v) (e : truK x st = .ok b st') : st' = st ∧ TruV K v H b := by
  unfold truK at e
  cases e1 : deref st x with
  | none => rw [e1] at e; cases e
  | some d =>
    have rr := deref_ok S e1 r
    rw [e1, Option.bind_some] at e
    cases e2 : truD d with
    | none => rw [e2] at e; cases e
    | some k =>
      rw [e2] at e
      cases e
      refine ⟨rfl, ?_⟩
      cases d with
      | none => rw [rr.non]; cases e2; rfl
      | bool b => rw [rr.bl]; cases e2; rfl
      | int i => rw [rr.int]; cases e2; rfl
      | str y =>
        rw [rr.str]
        have e2 : (if szOk y.length = true then some ((y.length : Int) != 0) else none) = some b := e2
        by_cases hz : szOk y.length = true
        · rw [if_pos hz] at e2; cases e2; exact ⟨szOk_ok hz, rfl⟩
        · rw [if_neg hz] at e2; cases e2
      | list xs =>
        obtain ⟨a, vs, rfl, h1, r⟩ := rr.lst
        cases e2
        exact .inl ⟨vs, h1, by rw [r.isEmpty]⟩
      | tuple xs =>
        obtain ⟨a, vs, rfl, h1, r⟩ := rr.tup
        cases e2
        exact .inr (.inl ⟨vs, .inl (.inl h1), by rw [r.isEmpty]⟩)
      | dict _ => cases e2
theorem truK_exc {x : Vl} {st : Store} {e : Ex} {st' : Store} : truK x st ≠ .exc e st' := by
  unfold truK
  cases (deref st x).bind truD <;> simp
/-- not e, by truth, as a value -/
def eNoT (f : DE) : DE := fun δ st => (f δ st).bind fun x st1 => (truK x st1).bind fun b st2 => .ok (.d (.bool !b)) st2
section
variable {U : Wd} {X : Cx} {W : WX} {N : List Str} {sc : Scope} {F : Str → Bool} {k : Nat} {pos p : Pos} {a e : Expr} {f g : DE}
theorem de_notT (ha : DEx X W a f) : DEx X W (.UnaryOp .Not a pos) (eNoT f) := PE.imp (pe_notT ha) fun σ H Q q =>
  tE.bind (γ := Vl) (k := fun _ x st1 => (truK x st1).bind fun b st2 => .ok (.d (.bool !b)) st2) q fun δ μ1 H1 x st1 v hE hS rx q1 => by
    cases e : truK x st1 with
    | bad => rw [e] at q1; exact q1.elim
    | exc e' st' => exact absurd e truK_exc
    | ok b st2 =>
      rw [e] at q1
      obtain ⟨rfl, t⟩ := truK_ok hS rx e
      exact ⟨b, t, q1 _ μ1 H1 .refl hS (.bl _)⟩
/-! list(range(n)), tuple(range(n)) -/
def lrK (mk : List D → D) : Vl → Store → Rs Vl := fun x st => match x with
  | .d (.int n) => if decide (0 ≤ n) && decide (n ≤ 16777216) then .ok (.d (mk (rngD 0 n.toNat))) st else .bad
  | _ => .bad
def eLrg (f : DE) : DE := fun δ st => (f δ st).bind (lrK PyData.list)
def eTrg (f : DE) : DE := fun δ st => (f δ st).bind (lrK PyData.tuple)
theorem rgV_rp {K : PySem.W.Frag} {μ : Mu} {H : Hp} (n : Int) : RpL K μ H (rngD 0 n.toNat) (rgV 0 n) := by
  have go : ∀ l : List Nat, RpL K μ H (l.map fun i => PyData.int (0 + (i : Nat))) (l.map fun i => V.int (0 + (i : Nat))) := by
    intro l
    induction l with
    | nil => exact .nil
    | cons x l ih => exact .cons (.int _) ih
  unfold rngD rgV
  rw [Int.sub_zero]
  exact go _
theorem Cz.lrg (c : Cz U X W N sc F k) {p2 pos2 : Pos} (hm : U.mg "list" = none) (hm2 : U.mg "range" = none) (ha : DEx X W a f) (g : sc.names.lookup ("list" : Str) = some .globalImplicit := by rfl) (g2 : sc.names.lookup ("range" : Str) = some .globalImplicit := by rfl)
    (na : starEach [a] X.env = (false, eval a X.env) :: starEach [] X.env := by rfl) (nb : starEach [.Call (.Name "range" p) [a] [] pos] X.env = (false, eval (.Call (.Name "range" p) [a] [] pos) X.env) :: starEach [] X.env := by rfl) :
    DEx X W (.Call (.Name "list" p2) [.Call (.Name "range" p) [a] [] pos] [] pos2) (eLrg f) :=
  PE.imp (pe_listRg c.calm (c.gl g) (by rw [c.e4]; exact hm) (prg_1 (c.gl g2) (by rw [c.e4]; exact hm2) ha na) nb) fun σ H Q q =>
    tE.bind (γ := Vl) (k := fun _ => lrK PyData.list) q fun δ μ1 H1 x st1 v hE hS rx q1 => by
      cases x with
      | r n => exact q1.elim
      | s n => exact q1.elim
      | f n => exact q1.elim
      | d x =>
        cases x with
        | int n =>
          cases rx
          have q1 : Den X.K X.mg (RV X.K) (fun c d H => W c d σ H) Q μ1 H1 (if decide (0 ≤ n) && decide (n ≤ 16777216) then .ok (.d (.list (rngD 0 n.toNat))) st1 else .bad) := q1
          by_cases h : (decide (0 ≤ n) && decide (n ≤ 16777216)) = true
          · rw [if_pos h] at q1
            simp only [Bool.and_eq_true, decide_eq_true_eq] at h
            exact ⟨n, rfl, RgOk.of_le (by omega) (by omega) (by omega) (by omega), fun q hq => (Ans.of_den hS q1).lst (rgV_rp n) (fun _ z => hS.nin z) hq⟩
          · rw [if_neg h] at q1; exact q1.elim
        | _ => exact q1.elim
theorem Cz.trg (c : Cz U X W N sc F k) {p2 pos2 : Pos} (hm : U.mg "tuple" = none) (hm2 : U.mg "range" = none) (ha : DEx X W a f) (g : sc.names.lookup ("tuple" : Str) = some .globalImplicit := by rfl) (g2 : sc.names.lookup ("range" : Str) = some .globalImplicit := by rfl)
    (na : starEach [a] X.env = (false, eval a X.env) :: starEach [] X.env := by rfl) (nb : starEach [.Call (.Name "range" p) [a] [] pos] X.env = (false, eval (.Call (.Name "range" p) [a] [] pos) X.env) :: starEach [] X.env := by rfl) :
    DEx X W (.Call (.Name "tuple" p2) [.Call (.Name "range" p) [a] [] pos] [] pos2) (eTrg f) :=
  PE.imp (pe_tupRg c.calm (c.gl g) (by rw [c.e4]; exact hm) (prg_1 (c.gl g2) (by rw [c.e4]; exact hm2) ha na) nb) fun σ H Q q =>
    tE.bind (γ := Vl) (k := fun _ => lrK PyData.tuple) q fun δ μ1 H1 x st1 v hE hS rx q1 => by
      cases x with
      | r n => exact q1.elim
      | s n => exact q1.elim
      | f n => exact q1.elim
      | d x =>
        cases x with
        | int n =>
          cases rx
          have q1 : Den X.K X.mg (RV X.K) (fun c d H => W c d σ H) Q μ1 H1 (if decide (0 ≤ n) && decide (n ≤ 16777216) then .ok (.d (.tuple (rngD 0 n.toNat))) st1 else .bad) := q1
          by_cases h : (decide (0 ≤ n) && decide (n ≤ 16777216)) = true
          · rw [if_pos h] at q1
            simp only [Bool.and_eq_true, decide_eq_true_eq] at h
            exact ⟨n, rfl, RgOk.of_le (by omega) (by omega) (by omega) (by omega), fun q hq => (Ans.of_den hS q1).tup (rgV_rp n) (fun _ z => hS.nin z) hq⟩
          · rw [if_neg h] at q1; exact q1.elim
        | _ => exact q1.elim
/-! range(i, j, c) -/
def rng3D (i c : Int) (n : Nat) : List D := (List.range n).map fun (t : Nat) => PyData.int (i + (t : Int) * c)
def rgOk (i j c : Int) : Bool := decide (c ≠ 0) && decide (c.natAbs < 1073741824) && Builtin.Range.small i j c && decide (0 ≤ Builtin.Range.rangeSize i j c)
def rng3 : List Vl → Store → Rs (List D) := fun xs st => match xs with
  | [.d (.int i), .d (.int j), .d (.int c)] => if rgOk i j c = true then .ok (rng3D i c (Builtin.Range.rangeSize i j c).toNat) st else .bad
  | _ => .bad
theorem dwalk_range3 {K : PySem.W.Frag} {μ : Mu} {H : Hp} {lo c : Int} {n : Nat} : DWalk K μ H (rng3D lo c n) (Itc lo c n) := by
  refine ⟨_, _, _, walk_rangeC (lo := lo) (c := c) (n := n), by simp [rng3D], fun _ _ _ => trivial, fun i μ' H1 x H2 hi s N y => ?_⟩
  obtain ⟨rfl, rfl⟩ := y
  exact ⟨.refl, fun _ _ => rfl, _, by simp [rng3D, hi], .int _⟩
theorem Cz.rng3 (c : Cz U X W N sc F k) {tg e e2 e3 : Expr} {a : DA} (hm : U.mg "range" = none) (ha : DAx X W [e, e2, e3] a) (g : sc.names.lookup ("range" : Str) = some .globalImplicit := by rfl)
    (hs : starEach [e, e2, e3] X.env = (false, eval e X.env) :: starEach [e2, e3] X.env := by rfl) (hpl : (backTo pos (starEach [e2, e3] X.env)).any (·.1) = false := by rfl) : DIx X W tg (.Call (.Name "range" p) [e, e2, e3] [] pos) (iRng DL.rng3 a) := PI.imp (pi_range3 (c.gl g) (by rw [c.e4]; exact hm) ha hs hpl) fun σ H R q =>
  tA.bind (γ := List D) (k := fun _ => DL.rng3) q fun δ μ1 H1 xs st1 vs hE hS rx q1 => by
    unfold DL.rng3 at q1
    split at q1
    · rename_i i j d
      cases rx with
      | cons h1 h2 =>
        cases h2 with
        | cons h2 h3 =>
          cases h3 with
          | cons h3 h4 =>
            cases h4
            cases h1
            cases h2
            cases h3
            by_cases hj : rgOk i j d = true
            · rw [if_pos hj] at q1
              unfold rgOk at hj
              simp only [Bool.and_eq_true, decide_eq_true_eq] at hj
              obtain ⟨⟨⟨b1, b2⟩, b3⟩, b4⟩ := hj
              exact ⟨i, j, d, _, rfl, ⟨b1, b2, b3, (Int.toNat_of_nonneg b4).symm⟩, q1 _ μ1 H1 .refl hS dwalk_range3⟩
            · rw [if_neg hj] at q1; exact q1.elim
    · exact q1.elim
end
end DL
/-! try: .. except NAME: .. -/
namespace DL
open PySem PySem.Spec L2
def noEx : Sr → Sr
  | .exc _ _ _ => .bad
  | r => r
/-- m: whether the clause takes an exception of this class -/
def sTry (m : Str → Option Bool) (body suite : DS) : DS := fun δ st => match body δ st with
  | .exc e δ1 st1 => (match m e.cn with
    | some true => noEx (suite δ1 st1)
    | some false => .exc e δ1 st1
    | none => .bad)
  | r => r
theorem noEx_den {K : PySem.W.Frag} {mg : Str → Option Value} {W : WX} {E : Ends} {μ : Mu} {H : Hp} {r : Sr} (h : DenS K mg W E μ H (noEx r)) : DenS K mg WF E μ H r := by
  cases r with
  | exc e δ st => exact h.elim
  | bad => exact h.elim
  | nx δ st => exact h
  | bk δ st => exact h
  | ct δ st => exact h
  | rt x st => exact h
structure Tp (X : Cx) : Prop where
  p : PassesOwn (model X.prog X.w) X.A X.env X.xe
  s : X.stack = X.env :: X.outer
  f : X.env.frame = some X.env.locals
section
variable {U : Wd} {X : Cx} {W : WX} {N : List Str} {sc : Scope} {F : Str → Bool} {k : Nat} {pos pos' np : Pos}
theorem ds_try {x : Str} {c : Value} {body suite : List Stmt} {b₀ : Stmt} {f g : DS} {m : Str → Option Bool} (hs : X.stack = X.env :: X.outer) (hf : X.env.frame = some X.env.locals) (hc : Names X x c) (tk : Takes X W)
    (hb : ∀ (W' : WX) (pn : List (Addr × Obj)) (xe : Value → Shared → Prop), Takes (X.tr pn xe) W' → PassesOwn (model X.prog X.w) X.A X.env xe → DSsx (X.tr pn xe) W' body f)
    (hsu : ∀ (Y : Cx), Y.K = X.K → Y.mg = X.mg → Y.N = X.N → Y.env = X.env → Y.fn = X.fn → DSsx Y WF (b₀ :: suite) g)
    (hm : ∀ (cn : Str) (b : Bool) (cls : Value), m cn = some b → X.mg cn = some cls → PySem.W.exmOne X.K cls c = some b) :
    DSx X W (.Try body [.ExceptHandler (some (.Name x np)) none (b₀ :: suite) pos'] [] [] pos) (sTry m f g) :=
  PS.imp (ps_try_only (tb := fun W' => tS X.K X.mg W' f) (ts := fun _ _ _ => tS X.K X.mg WF g) hs hf hc tk hb (fun a oe cls d pn _ _ => hsu (X.suite a ((a, oe) :: pn)) rfl rfl rfl rfl rfl)) fun E σ H ⟨δ, μ, st, hE, hS, h⟩ => by
    refine ⟨δ, μ, st, hE, hS, ?_⟩
    unfold sTry at h
    cases e : f δ st with
    | nx δ1 st1 => rw [e] at h; exact h
    | bk δ1 st1 => rw [e] at h; exact h
    | ct δ1 st1 => rw [e] at h; exact h
    | rt x1 st1 => rw [e] at h; exact h
    | bad => rw [e] at h; exact h.elim
    | exc ex δ1 st1 =>
      rw [e] at h
      intro c' dd σ' μ' H' s S hE' r
      have hmg := r.1
      cases q : m ex.cn with
      | none => simp only [q] at h; exact h.elim
      | some b =>
        refine ⟨b, hm _ b c' q hmg, ?_, ?_⟩
        · intro hb a ha
          subst hb
          simp only [q] at h
          exact ⟨δ1, μ', st1, hE', S, DenS.step s (noEx_den h)⟩
        · intro hb
          subst hb
          simp only [q] at h
          exact h c' dd σ' μ' H' s S hE' r
theorem Cz.tr (c : Cz U X W N sc F k) {W' : WX} (pn : List (Addr × Obj)) (xe : Value → Shared → Prop) (tk : Takes (X.tr pn xe) W') : Cz U (X.tr pn xe) W' N sc F k :=
  ⟨c.e1, c.e2, c.e3, c.e4, c.e5, c.n, c.s, c.f, c.calm, c.nd, c.room, tk⟩
theorem Cz.try_ (c : Cz U X W N sc F k) (hp : Tp X) {x : Str} {body suite : List Stmt} {b₀ : Stmt} {f g : DS} (m : Str → Option Bool)
    (hx : U.mg x = some (.ref (He.ga U.K x))) (hm : ∀ (cn : Str) (b : Bool), m cn = some b → U.mg cn = some (.ref (He.ga U.K cn)) ∧ PySem.W.exmOne U.K (.ref (He.ga U.K cn)) (.ref (He.ga U.K x)) = some b)
    (hb : ∀ (Y : Cx) (W' : WX), Tp Y → Cz U Y W' N sc F k → DSsx Y W' body f)
    (hsu : ∀ (Y : Cx), Y.N = N → Y.env.scope = sc → Y.fn = F → DSsx Y WF (b₀ :: suite) g) (hg : sc.names.lookup x = some .globalImplicit := by rfl) (hdb : (x == ("__debug__" : Str)) = false := by decide) :
    DSx X W (.Try body [.ExceptHandler (some (.Name x np)) none (b₀ :: suite) pos'] [] [] pos) (sTry m f g) := by
  refine ds_try (c := .ref (He.ga U.K x)) hp.s hp.f ⟨c.gl hg, hdb, .inl (by rw [c.e4]; exact hx)⟩ c.tk (fun W' pn xe tk' hp' => hb _ W' ⟨hp', hp.s, hp.f⟩ (c.tr pn xe tk')) (fun Y _ _ e1 e2 e3 => hsu Y (by rw [e1]; exact c.n) (by rw [e2]; exact c.s) (by rw [e3]; exact c.f)) ?_
  intro cn b cls h1 h2
  obtain ⟨a1, a2⟩ := hm cn b h1
  rw [c.e4, a1] at h2
  cases h2
  rw [c.e3]
  exact a2
/-- the rules for a def, with its place on the stack -/
theorem kw_mk2 {x qual : Str} {params : Arguments} {body : List Stmt} {scope : Scope} {f : Addr} {fd : FuncData} {N ps : List Str} {k n : Nat} {th : Nat → Vl → Store → Rs Vl} {g : DS} (Fd : FunD U.K x qual params body scope [] [] f fd) (S : FnScope N ps scope) (hn : ps.length = n) (hth : ThOk th) {y : Str} (hm : U.mg y = some (.ref f))
    (hb : ∀ (kV doc pm : Value) (an : Option Addr) (cdv ct : Value) (us : List Value), us.length = ps.length → bindArgs (PySem.W.fnOf x qual params body scope .none kV doc pm an cdv ct) ⟨us, []⟩ = pure (ps.zip us))
    (hbody : ∀ (X : Cx) (W : WX), Tp X → Cz U X W N scope fAll k → DSsx X W body g) : Kw U (k + 1) y n (dfn N.length th g) :=
  kn_mk Fd S hn hth hm hb fun X W e1 e2 e3 e4 e5 hN hs hc hfn hst hfr tk hp hr => hbody X W ⟨hp, hst, hfr⟩ ⟨e1, e2, e3, e4, e5, hN, hs, hfn, hc, S.nd, hr, tk⟩
theorem fw_mk2 {x qual : Str} {params : Arguments} {body : List Stmt} {scope : Scope} {f : Addr} {fd : FuncData} {N ps : List Str} {k n : Nat} {th : Nat → Vl → Store → Rs Vl} {g : DS} (Fd : FunD U.K x qual params body scope [] [] f fd) (S : FnScope N ps scope) (hn : ps.length = n) (hth : ThOk th)
    (hbody : ∀ (X : Cx) (W : WX), Tp X → Cz U X W N scope fAll k → DSsx X W body g) : FnOk U.P U.w U.K U.mg U.base (L2.CX U.P U.w) (k + 1) f fd ps (spD U.K U.mg n (dfn N.length th g)) :=
  fn_mk Fd S hn hth fun X W e1 e2 e3 e4 e5 hN hs hc hfn hst hfr tk hp hr => hbody X W ⟨hp, hst, hfr⟩ ⟨e1, e2, e3, e4, e5, hN, hs, hfn, hc, S.nd, hr, tk⟩
/-- which classes the clause takes -/
def mTab (t : List (Str × Bool)) : Str → Option Bool := fun x => t.lookup x
def TabOk (P : Str → Bool → Prop) : List (Str × Bool) → Prop
  | [] => True
  | p :: r => P p.1 p.2 ∧ TabOk P r
theorem mTab_ok {P : Str → Bool → Prop} : ∀ {t : List (Str × Bool)}, TabOk P t → ∀ cn b, mTab t cn = some b → P cn b
  | [], _, _, _, e => by cases e
  | p :: r, h, cn, b, e => by
    unfold mTab List.lookup at e
    by_cases hc : cn = p.1
    · subst hc
      rw [beq_self_eq_true] at e
      cases e
      exact h.1
    · rw [beq_eq_false_iff_ne.mpr hc] at e
      exact mTab_ok h.2 cn b e
/-! list(range(a, b)) -/
def lrK2 : Vl → Vl → Store → Rs Vl := fun x y st => match x, y with
  | .d (.int a), .d (.int b) => if decide (0 ≤ a) && decide (b ≤ 16777216) && decide (a ≤ 16777216) && decide (0 ≤ b) then .ok (.d (.list (rngD a (b - a).toNat))) st else .bad
  | _, _ => .bad
def eLrg2 (f g : DE) : DE := eO lrK2 f g
theorem rgV_rp2 {K : PySem.W.Frag} {μ : Mu} {H : Hp} (a b : Int) : RpL K μ H (rngD a (b - a).toNat) (rgV a b) := by
  have go : ∀ l : List Nat, RpL K μ H (l.map fun i => PyData.int (a + (i : Nat))) (l.map fun i => V.int (a + (i : Nat))) := by
    intro l
    induction l with
    | nil => exact .nil
    | cons x l ih => exact .cons (.int _) ih
  unfold rngD rgV
  exact go _
theorem Cz.lrg2 (c : Cz U X W N sc F k) {p p2 pos2 : Pos} {a b : Expr} {f g : DE} (hm : U.mg "list" = none) (hm2 : U.mg "range" = none) (ha : DEx X W a f) (hb : DEx X W b g) (g1 : sc.names.lookup ("list" : Str) = some .globalImplicit := by rfl) (g2 : sc.names.lookup ("range" : Str) = some .globalImplicit := by rfl)
    (na : starEach [a, b] X.env = (false, eval a X.env) :: starEach [b] X.env := by rfl) (nb : starEach [b] X.env = (false, eval b X.env) :: starEach [] X.env := by rfl) (hp : (backTo pos (starEach [b] X.env)).any (·.1) = false := by rfl) (nc : starEach [.Call (.Name "range" p) [a, b] [] pos] X.env = (false, eval (.Call (.Name "range" p) [a, b] [] pos) X.env) :: starEach [] X.env := by rfl) :
    DEx X W (.Call (.Name "list" p2) [.Call (.Name "range" p) [a, b] [] pos] [] pos2) (eLrg2 f g) :=
  PE.imp (pe_listRg c.calm (c.gl g1) (by rw [c.e4]; exact hm) (prg_2 (c.gl g2) (by rw [c.e4]; exact hm2) ha hb na nb hp) nc) fun σ H Q q =>
    tE.bind (γ := Vl) (k := fun δ x st1 => (g δ st1).bind fun y st2 => lrK2 x y st2) q fun δ μ1 H1 x st1 v hE hS rx q1 => ⟨δ, μ1, st1, hE, hS, Den.bind q1 fun y st2 w μ2 H2 _ s2 S2 ry q2 => by
      have rx2 := rx.step s2
      cases x with
      | r n => exact q2.elim
      | s n => exact q2.elim
      | f n => exact q2.elim
      | d x =>
        cases x with
        | int i =>
          cases y with
          | r n => exact q2.elim
          | s n => exact q2.elim
          | f n => exact q2.elim
          | d y =>
            cases y with
            | int j =>
              cases rx2
              cases ry
              have q2 : Den X.K X.mg (RV X.K) (fun c d H => W c d σ H) Q μ2 H2 (if decide (0 ≤ i) && decide (j ≤ 16777216) && decide (i ≤ 16777216) && decide (0 ≤ j) then .ok (.d (.list (rngD i (j - i).toNat))) st2 else .bad) := q2
              by_cases h : (decide (0 ≤ i) && decide (j ≤ 16777216) && decide (i ≤ 16777216) && decide (0 ≤ j)) = true
              · rw [if_pos h] at q2
                simp only [Bool.and_eq_true, decide_eq_true_eq] at h
                exact ⟨i, j, rfl, rfl, RgOk.of_le (by omega) (by omega) (by omega) (by omega), fun q hq => (Ans.of_den S2 q2).lst (rgV_rp2 i j) (fun _ z => S2.nin z) hq⟩
              · rw [if_neg h] at q2; exact q2.elim
            | _ => exact q2.elim
        | _ => cases y <;> exact q2.elim⟩
end
end DL
/-! enumerate over a tuple -/
namespace DL
open PySem PySem.Spec PyProof.Rows L2
open Sem (wp)
set_option maxHeartbeats 1000000 in
theorem meets_enum1 {v : Value} {o : Obj} {H : Heap → Prop} (B : Begins v o H) :
    Meets (Builtin.«enumerate.__new__» ⟨[.type "enumerate", v], []⟩) (fun _ R s => H s.heap ∧
      R (.ok (.ret (.ref (s.heap.push o).objs.size))) { s with heap := (s.heap.push o).push { cls := .type "enumerate", data := .fields #[.none, .bool false, .ref s.heap.objs.size, rawInt 0, .none, .none] } }) :=
  .of_wp fun prog w A R s h => by
    obtain ⟨hp, g, d, tk, os⟩ := s; obtain ⟨h1, h⟩ := h
    have hsub := sub_enumerate
    have q1 : ∀ {A' : Around} {E : Value → Shared → Prop} {Q : Value → Shared → Prop}, Q (.ref hp.objs.size) ⟨hp.push o, g, d, tk, os⟩ → wpAny (model prog w) A' (pyIter v) Q E ⟨hp, g, d, tk, os⟩ :=
      fun q => B.iter prog w _ _ ⟨hp, g, d, tk, os⟩ _ h1 q
    wp_walk using q1
    refine wpAny_stack_any fun st => wpAny_pure ?_
    split
    · rename_i c _ _ _ _ _
      cases (c == Value.type "enumerate")
      · wp_walk using q1
        exact ⟨_, rfl, h⟩
      · wp_walk using q1
        exact ⟨_, rfl, h⟩
    · wp_walk using q1
      exact ⟨_, rfl, h⟩
section
variable {prog : Program} {w : World} {A : Around} {E : Value → Shared → Prop} {s : Shared}
theorem enum_begins1 {v : Value} {o : Obj} {H : Heap → Prop} {Q : Value → Shared → Prop} (B : Begins v o H) (h1 : H s.heap)
    (h : ∀ h', IsEnum h' (s.heap.objs.size + 1) s.heap.objs.size 0 .none → h'.get? s.heap.objs.size = some o → h'.objs.size = s.heap.objs.size + 2 →
      (∀ b o, s.heap.get? b = some o → h'.get? b = some o) → Q (.ref (s.heap.objs.size + 1)) { s with heap := h' }) :
    wpAny (model prog w) A (call (.type "enumerate") [v]) Q E s := by
  refine callType_new F.called_enumerate (by decide) (F.typeCall_enumerate_1 _) (F.newCall_enumerate_1 _) (fun obj => F.args_object_init_2 obj _) F.entry_enumerate_new
    (meets_enum1 B) ⟨h1, ?_⟩
  have hz : (s.heap.push o).objs.size = s.heap.objs.size + 1 := Heap.size_push ..
  show _ ∧ _
  rw [hz]
  have he : IsEnum ((s.heap.push o).push { cls := .type "enumerate", data := .fields #[.none, .bool false, .ref s.heap.objs.size, rawInt 0, .none, .none] }) (s.heap.objs.size + 1) s.heap.objs.size 0 .none := by
    have := Heap.get?_push_size (s.heap.push o) (o := { cls := .type "enumerate", data := .fields #[.none, .bool false, .ref s.heap.objs.size, rawInt 0, .none, .none] }) rfl
    rw [hz] at this; exact this
  refine ⟨⟨_, he, rfl⟩, h _ he (Heap.get?_push_of_some _ (Heap.get?_push_size _ B.free)) (by rw [Heap.size_push, hz]) fun b o x => Heap.get?_push_of_some _ (Heap.get?_push_of_some _ x)⟩
end
/-- the tuple at a, each item in a new pair -/
def IteT (K : PySem.W.Frag) (a : Addr) : It :=
  ⟨fun i H => ∃ (xs : List V) (x : V), SqT K H a xs ∧ xs[i]? = some x, fun i H v H' => ∃ T x, v = .ref T ∧ H T = none ∧ H' = upd H T (.tup [.int (i : Nat), x]) ∧ ∀ xs, SqT K H a xs → xs[i]? = some x, fun i H => ∃ xs : List V, SqT K H a xs ∧ xs.length ≤ i⟩
theorem turn_enumT {P : Program} {w : World} {K : PySem.W.Frag} {elts : List Expr} {kk : Nat} {tpos : Pos} (a e it : Addr) :
    Turn P w K (.Tuple elts kk tpos) (IteT K a) [e, it] e (fun i h => (∃ old, IsEnum h e it ((i : Nat) : Int) old) ∧ h.IsTupleIter it a i ∧ e ≠ it ∧ a ≠ it ∧ a ≠ e) where
  mem := by simp
  obj := fun i h st b hb => by
    obtain ⟨⟨old, he⟩, ⟨o, ho, hc, hd⟩, _⟩ := st
    have e' : b = e ∨ b = it := by simpa using hb
    rcases e' with z | z
    · rw [z]; exact ⟨_, he, fun v q => nomatch q⟩
    · rw [z]; exact ⟨o, ho, fun v q => by rw [hd] at q; cases q⟩
  keep := fun i h h' st k => let ⟨⟨old, he⟩, hi, hne⟩ := st; ⟨⟨old, k e (by simp) _ he⟩, hi.at fun o q => k it (by simp) o q, hne⟩
  item := by
    intro X hP hw hK hc i pins s σ H E I hf st hg
    subst hP hw hK
    obtain ⟨⟨old, he⟩, hit, hne, hai, hae⟩ := st
    obtain ⟨xs, x, hq, hx⟩ := hg
    obtain ⟨its, rv, p, hz⟩ := I.tuple hq
    obtain ⟨u, hu, ru⟩ := rv.get hx
    have hel : e < s.heap.objs.size := Heap.lt_size he
    have hil : it < s.heap.objs.size := by obtain ⟨_, q, _⟩ := hit; exact Heap.lt_size q
    have pt : s.heap.IsTuple a its.toArray := p
    have hi : i < its.toArray.size := by
      have := (List.getElem?_eq_some_iff.mp hu).1
      simpa using this
    refine wpAny_pyNext_enum_itemD (Draws.tuple (A := X.A.in1) (I.ok.hd hc) it a hai its.toArray) he ⟨hit, pt⟩ hi hne (by simp; exact ⟨hne, fun z => hae z.symm⟩) fun u' h' tk hP ho hst hT hsz hk => ?_
    have eu : u' = u := by
      have : its.toArray[i]? = some u' := hP
      simp only [List.getElem?_toArray] at this
      rw [hu] at this
      exact (Option.some.inj this).symm
    subst eu
    obtain ⟨hit', _⟩ := hst
    refine ⟨_, rfl, wpAny_letOwnedTupleGo_enum (s := { s with heap := h', toks := tk + 1 }) ho fun h'' he' sb => ?_⟩
    have hT2 : h''.get? s.heap.objs.size = some { cls := .type "tuple", data := .seq #[.int i tk, u'] } := (sb.2 _ (Nat.ne_of_gt hel)).trans hT
    have new : ObjOk X.prog X.w (upd H s.heap.objs.size (.tup [.int (i : Nat), x])) h'' s.heap.objs.size (.tup [.int (i : Nat), x]) :=
      ⟨by show 2 ≤ sizeLine; decide, [.int i tk, u'], .cons ⟨_, rfl⟩ (.cons ru .nil), ⟨_, hT2, rfl, _, rfl⟩⟩
    have I1 : Inv X pins σ (upd H s.heap.objs.size (.tup [.int (i : Nat), x])) { s with heap := h'', toks := tk + 1 } :=
      I.turnedNew (ch := [e, it]) (fun b ob hb q => (sb.2 b (fun z => hb (by simp [z]))).trans (hk b ob (fun z => hb (by simp [z])) (fun z => hb (by simp [z])) q)) hf (Nat.le_refl _) new
    refine ⟨.ref s.heap.objs.size, _, I1, rfl, ⟨_, x, rfl, I.hok.fresh (Nat.le_refl _), rfl, fun ys hy => by rw [I.tuple_inj hy hq]; exact hx⟩, ⟨⟨u', ?_⟩, hit'.at fun o q => (sb.2 it (Ne.symm hne)).trans q, hne, hai, hae⟩, fun b hb => ?_⟩
    · have e1 : ((i + 1 : Nat) : Int) = (i : Int) + 1 := by omega
      rw [e1]; exact he'
    · have hb' : b < s.heap.objs.size := by
        have e' : b = e ∨ b = it := by simpa using hb
        rcases e' with z | z
        · rw [z]; exact hel
        · rw [z]; exact hil
      rw [upd_ne (Nat.ne_of_lt hb')]
      exact (hf b hb).1
  done := by
    intro X hP hw hK hc i pins s σ H E I hf st hg
    subst hP hw hK
    obtain ⟨⟨old, he⟩, hit, hne, hai, hae⟩ := st
    obtain ⟨xs, hq, hx⟩ := hg
    obtain ⟨its, rv, p, hz⟩ := I.tuple hq
    obtain ⟨f0, f1, f2, f3, f4, f5⟩ := hf it (by simp)
    have hl := rv.length
    have pt : s.heap.IsTuple a its.toArray := p
    have hT : s.TypeIs (.ref e) "enumerate" := ⟨_, he, rfl⟩
    unfold pyNext
    refine wpAny_bind (wpAny_attempt (wpAny_callSpecial?_slot (name := Str.ofString "__next__") hT F.slot_enumerate_next
      (wpAny_call_entry F.slot_enumerate_next hT F.entry_enumerate_next ?_ (F.args_enumerate_next_1 _))))
    show wpAny _ _ (field (.ref e) 2 >>= _) _ _ _
    refine wpAny_bind (wpAny_field he rfl (x := .ref it) rfl ?_)
    refine wpAny_bind (wpAny_nextOf_tuple_end (I.ok.hd hc) hit pt (by simp; omega) fun h' x he' hx' => ?_)
    obtain ⟨o, ho, hcl⟩ := hx'
    refine wpAny_bind (wpAny_isInstance (T := "StopIteration") (b := true) ⟨o, ho, hcl⟩ isSubtype_stop ?_)
    exact wpAny_pure ⟨rfl, I.turned (t' := s.toks) (fun b o hb q => he' b o hb q) f0 f1 f3 f4 f5⟩
  self := fun A i s Q E st h => let ⟨⟨_, he⟩, _⟩ := st; wpAny_pyIter_enum he h
def iEnumT (K : PySem.W.Frag) (ta : TA) : TI := fun σ H R => ta σ H fun vs H1 => (∃ a xs, vs = [.ref a] ∧ SqL K H1 a xs ∧ R (Ite K a) H1) ∨ ∃ a xs, vs = [.ref a] ∧ SqT K H1 a xs ∧ R (IteT K a) H1
theorem pi_enumT {X : Cx} {e : Expr} {ta : TA} {p pos tpos : Pos} {elts : List Expr} {kk : Nat} (hg : Gl X "enumerate") (hm : X.mg "enumerate" = none) (ha : PA X [e] ta) (hs : starEach [e] X.env = [(false, eval e X.env)] := by rfl) :
    PI X (.Tuple elts kk tpos) (.Call (.Name "enumerate" p) [e] [] pos) (iEnumT X.K ta) := by
  refine ⟨fun pins s σ H R I h => ?_⟩
  refine Call_ (ld_blt I hg hm boot_enumerate (PyProof.Rows.callWith_type1 (thn (ha.run pos pins s σ H _ I h) fun us s1 ⟨vs, H1, I1, r1, q1⟩ => ?_) hs rfl))
  rcases q1 with ⟨a, xs, ex, hq, q⟩ | ⟨a, xs, ex, hq, q⟩
  · subst ex
    cases r1 with
    | cons r rr =>
      cases rr
      cases r
      obtain ⟨its, rv, p', hz⟩ := I1.list hq
      refine call_enumerate_list p'.isList fun h' he hit hsz hk => wpAny_pyIter_enum he ?_
      have I2 : Inv X pins σ H1 { s1 with heap := h' } := I1.kept (t' := s1.toks) hk
      refine ⟨s1.heap.objs.size + 1, [s1.heap.objs.size + 1, s1.heap.objs.size], _, _, H1, rfl, I2, turn_enum a (s1.heap.objs.size + 1) s1.heap.objs.size, ⟨⟨.none, he⟩, hit, Nat.succ_ne_self _⟩, fun b hb => ?_, q⟩
      have e' : b = s1.heap.objs.size + 1 ∨ b = s1.heap.objs.size := by simpa using hb
      have hle : s1.heap.objs.size ≤ b := by
        rcases e' with z | z
        · rw [z]; exact Nat.le_add_right _ _
        · rw [z]; exact Nat.le_refl _
      exact I1.fpOk hle (I1.hok.fresh hle)
  · subst ex
    cases r1 with
    | cons r rr =>
      cases rr
      cases r
      obtain ⟨its, rv, p', hz⟩ := I1.tuple hq
      have pt : s1.heap.IsTuple a its.toArray := p'
      have hal : a < s1.heap.objs.size := by obtain ⟨_, q, _⟩ := pt; exact Heap.lt_size q
      refine enum_begins1 (begins_tuple a its.toArray) pt fun h' he hob hsz hk => wpAny_pyIter_enum he ?_
      have I2 : Inv X pins σ H1 { s1 with heap := h' } := I1.kept (t' := s1.toks) hk
      refine ⟨s1.heap.objs.size + 1, [s1.heap.objs.size + 1, s1.heap.objs.size], _, _, H1, rfl, I2, turn_enumT a (s1.heap.objs.size + 1) s1.heap.objs.size, ⟨⟨.none, he⟩, ⟨_, hob, rfl, rfl⟩, Nat.succ_ne_self _, Nat.ne_of_lt hal, Nat.ne_of_lt (Nat.lt_succ_of_lt hal)⟩, fun b hb => ?_, q⟩
      have e' : b = s1.heap.objs.size + 1 ∨ b = s1.heap.objs.size := by simpa using hb
      have hle : s1.heap.objs.size ≤ b := by
        rcases e' with z | z
        · rw [z]; exact Nat.le_add_right _ _
        · rw [z]; exact Nat.le_refl _
      exact I1.fpOk hle (I1.hok.fresh hle)
theorem walk_enumT {K : PySem.W.Frag} {a : Addr} {xs : List V} : Walk (IteT K a) xs.length (fun H => SqT K H a xs) (YPair (fun i => some (.int (i : Nat))) (fun i => xs[i]?)) := by
  refine ⟨fun i _ hi q => ⟨xs, xs[i], q, by simp [hi]⟩, fun _ q => ⟨xs, q, Nat.le_refl _⟩, fun i H v H' _ q y => ?_⟩
  obtain ⟨T, x, h1, h2, h3, h4⟩ := y
  exact ⟨T, .int (i : Nat), x, h1, h2, h3, rfl, h4 xs q⟩
def enumS : List Vl → Store → Rs (List D) := fun xs st => match xs with
  | [.d (.list a)] => .ok (enumD a) st
  | [.d (.tuple a)] => .ok (enumD a) st
  | _ => .bad
theorem Cz.enumS {U : Wd} {X : Cx} {W : WX} {N : List Str} {sc : Scope} {F : Str → Bool} {k : Nat} {p pos : Pos} (c : Cz U X W N sc F k) {e : Expr} {a : DA} {tpos : Pos} {elts : List Expr} {kk : Nat} (hm : U.mg "enumerate" = none) (ha : DAx X W [e] a) (g : sc.names.lookup ("enumerate" : Str) = some .globalImplicit := by rfl) (hs : starEach [e] X.env = [(false, eval e X.env)] := by rfl) :
    DIx X W (.Tuple elts kk tpos) (.Call (.Name "enumerate" p) [e] [] pos) (iRng DL.enumS a) := PI.imp (pi_enumT (c.gl g) (by rw [c.e4]; exact hm) ha hs) fun σ H R q =>
  tA.bind (γ := List D) (k := fun _ => DL.enumS) q fun δ μ1 H1 xs st1 vs hE hS rx q1 => by
    unfold DL.enumS at q1
    split at q1
    · cases rx with
      | cons h1 h2 =>
        cases h2
        obtain ⟨a1, v1, rfl, l1, r1⟩ := Rp.lst_inv h1
        refine .inl ⟨a1, v1, rfl, l1.sq, q1 _ μ1 H1 .refl hS ?_⟩
        refine dwalk_pair (walk_enum (xs := v1)) (fun μ' H' s => (l1.grow s).sq) (by simp [rngD, r1.length]) (fun i x hi e => ?_) (fun i x _ e => r1.get2 e)
        cases e
        exact ⟨.int (i : Nat), by simp [rngD, r1.length, hi], .int _⟩
    · cases rx with
      | cons h1 h2 =>
        cases h2
        obtain ⟨a1, v1, rfl, l1, r1⟩ := Rp.tup_inv h1
        refine .inr ⟨a1, v1, rfl, l1.sq, q1 _ μ1 H1 .refl hS ?_⟩
        refine dwalk_pair (walk_enumT (xs := v1)) (fun μ' H' s => (l1.grow s).sq) (by simp [rngD, r1.length]) (fun i x hi e => ?_) (fun i x _ e => r1.get2 e)
        cases e
        exact ⟨.int (i : Nat), by simp [rngD, r1.length, hi], .int _⟩
    · exact q1.elim
end DL
/-! the end: a law's promise from its plain function -/
namespace DL
open PySem PySem.Spec L2
theorem spD_law {K : PySem.W.Frag} {mg : Str → Option Value} {m : DF} {ns : List Int} {H : Hp} {a : Addr} (hm : ∃ st, m [.s ns] [] = .ok (.d (.bool true)) st) (hO : L2.Only H) (hS : SqL K H a (ns.map V.int)) (E : XK) : spD K mg 1 m [.ref a] H (fun v _ => v = .bl true) E := by
  obtain ⟨st, e⟩ := hm
  refine ⟨rfl, [.s ns], ⟨[], []⟩, [], .cons ⟨a, rfl, ?_⟩ .nil, ⟨rfl, List.nodup_nil, fun n a o h1 h2 => by simp at h2, fun a h => by cases h⟩, ?_⟩
  · rcases hS with (h | h) | h
    · rcases hO a with q | ⟨o, xs, q⟩
      · rw [q] at h; cases h
      · rw [q] at h; cases h
    · obtain ⟨o, h⟩ := h
      exact .inl ⟨⟨_, h, .inr ⟨o, rfl⟩⟩, fun z => by rcases z with z | z <;> cases z⟩
    · exact .inr (.inr h)
  · rw [e]
    intro v μ' H' _ _ r
    cases r
    rfl
/-- from the head's facts to the law's walk -/
theorem walkD {l : PySem.W.OpenLaw} {n k : Nat} {q : Program} {loose : List Str} {XP : (Str → Option Value) → Heap → Prop} {YP : World → Heap → Prop} {d : DefRec} {x : Str} {m : DF}
    (hn : l.most = some n) (hn2 : n ≤ sizeLine) (hdf : d.params.defaults = []) (hr : Room k callerA) (hm : ∀ ns : List Int, ns.length ≤ n → ∃ st, m [.s ns] [] = .ok (.d (.bool true)) st)
    (F : ∀ (w : World) (mg : Str → Option Value) (fa : Addr) (h : Heap), YP w h → h.Ns mainGlobals mg → mg d.name = some (.ref fa) →
      ∃ (K : PySem.W.Frag) (fd : FuncData), K.In h ∧ (∀ (s : Shared) (u : Value), BindsTo s fd ⟨[u], []⟩ [(x, u)]) ∧ ∀ base : Heap, K.In base → base.Ns mainGlobals mg → FnOk l.prog w K mg base (L2.CX l.prog w) k fa fd [x] (spD K mg 1 m)) :
    PySem.W.WalkO q loose XP YP l.row.toRowW d [] (fun f vs => PySem.call f vs) := by
  apply Att.attach_call hn hdf
  intro w s₀ s₁ mg mb fa o pm cd doc a vs ns G Y ho hd hcd hmg hobj hints hlen hg
  obtain ⟨K, fd, KX, hb, hF⟩ := F w mg fa _ Y G.T.g hmg
  refine law_call KX G.T.g G.T.b G.T.builtins G.T.nolimit hg hobj hints (Nat.le_trans hlen hn2) hr hF hb ?_ ?_
  · exact fun H hO hS => spD_law (hm ns hlen) hO hS _
  · rintro H e s' ⟨_, _, _, _, _, _, _, _, _, _, _, _, z⟩
    exact z
end DL
/-! lambdas handed to a def that tries them; the tables of code objects -/
namespace DL
open PySem PySem.Spec L2 LamX
/-- a def with lambdas, and what its lambdas are called -/
abbrev TFs : Type := List ((Str × Option Str) × Str)
def tabsOf (st : Store) : TFs := st.filterMap fun o => match o with
  | .tab p q => some (p, q)
  | _ => none
def tabsAt (K : PySem.W.Frag) (TF : TFs) : List (Addr × Str) := TF.map fun z => ((He.cT K z.1).2, z.2)
/-- try: a() / except E: return yes / return no, of what a() does -/
def eLamW (TF : TFs) (m : Str → Option Bool) (yes no : Str) (g : DE) : DE := fun δ st => if tabsOf st = TF then (match g δ st with
  | .ok _ st1 => .ok (.d (.str no)) st1
  | .exc e st1 => (match m e.cn with
    | some true => .ok (.d (.str yes)) st1
    | _ => .bad)
  | .bad => .bad) else .bad
def TTw (K : PySem.W.Frag) (CS : Addr) (yes no : Str) : (XK → Hp → VK → Prop) → Hp → VK → Prop := fun tl H Q =>
  tl (fun cls _ H' => ∃ b, PySem.W.exmOne K cls (.ref CS) = some b ∧ (b = true → Q (.str yes) H') ∧ (b = false → False)) H (fun _ H' => Q (.str no) H')
section
variable {X : Cx}
theorem word_gives {Ng : List Str} {x a e q yes no : Str} {sg : Scope} {g CS : Addr} {cdg : Value} {j j2 : Nat} {p1 p2 p3 p4 p5 p6 p7 p8 p9 p10 : Pos} (hge : sg.names.lookup e = some .globalImplicit) (hme : X.mg e = some (.ref CS)) (hde : (e == ("__debug__" : Str)) = false) (h0 : ∀ f : Addr, (L2.start Ng [V.ref f])[0]? = some (some (V.ref f))) :
    GivesTo X Ng x sg g cdg [.Try [.Expr (.Call (.Name a p1) [] [] p2) p3] [.ExceptHandler (some (.Name e p4)) none [.Return (some (.Constant (.str yes) j p5)) p6] p7] [] [] p8, .Return (some (.Constant (.str no) j2 p9)) p10] a q (TTw X.K CS yes no) := by
  intro f c' s H Q tl act hc h
  have hgl : Gl (cxOf C8.CX0 X.prog X.w X.K X.mg X.base Ng x sg g cdg X.A X.stack s H C8.E0).nox e := hge
  refine ⟨_, pss_cons (ps_try_only (X := (cxOf C8.CX0 X.prog X.w X.K X.mg X.base Ng x sg g cdg X.A X.stack s H C8.E0).nox) (c := .ref CS)
      (tb := fun W D σ H => ∃ Ech : XK, (∀ cls d σ' H', Ech cls d H' → W cls d σ' H') ∧ σ[0]? = some (some (.ref f)) ∧ H c' = some (CodeO c' q) ∧ tl Ech H (fun _ H' => D.nx σ H'))
      rfl rfl ⟨hgl, hde, .inl hme⟩ LamX.takes0 (fun W pn xe tk _ => ?_) (fun a oe cls d pn _ _ => pss_one (ps_ret pe_str))) (pss_one (ps_ret pe_str)), ?_⟩
  · refine ⟨fun pins s' σ H' D I h' => ?_⟩
    obtain ⟨Ech, hW, h1, h2, h3⟩ := h'
    have hq := pss_one (ps_expr (pos := p3) (act W pn xe Ech p1 p2 tk hW))
    exact hq.run pins s' σ H' D I ⟨h1, h2, h3⟩
  · exact ⟨fun cls _ H' => ∃ b, PySem.W.exmOne X.K cls (.ref CS) = some b ∧ (b = true → Q (.str yes) H') ∧ (b = false → False), fun cls d σ' H' ⟨b, e1, e2, e3⟩ => ⟨b, e1, fun hb a _ => e2 hb, fun hb => e3 hb⟩, h0 f, hc, h⟩
end
/-- what the store's tables say -/
theorem tabsOf_get {st : Store} {z : (Str × Option Str) × Str} (h : z ∈ tabsOf st) : ∃ n : Nat, st[n]? = some (Ob.tab z.1 z.2) := by
  unfold tabsOf at h
  obtain ⟨o, ho, e⟩ := List.mem_filterMap.mp h
  obtain ⟨n, hn, e2⟩ := List.getElem_of_mem ho
  cases o with
  | lst xs => cases e
  | dct ks xs => cases e
  | ins ks xs => cases e
  | mix ks xs => cases e
  | dcm ks xs => cases e
  | exv ks xs => cases e
  | tab p q =>
    cases e
    exact ⟨n, by rw [List.getElem?_eq_some_iff]; exact ⟨hn, e2⟩⟩
theorem tabsOf_mem {st : Store} {n : Nat} {p : Str × Option Str} {q : Str} (h : st[n]? = some (Ob.tab p q)) : (p, q) ∈ tabsOf st := by
  unfold tabsOf
  exact List.mem_filterMap.mpr ⟨_, List.mem_of_getElem? h, rfl⟩
section
variable {K : PySem.W.Frag} {mg : Str → Option Value} {μ : Mu} {H H1 : Hp} {st : Store} {TF : TFs}
theorem tabs_of (S : RepS K μ H st) (e : tabsOf st = TF) : Tabs (tabsAt K TF) H := fun p hp => by
  obtain ⟨z, hz, rfl⟩ := List.mem_map.mp hp
  rw [← e] at hz
  obtain ⟨n, hn⟩ := tabsOf_get hz
  have hl : n < μ.m.length := by rw [S.len]; exact (List.getElem?_eq_some_iff.mp hn).1
  obtain ⟨ea, t⟩ := S.ob n μ.m[n] _ (by rw [List.getElem?_eq_some_iff]; exact ⟨hl, rfl⟩) hn
  show TabS H (He.cT K z.1).2 z.2
  rw [← ea]
  exact t.tabS
theorem heap_with (a : Addr) (o : Obj) (h : o.isFreed = false) : ∃ hp : Heap, hp.get? a = some o := by
  refine ⟨Heap.push ⟨Array.replicate a default, {}⟩ o, ?_⟩
  have := Heap.get?_push_size ⟨Array.replicate a default, {}⟩ h
  simpa using this
theorem exO_code {a : Addr} {c : Value} {q : Str} (e : ExO c a = .ext fun h => ∃ (oc : Obj) (vs : Array Value) (t : Tok), h.get? a = some oc ∧ oc.data = .fields vs ∧ vs[1]? = some (.str q t)) : False := by
  obtain ⟨hp, hh⟩ := heap_with a { cls := c, dict := none, data := .fields #[.none, .none, .none, .none, .none] } rfl
  unfold ExO at e
  injection e with e
  have w : ∃ (oe : Obj) (vs : Array Value), hp.get? a = some oe ∧ Zc c none oe ∧ oe.data = .fields vs ∧ vs[1]? = some .none ∧ vs[2]? = some .none ∧ 4 < vs.size := ⟨_, _, hh, ⟨rfl, rfl⟩, rfl, rfl, rfl, by decide⟩
  rw [show (∃ (oe : Obj) (vs : Array Value), hp.get? a = some oe ∧ Zc c none oe ∧ oe.data = .fields vs ∧ vs[1]? = some .none ∧ vs[2]? = some .none ∧ 4 < vs.size) = _ from congrFun e hp] at w
  obtain ⟨oc, vs, t, h1, h2, h3⟩ := w
  rw [hh] at h1
  cases h1
  cases h2
  cases h3
theorem exo_code {a C : Addr} {d : Option Addr} {q : Str} (e : exo a C d = .ext fun h => ∃ (oc : Obj) (vs : Array Value) (t : Tok), h.get? a = some oc ∧ oc.data = .fields vs ∧ vs[1]? = some (.str q t)) : False := by
  obtain ⟨hp, hh⟩ := heap_with a { cls := .ref C, dict := d, data := .fields #[.ref 0, .none, .none, .none, .bool false, .none] } rfl
  unfold exo at e
  injection e with e
  have w : ∃ t1 : Addr, hp.get? a = some ({ cls := .ref C, dict := d, data := .fields #[.ref t1, .none, .none, .none, .bool false, .none] } : Obj) := ⟨0, hh⟩
  rw [show (∃ t1 : Addr, hp.get? a = some ({ cls := .ref C, dict := d, data := .fields #[.ref t1, .none, .none, .none, .bool false, .none] } : Obj)) = _ from congrFun e hp] at w
  obtain ⟨oc, vs, t, h1, h2, h3⟩ := w
  rw [hh] at h1
  cases h1
  cases h2
  cases h3
/-- the lambda was made: the state is represented as before -/
theorem lam_step (S : RepS K μ H st) (e : tabsOf st = TF) (x : ExtN H H1) (t : Tabs (tabsAt K TF) H1) : Step μ H μ H1 ∧ RepS K μ H1 st := by
  have s : Step μ H μ H1 := ⟨⟨[], by cases μ; simp, fun _ h => nomatch h⟩, fun a o h _ nt => x a o h nt⟩
  have nl : ∀ a ∈ μ, ∀ c q, a = c → H1 c = some (CodeO c q) → False := fun a ha c q ec hc => by
    subst ec
    unfold CodeO at hc
    rcases ha with ha | ha
    · obtain ⟨n, hn, en⟩ := List.getElem_of_mem ha
      have hn' : n < st.length := by rw [← S.len]; exact hn
      have r := S.ob n a st[n] (by rw [List.getElem?_eq_some_iff]; exact ⟨hn, en⟩) (by simp [hn'])
      cases eo : st[n] with
      | lst xs =>
        rw [eo] at r
        obtain ⟨vs, h1, _⟩ := r
        rw [x a _ h1 (fun _ z => by cases z)] at hc
        cases hc
      | dct ks xs =>
        rw [eo] at r
        obtain ⟨vs, h1, _⟩ := r
        rw [x a _ h1 (fun _ z => by cases z)] at hc
        cases hc
      | ins cn fs =>
        rw [eo] at r
        obtain ⟨dx, gs, h1, _⟩ := r
        rw [x a _ h1 (fun _ z => by cases z)] at hc
        cases hc
      | mix b xs =>
        rw [eo] at r
        obtain ⟨vs, h1, _⟩ := r
        rw [x a _ h1 (fun _ z => by cases b <;> cases z)] at hc
        cases b <;> cases hc
      | dcm ks xs =>
        rw [eo] at r
        obtain ⟨vs, h1, _⟩ := r
        rw [x a _ h1 (fun _ z => by cases z)] at hc
        cases hc
      | exv ks xs =>
        rw [eo] at r
        rcases r with ⟨_, h1⟩ | ⟨dx, gs, h1, _⟩
        · rw [x a _ h1 exO_nt] at hc
          exact exO_code (Option.some.inj hc)
        · rw [x a _ h1 exo_nt] at hc
          exact exo_code (Option.some.inj hc)
      | tab p q' =>
        rw [eo] at r
        obtain ⟨ea, _⟩ := r
        have hm : (p, q') ∈ TF := by rw [← e]; exact tabsOf_mem (n := n) (by rw [List.getElem?_eq_some_iff]; exact ⟨hn', eo⟩)
        obtain ⟨ps, h1, _, _⟩ := t ((He.cT K p).2, q') (List.mem_map.mpr ⟨(p, q'), hm, rfl⟩)
        rw [ea, h1] at hc
        cases hc
    · obtain ⟨_, vs, h1⟩ := S.fx a ha
      rw [x a _ h1 (fun _ z => by cases z)] at hc
      cases hc
  refine ⟨s, S.len, S.nd, fun n a o h1 h2 => ?_, fun a ha => ?_⟩
  · have r := S.ob n a o h1 h2
    cases o with
    | lst xs =>
      obtain ⟨vs, h, rr⟩ := r
      exact ⟨vs, x a _ h (fun _ z => by cases z), rr.step s⟩
    | dct ks xs =>
      obtain ⟨vs, h, rr⟩ := r
      exact ⟨vs, x a _ h (fun _ z => by cases z), rr.step s⟩
    | ins cn fs =>
      obtain ⟨dx, gs, h, hk, rr⟩ := r
      exact ⟨dx, gs, x a _ h (fun _ z => by cases z), hk, rr.grow s.grow s.ix⟩
    | mix b xs =>
      obtain ⟨vs, h, rr⟩ := r
      exact ⟨vs, x a _ h (fun _ z => by cases b <;> cases z), rr.grow s.grow s.ix⟩
    | dcm ks xs =>
      obtain ⟨vs, h, rr⟩ := r
      exact ⟨vs, x a _ h (fun _ z => by cases z), rr.grow s.grow s.ix⟩
    | exv ks xs =>
      rcases r with ⟨h0, h⟩ | ⟨dx, gs, h, hd, hk, rr⟩
      · exact .inl ⟨h0, x a _ h exO_nt⟩
      · exact .inr ⟨dx, gs, x a _ h exo_nt, s.grow dx _ hd.1 hd.2 exd_nt, hk, rr.step s⟩
    | tab p q =>
      obtain ⟨ea, _⟩ := r
      have hm : (p, q) ∈ TF := by rw [← e]; exact tabsOf_mem h2
      obtain ⟨ps, g1, g2, g3⟩ := t ((He.cT K p).2, q) (List.mem_map.mpr ⟨(p, q), hm, rfl⟩)
      refine ⟨ea, ps, by rw [ea]; exact g1, g2, fun pos cv z => ?_⟩
      obtain ⟨c, k1, k2⟩ := g3 pos cv z
      exact ⟨c, k1, k2, fun hc => nl c hc c q rfl k2⟩
  · obtain ⟨f1, vs, f2⟩ := S.fx a ha
    exact ⟨f1, vs, x a _ f2 (fun _ z => by cases z)⟩
end
/-- what is known of the tables, and of the def's own code -/
structure TabsOk (U : Wd) (TF : TFs) : Prop where
  nd : (TF.map fun z => (He.cT U.K z.1).2).Nodup
  tb : ∀ z ∈ TF, TabB U.base U.mg (He.cT U.K z.1).1 (He.cT U.K z.1).2
section
variable {U : Wd} {X : Cx} {W : WX} {N : List Str} {sc : Scope} {F : Str → Bool} {k : Nat} {pos : Pos}
theorem Cz.lamW (c : Cz U X W N sc F (k + 2)) {TF : TFs} (T : TabsOk U TF) {p : Str × Option Str} {q : Str} (hpq : (p, q) ∈ TF) (hcode : X.env.code = .ref (He.codeOf U.K p)) (hq : X.env.qual ++ "<lambda>" = q)
    {x a e yes no : Str} {pg : Arguments} {sg : Scope} {g : Addr} {fd : FuncData} {Ng : List Str} {params : Arguments} {body : Expr} {scope : Scope} {lpos p0 p1 p2 p3 p4 p5 p6 p7 p8 p9 p10 : Pos} {j j2 : Nat} {f : DE}
    (m : Str → Option Bool) (hw : FunD U.K x x pg [.Try [.Expr (.Call (.Name a p1) [] [] p2) p3] [.ExceptHandler (some (.Name e p4)) none [.Return (some (.Constant (.str yes) j p5)) p6] p7] [] [] p8, .Return (some (.Constant (.str no) j2 p9)) p10] sg [] [] g fd)
    (hmx : U.mg x = some (.ref g)) (Sg : FnScope Ng [a] sg) (hNg : Ng = [a])
    (hbind : ∀ (kV doc pm : Value) (an : Option Addr) (cdv ct : Value) (us : List Value), us.length = [a].length → bindArgs (PySem.W.fnOf x x pg [.Try [.Expr (.Call (.Name a p1) [] [] p2) p3] [.ExceptHandler (some (.Name e p4)) none [.Return (some (.Constant (.str yes) j p5)) p6] p7] [] [] p8, .Return (some (.Constant (.str no) j2 p9)) p10] sg .none kV doc pm an cdv ct) ⟨us, []⟩ = pure ([a].zip us))
    (hme : U.mg e = some (.ref (He.ga U.K e))) (hm : ∀ (cn : Str) (b : Bool), m cn = some b → U.mg cn = some (.ref (He.ga U.K cn)) ∧ PySem.W.exmOne U.K (.ref (He.ga U.K cn)) (.ref (He.ga U.K e)) = some b)
    (hbody : ∀ (Y : Cx) (W' : WX), Cz U Y W' N scope (fun _ => false) k → DEx Y W' body f)
    (L : lamSB sc scope = true) (hva : Vis sg a := by exact .inl rfl) (hge : sg.names.lookup e = some .globalImplicit := by rfl) (hg : sc.names.lookup x = some .globalImplicit := by rfl)
    (hdef : defaultsOf params X.env = ([], []) := by rfl) (hlb : ∀ (q : Str) (cl : List (Str × Addr)) (pm cv ctv : Value), bindArgs (PySem.W.kla_fn "<lambda>" q params body scope cl pm cv ctv) ⟨[], []⟩ = pure [] := by intro _ _ _ _ _; rfl)
    (hdb : (x == ("__debug__" : Str)) = false := by decide) (hde : (e == ("__debug__" : Str)) = false := by decide) (hd : (a == ("__debug__" : Str)) = false := by decide) (hcd : (a == ("__classdict__" : Str)) = false := by decide) :
    DEx X W (.Call (.Name x p0) [.Lambda params body scope lpos] [] pos) (eLamW TF m yes no f) := by
  subst hNg
  obtain ⟨oc, od, dV, kV, doc, pm, an, cdv, ct, osl, e1, lk, hcg, hdv, hkv⟩ := hw.ex
  have hbn := hw.bindsN hbind
  rw [e1] at hbn
  have hT : ((He.cT X.K p).2, X.env.qual ++ "<lambda>") ∈ tabsAt X.K TF := by
    rw [hq]
    exact List.mem_map.mpr ⟨(p, q), hpq, rfl⟩
  have hu : ∀ r ∈ tabsAt X.K TF, r.1 = (He.cT X.K p).2 → r.2 = X.env.qual ++ "<lambda>" := fun r hr er => by
    obtain ⟨z, hz, rfl⟩ := List.mem_map.mp hr
    have nd := T.nd
    rw [← c.e3] at nd
    obtain ⟨i, hi, ei⟩ := List.getElem_of_mem hz
    obtain ⟨i2, hi2, ei2⟩ := List.getElem_of_mem hpq
    have er : (He.cT X.K z.1).2 = (He.cT X.K p).2 := er
    have : i = i2 := (List.getElem_inj (xs := TF.map fun z => (He.cT X.K z.1).2) (h₀ := by rw [List.length_map]; exact hi) (h₁ := by rw [List.length_map]; exact hi2) nd).mp (by rw [List.getElem_map, List.getElem_map, ei, ei2]; exact er)
    subst this
    rw [ei] at ei2
    rw [ei2]
    exact hq.symm
  have key := pe_lamcall (X := X) (T := tabsAt X.K TF) (TT := TTw X.K (He.ga U.K e) yes no) (x := x) (a := a) (g := g) (c := (He.cT X.K p).1) (P := (He.cT X.K p).2) (k := k) (Ng := [a]) (p := p0) (pos := pos) (lpos := lpos) (t := fun E => tE X.K X.mg (fun c d _ H => E c d H) f)
    (c.gl hg) (by rw [c.e4]; exact hmx) (by rw [c.e3]; exact hw.kp) (by rw [c.e3, ← e1]; exact (by rw [e1] at lk ⊢; exact lk)) (by rw [c.e3]; exact hcg) (by rw [c.e3]; exact hbn) Sg rfl hva
    (word_gives hge (by rw [c.e4]; exact hme) hde (fun _ => rfl)) (by rw [c.e3, c.e4, c.e5]; exact T.tb _ hpq) (by rw [c.e3]; exact hcode) hT hu c.room (by rw [c.s]; exact lamS_by L) hdef hlb
    (fun A outer s H E f' c' hr => hbody (lamCx X A outer s H E scope f' c') (fun c d _ H => E c d H) ⟨c.e1, c.e2, c.e3, c.e4, c.e5, c.n, rfl, rfl, rfl, c.nd, hr, takes_of rfl rfl rfl rfl⟩) hdb hd hcd
  refine PE.imp key fun σ H Q ⟨δ, μ, st, hE, hS, h⟩ => ?_
  unfold eLamW at h
  by_cases ht : tabsOf st = TF
  · rw [if_pos ht] at h
    refine ⟨tabs_of hS ht, fun H1 eN t1 => ?_⟩
    obtain ⟨s1, S1⟩ := lam_step hS ht eN t1
    refine ⟨δ, μ, st, hE.step s1, S1, ?_⟩
    cases eg : f δ st with
    | ok y st1 =>
      rw [eg] at h
      exact fun v μ' H' s' S' r => h (.str no) μ' H' (s1.trans s') S' (.str no)
    | bad => rw [eg] at h; exact h.elim
    | exc ex st1 =>
      rw [eg] at h
      intro cc dd μ' H' s' S' r
      have hmg := r.1
      cases em : m ex.cn with
      | none => simp only [em] at h; exact h.elim
      | some b =>
        cases b with
        | false => simp only [em] at h; exact h.elim
        | true =>
          simp only [em] at h
          obtain ⟨a1, a2⟩ := hm _ _ em
          rw [c.e4, a1] at hmg
          cases hmg
          exact ⟨true, by rw [c.e3]; exact a2, fun _ => h (.str yes) μ' H' (s1.trans s') S' (.str yes), fun z => nomatch z⟩
  · rw [if_neg ht] at h; exact h.elim
end
end DL
namespace DL
open PySem PySem.Spec L2 LamX
section
variable {P : Program} {w : World} {K : PySem.W.Frag} {mg : Str → Option Value} {base : Heap}
/-- the rule for a def, with its code object told -/
theorem fn_mkT {x qual : Str} {params : Arguments} {body : List Stmt} {scope : Scope} {fd : FuncData} {N ps : List Str} {k n : Nat} {th : Nat → Vl → Store → Rs Vl} {g : DS} {p : Str × Option Str} (F : FunD K x qual params body scope [] [] (He.fAd K p) fd) (S : FnScope N ps scope) (hn : ps.length = n) (hth : ThOk th)
    (hbody : ∀ (X : Cx) (W : WX), X.prog = P → X.w = w → X.K = K → X.mg = mg → X.base = base → X.N = N → X.env.scope = scope → X.calm = true → X.fn = (fun _ => true) → X.stack = X.env :: X.outer → X.env.frame = some X.env.locals → Takes X W → PassesOwn (model X.prog X.w) X.A X.env X.xe → Room k X.A → X.env.code = .ref (He.codeOf K p) → X.env.qual = qual ++ ".<locals>." → DSsx X W body g) :
    FnOk P w K mg base (L2.CX P w) (k + 1) (He.fAd K p) fd ps (spD K mg n (dfn N.length th g)) := by
  obtain ⟨oc, od, dV, kV, doc, pm, an, cdv, ct, osl, rfl, lk, hcd, _, _⟩ := F.ex
  obtain ⟨c, rfl⟩ := He.codeIn_ref hcd
  have ec := He.codeOf_eq (K := K) (p := p) lk rfl
  refine fn_of lk hcd S (fun vs H Q E h => by rw [hn]; exact h.1) fun A outer s H vs Q E hr h => ?_
  obtain ⟨hl, xs, μ, st, rx, hS, h⟩ := h
  refine ⟨_, hbody (cxOf (L2.CX P w) P w K mg base N qual scope (He.fAd K p) (.ref c) A outer s H E) (fun c d _ H => E c d H) rfl rfl rfl rfl rfl rfl rfl rfl rfl rfl rfl (takes_of rfl rfl rfl rfl) (passes_of rfl) hr (by rw [ec]; rfl) rfl, startD N.length xs, μ, st, startD_ok rx, hS, ?_⟩
  unfold dfn at h
  cases e : g (startD N.length xs) st with
  | nx δ1 st1 =>
    simp only [e] at h
    exact fun σ1 μ1 H1 s1 S1 hE1 => hth K mg E Q μ μ1 H H1 st st1 (.d .none) .non hS s1 S1 .non h
  | rt x1 st1 =>
    simp only [e] at h
    exact fun v μ1 H1 s1 S1 r1 => hth K mg E Q μ μ1 H H1 st st1 x1 v hS s1 S1 r1 h
  | exc e1 δ1 st1 =>
    simp only [e] at h
    intro c dd σ1 μ1 H1 s1 S1 hE1 r1
    exact h c dd _ H1 s1 S1 r1
  | bk δ1 st1 => simp only [e] at h; exact h.elim
  | ct δ1 st1 => simp only [e] at h; exact h.elim
  | bad => simp only [e] at h; exact h.elim
end
/-- the surroundings of a place in a def with lambdas -/
structure Lp (U : Wd) (X : Cx) (p : Str × Option Str) (q : Str) : Prop where
  code : X.env.code = .ref (He.codeOf U.K p)
  qual : X.env.qual ++ "<lambda>" = q
theorem kw_mkT {U : Wd} {x qual : Str} {params : Arguments} {body : List Stmt} {scope : Scope} {fd : FuncData} {N ps : List Str} {k n : Nat} {th : Nat → Vl → Store → Rs Vl} {g : DS} {p : Str × Option Str} (q : Str) (Fd : FunD U.K x qual params body scope [] [] (He.fAd U.K p) fd) (S : FnScope N ps scope) (hn : ps.length = n) (hth : ThOk th) {y : Str} (hm : U.mg y = some (.ref (He.fAd U.K p)))
    (hb : ∀ (kV doc pm : Value) (an : Option Addr) (cdv ct : Value) (us : List Value), us.length = ps.length → bindArgs (PySem.W.fnOf x qual params body scope .none kV doc pm an cdv ct) ⟨us, []⟩ = pure (ps.zip us)) (hq : (qual ++ ".<locals>.") ++ "<lambda>" = q)
    (hbody : ∀ (X : Cx) (W : WX), Tp X → Cz U X W N scope fAll k → Lp U X p q → DSsx X W body g) : Kw U (k + 1) y n (dfn N.length th g) :=
  ⟨_, fd, ps, hn, fn_mkT Fd S hn hth fun X W e1 e2 e3 e4 e5 hN hs hc hfn hst hfr tk hp hr hcode hqual => hbody X W ⟨hp, hst, hfr⟩ ⟨e1, e2, e3, e4, e5, hN, hs, hfn, hc, S.nd, hr, tk⟩ ⟨hcode, by rw [hqual]; exact hq⟩, hm, Fd.kp, Fd.bindsN hb⟩
theorem fw_mkT {U : Wd} {x qual : Str} {params : Arguments} {body : List Stmt} {scope : Scope} {fd : FuncData} {N ps : List Str} {k n : Nat} {th : Nat → Vl → Store → Rs Vl} {g : DS} {p : Str × Option Str} (q : Str) (Fd : FunD U.K x qual params body scope [] [] (He.fAd U.K p) fd) (S : FnScope N ps scope) (hn : ps.length = n) (hth : ThOk th) (hq : (qual ++ ".<locals>.") ++ "<lambda>" = q)
    (hbody : ∀ (X : Cx) (W : WX), Tp X → Cz U X W N scope fAll k → Lp U X p q → DSsx X W body g) : FnOk U.P U.w U.K U.mg U.base (L2.CX U.P U.w) (k + 1) (He.fAd U.K p) fd ps (spD U.K U.mg n (dfn N.length th g)) :=
  fn_mkT Fd S hn hth fun X W e1 e2 e3 e4 e5 hN hs hc hfn hst hfr tk hp hr hcode hqual => hbody X W ⟨hp, hst, hfr⟩ ⟨e1, e2, e3, e4, e5, hN, hs, hfn, hc, S.nd, hr, tk⟩ ⟨hcode, by rw [hqual]; exact hq⟩
/-! the end -/
def tabStore (TF : TFs) : Store := TF.map fun z => Ob.tab z.1 z.2
theorem tabsOf_store (TF : TFs) : tabsOf (tabStore TF) = TF := by
  induction TF with
  | nil => rfl
  | cons z TF ih =>
    show z :: tabsOf (tabStore TF) = _
    rw [ih]
theorem spT_law {K : PySem.W.Frag} {mg : Str → Option Value} {m : DF} {TF : TFs} {ns : List Int} {H : Hp} {a : Addr} (nd : (TF.map fun z => (He.cT K z.1).2).Nodup) (hm : ∃ st, m [.s ns] (tabStore TF) = .ok (.d (.bool true)) st) (hT : ∀ z ∈ TF, H (He.cT K z.1).2 = some (.tbl #[])) (hS : SqL K H a (ns.map V.int)) (E : XK) : spD K mg 1 m [.ref a] H (fun v _ => v = .bl true) E := by
  obtain ⟨st, e⟩ := hm
  have na : ∀ u, H a = some u → (∀ ps, u ≠ .tbl ps) → a ∉ (⟨TF.map fun z => (He.cT K z.1).2, []⟩ : Mu) := fun u hu nt z => by
    rcases z with z | z
    · obtain ⟨w, hw, ew⟩ := List.mem_map.mp z
      have := hT w hw
      rw [show (He.cT K w.1).2 = a from ew, hu] at this
      exact nt _ (Option.some.inj this)
    · cases z
  refine ⟨rfl, [.s ns], ⟨TF.map fun z => (He.cT K z.1).2, []⟩, tabStore TF, .cons ⟨a, rfl, ?_⟩ .nil, ⟨by simp [tabStore], nd, fun n b o h1 h2 => ?_, fun a h => by cases h⟩, ?_⟩
  · rcases hS with (h | h) | h
    · exact .inl ⟨⟨_, h, .inl rfl⟩, na _ h fun _ z => by cases z⟩
    · obtain ⟨o, h⟩ := h
      exact .inl ⟨⟨_, h, .inr ⟨o, rfl⟩⟩, na _ h fun _ z => by cases z⟩
    · exact .inr (.inr h)
  · have h1 : (TF.map fun z => (He.cT K z.1).2)[n]? = some b := h1
    have h2 : (TF.map fun z => Ob.tab z.1 z.2)[n]? = some o := h2
    rw [List.getElem?_map] at h1 h2
    cases ez : TF[n]? with
    | none => rw [ez] at h1; cases h1
    | some z =>
      rw [ez] at h1 h2
      cases h1
      cases h2
      refine ⟨rfl, #[], hT z (List.mem_of_getElem? ez), True.intro, fun pos cv hc => ?_⟩
      have z' : codeAmong pos [] = some cv := hc
      simp [codeAmong] at z'
  · rw [e]
    intro v μ' H' _ _ r
    cases r
    rfl
theorem walkT {l : PySem.W.OpenLaw} {n k : Nat} {q : Program} {loose : List Str} {XP : (Str → Option Value) → Heap → Prop} {YP : World → Heap → Prop} {d : DefRec} {x : Str} {m : DF} (TF : TFs)
    (hn : l.most = some n) (hn2 : n ≤ sizeLine) (hdf : d.params.defaults = []) (hr : Room k callerA) (hm : ∀ ns : List Int, ns.length ≤ n → ∃ st, m [.s ns] (tabStore TF) = .ok (.d (.bool true)) st)
    (F : ∀ (w : World) (mg : Str → Option Value) (fa : Addr) (h : Heap), YP w h → h.Ns mainGlobals mg → mg d.name = some (.ref fa) →
      ∃ (K : PySem.W.Frag) (fd : FuncData), K.In h ∧ (TF.map fun z => (He.cT K z.1).2).Nodup ∧ (∀ z ∈ TF, PySem.W.codeHdIn K (He.cT K z.1).1 (He.cT K z.1).2 = true ∧ K.lookup (He.cT K z.1).2 = none ∧ h.get? (He.cT K z.1).2 = some { cls := .none, data := .fields #[] }) ∧ (∀ (s : Shared) (u : Value), BindsTo s fd ⟨[u], []⟩ [(x, u)]) ∧
        ∀ base : Heap, K.In base → base.Ns mainGlobals mg → (∀ z ∈ TF, TabB base mg (He.cT K z.1).1 (He.cT K z.1).2) → FnOk l.prog w K mg base (L2.CX l.prog w) k fa fd [x] (spD K mg 1 m)) :
    PySem.W.WalkO q loose XP YP l.row.toRowW d [] (fun f vs => PySem.call f vs) := by
  refine walk_ofTsE (CX := fun w => L2.CX l.prog w) (k := k) (x := x) hn hn2 hdf hr ?_ ?_
  · intro w mg fa h Y G hmg
    obtain ⟨K, fd, KX, nd, hz, hb, hF⟩ := F w mg fa h Y G hmg
    refine ⟨K, KX, fd, TF.map fun z => He.cT K z.1, spD K mg 1 m, ?_, ?_, ?_, hb, ?_, ?_⟩
    · intro p hp
      obtain ⟨z, hz', rfl⟩ := List.mem_map.mp hp
      exact (hz z hz').2.2
    · intro p hp
      obtain ⟨z, hz', rfl⟩ := List.mem_map.mp hp
      exact (hz z hz').2.1
    · intro p hp
      obtain ⟨z, hz', rfl⟩ := List.mem_map.mp hp
      exact PySem.W.codeHd_of_K KX (hz z hz').1
    · intro H a ns hlen _ hT hS
      exact spT_law nd (hm ns hlen) (fun z hz' => hT _ (List.mem_map.mpr ⟨z, hz', rfl⟩)) hS _
    · intro base h1 h2 h3
      exact hF base h1 h2 fun z hz' => h3 _ (List.mem_map.mpr ⟨z, hz', rfl⟩)
  · rintro w H s e s' ⟨_, _, _, _, _, _, _, _, _, _, _, _, z⟩
    exact z
end DL
set_option maxHeartbeats 4000000
/-! an own exception class whose __init__ says super().__init__(a text); self.f = its parameter -/
namespace DL
open PySem PySem.Spec L2 PyProof.Rows
/-- what the written part says of such a class at C, its __init__ at f -/
structure SupC (P : Program) (K : PySem.W.Frag) (C f : Addr) (fld qual : Str) (params : Arguments) (body : List Stmt) (scope : Scope) (fd : FuncData) : Prop where
  oex : OexC K C
  ini : PySem.W.findIn K (.ref C) "__init__" = some (some (.ref f))
  tyf : PySem.W.typeIn K (.ref f) = some (.type "function")
  nof : PySem.W.findIn K (.ref C) fld = some none
  fn : ∃ (oc : Value) (od : Option Addr) (kV doc pm : Value) (an : Option Addr) (cda : Addr) (ct : Value) (osl : Array (Option Value)) (cc : Addr), fd = PySem.W.fnX "__init__" qual params body scope [("__class__", cc)] .none kV doc pm an (.ref cda) ct ∧
    K.lookup f = some ⟨oc, od, .func fd, osl⟩ ∧ PySem.W.codeIn K (.ref cda) qual = true ∧
    (∃ (ccl : Value) (cdd : Option Addr) (vs : Array Value) (ccs : Array (Option Value)) (file : Str) (tf : Tok), K.lookup cda = some ⟨ccl, cdd, .fields vs, ccs⟩ ∧ vs[2]? = some (.str file tf) ∧ (P.main.file == file) = true) ∧
    ∃ (cl : Value) (cld : Option Addr) (csl : Array (Option Value)), K.lookup cc = some ⟨cl, cld, .cell (some (.ref C)), csl⟩
  sup : PySem.W.ks_superIn K C C "__init__" = some (some (.builtin "ValueError.__init__"))
  sub : PySem.W.subIn K (.ref C) (.type "ValueError") = some true
  mro : PySem.W.mroIn K C (.ref C) = some true
  opq : PySem.W.nsIn K cStatics "thirdparty.any" = some none
  nsup : PySem.W.nsIn K mainGlobals "super" = some none
  xf : XfC K C
/-- its promise -/
def spSI (C : Addr) (fld : Str) : Sp := fun vs H Q _ => ∃ (a : Addr) (y : V), vs = [.ref a, y] ∧ H a = some (exo a C none) ∧ ∀ dx, H dx = none → dx ≠ a → Q .non (upd (upd H dx (exd dx [(fld, y)])) a (exo a C (some dx)))
section
variable {P : Program} {w : World} {K : PySem.W.Frag} {mg : Str → Option Value} {base : Heap} {C f : Addr} {fld qual p msg : Str} {params : Arguments} {scope : Scope} {fd : FuncData} {j : Nat} {p0 p1 p2 p3 p4 p5 p6 p7 p8 p9 : Pos} {ar : Arg}
theorem fn_supI (T : SupC P K C f fld qual params [.Expr (.Call (.Attribute (.Call (.Name "super" p0) [] [] p1) "__init__" p2) [.Constant (.str msg) j p3] [] p4) p5, .Assign [.Attribute (.Name "self" p6) fld p7] (.Name p p8) p9] scope fd)
    (hp : (params.posonlyargs ++ params.args).head? = some ar) (har : ar.arg = "self") (hks : scope.names.lookup ("super" : Str) = some .globalImplicit) (hkc : scope.names.lookup ("__class__" : Str) = some .free)
    (hka : scope.names.lookup ("self" : Str) = some .local) (hkp : scope.names.lookup p = some .local) (hk : scope.kind = .function) (hco : scope.isCoroutine = false) (hgen : scope.isGenerator = false) (hcell : ∀ x ∈ scope.names, x.2 ≠ .cell) (hne : ("self" : Str) ≠ p) (hdp : (p == ("__debug__" : Str)) = false)
    (he : ∀ env : Env, ∃ pl : Sem Bool, eval (.Call (.Attribute (.Call (.Name "super" p0) [] [] p1) "__init__" p2) [.Constant (.str msg) j p3] [] p4) env = (do
      let ov ← attributeBase (.Call (.Name "super" p0) [] [] p1) "__init__" env (eval (.Call (.Name "super" p0) [] [] p1) env)
      standAt p2.atName
      let (f, first) ← holding [ov] (getMethod ov "__init__" pl)
      callWith p4 f first (backTo p4 (starEach [.Constant (.str msg) j p3] env)) []))
    (hs1 : ∀ env : Env, swapsWith (.Call (.Attribute (.Call (.Name "super" p0) [] [] p1) "__init__" p2) [.Constant (.str msg) j p3] [] p4) none p5.line env = pure false)
    (hs2 : ∀ env : Env, swapsWith (.Name p p8) (some (.Attribute (.Name "self" p6) fld p7)) p9.line env = pure false)
    (htop : (P.main.scope.names.lookup ("super" : Str)).isSome = false) :
    FnOk P w K mg base (L2.CX P w) 1 f fd ["self", p] (spSI C fld) := by
  obtain ⟨oc, od, kV, doc, pm, an, cda, ct, osl, cc, efd, lk, hcd, ⟨ccl, cdd, vs, ccs, file, tf, hcode, hvs, hfile⟩, cl, cld, csl, hcl⟩ := T.fn
  refine ⟨fun vs H Q E h => by obtain ⟨a, y, e, _⟩ := h; rw [e]; rfl, fun A outer s H args us vs' Q E hr e0 hb r hsp => ?_⟩
  obtain ⟨a, y, rfl, ha, q⟩ := hsp
  obtain ⟨u, rfl, ru⟩ : ∃ u, us = [.ref a, u] ∧ RelV y u := by
    cases r with
    | cons r1 r2 =>
      cases r2 with
      | cons r2 r3 =>
        cases r3
        cases r1
        exact ⟨_, rfl, r2⟩
  have KX : K.In s.heap := e0.mod.kin.keeps fun b o e => (e0.bs b o e).1
  have lim : s.heap.NoLimit := e0.mod.nolimit.keeps fun b o e => (e0.bs b o e).1
  obtain ⟨nm, qn, N, bs, bm, sn, sub, ab, col, dd, k0, k1, k2, k3, k5, hC, hbm⟩ := T.oex.cls
  have hclC : PySem.W.clsIn K C = some { name := nm, bases := bs, mro := .ref C :: bm, ns := N, qualname := qn, hasDict := true, slotNames := sn, subclasses := sub, abstract := ab, collection := col, hasDel := false } := by unfold PySem.W.clsIn; rw [hC] <;> rfl
  obtain ⟨t1, ho⟩ := exo_at e0.hok ha
  subst efd
  refine PySem.ks_codeAny_call_defAt (fd := PySem.W.fnX "__init__" qual params _ scope [("__class__", cc)] .none kV doc pm an (.ref cda) ct) (binds := [(("self" : Str), Value.ref a), (p, u)]) hr.depth (KX _ _ lk) rfl lim (PySem.W.codeRec_of KX hcd) rfl hb hcell (fun x hx => ?_) (fun h₁ hns hk₁ => ?_) hco hgen hk
  · rcases List.mem_cons.mp hx with rfl | hx
    · exact hka
    · rcases List.mem_cons.mp hx with rfl | hx
      · exact hkp
      · cases hx
  have hkr : ∀ b o, b ≠ a → s.heap.get? b = some o → h₁.get? b = some o := fun b o _ e => hk₁ b o e
  have X₁ : K.In h₁ := KX.keeps hk₁
  have hX₁ : h₁.get? a = some (HandSPX.excO C t1) := hk₁ _ _ ho
  have hm1 : ([(("self" : Str), Value.ref a), (p, u)].reverse.lookup ("self" : Str)) = some (.ref a) := by
    show (match ("self" : Str) == p with | true => some u | false => _) = _
    rw [beq_eq_false_iff_ne.mpr hne]
    simp
  have hm2 : ([(("self" : Str), Value.ref a), (p, u)].reverse.lookup p) = some u := by simp
  generalize hmm : (fun x => [(("self" : Str), Value.ref a), (p, u)].reverse.lookup x) = mL at hns
  have hmL1 : mL "self" = some (.ref a) := by rw [← hmm]; exact hm1
  have hmL2 : mL p = some u := by rw [← hmm]; exact hm2
  obtain ⟨pl, hev⟩ := he (callEnv (PySem.W.fnX "__init__" qual params [.Expr (.Call (.Attribute (.Call (.Name "super" p0) [] [] p1) "__init__" p2) [.Constant (.str msg) j p3] [] p4) p5, .Assign [.Attribute (.Name "self" p6) fld p7] (.Name p p8) p9] scope [("__class__", cc)] .none kV doc pm an (.ref cda) ct) s.heap.objs.size f)
  refine PySem.ks_wpAt_execs_cons (PySem.ks_wpAt_Expr_any (PySem.ks_wpAt_MethodCall (pl := pl) ?_ hev) (by unfold interactive; show (scope.kind == ScopeKind.module && _) = false; rw [hk]; rfl) (hs1 _))
  refine PySem.ks_wpAt_super_base hks hkc (by decide) rfl (X₁ _ _ lk) rfl hp rfl (X₁ _ _ hcode) rfl hvs hfile htop ?_
  have kb : ∀ b o, base.get? b = some o → h₁.get? b = some o := fun b o e => hk₁ b o (e0.bs b o e).1
  obtain ⟨mb, hmb, hmb2⟩ := e0.mod.blt
  refine PySem.W.ks_loadName_global hk hks (Calls.loadGlobal_builtin (e0.mod.glob.keeps kb) (PySem.W.mg_none_of e0.mod.kin e0.mod.glob T.nsup) (hmb.keeps kb) ((hmb2 _ (by decide)).trans (show bootBuiltins "super" = some (.type "super") by rfl)) ⟨rfl, ?_⟩)
  refine wpAny_loadName_free hk hkc rfl ⟨_, X₁ _ _ hcl, rfl⟩ ?_
  rw [har]
  refine wpAny_loadName_local hk hka hns hmL1 ?_
  refine PySem.ks_wpAny_isType_cls (X₁ _ _ hC) rfl ⟨rfl, ?_⟩
  refine PySem.ks_wpAny_call_super (X₁ _ _ hC) rfl hX₁ rfl (fun c e => by cases e) (PySem.W.looks_mroIn X₁ T.mro) (fun h₂ hso hk₂ => ?_)
  have X₂ : K.In h₂ := X₁.keeps hk₂
  have hX₂ := hk₂ _ _ hX₁
  have I₂ : PySem.W.InstAt h₂ a (HandSPX.excO C t1) C none := ⟨hX₂, rfl, rfl, trivial⟩
  have hI : PySem.W.Looks (model P w) h₂ (isInstance (.ref a) (.type "ValueError")) true := I₂.type.andThen (PySem.W.looks_subIn X₂ T.sub)
  have hsup : PySem.W.alongIn K "__init__" (((Value.ref C :: bm).dropWhile (· != .ref C)).drop 1) = some (some (.builtin "ValueError.__init__")) := by
    have e := T.sup
    unfold PySem.W.ks_superIn at e
    rw [hclC] at e
    exact e
  refine PySem.W.kxs_getMethod PySem.W.kxs_ValueError hso (PySem.W.looks_opaque X₂ T.opq) (l₀ := .ref C :: bm) (fun A Q E s k q => wpAny_bind ((PySem.W.looks_clsIn X₂ hclC) A _ E s k (wpAny_pure q))) rfl X₂ hsup hI (PySem.W.ks_ne X₂ I₂ hclC) (by decide) ?_
  have X₃ : K.In (h₂.push (PySem.W.kxs_mw "ValueError.__init__" a)) := X₂.keeps fun b o e => Heap.get?_push_of_some _ e
  have hX₃ : (h₂.push (PySem.W.kxs_mw "ValueError.__init__" a)).get? a = some (HandSPX.excO C t1) := Heap.get?_push_of_some _ hX₂
  have hu : (h₂.push (PySem.W.kxs_mw "ValueError.__init__" a)).get? h₂.objs.size = some (PySem.W.kxs_mw "ValueError.__init__" a) := Heap.get?_push_size _ rfl
  show wpAny _ _ (callWith p4 (.ref h₂.objs.size) [] (backTo p4 (starEach [.Constant (.str msg) j p3] _)) []) _ _ _
  refine PySem.W.kxs_callWith (i := "ValueError.__init__") (x := a) (by rfl) (Calls.evalArgs_plain ?_)
  refine Calls.spliced_cons (Calls.Constant_str (pos := p3) (k := j) (Calls.spliced_nil ⟨hu, ?_⟩))
  refine wpAny_call (codeAny_of_tree ?_)
  show wpAny _ (Around.in1 _) (callAny (.ref h₂.objs.size) ⟨[.str msg _], []⟩) _ _ _
  simp only [callAny]
  refine wpAny_bind (wpAny_load hu ?_)
  simp only [PySem.W.kxs_mw, show (Value.type "method-wrapper" == Value.type "method" || Value.type "method-wrapper" == Value.type "builtin_function_or_method" || Value.type "method-wrapper" == Value.type "method-wrapper") = true by decide, if_true]
  refine PySem.W.KFB.if_so (by decide) ?_
  refine wpAny_bind (PySem.W.check_bound_init F.excBase_ValueError.toExcCallFacts (X₃ _ _ hC) hX₃ rfl ?_)
  refine wpAny_bind (wpAny_pure (wpAny_pure ?_))
  refine ⟨plainId_quiet F.excBase_ValueError.init.plain _, codeAny_builtin F.excBase_ValueError.initEntry ?_⟩
  refine PySem.W.exc_init_tree (cls := .ref C) (t0 := t1) (dv := none) (c2 := .none) (c3 := .none) (b4 := .bool false) hX₃ (by show 1 ≤ sizeLine; rw [sizeLine_eq]; decide) (fun h₄ hk₄ hX₄ _ => ?_)
  have hLa : s.heap.objs.size ≠ a := fun z => absurd (Heap.lt_size ho) (by rw [← z]; exact Nat.lt_irrefl _)
  have k4 : ∀ b o, b ≠ a → h₁.get? b = some o → h₄.get? b = some o := fun b o hb e => hk₄ b o hb (Heap.get?_push_of_some _ (hk₂ b o e))
  have hns4 : h₄.Ns s.heap.objs.size mL := hns.at fun o e => k4 _ _ hLa e
  have aC : C ≠ a := fun z => PySem.W.ks_ne X₂ I₂ hclC z.symm
  have X₄ : K.In h₄ := fun b o e => hk₄ b o (fun z => by
    have e2 := e0.mod.kin b o e
    have e3 := (e0.bs b o e2).2
    rw [z, ha] at e3
    cases e3) (X₃ b o e)
  refine wpAt_of_wpAny (wpAny_execs_cons (plainObj_wpAny_Assign_Attribute (wpAny_Name (wpAny_loadName_local hk hkp hns4 hmL2 (wpAny_Name (wpAny_loadName_local hk hka hns4 hmL1 ?_))) hdp) (hs2 _)))
  refine PySem.W.set_plain X₄ (ox := { cls := .ref C, dict := none, data := .fields #[.ref _, .none, .none, .none, .bool false, .none] }) (od := none) ⟨hX₄, rfl, rfl, trivial⟩ T.oex.sa ?_
  refine PySem.HandSPX.exc_osa X₄ hX₄ hclC (show PySem.HandSPX.refsVE (.ref C :: bm) = true from hbm) rfl T.nof (fun h₅ tk' dx k dn dne hx hn => ?_)
  refine wpAny_execs_nil ?_
  have ka : ∀ b o, b ≠ a → s.heap.get? b = some o → h₅.get? b = some o := fun b o hb e => k b o hb (k4 b o hb (hk₁ b o e))
  have hsz : s.heap.objs.size ≤ dx := by
    obtain ⟨o, es, ep, e1, _⟩ := hns4
    exact Nat.le_trans (Nat.le_of_lt (Heap.lt_size e1)) dn
  have hnd : H dx = none := e0.hok.fresh hsz
  have nd : ∀ {b : Addr} {o : Obj}, s.heap.get? b = some o → b ≠ dx := fun {b o} q => Nat.ne_of_lt (Nat.lt_of_lt_of_le (Heap.lt_size q) hsz)
  have na : ∀ {b : Addr}, H b = none → b ≠ a := fun {b} n z => by
    rw [z, ha] at n
    cases n
  have Un1 : Un (frs outer) [] H (upd (upd H dx (exd dx [(fld, y)])) a (exo a C (some dx))) s.heap h₅ := {
    keep := fun b o q n _ _ => ka b o (na n) q
    slot := fun b o q n _ _ => ⟨o.slots, ka b o (na n) q⟩
    free := fun b o q n _ => by rw [upd_ne (na n), upd_ne (nd q)]; exact n
    there := fun b o q _ => by
      by_cases hb : b = a
      · exact ⟨_, by rw [hb]; exact hx⟩
      · exact ⟨o, ka b o hb q⟩
    tups := fun b xs q => by rw [upd_ne (at_ne ha q exo_tup), upd_ne (ne_of_none q hnd)]; exact q
    frzs := fun b o v q => by rw [upd_ne (at_ne ha q exo_frz), upd_ne (ne_of_none q hnd)]; exact q
    tbls := fun b ps q => ⟨#[], by rw [upd_ne (at_ne ha q exo_tbl), upd_ne (ne_of_none q hnd), q]; simp⟩ }
  refine ⟨.non, upd (upd H dx (exd dx [(fld, y)])) a (exo a C (some dx)), rfl, e0.bare, Un1, fun b o q => ?_, rfl, q dx hnd dne⟩
  by_cases hb : b = a
  · subst hb
    rw [upd_same] at q
    cases q
    exact exo_ok hx
  · rw [upd_ne hb] at q
    by_cases hd : b = dx
    · subst hd
      rw [upd_same] at q
      cases q
      exact exd_ok hn (relO_put (fs := []) ru fun g => True.intro)
    · rw [upd_ne hd] at q
      exact (e0.hok b o q).stay (fun c v hc z => ka c v (by
          rcases hc with hc | hc
          · rw [hc]
            exact hb
          · exact at_ne ha hc exo_own) z)
        (fun c hc => by rw [upd_ne (at_ne ha hc exo_own), upd_ne (ne_of_none hc hnd)]; exact hc) (fun c xs hc => by rw [upd_ne (at_ne ha hc exo_tup), upd_ne (ne_of_none hc hnd)]; exact hc)
end
end DL
set_option maxHeartbeats 2000000
namespace DL
open PySem PySem.Spec L2
/-! ### what is looked at -/
abbrev FnS : Type := Option (Str × Str × Arguments × FuncBody × Scope × Addr × List Str × Addr)
def fnS (K : PySem.W.Frag) (p : Str × Option Str) : FnS := match K.lookup (He.fAd K p) with
  | some ⟨_, _, .func fd, _⟩ => some (fd.name, fd.qualname, fd.params, fd.body, fd.scope, fd.globals, fd.closure.map (·.1), fd.builtins)
  | _ => none
/-- an __init__ that says super().__init__(text); self.fld = .. -/
structure SupD where
  cls : Str
  fld : Str
  qual : Str
  params : Arguments
  body : List Stmt
  scope : Scope
def SupD.val (d : SupD) : FnS := some (("__init__" : Str), d.qual, d.params, FuncBody.stmts d.body, d.scope, mainGlobals, [("__class__" : Str)], builtinsNs)
def oexB (K : PySem.W.Frag) (C : Addr) : Bool := (match K.lookup C with
  | some ⟨.type t, _, .cls cd, sl⟩ => t == "type" && (match cd.mro, sl.toList with
    | .ref C' :: bm, [_, _, _, _, some (.builtin n), _] => C' == C && n == "ValueError.__new__" && !cd.hasDel && cd.hasDict && HandSPX.refsVE bm
    | _, _ => false)
  | _ => false) && (He.eqO (PySem.W.findIn K (.ref C) "__setattr__") (some (some (.builtin "object.__setattr__"))) && (decide (PySem.W.subIn K (.ref C) (.type "BaseException") = some true) && (decide (PySem.W.typeIn K (.ref C) = some (.type "type")) && PySem.W.keepIn K (.ref C))))
theorem oexB_ok {K : PySem.W.Frag} {C : Addr} (h : oexB K C = true) : OexC K C := by
  obtain ⟨h1, h⟩ := Bool.and_eq_true_iff.mp h
  obtain ⟨h2, h⟩ := Bool.and_eq_true_iff.mp h
  obtain ⟨h3, h⟩ := Bool.and_eq_true_iff.mp h
  obtain ⟨h4, h5⟩ := Bool.and_eq_true_iff.mp h
  refine ⟨?_, He.eqO_ok h2, of_decide_eq_true h3, of_decide_eq_true h4, h5⟩
  split at h1
  · rename_i t dd cd sl ho
    obtain ⟨h0, h1⟩ := Bool.and_eq_true_iff.mp h1
    split at h1
    · rename_i C' bm k0 k1 k2 k3 n k5 hm hs
      simp only [Bool.and_eq_true, beq_iff_eq, Bool.not_eq_true'] at h1 h0
      obtain ⟨⟨⟨⟨rfl, rfl⟩, hdel⟩, hhd⟩, ht⟩ := h1
      obtain ⟨nm, bs, mro, ns, qn, hd, sn, sub, ab, col, del⟩ := cd
      dsimp only at hm hdel hhd
      subst hm hdel hhd
      have hsl : sl = #[k0, k1, k2, k3, some (.builtin "ValueError.__new__"), k5] := by
        obtain ⟨l⟩ := sl
        simp only at hs
        rw [hs]
      subst hsl
      subst h0
      exact ⟨nm, qn, ns, bs, bm, sn, sub, ab, col, dd, k0, k1, k2, k3, k5, ho, ht⟩
    · cases h1
  · cases h1
def supFn (file : Str) (K : PySem.W.Frag) (C f : Addr) : Bool := match K.lookup f with
  | some ⟨_, _, .func fd, _⟩ => (match fd.code, fd.closure, fd.defaults with
    | .ref cda, [(_, cc)], .none => PySem.W.codeIn K (.ref cda) fd.qualname && ((match K.lookup cda with
      | some ⟨_, _, .fields vs, _⟩ => (match (vs[2]? : Option Value) with
        | some (Value.str z _) => z == file
        | _ => false)
      | _ => false) && (match K.lookup cc with
      | some ⟨_, _, .cell (some (.ref D)), _⟩ => D == C
      | _ => false))
    | _, _, _ => false)
  | _ => false
def supB (file : Str) (K : PySem.W.Frag) (x fld : Str) : Bool := oexB K (He.ga K x) && (He.eqO (PySem.W.findIn K (.ref (He.ga K x)) "__init__") (some (some (.ref (He.ma K (He.ga K x) "__init__")))) && (decide (PySem.W.typeIn K (.ref (He.ma K (He.ga K x) "__init__")) = some (.type "function")) &&
  (He.eqO (PySem.W.findIn K (.ref (He.ga K x)) fld) (some none) && (supFn file K (He.ga K x) (He.ma K (He.ga K x) "__init__") && (He.eqO (PySem.W.ks_superIn K (He.ga K x) (He.ga K x) "__init__") (some (some (.builtin "ValueError.__init__"))) &&
  (decide (PySem.W.subIn K (.ref (He.ga K x)) (.type "ValueError") = some true) && (decide (PySem.W.mroIn K (He.ga K x) (.ref (He.ga K x)) = some true) && (He.eqO (PySem.W.nsIn K cStatics "thirdparty.any") (some none) && (He.eqO (PySem.W.nsIn K mainGlobals "super") (some none) && xfB K (He.ga K x))))))))))
theorem sup_ok {P : Program} {K : PySem.W.Frag} {d : SupD} {file : Str} (h : supB file K d.cls d.fld = true) (e : fnS K (d.cls, some "__init__") = d.val) (hf : P.main.file = file) : ∃ fd, SupC P K (He.ga K d.cls) (He.ma K (He.ga K d.cls) "__init__") d.fld d.qual d.params d.body d.scope fd := by
  unfold supB at h
  obtain ⟨h1, h⟩ := Bool.and_eq_true_iff.mp h
  obtain ⟨h2, h⟩ := Bool.and_eq_true_iff.mp h
  obtain ⟨h3, h⟩ := Bool.and_eq_true_iff.mp h
  obtain ⟨h4, h⟩ := Bool.and_eq_true_iff.mp h
  obtain ⟨h5, h⟩ := Bool.and_eq_true_iff.mp h
  obtain ⟨h6, h⟩ := Bool.and_eq_true_iff.mp h
  obtain ⟨h7, h⟩ := Bool.and_eq_true_iff.mp h
  obtain ⟨h8, h⟩ := Bool.and_eq_true_iff.mp h
  obtain ⟨h9, h⟩ := Bool.and_eq_true_iff.mp h
  obtain ⟨h10, h11⟩ := Bool.and_eq_true_iff.mp h
  unfold supFn at h5
  unfold fnS at e
  have efa : He.fAd K (d.cls, some "__init__") = He.ma K (He.ga K d.cls) "__init__" := rfl
  rw [efa] at e
  split at h5
  · rename_i oc od fd osl ho
    rw [ho] at e
    obtain ⟨n1, n2, n3, n4, n5, n6, n7, n8, n9, n10, n11, n12, n13, n14, n15⟩ := fd
    have e2 : (some (n1, n2, n3, n4, n5, n6, n7.map (·.1), n15) : FnS) = (some (("__init__" : Str), d.qual, d.params, FuncBody.stmts d.body, d.scope, mainGlobals, [("__class__" : Str)], builtinsNs) : FnS) := e
    simp only [Option.some.injEq, Prod.mk.injEq] at e2
    obtain ⟨a1, a2, a3, a4, a5, a6, a7, a8⟩ := e2
    subst a1 a2 a3 a4 a5 a6 a8
    split at h5
    · rename_i cda nm cc hcode hcl hdf
      dsimp only at hcode hcl hdf
      subst hcode hcl hdf
      have a7 : [nm] = [("__class__" : Str)] := a7
      cases a7
      obtain ⟨b1, b2⟩ := Bool.and_eq_true_iff.mp h5
      obtain ⟨b2, b3⟩ := Bool.and_eq_true_iff.mp b2
      refine ⟨_, oexB_ok h1, He.eqO_ok h2, of_decide_eq_true h3, He.eqO_ok h4, ⟨oc, od, n9, n10, n11, n12, cda, n14, osl, cc, rfl, ho, b1, ?_, ?_⟩, He.eqO_ok h6, of_decide_eq_true h7, of_decide_eq_true h8, He.eqO_ok h9, He.eqO_ok h10, xfB_ok h11⟩
      · split at b2
        · rename_i ccl cdd vs ccs hc
          split at b2
          · rename_i z tf hz
            exact ⟨ccl, cdd, vs, ccs, z, tf, hc, hz, by rw [hf]; exact beq_iff_eq.mpr (beq_iff_eq.mp b2).symm⟩
          · cases b2
        · cases b2
      · split at b3
        · rename_i cl cld D csl hc
          have := beq_iff_eq.mp b3
          subst this
          exact ⟨cl, cld, csl, hc⟩
        · cases b3
    · cases h5
  · cases h5
end DL
set_option maxHeartbeats 2000000
/-! several except clauses, with and without a name -/
namespace DL
open PySem PySem.Spec L2 PyProof.Rows
abbrev Cl := Value × Option Nat × (Addr → Value → Option Addr → TS)
/-- what happens behind a clause: its name goes -/
def endsAs (i : Option Nat) (D : Ends) : Ends := match i with
  | none => D
  | some i => { nx := fun σ' H' => D.nx (σ'.set i none) H', rt := D.rt, bk := fun σ' H' => D.bk (σ'.set i none) H', ct := fun σ' H' => D.ct (σ'.set i none) H' }
def setAs (i : Option Nat) (a : Addr) (σ : L2.St) : L2.St := match i with
  | none => σ
  | some i => σ.set i (some (.ref a))
def wAll (K : PySem.W.Frag) (Wout : WX) (D : Ends) : List Cl → WX
  | [] => Wout
  | (c, i, ts) :: r => fun cls d σ H => ∃ b, PySem.W.exmOne K cls c = some b ∧ (b = true → ∀ a, H a = none → ts a cls d (endsAs i D) (setAs i a σ) H) ∧ (b = false → wAll K Wout D r cls d σ H)
inductive HdsA (X : Cx) : List ExceptHandler → List Cl → Prop
  | nil : HdsA X [] []
  | cons {x : Str} {c : Value} {ts : Addr → Value → Option Addr → TS} {b₀ : Stmt} {suite : List Stmt} {np pos' : Pos} {hds : List ExceptHandler} {l : List Cl} (hc : Names X x c)
      (hsu : ∀ (a : Addr) (oe : Obj) (cls : Value) (d : Option Addr) (pn : List (Addr × Obj)), Zc cls d oe → (∃ vs, oe.data = .fields vs) → PSs (X.suite a ((a, oe) :: pn)) (b₀ :: suite) (ts a cls d)) (r : HdsA X hds l) :
      HdsA X (.ExceptHandler (some (.Name x np)) none (b₀ :: suite) pos' :: hds) ((c, none, ts) :: l)
  | named {x n : Str} {i : Nat} {c : Value} {ts : Addr → Value → Option Addr → TS} {b₀ : Stmt} {suite : List Stmt} {np pos' : Pos} {hds : List ExceptHandler} {l : List Cl} (hN : X.N.Nodup) (hi : X.N[i]? = some n) (hln : X.env.kindOf n = some .local) (hc : Names X x c)
      (hsu : ∀ (a : Addr) (oe : Obj) (cls : Value) (d : Option Addr) (pn : List (Addr × Obj)), Zc cls d oe → (∃ vs, oe.data = .fields vs) → PSs (X.suite a ((a, oe) :: pn)) (b₀ :: suite) (ts a cls d)) (r : HdsA X hds l) :
      HdsA X (.ExceptHandler (some (.Name x np)) (some n) (b₀ :: suite) pos' :: hds) ((c, some i, ts) :: l)
section
variable {X : Cx} {body : List Stmt} {h₀ : ExceptHandler} {hds : List ExceptHandler} {l : List Cl} {pos : Pos} {tb : WX → TS} {Wout : WX}
theorem ps_try_all (hs : X.stack = X.env :: X.outer) (hf : X.env.frame = some X.env.locals) (tk : Takes X Wout)
    (hb : ∀ (W : WX) (pn : List (Addr × Obj)) (xe : Value → Shared → Prop), Takes (X.tr pn xe) W → PassesOwn (model X.prog X.w) X.A X.env xe → PSs (X.tr pn xe) body (tb W))
    (hh : HdsA X (h₀ :: hds) l) : PS X (.Try body (h₀ :: hds) [] [] pos) (fun D σ H => tb (wAll X.K Wout D l) D σ H) := by
  refine ⟨fun pins s σ H D I h => ?_⟩
  have ok := I.ok
  have hfr : X.A.frames = some (X.env :: X.outer) := by rw [ok.frames, hs]
  refine wpAny_Try_except ?_
  refine wpAny_mono ((hb (wAll X.K Wout D l) (X.pn ++ pins) (fun e s₁ => wpAny (model X.prog X.w) X.A (noteFrame e X.env) (fun _ s₂ => wpAny (model X.prog X.w) X.A (setFlight e none) (fun _ s₃ =>
    wpAny (model X.prog X.w) X.A (handleBy e X.env (h₀ :: hds)) (SP X pins D) X.xe s₃) X.xe s₂) X.xe s₁) (fun u s' xx => ?_) PassesOwn.looking).run [] s σ H D (I.toTry _) h) (fun f s1 hsp => ?_) (fun e s1 he => he)
  · obtain ⟨a, B, sI, pins', σ', H', cls, d, rfl, J', nb, up, sky, na, os, ag, w⟩ := xx
    have J : Inv X pins σ' H' sI := J'.ofTry ok
    have sky' : Sky B (X.env :: X.outer) a (Zc cls d) X.env.locals s'.heap := by rw [← hs]; exact sky
    show wpAny (model X.prog X.w) X.A (noteFrame (.ref a) X.env) _ _ _
    refine Sky.land Zc.steady hfr hf sky' fun h3 fl3 up3 => ?_
    have J3 : Inv X pins σ' H' { s' with heap := h3 } := J.landed nb fl3.1 (up.trans up3) os ag
    obtain ⟨oe3, vs3, he3, hz3, hd3⟩ := fl3.there
    have notFr : ∀ {h : Heap} {o : Obj} {vs : Array Value}, h.FunFrames B (X.env :: X.outer) → h.get? a = some o → o.data = .fields vs → a ∉ frs (X.env :: X.outer) := fun {h o vs} ff e dd hm => by
      obtain ⟨_, o', e', hnf⟩ := ff.mem hm
      rw [e] at e'; cases e'
      exact hnf _ dd
    have nfr := notFr fl3.2.2.1 he3 hd3
    have nL : a ≠ X.env.locals := fun z => nfr (List.mem_filterMap.mpr ⟨X.env, List.mem_cons_self, by rw [hf, z]⟩)
    have nF : a ∉ X.fs := fun hm => by
      obtain ⟨e, he, q⟩ := List.mem_filterMap.mp hm
      exact nfr (List.mem_filterMap.mpr ⟨e, List.mem_cons_of_mem _ he, q⟩)
    have S3 := J3.suite he3 hd3 na nL nF
    have LT : PySem.W.Looks (model X.prog X.w) h3 (typeOf (.ref a)) cls := fun A Q E s k q => wpAny_typeOf_ref (k _ _ he3) (by rw [hz3.1]; exact q)
    have test : ∀ {x : Str} {np : Pos} {c : Value}, Names X x c → ∀ {Q : Value → Shared → Prop} {E : Value → Shared → Prop}, Q c { s' with heap := h3 } → wpAny (model X.prog X.w) (X.A.mark (some (.ref a))) (eval (.Name x np) X.env) Q E { s' with heap := h3 } := fun {x np c} hc {Q E} q => by
      obtain ⟨hg, hdbg, hm | ⟨hm, hv, hnn⟩⟩ := hc
      · exact ld_glob (X := X.suite a ((a, oe3) :: (X.pn ++ pins))) S3 hg hm q hdbg
      · exact ld_blt (X := X.suite a ((a, oe3) :: (X.pn ++ pins))) S3 hg hm hv q hnn hdbg
    have go : ∀ {hds' : List ExceptHandler} {l' : List Cl}, HdsA X hds' l' → wAll X.K Wout D l' cls d σ' H' →
        wpAny (model X.prog X.w) X.A (handleBy (.ref a) X.env hds') (SP X pins D) X.xe { s' with heap := h3 } := by
      intro hds' l' hk
      induction hk with
      | nil =>
        intro w
        refine wpAny_handleBy_nil ?_
        obtain ⟨k1, k2, k3, oe, vs, T, oT, ts', he, hz, hd, h1, hr⟩ := id fl3
        unfold PySem.passOn
        refine wpAny_bind (wpAny_field he hd h1 ?_)
        rw [if_neg (show ¬ ((Value.ref T == Value.none) = true) from by simp)]
        have fin : wpAny (model X.prog X.w) X.A (setFlight (.ref a) X.env.frame) (fun _ s4 => wpAny (model X.prog X.w) X.A (throw (.ref a) : Sem Flow) (SP X pins D) X.xe s4) X.xe { s' with heap := h3 } := by
          rw [hf]
          refine HandSPX.setFlight_upZ fl3 fun h4 hh4 up4 => wpAny_throw (tk _ _ ?_)
          exact ⟨a, B, sI, pins, σ', H', cls, d, rfl, J, nb, (up.trans up3).trans up4, .inr (.inr (by rw [hs]; exact hh4)), na, os, ag, w⟩
        first
          | exact wpAny_bind (wpAny_pure (wpAny_bind fin))
          | exact wpAny_bind fin
      | @cons x c ts b₀ suite np pos' hds2 l2 hc hsu r ih =>
        intro w
        obtain ⟨b, hb1, hyes, hno⟩ := w
        refine wpAny_handleBy_cons (codeAny_handlers_test ?_) (by intro q; cases q)
        have LM := PySem.W.exm_one (M := model X.prog X.w) (J3.kIn) LT hb1
        refine test hc (LM.here ?_)
        cases b with
        | true =>
          refine codeAny_handlers_suite ?_
          refine HandSPX.lands_againZ fl3 fun h4 fl4 up4 => ?_
          have J4 : Inv X pins σ' H' { s' with heap := h4 } := J.landed nb fl4.1 ((up.trans up3).trans up4) os ag
          obtain ⟨oe4, vs4, he4, hz4, hd4⟩ := fl4.there
          have S4 := J4.suite he4 hd4 na nL nF
          refine wpAny_mono ((hsu a oe4 cls d (X.pn ++ pins) hz4 ⟨_, hd4⟩).run [] _ _ H' _ S4 (hyes rfl a na)) (fun f s6 hsp => ?_) (fun _ _ z => False.elim z)
          cases f with
          | next =>
            obtain ⟨σ6, H6, S6, q6⟩ := hsp
            exact ⟨_, _, S6.unsuite ok, q6⟩
          | brk =>
            obtain ⟨σ6, H6, S6, q6⟩ := hsp
            exact ⟨_, _, S6.unsuite ok, q6⟩
          | cont =>
            obtain ⟨σ6, H6, S6, q6⟩ := hsp
            exact ⟨_, _, S6.unsuite ok, q6⟩
          | ret u =>
            obtain ⟨v6, σ6, H6, S6, r6, q6⟩ := hsp
            exact ⟨_, _, _, S6.unsuite ok, r6, q6⟩
        | false =>
          show wpAny _ X.A (handleBy (.ref a) X.env hds2) _ _ _
          exact ih (hno rfl)
      | @named x n i c ts b₀ suite np pos' hds2 l2 hN hi hln hc hsu r ih =>
        intro w
        obtain ⟨b, hb1, hyes, hno⟩ := w
        refine wpAny_handleBy_cons (codeAny_handlers_test ?_) (by intro q; cases q)
        have LM := PySem.W.exm_one (M := model X.prog X.w) (J3.kIn) LT hb1
        refine test hc (LM.here ?_)
        cases b with
        | true =>
          refine codeAny_handlers_suite_as ?_
          refine HandSPX.lands_againZ fl3 fun h4 fl4 up4 => ?_
          have J4 : Inv X pins σ' H' { s' with heap := h4 } := J.landed nb fl4.1 ((up.trans up3).trans up4) os ag
          obtain ⟨oe4, vs4, he4, hz4, hd4⟩ := fl4.there
          have S4 := J4.suite he4 hd4 na nL nF
          refine store_ok (X := X.suite a ((a, oe4) :: (X.pn ++ pins))) (v := .ref a) S4 hN hi (.inl hln) rfl (fun s5 S5 => ?_) (.inr hln)
          refine wpAny_mono ((hsu a oe4 cls d (X.pn ++ pins) hz4 ⟨_, hd4⟩).run [] s5 _ H' _ S5 (hyes rfl a na)) (fun f s6 hsp => ?_) (fun _ _ z => False.elim z)
          have end_ : ∀ {σ6 : L2.St} {H6 : Hp} {Q : Shared → Prop}, Inv (X.suite a ((a, oe4) :: (X.pn ++ pins))) [] σ6 H6 s6 → (∀ s7, Inv X pins (σ6.set i none) H6 s7 → Q s7) →
              wpAny (model X.prog X.w) X.A (do bindName X.env n .none; unbindBehindTheSuite X.env n pos') (fun _ s7 => Q s7) X.xe s6 := fun {σ6 H6 Q} S6 hq => gone_ok (S6.unsuite ok) hN hi hln hq
          cases f with
          | next =>
            obtain ⟨σ6, H6, S6, q6⟩ := hsp
            exact end_ S6 fun s7 J7 => ⟨_, _, J7, q6⟩
          | brk =>
            obtain ⟨σ6, H6, S6, q6⟩ := hsp
            exact end_ S6 fun s7 J7 => ⟨_, _, J7, q6⟩
          | cont =>
            obtain ⟨σ6, H6, S6, q6⟩ := hsp
            exact end_ S6 fun s7 J7 => ⟨_, _, J7, q6⟩
          | ret u =>
            obtain ⟨v6, σ6, H6, S6, r6, q6⟩ := hsp
            exact end_ S6 fun s7 J7 => ⟨_, _, _, J7, r6, q6⟩
        | false =>
          show wpAny _ X.A (handleBy (.ref a) X.env hds2) _ _ _
          exact ih (hno rfl)
    exact go hh w
  · cases f with
    | next =>
      obtain ⟨σ', H', J', q⟩ := hsp
      exact wpAny_execs_nil ⟨σ', H', J'.ofTry ok, q⟩
    | brk =>
      obtain ⟨σ', H', J', q⟩ := hsp
      exact ⟨σ', H', J'.ofTry ok, q⟩
    | cont =>
      obtain ⟨σ', H', J', q⟩ := hsp
      exact ⟨σ', H', J'.ofTry ok, q⟩
    | ret u =>
      obtain ⟨v, σ', H', J', r, q⟩ := hsp
      exact ⟨v, σ', H', J'.ofTry ok, r, q⟩
end
end DL
set_option maxHeartbeats 2000000
/-! raise X(e) with a field; several clauses -/
namespace DL
open PySem PySem.Spec L2
def sRaiseF (x fld : Str) (f : DE) : DS := fun δ st => toS (f δ st) δ fun v st1 => match v with
  | .d d => .exc ⟨x, [(fld, d)]⟩ δ st1
  | _ => .bad
section
variable {X : Cx} {W : WX} {pos : Pos}
theorem ds_raiseF {C fI : Addr} {x fld p qual : Str} {params : Arguments} {body : List Stmt} {scope : Scope} {fd : FuncData} {e : Expr} {f : DE} {p1 p2 : Pos} (hc : X.calm = true) (tk : Takes X W) (T : SupC X.prog X.K C fI fld qual params body scope fd)
    (F1 : FnOk X.prog X.w X.K X.mg X.base (L2.CX X.prog X.w) 1 fI fd ["self", p] (spSI C fld)) (hr : Room 2 X.A) (hb : Binds X.K fd ["self", p] []) (hg : Gl X x) (hm : X.mg x = some (.ref C)) (he : DEx X W e f) (hdb : (x == ("__debug__" : Str)) = false := by decide)
    (hs : starEach [e] X.env = (false, eval e X.env) :: starEach [] X.env := by rfl) :
    DSx X W (.Raise (some (.Call (.Name x p1) [e] [] p2)) none pos) (sRaiseF x fld f) :=
  PS.imp (ps_raise hc tk (pmk_oex (CX := L2.CX X.prog X.w) T.oex T.ini T.tyf F1 hr hb (dvs := []) .nil (passes_call tk fun _ _ _ _ z => z.elim) hg hm (pa_cons he pa_nil hs) hdb hs)) fun E σ H h =>
    tE.toS (k := fun δ v st1 => match v with
      | .d d => .exc ⟨x, [(fld, d)]⟩ δ st1
      | _ => .bad) h fun δ μ1 H1 v st1 y hE hS ry q => by
      cases v with
      | r n => exact q.elim
      | s n => exact q.elim
      | f n => exact q.elim
      | d d =>
        refine ⟨by show 1 ≤ 1000; decide, fun a ha => ⟨a, y, rfl, upd_same, fun dx hd ne => ⟨rfl, dx, [(fld, y)], upd_same, ?_, ?_, ?_⟩⟩⟩
        · rw [upd_ne ne, upd_same]
        · rw [upd_ne ne] at hd; exact hd
        · have hd1 : H1 dx = none := by rw [upd_ne ne] at hd; exact hd
          have eH : upd (del (upd (upd (upd H1 a (exo a C none)) dx (exd dx [(fld, y)])) a (exo a C (some dx))) a) dx (.xd [(fld, y)]) = upd H1 dx (.xd [(fld, y)]) := by
            funext b
            by_cases hb : b = dx
            · subst hb; rw [upd_same, upd_same]
            · rw [upd_ne hb, upd_ne hb]
              by_cases hba : b = a
              · subst hba; rw [del_same, ha]
              · rw [del_ne hba, upd_ne hba, upd_ne hb, upd_ne hba]
          rw [eH]
          have s1 : Step μ1 H1 μ1 (upd H1 dx (.xd [(fld, y)])) := step_new hd1
          refine q (.ref C) (some dx) σ μ1 _ s1 (hS.new hd1) (hE.step s1) ⟨hm, ?_⟩
          refine ⟨dx, [(fld, y)], rfl, upd_same, fun f' x' e' => ?_⟩
          have e2 : (match f' == fld with | true => some d | false => none) = some x' := e'
          cases q2 : f' == fld with
          | false => rw [q2] at e2; cases e2
          | true =>
            rw [q2] at e2
            cases e2
            exact ⟨y, by show (match f' == fld with | true => some y | false => none) = _; rw [q2], Rp.step s1 ry⟩
end
/-! ### several clauses -/
structure Hnd where
  m : Str → Option Bool
  g : Ex → DS
def hdl : List Hnd → Ex → DS
  | [], e, δ, st => .exc e δ st
  | h :: r, e, δ, st => match h.m e.cn with
    | some true => noEx (h.g e δ st)
    | some false => hdl r e δ st
    | none => .bad
def sTryN (hs : List Hnd) (body : DS) : DS := fun δ st => match body δ st with
  | .exc e δ1 st1 => hdl hs e δ1 st1
  | r => r
def MOk (X : Cx) (m : Str → Option Bool) (c : Value) : Prop := ∀ (cn : Str) (b : Bool) (cls : Value), m cn = some b → X.mg cn = some cls → PySem.W.exmOne X.K cls c = some b
/-- a value told by the exception -/
def exR (i : Nat) (g : Ex → Option D) : Ex → DS := fun ex δ st => if i < δ.length then (match g ex with
  | some x => .rt (.d x) st
  | none => .bad) else .bad
inductive DHs (X : Cx) : List ExceptHandler → List Hnd → Prop
  | nil : DHs X [] []
  | cons {x : Str} {c : Value} {m : Str → Option Bool} {g : DS} {b₀ : Stmt} {suite : List Stmt} {np pos' : Pos} {hds : List ExceptHandler} {l : List Hnd} (hc : Names X x c) (hm : MOk X m c)
      (hsu : ∀ (Y : Cx), Y.K = X.K → Y.mg = X.mg → Y.N = X.N → Y.env = X.env → Y.fn = X.fn → DSsx Y WF (b₀ :: suite) g) (r : DHs X hds l) :
      DHs X (.ExceptHandler (some (.Name x np)) none (b₀ :: suite) pos' :: hds) (⟨m, fun _ => g⟩ :: l)
  | named {x n : Str} {i : Nat} {c : Value} {m : Str → Option Bool} {g : Ex → Option D} (ts : Addr → Value → Option Addr → TS) {b₀ : Stmt} {suite : List Stmt} {np pos' : Pos} {hds : List ExceptHandler} {l : List Hnd} (hN : X.N.Nodup) (hi : X.N[i]? = some n) (hln : X.env.kindOf n = some .local) (hc : Names X x c) (hm : MOk X m c)
      (hsu : ∀ (a : Addr) (oe : Obj) (cls : Value) (d : Option Addr) (pn : List (Addr × Obj)), Zc cls d oe → (∃ vs, oe.data = .fields vs) → PSs (X.suite a ((a, oe) :: pn)) (b₀ :: suite) (ts a cls d))
      (hts : ∀ (a : Addr) (cls : Value) (d : Option Addr) (D : Ends) (σ : L2.St) (μ : Mu) (H : Hp) (ex : Ex) (x : PyData), σ[i]? = some (some (.ref a)) → RX X.K X.mg μ H ex cls d → g ex = some x → (∀ v, Rp X.K μ H x v → D.rt v H) → ts a cls d D σ H) (r : DHs X hds l) :
      DHs X (.ExceptHandler (some (.Name x np)) (some n) (b₀ :: suite) pos' :: hds) (⟨m, exR i g⟩ :: l)
section
variable {X : Cx} {W : WX} {pos : Pos} {body : List Stmt} {h₀ : ExceptHandler} {hds : List ExceptHandler} {f : DS}
theorem DHs.all {l : List Hnd} (h : DHs X hds l) : ∃ cl : List Cl, HdsA X hds cl ∧ ∀ (Wout : WX) (D : Ends) (ex : Ex) (cls : Value) (d : Option Addr) (σ : L2.St) (δ : DEnv) (μ : Mu) (H : Hp) (st : Store), RX X.K X.mg μ H ex cls d → RE X.K μ H δ σ → RepS X.K μ H st →
    DenS X.K X.mg Wout D μ H (hdl l ex δ st) → wAll X.K Wout D cl cls d σ H := by
  induction h with
  | nil => exact ⟨[], .nil, fun Wout D ex cls d σ δ μ H st rx hE hS q => q cls d σ μ H .refl hS hE rx⟩
  | @cons x c m g b₀ suite np pos' hds l hc hm hsu r ih =>
    obtain ⟨cl, h1, h2⟩ := ih
    refine ⟨_, .cons (ts := fun _ _ _ => tS X.K X.mg WF g) hc (fun a oe cls d pn _ _ => hsu (X.suite a ((a, oe) :: pn)) rfl rfl rfl rfl rfl) h1, fun Wout D ex cls d σ δ μ H st rx hE hS q => ?_⟩
    unfold hdl at q
    cases e : m ex.cn with
    | none => simp only [e] at q; exact q.elim
    | some b =>
      refine ⟨b, hm _ b cls e rx.1, fun hb a ha => ?_, fun hb => ?_⟩
      · subst hb
        simp only [e] at q
        exact ⟨δ, μ, st, hE, hS, noEx_den q⟩
      · subst hb
        simp only [e] at q
        exact h2 Wout D ex cls d σ δ μ H st rx hE hS q
  | @named x n i c m g ts b₀ suite np pos' hds l hN hi hln hc hm hsu hts r ih =>
    obtain ⟨cl, h1, h2⟩ := ih
    refine ⟨_, .named hN hi hln hc hsu h1, fun Wout D ex cls d σ δ μ H st rx hE hS q => ?_⟩
    unfold hdl at q
    cases e : m ex.cn with
    | none => simp only [e] at q; exact q.elim
    | some b =>
      refine ⟨b, hm _ b cls e rx.1, fun hb a ha => ?_, fun hb => ?_⟩
      · subst hb
        simp only [e] at q
        unfold exR at q
        have hil : i < δ.length := by
          by_cases z : i < δ.length
          · exact z
          · rw [if_neg z] at q; exact q.elim
        rw [if_pos hil] at q
        cases eg : g ex with
        | none => simp only [eg] at q; exact q.elim
        | some x =>
          simp only [eg] at q
          refine hts a cls d _ _ μ H ex x ?_ rx eg fun v rv => q v μ H .refl hS rv
          show (σ.set i (some (.ref a)))[i]? = _
          rw [List.getElem?_set_self]
          rw [← hE.len]
          exact hil
      · subst hb
        simp only [e] at q
        exact h2 Wout D ex cls d σ δ μ H st rx hE hS q
/-- the field of a caught X -/
def exF (x fld : Str) : Ex → Option D := fun ex => if ex.cn = x then ex.fs.lookup fld else none
/-- a text and the field's digits -/
def exT (x fld w : Str) : Ex → Option D := fun ex => if ex.cn = x then (match ex.fs.lookup fld with
        | some (.int k) => if decide (k.natAbs < 2 ^ 1900) && szOk (w.length + (toString k : Str).length) = true then some (.str (w ++ toString k)) else none
        | _ => none) else none
theorem ds_tryN {l : List Hnd} (hs : X.stack = X.env :: X.outer) (hf : X.env.frame = some X.env.locals) (tk : Takes X W)
    (hb : ∀ (W' : WX) (pn : List (Addr × Obj)) (xe : Value → Shared → Prop), Takes (X.tr pn xe) W' → PassesOwn (model X.prog X.w) X.A X.env xe → DSsx (X.tr pn xe) W' body f) (hh : DHs X (h₀ :: hds) l) :
    DSx X W (.Try body (h₀ :: hds) [] [] pos) (sTryN l f) := by
  obtain ⟨cl, h1, h2⟩ := hh.all
  exact PS.imp (ps_try_all (tb := fun W' => tS X.K X.mg W' f) hs hf tk hb h1) fun E σ H ⟨δ, μ, st, hE, hS, h⟩ => by
    refine ⟨δ, μ, st, hE, hS, ?_⟩
    unfold sTryN at h
    cases e : f δ st with
    | nx δ1 st1 => rw [e] at h; exact h
    | bk δ1 st1 => rw [e] at h; exact h
    | ct δ1 st1 => rw [e] at h; exact h
    | rt x1 st1 => rw [e] at h; exact h
    | bad => rw [e] at h; exact h.elim
    | exc ex δ1 st1 =>
      rw [e] at h
      intro c' dd σ' μ' H' s S hE' r
      exact h2 W E ex c' dd σ' δ1 μ' H' st1 r hE' S (DenS.step s h)
/-- return e.fld -/
theorem dh_fld {x n fld : Str} {i : Nat} {C : Addr} {m : Str → Option Bool} {np pos' p1 p2 p3 : Pos} {l : List Hnd} (hN : X.N.Nodup) (hi : X.N[i]? = some n) (hln : X.env.kindOf n = some .local) (hc : Names X x (.ref C)) (hm : MOk X m (.ref C)) (T : XfC X.K C) (hno : PySem.W.findIn X.K (.ref C) fld = some none) (hmx : X.mg x = some (.ref C)) (r : DHs X hds l)
    (hv : Vis X.env.scope n := by exact Or.inl rfl) (hd : (n == ("__debug__" : Str)) = false := by decide) (hcd : (n == ("__classdict__" : Str)) = false := by decide) :
    DHs X (.ExceptHandler (some (.Name x np)) (some n) [.Return (some (.Attribute (.Name n p1) fld p2)) p3] pos' :: hds) (⟨m, exR i (exF x fld)⟩ :: l) := by
  refine .named (fun a cls d => tRet (tXf a cls d C fld (tVar i))) hN hi hln hc hm (fun a oe cls d pn hz hf => pss_one (ps_ret (pe_xf T hno hz hf (pe_var (X := X.suite a ((a, oe) :: pn)) hi hv hd hcd)))) (fun a cls d D σ μ H ex y hσ rx hg hq => ?_) r
  unfold exF at hg
  by_cases hx : ex.cn = x
  · rw [if_pos hx] at hg
    obtain ⟨h1, h2⟩ := rx
    rw [hx, hmx] at h1
    cases h1
    cases ef : ex.fs with
    | nil => rw [ef] at hg; cases hg
    | cons f0 fs0 =>
      rw [ef] at h2
      obtain ⟨dA, vs, e1, e2, e3⟩ := h2
      obtain ⟨v, e4, rv⟩ := e3 fld y (by rw [ef] at hg; exact hg)
      exact ⟨.ref a, hσ, rfl, rfl, dA, vs, v, e1, e2, e4, hq v rv⟩
  · rw [if_neg hx] at hg; cases hg
/-- return "text" + str(e.fld) -/
theorem dh_txt {x n fld w : Str} {i : Nat} {C : Addr} {m : Str → Option Bool} {np pos' p1 p2 p3 p4 p5 p6 p7 : Pos} {j : Nat} {l : List Hnd} (hN : X.N.Nodup) (hi : X.N[i]? = some n) (hln : X.env.kindOf n = some .local) (hc : Names X x (.ref C)) (hm : MOk X m (.ref C)) (T : XfC X.K C) (hno : PySem.W.findIn X.K (.ref C) fld = some none) (hmx : X.mg x = some (.ref C)) (hms : X.mg "str" = none) (hgs : Gl X "str") (r : DHs X hds l)
    (hv : Vis X.env.scope n := by exact Or.inl rfl) (hd : (n == ("__debug__" : Str)) = false := by decide) (hcd : (n == ("__classdict__" : Str)) = false := by decide)
    (hse : starEach [.Attribute (.Name n p1) fld p2] X.env = (false, eval (.Attribute (.Name n p1) fld p2) X.env) :: starEach [] X.env := by rfl) :
    DHs X (.ExceptHandler (some (.Name x np)) (some n) [.Return (some (.BinOp (.Constant (.str w) j p4) .Add (.Call (.Name "str" p5) [.Attribute (.Name n p1) fld p2] [] p6) p7)) p3] pos' :: hds)
      (⟨m, exR i (exT x fld w)⟩ :: l) := by
  refine .named (fun a cls d => tRet (tOp (rAdd4 X.K) (tC (.str w)) (tCB (fun xs H Q => ∃ i, xs = [.int i] ∧ i.natAbs.log2 < 1920 ∧ Q (.str (toString i)) H) (tCons (tXf a cls d C fld (tVar i)) tNil)))) hN hi hln hc hm (fun a oe cls d pn hz hf => pss_one (ps_ret (pe_op op_add4 pe_str (pe_callTy (X := X.suite a ((a, oe) :: pn)) call_str_int hgs hms (by rfl) (pa_cons (pe_xf T hno hz hf (pe_var (X := X.suite a ((a, oe) :: pn)) hi hv hd hcd)) pa_nil hse) (by decide) (by decide) hse)))) (fun a cls d D σ μ H ex y hσ rx hg hq => ?_) r
  unfold exT at hg
  by_cases hx : ex.cn = x
  · rw [if_pos hx] at hg
    obtain ⟨h1, h2⟩ := rx
    rw [hx, hmx] at h1
    cases h1
    cases ef : ex.fs with
    | nil => rw [ef] at hg; cases hg
    | cons f0 fs0 =>
      rw [ef] at h2 hg
      obtain ⟨dA, vs, e1, e2, e3⟩ := h2
      cases el : (f0 :: fs0).lookup fld with
      | none => rw [el] at hg; cases hg
      | some z =>
        rw [el] at hg
        cases z with
        | int k =>
          simp only at hg
          split at hg
          · rename_i hk
            cases hg
            obtain ⟨v, e4, rv⟩ := e3 fld _ el
            cases rv
            simp only [Bool.and_eq_true, decide_eq_true_eq] at hk
            exact ⟨.ref a, hσ, rfl, rfl, dA, vs, .int k, e1, e2, e4, k, rfl, Nat.lt_trans (log2_of (k := 1900) (by decide) hk.1) (by decide), .inr (.inl ⟨w, toString k, rfl, rfl, szOk_ok hk.2, hq _ (.str _)⟩)⟩
          · cases hg
        | _ => cases hg
  · rw [if_neg hx] at hg; cases hg
end
end DL
/-! dicts by text keys, made and read in one def -/
namespace DL
open PySem PySem.Spec L2
def dlook : List Str → List D → Str → Option D
  | k0 :: ks, d :: ds, k => if k0 = k then some d else dlook ks ds k
  | _, _, _ => none
theorem kz_cons (k : Str) (ks : List Str) (v : V) (vs : List V) : kz (k :: ks) (v :: vs) = (Sum.inr k, v) :: kz ks vs := rfl
section
variable {K : PySem.W.Frag} {mg : Str → Option Value} {μ : Mu} {H : Hp}
theorem valV_cons {κ : Type} [DecidableEq κ] (k0 k : κ) (v : V) (r : List (κ × V)) : valV ((k0, v) :: r) k = if k0 = k then some v else valV r k := by
  unfold valV
  rw [List.find?_cons]
  by_cases h : k0 = k
  · simp [h]
  · simp [h]
theorem dlook_ok : ∀ (ks : List Str) {ds : List D} {vs : List V}, RpL K μ H ds vs → ∀ k : Str, (valV (kz ks vs) (Sum.inr k)).isSome = (dlook ks ds k).isSome ∧ ∀ d, dlook ks ds k = some d → ∃ v, valV (kz ks vs) (Sum.inr k) = some v ∧ Rp K μ H d v
  | [], _, _, _, k => ⟨rfl, fun d h => nomatch h⟩
  | k0 :: ks, [], [], .nil, k => ⟨rfl, fun d h => nomatch h⟩
  | k0 :: ks, d0 :: ds, v0 :: vs, .cons h r, k => by
    rw [kz_cons, valV_cons]
    have e : (Sum.inr k0 = (Sum.inr k : Key)) ↔ k0 = k := ⟨fun z => Sum.inr.inj z, fun z => by rw [z]⟩
    by_cases hk : k0 = k
    · rw [if_pos (e.mpr hk)]
      unfold dlook
      rw [if_pos hk]
      exact ⟨rfl, fun d z => ⟨v0, rfl, by cases z; exact h⟩⟩
    · rw [if_neg fun z => hk (e.mp z)]
      unfold dlook
      rw [if_neg hk]
      exact dlook_ok ks r k
theorem merge_new : ∀ (more acc : List (Key × V)), (more.map Prod.fst).Nodup → (∀ p ∈ more, p.1 ∉ acc.map Prod.fst) → mergeK acc more = acc ++ more
  | [], acc, _, _ => by rw [List.append_nil]; rfl
  | (k, v) :: more, acc, hn, h => by
    have hk : valV acc k = none := by
      unfold valV
      rw [Option.map_eq_none_iff, List.find?_eq_none]
      intro p hp
      have := h (k, v) List.mem_cons_self
      simp only [decide_eq_true_eq]
      intro z
      exact this (List.mem_map.mpr ⟨p, hp, z⟩)
    show mergeK (putK acc k v) more = _
    rw [putK_new v hk, merge_new more (acc ++ [(k, v)]) (List.nodup_cons.mp hn).2 fun p hp => ?_, List.append_assoc, List.singleton_append]
    rw [List.map_append, List.mem_append]
    rintro (z | z)
    · exact h p (List.mem_cons_of_mem _ hp) z
    · simp only [List.map_cons, List.map_nil, List.mem_singleton] at z
      exact (List.nodup_cons.mp hn).1 (List.mem_map.mpr ⟨p, hp, z⟩)
theorem kz_keys : ∀ (ks : List Str) (vs : List V), vs.length = ks.length → (kz ks vs).map Prod.fst = ks.map Sum.inr
  | [], [], _ => rfl
  | k :: ks, v :: vs, h => by
    rw [kz_cons, List.map_cons, kz_keys ks vs (by simpa using h)]; rfl
theorem kz_zip : ∀ (ks : List Str) (vs : List V), (ks.map V.str).zip vs = (kz ks vs).map fun kv => (kV kv.1, kv.2)
  | [], _ => rfl
  | k :: ks, [] => rfl
  | k :: ks, v :: vs => by
    rw [kz_cons, List.map_cons, List.map_cons, ← kz_zip ks vs]; rfl
theorem nodup_inr : ∀ (ks : List Str), ks.Nodup → (ks.map (Sum.inr : Str → Key)).Nodup
  | [], _ => List.nodup_nil
  | k :: ks, h => by
    obtain ⟨h1, h2⟩ := List.nodup_cons.mp h
    rw [List.map_cons, List.nodup_cons]
    refine ⟨fun z => ?_, nodup_inr ks h2⟩
    obtain ⟨x, hx, e⟩ := List.mem_map.mp z
    cases e
    exact h1 hx
/-- a key among a dict's, and its value -/
def dctIn : O2 := fun x y st => match x, y with
  | .d (.str k), .r n => (match st[n]? with
    | some (.dct ks ds) => .ok (.d (.bool (dlook ks ds k).isSome)) st
    | _ => .bad)
  | _, _ => .bad
def dctNin : O2 := fun x y st => match x, y with
  | .d (.str k), .r n => (match st[n]? with
    | some (.dct ks ds) => .ok (.d (.bool !(dlook ks ds k).isSome)) st
    | _ => .bad)
  | _, _ => .bad
def dctIx : O2 := fun x y st => match x, y with
  | .r n, .d (.str k) => (match st[n]? with
    | some (.dct ks ds) => optR st (dlook ks ds k)
    | _ => .bad)
  | _, _ => .bad
theorem od_din : OpD K mg (fun y x H Q => ∃ a o, x = V.ref a ∧ DGet H a y o ∧ Q (V.bl o.isSome) H) dctIn := by
  intro μ H st x y v w Qx Q S rx ry q
  cases x with
  | r n => exact q.elim
  | s n => exact q.elim
  | f n => exact q.elim
  | d x =>
    cases x with
    | str k =>
      cases y with
      | d n => exact q.elim
      | s n => exact q.elim
      | f n => exact q.elim
      | r n =>
        have q : Den K mg (RV K) Qx Q μ H (match st[n]? with
          | some (.dct ks ds) => .ok (.d (.bool (dlook ks ds k).isSome)) st
          | _ => .bad) := q
        obtain ⟨a, ha, rfl⟩ := ry
        cases rx
        cases e : st[n]? with
        | none => rw [e] at q; exact q.elim
        | some ob =>
          rw [e] at q
          cases ob with
          | lst xs => exact q.elim
          | tab t t2 => exact q.elim
          | ins t t2 => exact q.elim
          | mix t t2 => exact q.elim
          | dcm t t2 => exact q.elim
          | exv t t2 => exact q.elim
          | dct ks ds =>
            obtain ⟨vs, hH, r⟩ := S.ob n a _ ha e
            refine ⟨a, valV (kz ks vs) (Sum.inr k), rfl, .inl ⟨kz ks vs, Sum.inr k, .inl hH, rfl, rfl⟩, ?_⟩
            rw [(dlook_ok ks r k).1]
            exact q _ μ H .refl S (.bl _)
    | _ => exact q.elim
theorem od_dnin : OpD K mg (fun y x H Q => ∃ a o, x = V.ref a ∧ DGet H a y o ∧ Q (V.bl !o.isSome) H) dctNin := by
  intro μ H st x y v w Qx Q S rx ry q
  cases x with
  | r n => exact q.elim
  | s n => exact q.elim
  | f n => exact q.elim
  | d x =>
    cases x with
    | str k =>
      cases y with
      | d n => exact q.elim
      | s n => exact q.elim
      | f n => exact q.elim
      | r n =>
        have q : Den K mg (RV K) Qx Q μ H (match st[n]? with
          | some (.dct ks ds) => .ok (.d (.bool !(dlook ks ds k).isSome)) st
          | _ => .bad) := q
        obtain ⟨a, ha, rfl⟩ := ry
        cases rx
        cases e : st[n]? with
        | none => rw [e] at q; exact q.elim
        | some ob =>
          rw [e] at q
          cases ob with
          | lst xs => exact q.elim
          | tab t t2 => exact q.elim
          | ins t t2 => exact q.elim
          | mix t t2 => exact q.elim
          | dcm t t2 => exact q.elim
          | exv t t2 => exact q.elim
          | dct ks ds =>
            obtain ⟨vs, hH, r⟩ := S.ob n a _ ha e
            refine ⟨a, valV (kz ks vs) (Sum.inr k), rfl, .inl ⟨kz ks vs, Sum.inr k, .inl hH, rfl, rfl⟩, ?_⟩
            rw [(dlook_ok ks r k).1]
            exact q _ μ H .refl S (.bl _)
    | _ => exact q.elim
theorem od_dix : OpD K mg (fun x y H Q => ∃ a v, x = V.ref a ∧ DGet H a y (some v) ∧ Q v H) dctIx := by
  intro μ H st x y v w Qx Q S rx ry q
  cases x with
  | d n => exact q.elim
  | s n => exact q.elim
  | f n => exact q.elim
  | r n =>
    cases y with
    | r n => exact q.elim
    | s n => exact q.elim
    | f n => exact q.elim
    | d y =>
      cases y with
      | str k =>
        have q : Den K mg (RV K) Qx Q μ H (match st[n]? with
          | some (.dct ks ds) => optR st (dlook ks ds k)
          | _ => .bad) := q
        obtain ⟨a, ha, rfl⟩ := rx
        cases ry
        cases e : st[n]? with
        | none => rw [e] at q; exact q.elim
        | some ob =>
          rw [e] at q
          cases ob with
          | lst xs => exact q.elim
          | tab t t2 => exact q.elim
          | ins t t2 => exact q.elim
          | mix t t2 => exact q.elim
          | dcm t t2 => exact q.elim
          | exv t t2 => exact q.elim
          | dct ks ds =>
            obtain ⟨vs, hH, r⟩ := S.ob n a _ ha e
            have q : Den K mg (RV K) Qx Q μ H (optR st (dlook ks ds k)) := q
            cases e2 : dlook ks ds k with
            | none => rw [e2] at q; exact q.elim
            | some d =>
              rw [e2] at q
              obtain ⟨v, e3, rv⟩ := (dlook_ok ks r k).2 d e2
              exact ⟨a, v, rfl, .inl ⟨kz ks vs, Sum.inr k, .inl hH, rfl, e3.symm⟩, q _ μ H .refl S rv⟩
      | _ => exact q.elim
end
section
variable {X : Cx} {W : WX} {pos : Pos}
theorem de_din {i o : Expr} {f g : DE} (hu : X.A.units + 1 < cLine) (hi : DEx X W i f) (ho : DEx X W o g) (hm : behindInMarks .In o = false := by rfl) : DEx X W (.Compare i [.In] [o] pos) (eO dctIn f g) := de_tOp od_din (pe_cmp (pc_din hu hi ho) hm)
theorem de_dix {i o : Expr} {f g : DE} (hu : X.A.units + 1 < cLine) (ho : DEx X W o f) (hi : DEx X W i g) (hn : NoSl i := by exact fun _ _ => rfl) : DEx X W (.Subscript o i pos) (eO dctIx f g) := de_tOp od_dix (pe_dget hu ho hi hn)
/-- keys told, the values by a -/
def DPx (X : Cx) (W : WX) (pos : Pos) (keys : List (Option Expr)) (vals : List Expr) (ks : List Str) (a : DA) : Prop :=
  ∃ trs, PPs X pos keys vals trs ∧ ∀ (σ : St) (H : Hp) (Q : List (V × V) → Hp → Prop), tA X.K X.mg W a σ H (fun vs H' => vs.length = ks.length → Q ((ks.map V.str).zip vs) H') → tPairs trs σ H Q
theorem dp_nil : DPx X W pos [] [] [] aN := ⟨[], pps_nil, fun σ H Q ⟨δ, μ, st, hE, hS, h⟩ => h [] μ H .refl hS .nil rfl⟩
theorem dp_cons {k : Str} {j : Nat} {p : Pos} {e : Expr} {keys : List (Option Expr)} {vals : List Expr} {ks : List Str} {f : DE} {a : DA} (h : DEx X W e f) (t : DPx X W pos keys vals ks a) : DPx X W pos (some (.Constant (.str k) j p) :: keys) (e :: vals) (k :: ks) (aC f a) := by
  obtain ⟨trs, h1, h2⟩ := t
  refine ⟨(tC (.str k), tE X.K X.mg W f) :: trs, pps_cons pe_str h h1, fun σ H Q q => ?_⟩
  show tE X.K X.mg W f σ H fun y H2 => tPairs trs σ H2 fun ps H3 => Q ((V.str k, y) :: ps) H3
  exact tE.bind (k := fun δ x st1 => (a δ st1).bind fun xs st2 => .ok (x :: xs) st2) q fun δ μ1 H1 x st1 v hE hS rx q1 =>
    h2 σ H1 _ ⟨δ, μ1, st1, hE, hS, Den.bind q1 fun xs st2 vs μ2 H2 _ s2 S2 rxs q2 => fun hl => q2 (v :: vs) μ2 H2 .refl S2 (.cons (rx.step s2) rxs) (by rw [List.length_cons, List.length_cons, hl])⟩
def dctK (ks : List Str) (n : Nat) : List Vl → Store → Rs Vl := fun xs st => match st[n]? with
  | some (.dct [] []) => (match pures xs with
    | some ds => if decide (ds.length = ks.length) = true then .ok (.r n) (st.set n (.dct ks ds)) else .bad
    | none => .bad)
  | _ => .bad
def eDict (ks : List Str) (a : DA) : DE := fun δ st => (a δ (st ++ [.dct [] []])).bind (dctK ks st.length)
theorem de_dict {keys : List (Option Expr)} {vals : List Expr} {ks : List Str} {a : DA} (h : DPx X W pos keys vals ks a) (h1 : (keys.all fun x => x.isSome) = true := by rfl) (h2 : keys.length = vals.length := by rfl) (h3 : keys ≠ [] := by simp) (h4 : keys.length ≤ 15 := by decide)
    (h5 : ks.length ≤ 15 := by decide) (h6 : ks.Nodup := by decide +kernel) : DEx X W (.Dict keys vals pos) (eDict ks a) := by
  obtain ⟨trs, hp, hq⟩ := h
  refine PE.imp (pe_disp hp h1 h2 h3 h4) fun σ H Q ⟨δ, μ, st, hE, hS, h⟩ p hp0 => ?_
  obtain ⟨s, S⟩ := hS.pushO hp0 (u := .dK []) (ob := .dct [] []) fun s => ⟨[], upd_same, .nil⟩
  refine hq σ _ _ ⟨δ, μ.push p, st ++ [.dct [] []], hE.step s, S, Den.bind (Den.step s h) fun xs st2 vs μ2 H2 _ s2 S2 rxs q2 => fun hl => ?_⟩
  have q2 : Den X.K X.mg (RV X.K) (fun c d H => W c d σ H) Q μ2 H2 (dctK ks st.length xs st2) := q2
  unfold dctK at q2
  have hix : μ2.m[st.length]? = some p := by
    obtain ⟨ν, rfl, _⟩ := s2.ext
    show ((μ.m ++ [p]) ++ ν)[st.length]? = some p
    rw [← hS.len, List.append_assoc, List.getElem?_append_right (Nat.le_refl _), Nat.sub_self]
    rfl
  cases e : st2[st.length]? with
  | none => rw [e] at q2; exact q2.elim
  | some ob =>
    rw [e] at q2
    cases ob with
    | lst xs => exact q2.elim
    | tab t t2 => exact q2.elim
    | ins t t2 => exact q2.elim
    | mix t t2 => exact q2.elim
    | dcm t t2 => exact q2.elim
    | exv t t2 => exact q2.elim
    | dct ks0 ds0 =>
      cases ks0 with
      | cons k ks0 => exact q2.elim
      | nil =>
        cases ds0 with
        | cons d ds0 => exact q2.elim
        | nil =>
          obtain ⟨vs0, hH, _⟩ := S2.ob _ p _ hix e
          cases e2 : pures xs with
          | none => simp only [e2] at q2; exact q2.elim
          | some ds =>
            simp only [e2] at q2
            by_cases hd : decide (ds.length = ks.length) = true
            · rw [if_pos hd] at q2
              have r := pures_ok rxs e2
              obtain ⟨s3, S3⟩ := S2.writeO hix (u := .dK (kz ks vs)) (ob := .dct ks ds) fun s => ⟨vs, upd_same, r.step s⟩
              have hk := kz_keys ks vs hl
              refine ⟨hH, kz ks vs, kz_zip ks vs, ?_, ?_⟩
              · have : (kz ks vs).length = ks.length := by
                  have := congrArg List.length hk
                  simpa using this
                omega
              · rw [merge_new (kz ks vs) [] (by rw [hk]; exact nodup_inr ks h6) (fun _ _ z => nomatch z), List.nil_append]
                exact q2 _ μ2 _ s3 S3 ⟨p, hix, rfl⟩
            · rw [if_neg hd] at q2; exact q2.elim
end
end DL
/-! tuples told backwards -/
namespace DL
open PySem PySem.Spec L2
section
variable {prog : Program} {w : World} {A : Around} {E : Value → Shared → Prop} {s : Shared}
theorem adjust_rev (n : Nat) : Builtin.Slice.sliceAdjust none none (-1) (n : Int) = ((n : Int) - 1, -1) := rfl
theorem places_rev (n : Nat) : Builtin.Slice.slicePlaces ((n : Int) - 1) (-1) (-1) = n := by
  unfold Builtin.Slice.slicePlaces
  rw [if_neg (by decide)]
  by_cases h : ((n : Int) - 1) > -1
  · rw [if_pos h, show (-(-1) : Int) = 1 from rfl, Int.ediv_one]; omega
  · rw [if_neg h]
    have : n = 0 := by omega
    subst this; rfl
theorem sliceApplied_rev {sl : Addr} {u : Tok} {n : Nat} {Q : Int × Int × Nat → Shared → Prop} (h : s.heap.IsSliceOf sl .none .none (.int (-1) u)) (q : Q ((n : Int) - 1, -1, n) s) :
    wpAny (model prog w) A (Builtin.Slice.sliceApplied (.ref sl) (pure (n : Int))) Q E s := by
  obtain ⟨o, h1, h2, h3⟩ := h
  unfold Builtin.Slice.sliceApplied Builtin.Slice.sliceFields
  refine wpAny_bind (wpAny_bind (wpAny_field h1 h3 rfl (wpAny_bind (wpAny_field h1 h3 rfl (wpAny_bind (wpAny_field h1 h3 rfl (wpAny_pure ?_)))))))
  refine wpAny_bind (PyProof.Rows.slicePart_int ?_)
  show wpAny _ _ (if ((-1 : Int) == 0) = true then _ else _) _ _ _
  rw [if_neg (by decide)]
  refine wpAny_bind (PyProof.Rows.slicePart_none (wpAny_bind (PyProof.Rows.slicePart_none (wpAny_bind (wpAny_pure ?_)))))
  show wpAny _ _ (match Builtin.Slice.sliceAdjust none none (-1) (n : Int) with | (lo, hi) => _) _ _ _
  rw [adjust_rev]
  refine wpAny_pure ?_
  show Q ((n : Int) - 1, -1, Builtin.Slice.slicePlaces ((n : Int) - 1) (-1) (-1)) s
  rw [places_rev]
  exact q
theorem picked_rev (xs : Array Value) : List.filterMap (fun k => xs[(((xs.size : Int) - 1) + (k : Nat) * (-1 : Int)).toNat]?) (List.range xs.size) = xs.toList.reverse := by
  apply List.ext_getElem?
  intro i
  have key : ∀ n, n ≤ xs.size → List.filterMap (fun k => xs[(((xs.size : Int) - 1) + (k : Nat) * (-1 : Int)).toNat]?) (List.range n) = (List.range n).map fun k => xs[xs.size - 1 - k]?.getD .none := by
    intro n
    induction n with
    | zero => intro _; rfl
    | succ n ih =>
      intro hn
      have e : (((xs.size : Int) - 1) + (n : Nat) * (-1 : Int)).toNat = xs.size - 1 - n := by omega
      have hl : xs.size - 1 - n < xs.size := by omega
      have e2 : xs[(((xs.size : Int) - 1) + (n : Nat) * (-1 : Int)).toNat]? = some xs[xs.size - 1 - n] := by rw [e]; exact Array.getElem?_eq_getElem hl
      rw [List.range_succ, List.filterMap_append, List.map_append, ih (by omega)]
      simp only [List.filterMap_cons, List.filterMap_nil, e2, List.map_cons, List.map_nil, Array.getElem?_eq_getElem hl, Option.getD_some]
  rw [key _ (Nat.le_refl _)]
  by_cases hi : i < xs.size
  · have hl : xs.size - 1 - i < xs.size := by omega
    have h2 : xs.size - 1 - i < xs.toList.length := by simpa using hl
    rw [List.getElem?_map, List.getElem?_range hi, List.getElem?_reverse (by simpa using hi)]
    simp [hl]
  · rw [List.getElem?_eq_none (by simpa using hi), List.getElem?_eq_none (by simpa using hi)]
theorem getItem_tuple_rev {t sl : Addr} {items : Array Value} {u : Tok} {Q : Value → Shared → Prop} (h : PyProof.Rows.IsTup s.heap t items) (hs : s.heap.IsSliceOf sl .none .none (.int (-1) u)) (hz : items.size ≤ sizeLine)
    (q : Q (.ref s.heap.objs.size) { heap := s.heap.push { cls := .type "tuple", data := Data.seq items.toList.reverse.toArray }, gens := s.gens, drawn := s.drawn, toks := s.toks, os := s.os }) :
    wpAny (model prog w) A (getItem (.ref t) (.ref sl)) Q E s := by
  obtain ⟨o, h1, h2, h3⟩ := hs
  have hs : s.heap.IsSliceOf sl .none .none (.int (-1) u) := ⟨o, h1, h2, h3⟩
  have ty : s.TypeIs (.ref sl) "slice" := ⟨o, h1, h2⟩
  refine PyProof.Rows.getItem_slot h.typeIs rfl PyProof.Rows.slot_tuple_getitem (wpAny_call_entry PyProof.Rows.slot_tuple_getitem h.typeIs PyProof.Rows.entry_tuple_getitem ?_ (PyProof.Rows.args_tuple_getitem _ _))
  unfold Builtin.«tuple.__getitem__»
  refine wpAny_bind ?_
  show wpAny _ _ (pure (_, [_])) _ _ _
  refine wpAny_pure ?_
  refine wpAny_bind (PyProof.Rows.tupleItemsOf_ h (wpAny_bind (wpAny_typeOf ty ?_)))
  rw [if_pos (by decide)]
  refine wpAny_bind (sliceApplied_rev hs ?_)
  show wpAny _ _ (if (_ && _ && _) = true then _ else _) _ _ _
  rw [if_neg (by simp)]
  rw [picked_rev]
  refine wpAny_bind ?_
  refine wpAny_newObj_type ?_ (by show items.toList.reverse.toArray.size ≤ sizeLine; simpa using hz)
  exact wpAny_pure ⟨_, rfl, q⟩
end
def tRevT (K : PySem.W.Frag) (te : TE) (ts : TO) : TE := fun σ H Q => te σ H fun x H1 => ts σ H1 fun o H2 => o = some (-1) ∧ ∃ a xs, x = V.ref a ∧ SqT K H2 a xs ∧ ∀ p, H2 p = none → Q (.ref p) (upd H2 p (.tup xs.reverse))
theorem pe_revT {X : Cx} {e st : Expr} {te : TE} {ts : TO} {p2 pos : Pos} (he : PE X e te) (hs : PO X (some st) ts) (ht : ∀ (o r : Value), letTemporaryGo e o r = pure () := by exact fun _ _ => rfl) : PE X (.Subscript e (.Slice none none (some st) p2) pos) (tRevT X.K te ts) := ⟨fun pins s σ H Q I q => by
  refine wpAny_Subscript_Slice_step (T := "tuple") (id := "tuple.__getitem__") PyProof.Rows.slot_tuple_getitem.lookup ?_ ht
  refine wpAny_mono (he.run pins s σ H _ I q) (fun v s1 ⟨x, H1, I1, rx, q1⟩ => ?_) fun _ _ h => h
  refine wpAny_Slice (wpAny_pure (wpAny_pure ?_))
  refine wpAny_mono (hs.run pins s1 σ H1 _ I1 q1) (fun u s2 ⟨o, H2, I2, ip, e0, a, xs, ex, hsq, q2⟩ => ?_) fun _ _ h => h
  subst e0 ex
  cases rx
  cases ip with
  | int i tk =>
    obtain ⟨its, hv, ht2, hz⟩ := I2.tuple hsq
    have I3 : L2.Inv X pins σ H2 { heap := s2.heap.push { cls := .type "slice", data := Data.fields #[.none, .none, .int (-1) tk] }, gens := s2.gens, drawn := s2.drawn, toks := s2.toks, os := s2.os } := I2.kept fun b u h => Heap.get?_push_of_some _ h
    have ht3 : PyProof.Rows.IsTup (s2.heap.push { cls := .type "slice", data := Data.fields #[.none, .none, .int (-1) tk] }) a its.toArray := by
      obtain ⟨o, h1, h2⟩ := ht2
      exact ⟨o, Heap.get?_push_of_some _ h1, h2⟩
    have hl : its.length ≤ sizeLine := by rw [← hv.length]; exact hz
    refine ⟨ht3.typeIs, getItem_tuple_rev ht3 ⟨_, Heap.get?_push_size _ rfl, rfl, rfl⟩ (by simpa using hl) ?_⟩
    refine ⟨.ref _, _, I3.laid (o := .tup xs.reverse) (fun b u h => Heap.get?_push_of_some _ h) (Nat.le_refl _) ?_, rfl, q2 _ I3.fresh⟩
    exact ⟨by rw [List.length_reverse]; exact hz, its.reverse, hv.reverse, _, Heap.get?_push_size _ rfl, rfl, _, rfl⟩⟩
section
variable {X : Cx} {W : WX} {pos : Pos}
def eRevT (f : DE) (g : DO) : DE := fun δ st => (f δ st).bind fun x st1 => (g δ st1).bind fun o st2 => match x, o with
  | .d (.tuple xs), some (-1) => .ok (.d (.tuple xs.reverse)) st2
  | _, _ => .bad
theorem de_revT {e st : Expr} {p2 : Pos} {f : DE} {g : DO} (he : DEx X W e f) (hs : DOx X W (some st) g) (ht : ∀ (o r : Value), letTemporaryGo e o r = pure () := by exact fun _ _ => rfl) : DEx X W (.Subscript e (.Slice none none (some st) p2) pos) (eRevT f g) :=
  PE.imp (pe_revT he hs ht) fun σ H Q q =>
    tE.bind (γ := Vl) (k := fun δ x st1 => (g δ st1).bind fun o st2 => match x, o with
      | .d (.tuple xs), some (-1) => .ok (.d (.tuple xs.reverse)) st2
      | _, _ => .bad) q fun δ μ1 H1 x st1 v hE hS rx q1 => ⟨δ, μ1, st1, hE, hS, Den.bind q1 fun o st2 o' μ2 H2 _ s2 S2 eo q2 => by
        subst eo
        cases x with
        | r n => exact q2.elim
        | s n => exact q2.elim
        | f n => exact q2.elim
        | d d =>
          cases d with
          | tuple xs =>
            by_cases ho : o = some (-1)
            · subst ho
              have q2 : Den X.K X.mg (RV X.K) (fun c d H => W c d σ H) Q μ2 H2 (.ok (.d (.tuple xs.reverse)) st2) := q2
              have rx : Rp X.K μ1 H1 (.tuple xs) v := rx
              cases rx with
              | tup h r =>
                exact ⟨rfl, _, _, rfl, (h.step s2).sq, fun p hp => (Ans.of_den S2 q2).tup (r.step s2).rev (fun _ z => S2.nin z) hp⟩
            · split at q2
              · rename_i z1 z2; exact absurd rfl ho
              · exact q2.elim
          | _ => exact q2.elim⟩
end
end DL
/-! bools in sums, upper, defs that call themselves -/
namespace DL
open PySem PySem.Spec L2
section
variable {X : Cx} {W : WX} {pos : Pos} {K : PySem.W.Frag} {mg : Str → Option Value}
def b2 (b : Bool) : Int := if b = true then 1 else 0
theorem op_addBI : OpR X (binaryOp .Add) fun x y H Q => ∃ b j, x = V.bl b ∧ y = V.int j ∧ Q (V.int (b2 b + j)) H := fun pins s σ H x y v u Q I rx ry ⟨b, j, ex, ey, q⟩ => by
  subst ex ey
  cases rx
  obtain ⟨t, rfl⟩ := ry
  exact IntBool.add_bool_int ⟨.int _, H, I.tok _, ⟨_, rfl⟩, q⟩
theorem op_subBI : OpR X (binaryOp .Sub) fun x y H Q => ∃ b j, x = V.bl b ∧ y = V.int j ∧ Q (V.int (b2 b - j)) H := fun pins s σ H x y v u Q I rx ry ⟨b, j, ex, ey, q⟩ => by
  subst ex ey
  cases rx
  obtain ⟨t, rfl⟩ := ry
  exact IntBool.sub_bool_int ⟨.int _, H, I.tok _, ⟨_, rfl⟩, q⟩
theorem op_mulIB : OpR X (binaryOp .Mult) fun x y H Q => ∃ i b, x = V.int i ∧ y = V.bl b ∧ Q (V.int (i * b2 b)) H := fun pins s σ H x y v u Q I rx ry ⟨i, b, ex, ey, q⟩ => by
  subst ex ey
  cases ry
  obtain ⟨t, rfl⟩ := rx
  exact IntBool.mul_int_bool ⟨.int _, H, I.tok _, ⟨_, rfl⟩, q⟩
def addB : O2 := fun x y st => match x, y with
  | .d (.bool b), .d (.int j) => .ok (.d (.int (b2 b + j))) st
  | _, _ => pur2T dAdd x y st
def subB : O2 := fun x y st => match x, y with
  | .d (.bool b), .d (.int j) => .ok (.d (.int (b2 b - j))) st
  | _, _ => pur2 dSub x y st
def mulB : O2 := fun x y st => match x, y with
  | .d (.int i), .d (.bool b) => .ok (.d (.int (i * b2 b))) st
  | _, _ => pur2T dMul x y st
theorem od_addB : OpD K mg (fun v w H Q => rAdd4 K v w H Q ∨ ∃ b j, v = V.bl b ∧ w = V.int j ∧ Q (V.int (b2 b + j)) H) addB := by
  intro μ H st x y v w Qx Q S rx ry q
  unfold addB at q
  split at q
  · cases rx; cases ry
    exact .inr ⟨_, _, rfl, rfl, q _ μ H .refl S (.int _)⟩
  · exact .inl (od_add μ H st _ _ v w Qx Q S rx ry q)
theorem od_subB {r : R2} (h : OpD K mg r (pur2 dSub)) : OpD K mg (fun v w H Q => r v w H Q ∨ ∃ b j, v = V.bl b ∧ w = V.int j ∧ Q (V.int (b2 b - j)) H) subB := by
  intro μ H st x y v w Qx Q S rx ry q
  unfold subB at q
  split at q
  · cases rx; cases ry
    exact .inr ⟨_, _, rfl, rfl, q _ μ H .refl S (.int _)⟩
  · exact .inl (h μ H st _ _ v w Qx Q S rx ry q)
theorem od_mulB : OpD K mg (fun v w H Q => rMul3 K v w H Q ∨ ∃ i b, v = V.int i ∧ w = V.bl b ∧ Q (V.int (i * b2 b)) H) mulB := by
  intro μ H st x y v w Qx Q S rx ry q
  unfold mulB at q
  split at q
  · cases rx; cases ry
    exact .inr ⟨_, _, rfl, rfl, q _ μ H .refl S (.int _)⟩
  · exact .inl (od_mul μ H st _ _ v w Qx Q S rx ry q)
theorem op_addB : OpR X (binaryOp .Add) (fun v w H Q => rAdd4 X.K v w H Q ∨ ∃ b j, v = V.bl b ∧ w = V.int j ∧ Q (V.int (b2 b + j)) H) := op_add4.or op_addBI
theorem op_mulB : OpR X (binaryOp .Mult) (fun v w H Q => rMul3 X.K v w H Q ∨ ∃ i b, v = V.int i ∧ w = V.bl b ∧ Q (V.int (i * b2 b)) H) := op_mul3.or op_mulIB
def upK : Vl → Store → Rs Vl := fun x st => match x with
  | .d (.str a) => if decide (a.length ≤ 5592405) = true then .ok (.d (.str (Txt.upper a))) st else .bad
  | _ => .bad
def eUp (f : DE) : DE := fun δ st => (f δ st).bind upK
theorem de_upper {o : Expr} {f : DE} {apos : Pos} (ho : DEx X W o f) (h1 : attributeBase o "upper" X.env (eval o X.env) = eval o X.env := by rfl) (h2 : (apos.endLine == pos.line) = true := by rfl) : DEx X W (.Call (.Attribute o "upper" apos) [] [] pos) (eUp f) :=
  PE.imp (pe_upper ho h1 h2) fun σ H Q q => by
    show tE X.K X.mg W f σ H _
    exact tE.bind (γ := Vl) (k := fun _ => upK) q fun δ μ1 H1 x st1 v hE hS rx q1 => by
      cases x with
      | r n => exact q1.elim
      | s n => exact q1.elim
      | f n => exact q1.elim
      | d d =>
        cases d with
        | str a =>
          have q1 : Den X.K X.mg (RV X.K) (fun c d H => W c d σ H) Q μ1 H1 (if decide (a.length ≤ 5592405) = true then .ok (.d (.str (Txt.upper a))) st1 else .bad) := q1
          by_cases hz : decide (a.length ≤ 5592405) = true
          · rw [if_pos hz] at q1
            cases rx
            exact ⟨⟨a, rfl⟩, a, rfl, rfl, of_decide_eq_true hz, q1 _ μ1 H1 .refl hS (.str _)⟩
          · rw [if_neg hz] at q1; exact q1.elim
        | _ => exact q1.elim
theorem _root_.L2.Room.unit1 {k : Nat} {A : Around} (h : Room k A) : A.units + 1 < cLine := by
  have := h.units
  omega
def sBad : DS := fun _ _ => .bad
theorem dss_bad {l : List Stmt} : DSsx X W l sBad := ⟨fun pins s σ H D I ⟨δ, μ, st, _, _, h⟩ => h.elim⟩
end
end DL
/-! zip of a tuple and a list -/
namespace DL
open PySem PySem.Spec PyProof.Rows L2
def ItzM (K : PySem.W.Frag) (a b : Addr) : It :=
  ⟨fun i H => ∃ xs ys x y, SqT K H a xs ∧ SqL K H b ys ∧ xs[i]? = some x ∧ ys[i]? = some y,
   fun i H v H' => ∃ T x y, v = .ref T ∧ H T = none ∧ H' = upd H T (.tup [x, y]) ∧ (∀ xs, SqT K H a xs → xs[i]? = some x) ∧ ∀ ys, SqL K H b ys → ys[i]? = some y,
   fun i H => ∃ xs ys : List V, SqT K H a xs ∧ SqL K H b ys ∧ i = min xs.length ys.length⟩
theorem turn_zipM {P : Program} {w : World} {K : PySem.W.Frag} {elts : List Expr} {kk : Nat} {tpos : Pos} {a b z TI TO i1 i2 : Addr} (SP : ZipSep2 z TI TO i1 i2 [i1, a] [i2, b]) (hai : a ≠ i1) (hbi : b ≠ i2) :
    Turn P w K (.Tuple elts kk tpos) (ItzM K a b) [z, TI, TO, i1, i2] z (fun i h => IsZip h z TI TO .none ∧ IsTupOf2 h TI (.ref i1) (.ref i2) ∧ (∃ x y, IsTupOf2 h TO x y) ∧ h.IsTupleIter i1 a i ∧ h.IsListIter i2 b i) where
  mem := by simp
  obj := fun i h st c hb => by
    obtain ⟨h1, h2, ⟨x, y, h3⟩, ⟨o, h4, _, h5⟩, ⟨o', h6, _, h7⟩⟩ := st
    have e' : c = z ∨ c = TI ∨ c = TO ∨ c = i1 ∨ c = i2 := by simpa using hb
    rcases e' with e | e | e | e | e
    · rw [e]; exact ⟨_, h1, fun v q => nomatch q⟩
    · rw [e]; exact ⟨_, h2, fun v q => nomatch q⟩
    · rw [e]; exact ⟨_, h3, fun v q => nomatch q⟩
    · rw [e]; exact ⟨o, h4, fun v q => by rw [h5] at q; cases q⟩
    · rw [e]; exact ⟨o', h6, fun v q => by rw [h7] at q; cases q⟩
  keep := fun i h h' st k => let ⟨h1, h2, ⟨x, y, h3⟩, h4, h5⟩ := st; ⟨k z (by simp) _ h1, k TI (by simp) _ h2, ⟨x, y, k TO (by simp) _ h3⟩, h4.at fun o q => k i1 (by simp) o q, h5.at fun o q => k i2 (by simp) o q⟩
  item := by
    intro X hP hw hK hc i pins s σ H E I hf st hg
    subst hP hw hK
    obtain ⟨hz, hTI, ⟨ox, oy, hTO⟩, hit1, hit2⟩ := st
    obtain ⟨xs, ys, x, y, hq1, hq2, hx, hy⟩ := hg
    obtain ⟨its1, rv1, p1, _⟩ := I.tuple hq1
    obtain ⟨its2, rv2, p2, _⟩ := I.list hq2
    obtain ⟨u1, hu1, ru1⟩ := rv1.get hx
    obtain ⟨u2, hu2, ru2⟩ := rv2.get hy
    have pt : s.heap.IsTuple a its1.toArray := p1
    have pl : s.heap.IsList b its2.toArray := p2.isList
    have hi1 : i < its1.toArray.size := by
      have := (List.getElem?_eq_some_iff.mp hu1).1
      simpa using this
    have hi2 : i < its2.toArray.size := by
      have := (List.getElem?_eq_some_iff.mp hu2).1
      simpa using this
    have lt : ∀ c ∈ [z, TI, TO, i1, i2], c < s.heap.objs.size := fun c hb => by
      have e' : c = z ∨ c = TI ∨ c = TO ∨ c = i1 ∨ c = i2 := by simpa using hb
      rcases e' with e | e | e | e | e
      · rw [e]; exact Heap.lt_size hz
      · rw [e]; exact Heap.lt_size hTI
      · rw [e]; exact Heap.lt_size hTO
      · rw [e]; obtain ⟨_, q, _⟩ := hit1; exact Heap.lt_size q
      · rw [e]; obtain ⟨_, q, _⟩ := hit2; exact Heap.lt_size q
    refine wpAny_pyNext_zipD2_item SP (Draws.tuple (A := X.A.in1) (I.ok.hd hc) i1 a hai its1.toArray) (Draws.list (A := X.A.in1) (I.ok.hd hc) i2 b hbi its2.toArray) hz hTI hTO ⟨hit1, pt⟩ ⟨hit2, pl⟩ hi1 hi2 fun x1 x2 h' tk hP1 hP2 hz' hTO' hst1 hst2 hT hsz hk => ?_
    have e1 : x1 = u1 := by
      have : its1.toArray[i]? = some x1 := hP1
      simp only [List.getElem?_toArray] at this
      rw [hu1] at this
      exact (Option.some.inj this).symm
    have e2 : x2 = u2 := by
      have : its2.toArray[i]? = some x2 := hP2
      simp only [List.getElem?_toArray] at this
      rw [hu2] at this
      exact (Option.some.inj this).symm
    subst e1 e2
    obtain ⟨hit1', _⟩ := hst1
    obtain ⟨hit2', _⟩ := hst2
    have hTI' : IsTupOf2 h' TI (.ref i1) (.ref i2) := hk TI _ SP.TIz SP.TITO SP.TIi1 SP.TIi2 hTI
    refine ⟨_, rfl, wpAny_letOwnedTupleGo_zip (s := { s with heap := h', toks := tk }) hz' fun h'' hz'' sb => ?_⟩
    have zl := lt z (by simp)
    have hT2 : IsTupOf2 h'' s.heap.objs.size x1 x2 := (sb.2 _ (Nat.ne_of_gt zl)).trans hT
    have new : ObjOk X.prog X.w (upd H s.heap.objs.size (.tup [x, y])) h'' s.heap.objs.size (.tup [x, y]) :=
      ⟨by show 2 ≤ sizeLine; decide, [x1, x2], .cons ru1 (.cons ru2 .nil), ⟨_, hT2, rfl, _, rfl⟩⟩
    have I1 : Inv X pins σ (upd H s.heap.objs.size (.tup [x, y])) { s with heap := h'', toks := tk } :=
      I.turnedNew (ch := [z, TI, TO, i1, i2]) (fun c ob hb q => by
        have n : c ≠ z ∧ c ≠ TI ∧ c ≠ TO ∧ c ≠ i1 ∧ c ≠ i2 := by simpa using hb
        exact (sb.2 c n.1).trans (hk c ob n.1 n.2.2.1 n.2.2.2.1 n.2.2.2.2 q)) hf (Nat.le_refl _) new
    refine ⟨.ref s.heap.objs.size, _, I1, rfl, ⟨_, x, y, rfl, I.hok.fresh (Nat.le_refl _), rfl, fun zs hz => by rw [I.tuple_inj hz hq1]; exact hx, fun zs hz => by rw [I.list_inj hz hq2]; exact hy⟩,
      ⟨hz'', (sb.2 TI SP.TIz).trans hTI', ⟨x1, x2, (sb.2 TO SP.TOz).trans hTO'⟩, hit1'.at fun o q => (sb.2 i1 fun z1 => SP.zf1 (by simp [z1])).trans q, hit2'.at fun o q => (sb.2 i2 fun z1 => SP.zf2 (by simp [z1])).trans q⟩, fun c hb => ?_⟩
    rw [upd_ne (Nat.ne_of_lt (lt c hb))]
    exact (hf c hb).1
  done := by
    intro X hP hw hK hc i pins s σ H E I hf st hg
    subst hP hw hK
    obtain ⟨hz, hTI, ⟨ox, oy, hTO⟩, hit1, hit2⟩ := st
    obtain ⟨xs, ys, hq1, hq2, hx⟩ := hg
    obtain ⟨its1, rv1, p1, _⟩ := I.tuple hq1
    obtain ⟨its2, rv2, p2, _⟩ := I.list hq2
    have pt : s.heap.IsTuple a its1.toArray := p1
    have pl : s.heap.IsList b its2.toArray := p2.isList
    have l1 := rv1.length
    have l2 := rv2.length
    refine wpAny_pyNext_zipD2_end SP (Draws.tuple (A := X.A.in1) (I.ok.hd hc) i1 a hai its1.toArray) (Draws.list (A := X.A.in1) (I.ok.hd hc) i2 b hbi its2.toArray) hz hTI hTO ⟨hit1, pt⟩ ⟨hit2, pl⟩ (by simp; omega) (by simp; omega) (by simp; omega) fun h' tk hk => ⟨rfl, ?_⟩
    exact I.turnedL (ch := [z, TI, TO, i1, i2]) (fun c o hb q => by
      have n : c ≠ z ∧ c ≠ TI ∧ c ≠ TO ∧ c ≠ i1 ∧ c ≠ i2 := by simpa using hb
      exact hk c o n.1 n.2.2.1 n.2.2.2.1 n.2.2.2.2 q) hf
  self := fun A i s Q E st h => wpAny_pyIter_zip st.1 h
section
variable {prog : Program} {w : World} {A : Around} {E : Value → Shared → Prop} {s : Shared}
theorem call_zipM {l1 l2 : Addr} {xs ys : Array Value} {Q : Value → Shared → Prop} (h1 : s.heap.IsTuple l1 xs) (h2 : s.heap.IsList l2 ys)
    (h : ∀ h', IsZip h' (s.heap.objs.size + 4) (s.heap.objs.size + 2) (s.heap.objs.size + 3) .none → IsTupOf2 h' (s.heap.objs.size + 2) (.ref s.heap.objs.size) (.ref (s.heap.objs.size + 1)) → IsTupOf2 h' (s.heap.objs.size + 3) .none .none →
      h'.IsTupleIter s.heap.objs.size l1 0 → h'.IsListIter (s.heap.objs.size + 1) l2 0 → (∀ c o, s.heap.get? c = some o → h'.get? c = some o) → Q (.ref (s.heap.objs.size + 4)) { s with heap := h' }) :
    wpAny (model prog w) A (call (.type "zip") [.ref l1, .ref l2]) Q E s := by
  refine callType_new F.called_zip (by decide) (F.typeCall_zip_2 _ _) (F.newCall_zip_2 _ _) (fun obj => F.args_object_init_3 obj _ _) F.entry_zip_new
    (meets_zip_newB2 (begins_tuple l1 xs) (begins_list l2 ys)) ⟨⟨h1, h2⟩, ?_⟩
  generalize ho1 : ({ cls := Value.type "tuple_iterator", data := Data.fields #[Value.ref l1, Value.int 0 0] } : Obj) = o1
  generalize ho2 : ({ cls := Value.type "list_iterator", data := Data.fields #[Value.ref l2, Value.int 0 0] } : Obj) = o2
  have f1 : o1.isFreed = false := by subst ho1; rfl
  have f2 : o2.isFreed = false := by subst ho2; rfl
  have z1 : (s.heap.push o1).objs.size = s.heap.objs.size + 1 := Heap.size_push ..
  have z2 : ((s.heap.push o1).push o2).objs.size = s.heap.objs.size + 2 := by rw [Heap.size_push, z1]
  have z3 : (gzT2 s.heap o1 o2).objs.size = s.heap.objs.size + 3 := by unfold gzT2; rw [Heap.size_push, z2]
  have z4 : (gzO2 s.heap o1 o2).objs.size = s.heap.objs.size + 4 := by unfold gzO2; rw [Heap.size_push, z3]
  show _ ∧ _
  rw [z4]
  have k1 : ∀ c o, (s.heap.push o1).get? c = some o → (gzZ2 s.heap o1 o2).get? c = some o := fun c o q => Heap.get?_push_of_some _ (Heap.get?_push_of_some _ (Heap.get?_push_of_some _ (Heap.get?_push_of_some _ q)))
  have hz : IsZip (gzZ2 s.heap o1 o2) (s.heap.objs.size + 4) (s.heap.objs.size + 2) (s.heap.objs.size + 3) .none := by
    have := Heap.get?_push_size (gzO2 s.heap o1 o2) (o := { cls := .type "zip", data := .fields #[.none, .bool false, .bool false, .ref ((s.heap.push o1).push o2).objs.size, .ref (gzT2 s.heap o1 o2).objs.size] }) rfl
    rw [z4, z2, z3] at this
    show (gzZ2 s.heap o1 o2).get? _ = _
    unfold gzZ2
    rw [z2, z3]
    exact this
  have hT : IsTupOf2 (gzZ2 s.heap o1 o2) (s.heap.objs.size + 2) (.ref s.heap.objs.size) (.ref (s.heap.objs.size + 1)) := by
    have := Heap.get?_push_size ((s.heap.push o1).push o2) (o := { cls := .type "tuple", data := .seq #[.ref s.heap.objs.size, .ref (s.heap.push o1).objs.size] }) rfl
    rw [z2, z1] at this
    refine Heap.get?_push_of_some _ (Heap.get?_push_of_some _ ?_)
    unfold gzT2
    rw [z1]
    exact this
  have hO : IsTupOf2 (gzZ2 s.heap o1 o2) (s.heap.objs.size + 3) .none .none := by
    have := Heap.get?_push_size (gzT2 s.heap o1 o2) (o := { cls := .type "tuple", data := .seq #[.none, .none] }) rfl
    rw [z3] at this
    exact Heap.get?_push_of_some _ this
  refine ⟨⟨_, hz, rfl⟩, h _ hz hT hO ⟨o1, k1 _ _ (Heap.get?_push_size _ f1), by subst ho1; rfl, by subst ho1; rfl⟩ ⟨o2, ?_, by subst ho2; rfl, by subst ho2; rfl⟩ fun c o q => k1 c o (Heap.get?_push_of_some _ q)⟩
  have := Heap.get?_push_size (s.heap.push o1) (o := o2) f2
  rw [z1] at this
  exact Heap.get?_push_of_some _ (Heap.get?_push_of_some _ (Heap.get?_push_of_some _ this))
end
theorem sep_nat (n a b : Nat) (ha : a < n) (hb : b < n) : ZipSep2 (n + 4) (n + 2) (n + 3) n (n + 1) [n, a] [n + 1, b] := by
  refine ⟨?_, ?_, ?_, ?_, ?_, ?_, ?_, ?_, ?_, ?_, ?_, ?_, ?_⟩
  all_goals simp only [List.mem_cons, List.not_mem_nil, or_false, ne_eq, not_or, true_or]
  all_goals first | exact trivial | (refine ⟨?_, ?_⟩ <;> intro z <;> have z : @Eq Nat _ _ := z <;> omega) | (intro z; have z : @Eq Nat _ _ := z; omega)
theorem fp_nat (n c : Nat) (h : c ∈ [n + 4, n + 2, n + 3, n, n + 1]) : n ≤ c := by
  have h : c = n + 4 ∨ c = n + 2 ∨ c = n + 3 ∨ c = n ∨ c = n + 1 := by simpa using h
  omega
def iZipM (K : PySem.W.Frag) (ta : TA) : TI := fun σ H R => ta σ H fun vs H1 => ∃ a b xs ys, vs = [.ref a, .ref b] ∧ SqT K H1 a xs ∧ SqL K H1 b ys ∧ R (ItzM K a b) H1
theorem pi_zipM {X : Cx} {e e2 : Expr} {ta : TA} {p pos tpos : Pos} {elts : List Expr} {kk : Nat} (hg : Gl X "zip") (hm : X.mg "zip" = none) (ha : PA X [e, e2] ta)
    (hs : starEach [e, e2] X.env = (false, eval e X.env) :: starEach [e2] X.env := by rfl) (hpl : (backTo pos (starEach [e2] X.env)).any (·.1) = false := by rfl) :
    PI X (.Tuple elts kk tpos) (.Call (.Name "zip" p) [e, e2] [] pos) (iZipM X.K ta) := by
  refine ⟨fun pins s σ H R I h => ?_⟩
  refine Call_ (ld_blt I hg hm boot_zip (PyProof.Rows.callWith_type1 (thn (ha.run pos pins s σ H _ I h) fun us s1 ⟨vs, H1, I1, r1, q1⟩ => ?_) hs hpl))
  obtain ⟨a, b, xs, ys, ex, hq1, hq2, q⟩ := q1
  subst ex
  cases r1 with
  | cons r rr =>
    cases rr with
    | cons r2 rr =>
      cases rr
      cases r
      cases r2
      obtain ⟨its1, rv1, p1, _⟩ := I1.tuple hq1
      obtain ⟨its2, rv2, p2, _⟩ := I1.list hq2
      have pt : s1.heap.IsTuple a its1.toArray := p1
      have pl : s1.heap.IsList b its2.toArray := p2.isList
      have hal : a < s1.heap.objs.size := by obtain ⟨_, q, _⟩ := pt; exact Heap.lt_size q
      have hbl : b < s1.heap.objs.size := by obtain ⟨_, q, _⟩ := pl; exact Heap.lt_size q
      generalize hn : s1.heap.objs.size = n at *
      have SP := sep_nat n a b hal hbl
      refine call_zipM pt pl fun h' hz hT hO hi1 hi2 hk => ?_
      rw [hn] at hz hT hO hi1 hi2 ⊢
      refine wpAny_pyIter_zip hz ?_
      have I2 : Inv X pins σ H1 { s1 with heap := h' } := I1.kept (t' := s1.toks) hk
      refine ⟨n + 4, [n + 4, n + 2, n + 3, n, n + 1], _, _, H1, rfl, I2, turn_zipM (a := a) (b := b) SP (Nat.ne_of_lt hal) (Nat.ne_of_lt (Nat.lt_succ_of_lt hbl)), ⟨hz, hT, ⟨_, _, hO⟩, hi1, hi2⟩, fun c hb => ?_, q⟩
      have hle : n ≤ c := fp_nat n c hb
      rw [← hn] at hle
      exact I1.fpOk hle (I1.hok.fresh hle)
theorem walk_zipM {K : PySem.W.Frag} {a b : Addr} {xs ys : List V} {n : Nat} (hn : n = min xs.length ys.length) : Walk (ItzM K a b) n (fun H => SqT K H a xs ∧ SqL K H b ys) (YPair (fun i => xs[i]?) (fun i => ys[i]?)) := by
  subst hn
  refine ⟨fun i _ hi q => ?_, fun _ q => ⟨xs, ys, q.1, q.2, rfl⟩, fun i H v H' _ q y => ?_⟩
  · have h1 : i < xs.length := by omega
    have h2 : i < ys.length := by omega
    exact ⟨xs, ys, xs[i], ys[i], q.1, q.2, by simp [h1], by simp [h2]⟩
  · obtain ⟨T, x, z, h1, h2, h3, h4, h5⟩ := y
    exact ⟨T, x, z, h1, h2, h3, h4 xs q.1, h5 ys q.2⟩
def zipM : List Vl → Store → Rs (List D) := fun xs st => match xs with
  | [.d (.tuple a), .d (.list b)] => .ok (zipD a b) st
  | _ => .bad
theorem Cz.zipM {U : Wd} {X : Cx} {W : WX} {N : List Str} {sc : Scope} {F : Str → Bool} {k : Nat} {p pos : Pos} (c : Cz U X W N sc F k) {e e2 : Expr} {a : DA} {tpos : Pos} {elts : List Expr} {kk : Nat} (hm : U.mg "zip" = none) (ha : DAx X W [e, e2] a) (g : sc.names.lookup ("zip" : Str) = some .globalImplicit := by rfl)
    (hs : starEach [e, e2] X.env = (false, eval e X.env) :: starEach [e2] X.env := by rfl) (hpl : (backTo pos (starEach [e2] X.env)).any (·.1) = false := by rfl) : DIx X W (.Tuple elts kk tpos) (.Call (.Name "zip" p) [e, e2] [] pos) (iRng DL.zipM a) := PI.imp (pi_zipM (c.gl g) (by rw [c.e4]; exact hm) ha hs hpl) fun σ H R q =>
  tA.bind (γ := List D) (k := fun _ => DL.zipM) q fun δ μ1 H1 xs st1 vs hE hS rx q1 => by
    unfold DL.zipM at q1
    split at q1
    · cases rx with
      | cons h1 h2 =>
        cases h2 with
        | cons h2 h3 =>
          cases h3
          obtain ⟨a1, v1, rfl, l1, r1⟩ := Rp.tup_inv h1
          obtain ⟨a2, v2, rfl, l2, r2⟩ := Rp.lst_inv h2
          exact ⟨a1, a2, v1, v2, rfl, l1.sq, l2.sq, q1 _ μ1 H1 .refl hS (dwalk_pair (walk_zipM (xs := v1) (ys := v2) (n := min v1.length v2.length) rfl) (fun μ' H' s => ⟨(l1.grow s).sq, (l2.grow s).sq⟩) (by rw [r1.length, r2.length]) (fun i x _ e => r1.get2 e) (fun i x _ e => r2.get2 e))⟩
    · exact q1.elim
end DL
set_option maxHeartbeats 2000000
/-! texts -/
namespace DL
open PySem PySem.Spec L2
def strsD : List D → Option (List Str)
  | [] => some []
  | .str x :: r => (strsD r).map (x :: ·)
  | _ :: _ => none
theorem strsD_ok : ∀ {xs : List D} {ns : List Str}, strsD xs = some ns → xs = ns.map PyData.str
  | [], _, e => by cases e; rfl
  | x :: r, ns, e => by
    cases x with
    | str s =>
      unfold strsD at e
      cases q : strsD r with
      | none => rw [q] at e; cases e
      | some l =>
        rw [q] at e
        cases e
        rw [strsD_ok q]; rfl
    | _ => cases e
theorem strsD_map (ns : List Str) : strsD (ns.map PyData.str) = some ns := by
  induction ns with
  | nil => rfl
  | cons n ns ih => show (strsD (ns.map PyData.str)).map (n :: ·) = _; rw [ih]; rfl
/-- a text's method with one argument -/
def strG (k : Str → Vl → Store → Rs Vl) (g : DE) (δ : DEnv) : Vl → Store → Rs Vl := fun x st => match x with
  | .d (.str a) => (g δ st).bind (k a)
  | _ => .bad
def eM1 (k : Str → Vl → Store → Rs Vl) (f g : DE) : DE := fun δ st => (f δ st).bind (strG k g δ)
def splK (a : Str) : Vl → Store → Rs Vl := fun y st => match y with
  | .d (.str b) => if (!(b.length == 0) && decide (a.length + 2 ≤ 16777216)) = true then .ok (.d (.list ((Txt.split a b).map PyData.str))) st else .bad
  | _ => .bad
def eSplit (f g : DE) : DE := eM1 splK f g
def joinD (a : Str) (ys : List D) : Option D := match strsD ys with
  | some ss => if decide ((ss.map (·.length)).sum + ss.length * a.length ≤ 16777216) = true then some (.str (Txt.join a ss)) else none
  | none => none
def joinK (a : Str) : Vl → Store → Rs Vl := fun y st => match y with
  | .d (.list ys) => optR st (joinD a ys)
  | _ => .bad
def eJoin (f g : DE) : DE := eM1 joinK f g
def bStr2 : List D → Option D
  | [.int i] => if decide (i.natAbs < 2 ^ 1900) = true then some (.str (toString i)) else none
  | [.str z] => some (.str z)
  | _ => none
def rStr2 : List V → Hp → VK → Prop := fun xs H Q => (∃ i, xs = [.int i] ∧ i.natAbs.log2 < 1920 ∧ Q (.str (toString i)) H) ∨ (∃ a, xs = [.str a] ∧ Q (.str a) H)
def revLK : Vl → Store → Rs Vl := fun x st => match x with
  | .d (.list xs) => .ok (.d (.list xs.reverse)) st
  | _ => .bad
def eRevL (f : DE) : DE := fun δ st => (f δ st).bind revLK
section
variable {X : Cx} {W : WX} {pos : Pos} {o e : Expr} {f g : DE}
theorem call_str2 : CallR X (.type "str") rStr2 := by
  intro pins s σ H xs us Q I r h
  rcases h with h | h
  · exact call_str_int pins s σ H xs us Q I r h
  · exact SkE.call_str_str pins s σ H xs us Q I r h
theorem cd_str2 {K : PySem.W.Frag} {mg : Str → Option Value} : CallD K mg rStr2 (purL bStr2) := CallD.pur fun μ H xs d vs Q N rx e q => by
  unfold bStr2 at e
  split at e
  · rename_i i
    split at e
    · rename_i h
      cases e
      obtain ⟨v, rfl, rv⟩ := rx.one
      rw [rv.int]
      exact .inl ⟨i, rfl, Nat.lt_trans (log2_of (k := 1900) (by decide) (of_decide_eq_true h)) (by decide), q.here (.str _)⟩
    · cases e
  · rename_i z
    cases e
    obtain ⟨v, rfl, rv⟩ := rx.one
    rw [rv.str]
    exact .inr ⟨z, rfl, q.here (.str _)⟩
  · cases e
theorem de_m1 {name : Str} {r : V → List V → Hp → VK → Prop} {k : Str → Vl → Store → Rs Vl} {c : Expr} (hc : PE X c (tM1 r (tE X.K X.mg W f) (tE X.K X.mg W g)))
    (hk : ∀ (a : Str) (μ : Mu) (H : Hp) (st : Store) (y : Vl) (w : V) (Qx : XK) (Q : VK), RepS X.K μ H st → RV X.K μ H y w → Den X.K X.mg (RV X.K) Qx Q μ H (k a y st) → r (.str a) [w] H Q) : DEx X W c (eM1 k f g) := PE.imp hc fun σ H Q q => by
  show tE X.K X.mg W f σ H _
  exact tE.bind (γ := Vl) (k := fun δ => strG k g δ) q fun δ μ1 H1 x st1 v hE hS rx q1 => by
    cases x with
    | r n => exact q1.elim
    | s n => exact q1.elim
    | f n => exact q1.elim
    | d x =>
      cases x with
      | str a =>
        cases rx
        exact ⟨⟨a, rfl⟩, δ, μ1, st1, hE, hS, Den.bind q1 fun y st2 w μ2 H2 _ s2 S2 ry q2 => hk a μ2 H2 st2 y w _ Q S2 ry q2⟩
      | _ => exact q1.elim
theorem de_split {apos : Pos} (ho : DEx X W o f) (he : DEx X W e g) (hs : starEach [e] X.env = [(false, eval e X.env)] := by rfl) (hb : attributeBase o "split" X.env (eval o X.env) = eval o X.env := by rfl) (hl : (apos.endLine == pos.line) = true := by rfl) :
    DEx X W (.Call (.Attribute o "split" apos) [e] [] pos) (eSplit f g) := de_m1 (name := "split") (pe_split ho he hs hb hl) fun a μ2 H2 st2 y w Qx Q S2 ry q2 => by
  cases y with
  | r n => exact q2.elim
  | s n => exact q2.elim
  | f n => exact q2.elim
  | d y =>
    cases y with
    | str b =>
      cases ry
      have q2 : Den X.K X.mg (RV X.K) Qx Q μ2 H2 (if (!(b.length == 0) && decide (a.length + 2 ≤ 16777216)) = true then .ok (.d (.list ((Txt.split a b).map PyData.str))) st2 else .bad) := q2
      by_cases h : (!(b.length == 0) && decide (a.length + 2 ≤ 16777216)) = true
      · rw [if_pos h] at q2
        simp only [Bool.and_eq_true, Bool.not_eq_true', decide_eq_true_eq] at h
        exact ⟨a, b, rfl, rfl, h.1, by rw [sizeLine_eq]; exact h.2, fun p hp => (Ans.of_den S2 q2).lst (RpL.of_strs _) (fun _ z => S2.nin z) hp⟩
      · rw [if_neg h] at q2; exact q2.elim
    | _ => exact q2.elim
theorem de_join {apos : Pos} (ho : DEx X W o f) (he : DEx X W e g) (hs : starEach [e] X.env = [(false, eval e X.env)] := by rfl) (hb : attributeBase o "join" X.env (eval o X.env) = eval o X.env := by rfl) (hl : (apos.endLine == pos.line) = true := by rfl) :
    DEx X W (.Call (.Attribute o "join" apos) [e] [] pos) (eJoin f g) := de_m1 (name := "join") (pe_join ho he hs hb hl) fun a μ2 H2 st2 y w Qx Q S2 ry q2 => by
  cases y with
  | r n => exact q2.elim
  | s n => exact q2.elim
  | f n => exact q2.elim
  | d y =>
    cases y with
    | list ys =>
      have q2 : Den X.K X.mg (RV X.K) Qx Q μ2 H2 (optR st2 (joinD a ys)) := q2
      unfold joinD at q2
      cases e1 : strsD ys with
      | none => simp only [e1] at q2; exact q2.elim
      | some ss =>
        simp only [e1] at q2
        by_cases h : decide ((ss.map (·.length)).sum + ss.length * a.length ≤ 16777216) = true
        · rw [if_pos h] at q2
          obtain ⟨p, vs, rfl, l, r⟩ := Rp.lst_inv ry
          have ev : vs = ss.map V.str := RpL.strs (by rw [← strsD_ok e1]; exact r)
          subst ev
          exact ⟨a, p, ss, rfl, rfl, .inl l.sq, of_decide_eq_true h, q2 _ μ2 H2 .refl S2 (.str _)⟩
        · rw [if_neg h] at q2; exact q2.elim
    | _ => exact q2.elim
theorem de_revL {k : Nat} {p1 p2 p3 : Pos} (ho : DEx X W o f) : DEx X W (.Subscript o (.Slice none none (some (.UnaryOp .USub (.Constant (.int 1) k p1) p2)) p3) pos) (eRevL f) := PE.imp (pe_revL ho) fun σ H Q q => by
  show tE X.K X.mg W f σ H _
  exact tE.bind (γ := Vl) (k := fun _ => revLK) q fun δ μ1 H1 x st1 v hE hS rx q1 => by
    cases x with
    | r n => exact q1.elim
    | s n => exact q1.elim
    | f n => exact q1.elim
    | d x =>
      cases x with
      | list xs =>
        obtain ⟨p, vs, rfl, l, r⟩ := Rp.lst_inv rx
        exact ⟨p, vs, rfl, l.sq, fun p2 hp => (Ans.of_den hS q1).lst r.rev (fun _ z => hS.nin z) hp⟩
      | _ => exact q1.elim
end
section
variable {U : Wd} {X : Cx} {W : WX} {N : List Str} {sc : Scope} {F : Str → Bool} {k : Nat} {pos : Pos}
theorem Cz.raiseF (c : Cz U X W N sc F (k + 2)) {C fI : Addr} {x fld p qual : Str} {params : Arguments} {body : List Stmt} {scope : Scope} {fd : FuncData} {e : Expr} {f : DE} {p1 p2 : Pos} (T : SupC U.P U.K C fI fld qual params body scope fd)
    (F1 : FnOk U.P U.w U.K U.mg U.base (L2.CX U.P U.w) 1 fI fd ["self", p] (spSI C fld)) (hb : Binds U.K fd ["self", p] []) (hm : U.mg x = some (.ref C)) (he : DEx X W e f) (hg : sc.names.lookup x = some .globalImplicit := by rfl) (hdb : (x == ("__debug__" : Str)) = false := by decide)
    (hs : starEach [e] X.env = (false, eval e X.env) :: starEach [] X.env := by rfl) :
    DSx X W (.Raise (some (.Call (.Name x p1) [e] [] p2)) none pos) (sRaiseF x fld f) := by
  exact ds_raiseF c.calm c.tk (by rw [c.e1, c.e3]; exact T) (by rw [c.e1, c.e2, c.e3, c.e4, c.e5]; exact F1) (c.room.mono (by omega)) (by rw [c.e3]; exact hb) (c.gl hg) (by rw [c.e4]; exact hm) he hdb hs
theorem Cz.tryN (c : Cz U X W N sc F k) (hp : Tp X) {body : List Stmt} {h₀ : ExceptHandler} {hds : List ExceptHandler} {f : DS} {l : List Hnd} (hb : ∀ (Y : Cx) (W' : WX), Tp Y → Cz U Y W' N sc F k → DSsx Y W' body f) (hh : DHs X (h₀ :: hds) l) :
    DSx X W (.Try body (h₀ :: hds) [] [] pos) (sTryN l f) :=
  ds_tryN hp.s hp.f c.tk (fun W' pn xe tk' hp' => hb _ W' ⟨hp', hp.s, hp.f⟩ (c.tr pn xe tk')) hh
theorem Cz.names (c : Cz U X W N sc F k) {x : Str} {cv : Value} (hm : U.mg x = some cv) (hg : sc.names.lookup x = some .globalImplicit := by rfl) (hdb : (x == ("__debug__" : Str)) = false := by decide) : Names X x cv := ⟨c.gl hg, hdb, .inl (by rw [c.e4]; exact hm)⟩
theorem Cz.mok (c : Cz U X W N sc F k) {x : Str} {m : Str → Option Bool} (hm : ∀ (cn : Str) (b : Bool), m cn = some b → U.mg cn = some (.ref (He.ga U.K cn)) ∧ PySem.W.exmOne U.K (.ref (He.ga U.K cn)) (.ref (He.ga U.K x)) = some b) : MOk X m (.ref (He.ga U.K x)) := by
  intro cn b cls h1 h2
  obtain ⟨a1, a2⟩ := hm cn b h1
  rw [c.e4, a1] at h2
  cases h2
  rw [c.e3]
  exact a2
end
end DL
/-! reading the plain functions: rules for simp -/
namespace DL
open PySem
section
variable {α β : Type} {a : α} {e : Ex} {st : Store} {δ : DEnv} {k : α → Store → Rs β} {q : α → Store → Sr}
@[simp] theorem b_ok : (Rs.ok a st).bind k = k a st := id rfl
@[simp] theorem b_exc : (Rs.exc e st : Rs α).bind k = .exc e st := id rfl
@[simp] theorem b_bad : (Rs.bad : Rs α).bind k = .bad := id rfl
@[simp] theorem t_ok : toS (Rs.ok a st) δ q = q a st := id rfl
@[simp] theorem t_exc : toS (Rs.exc e st : Rs α) δ q = .exc e δ st := id rfl
@[simp] theorem t_bad : toS (Rs.bad : Rs α) δ q = .bad := id rfl
end
section
variable {st : Store} {δ : DEnv} {f g h : DE} {x y : Vl} {i j : Int} {c d : DT}
@[simp] theorem x_V {i : Nat} : eV i δ st = (match δ[i]? with | some (some x) => .ok x st | _ => .bad) := id rfl
@[simp] theorem x_C {x : D} : eC x δ st = .ok (.d x) st := id rfl
@[simp] theorem x_O {o : O2} : eO o f g δ st = (f δ st).bind fun x st1 => (g δ st1).bind fun y st2 => o x y st2 := id rfl
@[simp] theorem x_B {o : List Vl → Store → Rs Vl} {a : DA} : eB o a δ st = (a δ st).bind o := id rfl
@[simp] theorem x_aN : aN δ st = .ok [] st := id rfl
@[simp] theorem x_aC {a : DA} : aC f a δ st = (f δ st).bind fun x st1 => (a δ st1).bind fun xs st2 => .ok (x :: xs) st2 := id rfl
@[simp] theorem x_Call {n : Nat} {m : DF} {a : DA} : eCall n m a δ st = (a δ st).bind (lenIs n m) := id rfl
@[simp] theorem x_lenIs {n : Nat} {m : DF} {xs : List Vl} : lenIs n m xs st = if xs.length = n then m xs st else .bad := id rfl
@[simp] theorem x_tup {a : DA} : eTup a δ st = (a δ st).bind (dispK mkTup) := id rfl
@[simp] theorem x_lst {a : DA} : eLst a δ st = (a δ st).bind (dispK mkLst) := id rfl
@[simp] theorem x_mut {a : DA} : eMut a δ st = (a δ st).bind (dispK mkMut) := id rfl
@[simp] theorem x_disp {mk : List D → Store → Rs Vl} {xs : List Vl} : dispK mk xs st = if szOk xs.length = true then (match pures xs with | some ds => mk ds st | none => .bad) else .bad := id rfl
@[simp] theorem x_mkTup {ds : List D} : mkTup ds st = .ok (.d (.tuple ds)) st := id rfl
@[simp] theorem x_mkLst {ds : List D} : mkLst ds st = .ok (.d (.list ds)) st := id rfl
@[simp] theorem x_mkMut {ds : List D} : mkMut ds st = .ok (.r st.length) (st ++ [.lst ds]) := id rfl
@[simp] theorem x_pn : pures [] = some [] := id rfl
@[simp] theorem x_pc {x : D} {r : List Vl} : pures (.d x :: r) = (pures r).map (x :: ·) := id rfl
@[simp] theorem x_if : eIf c f g δ st = (c δ st).bind fun b st1 => if b = true then f δ st1 else g δ st1 := id rfl
@[simp] theorem x_An : eAn f g δ st = (f δ st).bind fun x st1 => (asB x st1).bind fun b st2 => if b = true then g δ st2 else .ok (.d (.bool false)) st2 := id rfl
@[simp] theorem x_Or : eOrr f g δ st = (f δ st).bind fun x st1 => (asB x st1).bind fun b st2 => if b = true then .ok (.d (.bool true)) st2 else g δ st2 := id rfl
@[simp] theorem x_NoT : eNoT f δ st = (f δ st).bind fun x st1 => (truK x st1).bind fun b st2 => .ok (.d (.bool !b)) st2 := id rfl
@[simp] theorem x_Ng : eNg f δ st = (f δ st).bind fun x st1 => (match x with | .d (.int i) => .ok (.d (.int (-i))) st1 | _ => .bad) := id rfl
@[simp] theorem x_asB {b : Bool} : asB (.d (.bool b)) st = .ok b st := id rfl
@[simp] theorem x_tst : tst f δ st = (f δ st).bind asB := id rfl
@[simp] theorem x_tTr : tTr f δ st = (f δ st).bind truK := id rfl
@[simp] theorem x_truB {b : Bool} : truK (.d (.bool b)) st = .ok b st := id rfl
@[simp] theorem x_truI : truK (.d (.int i)) st = .ok (i != 0) st := id rfl
@[simp] theorem x_truT {xs : List D} : truK (.d (.tuple xs)) st = .ok (!xs.isEmpty) st := id rfl
@[simp] theorem x_truL {xs : List D} : truK (.d (.list xs)) st = .ok (!xs.isEmpty) st := id rfl
@[simp] theorem x_tAn : tAn c d δ st = (c δ st).bind fun b st1 => if b = true then d δ st1 else .ok false st1 := id rfl
@[simp] theorem x_tOr : tOrr c d δ st = (c δ st).bind fun b st1 => if b = true then .ok true st1 else d δ st1 := id rfl
@[simp] theorem x_tNo : tNo c δ st = (c δ st).bind fun b st1 => .ok (!b) st1 := id rfl
@[simp] theorem x_Ch {o o' : O2} : eCh o o' f g h δ st = (f δ st).bind fun x st1 => (g δ st1).bind fun y st2 => (o x y st2).bind fun z st3 => (asB z st3).bind fun k st4 => if k = true then (h δ st4).bind fun w st5 => o' y w st5 else .ok (.d (.bool false)) st4 := id rfl
@[simp] theorem x_Sl {l u : DO} : eSl f l u δ st = (f δ st).bind fun x st1 => (l δ st1).bind fun lo st2 => (u δ st2).bind fun hi st3 => slK lo hi x st3 := id rfl
@[simp] theorem x_oN : oN δ st = .ok none st := id rfl
@[simp] theorem x_oS : oS f δ st = (f δ st).bind fun x st1 => (match x with | .d (.int i) => .ok (some i) st1 | _ => .bad) := id rfl
@[simp] theorem x_slT {lo hi : Option Int} {xs : List D} : slK lo hi (.d (.tuple xs)) st = .ok (.d (.tuple (cutD xs lo hi))) st := id rfl
@[simp] theorem x_slL {lo hi : Option Int} {xs : List D} : slK lo hi (.d (.list xs)) st = .ok (.d (.list (cutD xs lo hi))) st := id rfl
@[simp] theorem x_Is {T : String} : eIs T f δ st = (f δ st).bind fun x st1 => (match deref st1 x with | some d => .ok (.d (.bool (isTy T d))) st1 | none => .bad) := id rfl
@[simp] theorem x_Lrg : eLrg f δ st = (f δ st).bind (lrK PyData.list) := id rfl
@[simp] theorem x_Trg : eTrg f δ st = (f δ st).bind (lrK PyData.tuple) := id rfl
@[simp] theorem x_App : eApp f g δ st = (f δ st).bind (appG g δ) := id rfl
@[simp] theorem x_dd {x : D} : deref st (.d x) = some x := id rfl
@[simp] theorem x_ds {ns : List Int} : deref st (.s ns) = some (.list (ns.map PyData.int)) := id rfl
@[simp] theorem x_dr {n : Nat} : deref st (.r n) = (match st[n]? with | some (.lst xs) => some (.list xs) | _ => none) := id rfl
@[simp] theorem x_td {x : D} : derefT st (.d x) = some x := id rfl
@[simp] theorem x_tr {n : Nat} : derefT st (.r n) = deref st (.r n) := id rfl
@[simp] theorem x_p2 {o : D → D → Option D} : pur2 o x y st = optR st ((deref st x).bind fun a => (deref st y).bind fun b => o a b) := id rfl
@[simp] theorem x_p2T {o : D → D → Option D} : pur2T o x y st = optR st ((derefT st x).bind fun a => (derefT st y).bind fun b => o a b) := id rfl
@[simp] theorem x_pL {o : List D → Option D} {xs : List Vl} : purL o xs st = optR st ((derefs st xs).bind o) := id rfl
@[simp] theorem x_Ix {x : D} : dIx x (.int i) = (match x with | .list xs => L2.atI xs i | .tuple xs => L2.atI xs i | _ => none) := by cases x <;> rfl
@[simp] theorem x_dn : derefs st [] = some [] := id rfl
@[simp] theorem x_dc {r : List Vl} : derefs st (x :: r) = (deref st x).bind fun d => (derefs st r).map (d :: ·) := id rfl
@[simp] theorem x_os {d : D} : optR st (some d) = .ok (.d d) st := id rfl
@[simp] theorem x_on : optR st none = .bad := id rfl
@[simp] theorem x_add : dAdd (.int i) (.int j) = some (.int (i + j)) := id rfl
@[simp] theorem x_addL {a b : List D} : dAdd (.list a) (.list b) = if szOk (a.length + b.length) = true then some (.list (a ++ b)) else none := id rfl
@[simp] theorem x_addT {a b : List D} : dAdd (.tuple a) (.tuple b) = if szOk (a.length + b.length) = true then some (.tuple (a ++ b)) else none := id rfl
@[simp] theorem x_I0 {g : Int → Int → D} : dI0 g (.int i) (.int j) = some (g i j) := id rfl
@[simp] theorem x_I {C : Int → Int → Bool} {g : Int → Int → D} : dI C g (.int i) (.int j) = if C i j = true then some (g i j) else none := id rfl
@[simp] theorem x_mul : dMul (.int i) (.int j) = if okMul i j = true then some (.int (i * j)) else none := id rfl
theorem x_ixL {xs : List D} : dIx (.list xs) (.int i) = L2.atI xs i := rfl
theorem x_ixT {xs : List D} : dIx (.tuple xs) (.int i) = L2.atI xs i := rfl
@[simp] theorem x_isN0 : dIsN .none .none = some (.bool true) := id rfl
@[simp] theorem x_isNi : dIsN (.int i) .none = some (.bool false) := id rfl
@[simp] theorem x_isNt {xs : List D} : dIsN (.tuple xs) .none = some (.bool false) := id rfl
@[simp] theorem x_ntN0 : dNotN .none .none = some (.bool false) := id rfl
@[simp] theorem x_ntNi : dNotN (.int i) .none = some (.bool true) := id rfl
@[simp] theorem x_ntNt {xs : List D} : dNotN (.tuple xs) .none = some (.bool true) := id rfl
@[simp] theorem x_isB {x : D} {b : Bool} : dIsK x (.bool b) = some (.bool (isB b x)) := by cases x <;> rfl
@[simp] theorem x_nisB {x : D} {b : Bool} : dNisK x (.bool b) = some (.bool !isB b x) := by cases x <;> rfl
@[simp] theorem x_isBb {b c : Bool} : isB b (.bool c) = decide (c = b) := id rfl
@[simp] theorem x_bLenL {xs : List D} : bLen [.list xs] = some (.int xs.length) := id rfl
@[simp] theorem x_bLenT {xs : List D} : bLen [.tuple xs] = some (.int xs.length) := id rfl
@[simp] theorem x_bAbs : bAbs [.int i] = some (.int (if i < 0 then -i else i)) := id rfl
@[simp] theorem x_bMax : bMax2 [.int i, .int j] = some (.int (if j > i then j else i)) := id rfl
@[simp] theorem x_bMin : bMin2 [.int i, .int j] = some (.int (if j < i then j else i)) := id rfl
@[simp] theorem x_bInt : bInt [.int i] = some (.int i) := id rfl
@[simp] theorem x_bIntB {b : Bool} : bInt [.bool b] = some (.int (if b then 1 else 0)) := id rfl
@[simp] theorem x_bBool {b : Bool} : bBool [.bool b] = some (.bool b) := id rfl
@[simp] theorem x_bTupL {xs : List D} : bTuple [.list xs] = some (.tuple xs) := id rfl
@[simp] theorem x_bTupT {xs : List D} : bTuple [.tuple xs] = some (.tuple xs) := id rfl
@[simp] theorem x_bLstL {xs : List D} : bList [.list xs] = some (.list xs) := id rfl
@[simp] theorem x_bLstT {xs : List D} : bList [.tuple xs] = some (.list xs) := id rfl
@[simp] theorem x_bAll {bs : List Bool} : bAll [.list (bs.map PyData.bool)] = some (.bool (bs.all id)) := by simp [bAll, boolsD_map]
@[simp] theorem x_bAny {bs : List Bool} : bAny [.list (bs.map PyData.bool)] = some (.bool (bs.any id)) := by simp [bAny, boolsD_map]
@[simp] theorem x_bSum {ns : List Int} : bSum [.list (ns.map PyData.int)] = some (.int ns.sum) := by simp [bSum, intsD_map]
@[simp] theorem x_bMaxL {ns : List Int} : bMaxL [.list (ns.map PyData.int)] = (maxI ns).map PyData.int := by simp [bMaxL, intsD_map]
@[simp] theorem x_bMinL {ns : List Int} : bMinL [.list (ns.map PyData.int)] = (minI ns).map PyData.int := by simp [bMinL, intsD_map]
end
section
variable {st : Store} {δ : DEnv} {f g : DS} {e : DE} {c : DT}
@[simp] theorem s_Nil : sNil δ st = .nx δ st := id rfl
@[simp] theorem s_Cons : sCons f g δ st = (match f δ st with | .nx δ1 st1 => g δ1 st1 | r => r) := id rfl
@[simp] theorem s_Bk : sBk δ st = .bk δ st := id rfl
@[simp] theorem s_Ct : sCt δ st = .ct δ st := id rfl
@[simp] theorem s_Set {i : Nat} : sSet i e δ st = toS (e δ st) δ fun x st1 => .nx (δ.set i (some x)) st1 := id rfl
@[simp] theorem s_Par {i j : Nat} {a : DA} : sPar i j a δ st = toS (a δ st) δ fun xs st1 => (match xs with | [x, y] => .nx ((δ.set i (some x)).set j (some y)) st1 | _ => .bad) := id rfl
@[simp] theorem s_Par3 {i j l : Nat} {a : DA} : sPar3 i j l a δ st = toS (a δ st) δ fun xs st1 => (match xs with | [x, y, z] => .nx (((δ.set i (some x)).set j (some y)).set l (some z)) st1 | _ => .bad) := id rfl
@[simp] theorem s_Un {t : GD} : sUn t e δ st = toS (e δ st) δ fun x st1 => (match x with | .d d => (match t d δ with | some δ1 => .nx δ1 st1 | none => .bad) | _ => .bad) := id rfl
@[simp] theorem s_Drop : sDrop e δ st = toS (e δ st) δ fun _ st1 => .nx δ st1 := id rfl
@[simp] theorem s_Ret : sRet e δ st = toS (e δ st) δ fun x st1 => .rt x st1 := id rfl
@[simp] theorem s_RetN : sRetN δ st = .rt (.d .none) st := id rfl
@[simp] theorem s_If : sIf c f g δ st = toS (c δ st) δ fun b st1 => if b = true then f δ st1 else g δ st1 := id rfl
@[simp] theorem s_Raise {x : Str} : sRaise x δ st = .exc ⟨x, []⟩ δ st := id rfl
@[simp] theorem s_For {i : DI} {t : GD} : sFor i t f δ st = toS (i δ st) δ fun xs st1 => forL t f xs δ st1 := id rfl
@[simp] theorem s_Sub {o i f : DE} : sSub o i f δ st = toS (f δ st) δ fun v st1 => toS (o δ st1) δ fun x st2 => toS (i δ st2) δ fun y st3 => (match v, x, y with
  | .d d, .r n, .d (.int k) => (match st3[n]? with
    | some (.lst xs) => (match L2.ixN xs.length k with
      | some j => .nx δ (st3.set n (.lst (xs.set j d)))
      | none => .bad)
    | _ => .bad)
  | _, _, _ => .bad) := id rfl
@[simp] theorem ix20 : L2.ixN 2 0 = some 0 := rfl
@[simp] theorem ix21 : L2.ixN 2 1 = some 1 := rfl
@[simp] theorem x_appG {fe : DE} {n : Nat} : appG fe δ (.r n) st = (match st[n]? with | some (.lst _) => (fe δ st).bind (appK n) | _ => .bad) := id rfl
@[simp] theorem x_appK {n : Nat} {d : D} : appK n (.d d) st = (match st[n]? with
    | some (.lst xs) => if decide (xs.length < 16777216) = true then .ok (.d .none) (st.set n (.lst (xs ++ [d]))) else .bad
    | _ => .bad) := id rfl
@[simp] theorem g_N {i : Nat} {x : D} : gN i x δ = some (δ.set i (some (.d x))) := id rfl
@[simp] theorem g_T {gs : List GD} {xs : List D} : gT gs (.tuple xs) δ = gsL gs xs δ := id rfl
@[simp] theorem g_n : gsL [] [] δ = some δ := id rfl
@[simp] theorem g_c {t : GD} {gs : List GD} {x : D} {xs : List D} : gsL (t :: gs) (x :: xs) δ = (t x δ).bind (gsL gs xs) := id rfl
@[simp] theorem i_Seq : iSeq e δ st = (e δ st).bind asSeq := id rfl
@[simp] theorem i_L {xs : List D} : asSeq (.d (.list xs)) st = .ok xs st := id rfl
@[simp] theorem i_T {xs : List D} : asSeq (.d (.tuple xs)) st = .ok xs st := id rfl
@[simp] theorem i_Rng {o : List Vl → Store → Rs (List D)} {a : DA} : iRng o a δ st = (a δ st).bind o := id rfl
@[simp] theorem i_r1 {j : Int} : rng1 [.d (.int j)] st = if ok62 j = true then .ok (rngD 0 j.toNat) st else .bad := id rfl
@[simp] theorem i_r2 {i j : Int} : rng2 [.d (.int i), .d (.int j)] st = if (ok62 i && ok62 j) = true then .ok (rngD i (j - i).toNat) st else .bad := id rfl
@[simp] theorem i_zL {a b : List D} : zipS [.d (.list a), .d (.list b)] st = .ok (zipD a b) st := id rfl
@[simp] theorem i_zT {a b : List D} : zipS [.d (.tuple a), .d (.tuple b)] st = .ok (zipD a b) st := id rfl
@[simp] theorem i_eL {a : List D} : enumL [.d (.list a)] st = .ok (enumD a) st := id rfl
@[simp] theorem l_n {t : GD} {q : DT} : lcL t q e δ [] st = .ok [] st := id rfl
@[simp] theorem l_Lc {own : List Nat} {i : DI} {t : GD} {q : DT} : eLc own i t q e δ st = (i δ st).bind (lcE own t q e δ) := id rfl
@[simp] theorem l_E {own : List Nat} {t : GD} {q : DT} {xs : List D} : lcE own t q e δ xs st = if szOk xs.length = true then (lcL t q e (dwipe δ own) xs st).bind mkLst else .bad := id rfl
@[simp] theorem l_wn : dwipe δ [] = δ := id rfl
@[simp] theorem l_wc {v : Nat} {vs : List Nat} : dwipe δ (v :: vs) = (dwipe δ vs).set v none := id rfl
@[simp] theorem l_tY : tY δ st = .ok true st := id rfl
@[simp] theorem f_n {t : GD} : forL t f [] δ st = .nx δ st := id rfl
@[simp] theorem th_d {n : Nat} {d : Vl} : thaw n d st = .ok d st := id rfl
@[simp] theorem nt_d {n : Nat} {x : Vl} : noThaw n x st = .ok x st := id rfl
end
theorem okMul_r {i j : Int} (h1 : -18446744073709551616 < j) (h2 : j < 18446744073709551616) : okMul i j = true := by
  have h1 : -(2 ^ 64) < j := h1
  have h2 : j < 2 ^ 64 := h2
  simp only [okMul, h1, h2, decide_true, Bool.and_self, Bool.or_true, Bool.true_or]
theorem okMul_l {i j : Int} (h1 : -18446744073709551616 < i) (h2 : i < 18446744073709551616) : okMul i j = true := by
  have h1 : -(2 ^ 64) < i := h1
  have h2 : i < 2 ^ 64 := h2
  simp only [okMul, h1, h2, decide_true, Bool.and_self, Bool.or_true, Bool.true_or]
theorem okDiv_of {i j : Int} (h1 : 0 < j) (h2 : j < 100000000000000000000000000000000) : okDiv i j = true := by
  have h3 : j < 2 ^ 200 := Int.lt_trans h2 (by decide)
  simp only [okDiv, h1, h3, decide_true, Bool.and_self]
theorem okMod_of {i j : Int} (h1 : 0 < j) : okMod i j = true := by
  simp only [okMod, h1, decide_true]
theorem ok62_of {j : Int} (h1 : -4611686018427387904 ≤ j) (h2 : j < 4611686018427387904) : ok62 j = true := by
  have h1 : -(2 ^ 62) ≤ j := h1
  have h2 : j < 2 ^ 62 := h2
  simp only [ok62, h1, h2, decide_true, Bool.and_self]
theorem szOk_of {n : Nat} (h : n ≤ 16777216) : szOk n = true := decide_eq_true h
section
variable {N : Nat} {b : DS} {xs : List Vl} {st st1 : Store} {th : Nat → Vl → Store → Rs Vl}
theorem dfn_rt {d : D} (h : b (startD N xs) st = .rt (.d d) st1) (hl : st1.length = st.length) : dfn N thaw b xs st = .ok (.d d) st1 := by
  unfold dfn
  rw [h]; rfl
theorem dfn_any {x : Vl} (h : b (startD N xs) st = .rt x st1) : dfn N noThaw b xs st = .ok x st1 := by
  unfold dfn
  rw [h]; rfl
theorem dfn_rv {x : Vl} (h : b (startD N xs) st = .rt x st1) : dfn N thaw b xs st = .ok x st1 := by
  unfold dfn
  rw [h]; rfl
theorem dfn_nx {δ : DEnv} (h : b (startD N xs) st = .nx δ st1) (hl : st1.length = st.length) : dfn N thaw b xs st = .ok (.d .none) st1 := by
  unfold dfn
  rw [h]; rfl
theorem dfn_nv {δ : DEnv} (h : b (startD N xs) st = .nx δ st1) : dfn N thaw b xs st = .ok (.d .none) st1 := by
  unfold dfn
  rw [h]; rfl
theorem dfn_exc {e : Ex} {δ : DEnv} (h : b (startD N xs) st = .exc e δ st1) (hl : st1.length = st.length) : dfn N th b xs st = .exc e st1 := by
  unfold dfn
  rw [h]
theorem dfn_xv {e : Ex} {δ : DEnv} (h : b (startD N xs) st = .exc e δ st1) : dfn N th b xs st = .exc e st1 := by
  unfold dfn
  rw [h]
end
theorem dEq_of {x y : D} (h : x.depth ≤ 60 ∨ y.depth ≤ 60) : dEq x y = some (.bool (PyData.eqv x y)) := by
  unfold dEq
  exact if_pos (decide_eq_true (by omega))
theorem dNe_of {x y : D} (h : x.depth ≤ 60 ∨ y.depth ≤ 60) : dNe x y = some (.bool !PyData.eqv x y) := by
  unfold dNe
  exact if_pos (decide_eq_true (by omega))
mutual
theorem eqv_self : ∀ {x : D}, x.plain = true → PyData.eqv x x = true
  | .none, _ => by simp only [PyData.eqv]
  | .bool b, _ => by simp only [PyData.eqv, beq_self_eq_true]
  | .int b, _ => by simp only [PyData.eqv, beq_self_eq_true]
  | .str b, _ => by simp only [PyData.eqv, beq_self_eq_true]
  | .list xs, h => by simp only [PyData.eqv]; exact eqvAll_self (by simpa only [PyData.plain] using h)
  | .tuple xs, h => by simp only [PyData.eqv]; exact eqvAll_self (by simpa only [PyData.plain] using h)
  | .dict xs, h => by simp only [PyData.plain] at h; cases h
theorem eqvAll_self : ∀ {xs : List D}, PyData.plainAll xs = true → PyData.eqvAll xs xs = true
  | [], _ => by simp only [PyData.eqvAll]
  | x :: xs, h => by
    simp only [PyData.plainAll, Bool.and_eq_true] at h
    simp only [PyData.eqvAll, Bool.and_eq_true]
    exact ⟨eqv_self h.1, eqvAll_self h.2⟩
end
theorem depthAll_le {k : Nat} : ∀ {xs : List D}, (∀ x ∈ xs, x.depth ≤ k) → PyData.depthAll xs ≤ k
  | [], _ => by simp only [PyData.depthAll]; omega
  | x :: xs, h => by
    have h1 := h x List.mem_cons_self
    have h2 := depthAll_le (xs := xs) fun y hy => h y (List.mem_cons_of_mem _ hy)
    simp only [PyData.depthAll]
    omega
theorem plainAll_of : ∀ {xs : List D}, (∀ x ∈ xs, x.plain = true) → PyData.plainAll xs = true
  | [], _ => rfl
  | x :: xs, h => by
    simp only [PyData.plainAll, Bool.and_eq_true]
    exact ⟨h x List.mem_cons_self, plainAll_of fun y hy => h y (List.mem_cons_of_mem _ hy)⟩
theorem dEq_self {x : D} (h : x.depth ≤ 60) (p : x.plain = true) : dEq x x = some (.bool true) := by rw [dEq_of (.inl h), eqv_self p]
theorem dNe_self {x : D} (h : x.depth ≤ 60) (p : x.plain = true) : dNe x x = some (.bool false) := by rw [dNe_of (.inl h), eqv_self p]; rfl
section
variable {st : Store} {a b c : Ob}
theorem ap_0 : (st ++ [a, b])[st.length]? = some a := by simp
theorem ap_1 : (st ++ [a, b])[st.length + 1]? = some b := by simp
theorem ap_s0 : (st ++ [a, b]).set st.length c = st ++ [c, b] := by simp
theorem ap_s1 : (st ++ [a, b]).set (st.length + 1) c = st ++ [a, c] := by simp
end
/-! indices -/
theorem atI_nat {α : Type} {xs : List α} {k : Nat} : L2.atI xs (k : Int) = xs[k]? := by
  unfold L2.atI L2.ixN
  rw [if_pos (Int.natCast_nonneg k)]
  by_cases h : (k : Int) < (xs.length : Int)
  · rw [if_pos h]; rfl
  · rw [if_neg h]
    have : xs.length ≤ k := by omega
    simp [this]
theorem atI_of {α : Type} {xs : List α} {i : Int} (h : 0 ≤ i) : L2.atI xs i = xs[i.toNat]? := by
  obtain ⟨k, rfl⟩ := Int.eq_ofNat_of_zero_le h
  exact atI_nat
@[simp] theorem z_0 : szOk 0 = true := rfl
@[simp] theorem z_1 : szOk 1 = true := rfl
@[simp] theorem z_2 : szOk 2 = true := rfl
@[simp] theorem z_3 : szOk 3 = true := rfl
@[simp] theorem z_4 : szOk 4 = true := rfl
@[simp] theorem z_5 : szOk 5 = true := rfl
@[simp] theorem z_6 : szOk 6 = true := rfl
@[simp] theorem z_7 : szOk 7 = true := rfl
@[simp] theorem z_8 : szOk 8 = true := rfl
@[simp] theorem z_9 : szOk 9 = true := rfl
@[simp] theorem z_10 : szOk 10 = true := rfl
@[simp] theorem z_11 : szOk 11 = true := rfl
@[simp] theorem z_12 : szOk 12 = true := rfl
@[simp] theorem n_0 : ((0 : Nat) : Int) = 0 := rfl
@[simp] theorem n_1 : ((1 : Nat) : Int) = 1 := rfl
@[simp] theorem n_2 : ((2 : Nat) : Int) = 2 := rfl
@[simp] theorem n_3 : ((3 : Nat) : Int) = 3 := rfl
@[simp] theorem n_4 : ((4 : Nat) : Int) = 4 := rfl
@[simp] theorem n_5 : ((5 : Nat) : Int) = 5 := rfl
@[simp] theorem n_6 : ((6 : Nat) : Int) = 6 := rfl
@[simp] theorem n_7 : ((7 : Nat) : Int) = 7 := rfl
@[simp] theorem n_8 : ((8 : Nat) : Int) = 8 := rfl
@[simp] theorem n_9 : ((9 : Nat) : Int) = 9 := rfl
@[simp] theorem n_10 : ((10 : Nat) : Int) = 10 := rfl
@[simp] theorem n_11 : ((11 : Nat) : Int) = 11 := rfl
@[simp] theorem n_12 : ((12 : Nat) : Int) = 12 := rfl
theorem beqS_comm (a b : Str) : (a == b) = (b == a) := by
  by_cases h : a = b
  · subst h; rfl
  · rw [beq_eq_false_iff_ne.mpr h, beq_eq_false_iff_ne.mpr (Ne.symm h)]
@[simp] theorem q_S {a b : Str} : dEq (.str a) (.str b) = some (.bool (a == b)) := by
  simp only [dEq, PyData.depth, PyData.eqv, Nat.min_self, Nat.zero_le, decide_true, if_true]
@[simp] theorem q_SN {a b : Str} : dNe (.str a) (.str b) = some (.bool !(a == b)) := by
  simp only [dNe, PyData.depth, PyData.eqv, Nat.min_self, Nat.zero_le, decide_true, if_true]
@[simp] theorem q_I {a b : Int} : dEq (.int a) (.int b) = some (.bool (a == b)) := by
  simp only [dEq, PyData.depth, PyData.eqv, Nat.min_self, Nat.zero_le, decide_true, if_true]
@[simp] theorem q_IN {a b : Int} : dNe (.int a) (.int b) = some (.bool !(a == b)) := by
  simp only [dNe, PyData.depth, PyData.eqv, Nat.min_self, Nat.zero_le, decide_true, if_true]
@[simp] theorem q_0 : dEq (.tuple []) (.tuple []) = some (.bool true) := rfl
@[simp] theorem q_1 {x : D} {xs : List D} : dEq (.tuple (x :: xs)) (.tuple []) = some (.bool false) := by
  rw [dEq_of (.inr (by simp only [PyData.depth, PyData.depthAll]; omega))]
  simp only [PyData.eqv, PyData.eqvAll]
@[simp] theorem q_in2 {w a b : Str} : dIn (.str w) (.tuple [.str a, .str b]) = some (.bool (w == a || w == b)) := by
  simp only [dIn, inD, PyData.depth, Nat.zero_le, decide_true, if_true, List.any_cons, List.any_nil, PyData.eqv, Bool.or_false, Option.map_some, beqS_comm w]
@[simp] theorem q_in2L {w a b : Str} : dIn (.str w) (.list [.str a, .str b]) = some (.bool (w == a || w == b)) := by
  simp only [dIn, inD, PyData.depth, Nat.zero_le, decide_true, if_true, List.any_cons, List.any_nil, PyData.eqv, Bool.or_false, Option.map_some, beqS_comm w]
section
variable {α : Type} {xs : List α}
@[simp] theorem at_0 : L2.atI xs 0 = xs[0]? := atI_nat (k := 0)
@[simp] theorem at_1 : L2.atI xs 1 = xs[1]? := atI_nat (k := 1)
@[simp] theorem at_2 : L2.atI xs 2 = xs[2]? := atI_nat (k := 2)
@[simp] theorem at_3 : L2.atI xs 3 = xs[3]? := atI_nat (k := 3)
@[simp] theorem at_4 : L2.atI xs 4 = xs[4]? := atI_nat (k := 4)
@[simp] theorem at_5 : L2.atI xs 5 = xs[5]? := atI_nat (k := 5)
@[simp] theorem at_6 : L2.atI xs 6 = xs[6]? := atI_nat (k := 6)
end
theorem whL_s {c : DT} {f : DS} {n : Nat} {δ : DEnv} {st : Store} : whL c f (n + 1) δ st = toS (c δ st) δ fun b st1 => if b = true then (match f δ st1 with
    | .nx δ2 st2 => whL c f n δ2 st2
    | .ct δ2 st2 => whL c f n δ2 st2
    | .bk δ2 st2 => .nx δ2 st2
    | r => r) else .nx δ st1 := rfl
theorem f_c {t : GD} {f : DS} {x : D} {xs : List D} {δ : DEnv} {st : Store} : forL t f (x :: xs) δ st = (match t x δ with
    | none => .bad
    | some δ1 => (match f δ1 st with
      | .nx δ2 st2 => forL t f xs δ2 st2
      | .ct δ2 st2 => forL t f xs δ2 st2
      | .bk δ2 st2 => .nx δ2 st2
      | r => r)) := rfl
theorem l_c {t : GD} {q : DT} {e : DE} {δ : DEnv} {x : D} {xs : List D} {st : Store} : lcL t q e δ (x :: xs) st = (match t x δ with
    | none => .bad
    | some δ1 => (match q δ1 st with
      | .ok true st1 => (match e δ1 st1 with
        | .ok (.d y) st2 => (lcL t q e δ xs st2).bind fun ys st3 => .ok (y :: ys) st3
        | _ => .bad)
      | .ok false st1 => lcL t q e δ xs st1
      | _ => .bad)) := rfl
theorem all_m {α : Type} {xs : List α} {p : α → Bool} : bAll [.list (xs.map fun x => PyData.bool (p x))] = some (.bool (xs.all p)) := by
  have e : (xs.map fun x => PyData.bool (p x)) = (xs.map p).map PyData.bool := by rw [List.map_map]; rfl
  rw [e, x_bAll, List.all_map]; rfl
theorem any_m {α : Type} {xs : List α} {p : α → Bool} : bAny [.list (xs.map fun x => PyData.bool (p x))] = some (.bool (xs.any p)) := by
  have e : (xs.map fun x => PyData.bool (p x)) = (xs.map p).map PyData.bool := by rw [List.map_map]; rfl
  rw [e, x_bAny, List.any_map]; rfl
theorem lc_D {t : GD} {e : DE} {δ : DEnv} {st : Store} {r : D → D} (xs : List D) (h : ∀ x ∈ xs, ∃ δ1, t x δ = some δ1 ∧ e δ1 st = .ok (.d (r x)) st) : lcL t tY e δ xs st = .ok (xs.map r) st := by
  induction xs with
  | nil => rfl
  | cons x xs ih =>
    obtain ⟨δ1, h1, h2⟩ := h x List.mem_cons_self
    have ih := ih fun y hy => h y (List.mem_cons_of_mem _ hy)
    rw [l_c, h1]
    simp only [l_tY, h2, ih, b_ok, List.map_cons]
/-- a comprehension without a test, each element by a function that leaves the store -/
theorem lc_map {t : GD} {e : DE} {δ : DEnv} {st : Store} {α : Type} {g : α → D} {r : α → D} : ∀ (xs : List α), (∀ x ∈ xs, ∃ δ1, t (g x) δ = some δ1 ∧ e δ1 st = .ok (.d (r x)) st) → lcL t tY e δ (xs.map g) st = .ok (xs.map r) st
  | [], _ => rfl
  | x :: xs, h => by
    obtain ⟨δ1, h1, h2⟩ := h x List.mem_cons_self
    have ih := lc_map xs fun y hy => h y (List.mem_cons_of_mem _ hy)
    rw [List.map_cons, l_c, h1]
    simp only [l_tY, h2, ih, b_ok, List.map_cons]
/-- .. with a test -/
theorem lc_filter {t : GD} {q : DT} {e : DE} {δ : DEnv} {st : Store} {α : Type} {g : α → D} {p : α → Bool} {r : α → D} : ∀ (xs : List α), (∀ x ∈ xs, ∃ δ1, t (g x) δ = some δ1 ∧ q δ1 st = .ok (p x) st ∧ (p x = true → e δ1 st = .ok (.d (r x)) st)) → lcL t q e δ (xs.map g) st = .ok ((xs.filter p).map r) st
  | [], _ => rfl
  | x :: xs, h => by
    obtain ⟨δ1, h1, h2, h3⟩ := h x List.mem_cons_self
    have ih := lc_filter xs fun y hy => h y (List.mem_cons_of_mem _ hy)
    rw [List.map_cons, l_c, h1]
    cases hp : p x with
    | false => simp only [h2, hp, ih, List.filter_cons]; simp
    | true => simp only [h2, hp, h3 hp, ih, b_ok, List.filter_cons]; simp
inductive All2 {α β : Type} (P : α → β → Prop) : List α → List β → Prop
  | nil : All2 P [] []
  | cons {x : α} {y : β} {xs : List α} {ys : List β} : P x y → All2 P xs ys → All2 P (x :: xs) (y :: ys)
/-- .. each element drawn: the store goes on -/
theorem lc_draw {t : GD} {e : DE} {δ : DEnv} {α β : Type} {g : α → D} {r : β → D} {P : α → β → Prop} {I : Store → Prop} : ∀ (xs : List α) (st : Store), I st → (∀ x ∈ xs, ∀ st, I st → ∃ δ1 y st1, t (g x) δ = some δ1 ∧ e δ1 st = .ok (.d (r y)) st1 ∧ P x y ∧ I st1) → ∃ ys st1, lcL t tY e δ (xs.map g) st = .ok (ys.map r) st1 ∧ All2 P xs ys ∧ I st1
  | [], st, hI, _ => ⟨[], st, rfl, .nil, hI⟩
  | x :: xs, st, hI, h => by
    obtain ⟨δ1, y, st1, h1, h2, h3, h4⟩ := h x List.mem_cons_self st hI
    obtain ⟨ys, st2, h5, h6, h7⟩ := lc_draw xs st1 h4 fun z hz => h z (List.mem_cons_of_mem _ hz)
    refine ⟨y :: ys, st2, ?_, .cons h3 h6, h7⟩
    rw [List.map_cons, l_c, h1]
    simp only [l_tY, h2, h5, b_ok, List.map_cons]
end DL
/-! the program's own words, in plain Lean -/
namespace DL
open PySem
/-- a tuple of ints -/
def tpI (xs : List Int) : D := .tuple (xs.map PyData.int)
def fromB (v : D) (lo hi : Int) : Bool := match v with
  | .int i => decide (lo ≤ i) && decide (i ≤ hi)
  | _ => false
def goodTownB (v : D) : Bool := match v with
  | .tuple xs => decide (1 ≤ xs.length) && decide (xs.length ≤ 3) && xs.all fun x => fromB x 2 6
  | _ => false
def nthD (xs : List D) (i : Nat) : D := xs.getD i .none
theorem nth_0 {a : D} {r : List D} : nthD (a :: r) 0 = a := rfl
theorem nth_1 {a b : D} {r : List D} : nthD (a :: b :: r) 1 = b := rfl
theorem nth_2 {a b c : D} {r : List D} : nthD (a :: b :: c :: r) 2 = c := rfl
theorem nth_3 {a b c d : D} {r : List D} : nthD (a :: b :: c :: d :: r) 3 = d := rfl
/-- a step over n lines -/
def goodStepB (n : Nat) (v : D) : Bool := match v with
  | .tuple (.str w :: r) =>
    if w == "wait" then r.length == 1 && fromB (nthD r 0) 0 (n - 1)
    else if w == "go" || w == "until" then r.length == 1 && fromB (nthD r 0) 0 20
    else if w == "first" then r.length == 4 && fromB (nthD r 0) 0 (n - 1) && fromB (nthD r 2) 0 (n - 1) && fromB (nthD r 1) 0 20 && fromB (nthD r 3) 0 20
    else w == "try" && r.length == 4 && fromB (nthD r 0) 0 (n - 1) && fromB (nthD r 1) 0 12 && fromB (nthD r 2) 0 20 && fromB (nthD r 3) 0 20
  | _ => false
def goodWayB (n : Nat) (v : D) : Bool := match v with
  | .tuple xs => decide (xs.length ≤ 4) && xs.all fun x => goodStepB n x
  | _ => false
theorem isTy_int (x : D) : (isTy "int" x && !isTy "bool" x) = (match x with | .int _ => true | _ => false) := by cases x <;> rfl
/-- a step -/
inductive Stp where
  | wait (l : Nat)
  | go (m : Int)
  | till (m : Int)
  | first (l : Nat) (r : Int) (l2 : Nat) (w : Int)
  | tri (l : Nat) (p r w : Int)
def Stp.d : Stp → D
  | .wait l => .tuple [.str "wait", .int l]
  | .go m => .tuple [.str "go", .int m]
  | .till m => .tuple [.str "until", .int m]
  | .first l r l2 w => .tuple [.str "first", .int l, .int r, .int l2, .int w]
  | .tri l p r w => .tuple [.str "try", .int l, .int p, .int r, .int w]
def In20 (x : Int) : Prop := 0 ≤ x ∧ x ≤ 20
def Stp.ok (n : Nat) : Stp → Prop
  | .wait l => l < n
  | .go m => In20 m
  | .till m => In20 m
  | .first l r l2 w => l < n ∧ In20 r ∧ l2 < n ∧ In20 w
  | .tri l p r w => l < n ∧ (0 ≤ p ∧ p ≤ 12) ∧ In20 r ∧ In20 w
/-- minutes to the next leaving -/
def untl (t : List Int) (sc : Int) (m : List Int) (l : Nat) (now : Int) : Int := (m.getD l 0 - now) % (t.getD l 0 * sc)
structure Told where
  later : Int
  line : Option Nat
  waited : Int
def lineD : Option Nat → D
  | none => .none
  | some l => .int l
def Told.d (x : Told) : D := .tuple [.int x.later, lineD x.line, .int x.waited]
def doneP (t : List Int) (sc : Int) (m : List Int) (now : Int) : Stp → Told
  | .go k => ⟨now + k * sc, none, 0⟩
  | .till k => if k * sc > now then ⟨k * sc, none, k * sc - now⟩ else ⟨now, none, now - now⟩
  | .wait l => ⟨now + untl t sc m l now, some l, untl t sc m l now⟩
  | .first l r l2 w => if untl t sc m l now ≤ untl t sc m l2 now then ⟨now + untl t sc m l now + r * sc, some l, untl t sc m l now⟩ else ⟨now + untl t sc m l2 now + w * sc, some l2, untl t sc m l2 now⟩
  | .tri l p r w => if untl t sc m l now ≤ p * sc then ⟨now + untl t sc m l now + r * sc, some l, untl t sc m l now⟩ else ⟨now + (p + w) * sc, none, p * sc⟩
def runP (t : List Int) (sc : Int) (m : List Int) : List Stp → Int → List Told
  | [], _ => []
  | s :: r, now => doneP t sc m now s :: runP t sc m r (doneP t sc m now s).later
def endP (t : List Int) (sc : Int) (m : List Int) : List Stp → Int → Int
  | [], now => now
  | s :: r, now => endP t sc m r (doneP t sc m now s).later
def wayD (j : List Stp) : D := .tuple (j.map Stp.d)
theorem tp_at {xs : List Int} {l : Nat} (h : l < xs.length) : L2.atI (xs.map PyData.int) (l : Int) = some (.int (xs.getD l 0)) := by
  rw [atI_nat]
  simp [h]
def TownOk (t : List Int) : Prop := 1 ≤ t.length ∧ t.length ≤ 3 ∧ ∀ x ∈ t, 2 ≤ x ∧ x ≤ 6
theorem TownOk.pos {t : List Int} (h : TownOk t) {l : Nat} (hl : l < t.length) : 2 ≤ t.getD l 0 ∧ t.getD l 0 ≤ 6 := by
  have e : t.getD l 0 = t[l] := by simp [hl]
  rw [e]
  exact h.2.2 _ (List.getElem_mem hl)
theorem TownOk.good {t : List Int} (h : TownOk t) : goodTownB (tpI t) = true := by
  obtain ⟨h1, h2, h3⟩ := h
  show (decide (1 ≤ (t.map PyData.int).length) && decide ((t.map PyData.int).length ≤ 3) && (t.map PyData.int).all fun x => fromB x 2 6) = true
  rw [List.length_map, decide_eq_true h1, decide_eq_true h2, List.all_map]
  simp only [Bool.true_and, List.all_eq_true]
  intro x hx
  obtain ⟨a, b⟩ := h3 x hx
  show (decide (2 ≤ x) && decide (x ≤ 6)) = true
  rw [decide_eq_true a, decide_eq_true b]; rfl
@[simp] theorem w_wait_go : (("wait" : Str) == ("go" : Str)) = false := by decide +kernel
@[simp] theorem w_wait_until : (("wait" : Str) == ("until" : Str)) = false := by decide +kernel
@[simp] theorem w_wait_first : (("wait" : Str) == ("first" : Str)) = false := by decide +kernel
@[simp] theorem w_wait_try : (("wait" : Str) == ("try" : Str)) = false := by decide +kernel
@[simp] theorem w_go_wait : (("go" : Str) == ("wait" : Str)) = false := by decide +kernel
@[simp] theorem w_go_until : (("go" : Str) == ("until" : Str)) = false := by decide +kernel
@[simp] theorem w_go_first : (("go" : Str) == ("first" : Str)) = false := by decide +kernel
@[simp] theorem w_go_try : (("go" : Str) == ("try" : Str)) = false := by decide +kernel
@[simp] theorem w_until_wait : (("until" : Str) == ("wait" : Str)) = false := by decide +kernel
@[simp] theorem w_until_go : (("until" : Str) == ("go" : Str)) = false := by decide +kernel
@[simp] theorem w_until_first : (("until" : Str) == ("first" : Str)) = false := by decide +kernel
@[simp] theorem w_until_try : (("until" : Str) == ("try" : Str)) = false := by decide +kernel
@[simp] theorem w_first_wait : (("first" : Str) == ("wait" : Str)) = false := by decide +kernel
@[simp] theorem w_first_go : (("first" : Str) == ("go" : Str)) = false := by decide +kernel
@[simp] theorem w_first_until : (("first" : Str) == ("until" : Str)) = false := by decide +kernel
@[simp] theorem w_first_try : (("first" : Str) == ("try" : Str)) = false := by decide +kernel
@[simp] theorem w_try_wait : (("try" : Str) == ("wait" : Str)) = false := by decide +kernel
@[simp] theorem w_try_go : (("try" : Str) == ("go" : Str)) = false := by decide +kernel
@[simp] theorem w_try_until : (("try" : Str) == ("until" : Str)) = false := by decide +kernel
@[simp] theorem w_try_first : (("try" : Str) == ("first" : Str)) = false := by decide +kernel
theorem from_in {x lo hi : Int} (h : lo ≤ x ∧ x ≤ hi) : fromB (.int x) lo hi = true := by
  show (decide (lo ≤ x) && decide (x ≤ hi)) = true
  rw [decide_eq_true h.1, decide_eq_true h.2]; rfl
theorem Stp.ok.good {n : Nat} {s : Stp} (h : s.ok n) : goodStepB n s.d = true := by
  cases s with
  | wait l =>
    have h : l < n := h
    have := from_in (x := (l : Int)) (lo := 0) (hi := (n : Int) - 1) (by omega)
    simp only [Stp.d, goodStepB, beq_self_eq_true, if_true, List.length_cons, List.length_nil, nth_0, this, Bool.and_true]
  | go m =>
    have := from_in (x := m) h
    simp only [Stp.d, goodStepB, w_go_wait, beq_self_eq_true, if_true, List.length_cons, List.length_nil, nth_0, this, Bool.and_true, Bool.true_or]
    rfl
  | till m =>
    have := from_in (x := m) h
    simp only [Stp.d, goodStepB, w_until_wait, beq_self_eq_true, if_true, List.length_cons, List.length_nil, nth_0, this, Bool.and_true, Bool.or_true]
    rfl
  | first l r l2 w =>
    obtain ⟨h1, h2, h3, h4⟩ := h
    have q1 := from_in (x := (l : Int)) (lo := 0) (hi := (n : Int) - 1) (by omega)
    have q2 := from_in (x := (l2 : Int)) (lo := 0) (hi := (n : Int) - 1) (by omega)
    have q3 := from_in h2
    have q4 := from_in h4
    simp only [Stp.d, goodStepB, w_first_wait, w_first_go, w_first_until, Bool.or_self, Bool.false_eq_true, if_false, beq_self_eq_true, if_true, List.length_cons, List.length_nil, nth_0, nth_1, nth_2, nth_3, q1, q2, q3, q4, Bool.and_true]
  | tri l p r w =>
    obtain ⟨h1, h2, h3, h4⟩ := h
    have q1 := from_in (x := (l : Int)) (lo := 0) (hi := (n : Int) - 1) (by omega)
    have q2 := from_in h2
    have q3 := from_in h3
    have q4 := from_in h4
    simp only [Stp.d, goodStepB, w_try_wait, w_try_go, w_try_until, w_try_first, Bool.or_self, Bool.false_eq_true, if_false, beq_self_eq_true, if_true, List.length_cons, List.length_nil, nth_0, nth_1, nth_2, nth_3, q1, q2, q3, q4, Bool.and_true]
theorem way_good {n : Nat} {j : List Stp} (hl : j.length ≤ 4) (h : ∀ s ∈ j, s.ok n) : goodWayB n (wayD j) = true := by
  show (decide ((j.map Stp.d).length ≤ 4) && (j.map Stp.d).all fun x => goodStepB n x) = true
  rw [List.length_map, decide_eq_true hl, List.all_map]
  simp only [Bool.true_and, List.all_eq_true]
  intro s hs
  exact (h s hs).good
/-- a standing: parts in lowest terms -/
def frD (p : Nat × Nat) : D := .tuple [.int p.1, .int p.2]
def stD (ps : List (Nat × Nat)) : D := .tuple (ps.map frD)
def lowP (a b : Nat) : Nat × Nat := (a / Nat.gcd a b, b / Nat.gcd a b)
def PartOk (p : Nat × Nat) (most : Int) : Prop := 0 < p.2 ∧ p.1 ≤ 1000000000 ∧ p.2 ≤ 1000000000 ∧ Nat.gcd p.1 p.2 = 1 ∧ (p.1 : Int) < most * p.2
def scalP (ps : List (Nat × Nat)) (s : Nat) : Nat := ps.foldl (fun s p => Nat.lcm s p.2) s
def markP (ps : List (Nat × Nat)) (s : Nat) : List Int := ps.map fun p => (p.1 : Int) * ((s : Int) / (p.2 : Int))
theorem scalP_dvd {S : Nat} : ∀ (ps : List (Nat × Nat)) (s : Nat), s ∣ S → (∀ p ∈ ps, p.2 ∣ S) → scalP ps s ∣ S
  | [], s, h, _ => h
  | p :: ps, s, h, hp => scalP_dvd ps (Nat.lcm s p.2) (Nat.lcm_dvd h (hp p List.mem_cons_self)) fun q hq => hp q (List.mem_cons_of_mem _ hq)
theorem dvd_scalP : ∀ (ps : List (Nat × Nat)) (s : Nat), s ∣ scalP ps s ∧ ∀ p ∈ ps, p.2 ∣ scalP ps s
  | [], s => ⟨Nat.dvd_refl s, fun _ h => nomatch h⟩
  | p :: ps, s => by
    obtain ⟨h1, h2⟩ := dvd_scalP ps (Nat.lcm s p.2)
    refine ⟨Nat.dvd_trans (Nat.dvd_lcm_left _ _) h1, fun q hq => ?_⟩
    rcases List.mem_cons.mp hq with e | e
    · rw [e]; exact Nat.dvd_trans (Nat.dvd_lcm_right _ _) h1
    · exact h2 q e
theorem All2.len {α β : Type} {P : α → β → Prop} : ∀ {xs : List α} {ys : List β}, All2 P xs ys → xs.length = ys.length
  | _, _, .nil => rfl
  | _, _, .cons _ r => by rw [List.length_cons, List.length_cons, r.len]
theorem All2.all {α β : Type} {P : α → β → Prop} {Q : β → Prop} (h : ∀ x y, P x y → Q y) : ∀ {xs : List α} {ys : List β}, All2 P xs ys → ∀ y ∈ ys, Q y
  | _, _, .nil, _, hy => nomatch hy
  | _, _, .cons p r, y, hy => by
    rcases List.mem_cons.mp hy with e | e
    · rw [e]; exact h _ _ p
    · exact r.all h y e
theorem rngD_map (n : Nat) : rngD 0 n = (List.range n).map fun (i : Nat) => PyData.int (0 + (i : Int)) := rfl
theorem rngD_len (a : Int) (n : Nat) : (rngD a n).length = n := by simp [rngD]
/-- a drawn town -/
def TownDr (t : List Int) : Prop := TownOk t ∧ (t.length = 3 → ∀ x ∈ t, x ≤ 4)
/-- the waits of a drawn try are at most 5, its rides and walks at most 8 -/
def Stp.small : Stp → Prop
  | .wait _ => True
  | .go m => m ≤ 20
  | .till m => m ≤ 20
  | .first _ r _ w => r ≤ 8 ∧ w ≤ 7
  | .tri _ p r w => p ≤ 5 ∧ r ≤ 8 ∧ w ≤ 7
/-! the same at a scale q times as fine -/
def Told.mul (q : Int) (x : Told) : Told := ⟨q * x.later, x.line, q * x.waited⟩
theorem untl_mul (t m : List Int) (sc now q : Int) (l : Nat) (hq : 0 < q) : untl t (q * sc) (m.map (q * ·)) l (q * now) = q * untl t sc m l now := by
  unfold untl
  have e : (m.map (q * ·)).getD l 0 = q * m.getD l 0 := by
    by_cases h : l < m.length
    · simp [h]
    · simp [h]
  rw [e, ← Int.mul_sub, show t.getD l 0 * (q * sc) = q * (t.getD l 0 * sc) from by rw [Int.mul_left_comm], Int.mul_emod_mul_of_pos _ _ hq]
theorem untl_nonneg (t m : List Int) (sc now : Int) (l : Nat) (ht : TownOk t) (hl : l < t.length) (hs : 0 < sc) : 0 ≤ untl t sc m l now := by
  have := ht.pos hl
  have h : 0 < t.getD l 0 * sc := Int.mul_pos (by omega) hs
  exact Int.emod_nonneg _ (by omega)
theorem doneP_mul (t m : List Int) (sc now q : Int) (s : Stp) (hq : 0 < q) : doneP t (q * sc) (m.map (q * ·)) (q * now) s = (doneP t sc m now s).mul q := by
  have le : ∀ a b : Int, (q * a ≤ q * b) = (a ≤ b) := fun a b => propext (Int.mul_le_mul_left hq)
  have lt : ∀ a b : Int, (q * a < q * b) = (a < b) := fun a b => propext (Int.mul_lt_mul_left hq)
  cases s with
  | wait l =>
    simp only [doneP, Told.mul, untl_mul _ _ _ _ _ _ hq, Int.mul_add]
  | go k =>
    simp only [doneP, Told.mul, Int.mul_add, Int.mul_zero, Int.mul_left_comm]
  | till k =>
    simp only [doneP, Told.mul, Int.mul_left_comm k q, gt_iff_lt, lt]
    by_cases h : now < k * sc
    · simp only [if_pos h, Int.mul_sub]
    · simp only [if_neg h, Int.mul_sub]
  | first l r l2 w =>
    simp only [doneP, untl_mul _ _ _ _ _ _ hq, le]
    by_cases h : untl t sc m l now ≤ untl t sc m l2 now
    · simp only [if_pos h, Told.mul, Int.mul_add, Int.mul_left_comm r q]
    · simp only [if_neg h, Told.mul, Int.mul_add, Int.mul_left_comm w q]
  | tri l p r w =>
    simp only [doneP, untl_mul _ _ _ _ _ _ hq, Int.mul_left_comm p q, le]
    by_cases h : untl t sc m l now ≤ p * sc
    · simp only [if_pos h, Told.mul, Int.mul_add, Int.mul_left_comm r q]
    · simp only [if_neg h, Told.mul, Int.mul_add, Int.mul_left_comm (p + w) q]
theorem doneP_ge (t m : List Int) (sc now : Int) (s : Stp) (ht : TownOk t) (hk : s.ok t.length) (hs : 0 < sc) : now ≤ (doneP t sc m now s).later := by
  have mp : ∀ k : Int, 0 ≤ k → 0 ≤ k * sc := fun k hk => Int.mul_nonneg hk (by omega)
  cases s with
  | wait l =>
    have := untl_nonneg t m sc now l ht hk hs
    show now ≤ now + _
    omega
  | go k =>
    have := mp k hk.1
    show now ≤ now + _
    omega
  | till k =>
    simp only [doneP]
    by_cases h : k * sc > now
    · simp only [if_pos h]; omega
    · simp only [if_neg h]; omega
  | first l r l2 w =>
    have h1 := untl_nonneg t m sc now l ht hk.1 hs
    have h2 := untl_nonneg t m sc now l2 ht hk.2.2.1 hs
    have h3 := mp r hk.2.1.1
    have h4 := mp w hk.2.2.2.1
    simp only [doneP]
    by_cases h : untl t sc m l now ≤ untl t sc m l2 now
    · simp only [if_pos h]; omega
    · simp only [if_neg h]; omega
  | tri l p r w =>
    have h1 := untl_nonneg t m sc now l ht hk.1 hs
    have h3 := mp r hk.2.2.1.1
    have h4 := mp (p + w) (by have := hk.2.1.1; have := hk.2.2.2.1; omega)
    simp only [doneP]
    by_cases h : untl t sc m l now ≤ p * sc
    · simp only [if_pos h]; omega
    · simp only [if_neg h]; omega
theorem runP_mul (t m : List Int) (sc q : Int) (hq : 0 < q) : ∀ (j : List Stp) (now : Int), runP t (q * sc) (m.map (q * ·)) j (q * now) = (runP t sc m j now).map (Told.mul q)
  | [], _ => rfl
  | s :: j, now => by
    have e := doneP_mul t m sc now q s hq
    show doneP t (q * sc) (m.map (q * ·)) (q * now) s :: runP t (q * sc) (m.map (q * ·)) j (doneP t (q * sc) (m.map (q * ·)) (q * now) s).later = _
    rw [e]
    show _ :: runP t (q * sc) (m.map (q * ·)) j (q * (doneP t sc m now s).later) = _
    rw [runP_mul t m sc q hq j]
    rfl
theorem endP_mul (t m : List Int) (sc q : Int) (hq : 0 < q) : ∀ (j : List Stp) (now : Int), endP t (q * sc) (m.map (q * ·)) j (q * now) = q * endP t sc m j now
  | [], _ => rfl
  | s :: j, now => by
    have e := doneP_mul t m sc now q s hq
    show endP t (q * sc) (m.map (q * ·)) j (doneP t (q * sc) (m.map (q * ·)) (q * now) s).later = q * endP t sc m j (doneP t sc m now s).later
    rw [e]
    exact endP_mul t m sc q hq j _
theorem endP_ge (t m : List Int) (sc : Int) (ht : TownOk t) (hs : 0 < sc) : ∀ (j : List Stp) (now : Int), (∀ s ∈ j, s.ok t.length) → now ≤ endP t sc m j now
  | [], _, _ => Int.le_refl _
  | s :: j, now, h => Int.le_trans (doneP_ge t m sc now s ht (h s List.mem_cons_self) hs) (endP_ge t m sc ht hs j _ fun x hx => h x (List.mem_cons_of_mem _ hx))
theorem runP_ge (t m : List Int) (sc : Int) (ht : TownOk t) (hs : 0 < sc) : ∀ (j : List Stp) (now : Int), (∀ s ∈ j, s.ok t.length) → ∀ x ∈ runP t sc m j now, now ≤ x.later
  | [], _, _, _, h => nomatch h
  | s :: j, now, h, x, hx => by
    have h1 := doneP_ge t m sc now s ht (h s List.mem_cons_self) hs
    rcases List.mem_cons.mp hx with e | e
    · rw [e]; exact h1
    · exact Int.le_trans h1 (runP_ge t m sc ht hs j _ (fun x hx => h x (List.mem_cons_of_mem _ hx)) x e)
theorem lowP_mul (q a b : Nat) (hq : 0 < q) : lowP (q * a) (q * b) = lowP a b := by
  unfold lowP
  rw [Nat.gcd_mul_left, Nat.mul_div_mul_left _ _ hq, Nat.mul_div_mul_left _ _ hq]
/-- a told standing in lowest terms, read at its own scale: q times that is the standing told -/
theorem told_scale {s : Nat} (hs : 0 < s) (mk : List Nat) : ∃ q : Nat, 0 < q ∧ s = q * scalP (mk.map (lowP · s)) 1 ∧ mk.map (fun x : Nat => (x : Int)) = (markP (mk.map (lowP · s)) (scalP (mk.map (lowP · s)) 1)).map ((q : Int) * ·) := by
  have hdv : ∀ p ∈ mk.map (lowP · s), p.2 ∣ s := fun p hp => by
    obtain ⟨x, _, rfl⟩ := List.mem_map.mp hp
    exact Nat.div_dvd_of_dvd (Nat.gcd_dvd_right x s)
  obtain ⟨q, hq⟩ := scalP_dvd (mk.map (lowP · s)) 1 (Nat.one_dvd s) hdv
  rw [Nat.mul_comm] at hq
  have q0 : 0 < q := Nat.pos_of_ne_zero fun z => by rw [z, Nat.zero_mul] at hq; omega
  refine ⟨q, q0, hq, ?_⟩
  unfold markP
  rw [List.map_map, List.map_map]
  refine List.map_congr_left fun x hx => ?_
  show (x : Int) = q * ((lowP x s).1 * ((scalP (mk.map (lowP · s)) 1 : Nat) / ((lowP x s).2 : Int)))
  obtain ⟨c, hc⟩ := (dvd_scalP (mk.map (lowP · s)) 1).2 (lowP x s) (List.mem_map.mpr ⟨x, hx, rfl⟩)
  rw [hc] at hq ⊢
  have g0 : 0 < Nat.gcd x s := Nat.gcd_pos_of_pos_right x hs
  have e2 : (lowP x s).2 * Nat.gcd x s = s := Nat.div_mul_cancel (Nat.gcd_dvd_right x s)
  have e1 : (lowP x s).1 * Nat.gcd x s = x := Nat.div_mul_cancel (Nat.gcd_dvd_left x s)
  have b0 : 0 < (lowP x s).2 := Nat.pos_of_ne_zero fun z => by rw [z, Nat.zero_mul] at e2; omega
  have hg : Nat.gcd x s = q * c := by
    exact Nat.eq_of_mul_eq_mul_left b0 (e2.trans (hq.trans (Nat.mul_left_comm _ _ _)))
  rw [← Int.natCast_ediv, Nat.mul_div_cancel_left c b0, ← Int.natCast_mul, ← Int.natCast_mul, Nat.mul_left_comm, ← hg, e1]
theorem part_ok {x s : Nat} {e : Int} (hs : 0 < s) (h1 : x ≤ 1000000000) (h2 : s ≤ 1000000000) (h3 : (x : Int) < e * s) : PartOk (lowP x s) e := by
  have g0 : 0 < Nat.gcd x s := Nat.gcd_pos_of_pos_right x hs
  have e2 : (lowP x s).2 * Nat.gcd x s = s := Nat.div_mul_cancel (Nat.gcd_dvd_right x s)
  have e1 : (lowP x s).1 * Nat.gcd x s = x := Nat.div_mul_cancel (Nat.gcd_dvd_left x s)
  refine ⟨Nat.pos_of_ne_zero fun z => by rw [z, Nat.zero_mul] at e2; omega, Nat.le_trans (Nat.div_le_self _ _) h1, Nat.le_trans (Nat.div_le_self _ _) h2, Nat.gcd_div_gcd_div_gcd_of_pos_right hs, ?_⟩
  have g1 : (0 : Int) < (Nat.gcd x s : Nat) := by omega
  refine Int.lt_of_mul_lt_mul_right (a := (Nat.gcd x s : Nat)) ?_ (by omega)
  rw [Int.mul_assoc, ← Int.natCast_mul, ← Int.natCast_mul, e1, e2]
  exact h3
theorem untl_lt (t m : List Int) (sc now : Int) (l : Nat) (ht : TownOk t) (hl : l < t.length) (hs : 0 < sc) : untl t sc m l now < 6 * sc := by
  have := ht.pos hl
  have h : 0 < t.getD l 0 * sc := Int.mul_pos (by omega) hs
  have h2 : t.getD l 0 * sc ≤ 6 * sc := Int.mul_le_mul_of_nonneg_right (by omega) (by omega)
  have h3 : untl t sc m l now < t.getD l 0 * sc := Int.emod_lt_of_pos _ h
  omega
theorem doneP_le (t m : List Int) (sc now : Int) (s : Stp) (ht : TownOk t) (hk : s.ok t.length) (hs : 0 < sc) (h0 : 0 ≤ now) : (doneP t sc m now s).later ≤ now + 40 * sc := by
  have mp : ∀ k : Int, k ≤ 20 → k * sc ≤ 20 * sc := fun k hk => Int.mul_le_mul_of_nonneg_right hk (by omega)
  cases s with
  | wait l =>
    have := untl_lt t m sc now l ht hk hs
    show now + _ ≤ _
    omega
  | go k =>
    have := mp k hk.2
    show now + _ ≤ _
    omega
  | till k =>
    have := mp k hk.2
    simp only [doneP]
    by_cases h : k * sc > now
    · simp only [if_pos h]; omega
    · simp only [if_neg h]; omega
  | first l r l2 w =>
    have h1 := untl_lt t m sc now l ht hk.1 hs
    have h2 := untl_lt t m sc now l2 ht hk.2.2.1 hs
    have h3 := mp r hk.2.1.2
    have h4 := mp w hk.2.2.2.2
    simp only [doneP]
    by_cases h : untl t sc m l now ≤ untl t sc m l2 now
    · simp only [if_pos h]; omega
    · simp only [if_neg h]; omega
  | tri l p r w =>
    have h1 := untl_lt t m sc now l ht hk.1 hs
    have h3 := mp r hk.2.2.1.2
    have h4 := mp p (by have := hk.2.1.2; omega)
    have h5 := mp w hk.2.2.2.2
    simp only [doneP]
    by_cases h : untl t sc m l now ≤ p * sc
    · simp only [if_pos h]; omega
    · simp only [if_neg h, Int.add_mul]; omega
theorem runP_length (t m : List Int) (sc : Int) : ∀ (j : List Stp) (now : Int), (runP t sc m j now).length = j.length
  | [], _ => rfl
  | s :: j, now => by
    show (runP t sc m j _).length + 1 = j.length + 1
    rw [runP_length t m sc j]
theorem frD_plain (p : Nat × Nat) : (frD p).plain = true := rfl
theorem frD_depth (p : Nat × Nat) : (frD p).depth = 1 := by simp [frD, PyData.depth, PyData.depthAll]
theorem lineD_plain (x : Option Nat) : (lineD x).plain = true := by cases x <;> rfl
theorem lineD_depth (x : Option Nat) : (lineD x).depth = 0 := by cases x <;> simp [lineD, PyData.depth]
theorem All2.get {P : Int → Nat → Prop} : ∀ {xs : List Int} {ys : List Nat}, All2 P xs ys → ∀ l, l < xs.length → P (xs.getD l 0) (ys.getD l 0)
  | _, _, .nil, l, h => by simp at h
  | _, _, .cons p r, 0, _ => p
  | _, _, .cons p r, l + 1, h => by
    have := r.get l (by simpa using h)
    simpa using this
theorem All2.zip {P : Int → Nat → Prop} : ∀ {xs : List Int} {ys : List Nat}, All2 P xs ys → ∀ {x : Nat} {b : Int}, (x, b) ∈ ys.zip xs → P b x
  | _, _, .nil, _, _, h => by simp at h
  | _, _, .cons p r, x, b, h => by
    rw [List.zip_cons_cons, List.mem_cons] at h
    rcases h with h | h
    · cases h; exact p
    · exact r.zip h
theorem zip_map_mem {f : Nat → Nat × Nat} : ∀ {mk : List Nat} {t : List Int} {a : Nat × Nat} {b : Int}, (a, b) ∈ (mk.map f).zip t → ∃ x, (x, b) ∈ mk.zip t ∧ a = f x
  | [], _, _, _, h => by simp at h
  | _ :: _, [], _, _, h => by simp at h
  | x :: mk, y :: t, a, b, h => by
    rw [List.map_cons, List.zip_cons_cons, List.mem_cons] at h
    rcases h with h | h
    · cases h; exact ⟨x, List.mem_cons_self, rfl⟩
    · obtain ⟨z, hz, e⟩ := zip_map_mem h
      exact ⟨z, List.mem_cons_of_mem _ hz, e⟩
/-! facts -/
inductive Fct where
  | at_ (l : Nat) (v : Int)
  | just (a b : Nat) (d : Int)
  | upto (a b : Nat) (d : Int)
def Fct.d : Fct → D
  | .at_ l v => .tuple [.str "at", .int l, .int v]
  | .just a b d => .tuple [.str "just", .int a, .int b, .int d]
  | .upto a b d => .tuple [.str "upto", .int a, .int b, .int d]
def Fct.ok (n : Nat) : Fct → Prop
  | .at_ l v => l < n ∧ 0 ≤ v ∧ v ≤ 59
  | .just a b d => a < n ∧ b < n ∧ a ≠ b ∧ 0 ≤ d ∧ d ≤ 11
  | .upto a b d => a < n ∧ b < n ∧ a ≠ b ∧ 0 ≤ d ∧ d ≤ 11
def facD (fs : List Fct) : D := .tuple (fs.map Fct.d)
def gapP (t : List Int) (a b : Nat) : Int := (Nat.gcd (t.getD a 0).toNat (t.getD b 0).toNat : Nat)
def soP (t : List Int) (sc : Int) (m : List Int) : Fct → Bool
  | .at_ l v => m.getD l 0 / sc == v % t.getD l 0
  | .just a b d => (m.getD b 0 - m.getD a 0) % (gapP t a b * sc) == (d * sc) % (gapP t a b * sc)
  | .upto a b d => decide ((m.getD b 0 - m.getD a 0) % (gapP t a b * sc) ≤ d * sc)
def allSo (t : List Int) (fs : List Fct) (sc : Int) (m : List Int) : Bool := fs.all fun f => soP t sc m f
def longP (rows : List (List Int)) (n : Nat) : List (List Int) := rows.flatMap fun r => (List.range n).map fun (i : Nat) => r ++ [(i : Int)]
def marksP (t : List Int) (sc : Int) (rows : List (List Int)) : List (List Int) := t.foldl (fun rows e => longP rows (e * sc).toNat) rows
def casesP (t : List Int) (fs : List Fct) : List (List Int) := (marksP t (t.length + 1) [[]]).filter (allSo t fs (t.length + 1))
def goodFactB (n : Nat) (v : D) : Bool := match v with
  | .tuple (.str w :: r) =>
    if w == "at" then r.length == 2 && fromB (nthD r 0) 0 (n - 1) && fromB (nthD r 1) 0 59
    else (w == "just" || w == "upto") && r.length == 3 && fromB (nthD r 0) 0 (n - 1) && fromB (nthD r 1) 0 (n - 1) && !PyData.eqv (nthD r 0) (nthD r 1) && fromB (nthD r 2) 0 11
  | _ => false
def goodFactsB (n : Nat) (v : D) : Bool := match v with
  | .tuple xs => decide (xs.length ≤ 4) && xs.all fun x => goodFactB n x
  | _ => false
@[simp] theorem w_at_just : (("at" : Str) == ("just" : Str)) = false := by decide +kernel
@[simp] theorem w_at_upto : (("at" : Str) == ("upto" : Str)) = false := by decide +kernel
@[simp] theorem w_just_at : (("just" : Str) == ("at" : Str)) = false := by decide +kernel
@[simp] theorem w_just_upto : (("just" : Str) == ("upto" : Str)) = false := by decide +kernel
@[simp] theorem w_upto_at : (("upto" : Str) == ("at" : Str)) = false := by decide +kernel
@[simp] theorem w_upto_just : (("upto" : Str) == ("just" : Str)) = false := by decide +kernel
theorem Fct.ok.good {n : Nat} {f : Fct} (h : f.ok n) : goodFactB n f.d = true := by
  have q : ∀ l : Nat, l < n → fromB (.int (l : Int)) 0 ((n : Int) - 1) = true := fun l hl => from_in (by omega)
  cases f with
  | at_ l v =>
    have := from_in (x := v) h.2
    simp only [Fct.d, goodFactB, beq_self_eq_true, if_true, List.length_cons, List.length_nil, nth_0, nth_1, q l h.1, this, Bool.and_true]
  | just a b d =>
    have h1 := from_in (x := d) h.2.2.2
    have ne : PyData.eqv (.int (a : Int)) (.int (b : Int)) = false := by
      simp only [PyData.eqv]
      exact beq_eq_false_iff_ne.mpr fun z => h.2.2.1 (by omega)
    simp only [Fct.d, goodFactB, w_just_at, beq_self_eq_true, if_true, List.length_cons, List.length_nil, nth_0, nth_1, nth_2, q a h.1, q b h.2.1, h1, ne, Bool.and_true, Bool.true_or, Bool.false_eq_true, if_false, Bool.not_false]
  | upto a b d =>
    have h1 := from_in (x := d) h.2.2.2
    have ne : PyData.eqv (.int (a : Int)) (.int (b : Int)) = false := by
      simp only [PyData.eqv]
      exact beq_eq_false_iff_ne.mpr fun z => h.2.2.1 (by omega)
    simp only [Fct.d, goodFactB, w_upto_at, beq_self_eq_true, if_true, List.length_cons, List.length_nil, nth_0, nth_1, nth_2, q a h.1, q b h.2.1, h1, ne, Bool.and_true, Bool.or_true, Bool.false_eq_true, if_false, Bool.not_false]
theorem facts_good {n : Nat} {fs : List Fct} (hl : fs.length ≤ 4) (h : ∀ f ∈ fs, f.ok n) : goodFactsB n (facD fs) = true := by
  show (decide ((fs.map Fct.d).length ≤ 4) && (fs.map Fct.d).all fun x => goodFactB n x) = true
  rw [List.length_map, decide_eq_true hl, List.all_map]
  simp only [Bool.true_and, List.all_eq_true]
  intro s hs
  exact (h s hs).good
def ScOk (sc : Int) : Prop := 0 < sc ∧ sc < 10000000000000000
theorem longP_length (n : Nat) : ∀ rows : List (List Int), (longP rows n).length = rows.length * n
  | [] => by simp [longP]
  | r :: rows => by
    have ih := longP_length n rows
    unfold longP at ih ⊢
    rw [List.flatMap_cons, List.length_append, ih, List.length_map, List.length_range, List.length_cons, Nat.succ_mul, Nat.add_comm]
theorem longP_mem {rows : List (List Int)} {n : Nat} {r : List Int} (h : r ∈ longP rows n) : ∃ r0 ∈ rows, ∃ i : Nat, i < n ∧ r = r0 ++ [(i : Int)] := by
  unfold longP at h
  obtain ⟨r0, h0, h1⟩ := List.mem_flatMap.mp h
  obtain ⟨i, hi, rfl⟩ := List.mem_map.mp h1
  exact ⟨r0, h0, i, List.mem_range.mp hi, rfl⟩
theorem marksP_length {sc : Int} : ∀ (t : List Int) (rows : List (List Int)) (l : Nat), (∀ r ∈ rows, r.length = l) → ∀ r ∈ marksP t sc rows, r.length = l + t.length
  | [], rows, l, h, r, hr => h r hr
  | e :: t, rows, l, h, r, hr => by
    have := marksP_length t (longP rows (e * sc).toNat) (l + 1) (fun x hx => by
      obtain ⟨r0, h0, i, _, rfl⟩ := longP_mem hx
      rw [List.length_append, h r0 h0]; rfl) r hr
    rw [this, List.length_cons]; omega
def Fct.small : Fct → Prop
  | .at_ _ v => v ≤ 17
  | .just _ _ d => d ≤ 5
  | .upto _ _ d => d ≤ 5
theorem All2.getI {P : Int → Int → Prop} : ∀ {xs ys : List Int}, All2 P xs ys → ∀ l, l < xs.length → P (xs.getD l 0) (ys.getD l 0)
  | _, _, .nil, l, h => by simp at h
  | _, _, .cons p r, 0, _ => p
  | _, _, .cons p r, l + 1, h => by
    have := r.getI l (by simpa using h)
    simpa using this
theorem All2.snoc {α β : Type} {P : α → β → Prop} {a : α} {b : β} (h : P a b) : ∀ {xs : List α} {ys : List β}, All2 P xs ys → All2 P (xs ++ [a]) (ys ++ [b])
  | _, _, .nil => .cons h .nil
  | _, _, .cons p r => .cons p (r.snoc h)
end DL
namespace DL
open PySem
/-! the same at another scale: what counts is whole minutes, and the order of what is left over -/
structure Sim (s s' : Int) (φ : Int → Int) (G : Int → Prop) : Prop where
  p : 0 < s
  p' : 0 < s'
  z : φ 0 = 0
  gz : G 0
  sh : ∀ x k, φ (x + k * s) = φ x + k * s'
  gsh : ∀ x k, G x → G (x + k * s)
  le : ∀ x y, G x → G y → (φ x ≤ φ y ↔ x ≤ y)
section
variable {s s' : Int} {φ : Int → Int} {G : Int → Prop}
theorem Sim.mul (S : Sim s s' φ G) (k : Int) : φ (k * s) = k * s' := by
  have := S.sh 0 k
  rwa [Int.zero_add, S.z, Int.zero_add] at this
theorem Sim.gm (S : Sim s s' φ G) (k : Int) : G (k * s) := by
  have := S.gsh 0 k S.gz
  rwa [Int.zero_add] at this
theorem Sim.lt (S : Sim s s' φ G) {x y : Int} (hx : G x) (hy : G y) : φ x < φ y ↔ x < y := by
  have := S.le y x hy hx
  omega
theorem Sim.eq (S : Sim s s' φ G) {x y : Int} (hx : G x) (hy : G y) : φ x = φ y ↔ x = y := by
  have h1 := S.le y x hy hx
  have h2 := S.le x y hx hy
  omega
/-- differences, against whole minutes -/
theorem Sim.dle (S : Sim s s' φ G) {x y : Int} (hx : G x) (hy : G y) (k : Int) : φ y - φ x ≤ k * s' ↔ y - x ≤ k * s := by
  have h := S.le y (x + k * s) hy (S.gsh x k hx)
  rw [S.sh] at h
  omega
theorem Sim.dge (S : Sim s s' φ G) {x y : Int} (hx : G x) (hy : G y) (k : Int) : k * s' ≤ φ y - φ x ↔ k * s ≤ y - x := by
  have h := S.le (x + k * s) y (S.gsh x k hx) hy
  rw [S.sh] at h
  omega
theorem Sim.deq (S : Sim s s' φ G) {x y : Int} (hx : G x) (hy : G y) (k : Int) : φ y - φ x = k * s' ↔ y - x = k * s := by
  have h1 := S.dle hx hy k
  have h2 := S.dge hx hy k
  omega
/-- the remainder is the one number in its range -/
theorem emod_eq_of {a n r k : Int} (h0 : 0 ≤ r) (h1 : r < n) (h : a = r + n * k) : a % n = r := by
  rw [h, Int.add_mul_emod_self_left]
  exact Int.emod_eq_of_lt h0 h1
/-- marks told at both scales -/
structure SimM (t : List Int) (φ : Int → Int) (G : Int → Prop) (m m' : List Int) : Prop where
  g : ∀ l, l < t.length → G (m.getD l 0)
  e : ∀ l, l < t.length → m'.getD l 0 = φ (m.getD l 0)
theorem sim_untl (S : Sim s s' φ G) {t m m' : List Int} (ht : TownOk t) (M : SimM t φ G m m') {l : Nat} (hl : l < t.length) {now : Int} (hn : G now) :
    G (now + untl t s m l now) ∧ untl t s' m' l (φ now) = φ (now + untl t s m l now) - φ now := by
  obtain ⟨p1, p2⟩ := ht.pos hl
  have hs := S.p
  have hs' := S.p'
  have T0 : 0 < t.getD l 0 * s := Int.mul_pos (by omega) hs
  have hg := M.g l hl
  unfold untl
  rw [M.e l hl]
  have q := Int.mul_ediv_add_emod (m.getD l 0 - now) (t.getD l 0 * s)
  have r0 : 0 ≤ (m.getD l 0 - now) % (t.getD l 0 * s) := Int.emod_nonneg _ (by omega)
  have r1 : (m.getD l 0 - now) % (t.getD l 0 * s) < t.getD l 0 * s := Int.emod_lt_of_pos _ T0
  generalize (m.getD l 0 - now) % (t.getD l 0 * s) = r at *
  generalize (m.getD l 0 - now) / (t.getD l 0 * s) = c at *
  generalize t.getD l 0 = T at *
  generalize m.getD l 0 = x at *
  have e : now + r = x + (-(T * c)) * s := by
    rw [Int.neg_mul, Int.mul_right_comm]; omega
  have gr : G (now + r) := by rw [e]; exact S.gsh _ _ hg
  have e' : φ (now + r) = φ x + (-(T * c)) * s' := by rw [e, S.sh]
  refine ⟨gr, ?_⟩
  have a0 := (S.dge hn gr 0).mpr (by omega)
  have a1 : ¬ (T * s' ≤ φ (now + r) - φ now) := fun h => absurd ((S.dge hn gr T).mp h) (by omega)
  refine emod_eq_of (k := c) (by omega) (by omega) ?_
  rw [e', Int.neg_mul, Int.mul_right_comm]
  omega
/-- a step at both scales -/
theorem sim_done (S : Sim s s' φ G) {t m m' : List Int} (ht : TownOk t) (M : SimM t φ G m m') {now : Int} (hn : G now) (st : Stp) (hk : st.ok t.length) :
    G (doneP t s m now st).later ∧ G (now + (doneP t s m now st).waited) ∧
      (doneP t s' m' (φ now) st) = ⟨φ (doneP t s m now st).later, (doneP t s m now st).line, φ (now + (doneP t s m now st).waited) - φ now⟩ := by
  cases st with
  | wait l =>
    obtain ⟨g, e⟩ := sim_untl S ht M hk hn
    refine ⟨g, g, ?_⟩
    simp only [doneP, e]
    congr 1; omega
  | go k =>
    refine ⟨S.gsh _ _ hn, by simpa [doneP] using hn, ?_⟩
    simp only [doneP, S.sh, Int.add_zero, Int.sub_self]
  | till k =>
    have c := S.lt hn (S.gm k)
    rw [S.mul] at c
    simp only [doneP, gt_iff_lt, c]
    by_cases h : now < k * s
    · simp only [if_pos h]
      rw [show now + (k * s - now) = k * s from by omega, S.mul]
      exact ⟨S.gm k, S.gm k, rfl⟩
    · simp only [if_neg h]
      rw [show now + (now - now) = now from by omega]
      exact ⟨hn, hn, rfl⟩
  | first l r l2 w =>
    obtain ⟨g, e⟩ := sim_untl S ht M hk.1 hn
    obtain ⟨g2, e2⟩ := sim_untl S ht M hk.2.2.1 hn
    have c := S.le _ _ g g2
    have c2 : (untl t s' m' l (φ now) ≤ untl t s' m' l2 (φ now)) ↔ untl t s m l now ≤ untl t s m l2 now := by rw [e, e2]; omega
    simp only [doneP, c2]
    by_cases h : untl t s m l now ≤ untl t s m l2 now
    · simp only [if_pos h]
      refine ⟨S.gsh _ _ g, g, ?_⟩
      rw [S.sh, e]
      congr 1; omega
    · simp only [if_neg h]
      refine ⟨S.gsh _ _ g2, g2, ?_⟩
      rw [S.sh, e2]
      congr 1; omega
  | tri l p r w =>
    obtain ⟨g, e⟩ := sim_untl S ht M hk.1 hn
    have c := S.dle hn g p
    have c2 : (untl t s' m' l (φ now) ≤ p * s') ↔ untl t s m l now ≤ p * s := by rw [e, c]; omega
    simp only [doneP, c2]
    by_cases h : untl t s m l now ≤ p * s
    · simp only [if_pos h]
      refine ⟨S.gsh _ _ g, g, ?_⟩
      rw [S.sh, e]
      congr 1; omega
    · simp only [if_neg h]
      refine ⟨S.gsh _ _ hn, S.gsh _ _ hn, ?_⟩
      rw [S.sh, S.sh]
      congr 1; omega
theorem sim_end (S : Sim s s' φ G) {t m m' : List Int} (ht : TownOk t) (M : SimM t φ G m m') : ∀ (j : List Stp) (now : Int), G now → (∀ x ∈ j, x.ok t.length) → G (endP t s m j now) ∧ endP t s' m' j (φ now) = φ (endP t s m j now)
  | [], _, h, _ => ⟨h, rfl⟩
  | x :: j, now, h, hk => by
    obtain ⟨a, _, c⟩ := sim_done S ht M h x (hk x List.mem_cons_self)
    have ih := sim_end S ht M j _ a fun y hy => hk y (List.mem_cons_of_mem _ hy)
    show _ ∧ endP t s' m' j (doneP t s' m' (φ now) x).later = _
    rw [c]
    exact ih
theorem sim_end0 (S : Sim s s' φ G) {t m m' : List Int} (ht : TownOk t) (M : SimM t φ G m m') (j : List Stp) (hk : ∀ x ∈ j, x.ok t.length) : G (endP t s m j 0) ∧ endP t s' m' j 0 = φ (endP t s m j 0) := by
  have := sim_end S ht M j 0 S.gz hk
  rwa [S.z] at this
theorem upto_iff (z P h : Int) (hP : 0 < P) : z % P ≤ h ↔ ∃ k : Int, 0 ≤ z + P * k ∧ z + P * k ≤ h := by
  constructor
  · intro e
    have q := Int.mul_ediv_add_emod z P
    have r0 : 0 ≤ z % P := Int.emod_nonneg _ (by omega)
    refine ⟨-(z / P), ?_⟩
    rw [Int.mul_neg]
    omega
  · rintro ⟨k, k1, k2⟩
    have e : (z + P * k) % P = z % P := Int.add_mul_emod_self_left z P k
    have q := Int.mul_ediv_add_emod (z + P * k) P
    have q2 : 0 ≤ P * ((z + P * k) / P) := Int.mul_nonneg (by omega) (Int.ediv_nonneg k1 (by omega))
    omega
theorem just_iff (z P h : Int) : z % P = h % P ↔ ∃ k : Int, z + P * k = h := by
  constructor
  · intro e
    have := Int.emod_eq_emod_iff_emod_sub_eq_zero.mp e
    obtain ⟨c, hc⟩ := Int.dvd_of_emod_eq_zero this
    refine ⟨-c, ?_⟩
    rw [Int.mul_neg, ← hc]
    omega
  · rintro ⟨k, rfl⟩
    rw [Int.add_mul_emod_self_left]
theorem floor_iff {x s q : Int} (hs : 0 < s) : x / s = q ↔ q * s ≤ x ∧ x < (q + 1) * s := by
  have e := Int.mul_ediv_add_emod x s
  have r0 : 0 ≤ x % s := Int.emod_nonneg _ (by omega)
  have r1 : x % s < s := Int.emod_lt_of_pos _ hs
  constructor
  · rintro rfl
    rw [Int.add_mul, Int.one_mul, Int.mul_comm]
    omega
  · rintro ⟨a, b⟩
    have c1 : x / s < q + 1 := Int.ediv_lt_of_lt_mul hs b
    have c2 : q ≤ x / s := (Int.le_ediv_iff_mul_le hs).mpr a
    omega
theorem gap_pos' (t : List Int) (ht : TownOk t) (a b : Nat) (ha : a < t.length) : 0 < gapP t a b := by
  have := ht.pos ha
  unfold gapP
  have : 0 < Nat.gcd (t.getD a 0).toNat (t.getD b 0).toNat := Nat.gcd_pos_of_pos_left _ (by omega)
  omega
theorem sim_so (S : Sim s s' φ G) {t m m' : List Int} (ht : TownOk t) (M : SimM t φ G m m') (f : Fct) (hf : f.ok t.length) : soP t s' m' f = soP t s m f := by
  cases f with
  | at_ l v =>
    have g := M.g l hf.1
    simp only [soP, M.e l hf.1]
    rw [Bool.eq_iff_iff, beq_iff_eq, beq_iff_eq, floor_iff S.p', floor_iff S.p]
    have a := S.le _ _ (S.gm (v % t.getD l 0)) g
    have b := S.lt g (S.gm (v % t.getD l 0 + 1))
    rw [S.mul] at a b
    rw [a, b]
  | just a b d =>
    have ga := M.g a hf.1
    have gb := M.g b hf.2.1
    simp only [soP, M.e a hf.1, M.e b hf.2.1]
    rw [Bool.eq_iff_iff, beq_iff_eq, beq_iff_eq, just_iff, just_iff]
    refine exists_congr fun k => ?_
    have := S.deq ga gb (d - gapP t a b * k)
    rw [Int.sub_mul, Int.sub_mul, Int.mul_right_comm _ k, Int.mul_right_comm _ k] at this
    omega
  | upto a b d =>
    have ga := M.g a hf.1
    have gb := M.g b hf.2.1
    have g0 := gap_pos' t ht a b hf.1
    simp only [soP, M.e a hf.1, M.e b hf.2.1]
    rw [decide_eq_decide, upto_iff _ _ _ (Int.mul_pos g0 S.p'), upto_iff _ _ _ (Int.mul_pos g0 S.p)]
    refine exists_congr fun k => ?_
    have c1 := S.dge ga gb (-(gapP t a b * k))
    have c2 := S.dle ga gb (d - gapP t a b * k)
    rw [Int.neg_mul, Int.neg_mul, Int.mul_right_comm _ k, Int.mul_right_comm _ k] at c1
    rw [Int.sub_mul, Int.sub_mul, Int.mul_right_comm _ k, Int.mul_right_comm _ k] at c2
    omega
theorem sim_all (S : Sim s s' φ G) {t m m' : List Int} (ht : TownOk t) (M : SimM t φ G m m') (fs : List Fct) (hf : ∀ f ∈ fs, f.ok t.length) : allSo t fs s' m' = allSo t fs s m := by
  induction fs with
  | nil => rfl
  | cons f fs ih =>
    show (soP t s' m' f && allSo t fs s' m') = (soP t s m f && allSo t fs s m)
    rw [sim_so S ht M f (hf f List.mem_cons_self), ih fun x hx => hf x (List.mem_cons_of_mem _ hx)]
end
/-! two such ways: from any scale to the coarse one, and back to a finer one -/
def cntP (R : List Int) (u : Int) : Nat := R.countP fun r => decide (0 < r) && decide (r ≤ u)
theorem cnt_le (R : List Int) {u v : Int} (h : u ≤ v) : cntP R u ≤ cntP R v := by
  unfold cntP
  refine List.countP_mono_left fun r _ hr => ?_
  rw [Bool.and_eq_true, decide_eq_true_eq, decide_eq_true_eq] at hr ⊢
  omega
theorem cnt_lt {R : List Int} {u v : Int} (h : u < v) (h0 : 0 ≤ u) (hv : v ∈ R) : cntP R u < cntP R v := by
  induction R with
  | nil => cases hv
  | cons r R ih =>
    have hm := cnt_le R (Int.le_of_lt h)
    unfold cntP at *
    rw [List.countP_cons, List.countP_cons]
    rcases List.mem_cons.mp hv with e | e
    · subst e
      have a : (decide (0 < v) && decide (v ≤ v)) = true := by simp; omega
      have b : (decide (0 < v) && decide (v ≤ u)) = false := by simp; omega
      rw [a, b]
      simp only [if_true, Bool.false_eq_true, if_false]
      omega
    · have := ih e
      by_cases c : (decide (0 < r) && decide (r ≤ u)) = true
      · have c2 : (decide (0 < r) && decide (r ≤ v)) = true := by
          rw [Bool.and_eq_true, decide_eq_true_eq, decide_eq_true_eq] at c ⊢
          omega
        rw [if_pos c, if_pos c2]; omega
      · rw [if_neg c]
        split <;> omega
/-- to the scale of the lines -/
def coarse (s s' : Int) (R : List Int) (x : Int) : Int := x / s * s' + (cntP R (x % s) : Nat)
theorem sim_coarse (s s' : Int) (R : List Int) (hs : 0 < s) (hR : (R.length : Int) < s') : Sim s s' (coarse s s' R) (fun x => x % s = 0 ∨ x % s ∈ R) := by
  have hz : cntP R 0 = 0 := by
    unfold cntP
    rw [List.countP_eq_zero]
    intro r _
    simp
  have hb : ∀ u, (cntP R u : Int) < s' := fun u => by
    have := List.countP_le_length (p := fun r => decide (0 < r) && decide (r ≤ u)) (l := R)
    unfold cntP
    omega
  refine ⟨hs, by omega, ?_, ?_, ?_, ?_, ?_⟩
  · show 0 / s * s' + ((cntP R (0 % s) : Nat) : Int) = 0
    rw [Int.zero_ediv, Int.zero_emod, hz]; simp
  · exact .inl (Int.zero_emod s)
  · intro x k
    show (x + k * s) / s * s' + ((cntP R ((x + k * s) % s) : Nat) : Int) = x / s * s' + ((cntP R (x % s) : Nat) : Int) + k * s'
    rw [Int.add_mul_ediv_right _ _ (by omega), Int.add_mul_emod_self_right, Int.add_mul]
    omega
  · intro x k h
    show (x + k * s) % s = 0 ∨ (x + k * s) % s ∈ R
    rw [Int.add_mul_emod_self_right]
    exact h
  · intro x y hx hy
    show x / s * s' + ((cntP R (x % s) : Nat) : Int) ≤ y / s * s' + ((cntP R (y % s) : Nat) : Int) ↔ x ≤ y
    have ex := Int.mul_ediv_add_emod x s
    have ey := Int.mul_ediv_add_emod y s
    have rx0 : 0 ≤ x % s := Int.emod_nonneg _ (by omega)
    have rx1 : x % s < s := Int.emod_lt_of_pos _ hs
    have ry0 : 0 ≤ y % s := Int.emod_nonneg _ (by omega)
    have ry1 : y % s < s := Int.emod_lt_of_pos _ hs
    have bx := hb (x % s)
    have by' := hb (y % s)
    rcases Int.lt_trichotomy (x / s) (y / s) with h | h | h
    · have a : (x / s + 1) * s' ≤ y / s * s' := Int.mul_le_mul_of_nonneg_right (by omega) (by omega)
      have b : s * (x / s + 1) ≤ s * (y / s) := Int.mul_le_mul_of_nonneg_left (by omega) (by omega)
      rw [Int.add_mul, Int.one_mul] at a
      rw [Int.mul_add, Int.mul_one] at b
      omega
    · rw [h] at ex ⊢
      rcases Int.lt_trichotomy (x % s) (y % s) with g | g | g
      · have := cnt_le R (Int.le_of_lt g)
        omega
      · rw [g]; omega
      · have : x % s ∈ R := hx.resolve_left (by omega)
        have := cnt_lt g ry0 this
        omega
    · have a : (y / s + 1) * s' ≤ x / s * s' := Int.mul_le_mul_of_nonneg_right (by omega) (by omega)
      have b : s * (y / s + 1) ≤ s * (x / s) := Int.mul_le_mul_of_nonneg_left (by omega) (by omega)
      rw [Int.add_mul, Int.one_mul] at a
      rw [Int.mul_add, Int.mul_one] at b
      omega
def finer (s s' : Int) (x : Int) : Int := x / s * s' + x % s
theorem sim_finer (s s' : Int) (hs : 0 < s) (h : s ≤ s') : Sim s s' (finer s s') (fun _ => True) := by
  refine ⟨hs, by omega, ?_, trivial, ?_, fun _ _ _ => trivial, ?_⟩
  · show 0 / s * s' + 0 % s = 0
    rw [Int.zero_ediv, Int.zero_emod]; simp
  · intro x k
    show (x + k * s) / s * s' + (x + k * s) % s = x / s * s' + x % s + k * s'
    rw [Int.add_mul_ediv_right _ _ (by omega), Int.add_mul_emod_self_right, Int.add_mul]
    omega
  · intro x y _ _
    show x / s * s' + x % s ≤ y / s * s' + y % s ↔ x ≤ y
    have ex := Int.mul_ediv_add_emod x s
    have ey := Int.mul_ediv_add_emod y s
    have rx0 : 0 ≤ x % s := Int.emod_nonneg _ (by omega)
    have rx1 : x % s < s := Int.emod_lt_of_pos _ hs
    have ry0 : 0 ≤ y % s := Int.emod_nonneg _ (by omega)
    have ry1 : y % s < s := Int.emod_lt_of_pos _ hs
    rcases Int.lt_trichotomy (x / s) (y / s) with h | h | h
    · have a : (x / s + 1) * s' ≤ y / s * s' := Int.mul_le_mul_of_nonneg_right (by omega) (by omega)
      have b : s * (x / s + 1) ≤ s * (y / s) := Int.mul_le_mul_of_nonneg_left (by omega) (by omega)
      rw [Int.add_mul, Int.one_mul] at a
      rw [Int.mul_add, Int.mul_one] at b
      omega
    · rw [h] at ex ⊢
      omega
    · have a : (y / s + 1) * s' ≤ x / s * s' := Int.mul_le_mul_of_nonneg_right (by omega) (by omega)
      have b : s * (y / s + 1) ≤ s * (x / s) := Int.mul_le_mul_of_nonneg_left (by omega) (by omega)
      rw [Int.add_mul, Int.one_mul] at a
      rw [Int.mul_add, Int.mul_one] at b
      omega
end DL
/-! loops with an invariant; membership -/
namespace DL
open PySem
theorem for_inv {α : Type} (g : α → D) {t : GD} {f : DS} (I : List α → DEnv → Store → Prop) : ∀ (xs pre : List α) (δ : DEnv) (st : Store), I pre δ st →
    (∀ pre x δ st, x ∈ xs → I pre δ st → ∃ δ1 δ2 st2, t (g x) δ = some δ1 ∧ f δ1 st = .nx δ2 st2 ∧ I (pre ++ [x]) δ2 st2) →
    ∃ δ' st', forL t f (xs.map g) δ st = .nx δ' st' ∧ I (pre ++ xs) δ' st'
  | [], pre, δ, st, h, _ => ⟨δ, st, rfl, by rw [List.append_nil]; exact h⟩
  | x :: xs, pre, δ, st, h, hs => by
    obtain ⟨δ1, δ2, st2, h1, h2, h3⟩ := hs pre x δ st List.mem_cons_self h
    obtain ⟨δ', st', h4, h5⟩ := for_inv g I xs (pre ++ [x]) δ2 st2 h3 fun pre y δ st hy => hs pre y δ st (List.mem_cons_of_mem _ hy)
    refine ⟨δ', st', ?_, by rw [List.append_assoc] at h5; exact h5⟩
    rw [List.map_cons, f_c, h1]
    simp only [h2]
    exact h4
theorem for_fold {α β T : Type} (g : α → D) {t : GD} {f : DS} (E : β → T → DEnv) (F : β → α → β) (P : β → Prop) {st : Store} : ∀ (xs : List α) (b : β) (tl : T), P b →
    (∀ b x tl, x ∈ xs → P b → P (F b x) ∧ ∃ δ1 tl', t (g x) (E b tl) = some δ1 ∧ f δ1 st = .nx (E (F b x) tl') st) →
    ∃ tl', forL t f (xs.map g) (E b tl) st = .nx (E (xs.foldl F b) tl') st ∧ P (xs.foldl F b)
  | [], b, tl, h, _ => ⟨tl, rfl, h⟩
  | x :: xs, b, tl, h, hs => by
    obtain ⟨h0, δ1, tl1, h1, h2⟩ := hs b x tl List.mem_cons_self h
    obtain ⟨tl', h4, h5⟩ := for_fold g E F P xs (F b x) tl1 h0 fun b y tl hy => hs b y tl (List.mem_cons_of_mem _ hy)
    refine ⟨tl', ?_, h5⟩
    rw [List.map_cons, f_c, h1]
    simp only [h2]
    exact h4
/-- a loop that ends with the first item of a kind -/
theorem for_find {α T : Type} (g : α → D) {t : GD} {f : DS} (E : T → DEnv) (p : α → Bool) (v : α → D) {st : Store} : ∀ (xs : List α) (tl : T),
    (∀ x tl, x ∈ xs → ∃ δ1 tl', t (g x) (E tl) = some δ1 ∧ f δ1 st = if p x = true then .rt (.d (v x)) st else .nx (E tl') st) →
    ∃ tl', forL t f (xs.map g) (E tl) st = match xs.find? p with
      | some x => .rt (.d (v x)) st
      | none => .nx (E tl') st
  | [], tl, _ => ⟨tl, rfl⟩
  | x :: xs, tl, hs => by
    obtain ⟨δ1, tl1, h1, h2⟩ := hs x tl List.mem_cons_self
    obtain ⟨tl', h4⟩ := for_find g E p v xs tl1 fun y tl hy => hs y tl (List.mem_cons_of_mem _ hy)
    refine ⟨tl', ?_⟩
    rw [List.map_cons, f_c, h1]
    cases hp : p x with
    | true =>
      rw [hp, if_pos rfl] at h2
      simp only [h2, List.find?_cons, hp]
    | false =>
      rw [hp, if_neg Bool.false_ne_true] at h2
      simp only [h2, List.find?_cons, hp]
      exact h4
/-- membership -/
@[simp] theorem q_inI {i : Int} {ns : List Int} : dIn (.int i) (.list (ns.map PyData.int)) = some (.bool (ns.contains i)) := by
  have e : ∀ l : List Int, ((l.map PyData.int).any fun z => PyData.eqv z (.int i)) = l.contains i := by
    intro l
    induction l with
    | nil => rfl
    | cons a l ih =>
      rw [List.map_cons, List.any_cons, ih, List.contains_cons]
      congr 1
      simp only [PyData.eqv]
      rw [Bool.eq_iff_iff, beq_iff_eq, beq_iff_eq]
      exact eq_comm
  simp only [dIn, inD, PyData.depth, Nat.zero_le, decide_true, if_true, Option.map_some, e]
@[simp] theorem q_inB {i : Bool} {ns : List Bool} : dIn (.bool i) (.list (ns.map PyData.bool)) = some (.bool (ns.contains i)) := by
  have e : ∀ l : List Bool, ((l.map PyData.bool).any fun z => PyData.eqv z (.bool i)) = l.contains i := by
    intro l
    induction l with
    | nil => rfl
    | cons a l ih =>
      rw [List.map_cons, List.any_cons, ih, List.contains_cons]
      congr 1
      simp only [PyData.eqv]
      rw [Bool.eq_iff_iff, beq_iff_eq, beq_iff_eq]
      exact eq_comm
  simp only [dIn, inD, PyData.depth, Nat.zero_le, decide_true, if_true, Option.map_some, e]
/-- marks, all of them -/
def InM (t : List Int) (s : Int) (m : List Int) : Prop := m.length = t.length ∧ ∀ l, l < t.length → 0 ≤ m.getD l 0 ∧ m.getD l 0 < t.getD l 0 * s
theorem mem_marks (s : Int) : ∀ (t : List Int) (rows : List (List Int)) (r : List Int), r ∈ marksP t s rows ↔ ∃ r0 ∈ rows, ∃ x, r = r0 ++ x ∧ InM t s x
  | [], rows, r => by
    show r ∈ rows ↔ _
    constructor
    · intro h
      exact ⟨r, h, [], by rw [List.append_nil], rfl, fun l hl => absurd hl (Nat.not_lt_zero l)⟩
    · rintro ⟨r0, h, x, rfl, hx, _⟩
      rw [List.length_eq_zero_iff.mp hx, List.append_nil]; exact h
  | e :: t, rows, r => by
    show r ∈ marksP t s (longP rows (e * s).toNat) ↔ _
    rw [mem_marks s t]
    constructor
    · rintro ⟨r1, h1, x, rfl, hx, hb⟩
      obtain ⟨r0, h0, i, hi, rfl⟩ := longP_mem h1
      refine ⟨r0, h0, (i : Int) :: x, by simp, by simp [hx], fun l hl => ?_⟩
      cases l with
      | zero => simp; omega
      | succ l => simpa using hb l (by simpa using hl)
    · rintro ⟨r0, h0, x, rfl, hx, hb⟩
      cases x with
      | nil => simp at hx
      | cons a x =>
        have ha := hb 0 (by simp)
        simp only [List.getD_cons_zero] at ha
        refine ⟨r0 ++ [a], ?_, x, by simp, by simpa using hx, fun l hl => by simpa using hb (l + 1) (by simpa using hl)⟩
        unfold longP
        refine List.mem_flatMap.mpr ⟨r0, h0, List.mem_map.mpr ⟨a.toNat, List.mem_range.mpr (by omega), ?_⟩⟩
        rw [Int.toNat_of_nonneg ha.1]
theorem mem_marks0 (s : Int) (t : List Int) (r : List Int) : r ∈ marksP t s [[]] ↔ InM t s r := by
  rw [mem_marks]
  constructor
  · rintro ⟨r0, h0, x, rfl, hx⟩
    rw [List.mem_singleton.mp h0]; exact hx
  · intro h
    exact ⟨[], by simp, r, rfl, h⟩
theorem mem_cases (t : List Int) (fs : List Fct) (r : List Int) : r ∈ casesP t fs ↔ InM t (t.length + 1) r ∧ allSo t fs (t.length + 1) r = true := by
  unfold casesP
  rw [List.mem_filter, mem_marks0]
theorem getD_map0 {f : Int → Int} {m : List Int} {l : Nat} (h : l < m.length) : (m.map f).getD l 0 = f (m.getD l 0) := by simp [h]
theorem getD_mem {m : List Int} {l : Nat} (h : l < m.length) : m.getD l 0 ∈ m := by
  have e : m.getD l 0 = m[l] := by simp [h]
  rw [e]; exact List.getElem_mem h
/-- every way of marks has its like at the lines' own scale -/
theorem to_coarse {t : List Int} (ht : TownOk t) {s : Int} (hs : 0 < s) {m : List Int} (h : InM t s m) {s' : Int} (hs' : (t.length : Int) < s') :
    ∃ φ G m', Sim s s' φ G ∧ SimM t φ G m m' ∧ InM t s' m' := by
  have S := sim_coarse s s' (m.map (· % s)) hs (by rw [List.length_map, h.1]; exact hs')
  have hg : ∀ l, l < t.length → m.getD l 0 % s = 0 ∨ m.getD l 0 % s ∈ m.map (· % s) := fun l hl => .inr (List.mem_map.mpr ⟨_, getD_mem (by rw [h.1]; exact hl), rfl⟩)
  refine ⟨_, _, m.map (coarse s s' (m.map (· % s))), S, ⟨hg, fun l hl => getD_map0 (by rw [h.1]; exact hl)⟩, by rw [List.length_map, h.1], fun l hl => ?_⟩
  rw [getD_map0 (by rw [h.1]; exact hl)]
  obtain ⟨a, b⟩ := h.2 l hl
  have c1 := (S.le 0 _ S.gz (hg l hl)).mpr a
  have c2 := (S.lt (hg l hl) (S.gm (t.getD l 0))).mpr b
  rw [S.z] at c1
  rw [S.mul] at c2
  exact ⟨c1, c2⟩
theorem to_finer {t : List Int} {s : Int} (hs : 0 < s) {m : List Int} (h : InM t s m) {s' : Int} (hs' : s ≤ s') :
    ∃ φ G m', Sim s s' φ G ∧ SimM t φ G m m' ∧ InM t s' m' := by
  have S := sim_finer s s' hs hs'
  refine ⟨_, _, m.map (finer s s'), S, ⟨fun _ _ => trivial, fun l hl => getD_map0 (by rw [h.1]; exact hl)⟩, by rw [List.length_map, h.1], fun l hl => ?_⟩
  rw [getD_map0 (by rw [h.1]; exact hl)]
  obtain ⟨a, b⟩ := h.2 l hl
  have c1 := (S.le 0 _ trivial trivial).mpr a
  have c2 := (S.lt (y := t.getD l 0 * s) trivial trivial).mpr b
  rw [S.z] at c1
  rw [S.mul] at c2
  exact ⟨c1, c2⟩
/-- all marks of a scale that keep facts -/
def keptP (t : List Int) (fs : List Fct) (s : Int) : List (List Int) := (marksP t s [[]]).filter (allSo t fs s)
theorem mem_kept {t : List Int} {fs : List Fct} {s : Int} {r : List Int} : r ∈ keptP t fs s ↔ InM t s r ∧ allSo t fs s r = true := by
  unfold keptP
  rw [List.mem_filter, mem_marks0]
theorem kept_coarse {t : List Int} (ht : TownOk t) {fs : List Fct} (hf : ∀ f ∈ fs, f.ok t.length) {s : Int} (hs : 0 < s) {m : List Int} (h : m ∈ keptP t fs s) {s' : Int} (hs' : (t.length : Int) < s') :
    ∃ φ G, Sim s s' φ G ∧ ∃ m' ∈ keptP t fs s', SimM t φ G m m' := by
  obtain ⟨h1, h2⟩ := mem_kept.mp h
  obtain ⟨φ, G, m', S, M, I⟩ := to_coarse ht hs h1 hs'
  exact ⟨φ, G, S, m', mem_kept.mpr ⟨I, by rw [sim_all S ht M fs hf]; exact h2⟩, M⟩
theorem kept_finer {t : List Int} (ht : TownOk t) {fs : List Fct} (hf : ∀ f ∈ fs, f.ok t.length) {s : Int} (hs : 0 < s) {m : List Int} (h : m ∈ keptP t fs s) {s' : Int} (hs' : s ≤ s') :
    ∃ φ G, Sim s s' φ G ∧ ∃ m' ∈ keptP t fs s', SimM t φ G m m' := by
  obtain ⟨h1, h2⟩ := mem_kept.mp h
  obtain ⟨φ, G, m', S, M, I⟩ := to_finer hs h1 hs'
  exact ⟨φ, G, S, m', mem_kept.mpr ⟨I, by rw [sim_all S ht M fs hf]; exact h2⟩, M⟩
/-! the bounds of numbers in parts -/
/-- the same against all whole minutes -/
def Lk (s s' x y : Int) : Prop := ∀ k : Int, (k * s ≤ x ↔ k * s' ≤ y) ∧ (x ≤ k * s ↔ y ≤ k * s')
theorem Sim.lk {s s' : Int} {φ : Int → Int} {G : Int → Prop} (S : Sim s s' φ G) {x y : Int} (hx : G x) (hy : G y) : Lk s s' (y - x) (φ y - φ x) := fun k => ⟨(S.dge hx hy k).symm, (S.dle hx hy k).symm⟩
theorem Sim.lk0 {s s' : Int} {φ : Int → Int} {G : Int → Prop} (S : Sim s s' φ G) {y : Int} (hy : G y) : Lk s s' y (φ y) := by
  have := S.lk S.gz hy
  rwa [S.z, Int.sub_zero, Int.sub_zero] at this
def lowB (s : Int) (xs : List Int) : Int := (minI (xs.map (· / s))).getD 0
def highB (s : Int) (xs : List Int) : Int := (maxI (xs.map fun x => -(-x / s))).getD 0
theorem floor_le {x s k : Int} (hs : 0 < s) : k ≤ x / s ↔ k * s ≤ x := Int.le_ediv_iff_mul_le hs
theorem ceil_le {x s k : Int} (hs : 0 < s) : -(-x / s) ≤ k ↔ x ≤ k * s := by
  have := floor_le (x := -x) (s := s) (k := -k) hs
  rw [Int.neg_mul] at this
  omega
theorem minI_mem {xs : List Int} (h : xs ≠ []) : ∃ a, minI xs = some a ∧ a ∈ xs ∧ ∀ x ∈ xs, a ≤ x := by
  cases xs with
  | nil => exact absurd rfl h
  | cons x r => exact ⟨_, rfl, (foldl_min r x).1, (foldl_min r x).2⟩
theorem maxI_mem {xs : List Int} (h : xs ≠ []) : ∃ a, maxI xs = some a ∧ a ∈ xs ∧ ∀ x ∈ xs, x ≤ a := by
  cases xs with
  | nil => exact absurd rfl h
  | cons x r => exact ⟨_, rfl, (foldl_max r x).1, (foldl_max r x).2⟩
theorem lowB_ok {s : Int} (hs : 0 < s) {xs : List Int} (h : xs ≠ []) : (∀ x ∈ xs, lowB s xs * s ≤ x) ∧ ∃ x ∈ xs, ¬ (lowB s xs + 1) * s ≤ x := by
  obtain ⟨a, e, h1, h2⟩ := minI_mem (xs := xs.map (· / s)) (by simpa using h)
  have e : lowB s xs = a := by unfold lowB; rw [e]; rfl
  rw [e]
  refine ⟨fun x hx => (floor_le hs).mp (h2 _ (List.mem_map.mpr ⟨x, hx, rfl⟩)), ?_⟩
  obtain ⟨x, hx, rfl⟩ := List.mem_map.mp h1
  exact ⟨x, hx, fun z => by have := (floor_le hs).mpr z; omega⟩
theorem highB_ok {s : Int} (hs : 0 < s) {xs : List Int} (h : xs ≠ []) : (∀ x ∈ xs, x ≤ highB s xs * s) ∧ ∃ x ∈ xs, ¬ x ≤ (highB s xs - 1) * s := by
  obtain ⟨a, e, h1, h2⟩ := maxI_mem (xs := xs.map fun x => -(-x / s)) (by simpa using h)
  have e : highB s xs = a := by unfold highB; rw [e]; rfl
  rw [e]
  refine ⟨fun x hx => (ceil_le hs).mp (h2 _ (List.mem_map.mpr ⟨x, hx, rfl⟩)), ?_⟩
  obtain ⟨x, hx, rfl⟩ := List.mem_map.mp h1
  exact ⟨x, hx, fun z => by have := (ceil_le hs).mpr z; omega⟩
theorem lowB_uniq {s : Int} (hs : 0 < s) {xs : List Int} (h : xs ≠ []) {a : Int} (h1 : ∀ x ∈ xs, a * s ≤ x) (h2 : ∃ x ∈ xs, ¬ (a + 1) * s ≤ x) : lowB s xs = a := by
  obtain ⟨g1, x, hx, g2⟩ := lowB_ok hs h
  obtain ⟨y, hy, h2⟩ := h2
  have a1 := h1 x hx
  have a2 := g1 y hy
  rcases Int.lt_trichotomy (lowB s xs) a with q | q | q
  · have : (lowB s xs + 1) * s ≤ a * s := Int.mul_le_mul_of_nonneg_right (by omega) (by omega)
    omega
  · exact q
  · have : (a + 1) * s ≤ lowB s xs * s := Int.mul_le_mul_of_nonneg_right (by omega) (by omega)
    omega
theorem highB_uniq {s : Int} (hs : 0 < s) {xs : List Int} (h : xs ≠ []) {a : Int} (h1 : ∀ x ∈ xs, x ≤ a * s) (h2 : ∃ x ∈ xs, ¬ x ≤ (a - 1) * s) : highB s xs = a := by
  obtain ⟨g1, x, hx, g2⟩ := highB_ok hs h
  obtain ⟨y, hy, h2⟩ := h2
  have a1 := h1 x hx
  have a2 := g1 y hy
  rcases Int.lt_trichotomy (highB s xs) a with q | q | q
  · have : highB s xs * s ≤ (a - 1) * s := Int.mul_le_mul_of_nonneg_right (by omega) (by omega)
    omega
  · exact q
  · have : a * s ≤ (highB s xs - 1) * s := Int.mul_le_mul_of_nonneg_right (by omega) (by omega)
    omega
/-- both bounds, and whether they are reached -/
structure Bnds where
  lo : Int
  los : Bool
  hi : Int
  his : Bool
  deriving DecidableEq
def bndsP (s : Int) (xs : List Int) : Bnds := ⟨lowB s xs, xs.contains (lowB s xs * s), highB s xs, xs.contains (highB s xs * s)⟩
def Bnds.d (b : Bnds) : D := .tuple [.tuple [.int b.lo, .bool b.los], .tuple [.int b.hi, .bool b.his]]
theorem Lk.eq {s s' x y : Int} (h : Lk s s' x y) (k : Int) : x = k * s ↔ y = k * s' := by
  have := h k
  omega
theorem bnds_like {s s' : Int} (hs : 0 < s) (hs' : 0 < s') {xs ys : List Int} (h1 : ∀ x ∈ xs, ∃ y ∈ ys, Lk s s' x y) (h2 : ∀ y ∈ ys, ∃ x ∈ xs, Lk s s' x y) (hn : xs ≠ []) : bndsP s xs = bndsP s' ys := by
  have hn' : ys ≠ [] := by
    obtain ⟨x, hx⟩ := List.exists_mem_of_ne_nil xs hn
    obtain ⟨y, hy, _⟩ := h1 x hx
    exact List.ne_nil_of_mem hy
  obtain ⟨l1, z, hz, l2⟩ := lowB_ok hs hn
  obtain ⟨u1, w, hw, u2⟩ := highB_ok hs hn
  have el : lowB s' ys = lowB s xs := by
    refine lowB_uniq hs' hn' (fun y hy => ?_) ?_
    · obtain ⟨x, hx, k⟩ := h2 y hy
      exact (k _).1.mp (l1 x hx)
    · obtain ⟨y, hy, k⟩ := h1 z hz
      exact ⟨y, hy, fun q => l2 ((k _).1.mpr q)⟩
  have eh : highB s' ys = highB s xs := by
    refine highB_uniq hs' hn' (fun y hy => ?_) ?_
    · obtain ⟨x, hx, k⟩ := h2 y hy
      exact (k _).2.mp (u1 x hx)
    · obtain ⟨y, hy, k⟩ := h1 w hw
      exact ⟨y, hy, fun q => u2 ((k _).2.mpr q)⟩
  have hc : ∀ k : Int, xs.contains (k * s) = ys.contains (k * s') := fun k => by
    rw [Bool.eq_iff_iff, List.contains_iff_mem, List.contains_iff_mem]
    constructor
    · intro hx
      obtain ⟨y, hy, q⟩ := h1 _ hx
      rw [← (q.eq k).mp rfl]; exact hy
    · intro hy
      obtain ⟨x, hx, q⟩ := h2 _ hy
      rw [← (q.eq k).mpr rfl]; exact hx
  unfold bndsP
  rw [el, eh, hc, hc]
/-- the times of a journey with some marks -/
def timesP (t : List Int) (s : Int) (j : List Stp) (some : List (List Int)) : List Int := some.map fun m => endP t s m j 0
/-- finer marks tell the same bounds -/
theorem bnds_times {t : List Int} (ht : TownOk t) {fs : List Fct} (hf : ∀ f ∈ fs, f.ok t.length) {j : List Stp} (hj : ∀ x ∈ j, x.ok t.length) {s : Int} (hs : (t.length : Int) + 1 ≤ s) (hn : keptP t fs s ≠ []) :
    bndsP s (timesP t s j (keptP t fs s)) = bndsP (t.length + 1) (timesP t (t.length + 1) j (casesP t fs)) := by
  have e : casesP t fs = keptP t fs (t.length + 1) := rfl
  rw [e]
  refine bnds_like (by omega) (by omega) (fun x hx => ?_) (fun y hy => ?_) (by unfold timesP; simpa using hn)
  · obtain ⟨m, hm, rfl⟩ := List.mem_map.mp hx
    obtain ⟨φ, G, S, m', hm', M⟩ := kept_coarse ht hf (by omega) hm (s' := t.length + 1) (by omega)
    obtain ⟨g, e⟩ := sim_end0 S ht M j hj
    exact ⟨_, List.mem_map.mpr ⟨m', hm', rfl⟩, by simp only [e]; exact S.lk0 g⟩
  · obtain ⟨m, hm, rfl⟩ := List.mem_map.mp hy
    obtain ⟨φ, G, S, m', hm', M⟩ := kept_finer ht hf (by omega) hm hs
    obtain ⟨g, e⟩ := sim_end0 S ht M j hj
    refine ⟨_, List.mem_map.mpr ⟨m', hm', rfl⟩, ?_⟩
    simp only [e]
    intro k
    have := S.lk0 g k
    exact ⟨this.1.symm, this.2.symm⟩
theorem kept_nil {t : List Int} (ht : TownOk t) {fs : List Fct} (hf : ∀ f ∈ fs, f.ok t.length) {s : Int} (hs : (t.length : Int) + 1 ≤ s) : keptP t fs s = [] ↔ casesP t fs = [] := by
  have e : casesP t fs = keptP t fs (t.length + 1) := rfl
  rw [e]
  constructor
  · intro h
    refine List.eq_nil_iff_forall_not_mem.mpr fun m hm => ?_
    obtain ⟨φ, G, S, m', hm', M⟩ := kept_finer ht hf (by omega) hm hs
    rw [h] at hm'; cases hm'
  · intro h
    refine List.eq_nil_iff_forall_not_mem.mpr fun m hm => ?_
    obtain ⟨φ, G, S, m', hm', M⟩ := kept_coarse ht hf (by omega) hm (s' := t.length + 1) (by omega)
    rw [h] at hm'; cases hm'
end DL
/-! comprehensions at once, a law's loops, a try -/
namespace DL
open PySem
theorem qE0 {Y : List D} : dEq (.list Y) (.list []) = some (.bool Y.isEmpty) := by
  rw [dEq_of (.inr (by simp only [PyData.depth, PyData.depthAll]; omega))]
  cases Y <;> simp [PyData.eqv, PyData.eqvAll]
theorem qN0 {Y : List D} : dNe (.list Y) (.list []) = some (.bool !Y.isEmpty) := by
  rw [dNe_of (.inr (by simp only [PyData.depth, PyData.depthAll]; omega))]
  cases Y <;> simp [PyData.eqv, PyData.eqvAll]
section
variable {own : List Nat} {i : DI} {t : GD} {q : DT} {e : DE} {δ : DEnv} {st st1 : Store}
theorem eLc_map {α : Type} {g : α → D} {r : α → D} {xs : List α} (hi : i δ st = .ok (xs.map g) st1) (hz : xs.length ≤ 16777216) (h : ∀ x ∈ xs, ∃ δ1, t (g x) (dwipe δ own) = some δ1 ∧ e δ1 st1 = .ok (.d (r x)) st1) :
    eLc own i t tY e δ st = .ok (.d (.list (xs.map r))) st1 := by
  rw [l_Lc, hi, b_ok, l_E, if_pos (szOk_of (by rw [List.length_map]; exact hz)), lc_map xs h]
  rfl
theorem eLc_filter {α : Type} {g : α → D} {r : α → D} {p : α → Bool} {xs : List α} (hi : i δ st = .ok (xs.map g) st1) (hz : xs.length ≤ 16777216) (h : ∀ x ∈ xs, ∃ δ1, t (g x) (dwipe δ own) = some δ1 ∧ q δ1 st1 = .ok (p x) st1 ∧ (p x = true → e δ1 st1 = .ok (.d (r x)) st1)) :
    eLc own i t q e δ st = .ok (.d (.list ((xs.filter p).map r))) st1 := by
  rw [l_Lc, hi, b_ok, l_E, if_pos (szOk_of (by rw [List.length_map]; exact hz)), lc_filter xs h]
  rfl
theorem eLc_draw {α β : Type} {g : α → D} {r : β → D} {P : α → β → Prop} {I : Store → Prop} {xs : List α} (hi : i δ st = .ok (xs.map g) st1) (hz : xs.length ≤ 16777216) (hI : I st1)
    (h : ∀ x ∈ xs, ∀ s, I s → ∃ δ1 y s1, t (g x) (dwipe δ own) = some δ1 ∧ e δ1 s = .ok (.d (r y)) s1 ∧ P x y ∧ I s1) :
    ∃ ys st2, eLc own i t tY e δ st = .ok (.d (.list (ys.map r))) st2 ∧ All2 P xs ys ∧ I st2 := by
  obtain ⟨ys, st2, h1, h2, h3⟩ := lc_draw (t := t) (e := e) (δ := dwipe δ own) (g := g) (r := r) xs st1 hI h
  refine ⟨ys, st2, ?_, h2, h3⟩
  rw [l_Lc, hi, b_ok, l_E, if_pos (szOk_of (by rw [List.length_map]; exact hz)), h1]
  rfl
end
@[simp] theorem s_Try {m : Str → Option Bool} {f g : DS} {δ : DEnv} {st : Store} : sTry m f g δ st = (match f δ st with
  | .exc e δ1 st1 => (match m e.cn with
    | some true => noEx (g δ1 st1)
    | some false => .exc e δ1 st1
    | none => .bad)
  | r => r) := id rfl
@[simp] theorem nx_rt {x : Vl} {st : Store} : noEx (.rt x st) = .rt x st := id rfl
@[simp] theorem nx_nx {δ : DEnv} {st : Store} : noEx (.nx δ st) = .nx δ st := id rfl
@[simp] theorem i_eSL {a : List D} {st : Store} : enumS [.d (.list a)] st = .ok (enumD a) st := id rfl
@[simp] theorem i_eST {a : List D} {st : Store} : enumS [.d (.tuple a)] st = .ok (enumD a) st := id rfl
/-- turns of a loop -/
theorem turns {i : Nat} {f : DS} (I : DEnv → Store → Prop) (h : ∀ (x : D) (δ : DEnv) (st : Store), I δ st → ∃ δ' st', f (δ.set i (some (.d x))) st = .nx δ' st' ∧ I δ' st') : ∀ (xs : List D) (δ : DEnv) (st : Store), I δ st → ∃ δ' st', forL (gN i) f xs δ st = .nx δ' st' ∧ I δ' st'
  | [], δ, st, h0 => ⟨δ, st, rfl, h0⟩
  | x :: xs, δ, st, h0 => by
    obtain ⟨δ1, st1, e1, h1⟩ := h x δ st h0
    obtain ⟨δ2, st2, e2, h2⟩ := turns I h xs δ1 st1 h1
    refine ⟨δ2, st2, ?_, h2⟩
    rw [f_c, g_N]
    simp only [e1]
    exact e2
/-- turns over numbers -/
theorem turnsN {i : Nat} {f : DS} (I : DEnv → Store → Prop) (M : Nat) (h : ∀ (x : Nat) (δ : DEnv) (st : Store), x < M → I δ st → ∃ δ' st', f (δ.set i (some (.d (.int x)))) st = .nx δ' st' ∧ I δ' st') (n : Nat) (hn : n ≤ M) (δ : DEnv) (st : Store) (h0 : I δ st) : ∃ δ' st', forL (gN i) f (rngD 0 n) δ st = .nx δ' st' ∧ I δ' st' := by
  have go : ∀ (xs : List Nat) (δ : DEnv) (st : Store), (∀ x ∈ xs, x < M) → I δ st → ∃ δ' st', forL (gN i) f (xs.map fun (i : Nat) => PyData.int (0 + (i : Int))) δ st = .nx δ' st' ∧ I δ' st' := by
    intro xs
    induction xs with
    | nil => exact fun δ st _ h0 => ⟨δ, st, rfl, h0⟩
    | cons x xs ih =>
      intro δ st hx h0
      obtain ⟨δ1, st1, e1, h1⟩ := h x δ st (hx x List.mem_cons_self) h0
      obtain ⟨δ2, st2, e2, h2⟩ := ih δ1 st1 (fun y hy => hx y (List.mem_cons_of_mem _ hy)) h1
      refine ⟨δ2, st2, ?_, h2⟩
      rw [List.map_cons, f_c, g_N, Int.zero_add]
      simp only [e1]
      exact e2
  rw [rngD_map]
  exact go _ _ _ (fun x hx => by have := List.mem_range.mp hx; omega) h0
/-- a law's frame: a loop over as many cells as the script says, then the rest -/
theorem law_frame {N : Nat} {body rest : DS} {ns : List Int} (a b c : Int) (ha : 0 ≤ a ∧ a ≤ 100) (hb : 0 ≤ b ∧ b ≤ 100) (hc : 0 ≤ c ∧ c ≤ 100) (I : DEnv → Store → Prop) (h0 : I (startD N [.s ns]) []) (hs : ∀ δ st, I δ st → δ[0]? = some (some (.s ns))) (hn : ns.length ≤ 63)
    (hbody : ∀ (k : Nat) (δ : DEnv) (st : Store), k < 1000 → I δ st → ∃ δ' st', body (δ.set 1 (some (.d (.int k)))) st = .nx δ' st' ∧ I δ' st')
    (hrest : ∀ δ st, I δ st → ∃ st', rest δ st = .rt (.d (.bool true)) st') :
    ∃ st, dfn N thaw (sCons (sFor (iRng rng1 (aC (eB (purL bMax2) (aC (eC (.int a)) (aC (eB (purL bMin2) (aC (eC (.int b)) (aC (eO (pur2T dAdd) (eB (purL bLen) (aC (eV 0) (aN))) (eC (.int c))) (aN)))) (aN)))) (aN))) (gN 1) body) rest) [.s ns] [] = .ok (.d (.bool true)) st := by
  have hl : (ns.map PyData.int).length = ns.length := List.length_map ..
  have hy : ∃ (x : Int) (y : Nat), (if ((ns.map PyData.int).length : Int) + c < b then ((ns.map PyData.int).length : Int) + c else b) = x ∧ (if x > a then x else a) = (y : Int) ∧ y < 1000 := by
    rw [hl]
    by_cases h1 : (ns.length : Int) + c < b
    · rw [if_pos h1]
      by_cases h2 : (ns.length : Int) + c > a
      · exact ⟨_, ((ns.length : Int) + c).toNat, rfl, by rw [if_pos h2]; omega, by omega⟩
      · exact ⟨_, a.toNat, rfl, by rw [if_neg h2]; omega, by omega⟩
    · rw [if_neg h1]
      by_cases h2 : b > a
      · exact ⟨_, b.toNat, rfl, by rw [if_pos h2]; omega, by omega⟩
      · exact ⟨_, a.toNat, rfl, by rw [if_neg h2]; omega, by omega⟩
  obtain ⟨x, y, e1, e2, hy⟩ := hy
  obtain ⟨δ', st', e3, h3⟩ := turnsN (i := 1) (f := body) I 1000 hbody y (by omega) (startD N [.s ns]) [] h0
  obtain ⟨st'', e4⟩ := hrest δ' st' h3
  have h62 : ok62 (y : Int) = true := ok62_of (by omega) (by omega)
  have hX : rngD 0 ((y : Int)).toNat = rngD 0 y := by rw [Int.toNat_natCast]
  have hv := hs _ _ h0
  refine ⟨st'', dfn_rv (N := N) (st1 := st'') ?_⟩
  generalize (y : Int) = Y at *
  generalize startD N [.s ns] = δ0 at *
  generalize rngD 0 y = Z at *
  simp only [s_Cons, s_For, i_Rng, i_r1, x_aC, x_aN, x_B, x_pL, x_dn, x_dc, x_dd, x_ds, x_bMax, x_bMin, x_bLenL, x_C, x_V, x_O, x_p2T, x_td, x_add, x_os, b_ok, t_ok, Option.bind_some, Option.map_some, hv, e1, e2, h62, hX, if_true, e3, e4, List.nil_append]
theorem endP_snoc (t : List Int) (sc : Int) (m : List Int) (x : Stp) : ∀ (j : List Stp) (now : Int), endP t sc m (j ++ [x]) now = (doneP t sc m (endP t sc m j now) x).later
  | [], now => rfl
  | y :: j, now => endP_snoc t sc m x j _
theorem endP_le (t m : List Int) (sc : Int) (ht : TownOk t) (hs : 0 < sc) : ∀ (j : List Stp) (now : Int), 0 ≤ now → (∀ s ∈ j, s.ok t.length) → endP t sc m j now ≤ now + 40 * sc * j.length
  | [], now, _, _ => by simp [endP]
  | x :: j, now, h, hj => by
    have h1 := doneP_le t m sc now x ht (hj x List.mem_cons_self) hs h
    have h2 := doneP_ge t m sc now x ht (hj x List.mem_cons_self) hs
    have ih := endP_le t m sc ht hs j (doneP t sc m now x).later (by omega) fun y hy => hj y (List.mem_cons_of_mem _ hy)
    show endP t sc m j (doneP t sc m now x).later ≤ _
    rw [List.length_cons, Int.natCast_succ, Int.mul_add, Int.mul_one]
    omega
theorem lowB_some {s : Int} {xs : List Int} (h : xs ≠ []) : minI (xs.map (· / s)) = some (lowB s xs) := by
  obtain ⟨a, e, _⟩ := minI_mem (xs := xs.map (· / s)) (by simpa using h)
  unfold lowB
  rw [e]; rfl
theorem highB_some {s : Int} {xs : List Int} (h : xs ≠ []) : maxI (xs.map fun x => 0 - (0 - x) / s) = some (highB s xs) := by
  obtain ⟨a, e, _⟩ := maxI_mem (xs := xs.map fun x => -(-x / s)) (by simpa using h)
  have q : (xs.map fun x => 0 - (0 - x) / s) = xs.map fun x => -(-x / s) := List.map_congr_left fun x _ => by rw [Int.zero_sub, Int.zero_sub]
  unfold highB
  rw [q, e]; rfl
/-- the bounds, number by number -/
theorem low_fold {s : Int} (x : Int) (r : List Int) : (x :: r).foldl (fun b y => if y / s < b then y / s else b) (x / s) = lowB s (x :: r) := by
  have go : ∀ (l : List Int) (b : Int), l.foldl (fun b y => if y / s < b then y / s else b) b = (l.map (· / s)).foldl min b := by
    intro l
    induction l with
    | nil => exact fun _ => rfl
    | cons a l ih =>
      intro b
      rw [List.foldl_cons, List.map_cons, List.foldl_cons, ih]
      congr 1
      by_cases h : a / s < b
      · rw [if_pos h, Int.min_eq_right (by omega)]
      · rw [if_neg h, Int.min_eq_left (by omega)]
  rw [List.foldl_cons, if_neg (Int.lt_irrefl _), go]
  rfl
theorem high_fold {s : Int} (x : Int) (r : List Int) : (x :: r).foldl (fun b y => if -(-y / s) > b then -(-y / s) else b) (-(-x / s)) = highB s (x :: r) := by
  have go : ∀ (l : List Int) (b : Int), l.foldl (fun b y => if -(-y / s) > b then -(-y / s) else b) b = (l.map fun y => -(-y / s)).foldl max b := by
    intro l
    induction l with
    | nil => exact fun _ => rfl
    | cons a l ih =>
      intro b
      rw [List.foldl_cons, List.map_cons, List.foldl_cons, ih]
      congr 1
      by_cases h : -(-a / s) > b
      · rw [if_pos h, Int.max_eq_right (by omega)]
      · rw [if_neg h, Int.max_eq_left (by omega)]
  rw [List.foldl_cons, if_neg (Int.lt_irrefl _), go]
  rfl
/-! loops whose store goes with their state -/
theorem for_foldS {α β T : Type} (g : α → D) {t : GD} {f : DS} (E : β → T → DEnv) (S : β → Store) (F : β → α → β) (P : Nat → β → Prop) : ∀ (xs : List α) (b : β) (tl : T), P xs.length b →
    (∀ k b x tl, x ∈ xs → P (k + 1) b → P k (F b x) ∧ ∃ δ1 tl', t (g x) (E b tl) = some δ1 ∧ f δ1 (S b) = .nx (E (F b x) tl') (S (F b x))) →
    ∃ tl', forL t f (xs.map g) (E b tl) (S b) = .nx (E (xs.foldl F b) tl') (S (xs.foldl F b)) ∧ P 0 (xs.foldl F b)
  | [], b, tl, h, _ => ⟨tl, rfl, h⟩
  | x :: xs, b, tl, h, hs => by
    obtain ⟨h0, δ1, tl1, h1, h2⟩ := hs xs.length b x tl List.mem_cons_self h
    obtain ⟨tl', h4, h5⟩ := for_foldS g E S F P xs (F b x) tl1 h0 fun k b y tl hy => hs k b y tl (List.mem_cons_of_mem _ hy)
    refine ⟨tl', ?_, h5⟩
    rw [List.map_cons, f_c, h1]
    simp only [h2]
    exact h4
theorem for_foldN {α β T : Type} (g : α → D) {t : GD} {f : DS} (E : β → T → DEnv) (F : β → α → β) (P : Nat → β → Prop) {st : Store} (xs : List α) (b : β) (tl : T) (h : P xs.length b)
    (hs : ∀ k b x tl, x ∈ xs → P (k + 1) b → P k (F b x) ∧ ∃ δ1 tl', t (g x) (E b tl) = some δ1 ∧ f δ1 st = .nx (E (F b x) tl') st) :
    ∃ tl', forL t f (xs.map g) (E b tl) st = .nx (E (xs.foldl F b) tl') st ∧ P 0 (xs.foldl F b) := for_foldS g E (fun _ => st) F P xs b tl h hs
/-- a loop that ends with the first item of a kind; the store goes on -/
theorem for_findS {α T : Type} (g : α → D) {t : GD} {f : DS} (E : T → DEnv) (J : Store → Prop) (p : α → Bool) (v : α → D) : ∀ (xs : List α) (tl : T) (st : Store), J st →
    (∀ x tl st, x ∈ xs → J st → ∃ δ1 tl' st', J st' ∧ t (g x) (E tl) = some δ1 ∧ f δ1 st = if p x = true then .rt (.d (v x)) st' else .nx (E tl') st') →
    ∃ tl' st', J st' ∧ forL t f (xs.map g) (E tl) st = match xs.find? p with
      | some x => .rt (.d (v x)) st'
      | none => .nx (E tl') st'
  | [], tl, st, h0, _ => ⟨tl, st, h0, rfl⟩
  | x :: xs, tl, st, h0, hs => by
    obtain ⟨δ1, tl1, st1, j1, h1, h2⟩ := hs x tl st List.mem_cons_self h0
    obtain ⟨tl', st', j', h4⟩ := for_findS g E J p v xs tl1 st1 j1 fun y tl st hy => hs y tl st (List.mem_cons_of_mem _ hy)
    cases hp : p x with
    | true =>
      rw [hp, if_pos rfl] at h2
      refine ⟨tl', st1, j1, ?_⟩
      rw [List.map_cons, f_c, h1]
      simp only [h2, List.find?_cons, hp]
    | false =>
      rw [hp, if_neg Bool.false_ne_true] at h2
      refine ⟨tl', st', j', ?_⟩
      rw [List.map_cons, f_c, h1]
      simp only [h2, List.find?_cons, hp]
      exact h4
theorem foldl_fm {α β : Type} (p : α → Bool) (f : α → β) : ∀ (xs : List α) (b : List β), xs.foldl (fun b x => if p x = true then b ++ [f x] else b) b = b ++ (xs.filter p).map f
  | [], b => by simp
  | x :: xs, b => by
    rw [List.foldl_cons, foldl_fm p f xs]
    cases h : p x <;> simp [h]
theorem find_any {α : Type} {p : α → Bool} : ∀ {xs : List α}, (xs.any p = true ∧ ∃ x ∈ xs, xs.find? p = some x ∧ p x = true) ∨ (xs.any p = false ∧ xs.find? p = none)
  | [] => .inr ⟨rfl, rfl⟩
  | x :: xs => by
    cases h : p x with
    | true => exact .inl ⟨by simp [h], x, List.mem_cons_self, by simp [h], h⟩
    | false =>
      rcases find_any (p := p) (xs := xs) with ⟨h1, y, h2, h3, h4⟩ | ⟨h1, h2⟩
      · exact .inl ⟨by simp [h, h1], y, List.mem_cons_of_mem _ h2, by simp [h, h3], h4⟩
      · exact .inr ⟨by simp [h, h1], by simp [h, h2]⟩
/-! enumerate, item by item -/
def enumF : Nat → List D → List D
  | _, [] => []
  | k, x :: xs => .tuple [.int (k : Int), x] :: enumF (k + 1) xs
theorem enumD_eq (xs : List D) : enumD xs = enumF 0 xs := by
  have go : ∀ (xs : List D) (k : Nat), (((List.range' k xs.length).map fun (i : Nat) => PyData.int (0 + (i : Int))).zip xs).map (fun p => PyData.tuple [p.1, p.2]) = enumF k xs := by
    intro xs
    induction xs with
    | nil => intro k; rfl
    | cons x xs ih =>
      intro k
      rw [List.length_cons, List.range'_succ, List.map_cons, List.zip_cons_cons, List.map_cons, ih, Int.zero_add]
      rfl
  have := go xs 0
  rw [← List.range_eq_range'] at this
  exact this
theorem enumF_length : ∀ (xs : List D) (k : Nat), (enumF k xs).length = xs.length
  | [], _ => rfl
  | _ :: xs, k => by rw [enumF, List.length_cons, enumF_length xs, List.length_cons]
theorem cut_take (xs : List D) (k : Nat) : cutD xs none (some (k : Int)) = xs.take k := by
  unfold cutD
  rw [HT.sIx_none, HT.sIx_nat, List.drop_zero, Nat.sub_zero]
  by_cases h : k ≤ xs.length
  · rw [Nat.min_eq_left h]
  · rw [Nat.min_eq_right (by omega), List.take_length, List.take_of_length_le (by omega)]
theorem cut_drop (xs : List D) (k : Nat) : cutD xs (some (k : Int)) none = xs.drop k := by
  unfold cutD
  rw [HT.sIx_none, HT.sIx_nat]
  by_cases h : k ≤ xs.length
  · rw [Nat.min_eq_left h, List.take_of_length_le (by rw [List.length_drop]; omega)]
  · rw [Nat.min_eq_right (by omega), Nat.sub_self, List.take_zero, List.drop_eq_nil_of_le (by omega)]
theorem eqvAll_ints : ∀ (a b : List Int), PyData.eqvAll (a.map PyData.int) (b.map PyData.int) = (a == b)
  | [], [] => rfl
  | [], _ :: _ => rfl
  | _ :: _, [] => rfl
  | x :: a, y :: b => by
    simp only [List.map_cons, PyData.eqvAll, PyData.eqv, eqvAll_ints a b]
    rfl
theorem depth_ints (a : List Int) : PyData.depthAll (a.map PyData.int) = 0 := by
  induction a with
  | nil => rfl
  | cons x a ih => rw [List.map_cons]; simp only [PyData.depthAll, PyData.depth, ih, Nat.max_self]
theorem qLI (a b : List Int) : dEq (.list (a.map PyData.int)) (.list (b.map PyData.int)) = some (.bool (a == b)) := by
  rw [dEq_of (.inl (by simp only [PyData.depth, depth_ints]; omega))]
  simp only [PyData.eqv, eqvAll_ints]
theorem qLN (a b : List Int) : dNe (.list (a.map PyData.int)) (.list (b.map PyData.int)) = some (.bool !(a == b)) := by
  rw [dNe_of (.inl (by simp only [PyData.depth, depth_ints]; omega))]
  simp only [PyData.eqv, eqvAll_ints]
theorem rep_ints (x : Int) : ∀ k : Nat, (List.replicate k [PyData.int x]).flatten = (List.replicate k x).map PyData.int
  | 0 => rfl
  | k + 1 => by rw [List.replicate_succ, List.flatten_cons, rep_ints x k, List.replicate_succ]; rfl
theorem erase_map {α β : Type} (f : α → β) : ∀ (xs : List α) (k : Nat), (xs.map f).eraseIdx k = (xs.eraseIdx k).map f
  | [], _ => rfl
  | _ :: _, 0 => rfl
  | x :: xs, k + 1 => by rw [List.map_cons, List.eraseIdx_cons_succ, List.eraseIdx_cons_succ, List.map_cons, erase_map f xs k]
theorem mul_rep (x : D) (k : Nat) (h : k ≤ 1000000) : dMul (.list [x]) (.int k) = some (.list (List.replicate k [x]).flatten) := by
  have h1 : (-9223372036854775808 : Int) ≤ (k : Int) := by omega
  have h2 : (k : Int) < 9223372036854775808 := by omega
  have h1 : -(2 ^ 63) ≤ (k : Int) := h1
  have h2 : (k : Int) < 2 ^ 63 := h2
  have h3 : szOk ([x].length * k) = true := szOk_of (by rw [List.length_singleton, Nat.one_mul]; omega)
  simp only [dMul, h1, h2, h3, decide_true, Bool.and_self, if_true, Int.toNat_natCast]
theorem q_BN {a b : Bool} : dNe (.bool a) (.bool b) = some (.bool !(a == b)) := by
  simp only [dNe, PyData.depth, PyData.eqv, Nat.min_self, Nat.zero_le, decide_true, if_true]
theorem q_BE {a b : Bool} : dEq (.bool a) (.bool b) = some (.bool (a == b)) := by
  simp only [dEq, PyData.depth, PyData.eqv, Nat.min_self, Nat.zero_le, decide_true, if_true]
end DL
set_option maxHeartbeats 2000000
/-! the head: facts, defs, tables, defs by a path (a method that keeps its class's cell, a property's getter) -/
namespace DL
open PySem PySem.Spec L2
def fnP (K : PySem.W.Frag) (a : Addr) : FnS := match K.lookup a with
  | some ⟨_, _, .func fd, _⟩ => some (fd.name, fd.qualname, fd.params, fd.body, fd.scope, fd.globals, fd.closure.map (·.1), fd.builtins)
  | _ => none
/-- a def found by a path -/
structure PathD where
  at_ : PySem.W.Frag → Addr
  name : Str
  qual : Str
  params : Arguments
  body : List Stmt
  scope : Scope
  clo : List Str
def PathD.val (d : PathD) : FnS := some (d.name, d.qual, d.params, FuncBody.stmts d.body, d.scope, mainGlobals, d.clo, builtinsNs)
def SupD.path (d : SupD) : PathD := ⟨fun K => He.ma K (He.ga K d.cls) "__init__", "__init__", d.qual, d.params, d.body, d.scope, ["__class__"]⟩
structure YD where
  fa : List He.Fa
  fn : List He.DefD
  tf : List He.Defn
  ps : List PathD
  ex : PySem.W.Frag → Bool
def fragY (n : Nat) (g : Addr → Option Obj) : PySem.W.Frag := He.frT g (He.asD g n ++ [cStatics])
abbrev AlY : Type := (He.AlD × Bool) × List FnS
def obsYK (d : YD) (g : Addr → Option Obj) (K : PySem.W.Frag) : AlY := ((He.obsD d.fa d.fn K, d.ex K && He.tabsB g d.tf K), d.ps.map fun p => fnP K (p.at_ K))
def obsY (n : Nat) (d : YD) (g : Addr → Option Obj) : AlY := obsYK d g (fragY n g)
def valY (d : YD) : AlY := ((He.valD d.fn, true), d.ps.map PathD.val)
structure SaysY (d : YD) (h : Heap) (K : PySem.W.Frag) : Prop where
  c : He.SaysD d.fa d.fn K
  more : d.ex K = true
  hd : ∀ p ∈ d.tf, PySem.W.codeHdIn K (He.cT K p).1 (He.cT K p).2 = true
  out : ∀ p ∈ d.tf, K.lookup (He.cT K p).2 = none
  empty : ∀ p ∈ d.tf, h.get? (He.cT K p).2 = some { cls := .none, data := .fields #[] }
  fs : ∀ p ∈ d.ps, fnP K (p.at_ K) = p.val
theorem map_all {α β : Type} {f g : α → β} : ∀ {l : List α}, l.map f = l.map g → ∀ x ∈ l, f x = g x
  | y :: l, e, x, hx => by
    rw [List.map_cons, List.map_cons] at e
    injection e with e1 e2
    rcases List.mem_cons.mp hx with rfl | hx
    · exact e1
    · exact map_all e2 x hx
theorem saysY_of {n : Nat} {d : YD} {h : Heap} (e : obsY n d h.get? = valY d) : SaysY d h (fragY n h.get?) := by
  unfold obsY at e
  generalize hK : fragY n h.get? = K at e
  injection e with e1 e2
  injection e1 with e3 e4
  obtain ⟨e5, e6⟩ := Bool.and_eq_true_iff.mp e4
  have key : ∀ p ∈ d.tf, PySem.W.codeHdIn K (He.cT K p).1 (He.cT K p).2 = true ∧ ∃ o, h.get? (He.cT K p).2 = some o ∧ He.emptyTab o = true := fun p hp => by
    obtain ⟨q1, q2⟩ := Bool.and_eq_true_iff.mp (List.all_eq_true.mp e6 p hp)
    refine ⟨q1, ?_⟩
    cases q : h.get? (He.cT K p).2 with
    | none => rw [q] at q2; cases q2
    | some o => rw [q] at q2; exact ⟨o, rfl, q2⟩
  refine ⟨e3, e5, fun p hp => (key p hp).1, fun p hp => ?_, fun p hp => ?_, map_all e2⟩
  · obtain ⟨_, o, q, z⟩ := key p hp
    rw [← hK] at q ⊢
    exact He.frT_none q z
  · obtain ⟨_, o, q, z⟩ := key p hp
    rw [q, He.emptyTab_eq z]
def hookY (n : Nat) (d : YD) : PySem.W.Hook where
  α := AlY
  obs := fun s => obsY n d s.heap.get?
  val := fun _ => valY d
  says := fun _ h => ∃ K : PySem.W.Frag, K.In h ∧ SaysY d h K
  of := fun _ _ e => ⟨_, He.frT_in, saysY_of e⟩
  keeps := fun _ _ _ ⟨K, hK, c⟩ k => ⟨K, PySem.W.Frag.In.keeps hK k, ⟨c.c, c.more, c.hd, c.out, fun p hp => k _ _ (c.empty p hp), c.fs⟩⟩
theorem obsY_eq {n : Nat} {d : YD} {g : Addr → Option Obj} {s : Shared} (h : ∀ a, g a = s.heap.get? a) : obsY n d g = (hookY n d).obs s := by
  have e : g = s.heap.get? := funext h
  rw [e] <;> rfl
/-- the i-th statement of a class's body -/
def clsStmt (s : Stmt) (i : Nat) : Stmt := match s with
  | .ClassDef _ _ _ b _ _ _ _ _ _ _ => b.getD i (.Pass ⟨0, 0, 0, 0⟩)
  | _ => .Pass ⟨0, 0, 0, 0⟩
end DL
/-! reading rules for texts, for exceptions with a field, for several clauses -/
namespace DL
open PySem PySem.Spec L2
section
variable {st : Store} {δ : DEnv} {f g : DE} {a b : Str} {i : Int}
@[simp] theorem x_Split : eSplit f g δ st = (f δ st).bind (strG splK g δ) := id rfl
@[simp] theorem x_Join : eJoin f g δ st = (f δ st).bind (strG joinK g δ) := id rfl
@[simp] theorem x_strG {k : Str → Vl → Store → Rs Vl} : strG k g δ (.d (.str a)) st = (g δ st).bind (k a) := id rfl
@[simp] theorem x_splK : splK a (.d (.str b)) st = if (!(b.length == 0) && decide (a.length + 2 ≤ 16777216)) = true then .ok (.d (.list ((Txt.split a b).map PyData.str))) st else .bad := id rfl
@[simp] theorem x_joinK {ys : List D} : joinK a (.d (.list ys)) st = optR st (joinD a ys) := id rfl
@[simp] theorem x_str2i : bStr2 [.int i] = if decide (i.natAbs < 2 ^ 1900) = true then some (.str (toString i)) else none := id rfl
@[simp] theorem x_str2s : bStr2 [.str a] = some (.str a) := id rfl
@[simp] theorem x_RevL : eRevL f δ st = (f δ st).bind revLK := id rfl
@[simp] theorem x_revLK {xs : List D} : revLK (.d (.list xs)) st = .ok (.d (.list xs.reverse)) st := id rfl
@[simp] theorem s_RaiseF {x fld : Str} : sRaiseF x fld f δ st = toS (f δ st) δ fun v st1 => (match v with
  | .d d => .exc ⟨x, [(fld, d)]⟩ δ st1
  | _ => .bad) := id rfl
@[simp] theorem s_TryN {hs : List Hnd} {body : DS} : sTryN hs body δ st = (match body δ st with
  | .exc e δ1 st1 => hdl hs e δ1 st1
  | r => r) := id rfl
end
end DL
set_option maxHeartbeats 2000000
/-! lists of any values; exceptions as values; isinstance by own classes -/
namespace DL
open PySem PySem.Spec L2
/-! ### an own name as a value -/
def eF (x : Str) : DE := fun _ st => .ok (.f x) st
section
variable {X : Cx} {W : WX} {pos : Pos}
theorem de_f {x : Str} (hg : Gl X x) (hm : X.mg x = some (.ref (He.ga X.K x))) (hd : (x == ("__debug__" : Str)) = false := by decide) : DEx X W (.Name x pos) (eF x) :=
  PE.imp (pe_glob (v := .ref (He.ga X.K x)) hg hm rfl hd) fun σ H Q ⟨δ, μ, st, hE, hS, h⟩ => h _ μ H .refl hS rfl
end
/-! ### lists and tuples of any values -/
def mixK (t : Bool) : List Vl → Store → Rs Vl := fun xs st => if szOk xs.length = true then .ok (.r st.length) (st ++ [.mix t xs]) else .bad
def eMix (a : DA) : DE := fun δ st => (a δ st).bind (mixK false)
def eMxT (a : DA) : DE := fun δ st => (a δ st).bind (mixK true)
theorem RepS.new_at {K : PySem.W.Frag} {μ : Mu} {H : Hp} {st : Store} {p : Addr} (S : RepS K μ H st) : (μ.push p).m[st.length]? = Option.some p := by
  show (μ.m ++ [p])[st.length]? = Option.some p
  rw [← S.len, List.getElem?_append_right (Nat.le_refl _), Nat.sub_self]
  rfl
/-- a new list or tuple of any values -/
theorem RepS.pushM {K : PySem.W.Frag} {μ : Mu} {H : Hp} {st : Store} {p : Addr} {t : Bool} {xs : List Vl} {vs : List V} (S : RepS K μ H st) (h : H p = none) (r : RVL K μ H xs vs) :
    Step μ H (μ.push p) (upd H p (cond t (.tup vs) (.lst vs))) ∧ RepS K (μ.push p) (upd H p (cond t (.tup vs) (.lst vs))) (st ++ [.mix t xs]) :=
  S.pushO h fun s => ⟨vs, upd_same, r.step s⟩
section
variable {X : Cx} {W : WX} {pos : Pos} {es : List Expr} {a : DA}
theorem de_mix (h : DAx X W es a) : DEx X W (.List es pos) (eMix a) := PE.imp (pe_lst h) fun σ H Q q =>
  tA.bind (γ := Vl) (k := fun _ => mixK false) q fun δ μ1 H1 xs st1 vs hE hS rx q1 => by
    unfold mixK at q1
    by_cases hz : szOk xs.length = true
    · rw [if_pos hz] at q1
      refine ⟨by rw [← rx.length]; exact szOk_ok hz, fun p hp => ?_⟩
      obtain ⟨s, S⟩ := hS.pushM (t := false) hp rx
      exact q1 _ _ _ s S ⟨p, hS.new_at, rfl⟩
    · rw [if_neg hz] at q1; exact q1.elim
theorem de_mxT {k} (h : DAx X W es a) : DEx X W (.Tuple es k pos) (eMxT a) := PE.imp (pe_tup h) fun σ H Q q =>
  tA.bind (γ := Vl) (k := fun _ => mixK true) q fun δ μ1 H1 xs st1 vs hE hS rx q1 => by
    unfold mixK at q1
    by_cases hz : szOk xs.length = true
    · rw [if_pos hz] at q1
      refine ⟨by rw [← rx.length]; exact szOk_ok hz, fun p hp => ?_⟩
      obtain ⟨s, S⟩ := hS.pushM (t := true) hp rx
      exact q1 _ _ _ s S ⟨p, hS.new_at, rfl⟩
    · rw [if_neg hz] at q1; exact q1.elim
end
/-- the list of any values at n -/
def mixAt (st : Store) (n : Nat) : Option (Bool × List Vl) := match st[n]? with
  | some (.mix t xs) => some (t, xs)
  | _ => none
theorem mixAt_ok {K : PySem.W.Frag} {μ : Mu} {H : Hp} {st : Store} {n : Nat} {t : Bool} {xs : List Vl} {v : V} (S : RepS K μ H st) (e : mixAt st n = some (t, xs)) (r : RV K μ H (.r n) v) : ∃ p vs, v = .ref p ∧ H p = some (cond t (.tup vs) (.lst vs)) ∧ RVL K μ H xs vs := by
  obtain ⟨p, h1, h2⟩ := r
  unfold mixAt at e
  cases q : st[n]? with
  | none => rw [q] at e; cases e
  | some o =>
    rw [q] at e
    cases o with
    | mix t' xs' =>
      cases e
      obtain ⟨vs, a1, a2⟩ := S.ob n p _ h1 q
      exact ⟨p, vs, h2, a1, a2⟩
    | _ => cases e
def addM : O2 := fun x y st => match x, y with
  | .r i, .r j => (match mixAt st i, mixAt st j with
    | some (false, xs), some (false, ys) => if szOk (xs.length + ys.length) = true then .ok (.r st.length) (st ++ [.mix false (xs ++ ys)]) else .bad
    | _, _ => .bad)
  | _, _ => .bad
theorem od_addM {K : PySem.W.Frag} {mg : Str → Option Value} : OpD K mg (rAdd4 K) addM := by
  intro μ H st x y v w Qx Q S rx ry q
  unfold addM at q
  split at q
  · rename_i i j
    split at q
    · rename_i xs ys e1 e2
      obtain ⟨p1, vs, rfl, h1, r1⟩ := mixAt_ok S e1 rx
      obtain ⟨p2, ws, rfl, h2, r2⟩ := mixAt_ok S e2 ry
      by_cases hz : szOk (xs.length + ys.length) = true
      · rw [if_pos hz] at q
        refine .inr (.inr (.inr ⟨p1, p2, vs, ws, rfl, rfl, h1, h2, by rw [← r1.length, ← r2.length]; exact szOk_ok hz, fun p hp => ?_⟩))
        obtain ⟨s, S'⟩ := S.pushM (t := false) hp (r1.append r2)
        exact q _ _ _ s S' ⟨p, S.new_at, rfl⟩
      · rw [if_neg hz] at q; exact q.elim
    · exact q.elim
  · exact q.elim
theorem RVL.atI {K : PySem.W.Frag} {μ : Mu} {H : Hp} {xs : List Vl} {vs : List V} {i : Int} {d : Vl} (r : RVL K μ H xs vs) (h : L2.atI xs i = some d) : ∃ v, L2.atI vs i = some v ∧ RV K μ H d v := by
  unfold L2.atI at h ⊢
  rw [← r.length]
  cases e : ixN xs.length i with
  | none => rw [e] at h; cases h
  | some j =>
    rw [e] at h
    exact r.get h
def ixM : O2 := fun x y st => match x, y with
  | .r n, .d (.int i) => (match (mixAt st n).bind fun p => L2.atI p.2 i with
    | some z => .ok z st
    | none => .bad)
  | _, _ => .bad
theorem od_ixM {K : PySem.W.Frag} {mg : Str → Option Value} : OpD K mg (rIx K) ixM := by
  intro μ H st x y v w Qx Q S rx ry q
  unfold ixM at q
  split at q
  · rename_i n i
    cases e1 : mixAt st n with
    | none => rw [e1] at q; exact q.elim
    | some p =>
      obtain ⟨t, xs⟩ := p
      rw [e1] at q
      simp only [Option.bind_some] at q
      cases e2 : L2.atI xs i with
      | none => rw [e2] at q; exact q.elim
      | some z =>
        rw [e2] at q
        obtain ⟨p1, vs, rfl, h1, r1⟩ := mixAt_ok S e1 rx
        obtain ⟨u, h2, h3⟩ := r1.atI e2
        cases ry
        have q2 := q u μ H .refl S h3
        cases t with
        | false => exact .inl ⟨p1, vs, i, u, rfl, rfl, .inl (.inl h1), h2, q2⟩
        | true => exact .inr (.inl ⟨p1, vs, i, u, rfl, rfl, .inl (.inl h1), h2, q2⟩)
  · exact q.elim
def lenM : List Vl → Store → Rs Vl := fun xs st => match xs with
  | [.r n] => (match mixAt st n with
    | some p => .ok (.d (.int p.2.length)) st
    | none => .bad)
  | _ => .bad
theorem cd_lenM {K : PySem.W.Frag} {mg : Str → Option Value} : CallD K mg (fun xs H Q => ∃ x n, xs = [x] ∧ LenV K x H n ∧ Q (.int n) H) lenM := by
  intro μ H st xs vs Qx Q S rx q
  unfold lenM at q
  split at q
  · rename_i n
    cases rx with
    | cons r1 r2 =>
      cases r2
      cases e1 : mixAt st n with
      | none => rw [e1] at q; exact q.elim
      | some p =>
        obtain ⟨t, ys⟩ := p
        rw [e1] at q
        obtain ⟨p1, ws, rfl, h1, r3⟩ := mixAt_ok S e1 r1
        refine ⟨_, ys.length, rfl, ?_, q _ μ H .refl S (.int _)⟩
        cases t with
        | false => exact .inl ⟨ws, .inl (.inl h1), r3.length⟩
        | true => exact .inr ⟨ws, .inl (.inl h1), r3.length⟩
  · exact q.elim
/-! ### exceptions as values -/
section
variable {X : Cx} {W : WX} {pos : Pos}
def eExv (x : Str) (f : DE) : DE := fun δ st => (f δ st).bind fun _ st1 => .ok (.r st1.length) (st1 ++ [.exv x []])
theorem de_exv {x : Str} {e : Expr} {f : DE} {p : Pos} (q : PySem.W.excIn X.K (He.ga X.K x) He.veBase "ValueError.__new__" = true) (hm : X.mg x = some (.ref (He.ga X.K x))) (kC : PySem.W.keepIn X.K (.ref (He.ga X.K x)) = true) (hg : Gl X x) (he : DEx X W e f)
    (hs : starEach [e] X.env = (false, eval e X.env) :: starEach [] X.env := by rfl) (hdb : (x == ("__debug__" : Str)) = false := by decide) : DEx X W (.Call (.Name x p) [e] [] pos) (eExv x f) :=
  PE.imp (pe_exc1 F.excBase_ValueError q hm kC hg he hs hdb) fun σ H Q h =>
    tE.bind (γ := Vl) (k := fun _ _ st1 => Rs.ok (Vl.r st1.length) (st1 ++ [Ob.exv x []])) h fun δ μ1 H1 v st1 y hE hS ry q1 a ha => by
      obtain ⟨s, S⟩ := hS.pushO (ob := .exv x []) (u := ExO (.ref (He.ga X.K x)) a) ha fun s => .inl ⟨rfl, upd_same⟩
      exact q1 _ _ _ s S ⟨a, hS.new_at, rfl⟩
/-- C(e, ..), C's own __init__ keeping sp, the exception as a value -/
def tMkV (C : Addr) (sp : Sp) (dvs : List V) (ta : TA) : TE := fun σ H Q => ta σ H fun vs H1 => vs.length ≤ 1000 ∧ ∀ a, H1 a = none → sp (.ref a :: (vs ++ dvs)) (upd H1 a (exo a C none)) (fun v H2 => v = .non ∧ Q (.ref a) H2) (fun _ _ _ => False)
theorem pe_oex {CX : CXT} {x : Str} {C fI : Addr} {k : Nat} {fd : FuncData} {ps : List Str} {sp : Sp} {ds : List Value} {dvs : List V} {e : Expr} {es : List Expr} {ta : TA} {p : Pos} (T : OexC X.K C) (iC : PySem.W.findIn X.K (.ref C) "__init__" = some (some (.ref fI))) (tI : PySem.W.typeIn X.K (.ref fI) = some (.type "function"))
    (F1 : FnOk X.prog X.w X.K X.mg X.base CX k fI fd ps sp) (hr : Room (k + 1) X.A) (hb : Binds X.K fd ps ds) (hd : Vals dvs ds) (hx : Passes CX X (fun _ _ _ => False)) (hg : Gl X x) (hm : X.mg x = some (.ref C)) (ha : PA X (e :: es) ta)
    (hdb : (x == ("__debug__" : Str)) = false := by decide) (he : starEach (e :: es) X.env = (false, eval e X.env) :: starEach es X.env := by rfl) (hpl : (backTo pos (starEach es X.env)).any (·.1) = false := by rfl) :
    PE X (.Call (.Name x p) (e :: es) [] pos) (tMkV C sp dvs ta) := by
  refine ⟨fun pins s σ H Q I h => ?_⟩
  obtain ⟨nm, q, N, bs, bm, sn, sub, ab, col, dd, k0, k1, k2, k3, k5, hC, hbm⟩ := T.cls
  refine wpAny_Call_Name_kw (ld_glob I hg hm ?_ hdb)
  refine PySem.W.callWith_K (h₀ := X.base) I.ok.mod.kin T.kC (thn (ha.run pos pins s σ H _ I h) fun us s1 ⟨vs, H1, I1, r1, hz, q1⟩ => ⟨I1.kIn, ?_⟩) he hpl
  show wpAny _ _ (call (.ref C) us) _ _ _
  obtain ⟨hp, g, dr, tk, os⟩ := s1
  have hsz : hp.objs.size ≤ hp.objs.size + 1 := Nat.le_succ _
  have hn : H1 (hp.objs.size + 1) = none := I1.hok.fresh hsz
  have hq := q1 (hp.objs.size + 1) hn
  have kk : ∀ b o, hp.get? b = some o → ((hp.push (PySem.W.kdv_tup us)).push (PySem.HandSPX.excO C hp.objs.size)).get? b = some o := fun b o e => Heap.get?_push_of_some _ (Heap.get?_push_of_some _ e)
  have hget : ((hp.push (PySem.W.kdv_tup us)).push (PySem.HandSPX.excO C hp.objs.size)).get? (hp.objs.size + 1) = some (PySem.HandSPX.excO C hp.objs.size) := by heap_get
  have I2 : Inv X pins σ (upd H1 (hp.objs.size + 1) (exo (hp.objs.size + 1) C none)) ⟨(hp.push (PySem.W.kdv_tup us)).push (PySem.HandSPX.excO C hp.objs.size), g, dr, tk, os⟩ :=
    I1.laid (t' := tk) (a := hp.objs.size + 1) (o := exo (hp.objs.size + 1) C none) (h' := (hp.push (PySem.W.kdv_tup us)).push (PySem.HandSPX.excO C hp.objs.size)) kk hsz (exo_ok hget)
  have r2 : Vals (V.ref (hp.objs.size + 1) :: (vs ++ dvs)) (Value.ref (hp.objs.size + 1) :: (us ++ ds)) := .cons rfl (r1.append hd)
  have hl : (Value.ref (hp.objs.size + 1) :: us ++ ds).length = ps.length := by
    have e := r2.length
    rw [F1.len _ _ _ _ hq] at e
    exact e.symm
  have hus : us.length ≤ sizeLine := by
    rw [← Paired.length r1, sizeLine_eq]
    omega
  refine wpAny_call (PySem.HandSPX.call_own F.excBase_ValueError (fun Y => PySem.HandSPX.refsVE_contains Y bm hbm) (I1.kIn _ _ hC) (PySem.W.looks_findIn I1.kIn iC) (fun self => PySem.W.bind_fn I1.kIn self tI) hus
    (codeAny_mono (F1.run _ X.stack _ _ ⟨Value.ref (hp.objs.size + 1) :: us, []⟩ (Value.ref (hp.objs.size + 1) :: (us ++ ds)) _ _ (fun _ _ _ => False) (hr.make C us []) (I2.env0.make C us []) (hb _ (Value.ref (hp.objs.size + 1) :: us) I2.kIn hl) r2 hq) fun r s' hq' => ?_))
  cases r with
  | error er => exact hx pins σ _ _ er s' I2 hq'
  | ok fl =>
    cases fl with
    | ret u =>
      obtain ⟨v, H2, os2, bare2, un2, hok2, rv, ev, q2⟩ := hq'
      subst ev
      exact ⟨rv, .ref (hp.objs.size + 1), H2, I2.call' (ch := []) os2 un2 hok2 bare2 (fun b z => absurd z (by simp)), rfl, q2⟩
    | next => exact False.elim hq'
    | brk => exact False.elim hq'
    | cont => exact False.elim hq'
def exvK (x fld : Str) : Vl → Store → Rs Vl := fun v st => match v with
  | .d d => .ok (.r st.length) (st ++ [.exv x [(fld, d)]])
  | _ => .bad
def eExvF (x fld : Str) (f : DE) : DE := fun δ st => (f δ st).bind (exvK x fld)
theorem de_exvF {fI : Addr} {x fld p qual : Str} {params : Arguments} {body : List Stmt} {scope : Scope} {fd : FuncData} {e : Expr} {f : DE} {p1 : Pos} (tk : Takes X W) (T : SupC X.prog X.K (He.ga X.K x) fI fld qual params body scope fd)
    (F1 : FnOk X.prog X.w X.K X.mg X.base (L2.CX X.prog X.w) 1 fI fd ["self", p] (spSI (He.ga X.K x) fld)) (hr : Room 2 X.A) (hb : Binds X.K fd ["self", p] []) (hg : Gl X x) (hm : X.mg x = some (.ref (He.ga X.K x))) (he : DEx X W e f) (hdb : (x == ("__debug__" : Str)) = false := by decide)
    (hs : starEach [e] X.env = (false, eval e X.env) :: starEach [] X.env := by rfl) : DEx X W (.Call (.Name x p1) [e] [] pos) (eExvF x fld f) :=
  PE.imp (pe_oex (CX := L2.CX X.prog X.w) T.oex T.ini T.tyf F1 hr hb (dvs := []) .nil (passes_call tk fun _ _ _ _ z => z.elim) hg hm (pa_cons he pa_nil hs) hdb hs) fun σ H Q h =>
    tE.bind (γ := Vl) (k := fun _ => exvK x fld) h fun δ μ1 H1 v st1 y hE hS ry q => by
      unfold exvK at q
      split at q
      · rename_i d
        refine ⟨by show 1 ≤ 1000; decide, fun a ha => ⟨a, y, rfl, upd_same, fun dx hd ne => ⟨rfl, ?_⟩⟩⟩
        have hd1 : H1 dx = none := by rw [upd_ne ne] at hd; exact hd
        have eH : upd (upd (upd H1 a (exo a (He.ga X.K x) none)) dx (exd dx [(fld, y)])) a (exo a (He.ga X.K x) (some dx)) = upd (upd H1 dx (exd dx [(fld, y)])) a (exo a (He.ga X.K x) (some dx)) := by
          funext b
          by_cases hba : b = a
          · subst hba; rw [upd_same, upd_same]
          · rw [upd_ne hba, upd_ne hba]
            by_cases hb : b = dx
            · subst hb; rw [upd_same, upd_same]
            · rw [upd_ne hb, upd_ne hb, upd_ne hba]
        rw [eH]
        have s1 : Step μ1 H1 μ1 (upd H1 dx (exd dx [(fld, y)])) := step_new hd1
        have S1 := hS.new (o := exd dx [(fld, y)]) hd1
        have ha1 : upd H1 dx (exd dx [(fld, y)]) a = none := by rw [upd_ne ne.symm]; exact ha
        have nd : dx ∉ μ1 := hS.nin hd1
        obtain ⟨s2, S2⟩ := S1.pushO (ob := .exv x [(fld, d)]) (u := exo a (He.ga X.K x) (some dx)) ha1 fun s => .inr ⟨dx, [(fld, y)], upd_same, ⟨by rw [upd_ne ne, upd_same], fun z => by
          rcases z with z | z
          · rcases List.mem_append.mp z with z | z
            · exact nd (.inl z)
            · exact ne (by simpa using z)
          · exact nd (.inr z)⟩, rfl, .cons (Rp.step s (Rp.step s1 ry)) .nil⟩
        exact q _ _ _ (s1.trans s2) S2 ⟨a, S1.new_at, rfl⟩
      · exact q.elim
/-- the exception at n -/
def exvAt (st : Store) (n : Nat) : Option (Str × List (Str × D)) := match st[n]? with
  | some (.exv cn fs) => some (cn, fs)
  | _ => none
def ExA (K : PySem.W.Frag) (μ : Mu) (H : Hp) (a : Addr) (cn : Str) (fs : List (Str × D)) : Prop := RO K μ H a (.exv cn fs)
theorem exvAt_ok {K : PySem.W.Frag} {μ : Mu} {H : Hp} {st : Store} {n : Nat} {cn : Str} {fs : List (Str × D)} {v : V} (S : RepS K μ H st) (e : exvAt st n = some (cn, fs)) (r : RV K μ H (.r n) v) : ∃ p, v = .ref p ∧ ExA K μ H p cn fs := by
  obtain ⟨p, h1, h2⟩ := r
  unfold exvAt at e
  cases q : st[n]? with
  | none => rw [q] at e; cases e
  | some o =>
    rw [q] at e
    cases o with
    | exv cn' fs' =>
      cases e
      exact ⟨p, h2, S.ob n p _ h1 q⟩
    | _ => cases e
/-! ### e.f of an exception -/
theorem lookup_keys {f : Str} : ∀ {gs : List (Str × V)} {fs : List (Str × D)} {K : PySem.W.Frag} {μ : Mu} {H : Hp} {d : D}, fkeys gs = fkeys fs → RpL K μ H (fvals fs) (fvals gs) → fs.lookup f = some d → ∃ v, gs.lookup f = some v ∧ Rp K μ H d v
  | [], [], _, _, _, _, _, _, e => by cases e
  | [], _ :: _, _, _, _, _, k, _, _ => by cases k
  | _ :: _, [], _, _, _, _, k, _, _ => by cases k
  | (g, v) :: gs, (f', d') :: fs, _, _, _, d, k, r, e => by
    have k1 : g :: fkeys gs = f' :: fkeys fs := k
    injection k1 with k1 k2
    subst k1
    have r : RpL _ _ _ (d' :: fvals fs) (v :: fvals gs) := r
    cases r with
    | cons r1 r2 =>
      have e : (match f == g with | true => some d' | false => fs.lookup f) = some d := e
      show ∃ u, (match f == g with | true => some v | false => gs.lookup f) = some u ∧ _
      cases h : f == g with
      | true => rw [h] at e; cases e; exact ⟨v, rfl, r1⟩
      | false => rw [h] at e; exact lookup_keys k2 r2 e
def tXfv (K : PySem.W.Frag) (f : Str) (te : TE) : TE := fun σ H Q => te σ H fun x H1 => ∃ (a C dx : Addr) (fs : List (Str × V)) (v : V), x = .ref a ∧ XfC K C ∧ PySem.W.findIn K (.ref C) f = some none ∧ H1 a = some (exo a C (some dx)) ∧ H1 dx = some (exd dx fs) ∧ fs.lookup f = some v ∧ Q v H1
theorem pe_xfv {e : Expr} {te : TE} {n : Str} (he : PE X e te) (hb : attributeBase e n X.env (eval e X.env) = eval e X.env := by rfl) : PE X (.Attribute e n pos) (tXfv X.K n te) := by
  refine ⟨fun pins s σ H Q I h => ?_⟩
  refine attr_of hb (thn (he.run pins s σ H _ I h) fun u s1 ⟨x, H1, I1, rx, a, C, dx, fs, v, ex, T, hno, ea, ed, l, q⟩ => ?_)
  subst ex
  obtain rfl : u = Value.ref a := rx
  obtain ⟨t1, ho⟩ := exo_at I1.hok ea
  obtain ⟨mA, hns, rel⟩ := exd_at I1.hok ed
  obtain ⟨od, hod, hl⟩ := lookIn_ns hns
  obtain ⟨u, hu, ru⟩ := RelO.some_of (v := v) (o := mA n) (by rw [← l]; exact rel n)
  have J : PySem.W.InstAt s1.heap a { cls := .ref C, dict := some dx, data := .fields #[.ref t1, .none, .none, .none, .bool false, .none] } C (some od) := ⟨ho, rfl, rfl, hod⟩
  exact HandSPX.exc_get I1.kIn J T.ga T.gg T.exC (PySem.W.findObj_own T.hdC hno rfl (by rw [hl, hu])) (handed_of ru) ⟨v, H1, I1.tok _, ru, q⟩
def fldEK (tb : Str → Bool) (f : Str) : Vl → Store → Rs Vl := fun x st => match x with
  | .r n => (match exvAt st n with
    | some (cn, fs) => if tb cn = true then optR st (fs.lookup f) else .bad
    | none => .bad)
  | _ => .bad
def eFldE (tb : Str → Bool) (f : Str) (g : DE) : DE := fun δ st => (g δ st).bind (fldEK tb f)
theorem de_fldE {e : Expr} {g : DE} {n : Str} {tb : Str → Bool} (ht : ∀ cn, tb cn = true → XfC X.K (He.ga X.K cn) ∧ PySem.W.findIn X.K (.ref (He.ga X.K cn)) n = some none) (he : DEx X W e g) (hb : attributeBase e n X.env (eval e X.env) = eval e X.env := by rfl) :
    DEx X W (.Attribute e n pos) (eFldE tb n g) := PE.imp (pe_xfv he hb) fun σ H Q h =>
  tE.bind (γ := Vl) (k := fun _ => fldEK tb n) h fun δ μ1 H1 x st1 v hE hS rx q => by
    unfold fldEK at q
    split at q
    · rename_i m
      cases e1 : exvAt st1 m with
      | none => rw [e1] at q; exact q.elim
      | some p =>
        obtain ⟨cn, fs⟩ := p
        rw [e1] at q
        have q : Den X.K X.mg (RV X.K) _ Q μ1 H1 (if tb cn = true then optR st1 (fs.lookup n) else .bad) := q
        by_cases hb : tb cn = true
        · rw [if_pos hb] at q
          obtain ⟨T, hno⟩ := ht cn hb
          cases e2 : fs.lookup n with
          | none => rw [e2] at q; exact q.elim
          | some d =>
            rw [e2] at q
            obtain ⟨a, rfl, ro⟩ := exvAt_ok hS e1 rx
            rcases ro with ⟨z, _⟩ | ⟨dx, gs, h1, h2, hk, r⟩
            · subst z; cases e2
            · obtain ⟨u, l, ru⟩ := lookup_keys hk r e2
              exact ⟨a, _, dx, gs, u, rfl, T, hno, h1, h2.1, l, q u μ1 H1 .refl hS ru⟩
        · rw [if_neg hb] at q; exact q.elim
    · exact q.elim
end
/-! ### isinstance(e, C) -/
/-- what the class D must say, so that isinstance asks its instances rightly -/
def excCB (K : PySem.W.Frag) (D : Addr) : Bool := (PySem.W.clsIn K D).isSome && (decide (PySem.W.findIn K (.ref D) "__getattribute__" = some (some (.builtin "BaseException.__getattribute__"))) && (decide (PySem.W.findIn K (.ref D) "__getattr__" = some none) && (decide (PySem.W.subIn K (.ref D) (.type "BaseException") = some true) &&
  (decide (PySem.W.findIn K (.ref D) "__class__" = some (some (.builtin "object.__class__"))) && (decide (PySem.W.specialIn K (.builtin "object.__class__") "__get__" = some (some (.builtin "getset_descriptor.__get__"))) && (decide (PySem.W.takesIn K (.builtin "object.__class__") = some true) && decide (PySem.W.mroIn K D (.type "object") = some true)))))))
theorem excCB_kit {K : PySem.W.Frag} {D x : Addr} {ox : Obj} {od : Option Obj} (h : excCB K D = true) : PySem.W.KitX K (.ref x) (.ref D) (fun h => PySem.W.InstAt h x ox D od) := by
  obtain ⟨h1, h⟩ := Bool.and_eq_true_iff.mp h
  obtain ⟨h2, h⟩ := Bool.and_eq_true_iff.mp h
  obtain ⟨h3, h⟩ := Bool.and_eq_true_iff.mp h
  obtain ⟨h4, h⟩ := Bool.and_eq_true_iff.mp h
  obtain ⟨h5, h⟩ := Bool.and_eq_true_iff.mp h
  obtain ⟨h6, h⟩ := Bool.and_eq_true_iff.mp h
  obtain ⟨h7, h8⟩ := Bool.and_eq_true_iff.mp h
  exact PySem.W.kitx_exc h1 (of_decide_eq_true h2) (of_decide_eq_true h3) (of_decide_eq_true h4) (of_decide_eq_true h5) (of_decide_eq_true h6) (of_decide_eq_true h7) (of_decide_eq_true h8)
/-- a value's class: a data type's, an instance's, an exception's -/
def TyE (K : PySem.W.Frag) (H : Hp) (x : V) (t : Value) : Prop := TyX K H x t ∨ ∃ a C, x = .ref a ∧ t = .ref C ∧ excCB K C = true ∧ (H a = some (ExO (.ref C) a) ∨ ∃ dx gs, H a = some (exo a C (some dx)) ∧ H dx = some (exd dx gs))
def rIsC (K : PySem.W.Frag) : List V → Hp → VK → Prop := fun xs H Q => ∃ (x c : V) (t u : Value) (b : Bool), xs = [x, c] ∧ ClsV c u ∧ TyE K H x t ∧ PySem.W.kitOne K t u = some b ∧ Q (.bl b) H
theorem call_isC {X : Cx} : CallR X (.builtin "isinstance") (rIsC X.K) := by
  intro pins s σ H xs us Q I r h
  obtain ⟨x, c, t, u, b, rfl, k, ty, e, q⟩ := h
  obtain ⟨u1, u2, rfl, r1, r2⟩ := vals2 r
  have e2 := k.eq r2
  subst e2
  rcases ty with ty | ⟨a, C, rfl, rfl, hC, h⟩
  · obtain ⟨P, Z, p, hx⟩ := kit_of I r1 ty
    exact PySem.W.kia_one Z I.kIn p e hx fun tk => ⟨.bl b, H, I.tok tk, rfl, q⟩
  · obtain rfl : u1 = Value.ref a := r1
    rcases h with ea | ⟨dx, gs, ea, ed⟩
    · obtain ⟨⟨oe, vs, ho, ⟨z1, z2⟩, hd, _⟩, _, _⟩ := (show ObjOk X.prog X.w H s.heap a (ExO (.ref C) a) from I.hok a _ ea)
      obtain ⟨oc, od, oda, osl⟩ := oe
      dsimp only at z1 z2 hd
      subst z1 z2 hd
      exact PySem.W.kia_one (excCB_kit (ox := ⟨.ref C, none, .fields vs, osl⟩) (od := none) hC) I.kIn ⟨ho, rfl, rfl, trivial⟩ e (fun z => nomatch z) fun tk => ⟨.bl b, H, I.tok tk, rfl, q⟩
    · obtain ⟨t1, ho⟩ := exo_at I.hok ea
      obtain ⟨mA, hns, rel⟩ := exd_at I.hok ed
      obtain ⟨oD, es, ep, hoD, _⟩ := hns
      exact PySem.W.kia_one (excCB_kit (ox := { cls := .ref C, dict := some dx, data := .fields #[.ref t1, .none, .none, .none, .bool false, .none] }) (od := some oD) hC) I.kIn ⟨ho, rfl, rfl, hoD⟩ e (fun z => nomatch z) fun tk => ⟨.bl b, H, I.tok tk, rfl, q⟩
/-- the answer for exceptions by class -/
def isEK (te : Str → Option Bool) : Vl → Store → Rs Vl := fun x st => match x with
  | .r n => (match (exvAt st n).bind fun p => te p.1 with
    | some b => .ok (.d (.bool b)) st
    | none => .bad)
  | _ => .bad
def eIsE (te : Str → Option Bool) (f : DE) : DE := fun δ st => (f δ st).bind (isEK te)
section
variable {X : Cx} {W : WX} {pos : Pos}
theorem isE_den {te : Str → Option Bool} {u : Value} {c : V} (hc : ClsV c u) (ht : ∀ cn b, te cn = some b → excCB X.K (He.ga X.K cn) = true ∧ PySem.W.kitOne X.K (.ref (He.ga X.K cn)) u = some b) {f : DE} {σ : L2.St} {H : Hp} {Q : VK} (h : tE X.K X.mg W (eIsE te f) σ H Q) :
    tE X.K X.mg W f σ H fun x H1 => rIsC X.K [x, c] H1 Q :=
  tE.bind (γ := Vl) (k := fun _ => isEK te) h fun δ μ1 H1 x st1 v hE hS rx q => by
    unfold isEK at q
    split at q
    · rename_i m
      cases e1 : exvAt st1 m with
      | none => rw [e1] at q; exact q.elim
      | some p =>
        obtain ⟨cn, fs⟩ := p
        rw [e1] at q
        have q : Den X.K X.mg (RV X.K) _ Q μ1 H1 (match te cn with | some b => .ok (.d (.bool b)) st1 | none => .bad) := q
        cases e2 : te cn with
        | none => rw [e2] at q; exact q.elim
        | some b =>
          rw [e2] at q
          obtain ⟨h1, h2⟩ := ht cn b e2
          obtain ⟨a, rfl, ro⟩ := exvAt_ok hS e1 rx
          refine ⟨_, c, _, u, b, rfl, hc, .inr ⟨a, _, rfl, rfl, h1, ?_⟩, h2, q _ μ1 H1 .refl hS (.bl _)⟩
          rcases ro with ⟨_, z⟩ | ⟨dx, gs, z1, z2, _⟩
          · exact .inl z
          · exact .inr ⟨dx, gs, z1, z2.1⟩
    · exact q.elim
theorem de_isE {e : Expr} {x : Str} {f : DE} {te : Str → Option Bool} {p p2 : Pos} (hg : Gl X "isinstance") (hm : X.mg "isinstance" = none) (hg2 : Gl X x) (hm2 : X.mg x = some (.ref (He.ga X.K x))) (hd : (x == ("__debug__" : Str)) = false) (he : DEx X W e f)
    (ht : ∀ cn b, te cn = some b → excCB X.K (He.ga X.K cn) = true ∧ PySem.W.kitOne X.K (.ref (He.ga X.K cn)) (.ref (He.ga X.K x)) = some b)
    (h1 : starEach [e, .Name x p2] X.env = (false, eval e X.env) :: starEach [.Name x p2] X.env := by rfl) (h2 : starEach [.Name x p2] X.env = (false, eval (.Name x p2) X.env) :: starEach [] X.env := by rfl)
    (hpl : (backTo pos (starEach [.Name x p2] X.env)).any (·.1) = false := by rfl) : DEx X W (.Call (.Name "isinstance" p) [e, .Name x p2] [] pos) (eIsE te f) :=
  PE.imp (pe_callB call_isC hg hm (by decide +kernel) (pa_cons he (pa_cons (pe_glob (v := .ref (He.ga X.K x)) hg2 hm2 rfl hd) pa_nil h2) h1) (he := h1) (hpl := hpl)) fun σ H Q q => isE_den (.own _) ht q
theorem de_isEB {e : Expr} {x : Str} {T : String} {f : DE} {te : Str → Option Bool} {p p2 : Pos} (hg : Gl X "isinstance") (hm : X.mg "isinstance" = none) (hg2 : Gl X x) (hm2 : X.mg x = none) (hv : bootBuiltins x = some (.type T)) (hn : x ≠ "__name__") (hd : (x == ("__debug__" : Str)) = false) (he : DEx X W e f)
    (ht : ∀ cn b, te cn = some b → excCB X.K (He.ga X.K cn) = true ∧ PySem.W.kitOne X.K (.ref (He.ga X.K cn)) (.type T) = some b)
    (h1 : starEach [e, .Name x p2] X.env = (false, eval e X.env) :: starEach [.Name x p2] X.env := by rfl) (h2 : starEach [.Name x p2] X.env = (false, eval (.Name x p2) X.env) :: starEach [] X.env := by rfl)
    (hpl : (backTo pos (starEach [.Name x p2] X.env)).any (·.1) = false := by rfl) : DEx X W (.Call (.Name "isinstance" p) [e, .Name x p2] [] pos) (eIsE te f) :=
  PE.imp (pe_callB call_isC hg hm (by decide +kernel) (pa_cons he (pa_cons (pe_bltn (v := .ty T) hg2 hm2 hv rfl hn hd) pa_nil h2) h1) (he := h1) (hpl := hpl)) fun σ H Q q => isE_den (.ty T) ht q
end
/-- the answers by name -/
def kTab (l : List (Str × Str × Bool)) (y cn : Str) : Option Bool := (l.find? fun p => p.1 == cn && p.2.1 == y).map (·.2.2)
theorem kTab_mem {l : List (Str × Str × Bool)} {y cn : Str} {b : Bool} (h : kTab l y cn = some b) : (cn, y, b) ∈ l := by
  unfold kTab at h
  cases e : l.find? fun p => p.1 == cn && p.2.1 == y with
  | none => rw [e] at h; cases h
  | some p =>
    rw [e] at h
    have h1 := List.find?_some e
    have h2 := List.mem_of_find?_eq_some e
    obtain ⟨a, b', v⟩ := p
    simp only [Bool.and_eq_true, beq_iff_eq] at h1
    obtain ⟨rfl, rfl⟩ := h1
    cases h
    exact h2
theorem kits_sub {l : List (Str × Str × Bool)} {e : List Str} (h : (l.all fun p => e.contains p.1) = true) {a b : Str} {v : Bool} (m : (a, b, v) ∈ l) : a ∈ e := by
  have := List.all_eq_true.mp h _ m
  simpa using this
/-! ### over a scope -/
section
variable {U : Wd} {X : Cx} {W : WX} {N : List Str} {sc : Scope} {F : Str → Bool} {k : Nat} {pos : Pos}
theorem Cz.fn (c : Cz U X W N sc F k) {x : Str} (hm : U.mg x = some (.ref (He.ga U.K x))) (hg : sc.names.lookup x = some .globalImplicit := by rfl) (hd : (x == ("__debug__" : Str)) = false := by decide) : DEx X W (.Name x pos) (eF x) :=
  de_f (c.gl hg) (by rw [c.e4, c.e3]; exact hm) hd
theorem Cz.exv (c : Cz U X W N sc F k) {x : Str} {e : Expr} {f : DE} {p : Pos} (hx : He.Fa.ok U.K (.exc x) = true) (hm : U.mg x = some (.ref (He.ga U.K x))) (he : DEx X W e f) (hg : sc.names.lookup x = some .globalImplicit := by rfl) (hs : starEach [e] X.env = (false, eval e X.env) :: starEach [] X.env := by rfl)
    (hdb : (x == ("__debug__" : Str)) = false := by decide) : DEx X W (.Call (.Name x p) [e] [] pos) (eExv x f) := by
  rw [← c.e3] at hx hm
  rw [← c.e4] at hm
  obtain ⟨q, kC, h1, h2⟩ := He.exc_ok hx
  exact de_exv q hm kC (c.gl hg) he hs hdb
theorem Cz.exvF (c : Cz U X W N sc F (k + 2)) {fI : Addr} {x fld p qual : Str} {params : Arguments} {body : List Stmt} {scope : Scope} {fd : FuncData} {e : Expr} {f : DE} {p1 : Pos} (T : SupC U.P U.K (He.ga U.K x) fI fld qual params body scope fd)
    (F1 : FnOk U.P U.w U.K U.mg U.base (L2.CX U.P U.w) 1 fI fd ["self", p] (spSI (He.ga U.K x) fld)) (hb : Binds U.K fd ["self", p] []) (hm : U.mg x = some (.ref (He.ga U.K x))) (he : DEx X W e f) (hg : sc.names.lookup x = some .globalImplicit := by rfl) (hdb : (x == ("__debug__" : Str)) = false := by decide)
    (hs : starEach [e] X.env = (false, eval e X.env) :: starEach [] X.env := by rfl) : DEx X W (.Call (.Name x p1) [e] [] pos) (eExvF x fld f) :=
  de_exvF (fI := fI) c.tk (by rw [c.e1, c.e3]; exact T) (by rw [c.e1, c.e2, c.e3, c.e4, c.e5]; exact F1) (c.room.mono (by omega)) (by rw [c.e3]; exact hb) (c.gl hg) (by rw [c.e4, c.e3]; exact hm) he hdb hs
theorem Cz.isE (c : Cz U X W N sc F k) {e : Expr} {x : Str} {f : DE} {te : Str → Option Bool} {p p2 : Pos} (hm : U.mg "isinstance" = none) (hm2 : U.mg x = some (.ref (He.ga U.K x)))
    (ht : ∀ cn b, te cn = some b → excCB U.K (He.ga U.K cn) = true ∧ PySem.W.kitOne U.K (.ref (He.ga U.K cn)) (.ref (He.ga U.K x)) = some b) (he : DEx X W e f) (hg : sc.names.lookup ("isinstance" : Str) = some .globalImplicit := by rfl) (hg2 : sc.names.lookup x = some .globalImplicit := by rfl) (hd : (x == ("__debug__" : Str)) = false := by decide)
    (h1 : starEach [e, .Name x p2] X.env = (false, eval e X.env) :: starEach [.Name x p2] X.env := by rfl) (h2 : starEach [.Name x p2] X.env = (false, eval (.Name x p2) X.env) :: starEach [] X.env := by rfl)
    (hpl : (backTo pos (starEach [.Name x p2] X.env)).any (·.1) = false := by rfl) : DEx X W (.Call (.Name "isinstance" p) [e, .Name x p2] [] pos) (eIsE te f) :=
  de_isE (c.gl hg) (by rw [c.e4]; exact hm) (c.gl hg2) (by rw [c.e4, c.e3]; exact hm2) hd he (by rw [c.e3]; exact ht) h1 h2 hpl
theorem Cz.isEB (c : Cz U X W N sc F k) {e : Expr} {x : Str} {T : String} {f : DE} {te : Str → Option Bool} {p p2 : Pos} (hm : U.mg "isinstance" = none) (hm2 : U.mg x = none)
    (ht : ∀ cn b, te cn = some b → excCB U.K (He.ga U.K cn) = true ∧ PySem.W.kitOne U.K (.ref (He.ga U.K cn)) (.type T) = some b) (he : DEx X W e f) (hv : bootBuiltins x = some (.type T) := by rfl) (hg : sc.names.lookup ("isinstance" : Str) = some .globalImplicit := by rfl) (hg2 : sc.names.lookup x = some .globalImplicit := by rfl) (hn : x ≠ "__name__" := by decide) (hd : (x == ("__debug__" : Str)) = false := by decide)
    (h1 : starEach [e, .Name x p2] X.env = (false, eval e X.env) :: starEach [.Name x p2] X.env := by rfl) (h2 : starEach [.Name x p2] X.env = (false, eval (.Name x p2) X.env) :: starEach [] X.env := by rfl)
    (hpl : (backTo pos (starEach [.Name x p2] X.env)).any (·.1) = false := by rfl) : DEx X W (.Call (.Name "isinstance" p) [e, .Name x p2] [] pos) (eIsE te f) :=
  de_isEB (c.gl hg) (by rw [c.e4]; exact hm) (c.gl hg2) (by rw [c.e4]; exact hm2) hv hn hd he (by rw [c.e3]; exact ht) h1 h2 hpl
theorem Cz.fldE (c : Cz U X W N sc F k) {e : Expr} {g : DE} {n : Str} {tb : Str → Bool} (ht : ∀ cn, tb cn = true → XfC U.K (He.ga U.K cn) ∧ PySem.W.findIn U.K (.ref (He.ga U.K cn)) n = some none) (he : DEx X W e g) (hb : attributeBase e n X.env (eval e X.env) = eval e X.env := by rfl) :
    DEx X W (.Attribute e n pos) (eFldE tb n g) := de_fldE (by rw [c.e3]; exact ht) he hb
end
/-! ### reading rules -/
section
variable {st : Store} {δ : DEnv} {f g : DE} {a b : Str} {i : Int} {x y : Str} {n : Nat}
@[simp] theorem x_F : eF x δ st = .ok (.f x) st := id rfl
@[simp] theorem x_Mix {a : DA} : eMix a δ st = (a δ st).bind (mixK false) := id rfl
@[simp] theorem x_MxT {a : DA} : eMxT a δ st = (a δ st).bind (mixK true) := id rfl
@[simp] theorem x_mixK {t : Bool} {xs : List Vl} : mixK t xs st = if szOk xs.length = true then .ok (.r st.length) (st ++ [.mix t xs]) else .bad := id rfl
@[simp] theorem x_Exv : eExv x f δ st = (f δ st).bind fun _ st1 => .ok (.r st1.length) (st1 ++ [.exv x []]) := id rfl
@[simp] theorem x_ExvF : eExvF x y f δ st = (f δ st).bind (exvK x y) := id rfl
@[simp] theorem x_exvK {d : D} : exvK x y (.d d) st = .ok (.r st.length) (st ++ [.exv x [(y, d)]]) := id rfl
@[simp] theorem x_FldE {tb : Str → Bool} : eFldE tb x f δ st = (f δ st).bind (fldEK tb x) := id rfl
@[simp] theorem x_IsE {te : Str → Option Bool} : eIsE te f δ st = (f δ st).bind (isEK te) := id rfl
@[simp] theorem mix_app {l : Store} : mixAt (st ++ l) (st.length + n) = mixAt l n := by
  unfold mixAt
  rw [List.getElem?_append_right (Nat.le_add_right _ _), Nat.add_sub_cancel_left]
@[simp] theorem mix_app0 {l : Store} : mixAt (st ++ l) st.length = mixAt l 0 := mix_app (n := 0)
@[simp] theorem exv_app {l : Store} : exvAt (st ++ l) (st.length + n) = exvAt l n := by
  unfold exvAt
  rw [List.getElem?_append_right (Nat.le_add_right _ _), Nat.add_sub_cancel_left]
@[simp] theorem exv_app0 {l : Store} : exvAt (st ++ l) st.length = exvAt l 0 := exv_app (n := 0)
@[simp] theorem mix_0 {t : Bool} {xs : List Vl} {l : Store} : mixAt (.mix t xs :: l) 0 = some (t, xs) := id rfl
@[simp] theorem mix_s {o : Ob} {l : Store} : mixAt (o :: l) (n + 1) = mixAt l n := id rfl
@[simp] theorem exv_0 {fs : List (Str × D)} {l : Store} : exvAt (.exv x fs :: l) 0 = some (x, fs) := id rfl
@[simp] theorem exv_s {o : Ob} {l : Store} : exvAt (o :: l) (n + 1) = exvAt l n := id rfl
@[simp] theorem x_addM {m : Nat} : addM (.r n) (.r m) st = (match mixAt st n, mixAt st m with
    | some (false, xs), some (false, ys) => if szOk (xs.length + ys.length) = true then .ok (.r st.length) (st ++ [.mix false (xs ++ ys)]) else .bad
    | _, _ => .bad) := id rfl
@[simp] theorem x_ixM : ixM (.r n) (.d (.int i)) st = (match (mixAt st n).bind fun p => L2.atI p.2 i with
    | some z => .ok z st
    | none => .bad) := id rfl
@[simp] theorem x_lenM : lenM [.r n] st = (match mixAt st n with
    | some p => .ok (.d (.int p.2.length)) st
    | none => .bad) := id rfl
@[simp] theorem x_fldEK {tb : Str → Bool} : fldEK tb x (.r n) st = (match exvAt st n with
    | some (cn, fs) => if tb cn = true then optR st (fs.lookup x) else .bad
    | none => .bad) := id rfl
@[simp] theorem x_isEK {te : Str → Option Bool} : isEK te (.r n) st = (match (exvAt st n).bind fun p => te p.1 with
    | some b => .ok (.d (.bool b)) st
    | none => .bad) := id rfl
end
end DL
namespace Law
open PySem PySem.Spec L2 DL
def top (i : Nat) : Stmt := PySem.Challenge.pw_anyminute_k17_errors_and_their_classes.main.body.getD i (.Pass ⟨0, 0, 0, 0⟩)
abbrev s__law_sack : Stmt := top 16
abbrev s__law_dig : Stmt := top 17
abbrev s__law_pick : Stmt := top 18
abbrev s__law_all_errors : Stmt := top 19
abbrev s__law_classes : Stmt := top 20
abbrev s_law : Stmt := top 21
def d__law_sack : He.DefD := ⟨("_law_sack", none), "_law_sack", "_law_sack", defArgs s__law_sack, defBody s__law_sack, defScope s__law_sack, [], []⟩
def d__law_dig : He.DefD := ⟨("_law_dig", none), "_law_dig", "_law_dig", defArgs s__law_dig, defBody s__law_dig, defScope s__law_dig, [], []⟩
def d__law_pick : He.DefD := ⟨("_law_pick", none), "_law_pick", "_law_pick", defArgs s__law_pick, defBody s__law_pick, defScope s__law_pick, [], []⟩
def d__law_all_errors : He.DefD := ⟨("_law_all_errors", none), "_law_all_errors", "_law_all_errors", defArgs s__law_all_errors, defBody s__law_all_errors, defScope s__law_all_errors, [], []⟩
def d__law_classes : He.DefD := ⟨("_law_classes", none), "_law_classes", "_law_classes", defArgs s__law_classes, defBody s__law_classes, defScope s__law_classes, [], []⟩
def d_law : He.DefD := ⟨("law", none), "law", "law", defArgs s_law, defBody s_law, defScope s_law, [], []⟩
def fn : List He.DefD := ([d__law_sack, d__law_dig, d__law_pick, d__law_all_errors, d__law_classes, d_law] : List He.DefD)
def fa : List He.Fa := ([.glo "_law_sack", .glo "_law_dig", .glo "_law_pick", .glo "_law_all_errors", .glo "_law_classes", .glo "law", .free "ValueError", .free "abs", .free "int", .free "isinstance", .free "len", .free "max", .free "min", .free "range", .free "super", .glo "MinuteError", .glo "InvalidTown", .glo "InvalidFacts", .glo "InvalidJourney", .glo "InvalidStanding", .glo "InvalidLine", .glo "InvalidNumber", .glo "InvalidIndex", .glo "InvalidStep", .glo "Impossible", .glo "Unlike", .glo "NothingToUndo", .glo "TooMany", .glo "InvalidText", .exc "MinuteError"] : List He.Fa) ++ ([.exc "InvalidTown", .exc "InvalidFacts", .exc "InvalidJourney", .exc "InvalidStanding", .exc "InvalidLine", .exc "InvalidNumber", .exc "InvalidIndex", .exc "InvalidStep", .exc "Impossible", .exc "Unlike", .exc "NothingToUndo"] : List He.Fa)
abbrev z_TooMany : Stmt := clsStmt (top 13) 0
def u_TooMany : SupD := ⟨"TooMany", "limit", "TooMany.__init__", defArgs z_TooMany, defBody z_TooMany, defScope z_TooMany⟩
abbrev z_InvalidText : Stmt := clsStmt (top 14) 0
def u_InvalidText : SupD := ⟨"InvalidText", "row", "InvalidText.__init__", defArgs z_InvalidText, defBody z_InvalidText, defScope z_InvalidText⟩
def sups : List SupD := [u_TooMany, u_InvalidText]
def excs : List Str := ["MinuteError", "InvalidTown", "InvalidFacts", "InvalidJourney", "InvalidStanding", "InvalidLine", "InvalidNumber", "InvalidIndex", "InvalidStep", "Impossible", "Unlike", "NothingToUndo", "TooMany", "InvalidText"]
def kitO : List (Str × Str × Bool) := ([("MinuteError", "InvalidTown", false), ("InvalidTown", "InvalidTown", true), ("InvalidFacts", "InvalidTown", false), ("InvalidJourney", "InvalidTown", false), ("InvalidStanding", "InvalidTown", false), ("InvalidLine", "InvalidTown", false), ("InvalidNumber", "InvalidTown", false), ("InvalidIndex", "InvalidTown", false), ("InvalidStep", "InvalidTown", false), ("Impossible", "InvalidTown", false), ("Unlike", "InvalidTown", false), ("NothingToUndo", "InvalidTown", false), ("TooMany", "InvalidTown", false), ("InvalidText", "InvalidTown", false), ("MinuteError", "InvalidFacts", false), ("InvalidTown", "InvalidFacts", false), ("InvalidFacts", "InvalidFacts", true), ("InvalidJourney", "InvalidFacts", false), ("InvalidStanding", "InvalidFacts", false), ("InvalidLine", "InvalidFacts", false), ("InvalidNumber", "InvalidFacts", false), ("InvalidIndex", "InvalidFacts", false), ("InvalidStep", "InvalidFacts", false), ("Impossible", "InvalidFacts", false), ("Unlike", "InvalidFacts", false), ("NothingToUndo", "InvalidFacts", false), ("TooMany", "InvalidFacts", false), ("InvalidText", "InvalidFacts", false), ("MinuteError", "InvalidJourney", false), ("InvalidTown", "InvalidJourney", false)] : List (Str × Str × Bool)) ++ ([("InvalidFacts", "InvalidJourney", false), ("InvalidJourney", "InvalidJourney", true), ("InvalidStanding", "InvalidJourney", false), ("InvalidLine", "InvalidJourney", false), ("InvalidNumber", "InvalidJourney", false), ("InvalidIndex", "InvalidJourney", false), ("InvalidStep", "InvalidJourney", false), ("Impossible", "InvalidJourney", false), ("Unlike", "InvalidJourney", false), ("NothingToUndo", "InvalidJourney", false), ("TooMany", "InvalidJourney", false), ("InvalidText", "InvalidJourney", false), ("MinuteError", "InvalidStanding", false), ("InvalidTown", "InvalidStanding", false), ("InvalidFacts", "InvalidStanding", false), ("InvalidJourney", "InvalidStanding", false), ("InvalidStanding", "InvalidStanding", true), ("InvalidLine", "InvalidStanding", false), ("InvalidNumber", "InvalidStanding", false), ("InvalidIndex", "InvalidStanding", false), ("InvalidStep", "InvalidStanding", false), ("Impossible", "InvalidStanding", false), ("Unlike", "InvalidStanding", false), ("NothingToUndo", "InvalidStanding", false), ("TooMany", "InvalidStanding", false), ("InvalidText", "InvalidStanding", false), ("MinuteError", "InvalidLine", false), ("InvalidTown", "InvalidLine", false), ("InvalidFacts", "InvalidLine", false), ("InvalidJourney", "InvalidLine", false)] : List (Str × Str × Bool)) ++ ([("InvalidStanding", "InvalidLine", false), ("InvalidLine", "InvalidLine", true), ("InvalidNumber", "InvalidLine", false), ("InvalidIndex", "InvalidLine", false), ("InvalidStep", "InvalidLine", false), ("Impossible", "InvalidLine", false), ("Unlike", "InvalidLine", false), ("NothingToUndo", "InvalidLine", false), ("TooMany", "InvalidLine", false), ("InvalidText", "InvalidLine", false), ("MinuteError", "InvalidNumber", false), ("InvalidTown", "InvalidNumber", false), ("InvalidFacts", "InvalidNumber", false), ("InvalidJourney", "InvalidNumber", false), ("InvalidStanding", "InvalidNumber", false), ("InvalidLine", "InvalidNumber", false), ("InvalidNumber", "InvalidNumber", true), ("InvalidIndex", "InvalidNumber", false), ("InvalidStep", "InvalidNumber", false), ("Impossible", "InvalidNumber", false), ("Unlike", "InvalidNumber", false), ("NothingToUndo", "InvalidNumber", false), ("TooMany", "InvalidNumber", false), ("InvalidText", "InvalidNumber", false), ("MinuteError", "InvalidIndex", false), ("InvalidTown", "InvalidIndex", false), ("InvalidFacts", "InvalidIndex", false), ("InvalidJourney", "InvalidIndex", false), ("InvalidStanding", "InvalidIndex", false), ("InvalidLine", "InvalidIndex", false)] : List (Str × Str × Bool)) ++ ([("InvalidNumber", "InvalidIndex", false), ("InvalidIndex", "InvalidIndex", true), ("InvalidStep", "InvalidIndex", false), ("Impossible", "InvalidIndex", false), ("Unlike", "InvalidIndex", false), ("NothingToUndo", "InvalidIndex", false), ("TooMany", "InvalidIndex", false), ("InvalidText", "InvalidIndex", false), ("MinuteError", "InvalidStep", false), ("InvalidTown", "InvalidStep", false), ("InvalidFacts", "InvalidStep", false), ("InvalidJourney", "InvalidStep", false), ("InvalidStanding", "InvalidStep", false), ("InvalidLine", "InvalidStep", false), ("InvalidNumber", "InvalidStep", false), ("InvalidIndex", "InvalidStep", false), ("InvalidStep", "InvalidStep", true), ("Impossible", "InvalidStep", false), ("Unlike", "InvalidStep", false), ("NothingToUndo", "InvalidStep", false), ("TooMany", "InvalidStep", false), ("InvalidText", "InvalidStep", false), ("MinuteError", "Impossible", false), ("InvalidTown", "Impossible", false), ("InvalidFacts", "Impossible", false), ("InvalidJourney", "Impossible", false), ("InvalidStanding", "Impossible", false), ("InvalidLine", "Impossible", false), ("InvalidNumber", "Impossible", false), ("InvalidIndex", "Impossible", false)] : List (Str × Str × Bool)) ++ ([("InvalidStep", "Impossible", false), ("Impossible", "Impossible", true), ("Unlike", "Impossible", false), ("NothingToUndo", "Impossible", false), ("TooMany", "Impossible", false), ("InvalidText", "Impossible", false), ("MinuteError", "Unlike", false), ("InvalidTown", "Unlike", false), ("InvalidFacts", "Unlike", false), ("InvalidJourney", "Unlike", false), ("InvalidStanding", "Unlike", false), ("InvalidLine", "Unlike", false), ("InvalidNumber", "Unlike", false), ("InvalidIndex", "Unlike", false), ("InvalidStep", "Unlike", false), ("Impossible", "Unlike", false), ("Unlike", "Unlike", true), ("NothingToUndo", "Unlike", false), ("TooMany", "Unlike", false), ("InvalidText", "Unlike", false), ("MinuteError", "NothingToUndo", false), ("InvalidTown", "NothingToUndo", false), ("InvalidFacts", "NothingToUndo", false), ("InvalidJourney", "NothingToUndo", false), ("InvalidStanding", "NothingToUndo", false), ("InvalidLine", "NothingToUndo", false), ("InvalidNumber", "NothingToUndo", false), ("InvalidIndex", "NothingToUndo", false), ("InvalidStep", "NothingToUndo", false), ("Impossible", "NothingToUndo", false)] : List (Str × Str × Bool)) ++ ([("Unlike", "NothingToUndo", false), ("NothingToUndo", "NothingToUndo", true), ("TooMany", "NothingToUndo", false), ("InvalidText", "NothingToUndo", false), ("MinuteError", "TooMany", false), ("InvalidTown", "TooMany", false), ("InvalidFacts", "TooMany", false), ("InvalidJourney", "TooMany", false), ("InvalidStanding", "TooMany", false), ("InvalidLine", "TooMany", false), ("InvalidNumber", "TooMany", false), ("InvalidIndex", "TooMany", false), ("InvalidStep", "TooMany", false), ("Impossible", "TooMany", false), ("Unlike", "TooMany", false), ("NothingToUndo", "TooMany", false), ("TooMany", "TooMany", true), ("InvalidText", "TooMany", false), ("MinuteError", "InvalidText", false), ("InvalidTown", "InvalidText", false), ("InvalidFacts", "InvalidText", false), ("InvalidJourney", "InvalidText", false), ("InvalidStanding", "InvalidText", false), ("InvalidLine", "InvalidText", false), ("InvalidNumber", "InvalidText", false), ("InvalidIndex", "InvalidText", false), ("InvalidStep", "InvalidText", false), ("Impossible", "InvalidText", false), ("Unlike", "InvalidText", false), ("NothingToUndo", "InvalidText", false)] : List (Str × Str × Bool)) ++ ([("TooMany", "InvalidText", false), ("InvalidText", "InvalidText", true), ("MinuteError", "MinuteError", true), ("InvalidTown", "MinuteError", true), ("InvalidFacts", "MinuteError", true), ("InvalidJourney", "MinuteError", true), ("InvalidStanding", "MinuteError", true), ("InvalidLine", "MinuteError", true), ("InvalidNumber", "MinuteError", true), ("InvalidIndex", "MinuteError", true), ("InvalidStep", "MinuteError", true), ("Impossible", "MinuteError", true), ("Unlike", "MinuteError", true), ("NothingToUndo", "MinuteError", true), ("TooMany", "MinuteError", true), ("InvalidText", "MinuteError", true)] : List (Str × Str × Bool))
def kitB : List (Str × Str × Bool) := ([("MinuteError", "ValueError", true), ("InvalidTown", "ValueError", true), ("InvalidFacts", "ValueError", true), ("InvalidJourney", "ValueError", true), ("InvalidStanding", "ValueError", true), ("InvalidLine", "ValueError", true), ("InvalidNumber", "ValueError", true), ("InvalidIndex", "ValueError", true), ("InvalidStep", "ValueError", true), ("Impossible", "ValueError", true), ("Unlike", "ValueError", true), ("NothingToUndo", "ValueError", true), ("TooMany", "ValueError", true), ("InvalidText", "ValueError", true)] : List (Str × Str × Bool))
def tgB : Str → Value := fun y => if y = "ValueError" then .type "ValueError" else .none
def kitY (K : PySem.W.Frag) : Bool := (excs.all fun x => excCB K (He.ga K x)) && ((kitO.all fun p => decide (PySem.W.kitOne K (.ref (He.ga K p.1)) (.ref (He.ga K p.2.1)) = some p.2.2)) && (kitB.all fun p => decide (PySem.W.kitOne K (.ref (He.ga K p.1)) (tgB p.2.1) = some p.2.2)))
def exY (K : PySem.W.Frag) : Bool := kitY K && (sups.all fun d => supB "/claim/cut.py" K d.cls d.fld)
def yd : YD := ⟨fa, fn, [], sups.map SupD.path, exY⟩
theorem exY_ok {K : PySem.W.Frag} (h : exY K = true) : kitY K = true ∧ (sups.all fun d => supB "/claim/cut.py" K d.cls d.fld) = true ∧ True := by
  obtain ⟨h1, h2⟩ := Bool.and_eq_true_iff.mp h
  exact ⟨h1, h2, trivial⟩
abbrev prog : Program := PySem.Challenge.pw_anyminute_k17_errors_and_their_classes
structure Hd (U : Wd) : Prop where
  ex : ∃ h, U.K.In h ∧ h.Ns mainGlobals U.mg
  says : He.SaysD fa fn U.K
  pr : U.P = prog
  kit : kitY U.K = true
  sup : ∀ d ∈ sups, supB "/claim/cut.py" U.K d.cls d.fld = true ∧ fnS U.K (d.cls, some "__init__") = d.val
section
variable {U : Wd}
theorem Hd.fact (H : Hd U) (i : Nat) {f : He.Fa} (h : fa[i]? = some f := by rfl) : f.ok U.K = true := H.says.fact i h
theorem Hd.glo (H : Hd U) (i : Nat) {x : Str} (h : fa[i]? = some (.glo x) := by rfl) : U.mg x = some (.ref (He.ga U.K x)) := by
  obtain ⟨h', a, b⟩ := H.ex
  exact He.glo_ok a b (H.fact i h)
theorem Hd.free (H : Hd U) (i : Nat) {x : Str} (h : fa[i]? = some (.free x) := by rfl) : U.mg x = none := by
  obtain ⟨h', a, b⟩ := H.ex
  exact He.free_ok a b (H.fact i h)
theorem Hd.int (H : Hd U) (i : Nat) {x : Str} {n : Int} (h : fa[i]? = some (.int x n) := by rfl) : ∃ t, U.mg x = some (.int n t) := by
  obtain ⟨h', a, b⟩ := H.ex
  exact He.int_ok a b (H.fact i h)
theorem kitO_ok (H : Hd U) {y : Str} (cn : Str) (b : Bool) (h : kTab kitO y cn = some b) : excCB U.K (He.ga U.K cn) = true ∧ PySem.W.kitOne U.K (.ref (He.ga U.K cn)) (.ref (He.ga U.K y)) = some b := by
  obtain ⟨h1, h2⟩ := Bool.and_eq_true_iff.mp H.kit
  obtain ⟨h2, h3⟩ := Bool.and_eq_true_iff.mp h2
  have m := kTab_mem h
  exact ⟨List.all_eq_true.mp h1 cn (kits_sub (l := kitO) (e := excs) (by decide +kernel) m), of_decide_eq_true (List.all_eq_true.mp h2 _ m)⟩
theorem kitB_ok (H : Hd U) (cn : Str) (b : Bool) (h : kTab kitB "ValueError" cn = some b) : excCB U.K (He.ga U.K cn) = true ∧ PySem.W.kitOne U.K (.ref (He.ga U.K cn)) (.type "ValueError") = some b := by
  obtain ⟨h1, h2⟩ := Bool.and_eq_true_iff.mp H.kit
  obtain ⟨h2, h3⟩ := Bool.and_eq_true_iff.mp h2
  have m := kTab_mem h
  have e := of_decide_eq_true (List.all_eq_true.mp h3 _ m)
  exact ⟨List.all_eq_true.mp h1 cn (kits_sub (l := kitB) (e := excs) (by decide +kernel) m), e⟩
theorem Hd.def_ (H : Hd U) (i : Nat) {d : He.DefD} (h : fn[i]? = some d := by rfl) : ∃ fd, FunD U.K d.name d.qual d.params d.body d.scope (d.dvs U.K) (d.kws U.K) (He.fAd U.K d.at_) fd := H.says.def_ i h
theorem fi_TooMany (H : Hd U) : ∃ fd, SupC U.P U.K (He.ga U.K "TooMany") (He.ma U.K (He.ga U.K "TooMany") "__init__") "limit" u_TooMany.qual u_TooMany.params u_TooMany.body u_TooMany.scope fd ∧
    FnOk U.P U.w U.K U.mg U.base (L2.CX U.P U.w) 1 (He.ma U.K (He.ga U.K "TooMany") "__init__") fd ["self", "limit"] (spSI (He.ga U.K "TooMany") "limit") ∧ Binds U.K fd ["self", "limit"] [] := by
  obtain ⟨a1, a2⟩ := H.sup u_TooMany (by simp [sups])
  obtain ⟨fd, T⟩ := sup_ok (P := U.P) a1 a2 (by rw [H.pr]; rfl)
  refine ⟨fd, T, fn_supI (p := "limit") T rfl rfl (by rfl) (by rfl) (by rfl) (by rfl) rfl rfl rfl (by decide +kernel) (by decide) (by decide) (fun env => ⟨_, rfl⟩) (fun env => rfl) (fun env => rfl) (by rw [H.pr]; rfl), ?_⟩
  obtain ⟨oc, od, kV, doc, pm, an, cda, ct, osl, cc, efd, _⟩ := T.fn
  subst efd
  exact .all fun us hl => match us, hl with | [_, _], _ => rfl
theorem fi_InvalidText (H : Hd U) : ∃ fd, SupC U.P U.K (He.ga U.K "InvalidText") (He.ma U.K (He.ga U.K "InvalidText") "__init__") "row" u_InvalidText.qual u_InvalidText.params u_InvalidText.body u_InvalidText.scope fd ∧
    FnOk U.P U.w U.K U.mg U.base (L2.CX U.P U.w) 1 (He.ma U.K (He.ga U.K "InvalidText") "__init__") fd ["self", "row"] (spSI (He.ga U.K "InvalidText") "row") ∧ Binds U.K fd ["self", "row"] [] := by
  obtain ⟨a1, a2⟩ := H.sup u_InvalidText (by simp [sups])
  obtain ⟨fd, T⟩ := sup_ok (P := U.P) a1 a2 (by rw [H.pr]; rfl)
  refine ⟨fd, T, fn_supI (p := "row") T rfl rfl (by rfl) (by rfl) (by rfl) (by rfl) rfl rfl rfl (by decide +kernel) (by decide) (by decide) (fun env => ⟨_, rfl⟩) (fun env => rfl) (fun env => rfl) (by rw [H.pr]; rfl), ?_⟩
  obtain ⟨oc, od, kV, doc, pm, an, cda, ct, osl, cc, efd, _⟩ := T.fn
  subst efd
  exact .all fun us hl => match us, hl with | [_, _], _ => rfl
abbrev N__law_sack : List Str := ["script", "k", "cell"]
def b__law_sack : DS := sCons (sSet 2 (eIf (tst (eO (pur2 dLt) (eV 1) (eB (purL bLen) (aC (eV 0) (aN))))) (eB (purL bAbs) (aC (eB (purL bInt) (aC (eO (pur2 dIx) (eV 0) (eV 1)) (aN))) (aN))) (eO (pur2T dAdd) (eO (pur2T dMul) (eC (.int 71)) (eV 1)) (eC (.int 53)))))
    (sRet (eMut (aC (eIf (tst (eO (pur2 dGe) (eV 2) (eO (pur2 dPow) (eC (.int 10)) (eC (.int 18))))) (eV 2) (eC (.int 0))) (aC (eO (pur2 dMod) (eB (purL bInt) (aC (eO (pur2T dAdd) (eO (pur2T dAdd) (eO (pur2 dMod) (eB (purL bInt) (aC (eV 2) (aN))) (eC (.int 2147480777))) (eO (pur2T dMul) (eC (.int 60013)) (eV 1))) (eC (.int 211))) (aN))) (eC (.int 2147480777))) (aN)))))
def m__law_sack : DF := dfn 3 noThaw b__law_sack
theorem kw__law_sack (H : Hd U) : Kw U 1 "_law_sack" 2 m__law_sack := by
  obtain ⟨fd, F⟩ := H.def_ 0 (d := d__law_sack)
  exact kw_mk2 (N := N__law_sack) (ps := ["script", "k"]) F ⟨rfl, rfl, rfl, by decide +kernel, rfl, by decide +kernel, by decide +kernel⟩ rfl noThaw_ok (H.glo 0)
    (fun _ _ _ _ _ _ us hl => match us, hl with | [_, _], _ => rfl) fun X W hp c => dss_cons (c.set 2 (de_if (dt_tOp od_lt (pt_cmpR op_lt (c.v 1) (c.bB cd_len call_len (H.free 10) (da_cons (c.v 0) (da_nil))) (nomark _))) (c.bB cd_abs call_abs (H.free 7) (da_cons (c.bT cd_int call_int1 (H.free 8) (da_cons (de_ix (c.v 0) (c.v 1)) (da_nil))) (da_nil))) (de_tOp od_add (pe_op op_add4 (de_tOp od_mul (pe_op op_mul3 (de_int) (c.v 1))) (de_int)))))
    (dss_one (ds_ret (de_mut (da_cons (de_if (dt_tOp od_ge (pt_cmpR op_ge (c.v 2) (de_tOp od_pow (pe_op op_pow (de_int) (de_int))) (nomark _))) (c.v 2) (de_int)) (da_cons (de_tOp od_mod (pe_op op_mod (c.bT cd_int call_int1 (H.free 8) (da_cons (de_tOp od_add (pe_op op_add4 (de_tOp od_add (pe_op op_add4 (de_tOp od_mod (pe_op op_mod (c.bT cd_int call_int1 (H.free 8) (da_cons (c.v 2) (da_nil))) (de_int))) (de_tOp od_mul (pe_op op_mul3 (de_int) (c.v 1))))) (de_int))) (da_nil))) (de_int))) (da_nil))))))
abbrev N__law_dig : List Str := ["sack", "wide", "stirred", "found"]
def b__law_dig : DS := sCons (sIf (tst (eO (pur2 dGt) (eO (pur2 dIx) (eV 0) (eC (.int 0))) (eC (.int 0)))) (sCons (sSet 3 (eO (pur2 dMod) (eB (purL bInt) (aC (eO (pur2 dIx) (eV 0) (eC (.int 0))) (aN))) (eV 1)))
    (sCons (sSub (eV 0) (eC (.int 0)) (eO (pur2 dFdiv) (eB (purL bInt) (aC (eO (pur2 dIx) (eV 0) (eC (.int 0))) (aN))) (eV 1)))
    (sRet (eV 3)))) (sNil))
    (sCons (sSub (eV 0) (eC (.int 1)) (eO (pur2 dMod) (eB (purL bInt) (aC (eO (pur2T dAdd) (eO (pur2T dMul) (eO (pur2 dIx) (eV 0) (eC (.int 1))) (eC (.int 39373))) (eC (.int 4421))) (aN))) (eC (.int 2147480777))))
    (sCons (sSet 2 (eO (pur2 dMod) (eO (pur2T dMul) (eB (purL bInt) (aC (eO (pur2 dIx) (eV 0) (eC (.int 1))) (aN))) (eO (pur2T dAdd) (eO (pur2 dFdiv) (eB (purL bInt) (aC (eO (pur2 dIx) (eV 0) (eC (.int 1))) (aN))) (eC (.int 37))) (eC (.int 23)))) (eC (.int 2147480729))))
    (sRet (eO (pur2 dMod) (eB (purL bInt) (aC (eO (pur2 dFdiv) (eB (purL bInt) (aC (eV 2) (aN))) (eC (.int 29))) (aN))) (eV 1)))))
def m__law_dig : DF := dfn 4 thaw b__law_dig
theorem kw__law_dig (H : Hd U) : Kw U 1 "_law_dig" 2 m__law_dig := by
  obtain ⟨fd, F⟩ := H.def_ 1 (d := d__law_dig)
  exact kw_mk2 (N := N__law_dig) (ps := ["sack", "wide"]) F ⟨rfl, rfl, rfl, by decide +kernel, rfl, by decide +kernel, by decide +kernel⟩ rfl thaw_ok (H.glo 1)
    (fun _ _ _ _ _ _ us hl => match us, hl with | [_, _], _ => rfl) fun X W hp c => dss_cons (ds_if (dt_tOp od_gt (pt_cmpR op_gt (de_ix (c.v 0) (de_int)) (de_int) (nomark _))) (dss_cons (c.set 3 (de_tOp od_mod (pe_op op_mod (c.bT cd_int call_int1 (H.free 8) (da_cons (de_ix (c.v 0) (de_int)) (da_nil))) (c.v 1))))
    (dss_cons (ds_sub (c.v 0) (de_int) (de_tOp od_fdiv (pe_op op_fdivW (c.bT cd_int call_int1 (H.free 8) (da_cons (de_ix (c.v 0) (de_int)) (da_nil))) (c.v 1))))
    (dss_one (ds_ret (c.v 3))))) (dss_nil))
    (dss_cons (ds_sub (c.v 0) (de_int) (de_tOp od_mod (pe_op op_mod (c.bT cd_int call_int1 (H.free 8) (da_cons (de_tOp od_add (pe_op op_add4 (de_tOp od_mul (pe_op op_mul3 (de_ix (c.v 0) (de_int)) (de_int))) (de_int))) (da_nil))) (de_int))))
    (dss_cons (c.set 2 (de_tOp od_mod (pe_op op_mod (de_tOp od_mul (pe_op op_mul3 (c.bT cd_int call_int1 (H.free 8) (da_cons (de_ix (c.v 0) (de_int)) (da_nil))) (de_tOp od_add (pe_op op_add4 (de_tOp od_fdiv (pe_op op_fdivW (c.bT cd_int call_int1 (H.free 8) (da_cons (de_ix (c.v 0) (de_int)) (da_nil))) (de_int))) (de_int))))) (de_int))))
    (dss_one (ds_ret (de_tOp od_mod (pe_op op_mod (c.bT cd_int call_int1 (H.free 8) (da_cons (de_tOp od_fdiv (pe_op op_fdivW (c.bT cd_int call_int1 (H.free 8) (da_cons (c.v 2) (da_nil))) (de_int))) (da_nil))) (c.v 1)))))))
abbrev N__law_pick : List Str := ["sack", "things"]
def b__law_pick : DS := sRet (eO (pur2 dIx) (eV 1) (eCall 2 m__law_dig (aC (eV 0) (aC (eB (purL bLen) (aC (eV 1) (aN))) (aN)))))
def m__law_pick : DF := dfn 2 thaw b__law_pick
theorem kw__law_pick (H : Hd U) : Kw U 2 "_law_pick" 2 m__law_pick := by
  obtain ⟨fd, F⟩ := H.def_ 2 (d := d__law_pick)
  exact kw_mk2 (N := N__law_pick) (ps := ["sack", "things"]) F ⟨rfl, rfl, rfl, by decide +kernel, rfl, by decide +kernel, by decide +kernel⟩ rfl thaw_ok (H.glo 2)
    (fun _ _ _ _ _ _ us hl => match us, hl with | [_, _], _ => rfl) fun X W hp c => dss_one (ds_ret (de_ix (c.v 1) (c.call (kw__law_dig H) (da_cons (c.v 0) (da_cons (c.bB cd_len call_len (H.free 10) (da_cons (c.v 1) (da_nil))) (da_nil))))))
abbrev N__law_all_errors : List Str := ["text", "number_so", "found"]
def b__law_all_errors : DS := sCons (sSet 2 (eMix (aC (eExv "InvalidTown" (eV 0)) (aC (eExv "InvalidFacts" (eV 0)) (aC (eExv "InvalidJourney" (eV 0)) (aC (eExv "InvalidStanding" (eV 0)) (aC (eExv "InvalidLine" (eV 0)) (aN))))))))
    (sCons (sSet 2 (eO (addM) (eV 2) (eMix (aC (eExv "InvalidNumber" (eV 0)) (aC (eExv "InvalidIndex" (eV 0)) (aC (eExv "InvalidStep" (eV 0)) (aC (eExv "Impossible" (eV 0)) (aC (eExv "Unlike" (eV 0)) (aN)))))))))
    (sRet (eO (addM) (eV 2) (eMix (aC (eExv "NothingToUndo" (eV 0)) (aC (eExvF "TooMany" "limit" (eV 1)) (aC (eExvF "InvalidText" "row" (eV 1)) (aN))))))))
def m__law_all_errors : DF := dfn 3 thaw b__law_all_errors
theorem kw__law_all_errors (H : Hd U) : Kw U 3 "_law_all_errors" 2 m__law_all_errors := by
  obtain ⟨fd, F⟩ := H.def_ 3 (d := d__law_all_errors)
  obtain ⟨fd_InvalidText, T_InvalidText, F_InvalidText, B_InvalidText⟩ := fi_InvalidText H
  obtain ⟨fd_TooMany, T_TooMany, F_TooMany, B_TooMany⟩ := fi_TooMany H
  exact kw_mk2 (N := N__law_all_errors) (ps := ["text", "number_so"]) F ⟨rfl, rfl, rfl, by decide +kernel, rfl, by decide +kernel, by decide +kernel⟩ rfl thaw_ok (H.glo 3)
    (fun _ _ _ _ _ _ us hl => match us, hl with | [_, _], _ => rfl) fun X W hp c => dss_cons (c.set 2 (de_mix (da_cons (c.exv (H.fact 30) (H.glo 16) (c.v 0)) (da_cons (c.exv (H.fact 31) (H.glo 17) (c.v 0)) (da_cons (c.exv (H.fact 32) (H.glo 18) (c.v 0)) (da_cons (c.exv (H.fact 33) (H.glo 19) (c.v 0)) (da_cons (c.exv (H.fact 34) (H.glo 20) (c.v 0)) (da_nil))))))))
    (dss_cons (c.set 2 (de_tOp od_addM (pe_op op_add4 (c.v 2) (de_mix (da_cons (c.exv (H.fact 35) (H.glo 21) (c.v 0)) (da_cons (c.exv (H.fact 36) (H.glo 22) (c.v 0)) (da_cons (c.exv (H.fact 37) (H.glo 23) (c.v 0)) (da_cons (c.exv (H.fact 38) (H.glo 24) (c.v 0)) (da_cons (c.exv (H.fact 39) (H.glo 25) (c.v 0)) (da_nil))))))))))
    (dss_one (ds_ret (de_tOp od_addM (pe_op op_add4 (c.v 2) (de_mix (da_cons (c.exv (H.fact 40) (H.glo 26) (c.v 0)) (da_cons (c.exvF T_TooMany F_TooMany B_TooMany (H.glo 27) (c.v 1)) (da_cons (c.exvF T_InvalidText F_InvalidText B_InvalidText (H.glo 28) (c.v 1)) (da_nil))))))))))
abbrev N__law_classes : List Str := ["error", "found"]
def b__law_classes : DS := sCons (sSet 1 (eLst (aC (eIsE (kTab kitO "InvalidTown") (eV 0)) (aC (eIsE (kTab kitO "InvalidFacts") (eV 0)) (aC (eIsE (kTab kitO "InvalidJourney") (eV 0)) (aN))))))
    (sCons (sSet 1 (eO (pur2T dAdd) (eV 1) (eLst (aC (eIsE (kTab kitO "InvalidStanding") (eV 0)) (aC (eIsE (kTab kitO "InvalidLine") (eV 0)) (aN))))))
    (sCons (sSet 1 (eO (pur2T dAdd) (eV 1) (eLst (aC (eIsE (kTab kitO "InvalidNumber") (eV 0)) (aC (eIsE (kTab kitO "InvalidIndex") (eV 0)) (aN))))))
    (sCons (sSet 1 (eO (pur2T dAdd) (eV 1) (eLst (aC (eIsE (kTab kitO "InvalidStep") (eV 0)) (aC (eIsE (kTab kitO "Impossible") (eV 0)) (aC (eIsE (kTab kitO "Unlike") (eV 0)) (aN)))))))
    (sRet (eO (pur2T dAdd) (eV 1) (eLst (aC (eIsE (kTab kitO "NothingToUndo") (eV 0)) (aC (eIsE (kTab kitO "TooMany") (eV 0)) (aC (eIsE (kTab kitO "InvalidText") (eV 0)) (aN))))))))))
def m__law_classes : DF := dfn 2 thaw b__law_classes
theorem kw__law_classes (H : Hd U) : Kw U 1 "_law_classes" 1 m__law_classes := by
  obtain ⟨fd, F⟩ := H.def_ 4 (d := d__law_classes)
  exact kw_mk2 (N := N__law_classes) (ps := ["error"]) F ⟨rfl, rfl, rfl, by decide +kernel, rfl, by decide +kernel, by decide +kernel⟩ rfl thaw_ok (H.glo 4)
    (fun _ _ _ _ _ _ us hl => match us, hl with | [_], _ => rfl) fun X W hp c => dss_cons (c.set 1 (de_lst (da_cons (c.isE (H.free 9) (H.glo 16) (kitO_ok H) (c.v 0)) (da_cons (c.isE (H.free 9) (H.glo 17) (kitO_ok H) (c.v 0)) (da_cons (c.isE (H.free 9) (H.glo 18) (kitO_ok H) (c.v 0)) (da_nil))))))
    (dss_cons (c.set 1 (de_tOp od_add (pe_op op_add4 (c.v 1) (de_lst (da_cons (c.isE (H.free 9) (H.glo 19) (kitO_ok H) (c.v 0)) (da_cons (c.isE (H.free 9) (H.glo 20) (kitO_ok H) (c.v 0)) (da_nil)))))))
    (dss_cons (c.set 1 (de_tOp od_add (pe_op op_add4 (c.v 1) (de_lst (da_cons (c.isE (H.free 9) (H.glo 21) (kitO_ok H) (c.v 0)) (da_cons (c.isE (H.free 9) (H.glo 22) (kitO_ok H) (c.v 0)) (da_nil)))))))
    (dss_cons (c.set 1 (de_tOp od_add (pe_op op_add4 (c.v 1) (de_lst (da_cons (c.isE (H.free 9) (H.glo 23) (kitO_ok H) (c.v 0)) (da_cons (c.isE (H.free 9) (H.glo 24) (kitO_ok H) (c.v 0)) (da_cons (c.isE (H.free 9) (H.glo 25) (kitO_ok H) (c.v 0)) (da_nil))))))))
    (dss_one (ds_ret (de_tOp od_add (pe_op op_add4 (c.v 1) (de_lst (da_cons (c.isE (H.free 9) (H.glo 26) (kitO_ok H) (c.v 0)) (da_cons (c.isE (H.free 9) (H.glo 27) (kitO_ok H) (c.v 0)) (da_cons (c.isE (H.free 9) (H.glo 28) (kitO_ok H) (c.v 0)) (da_nil))))))))))))
abbrev N_law : List Str := ["script", "k", "sack", "some", "at", "text", "number_so", "here"]
def x_law_1 : DE := eO (pur2 dEq) (eV 7) (eV 4)
def k_law_1 : DE := eLc [7] (iRng rng1 (aC (eB lenM (aC (eV 3) (aN))) (aN))) (gN 7) (tY) (x_law_1)
def l_law_1 : DS := sCons (sIf (tst (eO (pur2 dNe) (eCall 1 m__law_classes (aC (eO ixM (eV 3) (eV 4)) (aN))) (k_law_1))) (sRet (eC (.bool false))) (sNil))
    (sIf (tOrr (tNo (tTr (eIsE (kTab kitO "MinuteError") (eO ixM (eV 3) (eV 4))))) (tNo (tTr (eIsE (kTab kitB "ValueError") (eO ixM (eV 3) (eV 4)))))) (sRet (eC (.bool false))) (sNil))
def r_law_1 : DS := sIf (tOrr (tst (eO (pur2 dNe) (eFldE (fun z => z == "TooMany") "limit" (eO ixM (eV 3) (eC (.int 11)))) (eV 6))) (tst (eO (pur2 dNe) (eFldE (fun z => z == "InvalidText") "row" (eO ixM (eV 3) (eC (.int 12)))) (eV 6)))) (sRet (eC (.bool false))) (sNil)
def l_law_2 : DS := sCons (sSet 2 (eCall 2 m__law_sack (aC (eV 0) (aC (eV 1) (aN)))))
    (sCons (sPar 5 6 (aC (eCall 2 m__law_pick (aC (eV 2) (aC (eLst (aC (eC (.str "")) (aC (eC (.str "a message")) (aC (eC (.str "x y")) (aN))))) (aN)))) (aC (eCall 2 m__law_dig (aC (eV 2) (aC (eC (.int 1000)) (aN)))) (aN))))
    (sCons (sSet 3 (eCall 2 m__law_all_errors (aC (eV 5) (aC (eV 6) (aN)))))
    (sCons (sFor (iRng rng1 (aC (eB lenM (aC (eV 3) (aN))) (aN))) (gN 4) (l_law_1))
    (r_law_1))))
def r_law_2 : DS := sRet (eC (.bool true))
def b_law : DS := sCons (sFor (iRng rng1 (aC (eB (purL bMax2) (aC (eC (.int 3)) (aC (eB (purL bMin2) (aC (eC (.int 6)) (aC (eO (pur2T dAdd) (eB (purL bLen) (aC (eV 0) (aN))) (eC (.int 2))) (aN)))) (aN)))) (aN))) (gN 1) (l_law_2))
    (r_law_2)
def m_law : DF := dfn 8 thaw b_law
theorem fo_law (H : Hd U) {fd : FuncData} (F : FunD U.K d_law.name d_law.qual d_law.params d_law.body d_law.scope (d_law.dvs U.K) (d_law.kws U.K) (He.fAd U.K d_law.at_) fd) : FnOk U.P U.w U.K U.mg U.base (L2.CX U.P U.w) 4 (He.fAd U.K d_law.at_) fd ["script"] (spD U.K U.mg 1 m_law) := by
  obtain ⟨fd_InvalidText, T_InvalidText, F_InvalidText, B_InvalidText⟩ := fi_InvalidText H
  obtain ⟨fd_TooMany, T_TooMany, F_TooMany, B_TooMany⟩ := fi_TooMany H
  exact fw_mk2 (N := N_law) (ps := ["script"]) F ⟨rfl, rfl, rfl, by decide +kernel, rfl, by decide +kernel, by decide +kernel⟩ rfl thaw_ok fun X W hp c => dss_cons (c.for_ hp.p (c.rng1 (H.free 13) (da_cons (c.bB cd_max2 (call_max2 c.calm) (H.free 11) (da_cons (de_int) (da_cons (c.bB cd_min2 (call_min2 c.calm) (H.free 12) (da_cons (de_int) (da_cons (de_tOp od_add (pe_op op_add4 (c.bB cd_len call_len (H.free 10) (da_cons (c.v 0) (da_nil))) (de_int))) (da_nil)))) (da_nil)))) (da_nil))) (c.g 1) (dss_cons (c.set 2 (c.call (kw__law_sack H) (da_cons (c.v 0) (da_cons (c.v 1) (da_nil)))))
    (dss_cons (c.par 5 6 (da_cons (c.call (kw__law_pick H) (da_cons (c.v 2) (da_cons (de_lst (da_cons (de_str) (da_cons (de_str) (da_cons (de_str) (da_nil))))) (da_nil)))) (da_cons (c.call (kw__law_dig H) (da_cons (c.v 2) (da_cons (de_int) (da_nil)))) (da_nil))))
    (dss_cons (c.set 3 (c.call (kw__law_all_errors H) (da_cons (c.v 5) (da_cons (c.v 6) (da_nil)))))
    (dss_cons (c.for_ hp.p (c.rng1 (H.free 13) (da_cons (c.bB cd_lenM call_len (H.free 10) (da_cons (c.v 3) (da_nil))) (da_nil))) (c.g 4) (dss_cons (ds_if (dt_tOp od_ne (pt_cmpR (op_neP c.room.units) (c.call (kw__law_classes H) (da_cons (de_tOp od_ixM (pe_ix ix_seq (c.v 3) (c.v 4) (fun _ _ => rfl))) (da_nil))) (c.lc [("here", 7)] (c.rng1 (H.free 13) (da_cons (c.bB cd_lenM call_len (H.free 10) (da_cons (c.v 3) (da_nil))) (da_nil))) (fun _ c1 => ⟨c1.g 7, dts_nil, de_tOp od_eq (pe_cmpR (op_eqP c1.room.units) (c1.v 7) (c1.v 4) (nomark _))⟩)) (nomark _))) (dss_one (ds_ret (de_bl))) (dss_nil))
    (dss_one (ds_if (dt_w (dw_or (dt_not (dt_tru (c.isE (H.free 9) (H.glo 15) (kitO_ok H) (de_tOp od_ixM (pe_ix ix_seq (c.v 3) (c.v 4) (fun _ _ => rfl)))))) (dw_or1 (dt_not (dt_tru (c.isEB (T := "ValueError") (H.free 9) (H.free 6) (kitB_ok H) (de_tOp od_ixM (pe_ix ix_seq (c.v 3) (c.v 4) (fun _ _ => rfl))))))))) (dss_one (ds_ret (de_bl))) (dss_nil)))))
    (dss_one (ds_if (dt_w (dw_or (dt_tOp od_ne (pt_cmpR (op_neP c.room.units) (c.fldE (fun z h => by rw [beq_iff_eq] at h; subst h; exact ⟨T_TooMany.xf, T_TooMany.nof⟩) (de_tOp od_ixM (pe_ix ix_seq (c.v 3) (de_int) (fun _ _ => rfl)))) (c.v 6) (nomark _))) (dw_or1 (dt_tOp od_ne (pt_cmpR (op_neP c.room.units) (c.fldE (fun z h => by rw [beq_iff_eq] at h; subst h; exact ⟨T_InvalidText.xf, T_InvalidText.nof⟩) (de_tOp od_ixM (pe_ix ix_seq (c.v 3) (de_int) (fun _ _ => rfl)))) (c.v 6) (nomark _)))))) (dss_one (ds_ret (de_bl))) (dss_nil))))))))
    (dss_one (ds_ret (de_bl)))
end
end Law
namespace Law
open PySem DL
/-- a sack at n -/
def Sk (n : Nat) (st : Store) : Prop := ∃ a b : Int, st[n]? = some (.lst [.int a, .int b])
theorem sack_gen (X : List D) (ns : List Int) (k c : Int) (st : Store) (h : eIf (tst (eO (pur2 dLt) (eV 1) (eB (purL bLen) (aC (eV 0) (aN))))) (eB (purL bAbs) (aC (eB (purL bInt) (aC (eO (pur2 dIx) (eV 0) (eV 1)) (aN))) (aN))) (eO (pur2T dAdd) (eO (pur2T dMul) (eC (.int 71)) (eV 1)) (eC (.int 53))) [some (.s ns), some (.d (.int k)), none] st = .ok (.d (.int c)) st)
    (h1 : okMul 60013 k = true) : ∃ a b, m__law_sack [.s ns, .d (.int k)] st = .ok (.r st.length) (st ++ [.lst [.int a, .int b]]) := by
  have p : okPow 10 18 = true := by decide +kernel
  have m : ∀ x, okMod x 2147480777 = true := fun x => okMod_of (by decide)
  by_cases hc : (10 : Int) ^ (18 : Int).toNat ≤ c
  · have q : b__law_sack [some (.s ns), some (.d (.int k)), none] st = .rt (.r st.length) (st ++ [.lst [.int c, .int ((c % 2147480777 + 60013 * k + 211) % 2147480777)]]) := by
      simp only [b__law_sack, s_Cons, s_Set, h, b_ok, b_exc, b_bad, t_ok, t_exc, t_bad, x_V, x_C, x_O, x_B, x_aN, x_aC, x_Call, x_lenIs, x_tup, x_lst, x_mut, x_disp, x_mkTup, x_mkLst, x_mkMut, x_pn, x_pc, x_if, x_An, x_Or, x_NoT, x_Ng, x_asB, x_tst, x_tTr, x_truB, x_truI, x_truT, x_truL, x_tAn, x_tOr, x_tNo, x_Ch, x_Sl, x_oN, x_oS, x_slT, x_slL, x_Is, x_Lrg, x_Trg, x_App, x_dd, x_ds, x_dr, x_td, x_tr, x_p2, x_p2T, x_pL, x_Ix, x_dn, x_dc, x_os, x_on, x_add, x_addL, x_addT, x_I0, x_I, x_mul, x_isN0, x_isNi, x_isNt, x_ntN0, x_ntNi, x_ntNt, x_isB, x_nisB, x_isBb, x_bLenL, x_bLenT, x_bAbs, x_bMax, x_bMin, x_bInt, x_bIntB, x_bBool, x_bTupL, x_bTupT, x_bLstL, x_bLstT, x_bAll, x_bAny, x_bSum, x_bMaxL, x_bMinL, s_Nil, s_Cons, s_Bk, s_Ct, s_Set, s_Par, s_Par3, s_Un, s_Drop, s_Ret, s_RetN, s_If, s_Raise, s_For, s_Sub, ix20, ix21, x_appG, x_appK, g_N, g_T, g_n, g_c, i_Seq, i_L, i_T, i_Rng, i_r1, i_r2, i_zL, i_zT, i_eL, l_n, l_Lc, l_E, l_wn, l_wc, l_tY, f_n, th_d, nt_d, z_0, z_1, z_2, z_3, z_4, z_5, z_6, z_7, z_8, z_9, z_10, z_11, z_12, n_0, n_1, n_2, n_3, n_4, n_5, n_6, n_7, n_8, n_9, n_10, n_11, n_12, q_S, q_SN, q_I, q_IN, q_0, q_1, q_in2, q_in2L, at_0, at_1, at_2, at_3, at_4, at_5, at_6, q_inI, q_inB, s_Try, nx_rt, nx_nx, i_eSL, i_eST, x_Split, x_Join, x_strG, x_splK, x_joinK, x_str2i, x_str2s, x_RevL, x_revLK, s_RaiseF, s_TryN, x_F, x_Mix, x_MxT, x_mixK, x_Exv, x_ExvF, x_exvK, x_FldE, x_IsE, mix_app, mix_app0, exv_app, exv_app0, mix_0, mix_s, exv_0, exv_s, x_addM, x_ixM, x_lenM, x_fldEK, x_isEK, Int.reduceBEq, Int.reduceLT, Int.reduceLE, Int.reduceAdd, Int.reduceSub, Int.reduceMul, nth_0, nth_1, nth_2, nth_3, beq_self_eq_true, Bool.true_or, Bool.false_or, Bool.true_and, Bool.false_and, Bool.and_true, Bool.and_false, List.getElem?_cons_zero, List.getElem?_cons_succ, List.set_cons_zero, List.set_cons_succ, Option.bind_some, Option.bind_none, Option.map_some, Option.map_none, decide_true, decide_false, decide_eq_true_eq, if_true, if_false, Bool.not_true, Bool.not_false, Bool.false_eq_true, reduceIte, List.length_cons, List.length_nil, Nat.reduceAdd, Nat.zero_add, eq_self, isTy, tyN, p, m, h1, hc]
    exact ⟨_, _, dfn_any (N := 3) (b := b__law_sack) q⟩
  · have q : b__law_sack [some (.s ns), some (.d (.int k)), none] st = .rt (.r st.length) (st ++ [.lst [.int 0, .int ((c % 2147480777 + 60013 * k + 211) % 2147480777)]]) := by
      simp only [b__law_sack, s_Cons, s_Set, h, b_ok, b_exc, b_bad, t_ok, t_exc, t_bad, x_V, x_C, x_O, x_B, x_aN, x_aC, x_Call, x_lenIs, x_tup, x_lst, x_mut, x_disp, x_mkTup, x_mkLst, x_mkMut, x_pn, x_pc, x_if, x_An, x_Or, x_NoT, x_Ng, x_asB, x_tst, x_tTr, x_truB, x_truI, x_truT, x_truL, x_tAn, x_tOr, x_tNo, x_Ch, x_Sl, x_oN, x_oS, x_slT, x_slL, x_Is, x_Lrg, x_Trg, x_App, x_dd, x_ds, x_dr, x_td, x_tr, x_p2, x_p2T, x_pL, x_Ix, x_dn, x_dc, x_os, x_on, x_add, x_addL, x_addT, x_I0, x_I, x_mul, x_isN0, x_isNi, x_isNt, x_ntN0, x_ntNi, x_ntNt, x_isB, x_nisB, x_isBb, x_bLenL, x_bLenT, x_bAbs, x_bMax, x_bMin, x_bInt, x_bIntB, x_bBool, x_bTupL, x_bTupT, x_bLstL, x_bLstT, x_bAll, x_bAny, x_bSum, x_bMaxL, x_bMinL, s_Nil, s_Cons, s_Bk, s_Ct, s_Set, s_Par, s_Par3, s_Un, s_Drop, s_Ret, s_RetN, s_If, s_Raise, s_For, s_Sub, ix20, ix21, x_appG, x_appK, g_N, g_T, g_n, g_c, i_Seq, i_L, i_T, i_Rng, i_r1, i_r2, i_zL, i_zT, i_eL, l_n, l_Lc, l_E, l_wn, l_wc, l_tY, f_n, th_d, nt_d, z_0, z_1, z_2, z_3, z_4, z_5, z_6, z_7, z_8, z_9, z_10, z_11, z_12, n_0, n_1, n_2, n_3, n_4, n_5, n_6, n_7, n_8, n_9, n_10, n_11, n_12, q_S, q_SN, q_I, q_IN, q_0, q_1, q_in2, q_in2L, at_0, at_1, at_2, at_3, at_4, at_5, at_6, q_inI, q_inB, s_Try, nx_rt, nx_nx, i_eSL, i_eST, x_Split, x_Join, x_strG, x_splK, x_joinK, x_str2i, x_str2s, x_RevL, x_revLK, s_RaiseF, s_TryN, x_F, x_Mix, x_MxT, x_mixK, x_Exv, x_ExvF, x_exvK, x_FldE, x_IsE, mix_app, mix_app0, exv_app, exv_app0, mix_0, mix_s, exv_0, exv_s, x_addM, x_ixM, x_lenM, x_fldEK, x_isEK, Int.reduceBEq, Int.reduceLT, Int.reduceLE, Int.reduceAdd, Int.reduceSub, Int.reduceMul, nth_0, nth_1, nth_2, nth_3, beq_self_eq_true, Bool.true_or, Bool.false_or, Bool.true_and, Bool.false_and, Bool.and_true, Bool.and_false, List.getElem?_cons_zero, List.getElem?_cons_succ, List.set_cons_zero, List.set_cons_succ, Option.bind_some, Option.bind_none, Option.map_some, Option.map_none, decide_true, decide_false, decide_eq_true_eq, if_true, if_false, Bool.not_true, Bool.not_false, Bool.false_eq_true, reduceIte, List.length_cons, List.length_nil, Nat.reduceAdd, Nat.zero_add, eq_self, isTy, tyN, p, m, h1, hc]
    exact ⟨_, _, dfn_any (N := 3) (b := b__law_sack) q⟩
theorem m_sack (ns : List Int) (k : Nat) (st : Store) (hk : k < 1000000) : ∃ st1, m__law_sack [.s ns, .d (.int k)] st = .ok (.r st.length) st1 ∧ Sk st.length st1 ∧ st1.length = st.length + 1 := by
  have main : ∃ a b, m__law_sack [.s ns, .d (.int k)] st = .ok (.r st.length) (st ++ [.lst [.int a, .int b]]) := by
    have h1 : okMul 60013 (k : Int) = true := okMul_l (by decide) (by decide)
    have h2 : okMul 71 (k : Int) = true := okMul_l (by decide) (by decide)
    by_cases h : k < ns.length
    · refine sack_gen [] ns k (if ns.getD k 0 < 0 then -(ns.getD k 0) else ns.getD k 0) st ?_ h1
      have e : L2.atI (ns.map PyData.int) (k : Int) = some (.int (ns.getD k 0)) := tp_at h
      have hl : (k : Int) < ((ns.map PyData.int).length : Int) := by rw [List.length_map]; omega
      generalize (ns.getD k 0) = z at *
      generalize (k : Int) = K at *
      simp only [hl, e, b_ok, b_exc, b_bad, t_ok, t_exc, t_bad, x_V, x_C, x_O, x_B, x_aN, x_aC, x_Call, x_lenIs, x_tup, x_lst, x_mut, x_disp, x_mkTup, x_mkLst, x_mkMut, x_pn, x_pc, x_if, x_An, x_Or, x_NoT, x_Ng, x_asB, x_tst, x_tTr, x_truB, x_truI, x_truT, x_truL, x_tAn, x_tOr, x_tNo, x_Ch, x_Sl, x_oN, x_oS, x_slT, x_slL, x_Is, x_Lrg, x_Trg, x_App, x_dd, x_ds, x_dr, x_td, x_tr, x_p2, x_p2T, x_pL, x_Ix, x_dn, x_dc, x_os, x_on, x_add, x_addL, x_addT, x_I0, x_I, x_mul, x_isN0, x_isNi, x_isNt, x_ntN0, x_ntNi, x_ntNt, x_isB, x_nisB, x_isBb, x_bLenL, x_bLenT, x_bAbs, x_bMax, x_bMin, x_bInt, x_bIntB, x_bBool, x_bTupL, x_bTupT, x_bLstL, x_bLstT, x_bAll, x_bAny, x_bSum, x_bMaxL, x_bMinL, s_Nil, s_Cons, s_Bk, s_Ct, s_Set, s_Par, s_Par3, s_Un, s_Drop, s_Ret, s_RetN, s_If, s_Raise, s_For, s_Sub, ix20, ix21, x_appG, x_appK, g_N, g_T, g_n, g_c, i_Seq, i_L, i_T, i_Rng, i_r1, i_r2, i_zL, i_zT, i_eL, l_n, l_Lc, l_E, l_wn, l_wc, l_tY, f_n, th_d, nt_d, z_0, z_1, z_2, z_3, z_4, z_5, z_6, z_7, z_8, z_9, z_10, z_11, z_12, n_0, n_1, n_2, n_3, n_4, n_5, n_6, n_7, n_8, n_9, n_10, n_11, n_12, q_S, q_SN, q_I, q_IN, q_0, q_1, q_in2, q_in2L, at_0, at_1, at_2, at_3, at_4, at_5, at_6, q_inI, q_inB, s_Try, nx_rt, nx_nx, i_eSL, i_eST, x_Split, x_Join, x_strG, x_splK, x_joinK, x_str2i, x_str2s, x_RevL, x_revLK, s_RaiseF, s_TryN, x_F, x_Mix, x_MxT, x_mixK, x_Exv, x_ExvF, x_exvK, x_FldE, x_IsE, mix_app, mix_app0, exv_app, exv_app0, mix_0, mix_s, exv_0, exv_s, x_addM, x_ixM, x_lenM, x_fldEK, x_isEK, Int.reduceBEq, Int.reduceLT, Int.reduceLE, Int.reduceAdd, Int.reduceSub, Int.reduceMul, nth_0, nth_1, nth_2, nth_3, beq_self_eq_true, Bool.true_or, Bool.false_or, Bool.true_and, Bool.false_and, Bool.and_true, Bool.and_false, List.getElem?_cons_zero, List.getElem?_cons_succ, List.set_cons_zero, List.set_cons_succ, Option.bind_some, Option.bind_none, Option.map_some, Option.map_none, decide_true, decide_false, decide_eq_true_eq, if_true, if_false, Bool.not_true, Bool.not_false, Bool.false_eq_true, reduceIte, List.length_cons, List.length_nil, Nat.reduceAdd, Nat.zero_add, eq_self, isTy, tyN]
    · refine sack_gen [] ns k (71 * k + 53) st ?_ h1
      have hl : ¬ (k : Int) < ((ns.map PyData.int).length : Int) := by rw [List.length_map]; omega
      generalize (k : Int) = K at *
      simp only [hl, h2, b_ok, b_exc, b_bad, t_ok, t_exc, t_bad, x_V, x_C, x_O, x_B, x_aN, x_aC, x_Call, x_lenIs, x_tup, x_lst, x_mut, x_disp, x_mkTup, x_mkLst, x_mkMut, x_pn, x_pc, x_if, x_An, x_Or, x_NoT, x_Ng, x_asB, x_tst, x_tTr, x_truB, x_truI, x_truT, x_truL, x_tAn, x_tOr, x_tNo, x_Ch, x_Sl, x_oN, x_oS, x_slT, x_slL, x_Is, x_Lrg, x_Trg, x_App, x_dd, x_ds, x_dr, x_td, x_tr, x_p2, x_p2T, x_pL, x_Ix, x_dn, x_dc, x_os, x_on, x_add, x_addL, x_addT, x_I0, x_I, x_mul, x_isN0, x_isNi, x_isNt, x_ntN0, x_ntNi, x_ntNt, x_isB, x_nisB, x_isBb, x_bLenL, x_bLenT, x_bAbs, x_bMax, x_bMin, x_bInt, x_bIntB, x_bBool, x_bTupL, x_bTupT, x_bLstL, x_bLstT, x_bAll, x_bAny, x_bSum, x_bMaxL, x_bMinL, s_Nil, s_Cons, s_Bk, s_Ct, s_Set, s_Par, s_Par3, s_Un, s_Drop, s_Ret, s_RetN, s_If, s_Raise, s_For, s_Sub, ix20, ix21, x_appG, x_appK, g_N, g_T, g_n, g_c, i_Seq, i_L, i_T, i_Rng, i_r1, i_r2, i_zL, i_zT, i_eL, l_n, l_Lc, l_E, l_wn, l_wc, l_tY, f_n, th_d, nt_d, z_0, z_1, z_2, z_3, z_4, z_5, z_6, z_7, z_8, z_9, z_10, z_11, z_12, n_0, n_1, n_2, n_3, n_4, n_5, n_6, n_7, n_8, n_9, n_10, n_11, n_12, q_S, q_SN, q_I, q_IN, q_0, q_1, q_in2, q_in2L, at_0, at_1, at_2, at_3, at_4, at_5, at_6, q_inI, q_inB, s_Try, nx_rt, nx_nx, i_eSL, i_eST, x_Split, x_Join, x_strG, x_splK, x_joinK, x_str2i, x_str2s, x_RevL, x_revLK, s_RaiseF, s_TryN, x_F, x_Mix, x_MxT, x_mixK, x_Exv, x_ExvF, x_exvK, x_FldE, x_IsE, mix_app, mix_app0, exv_app, exv_app0, mix_0, mix_s, exv_0, exv_s, x_addM, x_ixM, x_lenM, x_fldEK, x_isEK, Int.reduceBEq, Int.reduceLT, Int.reduceLE, Int.reduceAdd, Int.reduceSub, Int.reduceMul, nth_0, nth_1, nth_2, nth_3, beq_self_eq_true, Bool.true_or, Bool.false_or, Bool.true_and, Bool.false_and, Bool.and_true, Bool.and_false, List.getElem?_cons_zero, List.getElem?_cons_succ, List.set_cons_zero, List.set_cons_succ, Option.bind_some, Option.bind_none, Option.map_some, Option.map_none, decide_true, decide_false, decide_eq_true_eq, if_true, if_false, Bool.not_true, Bool.not_false, Bool.false_eq_true, reduceIte, List.length_cons, List.length_nil, Nat.reduceAdd, Nat.zero_add, eq_self, isTy, tyN]
  obtain ⟨a, b, e⟩ := main
  refine ⟨_, e, ⟨a, b, ?_⟩, by rw [List.length_append]; rfl⟩
  rw [List.getElem?_append_right (Nat.le_refl _), Nat.sub_self]; rfl
theorem dig_one (n : Nat) (a b w : Int) (st st1 : Store) (h : st[n]? = some (.lst [.int a, .int b])) (h1 : st1 = st.set n (.lst [.int (a / w), .int b])) (h2 : st1[n]? = some (.lst [.int (a / w), .int b])) (hl : st1.length = st.length) (hm : ∀ x, okMod x w = true) (hd : ∀ x, okDiv x w = true) (ha : 0 < a) :
    m__law_dig [.r n, .d (.int w)] st = .ok (.d (.int (a % w))) st1 := by
  refine dfn_rt (N := 4) (b := b__law_dig) ?_ hl
  show b__law_dig [some (.r n), some (.d (.int w)), none, none] st = _
  simp only [b__law_dig, h, hm, hd, ha, b_ok, b_exc, b_bad, t_ok, t_exc, t_bad, x_V, x_C, x_O, x_B, x_aN, x_aC, x_Call, x_lenIs, x_tup, x_lst, x_mut, x_disp, x_mkTup, x_mkLst, x_mkMut, x_pn, x_pc, x_if, x_An, x_Or, x_NoT, x_Ng, x_asB, x_tst, x_tTr, x_truB, x_truI, x_truT, x_truL, x_tAn, x_tOr, x_tNo, x_Ch, x_Sl, x_oN, x_oS, x_slT, x_slL, x_Is, x_Lrg, x_Trg, x_App, x_dd, x_ds, x_dr, x_td, x_tr, x_p2, x_p2T, x_pL, x_Ix, x_dn, x_dc, x_os, x_on, x_add, x_addL, x_addT, x_I0, x_I, x_mul, x_isN0, x_isNi, x_isNt, x_ntN0, x_ntNi, x_ntNt, x_isB, x_nisB, x_isBb, x_bLenL, x_bLenT, x_bAbs, x_bMax, x_bMin, x_bInt, x_bIntB, x_bBool, x_bTupL, x_bTupT, x_bLstL, x_bLstT, x_bAll, x_bAny, x_bSum, x_bMaxL, x_bMinL, s_Nil, s_Cons, s_Bk, s_Ct, s_Set, s_Par, s_Par3, s_Un, s_Drop, s_Ret, s_RetN, s_If, s_Raise, s_For, s_Sub, ix20, ix21, x_appG, x_appK, g_N, g_T, g_n, g_c, i_Seq, i_L, i_T, i_Rng, i_r1, i_r2, i_zL, i_zT, i_eL, l_n, l_Lc, l_E, l_wn, l_wc, l_tY, f_n, th_d, nt_d, z_0, z_1, z_2, z_3, z_4, z_5, z_6, z_7, z_8, z_9, z_10, z_11, z_12, n_0, n_1, n_2, n_3, n_4, n_5, n_6, n_7, n_8, n_9, n_10, n_11, n_12, q_S, q_SN, q_I, q_IN, q_0, q_1, q_in2, q_in2L, at_0, at_1, at_2, at_3, at_4, at_5, at_6, q_inI, q_inB, s_Try, nx_rt, nx_nx, i_eSL, i_eST, x_Split, x_Join, x_strG, x_splK, x_joinK, x_str2i, x_str2s, x_RevL, x_revLK, s_RaiseF, s_TryN, x_F, x_Mix, x_MxT, x_mixK, x_Exv, x_ExvF, x_exvK, x_FldE, x_IsE, mix_app, mix_app0, exv_app, exv_app0, mix_0, mix_s, exv_0, exv_s, x_addM, x_ixM, x_lenM, x_fldEK, x_isEK, Int.reduceBEq, Int.reduceLT, Int.reduceLE, Int.reduceAdd, Int.reduceSub, Int.reduceMul, nth_0, nth_1, nth_2, nth_3, beq_self_eq_true, Bool.true_or, Bool.false_or, Bool.true_and, Bool.false_and, Bool.and_true, Bool.and_false, List.getElem?_cons_zero, List.getElem?_cons_succ, List.set_cons_zero, List.set_cons_succ, Option.bind_some, Option.bind_none, Option.map_some, Option.map_none, decide_true, decide_false, decide_eq_true_eq, if_true, if_false, Bool.not_true, Bool.not_false, Bool.false_eq_true, reduceIte, List.length_cons, List.length_nil, Nat.reduceAdd, Nat.zero_add, eq_self, isTy, tyN]
  rw [h1]
theorem dig_two (n : Nat) (a b b2 w : Int) (st st1 : Store) (h : st[n]? = some (.lst [.int a, .int b])) (hb : b2 = (b * 39373 + 4421) % 2147480777) (h1 : st1 = st.set n (.lst [.int a, .int b2])) (h2 : st1[n]? = some (.lst [.int a, .int b2])) (hl : st1.length = st.length) (hm : ∀ x, okMod x w = true) (hq : ∀ x, okMul x (b2 / 37 + 23) = true) (ha : ¬ 0 < a) :
    m__law_dig [.r n, .d (.int w)] st = .ok (.d (.int ((b2 * (b2 / 37 + 23) % 2147480729 / 29) % w))) st1 := by
  have m1 : ∀ x, okMod x 2147480777 = true := fun x => okMod_of (by decide)
  have m2 : ∀ x, okMod x 2147480729 = true := fun x => okMod_of (by decide)
  have d1 : ∀ x, okDiv x 37 = true := fun x => okDiv_of (by decide) (by decide)
  have d2 : ∀ x, okDiv x 29 = true := fun x => okDiv_of (by decide) (by decide)
  have l1 : ∀ x, okMul x 39373 = true := fun x => okMul_r (by decide) (by decide)
  refine dfn_rt (N := 4) (b := b__law_dig) ?_ hl
  show b__law_dig [some (.r n), some (.d (.int w)), none, none] st = _
  have e : b__law_dig [some (.r n), some (.d (.int w)), none, none] st = (sCons (sSet 2 (eO (pur2 dMod) (eO (pur2T dMul) (eB (purL bInt) (aC (eO (pur2 dIx) (eV 0) (eC (.int 1))) (aN))) (eO (pur2T dAdd) (eO (pur2 dFdiv) (eB (purL bInt) (aC (eO (pur2 dIx) (eV 0) (eC (.int 1))) (aN))) (eC (.int 37))) (eC (.int 23)))) (eC (.int 2147480729))))
    (sRet (eO (pur2 dMod) (eB (purL bInt) (aC (eO (pur2 dFdiv) (eB (purL bInt) (aC (eV 2) (aN))) (eC (.int 29))) (aN))) (eV 1)))) [some (.r n), some (.d (.int w)), none, none] st1 := by
    rw [h1, hb]
    simp only [b__law_dig, h, ha, m1, l1, s_Cons, s_If, s_Sub, b_ok, b_exc, b_bad, t_ok, t_exc, t_bad, x_V, x_C, x_O, x_B, x_aN, x_aC, x_Call, x_lenIs, x_tup, x_lst, x_mut, x_disp, x_mkTup, x_mkLst, x_mkMut, x_pn, x_pc, x_if, x_An, x_Or, x_NoT, x_Ng, x_asB, x_tst, x_tTr, x_truB, x_truI, x_truT, x_truL, x_tAn, x_tOr, x_tNo, x_Ch, x_Sl, x_oN, x_oS, x_slT, x_slL, x_Is, x_Lrg, x_Trg, x_App, x_dd, x_ds, x_dr, x_td, x_tr, x_p2, x_p2T, x_pL, x_Ix, x_dn, x_dc, x_os, x_on, x_add, x_addL, x_addT, x_I0, x_I, x_mul, x_isN0, x_isNi, x_isNt, x_ntN0, x_ntNi, x_ntNt, x_isB, x_nisB, x_isBb, x_bLenL, x_bLenT, x_bAbs, x_bMax, x_bMin, x_bInt, x_bIntB, x_bBool, x_bTupL, x_bTupT, x_bLstL, x_bLstT, x_bAll, x_bAny, x_bSum, x_bMaxL, x_bMinL, s_Nil, s_Cons, s_Bk, s_Ct, s_Set, s_Par, s_Par3, s_Un, s_Drop, s_Ret, s_RetN, s_If, s_Raise, s_For, s_Sub, ix20, ix21, x_appG, x_appK, g_N, g_T, g_n, g_c, i_Seq, i_L, i_T, i_Rng, i_r1, i_r2, i_zL, i_zT, i_eL, l_n, l_Lc, l_E, l_wn, l_wc, l_tY, f_n, th_d, nt_d, z_0, z_1, z_2, z_3, z_4, z_5, z_6, z_7, z_8, z_9, z_10, z_11, z_12, n_0, n_1, n_2, n_3, n_4, n_5, n_6, n_7, n_8, n_9, n_10, n_11, n_12, q_S, q_SN, q_I, q_IN, q_0, q_1, q_in2, q_in2L, at_0, at_1, at_2, at_3, at_4, at_5, at_6, q_inI, q_inB, s_Try, nx_rt, nx_nx, i_eSL, i_eST, x_Split, x_Join, x_strG, x_splK, x_joinK, x_str2i, x_str2s, x_RevL, x_revLK, s_RaiseF, s_TryN, x_F, x_Mix, x_MxT, x_mixK, x_Exv, x_ExvF, x_exvK, x_FldE, x_IsE, mix_app, mix_app0, exv_app, exv_app0, mix_0, mix_s, exv_0, exv_s, x_addM, x_ixM, x_lenM, x_fldEK, x_isEK, Int.reduceBEq, Int.reduceLT, Int.reduceLE, Int.reduceAdd, Int.reduceSub, Int.reduceMul, nth_0, nth_1, nth_2, nth_3, beq_self_eq_true, Bool.true_or, Bool.false_or, Bool.true_and, Bool.false_and, Bool.and_true, Bool.and_false, List.getElem?_cons_zero, List.getElem?_cons_succ, List.set_cons_zero, List.set_cons_succ, Option.bind_some, Option.bind_none, Option.map_some, Option.map_none, decide_true, decide_false, decide_eq_true_eq, if_true, if_false, Bool.not_true, Bool.not_false, Bool.false_eq_true, reduceIte, List.length_cons, List.length_nil, Nat.reduceAdd, Nat.zero_add, eq_self, isTy, tyN]
  rw [e]
  simp only [h2, m2, d1, d2, hm, hq, b_ok, b_exc, b_bad, t_ok, t_exc, t_bad, x_V, x_C, x_O, x_B, x_aN, x_aC, x_Call, x_lenIs, x_tup, x_lst, x_mut, x_disp, x_mkTup, x_mkLst, x_mkMut, x_pn, x_pc, x_if, x_An, x_Or, x_NoT, x_Ng, x_asB, x_tst, x_tTr, x_truB, x_truI, x_truT, x_truL, x_tAn, x_tOr, x_tNo, x_Ch, x_Sl, x_oN, x_oS, x_slT, x_slL, x_Is, x_Lrg, x_Trg, x_App, x_dd, x_ds, x_dr, x_td, x_tr, x_p2, x_p2T, x_pL, x_Ix, x_dn, x_dc, x_os, x_on, x_add, x_addL, x_addT, x_I0, x_I, x_mul, x_isN0, x_isNi, x_isNt, x_ntN0, x_ntNi, x_ntNt, x_isB, x_nisB, x_isBb, x_bLenL, x_bLenT, x_bAbs, x_bMax, x_bMin, x_bInt, x_bIntB, x_bBool, x_bTupL, x_bTupT, x_bLstL, x_bLstT, x_bAll, x_bAny, x_bSum, x_bMaxL, x_bMinL, s_Nil, s_Cons, s_Bk, s_Ct, s_Set, s_Par, s_Par3, s_Un, s_Drop, s_Ret, s_RetN, s_If, s_Raise, s_For, s_Sub, ix20, ix21, x_appG, x_appK, g_N, g_T, g_n, g_c, i_Seq, i_L, i_T, i_Rng, i_r1, i_r2, i_zL, i_zT, i_eL, l_n, l_Lc, l_E, l_wn, l_wc, l_tY, f_n, th_d, nt_d, z_0, z_1, z_2, z_3, z_4, z_5, z_6, z_7, z_8, z_9, z_10, z_11, z_12, n_0, n_1, n_2, n_3, n_4, n_5, n_6, n_7, n_8, n_9, n_10, n_11, n_12, q_S, q_SN, q_I, q_IN, q_0, q_1, q_in2, q_in2L, at_0, at_1, at_2, at_3, at_4, at_5, at_6, q_inI, q_inB, s_Try, nx_rt, nx_nx, i_eSL, i_eST, x_Split, x_Join, x_strG, x_splK, x_joinK, x_str2i, x_str2s, x_RevL, x_revLK, s_RaiseF, s_TryN, x_F, x_Mix, x_MxT, x_mixK, x_Exv, x_ExvF, x_exvK, x_FldE, x_IsE, mix_app, mix_app0, exv_app, exv_app0, mix_0, mix_s, exv_0, exv_s, x_addM, x_ixM, x_lenM, x_fldEK, x_isEK, Int.reduceBEq, Int.reduceLT, Int.reduceLE, Int.reduceAdd, Int.reduceSub, Int.reduceMul, nth_0, nth_1, nth_2, nth_3, beq_self_eq_true, Bool.true_or, Bool.false_or, Bool.true_and, Bool.false_and, Bool.and_true, Bool.and_false, List.getElem?_cons_zero, List.getElem?_cons_succ, List.set_cons_zero, List.set_cons_succ, Option.bind_some, Option.bind_none, Option.map_some, Option.map_none, decide_true, decide_false, decide_eq_true_eq, if_true, if_false, Bool.not_true, Bool.not_false, Bool.false_eq_true, reduceIte, List.length_cons, List.length_nil, Nat.reduceAdd, Nat.zero_add, eq_self, isTy, tyN]
theorem m_dig (n : Nat) (w : Int) (st : Store) (h : Sk n st) (w0 : 0 < w) (w1 : w < 100000000000000000000000000000000) : ∃ v st1, m__law_dig [.r n, .d (.int w)] st = .ok (.d (.int v)) st1 ∧ 0 ≤ v ∧ v < w ∧ Sk n st1 ∧ st1.length = st.length := by
  obtain ⟨a, b, h⟩ := h
  have hn : n < st.length := (List.getElem?_eq_some_iff.mp h).1
  have hm : ∀ x, okMod x w = true := fun x => okMod_of w0
  have hd : ∀ x, okDiv x w = true := fun x => okDiv_of w0 w1
  by_cases ha : 0 < a
  · exact ⟨_, _, dig_one n a b w st _ h rfl (List.getElem?_set_self hn) (List.length_set ..) hm hd ha, Int.emod_nonneg _ (by omega), Int.emod_lt_of_pos _ w0, ⟨_, _, List.getElem?_set_self hn⟩, List.length_set ..⟩
  · have q1 : 0 ≤ (b * 39373 + 4421) % 2147480777 := Int.emod_nonneg _ (by decide)
    have q2 : (b * 39373 + 4421) % 2147480777 < 2147480777 := Int.emod_lt_of_pos _ (by decide)
    refine ⟨_, _, dig_two n a b _ w st _ h rfl rfl (List.getElem?_set_self hn) (List.length_set ..) hm (fun x => okMul_r (by omega) (by omega)) ha, Int.emod_nonneg _ (by omega), Int.emod_lt_of_pos _ w0, ⟨_, _, List.getElem?_set_self hn⟩, List.length_set ..⟩
theorem pick_gen (n : Nat) (X : List D) (v : Int) (d : D) (st st1 : Store) (h : m__law_dig [.r n, .d (.int X.length)] st = .ok (.d (.int v)) st1) (hl : st1.length = st.length) (hd : L2.atI X v = some d) :
    m__law_pick [.r n, .d (.list X)] st = .ok (.d d) st1 := by
  refine dfn_rt (N := 2) (b := b__law_pick) ?_ hl
  show b__law_pick [some (.r n), some (.d (.list X))] st = _
  simp only [b__law_pick, h, hd, b_ok, b_exc, b_bad, t_ok, t_exc, t_bad, x_V, x_C, x_O, x_B, x_aN, x_aC, x_Call, x_lenIs, x_tup, x_lst, x_mut, x_disp, x_mkTup, x_mkLst, x_mkMut, x_pn, x_pc, x_if, x_An, x_Or, x_NoT, x_Ng, x_asB, x_tst, x_tTr, x_truB, x_truI, x_truT, x_truL, x_tAn, x_tOr, x_tNo, x_Ch, x_Sl, x_oN, x_oS, x_slT, x_slL, x_Is, x_Lrg, x_Trg, x_App, x_dd, x_ds, x_dr, x_td, x_tr, x_p2, x_p2T, x_pL, x_Ix, x_dn, x_dc, x_os, x_on, x_add, x_addL, x_addT, x_I0, x_I, x_mul, x_isN0, x_isNi, x_isNt, x_ntN0, x_ntNi, x_ntNt, x_isB, x_nisB, x_isBb, x_bLenL, x_bLenT, x_bAbs, x_bMax, x_bMin, x_bInt, x_bIntB, x_bBool, x_bTupL, x_bTupT, x_bLstL, x_bLstT, x_bAll, x_bAny, x_bSum, x_bMaxL, x_bMinL, s_Nil, s_Cons, s_Bk, s_Ct, s_Set, s_Par, s_Par3, s_Un, s_Drop, s_Ret, s_RetN, s_If, s_Raise, s_For, s_Sub, ix20, ix21, x_appG, x_appK, g_N, g_T, g_n, g_c, i_Seq, i_L, i_T, i_Rng, i_r1, i_r2, i_zL, i_zT, i_eL, l_n, l_Lc, l_E, l_wn, l_wc, l_tY, f_n, th_d, nt_d, z_0, z_1, z_2, z_3, z_4, z_5, z_6, z_7, z_8, z_9, z_10, z_11, z_12, n_0, n_1, n_2, n_3, n_4, n_5, n_6, n_7, n_8, n_9, n_10, n_11, n_12, q_S, q_SN, q_I, q_IN, q_0, q_1, q_in2, q_in2L, at_0, at_1, at_2, at_3, at_4, at_5, at_6, q_inI, q_inB, s_Try, nx_rt, nx_nx, i_eSL, i_eST, x_Split, x_Join, x_strG, x_splK, x_joinK, x_str2i, x_str2s, x_RevL, x_revLK, s_RaiseF, s_TryN, x_F, x_Mix, x_MxT, x_mixK, x_Exv, x_ExvF, x_exvK, x_FldE, x_IsE, mix_app, mix_app0, exv_app, exv_app0, mix_0, mix_s, exv_0, exv_s, x_addM, x_ixM, x_lenM, x_fldEK, x_isEK, Int.reduceBEq, Int.reduceLT, Int.reduceLE, Int.reduceAdd, Int.reduceSub, Int.reduceMul, nth_0, nth_1, nth_2, nth_3, beq_self_eq_true, Bool.true_or, Bool.false_or, Bool.true_and, Bool.false_and, Bool.and_true, Bool.and_false, List.getElem?_cons_zero, List.getElem?_cons_succ, List.set_cons_zero, List.set_cons_succ, Option.bind_some, Option.bind_none, Option.map_some, Option.map_none, decide_true, decide_false, decide_eq_true_eq, if_true, if_false, Bool.not_true, Bool.not_false, Bool.false_eq_true, reduceIte, List.length_cons, List.length_nil, Nat.reduceAdd, Nat.zero_add, eq_self, isTy, tyN]
theorem m_pick (n : Nat) (X : List D) (st : Store) (h : Sk n st) (h0 : 0 < X.length) (h1 : X.length < 1000000) : ∃ d st1, m__law_pick [.r n, .d (.list X)] st = .ok (.d d) st1 ∧ d ∈ X ∧ Sk n st1 ∧ st1.length = st.length := by
  obtain ⟨v, st1, e, v0, v1, hs, hl⟩ := m_dig n X.length st h (by omega) (by omega)
  obtain ⟨k, rfl⟩ := Int.eq_ofNat_of_zero_le v0
  have hk : k < X.length := by omega
  exact ⟨X[k], st1, pick_gen n X k _ st st1 e hl (by rw [atI_nat]; simp [hk]), List.getElem_mem hk, hs, hl⟩
theorem pick_int (n : Nat) (X : List Int) (st : Store) (h : Sk n st) (h0 : 0 < X.length) (h1 : X.length < 1000000) : ∃ x st1, m__law_pick [.r n, .d (.list (X.map PyData.int))] st = .ok (.d (.int x)) st1 ∧ x ∈ X ∧ Sk n st1 ∧ st1.length = st.length := by
  obtain ⟨d, st1, e, hd, h2, h3⟩ := m_pick n (X.map PyData.int) st h (by rw [List.length_map]; exact h0) (by rw [List.length_map]; exact h1)
  obtain ⟨x, hx, rfl⟩ := List.mem_map.mp hd
  exact ⟨x, st1, e, hx, h2, h3⟩
theorem in20 {X : List Int} (h : (X.all fun x => decide (0 ≤ x) && decide (x ≤ 20)) = true) {x : Int} (hx : x ∈ X) : In20 x := by
  have := List.all_eq_true.mp h x hx
  rw [Bool.and_eq_true, decide_eq_true_eq, decide_eq_true_eq] at this
  exact this
theorem in12 {X : List Int} (h : (X.all fun x => decide (0 ≤ x) && decide (x ≤ 12)) = true) {x : Int} (hx : x ∈ X) : 0 ≤ x ∧ x ≤ 12 := by
  have := List.all_eq_true.mp h x hx
  rw [Bool.and_eq_true, decide_eq_true_eq, decide_eq_true_eq] at this
  exact this
open PySem.Spec L2
def n13 : List Str := ["InvalidTown", "InvalidFacts", "InvalidJourney", "InvalidStanding", "InvalidLine", "InvalidNumber", "InvalidIndex", "InvalidStep", "Impossible", "Unlike", "NothingToUndo", "TooMany", "InvalidText"]
def objs (L : Nat) (i : Int) : Store := [.exv "InvalidTown" [], .exv "InvalidFacts" [], .exv "InvalidJourney" [], .exv "InvalidStanding" [], .exv "InvalidLine" [], .mix false [.r L, .r (L + 1), .r (L + 2), .r (L + 3), .r (L + 4)],
  .exv "InvalidNumber" [], .exv "InvalidIndex" [], .exv "InvalidStep" [], .exv "Impossible" [], .exv "Unlike" [], .mix false [.r (L + 6), .r (L + 7), .r (L + 8), .r (L + 9), .r (L + 10)],
  .mix false [.r L, .r (L + 1), .r (L + 2), .r (L + 3), .r (L + 4), .r (L + 6), .r (L + 7), .r (L + 8), .r (L + 9), .r (L + 10)],
  .exv "NothingToUndo" [], .exv "TooMany" [("limit", .int i)], .exv "InvalidText" [("row", .int i)], .mix false [.r (L + 13), .r (L + 14), .r (L + 15)],
  .mix false [.r L, .r (L + 1), .r (L + 2), .r (L + 3), .r (L + 4), .r (L + 6), .r (L + 7), .r (L + 8), .r (L + 9), .r (L + 10), .r (L + 13), .r (L + 14), .r (L + 15)]]
theorem all_eq (s : Str) (i : Int) (st : Store) : m__law_all_errors [.d (.str s), .d (.int i)] st = .ok (.r (st.length + 17)) (st ++ objs st.length i) := by
  refine dfn_rv (N := 3) (b := b__law_all_errors) ?_
  show b__law_all_errors [some (.d (.str s)), some (.d (.int i)), none] _ = _
  have z (k : Nat) (h : k ≤ 16777216) : szOk k = true := szOk_of h
  simp (config := {decide := true}) only [b__law_all_errors, b_ok, b_exc, b_bad, t_ok, t_exc, t_bad, x_V, x_C, x_O, x_B, x_aN, x_aC, x_Call, x_lenIs, x_tup, x_lst, x_mut, x_disp, x_mkTup, x_mkLst, x_mkMut, x_pn, x_pc, x_if, x_An, x_Or, x_NoT, x_Ng, x_asB, x_tst, x_tTr, x_truB, x_truI, x_truT, x_truL, x_tAn, x_tOr, x_tNo, x_Ch, x_Sl, x_oN, x_oS, x_slT, x_slL, x_Is, x_Lrg, x_Trg, x_App, x_dd, x_ds, x_dr, x_td, x_tr, x_p2, x_p2T, x_pL, x_Ix, x_dn, x_dc, x_os, x_on, x_add, x_addL, x_addT, x_I0, x_I, x_mul, x_isN0, x_isNi, x_isNt, x_ntN0, x_ntNi, x_ntNt, x_isB, x_nisB, x_isBb, x_bLenL, x_bLenT, x_bAbs, x_bMax, x_bMin, x_bInt, x_bIntB, x_bBool, x_bTupL, x_bTupT, x_bLstL, x_bLstT, x_bAll, x_bAny, x_bSum, x_bMaxL, x_bMinL, s_Nil, s_Cons, s_Bk, s_Ct, s_Set, s_Par, s_Par3, s_Un, s_Drop, s_Ret, s_RetN, s_If, s_Raise, s_For, s_Sub, ix20, ix21, x_appG, x_appK, g_N, g_T, g_n, g_c, i_Seq, i_L, i_T, i_Rng, i_r1, i_r2, i_zL, i_zT, i_eL, l_n, l_Lc, l_E, l_wn, l_wc, l_tY, f_n, th_d, nt_d, z_0, z_1, z_2, z_3, z_4, z_5, z_6, z_7, z_8, z_9, z_10, z_11, z_12, n_0, n_1, n_2, n_3, n_4, n_5, n_6, n_7, n_8, n_9, n_10, n_11, n_12, q_S, q_SN, q_I, q_IN, q_0, q_1, q_in2, q_in2L, at_0, at_1, at_2, at_3, at_4, at_5, at_6, q_inI, q_inB, s_Try, nx_rt, nx_nx, i_eSL, i_eST, x_Split, x_Join, x_strG, x_splK, x_joinK, x_str2i, x_str2s, x_RevL, x_revLK, s_RaiseF, s_TryN, x_F, x_Mix, x_MxT, x_mixK, x_Exv, x_ExvF, x_exvK, x_FldE, x_IsE, mix_app, mix_app0, exv_app, exv_app0, mix_0, mix_s, exv_0, exv_s, x_addM, x_ixM, x_lenM, x_fldEK, x_isEK, Int.reduceBEq, Int.reduceLT, Int.reduceLE, Int.reduceAdd, Int.reduceSub, Int.reduceMul, nth_0, nth_1, nth_2, nth_3, beq_self_eq_true, Bool.true_or, Bool.false_or, Bool.true_and, Bool.false_and, Bool.and_true, Bool.and_false, List.getElem?_cons_zero, List.getElem?_cons_succ, List.set_cons_zero, List.set_cons_succ, Option.bind_some, Option.bind_none, Option.map_some, Option.map_none, decide_true, decide_false, decide_eq_true_eq, if_true, if_false, Bool.not_true, Bool.not_false, Bool.false_eq_true, reduceIte, List.length_cons, List.length_nil, Nat.reduceAdd, Nat.zero_add, eq_self, isTy, tyN, List.append_assoc, List.cons_append, List.nil_append, List.length_append, Nat.add_assoc, z, objs]
def ix13 : List Nat := [0, 1, 2, 3, 4, 6, 7, 8, 9, 10, 13, 14, 15]
def cb13 (cn : Str) : List Bool := n13.map fun y => (kTab kitO y cn).getD false
def c13 (cn : Str) : List D := (cb13 cn).map PyData.bool
theorem classes_eq (cn : Str) (fs : List (Str × D)) (n : Nat) (st : Store) (h : exvAt st n = some (cn, fs)) (t : ∀ y ∈ n13, ∃ b, kTab kitO y cn = some b) : m__law_classes [.r n] st = .ok (.d (.list (c13 cn))) st := by
  obtain ⟨b0, h0⟩ := t "InvalidTown" (by decide)
  obtain ⟨b1, h1⟩ := t "InvalidFacts" (by decide)
  obtain ⟨b2, h2⟩ := t "InvalidJourney" (by decide)
  obtain ⟨b3, h3⟩ := t "InvalidStanding" (by decide)
  obtain ⟨b4, h4⟩ := t "InvalidLine" (by decide)
  obtain ⟨b5, h5⟩ := t "InvalidNumber" (by decide)
  obtain ⟨b6, h6⟩ := t "InvalidIndex" (by decide)
  obtain ⟨b7, h7⟩ := t "InvalidStep" (by decide)
  obtain ⟨b8, h8⟩ := t "Impossible" (by decide)
  obtain ⟨b9, h9⟩ := t "Unlike" (by decide)
  obtain ⟨b10, h10⟩ := t "NothingToUndo" (by decide)
  obtain ⟨b11, h11⟩ := t "TooMany" (by decide)
  obtain ⟨b12, h12⟩ := t "InvalidText" (by decide)
  have z (k : Nat) (h : k ≤ 16777216) : szOk k = true := szOk_of h
  refine dfn_rv (N := 2) (b := b__law_classes) ?_
  show b__law_classes [some (.r n), none] _ = _
  simp (config := {decide := true}) only [b__law_classes, h, h0, h1, h2, h3, h4, h5, h6, h7, h8, h9, h10, h11, h12, b_ok, b_exc, b_bad, t_ok, t_exc, t_bad, x_V, x_C, x_O, x_B, x_aN, x_aC, x_Call, x_lenIs, x_tup, x_lst, x_mut, x_disp, x_mkTup, x_mkLst, x_mkMut, x_pn, x_pc, x_if, x_An, x_Or, x_NoT, x_Ng, x_asB, x_tst, x_tTr, x_truB, x_truI, x_truT, x_truL, x_tAn, x_tOr, x_tNo, x_Ch, x_Sl, x_oN, x_oS, x_slT, x_slL, x_Is, x_Lrg, x_Trg, x_App, x_dd, x_ds, x_dr, x_td, x_tr, x_p2, x_p2T, x_pL, x_Ix, x_dn, x_dc, x_os, x_on, x_add, x_addL, x_addT, x_I0, x_I, x_mul, x_isN0, x_isNi, x_isNt, x_ntN0, x_ntNi, x_ntNt, x_isB, x_nisB, x_isBb, x_bLenL, x_bLenT, x_bAbs, x_bMax, x_bMin, x_bInt, x_bIntB, x_bBool, x_bTupL, x_bTupT, x_bLstL, x_bLstT, x_bAll, x_bAny, x_bSum, x_bMaxL, x_bMinL, s_Nil, s_Cons, s_Bk, s_Ct, s_Set, s_Par, s_Par3, s_Un, s_Drop, s_Ret, s_RetN, s_If, s_Raise, s_For, s_Sub, ix20, ix21, x_appG, x_appK, g_N, g_T, g_n, g_c, i_Seq, i_L, i_T, i_Rng, i_r1, i_r2, i_zL, i_zT, i_eL, l_n, l_Lc, l_E, l_wn, l_wc, l_tY, f_n, th_d, nt_d, z_0, z_1, z_2, z_3, z_4, z_5, z_6, z_7, z_8, z_9, z_10, z_11, z_12, n_0, n_1, n_2, n_3, n_4, n_5, n_6, n_7, n_8, n_9, n_10, n_11, n_12, q_S, q_SN, q_I, q_IN, q_0, q_1, q_in2, q_in2L, at_0, at_1, at_2, at_3, at_4, at_5, at_6, q_inI, q_inB, s_Try, nx_rt, nx_nx, i_eSL, i_eST, x_Split, x_Join, x_strG, x_splK, x_joinK, x_str2i, x_str2s, x_RevL, x_revLK, s_RaiseF, s_TryN, x_F, x_Mix, x_MxT, x_mixK, x_Exv, x_ExvF, x_exvK, x_FldE, x_IsE, mix_app, mix_app0, exv_app, exv_app0, mix_0, mix_s, exv_0, exv_s, x_addM, x_ixM, x_lenM, x_fldEK, x_isEK, Int.reduceBEq, Int.reduceLT, Int.reduceLE, Int.reduceAdd, Int.reduceSub, Int.reduceMul, nth_0, nth_1, nth_2, nth_3, beq_self_eq_true, Bool.true_or, Bool.false_or, Bool.true_and, Bool.false_and, Bool.and_true, Bool.and_false, List.getElem?_cons_zero, List.getElem?_cons_succ, List.set_cons_zero, List.set_cons_succ, Option.bind_some, Option.bind_none, Option.map_some, Option.map_none, decide_true, decide_false, decide_eq_true_eq, if_true, if_false, Bool.not_true, Bool.not_false, Bool.false_eq_true, reduceIte, List.length_cons, List.length_nil, Nat.reduceAdd, Nat.zero_add, eq_self, isTy, tyN, z, c13, cb13, n13, List.map_cons, List.map_nil, Option.getD_some, List.cons_append, List.nil_append]
/-- whether the i-th is told rightly -/
def row13 (k : Nat) : Bool := decide (cb13 (n13.getD k "") = (List.range 13).map fun h => decide (h = k)) && ((n13.all fun y => (kTab kitO y (n13.getD k "")).isSome) && (decide (kTab kitO "MinuteError" (n13.getD k "") = some true) && decide (kTab kitB "ValueError" (n13.getD k "") = some true)))
theorem rows_ok : (List.range 13).all row13 = true := by decide +kernel
theorem exv_objs (L : Nat) (i : Int) (k : Nat) (hk : k < 13) : ∃ fs, exvAt (objs L i) (ix13.getD k 0) = some (n13.getD k "", fs) := by
  match k, hk with
  | 0, _ | 1, _ | 2, _ | 3, _ | 4, _ | 5, _ | 6, _ | 7, _ | 8, _ | 9, _ | 10, _ | 11, _ | 12, _ => exact ⟨_, rfl⟩
theorem at_refs (L : Nat) (k : Nat) (hk : k < 13) : L2.atI [Vl.r L, .r (L + 1), .r (L + 2), .r (L + 3), .r (L + 4), .r (L + 6), .r (L + 7), .r (L + 8), .r (L + 9), .r (L + 10), .r (L + 13), .r (L + 14), .r (L + 15)] (k : Int) = some (.r (L + ix13.getD k 0)) := by
  rw [DL.atI_nat]
  match k, hk with
  | 0, _ | 1, _ | 2, _ | 3, _ | 4, _ | 5, _ | 6, _ | 7, _ | 8, _ | 9, _ | 10, _ | 11, _ | 12, _ => rfl
theorem here_k (a0 a1 a2 a5 a6 a7 : Option Vl) (st : Store) (n : Nat) (K : Int) (k : Nat) (hK : K = k) (xs : List Vl) (hm : mixAt st n = some (false, xs)) (hl : (xs.length : Int) = 13) :
    k_law_1 [a0, a1, a2, some (.r n), some (.d (.int K)), a5, a6, a7] st = .ok (.d (.list ((List.range 13).map fun h => PyData.bool (decide (h = k))))) st := by
  have h13 : rngD 0 (13 : Int).toNat = (List.range 13).map fun h : Nat => PyData.int (0 + (h : Int)) := rfl
  have o13 : ok62 13 = true := by decide
  refine eLc_map (own := [7]) (t := gN 7) (e := x_law_1) (δ := [a0, a1, a2, some (.r n), some (.d (.int K)), a5, a6, a7]) (g := fun h : Nat => PyData.int (0 + (h : Int))) (r := fun h : Nat => PyData.bool (decide (h = k))) (xs := List.range 13) ?_ (by decide) fun h _ => ⟨[a0, a1, a2, some (.r n), some (.d (.int K)), a5, a6, some (.d (.int (0 + (h : Int))))], rfl, ?_⟩
  · simp only [b_ok, b_exc, b_bad, t_ok, t_exc, t_bad, x_V, x_C, x_O, x_B, x_aN, x_aC, x_Call, x_lenIs, x_tup, x_lst, x_mut, x_disp, x_mkTup, x_mkLst, x_mkMut, x_pn, x_pc, x_if, x_An, x_Or, x_NoT, x_Ng, x_asB, x_tst, x_tTr, x_truB, x_truI, x_truT, x_truL, x_tAn, x_tOr, x_tNo, x_Ch, x_Sl, x_oN, x_oS, x_slT, x_slL, x_Is, x_Lrg, x_Trg, x_App, x_dd, x_ds, x_dr, x_td, x_tr, x_p2, x_p2T, x_pL, x_Ix, x_dn, x_dc, x_os, x_on, x_add, x_addL, x_addT, x_I0, x_I, x_mul, x_isN0, x_isNi, x_isNt, x_ntN0, x_ntNi, x_ntNt, x_isB, x_nisB, x_isBb, x_bLenL, x_bLenT, x_bAbs, x_bMax, x_bMin, x_bInt, x_bIntB, x_bBool, x_bTupL, x_bTupT, x_bLstL, x_bLstT, x_bAll, x_bAny, x_bSum, x_bMaxL, x_bMinL, s_Nil, s_Cons, s_Bk, s_Ct, s_Set, s_Par, s_Par3, s_Un, s_Drop, s_Ret, s_RetN, s_If, s_Raise, s_For, s_Sub, ix20, ix21, x_appG, x_appK, g_N, g_T, g_n, g_c, i_Seq, i_L, i_T, i_Rng, i_r1, i_r2, i_zL, i_zT, i_eL, l_n, l_Lc, l_E, l_wn, l_wc, l_tY, f_n, th_d, nt_d, z_0, z_1, z_2, z_3, z_4, z_5, z_6, z_7, z_8, z_9, z_10, z_11, z_12, n_0, n_1, n_2, n_3, n_4, n_5, n_6, n_7, n_8, n_9, n_10, n_11, n_12, q_S, q_SN, q_I, q_IN, q_0, q_1, q_in2, q_in2L, at_0, at_1, at_2, at_3, at_4, at_5, at_6, q_inI, q_inB, s_Try, nx_rt, nx_nx, i_eSL, i_eST, x_Split, x_Join, x_strG, x_splK, x_joinK, x_str2i, x_str2s, x_RevL, x_revLK, s_RaiseF, s_TryN, x_F, x_Mix, x_MxT, x_mixK, x_Exv, x_ExvF, x_exvK, x_FldE, x_IsE, mix_app, mix_app0, exv_app, exv_app0, mix_0, mix_s, exv_0, exv_s, x_addM, x_ixM, x_lenM, x_fldEK, x_isEK, Int.reduceBEq, Int.reduceLT, Int.reduceLE, Int.reduceAdd, Int.reduceSub, Int.reduceMul, nth_0, nth_1, nth_2, nth_3, beq_self_eq_true, Bool.true_or, Bool.false_or, Bool.true_and, Bool.false_and, Bool.and_true, Bool.and_false, List.getElem?_cons_zero, List.getElem?_cons_succ, List.set_cons_zero, List.set_cons_succ, Option.bind_some, Option.bind_none, Option.map_some, Option.map_none, decide_true, decide_false, decide_eq_true_eq, if_true, if_false, Bool.not_true, Bool.not_false, Bool.false_eq_true, reduceIte, List.length_cons, List.length_nil, Nat.reduceAdd, Nat.zero_add, eq_self, isTy, tyN, hm, hl, o13, h13]
  · have e3 : dEq (.int (0 + (h : Int))) (.int K) = some (.bool (decide (h = k))) := by
      rw [dEq_of (.inl (by simp [PyData.depth]))]
      subst hK
      show some (PyData.bool ((0 + (h : Int)) == (k : Int))) = _
      congr 2
      by_cases z : h = k
      · subst z; simp
      · rw [decide_eq_false z]; exact beq_eq_false_iff_ne.mpr (by omega)
    generalize (0 + (h : Int)) = Z at *
    simp only [x_law_1, b_ok, b_exc, b_bad, t_ok, t_exc, t_bad, x_V, x_C, x_O, x_B, x_aN, x_aC, x_Call, x_lenIs, x_tup, x_lst, x_mut, x_disp, x_mkTup, x_mkLst, x_mkMut, x_pn, x_pc, x_if, x_An, x_Or, x_NoT, x_Ng, x_asB, x_tst, x_tTr, x_truB, x_truI, x_truT, x_truL, x_tAn, x_tOr, x_tNo, x_Ch, x_Sl, x_oN, x_oS, x_slT, x_slL, x_Is, x_Lrg, x_Trg, x_App, x_dd, x_ds, x_dr, x_td, x_tr, x_p2, x_p2T, x_pL, x_Ix, x_dn, x_dc, x_os, x_on, x_add, x_addL, x_addT, x_I0, x_I, x_mul, x_isN0, x_isNi, x_isNt, x_ntN0, x_ntNi, x_ntNt, x_isB, x_nisB, x_isBb, x_bLenL, x_bLenT, x_bAbs, x_bMax, x_bMin, x_bInt, x_bIntB, x_bBool, x_bTupL, x_bTupT, x_bLstL, x_bLstT, x_bAll, x_bAny, x_bSum, x_bMaxL, x_bMinL, s_Nil, s_Cons, s_Bk, s_Ct, s_Set, s_Par, s_Par3, s_Un, s_Drop, s_Ret, s_RetN, s_If, s_Raise, s_For, s_Sub, ix20, ix21, x_appG, x_appK, g_N, g_T, g_n, g_c, i_Seq, i_L, i_T, i_Rng, i_r1, i_r2, i_zL, i_zT, i_eL, l_n, l_Lc, l_E, l_wn, l_wc, l_tY, f_n, th_d, nt_d, z_0, z_1, z_2, z_3, z_4, z_5, z_6, z_7, z_8, z_9, z_10, z_11, z_12, n_0, n_1, n_2, n_3, n_4, n_5, n_6, n_7, n_8, n_9, n_10, n_11, n_12, q_S, q_SN, q_I, q_IN, q_0, q_1, q_in2, q_in2L, at_0, at_1, at_2, at_3, at_4, at_5, at_6, q_inI, q_inB, s_Try, nx_rt, nx_nx, i_eSL, i_eST, x_Split, x_Join, x_strG, x_splK, x_joinK, x_str2i, x_str2s, x_RevL, x_revLK, s_RaiseF, s_TryN, x_F, x_Mix, x_MxT, x_mixK, x_Exv, x_ExvF, x_exvK, x_FldE, x_IsE, mix_app, mix_app0, exv_app, exv_app0, mix_0, mix_s, exv_0, exv_s, x_addM, x_ixM, x_lenM, x_fldEK, x_isEK, Int.reduceBEq, Int.reduceLT, Int.reduceLE, Int.reduceAdd, Int.reduceSub, Int.reduceMul, nth_0, nth_1, nth_2, nth_3, beq_self_eq_true, Bool.true_or, Bool.false_or, Bool.true_and, Bool.false_and, Bool.and_true, Bool.and_false, List.getElem?_cons_zero, List.getElem?_cons_succ, List.set_cons_zero, List.set_cons_succ, Option.bind_some, Option.bind_none, Option.map_some, Option.map_none, decide_true, decide_false, decide_eq_true_eq, if_true, if_false, Bool.not_true, Bool.not_false, Bool.false_eq_true, reduceIte, List.length_cons, List.length_nil, Nat.reduceAdd, Nat.zero_add, eq_self, isTy, tyN, e3]
theorem ne_bools (xs ys : List Bool) (h : xs = ys) : dNe (.list (xs.map PyData.bool)) (.list (ys.map PyData.bool)) = some (.bool false) := by
  subst h
  have hd : PyData.depthAll (xs.map PyData.bool) ≤ 0 := depthAll_le fun x hx => by
    obtain ⟨b, _, rfl⟩ := List.mem_map.mp hx
    exact Nat.le_refl 0
  have he : ∀ zs : List Bool, PyData.eqvAll (zs.map PyData.bool) (zs.map PyData.bool) = true := by
    intro zs
    induction zs with
    | nil => simp [PyData.eqvAll]
    | cons z zs ih => simp [PyData.eqvAll, PyData.eqv, ih]
  rw [dNe_of (.inl (by simp only [PyData.depth]; omega))]
  simp [PyData.eqv, he]
/-- the table of what stands -/
structure Tb (st : Store) (n : Nat) (i : Int) : Prop where
  m : ∃ L, mixAt st n = some (false, [.r L, .r (L + 1), .r (L + 2), .r (L + 3), .r (L + 4), .r (L + 6), .r (L + 7), .r (L + 8), .r (L + 9), .r (L + 10), .r (L + 13), .r (L + 14), .r (L + 15)]) ∧ (∀ k, k < 13 → ∃ fs, exvAt st (L + ix13.getD k 0) = some (n13.getD k "", fs)) ∧
    exvAt st (L + 14) = some (("TooMany" : Str), [(("limit" : Str), PyData.int i)]) ∧ exvAt st (L + 15) = some (("InvalidText" : Str), [(("row" : Str), PyData.int i)])
theorem inner (a0 a1 a2 a5 a6 a7 : Option Vl) (st : Store) (n : Nat) (i : Int) (T : Tb st n i) (k : Nat) (hk : k < 13) (K : Int) (hK : K = k) :
    l_law_1 [a0, a1, a2, some (.r n), some (.d (.int K)), a5, a6, a7] st = .nx [a0, a1, a2, some (.r n), some (.d (.int K)), a5, a6, a7] st := by
  obtain ⟨L, hm, hx, _⟩ := T.m
  obtain ⟨fs, hx⟩ := hx k hk
  have ha := at_refs L k hk
  rw [← hK] at ha
  have hr := List.all_eq_true.mp rows_ok k (List.mem_range.mpr hk)
  unfold row13 at hr
  obtain ⟨r1, hr⟩ := Bool.and_eq_true_iff.mp hr
  obtain ⟨r2, hr⟩ := Bool.and_eq_true_iff.mp hr
  obtain ⟨r3, r4⟩ := Bool.and_eq_true_iff.mp hr
  have r1 := of_decide_eq_true r1
  have r3 := of_decide_eq_true r3
  have r4 := of_decide_eq_true r4
  generalize L + ix13.getD k 0 = p at *
  have hc := classes_eq (n13.getD k "") fs p st hx fun y hy => Option.isSome_iff_exists.mp (List.all_eq_true.mp r2 y hy)
  have hh := here_k a0 a1 a2 a5 a6 a7 st n K k hK _ hm rfl
  have hn : dNe (.list (c13 (n13.getD k ""))) (.list ((List.range 13).map fun h => PyData.bool (decide (h = k)))) = some (.bool false) := by
    unfold c13
    rw [show ((List.range 13).map fun h => PyData.bool (decide (h = k))) = ((List.range 13).map fun h => decide (h = k)).map PyData.bool by rw [List.map_map]; rfl]
    exact ne_bools _ _ r1
  generalize n13.getD k "" = cn at *
  simp only [l_law_1, hm, ha, hx, hc, hh, hn, r3, r4, b_ok, b_exc, b_bad, t_ok, t_exc, t_bad, x_V, x_C, x_O, x_B, x_aN, x_aC, x_Call, x_lenIs, x_tup, x_lst, x_mut, x_disp, x_mkTup, x_mkLst, x_mkMut, x_pn, x_pc, x_if, x_An, x_Or, x_NoT, x_Ng, x_asB, x_tst, x_tTr, x_truB, x_truI, x_truT, x_truL, x_tAn, x_tOr, x_tNo, x_Ch, x_Sl, x_oN, x_oS, x_slT, x_slL, x_Is, x_Lrg, x_Trg, x_App, x_dd, x_ds, x_dr, x_td, x_tr, x_p2, x_p2T, x_pL, x_Ix, x_dn, x_dc, x_os, x_on, x_add, x_addL, x_addT, x_I0, x_I, x_mul, x_isN0, x_isNi, x_isNt, x_ntN0, x_ntNi, x_ntNt, x_isB, x_nisB, x_isBb, x_bLenL, x_bLenT, x_bAbs, x_bMax, x_bMin, x_bInt, x_bIntB, x_bBool, x_bTupL, x_bTupT, x_bLstL, x_bLstT, x_bAll, x_bAny, x_bSum, x_bMaxL, x_bMinL, s_Nil, s_Cons, s_Bk, s_Ct, s_Set, s_Par, s_Par3, s_Un, s_Drop, s_Ret, s_RetN, s_If, s_Raise, s_For, s_Sub, ix20, ix21, x_appG, x_appK, g_N, g_T, g_n, g_c, i_Seq, i_L, i_T, i_Rng, i_r1, i_r2, i_zL, i_zT, i_eL, l_n, l_Lc, l_E, l_wn, l_wc, l_tY, f_n, th_d, nt_d, z_0, z_1, z_2, z_3, z_4, z_5, z_6, z_7, z_8, z_9, z_10, z_11, z_12, n_0, n_1, n_2, n_3, n_4, n_5, n_6, n_7, n_8, n_9, n_10, n_11, n_12, q_S, q_SN, q_I, q_IN, q_0, q_1, q_in2, q_in2L, at_0, at_1, at_2, at_3, at_4, at_5, at_6, q_inI, q_inB, s_Try, nx_rt, nx_nx, i_eSL, i_eST, x_Split, x_Join, x_strG, x_splK, x_joinK, x_str2i, x_str2s, x_RevL, x_revLK, s_RaiseF, s_TryN, x_F, x_Mix, x_MxT, x_mixK, x_Exv, x_ExvF, x_exvK, x_FldE, x_IsE, mix_app, mix_app0, exv_app, exv_app0, mix_0, mix_s, exv_0, exv_s, x_addM, x_ixM, x_lenM, x_fldEK, x_isEK, Int.reduceBEq, Int.reduceLT, Int.reduceLE, Int.reduceAdd, Int.reduceSub, Int.reduceMul, nth_0, nth_1, nth_2, nth_3, beq_self_eq_true, Bool.true_or, Bool.false_or, Bool.true_and, Bool.false_and, Bool.and_true, Bool.and_false, List.getElem?_cons_zero, List.getElem?_cons_succ, List.set_cons_zero, List.set_cons_succ, Option.bind_some, Option.bind_none, Option.map_some, Option.map_none, decide_true, decide_false, decide_eq_true_eq, if_true, if_false, Bool.not_true, Bool.not_false, Bool.false_eq_true, reduceIte, List.length_cons, List.length_nil, Nat.reduceAdd, Nat.zero_add, eq_self, isTy, tyN]
theorem len8 {α : Type} {δ : List α} (h : δ.length = 8) : ∃ a0 a1 a2 a3 a4 a5 a6 a7, δ = [a0, a1, a2, a3, a4, a5, a6, a7] :=
  match δ, h with | [a0, a1, a2, a3, a4, a5, a6, a7], _ => ⟨a0, a1, a2, a3, a4, a5, a6, a7, rfl⟩
theorem tb_of (st : Store) (i : Int) : Tb (st ++ objs st.length i) (st.length + 17) i := by
  refine ⟨st.length, ?_, fun k hk => ?_, ?_, ?_⟩
  · rw [mix_app]; rfl
  · rw [exv_app]; exact exv_objs _ _ k hk
  · rw [exv_app]; rfl
  · rw [exv_app]; rfl
theorem ne_num (i : Int) : dNe (.int i) (.int i) = some (.bool false) := by
  rw [dNe_of (.inl (by simp [PyData.depth]))]
  simp [PyData.eqv]
theorem last_ok (a0 a1 a2 a4 a5 a7 : Option Vl) (st : Store) (n : Nat) (i : Int) (T : Tb st n i) :
    r_law_1 [a0, a1, a2, some (.r n), a4, a5, some (.d (.int i)), a7] st = .nx [a0, a1, a2, some (.r n), a4, a5, some (.d (.int i)), a7] st := by
  obtain ⟨L, hm, _, h11, h12⟩ := T.m
  have a11 := at_refs L 11 (by decide)
  have a12 := at_refs L 12 (by decide)
  have a11 : L2.atI _ (11 : Int) = some (Vl.r (L + 14)) := a11
  have a12 : L2.atI _ (12 : Int) = some (Vl.r (L + 15)) := a12
  have hn := ne_num i
  have l1 : List.lookup ("limit" : Str) [(("limit" : Str), PyData.int i)] = some (.int i) := rfl
  have l2 : List.lookup ("row" : Str) [(("row" : Str), PyData.int i)] = some (.int i) := rfl
  simp only [r_law_1, hm, a11, a12, h11, h12, hn, l1, l2, b_ok, b_exc, b_bad, t_ok, t_exc, t_bad, x_V, x_C, x_O, x_B, x_aN, x_aC, x_Call, x_lenIs, x_tup, x_lst, x_mut, x_disp, x_mkTup, x_mkLst, x_mkMut, x_pn, x_pc, x_if, x_An, x_Or, x_NoT, x_Ng, x_asB, x_tst, x_tTr, x_truB, x_truI, x_truT, x_truL, x_tAn, x_tOr, x_tNo, x_Ch, x_Sl, x_oN, x_oS, x_slT, x_slL, x_Is, x_Lrg, x_Trg, x_App, x_dd, x_ds, x_dr, x_td, x_tr, x_p2, x_p2T, x_pL, x_Ix, x_dn, x_dc, x_os, x_on, x_add, x_addL, x_addT, x_I0, x_I, x_mul, x_isN0, x_isNi, x_isNt, x_ntN0, x_ntNi, x_ntNt, x_isB, x_nisB, x_isBb, x_bLenL, x_bLenT, x_bAbs, x_bMax, x_bMin, x_bInt, x_bIntB, x_bBool, x_bTupL, x_bTupT, x_bLstL, x_bLstT, x_bAll, x_bAny, x_bSum, x_bMaxL, x_bMinL, s_Nil, s_Cons, s_Bk, s_Ct, s_Set, s_Par, s_Par3, s_Un, s_Drop, s_Ret, s_RetN, s_If, s_Raise, s_For, s_Sub, ix20, ix21, x_appG, x_appK, g_N, g_T, g_n, g_c, i_Seq, i_L, i_T, i_Rng, i_r1, i_r2, i_zL, i_zT, i_eL, l_n, l_Lc, l_E, l_wn, l_wc, l_tY, f_n, th_d, nt_d, z_0, z_1, z_2, z_3, z_4, z_5, z_6, z_7, z_8, z_9, z_10, z_11, z_12, n_0, n_1, n_2, n_3, n_4, n_5, n_6, n_7, n_8, n_9, n_10, n_11, n_12, q_S, q_SN, q_I, q_IN, q_0, q_1, q_in2, q_in2L, at_0, at_1, at_2, at_3, at_4, at_5, at_6, q_inI, q_inB, s_Try, nx_rt, nx_nx, i_eSL, i_eST, x_Split, x_Join, x_strG, x_splK, x_joinK, x_str2i, x_str2s, x_RevL, x_revLK, s_RaiseF, s_TryN, x_F, x_Mix, x_MxT, x_mixK, x_Exv, x_ExvF, x_exvK, x_FldE, x_IsE, mix_app, mix_app0, exv_app, exv_app0, mix_0, mix_s, exv_0, exv_s, x_addM, x_ixM, x_lenM, x_fldEK, x_isEK, Int.reduceBEq, Int.reduceLT, Int.reduceLE, Int.reduceAdd, Int.reduceSub, Int.reduceMul, nth_0, nth_1, nth_2, nth_3, beq_self_eq_true, Bool.true_or, Bool.false_or, Bool.true_and, Bool.false_and, Bool.and_true, Bool.and_false, List.getElem?_cons_zero, List.getElem?_cons_succ, List.set_cons_zero, List.set_cons_succ, Option.bind_some, Option.bind_none, Option.map_some, Option.map_none, decide_true, decide_false, decide_eq_true_eq, if_true, if_false, Bool.not_true, Bool.not_false, Bool.false_eq_true, reduceIte, List.length_cons, List.length_nil, Nat.reduceAdd, Nat.zero_add, eq_self, isTy, tyN]
theorem body_ok (ns : List Int) (k : Nat) (hk : k < 1000) (a2 a3 a4 a5 a6 a7 : Option Vl) (st : Store) : ∃ δ' st', l_law_2 [some (.s ns), some (.d (.int k)), a2, a3, a4, a5, a6, a7] st = .nx δ' st' ∧ (δ'.length = 8 ∧ δ'[0]? = some (some (.s ns))) := by
  obtain ⟨s1, e1, S1, _⟩ := m_sack ns k st (by omega)
  obtain ⟨d, s2, e2, hd, S2, _⟩ := m_pick st.length [.str "", .str "a message", .str "x y"] s1 S1 (by decide) (by decide)
  obtain ⟨v, s3, e3, v0, v1, S3, _⟩ := m_dig st.length 1000 s2 S2 (by decide) (by decide)
  obtain ⟨z, rfl⟩ : ∃ z, d = .str z := by
    simp only [List.mem_cons, List.not_mem_nil, or_false] at hd
    rcases hd with rfl | rfl | rfl <;> exact ⟨_, rfl⟩
  have e4 := all_eq z v s3
  have T := tb_of s3 v
  generalize s3 ++ objs s3.length v = s4 at *
  generalize s3.length + 17 = n at *
  obtain ⟨L, hm, _⟩ := T.m
  have hlen : ∀ M : Nat, M ≤ 13 → ∃ δ', forL (gN 4) l_law_1 (rngD 0 M) [some (.s ns), some (.d (.int k)), some (.r st.length), some (.r n), a4, some (.d (.str z)), some (.d (.int v)), a7] s4 = .nx δ' s4 ∧ ∃ b4, δ' = [some (.s ns), some (.d (.int k)), some (.r st.length), some (.r n), b4, some (.d (.str z)), some (.d (.int v)), a7] := fun M hM => by
    obtain ⟨δ', st', h1, h2, h3⟩ := turnsN (i := 4) (f := l_law_1) (fun δ s => s = s4 ∧ ∃ b4, δ = [some (.s ns), some (.d (.int k)), some (.r st.length), some (.r n), b4, some (.d (.str z)), some (.d (.int v)), a7]) 13 (fun x δ s hx h => by
      obtain ⟨rfl, b4, rfl⟩ := h
      exact ⟨_, _, inner _ _ _ _ _ _ _ n v T x hx x rfl, rfl, _, rfl⟩) M hM _ s4 ⟨rfl, a4, rfl⟩
    subst h2
    exact ⟨δ', h1, h3⟩
  obtain ⟨_, h1, b4, rfl⟩ := hlen 13 (Nat.le_refl _)
  have hl := last_ok (some (.s ns)) (some (.d (.int k))) (some (.r st.length)) b4 (some (.d (.str z))) a7 s4 n v T
  have h13 : rngD 0 (((13 : Nat) : Int)).toNat = rngD 0 13 := rfl
  have o13 : ok62 ((13 : Nat) : Int) = true := by decide
  have ll : (([Vl.r L, .r (L + 1), .r (L + 2), .r (L + 3), .r (L + 4), .r (L + 6), .r (L + 7), .r (L + 8), .r (L + 9), .r (L + 10), .r (L + 13), .r (L + 14), .r (L + 15)].length : Nat) : Int) = 13 := rfl
  refine ⟨[some (.s ns), some (.d (.int k)), some (.r st.length), some (.r n), b4, some (.d (.str z)), some (.d (.int v)), a7], s4, ?_, rfl, rfl⟩
  generalize (k : Int) = K at *
  generalize rngD 0 13 = R at *
  simp only [l_law_2, e1, e2, e3, e4, hm, ll, o13, h13, h1, hl, i_Rng, b_ok, b_exc, b_bad, t_ok, t_exc, t_bad, x_V, x_C, x_O, x_B, x_aN, x_aC, x_Call, x_lenIs, x_tup, x_lst, x_mut, x_disp, x_mkTup, x_mkLst, x_mkMut, x_pn, x_pc, x_if, x_An, x_Or, x_NoT, x_Ng, x_asB, x_tst, x_tTr, x_truB, x_truI, x_truT, x_truL, x_tAn, x_tOr, x_tNo, x_Ch, x_Sl, x_oN, x_oS, x_slT, x_slL, x_Is, x_Lrg, x_Trg, x_App, x_dd, x_ds, x_dr, x_td, x_tr, x_p2, x_p2T, x_pL, x_Ix, x_dn, x_dc, x_os, x_on, x_add, x_addL, x_addT, x_I0, x_I, x_mul, x_isN0, x_isNi, x_isNt, x_ntN0, x_ntNi, x_ntNt, x_isB, x_nisB, x_isBb, x_bLenL, x_bLenT, x_bAbs, x_bMax, x_bMin, x_bInt, x_bIntB, x_bBool, x_bTupL, x_bTupT, x_bLstL, x_bLstT, x_bAll, x_bAny, x_bSum, x_bMaxL, x_bMinL, s_Nil, s_Cons, s_Bk, s_Ct, s_Set, s_Par, s_Par3, s_Un, s_Drop, s_Ret, s_RetN, s_If, s_Raise, s_For, s_Sub, ix20, ix21, x_appG, x_appK, g_N, g_T, g_n, g_c, i_Seq, i_L, i_T, i_Rng, i_r1, i_r2, i_zL, i_zT, i_eL, l_n, l_Lc, l_E, l_wn, l_wc, l_tY, f_n, th_d, nt_d, z_0, z_1, z_2, z_3, z_4, z_5, z_6, z_7, z_8, z_9, z_10, z_11, z_12, n_0, n_1, n_2, n_3, n_4, n_5, n_6, n_7, n_8, n_9, n_10, n_11, n_12, q_S, q_SN, q_I, q_IN, q_0, q_1, q_in2, q_in2L, at_0, at_1, at_2, at_3, at_4, at_5, at_6, q_inI, q_inB, s_Try, nx_rt, nx_nx, i_eSL, i_eST, x_Split, x_Join, x_strG, x_splK, x_joinK, x_str2i, x_str2s, x_RevL, x_revLK, s_RaiseF, s_TryN, x_F, x_Mix, x_MxT, x_mixK, x_Exv, x_ExvF, x_exvK, x_FldE, x_IsE, mix_app, mix_app0, exv_app, exv_app0, mix_0, mix_s, exv_0, exv_s, x_addM, x_ixM, x_lenM, x_fldEK, x_isEK, Int.reduceBEq, Int.reduceLT, Int.reduceLE, Int.reduceAdd, Int.reduceSub, Int.reduceMul, nth_0, nth_1, nth_2, nth_3, beq_self_eq_true, Bool.true_or, Bool.false_or, Bool.true_and, Bool.false_and, Bool.and_true, Bool.and_false, List.getElem?_cons_zero, List.getElem?_cons_succ, List.set_cons_zero, List.set_cons_succ, Option.bind_some, Option.bind_none, Option.map_some, Option.map_none, decide_true, decide_false, decide_eq_true_eq, if_true, if_false, Bool.not_true, Bool.not_false, Bool.false_eq_true, reduceIte, List.length_cons, List.length_nil, Nat.reduceAdd, Nat.zero_add, eq_self, isTy, tyN]
theorem law_true : ∀ ns : List Int, ns.length ≤ 63 → ∃ st, m_law [.s ns] [] = .ok (.d (.bool true)) st := by
  intro ns hn
  refine law_frame (N := 8) (body := l_law_2) (rest := r_law_2) 3 6 2 (by decide) (by decide) (by decide) (fun δ _ => δ.length = 8 ∧ δ[0]? = some (some (.s ns))) ⟨rfl, rfl⟩ (fun _ _ h => h.2) hn (fun k δ st hk h => ?_) fun δ st h => ?_
  · obtain ⟨a0, a1, a2, a3, a4, a5, a6, a7, rfl⟩ := len8 h.1
    obtain rfl : a0 = some (.s ns) := Option.some.inj h.2
    exact body_ok ns k hk a2 a3 a4 a5 a6 a7 st
  · exact ⟨st, rfl⟩
end Law
namespace Law
open PySem PySem.Spec L2 DL
abbrev R : PySem.W.OpenRow := PySem.W.OpenLaw.row PySem.Challenge.rw_anyminute_k17_errors_and_their_classes
abbrev hk : PySem.W.Hook := hookY 4 yd
def ob (s : PySem.W.SharedT) : AlY := obsY 4 yd (HandSHeadRun.getT s)
theorem ob_eq (s : PySem.W.SharedT) : ob s = hk.obs s.abs := obsY_eq (HandSHeadRun.getT_eq s)
def loose : List Str := (["MinuteError", "InvalidTown", "InvalidFacts", "InvalidJourney", "InvalidStanding", "InvalidLine", "InvalidNumber", "InvalidIndex", "InvalidStep", "Impossible", "Unlike", "NothingToUndo", "TooMany", "InvalidText", "_law_sack", "_law_dig", "_law_pick", "_law_all_errors", "_law_classes"] : List Str)
theorem run (w : World) : HandSHeadRun.RunEq R (PySem.W.view R.prog [21]) hk ob 4000 loose w := by
  intro os
  kernel_rfl
theorem facts {w : World} {K : PySem.W.Frag} {h : Heap} {mg : Str → Option Value} {f : Addr} (X : K.In h) (G : h.Ns mainGlobals mg) (hfa : mg ("law" : Str) = some (.ref f)) (c : SaysY yd h K) :
    ∃ fd : FuncData, (∀ (s : Shared) (v : Value), BindsTo s fd ⟨[v], []⟩ [("script", v)]) ∧ ∀ base : Heap, K.In base → base.Ns mainGlobals mg → FnOk prog w K mg base (L2.CX prog w) 4 f fd ["script"] (spD K mg 1 m_law) := by
  obtain ⟨c0, c1, c2⟩ := exY_ok c.more
  have hs : ∀ d ∈ sups, supB "/claim/cut.py" K d.cls d.fld = true ∧ fnS K (d.cls, some "__init__") = d.val := fun d hd =>
    ⟨List.all_eq_true.mp c1 d hd, c.fs d.path (List.mem_map.mpr ⟨d, hd, rfl⟩)⟩
  have H : ∀ base : Heap, Hd ⟨prog, w, K, mg, base⟩ := fun base => ⟨⟨h, X, G⟩, c.c, rfl, c0, hs⟩
  obtain ⟨fd, F⟩ := c.c.def_ 5 (d := d_law) rfl
  have e := hfa.symm.trans (He.glo_ok X G (c.c.fact 5 (f := .glo "law") rfl))
  cases e
  have b := FunD.bindsA (ps := ["script"]) F fun _ _ _ _ _ _ us hl => match us, hl with | [_], _ => rfl
  exact ⟨fd, fun s v => b s [v] rfl, fun base _ _ => fo_law (H base) F⟩
end Law
open PySem PySem.W PySem.Calls PyProof.Rows
theorem PySem.Challenge.cw_anyminute_k17_errors_and_their_classes_holds : PySem.Challenge.rw_anyminute_k17_errors_and_their_classes.Holds := by
  w_on; o_law
  refine HandSHeadRun.head_any (r := OpenLaw.row PySem.Challenge.rw_anyminute_k17_errors_and_their_classes) (q := view (OpenLaw.row PySem.Challenge.rw_anyminute_k17_errors_and_their_classes).prog [21]) (H := Law.hk) (ob := Law.ob) (M := 4000) (loose := Law.loose) (d := HandSHeadRun.topDef (OpenLaw.row PySem.Challenge.rw_anyminute_k17_errors_and_their_classes).prog 21) (kwd := []) Law.ob_eq
    (by kernel_rfl) (fun s => by kernel_rfl) Law.run (by kernel_rfl) (by kernel_rfl) (by kernel_rfl) (by rfl) (by first | assumption | decide +kernel) (by decide +kernel) ⟨rfl, rfl, rfl, rfl, rfl, by decide +kernel⟩ ?hw ?hc
  case hw => w_witness2
  case hc =>
    refine DL.walkD (l := PySem.Challenge.rw_anyminute_k17_errors_and_their_classes) (n := 63) (k := 4) (x := "script") rfl (by decide) (by kernel_rfl) ⟨rfl, by decide, by decide⟩ Law.law_true ?F
    intro w mg fa h Y G hmg0
    obtain ⟨K, KX, c⟩ := Y
    have hmg : mg ("law" : PySem.Str) = some (.ref fa) := by
      have e : (HandSHeadRun.topDef (OpenLaw.row PySem.Challenge.rw_anyminute_k17_errors_and_their_classes).prog 21).name = ("law" : PySem.Str) := by kernel_rfl
      rw [← e]
      exact hmg0
    obtain ⟨fd, hb, hF⟩ := Law.facts (w := w) KX G hmg c
    exact ⟨K, fd, KX, hb, hF⟩

