import PyProof.Rows.All
import Wide.All
import OpenK.AllK
import Wide.FinOn
import HandS.ForMost
import HandS.ForExc
import HandS.Flow
import HandS.Defaults
import HandS.IsInst
import HandS.Style
import KE.GoesEnum
import KE.GoesZip
import HandS.RevRange
import HandS.SetKeys
import KE.KDictKeyed
import HandS.ClsMeth
import HandS.HeadHook1
import HandS.HeadHook2
import HandS.HeadHook3
import HandS.Head0
import HandS.Head1
import HandS.Head2
import HandS.HeadEnd
import KE.KBits
import PySem.Challenge.RW_selfwritten_k56_now_exactly_if_named
set_option Elab.async false
set_option linter.all false
set_option maxRecDepth 100000
set_option maxHeartbeats 4000000
set_option autoImplicit false
namespace DL
open PySem PySem.Spec L2
/-! ### data -/
inductive D where
  | non | bl (b : Bool) | int (i : Int) | str (s : Str)
  | tup (ds : List D) | lst (ds : List D)
  | ref (a : Addr) | ty (n : String) | mref (k : Nat)
  | obj (C : Addr) (ns : List Str) (ds : List D)
  | dk (ks : List Key) (ds : List D)
  | rd (ds : List D) | kt (ds : List D)
abbrev Fg := PySem.W.Frag
mutual
/-- the value v stands for d, in the frozen part B; ads: where the mutable things stand -/
def Rep (K : Fg) (ads : List Addr) (B : Hp) : D → V → Prop
  | .non, v => v = .non
  | .bl b, v => v = .bl b
  | .int i, v => v = .int i
  | .str s, v => v = .str s
  | .ref a, v => v = .ref a
  | .ty n, v => v = .ty n
  | .mref k, v => ∃ a, ads[k]? = some a ∧ v = .ref a
  | .tup ds, v => ∃ a xs, v = .ref a ∧ B a = some (.tup xs) ∧ Reps K ads B ds xs
  | .kt ds, v => ∃ a xs, v = .ref a ∧ SqT K B a xs ∧ Reps K ads B ds xs
  | .lst ds, v => ∃ a xs, v = .ref a ∧ B a = some (.lst xs) ∧ Reps K ads B ds xs
  | .rd ds, v => ∃ a xs, v = .ref a ∧ SqL K B a xs ∧ Reps K ads B ds xs
  | .obj C ns ds, v => ∃ a dx xs, v = .ref a ∧ B a = some (.ins C dx (ns.zip xs)) ∧ ns.length = xs.length ∧ Reps K ads B ds xs
  | .dk ks ds, v => ∃ a xs, v = .ref a ∧ B a = some (.dK (ks.zip xs)) ∧ ks.length = xs.length ∧ Reps K ads B ds xs
def Reps (K : Fg) (ads : List Addr) (B : Hp) : List D → List V → Prop
  | [], xs => xs = []
  | d :: ds, xs => ∃ x r, xs = x :: r ∧ Rep K ads B d x ∧ Reps K ads B ds r
end
section
variable {K : Fg} {ads ads' : List Addr} {B B' : Hp}
theorem sqT_mono {a : Addr} {xs : List V} (h : SqT K B a xs) (e : Same B B') : SqT K B' a xs := by
  rcases h with (h | ⟨o, h⟩) | h
  · exact .inl (.inl (e _ _ h))
  · exact .inl (.inr ⟨o, e _ _ h⟩)
  · exact .inr h
theorem sqL_mono {a : Addr} {xs : List V} (h : SqL K B a xs) (e : Same B B') : SqL K B' a xs := e.seq h
mutual
theorem Rep.mono (e : Same B B') (q : ∀ (k : Nat) (a : Addr), ads[k]? = some a → ads'[k]? = some a) : ∀ {d : D} {v : V}, Rep K ads B d v → Rep K ads' B' d v
  | .non, v, h => by unfold Rep at *; exact h
  | .bl b, v, h => by unfold Rep at *; exact h
  | .int i, v, h => by unfold Rep at *; exact h
  | .str s, v, h => by unfold Rep at *; exact h
  | .ref a, v, h => by unfold Rep at *; exact h
  | .ty n, v, h => by unfold Rep at *; exact h
  | .mref k, v, h => by
    unfold Rep at *
    obtain ⟨a, h1, h2⟩ := h
    exact ⟨a, q _ _ h1, h2⟩
  | .tup ds, v, h => by
    unfold Rep at *
    obtain ⟨a, xs, h1, h2, h3⟩ := h
    exact ⟨a, xs, h1, e _ _ h2, Reps.mono e q h3⟩
  | .kt ds, v, h => by
    unfold Rep at *
    obtain ⟨a, xs, h1, h2, h3⟩ := h
    exact ⟨a, xs, h1, sqT_mono h2 e, Reps.mono e q h3⟩
  | .lst ds, v, h => by
    unfold Rep at *
    obtain ⟨a, xs, h1, h2, h3⟩ := h
    exact ⟨a, xs, h1, e _ _ h2, Reps.mono e q h3⟩
  | .rd ds, v, h => by
    unfold Rep at *
    obtain ⟨a, xs, h1, h2, h3⟩ := h
    exact ⟨a, xs, h1, sqL_mono h2 e, Reps.mono e q h3⟩
  | .obj C ns ds, v, h => by
    unfold Rep at *
    obtain ⟨a, dx, xs, h1, h2, h4, h3⟩ := h
    exact ⟨a, dx, xs, h1, e _ _ h2, h4, Reps.mono e q h3⟩
  | .dk ks ds, v, h => by
    unfold Rep at *
    obtain ⟨a, xs, h1, h2, h4, h3⟩ := h
    exact ⟨a, xs, h1, e _ _ h2, h4, Reps.mono e q h3⟩
theorem Reps.mono (e : Same B B') (q : ∀ (k : Nat) (a : Addr), ads[k]? = some a → ads'[k]? = some a) : ∀ {ds : List D} {xs : List V}, Reps K ads B ds xs → Reps K ads' B' ds xs
  | [], xs, h => by unfold Reps at *; exact h
  | d :: ds, xs, h => by
    unfold Reps at *
    obtain ⟨x, r, h1, h2, h3⟩ := h
    exact ⟨x, r, h1, Rep.mono e q h2, Reps.mono e q h3⟩
end
theorem reps_nil : Reps K ads B [] [] := by unfold Reps; rfl
theorem reps_cons {d : D} {ds : List D} {x : V} {xs : List V} (h : Rep K ads B d x) (t : Reps K ads B ds xs) : Reps K ads B (d :: ds) (x :: xs) := by
  unfold Reps
  exact ⟨x, xs, rfl, h, t⟩
theorem reps_nil_inv {xs : List V} (h : Reps K ads B [] xs) : xs = [] := by unfold Reps at h; exact h
theorem reps_cons_inv {d : D} {ds : List D} {xs : List V} (h : Reps K ads B (d :: ds) xs) : ∃ x r, xs = x :: r ∧ Rep K ads B d x ∧ Reps K ads B ds r := by unfold Reps at h; exact h
theorem Reps.length : ∀ {ds : List D} {xs : List V}, Reps K ads B ds xs → ds.length = xs.length
  | [], xs, h => by rw [reps_nil_inv h]; rfl
  | d :: ds, xs, h => by
    obtain ⟨x, r, rfl, _, t⟩ := reps_cons_inv h
    rw [List.length_cons, List.length_cons, Reps.length t]
theorem Reps.get : ∀ {ds : List D} {xs : List V} {i : Nat} {d : D}, Reps K ads B ds xs → ds[i]? = some d → ∃ x, xs[i]? = some x ∧ Rep K ads B d x
  | [], xs, i, d, h, e => by simp at e
  | c :: ds, xs, i, d, h, e => by
    obtain ⟨x, r, rfl, hx, t⟩ := reps_cons_inv h
    cases i with
    | zero =>
      simp at e
      subst e
      exact ⟨x, rfl, hx⟩
    | succ i => exact Reps.get (i := i) t (by simpa using e)
theorem Reps.get' : ∀ {ds : List D} {xs : List V} {i : Nat} {x : V}, Reps K ads B ds xs → xs[i]? = some x → ∃ d, ds[i]? = some d ∧ Rep K ads B d x
  | [], xs, i, x, h, e => by rw [reps_nil_inv h] at e; simp at e
  | c :: ds, xs, i, y, h, e => by
    obtain ⟨x, r, rfl, hx, t⟩ := reps_cons_inv h
    cases i with
    | zero =>
      simp at e
      subst e
      exact ⟨c, rfl, hx⟩
    | succ i => exact Reps.get' (i := i) t (by simpa using e)
theorem Reps.append : ∀ {ds es : List D} {xs ys : List V}, Reps K ads B ds xs → Reps K ads B es ys → Reps K ads B (ds ++ es) (xs ++ ys)
  | [], es, xs, ys, h, t => by rw [reps_nil_inv h]; exact t
  | d :: ds, es, xs, ys, h, t => by
    obtain ⟨x, r, rfl, hx, u⟩ := reps_cons_inv h
    exact reps_cons hx (Reps.append u t)
theorem Reps.set : ∀ {ds : List D} {xs : List V} {d : D} {x : V} (i : Nat), Reps K ads B ds xs → Rep K ads B d x → Reps K ads B (ds.set i d) (xs.set i x)
  | [], xs, d, x, i, h, t => by rw [reps_nil_inv h]; exact reps_nil
  | c :: ds, xs, d, x, i, h, t => by
    obtain ⟨y, r, rfl, hy, u⟩ := reps_cons_inv h
    cases i with
    | zero => exact reps_cons t u
    | succ i => exact reps_cons hy (Reps.set i u t)
theorem Reps.take : ∀ {ds : List D} {xs : List V} (n : Nat), Reps K ads B ds xs → Reps K ads B (ds.take n) (xs.take n)
  | [], xs, n, h => by rw [reps_nil_inv h]; simp; exact reps_nil
  | c :: ds, xs, n, h => by
    obtain ⟨y, r, rfl, hy, u⟩ := reps_cons_inv h
    cases n with
    | zero => exact reps_nil
    | succ n => exact reps_cons hy (Reps.take n u)
theorem Reps.drop : ∀ {ds : List D} {xs : List V} (n : Nat), Reps K ads B ds xs → Reps K ads B (ds.drop n) (xs.drop n)
  | [], xs, n, h => by rw [reps_nil_inv h]; simp; exact reps_nil
  | c :: ds, xs, n, h => by
    obtain ⟨y, r, rfl, hy, u⟩ := reps_cons_inv h
    cases n with
    | zero => exact reps_cons hy u
    | succ n => exact Reps.drop n u
theorem reps_ints : ∀ {ns : List Int} {xs : List V}, Reps K ads B (ns.map D.int) xs → xs = ns.map V.int
  | [], xs, h => reps_nil_inv h
  | n :: ns, xs, h => by
    obtain ⟨x, r, rfl, hx, t⟩ := reps_cons_inv h
    unfold Rep at hx
    rw [hx, reps_ints t]
    rfl
theorem ints_reps : ∀ {ns : List Int}, Reps K ads B (ns.map D.int) (ns.map V.int)
  | [] => reps_nil
  | n :: ns => reps_cons (by unfold Rep; rfl) ints_reps
end
/-! ### the state -/
/-- a local name's slot: a value that is shared and stands still; a list, a dict of the def's own, known by nobody else -/
inductive Sl where
  | sh (d : D) | ol (ds : List D) | od (ks : List Key) (ds : List D) | ot (ks : List (List Key)) (ds : List D)
abbrev Rho := List (Option Sl)
/-- what stands at a mutable reference -/
inductive MO where
  | dead | lst (ds : List D) | ins (C : Addr) (ns : List Str) (ds : List D) | dk (ks : List Key) (ds : List D) | dt (ks : List (List Key)) (ds : List D)
abbrev Mu := List MO
/-- ghosts: where the mutable references stand, the frozen part, whose an address is -/
structure G where
  ads : List Addr
  B : Hp
  O : Addr → Option (Sum Nat Nat)
  T : Addr → Option HO
abbrev GRep (K : Fg) (g : G) := Rep K g.ads g.B
abbrev GReps (K : Fg) (g : G) := Reps K g.ads g.B
structure Le (g g' : G) : Prop where
  b : Same g.B g'.B
  a : ∀ (k : Nat) (x : Addr), g.ads[k]? = some x → g'.ads[k]? = some x
  t : ∀ a o, g.T a = some o → g'.T a = some o
theorem Le.refl (g : G) : Le g g := ⟨Same.refl _, fun _ _ h => h, fun _ _ h => h⟩
theorem Le.trans {g g' g'' : G} (x : Le g g') (y : Le g' g'') : Le g g'' := ⟨x.b.trans y.b, fun k a h => y.a k a (x.a k a h), fun a o h => y.t a o (x.t a o h)⟩
theorem Le.rep {K : Fg} {g g' : G} (x : Le g g') {d : D} {v : V} (h : GRep K g d v) : GRep K g' d v := Rep.mono x.b x.a h
theorem Le.reps {K : Fg} {g g' : G} (x : Le g g') {d : List D} {v : List V} (h : GReps K g d v) : GReps K g' d v := Reps.mono x.b x.a h
/-- what a def was entered with -/
structure Ct where
  K : Fg
  H0 : Hp
  B0 : Hp
  A0 : List Addr
def RSl (K : Fg) (g : G) (H : Hp) (i : Nat) : Option Sl → Option V → Prop
  | none, _ => True
  | some (.sh d), x => ∃ v, x = some v ∧ GRep K g d v
  | some (.ol ds), x => ∃ p xs, x = some (.ref p) ∧ g.O p = some (.inl (i + 1)) ∧ H p = some (.lst xs) ∧ GReps K g ds xs
  | some (.od ks ds), x => ∃ p xs, x = some (.ref p) ∧ g.O p = some (.inl (i + 1)) ∧ H p = some (.dK (ks.zip xs)) ∧ ks.length = xs.length ∧ GReps K g ds xs
  | some (.ot ks ds), x => ∃ p xs, x = some (.ref p) ∧ g.O p = some (.inl (i + 1)) ∧ H p = some (.dT (ks.zip xs)) ∧ ks.length = xs.length ∧ GReps K g ds xs
def RMO (K : Fg) (g : G) (H : Hp) (a : Addr) : MO → Prop
  | .dead => ∃ o, g.B a = some o
  | .lst ds => ∃ xs, H a = some (.lst xs) ∧ GReps K g ds xs
  | .ins C ns ds => ∃ dx xs, H a = some (.ins C dx (ns.zip xs)) ∧ ns.length = xs.length ∧ GReps K g ds xs
  | .dk ks ds => ∃ xs, H a = some (.dK (ks.zip xs)) ∧ ks.length = xs.length ∧ GReps K g ds xs
  | .dt ks ds => ∃ xs, H a = some (.dT (ks.zip xs)) ∧ ks.length = xs.length ∧ GReps K g ds xs
/-- the part of the relation that knows no slots -/
structure SH (c : Ct) (μ : Mu) (g : G) (H : Hp) : Prop where
  sub : Same g.B H
  own : ∀ a, g.O a ≠ none → g.B a = none
  ownNew : ∀ a i, g.O a = some (.inl i) → c.H0 a = none
  ownAt : ∀ a, g.O a ≠ none → ∃ o, H a = some o
  alen : g.ads.length = μ.length
  amb : ∀ (k : Nat) (a : Addr) (m : MO), g.ads[k]? = some a → μ[k]? = some m → (m = .dead ∨ g.O a = some (.inr k)) ∧ RMO c.K g H a m
  old : ∀ a o, c.H0 a = some o → a ∉ c.A0 → H a = some o
  oldT : ∀ a o, c.H0 a = some o → ∃ o', H a = some o'
  newB : ∀ a o, g.B a = some o → c.B0 a = some o ∨ c.H0 a = none ∨ a ∈ c.A0
  b0 : Same c.B0 g.B
  a0 : ∀ (k : Nat) (a : Addr), c.A0[k]? = some a → g.ads[k]? = some a
  aNew : ∀ a, a ∈ g.ads → a ∈ c.A0 ∨ c.H0 a = none
  tmpT : ∀ a o, g.T a = some o → g.O a = some (.inl 0) ∧ H a = some o
structure SR (c : Ct) (ρ : Rho) (μ : Mu) (g : G) (σ : St) (H : Hp) : Prop extends SH c μ g H where
  slen : ρ.length = σ.length
  slot : ∀ (i : Nat) (s : Option Sl) (x : Option V), ρ[i]? = some s → σ[i]? = some x → RSl c.K g H i s x
/-! ### what a def's text means -/
inductive Res (α : Type) where
  | ok (a : α) | ex (C : Addr) (ns : List Str) (ds : List D)
abbrev M (α : Type) : Type := Mu → Option (Res α × Mu)
namespace M
def ret {α : Type} (a : α) : M α := fun μ => some (.ok a, μ)
def bind {α β : Type} (m : M α) (f : α → M β) : M β := fun μ => match m μ with
  | none => none
  | some (.ok a, μ') => f a μ'
  | some (.ex C ns ds, μ') => some (.ex C ns ds, μ')
def lift {α : Type} (o : Option α) : M α := fun μ => match o with
  | none => none
  | some a => some (.ok a, μ)
def stuck {α : Type} : M α := fun _ => none
end M
/-- an exception's own dict -/
def ExAt (K : Fg) (g : G) (H : Hp) : Option Addr → List Str → List D → Prop
  | none, ns, ds => ns = [] ∧ ds = []
  | some d, ns, ds => ∃ xs, H d = some (.xd (ns.zip xs)) ∧ ns.length = xs.length ∧ GReps K g ds xs
def PX (c : Ct) (W : WX) (ρ : Rho) (σ : St) (g : G) {α : Type} (r : Res α) (μ' : Mu) : Prop :=
  ∀ C ns ds, r = .ex C ns ds → ∀ d H' g', Le g g' → SR c ρ μ' g' σ H' → ExAt c.K g' H' d ns ds → W (.ref C) d σ H'
theorem PX.le {c : Ct} {W : WX} {ρ : Rho} {σ : St} {g g1 : G} {α : Type} {r : Res α} {μ' : Mu} (h : PX c W ρ σ g r μ') (l : Le g g1) : PX c W ρ σ g1 r μ' :=
  fun C ns ds e d H' g' l' => h C ns ds e d H' g' (l.trans l')
abbrev TD := Rho → M D
abbrev TB := Rho → M Bool
abbrev TL := Rho → M (List D)
def RE (c : Ct) (W : WX) (te : TE) (t : TD) : Prop := ∀ ρ μ g σ H Q r μ', SR c ρ μ g σ H → t ρ μ = some (r, μ') → PX c W ρ σ g r μ' →
  (∀ d, r = .ok d → ∀ v H' g', Le g g' → SR c ρ μ' g' σ H' → GRep c.K g' d v → Q v H') → te σ H Q
def RT (c : Ct) (W : WX) (te : TT) (t : TB) : Prop := ∀ ρ μ g σ H Q r μ', SR c ρ μ g σ H → t ρ μ = some (r, μ') → PX c W ρ σ g r μ' →
  (∀ d, r = .ok d → ∀ H' g', Le g g' → SR c ρ μ' g' σ H' → Q d H') → te σ H Q
def RA (c : Ct) (W : WX) (te : TA) (t : TL) : Prop := ∀ ρ μ g σ H Q r μ', SR c ρ μ g σ H → t ρ μ = some (r, μ') → PX c W ρ σ g r μ' →
  (∀ ds, r = .ok ds → ∀ vs H' g', Le g g' → SR c ρ μ' g' σ H' → GReps c.K g' ds vs → Q vs H') → te σ H Q
/-- a thing that may be read item by item: a list or tuple that stands still, or one of the def's own -/
def SqV (K : Fg) (H : Hp) (a : Addr) (xs : List V) : Prop := SqL K H a xs ∨ SqT K H a xs
def RL (c : Ct) (W : WX) (te : TE) (t : TL) : Prop := ∀ ρ μ g σ H Q r μ', SR c ρ μ g σ H → t ρ μ = some (r, μ') → PX c W ρ σ g r μ' →
  (∀ ds, r = .ok ds → ∀ a xs H' g', Le g g' → SR c ρ μ' g' σ H' → SqV c.K H' a xs → GReps c.K g' ds xs → Q (.ref a) H') → te σ H Q
/-- a list that was just made and that nobody else knows -/
def RF (c : Ct) (W : WX) (te : TE) (t : TL) : Prop := ∀ ρ μ g σ H Q r μ', SR c ρ μ g σ H → t ρ μ = some (r, μ') → PX c W ρ σ g r μ' →
  (∀ ds, r = .ok ds → ∀ p xs H' g', Le g g' → SR c ρ μ' g' σ H' → (g'.O p = some (.inl 0) ∧ g'.T p = none) → H' p = some (.lst xs) → GReps c.K g' ds xs → Q (.ref p) H') → te σ H Q
structure DE (X : Cx) (W : WX) (e : Expr) (t : TD) : Prop where
  ex : ∃ te, PE X e te ∧ ∀ c : Ct, c.K = X.K → RE c W te t
structure DT (X : Cx) (W : WX) (e : Expr) (t : TB) : Prop where
  ex : ∃ te, PT X e te ∧ ∀ c : Ct, c.K = X.K → RT c W te t
structure DW (X : Cx) (W : WX) (e : Expr) (t : TB) : Prop where
  ex : ∃ te, PW X e te ∧ ∀ c : Ct, c.K = X.K → RT c W te t
structure DA (X : Cx) (W : WX) (es : List Expr) (t : TL) : Prop where
  ex : ∃ te, PA X es te ∧ ∀ c : Ct, c.K = X.K → RA c W te t
structure DLq (X : Cx) (W : WX) (e : Expr) (t : TL) : Prop where
  ex : ∃ te, PE X e te ∧ ∀ c : Ct, c.K = X.K → RL c W te t
structure DF (X : Cx) (W : WX) (e : Expr) (t : TL) : Prop where
  ex : ∃ te, PE X e te ∧ ∀ c : Ct, c.K = X.K → RF c W te t
inductive Out where
  | nx (ρ : Rho) | rt (d : D) | bk (ρ : Rho) | ct (ρ : Rho) | ex (ρ : Rho) (C : Addr) (ns : List Str) (ds : List D)
abbrev TO' := Rho → Mu → Option (Out × Mu)
def PS' (c : Ct) (W : WX) (g : G) (o : Out) (μ' : Mu) (D : Ends) : Prop := match o with
  | .nx ρ' => ∀ σ' H' g', Le g g' → SR c ρ' μ' g' σ' H' → D.nx σ' H'
  | .bk ρ' => ∀ σ' H' g', Le g g' → SR c ρ' μ' g' σ' H' → D.bk σ' H'
  | .ct ρ' => ∀ σ' H' g', Le g g' → SR c ρ' μ' g' σ' H' → D.ct σ' H'
  | .rt d => ∀ v H' g', Le g g' → SH c μ' g' H' → GRep c.K g' d v → D.rt v H'
  | .ex ρ' C ns ds => ∀ d σ' H' g', Le g g' → SR c ρ' μ' g' σ' H' → ExAt c.K g' H' d ns ds → W (.ref C) d σ' H'
theorem PS'.le {c : Ct} {W : WX} {g g1 : G} {o : Out} {μ' : Mu} {D : Ends} (h : PS' c W g o μ' D) (l : Le g g1) : PS' c W g1 o μ' D := by
  cases o with
  | nx ρ' => exact fun σ' H' g' l' => h σ' H' g' (l.trans l')
  | bk ρ' => exact fun σ' H' g' l' => h σ' H' g' (l.trans l')
  | ct ρ' => exact fun σ' H' g' l' => h σ' H' g' (l.trans l')
  | rt d => exact fun v H' g' l' => h v H' g' (l.trans l')
  | ex ρ' C ns ds => exact fun d σ' H' g' l' => h d σ' H' g' (l.trans l')
def RS (c : Ct) (W : WX) (ts : TS) (t : TO') : Prop := ∀ ρ μ g σ H D o μ', SR c ρ μ g σ H → t ρ μ = some (o, μ') → PS' c W g o μ' D → ts D σ H
structure DS (X : Cx) (W : WX) (st : Stmt) (t : TO') : Prop where
  ex : ∃ ts, PS X st ts ∧ ∀ c : Ct, c.K = X.K → RS c W ts t
structure DSs (X : Cx) (W : WX) (sts : List Stmt) (t : TO') : Prop where
  ex : ∃ ts, PSs X sts ts ∧ ∀ c : Ct, c.K = X.K → RS c W ts t
end DL
set_option Elab.async false
set_option linter.all false
set_option maxRecDepth 100000
set_option maxHeartbeats 4000000
set_option autoImplicit false
namespace DL
open PySem PySem.Spec L2
/-! ### how the relation goes on -/
def G.addB (g : G) (p : Addr) (o : HO) : G := { g with B := upd g.B p o }
theorem upd_eq {H : Hp} {p a : Addr} {o : HO} : upd H p o a = if a = p then some o else H a := rfl
section
variable {c : Ct} {μ : Mu} {g g' : G} {σ : L2.St} {H H' : Hp} {ρ : Rho} {p : Addr} {o : HO}
theorem RSl.step {K : Fg} {i : Nat} {s : Option Sl} {x : Option V} (h : RSl K g H i s x) (l : Le g g') (q : ∀ p, g.O p = some (.inl (i + 1)) → g'.O p = some (.inl (i + 1)) ∧ H' p = H p) : RSl K g' H' i s x := by
  cases s with
  | none => trivial
  | some s =>
    cases s with
    | sh d =>
      obtain ⟨v, h1, h2⟩ := h
      exact ⟨v, h1, l.rep h2⟩
    | ol ds =>
      obtain ⟨p, xs, h1, h2, h3, h4⟩ := h
      obtain ⟨q1, q2⟩ := q p h2
      exact ⟨p, xs, h1, q1, by rw [q2]; exact h3, l.reps h4⟩
    | od ks ds =>
      obtain ⟨p, xs, h1, h2, h3, h4, h5⟩ := h
      obtain ⟨q1, q2⟩ := q p h2
      exact ⟨p, xs, h1, q1, by rw [q2]; exact h3, h4, l.reps h5⟩
    | ot ks ds =>
      obtain ⟨p, xs, h1, h2, h3, h4, h5⟩ := h
      obtain ⟨q1, q2⟩ := q p h2
      exact ⟨p, xs, h1, q1, by rw [q2]; exact h3, h4, l.reps h5⟩
theorem RMO.step {K : Fg} {a : Addr} {m : MO} (h : RMO K g H a m) (l : Le g g') (q : H' a = H a) : RMO K g' H' a m := by
  cases m with
  | dead =>
    obtain ⟨o, h1⟩ := h
    exact ⟨o, l.b _ _ h1⟩
  | lst ds =>
    obtain ⟨xs, h1, h2⟩ := h
    exact ⟨xs, by rw [q]; exact h1, l.reps h2⟩
  | ins C ns ds =>
    obtain ⟨dx, xs, h1, h2, h3⟩ := h
    exact ⟨dx, xs, by rw [q]; exact h1, h2, l.reps h3⟩
  | dk ks ds =>
    obtain ⟨xs, h1, h2, h3⟩ := h
    exact ⟨xs, by rw [q]; exact h1, h2, l.reps h3⟩
  | dt ks ds =>
    obtain ⟨xs, h1, h2, h3⟩ := h
    exact ⟨xs, by rw [q]; exact h1, h2, l.reps h3⟩
theorem SH.fresh0 (h : SH c μ g H) (hp : H p = none) : c.H0 p = none := by
  cases q : c.H0 p with
  | none => rfl
  | some o =>
    obtain ⟨o', e⟩ := h.oldT p o q
    rw [hp] at e
    cases e
theorem SH.freshO (h : SH c μ g H) (hp : H p = none) : g.O p = none := by
  cases q : g.O p with
  | none => rfl
  | some o =>
    obtain ⟨o', e⟩ := h.ownAt p (by rw [q]; exact fun z => by cases z)
    rw [hp] at e
    cases e
theorem SH.freshB (h : SH c μ g H) (hp : H p = none) : g.B p = none := by
  cases q : g.B p with
  | none => rfl
  | some o =>
    have e := h.sub p o q
    rw [hp] at e
    cases e
theorem SH.ambNe0 (h : SH c μ g H) (hp : H p = none) {k : Nat} {a : Addr} {m : MO} (e1 : g.ads[k]? = some a) (e2 : μ[k]? = some m) : a ≠ p := fun z => by
  obtain ⟨q1, q2⟩ := h.amb k a m e1 e2
  rcases q1 with rfl | q1
  · obtain ⟨o, q2⟩ := q2
    rw [z, h.freshB hp] at q2
    cases q2
  · rw [z, h.freshO hp] at q1
    cases q1
theorem SH.ambNeO (h : SH c μ g H) {i : Nat} (hp : g.O p = some (.inl i)) {k : Nat} {a : Addr} {m : MO} (e1 : g.ads[k]? = some a) (e2 : μ[k]? = some m) : a ≠ p := fun z => by
  obtain ⟨q1, q2⟩ := h.amb k a m e1 e2
  rcases q1 with rfl | q1
  · obtain ⟨o, q2⟩ := q2
    rw [z, h.own p (by rw [hp]; exact fun z => by cases z)] at q2
    cases q2
  · rw [z, hp] at q1
    cases q1
theorem SH.leB (h : SH c μ g H) (hp : H p = none) : Le g (g.addB p o) :=
  ⟨fun a u e => by
    show upd g.B p o a = some u
    rw [upd_ne (fun z => by rw [z, h.freshB hp] at e; cases e)]
    exact e, fun _ _ e => e, fun _ _ e => e⟩
/-- a new object is laid and stands still from now on -/
theorem SH.addB (h : SH c μ g H) (hp : H p = none) : SH c μ (g.addB p o) (upd H p o) where
  sub := fun a u e => by
    by_cases z : a = p
    · subst z
      have e' : upd g.B a o a = some u := e
      rw [upd_same] at e' ⊢
      exact e'
    · have e' : upd g.B p o a = some u := e
      rw [upd_ne z] at e' ⊢
      exact h.sub a u e'
  own := fun a e => by
    have z : a ≠ p := fun z => e (by rw [z]; exact h.freshO hp)
    show upd g.B p o a = none
    rw [upd_ne z]
    exact h.own a e
  ownNew := fun a i e => h.ownNew a i e
  ownAt := fun a e => by
    have z : a ≠ p := fun z => e (by rw [z]; exact h.freshO hp)
    rw [upd_ne z]
    exact h.ownAt a e
  alen := h.alen
  amb := fun k a m e1 e2 => by
    obtain ⟨q1, q2⟩ := h.amb k a m e1 e2
    exact ⟨q1, q2.step (h.leB hp) (upd_ne (h.ambNe0 hp e1 e2))⟩
  old := fun a u e n => by
    have z : a ≠ p := fun z => by rw [z, h.fresh0 hp] at e; cases e
    rw [upd_ne z]
    exact h.old a u e n
  oldT := fun a u e => by
    have z : a ≠ p := fun z => by rw [z, h.fresh0 hp] at e; cases e
    rw [upd_ne z]
    exact h.oldT a u e
  newB := fun a u e => by
    by_cases z : a = p
    · right; left
      rw [z]
      exact h.fresh0 hp
    · have e' : upd g.B p o a = some u := e
      rw [upd_ne z] at e'
      exact h.newB a u e'
  b0 := fun a u e => (h.leB hp).b a u (h.b0 a u e)
  a0 := h.a0
  aNew := h.aNew
  tmpT := fun a u e => by
    obtain ⟨q1, q2⟩ := h.tmpT a u e
    exact ⟨q1, by rw [upd_ne (fun z => by rw [z, h.freshO hp] at q1; cases q1)]; exact q2⟩
theorem SR.addB (h : SR c ρ μ g σ H) (hp : H p = none) : SR c ρ μ (g.addB p o) σ (upd H p o) :=
  { h.toSH.addB hp with
    slen := h.slen
    slot := fun i s x e1 e2 => (h.slot i s x e1 e2).step (h.leB hp) fun q e => ⟨e, upd_ne (fun z => by rw [z, h.freshO hp] at e; cases e)⟩ }
end
/-! ### binding -/
section
variable {α β : Type}
theorem bind_some {m : M α} {f : α → M β} {μ μ' : Mu} {r : Res β} (h : M.bind m f μ = some (r, μ')) :
    (∃ a μ1, m μ = some (.ok a, μ1) ∧ f a μ1 = some (r, μ')) ∨ (∃ C ns ds, m μ = some (.ex C ns ds, μ') ∧ r = .ex C ns ds) := by
  unfold M.bind at h
  cases e : m μ with
  | none => rw [e] at h; cases h
  | some q =>
    obtain ⟨r1, μ1⟩ := q
    rw [e] at h
    cases r1 with
    | ok a => exact .inl ⟨a, μ1, rfl, h⟩
    | ex C ns ds =>
      have h' : some ((Res.ex C ns ds : Res β), μ1) = some (r, μ') := h
      injection h' with h'
      injection h' with h1 h2
      subst h1 h2
      exact .inr ⟨C, ns, ds, rfl, rfl⟩
theorem lift_some {o : Option α} {μ μ' : Mu} {r : Res α} (h : M.lift o μ = some (r, μ')) : ∃ a, o = some a ∧ r = .ok a ∧ μ' = μ := by
  unfold M.lift at h
  cases o with
  | none => cases h
  | some a =>
    have h' : some ((Res.ok a : Res α), μ) = some (r, μ') := h
    injection h' with h'
    injection h' with h1 h2
    exact ⟨a, rfl, h1.symm, h2.symm⟩
theorem ret_some {a : α} {μ μ' : Mu} {r : Res α} (h : M.ret a μ = some (r, μ')) : r = .ok a ∧ μ' = μ := by
  have h' : some ((Res.ok a : Res α), μ) = some (r, μ') := h
  injection h' with h'
  injection h' with h1 h2
  exact ⟨h1.symm, h2.symm⟩
end
section
variable {c : Ct} {W : WX} {ρ : Rho} {μ μ' : Mu} {g : G} {σ : L2.St} {H : Hp} {α : Type} {r : Res α}
/-- an expression, then more -/
theorem RE.then_ {te : TE} {t : TD} (ht : RE c W te t) {f : D → M α} {Q : VK} (s : SR c ρ μ g σ H) (h : M.bind (t ρ) f μ = some (r, μ')) (hx : PX c W ρ σ g r μ')
    (k : ∀ d μ1, f d μ1 = some (r, μ') → ∀ v H1 g1, Le g g1 → SR c ρ μ1 g1 σ H1 → GRep c.K g1 d v → PX c W ρ σ g1 r μ' → Q v H1) : te σ H Q := by
  rcases bind_some h with ⟨a, μ1, e1, e2⟩ | ⟨C, ns, ds, e1, rfl⟩
  · exact ht ρ μ g σ H Q _ _ s e1 (fun C ns ds e => by cases e) fun d e v H' g' l s' rp => by
      cases e
      exact k a μ1 e2 v H' g' l s' rp (hx.le l)
  · exact ht ρ μ g σ H Q _ _ s e1 (fun C' ns' ds' e => by cases e; exact hx C ns ds rfl) fun d e => by cases e
theorem RT.then_ {te : TT} {t : TB} (ht : RT c W te t) {f : Bool → M α} {Q : Bool → Hp → Prop} (s : SR c ρ μ g σ H) (h : M.bind (t ρ) f μ = some (r, μ')) (hx : PX c W ρ σ g r μ')
    (k : ∀ d μ1, f d μ1 = some (r, μ') → ∀ H1 g1, Le g g1 → SR c ρ μ1 g1 σ H1 → PX c W ρ σ g1 r μ' → Q d H1) : te σ H Q := by
  rcases bind_some h with ⟨a, μ1, e1, e2⟩ | ⟨C, ns, ds, e1, rfl⟩
  · exact ht ρ μ g σ H Q _ _ s e1 (fun C ns ds e => by cases e) fun d e H' g' l s' => by
      cases e
      exact k a μ1 e2 H' g' l s' (hx.le l)
  · exact ht ρ μ g σ H Q _ _ s e1 (fun C' ns' ds' e => by cases e; exact hx C ns ds rfl) fun d e => by cases e
theorem RA.then_ {te : TA} {t : TL} (ht : RA c W te t) {f : List D → M α} {Q : List V → Hp → Prop} (s : SR c ρ μ g σ H) (h : M.bind (t ρ) f μ = some (r, μ')) (hx : PX c W ρ σ g r μ')
    (k : ∀ d μ1, f d μ1 = some (r, μ') → ∀ v H1 g1, Le g g1 → SR c ρ μ1 g1 σ H1 → GReps c.K g1 d v → PX c W ρ σ g1 r μ' → Q v H1) : te σ H Q := by
  rcases bind_some h with ⟨a, μ1, e1, e2⟩ | ⟨C, ns, ds, e1, rfl⟩
  · exact ht ρ μ g σ H Q _ _ s e1 (fun C ns ds e => by cases e) fun d e v H' g' l s' rp => by
      cases e
      exact k a μ1 e2 v H' g' l s' rp (hx.le l)
  · exact ht ρ μ g σ H Q _ _ s e1 (fun C' ns' ds' e => by cases e; exact hx C ns ds rfl) fun d e => by cases e
theorem RL.then_ {te : TE} {t : TL} (ht : RL c W te t) {f : List D → M α} {Q : VK} (s : SR c ρ μ g σ H) (h : M.bind (t ρ) f μ = some (r, μ')) (hx : PX c W ρ σ g r μ')
    (k : ∀ d μ1, f d μ1 = some (r, μ') → ∀ a xs H1 g1, Le g g1 → SR c ρ μ1 g1 σ H1 → SqV c.K H1 a xs → GReps c.K g1 d xs → PX c W ρ σ g1 r μ' → Q (.ref a) H1) : te σ H Q := by
  rcases bind_some h with ⟨a, μ1, e1, e2⟩ | ⟨C, ns, ds, e1, rfl⟩
  · exact ht ρ μ g σ H Q _ _ s e1 (fun C ns ds e => by cases e) fun d e a' xs H' g' l s' sq rp => by
      cases e
      exact k a μ1 e2 a' xs H' g' l s' sq rp (hx.le l)
  · exact ht ρ μ g σ H Q _ _ s e1 (fun C' ns' ds' e => by cases e; exact hx C ns ds rfl) fun d e => by cases e
end
/-! ### names and constants -/
section
variable {X : Cx} {W : WX}
def dVar (i : Nat) : TD := fun ρ => match ρ[i]? with
  | some (some (.sh d)) => M.ret d
  | _ => M.stuck
def dC (d : D) : TD := fun _ => M.ret d
/-- a value without a place -/
def D.flat : D → Option V
  | .non => some .non
  | .bl b => some (.bl b)
  | .int i => some (.int i)
  | .str s => some (.str s)
  | .ref a => some (.ref a)
  | .ty n => some (.ty n)
  | _ => none
theorem flat_rep {K : Fg} {ads : List Addr} {B : Hp} {d : D} {v : V} (h : d.flat = some v) : Rep K ads B d v := by
  cases d <;> first | (cases h; unfold Rep; rfl) | cases h
theorem rep_flat {K : Fg} {ads : List Addr} {B : Hp} {d : D} {v w : V} (h : d.flat = some v) (r : Rep K ads B d w) : w = v := by
  cases d <;> first | (cases h; unfold Rep at r; exact r) | cases h
theorem dVar_some {ρ : Rho} {i : Nat} {μ μ' : Mu} {r : Res D} (h : dVar i ρ μ = some (r, μ')) : ∃ d, ρ[i]? = some (some (.sh d)) ∧ r = .ok d ∧ μ' = μ := by
  unfold dVar at h
  cases e : ρ[i]? with
  | none => rw [e] at h; cases h
  | some q =>
    rw [e] at h
    cases q with
    | none => cases h
    | some s =>
      cases s with
      | sh d =>
        obtain ⟨h1, h2⟩ := ret_some h
        exact ⟨d, rfl, h1, h2⟩
      | _ => cases h
theorem re_var {c : Ct} {i : Nat} : RE c W (tVar i) (dVar i) := fun ρ μ g σ H Q r μ' s h hx k => by
  obtain ⟨d, e, rfl, rfl⟩ := dVar_some h
  have hl : i < σ.length := by
    rw [← s.slen]
    exact (List.getElem?_eq_some_iff.mp e).1
  obtain ⟨v, h1, h2⟩ := s.slot i _ _ e (List.getElem?_eq_getElem hl)
  exact ⟨v, by rw [List.getElem?_eq_getElem hl, h1], k d rfl v H g (Le.refl g) s h2⟩
theorem de_var (i : Nat) {x : Str} {pos : Pos} (hN : X.N[i]? = some x := by rfl) (hv : Vis X.env.scope x := by first | exact Or.inl rfl | exact Or.inr (Or.inl rfl) | exact Or.inr (Or.inr rfl)) (hd : (x == ("__debug__" : Str)) = false := by decide)
    (hcd : (x == ("__classdict__" : Str)) = false := by decide) : DE X W (.Name x pos) (dVar i) := ⟨tVar i, pe_var hN hv hd hcd, fun c _ => re_var⟩
theorem re_C {c : Ct} {d : D} {v : V} (h : d.flat = some v) : RE c W (tC v) (dC d) := fun ρ μ g σ H Q r μ' s e hx k => by
  obtain ⟨rfl, rfl⟩ := ret_some e
  exact k d rfl v H g (Le.refl g) s (flat_rep h)
theorem de_int {i : Int} {j pos} : DE X W (.Constant (.int i) j pos) (dC (.int i)) := ⟨_, pe_int, fun c _ => re_C rfl⟩
theorem de_bl {b : Bool} {j pos} : DE X W (.Constant (.bool b) j pos) (dC (.bl b)) := ⟨_, pe_bl, fun c _ => re_C rfl⟩
theorem de_non {j pos} : DE X W (.Constant .none j pos) (dC .non) := ⟨_, pe_non, fun c _ => re_C rfl⟩
theorem de_str {x : Str} {j pos} : DE X W (.Constant (.str x) j pos) (dC (.str x)) := ⟨_, pe_str, fun c _ => re_C rfl⟩
/-- a name of the module, a flat value -/
theorem de_glob {x : Str} {d : D} {v : V} {u : Value} {pos : Pos} (hm : X.mg x = some u) (hf : d.flat = some v) (r : RelV v u) (hg : Gl X x := by rfl) (hd : (x == ("__debug__" : Str)) = false := by decide) : DE X W (.Name x pos) (dC d) := ⟨_, pe_glob hg hm r hd, fun c _ => re_C hf⟩
/-- a name of the module, a tuple or another thing that the top wrote -/
theorem de_globR {x : Str} {d : D} {a : Addr} {pos : Pos} (hm : X.mg x = some (.ref a)) (hr : ∀ ads B, Rep X.K ads B d (.ref a)) (hg : Gl X x := by rfl) (hd : (x == ("__debug__" : Str)) = false := by decide) : DE X W (.Name x pos) (dC d) :=
  ⟨_, pe_glob (v := .ref a) hg hm rfl hd, fun c hc ρ μ g σ H Q r μ' s e hx k => by
    obtain ⟨rfl, rfl⟩ := ret_some e
    exact k d rfl _ H g (Le.refl g) s (by rw [hc]; exact hr _ _)⟩
end
end DL
set_option Elab.async false
set_option linter.all false
set_option maxRecDepth 100000
set_option maxHeartbeats 4000000
set_option autoImplicit false
namespace DL
open PySem PySem.Spec L2
/-! ### stores in slots -/
section
variable {c : Ct} {μ : Mu} {g g' : G} {σ : L2.St} {H H' : Hp} {ρ : Rho} {p : Addr}
theorem set_slot {i j : Nat} {s s' : Option Sl} {x x' : Option V} (e1 : (ρ.set i s')[j]? = some s) (e2 : (σ.set i x')[j]? = some x) :
    (i = j ∧ s = s' ∧ x = x' ∧ i < ρ.length) ∨ (i ≠ j ∧ ρ[j]? = some s ∧ σ[j]? = some x) := by
  by_cases h : i = j
  · subst h
    left
    rw [List.getElem?_set] at e1 e2
    rw [if_pos rfl] at e1 e2
    by_cases q : i < ρ.length
    · rw [if_pos q] at e1
      by_cases q2 : i < σ.length
      · rw [if_pos q2] at e2
        cases e1
        cases e2
        exact ⟨rfl, rfl, rfl, q⟩
      · rw [if_neg q2] at e2
        cases e2
    · rw [if_neg q] at e1
      cases e1
  · right
    rw [List.getElem?_set_ne h] at e1 e2
    exact ⟨h, e1, e2⟩
theorem SR.setSh (h : SR c ρ μ g σ H) (i : Nat) {d : D} {v : V} (r : GRep c.K g d v) : SR c (ρ.set i (some (.sh d))) μ g (σ.set i (some v)) H :=
  { h.toSH with
    slen := by rw [List.length_set, List.length_set]; exact h.slen
    slot := fun j s x e1 e2 => by
      rcases set_slot e1 e2 with ⟨rfl, rfl, rfl, _⟩ | ⟨_, q1, q2⟩
      · exact ⟨v, rfl, r⟩
      · exact h.slot j s x q1 q2 }
theorem SR.setNone (h : SR c ρ μ g σ H) (i : Nat) : SR c (ρ.set i none) μ g (σ.set i none) H :=
  { h.toSH with
    slen := by rw [List.length_set, List.length_set]; exact h.slen
    slot := fun j s x e1 e2 => by
      rcases set_slot e1 e2 with ⟨rfl, rfl, rfl, _⟩ | ⟨_, q1, q2⟩
      · trivial
      · exact h.slot j s x q1 q2 }
/-- a new object becomes slot i's own -/
def G.own1 (g : G) (p : Addr) (i : Nat) : G := { g with O := fun a => if a = p then some (.inl i) else g.O a }
theorem SH.own1 (h : SH c μ g H) (hp : H p = none) (i : Nat) {o : HO} : SH c μ (g.own1 p i) (upd H p o) where
  sub := fun a u e => by
    rw [upd_ne (fun z => by rw [z] at e; have e' : g.B p = some u := e; rw [h.freshB hp] at e'; cases e')]
    exact h.sub a u e
  own := fun a e => by
    by_cases z : a = p
    · rw [z]; exact h.freshB hp
    · have e' : (if a = p then some (Sum.inl i) else g.O a) ≠ none := e
      rw [if_neg z] at e'
      exact h.own a e'
  ownNew := fun a j e => by
    by_cases z : a = p
    · rw [z]; exact h.fresh0 hp
    · have e' : (if a = p then some (Sum.inl i) else g.O a) = some (.inl j) := e
      rw [if_neg z] at e'
      exact h.ownNew a j e'
  ownAt := fun a e => by
    by_cases z : a = p
    · rw [z]; exact ⟨o, upd_same⟩
    · have e' : (if a = p then some (Sum.inl i) else g.O a) ≠ none := e
      rw [if_neg z] at e'
      rw [upd_ne z]
      exact h.ownAt a e'
  alen := h.alen
  amb := fun k a m e1 e2 => by
    obtain ⟨q1, q2⟩ := h.amb k a m e1 e2
    have z : a ≠ p := h.ambNe0 hp e1 e2
    refine ⟨q1.imp id fun q1 => ?_, ?_⟩
    · show (if a = p then some (Sum.inl i) else g.O a) = _
      rw [if_neg z]; exact q1
    · exact q2.step ⟨Same.refl _, fun _ _ e => e, fun _ _ e => e⟩ (upd_ne z)
  old := fun a u e n => by
    rw [upd_ne (fun z => by rw [z, h.fresh0 hp] at e; cases e)]
    exact h.old a u e n
  oldT := fun a u e => by
    rw [upd_ne (fun z => by rw [z, h.fresh0 hp] at e; cases e)]
    exact h.oldT a u e
  newB := h.newB
  b0 := h.b0
  a0 := h.a0
  aNew := h.aNew
  tmpT := fun a u e => by
    obtain ⟨q1, q2⟩ := h.tmpT a u e
    have z : a ≠ p := fun z => by rw [z, h.freshO hp] at q1; cases q1
    refine ⟨?_, by rw [upd_ne z]; exact q2⟩
    show (if a = p then some (Sum.inl i) else g.O a) = _
    rw [if_neg z]; exact q1
theorem le_own1 (g : G) (p : Addr) (i : Nat) : Le g (g.own1 p i) := ⟨Same.refl _, fun _ _ e => e, fun _ _ e => e⟩
theorem SH.noT (h : SH c μ g H) {i : Nat} (hp : g.O p = some (.inl (i + 1))) : g.T p = none := by
  cases e : g.T p with
  | none => rfl
  | some o =>
    have q := (h.tmpT p o e).1
    rw [hp] at q
    cases q
theorem SH.freshT (h : SH c μ g H) (hp : H p = none) : g.T p = none := by
  cases e : g.T p with
  | none => rfl
  | some o =>
    have q := (h.tmpT p o e).2
    rw [hp] at q
    cases q
theorem SR.own1 (h : SR c ρ μ g σ H) (hp : H p = none) (i : Nat) {o : HO} {s' : Sl} (hs : RSl c.K (g.own1 p (i + 1)) (upd H p o) i (some s') (some (.ref p))) :
    SR c (ρ.set i (some s')) μ (g.own1 p (i + 1)) (σ.set i (some (.ref p))) (upd H p o) :=
  { h.toSH.own1 hp (i + 1) with
    slen := by rw [List.length_set, List.length_set]; exact h.slen
    slot := fun j s x e1 e2 => by
      rcases set_slot e1 e2 with ⟨rfl, rfl, rfl, _⟩ | ⟨n, q1, q2⟩
      · exact hs
      · refine (h.slot j s x q1 q2).step (le_own1 g p _) fun q e => ?_
        have z : q ≠ p := fun z => by rw [z, h.freshO hp] at e; cases e
        refine ⟨?_, upd_ne z⟩
        show (if q = p then some (Sum.inl _) else g.O q) = _
        rw [if_neg z]; exact e }
/-- slot i's own object is written -/
theorem SH.wrt (h : SH c μ g H) {i : Nat} (hp : g.O p = some (.inl i)) (hT : g.T p = none) {o : HO} : SH c μ g (upd H p o) where
  sub := fun a u e => by
    rw [upd_ne (fun z => by rw [z, h.own p (by rw [hp]; exact fun z => by cases z)] at e; cases e)]
    exact h.sub a u e
  own := h.own
  ownNew := h.ownNew
  ownAt := fun a e => by
    by_cases z : a = p
    · rw [z]; exact ⟨o, upd_same⟩
    · rw [upd_ne z]; exact h.ownAt a e
  alen := h.alen
  amb := fun k a m e1 e2 => by
    obtain ⟨q1, q2⟩ := h.amb k a m e1 e2
    have z : a ≠ p := h.ambNeO hp e1 e2
    exact ⟨q1, q2.step (Le.refl g) (upd_ne z)⟩
  old := fun a u e n => by
    rw [upd_ne (fun z => by rw [z, h.ownNew p i hp] at e; cases e)]
    exact h.old a u e n
  oldT := fun a u e => by
    rw [upd_ne (fun z => by rw [z, h.ownNew p i hp] at e; cases e)]
    exact h.oldT a u e
  newB := h.newB
  b0 := h.b0
  a0 := h.a0
  aNew := h.aNew
  tmpT := fun a u e => by
    obtain ⟨q1, q2⟩ := h.tmpT a u e
    exact ⟨q1, by rw [upd_ne (fun z => by rw [z, hT] at e; cases e)]; exact q2⟩
theorem SR.wrt (h : SR c ρ μ g σ H) {i : Nat} (hp : g.O p = some (.inl (i + 1))) (hσ : σ[i]? = some (some (.ref p))) {o : HO} {s' : Sl} (hs : RSl c.K g (upd H p o) i (some s') (some (.ref p))) :
    SR c (ρ.set i (some s')) μ g σ (upd H p o) :=
  { h.toSH.wrt hp (h.toSH.noT hp) with
    slen := by rw [List.length_set]; exact h.slen
    slot := fun j s x e1 e2 => by
      by_cases z : i = j
      · subst z
        rw [hσ] at e2
        cases e2
        rw [List.getElem?_set, if_pos rfl] at e1
        by_cases q : i < ρ.length
        · rw [if_pos q] at e1
          cases e1
          exact hs
        · rw [if_neg q] at e1
          cases e1
      · rw [List.getElem?_set_ne z] at e1
        exact (h.slot j s x e1 e2).step (Le.refl g) fun q e => ⟨e, upd_ne (fun w => by rw [w, hp] at e; cases e; exact z rfl)⟩ }
/-- slot i's own object stands still from now on -/
def G.fz (g : G) (p : Addr) (o : HO) : G := { g with B := upd g.B p o, O := fun a => if a = p then none else g.O a }
theorem SH.leFz (h : SH c μ g H) {i : Nat} (hp : g.O p = some (.inl i)) {o : HO} : Le g (g.fz p o) :=
  ⟨fun a u e => by
    show upd g.B p o a = some u
    rw [upd_ne (fun z => by rw [z, h.own p (by rw [hp]; exact fun z => by cases z)] at e; cases e)]
    exact e, fun _ _ e => e, fun _ _ e => e⟩
theorem SH.fz (h : SH c μ g H) {i : Nat} (hp : g.O p = some (.inl i)) (hT : g.T p = none) {o : HO} (ho : H p = some o) : SH c μ (g.fz p o) H where
  sub := fun a u e => by
    have e' : upd g.B p o a = some u := e
    by_cases z : a = p
    · subst z
      rw [upd_same] at e'
      rw [ho, e']
    · rw [upd_ne z] at e'
      exact h.sub a u e'
  own := fun a e => by
    have e' : (if a = p then none else g.O a) ≠ none := e
    by_cases z : a = p
    · rw [if_pos z] at e'
      exact absurd rfl e'
    · rw [if_neg z] at e'
      show upd g.B p o a = none
      rw [upd_ne z]
      exact h.own a e'
  ownNew := fun a j e => by
    have e' : (if a = p then none else g.O a) = some (.inl j) := e
    by_cases z : a = p
    · rw [if_pos z] at e'; cases e'
    · rw [if_neg z] at e'
      exact h.ownNew a j e'
  ownAt := fun a e => by
    have e' : (if a = p then none else g.O a) ≠ none := e
    by_cases z : a = p
    · rw [if_pos z] at e'; exact absurd rfl e'
    · rw [if_neg z] at e'
      exact h.ownAt a e'
  alen := h.alen
  amb := fun k a m e1 e2 => by
    obtain ⟨q1, q2⟩ := h.amb k a m e1 e2
    have z : a ≠ p := h.ambNeO hp e1 e2
    refine ⟨q1.imp id fun q1 => ?_, q2.step (h.leFz hp) rfl⟩
    show (if a = p then none else g.O a) = _
    rw [if_neg z]; exact q1
  old := h.old
  oldT := h.oldT
  newB := fun a u e => by
    have e' : upd g.B p o a = some u := e
    by_cases z : a = p
    · right; left; rw [z]; exact h.ownNew p i hp
    · rw [upd_ne z] at e'
      exact h.newB a u e'
  b0 := fun a u e => (h.leFz hp).b a u (h.b0 a u e)
  a0 := h.a0
  aNew := h.aNew
  tmpT := fun a u e => by
    obtain ⟨q1, q2⟩ := h.tmpT a u e
    refine ⟨?_, q2⟩
    show (if a = p then none else g.O a) = _
    have e' : g.T a = some u := e
    rw [if_neg (fun z => by rw [z, hT] at e'; cases e')]; exact q1
theorem SR.fz (h : SR c ρ μ g σ H) {i : Nat} (hp : g.O p = some (.inl (i + 1))) (hσ : σ[i]? = some (some (.ref p))) {o : HO} (ho : H p = some o) {d : D} (hd : GRep c.K (g.fz p o) d (.ref p)) :
    SR c (ρ.set i (some (.sh d))) μ (g.fz p o) σ H :=
  { h.toSH.fz hp (h.toSH.noT hp) ho with
    slen := by rw [List.length_set]; exact h.slen
    slot := fun j s x e1 e2 => by
      by_cases z : i = j
      · subst z
        rw [hσ] at e2
        cases e2
        rw [List.getElem?_set, if_pos rfl] at e1
        by_cases q : i < ρ.length
        · rw [if_pos q] at e1
          cases e1
          exact ⟨.ref p, rfl, hd⟩
        · rw [if_neg q] at e1
          cases e1
      · rw [List.getElem?_set_ne z] at e1
        refine (h.slot j s x e1 e2).step (h.leFz hp) fun q e => ⟨?_, rfl⟩
        show (if q = p then none else g.O q) = _
        rw [if_neg (fun w => by rw [w, hp] at e; cases e; exact z rfl)]; exact e }
/-- a slot's value -/
theorem SR.at (h : SR c ρ μ g σ H) {i : Nat} {s : Option Sl} (e : ρ[i]? = some s) : ∃ x, σ[i]? = some x ∧ RSl c.K g H i s x := by
  have hl : i < σ.length := by rw [← h.slen]; exact (List.getElem?_eq_some_iff.mp e).1
  exact ⟨σ[i], List.getElem?_eq_getElem hl, h.slot i _ _ e (List.getElem?_eq_getElem hl)⟩
end

/-! ### a thing that was just made: nobody's as yet -/
section
variable {c : Ct} {μ : Mu} {g g' : G} {σ : L2.St} {H H' : Hp} {ρ : Rho} {p : Addr}
theorem SR.tmp (h : SR c ρ μ g σ H) (hp : H p = none) {o : HO} : SR c ρ μ (g.own1 p 0) σ (upd H p o) :=
  { h.toSH.own1 hp 0 with
    slen := h.slen
    slot := fun j s x e1 e2 => by
      refine (h.slot j s x e1 e2).step (le_own1 g p 0) fun q e => ?_
      have z : q ≠ p := fun z => by rw [z, h.freshO hp] at e; cases e
      refine ⟨?_, upd_ne z⟩
      show (if q = p then some (Sum.inl 0) else g.O q) = _
      rw [if_neg z]; exact e }
theorem own1_at (g : G) (p : Addr) (i : Nat) : (g.own1 p i).O p = some (.inl i) := if_pos rfl
theorem SR.wrtTmp (h : SR c ρ μ g σ H) (hp : g.O p = some (.inl 0)) (hT : g.T p = none) {o : HO} : SR c ρ μ g σ (upd H p o) :=
  { h.toSH.wrt hp hT with
    slen := h.slen
    slot := fun j s x e1 e2 => (h.slot j s x e1 e2).step (Le.refl g) fun q e => ⟨e, upd_ne (fun z => by rw [z, hp] at e; cases e)⟩ }
theorem SR.fzTmp (h : SR c ρ μ g σ H) (hp : g.O p = some (.inl 0)) (hT : g.T p = none) {o : HO} (ho : H p = some o) : SR c ρ μ (g.fz p o) σ H :=
  { h.toSH.fz hp hT ho with
    slen := h.slen
    slot := fun j s x e1 e2 => (h.slot j s x e1 e2).step (h.leFz hp) fun q e => by
      refine ⟨?_, rfl⟩
      show (if q = p then none else g.O q) = _
      rw [if_neg (fun z => by rw [z, hp] at e; cases e)]; exact e }
/-- it becomes slot i's own -/
theorem SH.take (h : SH c μ g H) {i j : Nat} (hp : g.O p = some (.inl j)) (hT : g.T p = none) : SH c μ (g.own1 p i) H where
  sub := h.sub
  own := fun a e => by
    by_cases z : a = p
    · rw [z]; exact h.own p (by rw [hp]; exact fun z => by cases z)
    · have e' : (if a = p then some (Sum.inl i) else g.O a) ≠ none := e
      rw [if_neg z] at e'
      exact h.own a e'
  ownNew := fun a j' e => by
    by_cases z : a = p
    · rw [z]; exact h.ownNew p j hp
    · have e' : (if a = p then some (Sum.inl i) else g.O a) = some (.inl j') := e
      rw [if_neg z] at e'
      exact h.ownNew a j' e'
  ownAt := fun a e => by
    by_cases z : a = p
    · rw [z]; exact h.ownAt p (by rw [hp]; exact fun z => by cases z)
    · have e' : (if a = p then some (Sum.inl i) else g.O a) ≠ none := e
      rw [if_neg z] at e'
      exact h.ownAt a e'
  alen := h.alen
  amb := fun k a m e1 e2 => by
    obtain ⟨q1, q2⟩ := h.amb k a m e1 e2
    have z : a ≠ p := h.ambNeO hp e1 e2
    refine ⟨q1.imp id fun q1 => ?_, q2.step ⟨Same.refl _, fun _ _ e => e, fun _ _ e => e⟩ rfl⟩
    show (if a = p then some (Sum.inl i) else g.O a) = _
    rw [if_neg z]; exact q1
  old := h.old
  oldT := h.oldT
  newB := h.newB
  b0 := h.b0
  a0 := h.a0
  aNew := h.aNew
  tmpT := fun a u e => by
    obtain ⟨q1, q2⟩ := h.tmpT a u e
    refine ⟨?_, q2⟩
    show (if a = p then some (Sum.inl i) else g.O a) = _
    have e' : g.T a = some u := e
    rw [if_neg (fun z => by rw [z, hT] at e'; cases e')]; exact q1
theorem SR.take (h : SR c ρ μ g σ H) (i : Nat) (hp : g.O p = some (.inl 0)) (hT : g.T p = none) {s' : Sl} (hs : RSl c.K (g.own1 p (i + 1)) H i (some s') (some (.ref p))) :
    SR c (ρ.set i (some s')) μ (g.own1 p (i + 1)) (σ.set i (some (.ref p))) H :=
  { h.toSH.take hp hT with
    slen := by rw [List.length_set, List.length_set]; exact h.slen
    slot := fun j s x e1 e2 => by
      rcases set_slot e1 e2 with ⟨rfl, rfl, rfl, _⟩ | ⟨n, q1, q2⟩
      · exact hs
      · refine (h.slot j s x q1 q2).step (le_own1 g p _) fun q e => ?_
        have z : q ≠ p := fun z => by rw [z, hp] at e; cases e
        refine ⟨?_, rfl⟩
        show (if q = p then some (Sum.inl _) else g.O q) = _
        rw [if_neg z]; exact e }
/-- a temporary thing is told: nothing else touches it -/
def G.tell (g : G) (p : Addr) (o : HO) : G := { g with T := upd g.T p o }
theorem SR.tell (h : SR c ρ μ g σ H) (hp : g.O p = some (.inl 0)) {o : HO} (ho : H p = some o) : SR c ρ μ (g.tell p o) σ H :=
  { h with
    amb := fun k a m e1 e2 => by
      obtain ⟨q1, q2⟩ := h.amb k a m e1 e2
      exact ⟨q1, by cases m <;> exact q2⟩
    tmpT := fun a u e => by
      have e' : upd g.T p o a = some u := e
      by_cases z : a = p
      · subst z
        rw [upd_same] at e'
        cases e'
        exact ⟨hp, ho⟩
      · rw [upd_ne z] at e'
        exact h.tmpT a u e'
    slot := fun i s x e1 e2 => by
      have q := h.slot i s x e1 e2
      cases s with
      | none => trivial
      | some s => cases s <;> exact q }
/-- it is told no more -/
def G.untell (g : G) (p : Addr) : G := { g with T := fun a => if a = p then none else g.T a }
theorem SR.untell (h : SR c ρ μ g σ H) : SR c ρ μ (g.untell p) σ H :=
  { h with
    amb := fun k a m e1 e2 => by
      obtain ⟨q1, q2⟩ := h.amb k a m e1 e2
      exact ⟨q1, by cases m <;> exact q2⟩
    tmpT := fun a u e => by
      have e' : (if a = p then none else g.T a) = some u := e
      by_cases z : a = p
      · rw [if_pos z] at e'; cases e'
      · rw [if_neg z] at e'
        exact h.tmpT a u e'
    slot := fun i s x e1 e2 => by
      have q := h.slot i s x e1 e2
      cases s with
      | none => trivial
      | some s => cases s <;> exact q }
theorem le_tell {g0 g : G} (l : Le g0 g) (hp : g0.T p = none) {o : HO} : Le g0 (g.tell p o) := ⟨l.b, l.a, fun a u e => by
  show upd g.T p o a = some u
  rw [upd_ne (fun z => by rw [z, hp] at e; cases e)]
  exact l.t a u e⟩
theorem le_untell {g0 g : G} (l : Le g0 g) (hp : g0.T p = none) : Le g0 (g.untell p) := ⟨l.b, l.a, fun a u e => by
  show (if a = p then none else g.T a) = some u
  rw [if_neg (fun z => by rw [z, hp] at e; cases e)]
  exact l.t a u e⟩
end
end DL
set_option Elab.async false
set_option linter.all false
set_option maxRecDepth 100000
set_option maxHeartbeats 4000000
set_option autoImplicit false
namespace DL
open PySem PySem.Spec L2
/-! ### operators by values -/
structure OpD (X : Cx) (f : Value → Value → Sem Value) (gf : D → D → Option D) : Prop where
  ex : ∃ r, OpR X f r ∧ ∀ c : Ct, c.K = X.K → ∀ ρ μ g σ H x y vx vy Q d, SR c ρ μ g σ H → GRep c.K g x vx → GRep c.K g y vy → gf x y = some d →
    (∀ v' H' g', Le g g' → SR c ρ μ g' σ H' → GRep c.K g' d v' → Q v' H') → r vx vy H Q
def dBin (gf : D → D → Option D) (ta tb : TD) : TD := fun ρ => M.bind (ta ρ) fun x => M.bind (tb ρ) fun y => M.lift (gf x y)
section
variable {X : Cx} {W : WX} {a b : Expr} {ta tb : TD} {pos : Pos}
theorem re_op {c : Ct} {f : Value → Value → Sem Value} {gf : D → D → Option D} {r : R2} {tea teb : TE} (ha : RE c W tea ta) (hb : RE c W teb tb)
    (hr : ∀ ρ μ g σ H x y vx vy Q d, SR c ρ μ g σ H → GRep c.K g x vx → GRep c.K g y vy → gf x y = some d → (∀ v' H' g', Le g g' → SR c ρ μ g' σ H' → GRep c.K g' d v' → Q v' H') → r vx vy H Q) :
    RE c W (tOp r tea teb) (dBin gf ta tb) := fun ρ μ g σ H Q rr μ' s h hx k => by
  refine ha.then_ s h hx fun x μ1 h1 v1 H1 g1 l1 s1 r1 hx1 => ?_
  refine hb.then_ s1 h1 hx1 fun y μ2 h2 v2 H2 g2 l2 s2 r2 hx2 => ?_
  obtain ⟨d, e, rfl, rfl⟩ := lift_some h2
  exact hr ρ _ g2 σ H2 x y v1 v2 Q d s2 (l2.rep r1) r2 e fun v' H' g' l s' rp => k d rfl v' H' g' (l1.trans (l2.trans l)) s' rp
theorem de_op {op : Operator} {gf : D → D → Option D} (ho : OpD X (binaryOp op) gf) (ha : DE X W a ta) (hb : DE X W b tb) : DE X W (.BinOp a op b pos) (dBin gf ta tb) := by
  obtain ⟨r, h1, h2⟩ := ho.ex
  obtain ⟨tea, pa, ra⟩ := ha.ex
  obtain ⟨teb, pb, rb⟩ := hb.ex
  exact ⟨_, pe_op h1 pa pb, fun c hc => re_op (f := binaryOp op) (ra c hc) (rb c hc) (h2 c hc)⟩
theorem de_cmp {op : CmpOp} {gf : D → D → Option D} (ho : OpD X (compareOp op) gf) (ha : DE X W a ta) (hb : DE X W b tb) (hm : behindInMarks op b = false := by first | exact nomark _ | rfl | with_unfolding_all rfl) : DE X W (.Compare a [op] [b] pos) (dBin gf ta tb) := by
  obtain ⟨r, h1, h2⟩ := ho.ex
  obtain ⟨tea, pa, ra⟩ := ha.ex
  obtain ⟨teb, pb, rb⟩ := hb.ex
  exact ⟨_, pe_cmpR h1 pa pb hm, fun c hc => re_op (f := compareOp op) (ra c hc) (rb c hc) (h2 c hc)⟩
/-- a value that is True or False, as a test -/
def dTest (t : TD) : TB := fun ρ => M.bind (t ρ) fun d => match d with
  | .bl b => M.ret b
  | _ => M.stuck
theorem rt_test {c : Ct} {te : TE} {t : TD} (h : RE c W te t) : RT c W (tTest te) (dTest t) := fun ρ μ g σ H Q rr μ' s hh hx k => by
  refine h.then_ s hh hx fun x μ1 h1 v1 H1 g1 l1 s1 r1 hx1 => ?_
  cases x with
  | bl b =>
    obtain ⟨rfl, rfl⟩ := ret_some h1
    have e : v1 = .bl b := rep_flat (d := .bl b) rfl r1
    exact ⟨b, e, k b rfl H1 g1 l1 s1⟩
  | _ => cases h1
theorem dt_cmp {op : CmpOp} {gf : D → D → Option D} (ho : OpD X (compareOp op) gf) (ha : DE X W a ta) (hb : DE X W b tb) (hm : behindInMarks op b = false := by first | exact nomark _ | rfl | with_unfolding_all rfl) : DT X W (.Compare a [op] [b] pos) (dTest (dBin gf ta tb)) := by
  obtain ⟨r, h1, h2⟩ := ho.ex
  obtain ⟨tea, pa, ra⟩ := ha.ex
  obtain ⟨teb, pb, rb⟩ := hb.ex
  exact ⟨_, pt_cmpR h1 pa pb hm, fun c hc => rt_test (re_op (f := compareOp op) (ra c hc) (rb c hc) (h2 c hc))⟩
/-! ### truth -/
def D.truth : D → Option Bool
  | .non => some false
  | .bl b => some b
  | .int i => some (i != 0)
  | .str s => if s.length ≤ sizeLine then some ((s.length : Int) != 0) else none
  | .tup ds => some (!ds.isEmpty)
  | .kt ds => some (!ds.isEmpty)
  | .lst ds => some (!ds.isEmpty)
  | .rd ds => some (!ds.isEmpty)
  | _ => none
theorem isEmpty_reps {K : Fg} {ads : List Addr} {B : Hp} {ds : List D} {xs : List V} (h : Reps K ads B ds xs) : xs.isEmpty = ds.isEmpty := by
  cases ds with
  | nil => rw [reps_nil_inv h]; rfl
  | cons d ds =>
    obtain ⟨x, r, rfl, _⟩ := reps_cons_inv h
    rfl
theorem truth_V {K : Fg} {g : G} {H : Hp} {d : D} {v : V} {b : Bool} (sub : Same g.B H) (h : GRep K g d v) (e : d.truth = some b) : TruV K v H b := by
  cases d with
  | non => cases e; unfold GRep Rep at h; subst h; rfl
  | bl b' => cases e; unfold GRep Rep at h; subst h; rfl
  | int i => cases e; unfold GRep Rep at h; subst h; rfl
  | str z =>
    unfold GRep Rep at h
    subst h
    have e : (if z.length ≤ sizeLine then some ((z.length : Int) != 0) else none) = some b := e
    by_cases q : z.length ≤ sizeLine
    · rw [if_pos q] at e
      cases e
      exact ⟨q, rfl⟩
    · rw [if_neg q] at e
      cases e
  | tup ds =>
    cases e
    unfold GRep Rep at h
    obtain ⟨a, xs, rfl, h1, h2⟩ := h
    exact .inr (.inl ⟨xs, SqT.of (sub _ _ h1), by rw [isEmpty_reps h2]⟩)
  | kt ds =>
    cases e
    unfold GRep Rep at h
    obtain ⟨a, xs, rfl, h1, h2⟩ := h
    exact .inr (.inl ⟨xs, sqT_mono h1 sub, by rw [isEmpty_reps h2]⟩)
  | lst ds =>
    cases e
    unfold GRep Rep at h
    obtain ⟨a, xs, rfl, h1, h2⟩ := h
    exact .inl ⟨xs, SqL.of (sub _ _ h1), by rw [isEmpty_reps h2]⟩
  | rd ds =>
    cases e
    unfold GRep Rep at h
    obtain ⟨a, xs, rfl, h1, h2⟩ := h
    exact .inl ⟨xs, sqL_mono h1 sub, by rw [isEmpty_reps h2]⟩
  | _ => cases e
def dTruth (t : TD) : TB := fun ρ => M.bind (t ρ) fun d => M.lift d.truth
theorem dt_truth (ha : DE X W a ta) (he : ∀ whole, isTrue a X.env whole = (do let v ← whole; standAt a.pos; holding [v] (truthy v)) := by intro _; rfl) : DT X W a (dTruth ta) := by
  obtain ⟨tea, pa, ra⟩ := ha.ex
  refine ⟨_, pt_truth pa he, fun c hc ρ μ g σ H Q rr μ' s hh hx k => ?_⟩
  refine (ra c hc).then_ s hh hx fun x μ1 h1 v1 H1 g1 l1 s1 r1 hx1 => ?_
  obtain ⟨b, e, rfl, rfl⟩ := lift_some h1
  exact ⟨b, by rw [← hc]; exact truth_V s1.sub r1 e, k b rfl H1 g1 l1 s1⟩
/-! ### and, or, not, if-else -/
def dAnd (t u : TB) : TB := fun ρ => M.bind (t ρ) fun b => if b = true then u ρ else M.ret false
def dOr (t u : TB) : TB := fun ρ => M.bind (t ρ) fun b => if b = true then M.ret true else u ρ
def dNot (t : TB) : TB := fun ρ => M.bind (t ρ) fun b => M.ret (!b)
variable {rest : List Expr} {t u : TB}
theorem dt_w (h : DW X W a t) : DT X W a t := by
  obtain ⟨te, p, r⟩ := h.ex
  exact ⟨te, p.pt, r⟩
theorem dw_and1 (h : DT X W a t) : DW X W (.BoolOp .And [a] pos) t := by
  obtain ⟨te, p, r⟩ := h.ex
  exact ⟨te, pw_and1 p, r⟩
theorem dw_or1 (h : DT X W a t) : DW X W (.BoolOp .Or [a] pos) t := by
  obtain ⟨te, p, r⟩ := h.ex
  exact ⟨te, pw_or1 p, r⟩
theorem dw_and (ha : DT X W a t) (hb : DW X W (.BoolOp .And (b :: rest) pos) u) : DW X W (.BoolOp .And (a :: b :: rest) pos) (dAnd t u) := by
  obtain ⟨tea, pa, ra⟩ := ha.ex
  obtain ⟨teb, pb, rb⟩ := hb.ex
  refine ⟨_, pw_and pa pb, fun c hc ρ μ g σ H Q rr μ' s hh hx k => ?_⟩
  refine (ra c hc).then_ s hh hx fun x μ1 h1 H1 g1 l1 s1 hx1 => ?_
  cases x with
  | true => exact iteT (rb c hc ρ μ1 g1 σ H1 Q rr μ' s1 h1 hx1 fun d e H' g' l s' => k d e H' g' (l1.trans l) s')
  | false =>
    obtain ⟨rfl, rfl⟩ := ret_some (show M.ret false μ1 = some (rr, μ') from h1)
    exact iteF (k false rfl H1 g1 l1 s1)
theorem dw_or (ha : DT X W a t) (hb : DW X W (.BoolOp .Or (b :: rest) pos) u) : DW X W (.BoolOp .Or (a :: b :: rest) pos) (dOr t u) := by
  obtain ⟨tea, pa, ra⟩ := ha.ex
  obtain ⟨teb, pb, rb⟩ := hb.ex
  refine ⟨_, pw_or pa pb, fun c hc ρ μ g σ H Q rr μ' s hh hx k => ?_⟩
  refine (ra c hc).then_ s hh hx fun x μ1 h1 H1 g1 l1 s1 hx1 => ?_
  cases x with
  | false => exact iteF (rb c hc ρ μ1 g1 σ H1 Q rr μ' s1 h1 hx1 fun d e H' g' l s' => k d e H' g' (l1.trans l) s')
  | true =>
    obtain ⟨rfl, rfl⟩ := ret_some (show M.ret true μ1 = some (rr, μ') from h1)
    exact iteT (k true rfl H1 g1 l1 s1)
theorem dt_not (ha : DT X W a t) : DT X W (.UnaryOp .Not a pos) (dNot t) := by
  obtain ⟨tea, pa, ra⟩ := ha.ex
  refine ⟨_, pt_not pa, fun c hc ρ μ g σ H Q rr μ' s hh hx k => ?_⟩
  refine (ra c hc).then_ s hh hx fun x μ1 h1 H1 g1 l1 s1 hx1 => ?_
  obtain ⟨rfl, rfl⟩ := ret_some h1
  exact k _ rfl H1 g1 l1 s1
/-- as values: all but the last True or False -/
def dAndV (t u : TD) : TD := fun ρ => M.bind (t ρ) fun d => match d with
  | .bl true => u ρ
  | .bl false => M.ret (.bl false)
  | _ => M.stuck
def dOrV (t u : TD) : TD := fun ρ => M.bind (t ρ) fun d => match d with
  | .bl false => u ρ
  | .bl true => M.ret (.bl true)
  | _ => M.stuck
def dNotV (t : TD) : TD := fun ρ => M.bind (t ρ) fun d => match d with
  | .bl b => M.ret (.bl (!b))
  | _ => M.stuck
theorem de_one {op : PySem.BoolOp} (h : DE X W a ta) : DE X W (.BoolOp op [a] pos) ta := by
  obtain ⟨te, p, r⟩ := h.ex
  exact ⟨te, pe_one p, r⟩
theorem de_and (ha : DE X W a ta) (hb : DE X W (.BoolOp .And (b :: rest) pos) tb) : DE X W (.BoolOp .And (a :: b :: rest) pos) (dAndV ta tb) := by
  obtain ⟨tea, pa, ra⟩ := ha.ex
  obtain ⟨teb, pb, rb⟩ := hb.ex
  refine ⟨_, pe_and pa pb, fun c hc ρ μ g σ H Q rr μ' s hh hx k => ?_⟩
  refine (ra c hc).then_ s hh hx fun x μ1 h1 v1 H1 g1 l1 s1 r1 hx1 => ?_
  cases x with
  | bl q =>
    have e : v1 = .bl q := rep_flat (d := .bl q) rfl r1
    cases q with
    | true => exact ⟨true, e, iteT (rb c hc ρ μ1 g1 σ H1 Q rr μ' s1 h1 hx1 fun d e v' H' g' l s' => k d e v' H' g' (l1.trans l) s')⟩
    | false =>
      obtain ⟨rfl, rfl⟩ := ret_some (show M.ret (D.bl false) μ1 = some (rr, μ') from h1)
      exact ⟨false, e, iteF (k _ rfl _ H1 g1 l1 s1 (flat_rep rfl))⟩
  | _ => cases h1
theorem de_or (ha : DE X W a ta) (hb : DE X W (.BoolOp .Or (b :: rest) pos) tb) : DE X W (.BoolOp .Or (a :: b :: rest) pos) (dOrV ta tb) := by
  obtain ⟨tea, pa, ra⟩ := ha.ex
  obtain ⟨teb, pb, rb⟩ := hb.ex
  refine ⟨_, pe_or pa pb, fun c hc ρ μ g σ H Q rr μ' s hh hx k => ?_⟩
  refine (ra c hc).then_ s hh hx fun x μ1 h1 v1 H1 g1 l1 s1 r1 hx1 => ?_
  cases x with
  | bl q =>
    have e : v1 = .bl q := rep_flat (d := .bl q) rfl r1
    cases q with
    | false => exact ⟨false, e, iteF (rb c hc ρ μ1 g1 σ H1 Q rr μ' s1 h1 hx1 fun d e v' H' g' l s' => k d e v' H' g' (l1.trans l) s')⟩
    | true =>
      obtain ⟨rfl, rfl⟩ := ret_some (show M.ret (D.bl true) μ1 = some (rr, μ') from h1)
      exact ⟨true, e, iteT (k _ rfl _ H1 g1 l1 s1 (flat_rep rfl))⟩
  | _ => cases h1
theorem de_not (ha : DE X W a ta) : DE X W (.UnaryOp .Not a pos) (dNotV ta) := by
  obtain ⟨tea, pa, ra⟩ := ha.ex
  refine ⟨_, pe_not pa, fun c hc ρ μ g σ H Q rr μ' s hh hx k => ?_⟩
  refine (ra c hc).then_ s hh hx fun x μ1 h1 v1 H1 g1 l1 s1 r1 hx1 => ?_
  cases x with
  | bl q =>
    obtain ⟨rfl, rfl⟩ := ret_some h1
    exact ⟨q, rep_flat (d := .bl q) rfl r1, k _ rfl _ H1 g1 l1 s1 (flat_rep rfl)⟩
  | _ => cases h1
def dIfE (t : TB) (u v : TD) : TD := fun ρ => M.bind (t ρ) fun b => if b = true then u ρ else v ρ
theorem de_if {q : Expr} (hq : DT X W q t) (ha : DE X W a ta) (hb : DE X W b tb) : DE X W (.IfExp q a b pos) (dIfE t ta tb) := by
  obtain ⟨teq, pq, rq⟩ := hq.ex
  obtain ⟨tea, pa, ra⟩ := ha.ex
  obtain ⟨teb, pb, rb⟩ := hb.ex
  refine ⟨_, pe_ifExp pq pa pb, fun c hc ρ μ g σ H Q rr μ' s hh hx k => ?_⟩
  refine (rq c hc).then_ s hh hx fun x μ1 h1 H1 g1 l1 s1 hx1 => ?_
  cases x with
  | true => exact iteT (ra c hc ρ μ1 g1 σ H1 Q rr μ' s1 h1 hx1 fun d e v' H' g' l s' => k d e v' H' g' (l1.trans l) s')
  | false => exact iteF (rb c hc ρ μ1 g1 σ H1 Q rr μ' s1 h1 hx1 fun d e v' H' g' l s' => k d e v' H' g' (l1.trans l) s')
/-! ### argument lists -/
def dNil : TL := fun _ => M.ret []
def dCons (t : TD) (u : TL) : TL := fun ρ => M.bind (t ρ) fun d => M.bind (u ρ) fun ds => M.ret (d :: ds)
theorem da_nil : DA X W [] dNil := ⟨_, pa_nil, fun c hc ρ μ g σ H Q rr μ' s h hx k => by
  obtain ⟨rfl, rfl⟩ := ret_some h
  exact k [] rfl [] H g (Le.refl g) s reps_nil⟩
theorem da_cons {es : List Expr} {tl : TL} (ha : DE X W a ta) (hr : DA X W es tl) (hs : starEach (a :: es) X.env = (false, eval a X.env) :: starEach es X.env := by rfl) : DA X W (a :: es) (dCons ta tl) := by
  obtain ⟨tea, pa, ra⟩ := ha.ex
  obtain ⟨teb, pb, rb⟩ := hr.ex
  refine ⟨_, pa_cons pa pb hs, fun c hc ρ μ g σ H Q rr μ' s hh hx k => ?_⟩
  refine (ra c hc).then_ s hh hx fun x μ1 h1 v1 H1 g1 l1 s1 r1 hx1 => ?_
  refine (rb c hc).then_ s1 h1 hx1 fun ds μ2 h2 vs H2 g2 l2 s2 r2 hx2 => ?_
  obtain ⟨rfl, rfl⟩ := ret_some h2
  exact k _ rfl _ H2 g2 (l1.trans l2) s2 (reps_cons (l2.rep r1) r2)
/-! ### displays -/
def dTup (t : TL) : TD := fun ρ => M.bind (t ρ) fun ds => if ds.length ≤ sizeLine then M.ret (.tup ds) else M.stuck
theorem de_tup {es : List Expr} {tl : TL} {x1} (h : DA X W es tl) : DE X W (.Tuple es x1 pos) (dTup tl) := by
  obtain ⟨te, p, r⟩ := h.ex
  refine ⟨_, pe_tup p, fun c hc ρ μ g σ H Q rr μ' s hh hx k => ?_⟩
  refine (r c hc).then_ s hh hx fun ds μ1 h1 xs H1 g1 l1 s1 r1 hx1 => ?_
  by_cases q : ds.length ≤ sizeLine
  · rw [if_pos q] at h1
    obtain ⟨rfl, rfl⟩ := ret_some h1
    refine ⟨by rw [← r1.length]; exact q, fun p hp => ?_⟩
    refine k _ rfl _ _ (g1.addB p (.tup xs)) (l1.trans (s1.leB hp)) (s1.addB hp) ?_
    unfold GRep Rep
    exact ⟨p, xs, rfl, upd_same, (s1.leB hp).reps r1⟩
  · rw [if_neg q] at h1
    cases h1
def dLst (t : TL) : TL := fun ρ => M.bind (t ρ) fun ds => if ds.length ≤ sizeLine then M.ret ds else M.stuck
/-- a written list: new, nobody's -/
theorem df_lst {es : List Expr} {tl : TL} (h : DA X W es tl) : DF X W (.List es pos) (dLst tl) := by
  obtain ⟨te, p, r⟩ := h.ex
  refine ⟨_, pe_lst p, fun c hc ρ μ g σ H Q rr μ' s hh hx k => ?_⟩
  refine (r c hc).then_ s hh hx fun ds μ1 h1 xs H1 g1 l1 s1 r1 hx1 => ?_
  by_cases q : ds.length ≤ sizeLine
  · rw [if_pos q] at h1
    obtain ⟨rfl, rfl⟩ := ret_some h1
    exact ⟨by rw [← r1.length]; exact q, fun p hp => k _ rfl p xs _ _ (l1.trans (le_own1 g1 p 0)) (s1.tmp hp) ⟨own1_at _ _ _, s1.freshT hp⟩ upd_same ((le_own1 _ _ _).reps r1)⟩
  · rw [if_neg q] at h1
    cases h1
/-- a new list stands still from now on -/
def dFz (t : TL) : TD := fun ρ => M.bind (t ρ) fun ds => M.ret (.lst ds)
theorem RF.then_ {c : Ct} {ρ : Rho} {μ μ' : Mu} {g : G} {σ : L2.St} {H : Hp} {α : Type} {r : Res α} {te : TE} {t : TL} (ht : RF c W te t) {f : List D → M α} {Q : VK} (s : SR c ρ μ g σ H) (h : M.bind (t ρ) f μ = some (r, μ')) (hx : PX c W ρ σ g r μ')
    (k : ∀ d μ1, f d μ1 = some (r, μ') → ∀ p xs H1 g1, Le g g1 → SR c ρ μ1 g1 σ H1 → (g1.O p = some (.inl 0) ∧ g1.T p = none) → H1 p = some (.lst xs) → GReps c.K g1 d xs → PX c W ρ σ g1 r μ' → Q (.ref p) H1) : te σ H Q := by
  rcases bind_some h with ⟨a, μ1, e1, e2⟩ | ⟨C, ns, ds, e1, rfl⟩
  · exact ht ρ μ g σ H Q _ _ s e1 (fun C ns ds e => by cases e) fun d e a' xs H' g' l s' ho sq rp => by
      cases e
      exact k a μ1 e2 a' xs H' g' l s' ho sq rp (hx.le l)
  · exact ht ρ μ g σ H Q _ _ s e1 (fun C' ns' ds' e => by cases e; exact hx C ns ds rfl) fun d e => by cases e
theorem de_fz {tl : TL} (h : DF X W a tl) : DE X W a (dFz tl) := by
  obtain ⟨te, p, r⟩ := h.ex
  refine ⟨te, p, fun c hc ρ μ g σ H Q rr μ' s hh hx k => ?_⟩
  refine (r c hc).then_ s hh hx fun ds μ1 h1 p xs H1 g1 l1 s1 ho hp r1 hx1 => ?_
  obtain ⟨rfl, rfl⟩ := ret_some h1
  refine k _ rfl _ _ (g1.fz p (.lst xs)) (l1.trans (s1.leFz ho.1)) (s1.fzTmp ho.1 ho.2 hp) ?_
  unfold GRep Rep
  exact ⟨p, xs, rfl, upd_same, (s1.leFz ho.1).reps r1⟩
end
/-! ### the operators -/
section
variable {X : Cx}
theorem opD_pure {f : Value → Value → Sem Value} {r : R2} {gf : D → D → Option D} (hr : OpR X f r)
    (h : ∀ (g : G) H x y vx vy (Q : VK) d, Same g.B H → GRep X.K g x vx → GRep X.K g y vy → gf x y = some d → (∀ v, GRep X.K g d v → Q v H) → r vx vy H Q) : OpD X f gf :=
  ⟨r, hr, fun c hc ρ μ g σ H x y vx vy Q d s rx ry e k => h g H x y vx vy Q d s.sub (by rw [← hc]; exact rx) (by rw [← hc]; exact ry) e fun v rv => k v H g (Le.refl g) s (by rw [hc]; exact rv)⟩
/-- ints -/
def gI (f : Int → Int → Option D) : D → D → Option D
  | .int i, .int j => f i j
  | _, _ => none
theorem gI_some {f : Int → Int → Option D} {x y d : D} (h : gI f x y = some d) : ∃ i j, x = .int i ∧ y = .int j ∧ f i j = some d := by
  cases x <;> cases y <;> first | exact ⟨_, _, rfl, rfl, h⟩ | cases h
theorem rep_int {K : Fg} {ads : List Addr} {B : Hp} {i : Int} {v : V} (h : Rep K ads B (.int i) v) : v = .int i := rep_flat (d := .int i) rfl h
theorem rep_str {K : Fg} {ads : List Addr} {B : Hp} {i : Str} {v : V} (h : Rep K ads B (.str i) v) : v = .str i := rep_flat (d := .str i) rfl h
theorem opD_I0 {f : Value → Value → Sem Value} {gv : Int → Int → V} {gd : Int → Int → D} (hr : OpR X f (rI0 gv)) (e : ∀ i j, (gd i j).flat = some (gv i j)) : OpD X f (gI fun i j => some (gd i j)) :=
  opD_pure hr fun g H x y vx vy Q d _ rx ry h k => by
    obtain ⟨i, j, rfl, rfl, h⟩ := gI_some h
    cases h
    exact ⟨i, j, rep_int rx, rep_int ry, k _ (flat_rep (e i j))⟩
theorem opD_I {f : Value → Value → Sem Value} {C : Int → Int → Prop} [∀ i j, Decidable (C i j)] {gv : Int → Int → V} {gd : Int → Int → D} (hr : OpR X f (rI C gv)) (e : ∀ i j, (gd i j).flat = some (gv i j)) : OpD X f (gI fun i j => if C i j then some (gd i j) else none) :=
  opD_pure hr fun g H x y vx vy Q d _ rx ry h k => by
    obtain ⟨i, j, rfl, rfl, h⟩ := gI_some h
    have h : (if C i j then some (gd i j) else none) = some d := h
    by_cases q : C i j
    · rw [if_pos q] at h
      cases h
      exact ⟨i, j, rep_int rx, rep_int ry, q, k _ (flat_rep (e i j))⟩
    · rw [if_neg q] at h
      cases h
instance (i j : Int) : Decidable (CMul i j) := inferInstanceAs (Decidable ((-(2 ^ 64) < i ∧ i < 2 ^ 64) ∨ (-(2 ^ 64) < j ∧ j < 2 ^ 64)))
instance (i j : Int) : Decidable (CDiv i j) := inferInstanceAs (Decidable (0 < j ∧ j < 1073741824))
instance (i j : Int) : Decidable (CPow i j) := inferInstanceAs (Decidable (0 ≤ j ∧ j ≤ 1000000 ∧ i.natAbs < 2 ^ 64))
def gSub : D → D → Option D := gI fun i j => some (.int (i - j))
def gMul : D → D → Option D := gI fun i j => if CMul i j then some (.int (i * j)) else none
def gDiv : D → D → Option D := gI fun i j => if CDiv i j then some (.int (i / j)) else none
def gMod : D → D → Option D := gI fun i j => if 0 < j then some (.int (i % j)) else none
def gPow : D → D → Option D := gI fun i j => if CPow i j then some (.int (i ^ j.toNat)) else none
def gShl : D → D → Option D := gI fun i j => if CPow i j then some (.int (i * 2 ^ j.toNat)) else none
def gShr : D → D → Option D := gI fun i j => if 0 ≤ j then some (.int (i / 2 ^ j.toNat)) else none
def gBAnd : D → D → Option D := gI fun i j => some (.int (Builtin.bitAnd i j))
def gBOr : D → D → Option D := gI fun i j => some (.int (Builtin.bitOr i j))
def gBXor : D → D → Option D := gI fun i j => some (.int (Builtin.bitXor i j))
def gLt : D → D → Option D := gI fun i j => some (.bl (decide (i < j)))
def gLe : D → D → Option D := gI fun i j => some (.bl (decide (i ≤ j)))
def gGt : D → D → Option D := gI fun i j => some (.bl (decide (j < i)))
def gGe : D → D → Option D := gI fun i j => some (.bl (decide (j ≤ i)))
theorem od_sub : OpD X (binaryOp .Sub) gSub := opD_I0 op_sub fun _ _ => rfl
theorem od_mul : OpD X (binaryOp .Mult) gMul := opD_I op_mul fun _ _ => rfl
theorem od_div : OpD X (binaryOp .FloorDiv) gDiv := opD_I op_fdiv fun _ _ => rfl
theorem od_mod : OpD X (binaryOp .Mod) gMod := opD_I (C := fun _ j => 0 < j) op_mod fun _ _ => rfl
theorem od_pow : OpD X (binaryOp .Pow) gPow := opD_I op_pow fun _ _ => rfl
theorem od_shl : OpD X (binaryOp .LShift) gShl := opD_I op_shl fun _ _ => rfl
theorem od_shr : OpD X (binaryOp .RShift) gShr := opD_I (C := fun _ j => 0 ≤ j) op_shr fun _ _ => rfl
theorem od_band : OpD X (binaryOp .BitAnd) gBAnd := opD_I0 op_and fun _ _ => rfl
theorem od_bor : OpD X (binaryOp .BitOr) gBOr := opD_I0 op_or fun _ _ => rfl
theorem od_bxor : OpD X (binaryOp .BitXor) gBXor := opD_I0 op_xor fun _ _ => rfl
theorem od_lt : OpD X (compareOp .Lt) gLt := opD_I0 op_lt fun _ _ => rfl
theorem od_le : OpD X (compareOp .LtE) gLe := opD_I0 op_le fun _ _ => rfl
theorem od_gt : OpD X (compareOp .Gt) gGt := opD_I0 op_gt fun _ _ => rfl
theorem od_ge : OpD X (compareOp .GtE) gGe := opD_I0 op_ge fun _ _ => rfl
/-- +: ints, texts -/
def gAdd : D → D → Option D
  | .int i, .int j => some (.int (i + j))
  | .str i, .str j => if i.length + j.length ≤ sizeLine then some (.str (i ++ j)) else none
  | _, _ => none
theorem od_add : OpD X (binaryOp .Add) gAdd := opD_pure (OpR.or op_add op_add_str) fun g H x y vx vy Q d _ rx ry h k => by
  cases x <;> cases y <;> first | (cases h; done) | skip
  · cases h
    exact .inl ⟨_, _, rep_int rx, rep_int ry, k _ (flat_rep rfl)⟩
  · rename_i i j
    have h' : (if i.length + j.length ≤ sizeLine then some (D.str (i ++ j)) else none) = some d := h
    by_cases q : i.length + j.length ≤ sizeLine
    · rw [if_pos q] at h'
      cases h'
      exact .inr ⟨i, j, rep_str rx, rep_str ry, q, k _ (flat_rep rfl)⟩
    · rw [if_neg q] at h'
      cases h'
/-- is None -/
def gIsN : D → D → Option D
  | x, .non => match x with
    | .non => some (.bl true)
    | _ => some (.bl false)
  | _, _ => none
def gNotN : D → D → Option D
  | x, .non => match x with
    | .non => some (.bl false)
    | _ => some (.bl true)
  | _, _ => none
def D.isNon : D → Bool
  | .non => true
  | _ => false
theorem rep_non {K : Fg} {ads : List Addr} {B : Hp} {x : D} {v : V} (h : Rep K ads B x v) : decide (v = .non) = x.isNon := by
  cases x <;> unfold Rep at h
  case non => subst h; rfl
  case bl => subst h; rfl
  case int => subst h; rfl
  case str => subst h; rfl
  case ref => subst h; rfl
  case ty => subst h; rfl
  case mref => obtain ⟨a, _, rfl⟩ := h; rfl
  case tup => obtain ⟨a, _, rfl, _⟩ := h; rfl
  case kt => obtain ⟨a, _, rfl, _⟩ := h; rfl
  case lst => obtain ⟨a, _, rfl, _⟩ := h; rfl
  case rd => obtain ⟨a, _, rfl, _⟩ := h; rfl
  case obj => obtain ⟨a, _, _, rfl, _⟩ := h; rfl
  case dk => obtain ⟨a, _, rfl, _⟩ := h; rfl
theorem gIsN_some {x y d : D} (h : gIsN x y = some d) : y = .non ∧ d = .bl x.isNon := by
  cases y <;> first | (cases h; done) | skip
  cases x <;> (cases h; exact ⟨rfl, rfl⟩)
theorem gNotN_some {x y d : D} (h : gNotN x y = some d) : y = .non ∧ d = .bl (!x.isNon) := by
  cases y <;> first | (cases h; done) | skip
  cases x <;> (cases h; exact ⟨rfl, rfl⟩)
theorem od_isN : OpD X (compareOp .Is) gIsN := opD_pure op_isN fun g H x y vx vy Q d _ rx ry h k => by
  obtain ⟨rfl, rfl⟩ := gIsN_some h
  refine ⟨rep_flat (d := .non) rfl ry, k _ ?_⟩
  rw [rep_non rx]
  exact flat_rep rfl
theorem od_notN : OpD X (compareOp .IsNot) gNotN := opD_pure op_notN fun g H x y vx vy Q d _ rx ry h k => by
  obtain ⟨rfl, rfl⟩ := gNotN_some h
  refine ⟨rep_flat (d := .non) rfl ry, k _ ?_⟩
  rw [rep_non rx]
  exact flat_rep rfl
/-! ### == -/
mutual
def D.py : D → Option PyData
  | .non => some .none
  | .bl b => some (.bool b)
  | .int i => some (.int i)
  | .str s => some (.str s)
  | .tup ds => match D.pys ds with
    | some ps => some (.tuple ps)
    | none => none
  | .kt ds => match D.pys ds with
    | some ps => some (.tuple ps)
    | none => none
  | .lst ds => match D.pys ds with
    | some ps => some (.list ps)
    | none => none
  | .rd ds => match D.pys ds with
    | some ps => some (.list ps)
    | none => none
  | _ => none
def D.pys : List D → Option (List PyData)
  | [] => some []
  | d :: ds => match D.py d, D.pys ds with
    | some p, some ps => some (p :: ps)
    | _, _ => none
end
section
variable {K : Fg} {ads : List Addr} {B H : Hp}
mutual
theorem py_dp (sub : Same B H) : ∀ {d : D} {v : V} {p : PyData}, Rep K ads B d v → d.py = some p → Dp K H v p
  | .non, v, p, h, e => by unfold Rep at h; unfold D.py at e; cases e; subst h; exact .non
  | .bl b, v, p, h, e => by unfold Rep at h; unfold D.py at e; cases e; subst h; exact .bl b
  | .int i, v, p, h, e => by unfold Rep at h; unfold D.py at e; cases e; subst h; exact .int i
  | .str s, v, p, h, e => by unfold Rep at h; unfold D.py at e; cases e; subst h; exact .str s
  | .ref a, v, p, h, e => by unfold D.py at e; cases e
  | .ty n, v, p, h, e => by unfold D.py at e; cases e
  | .mref n, v, p, h, e => by unfold D.py at e; cases e
  | .obj C ns ds, v, p, h, e => by unfold D.py at e; cases e
  | .dk ns ds, v, p, h, e => by unfold D.py at e; cases e
  | .tup ds, v, p, h, e => by
    unfold Rep at h
    unfold D.py at e
    obtain ⟨a, xs, rfl, h1, h2⟩ := h
    cases q : D.pys ds with
    | none => rw [q] at e; cases e
    | some ps =>
      rw [q] at e
      cases e
      exact .tup (SqT.of (sub _ _ h1)) (pys_dp sub h2 q)
  | .kt ds, v, p, h, e => by
    unfold Rep at h
    unfold D.py at e
    obtain ⟨a, xs, rfl, h1, h2⟩ := h
    cases q : D.pys ds with
    | none => rw [q] at e; cases e
    | some ps =>
      rw [q] at e
      cases e
      exact .tup (sqT_mono h1 sub) (pys_dp sub h2 q)
  | .lst ds, v, p, h, e => by
    unfold Rep at h
    unfold D.py at e
    obtain ⟨a, xs, rfl, h1, h2⟩ := h
    cases q : D.pys ds with
    | none => rw [q] at e; cases e
    | some ps =>
      rw [q] at e
      cases e
      exact .lst (SqL.of (sub _ _ h1)) (pys_dp sub h2 q)
  | .rd ds, v, p, h, e => by
    unfold Rep at h
    unfold D.py at e
    obtain ⟨a, xs, rfl, h1, h2⟩ := h
    cases q : D.pys ds with
    | none => rw [q] at e; cases e
    | some ps =>
      rw [q] at e
      cases e
      exact .lst (sqL_mono h1 sub) (pys_dp sub h2 q)
theorem pys_dp (sub : Same B H) : ∀ {ds : List D} {xs : List V} {ps : List PyData}, Reps K ads B ds xs → D.pys ds = some ps → DpAll K H xs ps
  | [], xs, ps, h, e => by
    unfold D.pys at e
    cases e
    rw [reps_nil_inv h]
    exact .nil
  | d :: ds, xs, ps, h, e => by
    obtain ⟨x, r, rfl, hx, t⟩ := reps_cons_inv h
    unfold D.pys at e
    cases q1 : D.py d with
    | none => rw [q1] at e; cases e
    | some p =>
      cases q2 : D.pys ds with
      | none => rw [q1, q2] at e; cases e
      | some ps' =>
        rw [q1, q2] at e
        cases e
        exact .cons (py_dp sub hx q1) (pys_dp sub t q2)
end
end
/-- == of flat values that the plain rule tells apart, else of data -/
def eqD (x y : D) : Option Bool := match x.flat, y.flat with
  | some v, some w => if scal v w = true then some (decide (v = w)) else none
  | _, _ => match x.py, y.py with
    | some p, some q => if (SeqAt.shaped p && SeqAt.shaped q) = true then some (PyData.eqv p q) else none
    | _, _ => none
def gEq (x y : D) : Option D := (eqD x y).map D.bl
def gNe (x y : D) : Option D := (eqD x y).map fun b => D.bl (!b)
theorem eqD_cases {x y : D} {b : Bool} (h : eqD x y = some b) : (∃ v w, x.flat = some v ∧ y.flat = some w ∧ scal v w = true ∧ b = decide (v = w)) ∨
    (∃ p q, x.py = some p ∧ y.py = some q ∧ SeqAt.shaped p = true ∧ SeqAt.shaped q = true ∧ b = PyData.eqv p q) := by
  have key : (match x.py, y.py with
    | some p, some q => if (SeqAt.shaped p && SeqAt.shaped q) = true then some (PyData.eqv p q) else none
    | _, _ => none) = some b → (∃ p q, x.py = some p ∧ y.py = some q ∧ SeqAt.shaped p = true ∧ SeqAt.shaped q = true ∧ b = PyData.eqv p q) := by
    intro h
    cases e1 : x.py with
    | none => rw [e1] at h; cases h
    | some p =>
      cases e2 : y.py with
      | none => rw [e1, e2] at h; cases h
      | some q =>
        rw [e1, e2] at h
        have h' : (if (SeqAt.shaped p && SeqAt.shaped q) = true then some (PyData.eqv p q) else none) = some b := h
        by_cases z : (SeqAt.shaped p && SeqAt.shaped q) = true
        · rw [if_pos z] at h'
          cases h'
          obtain ⟨z1, z2⟩ := Bool.and_eq_true_iff.mp z
          exact ⟨p, q, rfl, rfl, z1, z2, rfl⟩
        · rw [if_neg z] at h'
          cases h'
  unfold eqD at h
  cases e1 : x.flat with
  | none => rw [e1] at h; exact .inr (key h)
  | some v =>
    cases e2 : y.flat with
    | none => rw [e1, e2] at h; exact .inr (key h)
    | some w =>
      rw [e1, e2] at h
      have h' : (if scal v w = true then some (decide (v = w)) else none) = some b := h
      by_cases z : scal v w = true
      · rw [if_pos z] at h'
        cases h'
        exact .inl ⟨v, w, rfl, rfl, z, rfl⟩
      · rw [if_neg z] at h'
        cases h'
theorem od_eq (hu : X.A.units + 64 < cLine) : OpD X (compareOp .Eq) gEq := opD_pure (OpR.or op_eq (op_eqD hu)) fun g H x y vx vy Q d sub rx ry h k => by
  unfold gEq at h
  cases e : eqD x y with
  | none => rw [e] at h; cases h
  | some b =>
    rw [e] at h
    cases h
    rcases eqD_cases e with ⟨v, w, e1, e2, e3, rfl⟩ | ⟨p, q, e1, e2, e3, e4, rfl⟩
    · have z1 := rep_flat e1 rx
      have z2 := rep_flat e2 ry
      subst z1 z2
      exact .inl ⟨e3, k _ (flat_rep rfl)⟩
    · exact .inr ⟨p, q, py_dp sub rx e1, py_dp sub ry e2, e3, e4, k _ (flat_rep rfl)⟩
theorem od_ne (hu : X.A.units + 64 < cLine) : OpD X (compareOp .NotEq) gNe := opD_pure (OpR.or op_ne (op_neD hu)) fun g H x y vx vy Q d sub rx ry h k => by
  unfold gNe at h
  cases e : eqD x y with
  | none => rw [e] at h; cases h
  | some b =>
    rw [e] at h
    cases h
    rcases eqD_cases e with ⟨v, w, e1, e2, e3, rfl⟩ | ⟨p, q, e1, e2, e3, e4, rfl⟩
    · have z1 := rep_flat e1 rx
      have z2 := rep_flat e2 ry
      subst z1 z2
      exact .inl ⟨e3, k _ (flat_rep rfl)⟩
    · exact .inr ⟨p, q, py_dp sub rx e1, py_dp sub ry e2, e3, e4, k _ (flat_rep rfl)⟩
end
end DL
set_option Elab.async false
set_option linter.all false
set_option maxRecDepth 100000
set_option maxHeartbeats 4000000
set_option autoImplicit false
namespace DL
open PySem PySem.Spec L2
/-! ### statements -/
def dsE {α : Type} (m : Rho → M α) (f : α → Rho → Mu → Option (Out × Mu)) : TO' := fun ρ μ => match m ρ μ with
  | none => none
  | some (.ok a, μ') => f a ρ μ'
  | some (.ex C ns ds, μ') => some (.ex ρ C ns ds, μ')
section
variable {c : Ct} {W : WX} {ρ : Rho} {μ μ' : Mu} {g : G} {σ : L2.St} {H : Hp} {o : Out} {D₀ : Ends}
theorem dsE_some {α : Type} {m : Rho → M α} {f : α → Rho → Mu → Option (Out × Mu)} (h : dsE m f ρ μ = some (o, μ')) :
    (∃ a μ1, m ρ μ = some (.ok a, μ1) ∧ f a ρ μ1 = some (o, μ')) ∨ (∃ C ns ds, m ρ μ = some (.ex C ns ds, μ') ∧ o = .ex ρ C ns ds) := by
  unfold dsE at h
  cases e : m ρ μ with
  | none => rw [e] at h; cases h
  | some q =>
    obtain ⟨r1, μ1⟩ := q
    rw [e] at h
    cases r1 with
    | ok a => exact .inl ⟨a, μ1, rfl, h⟩
    | ex C ns ds =>
      have h' : some (Out.ex ρ C ns ds, μ1) = some (o, μ') := h
      injection h' with h'
      injection h' with h1 h2
      subst h1 h2
      exact .inr ⟨C, ns, ds, rfl, rfl⟩
theorem px_of {α : Type} {C : Addr} {ns : List Str} {ds : List D} (h : PS' c W g (.ex ρ C ns ds) μ' D₀) : PX c W ρ σ g (Res.ex C ns ds : Res α) μ' :=
  fun C' ns' ds' e d H' g' l s x => by
    cases e
    exact h d σ H' g' l s x
theorem px_ok {α : Type} {a : α} : PX c W ρ σ g (Res.ok a : Res α) μ' := fun C ns ds e => by cases e
theorem RE.stm {te : TE} {t : TD} (ht : RE c W te t) {f : D → Rho → Mu → Option (Out × Mu)} {Q : VK} (s : SR c ρ μ g σ H) (h : dsE t f ρ μ = some (o, μ')) (hx : PS' c W g o μ' D₀)
    (k : ∀ d μ1, f d ρ μ1 = some (o, μ') → ∀ v H1 g1, Le g g1 → SR c ρ μ1 g1 σ H1 → GRep c.K g1 d v → PS' c W g1 o μ' D₀ → Q v H1) : te σ H Q := by
  rcases dsE_some h with ⟨a, μ1, e1, e2⟩ | ⟨C, ns, ds, e1, rfl⟩
  · exact ht ρ μ g σ H Q _ _ s e1 px_ok fun d e v H' g' l s' rp => by
      cases e
      exact k a μ1 e2 v H' g' l s' rp (hx.le l)
  · exact ht ρ μ g σ H Q _ _ s e1 (px_of hx) fun d e => by cases e
theorem RT.stm {te : TT} {t : TB} (ht : RT c W te t) {f : Bool → Rho → Mu → Option (Out × Mu)} {Q : Bool → Hp → Prop} (s : SR c ρ μ g σ H) (h : dsE t f ρ μ = some (o, μ')) (hx : PS' c W g o μ' D₀)
    (k : ∀ d μ1, f d ρ μ1 = some (o, μ') → ∀ H1 g1, Le g g1 → SR c ρ μ1 g1 σ H1 → PS' c W g1 o μ' D₀ → Q d H1) : te σ H Q := by
  rcases dsE_some h with ⟨a, μ1, e1, e2⟩ | ⟨C, ns, ds, e1, rfl⟩
  · exact ht ρ μ g σ H Q _ _ s e1 px_ok fun d e H' g' l s' => by
      cases e
      exact k a μ1 e2 H' g' l s' (hx.le l)
  · exact ht ρ μ g σ H Q _ _ s e1 (px_of hx) fun d e => by cases e
theorem RF.stm {te : TE} {t : TL} (ht : RF c W te t) {f : List D → Rho → Mu → Option (Out × Mu)} {Q : VK} (s : SR c ρ μ g σ H) (h : dsE t f ρ μ = some (o, μ')) (hx : PS' c W g o μ' D₀)
    (k : ∀ d μ1, f d ρ μ1 = some (o, μ') → ∀ p xs H1 g1, Le g g1 → SR c ρ μ1 g1 σ H1 → (g1.O p = some (.inl 0) ∧ g1.T p = none) → H1 p = some (.lst xs) → GReps c.K g1 d xs → PS' c W g1 o μ' D₀ → Q (.ref p) H1) : te σ H Q := by
  rcases dsE_some h with ⟨a, μ1, e1, e2⟩ | ⟨C, ns, ds, e1, rfl⟩
  · exact ht ρ μ g σ H Q _ _ s e1 px_ok fun d e v xs H' g' l s' ho hp rp => by
      cases e
      exact k a μ1 e2 v xs H' g' l s' ho hp rp (hx.le l)
  · exact ht ρ μ g σ H Q _ _ s e1 (px_of hx) fun d e => by cases e
end
section
variable {X : Cx} {W : WX} {a b : Expr} {ta tb : TD} {pos : Pos} {st : Stmt} {rest : List Stmt} {t u : TO'}
def dsNext : TO' := fun ρ μ => some (.nx ρ, μ)
def dsStuck : TO' := fun _ _ => none
def dsSeq (t u : TO') : TO' := fun ρ μ => match t ρ μ with
  | none => none
  | some (.nx ρ', μ') => u ρ' μ'
  | some (o, μ') => some (o, μ')
theorem dss_nil : DSs X W [] dsNext := ⟨_, pss_nil, fun c hc ρ μ g σ H D₀ o μ' s h k => by
  cases h
  exact k σ H g (Le.refl g) s⟩
theorem rs_seq {c : Ct} {ts us : TS} (ht : RS c W ts t) (hu : RS c W us u) : RS c W (tSeq ts us) (dsSeq t u) := fun ρ μ g σ H D₀ o μ' s h k => by
  unfold dsSeq at h
  cases e : t ρ μ with
  | none => rw [e] at h; cases h
  | some q =>
    obtain ⟨o1, μ1⟩ := q
    rw [e] at h
    cases o1 with
    | nx ρ' => exact ht ρ μ g σ H _ _ _ s e fun σ' H' g' l s' => hu ρ' μ1 g' σ' H' D₀ o μ' s' h (k.le l)
    | rt d => cases h; exact ht ρ μ g σ H _ _ _ s e k
    | bk ρ' => cases h; exact ht ρ μ g σ H _ _ _ s e k
    | ct ρ' => cases h; exact ht ρ μ g σ H _ _ _ s e k
    | ex ρ' C ns ds => cases h; exact ht ρ μ g σ H _ _ _ s e k
theorem dss_cons (h1 : DS X W st t) (h2 : DSs X W rest u) : DSs X W (st :: rest) (dsSeq t u) := by
  obtain ⟨ts, p1, r1⟩ := h1.ex
  obtain ⟨us, p2, r2⟩ := h2.ex
  exact ⟨_, pss_cons p1 p2, fun c hc => rs_seq (r1 c hc) (r2 c hc)⟩
theorem dss_one (h1 : DS X W st t) : DSs X W [st] t := by
  obtain ⟨ts, p1, r1⟩ := h1.ex
  exact ⟨_, pss_one p1, r1⟩
/-- a ghost step ahead of a block -/
theorem dss_gh {gh : TO'} (h : DSs X W rest u) (hg : ∀ c : Ct, c.K = X.K → ∀ ρ μ g σ H o μ', SR c ρ μ g σ H → gh ρ μ = some (o, μ') → ∃ ρ' g', o = .nx ρ' ∧ Le g g' ∧ SR c ρ' μ' g' σ H) : DSs X W rest (dsSeq gh u) := by
  obtain ⟨us, p2, r2⟩ := h.ex
  refine ⟨us, p2, fun c hc ρ μ g σ H D₀ o μ' s h k => ?_⟩
  unfold dsSeq at h
  cases e : gh ρ μ with
  | none => rw [e] at h; cases h
  | some q =>
    obtain ⟨o1, μ1⟩ := q
    rw [e] at h
    obtain ⟨ρ', g', rfl, l, s'⟩ := hg c hc ρ μ g σ H o1 μ1 s e
    exact r2 c hc ρ' μ1 g' σ H D₀ o μ' s' h (k.le l)
/-- slot i's own list stands still from now on -/
def dsFz (i : Nat) : TO' := fun ρ μ => match ρ[i]? with
  | some (some (.ol ds)) => some (.nx (ρ.set i (some (.sh (.lst ds)))), μ)
  | _ => none
theorem dsFz_some {i : Nat} {ρ : Rho} {μ μ' : Mu} {o : Out} (h : dsFz i ρ μ = some (o, μ')) : ∃ ds, ρ[i]? = some (some (.ol ds)) ∧ o = .nx (ρ.set i (some (.sh (.lst ds)))) ∧ μ' = μ := by
  unfold dsFz at h
  cases e : ρ[i]? with
  | none => rw [e] at h; cases h
  | some q =>
    rw [e] at h
    cases q with
    | none => cases h
    | some s =>
      cases s with
      | ol ds =>
        cases h
        exact ⟨ds, rfl, rfl, rfl⟩
      | _ => cases h
theorem gh_fz (i : Nat) : ∀ c : Ct, c.K = X.K → ∀ ρ μ g σ H o μ', SR c ρ μ g σ H → dsFz i ρ μ = some (o, μ') → ∃ ρ' g', o = .nx ρ' ∧ Le g g' ∧ SR c ρ' μ' g' σ H := fun c hc ρ μ g σ H o μ' s h => by
  obtain ⟨ds, e, rfl, rfl⟩ := dsFz_some h
  obtain ⟨x, hx, p, xs, rfl, h2, h3, h4⟩ := s.at e
  refine ⟨_, g.fz p (.lst xs), rfl, s.leFz h2, s.fz h2 hx h3 ?_⟩
  unfold GRep Rep
  exact ⟨p, xs, rfl, upd_same, (s.leFz h2).reps h4⟩
theorem dss_fz (i : Nat) (h : DSs X W rest u) : DSs X W rest (dsSeq (dsFz i) u) := dss_gh h (gh_fz i)
theorem ds_pass : DS X W (.Pass pos) dsNext := ⟨_, ps_pass, fun c hc ρ μ g σ H D₀ o μ' s h k => by
  cases h
  exact k σ H g (Le.refl g) s⟩
def dsBreak : TO' := fun ρ μ => some (.bk ρ, μ)
def dsCont : TO' := fun ρ μ => some (.ct ρ, μ)
theorem ds_break : DS X W (.Break pos) dsBreak := ⟨_, ps_break, fun c hc ρ μ g σ H D₀ o μ' s h k => by
  cases h
  exact k σ H g (Le.refl g) s⟩
theorem ds_continue : DS X W (.Continue pos) dsCont := ⟨_, ps_continue, fun c hc ρ μ g σ H D₀ o μ' s h k => by
  cases h
  exact k σ H g (Le.refl g) s⟩
theorem ds_never : DS X W st dsStuck := ⟨_, ps_never, fun c hc ρ μ g σ H D₀ o μ' s h k => by cases h⟩
theorem dss_never {sts : List Stmt} : DSs X W sts dsStuck := ⟨_, pss_never, fun c hc ρ μ g σ H D₀ o μ' s h k => by cases h⟩
def dsExpr (t : TD) : TO' := dsE t fun _ ρ μ => some (.nx ρ, μ)
theorem ds_expr (he : DE X W a ta) (hs : swapsWith a none pos.line X.env = pure false := by rfl) : DS X W (.Expr a pos) (dsExpr ta) := by
  obtain ⟨te, p, r⟩ := he.ex
  refine ⟨_, ps_expr p hs, fun c hc ρ μ g σ H D₀ o μ' s h k => ?_⟩
  refine (r c hc).stm s h k fun d μ1 h1 v H1 g1 l1 s1 _ k1 => ?_
  cases h1
  exact k1 σ H1 g1 (Le.refl _) s1
def dsRet (t : TD) : TO' := dsE t fun d ρ μ => some (.rt d, μ)
theorem ds_ret (he : DE X W a ta) : DS X W (.Return (some a) pos) (dsRet ta) := by
  obtain ⟨te, p, r⟩ := he.ex
  refine ⟨_, ps_ret p, fun c hc ρ μ g σ H D₀ o μ' s h k => ?_⟩
  refine (r c hc).stm s h k fun d μ1 h1 v H1 g1 l1 s1 rp k1 => ?_
  cases h1
  exact k1 v H1 g1 (Le.refl _) s1.toSH rp
def dsRetN : TO' := fun ρ μ => some (.rt .non, μ)
theorem ds_retN : DS X W (.Return none pos) dsRetN := ⟨_, ps_retN, fun c hc ρ μ g σ H D₀ o μ' s h k => by
  cases h
  exact k .non H g (Le.refl g) s.toSH (flat_rep rfl)⟩
def dsIf (t : TB) (u v : TO') : TO' := dsE t fun b ρ μ => if b = true then u ρ μ else v ρ μ
theorem ds_if {x y : List Stmt} {q : Expr} {tq : TB} (hq : DT X W q tq) (hx : DSs X W x t) (hy : DSs X W y u) : DS X W (.If q x y pos) (dsIf tq t u) := by
  obtain ⟨te, p, r⟩ := hq.ex
  obtain ⟨t1, p1, r1⟩ := hx.ex
  obtain ⟨t2, p2, r2⟩ := hy.ex
  refine ⟨_, ps_if p p1 p2, fun c hc ρ μ g σ H D₀ o μ' s h k => ?_⟩
  refine (r c hc).stm s h k fun b μ1 h1 H1 g1 l1 s1 k1 => ?_
  cases b with
  | true => exact iteT (r1 c hc ρ μ1 g1 σ H1 D₀ o μ' s1 h1 k1)
  | false => exact iteF (r2 c hc ρ μ1 g1 σ H1 D₀ o μ' s1 h1 k1)
/-! ### assignments -/
def dsSet (i : Nat) (t : TD) : TO' := dsE t fun d ρ μ => some (.nx (ρ.set i (some (.sh d))), μ)
theorem ds_set {i : Nat} {x : Str} {pos' : Pos} (hN : X.N.Nodup) (he : DE X W a ta) (hi : X.N[i]? = some x := by rfl) (hx : Loc X.env.scope x := by first | exact Or.inl rfl | exact Or.inr rfl) (hs : swapsWith a (some (.Name x pos')) pos.line X.env = pure false := by rfl)
    (hf : X.fn x = true ∨ X.env.scope.names.lookup x = some .local := by first | exact .inl rfl | exact .inr rfl) : DS X W (.Assign [.Name x pos'] a pos) (dsSet i ta) := by
  obtain ⟨te, p, r⟩ := he.ex
  refine ⟨_, ps_set (i := i) hN hi hx p hs hf, fun c hc ρ μ g σ H D₀ o μ' s h k => ?_⟩
  refine (r c hc).stm s h k fun d μ1 h1 v H1 g1 l1 s1 rp k1 => ?_
  cases h1
  exact k1 _ H1 g1 (Le.refl _) (s1.setSh i rp)
/-- a new list, the def's own -/
def dsSetO (i : Nat) (t : TL) : TO' := dsE t fun ds ρ μ => some (.nx (ρ.set i (some (.ol ds))), μ)
theorem ds_setO {i : Nat} {x : Str} {pos' : Pos} {tl : TL} (hN : X.N.Nodup) (he : DF X W a tl) (hi : X.N[i]? = some x := by rfl) (hx : Loc X.env.scope x := by first | exact Or.inl rfl | exact Or.inr rfl) (hs : swapsWith a (some (.Name x pos')) pos.line X.env = pure false := by rfl)
    (hf : X.fn x = true ∨ X.env.scope.names.lookup x = some .local := by first | exact .inl rfl | exact .inr rfl) : DS X W (.Assign [.Name x pos'] a pos) (dsSetO i tl) := by
  obtain ⟨te, p, r⟩ := he.ex
  refine ⟨_, ps_set (i := i) hN hi hx p hs hf, fun c hc ρ μ g σ H D₀ o μ' s h k => ?_⟩
  refine (r c hc).stm s h k fun ds μ1 h1 p xs H1 g1 l1 s1 ho hp rp k1 => ?_
  cases h1
  exact k1 _ _ (g1.own1 p (i + 1)) (le_own1 _ _ _) (s1.take i ho.1 ho.2 ⟨p, xs, rfl, own1_at _ _ _, hp, (le_own1 _ _ _).reps rp⟩)
end
end DL
set_option Elab.async false
set_option linter.all false
set_option maxRecDepth 100000
set_option maxHeartbeats 4000000
set_option autoImplicit false
namespace DL
open PySem PySem.Spec L2
/-! ### calls -/
/-- what a callee is entered with -/
def Ct.call (K : Fg) (g : G) (H : Hp) : Ct := ⟨K, H, g.B, g.ads⟩
def G.enter (g : G) : G := { ads := g.ads, B := g.B, T := fun _ => none, O := fun a => match g.O a with
  | some (.inr k) => some (.inr k)
  | _ => none }
def G.after (g g' : G) : G := { ads := g'.ads, B := g'.B, T := g.T, O := fun a => match g.O a with
  | some (.inl i) => some (.inl i)
  | _ => match g'.O a with
    | some (.inr k) => some (.inr k)
    | _ => none }
theorem RMO.same {K : Fg} {g g' : G} {H : Hp} {a : Addr} {m : MO} (h : RMO K g H a m) (eb : g'.B = g.B) (ea : g'.ads = g.ads) : RMO K g' H a m := by
  cases m with
  | dead => obtain ⟨o, h1⟩ := h; exact ⟨o, by rw [eb]; exact h1⟩
  | lst ds => obtain ⟨xs, h1, h2⟩ := h; exact ⟨xs, h1, by unfold GReps at *; rw [eb, ea]; exact h2⟩
  | ins C ns ds => obtain ⟨dx, xs, h1, h2, h3⟩ := h; exact ⟨dx, xs, h1, h2, by unfold GReps at *; rw [eb, ea]; exact h3⟩
  | dk ks ds => obtain ⟨xs, h1, h2, h3⟩ := h; exact ⟨xs, h1, h2, by unfold GReps at *; rw [eb, ea]; exact h3⟩
  | dt ks ds => obtain ⟨xs, h1, h2, h3⟩ := h; exact ⟨xs, h1, h2, by unfold GReps at *; rw [eb, ea]; exact h3⟩
section
variable {c : Ct} {μ μ' : Mu} {g g' : G} {σ : L2.St} {H H' : Hp} {ρ : Rho} {p : Addr}
theorem enter_O {a : Addr} {q : Sum Nat Nat} (h : g.enter.O a = some q) : ∃ k, q = .inr k ∧ g.O a = some (.inr k) := by
  unfold G.enter at h
  have h' : (match g.O a with
    | some (.inr k) => some (Sum.inr k)
    | _ => none) = some q := h
  cases e : g.O a with
  | none => rw [e] at h'; cases h'
  | some r =>
    rw [e] at h'
    cases r with
    | inl i => cases h'
    | inr k => cases h'; exact ⟨k, rfl, rfl⟩
theorem SH.ownCall (h : SH c μ g H) {a : Addr} {i : Nat} (e : g.O a = some (.inl i)) : a ∉ g.ads := fun ha => by
  obtain ⟨k, hk, ea⟩ := List.mem_iff_getElem.mp ha
  have hk2 : k < μ.length := by rw [← h.alen]; exact hk
  exact h.ambNeO e (k := k) (by rw [List.getElem?_eq_getElem hk, ea]) (List.getElem?_eq_getElem hk2) rfl
theorem SH.enter (h : SH c μ g H) : SH (Ct.call c.K g H) μ g.enter H where
  sub := h.sub
  own := fun a e => by
    cases q : g.enter.O a with
    | none => exact absurd q e
    | some r =>
      obtain ⟨k, _, q2⟩ := enter_O q
      exact h.own a (by rw [q2]; exact fun z => by cases z)
  ownNew := fun a i e => by
    obtain ⟨k, q1, _⟩ := enter_O e
    cases q1
  ownAt := fun a e => by
    cases q : g.enter.O a with
    | none => exact absurd q e
    | some r =>
      obtain ⟨k, _, q2⟩ := enter_O q
      exact h.ownAt a (by rw [q2]; exact fun z => by cases z)
  alen := h.alen
  amb := fun k a m e1 e2 => by
    obtain ⟨q1, q2⟩ := h.amb k a m e1 e2
    refine ⟨q1.imp id fun q1 => ?_, q2.same rfl rfl⟩
    show (match g.O a with
      | some (.inr k) => some (Sum.inr k)
      | _ => none) = _
    rw [q1]
  old := fun a o e _ => e
  oldT := fun a o e => ⟨o, e⟩
  newB := fun a o e => .inl e
  b0 := Same.refl _
  a0 := fun _ _ e => e
  aNew := fun a e => .inl e
  tmpT := fun a o e => by cases e
theorem le_after (l : Le g.enter g') : Le g (g.after g') := ⟨l.b, l.a, fun _ _ e => e⟩
theorem after_inl (h : SH c μ g H) {a : Addr} {i : Nat} (e : g.O a = some (.inl i)) : (g.after g').O a = some (.inl i) := by
  show (match g.O a with
    | some (.inl i) => some (Sum.inl i)
    | _ => match g'.O a with
      | some (.inr k) => some (Sum.inr k)
      | _ => none) = _
  rw [e]
theorem after_O {a : Addr} {q : Sum Nat Nat} (h : (g.after g').O a = some q) : (∃ i, q = .inl i ∧ g.O a = some (.inl i)) ∨ (∃ k, q = .inr k ∧ g'.O a = some (.inr k)) := by
  have h' : (match g.O a with
    | some (.inl i) => some (Sum.inl i)
    | _ => match g'.O a with
      | some (.inr k) => some (Sum.inr k)
      | _ => none) = some q := h
  have key : (match g'.O a with
      | some (.inr k) => some (Sum.inr k)
      | _ => (none : Option (Sum Nat Nat))) = some q → (∃ k, q = .inr k ∧ g'.O a = some (.inr k)) := by
    intro h
    cases e : g'.O a with
    | none => rw [e] at h; cases h
    | some r =>
      rw [e] at h
      cases r with
      | inl i => cases h
      | inr k => cases h; exact ⟨k, rfl, rfl⟩
  cases e : g.O a with
  | none => rw [e] at h'; exact .inr (key h')
  | some r =>
    rw [e] at h'
    cases r with
    | inl i => cases h'; exact .inl ⟨i, rfl, rfl⟩
    | inr k => exact .inr (key h')
/-- behind a call -/
theorem SH.after (h : SH c μ g H) (l : Le g.enter g') (h' : SH (Ct.call c.K g H) μ' g' H') : SH c μ' (g.after g') H' where
  sub := h'.sub
  own := fun a e => by
    cases q : (g.after g').O a with
    | none => exact absurd q e
    | some r =>
      rcases after_O q with ⟨i, _, q2⟩ | ⟨k, _, q2⟩
      · cases z : g'.B a with
        | none => exact z
        | some o =>
          rcases h'.newB a o z with w | w | w
          · have w' : g.B a = some o := w
            rw [h.own a (by rw [q2]; exact fun z => by cases z)] at w'
            cases w'
          · have w' : H a = none := w
            obtain ⟨o', e'⟩ := h.ownAt a (by rw [q2]; exact fun z => by cases z)
            rw [w'] at e'
            cases e'
          · exact absurd w (h.ownCall q2)
      · exact h'.own a (by rw [q2]; exact fun z => by cases z)
  ownNew := fun a i e => by
    rcases after_O e with ⟨i, _, q2⟩ | ⟨k, q1, _⟩
    · exact h.ownNew a i q2
    · cases q1
  ownAt := fun a e => by
    cases q : (g.after g').O a with
    | none => exact absurd q e
    | some r =>
      rcases after_O q with ⟨i, _, q2⟩ | ⟨k, _, q2⟩
      · obtain ⟨o', e'⟩ := h.ownAt a (by rw [q2]; exact fun z => by cases z)
        exact ⟨o', h'.old a o' e' (h.ownCall q2)⟩
      · exact h'.ownAt a (by rw [q2]; exact fun z => by cases z)
  alen := h'.alen
  amb := fun k a m e1 e2 => by
    obtain ⟨q1, q2⟩ := h'.amb k a m e1 e2
    refine ⟨q1.imp id fun q1 => ?_, q2.same rfl rfl⟩
    have n : ∀ i, g.O a ≠ some (.inl i) := fun i z => by
      have ha : a ∈ g'.ads := List.mem_of_getElem? e1
      rcases h'.aNew a ha with w | w
      · exact h.ownCall z w
      · have w' : H a = none := w
        obtain ⟨o', e'⟩ := h.ownAt a (by rw [z]; exact fun z => by cases z)
        rw [w'] at e'
        cases e'
    show (match g.O a with
      | some (.inl i) => some (Sum.inl i)
      | _ => match g'.O a with
        | some (.inr k) => some (Sum.inr k)
        | _ => none) = _
    cases e : g.O a with
    | none => simp only [q1]
    | some r =>
      cases r with
      | inl i => exact absurd e (n i)
      | inr k' => simp only [q1]
  old := fun a o e n => by
    refine h'.old a o (h.old a o e n) fun z => ?_
    rcases h.aNew a z with w | w
    · exact n w
    · rw [w] at e
      cases e
  oldT := fun a o e => by
    obtain ⟨o', e'⟩ := h.oldT a o e
    exact h'.oldT a o' e'
  newB := fun a o e => by
    rcases h'.newB a o e with w | w | w
    · exact h.newB a o w
    · right; left
      exact h.fresh0 w
    · rcases h.aNew a w with w | w
      · exact .inr (.inr w)
      · exact .inr (.inl w)
  b0 := fun a o e => l.b a o (h.b0 a o e)
  a0 := fun k a e => l.a k a (h.a0 k a e)
  aNew := fun a e => by
    rcases h'.aNew a e with w | w
    · exact h.aNew a w
    · right
      exact h.fresh0 w
  tmpT := fun a o e => by
    obtain ⟨q1, q2⟩ := h.tmpT a o e
    exact ⟨after_inl h q1, h'.old a o q2 (h.ownCall q1)⟩
theorem SR.after (h : SR c ρ μ g σ H) (l : Le g.enter g') (h' : SH (Ct.call c.K g H) μ' g' H') : SR c ρ μ' (g.after g') σ H' :=
  { h.toSH.after l h' with
    slen := h.slen
    slot := fun i s x e1 e2 => (h.slot i s x e1 e2).step (le_after l) fun p e => ⟨after_inl h.toSH e, by
      obtain ⟨o', e'⟩ := h.ownAt p (by rw [e]; exact fun z => by cases z)
      rw [e']
      exact h'.old p o' e' (h.ownCall e)⟩ }
end
/-! ### what a def promises -/
def spD (K : Fg) (n : Nat) (F : List D → M D) : Sp := fun vs H Q E => ∃ ds μ g r μ', ds.length = n ∧ SH (Ct.call K g H) μ g H ∧ GReps K g ds vs ∧ F ds μ = some (r, μ') ∧
  (∀ d, r = .ok d → ∀ v H' g', Le g g' → SH (Ct.call K g H) μ' g' H' → GRep K g' d v → Q v H') ∧
  (∀ C ns es, r = .ex C ns es → ∀ d H' g', Le g g' → SH (Ct.call K g H) μ' g' H' → ExAt K g' H' d ns es → E (.ref C) d H')
/-- a def of the module, by its name -/
structure Known (P : Program) (w : World) (K : Fg) (mg : Str → Option Value) (base : Heap) (x : Str) (k n : Nat) (F : List D → M D) : Prop where
  ex : ∃ f fd ps, mg x = some (.ref f) ∧ PySem.W.keepIn K (.ref f) = true ∧ Binds K fd ps [] ∧ ps.length = n ∧ FnOk P w K mg base (L2.CX P w) k f fd ps (spD K n F)
section
variable {X : Cx} {W : WX} {x : Str} {k n : Nat} {F : List D → M D} {p pos : Pos} {e : Expr} {es : List Expr} {tl : TL}
def dCall (F : List D → M D) (n : Nat) (t : TL) : TD := fun ρ => M.bind (t ρ) fun ds => if ds.length = n then F ds else M.stuck
theorem de_call (hk : Known X.prog X.w X.K X.mg X.base x k n F) (hr : Room k X.A) (tk : Takes X W) (ha : DA X W (e :: es) tl) (hg : Gl X x := by rfl)
    (hdb : (x == ("__debug__" : Str)) = false := by decide) (he : starEach (e :: es) X.env = (false, eval e X.env) :: starEach es X.env := by rfl) (hpl : (backTo pos (starEach es X.env)).any (·.1) = false := by rfl) :
    DE X W (.Call (.Name x p) (e :: es) [] pos) (dCall F n tl) := by
  obtain ⟨f, fd, ps, h1, h2, h3, h4, h5⟩ := hk.ex
  obtain ⟨te, pa, ra⟩ := ha.ex
  refine ⟨_, pe_callS h5 hr hg h1 h2 h3 (fun σ => passAt tk σ) pa hdb he hpl, fun c hc ρ μ g σ H Q rr μ' s hh hx k => ?_⟩
  refine (ra c hc).then_ s hh hx fun ds μ1 e1 vs H1 g1 l1 s1 r1 hx1 => ?_
  by_cases q : ds.length = n
  · rw [if_pos q] at e1
    rw [← hc]
    refine ⟨ds, μ1, g1.enter, rr, μ', q, s1.toSH.enter, r1, e1, fun d ed v H' g' l' s' rp => ?_, fun C ns es ed d H' g' l' s' xx => ?_⟩
    · exact k d ed v H' _ (l1.trans (le_after l')) (s1.after l' s') rp
    · refine hx1 C ns es ed d H' _ (le_after l') (s1.after l' s') ?_
      cases d with
      | none => exact xx
      | some d => exact xx
  · rw [if_neg q] at e1
    cases e1
/-- a call without arguments, of a def that raises nothing -/
theorem de_call0 (hk : Known X.prog X.w X.K X.mg X.base x k 0 F) (hr : Room k X.A) (hF : ∀ μ C ns ds μ', F [] μ ≠ some (.ex C ns ds, μ')) (hg : Gl X x := by rfl)
    (hdb : (x == ("__debug__" : Str)) = false := by decide) : DE X W (.Call (.Name x p) [] [] pos) (dCall F 0 dNil) := by
  obtain ⟨f, fd, ps, h1, h2, h3, h4, h5⟩ := hk.ex
  refine ⟨_, pe_call0 h5 hr hg h1 h2 h3 .nil passL hdb, fun c hc ρ μ g σ H Q rr μ' s hh hx k => ?_⟩
  have hh' : F [] μ = some (rr, μ') := hh
  show spD X.K 0 F ([] ++ []) H Q E0
  rw [← hc]
  refine ⟨[], μ, g.enter, rr, μ', rfl, s.toSH.enter, reps_nil, hh', fun d ed v H' g' l' s' rp => ?_, fun C ns es ed d H' g' l' s' xx => ?_⟩
  · exact k d ed v H' _ (le_after l') (s.after l' s') rp
  · rw [ed] at hh'
    exact absurd hh' (hF _ _ _ _ _)
end
/-! ### a def by its body -/
def initR (N : Nat) (ds : List D) : Rho := ds.map (fun d => some (.sh d)) ++ List.replicate (N - ds.length) none
def runF (N : Nat) (t : TO') : List D → M D := fun ds μ => match t (initR N ds) μ with
  | some (.nx _, μ') => some (.ok .non, μ')
  | some (.rt d, μ') => some (.ok d, μ')
  | some (.ex _ C ns es, μ') => some (.ex C ns es, μ')
  | _ => none
theorem init_slots {K : Fg} {g : G} {H : Hp} : ∀ {ds : List D} {vs : List V} {i : Nat} {s : Option Sl} {x : Option V}, GReps K g ds vs → (ds.map fun d => some (Sl.sh d))[i]? = some s → (vs.map some)[i]? = some x → RSl K g H i s x := by
  intro ds vs i s x h e1 e2
  rw [List.getElem?_map] at e1 e2
  cases q : ds[i]? with
  | none => rw [q] at e1; cases e1
  | some d =>
    rw [q] at e1
    cases e1
    obtain ⟨v, h1, h2⟩ := Reps.get h q
    rw [h1] at e2
    cases e2
    exact ⟨v, rfl, h2⟩
theorem init_SR {K : Fg} {g : G} {H : Hp} {μ : Mu} {N : List Str} {ds : List D} {vs : List V} (s : SH (Ct.call K g H) μ g H) (r : GReps K g ds vs) : SR (Ct.call K g H) (initR N.length ds) μ g (L2.start N vs) H :=
  { s with
    slen := by
      unfold initR L2.start
      rw [List.length_append, List.length_append, List.length_map, List.length_map, List.length_replicate, List.length_replicate, r.length]
    slot := fun i s x e1 e2 => by
      unfold initR at e1
      unfold L2.start at e2
      have hl := r.length
      by_cases q : i < ds.length
      · rw [List.getElem?_append_left (by rw [List.length_map]; exact q)] at e1
        rw [List.getElem?_append_left (by rw [List.length_map, ← hl]; exact q)] at e2
        exact init_slots r e1 e2
      · rw [List.getElem?_append_right (by rw [List.length_map]; omega)] at e1
        have e3 := List.mem_of_getElem? e1
        rw [List.mem_replicate] at e3
        rw [e3.2]
        trivial }
section
variable {P : Program} {w : World} {K : Fg} {mg : Str → Option Value} {base : Heap}
abbrev XB (P : Program) (w : World) (K : Fg) (mg : Str → Option Value) (base : Heap) (N : List Str) (qual : Str) (st : Stmt) (f : Addr) (cdv : Value) (A : Around) (outer : List Env) (s : Shared) (H : Hp) (E : XK) : Cx :=
  cxOf (L2.CX P w) P w K mg base N qual (defScope st) f cdv A outer s H E
abbrev WB (E : XK) : WX := fun cls d _ H => E cls d H
theorem fnOk_of {qual x : Str} {st : Stmt} {f : Addr} {fd : FuncData} {N ps : List Str} {k n : Nat} {t : TO'} (F : Fun K x qual st f fd) (S : FnScope N ps (defScope st)) (hn : ps.length = n)
    (body : ∀ cdv A outer s H E, Room k (XB P w K mg base N qual st f cdv A outer s H E).A → DSs (XB P w K mg base N qual st f cdv A outer s H E) (WB E) (defBody st) t) :
    FnOk P w K mg base (L2.CX P w) (k + 1) f fd ps (spD K n (runF N.length t)) := by
  refine F.okX S (fun vs H Q E h => ?_) (fun cdv A outer s H vs Q E hr h => ?_)
  · obtain ⟨ds, μ, g, r, μ', hl, _, hv, _⟩ := h
    rw [← hv.length, hl, hn]
  · obtain ⟨ds, μ, g, r, μ', hl, hs, hv, hF, hQ, hE⟩ := h
    obtain ⟨ts, p, q⟩ := (body cdv A outer s H E hr).ex
    refine ⟨ts, p, ?_⟩
    unfold runF at hF
    have s0 : SR (Ct.call K g H) (initR N.length ds) μ g (L2.start N vs) H := init_SR hs hv
    cases e : t (initR N.length ds) μ with
    | none => rw [e] at hF; cases hF
    | some o =>
      obtain ⟨o, μ1⟩ := o
      rw [e] at hF
      refine q (Ct.call K g H) rfl _ μ g _ H _ o μ1 s0 e ?_
      cases o with
      | nx ρ' =>
        cases hF
        exact fun σ' H' g' l s' => hQ _ rfl .non H' g' l s'.toSH (flat_rep rfl)
      | rt d =>
        cases hF
        exact fun v H' g' l s' rp => hQ _ rfl v H' g' l s' rp
      | bk ρ' => cases hF
      | ct ρ' => cases hF
      | ex ρ' C ns es =>
        cases hF
        exact fun d σ' H' g' l s' xx => hE C ns es rfl d H' g' l s'.toSH xx
theorem known_of {x : Str} {st : Stmt} {f : Addr} {fd : FuncData} {N ps : List Str} {k n : Nat} {t : TO'} (F : Fun K x x st f fd) (S : FnScope N ps (defScope st)) (hm : mg x = some (.ref f)) (hb : Binds K fd ps []) (hn : ps.length = n)
    (body : ∀ cdv A outer s H E, Room k (XB P w K mg base N x st f cdv A outer s H E).A → DSs (XB P w K mg base N x st f cdv A outer s H E) (WB E) (defBody st) t) :
    Known P w K mg base x (k + 1) n (runF N.length t) := ⟨f, fd, ps, hm, F.kp, hb, hn, fnOk_of F S hn body⟩
end
/-! ### x.append(e), x the def's own -/
section
variable {X : Cx} {W : WX} {e : Expr} {t : TD} {pos : Pos}
def dsApp (i : Nat) (t : TD) : TO' := fun ρ μ => match ρ[i]? with
  | some (some (.ol ds)) => dsE t (fun d ρ μ => if ds.length < sizeLine then some (.nx (ρ.set i (some (.ol (ds ++ [d])))), μ) else none) ρ μ
  | _ => none
theorem own_some {α : Type} {ρ : Rho} {i : Nat} {f : List D → Option α} {r : α} (h : (match ρ[i]? with
  | some (some (.ol ds)) => f ds
  | _ => none) = some r) : ∃ ds, ρ[i]? = some (some (.ol ds)) ∧ f ds = some r := by
  cases q : ρ[i]? with
  | none => rw [q] at h; cases h
  | some s =>
    rw [q] at h
    cases s with
    | none => cases h
    | some s =>
      cases s with
      | ol ds => exact ⟨ds, rfl, h⟩
      | _ => cases h
theorem ds_app {i : Nat} {x : Str} {p1 apos cpos : Pos} (he : DE X W e t)
    (hpe : ∀ te, PE X e te → PE X (.Call (.Attribute (.Name x p1) "append" apos) [e] [] cpos) (tBM X.K "list" rAppend (tVar i) (tCons te tNil)) := by
      intro te p; exact pe_bm PySem.F.plainAttrs_list PySem.F.slot_list_append PySem.F.type_list_append mt_append (pv _) (pa_cons p pa_nil))
    (hs : swapsWith (.Call (.Attribute (.Name x p1) "append" apos) [e] [] cpos) none pos.line X.env = pure false := by rfl) :
    DS X W (.Expr (.Call (.Attribute (.Name x p1) "append" apos) [e] [] cpos) pos) (dsApp i t) := by
  obtain ⟨te, p, r⟩ := he.ex
  refine ⟨_, ps_expr (hpe te p) hs, fun c hc ρ μ g σ H D₀ o μ' s h k => ?_⟩
  obtain ⟨ds, e1, h⟩ := own_some h
  obtain ⟨xv, hx, q, xs, rfl, h2, h3, h4⟩ := s.at e1
  refine ⟨_, hx, ?_, ?_⟩
  · exact .inl ⟨rfl, xs, SqL.of h3⟩
  refine (r c hc).stm s h k fun d μ1 h1 v H1 g1 l1 s1 rp k1 => ?_
  obtain ⟨xv', hx', q', xs', e', h2', h3', h4'⟩ := s1.at e1
  rw [hx] at hx'
  cases hx'
  cases e'
  by_cases z : ds.length < sizeLine
  · rw [if_pos z] at h1
    cases h1
    refine ⟨q, xs', v, rfl, rfl, h3', by rw [← h4'.length]; exact z, ?_⟩
    refine k1 σ _ g1 (Le.refl _) (s1.wrt h2' hx ⟨q, _, rfl, h2', upd_same, Reps.append h4' (reps_cons rp reps_nil)⟩)
  · rw [if_neg z] at h1
    cases h1
end
end DL
set_option Elab.async false
set_option linter.all false
set_option maxRecDepth 100000
set_option maxHeartbeats 4000000
set_option autoImplicit false
namespace DL
open PySem PySem.Spec L2
/-! ### targets -/
/-- off the slots is nothing changes -/
def Off {α : Type} (is : List Nat) (l l' : List α) : Prop := l'.length = l.length ∧ ∀ j, j ∉ is → l'[j]? = l[j]?
theorem Off.refl {α : Type} (is : List Nat) (l : List α) : Off is l l := ⟨rfl, fun _ _ => rfl⟩
theorem Off.trans {α : Type} {is js ks : List Nat} {l l' l'' : List α} (a : Off is l l') (b : Off js l' l'') (h1 : ∀ j ∈ is, j ∈ ks) (h2 : ∀ j ∈ js, j ∈ ks) : Off ks l l'' :=
  ⟨b.1.trans a.1, fun j h => (b.2 j fun z => h (h2 j z)).trans (a.2 j fun z => h (h1 j z))⟩
theorem off_set {α : Type} {l : List α} {i : Nat} {x : α} : Off [i] l (l.set i x) := ⟨List.length_set .., fun j h => by
  rw [List.getElem?_set_ne]
  exact fun z => h (by rw [z]; exact List.mem_singleton.mpr rfl)⟩
structure DG (X : Cx) (tg : Expr) (is : List Nat) (gt : D → Rho → Option Rho) : Prop where
  ex : ∃ g, PG X tg g ∧ ∀ c : Ct, c.K = X.K → ∀ ρ ρ' μ gh σ H d v (Q : L2.St → Hp → Prop), SR c ρ μ gh σ H → GRep c.K gh d v → gt d ρ = some ρ' → (∀ σ', SR c ρ' μ gh σ' H → Off is σ σ' → Q σ' H) → g v σ H Q
  off : ∀ d ρ ρ', gt d ρ = some ρ' → Off is ρ ρ'
structure DGs (X : Cx) (tgs : List Expr) (is : List Nat) (gt : List D → Rho → Option Rho) : Prop where
  ex : ∃ g, PGs X tgs g ∧ ∀ c : Ct, c.K = X.K → ∀ ρ ρ' μ gh σ H ds vs (Q : L2.St → Hp → Prop), SR c ρ μ gh σ H → GReps c.K gh ds vs → gt ds ρ = some ρ' → (∀ σ', SR c ρ' μ gh σ' H → Off is σ σ' → Q σ' H) → g vs σ H Q
  off : ∀ d ρ ρ', gt d ρ = some ρ' → Off is ρ ρ'
section
variable {X : Cx} {tg : Expr} {tgs : List Expr} {is js : List Nat}
def gtName (i : Nat) : D → Rho → Option Rho := fun d ρ => some (ρ.set i (some (.sh d)))
theorem dg_name (i : Nat) {x : Str} {pos : Pos} (hN : X.N.Nodup) (hi : X.N[i]? = some x := by rfl) (hx : Loc X.env.scope x := by first | exact Or.inl rfl | exact Or.inr rfl) (hf : X.fn x = true ∨ X.env.scope.names.lookup x = some .local := by first | exact .inl rfl | exact .inr rfl) : DG X (.Name x pos) [i] (gtName i) where
  ex := ⟨_, pg_name hN hi hx hf, fun c hc ρ ρ' μ gh σ H d v Q s r e k => by
    cases e
    exact k _ (s.setSh i r) off_set⟩
  off := fun d ρ ρ' e => by
    cases e
    exact off_set
def gtNil : List D → Rho → Option Rho := fun ds ρ => match ds with
  | [] => some ρ
  | _ => none
def gtCons (t : D → Rho → Option Rho) (u : List D → Rho → Option Rho) : List D → Rho → Option Rho := fun ds ρ => match ds with
  | [] => none
  | d :: ds => match t d ρ with
    | none => none
    | some ρ' => u ds ρ'
theorem dgs_nil : DGs X [] [] gtNil where
  ex := ⟨_, pgs_nil, fun c hc ρ ρ' μ gh σ H ds vs Q s r e k => by
    cases ds with
    | nil =>
      cases e
      exact ⟨reps_nil_inv r, k σ s (Off.refl _ _)⟩
    | cons d ds => cases e⟩
  off := fun ds ρ ρ' e => by
    cases ds with
    | nil => cases e; exact Off.refl _ _
    | cons d ds => cases e
theorem gtCons_some {t : D → Rho → Option Rho} {u : List D → Rho → Option Rho} {ds : List D} {ρ ρ' : Rho} (e : gtCons t u ds ρ = some ρ') : ∃ d dr ρ1, ds = d :: dr ∧ t d ρ = some ρ1 ∧ u dr ρ1 = some ρ' := by
  cases ds with
  | nil => cases e
  | cons d ds =>
    have e' : (match t d ρ with
      | none => none
      | some ρ' => u ds ρ') = some ρ' := e
    cases q : t d ρ with
    | none => rw [q] at e'; cases e'
    | some ρ1 =>
      rw [q] at e'
      exact ⟨d, ds, ρ1, rfl, q, e'⟩
theorem dgs_cons {t : D → Rho → Option Rho} {u : List D → Rho → Option Rho} (h1 : DG X tg is t) (h2 : DGs X tgs js u)
    (hs : (assignEach (tg :: tgs) X.env).map (·.2) = assign tg X.env :: (assignEach tgs X.env).map (·.2) := by rfl) : DGs X (tg :: tgs) (is ++ js) (gtCons t u) where
  ex := by
    obtain ⟨g1, p1, r1⟩ := h1.ex
    obtain ⟨g2, p2, r2⟩ := h2.ex
    refine ⟨_, pgs_cons p1 p2 hs, fun c hc ρ ρ' μ gh σ H ds vs Q s r e k => ?_⟩
    obtain ⟨d, dr, ρ1, rfl, q, e'⟩ := gtCons_some e
    obtain ⟨v, vr, rfl, hv, hr⟩ := reps_cons_inv r
    exact ⟨v, vr, rfl, r1 c hc ρ ρ1 μ gh σ H d v _ s hv q fun σ1 s1 o1 => r2 c hc ρ1 ρ' μ gh σ1 H dr vr Q s1 hr e' fun σ2 s2 o2 =>
      k σ2 s2 (o1.trans o2 (fun j z => List.mem_append_left _ z) (fun j z => List.mem_append_right _ z))⟩
  off := fun ds ρ ρ' e => by
    obtain ⟨d, dr, ρ1, rfl, q, e'⟩ := gtCons_some e
    exact (h1.off _ _ _ q).trans (h2.off _ _ _ e') (fun j z => List.mem_append_left _ z) (fun j z => List.mem_append_right _ z)
def gtTup (n : Nat) (u : List D → Rho → Option Rho) : D → Rho → Option Rho := fun d ρ => match d with
  | .tup ds => if ds.length = n then u ds ρ else none
  | _ => none
theorem gtTup_some {n : Nat} {u : List D → Rho → Option Rho} {d : D} {ρ ρ' : Rho} (e : gtTup n u d ρ = some ρ') : ∃ ds, d = .tup ds ∧ ds.length = n ∧ u ds ρ = some ρ' := by
  cases d with
  | tup ds =>
    have e' : (if ds.length = n then u ds ρ else none) = some ρ' := e
    by_cases q : ds.length = n
    · rw [if_pos q] at e'
      exact ⟨ds, rfl, q, e'⟩
    · rw [if_neg q] at e'
      cases e'
  | _ => cases e
theorem dg_tup {k0 n : Nat} {pos : Pos} {u : List D → Rho → Option Rho} (hc : X.calm = true) (h : DGs X tgs is u)
    (hn : (assignEach tgs X.env).length = n := by rfl) (hst : (assignEach tgs X.env).findIdx? (·.1) = none := by rfl) : DG X (.Tuple tgs k0 pos) is (gtTup n u) where
  ex := by
    obtain ⟨g1, p1, r1⟩ := h.ex
    refine ⟨_, pg_tup hc p1 hn hst, fun c hc ρ ρ' μ gh σ H d v Q s r e k => ?_⟩
    obtain ⟨ds, rfl, q, e'⟩ := gtTup_some e
    unfold GRep Rep at r
    obtain ⟨a, xs, rfl, h1, h2⟩ := r
    exact ⟨a, xs, rfl, SqT.of (s.sub _ _ h1), by rw [← h2.length]; exact q, r1 c hc ρ ρ' μ gh σ H ds xs Q s h2 e' k⟩
  off := fun d ρ ρ' e => by
    obtain ⟨ds, rfl, q, e'⟩ := gtTup_some e
    exact h.off _ _ _ e'
end
/-! ### what is walked -/
/-- J yields the items ds, from the ghost state g0 on -/
def ItOk (c : Ct) (g0 : G) (J : It) (ds : List D) : Prop := ∀ ρ μ g σ H, Le g0 g → SR c ρ μ g σ H →
  (∀ i d, ds[i]? = some d → J.go i H ∧ ∀ x H', J.yld i H x H' → ∃ g', Le g g' ∧ SR c ρ μ g' σ H' ∧ GRep c.K g' d x ∧ ∀ p, H' p = none → H p = none) ∧ J.stop ds.length H
def RI (c : Ct) (W : WX) (wi : TI) (t : TL) : Prop := ∀ ρ μ g σ H R r μ', SR c ρ μ g σ H → t ρ μ = some (r, μ') → PX c W ρ σ g r μ' →
  (∀ ds, r = .ok ds → ∀ J H' g', Le g g' → SR c ρ μ' g' σ H' → ItOk c g' J ds → R J H') → wi σ H R
structure DI (X : Cx) (W : WX) (tg iter : Expr) (t : TL) : Prop where
  ex : ∃ wi, PI X tg iter wi ∧ ∀ c : Ct, c.K = X.K → RI c W wi t
section
variable {X : Cx} {W : WX} {tg e a b : Expr} {t : TD} {pos : Pos}
def dIterL (t : TD) : TL := fun ρ => M.bind (t ρ) fun d => match d with
  | .lst ds => M.ret ds
  | .rd ds => M.ret ds
  | _ => M.stuck
def dIterT (t : TD) : TL := fun ρ => M.bind (t ρ) fun d => match d with
  | .tup ds => M.ret ds
  | _ => M.stuck
theorem itOk_list {c : Ct} {g0 : G} {a : Addr} {xs : List V} {ds : List D} (h1 : SqL c.K g0.B a xs) (h2 : GReps c.K g0 ds xs) : ItOk c g0 (Itl c.K a) ds := fun ρ μ g σ H l s => by
  have hs : SqL c.K H a xs := sqL_mono (sqL_mono h1 l.b) s.sub
  refine ⟨fun i d e => ?_, ⟨xs, hs, by rw [h2.length]; exact Nat.le_refl _⟩⟩
  obtain ⟨x, hx, rx⟩ := h2.get e
  refine ⟨⟨xs, x, hs, hx⟩, fun y H' hy => ?_⟩
  obtain ⟨rfl, hy⟩ := hy
  have e2 := hy xs hs
  rw [hx] at e2
  cases e2
  exact ⟨g, Le.refl g, s, l.rep rx, fun p q => q⟩
theorem itOk_tup {c : Ct} {g0 : G} {a : Addr} {xs : List V} {ds : List D} (h1 : SqT c.K g0.B a xs) (h2 : GReps c.K g0 ds xs) : ItOk c g0 (Itt c.K a) ds := fun ρ μ g σ H l s => by
  have hs : SqT c.K H a xs := sqT_mono (sqT_mono h1 l.b) s.sub
  refine ⟨fun i d e => ?_, ⟨xs, hs, by rw [h2.length]; exact Nat.le_refl _⟩⟩
  obtain ⟨x, hx, rx⟩ := h2.get e
  refine ⟨⟨xs, x, hs, hx⟩, fun y H' hy => ?_⟩
  obtain ⟨rfl, hy⟩ := hy
  have e2 := hy xs hs
  rw [hx] at e2
  cases e2
  exact ⟨g, Le.refl g, s, l.rep rx, fun p q => q⟩
theorem di_list (h : DE X W e t) : DI X W tg e (dIterL t) := by
  obtain ⟨te, p, r⟩ := h.ex
  refine ⟨_, pi_list p, fun c hc ρ μ g σ H R rr μ' s hh hx k => ?_⟩
  refine (r c hc).then_ s hh hx fun x μ1 h1 v1 H1 g1 l1 s1 r1 hx1 => ?_
  cases x with
  | lst ds =>
    obtain ⟨rfl, rfl⟩ := ret_some h1
    unfold GRep Rep at r1
    obtain ⟨a, xs, rfl, q1, q2⟩ := r1
    refine ⟨a, rfl, ⟨xs, SqL.of (s1.sub _ _ q1)⟩, ?_⟩
    rw [← hc]
    exact k ds rfl _ H1 g1 l1 s1 (itOk_list (SqL.of q1) q2)
  | rd ds =>
    obtain ⟨rfl, rfl⟩ := ret_some h1
    unfold GRep Rep at r1
    obtain ⟨a, xs, rfl, q1, q2⟩ := r1
    rw [← hc]
    refine ⟨a, rfl, ⟨xs, sqL_mono q1 s1.sub⟩, ?_⟩
    exact k ds rfl _ H1 g1 l1 s1 (itOk_list q1 q2)
  | _ => cases h1
theorem di_tup (h : DE X W e t) : DI X W tg e (dIterT t) := by
  obtain ⟨te, p, r⟩ := h.ex
  refine ⟨_, pi_tup p, fun c hc ρ μ g σ H R rr μ' s hh hx k => ?_⟩
  refine (r c hc).then_ s hh hx fun x μ1 h1 v1 H1 g1 l1 s1 r1 hx1 => ?_
  cases x with
  | tup ds =>
    obtain ⟨rfl, rfl⟩ := ret_some h1
    unfold GRep Rep at r1
    obtain ⟨a, xs, rfl, q1, q2⟩ := r1
    rw [← hc]
    refine ⟨a, rfl, ⟨xs, SqT.of (s1.sub _ _ q1)⟩, ?_⟩
    exact k ds rfl _ H1 g1 l1 s1 (itOk_tup (SqT.of q1) q2)
  | _ => cases h1
/-- range(n), range(a, b) -/
def rangeD (lo : Int) (n : Nat) : List D := (List.range n).map fun i => D.int (lo + (i : Nat))
def dRng1 (t : TD) : TL := fun ρ => M.bind (t ρ) fun d => match d with
  | .int j => if -(2 ^ 62) ≤ j ∧ j < 2 ^ 62 then M.ret (rangeD 0 j.toNat) else M.stuck
  | _ => M.stuck
def dRng2 (t u : TD) : TL := fun ρ => M.bind (t ρ) fun d => M.bind (u ρ) fun e => match d, e with
  | .int i, .int j => if -(2 ^ 62) ≤ i ∧ i < 2 ^ 62 ∧ -(2 ^ 62) ≤ j ∧ j < 2 ^ 62 then M.ret (rangeD i (j - i).toNat) else M.stuck
  | _, _ => M.stuck
theorem itOk_rng {c : Ct} {g0 : G} (lo : Int) (n : Nat) : ItOk c g0 (Itr lo n) (rangeD lo n) := fun ρ μ g σ H l s => by
  have hl : (rangeD lo n).length = n := by unfold rangeD; rw [List.length_map, List.length_range]
  refine ⟨fun i d e => ?_, by show n ≤ _; rw [hl]; exact Nat.le_refl _⟩
  have hi : i < n := by rw [← hl]; exact (List.getElem?_eq_some_iff.mp e).1
  unfold rangeD at e
  rw [List.getElem?_map, List.getElem?_range hi] at e
  cases e
  refine ⟨hi, fun y H' hy => ?_⟩
  obtain ⟨rfl, rfl⟩ := hy
  exact ⟨g, Le.refl g, s, flat_rep rfl, fun p q => q⟩
theorem di_rng1 {p : Pos} (h : DE X W a t) (hm : X.mg "range" = none) (hg : Gl X "range" := by rfl) (hs : starEach [a] X.env = [(false, eval a X.env)] := by rfl) : DI X W tg (.Call (.Name "range" p) [a] [] pos) (dRng1 t) := by
  obtain ⟨te, p, r⟩ := h.ex
  refine ⟨_, pi_range1 hg hm (pa_cons p pa_nil hs) hs, fun c hc ρ μ g σ H R rr μ' s hh hx k => ?_⟩
  refine (r c hc).then_ s hh hx fun x μ1 h1 v1 H1 g1 l1 s1 r1 hx1 => ?_
  cases x with
  | int j =>
    have h1' : (if -(2 ^ 62) ≤ j ∧ j < 2 ^ 62 then M.ret (rangeD 0 j.toNat) else M.stuck) μ1 = some (rr, μ') := h1
    by_cases q : -(2 ^ 62) ≤ j ∧ j < 2 ^ 62
    · rw [if_pos q] at h1'
      obtain ⟨rfl, rfl⟩ := ret_some h1'
      have e := rep_int r1
      subst e
      exact ⟨j, rfl, q.1, q.2, k _ rfl _ H1 g1 l1 s1 (itOk_rng 0 _)⟩
    · rw [if_neg q] at h1'
      cases h1'
  | _ => cases h1
theorem di_rng2 {p : Pos} {u : TD} (h : DE X W a t) (h' : DE X W b u) (hm : X.mg "range" = none) (hg : Gl X "range" := by rfl) (hs : starEach [a, b] X.env = [(false, eval a X.env), (false, eval b X.env)] := by rfl) (hs2 : starEach [b] X.env = [(false, eval b X.env)] := by rfl) :
    DI X W tg (.Call (.Name "range" p) [a, b] [] pos) (dRng2 t u) := by
  obtain ⟨te, p, r⟩ := h.ex
  obtain ⟨ue, pu, ru⟩ := h'.ex
  refine ⟨_, pi_range2 hg hm (pa_cons p (pa_cons pu pa_nil hs2) (by rw [hs, hs2])) hs hs2, fun c hc ρ μ g σ H R rr μ' s hh hx k => ?_⟩
  refine (r c hc).then_ s hh hx fun x μ1 h1 v1 H1 g1 l1 s1 r1 hx1 => ?_
  refine (ru c hc).then_ s1 h1 hx1 fun y μ2 h2 v2 H2 g2 l2 s2 r2 hx2 => ?_
  cases x <;> cases y <;> first | (cases h2; done) | skip
  rename_i i j
  have h2' : (if -(2 ^ 62) ≤ i ∧ i < 2 ^ 62 ∧ -(2 ^ 62) ≤ j ∧ j < 2 ^ 62 then M.ret (rangeD i (j - i).toNat) else M.stuck) μ2 = some (rr, μ') := h2
  by_cases q : -(2 ^ 62) ≤ i ∧ i < 2 ^ 62 ∧ -(2 ^ 62) ≤ j ∧ j < 2 ^ 62
  · rw [if_pos q] at h2'
    obtain ⟨rfl, rfl⟩ := ret_some h2'
    have e := rep_int r1
    have e' := rep_int r2
    subst e e'
    exact ⟨i, j, rfl, q, k _ rfl _ H2 g2 (l1.trans l2) s2 (itOk_rng i _)⟩
  · rw [if_neg q] at h2'
    cases h2'
end
/-! ### for -/
def forL (gt : D → Rho → Option Rho) (tb : TO') : List D → TO'
  | [], ρ, μ => some (.nx ρ, μ)
  | d :: ds, ρ, μ => match gt d ρ with
    | none => none
    | some ρ1 => match tb ρ1 μ with
      | none => none
      | some (.nx ρ', μ') => forL gt tb ds ρ' μ'
      | some (.ct ρ', μ') => forL gt tb ds ρ' μ'
      | some (.bk ρ', μ') => some (.nx ρ', μ')
      | some (.rt d, μ') => some (.rt d, μ')
      | some (.ex ρ' C ns es, μ') => some (.ex ρ' C ns es, μ')
def dsFor (tl : TL) (gt : D → Rho → Option Rho) (tb : TO') : TO' := dsE tl fun ds ρ μ => forL gt tb ds ρ μ
section
variable {X : Cx} {W : WX} {tg iter : Expr} {body : List Stmt} {tl : TL} {gt : D → Rho → Option Rho} {tb : TO'} {pos : Pos}
theorem RI.stm {c : Ct} {ρ : Rho} {μ μ' : Mu} {g : G} {σ : L2.St} {H : Hp} {o : Out} {D₀ : Ends} {wi : TI} {t : TL} (ht : RI c W wi t) {f : List D → Rho → Mu → Option (Out × Mu)} {R : It → Hp → Prop} (s : SR c ρ μ g σ H) (h : dsE t f ρ μ = some (o, μ')) (hx : PS' c W g o μ' D₀)
    (k : ∀ d μ1, f d ρ μ1 = some (o, μ') → ∀ J H1 g1, Le g g1 → SR c ρ μ1 g1 σ H1 → ItOk c g1 J d → PS' c W g1 o μ' D₀ → R J H1) : wi σ H R := by
  rcases dsE_some h with ⟨a, μ1, e1, e2⟩ | ⟨C, ns, ds, e1, rfl⟩
  · exact ht ρ μ g σ H R _ _ s e1 px_ok fun d e J H' g' l s' rp => by
      cases e
      exact k a μ1 e2 J H' g' l s' rp (hx.le l)
  · exact ht ρ μ g σ H R _ _ s e1 (px_of hx) fun d e => by cases e
theorem drop_cons {α : Type} {l : List α} {i : Nat} {d : α} {r : List α} (h : l.drop i = d :: r) : l[i]? = some d ∧ l.drop (i + 1) = r := by
  have e : (l.drop i)[0]? = some d := by rw [h]; rfl
  rw [List.getElem?_drop] at e
  refine ⟨by simpa using e, ?_⟩
  have e2 : (l.drop i).drop 1 = r := by rw [h]; rfl
  rw [List.drop_drop] at e2
  exact e2
theorem ds_for (hp : PassesOwn (model X.prog X.w) X.A X.env X.xe) (hc : X.calm = true) (hi : DI X W tg iter tl) {is : List Nat} (hg : DG X tg is gt) (hb : DSs X W body tb) (hs : ∀ x, foldedSetIterable iter X.env x = pure x := by intro _; rfl) :
    DS X W (.For tg iter body [] pos) (dsFor tl gt tb) := by
  obtain ⟨wi, p1, r1⟩ := hi.ex
  obtain ⟨g0, p2, r2⟩ := hg.ex
  obtain ⟨tbs, p3, r3⟩ := hb.ex
  refine ⟨_, ps_for hp hc p1 p2 p3 hs, fun c hc ρ μ g σ H D₀ o μ' s h k => ?_⟩
  refine (r1 c hc).stm s h k fun ds μ1 h1 J H1 g1 l1 s1 iok k1 => ?_
  refine ⟨fun i m σ H => m = ds.length - i ∧ i ≤ ds.length ∧ ∃ ρ μ g, Le g1 g ∧ SR c ρ μ g σ H ∧ forL gt tb (ds.drop i) ρ μ = some (o, μ'), ⟨_, rfl, Nat.zero_le _, ρ, μ1, g1, Le.refl _, s1, h1⟩, ?_⟩
  rintro i m σ H ⟨rfl, hi, ρ, μ, g, l, s, hf⟩
  obtain ⟨i1, i2⟩ := iok ρ μ g σ H l s
  cases e : ds.drop i with
  | nil =>
    left
    rw [e] at hf
    cases hf
    have hz : i = ds.length := by
      have := List.length_drop (i := i) (l := ds)
      rw [e] at this
      have h0 : ds.length - i = 0 := this.symm
      omega
    rw [hz]
    exact ⟨i2, k1 σ H g l s⟩
  | cons d r =>
    right
    obtain ⟨ed, er⟩ := drop_cons e
    obtain ⟨j1, j2⟩ := i1 i d ed
    have hil : i < ds.length := (List.getElem?_eq_some_iff.mp ed).1
    refine ⟨j1, fun σ' H' => ∃ m', m' < ds.length - i ∧ (m' = ds.length - (i + 1) ∧ i + 1 ≤ ds.length ∧ ∃ ρ μ g, Le g1 g ∧ SR c ρ μ g σ' H' ∧ forL gt tb (ds.drop (i + 1)) ρ μ = some (o, μ')), fun σ' H' q => q, fun x H' hy => ?_⟩
    obtain ⟨g2, l2, s2, rx, _⟩ := j2 x H' hy
    rw [e] at hf
    have hf' : (match gt d ρ with
      | none => none
      | some ρ1 => match tb ρ1 μ with
        | none => none
        | some (.nx ρ', μ') => forL gt tb r ρ' μ'
        | some (.ct ρ', μ') => forL gt tb r ρ' μ'
        | some (.bk ρ', μ') => some (.nx ρ', μ')
        | some (.rt d, μ') => some (.rt d, μ')
        | some (.ex ρ' C ns es, μ') => some (.ex ρ' C ns es, μ')) = some (o, μ') := hf
    cases eg : gt d ρ with
    | none => rw [eg] at hf'; cases hf'
    | some ρ1 =>
      rw [eg] at hf'
      refine r2 c hc ρ ρ1 μ g2 σ H' d x _ s2 rx eg fun σ1 s3 _ => ?_
      have nxt : ∀ ρ' μ2, forL gt tb r ρ' μ2 = some (o, μ') → ∀ σ' H' g', Le g2 g' → SR c ρ' μ2 g' σ' H' →
          ∃ m', m' < ds.length - i ∧ (m' = ds.length - (i + 1) ∧ i + 1 ≤ ds.length ∧ ∃ ρ μ g, Le g1 g ∧ SR c ρ μ g σ' H' ∧ forL gt tb (ds.drop (i + 1)) ρ μ = some (o, μ')) :=
        fun ρ' μ2 hq σ' H' g' l' s' => ⟨_, by omega, rfl, hil, ρ', μ2, g', (l.trans l2).trans l', s', by rw [er]; exact hq⟩
      cases eb : tb ρ1 μ with
      | none => simp only [eb] at hf'; cases hf'
      | some q =>
        obtain ⟨o1, μ2⟩ := q
        simp only [eb] at hf'
        refine r3 c hc ρ1 μ g2 σ1 H' _ o1 μ2 s3 eb ?_
        cases o1 with
        | nx ρ' => exact nxt ρ' μ2 hf'
        | ct ρ' => exact nxt ρ' μ2 hf'
        | bk ρ' =>
          cases hf'
          exact fun σ' H' g' l' s' => k1 σ' H' g' ((l.trans l2).trans l') s'
        | rt d =>
          cases hf'
          exact fun v H' g' l' s' rp => k1 v H' g' ((l.trans l2).trans l') s' rp
        | ex ρ' C ns es =>
          cases hf'
          exact fun d σ' H' g' l' s' xx => k1 d σ' H' g' ((l.trans l2).trans l') s' xx
end
/-! ### while -/
def whileF (tt : TB) (tb : TO') : Nat → TO'
  | 0, _, _ => none
  | n + 1, ρ, μ => match tt ρ μ with
    | none => none
    | some (.ex C ns es, μ') => some (.ex ρ C ns es, μ')
    | some (.ok false, μ') => some (.nx ρ, μ')
    | some (.ok true, μ1) => match tb ρ μ1 with
      | none => none
      | some (.nx ρ', μ') => whileF tt tb n ρ' μ'
      | some (.ct ρ', μ') => whileF tt tb n ρ' μ'
      | some (.bk ρ', μ') => some (.nx ρ', μ')
      | some (.rt d, μ') => some (.rt d, μ')
      | some (.ex ρ' C ns es, μ') => some (.ex ρ' C ns es, μ')
open Classical in
noncomputable def dsWhile (tt : TB) (tb : TO') : TO' := fun ρ μ => if h : ∃ n q, whileF tt tb n ρ μ = some q then some h.choose_spec.choose else none
theorem whileF_more {tt : TB} {tb : TO'} : ∀ {n m : Nat} {ρ : Rho} {μ : Mu} {q : Out × Mu}, whileF tt tb n ρ μ = some q → n ≤ m → whileF tt tb m ρ μ = some q
  | 0, _, _, _, _, h, _ => by cases h
  | n + 1, 0, _, _, _, _, hm => by omega
  | n + 1, m + 1, ρ, μ, q, h, hm => by
    unfold whileF at h ⊢
    cases e : tt ρ μ with
    | none => simp only [e] at h; cases h
    | some r =>
      obtain ⟨r, μ1⟩ := r
      simp only [e] at h ⊢
      cases r with
      | ex C ns es => exact h
      | ok b =>
        cases b with
        | false => exact h
        | true =>
          simp only at h ⊢
          cases eb : tb ρ μ1 with
          | none => simp only [eb] at h; cases h
          | some r2 =>
            obtain ⟨o, μ2⟩ := r2
            simp only [eb] at h ⊢
            cases o with
            | nx ρ' => exact whileF_more h (by omega)
            | ct ρ' => exact whileF_more h (by omega)
            | _ => exact h
theorem dsWhile_of {tt : TB} {tb : TO'} {n : Nat} {ρ : Rho} {μ : Mu} {q : Out × Mu} (h : whileF tt tb n ρ μ = some q) : dsWhile tt tb ρ μ = some q := by
  have hx : ∃ n q, whileF tt tb n ρ μ = some q := ⟨n, q, h⟩
  unfold dsWhile
  rw [dif_pos hx]
  have e1 := hx.choose_spec.choose_spec
  have e2 := whileF_more e1 (Nat.le_max_left hx.choose n)
  have e3 := whileF_more h (Nat.le_max_right hx.choose n)
  rw [e2] at e3
  exact e3
theorem dsWhile_some {tt : TB} {tb : TO'} {ρ : Rho} {μ : Mu} {q : Out × Mu} (h : dsWhile tt tb ρ μ = some q) : ∃ n, whileF tt tb n ρ μ = some q := by
  unfold dsWhile at h
  by_cases hx : ∃ n q, whileF tt tb n ρ μ = some q
  · rw [dif_pos hx] at h
    cases h
    exact ⟨_, hx.choose_spec.choose_spec⟩
  · rw [dif_neg hx] at h
    cases h
section
variable {X : Cx} {W : WX} {test : Expr} {body : List Stmt} {tt : TB} {tb : TO'} {pos : Pos}
theorem ds_while (hp : PassesOwn (model X.prog X.w) X.A X.env X.xe) (ht : DT X W test tt) (hb : DSs X W body tb) : DS X W (.While test body [] pos) (dsWhile tt tb) := by
  obtain ⟨te, p1, r1⟩ := ht.ex
  obtain ⟨tbs, p3, r3⟩ := hb.ex
  refine ⟨_, ps_while hp p1 p3, fun c hc ρ μ g σ H D₀ o μ' s h k => ?_⟩
  obtain ⟨n, hn⟩ := dsWhile_some h
  refine ⟨fun m σ H => ∃ ρ μ g1, Le g g1 ∧ SR c ρ μ g1 σ H ∧ whileF tt tb m ρ μ = some (o, μ'), ⟨n, ρ, μ, g, Le.refl _, s, hn⟩, ?_⟩
  rintro m σ H ⟨ρ, μ, g1, l, s, hf⟩
  cases m with
  | zero => cases hf
  | succ m =>
    unfold whileF at hf
    cases e : tt ρ μ with
    | none => simp only [e] at hf; cases hf
    | some r =>
      obtain ⟨r, μ1⟩ := r
      simp only [e] at hf
      cases r with
      | ex C ns es =>
        cases hf
        exact r1 c hc ρ μ g1 σ H _ _ _ s e (px_of (k.le l)) fun d ed => by cases ed
      | ok b =>
        refine r1 c hc ρ μ g1 σ H _ _ _ s e px_ok fun d ed H' g2 l2 s2 => ?_
        cases ed
        cases b with
        | false =>
          cases hf
          exact iteF (k σ H' g2 (l.trans l2) s2)
        | true =>
          refine iteT ?_
          simp only at hf
          refine ⟨fun σ' H' => ∃ m', m' < m + 1 ∧ ∃ ρ μ g1, Le g g1 ∧ SR c ρ μ g1 σ' H' ∧ whileF tt tb m' ρ μ = some (o, μ'), fun σ' H' q => q, ?_⟩
          cases eb : tb ρ μ1 with
          | none => simp only [eb] at hf; cases hf
          | some q =>
            obtain ⟨o1, μ2⟩ := q
            simp only [eb] at hf
            refine r3 c hc ρ μ1 g2 σ H' _ o1 μ2 s2 eb ?_
            cases o1 with
            | nx ρ' => exact fun σ' H' g' l' s' => ⟨m, Nat.lt_succ_self _, ρ', μ2, g', (l.trans l2).trans l', s', hf⟩
            | ct ρ' => exact fun σ' H' g' l' s' => ⟨m, Nat.lt_succ_self _, ρ', μ2, g', (l.trans l2).trans l', s', hf⟩
            | bk ρ' =>
              cases hf
              exact fun σ' H' g' l' s' => k σ' H' g' ((l.trans l2).trans l') s'
            | rt d =>
              cases hf
              exact fun v H' g' l' s' rp => k v H' g' ((l.trans l2).trans l') s' rp
            | ex ρ' C ns es =>
              cases hf
              exact fun d σ' H' g' l' s' xx => k d σ' H' g' ((l.trans l2).trans l') s' xx
end
end DL
set_option Elab.async false
set_option linter.all false
set_option maxRecDepth 100000
set_option maxHeartbeats 4000000
set_option autoImplicit false
namespace DL
open PySem PySem.Spec L2
/-! ### the weakest readings -/
section
variable {X : Cx} {W : WX} {e : Expr}
theorem pe_imp {te te' : TE} (p : PE X e te) (h : ∀ σ H Q, te' σ H Q → te σ H Q) : PE X e te' := ⟨fun pins s σ H Q I q => p.run pins s σ H Q I (h σ H Q q)⟩
theorem pt_imp {te te' : TT} (p : PT X e te) (h : ∀ σ H Q, te' σ H Q → te σ H Q) : PT X e te' := ⟨fun pins s σ H Q I q => p.run pins s σ H Q I (h σ H Q q)⟩
theorem pg_imp {te te' : TG} (p : PG X e te) (h : ∀ v σ H Q, te' v σ H Q → te v σ H Q) : PG X e te' := ⟨fun pins s σ H v u Q I r q => p.run pins s σ H v u Q I r (h v σ H Q q)⟩
def cE (K : Fg) (W : WX) (t : TD) : TE := fun σ H Q => ∃ c ρ μ g r μ', c.K = K ∧ SR c ρ μ g σ H ∧ t ρ μ = some (r, μ') ∧ PX c W ρ σ g r μ' ∧
  ∀ d, r = .ok d → ∀ v H' g', Le g g' → SR c ρ μ' g' σ H' → GRep c.K g' d v → Q v H'
def cT (K : Fg) (W : WX) (t : TB) : TT := fun σ H Q => ∃ c ρ μ g r μ', c.K = K ∧ SR c ρ μ g σ H ∧ t ρ μ = some (r, μ') ∧ PX c W ρ σ g r μ' ∧
  ∀ d, r = .ok d → ∀ H' g', Le g g' → SR c ρ μ' g' σ H' → Q d H'
def cG (K : Fg) (is : List Nat) (gt : D → Rho → Option Rho) : TG := fun v σ H Q => ∃ c ρ ρ' μ gh d, c.K = K ∧ SR c ρ μ gh σ H ∧ GRep c.K gh d v ∧ gt d ρ = some ρ' ∧ ∀ σ', SR c ρ' μ gh σ' H → Off is σ σ' → Q σ' H
theorem DE.can {t : TD} (h : DE X W e t) : PE X e (cE X.K W t) := by
  obtain ⟨te, p, r⟩ := h.ex
  refine pe_imp p fun σ H Q q => ?_
  obtain ⟨c, ρ, μ, g, rr, μ', h1, h2, h3, h4, h5⟩ := q
  exact r c h1 ρ μ g σ H Q rr μ' h2 h3 h4 h5
theorem DT.can {t : TB} (h : DT X W e t) : PT X e (cT X.K W t) := by
  obtain ⟨te, p, r⟩ := h.ex
  refine pt_imp p fun σ H Q q => ?_
  obtain ⟨c, ρ, μ, g, rr, μ', h1, h2, h3, h4, h5⟩ := q
  exact r c h1 ρ μ g σ H Q rr μ' h2 h3 h4 h5
theorem DG.can {is : List Nat} {gt : D → Rho → Option Rho} (h : DG X e is gt) : PG X e (cG X.K is gt) := by
  obtain ⟨te, p, r⟩ := h.ex
  refine pg_imp p fun v σ H Q q => ?_
  obtain ⟨c, ρ, ρ', μ, gh, d, h1, h2, h3, h4, h5⟩ := q
  exact r c h1 ρ ρ' μ gh σ H d v Q h2 h3 h4 h5
end
/-! ### the tests of a comprehension -/
structure DTs (X : Cx) (W : WX) (ifs : List Expr) (t : TB) : Prop where
  ex : PTs X ifs (cT X.K W t)
def dYes : TB := fun _ => M.ret true
section
variable {X : Cx} {W : WX}
theorem pts_imp {ifs : List Expr} {te te' : TT} (p : PTs X ifs te) (h : ∀ σ H Q, te' σ H Q → te σ H Q) : PTs X ifs te' := ⟨fun pins s σ H Q I q => p.run pins s σ H Q I (h σ H Q q)⟩
theorem dts_nil : DTs X W [] dYes := ⟨pts_imp pts_nil fun σ H Q q => by
  obtain ⟨c, ρ, μ, g, rr, μ', h1, h2, h3, h4, h5⟩ := q
  obtain ⟨rfl, rfl⟩ := ret_some h3
  exact h5 true rfl H g (Le.refl g) h2⟩
theorem dts_one {e : Expr} {t : TB} (h : DT X W e t) : DTs X W [e] t := ⟨pts_one h.can⟩
end
/-! ### slots forgotten -/
def wipeR (ρ : Rho) : List Nat → Rho
  | [] => ρ
  | v :: vs => (wipeR ρ vs).set v none
theorem wipeR_length (ρ : Rho) : ∀ vs : List Nat, (wipeR ρ vs).length = ρ.length
  | [] => rfl
  | v :: vs => by show ((wipeR ρ vs).set v none).length = _; rw [List.length_set, wipeR_length ρ vs]
theorem wipeR_off (ρ : Rho) : ∀ vs : List Nat, Off vs ρ (wipeR ρ vs)
  | [] => Off.refl _ _
  | v :: vs => (wipeR_off ρ vs).trans (off_set (i := v) (x := none)) (fun j h => List.mem_cons_of_mem _ h) (fun j h => by rw [List.mem_singleton.mp h]; exact List.mem_cons_self ..)
theorem wipe_off (σ : L2.St) : ∀ vs : List Nat, Off vs σ (wipe σ vs)
  | [] => Off.refl _ _
  | v :: vs => (wipe_off σ vs).trans (off_set (i := v) (x := none)) (fun j h => List.mem_cons_of_mem _ h) (fun j h => by rw [List.mem_singleton.mp h]; exact List.mem_cons_self ..)
theorem wipe_in {σ : L2.St} {i : Nat} : ∀ {vs : List Nat}, i ∈ vs → i < σ.length → (wipe σ vs)[i]? = some none
  | [], h, _ => by cases h
  | v :: vs, h, hl => by
    show ((wipe σ vs).set v none)[i]? = some none
    by_cases z : v = i
    · rw [z, List.getElem?_set, if_pos rfl, if_pos (by rw [(wipe_off σ vs).1]; exact hl)]
    · rw [List.getElem?_set_ne z]
      rcases List.mem_cons.mp h with q | q
      · exact absurd q.symm z
      · exact wipe_in q hl
theorem wipe_eq {σ σ' : L2.St} {vs : List Nat} (h : Off vs σ σ') : wipe σ' vs = wipe σ vs := by
  apply List.ext_getElem?
  intro i
  by_cases m : i ∈ vs
  · by_cases hl : i < σ.length
    · rw [wipe_in m hl, wipe_in m (by rw [h.1]; exact hl)]
    · rw [List.getElem?_eq_none (l := L2.wipe σ vs) (by rw [(wipe_off σ vs).1]; omega), List.getElem?_eq_none (l := L2.wipe σ' vs) (by rw [(wipe_off σ' vs).1, h.1]; omega)]
  · rw [(wipe_off σ vs).2 i m, (wipe_off σ' vs).2 i m, h.2 i m]
section
variable {c : Ct} {μ μ' : Mu} {g g' : G} {σ σ' : L2.St} {H H' : Hp} {ρ ρ' : Rho}
theorem SR.wipe (h : SR c ρ μ g σ H) : ∀ vs : List Nat, SR c (wipeR ρ vs) μ g (L2.wipe σ vs) H
  | [] => h
  | v :: vs => (SR.wipe h vs).setNone v
/-- the comprehension's names hold nothing of the def's own -/
def okW (ρ : Rho) (vs : List Nat) : Bool := vs.all fun i => match ρ[i]? with
  | some (some (.sh _)) => true
  | some none => true
  | none => true
  | _ => false
theorem SR.back (h : SR c ρ μ g σ H) {vs : List Nat} (hw : okW ρ vs = true) (l : Le g g') (h' : SR c ρ' μ' g' σ' H') (hr : Off vs ρ ρ') (hs : Off vs σ σ') : SR c ρ μ' g' σ H' :=
  { h'.toSH with
    slen := h.slen
    slot := fun i s x e1 e2 => by
      by_cases m : i ∈ vs
      · have q := List.all_eq_true.mp hw i m
        rw [e1] at q
        cases s with
        | none => trivial
        | some s =>
          cases s with
          | sh d =>
            obtain ⟨v, h1, h2⟩ := h.slot i _ x e1 e2
            exact ⟨v, h1, l.rep h2⟩
          | _ => cases q
      · exact h'.slot i s x (by rw [hr.2 i m]; exact e1) (by rw [hs.2 i m]; exact e2) }
end
/-! ### list comprehensions -/
/-- nothing may be raised -/
def M.nx {α : Type} (m : M α) : M α := fun μ => match m μ with
  | some (.ok a, μ') => some (.ok a, μ')
  | _ => none
theorem nx_some {α : Type} {m : M α} {μ μ' : Mu} {r : Res α} (h : M.nx m μ = some (r, μ')) : ∃ a, r = .ok a ∧ m μ = some (.ok a, μ') := by
  unfold M.nx at h
  cases e : m μ with
  | none => rw [e] at h; cases h
  | some q =>
    obtain ⟨r1, μ1⟩ := q
    rw [e] at h
    cases r1 with
    | ok a => cases h; exact ⟨a, rfl, rfl⟩
    | ex C ns ds => cases h
def lcL (vs : List Nat) (gt : D → Rho → Option Rho) (tt : TB) (te : TD) (ρ : Rho) : List D → List D → M (List D)
  | [], acc => M.ret acc
  | d :: ds, acc => match gt d (wipeR ρ vs) with
    | none => M.stuck
    | some ρ1 => M.bind (M.nx (tt ρ1)) fun b => if b = true then M.bind (M.nx (te ρ1)) fun y => if acc.length < sizeLine then lcL vs gt tt te ρ ds (acc ++ [y]) else M.stuck else lcL vs gt tt te ρ ds acc
def dLc (vs : List Nat) (tl : TL) (gt : D → Rho → Option Rho) (tt : TB) (te : TD) : TL := fun ρ => M.bind (tl ρ) fun ds => if okW ρ vs = true then lcL vs gt tt te ρ ds [] else M.stuck
abbrev WF : WX := fun _ _ _ _ => False
theorem RI.then_ {c : Ct} {W : WX} {ρ : Rho} {μ μ' : Mu} {g : G} {σ : L2.St} {H : Hp} {α : Type} {r : Res α} {wi : TI} {t : TL} (ht : RI c W wi t) {f : List D → M α} {R : It → Hp → Prop} (s : SR c ρ μ g σ H) (h : M.bind (t ρ) f μ = some (r, μ')) (hx : PX c W ρ σ g r μ')
    (k : ∀ d μ1, f d μ1 = some (r, μ') → ∀ J H1 g1, Le g g1 → SR c ρ μ1 g1 σ H1 → ItOk c g1 J d → PX c W ρ σ g1 r μ' → R J H1) : wi σ H R := by
  rcases bind_some h with ⟨a, μ1, e1, e2⟩ | ⟨C, ns, ds, e1, rfl⟩
  · exact ht ρ μ g σ H R _ _ s e1 px_ok fun d e J H' g' l s' rp => by
      cases e
      exact k a μ1 e2 J H' g' l s' rp (hx.le l)
  · exact ht ρ μ g σ H R _ _ s e1 (fun C' ns' ds' e => by cases e; exact hx C ns ds rfl) fun d e => by cases e
theorem lcL_ok {vs : List Nat} {gt : D → Rho → Option Rho} {tt : TB} {te : TD} {ρ : Rho} : ∀ {ds acc : List D} {μ μ' : Mu} {r : Res (List D)}, lcL vs gt tt te ρ ds acc μ = some (r, μ') → ∃ res, r = .ok res
  | [], acc, μ, μ', r, h => ⟨_, (ret_some h).1⟩
  | d :: ds, acc, μ, μ', r, h => by
    unfold lcL at h
    cases e : gt d (wipeR ρ vs) with
    | none => rw [e] at h; cases h
    | some ρ1 =>
      rw [e] at h
      rcases bind_some h with ⟨b, μ1, e1, e2⟩ | ⟨C, ns, es, e1, e2⟩
      · cases b with
        | true =>
          rw [if_pos rfl] at e2
          rcases bind_some e2 with ⟨y, μ2, e3, e4⟩ | ⟨C, ns, es, e3, e4⟩
          · by_cases q : acc.length < sizeLine
            · rw [if_pos q] at e4
              exact lcL_ok e4
            · rw [if_neg q] at e4
              cases e4
          · obtain ⟨a, q, _⟩ := nx_some e3
            cases q
        | false =>
          rw [if_neg (by decide)] at e2
          exact lcL_ok e2
      · obtain ⟨a, q, _⟩ := nx_some e1
        cases q
section
variable {X : Cx} {W : WX} {elt tg iter : Expr} {ifs : List Expr} {scope : Scope} {own : List (Str × Nat)} {pos : Pos} {tl : TL} {gt : D → Rho → Option Rho} {tt : TB} {te : TD} {is : List Nat}
theorem rf_lc {c : Ct} {wi : TI} (hi : RI c W wi tl) (hoff : ∀ d ρ ρ', gt d ρ = some ρ' → Off is ρ ρ') (his : ∀ i ∈ is, i ∈ own.map (·.2)) : RF c W (tLc wi (cG c.K is gt) (cT c.K WF tt) (cE c.K WF te) (own.map (·.2))) (dLc (own.map (·.2)) tl gt tt te) := by
  intro ρ μ g σ H Q rr μ' s hh hx k
  refine hi.then_ s hh hx fun ds μ1 h1 J H1 g1 l1 s1 iok hx1 => ?_
  intro p hp
  by_cases hw : okW ρ (own.map (·.2)) = true
  · rw [if_pos hw] at h1
    obtain ⟨res, rfl⟩ := lcL_ok h1
    have hTp := s1.freshT hp
    refine ⟨fun i m H => m = ds.length - i ∧ i ≤ ds.length ∧ ∃ μ g acc xs, Le g1 g ∧ SR c ρ μ g σ H ∧ g.T p = some (.lst xs) ∧ GReps c.K g acc xs ∧ lcL (own.map (·.2)) gt tt te ρ (ds.drop i) acc μ = some (.ok res, μ'),
      ⟨_, rfl, Nat.zero_le _, μ1, (g1.own1 p 0).tell p (.lst []), [], [], le_tell (le_own1 _ _ _) hTp, (s1.tmp hp).tell (own1_at _ _ _) upd_same, upd_same, reps_nil, h1⟩, ?_⟩
    rintro i m H ⟨rfl, hi, μ, g2, acc, xs, l, s2, ht, ra, hf⟩
    obtain ⟨i1, i2⟩ := iok ρ μ g2 σ H l s2
    obtain ⟨ho, hpx⟩ := s2.tmpT _ _ ht
    cases e : ds.drop i with
    | nil =>
      left
      rw [e] at hf
      obtain ⟨q1, q2⟩ := ret_some hf
      cases q1
      subst q2
      have hz : i = ds.length := by
        have := List.length_drop (i := i) (l := ds)
        rw [e] at this
        have h0 : ds.length - i = 0 := this.symm
        omega
      rw [hz]
      exact ⟨i2, k _ rfl p xs H (g2.untell p) (le_untell (l1.trans l) (by
        cases z : g.T p with
        | none => rfl
        | some o =>
          have z2 := l1.t p o z
          rw [hTp] at z2
          cases z2)) s2.untell ⟨ho, if_pos rfl⟩ hpx ra⟩
    | cons d r =>
      right
      obtain ⟨ed, er⟩ := drop_cons e
      obtain ⟨j1, j2⟩ := i1 i d ed
      have hil : i < ds.length := (List.getElem?_eq_some_iff.mp ed).1
      refine ⟨j1, fun H' => ∃ m', m' < ds.length - i ∧ (m' = ds.length - (i + 1) ∧ i + 1 ≤ ds.length ∧ ∃ μ g acc xs, Le g1 g ∧ SR c ρ μ g σ H' ∧ g.T p = some (.lst xs) ∧ GReps c.K g acc xs ∧ lcL (own.map (·.2)) gt tt te ρ (ds.drop (i + 1)) acc μ = some (.ok res, μ')), fun H' q => q, fun x H' hy => ?_⟩
      obtain ⟨g3, l3, s3, rx, _⟩ := j2 x H' hy
      rw [e] at hf
      unfold lcL at hf
      cases eg : gt d (wipeR ρ (own.map (·.2))) with
      | none => rw [eg] at hf; cases hf
      | some ρ1 =>
        rw [eg] at hf
        refine ⟨c, _, ρ1, μ, g3, d, rfl, s3.wipe _, rx, eg, fun σ1 s4 o4 => ?_⟩
        have offs : Off (own.map (·.2)) σ σ1 := (wipe_off σ (own.map (·.2))).trans o4 (fun j z => z) his
        have offr : Off (own.map (·.2)) ρ ρ1 := (wipeR_off ρ (own.map (·.2))).trans (hoff _ _ _ eg) (fun j z => z) his
        refine ⟨wipe_eq offs, ?_⟩
        rcases bind_some hf with ⟨b, μ2, e1, e2⟩ | ⟨C, ns, es, e1, e2⟩
        · obtain ⟨b', q, e1⟩ := nx_some e1
          cases q
          refine ⟨c, ρ1, μ, g3, _, μ2, rfl, s4, e1, px_ok, fun b2 eb H2 g4 l4 s5 => ?_⟩
          cases eb
          cases b with
          | false =>
            rw [if_neg (by decide)] at e2
            refine iteF ⟨_, by omega, rfl, hil, μ2, g4, acc, xs, l.trans (l3.trans l4), s3.back hw l4 s5 offr offs, l4.t _ _ (l3.t _ _ ht), (l3.trans l4).reps ra, by rw [er]; exact e2⟩
          | true =>
            rw [if_pos rfl] at e2
            refine iteT ?_
            rcases bind_some e2 with ⟨y, μ3, e3, e4⟩ | ⟨C, ns, es, e3, e4⟩
            · obtain ⟨y', q, e3⟩ := nx_some e3
              cases q
              refine ⟨c, ρ1, μ2, g4, _, μ3, rfl, s5, e3, px_ok, fun y2 ey v H3 g5 l5 s6 ry => ?_⟩
              cases ey
              by_cases q : acc.length < sizeLine
              · rw [if_pos q] at e4
                have l35 := l3.trans (l4.trans l5)
                have t5 := l35.t _ _ ht
                have s7 := s3.back hw (l4.trans l5) s6 offr offs
                obtain ⟨ho5, hp5⟩ := s7.tmpT _ _ t5
                have s8 := (s7.untell (p := p)).wrtTmp (p := p) ho5 (if_pos rfl) (o := .lst (xs ++ [v]))
                have l8 : Le g1 (g5.untell p) := le_untell (l.trans l35) hTp
                refine ⟨xs, hp5, by rw [← ra.length]; exact q, _, by omega, rfl, hil, μ3, (g5.untell p).tell p (.lst (xs ++ [v])), acc ++ [y], xs ++ [v], le_tell l8 hTp, s8.tell ho5 upd_same, upd_same, Reps.append (l35.reps ra) (reps_cons ry reps_nil), by rw [er]; exact e4⟩
              · rw [if_neg q] at e4
                cases e4
            · obtain ⟨a, q, _⟩ := nx_some e3
              cases q
        · obtain ⟨a, q, _⟩ := nx_some e1
          cases q
  · rw [if_neg hw] at h1
    cases h1
/-- [elt for tg in iter if ..], new -/
theorem df_lc (hc : X.calm = true) (hN : X.N.Nodup) (hi : DI X W tg iter tl) (ok : BlkOk X.N X.env.scope scope own)
    (hg : ∀ (s : Shared) (H : Hp) (C : Addr) (cl : List (Str × Addr)) (fp : List Addr), DG (X.blk s H scope (compEnvC scope cl C X.env) fp) tg is gt)
    (ht : ∀ (s : Shared) (H : Hp) (C : Addr) (cl : List (Str × Addr)) (fp : List Addr), DTs (X.blk s H scope (compEnvC scope cl C X.env) fp) WF ifs tt)
    (he : ∀ (s : Shared) (H : Hp) (C : Addr) (cl : List (Str × Addr)) (fp : List Addr), DE (X.blk s H scope (compEnvC scope cl C X.env) fp) WF elt te)
    (his : ∀ i ∈ is, i ∈ own.map (·.2) := by decide) (hs : ∀ x, foldedSetIterable iter X.env x = pure x := by intro _; rfl) :
    DF X W (.ListComp elt [⟨tg, iter, ifs, 0⟩] scope pos) (dLc (own.map (·.2)) tl gt tt te) := by
  obtain ⟨wi, p, r⟩ := hi.ex
  refine ⟨_, pe_lc (g := cG X.K is gt) (tt := cT X.K WF tt) (te := cE X.K WF te) hc hN p ok (fun s H C cl fp => (hg s H C cl fp).can) (fun s H C cl fp => (ht s H C cl fp).ex) (fun s H C cl fp => (he s H C cl fp).can) hs, fun c hc2 => ?_⟩
  have q := rf_lc (tt := tt) (te := te) (r c hc2) (hg X.s_0 X.H_0 0 [] []).off his
  rw [hc2] at q
  exact q
/-- y = [..], y the def's own from now on -/
theorem ds_setOLc {i : Nat} {y : Str} {py spos : Pos} (hc : X.calm = true) (hN : X.N.Nodup) (hi : DI X W tg iter tl) (ok : BlkOk X.N X.env.scope scope own)
    (hg : ∀ (s : Shared) (H : Hp) (C : Addr) (cl : List (Str × Addr)) (fp : List Addr), DG (X.blk s H scope (compEnvC scope cl C X.env) fp) tg is gt)
    (ht : ∀ (s : Shared) (H : Hp) (C : Addr) (cl : List (Str × Addr)) (fp : List Addr), DTs (X.blk s H scope (compEnvC scope cl C X.env) fp) WF ifs tt)
    (he : ∀ (s : Shared) (H : Hp) (C : Addr) (cl : List (Str × Addr)) (fp : List Addr), DE (X.blk s H scope (compEnvC scope cl C X.env) fp) WF elt te)
    (hsw : swapsWith (.ListComp elt [⟨tg, iter, ifs, 0⟩] scope pos) (some (.Name y py)) spos.line X.env = pure true)
    (hy : X.N[i]? = some y := by rfl) (hyl : X.env.scope.names.lookup y = some .local := by rfl)
    (his : ∀ i ∈ is, i ∈ own.map (·.2) := by decide) (hs : ∀ x, foldedSetIterable iter X.env x = pure x := by intro _; rfl) :
    DS X W (.Assign [.Name y py] (.ListComp elt [⟨tg, iter, ifs, 0⟩] scope pos) spos) (dsSetO i (dLc (own.map (·.2)) tl gt tt te)) := by
  obtain ⟨wi, p, r⟩ := hi.ex
  refine ⟨_, ps_setLc (g := cG X.K is gt) (tt := cT X.K WF tt) (te := cE X.K WF te) hc hN hy hyl hsw p ok (fun s H C cl fp => (hg s H C cl fp).can) (fun s H C cl fp => (ht s H C cl fp).ex) (fun s H C cl fp => (he s H C cl fp).can) hs, fun c hc2 ρ μ g σ H D₀ o μ' s h k => ?_⟩
  have q := rf_lc (W := W) (tt := tt) (te := te) (r c hc2) (hg X.s_0 X.H_0 0 [] []).off his
  rw [hc2] at q
  refine q.stm s h k fun ds μ1 h1 p xs H1 g1 l1 s1 ho hp rp k1 => ?_
  cases h1
  exact k1 _ _ (g1.own1 p (i + 1)) (le_own1 _ _ _) (s1.take i ho.1 ho.2 ⟨p, xs, rfl, own1_at _ _ _, hp, (le_own1 _ _ _).reps rp⟩)
/-- y = [..], that stands still -/
theorem ds_setLc {i : Nat} {y : Str} {py spos : Pos} (hc : X.calm = true) (hN : X.N.Nodup) (hi : DI X W tg iter tl) (ok : BlkOk X.N X.env.scope scope own)
    (hg : ∀ (s : Shared) (H : Hp) (C : Addr) (cl : List (Str × Addr)) (fp : List Addr), DG (X.blk s H scope (compEnvC scope cl C X.env) fp) tg is gt)
    (ht : ∀ (s : Shared) (H : Hp) (C : Addr) (cl : List (Str × Addr)) (fp : List Addr), DTs (X.blk s H scope (compEnvC scope cl C X.env) fp) WF ifs tt)
    (he : ∀ (s : Shared) (H : Hp) (C : Addr) (cl : List (Str × Addr)) (fp : List Addr), DE (X.blk s H scope (compEnvC scope cl C X.env) fp) WF elt te)
    (hsw : swapsWith (.ListComp elt [⟨tg, iter, ifs, 0⟩] scope pos) (some (.Name y py)) spos.line X.env = pure true)
    (hy : X.N[i]? = some y := by rfl) (hyl : X.env.scope.names.lookup y = some .local := by rfl)
    (his : ∀ i ∈ is, i ∈ own.map (·.2) := by decide) (hs : ∀ x, foldedSetIterable iter X.env x = pure x := by intro _; rfl) :
    DS X W (.Assign [.Name y py] (.ListComp elt [⟨tg, iter, ifs, 0⟩] scope pos) spos) (dsSet i (dFz (dLc (own.map (·.2)) tl gt tt te))) := by
  obtain ⟨wi, p, r⟩ := hi.ex
  refine ⟨_, ps_setLc (g := cG X.K is gt) (tt := cT X.K WF tt) (te := cE X.K WF te) hc hN hy hyl hsw p ok (fun s H C cl fp => (hg s H C cl fp).can) (fun s H C cl fp => (ht s H C cl fp).ex) (fun s H C cl fp => (he s H C cl fp).can) hs, fun c hc2 ρ μ g σ H D₀ o μ' s h k => ?_⟩
  have q := rf_lc (W := W) (tt := tt) (te := te) (r c hc2) (hg X.s_0 X.H_0 0 [] []).off his
  rw [hc2] at q
  have h2 : dsE (dLc (own.map (·.2)) tl gt tt te) (fun ds ρ μ => some (.nx (ρ.set i (some (.sh (.lst ds)))), μ)) ρ μ = some (o, μ') := by
    have h' : dsE (dFz (dLc (own.map (·.2)) tl gt tt te)) (fun d ρ μ => some (.nx (ρ.set i (some (.sh d))), μ)) ρ μ = some (o, μ') := h
    rcases dsE_some h' with ⟨a, μ1, e1, e2⟩ | ⟨C, ns, ds, e1, rfl⟩
    · rcases bind_some e1 with ⟨ds, μ2, e3, e4⟩ | ⟨C, ns, es, e3, e4⟩
      · obtain ⟨q1, q2⟩ := ret_some e4
        cases q1
        subst q2
        unfold dsE
        rw [e3]
        exact e2
      · cases e4
    · rcases bind_some e1 with ⟨ds', μ2, e3, e4⟩ | ⟨C', ns', es', e3, e4⟩
      · obtain ⟨q1, q2⟩ := ret_some e4
        cases q1
      · cases e4
        unfold dsE
        rw [e3]
  refine q.stm s h2 k fun ds μ1 h1 p xs H1 g1 l1 s1 ho hp rp k1 => ?_
  cases h1
  refine k1 _ _ (g1.fz p (.lst xs)) (s1.leFz ho.1) ((s1.fzTmp ho.1 ho.2 hp).setSh i ?_)
  unfold GRep Rep
  exact ⟨p, xs, rfl, upd_same, (s1.leFz ho.1).reps rp⟩
end
end DL
set_option Elab.async false
set_option linter.all false
set_option maxRecDepth 100000
set_option maxHeartbeats 4000000
set_option autoImplicit false
namespace DL
open PySem PySem.Spec L2
/-! ### things with items, as they stand when they are looked at -/
inductive QV where
  | val (d : D) | own (i : Nat)
def qv (q : QV) (ρ : Rho) (μ : Mu) : Option (List D) := match q with
  | .val (.lst ds) => some ds
  | .val (.tup ds) => some ds
  | .val (.kt ds) => some ds
  | .val (.rd ds) => some ds
  | .val (.mref k) => match μ[k]? with
    | some (.lst ds) => some ds
    | _ => none
  | .own i => match ρ[i]? with
    | some (some (.ol ds)) => some ds
    | _ => none
  | _ => none
def QRep (K : Fg) (g : G) (σ : L2.St) (q : QV) (v : V) : Prop := match q with
  | .val d => GRep K g d v
  | .own i => σ[i]? = some (some v)
theorem QRep.le {K : Fg} {g g' : G} {σ : L2.St} {q : QV} {v : V} (h : QRep K g σ q v) (l : Le g g') : QRep K g' σ q v := by
  cases q with
  | val d => exact l.rep h
  | own i => exact h
abbrev TQ := Rho → M QV
def RQ (c : Ct) (W : WX) (te : TE) (t : TQ) : Prop := ∀ ρ μ g σ H Q r μ', SR c ρ μ g σ H → t ρ μ = some (r, μ') → PX c W ρ σ g r μ' →
  (∀ q, r = .ok q → ∀ v H' g', Le g g' → SR c ρ μ' g' σ H' → QRep c.K g' σ q v → Q v H') → te σ H Q
structure DQ (X : Cx) (W : WX) (e : Expr) (t : TQ) : Prop where
  ex : ∃ te, PE X e te ∧ ∀ c : Ct, c.K = X.K → RQ c W te t
section
variable {c : Ct} {W : WX} {ρ : Rho} {μ μ' : Mu} {g : G} {σ : L2.St} {H : Hp} {α : Type} {r : Res α}
theorem RQ.then_ {te : TE} {t : TQ} (ht : RQ c W te t) {f : QV → M α} {Q : VK} (s : SR c ρ μ g σ H) (h : M.bind (t ρ) f μ = some (r, μ')) (hx : PX c W ρ σ g r μ')
    (k : ∀ q μ1, f q μ1 = some (r, μ') → ∀ v H1 g1, Le g g1 → SR c ρ μ1 g1 σ H1 → QRep c.K g1 σ q v → PX c W ρ σ g1 r μ' → Q v H1) : te σ H Q := by
  rcases bind_some h with ⟨a, μ1, e1, e2⟩ | ⟨C, ns, ds, e1, rfl⟩
  · exact ht ρ μ g σ H Q _ _ s e1 (fun C ns ds e => by cases e) fun d e v H' g' l s' rp => by
      cases e
      exact k a μ1 e2 v H' g' l s' rp (hx.le l)
  · exact ht ρ μ g σ H Q _ _ s e1 (fun C' ns' ds' e => by cases e; exact hx C ns ds rfl) fun d e => by cases e
/-- what stands there -/
theorem SR.seqLT (s : SR c ρ μ g σ H) {q : QV} {v : V} {ds : List D} (r : QRep c.K g σ q v) (h : qv q ρ μ = some ds) : (∃ a xs, v = .ref a ∧ SqL c.K H a xs ∧ GReps c.K g ds xs) ∨ ((q = .val (.tup ds) ∨ q = .val (.kt ds)) ∧ ∃ a xs, v = .ref a ∧ SqT c.K H a xs ∧ GReps c.K g ds xs) := by
  cases q with
  | own i =>
    obtain ⟨ds', e1, e2⟩ := own_some (f := fun ds => some ds) h
    cases e2
    obtain ⟨x, hx, p, xs, rfl, h2, h3, h4⟩ := s.at e1
    have e : some (some (V.ref p)) = some (some v) := hx.symm.trans r
    cases e
    exact .inl ⟨p, xs, rfl, SqL.of h3, h4⟩
  | val d =>
    have r : GRep c.K g d v := r
    cases d <;> first | (cases h; done) | skip
    case tup es =>
      cases h
      unfold GRep Rep at r
      obtain ⟨a, xs, rfl, h1, h2⟩ := r
      exact .inr ⟨.inl rfl, a, xs, rfl, SqT.of (s.sub _ _ h1), h2⟩
    case kt es =>
      cases h
      unfold GRep Rep at r
      obtain ⟨a, xs, rfl, h1, h2⟩ := r
      exact .inr ⟨.inr rfl, a, xs, rfl, sqT_mono h1 s.sub, h2⟩
    case lst es =>
      cases h
      unfold GRep Rep at r
      obtain ⟨a, xs, rfl, h1, h2⟩ := r
      exact .inl ⟨a, xs, rfl, SqL.of (s.sub _ _ h1), h2⟩
    case rd es =>
      cases h
      unfold GRep Rep at r
      obtain ⟨a, xs, rfl, h1, h2⟩ := r
      exact .inl ⟨a, xs, rfl, sqL_mono h1 s.sub, h2⟩
    case mref =>
      rename_i n r0
      unfold GRep Rep at r
      obtain ⟨a, h1, rfl⟩ := r
      have h' : (match μ[n]? with
        | some (MO.lst ds) => some ds
        | _ => none) = some ds := h
      cases e : μ[n]? with
      | none => rw [e] at h'; cases h'
      | some m =>
        rw [e] at h'
        cases m with
        | lst es =>
          cases h'
          obtain ⟨_, xs, q2, q3⟩ := s.amb n a _ h1 e
          exact .inl ⟨a, xs, rfl, SqL.of q2, q3⟩
        | _ => cases h'
theorem SR.seq (s : SR c ρ μ g σ H) {q : QV} {v : V} {ds : List D} (r : QRep c.K g σ q v) (h : qv q ρ μ = some ds) : ∃ a xs, v = .ref a ∧ SqV c.K H a xs ∧ GReps c.K g ds xs := by
  rcases s.seqLT r h with ⟨a, xs, h1, h2, h3⟩ | ⟨_, a, xs, h1, h2, h3⟩
  · exact ⟨a, xs, h1, .inl h2, h3⟩
  · exact ⟨a, xs, h1, .inr h2, h3⟩
end
section
variable {X : Cx} {W : WX} {a b e : Expr} {ta tb : TD} {tq : TQ} {pos : Pos}
def qVal (t : TD) : TQ := fun ρ => M.bind (t ρ) fun d => M.ret (.val d)
def qOwn (i : Nat) : TQ := fun ρ => match ρ[i]? with
  | some (some (.ol _)) => M.ret (.own i)
  | _ => M.stuck
theorem dq_val (h : DE X W a ta) : DQ X W a (qVal ta) := by
  obtain ⟨te, p, r⟩ := h.ex
  refine ⟨te, p, fun c hc ρ μ g σ H Q rr μ' s hh hx k => ?_⟩
  refine (r c hc).then_ s hh hx fun x μ1 h1 v1 H1 g1 l1 s1 r1 hx1 => ?_
  obtain ⟨rfl, rfl⟩ := ret_some h1
  exact k _ rfl v1 H1 g1 l1 s1 r1
theorem dq_own (i : Nat) {x : Str} {pos : Pos} (hN : X.N[i]? = some x := by rfl) (hv : Vis X.env.scope x := by first | exact Or.inl rfl | exact Or.inr (Or.inl rfl) | exact Or.inr (Or.inr rfl)) (hd : (x == ("__debug__" : Str)) = false := by decide)
    (hcd : (x == ("__classdict__" : Str)) = false := by decide) : DQ X W (.Name x pos) (qOwn i) := ⟨tVar i, pe_var hN hv hd hcd, fun c _ ρ μ g σ H Q rr μ' s hh hx k => by
  unfold qOwn at hh
  cases e : ρ[i]? with
  | none => rw [e] at hh; cases hh
  | some w =>
    rw [e] at hh
    cases w with
    | none => cases hh
    | some w =>
      cases w with
      | ol ds =>
        obtain ⟨rfl, rfl⟩ := ret_some hh
        obtain ⟨xv, hx2, p, xs, rfl, _⟩ := s.at e
        exact ⟨_, hx2, k _ rfl _ H g (Le.refl g) s hx2⟩
      | _ => cases hh⟩
/-! ### len -/
def dLen (t : TQ) : TD := fun ρ => M.bind (t ρ) fun q μ => match q with
  | .val (.str z) => if z.length ≤ sizeLine then some (.ok (.int z.length), μ) else none
  | q => match qv q ρ μ with
    | some ds => some (.ok (.int ds.length), μ)
    | none => none
theorem dLen_some {q : QV} {ρ : Rho} {μ μ' : Mu} {r : Res D} (h : (match q with
  | .val (.str z) => if z.length ≤ sizeLine then some (.ok (.int z.length), μ) else none
  | q => match qv q ρ μ with
    | some ds => some (Res.ok (D.int ds.length), μ)
    | none => none) = some (r, μ')) : (∃ z : Str, q = .val (.str z) ∧ z.length ≤ sizeLine ∧ r = .ok (.int z.length) ∧ μ' = μ) ∨ (∃ ds, qv q ρ μ = some ds ∧ r = .ok (.int ds.length) ∧ μ' = μ) := by
  have key : (match qv q ρ μ with
    | some ds => some (Res.ok (D.int ds.length), μ)
    | none => none) = some (r, μ') → (∃ ds, qv q ρ μ = some ds ∧ r = .ok (.int ds.length) ∧ μ' = μ) := by
    intro h
    cases e : qv q ρ μ with
    | none => rw [e] at h; cases h
    | some ds => rw [e] at h; cases h; exact ⟨ds, rfl, rfl, rfl⟩
  cases q with
  | own i => exact .inr (key h)
  | val d =>
    cases d with
    | str z =>
      have h' : (if z.length ≤ sizeLine then some (Res.ok (D.int z.length), μ) else none) = some (r, μ') := h
      by_cases q : z.length ≤ sizeLine
      · rw [if_pos q] at h'
        cases h'
        exact .inl ⟨z, rfl, q, rfl, rfl⟩
      · rw [if_neg q] at h'
        cases h'
    | _ => exact .inr (key h)
theorem de_len {p : Pos} (h : DQ X W a tq) (hm : X.mg "len" = none) (hg : Gl X "len" := by rfl) (he : starEach [a] X.env = [(false, eval a X.env)] := by rfl) (hpl : (backTo pos (starEach [] X.env)).any (·.1) = false := by rfl) : DE X W (.Call (.Name "len" p) [a] [] pos) (dLen tq) := by
  obtain ⟨te, p, r⟩ := h.ex
  refine ⟨_, pe_callB (CallR.or call_len_seq call_len_str) hg hm PySem.boot_len (pa_cons p pa_nil he) (he := he) (hpl := hpl), fun c hc ρ μ g σ H Q rr μ' s hh hx k => ?_⟩
  refine (r c hc).then_ s hh hx fun q μ1 h1 v1 H1 g1 l1 s1 r1 hx1 => ?_
  rcases dLen_some h1 with ⟨z, rfl, h2, rfl, rfl⟩ | ⟨ds, h2, rfl, rfl⟩
  · have e : v1 = .str z := rep_str (show GRep c.K g1 (.str z) v1 from r1)
    exact .inr ⟨z, by rw [e], h2, k _ rfl _ H1 g1 l1 s1 (flat_rep rfl)⟩
  · obtain ⟨a, xs, rfl, h3, h4⟩ := s1.seq r1 h2
    refine .inl ⟨a, xs, rfl, by rw [← hc]; exact h3, ?_⟩
    have e := k _ rfl (.int xs.length) H1 g1 l1 s1 (by rw [h4.length]; exact flat_rep rfl)
    exact e
/-! ### e[i] -/
def dIx (t : TQ) (u : TD) : TD := fun ρ => M.bind (t ρ) fun q => M.bind (u ρ) fun i μ => match i with
  | .int i => match q with
    | .val (.str z) => if z.length ≤ sizeLine then match atI z.cps.toList i with
      | some ch => some (.ok (.str ⟨#[ch]⟩), μ)
      | none => none else none
    | q => match qv q ρ μ with
      | some ds => match atI ds i with
        | some d => some (.ok d, μ)
        | none => none
      | none => none
  | _ => none
theorem reps_atI {K : Fg} {ads : List Addr} {B : Hp} {ds : List D} {xs : List V} {i : Int} {d : D} (h : Reps K ads B ds xs) (e : atI ds i = some d) : ∃ x, atI xs i = some x ∧ Rep K ads B d x := by
  unfold atI at e ⊢
  rw [← h.length]
  cases q : ixN ds.length i with
  | none => rw [q] at e; cases e
  | some j =>
    rw [q] at e
    exact h.get e
theorem de_ix (h : DQ X W a tq) (hb : DE X W b tb) (hs : PlainIx b := by intro _ _; rfl) : DE X W (.Subscript a b pos) (dIx tq tb) := by
  obtain ⟨te, p, r⟩ := h.ex
  obtain ⟨ue, pu, ru⟩ := hb.ex
  refine ⟨_, pe_ix ix_seq p pu hs, fun c hc ρ μ g σ H Q rr μ' s hh hx k => ?_⟩
  refine (r c hc).then_ s hh hx fun q μ1 h1 v1 H1 g1 l1 s1 r1 hx1 => ?_
  refine (ru c hc).then_ s1 h1 hx1 fun y μ2 h2 v2 H2 g2 l2 s2 r2 hx2 => ?_
  have r1' := r1.le l2
  cases y with
  | int i =>
    have e2 := rep_int r2
    subst e2
    have key : (match qv q ρ μ2 with
      | some ds => match atI ds i with
        | some d => some (Res.ok d, μ2)
        | none => none
      | none => none) = some (rr, μ') → rIx X.K v1 (.int i) H2 Q := by
      intro h2
      cases e3 : qv q ρ μ2 with
      | none => rw [e3] at h2; cases h2
      | some ds =>
        rw [e3] at h2
        have h2' : (match atI ds i with
          | some d => some (Res.ok d, μ2)
          | none => none) = some (rr, μ') := h2
        cases e4 : atI ds i with
        | none => rw [e4] at h2'; cases h2'
        | some d =>
          rw [e4] at h2'
          cases h2'
          obtain ⟨p, xs, rfl, h3, h4⟩ := s2.seq r1' e3
          obtain ⟨x, h5, h6⟩ := reps_atI h4 e4
          have fin := k d rfl x H2 g2 (l1.trans l2) s2 h6
          rw [hc] at h3
          rcases h3 with h3 | h3
          · exact .inl ⟨p, xs, i, x, rfl, rfl, h3, h5, fin⟩
          · exact .inr (.inl ⟨p, xs, i, x, rfl, rfl, h3, h5, fin⟩)
    cases q with
    | own j => exact key h2
    | val d =>
      cases d with
      | str z =>
        have h2' : (if z.length ≤ sizeLine then match atI z.cps.toList i with
          | some ch => some (Res.ok (D.str ⟨#[ch]⟩), μ2)
          | none => none else none) = some (rr, μ') := h2
        by_cases q : z.length ≤ sizeLine
        · rw [if_pos q] at h2'
          cases e4 : atI z.cps.toList i with
          | none => rw [e4] at h2'; cases h2'
          | some ch =>
            rw [e4] at h2'
            cases h2'
            exact .inr (.inr ⟨z, i, ch, rep_str (show GRep c.K g2 (.str z) v1 from r1'), rfl, q, e4, k _ rfl _ H2 g2 (l1.trans l2) s2 (flat_rep rfl)⟩)
        · rw [if_neg q] at h2'
          cases h2'
      | _ => exact key h2
  | _ => cases h2
/-! ### x in seq: flat things -/
def flats : List D → Option (List V)
  | [] => some []
  | d :: ds => match d.flat, flats ds with
    | some v, some vs => some (v :: vs)
    | _, _ => none
theorem flats_rep {K : Fg} {ads : List Addr} {B : Hp} : ∀ {ds : List D} {vs xs : List V}, flats ds = some vs → Reps K ads B ds xs → xs = vs
  | [], vs, xs, h, r => by cases h; exact reps_nil_inv r
  | d :: ds, vs, xs, h, r => by
    obtain ⟨x, t, rfl, hx, ht⟩ := reps_cons_inv r
    unfold flats at h
    cases e1 : d.flat with
    | none => rw [e1] at h; cases h
    | some v =>
      cases e2 : flats ds with
      | none => rw [e1, e2] at h; cases h
      | some vs' =>
        rw [e1, e2] at h
        cases h
        rw [rep_flat e1 hx, flats_rep e2 ht]
/-- flat x among ds -/
def inD (x : D) (ds : List D) : Option Bool := match x.flat, flats ds with
  | some v, some vs => if flatV v = true ∧ vs.all flatV = true then some (inV v vs) else none
  | _, _ => none
theorem inD_some {x : D} {ds : List D} {b : Bool} (h : inD x ds = some b) : ∃ v vs, x.flat = some v ∧ flats ds = some vs ∧ flatV v = true ∧ vs.all flatV = true ∧ b = inV v vs := by
  unfold inD at h
  cases e1 : x.flat with
  | none => rw [e1] at h; cases h
  | some v =>
    cases e2 : flats ds with
    | none => rw [e1, e2] at h; cases h
    | some vs =>
      rw [e1, e2] at h
      have h' : (if flatV v = true ∧ vs.all flatV = true then some (inV v vs) else none) = some b := h
      by_cases q : flatV v = true ∧ vs.all flatV = true
      · rw [if_pos q] at h'
        cases h'
        exact ⟨v, vs, rfl, rfl, q.1, q.2, rfl⟩
      · rw [if_neg q] at h'
        cases h'
def dIn (neg : Bool) (t : TD) (u : TQ) : TD := fun ρ => M.bind (t ρ) fun x => M.bind (u ρ) fun q μ => match qv q ρ μ with
  | some ds => match inD x ds with
    | some b => some (.ok (.bl (if neg then !b else b)), μ)
    | none => none
  | none => none
theorem re_in {c : Ct} {tea teb : TE} {neg : Bool} (ha : RE c W tea ta) (hb : RQ c W teb tq) : RE c W (tOp (rIn c.K neg) tea teb) (dIn neg ta tq) := fun ρ μ g σ H Q rr μ' s hh hx k => by
  refine ha.then_ s hh hx fun x μ1 h1 v1 H1 g1 l1 s1 r1 hx1 => ?_
  refine hb.then_ s1 h1 hx1 fun q μ2 h2 v2 H2 g2 l2 s2 r2 hx2 => ?_
  cases e3 : qv q ρ μ2 with
  | none => rw [e3] at h2; cases h2
  | some ds =>
    rw [e3] at h2
    have h2' : (match inD x ds with
      | some b => some (Res.ok (D.bl (if neg then !b else b)), μ2)
      | none => none) = some (rr, μ') := h2
    cases e4 : inD x ds with
    | none => rw [e4] at h2'; cases h2'
    | some b =>
      rw [e4] at h2'
      cases h2'
      obtain ⟨v, vs, f1, f2, f3, f4, rfl⟩ := inD_some e4
      obtain ⟨p, xs, rfl, h3, h4⟩ := s2.seq r2 e3
      have e5 := rep_flat f1 r1
      have e6 := flats_rep f2 h4
      subst e5 e6
      exact ⟨p, xs, rfl, h3, f3, f4, k _ rfl _ H2 g2 (l1.trans l2) s2 (flat_rep rfl)⟩
theorem de_in (ha : DE X W a ta) (hb : DQ X W b tq) (hm : behindInMarks .In b = false := by first | rfl | with_unfolding_all rfl) : DE X W (.Compare a [.In] [b] pos) (dIn false ta tq) := by
  obtain ⟨tea, pa, ra⟩ := ha.ex
  obtain ⟨teb, pb, rb⟩ := hb.ex
  exact ⟨_, pe_cmpR op_in_seq pa pb hm, fun c hc => by rw [← hc]; exact re_in (ra c hc) (rb c hc)⟩
theorem dt_in (ha : DE X W a ta) (hb : DQ X W b tq) (hm : behindInMarks .In b = false := by first | rfl | with_unfolding_all rfl) : DT X W (.Compare a [.In] [b] pos) (dTest (dIn false ta tq)) := by
  obtain ⟨tea, pa, ra⟩ := ha.ex
  obtain ⟨teb, pb, rb⟩ := hb.ex
  exact ⟨_, pt_cmpR op_in_seq pa pb hm, fun c hc => by rw [← hc]; exact rt_test (re_in (ra c hc) (rb c hc))⟩
theorem de_notIn (ha : DE X W a ta) (hb : DQ X W b tq) (hm : behindInMarks .NotIn b = false := by first | rfl | with_unfolding_all rfl) : DE X W (.Compare a [.NotIn] [b] pos) (dIn true ta tq) := by
  obtain ⟨tea, pa, ra⟩ := ha.ex
  obtain ⟨teb, pb, rb⟩ := hb.ex
  exact ⟨_, pe_cmpR op_notIn_seq pa pb hm, fun c hc => by rw [← hc]; exact re_in (ra c hc) (rb c hc)⟩
theorem dt_notIn (ha : DE X W a ta) (hb : DQ X W b tq) (hm : behindInMarks .NotIn b = false := by first | rfl | with_unfolding_all rfl) : DT X W (.Compare a [.NotIn] [b] pos) (dTest (dIn true ta tq)) := by
  obtain ⟨tea, pa, ra⟩ := ha.ex
  obtain ⟨teb, pb, rb⟩ := hb.ex
  exact ⟨_, pt_cmpR op_notIn_seq pa pb hm, fun c hc => by rw [← hc]; exact rt_test (re_in (ra c hc) (rb c hc))⟩
/-! ### tuple(x), list(x) -/
def QV.isK : QV → Bool
  | .val (.kt _) => true
  | _ => false
def dTupOf (t : TQ) : TD := fun ρ => M.bind (t ρ) fun q μ => match qv q ρ μ with
  | some ds => some (.ok (if q.isK = true then .kt ds else .tup ds), μ)
  | none => none
theorem qv_bind {α : Type} {f : List D → Option α} {o : Option (List D)} {r : α} (h : (match o with
  | some ds => f ds
  | none => none) = some r) : ∃ ds, o = some ds ∧ f ds = some r := by
  cases o with
  | none => cases h
  | some ds => exact ⟨ds, rfl, h⟩
theorem de_tupOf {p : Pos} (h : DQ X W a tq) (hm : X.mg "tuple" = none) (hg : Gl X "tuple" := by rfl) (he : starEach [a] X.env = [(false, eval a X.env)] := by rfl) (hpl : (backTo pos (starEach [] X.env)).any (·.1) = false := by rfl) : DE X W (.Call (.Name "tuple" p) [a] [] pos) (dTupOf tq) := by
  obtain ⟨te, p, r⟩ := h.ex
  refine ⟨_, pe_callTy call_tuple_of hg hm (by decide +kernel) (pa_cons p pa_nil he) (he := he) (hpl := hpl), fun c hc ρ μ g σ H Q rr μ' s hh hx k => ?_⟩
  refine (r c hc).then_ s hh hx fun q μ1 h1 v1 H1 g1 l1 s1 r1 hx1 => ?_
  obtain ⟨ds, h2, h3⟩ := qv_bind h1
  cases h3
  rcases s1.seqLT r1 h2 with ⟨a, xs, rfl, h3, h4⟩ | ⟨rfl | rfl, a, xs, rfl, h3, h4⟩
  · rw [hc] at h3
    refine ⟨a, xs, rfl, .inl ⟨h3, fun p hp => ?_⟩⟩
    refine k _ rfl _ _ (g1.addB p (.tup xs)) (l1.trans (s1.leB hp)) (s1.addB hp) ?_
    by_cases z : q.isK = true
    · rw [if_pos z]
      unfold GRep Rep
      exact ⟨p, xs, rfl, SqT.of upd_same, (s1.leB hp).reps h4⟩
    · rw [if_neg z]
      unfold GRep Rep
      exact ⟨p, xs, rfl, upd_same, (s1.leB hp).reps h4⟩
  · rw [hc] at h3
    exact ⟨a, xs, rfl, .inr ⟨h3, k _ rfl _ H1 g1 l1 s1 r1⟩⟩
  · rw [hc] at h3
    exact ⟨a, xs, rfl, .inr ⟨h3, k _ rfl _ H1 g1 l1 s1 r1⟩⟩
def dLstOf (t : TQ) : TL := fun ρ => M.bind (t ρ) fun q μ => match qv q ρ μ with
  | some ds => some (.ok ds, μ)
  | none => none
theorem df_lstOf {p : Pos} (h : DQ X W a tq) (hm : X.mg "list" = none) (hg : Gl X "list" := by rfl) (he : starEach [a] X.env = [(false, eval a X.env)] := by rfl) (hpl : (backTo pos (starEach [] X.env)).any (·.1) = false := by rfl) : DF X W (.Call (.Name "list" p) [a] [] pos) (dLstOf tq) := by
  obtain ⟨te, p, r⟩ := h.ex
  refine ⟨_, pe_callTy call_list_of hg hm (by decide +kernel) (pa_cons p pa_nil he) (he := he) (hpl := hpl), fun c hc ρ μ g σ H Q rr μ' s hh hx k => ?_⟩
  refine (r c hc).then_ s hh hx fun q μ1 h1 v1 H1 g1 l1 s1 r1 hx1 => ?_
  obtain ⟨ds, h2, h3⟩ := qv_bind h1
  cases h3
  obtain ⟨a, xs, rfl, h3, h4⟩ := s1.seq r1 h2
  rw [hc] at h3
  exact ⟨a, xs, rfl, h3, fun p hp => k _ rfl p xs _ _ (l1.trans (le_own1 g1 p 0)) (s1.tmp hp) ⟨own1_at _ _ _, s1.freshT hp⟩ upd_same ((le_own1 _ _ _).reps h4)⟩
/-! ### small built-ins -/
def dMin2 (t u : TD) : TD := fun ρ => M.bind (t ρ) fun x => M.bind (u ρ) fun y => match x, y with
  | .int i, .int j => M.ret (.int (if j < i then j else i))
  | _, _ => M.stuck
def dMax2 (t u : TD) : TD := fun ρ => M.bind (t ρ) fun x => M.bind (u ρ) fun y => match x, y with
  | .int i, .int j => M.ret (.int (if j > i then j else i))
  | _, _ => M.stuck
theorem de_min2 {p : Pos} (ha : DE X W a ta) (hb : DE X W b tb) (hcm : X.calm = true) (hm : X.mg "min" = none) (hg : Gl X "min" := by rfl) (he : starEach [a, b] X.env = (false, eval a X.env) :: starEach [b] X.env := by rfl) (he2 : starEach [b] X.env = [(false, eval b X.env)] := by rfl) (hpl : (backTo pos (starEach [b] X.env)).any (·.1) = false := by rfl) : DE X W (.Call (.Name "min" p) [a, b] [] pos) (dMin2 ta tb) := by
  obtain ⟨te, p, r⟩ := ha.ex
  obtain ⟨ue, pu, ru⟩ := hb.ex
  refine ⟨_, pe_callB (call_min2 hcm) hg hm (by decide +kernel) (pa_cons p (pa_cons pu pa_nil he2) he) (he := he) (hpl := hpl), fun c hc ρ μ g σ H Q rr μ' s hh hx k => ?_⟩
  refine (r c hc).then_ s hh hx fun x μ1 h1 v1 H1 g1 l1 s1 r1 hx1 => ?_
  refine (ru c hc).then_ s1 h1 hx1 fun y μ2 h2 v2 H2 g2 l2 s2 r2 hx2 => ?_
  cases x <;> cases y <;> first | (cases h2; done) | skip
  obtain ⟨rfl, rfl⟩ := ret_some h2
  have e1 := rep_int r1
  have e2 := rep_int r2
  subst e1 e2
  exact ⟨_, _, rfl, k _ rfl _ H2 g2 (l1.trans l2) s2 (flat_rep rfl)⟩
theorem de_max2 {p : Pos} (ha : DE X W a ta) (hb : DE X W b tb) (hcm : X.calm = true) (hm : X.mg "max" = none) (hg : Gl X "max" := by rfl) (he : starEach [a, b] X.env = (false, eval a X.env) :: starEach [b] X.env := by rfl) (he2 : starEach [b] X.env = [(false, eval b X.env)] := by rfl) (hpl : (backTo pos (starEach [b] X.env)).any (·.1) = false := by rfl) : DE X W (.Call (.Name "max" p) [a, b] [] pos) (dMax2 ta tb) := by
  obtain ⟨te, p, r⟩ := ha.ex
  obtain ⟨ue, pu, ru⟩ := hb.ex
  refine ⟨_, pe_callB (call_max2 hcm) hg hm (by decide +kernel) (pa_cons p (pa_cons pu pa_nil he2) he) (he := he) (hpl := hpl), fun c hc ρ μ g σ H Q rr μ' s hh hx k => ?_⟩
  refine (r c hc).then_ s hh hx fun x μ1 h1 v1 H1 g1 l1 s1 r1 hx1 => ?_
  refine (ru c hc).then_ s1 h1 hx1 fun y μ2 h2 v2 H2 g2 l2 s2 r2 hx2 => ?_
  cases x <;> cases y <;> first | (cases h2; done) | skip
  obtain ⟨rfl, rfl⟩ := ret_some h2
  have e1 := rep_int r1
  have e2 := rep_int r2
  subst e1 e2
  exact ⟨_, _, rfl, k _ rfl _ H2 g2 (l1.trans l2) s2 (flat_rep rfl)⟩
def dInt (t : TD) : TD := fun ρ => M.bind (t ρ) fun x => match x with
  | .int i => M.ret (.int i)
  | .bl b => M.ret (.int (if b then 1 else 0))
  | _ => M.stuck
theorem de_intOf {p : Pos} (ha : DE X W a ta) (hm : X.mg "int" = none) (hg : Gl X "int" := by rfl) (he : starEach [a] X.env = [(false, eval a X.env)] := by rfl) (hpl : (backTo pos (starEach [] X.env)).any (·.1) = false := by rfl) : DE X W (.Call (.Name "int" p) [a] [] pos) (dInt ta) := by
  obtain ⟨te, p, r⟩ := ha.ex
  refine ⟨_, pe_callTy call_int1 hg hm (by decide +kernel) (pa_cons p pa_nil he) (he := he) (hpl := hpl), fun c hc ρ μ g σ H Q rr μ' s hh hx k => ?_⟩
  refine (r c hc).then_ s hh hx fun x μ1 h1 v1 H1 g1 l1 s1 r1 hx1 => ?_
  cases x with
  | int i =>
    obtain ⟨rfl, rfl⟩ := ret_some h1
    exact .inl ⟨i, by rw [rep_int r1], k _ rfl _ H1 g1 l1 s1 (flat_rep rfl)⟩
  | bl b =>
    obtain ⟨rfl, rfl⟩ := ret_some h1
    exact .inr ⟨b, by rw [rep_flat (d := .bl b) rfl r1], k _ rfl _ H1 g1 l1 s1 (flat_rep rfl)⟩
  | _ => cases h1
def dNeg (t : TD) : TD := fun ρ => M.bind (t ρ) fun x => match x with
  | .int i => M.ret (.int (-i))
  | _ => M.stuck
theorem de_neg (ha : DE X W a ta) : DE X W (.UnaryOp .USub a pos) (dNeg ta) := by
  obtain ⟨te, p, r⟩ := ha.ex
  refine ⟨_, pe_un un_neg p, fun c hc ρ μ g σ H Q rr μ' s hh hx k => ?_⟩
  refine (r c hc).then_ s hh hx fun x μ1 h1 v1 H1 g1 l1 s1 r1 hx1 => ?_
  cases x with
  | int i =>
    obtain ⟨rfl, rfl⟩ := ret_some h1
    exact ⟨i, rep_int r1, k _ rfl _ H1 g1 l1 s1 (flat_rep rfl)⟩
  | _ => cases h1
/-! ### x[i] = e, x the def's own list -/
def dsSetIx (i : Nat) (t : TD) (u : TD) : TO' := fun ρ μ => match ρ[i]? with
  | some (some (.ol ds)) => dsE t (fun d => dsE u fun k ρ μ => match k with
    | .int k => match ixN ds.length k with
      | some j => some (.nx (ρ.set i (some (.ol (ds.set j d)))), μ)
      | none => none
    | _ => none) ρ μ
  | _ => none
theorem ds_setIx {i : Nat} {x : Str} {p1 : Pos} (he : DE X W e ta) (hk : DE X W b tb) {spos tpos : Pos}
    (hps : ∀ {te : TE} {ue : TE}, PE X e te → PE X b ue → PS X (.Assign [.Subscript (.Name x p1) b tpos] e spos) (tAsg te (L2.gSub (tVar i) ue rSetL)) := by
      intro te ue p q; exact ps_asg p (pg_sub (pv _) q set_list)) :
    DS X W (.Assign [.Subscript (.Name x p1) b tpos] e spos) (dsSetIx i ta tb) := by
  obtain ⟨te, p, r⟩ := he.ex
  obtain ⟨ue, pu, ru⟩ := hk.ex
  refine ⟨_, hps p pu, fun c hc ρ μ g σ H D₀ o μ' s h k => ?_⟩
  obtain ⟨ds, eo, h⟩ := own_some h
  refine (r c hc).stm s h k fun d μ1 h1 v H1 g1 l1 s1 rp k1 => ?_
  obtain ⟨x1, hσ, p, xs, rfl, ho, hp, hr⟩ := s1.at eo
  refine ⟨_, hσ, ?_⟩
  refine (ru c hc).stm s1 h1 k1 fun kk μ2 h2 v2 H2 g2 l2 s2 rp2 k2 => ?_
  cases kk with
  | int k' =>
    have h2' : (match ixN ds.length k' with
      | some j => some (Out.nx (ρ.set i (some (.ol (ds.set j d)))), μ2)
      | none => none) = some (o, μ') := h2
    cases e3 : ixN ds.length k' with
    | none => rw [e3] at h2'; cases h2'
    | some j =>
      rw [e3] at h2'
      cases h2'
      obtain ⟨x2, hσ2, p2, xs2, e4, ho2, hp2, hr2⟩ := s2.at eo
      rw [hσ] at hσ2
      cases hσ2
      cases e4
      refine ⟨p, xs2, k', j, rfl, rep_int rp2, hp2, by rw [← hr2.length]; exact e3, ?_⟩
      exact k2 σ _ g2 (Le.refl _) (s2.wrt ho2 hσ ⟨p, _, rfl, ho2, upd_same, hr2.set j (l2.rep rp)⟩)
  | _ => cases h2
end
end DL
set_option Elab.async false
set_option linter.all false
set_option maxRecDepth 100000
set_option maxHeartbeats 4000000
set_option autoImplicit false
namespace DL
open PySem PySem.Spec L2
/-! ### mutable references -/
def G.amb1 (g : G) (p : Addr) : G := { ads := g.ads ++ [p], B := g.B, T := g.T, O := fun a => if a = p then some (.inr g.ads.length) else g.O a }
section
variable {c : Ct} {μ : Mu} {g g' : G} {σ : L2.St} {H H' : Hp} {ρ : Rho} {p : Addr}
theorem le_amb1 (g : G) (p : Addr) : Le g (g.amb1 p) := ⟨Same.refl _, fun k x e => by
  show (g.ads ++ [p])[k]? = some x
  rw [List.getElem?_append_left (List.getElem?_eq_some_iff.mp e).1]
  exact e, fun _ _ e => e⟩
theorem SH.amb1 (h : SH c μ g H) {j : Nat} (hp : g.O p = some (.inl j)) (hT : g.T p = none) {m : MO} (hm : RMO c.K (g.amb1 p) H p m) : SH c (μ ++ [m]) (g.amb1 p) H where
  sub := h.sub
  own := fun a e => by
    by_cases z : a = p
    · rw [z]; exact h.own p (by rw [hp]; exact fun z => by cases z)
    · have e' : (if a = p then some (Sum.inr g.ads.length) else g.O a) ≠ none := e
      rw [if_neg z] at e'
      exact h.own a e'
  ownNew := fun a i e => by
    have e' : (if a = p then some (Sum.inr g.ads.length) else g.O a) = some (.inl i) := e
    by_cases z : a = p
    · rw [if_pos z] at e'; cases e'
    · rw [if_neg z] at e'
      exact h.ownNew a i e'
  ownAt := fun a e => by
    by_cases z : a = p
    · rw [z]; exact h.ownAt p (by rw [hp]; exact fun z => by cases z)
    · have e' : (if a = p then some (Sum.inr g.ads.length) else g.O a) ≠ none := e
      rw [if_neg z] at e'
      exact h.ownAt a e'
  alen := by
    show (g.ads ++ [p]).length = (μ ++ [m]).length
    rw [List.length_append, List.length_append, h.alen]
    rfl
  amb := fun k a m' e1 e2 => by
    have e1' : (g.ads ++ [p])[k]? = some a := e1
    by_cases q : k < g.ads.length
    · rw [List.getElem?_append_left q] at e1'
      rw [List.getElem?_append_left (by rw [← h.alen]; exact q)] at e2
      obtain ⟨q1, q2⟩ := h.amb k a m' e1' e2
      refine ⟨q1.imp id fun q1 => ?_, q2.step (le_amb1 g p) rfl⟩
      show (if a = p then some (Sum.inr g.ads.length) else g.O a) = _
      rw [if_neg (h.ambNeO hp e1' e2)]; exact q1
    · rw [List.getElem?_append_right (by omega)] at e1'
      rw [List.getElem?_append_right (by rw [← h.alen]; omega)] at e2
      have hk : k - g.ads.length = 0 := by
        have := (List.getElem?_eq_some_iff.mp e1').1
        simp at this
        omega
      rw [hk] at e1'
      rw [← h.alen, hk] at e2
      cases e1'
      cases e2
      refine ⟨.inr ?_, hm⟩
      show (if p = p then some (Sum.inr g.ads.length) else g.O p) = _
      rw [if_pos rfl, show k = g.ads.length by omega]
  old := h.old
  oldT := h.oldT
  newB := h.newB
  b0 := h.b0
  a0 := fun k a e => (le_amb1 g p).a k a (h.a0 k a e)
  aNew := fun a e => by
    rcases List.mem_append.mp e with e | e
    · exact h.aNew a e
    · right
      rw [List.mem_singleton.mp e]
      exact h.ownNew p j hp
  tmpT := fun a u e => by
    obtain ⟨q1, q2⟩ := h.tmpT a u e
    refine ⟨?_, q2⟩
    show (if a = p then some (Sum.inr g.ads.length) else g.O a) = _
    have e' : g.T a = some u := e
    rw [if_neg (fun z => by rw [z, hT] at e'; cases e')]; exact q1
theorem SR.amb1 (h : SR c ρ μ g σ H) (hp : g.O p = some (.inl 0)) (hT : g.T p = none) {m : MO} (hm : RMO c.K (g.amb1 p) H p m) : SR c ρ (μ ++ [m]) (g.amb1 p) σ H :=
  { h.toSH.amb1 hp hT hm with
    slen := h.slen
    slot := fun i s x e1 e2 => (h.slot i s x e1 e2).step (le_amb1 g p) fun q e => by
      refine ⟨?_, rfl⟩
      show (if q = p then some (Sum.inr g.ads.length) else g.O q) = _
      rw [if_neg (fun z => by rw [z, hp] at e; cases e)]; exact e }
/-- what stands at a mutable reference is written -/
theorem SH.wrtA (h : SH c μ g H) {k : Nat} {a : Addr} {m m' : MO} (e1 : g.ads[k]? = some a) (e2 : μ[k]? = some m) (ho : g.O a = some (.inr k)) {o : HO} (hm : RMO c.K g (upd H a o) a m') : SH c (μ.set k m') g (upd H a o) where
  sub := fun b u e => by
    rw [upd_ne (fun z => by rw [z, h.own a (by rw [ho]; exact fun z => by cases z)] at e; cases e)]
    exact h.sub b u e
  own := h.own
  ownNew := h.ownNew
  ownAt := fun b e => by
    by_cases z : b = a
    · rw [z]; exact ⟨o, upd_same⟩
    · rw [upd_ne z]; exact h.ownAt b e
  alen := by rw [List.length_set]; exact h.alen
  amb := fun k' b m'' q1 q2 => by
    by_cases z : k = k'
    · subst z
      rw [e1] at q1
      cases q1
      rw [List.getElem?_set, if_pos rfl, if_pos (List.getElem?_eq_some_iff.mp e2).1] at q2
      cases q2
      exact ⟨.inr ho, hm⟩
    · rw [List.getElem?_set_ne z] at q2
      obtain ⟨r1, r2⟩ := h.amb k' b m'' q1 q2
      refine ⟨r1, r2.step (Le.refl g) (upd_ne fun w => ?_)⟩
      subst w
      rcases r1 with rfl | r1
      · obtain ⟨u, r2⟩ := r2
        rw [h.own b (by rw [ho]; exact fun z => by cases z)] at r2
        cases r2
      · rw [ho] at r1
        cases r1
        exact z rfl
  old := fun b u e n => by
    refine (upd_ne fun z => ?_).trans (h.old b u e n)
    subst z
    rcases h.aNew b (List.mem_of_getElem? e1) with w | w
    · exact n w
    · rw [w] at e; cases e
  oldT := fun b u e => by
    by_cases z : b = a
    · rw [z]; exact ⟨o, upd_same⟩
    · rw [upd_ne z]; exact h.oldT b u e
  newB := h.newB
  b0 := h.b0
  a0 := h.a0
  aNew := h.aNew
  tmpT := fun b u e => by
    obtain ⟨q1, q2⟩ := h.tmpT b u e
    exact ⟨q1, by rw [upd_ne (fun z => by rw [z, ho] at q1; cases q1)]; exact q2⟩
theorem SR.wrtA (h : SR c ρ μ g σ H) {k : Nat} {a : Addr} {m m' : MO} (e1 : g.ads[k]? = some a) (e2 : μ[k]? = some m) (ho : g.O a = some (.inr k)) {o : HO} (hm : RMO c.K g (upd H a o) a m') : SR c ρ (μ.set k m') g σ (upd H a o) :=
  { h.toSH.wrtA e1 e2 ho hm with
    slen := h.slen
    slot := fun j s x q1 q2 => (h.slot j s x q1 q2).step (Le.refl g) fun q e => ⟨e, upd_ne (fun w => by rw [w, ho] at e; cases e)⟩ }
/-- what stands at a mutable reference stands still from now on -/
theorem SH.fzA (h : SH c μ g H) {k : Nat} {a : Addr} {m : MO} (e1 : g.ads[k]? = some a) (e2 : μ[k]? = some m) (ho : g.O a = some (.inr k)) {o : HO} (hH : H a = some o) : Le g (g.fz a o) ∧ SH c (μ.set k .dead) (g.fz a o) H := by
  have hB : g.B a = none := h.own a (by rw [ho]; exact fun z => by cases z)
  have le : Le g (g.fz a o) := ⟨fun b u e => by
    show upd g.B a o b = some u
    rw [upd_ne (fun z => by rw [z, hB] at e; cases e)]
    exact e, fun _ _ e => e, fun _ _ e => e⟩
  refine ⟨le, ?_⟩
  exact {
    sub := fun b u e => by
      have e' : upd g.B a o b = some u := e
      by_cases z : b = a
      · subst z
        rw [upd_same] at e'
        rw [hH, e']
      · rw [upd_ne z] at e'
        exact h.sub b u e'
    own := fun b e => by
      have e' : (if b = a then none else g.O b) ≠ none := e
      by_cases z : b = a
      · rw [if_pos z] at e'; exact absurd rfl e'
      · rw [if_neg z] at e'
        show upd g.B a o b = none
        rw [upd_ne z]; exact h.own b e'
    ownNew := fun b j e => by
      have e' : (if b = a then none else g.O b) = some (.inl j) := e
      by_cases z : b = a
      · rw [if_pos z] at e'; cases e'
      · rw [if_neg z] at e'; exact h.ownNew b j e'
    ownAt := fun b e => by
      have e' : (if b = a then none else g.O b) ≠ none := e
      by_cases z : b = a
      · rw [if_pos z] at e'; exact absurd rfl e'
      · rw [if_neg z] at e'; exact h.ownAt b e'
    alen := by rw [List.length_set]; exact h.alen
    amb := fun k' b m'' q1 q2 => by
      by_cases z : k = k'
      · subst z
        have q1' : g.ads[k]? = some b := q1
        rw [e1] at q1'
        cases q1'
        rw [List.getElem?_set, if_pos rfl, if_pos (List.getElem?_eq_some_iff.mp e2).1] at q2
        cases q2
        exact ⟨.inl rfl, o, upd_same⟩
      · rw [List.getElem?_set_ne z] at q2
        obtain ⟨r1, r2⟩ := h.amb k' b m'' q1 q2
        refine ⟨r1.imp id fun r1 => ?_, r2.step le rfl⟩
        show (if b = a then none else g.O b) = _
        rw [if_neg (fun w => by rw [w, ho] at r1; cases r1; exact z rfl)]; exact r1
    old := h.old
    oldT := h.oldT
    newB := fun b u e => by
      have e' : upd g.B a o b = some u := e
      by_cases z : b = a
      · right
        rw [z]
        rcases h.aNew a (List.mem_of_getElem? e1) with w | w
        · exact .inr w
        · exact .inl w
      · rw [upd_ne z] at e'
        exact h.newB b u e'
    b0 := fun b u e => le.b b u (h.b0 b u e)
    a0 := h.a0
    aNew := h.aNew
    tmpT := fun b u e => by
      obtain ⟨q1, q2⟩ := h.tmpT b u e
      refine ⟨?_, q2⟩
      show (if b = a then none else g.O b) = _
      rw [if_neg (fun z => by rw [z, ho] at q1; cases q1)]; exact q1 }
theorem SR.fzA (h : SR c ρ μ g σ H) {k : Nat} {a : Addr} {m : MO} (e1 : g.ads[k]? = some a) (e2 : μ[k]? = some m) (ho : g.O a = some (.inr k)) {o : HO} (hH : H a = some o) : SR c ρ (μ.set k .dead) (g.fz a o) σ H :=
  { (h.toSH.fzA e1 e2 ho hH).2 with
    slen := h.slen
    slot := fun j s x q1 q2 => (h.slot j s x q1 q2).step (h.toSH.fzA e1 e2 ho hH).1 fun q e => by
      refine ⟨?_, rfl⟩
      show (if q = a then none else g.O q) = _
      rw [if_neg (fun w => by rw [w, ho] at e; cases e)]; exact e }
/-- a slot that holds a value holds another value for the same thing -/
theorem SR.reSh (h : SR c ρ μ g σ H) {i : Nat} {v : V} (hσ : σ[i]? = some (some v)) {d : D} (r : GRep c.K g d v) : SR c (ρ.set i (some (.sh d))) μ g σ H :=
  { h.toSH with
    slen := by rw [List.length_set]; exact h.slen
    slot := fun j s x e1 e2 => by
      by_cases z : i = j
      · subst z
        rw [hσ] at e2
        cases e2
        rw [List.getElem?_set, if_pos rfl] at e1
        by_cases q : i < ρ.length
        · rw [if_pos q] at e1
          cases e1
          exact ⟨v, rfl, r⟩
        · rw [if_neg q] at e1
          cases e1
      · rw [List.getElem?_set_ne z] at e1
        exact h.slot j s x e1 e2 }
end
section
variable {X : Cx} {W : WX} {a b e o : Expr} {ta tb te' to' : TD} {tl : TL} {pos : Pos} {rest : List Stmt} {u : TO'}
/-- a new list, at a mutable reference -/
def dAmb (t : TL) : TD := fun ρ => M.bind (t ρ) fun ds μ => some (.ok (.mref μ.length), μ ++ [.lst ds])
theorem de_amb (h : DF X W a tl) : DE X W a (dAmb tl) := by
  obtain ⟨te, p, r⟩ := h.ex
  refine ⟨te, p, fun c hc ρ μ g σ H Q rr μ' s hh hx k => ?_⟩
  refine (r c hc).then_ s hh hx fun ds μ1 h1 p xs H1 g1 l1 s1 ho hp r1 hx1 => ?_
  cases h1
  refine k _ rfl _ H1 (g1.amb1 p) (l1.trans (le_amb1 _ _)) (s1.amb1 (m := .lst ds) ho.1 ho.2 ⟨xs, hp, (le_amb1 _ _).reps r1⟩) ?_
  unfold GRep Rep
  refine ⟨p, ?_, rfl⟩
  show (g1.ads ++ [p])[μ1.length]? = some p
  rw [← s1.alen, List.getElem?_append_right (Nat.le_refl _), Nat.sub_self]
  rfl
/-- slot i's own list stands at a mutable reference from now on -/
def dsAmb (i : Nat) : TO' := fun ρ μ => match ρ[i]? with
  | some (some (.ol ds)) => some (.nx (ρ.set i (some (.sh (.mref μ.length)))), μ ++ [.lst ds])
  | _ => none
theorem gh_amb (i : Nat) : ∀ c : Ct, c.K = X.K → ∀ ρ μ g σ H o μ', SR c ρ μ g σ H → dsAmb i ρ μ = some (o, μ') → ∃ ρ' g', o = .nx ρ' ∧ Le g g' ∧ SR c ρ' μ' g' σ H := fun c hc ρ μ g σ H o μ' s h => by
  obtain ⟨ds, e, h⟩ := own_some h
  cases h
  obtain ⟨x, hx, p, xs, rfl, h2, h3, h4⟩ := s.at e
  refine ⟨_, g.amb1 p, rfl, le_amb1 _ _, ?_⟩
  have e2 : (g.amb1 p).ads[μ.length]? = some p := by
    show (g.ads ++ [p])[μ.length]? = some p
    rw [← s.alen, List.getElem?_append_right (Nat.le_refl _), Nat.sub_self]
    rfl
  exact { s.toSH.amb1 (m := .lst ds) h2 (s.toSH.noT h2) ⟨xs, h3, (le_amb1 _ _).reps h4⟩ with
    slen := by rw [List.length_set]; exact s.slen
    slot := fun j s' x' e1' e2' => by
      by_cases z : i = j
      · subst z
        rw [hx] at e2'
        cases e2'
        rw [List.getElem?_set, if_pos rfl] at e1'
        by_cases q : i < ρ.length
        · rw [if_pos q] at e1'
          cases e1'
          refine ⟨.ref p, rfl, ?_⟩
          unfold GRep Rep
          exact ⟨p, e2, rfl⟩
        · rw [if_neg q] at e1'
          cases e1'
      · rw [List.getElem?_set_ne z] at e1'
        refine (s.slot j s' x' e1' e2').step (le_amb1 _ _) fun q eq => ⟨?_, rfl⟩
        show (if q = p then some (Sum.inr g.ads.length) else g.O q) = _
        rw [if_neg (fun w => by rw [w, h2] at eq; cases eq; exact z rfl)]; exact eq }
theorem dss_amb (i : Nat) (h : DSs X W rest u) : DSs X W rest (dsSeq (dsAmb i) u) := dss_gh h (gh_amb i)
/-- the list at slot i's mutable reference stands still from now on -/
def dsFzM (i : Nat) : TO' := fun ρ μ => match ρ[i]? with
  | some (some (.sh (.mref k))) => match μ[k]? with
    | some (.lst ds) => some (.nx (ρ.set i (some (.sh (.lst ds)))), μ.set k .dead)
    | _ => none
  | _ => none
theorem dsFzM_some {i : Nat} {ρ : Rho} {μ μ' : Mu} {o : Out} (h : dsFzM i ρ μ = some (o, μ')) : ∃ k ds, ρ[i]? = some (some (.sh (.mref k))) ∧ μ[k]? = some (.lst ds) ∧ o = .nx (ρ.set i (some (.sh (.lst ds)))) ∧ μ' = μ.set k .dead := by
  unfold dsFzM at h
  split at h
  · rename_i k e1
    split at h
    · rename_i ds e2
      cases h
      exact ⟨k, ds, e1, e2, rfl, rfl⟩
    · cases h
  · cases h
theorem gh_fzM (i : Nat) : ∀ c : Ct, c.K = X.K → ∀ ρ μ g σ H o μ', SR c ρ μ g σ H → dsFzM i ρ μ = some (o, μ') → ∃ ρ' g', o = .nx ρ' ∧ Le g g' ∧ SR c ρ' μ' g' σ H := fun c hc ρ μ g σ H o μ' s h => by
  obtain ⟨k, ds, e1, e2, rfl, rfl⟩ := dsFzM_some h
  obtain ⟨x, hx, v, rfl, hv⟩ := s.at e1
  unfold GRep Rep at hv
  obtain ⟨a, ha, rfl⟩ := hv
  obtain ⟨q1, xs, q2, q3⟩ := s.amb k a _ ha e2
  rcases q1 with q1 | q1
  · cases q1
  have le := (s.toSH.fzA ha e2 q1 q2).1
  refine ⟨_, g.fz a (.lst xs), rfl, le, (s.fzA ha e2 q1 q2).reSh hx ?_⟩
  unfold GRep Rep
  exact ⟨a, xs, rfl, upd_same, le.reps q3⟩
theorem dss_fzM (i : Nat) (h : DSs X W rest u) : DSs X W rest (dsSeq (dsFzM i) u) := dss_gh h (gh_fzM i)
/-- o.append(e), o a list at a mutable reference -/
def muLst (d : D) (μ : Mu) : Option (Nat × List D) := match d with
  | .mref k => match μ[k]? with
    | some (.lst ds) => some (k, ds)
    | _ => none
  | _ => none
theorem muLst_some {d : D} {μ : Mu} {k : Nat} {ds : List D} (h : muLst d μ = some (k, ds)) : d = .mref k ∧ μ[k]? = some (.lst ds) := by
  unfold muLst at h
  split at h
  · split at h
    · rename_i e
      cases h
      exact ⟨rfl, e⟩
    · cases h
  · cases h
theorem SR.mu {c : Ct} {ρ : Rho} {μ : Mu} {g : G} {σ : L2.St} {H : Hp} (s : SR c ρ μ g σ H) {d : D} {v : V} {k : Nat} {ds : List D} (r : GRep c.K g d v) (h : muLst d μ = some (k, ds)) : ∃ a xs, v = .ref a ∧ g.ads[k]? = some a ∧ μ[k]? = some (.lst ds) ∧ g.O a = some (.inr k) ∧ H a = some (.lst xs) ∧ GReps c.K g ds xs := by
  obtain ⟨rfl, e⟩ := muLst_some h
  unfold GRep Rep at r
  obtain ⟨a, ha, rfl⟩ := r
  obtain ⟨q1, xs, q2, q3⟩ := s.amb k a _ ha e
  rcases q1 with q1 | q1
  · cases q1
  exact ⟨a, xs, rfl, ha, e, q1, q2, q3⟩
def dsAppM (to' te' : TD) : TO' := dsE to' fun d ρ μ => match muLst d μ with
  | some _ => dsE te' (fun y ρ μ => match muLst d μ with
    | some (k, ds) => if ds.length < sizeLine then some (.nx ρ, μ.set k (.lst (ds ++ [y]))) else none
    | none => none) ρ μ
  | none => none
theorem ds_appM {apos cpos : Pos} (ho : DE X W o to') (he : DE X W e te')
    (hpe : ∀ t1 t2, PE X o t1 → PE X e t2 → PE X (.Call (.Attribute o "append" apos) [e] [] cpos) (tBM X.K "list" rAppend t1 (tCons t2 tNil)) := by
      intro t1 t2 p1 p2; exact pe_bm PySem.F.plainAttrs_list PySem.F.slot_list_append PySem.F.type_list_append mt_append p1 (pa_cons p2 pa_nil))
    (hs : swapsWith (.Call (.Attribute o "append" apos) [e] [] cpos) none pos.line X.env = pure false := by rfl) :
    DS X W (.Expr (.Call (.Attribute o "append" apos) [e] [] cpos) pos) (dsAppM to' te') := by
  obtain ⟨t1, p1, r1⟩ := ho.ex
  obtain ⟨t2, p2, r2⟩ := he.ex
  refine ⟨_, ps_expr (hpe t1 t2 p1 p2) hs, fun c hc ρ μ g σ H D₀ out μ' s h k => ?_⟩
  refine (r1 c hc).stm s h k fun d μ1 h1 v H1 g1 l1 s1 rp k1 => ?_
  cases e0 : muLst d μ1 with
  | none => rw [e0] at h1; cases h1
  | some q =>
    obtain ⟨k0, ds0⟩ := q
    rw [e0] at h1
    obtain ⟨a0, xs0, rfl, _, _, _, hh0, _⟩ := s1.mu rp e0
    refine ⟨.inl ⟨rfl, xs0, SqL.of hh0⟩, ?_⟩
    refine (r2 c hc).stm s1 h1 k1 fun y μ2 h2 v2 H2 g2 l2 s2 rp2 k2 => ?_
    cases e1 : muLst d μ2 with
    | none => rw [e1] at h2; cases h2
    | some q =>
      obtain ⟨k', ds⟩ := q
      rw [e1] at h2
      have h2' : (if ds.length < sizeLine then some (Out.nx ρ, μ2.set k' (.lst (ds ++ [y]))) else none) = some (out, μ') := h2
      obtain ⟨a, xs, e3, ha, hμ, hO, hH, hr⟩ := s2.mu (l2.rep rp) e1
      cases e3
      by_cases z : ds.length < sizeLine
      · rw [if_pos z] at h2'
        cases h2'
        refine ⟨a0, xs, v2, rfl, rfl, hH, by rw [← hr.length]; exact z, ?_⟩
        exact k2 σ _ g2 (Le.refl _) (s2.wrtA (m' := .lst (ds ++ [y])) ha hμ hO ⟨_, upd_same, Reps.append hr (reps_cons rp2 reps_nil)⟩)
      · rw [if_neg z] at h2'
        cases h2'
/-- o[i] = e, o a list at a mutable reference -/
def dsSetIxM (te' to' tb : TD) : TO' := dsE te' fun y => dsE to' fun d => dsE tb fun i ρ μ => match i with
  | .int i => match muLst d μ with
    | some (k, ds) => match ixN ds.length i with
      | some j => some (.nx ρ, μ.set k (.lst (ds.set j y)))
      | none => none
    | none => none
  | _ => none
theorem ds_setIxM {spos tpos : Pos} (he : DE X W e te') (ho : DE X W o to') (hb : DE X W b tb)
    (hps : ∀ {t1 t2 t3 : TE}, PE X e t1 → PE X o t2 → PE X b t3 → PS X (.Assign [.Subscript o b tpos] e spos) (tAsg t1 (L2.gSub t2 t3 rSetL)) := by
      intro t1 t2 t3 p q r; exact ps_asg p (pg_sub q r set_list)) :
    DS X W (.Assign [.Subscript o b tpos] e spos) (dsSetIxM te' to' tb) := by
  obtain ⟨t1, p1, r1⟩ := he.ex
  obtain ⟨t2, p2, r2⟩ := ho.ex
  obtain ⟨t3, p3, r3⟩ := hb.ex
  refine ⟨_, hps p1 p2 p3, fun c hc ρ μ g σ H D₀ out μ' s h k => ?_⟩
  refine (r1 c hc).stm s h k fun y μ1 h1 v1 H1 g1 l1 s1 rp1 k1 => ?_
  refine (r2 c hc).stm s1 h1 k1 fun d μ2 h2 v2 H2 g2 l2 s2 rp2 k2 => ?_
  refine (r3 c hc).stm s2 h2 k2 fun i μ3 h3 v3 H3 g3 l3 s3 rp3 k3 => ?_
  cases i with
  | int i =>
    have h3' : (match muLst d μ3 with
      | some (k, ds) => match ixN ds.length i with
        | some j => some (Out.nx ρ, μ3.set k (.lst (ds.set j y)))
        | none => none
      | none => none) = some (out, μ') := h3
    cases e1 : muLst d μ3 with
    | none => rw [e1] at h3'; cases h3'
    | some q =>
      obtain ⟨k', ds⟩ := q
      rw [e1] at h3'
      simp only at h3'
      cases e2 : ixN ds.length i with
      | none => rw [e2] at h3'; cases h3'
      | some j =>
        rw [e2] at h3'
        cases h3'
        obtain ⟨a, xs, rfl, ha, hμ, hO, hH, hr⟩ := s3.mu (l3.rep rp2) e1
        refine ⟨a, xs, i, j, rfl, rep_int rp3, hH, by rw [← hr.length]; exact e2, ?_⟩
        exact k3 σ _ g3 (Le.refl _) (s3.wrtA (m' := .lst (ds.set j y)) ha hμ hO ⟨_, upd_same, hr.set j ((l2.trans l3).rep rp1)⟩)
  | _ => cases h3
end
/-! ### what a def leaves behind -/
mutual
def D.low (n : Nat) : D → Bool
  | .mref k => decide (k < n)
  | .tup ds => D.lowAll n ds
  | .kt ds => D.lowAll n ds
  | .lst ds => D.lowAll n ds
  | .rd ds => D.lowAll n ds
  | .obj _ _ ds => D.lowAll n ds
  | .dk _ ds => D.lowAll n ds
  | _ => true
def D.lowAll (n : Nat) : List D → Bool
  | [] => true
  | d :: ds => D.low n d && D.lowAll n ds
end
def MO.low (n : Nat) : MO → Bool
  | .dead => true
  | .lst ds => D.lowAll n ds
  | .ins _ _ ds => D.lowAll n ds
  | .dk _ ds => D.lowAll n ds
  | .dt _ ds => D.lowAll n ds
section
variable {K : Fg} {ads : List Addr} {B : Hp} {n : Nat}
mutual
theorem below_rep : ∀ {d : D} {v : V}, Rep K ads B d v → d.low n = true → Rep K (ads.take n) B d v
  | .non, v, h, _ => by unfold Rep at *; exact h
  | .bl b, v, h, _ => by unfold Rep at *; exact h
  | .int i, v, h, _ => by unfold Rep at *; exact h
  | .str s, v, h, _ => by unfold Rep at *; exact h
  | .ref a, v, h, _ => by unfold Rep at *; exact h
  | .ty n, v, h, _ => by unfold Rep at *; exact h
  | .mref k, v, h, b => by
    unfold Rep at *
    unfold D.low at b
    obtain ⟨a, h1, h2⟩ := h
    exact ⟨a, by rw [List.getElem?_take_of_lt (of_decide_eq_true b)]; exact h1, h2⟩
  | .tup ds, v, h, b => by
    unfold Rep at *
    unfold D.low at b
    obtain ⟨a, xs, h1, h2, h3⟩ := h
    exact ⟨a, xs, h1, h2, belows_reps h3 b⟩
  | .kt ds, v, h, b => by
    unfold Rep at *
    unfold D.low at b
    obtain ⟨a, xs, h1, h2, h3⟩ := h
    exact ⟨a, xs, h1, h2, belows_reps h3 b⟩
  | .lst ds, v, h, b => by
    unfold Rep at *
    unfold D.low at b
    obtain ⟨a, xs, h1, h2, h3⟩ := h
    exact ⟨a, xs, h1, h2, belows_reps h3 b⟩
  | .rd ds, v, h, b => by
    unfold Rep at *
    unfold D.low at b
    obtain ⟨a, xs, h1, h2, h3⟩ := h
    exact ⟨a, xs, h1, h2, belows_reps h3 b⟩
  | .obj C ns ds, v, h, b => by
    unfold Rep at *
    unfold D.low at b
    obtain ⟨a, dx, xs, h1, h2, h4, h3⟩ := h
    exact ⟨a, dx, xs, h1, h2, h4, belows_reps h3 b⟩
  | .dk ks ds, v, h, b => by
    unfold Rep at *
    unfold D.low at b
    obtain ⟨a, xs, h1, h2, h4, h3⟩ := h
    exact ⟨a, xs, h1, h2, h4, belows_reps h3 b⟩
theorem belows_reps : ∀ {ds : List D} {xs : List V}, Reps K ads B ds xs → D.lowAll n ds = true → Reps K (ads.take n) B ds xs
  | [], xs, h, _ => by rw [reps_nil_inv h]; exact reps_nil
  | d :: ds, xs, h, b => by
    obtain ⟨x, r, rfl, hx, t⟩ := reps_cons_inv h
    unfold D.lowAll at b
    obtain ⟨b1, b2⟩ := Bool.and_eq_true_iff.mp b
    exact reps_cons (below_rep hx b1) (belows_reps t b2)
end
end
def G.cut (g : G) (n : Nat) : G := { ads := g.ads.take n, B := g.B, T := g.T, O := fun a => match g.O a with
  | some (.inr k) => if k < n then some (.inr k) else none
  | x => x }
theorem cut_O {g : G} {n : Nat} {a : Addr} {q : Sum Nat Nat} (h : (g.cut n).O a = some q) : g.O a = some q := by
  have h' : (match g.O a with
    | some (.inr k) => if k < n then some (Sum.inr k) else none
    | x => x) = some q := h
  cases e : g.O a with
  | none => rw [e] at h'; cases h'
  | some r =>
    rw [e] at h'
    cases r with
    | inl i => exact h'
    | inr k =>
      have h2 : (if k < n then some (Sum.inr k) else none) = some q := h'
      by_cases z : k < n
      · rw [if_pos z] at h2; exact h2
      · rw [if_neg z] at h2; cases h2
theorem cut_inl {g : G} {n : Nat} {a : Addr} {i : Nat} (h : g.O a = some (.inl i)) : (g.cut n).O a = some (.inl i) := by
  show (match g.O a with
    | some (.inr k) => if k < n then some (Sum.inr k) else none
    | x => x) = _
  rw [h]
theorem cut_inr {g : G} {n : Nat} {a : Addr} {k : Nat} (h : g.O a = some (.inr k)) (hk : k < n) : (g.cut n).O a = some (.inr k) := by
  show (match g.O a with
    | some (.inr k) => if k < n then some (Sum.inr k) else none
    | x => x) = _
  rw [h]
  show (if k < n then some (Sum.inr k) else none) = _
  rw [if_pos hk]
theorem SH.cut {c : Ct} {μ : Mu} {g : G} {H : Hp} {n : Nat} (h : SH c μ g H) (hn : c.A0.length ≤ n) (hb : (μ.take n).all (MO.low n) = true) : SH c (μ.take n) (g.cut n) H where
  sub := h.sub
  own := fun a e => by
    cases q : (g.cut n).O a with
    | none => exact absurd q e
    | some r => exact h.own a (by rw [cut_O q]; exact fun z => by cases z)
  ownNew := fun a i e => h.ownNew a i (cut_O e)
  ownAt := fun a e => by
    cases q : (g.cut n).O a with
    | none => exact absurd q e
    | some r => exact h.ownAt a (by rw [cut_O q]; exact fun z => by cases z)
  alen := by
    show (g.ads.take n).length = _
    rw [List.length_take, List.length_take, h.alen]
  amb := fun k a m e1 e2 => by
    have e1' : (g.ads.take n)[k]? = some a := e1
    have hk : k < n := by
      have := (List.getElem?_eq_some_iff.mp e1').1
      rw [List.length_take] at this
      omega
    rw [List.getElem?_take_of_lt hk] at e1'
    have e2' := e2
    rw [List.getElem?_take_of_lt hk] at e2'
    obtain ⟨q1, q2⟩ := h.amb k a m e1' e2'
    refine ⟨q1.imp id fun q1 => cut_inr q1 hk, ?_⟩
    have b := List.all_eq_true.mp hb m (List.mem_of_getElem? e2)
    cases m with
    | dead => exact q2
    | lst ds => obtain ⟨xs, h1, h2⟩ := q2; exact ⟨xs, h1, belows_reps h2 b⟩
    | ins C ns ds => obtain ⟨dx, xs, h1, h2, h3⟩ := q2; exact ⟨dx, xs, h1, h2, belows_reps h3 b⟩
    | dk ks ds => obtain ⟨xs, h1, h2, h3⟩ := q2; exact ⟨xs, h1, h2, belows_reps h3 b⟩
    | dt ks ds => obtain ⟨xs, h1, h2, h3⟩ := q2; exact ⟨xs, h1, h2, belows_reps h3 b⟩
  old := h.old
  oldT := h.oldT
  newB := h.newB
  b0 := h.b0
  a0 := fun k a e => by
    show (g.ads.take n)[k]? = some a
    have hk : k < n := Nat.lt_of_lt_of_le (List.getElem?_eq_some_iff.mp e).1 hn
    rw [List.getElem?_take_of_lt hk]
    exact h.a0 k a e
  aNew := fun a e => h.aNew a (List.mem_of_mem_take e)
  tmpT := fun a u e => by
    obtain ⟨q1, q2⟩ := h.tmpT a u e
    exact ⟨cut_inl q1, q2⟩
/-- a def's meaning, what it made for itself forgotten -/
def scopeF (F : List D → M D) : List D → M D := fun ds μ => match F ds μ with
  | some (.ok d, μ') => if (d.low μ.length && (μ'.take μ.length).all (MO.low μ.length)) = true then some (.ok d, μ'.take μ.length) else none
  | some (.ex C ns es, μ') => if (D.lowAll μ.length es && (μ'.take μ.length).all (MO.low μ.length)) = true then some (.ex C ns es, μ'.take μ.length) else none
  | none => none
theorem spD_scope {K : Fg} {n : Nat} {F : List D → M D} : ∀ vs H Q E, spD K n (scopeF F) vs H Q E → spD K n F vs H Q E := fun vs H Q E h => by
  obtain ⟨ds, μ, g, r, μ', h1, h2, h3, h4, h5, h6⟩ := h
  unfold scopeF at h4
  have lecut : ∀ g', Le g g' → SH (Ct.call K g H) μ' g' H → Le g (g'.cut μ.length) := fun g' l _ => ⟨l.b, fun k a e => by
    show (g'.ads.take μ.length)[k]? = some a
    rw [List.getElem?_take_of_lt (by rw [← h2.alen]; exact (List.getElem?_eq_some_iff.mp e).1)]
    exact l.a k a e, l.t⟩
  have lecut' : ∀ g', Le g g' → Le g (g'.cut μ.length) := fun g' l => ⟨l.b, fun k a e => by
    show (g'.ads.take μ.length)[k]? = some a
    rw [List.getElem?_take_of_lt (by rw [← h2.alen]; exact (List.getElem?_eq_some_iff.mp e).1)]
    exact l.a k a e, l.t⟩
  have hA : (Ct.call K g H).A0.length ≤ μ.length := by
    show g.ads.length ≤ _
    rw [h2.alen]
    exact Nat.le_refl _
  cases e : F ds μ with
  | none => rw [e] at h4; cases h4
  | some q =>
    obtain ⟨r1, μ1⟩ := q
    rw [e] at h4
    cases r1 with
    | ok d =>
      have h4' : (if (d.low μ.length && (μ1.take μ.length).all (MO.low μ.length)) = true then some (Res.ok d, μ1.take μ.length) else none) = some (r, μ') := h4
      by_cases z : (d.low μ.length && (μ1.take μ.length).all (MO.low μ.length)) = true
      · rw [if_pos z] at h4'
        cases h4'
        obtain ⟨z1, z2⟩ := Bool.and_eq_true_iff.mp z
        refine ⟨ds, μ, g, .ok d, μ1, h1, h2, h3, e, fun d' ed v H' g' l s rp => ?_, fun C ns es ed => by cases ed⟩
        cases ed
        exact h5 d rfl v H' (g'.cut μ.length) (lecut' g' l) (s.cut hA z2) (below_rep rp z1)
      · rw [if_neg z] at h4'
        cases h4'
    | ex C ns es =>
      have h4' : (if (D.lowAll μ.length es && (μ1.take μ.length).all (MO.low μ.length)) = true then some (Res.ex C ns es, μ1.take μ.length) else none) = some (r, μ') := h4
      by_cases z : (D.lowAll μ.length es && (μ1.take μ.length).all (MO.low μ.length)) = true
      · rw [if_pos z] at h4'
        cases h4'
        obtain ⟨z1, z2⟩ := Bool.and_eq_true_iff.mp z
        refine ⟨ds, μ, g, .ex C ns es, μ1, h1, h2, h3, e, (fun d ed => by cases ed), fun C' ns' es' ed d H' g' l s xx => ?_⟩
        cases ed
        refine h6 C ns es rfl d H' (g'.cut μ.length) (lecut' g' l) (s.cut hA z2) ?_
        cases d with
        | none => exact xx
        | some d =>
          obtain ⟨xs, x1, x2, x3⟩ := xx
          exact ⟨xs, x1, x2, belows_reps x3 z1⟩
      · rw [if_neg z] at h4'
        cases h4'
theorem Known.scope {P : Program} {w : World} {K : Fg} {mg : Str → Option Value} {base : Heap} {x : Str} {k n : Nat} {F : List D → M D} (h : Known P w K mg base x k n F) : Known P w K mg base x k n (scopeF F) := by
  obtain ⟨f, fd, ps, h1, h2, h3, h4, h5⟩ := h.ex
  exact ⟨f, fd, ps, h1, h2, h3, h4, h5.imp spD_scope⟩
end DL
set_option Elab.async false
set_option linter.all false
set_option maxRecDepth 100000
set_option maxHeartbeats 4000000
set_option autoImplicit false
namespace DL
open PySem PySem.Spec PyProof.Rows L2
open Sem (wp)
/-! ### lists and tuples under one word -/
def ItrK (k : Bool) (h : Heap) (it a : Addr) (i : Nat) : Prop := match k with
  | true => h.IsTupleIter it a i
  | false => h.IsListIter it a i
def HasK (k : Bool) (h : Heap) (a : Addr) (its : Array Value) : Prop := match k with
  | true => h.IsTuple a its
  | false => h.IsList a its
def SqK (k : Bool) (K : Fg) (H : Hp) (a : Addr) (xs : List V) : Prop := match k with
  | true => SqT K H a xs
  | false => SqL K H a xs
theorem sqK_mono {k : Bool} {K : Fg} {H H' : Hp} {a : Addr} {xs : List V} (h : SqK k K H a xs) (e : Same H H') : SqK k K H' a xs := by
  cases k with
  | true => exact sqT_mono h e
  | false => exact sqL_mono h e
theorem drawsK (k : Bool) {P : Program} {w : World} {A : Around} (hh : A.handled = none) (it a : Addr) (hne : a ≠ it) (its : Array Value) :
    Draws P w A it [it, a] its.size (fun i v => its[i]? = some v) (fun i h => ItrK k h it a i ∧ HasK k h a its) := by
  cases k with
  | true => exact Draws.tuple hh it a hne its
  | false => exact Draws.list hh it a hne its
theorem ItrK.at {k : Bool} {h h' : Heap} {it a : Addr} {i : Nat} (x : ItrK k h it a i) (e : ∀ o, h.get? it = some o → h'.get? it = some o) : ItrK k h' it a i := by
  cases k with
  | true => exact Heap.IsTupleIter.at x e
  | false => exact Heap.IsListIter.at x e
theorem ItrK.rec_ {k : Bool} {h : Heap} {it a : Addr} {i : Nat} (x : ItrK k h it a i) : ∃ o, h.get? it = some o ∧ ∀ v, o.data ≠ .cell v := by
  cases k with
  | true =>
    obtain ⟨o, ho, hc, hd⟩ := x
    exact ⟨o, ho, fun v q => by rw [hd] at q; cases q⟩
  | false =>
    obtain ⟨o, ho, hc, hd⟩ := x
    exact ⟨o, ho, fun v q => by rw [hd] at q; cases q⟩
section
variable {X : Cx} {pins : List (Addr × Obj)} {σ : L2.St} {H : Hp} {s : Shared} {a : Addr} {xs ys : List V} {k : Bool}
theorem seqK_at (I : Inv X pins σ H s) (h : SqK k X.K H a xs) : ∃ its : List Value, Vals xs its ∧ HasK k s.heap a its.toArray ∧ xs.length ≤ sizeLine := by
  cases k with
  | true =>
    obtain ⟨its, r, p, z⟩ := I.tuple h
    exact ⟨its, r, p, z⟩
  | false =>
    obtain ⟨its, r, p, z⟩ := I.list h
    exact ⟨its, r, p.isList, z⟩
theorem seqK_inj (I : Inv X pins σ H s) (h : SqK k X.K H a xs) (h' : SqK k X.K H a ys) : xs = ys := by
  cases k with
  | true => exact I.tuple_inj h h'
  | false => exact I.list_inj h h'
end
/-! ### enumerate(x) -/
set_option maxHeartbeats 1000000 in
theorem enum_new1 {v : Value} {o : Obj} {Hy : Heap → Prop} (B : Begins v o Hy) :
    Meets (Builtin.«enumerate.__new__» ⟨[.type "enumerate", v], []⟩) (fun _ R s => Hy s.heap ∧
      R (.ok (.ret (.ref (s.heap.push o).objs.size))) { s with heap := (s.heap.push o).push { cls := .type "enumerate", data := .fields #[.none, .bool false, .ref s.heap.objs.size, rawInt 0, .none, .none] } }) :=
  .of_wp fun prog w A R s h => by
    obtain ⟨hp, g, d, tk, os⟩ := s
    obtain ⟨h1, h⟩ := h
    have hsub := sub_enumerate
    have go : ∀ {A' : Around} {E : Value → Shared → Prop} {Q : Value → Shared → Prop}, Q (.ref hp.objs.size) ⟨hp.push o, g, d, tk, os⟩ → wpAny (model prog w) A' (pyIter v) Q E ⟨hp, g, d, tk, os⟩ :=
      fun q => B.iter prog w _ _ ⟨hp, g, d, tk, os⟩ _ h1 q
    wp_walk using go
    refine wpAny_stack_any fun st => wpAny_pure ?_
    split
    · rename_i c _ _ _ _ _
      cases (c == Value.type "enumerate") <;> (wp_walk using go; exact ⟨_, rfl, h⟩)
    · wp_walk using go
      exact ⟨_, rfl, h⟩
section
variable {prog : Program} {w : World} {A : Around} {E : Value → Shared → Prop} {s : Shared}
theorem enum_call1 {v : Value} {o : Obj} {Hy : Heap → Prop} {Q : Value → Shared → Prop} (B : Begins v o Hy) (h1 : Hy s.heap)
    (h : ∀ h', IsEnum h' (s.heap.objs.size + 1) s.heap.objs.size 0 .none → h'.get? s.heap.objs.size = some o → (∀ b o, s.heap.get? b = some o → h'.get? b = some o) → Q (.ref (s.heap.objs.size + 1)) { s with heap := h' }) :
    wpAny (model prog w) A (call (.type "enumerate") [v]) Q E s := by
  refine callType_new F.called_enumerate (by decide) (F.typeCall_enumerate_1 _) (F.newCall_enumerate_1 _) (fun obj => F.args_object_init_2 obj _) F.entry_enumerate_new (enum_new1 B) ⟨h1, ?_⟩
  have hz : (s.heap.push o).objs.size = s.heap.objs.size + 1 := Heap.size_push ..
  show _ ∧ _
  rw [hz]
  have he : IsEnum ((s.heap.push o).push { cls := .type "enumerate", data := .fields #[.none, .bool false, .ref s.heap.objs.size, rawInt 0, .none, .none] }) (s.heap.objs.size + 1) s.heap.objs.size 0 .none := by
    have q := Heap.get?_push_size (s.heap.push o) (o := { cls := .type "enumerate", data := .fields #[.none, .bool false, .ref s.heap.objs.size, rawInt 0, .none, .none] }) rfl
    rw [hz] at q
    exact q
  exact ⟨⟨_, he, rfl⟩, h _ he (Heap.get?_push_of_some _ (Heap.get?_push_size _ B.free)) fun b o x => Heap.get?_push_of_some _ (Heap.get?_push_of_some _ x)⟩
end
def IteK (k : Bool) (K : Fg) (a : Addr) : It :=
  ⟨fun i H => ∃ (xs : List V) (x : V), SqK k K H a xs ∧ xs[i]? = some x, fun i H v H' => ∃ T x, v = .ref T ∧ H T = none ∧ H' = upd H T (.tup [.int (i : Nat), x]) ∧ ∀ xs, SqK k K H a xs → xs[i]? = some x, fun i H => ∃ xs : List V, SqK k K H a xs ∧ xs.length = i⟩
theorem turn_enumK (k : Bool) {P : Program} {w : World} {K : Fg} {elts : List Expr} {kk : Nat} {tpos : Pos} (a e it : Addr) :
    Turn P w K (.Tuple elts kk tpos) (IteK k K a) [e, it] e (fun i h => (∃ old, IsEnum h e it ((i : Nat) : Int) old) ∧ ItrK k h it a i ∧ e ≠ it ∧ e ≠ a ∧ a ≠ it) where
  mem := List.mem_cons_self ..
  obj := fun i h st b hb => by
    obtain ⟨⟨old, he⟩, hi, _⟩ := st
    rcases List.mem_cons.mp hb with rfl | hb
    · exact ⟨_, he, fun v q => nomatch q⟩
    · rw [List.mem_singleton.mp hb]
      exact hi.rec_
  keep := fun i h h' st kp => by
    obtain ⟨⟨old, he⟩, hi, r⟩ := st
    exact ⟨⟨old, kp e (List.mem_cons_self ..) _ he⟩, hi.at fun o q => kp it (List.mem_cons_of_mem _ (List.mem_singleton.mpr rfl)) o q, r⟩
  item := by
    intro X hP hw hK hc i pins s σ H E I hf st hg
    subst hP hw hK
    obtain ⟨⟨old, he⟩, hit, n1, n2, n3⟩ := st
    obtain ⟨xs, x, hq, hx⟩ := hg
    obtain ⟨its, rv, hp, hz⟩ := seqK_at I hq
    obtain ⟨u, hu, ru⟩ := rv.get hx
    have hel : e < s.heap.objs.size := Heap.lt_size he
    have hil : it < s.heap.objs.size := by obtain ⟨_, q, _⟩ := hit.rec_; exact Heap.lt_size q
    have hlt : i < its.toArray.size := by
      rw [List.size_toArray]
      exact (List.getElem?_eq_some_iff.mp hu).1
    refine wpAny_pyNext_enum_itemD (drawsK k (A := X.A.in1) (I.ok.hd hc) it a n3 its.toArray) he ⟨hit, hp⟩ hlt n1 (fun z => by
      rcases List.mem_cons.mp z with z | z
      · exact n1 z
      · exact n2 (List.mem_singleton.mp z)) fun y h' tk hy ho st' hT hsz hk => ?_
    have ey : y = u := by
      rw [List.getElem?_toArray, hu] at hy
      exact (Option.some.inj hy).symm
    subst ey
    refine ⟨_, rfl, wpAny_letOwnedTupleGo_enum (s := { s with heap := h', toks := tk + 1 }) ho fun h'' he' sb => ?_⟩
    have hT2 : h''.get? s.heap.objs.size = some { cls := .type "tuple", data := .seq #[.int i tk, y] } := (sb.2 _ (Nat.ne_of_gt hel)).trans hT
    have new : ObjOk X.prog X.w (upd H s.heap.objs.size (.tup [.int (i : Nat), x])) h'' s.heap.objs.size (.tup [.int (i : Nat), x]) :=
      ⟨by show 2 ≤ sizeLine; decide, [.int i tk, y], .cons ⟨_, rfl⟩ (.cons ru .nil), ⟨_, hT2, rfl, _, rfl⟩⟩
    have I1 : Inv X pins σ (upd H s.heap.objs.size (.tup [.int (i : Nat), x])) { s with heap := h'', toks := tk + 1 } :=
      I.turnedNew (t' := tk + 1) (ch := [e, it]) (fun b ob hb q => (sb.2 b (fun z => hb (by rw [z]; exact List.mem_cons_self ..))).trans (hk b ob (fun z => hb (by rw [z]; exact List.mem_cons_self ..)) (fun z => hb (by rw [z]; exact List.mem_cons_of_mem _ (List.mem_singleton.mpr rfl))) q)) hf (Nat.le_refl _) new
    refine ⟨.ref s.heap.objs.size, _, I1, rfl, ⟨_, x, rfl, I.hok.fresh (Nat.le_refl _), rfl, fun ys hy2 => by rw [seqK_inj I hy2 hq]; exact hx⟩, ⟨⟨y, ?_⟩, ItrK.at st'.1 fun o q => (sb.2 it (Ne.symm n1)).trans q, n1, n2, n3⟩, fun b hb => ?_⟩
    · have e1 : ((i + 1 : Nat) : Int) = (i : Int) + 1 := by omega
      rw [e1]; exact he'
    · have hb' : b < s.heap.objs.size := by
        rcases List.mem_cons.mp hb with z | z
        · rw [z]; exact hel
        · rw [List.mem_singleton.mp z]; exact hil
      rw [upd_ne (Nat.ne_of_lt hb')]
      exact (hf b hb).1
  done := by
    intro X hP hw hK hc i pins s σ H E I hf st hg
    subst hP hw hK
    obtain ⟨⟨old, he⟩, hit, n1, n2, n3⟩ := st
    obtain ⟨xs, hq, hx⟩ := hg
    obtain ⟨its, rv, hp, hz⟩ := seqK_at I hq
    obtain ⟨f0, f1, f2, f3, f4, f5⟩ := hf it (List.mem_cons_of_mem _ (List.mem_singleton.mpr rfl))
    have hl := rv.length
    have hn : i = its.toArray.size := by rw [List.size_toArray, ← hl]; exact hx.symm
    have st2 : ItrK k s.heap it a its.toArray.size ∧ HasK k s.heap a its.toArray := by rw [← hn]; exact ⟨hit, hp⟩
    exact wpAny_pyNext_enum_endD (drawsK k (A := X.A.in1) (I.ok.hd hc) it a n3 its.toArray) he st2 fun h' eb => ⟨rfl, I.turned (t' := s.toks) (fun b o hb q => eb b o hb q) f0 f1 f3 f4 f5⟩
  self := fun A i s Q E st h => by
    obtain ⟨⟨_, he⟩, _⟩ := st
    exact wpAny_pyIter_enum he h
def beginK (k : Bool) (a : Addr) : Obj := match k with
  | true => { cls := .type "tuple_iterator", data := .fields #[.ref a, .int 0 0] }
  | false => { cls := .type "list_iterator", data := .fields #[.ref a, .int 0 0] }
theorem beginsK (k : Bool) (a : Addr) (its : Array Value) : Begins (.ref a) (beginK k a) fun h => HasK k h a its := by
  cases k with
  | true => exact begins_tuple a its
  | false => exact begins_list a its
theorem itrK_new (k : Bool) {h : Heap} {it a : Addr} (e : h.get? it = some (beginK k a)) : ItrK k h it a 0 := by
  cases k with
  | true => exact ⟨_, e, rfl, rfl⟩
  | false => exact ⟨_, e, rfl, rfl⟩
theorem HasK.lt {k : Bool} {h : Heap} {a : Addr} {its : Array Value} (x : HasK k h a its) : a < h.objs.size := by
  cases k with
  | true =>
    obtain ⟨o, ho, _⟩ := x
    exact Heap.lt_size ho
  | false =>
    obtain ⟨o, ho, _⟩ := x
    exact Heap.lt_size ho
def iEnumK (k : Bool) (K : Fg) (ta : TA) : TI := fun σ H R => ta σ H fun vs H1 => ∃ a xs, vs = [.ref a] ∧ SqK k K H1 a xs ∧ R (IteK k K a) H1
theorem pi_enumK (k : Bool) {X : Cx} {e : Expr} {ta : TA} {p pos tpos : Pos} {elts : List Expr} {kk : Nat} (hg : Gl X "enumerate") (hm : X.mg "enumerate" = none) (ha : PA X [e] ta) (hs : starEach [e] X.env = [(false, eval e X.env)]) :
    PI X (.Tuple elts kk tpos) (.Call (.Name "enumerate" p) [e] [] pos) (iEnumK k X.K ta) := by
  refine ⟨fun pins s σ H R I h => ?_⟩
  refine Call_ (ld_blt I hg hm boot_enumerate (PyProof.Rows.callWith_type1 (thn (ha.run pos pins s σ H _ I h) fun us s1 ⟨vs, H1, I1, r1, q1⟩ => ?_) hs rfl))
  obtain ⟨a, xs, ex, hq, q⟩ := q1
  subst ex
  obtain ⟨u, rfl, ru⟩ := Vals.one r1
  cases ru
  obtain ⟨its, rv, hp, hz⟩ := seqK_at I1 hq
  have hal := hp.lt
  refine enum_call1 (beginsK k a its.toArray) hp fun h' he hit hk => wpAny_pyIter_enum he ?_
  have I2 : Inv X pins σ H1 { s1 with heap := h' } := I1.kept (t' := s1.toks) hk
  refine ⟨s1.heap.objs.size + 1, [s1.heap.objs.size + 1, s1.heap.objs.size], _, _, H1, rfl, I2, turn_enumK k a (s1.heap.objs.size + 1) s1.heap.objs.size, ⟨⟨.none, he⟩, itrK_new k hit, Nat.succ_ne_self _, Nat.ne_of_gt (Nat.lt_succ_of_lt hal), Nat.ne_of_lt hal⟩, fun b hb => ?_, q⟩
  have hle : s1.heap.objs.size ≤ b := by
    rcases List.mem_cons.mp hb with z | z
    · rw [z]; exact Nat.le_succ _
    · rw [List.mem_singleton.mp z]; exact Nat.le_refl _
  exact I1.fpOk hle (I1.hok.fresh hle)
/-! ### zip(x, y) -/
def ItzK (k1 k2 : Bool) (K : Fg) (a b : Addr) : It :=
  ⟨fun i H => ∃ (xs ys : List V) (x y : V), SqK k1 K H a xs ∧ SqK k2 K H b ys ∧ xs[i]? = some x ∧ ys[i]? = some y,
    fun i H v H' => ∃ T x y, v = .ref T ∧ H T = none ∧ H' = upd H T (.tup [x, y]) ∧ (∀ xs, SqK k1 K H a xs → xs[i]? = some x) ∧ ∀ ys, SqK k2 K H b ys → ys[i]? = some y,
    fun i H => ∃ xs ys : List V, SqK k1 K H a xs ∧ SqK k2 K H b ys ∧ i ≤ xs.length ∧ i ≤ ys.length ∧ (i = xs.length ∨ i = ys.length)⟩
theorem turn_zipK (k1 k2 : Bool) {P : Program} {w : World} {K : Fg} {elts : List Expr} {kk : Nat} {tpos : Pos} {a b z TI TO i1 i2 : Addr} (S : ZipSep2 z TI TO i1 i2 [i1, a] [i2, b]) (n1 : a ≠ i1) (n2 : b ≠ i2) :
    Turn P w K (.Tuple elts kk tpos) (ItzK k1 k2 K a b) [z, TI, TO, i1, i2] z (fun i h => IsZip h z TI TO .none ∧ IsTupOf2 h TI (.ref i1) (.ref i2) ∧ (∃ x y, IsTupOf2 h TO x y) ∧ ItrK k1 h i1 a i ∧ ItrK k2 h i2 b i) where
  mem := List.mem_cons_self ..
  obj := fun i h st c hc => by
    obtain ⟨hz, hTI, ⟨x, y, hTO⟩, h1, h2⟩ := st
    have e' : c = z ∨ c = TI ∨ c = TO ∨ c = i1 ∨ c = i2 := by simpa using hc
    rcases e' with q | q | q | q | q
    · rw [q]; exact ⟨_, hz, fun v q => nomatch q⟩
    · rw [q]; exact ⟨_, hTI, fun v q => nomatch q⟩
    · rw [q]; exact ⟨_, hTO, fun v q => nomatch q⟩
    · rw [q]; exact h1.rec_
    · rw [q]; exact h2.rec_
  keep := fun i h h' st k => by
    obtain ⟨hz, hTI, ⟨x, y, hTO⟩, h1, h2⟩ := st
    exact ⟨k z (by simp) _ hz, k TI (by simp) _ hTI, ⟨x, y, k TO (by simp) _ hTO⟩, h1.at fun o q => k i1 (by simp) o q, h2.at fun o q => k i2 (by simp) o q⟩
  item := by
    intro X hP hw hK hc i pins s σ H E I hf st hg
    subst hP hw hK
    obtain ⟨hz, hTI, ⟨x0, y0, hTO⟩, h1, h2⟩ := st
    obtain ⟨xs, ys, x, y, hqx, hqy, hx, hy⟩ := hg
    obtain ⟨its, rv, p1, _⟩ := seqK_at I hqx
    obtain ⟨its2, rv2, p2, _⟩ := seqK_at I hqy
    obtain ⟨u, hu, ru⟩ := rv.get hx
    obtain ⟨u2, hu2, ru2⟩ := rv2.get hy
    have hzl : z < s.heap.objs.size := Heap.lt_size hz
    have l1 : i < its.toArray.size := by rw [List.size_toArray]; exact (List.getElem?_eq_some_iff.mp hu).1
    have l2 : i < its2.toArray.size := by rw [List.size_toArray]; exact (List.getElem?_eq_some_iff.mp hu2).1
    refine wpAny_pyNext_zipD2_item S (drawsK k1 (A := X.A.in1) (I.ok.hd hc) i1 a n1 its.toArray) (drawsK k2 (A := X.A.in1) (I.ok.hd hc) i2 b n2 its2.toArray) hz hTI hTO ⟨h1, p1⟩ ⟨h2, p2⟩ l1 l2 fun v1 v2 h' tk hv1 hv2 z' TO' s1' s2' hT hsz hk => ?_
    have e1 : v1 = u := by rw [List.getElem?_toArray, hu] at hv1; exact (Option.some.inj hv1).symm
    have e2 : v2 = u2 := by rw [List.getElem?_toArray, hu2] at hv2; exact (Option.some.inj hv2).symm
    subst e1 e2
    refine ⟨_, rfl, wpAny_letOwnedTupleGo_zip (s := { s with heap := h', toks := tk }) z' fun h'' z'' sb => ?_⟩
    have hT2 : h''.get? s.heap.objs.size = some { cls := .type "tuple", data := .seq #[v1, v2] } := (sb.2 _ (Nat.ne_of_gt hzl)).trans hT
    have new : ObjOk X.prog X.w (upd H s.heap.objs.size (.tup [x, y])) h'' s.heap.objs.size (.tup [x, y]) :=
      ⟨by show 2 ≤ sizeLine; decide, [v1, v2], .cons ru (.cons ru2 .nil), ⟨_, hT2, rfl, _, rfl⟩⟩
    have I1 : Inv X pins σ (upd H s.heap.objs.size (.tup [x, y])) { s with heap := h'', toks := tk } :=
      I.turnedNew (t' := tk) (ch := [z, TI, TO, i1, i2]) (fun c o hb q => (sb.2 c (fun q' => hb (by simp [q']))).trans (hk c o (fun q' => hb (by simp [q'])) (fun q' => hb (by simp [q'])) (fun q' => hb (by simp [q'])) (fun q' => hb (by simp [q'])) q)) hf (Nat.le_refl _) new
    refine ⟨.ref s.heap.objs.size, _, I1, rfl, ⟨_, x, y, rfl, I.hok.fresh (Nat.le_refl _), rfl, fun l hl => by rw [seqK_inj I hl hqx]; exact hx, fun l hl => by rw [seqK_inj I hl hqy]; exact hy⟩, ⟨z'', ?_, ⟨v1, v2, ?_⟩, ?_, ?_⟩, fun c hcm => ?_⟩
    · exact (sb.2 _ S.TIz).trans (hk _ _ S.TIz S.TITO S.TIi1 S.TIi2 hTI)
    · exact (sb.2 _ S.TOz).trans TO'
    · exact ItrK.at s1'.1 fun o q => (sb.2 _ (fun w => S.zf1 (by rw [← w]; exact List.mem_cons_self ..))).trans q
    · exact ItrK.at s2'.1 fun o q => (sb.2 _ (fun w => S.zf2 (by rw [← w]; exact List.mem_cons_self ..))).trans q
    · have hlt : c < s.heap.objs.size := by
        have e' : c = z ∨ c = TI ∨ c = TO ∨ c = i1 ∨ c = i2 := by simpa using hcm
        rcases e' with q | q | q | q | q
        · rw [q]; exact hzl
        · rw [q]; exact Heap.lt_size hTI
        · rw [q]; exact Heap.lt_size hTO
        · rw [q]; obtain ⟨_, e1, _⟩ := h1.rec_; exact Heap.lt_size e1
        · rw [q]; obtain ⟨_, e2, _⟩ := h2.rec_; exact Heap.lt_size e2
      rw [upd_ne (Nat.ne_of_lt hlt)]
      exact (hf c hcm).1
  done := by
    intro X hP hw hK hc i pins s σ H E I hf st hg
    subst hP hw hK
    obtain ⟨hz, hTI, ⟨x0, y0, hTO⟩, h1, h2⟩ := st
    obtain ⟨xs, ys, hqx, hqy, le1, le2, hend⟩ := hg
    obtain ⟨its, rv, p1, _⟩ := seqK_at I hqx
    obtain ⟨its2, rv2, p2, _⟩ := seqK_at I hqy
    have l1 := rv.length
    have l2 := rv2.length
    exact wpAny_pyNext_zipD2_end S (drawsK k1 (A := X.A.in1) (I.ok.hd hc) i1 a n1 its.toArray) (drawsK k2 (A := X.A.in1) (I.ok.hd hc) i2 b n2 its2.toArray) hz hTI hTO ⟨h1, p1⟩ ⟨h2, p2⟩ (by rw [List.size_toArray, ← l1]; exact le1) (by rw [List.size_toArray, ← l2]; exact le2)
      (by rw [List.size_toArray, List.size_toArray, ← l1, ← l2]; exact hend) fun h' tk hk => ⟨rfl, I.turnedL (t' := tk) (ch := [z, TI, TO, i1, i2]) (fun c o hb q =>
      hk c o (fun q' => hb (by simp [q'])) (fun q' => hb (by simp [q'])) (fun q' => hb (by simp [q'])) (fun q' => hb (by simp [q'])) q) hf⟩
  self := fun A i s Q E st h => wpAny_pyIter_zip st.1 h
theorem zs_facts (n a b : Nat) (la : a < n) (lb : b < n) : (n + 2 ≠ n + 4) ∧ (n + 3 ≠ n + 4) ∧ (n + 2 ≠ n + 3) ∧ (n + 2 ≠ n) ∧ (n + 4 ≠ n) ∧ (n + 4 ≠ a) ∧ (n + 3 ≠ n) ∧ (n + 3 ≠ a) ∧ (n + 2 ≠ n + 1) ∧ (n + 4 ≠ n + 1) ∧ (n + 4 ≠ b) ∧ (n + 3 ≠ n + 1) ∧ (n + 3 ≠ b) ∧ (n ≠ n + 1) ∧ (n ≠ b) ∧ (n + 1 ≠ n) ∧ (n + 1 ≠ a) := by omega
theorem nm2 {x p q : Addr} (h1 : x ≠ p) (h2 : x ≠ q) : x ∉ [p, q] := fun z => by
  rcases List.mem_cons.mp z with z | z
  · exact h1 z
  · exact h2 (List.mem_singleton.mp z)
theorem zs_mk {n a b : Addr} (la : a < n) (lb : b < n) : ZipSep2 (n + 4) (n + 2) (n + 3) n (n + 1) [n, a] [n + 1, b] := by
  obtain ⟨f1, f2, f3, f4, f5, f6, f7, f8, f9, f10, f11, f12, f13, f14, f15, f16, f17⟩ := zs_facts n a b la lb
  constructor <;> first | exact f1 | exact f2 | exact f3 | exact f4 | exact f9 | exact List.mem_cons_self .. | exact nm2 f5 f6 | exact nm2 f7 f8 | exact nm2 f10 f11 | exact nm2 f12 f13 | exact nm2 f14 f15 | exact nm2 f16 f17
theorem zs_le {n c : Nat} (h : c = n + 4 ∨ c = n + 2 ∨ c = n + 3 ∨ c = n ∨ c = n + 1) : n ≤ c := by omega
def iZipK (k1 k2 : Bool) (K : Fg) (ta : TA) : TI := fun σ H R => ta σ H fun vs H1 => ∃ a b xs ys, vs = [.ref a, .ref b] ∧ SqK k1 K H1 a xs ∧ SqK k2 K H1 b ys ∧ R (ItzK k1 k2 K a b) H1
theorem pi_zipK (k1 k2 : Bool) {X : Cx} {e e2 : Expr} {ta : TA} {p pos tpos : Pos} {elts : List Expr} {kk : Nat} (hg : Gl X "zip") (hm : X.mg "zip" = none) (ha : PA X [e, e2] ta)
    (hs : starEach [e, e2] X.env = (false, eval e X.env) :: starEach [e2] X.env) (hpl : (backTo pos (starEach [e2] X.env)).any (·.1) = false) :
    PI X (.Tuple elts kk tpos) (.Call (.Name "zip" p) [e, e2] [] pos) (iZipK k1 k2 X.K ta) := by
  refine ⟨fun pins s σ H R I h => ?_⟩
  refine Call_ (ld_blt I hg hm PyProof.Rows.boot_zip (PyProof.Rows.callWith_type1 (thn (ha.run pos pins s σ H _ I h) fun us s1 ⟨vs, H1, I1, r1, q1⟩ => ?_) hs hpl))
  obtain ⟨a, b, xs, ys, ex, hqx, hqy, q⟩ := q1
  subst ex
  obtain ⟨u, v, rfl, ru, rv0⟩ := Vals.two r1
  cases ru
  cases rv0
  obtain ⟨its, rv, p1, hz1⟩ := seqK_at I1 hqx
  obtain ⟨its2, rv2, p2, hz2⟩ := seqK_at I1 hqy
  have la := p1.lt
  have lb := p2.lt
  refine zip_begins2 (beginsK k1 a its.toArray) (beginsK k2 b its2.toArray) p1 p2 fun h' z' tI tO g1 g2 hsz hk => wpAny_pyIter_zip z' ?_
  have I2 : Inv X pins σ H1 { s1 with heap := h' } := I1.kept (t' := s1.toks) hk
  generalize hn : s1.heap.objs.size = n at *
  have S : ZipSep2 (n + 4) (n + 2) (n + 3) n (n + 1) [n, a] [n + 1, b] := zs_mk la lb
  refine ⟨n + 4, [n + 4, n + 2, n + 3, n, n + 1], _, _, H1, rfl, I2, turn_zipK k1 k2 S (Nat.ne_of_lt la) (Nat.ne_of_lt (Nat.lt_succ_of_lt lb)), ⟨z', tI, ⟨_, _, tO⟩, itrK_new k1 g1, itrK_new k2 g2⟩, fun c hc => ?_, q⟩
  have hle : s1.heap.objs.size ≤ c := by
    rw [hn]
    exact zs_le (by simpa using hc)
  exact I1.fpOk hle (I1.hok.fresh hle)
end DL
set_option Elab.async false
set_option linter.all false
set_option maxRecDepth 100000
set_option maxHeartbeats 4000000
set_option autoImplicit false
namespace DL
open PySem PySem.Spec L2
section
variable {X : Cx} {W : WX} {tg e a b : Expr} {t u ta tb : TD} {tq tq2 : TQ} {pos : Pos}
theorem pi_or {it : Expr} {w1 w2 : TI} (h1 : PI X tg it w1) (h2 : PI X tg it w2) : PI X tg it (fun σ H R => w1 σ H R ∨ w2 σ H R) := ⟨fun pins s σ H R I h => by
  rcases h with h | h
  · exact h1.run pins s σ H R I h
  · exact h2.run pins s σ H R I h⟩
/-- items of a thing that stands still -/
def D.isT : D → Bool
  | .tup _ => true
  | .kt _ => true
  | _ => false
def D.items : D → Option (List D)
  | .kt ds => some ds
  | .lst ds => some ds
  | .rd ds => some ds
  | .tup ds => some ds
  | _ => none
theorem items_rep {K : Fg} {ads : List Addr} {B : Hp} {d : D} {v : V} {ds : List D} (h : Rep K ads B d v) (e : d.items = some ds) : ∃ k a xs, v = .ref a ∧ SqK k K B a xs ∧ Reps K ads B ds xs ∧ k = d.isT := by
  cases d <;> first | (cases e; done) | skip
  case tup es =>
    cases e
    unfold Rep at h
    obtain ⟨a, xs, rfl, h1, h2⟩ := h
    exact ⟨true, a, xs, rfl, SqT.of h1, h2, rfl⟩
  case kt es =>
    cases e
    unfold Rep at h
    obtain ⟨a, xs, rfl, h1, h2⟩ := h
    exact ⟨true, a, xs, rfl, h1, h2, rfl⟩
  case lst es =>
    cases e
    unfold Rep at h
    obtain ⟨a, xs, rfl, h1, h2⟩ := h
    exact ⟨false, a, xs, rfl, SqL.of h1, h2, rfl⟩
  case rd es =>
    cases e
    unfold Rep at h
    obtain ⟨a, xs, rfl, h1, h2⟩ := h
    exact ⟨false, a, xs, rfl, h1, h2, rfl⟩
def dIter (t : TD) : TL := fun ρ => M.bind (t ρ) fun d => M.lift d.items
/-- the items of e, a list or a tuple that stands still -/
theorem di_seq (h : DE X W e t) : DI X W tg e (dIter t) := by
  obtain ⟨te, p, r⟩ := h.ex
  refine ⟨_, pi_or (pi_list p) (pi_tup p), fun c hc ρ μ g σ H R rr μ' s hh hx k => ?_⟩
  have gen : ∀ d, (∃ μ1, t ρ μ = some (.ok d, μ1)) ∨ True := fun _ => .inr trivial
  rcases bind_some hh with ⟨d, μ1, e1, e2⟩ | ⟨C, ns, ds, e1, rfl⟩
  · obtain ⟨ds, e3, rfl, rfl⟩ := lift_some e2
    cases hd : d.isT with
    | true =>
      right
      refine r c hc ρ μ g σ H _ _ _ s e1 px_ok fun d' ed v H1 g1 l1 s1 r1 => ?_
      cases ed
      obtain ⟨kk, a, xs, rfl, q1, q2, q3⟩ := items_rep r1 e3
      rw [hd] at q3
      subst q3
      rw [← hc]
      exact ⟨a, rfl, ⟨xs, sqT_mono q1 s1.sub⟩, k ds rfl _ H1 g1 l1 s1 (itOk_tup q1 q2)⟩
    | false =>
      left
      refine r c hc ρ μ g σ H _ _ _ s e1 px_ok fun d' ed v H1 g1 l1 s1 r1 => ?_
      cases ed
      obtain ⟨kk, a, xs, rfl, q1, q2, q3⟩ := items_rep r1 e3
      rw [hd] at q3
      subst q3
      rw [← hc]
      exact ⟨a, rfl, ⟨xs, sqL_mono q1 s1.sub⟩, k ds rfl _ H1 g1 l1 s1 (itOk_list q1 q2)⟩
  · left
    exact r c hc ρ μ g σ H _ _ _ s e1 (fun C' ns' ds' e => by cases e; exact hx C ns ds rfl) fun d e => by cases e
/-! ### enumerate -/
def enumD (ds : List D) : List D := ds.mapIdx fun i d => D.tup [.int (i : Nat), d]
theorem itOk_enum {c : Ct} {g0 : G} {k : Bool} {a : Addr} {xs : List V} {ds : List D} (h1 : SqK k c.K g0.B a xs) (h2 : GReps c.K g0 ds xs) : ItOk c g0 (IteK k c.K a) (enumD ds) := fun ρ μ g σ H l s => by
  have hs : SqK k c.K H a xs := sqK_mono (sqK_mono h1 l.b) s.sub
  have hl : (enumD ds).length = ds.length := by unfold enumD; rw [List.length_mapIdx]
  refine ⟨fun i d e => ?_, ⟨xs, hs, by rw [hl]; exact h2.length.symm⟩⟩
  unfold enumD at e
  rw [List.getElem?_mapIdx] at e
  cases e0 : ds[i]? with
  | none => rw [e0] at e; cases e
  | some d0 =>
    rw [e0] at e
    cases e
    obtain ⟨x, hx, rx⟩ := h2.get e0
    refine ⟨⟨xs, x, hs, hx⟩, fun y H' hy => ?_⟩
    obtain ⟨T, x2, rfl, hT, rfl, hy⟩ := hy
    have e2 := hy xs hs
    rw [hx] at e2
    cases e2
    refine ⟨g.addB T (.tup [.int (i : Nat), x]), s.leB hT, s.addB hT, ?_, fun p q => ?_⟩
    · unfold GRep Rep
      exact ⟨T, [.int (i : Nat), x], rfl, upd_same, reps_cons (flat_rep rfl) (reps_cons ((l.trans (s.leB hT)).rep rx) reps_nil)⟩
    · by_cases z : p = T
      · rw [z]; exact hT
      · rw [upd_ne z] at q; exact q
def dEnum (t : TD) : TL := fun ρ => M.bind (t ρ) fun d => M.lift (d.items.map enumD)
theorem di_enum {elts : List Expr} {kk : Nat} {tpos p : Pos} (h : DE X W e t) (hm : X.mg "enumerate" = none) (hg : Gl X "enumerate" := by rfl) (hs : starEach [e] X.env = [(false, eval e X.env)] := by rfl) : DI X W (.Tuple elts kk tpos) (.Call (.Name "enumerate" p) [e] [] pos) (dEnum t) := by
  obtain ⟨te, p, r⟩ := h.ex
  refine ⟨_, pi_or (pi_enumK false hg hm (pa_cons p pa_nil hs) hs) (pi_enumK true hg hm (pa_cons p pa_nil hs) hs), fun c hc ρ μ g σ H R rr μ' s hh hx k => ?_⟩
  rcases bind_some hh with ⟨d, μ1, e1, e2⟩ | ⟨C, ns, ds, e1, rfl⟩
  · obtain ⟨es, e3, rfl, rfl⟩ := lift_some e2
    obtain ⟨ds, e4, rfl⟩ := Option.map_eq_some_iff.mp e3
    cases hd : d.isT with
    | true =>
      right
      refine r c hc ρ μ g σ H _ _ _ s e1 px_ok fun d' ed v H1 g1 l1 s1 r1 => ?_
      cases ed
      obtain ⟨k2, a, xs, rfl, q1, q2, q3⟩ := items_rep r1 e4
      rw [hd] at q3
      subst q3
      rw [← hc]
      exact ⟨a, xs, rfl, sqT_mono q1 s1.sub, k _ rfl _ H1 g1 l1 s1 (itOk_enum (k := true) q1 q2)⟩
    | false =>
      left
      refine r c hc ρ μ g σ H _ _ _ s e1 px_ok fun d' ed v H1 g1 l1 s1 r1 => ?_
      cases ed
      obtain ⟨k2, a, xs, rfl, q1, q2, q3⟩ := items_rep r1 e4
      rw [hd] at q3
      subst q3
      rw [← hc]
      exact ⟨a, xs, rfl, sqL_mono q1 s1.sub, k _ rfl _ H1 g1 l1 s1 (itOk_enum (k := false) q1 q2)⟩
  · left
    exact r c hc ρ μ g σ H _ _ _ s e1 (fun C' ns' ds' e => by cases e; exact hx C ns ds rfl) fun d e => by cases e
/-! ### zip -/
def zipD (xs ys : List D) : List D := List.zipWith (fun a b => D.tup [a, b]) xs ys
theorem itOk_zip {c : Ct} {g0 : G} {k1 k2 : Bool} {a b : Addr} {xs ys : List V} {ds es : List D} (h1 : SqK k1 c.K g0.B a xs) (h2 : GReps c.K g0 ds xs) (h3 : SqK k2 c.K g0.B b ys) (h4 : GReps c.K g0 es ys) : ItOk c g0 (ItzK k1 k2 c.K a b) (zipD ds es) := fun ρ μ g σ H l s => by
  have hs1 : SqK k1 c.K H a xs := sqK_mono (sqK_mono h1 l.b) s.sub
  have hs2 : SqK k2 c.K H b ys := sqK_mono (sqK_mono h3 l.b) s.sub
  have hl : (zipD ds es).length = min ds.length es.length := by unfold zipD; rw [List.length_zipWith]
  have q1 := h2.length
  have q2 := h4.length
  refine ⟨fun i d e => ?_, ⟨xs, ys, hs1, hs2, by omega, by omega, by omega⟩⟩
  unfold zipD at e
  rw [List.getElem?_zipWith] at e
  cases e1 : ds[i]? with
  | none => rw [e1] at e; cases e
  | some d1 =>
    cases e2 : es[i]? with
    | none => rw [e1, e2] at e; cases e
    | some d2 =>
      rw [e1, e2] at e
      cases e
      obtain ⟨x, hx, rx⟩ := h2.get e1
      obtain ⟨y, hy, ry⟩ := h4.get e2
      refine ⟨⟨xs, ys, x, y, hs1, hs2, hx, hy⟩, fun v H' hv => ?_⟩
      obtain ⟨T, x2, y2, rfl, hT, rfl, hv1, hv2⟩ := hv
      have e3 := hv1 xs hs1
      have e4 := hv2 ys hs2
      rw [hx] at e3
      rw [hy] at e4
      cases e3
      cases e4
      refine ⟨g.addB T (.tup [x, y]), s.leB hT, s.addB hT, ?_, fun p q => ?_⟩
      · unfold GRep Rep
        exact ⟨T, [x, y], rfl, upd_same, reps_cons ((l.trans (s.leB hT)).rep rx) (reps_cons ((l.trans (s.leB hT)).rep ry) reps_nil)⟩
      · by_cases z : p = T
        · rw [z]; exact hT
        · rw [upd_ne z] at q; exact q
def dZip (t u : TD) : TL := fun ρ => M.bind (t ρ) fun d => M.bind (u ρ) fun e => M.lift (match d.items, e.items with
  | some ds, some es => some (zipD ds es)
  | _, _ => none)
theorem di_zip {elts : List Expr} {kk : Nat} {tpos p : Pos} (h : DE X W a t) (h' : DE X W b u) (hm : X.mg "zip" = none) (hg : Gl X "zip" := by rfl) (hs : starEach [a, b] X.env = (false, eval a X.env) :: starEach [b] X.env := by rfl) (hs2 : starEach [b] X.env = [(false, eval b X.env)] := by rfl) (hpl : (backTo pos (starEach [b] X.env)).any (·.1) = false := by rfl) :
    DI X W (.Tuple elts kk tpos) (.Call (.Name "zip" p) [a, b] [] pos) (dZip t u) := by
  obtain ⟨te, p, r⟩ := h.ex
  obtain ⟨ue, pu, ru⟩ := h'.ex
  have pa := pa_cons p (pa_cons pu pa_nil hs2) hs
  refine ⟨_, pi_or (pi_or (pi_zipK false false hg hm pa hs hpl) (pi_zipK false true hg hm pa hs hpl)) (pi_or (pi_zipK true false hg hm pa hs hpl) (pi_zipK true true hg hm pa hs hpl)), fun c hc ρ μ g σ H R rr μ' s hh hx k => ?_⟩
  have pick : ∀ k1 k2, iZipK k1 k2 X.K (tCons te (tCons ue tNil)) σ H R → ((iZipK false false X.K (tCons te (tCons ue tNil)) σ H R ∨ iZipK false true X.K (tCons te (tCons ue tNil)) σ H R) ∨ (iZipK true false X.K (tCons te (tCons ue tNil)) σ H R ∨ iZipK true true X.K (tCons te (tCons ue tNil)) σ H R)) := by
    intro k1 k2 h
    cases k1 <;> cases k2
    · exact .inl (.inl h)
    · exact .inl (.inr h)
    · exact .inr (.inl h)
    · exact .inr (.inr h)
  rcases bind_some hh with ⟨d, μ1, e1, e2⟩ | ⟨C, ns, ds, e1, rfl⟩
  · rcases bind_some e2 with ⟨e, μ2, e3, e4⟩ | ⟨C, ns, ds, e3, rfl⟩
    · obtain ⟨zs, e5, rfl, rfl⟩ := lift_some e4
      cases hd : d.items with
      | none => rw [hd] at e5; cases e5
      | some ds =>
        cases he : e.items with
        | none => rw [hd, he] at e5; cases e5
        | some es =>
          rw [hd, he] at e5
          cases e5
          refine pick d.isT e.isT ?_
          refine r c hc ρ μ g σ H _ _ _ s e1 px_ok fun d' ed v1 H1 g1 l1 s1 r1 => ?_
          cases ed
          refine ru c hc ρ μ1 g1 σ H1 _ _ _ s1 e3 px_ok fun d' ed v2 H2 g2 l2 s2 r2 => ?_
          cases ed
          obtain ⟨k1', a, xs, rfl, q1, q2, q3⟩ := items_rep (l2.rep r1) hd
          obtain ⟨k2', b, ys, rfl, q4, q5, q6⟩ := items_rep r2 he
          subst q3 q6
          rw [← hc]
          exact ⟨a, b, xs, ys, rfl, sqK_mono q1 s2.sub, sqK_mono q4 s2.sub, k _ rfl _ H2 g2 (l1.trans l2) s2 (itOk_zip q1 q2 q4 q5)⟩
    · refine pick false false ?_
      refine r c hc ρ μ g σ H _ _ _ s e1 px_ok fun d' ed v1 H1 g1 l1 s1 r1 => ?_
      exact ru c hc ρ μ1 g1 σ H1 _ _ _ s1 e3 (fun C' ns' ds' e => by cases e; exact (hx.le l1) C ns ds rfl) fun d e => by cases e
  · refine pick false false ?_
    exact r c hc ρ μ g σ H _ _ _ s e1 (fun C' ns' ds' e => by cases e; exact hx C ns ds rfl) fun d e => by cases e
/-! ### reversed(range(n)) -/
def revRange (n : Nat) : List D := (List.range n).map fun i => D.int ((n : Int) - 1 - (i : Nat))
def dRevRng (t : TD) : TL := fun ρ => M.bind (t ρ) fun d => match d with
  | .int j => if 0 ≤ j ∧ j < 2 ^ 62 then M.ret (revRange j.toNat) else M.stuck
  | _ => M.stuck
theorem di_revRng {p p2 pos2 : Pos} (h : DE X W a t) (hm : X.mg "reversed" = none) (hm2 : X.mg "range" = none) (hg : Gl X "reversed" := by rfl) (hg2 : Gl X "range" := by rfl) (hs0 : starEach [a] X.env = (false, eval a X.env) :: starEach [] X.env := by rfl)
    (hs : starEach [.Call (.Name "range" p2) [a] [] pos2] X.env = (false, eval (.Call (.Name "range" p2) [a] [] pos2) X.env) :: starEach [] X.env := by rfl) :
    DI X W tg (.Call (.Name "reversed" p) [.Call (.Name "range" p2) [a] [] pos2] [] pos) (dRevRng t) := by
  obtain ⟨te, p, r⟩ := h.ex
  refine ⟨_, pi_revR hg hm (prg_1 hg2 hm2 p hs0) hs, fun c hc ρ μ g σ H R rr μ' s hh hx k => ?_⟩
  refine (r c hc).then_ s hh hx fun x μ1 h1 v1 H1 g1 l1 s1 r1 hx1 => ?_
  cases x with
  | int j =>
    have h1' : (if 0 ≤ j ∧ j < 2 ^ 62 then M.ret (revRange j.toNat) else M.stuck) μ1 = some (rr, μ') := h1
    by_cases q : 0 ≤ j ∧ j < 2 ^ 62
    · rw [if_pos q] at h1'
      obtain ⟨rfl, rfl⟩ := ret_some h1'
      have e := rep_int r1
      subst e
      refine ⟨j, rfl, by decide, by decide, by omega, q.2, ?_⟩
      have ej : (0 : Int) + (((j - 0).toNat : Nat) : Int) - 1 = (j.toNat : Int) - 1 := by omega
      have en : (j - 0).toNat = j.toNat := by omega
      rw [ej, en]
      refine k _ rfl _ H1 g1 l1 s1 ?_
      intro ρ2 μ2 g2 σ2 H2 l2 s2
      have hl : (revRange j.toNat).length = j.toNat := by unfold revRange; rw [List.length_map, List.length_range]
      refine ⟨fun i d e => ?_, by show j.toNat ≤ _; rw [hl]; exact Nat.le_refl _⟩
      have hi : i < j.toNat := by rw [← hl]; exact (List.getElem?_eq_some_iff.mp e).1
      unfold revRange at e
      rw [List.getElem?_map, List.getElem?_range hi] at e
      cases e
      refine ⟨hi, fun y H' hy => ?_⟩
      obtain ⟨rfl, rfl⟩ := hy
      refine ⟨g2, Le.refl g2, s2, ?_, fun p q => q⟩
      have e3 : (j.toNat : Int) - 1 + (i : Nat) * -1 = (j.toNat : Int) - 1 - (i : Nat) := by omega
      rw [e3]
      exact flat_rep rfl
    · rw [if_neg q] at h1'
      cases h1'
  | _ => cases h1
/-! ### a, b = e; x op= e -/
def dsAsg (t : TD) (gt : D → Rho → Option Rho) : TO' := dsE t fun d ρ μ => match gt d ρ with
  | some ρ' => some (.nx ρ', μ)
  | none => none
theorem ds_asg {is : List Nat} {gt : D → Rho → Option Rho} (he : DE X W e t) (hg : DG X tg is gt) (hs : swapsWithSole [tg] e pos.line X.env = pure false := by rfl) (hw : swappedStores [tg] e X.env = pure none := by rfl)
    (h1 : (assignEach [tg] X.env).map (·.2) = [assign tg X.env] := by rfl) : DS X W (.Assign [tg] e pos) (dsAsg t gt) := by
  obtain ⟨te, p, r⟩ := he.ex
  obtain ⟨g0, p2, r2⟩ := hg.ex
  refine ⟨_, ps_asg p p2 hs hw h1, fun c hc ρ μ g σ H D₀ o μ' s h k => ?_⟩
  refine (r c hc).stm s h k fun d μ1 h1 v H1 g1 l1 s1 rp k1 => ?_
  cases eg : gt d ρ with
  | none => rw [eg] at h1; cases h1
  | some ρ' =>
    rw [eg] at h1
    cases h1
    exact r2 c hc ρ ρ' _ g1 σ H1 d v _ s1 rp eg fun σ' s' _ => k1 σ' H1 g1 (Le.refl _) s'
def dsAug (i : Nat) (gf : D → D → Option D) (t : TD) : TO' := fun ρ μ => match ρ[i]? with
  | some (some (.sh x)) => dsE t (fun y ρ μ => match gf x y with
    | some z => some (.nx (ρ.set i (some (.sh z))), μ)
    | none => none) ρ μ
  | _ => none
theorem ds_aug {i : Nat} {x : Str} {op : Operator} {gf : D → D → Option D} {pos' : Pos} (hN : X.N.Nodup) (ho : OpD X (inplaceOp op) gf) (he : DE X W e t) (hi : X.N[i]? = some x := by rfl) (hx : Loc X.env.scope x := by first | exact Or.inl rfl | exact Or.inr rfl)
    (hps : ∀ {te : TE} {ti : TIp}, PE X e te → PIp X op ti → PS X (.AugAssign (.Name x pos') op e pos) (tAug i te ti) := by intro te ti p q; exact ps_aug (by assumption) (by rfl) (by first | exact Or.inl rfl | exact Or.inr rfl) p q) :
    DS X W (.AugAssign (.Name x pos') op e pos) (dsAug i gf t) := by
  obtain ⟨te, p, r⟩ := he.ex
  obtain ⟨rr, p2, r2⟩ := ho.ex
  refine ⟨_, hps p (ti := rr) p2, fun c hc ρ μ g σ H D₀ o μ' s h k => ?_⟩
  unfold dsAug at h
  split at h
  · rename_i x0 e0
    obtain ⟨xv, hxv, v0, rfl, rv0⟩ := s.at e0
    refine ⟨v0, hxv, ?_⟩
    refine (r c hc).stm s h k fun d μ1 h1 v H1 g1 l1 s1 rp k1 => ?_
    cases eg : gf x0 d with
    | none => rw [eg] at h1; cases h1
    | some z =>
      rw [eg] at h1
      cases h1
      exact r2 c hc ρ _ g1 σ H1 x0 d v0 v _ z s1 (l1.rep rv0) rp eg fun v' H' g' l' s' rz => k1 _ H' g' l' (s'.setSh i rz)
  · cases h
theorem od_iadd : OpD X (inplaceOp .Add) gAdd := opD_pure (OpR.or iop_add iop_add_str) fun g H x y vx vy Q d _ rx ry h k => by
  cases x <;> cases y <;> first | (cases h; done) | skip
  · cases h
    exact .inl ⟨_, _, rep_int rx, rep_int ry, k _ (flat_rep rfl)⟩
  · rename_i i j
    have h' : (if i.length + j.length ≤ sizeLine then some (D.str (i ++ j)) else none) = some d := h
    by_cases q : i.length + j.length ≤ sizeLine
    · rw [if_pos q] at h'
      cases h'
      exact .inr ⟨i, j, rep_str rx, rep_str ry, q, k _ (flat_rep rfl)⟩
    · rw [if_neg q] at h'
      cases h'
theorem od_isub : OpD X (inplaceOp .Sub) gSub := opD_I0 iop_sub fun _ _ => rfl
theorem od_ibor : OpD X (inplaceOp .BitOr) gBOr := opD_I0 iop_or fun _ _ => rfl
/-! ### lists made of lists -/
/-- a list that stands in the heap as such -/
def qvl (q : QV) (ρ : Rho) (μ : Mu) : Option (List D) := match q with
  | .val (.tup _) => none
  | .val (.kt _) => none
  | .val (.rd _) => none
  | q => qv q ρ μ
theorem SR.seqH {c : Ct} {ρ : Rho} {μ : Mu} {g : G} {σ : L2.St} {H : Hp} (s : SR c ρ μ g σ H) {q : QV} {v : V} {ds : List D} (r : QRep c.K g σ q v) (h : qvl q ρ μ = some ds) : ∃ a xs, v = .ref a ∧ H a = some (.lst xs) ∧ GReps c.K g ds xs := by
  cases q with
  | own i =>
    obtain ⟨ds', e1, e2⟩ := own_some (f := fun ds => some ds) h
    cases e2
    obtain ⟨x, hx, p, xs, rfl, h2, h3, h4⟩ := s.at e1
    have e : some (some (V.ref p)) = some (some v) := hx.symm.trans r
    cases e
    exact ⟨p, xs, rfl, h3, h4⟩
  | val d =>
    have r : GRep c.K g d v := r
    cases d <;> first | (cases h; done) | skip
    case lst es =>
      cases h
      unfold GRep Rep at r
      obtain ⟨a, xs, rfl, h1, h2⟩ := r
      exact ⟨a, xs, rfl, s.sub _ _ h1, h2⟩
    case mref =>
      rename_i n r0
      unfold GRep Rep at r
      obtain ⟨a, h1, rfl⟩ := r
      have h' : (match μ[n]? with
        | some (MO.lst ds) => some ds
        | _ => none) = some ds := h
      cases e : μ[n]? with
      | none => rw [e] at h'; cases h'
      | some m =>
        rw [e] at h'
        cases m with
        | lst es =>
          cases h'
          obtain ⟨_, xs, q2, q3⟩ := s.amb n a _ h1 e
          exact ⟨a, xs, rfl, q2, q3⟩
        | _ => cases h'
/-- x + y of lists, new -/
def dCat (t u : TQ) : TL := fun ρ => M.bind (t ρ) fun p => M.bind (u ρ) fun q μ => match qvl p ρ μ, qvl q ρ μ with
  | some ds, some es => if ds.length + es.length ≤ sizeLine then some (.ok (ds ++ es), μ) else none
  | _, _ => none
theorem df_cat (ha : DQ X W a tq) (hb : DQ X W b tq2) : DF X W (.BinOp a .Add b pos) (dCat tq tq2) := by
  obtain ⟨te, p, r⟩ := ha.ex
  obtain ⟨ue, pu, ru⟩ := hb.ex
  refine ⟨_, pe_op op_cat p pu, fun c hc ρ μ g σ H Q rr μ' s hh hx k => ?_⟩
  refine (r c hc).then_ s hh hx fun q1 μ1 h1 v1 H1 g1 l1 s1 r1 hx1 => ?_
  refine (ru c hc).then_ s1 h1 hx1 fun q2 μ2 h2 v2 H2 g2 l2 s2 r2 hx2 => ?_
  cases e1 : qvl q1 ρ μ2 with
  | none => rw [e1] at h2; cases h2
  | some ds =>
    cases e2 : qvl q2 ρ μ2 with
    | none => rw [e1, e2] at h2; cases h2
    | some es =>
      rw [e1, e2] at h2
      have h2' : (if ds.length + es.length ≤ sizeLine then some (Res.ok (ds ++ es), μ2) else none) = some (rr, μ') := h2
      obtain ⟨a1, xs, rfl, h3, h4⟩ := s2.seqH (r1.le l2) e1
      obtain ⟨a2, ys, rfl, h5, h6⟩ := s2.seqH r2 e2
      by_cases z : ds.length + es.length ≤ sizeLine
      · rw [if_pos z] at h2'
        cases h2'
        exact ⟨a1, a2, xs, ys, rfl, rfl, h3, h5, by rw [← h4.length, ← h6.length]; exact z, fun p hp => k _ rfl p _ _ _ ((l1.trans l2).trans (le_own1 g2 p 0)) (s2.tmp hp) ⟨own1_at _ _ _, s2.freshT hp⟩ upd_same ((le_own1 _ _ _).reps (h4.append h6))⟩
      · rw [if_neg z] at h2'
        cases h2'
theorem reps_rep {K : Fg} {ads : List Addr} {B : Hp} {ds : List D} {xs : List V} (h : Reps K ads B ds xs) : ∀ n, Reps K ads B (List.replicate n ds).flatten (List.replicate n xs).flatten
  | 0 => reps_nil
  | n + 1 => by
    rw [List.replicate_succ, List.replicate_succ, List.flatten_cons, List.flatten_cons]
    exact h.append (reps_rep h n)
/-- [..] * n, new -/
def dRepL (t : TQ) (u : TD) : TL := fun ρ => M.bind (t ρ) fun p => M.bind (u ρ) fun d μ => match d with
  | .int n => match qvl p ρ μ with
    | some ds => if -(2 ^ 63) ≤ n ∧ n < 2 ^ 63 ∧ ds.length * n.toNat ≤ sizeLine then some (.ok (List.replicate n.toNat ds).flatten, μ) else none
    | none => none
  | _ => none
theorem df_rep (ha : DQ X W a tq) (hb : DE X W b tb) : DF X W (.BinOp a .Mult b pos) (dRepL tq tb) := by
  obtain ⟨te, p, r⟩ := ha.ex
  obtain ⟨ue, pu, ru⟩ := hb.ex
  refine ⟨_, pe_op op_rep p pu, fun c hc ρ μ g σ H Q rr μ' s hh hx k => ?_⟩
  refine (r c hc).then_ s hh hx fun q1 μ1 h1 v1 H1 g1 l1 s1 r1 hx1 => ?_
  refine (ru c hc).then_ s1 h1 hx1 fun d μ2 h2 v2 H2 g2 l2 s2 r2 hx2 => ?_
  cases d with
  | int n =>
    cases e1 : qvl q1 ρ μ2 with
    | none =>
      simp only [e1] at h2
      cases h2
    | some ds =>
      simp only [e1] at h2
      obtain ⟨a1, xs, rfl, h3, h4⟩ := s2.seqH (r1.le l2) e1
      by_cases z : -(2 ^ 63) ≤ n ∧ n < 2 ^ 63 ∧ ds.length * n.toNat ≤ sizeLine
      · rw [if_pos z] at h2
        cases h2
        exact ⟨a1, n, xs, rfl, rep_int r2, h3, z.1, z.2.1, by rw [← h4.length]; exact z.2.2, fun p hp => k _ rfl p _ _ _ ((l1.trans l2).trans (le_own1 g2 p 0)) (s2.tmp hp) ⟨own1_at _ _ _, s2.freshT hp⟩ upd_same ((le_own1 _ _ _).reps (reps_rep h4 _))⟩
      · rw [if_neg z] at h2
        cases h2
  | _ => cases h2
/-! ### slices of lists -/
def cutD (ds : List D) (lo hi : Option Int) : List D := (ds.drop (HT.sIx ds.length 0 lo)).take (HT.sIx ds.length ds.length hi - HT.sIx ds.length 0 lo)
structure DPO (X : Cx) (W : WX) (e : Option Expr) (t : Rho → M (Option Int)) : Prop where
  ex : ∃ to, PO X e to ∧ ∀ c : Ct, c.K = X.K → ∀ ρ μ g σ H (Q : Option Int → Hp → Prop) r μ', SR c ρ μ g σ H → t ρ μ = some (r, μ') → PX c W ρ σ g r μ' → (∀ o, r = .ok o → ∀ H' g', Le g g' → SR c ρ μ' g' σ H' → Q o H') → to σ H Q
def dPoN : Rho → M (Option Int) := fun _ => M.ret none
def dPoS (t : TD) : Rho → M (Option Int) := fun ρ => M.bind (t ρ) fun d => match d with
  | .int i => M.ret (some i)
  | _ => M.stuck
theorem dpo_none : DPO X W none dPoN := ⟨_, po_none, fun c hc ρ μ g σ H Q r μ' s h hx k => by
  obtain ⟨rfl, rfl⟩ := ret_some h
  exact k none rfl H g (Le.refl g) s⟩
theorem dpo_some (h : DE X W e t) : DPO X W (some e) (dPoS t) := by
  obtain ⟨te, p, r⟩ := h.ex
  refine ⟨_, po_some p, fun c hc ρ μ g σ H Q rr μ' s hh hx k => ?_⟩
  refine (r c hc).then_ s hh hx fun x μ1 h1 v1 H1 g1 l1 s1 r1 hx1 => ?_
  cases x with
  | int i =>
    obtain ⟨rfl, rfl⟩ := ret_some h1
    exact ⟨i, rep_int r1, k _ rfl H1 g1 l1 s1⟩
  | _ => cases h1
def dSlice (t : TQ) (lo hi : Rho → M (Option Int)) : TL := fun ρ => M.bind (t ρ) fun q => M.bind (lo ρ) fun l => M.bind (hi ρ) fun h μ => match qvl q ρ μ with
  | some ds => some (.ok (cutD ds l h), μ)
  | none => none
theorem df_slice {lo hi : Option Expr} {p2 : Pos} {tl th : Rho → M (Option Int)} (ha : DQ X W a tq) (hl : DPO X W lo tl) (hh : DPO X W hi th) : DF X W (.Subscript a (.Slice lo hi none p2) pos) (dSlice tq tl th) := by
  obtain ⟨te, p, r⟩ := ha.ex
  obtain ⟨le, pl, rl⟩ := hl.ex
  obtain ⟨he, ph, rh⟩ := hh.ex
  refine ⟨_, pe_slice sl_list p pl ph, fun c hc ρ μ g σ H Q rr μ' s h0 hx k => ?_⟩
  refine (r c hc).then_ s h0 hx fun q1 μ1 h1 v1 H1 g1 l1 s1 r1 hx1 => ?_
  have step : ∀ {α β : Type} {m : M α} {f : α → M β} {μ μ' : Mu} {r : Res β}, M.bind m f μ = some (r, μ') → (∃ a μ1, m μ = some (.ok a, μ1) ∧ f a μ1 = some (r, μ')) ∨ (∃ C ns ds, m μ = some (.ex C ns ds, μ') ∧ r = .ex C ns ds) := fun h => bind_some h
  rcases step h1 with ⟨l, μ2, e1, e2⟩ | ⟨C, ns, ds, e1, rfl⟩
  · refine rl c hc ρ μ1 g1 σ H1 _ _ _ s1 e1 px_ok fun o eo H2 g2 l2 s2 => ?_
    cases eo
    rcases step e2 with ⟨h, μ3, e3, e4⟩ | ⟨C, ns, ds, e3, rfl⟩
    · refine rh c hc ρ μ2 g2 σ H2 _ _ _ s2 e3 px_ok fun o eo H3 g3 l3 s3 => ?_
      cases eo
      cases e5 : qvl q1 ρ μ3 with
      | none => rw [e5] at e4; cases e4
      | some ds =>
        rw [e5] at e4
        cases e4
        obtain ⟨a1, xs, rfl, h3, h4⟩ := s3.seqH (r1.le (l2.trans l3)) e5
        refine ⟨a1, xs, rfl, SqL.of h3, fun p hp => k _ rfl p _ _ _ (((l1.trans l2).trans l3).trans (le_own1 g3 p 0)) (s3.tmp hp) ⟨own1_at _ _ _, s3.freshT hp⟩ upd_same ((le_own1 _ _ _).reps ?_)⟩
        unfold cutD cutV
        rw [h4.length]
        exact (h4.drop _).take _
    · exact rh c hc ρ μ2 g2 σ H2 _ _ _ s2 e3 (fun C' ns' ds' e => by cases e; exact ((hx1.le l2)) C ns ds rfl) fun o eo => by cases eo
  · exact rl c hc ρ μ1 g1 σ H1 _ _ _ s1 e1 (fun C' ns' ds' e => by cases e; exact hx1 C ns ds rfl) fun o eo => by cases eo
end
end DL
set_option Elab.async false
set_option linter.all false
set_option maxRecDepth 100000
set_option maxHeartbeats 4000000
set_option autoImplicit false
namespace DL
open PySem PySem.Spec L2
/-! ### fields -/
def fldD (ns : List Str) (ds : List D) (f : Str) : Option D := (ns.zip ds).lookup f
theorem zip_lookup {K : Fg} {ads : List Addr} {B : Hp} {f : Str} : ∀ {ns : List Str} {ds : List D} {xs : List V} {d : D}, Reps K ads B ds xs → (ns.zip ds).lookup f = some d → ∃ v, (ns.zip xs).lookup f = some v ∧ Rep K ads B d v
  | [], ds, xs, d, h, e => by cases ds <;> cases e
  | n :: ns, [], xs, d, h, e => by cases e
  | n :: ns, d0 :: ds, xs, d, h, e => by
    obtain ⟨x, r, rfl, hx, t⟩ := reps_cons_inv h
    show ∃ v, List.lookup f ((n, x) :: ns.zip r) = some v ∧ _
    have e' : List.lookup f ((n, d0) :: ns.zip ds) = some d := e
    rw [List.lookup_cons] at e' ⊢
    cases q : (f == n) with
    | true =>
      rw [q] at e'
      cases e'
      exact ⟨x, rfl, hx⟩
    | false =>
      rw [q] at e'
      exact zip_lookup t e'
theorem zip_lookup_none {f : Str} {β : Type} : ∀ {ns : List Str} {ds : List D} {xs : List β}, ds.length = xs.length → (ns.zip ds).lookup f = none → (ns.zip xs).lookup f = none
  | [], ds, xs, h, e => by cases xs <;> rfl
  | n :: ns, [], [], h, e => rfl
  | n :: ns, d0 :: ds, x :: xs, h, e => by
    have e' : List.lookup f ((n, d0) :: ns.zip ds) = none := e
    show List.lookup f ((n, x) :: ns.zip xs) = none
    rw [List.lookup_cons] at e' ⊢
    cases q : (f == n) with
    | true => rw [q] at e'; cases e'
    | false =>
      rw [q] at e'
      exact zip_lookup_none (by simpa using h) e'
/-- an instance's class and fields, as it stands -/
def insD (d : D) (μ : Mu) : Option (Addr × List Str × List D) := match d with
  | .obj C ns ds => some (C, ns, ds)
  | .mref k => match μ[k]? with
    | some (.ins C ns ds) => some (C, ns, ds)
    | _ => none
  | _ => none
theorem SR.ins {c : Ct} {ρ : Rho} {μ : Mu} {g : G} {σ : L2.St} {H : Hp} (s : SR c ρ μ g σ H) {d : D} {v : V} {C : Addr} {ns : List Str} {ds : List D} (r : GRep c.K g d v) (h : insD d μ = some (C, ns, ds)) :
    ∃ a dx xs, v = .ref a ∧ H a = some (.ins C dx (ns.zip xs)) ∧ ns.length = xs.length ∧ GReps c.K g ds xs := by
  unfold insD at h
  split at h
  · cases h
    unfold GRep Rep at r
    obtain ⟨a, dx, xs, rfl, h1, h2, h3⟩ := r
    exact ⟨a, dx, xs, rfl, s.sub _ _ h1, h2, h3⟩
  · rename_i k
    split at h
    · rename_i C' ns' ds' e
      cases h
      unfold GRep Rep at r
      obtain ⟨a, h1, rfl⟩ := r
      obtain ⟨_, dx, xs, q1, q2, q3⟩ := s.amb _ a _ h1 e
      exact ⟨a, dx, xs, rfl, q1, q2, q3⟩
    · cases h
  · cases h
def putN : List Str → Str → List Str
  | [], f => [f]
  | g :: r, f => if g = f then g :: r else g :: putN r f
def putA {α : Type} : List Str → List α → Str → α → List α
  | [], _, _, v => [v]
  | g :: r, x :: xs, f, v => if g = f then v :: xs else x :: putA r xs f v
  | _ :: _, [], _, _ => []
theorem putF_zip {f : Str} {v : V} : ∀ {ns : List Str} {xs : List V}, ns.length = xs.length → putF f v (ns.zip xs) = (putN ns f).zip (putA ns xs f v)
  | [], xs, h => by cases xs <;> first | rfl | cases h
  | g :: ns, [], h => by cases h
  | g :: ns, x :: xs, h => by
    show (if g = f then (g, v) :: ns.zip xs else (g, x) :: putF f v (ns.zip xs)) = (if g = f then g :: ns else g :: putN ns f).zip (if g = f then v :: xs else x :: putA ns xs f v)
    by_cases q : g = f
    · rw [if_pos q, if_pos q, if_pos q]
      rfl
    · rw [if_neg q, if_neg q, if_neg q, putF_zip (by simpa using h)]
      rfl
theorem putA_reps {K : Fg} {ads : List Addr} {B : Hp} {f : Str} {d : D} {v : V} (hv : Rep K ads B d v) : ∀ {ns : List Str} {ds : List D} {xs : List V}, ns.length = xs.length → Reps K ads B ds xs → Reps K ads B (putA ns ds f d) (putA ns xs f v)
  | [], ds, xs, h, r => reps_cons hv reps_nil
  | g :: ns, ds, [], h, r => by cases h
  | g :: ns, [], x :: xs, h, r => by
    have q := reps_nil_inv r
    cases q
  | g :: ns, d0 :: ds, x :: xs, h, r => by
    obtain ⟨y, t, e, hy, ht⟩ := reps_cons_inv r
    cases e
    show Reps K ads B (if g = f then d :: ds else d0 :: putA ns ds f d) (if g = f then v :: xs else x :: putA ns xs f v)
    by_cases q : g = f
    · rw [if_pos q, if_pos q]
      exact reps_cons hv ht
    · rw [if_neg q, if_neg q]
      exact reps_cons hy (putA_reps hv (by simpa using h) ht)
theorem putNA {α : Type} {f : Str} {v : α} : ∀ {ns : List Str} {xs : List α}, ns.length = xs.length → (putN ns f).length = (putA ns xs f v).length
  | [], xs, h => rfl
  | g :: ns, [], h => by cases h
  | g :: ns, x :: xs, h => by
    show (if g = f then g :: ns else g :: putN ns f).length = (if g = f then v :: xs else x :: putA ns xs f v).length
    by_cases q : g = f
    · rw [if_pos q, if_pos q]; exact h
    · rw [if_neg q, if_neg q, List.length_cons, List.length_cons, putNA (by simpa using h)]
section
variable {X : Cx} {W : WX} {e o a b : Expr} {t u ta tb : TD} {tl : TL} {f m : Str} {pos : Pos}
def dFld (S : List Addr) (f : Str) (t : TD) : TD := fun ρ => M.bind (t ρ) fun d μ => match insD d μ with
  | some (C, ns, ds) => if C ∈ S then match fldD ns ds f with
    | some y => some (.ok y, μ)
    | none => none else none
  | none => none
theorem de_fld {S : List Addr} (hS : ∀ C ∈ S, Cls X.K C ∧ NoAttr X.K C f) (he : DE X W e t) (hb : attributeBase e f X.env (eval e X.env) = eval e X.env := by rfl) : DE X W (.Attribute e f pos) (dFld S f t) := by
  obtain ⟨te, p, r⟩ := he.ex
  refine ⟨_, pe_fld p hb, fun c hc ρ μ g σ H Q rr μ' s hh hx k => ?_⟩
  refine (r c hc).then_ s hh hx fun x μ1 h1 v1 H1 g1 l1 s1 r1 hx1 => ?_
  cases e0 : insD x μ1 with
  | none => rw [e0] at h1; cases h1
  | some q =>
    obtain ⟨C, ns, ds⟩ := q
    rw [e0] at h1
    have h1' : (if C ∈ S then match fldD ns ds f with
      | some y => some (Res.ok y, μ1)
      | none => none else none) = some (rr, μ') := h1
    by_cases z : C ∈ S
    · rw [if_pos z] at h1'
      cases e1 : fldD ns ds f with
      | none => rw [e1] at h1'; cases h1'
      | some y =>
        rw [e1] at h1'
        cases h1'
        obtain ⟨a, dx, xs, rfl, h2, h3, h4⟩ := s1.ins r1 e0
        obtain ⟨v, h5, h6⟩ := zip_lookup h4 e1
        exact ⟨a, C, dx, _, v, rfl, h2, (hS C z).1, (hS C z).2, h5, k _ rfl v H1 g1 l1 s1 h6⟩
    · rw [if_neg z] at h1'
      cases h1'
/-- o.f = e, o an object that may change -/
def dsFld (S : List Addr) (f : Str) (te to' : TD) : TO' := dsE te fun y => dsE to' fun d ρ μ => match d with
  | .mref k => match μ[k]? with
    | some (.ins C ns ds) => if C ∈ S ∧ ns.length < 1000 then some (.nx ρ, μ.set k (.ins C (putN ns f) (putA ns ds f y))) else none
    | _ => none
  | _ => none
theorem ds_fld {S : List Addr} {pos' : Pos} {te to' : TD} (hS : ∀ C ∈ S, Cls X.K C ∧ NoAttr X.K C f) (he : DE X W e te) (ho : DE X W o to') (hs : swapsWith e (some (.Attribute o f pos')) pos.line X.env = pure false := by rfl) : DS X W (.Assign [.Attribute o f pos'] e pos) (dsFld S f te to') := by
  obtain ⟨t1, p1, r1⟩ := he.ex
  obtain ⟨t2, p2, r2⟩ := ho.ex
  refine ⟨_, ps_fld p2 p1 hs, fun c hc ρ μ g σ H D₀ out μ' s h k => ?_⟩
  refine (r1 c hc).stm s h k fun y μ1 h1 v1 H1 g1 l1 s1 rp1 k1 => ?_
  refine (r2 c hc).stm s1 h1 k1 fun d μ2 h2 v2 H2 g2 l2 s2 rp2 k2 => ?_
  cases d <;> first | (cases h2; done) | skip
  rename_i n
  have h2' : (match μ2[n]? with
    | some (.ins C ns ds) => if C ∈ S ∧ ns.length < 1000 then some (Out.nx ρ, μ2.set n (.ins C (putN ns f) (putA ns ds f y))) else none
    | _ => none) = some (out, μ') := h2
  cases e0 : μ2[n]? with
  | none => rw [e0] at h2'; cases h2'
  | some mo =>
    rw [e0] at h2'
    cases mo with
    | ins C ns ds =>
      have h3 : (if C ∈ S ∧ ns.length < 1000 then some (Out.nx ρ, μ2.set n (.ins C (putN ns f) (putA ns ds f y))) else none) = some (out, μ') := h2'
      by_cases z : C ∈ S ∧ ns.length < 1000
      · rw [if_pos z] at h3
        cases h3
        unfold GRep Rep at rp2
        obtain ⟨a, ha, rfl⟩ := rp2
        obtain ⟨q1, dx, xs, q2, q3, q4⟩ := s2.amb n a _ ha e0
        rcases q1 with q1 | q1
        · cases q1
        refine ⟨a, C, dx, _, rfl, q2, (hS C z.1).1, (hS C z.1).2, ?_, ?_⟩
        · rw [List.length_zip, ← q3, Nat.min_self]; exact z.2
        · refine k2 σ _ g2 (Le.refl _) (s2.wrtA (m' := .ins C (putN ns f) (putA ns ds f y)) ha e0 q1 ⟨dx, putA ns xs f v1, ?_, putNA q3, putA_reps (l2.rep rp1) q3 q4⟩)
          rw [upd_same, putF_zip q3]
      · rw [if_neg z] at h3
        cases h3
    | _ => cases h2'
/-! ### methods that raise nothing -/
structure KnownM (P : Program) (w : World) (K : Fg) (mg : Str → Option Value) (base : Heap) (C : Addr) (m : Str) (k n : Nat) (F : List D → M D) : Prop where
  cl : Cls K C
  ex : ∃ f fd ps, Meth K C m f ∧ Binds K fd ps [] ∧ ps.length = n ∧ FnOk P w K mg base (L2.CX P w) k f fd ps (spD K n F)
def dMeth (C : Addr) (m : Str) (F : List D → M D) (n : Nat) (t : TD) (tl : TL) : TD := fun ρ => M.bind (t ρ) fun d μ => match insD d μ with
  | some (C', ns, ds) => if C' = C ∧ fldD ns ds m = none then M.bind (tl ρ) (fun ds => if ds.length + 1 = n then M.nx (F (d :: ds)) else M.stuck) μ else none
  | none => none
theorem nx_bind_ex {α β : Type} {m : M α} {f : α → M β} : True := trivial
theorem de_meth {C : Addr} {k n : Nat} {F : List D → M D} {apos : Pos} {es : List Expr} (hk : KnownM X.prog X.w X.K X.mg X.base C m k n F) (hr : Room k X.A) (ho : DE X W o t) (ha : DA X W (e :: es) tl)
    (hpe : ∀ {f fd ps sp} {t1 : TE} {t2 : TA}, Meth X.K C m f → FnOk X.prog X.w X.K X.mg X.base (L2.CX X.prog X.w) k f fd ps sp → Binds X.K fd ps [] → Cls X.K C → PE X o t1 → PA X (e :: es) t2 → PE X (.Call (.Attribute o m apos) (e :: es) [] pos) (tMeth C m sp [] E0 t1 t2) := by
      intro f fd ps sp t1 t2 hm F b cl p q; exact pe_meth p cl hm F (by assumption) b .nil passL q) :
    DE X W (.Call (.Attribute o m apos) (e :: es) [] pos) (dMeth C m F n t tl) := by
  obtain ⟨f, fd, ps, h1, h2, h3, h4⟩ := hk.ex
  obtain ⟨te, p, r⟩ := ho.ex
  obtain ⟨ue, pu, ru⟩ := ha.ex
  refine ⟨_, hpe h1 h4 h2 hk.cl p pu, fun c hc ρ μ g σ H Q rr μ' s hh hx k => ?_⟩
  refine (r c hc).then_ s hh hx fun x μ1 h1 v1 H1 g1 l1 s1 r1 hx1 => ?_
  cases e0 : insD x μ1 with
  | none => rw [e0] at h1; cases h1
  | some q =>
    obtain ⟨C', ns, ds⟩ := q
    rw [e0] at h1
    have h1' : (if C' = C ∧ fldD ns ds m = none then M.bind (tl ρ) (fun ds => if ds.length + 1 = n then M.nx (F (x :: ds)) else M.stuck) μ1 else none) = some (rr, μ') := h1
    by_cases z : C' = C ∧ fldD ns ds m = none
    · rw [if_pos z] at h1'
      obtain ⟨rfl, z2⟩ := z
      obtain ⟨a, dx, xs, rfl, h5, h6, h7⟩ := s1.ins r1 e0
      refine ⟨a, dx, _, rfl, h5, zip_lookup_none h7.length z2, ?_⟩
      refine (ru c hc).then_ s1 h1' hx1 fun es' μ2 h2 vs H2 g2 l2 s2 r2 hx2 => ?_
      by_cases q : es'.length + 1 = n
      · rw [if_pos q] at h2
        obtain ⟨d, ed0, hF2⟩ := nx_some h2
        subst ed0
        rw [← hc, List.append_nil]
        refine ⟨x :: es', μ2, g2.enter, .ok d, μ', q, s2.toSH.enter, reps_cons (l2.rep r1) r2, hF2, fun d' ed v H' g' l' s' rp => ?_, fun C ns es ed => by cases ed⟩
        cases ed
        exact k d rfl v H' _ ((l1.trans l2).trans (le_after l')) (s2.after l' s') rp
      · rw [if_neg q] at h2
        cases h2
    · rw [if_neg z] at h1'
      cases h1'
/-! ### own == -/
/-- x == y by the class's own __eq__; the right one an int, None, True, False or of the same class -/
def tyRight (C : Addr) : D → Option Value
  | .int _ => some (.type "int")
  | .obj C' _ _ => if C' = C then some (.ref C) else none
  | _ => none
def dEqOwn (C : Addr) (F : List D → M D) (t u : TD) : TD := fun ρ => M.bind (t ρ) fun x => M.bind (u ρ) fun y μ => match x with
  | .obj C' _ _ => if C' = C then match tyRight C y with
    | some _ => match F [x, y] μ with
      | some (.ok (.bl b), μ') => some (.ok (.bl b), μ')
      | _ => none
    | none => none else none
  | _ => none
def rEqOwn (K : Fg) (C : Addr) (F : List D → M D) : R2 := fun x y H Q => ∃ a dx fs tb, x = .ref a ∧ H a = some (.ins C dx fs) ∧ ((∃ i, y = .int i ∧ tb = Value.type "int") ∨ (∃ b dy gs, y = .ref b ∧ H b = some (.ins C dy gs) ∧ tb = Value.ref C)) ∧ spD K 2 F [x, y] H (fun v H' => (∃ b, v = .bl b) ∧ Q v H') E0
theorem op_eqOwn {C f : Addr} {fd : FuncData} {ps : List Str} {k : Nat} {F : List D → M D} (hF : FnOk X.prog X.w X.K X.mg X.base (L2.CX X.prog X.w) k f fd ps (spD X.K 2 F)) (hr : Room k X.A) (hb : Binds X.K fd ps [])
    (hs : PySem.W.findIn X.K (.ref C) "__eq__" = some (some (.ref f))) (hf : PySem.W.isFn X.K (.ref f) = true) (hi : PySem.W.subIn X.K (.type "int") (.ref C) = some false) : OpR X (compareOp .Eq) (rEqOwn X.K C F) := by
  intro pins s σ H x y v u Q I rx ry h
  obtain ⟨a, dx, fs, tb, rfl, ha, hy, hsp⟩ := h
  cases rx
  show wpAny (model X.prog X.w) X.A (richCompare .Eq (.ref a) u) (EP X pins σ Q) X.xe s
  obtain ⟨mA, J, _⟩ := ins_get I.hok ha
  obtain ⟨od, J, _⟩ := J.look
  obtain ⟨m, hFr⟩ := I.fr
  have fin : wpAny (model X.prog X.w) X.A (call (.ref f) [.ref a, u]) (PySem.W.CmpBack (EP X pins σ Q)) X.xe s := by
    have q := run_fn (ds := []) (dvs := []) (vs := [.ref a, y]) hF hr hb .nil passL I (.cons rfl (.cons ry .nil)) (by rw [List.append_nil]; exact hsp)
    refine thn q fun w s' hw => ?_
    obtain ⟨z, H', I', rz, ⟨b, rfl⟩, qz⟩ := hw
    cases rz
    exact ⟨.bl b, H', I', rfl, qz⟩
  rcases hy with ⟨i, rfl, rfl⟩ | ⟨b, dy, gs, rfl, hb2, rfl⟩
  · obtain ⟨tk, rfl⟩ := ry
    exact PySem.W.cmp_K (op := .Eq) (tb := .type "int") hr.units0 hFr I.ok.mod.kin J .now (by unfold PySem.W.notFirst; rw [hi]; rfl) hs hf fin
  · cases ry
    obtain ⟨mB, J', _⟩ := ins_get I.hok hb2
    obtain ⟨od', J', _⟩ := J'.look
    exact PySem.W.cmp_K (op := .Eq) (tb := .ref C) hr.units0 hFr I.ok.mod.kin J J'.type (by simp [PySem.W.notFirst]) hs hf fin
theorem re_eqOwn {c : Ct} {C : Addr} {F : List D → M D} {te ue : TE} (ha : RE c W te t) (hb : RE c W ue u) : RE c W (tOp (rEqOwn c.K C F) te ue) (dEqOwn C F t u) := fun ρ μ g σ H Q rr μ' s hh hx k => by
  refine ha.then_ s hh hx fun x μ1 h1 v1 H1 g1 l1 s1 r1 hx1 => ?_
  refine hb.then_ s1 h1 hx1 fun y μ2 h2 v2 H2 g2 l2 s2 r2 hx2 => ?_
  cases x <;> first | (cases h2; done) | skip
  rename_i C' ns ds
  have h2' : (if C' = C then match tyRight C y with
    | some _ => match F [.obj C' ns ds, y] μ2 with
      | some (.ok (.bl b), μ') => some (Res.ok (D.bl b), μ')
      | _ => none
    | none => none else none) = some (rr, μ') := h2
  by_cases z : C' = C
  · subst z
    rw [if_pos rfl] at h2'
    cases e1 : tyRight C' y with
    | none => rw [e1] at h2'; cases h2'
    | some tb =>
      rw [e1] at h2'
      have h3 : (match F [.obj C' ns ds, y] μ2 with
        | some (.ok (.bl b), μ') => some (Res.ok (D.bl b), μ')
        | _ => none) = some (rr, μ') := h2'
      have r1' := l2.rep r1
      have r1'' := r1'
      unfold GRep Rep at r1''
      obtain ⟨a, dx, xs, rfl, q1, q2, q3⟩ := r1''
      split at h3
      · rename_i b μ3 e2
        cases h3
        refine ⟨a, dx, _, tb, rfl, s2.sub _ _ q1, ?_, [.obj C' ns ds, y], μ2, g2.enter, .ok (.bl b), μ', rfl, s2.toSH.enter, reps_cons r1' (reps_cons r2 reps_nil), e2, fun d ed v H' g' l' s' rp => ?_, fun C ns es ed => by cases ed⟩
        · cases y <;> first | (cases e1; done) | skip
          case int i =>
            cases e1
            exact .inl ⟨i, rep_int r2, rfl⟩
          case obj C2 ns2 ds2 =>
            have e1' : (if C2 = C' then some (Value.ref C') else none) = some tb := e1
            by_cases w : C2 = C'
            · subst w
              rw [if_pos rfl] at e1'
              cases e1'
              unfold GRep Rep at r2
              obtain ⟨a2, dx2, xs2, rfl, w1, w2, w3⟩ := r2
              exact .inr ⟨a2, dx2, _, rfl, s2.sub _ _ w1, rfl⟩
            · rw [if_neg w] at e1'
              cases e1'
        · cases ed
          exact ⟨⟨b, rep_flat (d := .bl b) rfl rp⟩, k _ rfl v H' _ ((l1.trans l2).trans (le_after l')) (s2.after l' s') rp⟩
      · cases h3
  · rw [if_neg z] at h2'
    cases h2'
structure KnownEq (P : Program) (w : World) (K : Fg) (mg : Str → Option Value) (base : Heap) (C : Addr) (k : Nat) (F : List D → M D) : Prop where
  hi : PySem.W.subIn K (.type "int") (.ref C) = some false
  ex : ∃ f fd ps, PySem.W.findIn K (.ref C) "__eq__" = some (some (.ref f)) ∧ PySem.W.isFn K (.ref f) = true ∧ Binds K fd ps [] ∧ FnOk P w K mg base (L2.CX P w) k f fd ps (spD K 2 F)
theorem de_eqOwn {C : Addr} {k : Nat} {F : List D → M D} (hk : KnownEq X.prog X.w X.K X.mg X.base C k F) (hr : Room k X.A) (ha : DE X W a t) (hb : DE X W b u) : DE X W (.Compare a [.Eq] [b] pos) (dEqOwn C F t u) := by
  obtain ⟨f, fd, ps, h1, h2, h3, h4⟩ := hk.ex
  obtain ⟨te, p, r⟩ := ha.ex
  obtain ⟨ue, pu, ru⟩ := hb.ex
  exact ⟨_, pe_cmpR (op_eqOwn h4 hr h3 h1 h2 hk.hi) p pu (nomark _), fun c hc => by rw [← hc]; exact re_eqOwn (r c hc) (ru c hc)⟩
theorem dt_eqOwn {C : Addr} {k : Nat} {F : List D → M D} (hk : KnownEq X.prog X.w X.K X.mg X.base C k F) (hr : Room k X.A) (ha : DE X W a t) (hb : DE X W b u) : DT X W (.Compare a [.Eq] [b] pos) (dTest (dEqOwn C F t u)) := by
  obtain ⟨f, fd, ps, h1, h2, h3, h4⟩ := hk.ex
  obtain ⟨te, p, r⟩ := ha.ex
  obtain ⟨ue, pu, ru⟩ := hb.ex
  exact ⟨_, pt_cmpR (op_eqOwn h4 hr h3 h1 h2 hk.hi) p pu (nomark _), fun c hc => by rw [← hc]; exact rt_test (re_eqOwn (r c hc) (ru c hc))⟩
/-! ### is of True, False -/
def gIsB (neg : Bool) : D → D → Option D
  | .bl a, .bl b => some (.bl (if neg then !(a == b) else a == b))
  | _, _ => none
end
end DL
set_option Elab.async false
set_option linter.all false
set_option maxRecDepth 100000
set_option maxHeartbeats 4000000
set_option autoImplicit false
namespace DL
open PySem PySem.Spec L2
/-! ### is True, is False -/
section
variable {X : Cx} {W : WX} {e o a b : Expr} {t u ta tb : TD} {tl : TL} {pos : Pos}
def gIs2 (neg : Bool) : D → D → Option D
  | .bl a, .bl b => some (.bl (if neg then !(decide (a = b)) else decide (a = b)))
  | _, _ => none
theorem gIs2_some {neg : Bool} {x y d : D} (h : gIs2 neg x y = some d) : ∃ a b, x = .bl a ∧ y = .bl b ∧ d = .bl (if neg then !(decide (a = b)) else decide (a = b)) := by
  cases x <;> cases y <;> first | (cases h; exact ⟨_, _, rfl, rfl, rfl⟩) | cases h
theorem od_isB : OpD X (compareOp .Is) (gIs2 false) := opD_pure op_isBl fun g H x y vx vy Q d _ rx ry h k => by
  obtain ⟨a, b, rfl, rfl, rfl⟩ := gIs2_some h
  exact ⟨a, b, rep_flat (d := .bl a) rfl rx, rep_flat (d := .bl b) rfl ry, k _ (flat_rep rfl)⟩
theorem od_notB : OpD X (compareOp .IsNot) (gIs2 true) := opD_pure op_notBl fun g H x y vx vy Q d _ rx ry h k => by
  obtain ⟨a, b, rfl, rfl, rfl⟩ := gIs2_some h
  exact ⟨a, b, rep_flat (d := .bl a) rfl rx, rep_flat (d := .bl b) rfl ry, k _ (flat_rep rfl)⟩
/-! ### isinstance -/
/-- what an own class must have -/
structure Own (K : Fg) (C : Addr) : Prop where
  cl : Cls K C
  ha : PySem.W.findIn K (.ref C) "__class__" = some (some (.builtin "object.__class__"))
  hn : PySem.W.specialIn K (.builtin "object.__class__") "__get__" = some (some (.builtin "getset_descriptor.__get__"))
  htk : PySem.W.takesIn K (.builtin "object.__class__") = some true
  hm : PySem.W.mroIn K C (.type "object") = some true
/-- a thing's type, by what is known of it; S: the own classes -/
def tyD (S : List Addr) (d : D) (μ : Mu) : Option Value := match d with
  | .non => some (.type "NoneType")
  | .bl _ => some (.type "bool")
  | .int _ => some (.type "int")
  | .str _ => some (.type "str")
  | .tup _ => some (.type "tuple")
  | .kt _ => some (.type "tuple")
  | .lst _ => some (.type "list")
  | .rd _ => some (.type "list")
  | .dk _ _ => some (.type "dict")
  | .obj C _ _ => if C ∈ S then some (.ref C) else none
  | .mref k => match μ[k]? with
    | some (.lst _) => some (.type "list")
    | some (.dk _ _) => some (.type "dict")
    | some (.dt _ _) => some (.type "dict")
    | some (.ins C _ _) => if C ∈ S then some (.ref C) else none
    | _ => none
  | _ => none
theorem sqL_ty {K : Fg} {H : Hp} {a : Addr} {xs : List V} (h : SqL K H a xs) : TyX K H (.ref a) (.type "list") := by
  rcases h with (h | ⟨o, h⟩) | ⟨o, its, n, h1, h2, _⟩
  · exact .base (.lst h)
  · exact .base (.frz h)
  · exact .kList h1 h2
theorem sqT_ty {K : Fg} {H : Hp} {a : Addr} {xs : List V} (h : SqT K H a xs) : TyX K H (.ref a) (.type "tuple") := by
  rcases h with (h | ⟨o, h⟩) | ⟨o, its, n, h1, h2, _⟩
  · exact .base (.tup h)
  · exact .fTuple h
  · exact .kTuple h1 h2
theorem own_ty {K : Fg} {H : Hp} {a C dx : Addr} {fs : List (Str × V)} (o : Own K C) (h : H a = some (.ins C dx fs)) : TyX K H (.ref a) (.ref C) := .base (.ins h o.cl o.ha o.hn o.htk o.hm)
theorem SR.ty {c : Ct} {ρ : Rho} {μ : Mu} {g : G} {σ : L2.St} {H : Hp} (s : SR c ρ μ g σ H) {S : List Addr} (hS : ∀ C ∈ S, Own c.K C) {d : D} {v : V} {ty : Value} (r : GRep c.K g d v) (h : tyD S d μ = some ty) : TyX c.K H v ty := by
  unfold tyD at h
  split at h
  · cases h; rw [rep_flat (d := .non) rfl r]; exact .base .non
  · rename_i b; cases h; rw [rep_flat (d := .bl b) rfl r]; exact .base (.bl b)
  · rename_i i; cases h; rw [rep_flat (d := .int i) rfl r]; exact .base (.int i)
  · rename_i z; cases h; rw [rep_flat (d := .str z) rfl r]; exact .base (.str z)
  · cases h
    unfold GRep Rep at r
    obtain ⟨a, xs, rfl, h1, h2⟩ := r
    exact .base (.tup (s.sub _ _ h1))
  · cases h
    unfold GRep Rep at r
    obtain ⟨a, xs, rfl, h1, h2⟩ := r
    exact sqT_ty (sqT_mono h1 s.sub)
  · cases h
    unfold GRep Rep at r
    obtain ⟨a, xs, rfl, h1, h2⟩ := r
    exact .base (.lst (s.sub _ _ h1))
  · cases h
    unfold GRep Rep at r
    obtain ⟨a, xs, rfl, h1, h2⟩ := r
    exact sqL_ty (sqL_mono h1 s.sub)
  · cases h
    unfold GRep Rep at r
    obtain ⟨a, xs, rfl, h1, h2, h3⟩ := r
    exact .base (.dK (s.sub _ _ h1))
  · rename_i C ns ds
    split at h
    · rename_i z
      cases h
      unfold GRep Rep at r
      obtain ⟨a, dx, xs, rfl, h1, h2, h3⟩ := r
      exact own_ty (hS C z) (s.sub _ _ h1)
    · cases h
  · rename_i k
    unfold GRep Rep at r
    obtain ⟨a, ha, rfl⟩ := r
    split at h
    · rename_i ds e
      cases h
      obtain ⟨_, xs, q2, q3⟩ := s.amb _ a _ ha e
      exact .base (.lst q2)
    · rename_i ks ds e
      cases h
      obtain ⟨_, xs, q2, q3⟩ := s.amb _ a _ ha e
      exact .base (.dK q2)
    · rename_i ks ds e
      cases h
      obtain ⟨_, xs, q2, q3⟩ := s.amb _ a _ ha e
      exact .base (.dT q2)
    · rename_i C ns ds e
      split at h
      · rename_i z
        cases h
        obtain ⟨_, dx, xs, q2, q3⟩ := s.amb _ a _ ha e
        exact own_ty (hS C z) q2
      · cases h
    · cases h
  · cases h
/-- a class as a datum -/
def clsD : D → Option Value
  | .ty n => some (.type n)
  | .ref C => some (.ref C)
  | _ => none
theorem clsD_v {K : Fg} {ads : List Addr} {B : Hp} {d : D} {v : V} {w : Value} (r : Rep K ads B d v) (h : clsD d = some w) : ClsV v w := by
  cases d <;> first | (cases h; done) | skip
  · cases h; rw [rep_flat (d := .ref _) rfl r]; exact .own _
  · cases h; rw [rep_flat (d := .ty _) rfl r]; exact .ty _
/-- whether a thing of type t is of class c: what the class facts tell; kI the answers known -/
abbrev Kit := List (Value × Value × Bool)
def kitD (kI : Kit) (t c : Value) : Option Bool := (kI.find? fun x => decide (x.1 = t ∧ x.2.1 = c)).map (·.2.2)
def KitOk (K : Fg) (kI : Kit) : Prop := ∀ x ∈ kI, PySem.W.kitOne K x.1 x.2.1 = some x.2.2
theorem kitD_some {K : Fg} {kI : Kit} (h : KitOk K kI) {t c : Value} {b : Bool} (e : kitD kI t c = some b) : PySem.W.kitOne K t c = some b := by
  unfold kitD at e
  obtain ⟨x, h1, rfl⟩ := Option.map_eq_some_iff.mp e
  have h2 := List.find?_some h1
  obtain ⟨q1, q2⟩ := of_decide_eq_true h2
  rw [← q1, ← q2]
  exact h x (List.mem_of_find?_eq_some h1)
def dIsi (S : List Addr) (kI : Kit) (t u : TD) : TD := fun ρ => M.bind (t ρ) fun x => M.bind (u ρ) fun y μ => match tyD S x μ, clsD y with
  | some ty, some c => match kitD kI ty c with
    | some b => some (.ok (.bl b), μ)
    | none => none
  | _, _ => none
theorem de_isi {S : List Addr} {kI : Kit} {p : Pos} (hS : ∀ C ∈ S, Own X.K C) (hK : KitOk X.K kI) (ha : DE X W a t) (hb : DE X W b u) (hm : X.mg "isinstance" = none) (hg : Gl X "isinstance" := by rfl) (he : starEach [a, b] X.env = (false, eval a X.env) :: starEach [b] X.env := by rfl) (he2 : starEach [b] X.env = [(false, eval b X.env)] := by rfl) (hpl : (backTo pos (starEach [b] X.env)).any (·.1) = false := by rfl) :
    DE X W (.Call (.Name "isinstance" p) [a, b] [] pos) (dIsi S kI t u) := by
  obtain ⟨te, p, r⟩ := ha.ex
  obtain ⟨ue, pu, ru⟩ := hb.ex
  refine ⟨_, pe_callB call_isi hg hm (by decide +kernel) (pa_cons p (pa_cons pu pa_nil he2) he) (he := he) (hpl := hpl), fun c hc ρ μ g σ H Q rr μ' s hh hx k => ?_⟩
  refine (r c hc).then_ s hh hx fun x μ1 h1 v1 H1 g1 l1 s1 r1 hx1 => ?_
  refine (ru c hc).then_ s1 h1 hx1 fun y μ2 h2 v2 H2 g2 l2 s2 r2 hx2 => ?_
  cases e1 : tyD S x μ2 with
  | none => rw [e1] at h2; cases h2
  | some ty =>
    cases e2 : clsD y with
    | none => rw [e1, e2] at h2; cases h2
    | some w =>
      rw [e1, e2] at h2
      have h2' : (match kitD kI ty w with
        | some b => some (Res.ok (D.bl b), μ2)
        | none => none) = some (rr, μ') := h2
      cases e3 : kitD kI ty w with
      | none => rw [e3] at h2'; cases h2'
      | some b =>
        rw [e3] at h2'
        cases h2'
        have tx := s2.ty (S := S) (by rw [hc]; exact hS) (l2.rep r1) e1
        rw [hc] at tx
        exact ⟨v1, v2, ty, w, b, rfl, clsD_v r2 e2, tx, kitD_some hK e3, k _ rfl _ H2 g2 (l1.trans l2) s2 (flat_rep rfl)⟩
end
end DL
set_option Elab.async false
set_option linter.all false
set_option maxRecDepth 100000
set_option maxHeartbeats 4000000
set_option autoImplicit false
namespace DL
open PySem PySem.Spec L2
section
variable {X : Cx} {W : WX} {e o a b : Expr} {t u ta tb : TD} {tl : TL} {pos : Pos}
theorem de_bltn {x : Str} {d : D} {v : V} {w : Value} {pos : Pos} (hm : X.mg x = none) (hv : bootBuiltins x = some w) (hf : d.flat = some v) (r : RelV v w) (hg : Gl X x := by rfl) (hn : x ≠ "__name__" := by decide) (hd : (x == ("__debug__" : Str)) = false := by decide) : DE X W (.Name x pos) (dC d) :=
  ⟨_, pe_bltn hg hm hv r hn hd, fun c hc => re_C hf⟩
end
/-! ### a thing that is laid and that nobody tells of -/
section
variable {c : Ct} {μ : Mu} {g g' : G} {σ : L2.St} {H H' : Hp} {ρ : Rho} {p : Addr} {o : HO}
theorem SH.addU (h : SH c μ g H) (hp : H p = none) : SH c μ g (upd H p o) where
  sub := fun a u e => by
    rw [upd_ne (fun z => by rw [z, h.freshB hp] at e; cases e)]
    exact h.sub a u e
  own := h.own
  ownNew := h.ownNew
  ownAt := fun a e => by
    rw [upd_ne (fun z => e (by rw [z]; exact h.freshO hp))]
    exact h.ownAt a e
  alen := h.alen
  amb := fun k a m e1 e2 => by
    obtain ⟨q1, q2⟩ := h.amb k a m e1 e2
    exact ⟨q1, q2.step (Le.refl g) (upd_ne (h.ambNe0 hp e1 e2))⟩
  old := fun a u e n => by
    rw [upd_ne (fun z => by rw [z, h.fresh0 hp] at e; cases e)]
    exact h.old a u e n
  oldT := fun a u e => by
    rw [upd_ne (fun z => by rw [z, h.fresh0 hp] at e; cases e)]
    exact h.oldT a u e
  newB := h.newB
  b0 := h.b0
  a0 := h.a0
  aNew := h.aNew
  tmpT := fun a u e => by
    obtain ⟨q1, q2⟩ := h.tmpT a u e
    exact ⟨q1, by rw [upd_ne (fun z => by rw [z, h.freshO hp] at q1; cases q1)]; exact q2⟩
theorem SR.addU (h : SR c ρ μ g σ H) (hp : H p = none) : SR c ρ μ g σ (upd H p o) :=
  { h.toSH.addU hp with
    slen := h.slen
    slot := fun i s x e1 e2 => (h.slot i s x e1 e2).step (Le.refl g) fun q e => ⟨e, upd_ne (fun z => by rw [z, h.freshO hp] at e; cases e)⟩ }
theorem SH.a0le (h : SH c μ g H) : c.A0.length ≤ μ.length := by
  rw [← h.alen]
  by_cases q : c.A0.length ≤ g.ads.length
  · exact q
  · exfalso
    have hl : g.ads.length < c.A0.length := by omega
    have e := h.a0 g.ads.length _ (List.getElem?_eq_getElem hl)
    have := (List.getElem?_eq_some_iff.mp e).1
    omega
end
/-! ### C(..) -/
/-- a class of the module that can be made -/
structure KnownC (P : Program) (w : World) (K : Fg) (mg : Str → Option Value) (base : Heap) (x : Str) (C : Addr) (k n : Nat) (F : List D → M D) : Prop where
  hm : mg x = some (.ref C)
  ex : ∃ f fd ps, Mk K C f ∧ Binds K fd ps [] ∧ ps.length = n ∧ FnOk P w K mg base (L2.CX P w) k f fd ps (spD K n F)
theorem KnownC.scope {P : Program} {w : World} {K : Fg} {mg : Str → Option Value} {base : Heap} {x : Str} {C : Addr} {k n : Nat} {F : List D → M D} (h : KnownC P w K mg base x C k n F) : KnownC P w K mg base x C k n (scopeF F) := by
  obtain ⟨f, fd, ps, h2, h3, h4, h5⟩ := h.ex
  exact ⟨h.hm, f, fd, ps, h2, h3, h4, h5.imp spD_scope⟩
/-- what F makes of a new instance: its fields -/
def made (C : Addr) (F : List D → M D) (n : Nat) (ds : List D) (μ : Mu) : Option (Res Unit × Mu) := if ds.length + 1 = n then match F (.mref μ.length :: ds) (μ ++ [.ins C [] []]) with
  | some (.ok .non, μ') => some (.ok (), μ')
  | some (.ex C ns es, μ') => some (.ex C ns es, μ')
  | _ => none else none
/-- .. that stands still from now on -/
def dMake (C : Addr) (F : List D → M D) (n : Nat) (tl : TL) : TD := fun ρ => M.bind (tl ρ) fun ds μ => match made C F n ds μ with
  | some (.ok (), μ') => match μ'[μ.length]? with
    | some (.ins C' ns es) => if (D.lowAll μ.length es && (μ'.take μ.length).all (MO.low μ.length)) = true then some (.ok (.obj C' ns es), μ'.take μ.length) else none
    | _ => none
  | some (.ex C ns es, μ') => some (.ex C ns es, μ')
  | none => none
/-- .. that may change -/
def dMakeM (C : Addr) (F : List D → M D) (n : Nat) (tl : TL) : TD := fun ρ => M.bind (tl ρ) fun ds μ => match made C F n ds μ with
  | some (.ok (), μ') => some (.ok (.mref μ.length), μ')
  | some (.ex C ns es, μ') => some (.ex C ns es, μ')
  | none => none
section
variable {X : Cx} {CX : CXT} {k : Nat} {f C : Addr} {fd : FuncData} {ps : List Str} {sp : Sp} {E : L2.St → XK} {x m : Str} {p pos apos : Pos} {e o : Expr} {es : List Expr} {ta : TE} {t : TA}
def tMakeS (C : Addr) (sp : Sp) (E : L2.St → XK) (t : TA) : TE := fun σ H Q => t σ H fun vs H1 => ∀ x dx, H1 x = none → H1 dx = none → dx ≠ x →
  sp (.ref x :: vs) (upd (upd H1 dx (.own x)) x (.ins C dx [])) (fun v H2 => v = .non ∧ Q (.ref x) H2) (E σ)
theorem run_makeS {pins : List (Addr × Obj)} {σ : L2.St} {H : Hp} {s : Shared} {Q : VK} {us : List Value} {vs : List V} (M : Mk X.K C f) (F : FnOk X.prog X.w X.K X.mg X.base CX k f fd ps sp) (hr : Room (k + 1) X.A) (hb : Binds X.K fd ps [])
    (hx : PassesAt CX X σ (E σ)) (I : Inv X pins σ H s) (r : Vals vs us)
    (h : ∀ x dx, H x = none → H dx = none → dx ≠ x → sp (.ref x :: vs) (upd (upd H dx (.own x)) x (.ins C dx [])) (fun v H2 => v = .non ∧ Q (.ref x) H2) (E σ)) :
    wpAny (model X.prog X.w) X.A (call (.ref C) us) (EP X pins σ Q) X.xe s := by
  have hq := h (s.heap.objs.size + 1) s.heap.objs.size (I.hok.fresh (Nat.le_succ _)) (I.hok.fresh (Nat.le_refl _)) (Nat.ne_of_lt (Nat.lt_succ_self _))
  have I2 := Inv.made (C := C) I
  have r2 : Vals (V.ref (s.heap.objs.size + 1) :: vs) (Value.ref (s.heap.objs.size + 1) :: us) := .cons rfl r
  have hl : (Value.ref (s.heap.objs.size + 1) :: us).length = ps.length := by
    have e := r2.length
    rw [F.len _ _ _ _ hq] at e
    exact e.symm
  have bb := hb _ (Value.ref (s.heap.objs.size + 1) :: us) I2.kIn (by rw [List.append_nil]; exact hl)
  rw [List.append_nil] at bb
  refine wpAny_call (make_map (f := f) I.kIn M.makes M.init (beq_iff_eq.mp M.fn) (codeAny_mono (F.run _ X.stack _ _ ⟨Value.ref (s.heap.objs.size + 1) :: us, []⟩ (Value.ref (s.heap.objs.size + 1) :: us) _ _ (E σ) (hr.make C us [])
    (I2.env0.make C us []) bb r2 hq) fun r s' hq' => ?_))
  cases r with
  | error e => exact hx pins _ _ e s' I2 hq'
  | ok fl =>
    cases fl with
    | ret u =>
      obtain ⟨v, H', I3, rv, ev, q3⟩ := I2.after hq'
      subst ev
      exact ⟨rv, ⟨V.ref (s.heap.objs.size + 1), H', I3, rfl, q3⟩⟩
    | next => exact False.elim hq'
    | brk => exact False.elim hq'
    | cont => exact False.elim hq'
theorem pe_makeS (M : Mk X.K C f) (F : FnOk X.prog X.w X.K X.mg X.base CX k f fd ps sp) (hr : Room (k + 1) X.A) (hg : Gl X x) (hm : X.mg x = some (.ref C)) (hb : Binds X.K fd ps []) (hx : ∀ σ, PassesAt CX X σ (E σ))
    (ha : PA X (e :: es) t) (hdb : (x == ("__debug__" : Str)) = false := by decide) (he : starEach (e :: es) X.env = (false, eval e X.env) :: starEach es X.env := by rfl) (hpl : (backTo pos (starEach es X.env)).any (·.1) = false := by rfl) :
    PE X (.Call (.Name x p) (e :: es) [] pos) (tMakeS C sp E t) := by
  refine ⟨fun pins s σ H Q I h => ?_⟩
  refine wpAny_Call_Name_kw (ld_glob I hg hm ?_ hdb)
  refine PySem.W.callWith_K (h₀ := X.base) I.ok.mod.kin M.kp (thn (ha.run pos pins s σ H _ I h) fun us s1 ⟨vs, H1, I1, r, q⟩ => ⟨I1.kIn, ?_⟩) he hpl
  exact run_makeS M F hr hb (hx σ) I1 r q
end
end DL
set_option Elab.async false
set_option linter.all false
set_option maxRecDepth 100000
set_option maxHeartbeats 4000000
set_option autoImplicit false
namespace DL
open PySem PySem.Spec L2
theorem made_some {C : Addr} {F : List D → M D} {n : Nat} {ds : List D} {μ μ' : Mu} {r : Res Unit} (h : made C F n ds μ = some (r, μ')) :
    ds.length + 1 = n ∧ ((F (.mref μ.length :: ds) (μ ++ [.ins C [] []]) = some (.ok .non, μ') ∧ r = .ok ()) ∨ (∃ C' ns es, F (.mref μ.length :: ds) (μ ++ [.ins C [] []]) = some (.ex C' ns es, μ') ∧ r = .ex C' ns es)) := by
  unfold made at h
  by_cases q : ds.length + 1 = n
  · rw [if_pos q] at h
    refine ⟨q, ?_⟩
    split at h
    · rename_i μ2 e
      cases h
      exact .inl ⟨e, rfl⟩
    · rename_i C' ns es μ2 e
      cases h
      exact .inr ⟨C', ns, es, e, rfl⟩
    · cases h
  · rw [if_neg q] at h
    cases h
section
variable {c : Ct} {ρ : Rho} {μ μ' : Mu} {g g' : G} {σ : L2.St} {H H' : Hp} {x dx C : Addr}
/-- the new instance, before __init__ -/
theorem SR.born (s : SR c ρ μ g σ H) (hx : H x = none) (hd : H dx = none) (ne : dx ≠ x) : SR c ρ (μ ++ [.ins C [] []]) ((g.own1 x 0).amb1 x) σ (upd (upd H dx (.own x)) x (.ins C dx [])) ∧ Le g ((g.own1 x 0).amb1 x) ∧ ((g.own1 x 0).amb1 x).ads[μ.length]? = some x := by
  have s1 : SR c ρ μ g σ (upd H dx (.own x)) := s.addU hd
  have hx1 : upd H dx (HO.own x) x = none := by rw [upd_ne (Ne.symm ne)]; exact hx
  have s2 := s1.tmp hx1 (o := .ins C dx [])
  refine ⟨s2.amb1 (m := .ins C [] []) (own1_at g x 0) (s1.freshT hx1) ⟨dx, [], upd_same, rfl, reps_nil⟩, (le_own1 g x 0).trans (le_amb1 _ x), ?_⟩
  show (g.ads ++ [x])[μ.length]? = some x
  rw [← s.alen, List.getElem?_append_right (Nat.le_refl _), Nat.sub_self]
  rfl
theorem born_O (hx : g.O x = none) {a : Addr} {i : Nat} (h : g.O a = some (.inl i)) : ((g.own1 x 0).amb1 x).O a = some (.inl i) := by
  have z : a ≠ x := fun z => by rw [z, hx] at h; cases h
  show (if a = x then some (Sum.inr g.ads.length) else if a = x then some (Sum.inl 0) else g.O a) = _
  rw [if_neg z, if_neg z]
  exact h
/-- behind __init__ the new instance stands still -/
theorem SR.grown (s : SR c ρ μ g σ H) (hx : H x = none) (hd : H dx = none) (ne : dx ≠ x) (l : Le ((g.own1 x 0).amb1 x).enter g') (s' : SH (Ct.call c.K ((g.own1 x 0).amb1 x) (upd (upd H dx (.own x)) x (.ins C dx []))) μ' g' H')
    {C' : Addr} {ns : List Str} {es : List D} (e : μ'[μ.length]? = some (.ins C' ns es)) (lo : D.lowAll μ.length es = true) (lm : (μ'.take μ.length).all (MO.low μ.length) = true) :
    ∃ gf, Le g gf ∧ SR c ρ (μ'.take μ.length) gf σ H' ∧ GRep c.K gf (.obj C' ns es) (.ref x) := by
  obtain ⟨b1, b2, b3⟩ := s.born (C := C) hx hd ne
  have a1 := b1.after l s'
  have l1 := b2.trans (le_after l)
  have ea := l.a _ _ b3
  obtain ⟨q1, dx', xs, q2, q3, q4⟩ := a1.amb _ x _ ea e
  rcases q1 with q1 | q1
  · cases q1
  have f1 := a1.toSH.fzA ea e q1 q2
  have tk : (μ'.set μ.length MO.dead).take μ.length = μ'.take μ.length := by rw [List.take_set_of_le (Nat.le_refl _)]
  have cu := f1.2.cut (n := μ.length) s.toSH.a0le (by rw [tk]; exact lm)
  rw [tk] at cu
  have lb := l1.trans f1.1
  have lf : Le g (((((g.own1 x 0).amb1 x).after g').fz x (.ins C' dx' (ns.zip xs))).cut μ.length) := ⟨lb.b, fun k a h => by
    show (g'.ads.take μ.length)[k]? = some a
    rw [List.getElem?_take_of_lt (by rw [← s.alen]; exact (List.getElem?_eq_some_iff.mp h).1)]
    exact lb.a k a h, lb.t⟩
  refine ⟨_, lf, ?_, ?_⟩
  · exact { cu with
      slen := s.slen
      slot := fun i s0 x0 e1 e2 => (s.slot i s0 x0 e1 e2).step lf fun p hp => by
        have hO := born_O (x := x) (s.freshO hx) hp
        have nx : p ≠ x := fun z => by rw [z, s.freshO hx] at hp; cases hp
        have nd : p ≠ dx := fun z => by rw [z, s.freshO hd] at hp; cases hp
        refine ⟨cut_inl ?_, ?_⟩
        · show (if p = x then none else (((g.own1 x 0).amb1 x).after g').O p) = _
          rw [if_neg nx]
          exact after_inl b1.toSH hO
        · obtain ⟨o, ho⟩ := s.ownAt p (by rw [hp]; exact fun z => by cases z)
          rw [ho]
          exact s'.old p o (by show upd (upd H dx (.own x)) x _ p = _; rw [upd_ne nx, upd_ne nd]; exact ho) (b1.toSH.ownCall hO) }
  · have r := (f1.1).reps q4
    unfold GRep Rep
    refine ⟨x, dx', xs, rfl, upd_same, q3, ?_⟩
    exact belows_reps (n := μ.length) r lo
end
section
variable {X : Cx} {W : WX} {e o a b : Expr} {es : List Expr} {t u ta tb : TD} {tl : TL} {pos p : Pos} {x : Str} {C : Addr} {k n : Nat} {F : List D → M D}
theorem re_make {c : Ct} {te : TA} (ra : RA c W te tl) : RE c W (tMakeS C (spD c.K n F) (WE W) te) (dMake C F n tl) := fun ρ μ g σ H Q rr μ' s hh hx k => by
  refine ra.then_ s hh hx fun ds μ1 h1 vs H1 g1 l1 s1 r1 hx1 => ?_
  intro x dx fx fd ne
  obtain ⟨b1, b2, b3⟩ := s1.born (C := C) fx fd ne
  cases e0 : made C F n ds μ1 with
  | none => rw [e0] at h1; cases h1
  | some q =>
    obtain ⟨r0, μ2⟩ := q
    rw [e0] at h1
    obtain ⟨hl, hm⟩ := made_some e0
    have rep : GReps c.K ((g1.own1 x 0).amb1 x).enter (.mref μ1.length :: ds) (.ref x :: vs) := reps_cons (by unfold Rep; exact ⟨x, b3, rfl⟩) (b2.reps r1)
    rcases hm with ⟨eF, rfl⟩ | ⟨C', ns, es, eF, rfl⟩
    · have h1' : (match μ2[μ1.length]? with
        | some (.ins C' ns es) => if (D.lowAll μ1.length es && (μ2.take μ1.length).all (MO.low μ1.length)) = true then some (Res.ok (D.obj C' ns es), μ2.take μ1.length) else none
        | _ => none) = some (rr, μ') := h1
      refine ⟨.mref μ1.length :: ds, _, _, _, _, by rw [List.length_cons]; exact hl, b1.toSH.enter, rep, eF, fun d ed v H' g' l' s' rp => ?_, fun C ns es ed => by cases ed⟩
      cases ed
      refine ⟨rep_flat (d := .non) rfl rp, ?_⟩
      split at h1'
      · rename_i C' ns es e2
        by_cases z : (D.lowAll μ1.length es && (μ2.take μ1.length).all (MO.low μ1.length)) = true
        · rw [if_pos z] at h1'
          cases h1'
          obtain ⟨z1, z2⟩ := Bool.and_eq_true_iff.mp z
          obtain ⟨gf, lf, sf, rf⟩ := s1.grown fx fd ne l' s' e2 z1 z2
          exact k _ rfl (.ref x) H' gf (l1.trans lf) sf rf
        · rw [if_neg z] at h1'
          cases h1'
      · cases h1'
    · cases h1
      refine ⟨.mref μ1.length :: ds, _, _, _, _, by rw [List.length_cons]; exact hl, b1.toSH.enter, rep, eF, (fun d ed => by cases ed), fun C0 ns0 es0 ed d H' g' l' s' xx => ?_⟩
      cases ed
      refine hx1 _ _ _ rfl d H' _ (b2.trans (le_after l')) (b1.after l' s') ?_
      cases d with
      | none => exact xx
      | some d => exact xx
theorem re_makeM {c : Ct} {te : TA} (ra : RA c W te tl) : RE c W (tMakeS C (spD c.K n F) (WE W) te) (dMakeM C F n tl) := fun ρ μ g σ H Q rr μ' s hh hx k => by
  refine ra.then_ s hh hx fun ds μ1 h1 vs H1 g1 l1 s1 r1 hx1 => ?_
  intro x dx fx fd ne
  obtain ⟨b1, b2, b3⟩ := s1.born (C := C) fx fd ne
  cases e0 : made C F n ds μ1 with
  | none => rw [e0] at h1; cases h1
  | some q =>
    obtain ⟨r0, μ2⟩ := q
    rw [e0] at h1
    obtain ⟨hl, hm⟩ := made_some e0
    have rep : GReps c.K ((g1.own1 x 0).amb1 x).enter (.mref μ1.length :: ds) (.ref x :: vs) := reps_cons (by unfold Rep; exact ⟨x, b3, rfl⟩) (b2.reps r1)
    rcases hm with ⟨eF, rfl⟩ | ⟨C', ns, es, eF, rfl⟩
    · cases h1
      refine ⟨.mref μ1.length :: ds, _, _, _, _, by rw [List.length_cons]; exact hl, b1.toSH.enter, rep, eF, fun d ed v H' g' l' s' rp => ?_, fun C ns es ed => by cases ed⟩
      cases ed
      refine ⟨rep_flat (d := .non) rfl rp, ?_⟩
      refine k _ rfl (.ref x) H' _ ((l1.trans b2).trans (le_after l')) (b1.after l' s') ?_
      unfold GRep Rep
      exact ⟨x, l'.a _ _ b3, rfl⟩
    · cases h1
      refine ⟨.mref μ1.length :: ds, _, _, _, _, by rw [List.length_cons]; exact hl, b1.toSH.enter, rep, eF, (fun d ed => by cases ed), fun C0 ns0 es0 ed d H' g' l' s' xx => ?_⟩
      cases ed
      refine hx1 _ _ _ rfl d H' _ (b2.trans (le_after l')) (b1.after l' s') ?_
      cases d with
      | none => exact xx
      | some d => exact xx
theorem de_make (hk : KnownC X.prog X.w X.K X.mg X.base x C k n F) (hr : Room (k + 1) X.A) (tk : Takes X W) (ha : DA X W (e :: es) tl) (hg : Gl X x := by rfl)
    (hdb : (x == ("__debug__" : Str)) = false := by decide) (he : starEach (e :: es) X.env = (false, eval e X.env) :: starEach es X.env := by rfl) (hpl : (backTo pos (starEach es X.env)).any (·.1) = false := by rfl) :
    DE X W (.Call (.Name x p) (e :: es) [] pos) (dMake C F n tl) := by
  obtain ⟨f, fd, ps, h2, h3, h4, h5⟩ := hk.ex
  obtain ⟨te, pa, ra⟩ := ha.ex
  exact ⟨_, pe_makeS h2 h5 hr hg hk.hm h3 (fun σ => passAt tk σ) pa hdb he hpl, fun c hc => by rw [← hc]; exact re_make (ra c hc)⟩
theorem de_makeM (hk : KnownC X.prog X.w X.K X.mg X.base x C k n F) (hr : Room (k + 1) X.A) (tk : Takes X W) (ha : DA X W (e :: es) tl) (hg : Gl X x := by rfl)
    (hdb : (x == ("__debug__" : Str)) = false := by decide) (he : starEach (e :: es) X.env = (false, eval e X.env) :: starEach es X.env := by rfl) (hpl : (backTo pos (starEach es X.env)).any (·.1) = false := by rfl) :
    DE X W (.Call (.Name x p) (e :: es) [] pos) (dMakeM C F n tl) := by
  obtain ⟨f, fd, ps, h2, h3, h4, h5⟩ := hk.ex
  obtain ⟨te, pa, ra⟩ := ha.ex
  exact ⟨_, pe_makeS h2 h5 hr hg hk.hm h3 (fun σ => passAt tk σ) pa hdb he hpl, fun c hc => by rw [← hc]; exact re_makeM (ra c hc)⟩
end
end DL
set_option Elab.async false
set_option linter.all false
set_option maxRecDepth 100000
set_option maxHeartbeats 4000000
set_option autoImplicit false
namespace DL
open PySem PySem.Spec L2
/-! ### dicts at mutable references -/
section
variable {κ : Type} [DecidableEq κ]
def valD {α : Type} (ks : List κ) (ds : List α) (k : κ) : Option α := ((ks.zip ds).find? fun kv => decide (kv.1 = k)).map (·.2)
def putKs (ks : List κ) (k : κ) : List κ := if k ∈ ks then ks else ks ++ [k]
def putVs {α : Type} (ks : List κ) (ds : List α) (k : κ) (d : α) : List α := if k ∈ ks then (ks.zip ds).map (fun kv => if kv.1 = k then d else kv.2) else ds ++ [d]
theorem any_zip {α : Type} {k : κ} : ∀ {ks : List κ} {xs : List α}, ks.length = xs.length → ((ks.zip xs).any fun kv => decide (kv.1 = k)) = decide (k ∈ ks)
  | [], xs, h => by cases xs <;> simp
  | g :: ks, [], h => by cases h
  | g :: ks, x :: xs, h => by
    have ih := any_zip (k := k) (ks := ks) (xs := xs) (by simpa using h)
    rw [List.zip_cons_cons, List.any_cons, ih]
    by_cases z : g = k
    · subst z; simp
    · have z' : k ≠ g := fun e => z e.symm
      simp [z, z']
theorem map_zip {α : Type} {k : κ} {v : α} : ∀ {ks : List κ} {xs : List α}, ks.length = xs.length → (ks.zip xs).map (fun kv => if kv.1 = k then (kv.1, v) else kv) = ks.zip ((ks.zip xs).map fun kv => if kv.1 = k then v else kv.2)
  | [], xs, h => by cases xs <;> rfl
  | g :: ks, [], h => by cases h
  | g :: ks, x :: xs, h => by
    have ih := map_zip (k := k) (v := v) (ks := ks) (xs := xs) (by simpa using h)
    rw [List.zip_cons_cons, List.map_cons, List.map_cons, ih, List.zip_cons_cons]
    by_cases z : g = k
    · simp [z]
    · simp [z]
theorem putK_zip {k : κ} {v : V} {ks : List κ} {xs : List V} (h : ks.length = xs.length) : putK (ks.zip xs) k v = (putKs ks k).zip (putVs ks xs k v) := by
  unfold putK putKs putVs
  rw [any_zip h]
  by_cases z : k ∈ ks
  · rw [if_pos (decide_eq_true z), if_pos z, if_pos z]
    exact map_zip h
  · rw [if_neg (by simpa using z), if_neg z, if_neg z, List.zip_append h]
    rfl
theorem put_len {α : Type} {k : κ} {v : α} {ks : List κ} {xs : List α} (h : ks.length = xs.length) : (putKs ks k).length = (putVs ks xs k v).length := by
  unfold putKs putVs
  by_cases z : k ∈ ks
  · rw [if_pos z, if_pos z, List.length_map, List.length_zip, ← h, Nat.min_self]
  · rw [if_neg z, if_neg z, List.length_append, List.length_append, h]
    rfl
theorem reps_mapzip {K : Fg} {ads : List Addr} {B : Hp} {k : κ} {d : D} {v : V} (hv : Rep K ads B d v) : ∀ {ks : List κ} {ds : List D} {xs : List V}, Reps K ads B ds xs → Reps K ads B ((ks.zip ds).map fun kv => if kv.1 = k then d else kv.2) ((ks.zip xs).map fun kv => if kv.1 = k then v else kv.2)
  | [], ds, xs, r => by simpa using reps_nil
  | g :: ks, [], xs, r => by rw [reps_nil_inv r]; simpa using reps_nil
  | g :: ks, d0 :: ds, xs, r => by
    obtain ⟨x, t, rfl, hx, ht⟩ := reps_cons_inv r
    rw [List.zip_cons_cons, List.zip_cons_cons, List.map_cons, List.map_cons]
    refine reps_cons ?_ (reps_mapzip hv ht)
    by_cases z : g = k
    · simp only [z, if_true]; exact hv
    · simp only [if_neg z]; exact hx
theorem put_reps {K : Fg} {ads : List Addr} {B : Hp} {k : κ} {d : D} {v : V} {ks : List κ} {ds : List D} {xs : List V} (hv : Rep K ads B d v) (r : Reps K ads B ds xs) : Reps K ads B (putVs ks ds k d) (putVs ks xs k v) := by
  unfold putVs
  by_cases z : k ∈ ks
  · rw [if_pos z, if_pos z]; exact reps_mapzip hv r
  · rw [if_neg z, if_neg z]; exact r.append (reps_cons hv reps_nil)
theorem val_reps {K : Fg} {ads : List Addr} {B : Hp} {k : κ} : ∀ {ks : List κ} {ds : List D} {xs : List V}, ks.length = xs.length → Reps K ads B ds xs →
    (valD ks ds k = none ∧ valV (ks.zip xs) k = none) ∨ (∃ d v, valD ks ds k = some d ∧ valV (ks.zip xs) k = some v ∧ Rep K ads B d v)
  | [], ds, xs, h, r => .inl ⟨by unfold valD; rfl, by unfold valV; rfl⟩
  | g :: ks, ds, [], h, r => by cases h
  | g :: ks, [], x :: xs, h, r => by have e := reps_nil_inv r; cases e
  | g :: ks, d0 :: ds, x :: xs, h, r => by
    obtain ⟨y, t, e, hy, ht⟩ := reps_cons_inv r
    cases e
    unfold valD valV
    rw [List.zip_cons_cons, List.zip_cons_cons, List.find?_cons, List.find?_cons]
    by_cases z : g = k
    · simp only [z, decide_true]
      exact .inr ⟨d0, x, rfl, rfl, hy⟩
    · simp only [z, decide_false]
      exact val_reps (by simpa using h) ht
end
/-! ### keys -/
def D.key : D → Option Key
  | .int i => some (.inl i)
  | .str s => some (.inr s)
  | _ => none
def D.keys : List D → Option (List Key)
  | [] => some []
  | d :: ds => match d.key, D.keys ds with
    | some k, some ks => some (k :: ks)
    | _, _ => none
def D.keyT : D → Option (List Key)
  | .tup ds => D.keys ds
  | _ => none
theorem key_rep {K : Fg} {ads : List Addr} {B : Hp} {d : D} {v : V} {k : Key} (r : Rep K ads B d v) (h : d.key = some k) : v = kV k := by
  cases d <;> first | (cases h; done) | skip
  · cases h; exact rep_int r
  · cases h; exact rep_str r
theorem keys_rep {K : Fg} {ads : List Addr} {B : Hp} : ∀ {ds : List D} {vs : List V} {ks : List Key}, Reps K ads B ds vs → D.keys ds = some ks → vs = ks.map kV
  | [], vs, ks, r, h => by cases h; exact reps_nil_inv r
  | d :: ds, vs, ks, r, h => by
    obtain ⟨x, t, rfl, hx, ht⟩ := reps_cons_inv r
    unfold D.keys at h
    cases e1 : d.key with
    | none => rw [e1] at h; cases h
    | some k =>
      cases e2 : D.keys ds with
      | none => rw [e1, e2] at h; cases h
      | some ks' =>
        rw [e1, e2] at h
        cases h
        rw [key_rep hx e1, keys_rep ht e2]
        rfl
/-! ### reading -/
def dgetD (d y : D) (μ : Mu) : Option (Option D) := match d with
  | .dk ks ds => y.key.map (valD ks ds)
  | .mref n => match μ[n]? with
    | some (.dk ks ds) => y.key.map (valD ks ds)
    | some (.dt ks ds) => y.keyT.map (valD ks ds)
    | _ => none
  | _ => none
def RepO (K : Fg) (g : G) : Option D → Option V → Prop
  | none, none => True
  | some d, some v => GRep K g d v
  | _, _ => False
section
variable {c : Ct} {ρ : Rho} {μ μ' : Mu} {g : G} {σ : L2.St} {H : Hp}
theorem valO {κ : Type} [DecidableEq κ] {K : Fg} {k : κ} {ks : List κ} {ds : List D} {xs : List V} (h : ks.length = xs.length) (r : GReps K g ds xs) : RepO K g (valD ks ds k) (valV (ks.zip xs) k) := by
  rcases val_reps (k := k) h r with ⟨e1, e2⟩ | ⟨d, v, e1, e2, e3⟩
  · rw [e1, e2]; trivial
  · rw [e1, e2]; exact e3
theorem keyT_at (s : SR c ρ μ g σ H) {y : D} {w : V} {k : List Key} (r : GRep c.K g y w) (h : y.keyT = some k) : ∃ b, w = .ref b ∧ H b = some (.tup (k.map kV)) := by
  cases y <;> first | (cases h; done) | skip
  unfold GRep Rep at r
  obtain ⟨a, xs, rfl, h1, h2⟩ := r
  exact ⟨a, rfl, by rw [← keys_rep h2 h]; exact s.sub _ _ h1⟩
theorem SR.dget (s : SR c ρ μ g σ H) {d y : D} {v w : V} {o : Option D} (rd : GRep c.K g d v) (ry : GRep c.K g y w) (h : dgetD d y μ = some o) : ∃ a ov, v = .ref a ∧ IsD H a ∧ DGet H a w ov ∧ RepO c.K g o ov := by
  unfold dgetD at h
  split at h
  · obtain ⟨k, e1, rfl⟩ := Option.map_eq_some_iff.mp h
    unfold GRep Rep at rd
    obtain ⟨a, xs, rfl, h1, h2, h3⟩ := rd
    have h1' := s.sub _ _ h1
    rw [key_rep ry e1]
    exact ⟨a, _, rfl, .inl ⟨_, .inl h1'⟩, DGet.k h1', valO h2 h3⟩
  · rename_i n
    unfold GRep Rep at rd
    obtain ⟨a, ha, rfl⟩ := rd
    split at h
    · rename_i ks ds e
      obtain ⟨k, e1, rfl⟩ := Option.map_eq_some_iff.mp h
      obtain ⟨_, xs, q2, q3, q4⟩ := s.amb _ a _ ha e
      rw [key_rep ry e1]
      exact ⟨a, _, rfl, .inl ⟨_, .inl q2⟩, DGet.k q2, valO q3 q4⟩
    · rename_i ks ds e
      obtain ⟨k, e1, rfl⟩ := Option.map_eq_some_iff.mp h
      obtain ⟨_, xs, q2, q3, q4⟩ := s.amb _ a _ ha e
      obtain ⟨b, rfl, hb⟩ := keyT_at s ry e1
      exact ⟨a, _, rfl, .inr ⟨_, .inl q2⟩, DGet.t q2 hb, valO q3 q4⟩
    · cases h
  · cases h
/-! ### writing -/
def dputD (d y z : D) (μ : Mu) : Option Mu := match d with
  | .mref n => match μ[n]? with
    | some (.dk ks ds) => match y.key with
      | some k => if ds.length < sizeLine then some (μ.set n (.dk (putKs ks k) (putVs ks ds k z))) else none
      | none => none
    | some (.dt ks ds) => match y.keyT with
      | some k => if ds.length < sizeLine then some (μ.set n (.dt (putKs ks k) (putVs ks ds k z))) else none
      | none => none
    | _ => none
  | _ => none
theorem SR.dput (s : SR c ρ μ g σ H) {d y z : D} {v w x : V} (rd : GRep c.K g d v) (ry : GRep c.K g y w) (rz : GRep c.K g z x) (h : dputD d y z μ = some μ') : ∃ a H', v = .ref a ∧ DPut H a w x H' ∧ SR c ρ μ' g σ H' := by
  unfold dputD at h
  split at h
  · rename_i n
    unfold GRep Rep at rd
    obtain ⟨a, ha, rfl⟩ := rd
    split at h
    · rename_i ks ds e
      obtain ⟨q1, xs, q2, q3, q4⟩ := s.amb _ a _ ha e
      rcases q1 with q1 | q1
      · cases q1
      split at h
      · rename_i k ek
        by_cases hl : ds.length < sizeLine
        · rw [if_pos hl] at h
          cases h
          rw [key_rep ry ek]
          have hl2 : (ks.zip xs).length < sizeLine := by rw [List.length_zip, q3, Nat.min_self, ← q4.length]; exact hl
          refine ⟨a, _, rfl, DPut.k q2 hl2, s.wrtA (m' := .dk (putKs ks k) (putVs ks ds k z)) ha e q1 ⟨putVs ks xs k x, ?_, put_len q3, put_reps rz q4⟩⟩
          rw [upd_same, putK_zip q3]
        · rw [if_neg hl] at h; cases h
      · cases h
    · rename_i ks ds e
      obtain ⟨q1, xs, q2, q3, q4⟩ := s.amb _ a _ ha e
      rcases q1 with q1 | q1
      · cases q1
      split at h
      · rename_i k ek
        by_cases hl : ds.length < sizeLine
        · rw [if_pos hl] at h
          cases h
          obtain ⟨b, rfl, hb⟩ := keyT_at s ry ek
          have hl2 : (ks.zip xs).length < sizeLine := by rw [List.length_zip, q3, Nat.min_self, ← q4.length]; exact hl
          refine ⟨a, _, rfl, DPut.t q2 hb hl2, s.wrtA (m' := .dt (putKs ks k) (putVs ks ds k z)) ha e q1 ⟨putVs ks xs k x, ?_, put_len q3, put_reps rz q4⟩⟩
          rw [upd_same, putK_zip q3]
        · rw [if_neg hl] at h; cases h
      · cases h
    · cases h
  · cases h
end
section
variable {X : Cx} {W : WX} {o i e f b value : Expr} {to' ti te' tx : TD} {pos pos' apos cpos : Pos}
/-- {}, new -/
def dNewK : TD := fun _ μ => some (.ok (.mref μ.length), μ ++ [.dk [] []])
def dNewT : TD := fun _ μ => some (.ok (.mref μ.length), μ ++ [.dt [] []])
theorem amb_rep {c : Ct} {ρ : Rho} {μ : Mu} {g : G} {σ : L2.St} {H : Hp} (s : SR c ρ μ g σ H) {p : Addr} : GRep c.K ((g.own1 p 0).amb1 p) (.mref μ.length) (.ref p) := by
  unfold GRep Rep
  refine ⟨p, ?_, rfl⟩
  show (g.ads ++ [p])[μ.length]? = some p
  rw [← s.alen, List.getElem?_append_right (Nat.le_refl _), Nat.sub_self]
  rfl
theorem de_newK : DE X W (.Dict [] [] pos) dNewK := ⟨_, pe_dnewK, fun c hc ρ μ g σ H Q rr μ' s hh hx k => by
  cases hh
  intro p hp
  exact k _ rfl _ _ ((g.own1 p 0).amb1 p) ((le_own1 g p 0).trans (le_amb1 _ p)) ((s.tmp hp).amb1 (m := .dk [] []) (own1_at _ _ _) (s.freshT hp) ⟨[], upd_same, rfl, reps_nil⟩) (amb_rep s)⟩
theorem de_newT : DE X W (.Dict [] [] pos) dNewT := ⟨_, pe_dnewT, fun c hc ρ μ g σ H Q rr μ' s hh hx k => by
  cases hh
  intro p hp
  exact k _ rfl _ _ ((g.own1 p 0).amb1 p) ((le_own1 g p 0).trans (le_amb1 _ p)) ((s.tmp hp).amb1 (m := .dt [] []) (own1_at _ _ _) (s.freshT hp) ⟨[], upd_same, rfl, reps_nil⟩) (amb_rep s)⟩
/-- d[y] -/
def dDGet (t u : TD) : TD := fun ρ => M.bind (t ρ) fun d => M.bind (u ρ) fun y μ => match dgetD d y μ with
  | some (some x) => some (.ok x, μ)
  | _ => none
theorem de_dget (hu : X.A.units + 1 < cLine) (ho : DE X W o to') (hi : DE X W i ti) (hs : NoSl i := by intro _ _; rfl) : DE X W (.Subscript o i pos) (dDGet to' ti) := by
  obtain ⟨te, p, r⟩ := ho.ex
  obtain ⟨ue, pu, ru⟩ := hi.ex
  refine ⟨_, pe_dget hu p pu hs, fun c hc ρ μ g σ H Q rr μ' s hh hx k => ?_⟩
  refine (r c hc).then_ s hh hx fun d μ1 h1 v1 H1 g1 l1 s1 r1 hx1 => ?_
  refine (ru c hc).then_ s1 h1 hx1 fun y μ2 h2 v2 H2 g2 l2 s2 r2 hx2 => ?_
  split at h2
  · rename_i x e
    cases h2
    obtain ⟨a, ov, rfl, _, h4, h5⟩ := s2.dget (l2.rep r1) r2 e
    cases ov with
    | none => exact h5.elim
    | some v => exact ⟨a, v, rfl, h4, k _ rfl v H2 g2 (l1.trans l2) s2 h5⟩
  · cases h2
/-- y in d -/
def dDIn (neg : Bool) (u t : TD) : TD := fun ρ => M.bind (u ρ) fun y => M.bind (t ρ) fun d μ => match dgetD d y μ with
  | some o => some (.ok (.bl (if neg then !o.isSome else o.isSome)), μ)
  | none => none
theorem repO_some {K : Fg} {g : G} {o : Option D} {ov : Option V} (h : RepO K g o ov) : ov.isSome = o.isSome := by
  cases o <;> cases ov <;> first | rfl | exact h.elim
theorem re_din {c : Ct} {te ue : TE} (r : RE c W te to') (ru : RE c W ue ti) : RE c W (tDIn ue te) (dDIn false ti to') := fun ρ μ g σ H Q rr μ' s hh hx k => by
  refine ru.then_ s hh hx fun y μ1 h1 v1 H1 g1 l1 s1 r1 hx1 => ?_
  refine r.then_ s1 h1 hx1 fun d μ2 h2 v2 H2 g2 l2 s2 r2 hx2 => ?_
  cases e : dgetD d y μ2 with
  | none => simp only [e] at h2; cases h2
  | some o =>
    simp only [e] at h2
    cases h2
    obtain ⟨a, ov, rfl, _, h4, h5⟩ := s2.dget r2 (l2.rep r1) e
    exact ⟨a, ov, rfl, h4, k _ rfl _ H2 g2 (l1.trans l2) s2 (by rw [repO_some h5]; exact flat_rep rfl)⟩
theorem re_dnotIn {c : Ct} {te ue : TE} (r : RE c W te to') (ru : RE c W ue ti) : RE c W (tDNotIn ue te) (dDIn true ti to') := fun ρ μ g σ H Q rr μ' s hh hx k => by
  refine ru.then_ s hh hx fun y μ1 h1 v1 H1 g1 l1 s1 r1 hx1 => ?_
  refine r.then_ s1 h1 hx1 fun d μ2 h2 v2 H2 g2 l2 s2 r2 hx2 => ?_
  cases e : dgetD d y μ2 with
  | none => simp only [e] at h2; cases h2
  | some o =>
    simp only [e] at h2
    cases h2
    obtain ⟨a, ov, rfl, _, h4, h5⟩ := s2.dget r2 (l2.rep r1) e
    exact ⟨a, ov, rfl, h4, k _ rfl _ H2 g2 (l1.trans l2) s2 (by rw [repO_some h5]; exact flat_rep rfl)⟩
theorem de_din (hu : X.A.units + 1 < cLine) (hi : DE X W i ti) (ho : DE X W o to') (hm : behindInMarks .In o = false := by first | rfl | with_unfolding_all rfl) : DE X W (.Compare i [.In] [o] pos) (dDIn false ti to') := by
  obtain ⟨te, p, r⟩ := ho.ex
  obtain ⟨ue, pu, ru⟩ := hi.ex
  exact ⟨_, pe_cmp (pc_din hu pu p) hm, fun c hc => re_din (r c hc) (ru c hc)⟩
theorem de_dnotIn (hu : X.A.units + 1 < cLine) (hi : DE X W i ti) (ho : DE X W o to') (hm : behindInMarks .NotIn o = false := by first | rfl | with_unfolding_all rfl) : DE X W (.Compare i [.NotIn] [o] pos) (dDIn true ti to') := by
  obtain ⟨te, p, r⟩ := ho.ex
  obtain ⟨ue, pu, ru⟩ := hi.ex
  exact ⟨_, pe_cmp (pc_dnotin hu pu p) hm, fun c hc => re_dnotIn (r c hc) (ru c hc)⟩
/-- d[y] = z -/
def dsDPut (tv to' ti : TD) : TO' := dsE tv fun z => dsE to' fun d => dsE ti fun y ρ μ => match dputD d y z μ with
  | some μ' => some (.nx ρ, μ')
  | none => none
theorem ds_dput {tv : TD} (hu : X.A.units + 1 < cLine) (hv : DE X W value tv) (ho : DE X W o to') (hi : DE X W i ti) (hs : swapsWith value (some (.Subscript o i pos')) pos.line X.env = pure false := by rfl) : DS X W (.Assign [.Subscript o i pos'] value pos) (dsDPut tv to' ti) := by
  obtain ⟨t1, p1, r1⟩ := hv.ex
  obtain ⟨t2, p2, r2⟩ := ho.ex
  obtain ⟨t3, p3, r3⟩ := hi.ex
  refine ⟨_, ps_dput hu p2 p3 p1 hs, fun c hc ρ μ g σ H D₀ out μ' s h k => ?_⟩
  refine (r1 c hc).stm s h k fun z μ1 h1 v1 H1 g1 l1 s1 rp1 k1 => ?_
  refine (r2 c hc).stm s1 h1 k1 fun d μ2 h2 v2 H2 g2 l2 s2 rp2 k2 => ?_
  refine (r3 c hc).stm s2 h2 k2 fun y μ3 h3 v3 H3 g3 l3 s3 rp3 k3 => ?_
  cases e : dputD d y z μ3 with
  | none => simp only [e] at h3; cases h3
  | some μ4 =>
    simp only [e] at h3
    cases h3
    obtain ⟨a, H', rfl, q1, q2⟩ := s3.dput (l3.rep rp2) rp3 ((l2.trans l3).rep rp1) e
    exact ⟨a, H', rfl, q1, k3 σ H' g3 (Le.refl _) q2⟩
/-- d.get(y, z) -/
def dDGet2 (t u x : TD) : TD := fun ρ => M.bind (t ρ) fun d => M.bind (u ρ) fun y => M.bind (x ρ) fun z μ => match dgetD d y μ with
  | some (some v) => some (.ok v, μ)
  | some none => some (.ok z, μ)
  | none => none
/-- d.setdefault(y, z), tuples as keys -/
theorem d_setdT {X : Cx} {pins : List (Addr × Obj)} {σ : L2.St} {H : Hp} {s : Shared} {a b : Addr} {r : Value} {d : V} {k : List Key} {E : Value → Shared → Prop} {kvs : List (List Key × V)} {Q : Value → Shared → Prop} {A : Around} (hu : A.units + 1 < cLine) (I : Inv X pins σ H s) (e : H a = some (.dT kvs)) (eb : H b = some (.tup (k.map kV))) (rd : RelV d r) (hl : kvs.length < sizeLine)
    (h1 : ∀ v, valV kvs k = some v → ∀ (w' : Value) (s' : Shared), Inv X pins σ H s' → RelV v w' → Q w' s') (h2 : valV kvs k = none → ∀ (w' : Value) (s' : Shared), Inv X pins σ (upd H a (.dT (putK kvs k d))) s' → RelV d w' → Q w' s') :
    wpAny (model X.prog X.w) A (call (.builtin "dict.setdefault") [.ref a, .ref b, r]) Q E s := by
  obtain ⟨z, hd, xs, rel, dd⟩ := dt_of I.hok e
  have hz : xs.length ≤ sizeLine := by
    have := Paired.length rel
    omega
  refine call_setdefault_heap (hsz := hz) (knd := tupleKind (mixKind X.prog X.w)) (tupleKind_room_in1 hu) (key_of I.hok eb) hd dd (fun p hp => ?_) fun hn h' dd' hs => ?_
  · have q := rel.val k
    rw [hp] at q
    cases q0 : valV kvs k with
    | none => rw [q0] at q; exact (show False from q).elim
    | some v0 => rw [q0] at q; exact h1 v0 q0 _ _ (I.tok _) q
  · have q := rel.val k
    rw [hn] at q
    cases q0 : valV kvs k with
    | some v0 => rw [q0] at q; exact (show False from q).elim
    | none =>
      have hl2 : (putK kvs k d).length ≤ sizeLine := by have := length_putK kvs k d; omega
      obtain ⟨q, es, ep, hq, h2', h3, h4, _, h5⟩ := dd'
      refine h2 q0 _ _ (d_write I (by rw [e]; exact True.intro) hs ⟨q, hq⟩ ⟨hl2, hd, _, (rel.put k eb rd).keeps fun c ys ec => ?_, q, es, ep, hq, h2', h3, h4, h5⟩) rd
      rw [upd_ne (ne_of ec e (fun z => nomatch z))]
      exact ec
def tDSetdT (td ty tx : TE) : TE := fun σ H Q => td σ H fun x H1 => ∃ a, x = .ref a ∧ IsD H1 a ∧ ty σ H1 fun y H2 => tx σ H2 fun z H3 => ∃ (kvs : List (List Key × V)) (k : List Key) (b : Addr), H3 a = some (.dT kvs) ∧ y = .ref b ∧ H3 b = some (.tup (k.map kV)) ∧ kvs.length < sizeLine ∧
  (∀ v, valV kvs k = some v → Q v H3) ∧ (valV kvs k = none → Q z (upd H3 a (.dT (putK kvs k z))))
theorem pe_dsetdT {td ty tx : TE} (hu : X.A.units + 1 < cLine) (ho : PE X o td) (he : PE X e ty) (hf : PE X f tx) (m : M2 X o "setdefault" apos e f cpos) : PE X (.Call (.Attribute o "setdefault" apos) [e, f] [] cpos) (tDSetdT td ty tx) := by
  refine ⟨fun pins s σ H Q I h => ?_⟩
  refine wpAny_Call_method m.base m.few m.line PySem.F.plainAttrs_dict PySem.F.slot_dict_setdefault PySem.F.type_dict_setdefault (thn (ho.run pins s σ H _ I h) fun u s1 ⟨x, H1, I1, rx, a, ex, d, q1⟩ => ?_)
  subst ex
  obtain rfl : u = Value.ref a := rx
  obtain ⟨t1, t2, _⟩ := isD_at I1 d
  refine ⟨t1, t2, ?_⟩
  rw [m.trees]
  refine Calls.callWith_builtin rfl (Calls.evalArgs_plain (Calls.spliced_cons (thn (he.run pins s1 σ H1 _ I1 q1) fun iv s2 ⟨y, H2, I2, ry, q2⟩ =>
    Calls.spliced_cons (thn (hf.run pins s2 σ H2 _ I2 q2) fun fv s3 ⟨z, H3, I3, rz, kvs, k, b, ea, ey, eb, hl, q3, q4⟩ => Calls.spliced_nil ?_))))
  subst ey
  cases (show iv = Value.ref b from ry)
  exact d_setdT hu I3 ea eb rz hl (fun v hv w' s4 I4 rw' => ⟨v, _, I4, rw', q3 v hv⟩) fun hn w' s4 I4 rw' => ⟨z, _, I4, rw', q4 hn⟩
def isDt (d : D) (μ : Mu) : Bool := match d with
  | .mref n => match μ[n]? with
    | some (.dt _ _) => true
    | _ => false
  | _ => false
def dSetdT (t u x : TD) : TD := fun ρ => M.bind (t ρ) fun d μ0 => if isDt d μ0 = true then M.bind (u ρ) (fun y => M.bind (x ρ) fun z μ => match d with
  | .mref n => match μ[n]? with
    | some (.dt ks ds) => match y.keyT with
      | some k => if ds.length < sizeLine then match valD ks ds k with
        | some v => some (.ok v, μ)
        | none => some (.ok z, μ.set n (.dt (putKs ks k) (putVs ks ds k z))) else none
      | none => none
    | _ => none
  | _ => none) μ0 else none
theorem isDt_at {c : Ct} {ρ : Rho} {μ : Mu} {g : G} {σ : L2.St} {H : Hp} (s : SR c ρ μ g σ H) {d : D} {v : V} (r : GRep c.K g d v) (h : isDt d μ = true) : ∃ n a, d = .mref n ∧ v = .ref a ∧ g.ads[n]? = some a ∧ IsD H a := by
  unfold isDt at h
  split at h
  · rename_i n
    unfold GRep Rep at r
    obtain ⟨a, ha, rfl⟩ := r
    split at h
    · rename_i ks ds e
      obtain ⟨_, xs, q2, q3, q4⟩ := s.amb _ a _ ha e
      exact ⟨n, a, rfl, rfl, ha, .inr ⟨_, .inl q2⟩⟩
    · cases h
  · cases h
theorem de_setdT (hu : X.A.units + 1 < cLine) (ho : DE X W o to') (he : DE X W e te') (hf : DE X W f tx) (m : M2 X o "setdefault" apos e f cpos) : DE X W (.Call (.Attribute o "setdefault" apos) [e, f] [] cpos) (dSetdT to' te' tx) := by
  obtain ⟨t1, p1, r1⟩ := ho.ex
  obtain ⟨t2, p2, r2⟩ := he.ex
  obtain ⟨t3, p3, r3⟩ := hf.ex
  refine ⟨_, pe_dsetdT hu p1 p2 p3 m, fun c hc ρ μ g σ H Q rr μ' s hh hx k => ?_⟩
  refine (r1 c hc).then_ s hh hx fun d μ1 h1 v1 H1 g1 l1 s1 rp1 hx1 => ?_
  by_cases z : isDt d μ1 = true
  · rw [if_pos z] at h1
    obtain ⟨n, a, rfl, rfl, ha, isd⟩ := isDt_at s1 rp1 z
    refine ⟨a, rfl, isd, ?_⟩
    refine (r2 c hc).then_ s1 h1 hx1 fun y μ2 h2 v2 H2 g2 l2 s2 rp2 hx2 => ?_
    refine (r3 c hc).then_ s2 h2 hx2 fun w μ3 h3 v3 H3 g3 l3 s3 rp3 hx3 => ?_
    have ha3 := (l2.trans l3).a _ _ ha
    have h3' : (match μ3[n]? with
      | some (.dt ks ds) => match y.keyT with
        | some k => if ds.length < sizeLine then match valD ks ds k with
          | some v => some (Res.ok v, μ3)
          | none => some (Res.ok w, μ3.set n (.dt (putKs ks k) (putVs ks ds k w))) else none
        | none => none
      | _ => none) = some (rr, μ') := h3
    split at h3'
    · rename_i ks ds e
      obtain ⟨q1, xs, q2, q3, q4⟩ := s3.amb _ a _ ha3 e
      rcases q1 with q1 | q1
      · cases q1
      split at h3'
      · rename_i kk ek
        by_cases hl : ds.length < sizeLine
        · rw [if_pos hl] at h3'
          obtain ⟨b, rfl, hb⟩ := keyT_at s3 (l3.rep rp2) ek
          have hl2 : (ks.zip xs).length < sizeLine := by rw [List.length_zip, q3, Nat.min_self, ← q4.length]; exact hl
          refine ⟨ks.zip xs, kk, b, q2, rfl, hb, hl2, fun v hv => ?_, fun hn => ?_⟩
          · rcases val_reps (k := kk) q3 q4 with ⟨e1, e2⟩ | ⟨dd, vv, e1, e2, e3⟩
            · rw [e2] at hv; cases hv
            · rw [e2] at hv
              cases hv
              simp only [e1] at h3'
              cases h3'
              exact k _ rfl _ H3 g3 ((l1.trans l2).trans l3) s3 e3
          · rcases val_reps (k := kk) q3 q4 with ⟨e1, e2⟩ | ⟨dd, vv, e1, e2, e3⟩
            · simp only [e1] at h3'
              cases h3'
              refine k _ rfl _ _ g3 ((l1.trans l2).trans l3) (s3.wrtA (m' := .dt (putKs ks kk) (putVs ks ds kk w)) ha3 e q1 ⟨putVs ks xs kk v3, ?_, put_len q3, put_reps rp3 q4⟩) rp3
              rw [upd_same, putK_zip q3]
            · rw [e2] at hn; cases hn
        · rw [if_neg hl] at h3'; cases h3'
      · cases h3'
    · cases h3'
  · rw [if_neg z] at h1
    cases h1
theorem rt_din {c : Ct} {te : TE} {t : TD} (h : RE c W te t) : RT c W (tTest te) (dTest t) := rt_test h
theorem tB_test {te : TE} : ∀ σ H Q, tTest te σ H Q → tB te σ H Q := fun σ H Q h => h
theorem dt_din (hu : X.A.units + 1 < cLine) (hi : DE X W i ti) (ho : DE X W o to') (hm : behindInMarks .In o = false := by first | rfl | with_unfolding_all rfl) : DT X W (.Compare i [.In] [o] pos) (dTest (dDIn false ti to')) := by
  obtain ⟨te, p, r⟩ := ho.ex
  obtain ⟨ue, pu, ru⟩ := hi.ex
  exact ⟨_, pt_imp (pt_cmp (pc_din hu pu p) hm) tB_test, fun c hc => rt_test (re_din (r c hc) (ru c hc))⟩
theorem dt_dnotIn (hu : X.A.units + 1 < cLine) (hi : DE X W i ti) (ho : DE X W o to') (hm : behindInMarks .NotIn o = false := by first | rfl | with_unfolding_all rfl) : DT X W (.Compare i [.NotIn] [o] pos) (dTest (dDIn true ti to')) := by
  obtain ⟨te, p, r⟩ := ho.ex
  obtain ⟨ue, pu, ru⟩ := hi.ex
  exact ⟨_, pt_imp (pt_cmp (pc_dnotin hu pu p) hm) tB_test, fun c hc => rt_test (re_dnotIn (r c hc) (ru c hc))⟩
end
end DL
set_option Elab.async false
set_option linter.all false
set_option maxRecDepth 100000
set_option maxHeartbeats 4000000
set_option autoImplicit false
namespace DL
open PySem PySem.Spec L2
/-! ### D.get(y, z) of a dict that the top wrote -/
def tKGet (K : Fg) (a : Addr) (td ty tx : TE) : TE := fun σ H Q => td σ H fun x H1 => x = .ref a ∧ ty σ H1 fun y H2 => tx σ H2 fun z H3 => ∃ (zz : Str), y = .str zz ∧ ((∃ u v, PySem.W.nsIn K a zz = some (some u) ∧ RelV v u ∧ Q v H3) ∨ (PySem.W.nsIn K a zz = some none ∧ Q z H3))
section
variable {X : Cx} {W : WX} {o e f : Expr} {to' te' tx : TD} {pos apos cpos : Pos} {a : Addr} {es : Array DictEntry} {n : Nat}
theorem pe_kget2 {td ty tx : TE} (D : KDict X.K X.w a es n) (ho : PE X o td) (he : PE X e ty) (hf : PE X f tx) (m : M2 X o "get" apos e f cpos) : PE X (.Call (.Attribute o "get" apos) [e, f] [] cpos) (tKGet X.K a td ty tx) := by
  refine ⟨fun pins s σ H Q I h => ?_⟩
  refine wpAny_Call_method m.base m.few m.line PySem.F.plainAttrs_dict PySem.F.slot_dict_get PySem.F.type_dict_get (thn (ho.run pins s σ H _ I h) fun u s1 ⟨x, H1, I1, rx, ex, q1⟩ => ?_)
  subst ex
  obtain rfl : u = Value.ref a := rx
  have hm1 := PySem.W.mapOf_K (prog := X.prog) (w := X.w) I1.kIn D.at_ D.lit
  refine ⟨hm1.typeIs, hm1.noDict, ?_⟩
  rw [m.trees]
  refine Calls.callWith_builtin rfl (Calls.evalArgs_plain (Calls.spliced_cons (thn (he.run pins s1 σ H1 _ I1 q1) fun iv s2 ⟨y, H2, I2, ry, q2⟩ =>
    Calls.spliced_cons (thn (hf.run pins s2 σ H2 _ I2 q2) fun fv s3 ⟨z, H3, I3, rz, zz, ey, q3⟩ => Calls.spliced_nil ?_))))
  subst ey
  obtain ⟨t, rfl⟩ := (show ∃ t, iv = Value.str zz t from ry)
  have hm3 := PySem.W.mapOf_K (prog := X.prog) (w := X.w) I3.kIn D.at_ D.lit
  refine call_meetsIn PySem.F.slot_dict_get hm3.typeIs PySem.F.entry_dict_get (PySem.F.args_dict_get_3 _ _ _) (meets_dict_get_default (strKind X.prog X.w) a (strKind_is X.prog X.w zz t) D.low fv) ⟨_, hm3, ?_⟩
  rcases q3 with ⟨u0, v0, e1, e2, q⟩ | ⟨e1, q⟩
  · rw [PySem.W.find_K D.at_ e1]
    exact ⟨v0, H3, I3.tok _, e2, q⟩
  · rw [PySem.W.find_K D.at_ e1]
    exact ⟨z, H3, I3.tok _, rz, q⟩
/-- the answers that are known: a value, or none (then the default) -/
abbrev KTab := List (Str × Option D)
structure KTabOk (K : Fg) (w : World) (a : Addr) (tb : KTab) : Prop where
  dict : ∃ es n, KDict K w a es n
  at_ : ∀ x ∈ tb, match x.2 with
    | some d => ∃ u v, PySem.W.nsIn K a x.1 = some (some u) ∧ RelV v u ∧ ∀ ads B, Rep K ads B d v
    | none => PySem.W.nsIn K a x.1 = some none
def dKGet (a : Addr) (tb : KTab) (t u x : TD) : TD := fun ρ => M.bind (t ρ) fun d => match d with
  | .ref b => if b = a then M.bind (u ρ) fun y => M.bind (x ρ) fun z => match y with
    | .str k => match tb.lookup k with
      | some (some v) => M.ret v
      | some none => M.ret z
      | none => M.stuck
    | _ => M.stuck else M.stuck
  | _ => M.stuck
theorem lookup_mem' {β : Type} {k : Str} : ∀ {l : List (Str × β)} {v : β}, l.lookup k = some v → (k, v) ∈ l
  | [], v, h => by cases h
  | (j, w) :: l, v, h => by
    rw [List.lookup_cons] at h
    cases q : (k == j) with
    | true =>
      rw [q] at h
      cases h
      rw [beq_iff_eq.mp q]
      exact List.mem_cons_self ..
    | false =>
      rw [q] at h
      exact List.mem_cons_of_mem _ (lookup_mem' h)
theorem de_kget2 {tb : KTab} (hT : KTabOk X.K X.w a tb) (ho : DE X W o to') (he : DE X W e te') (hf : DE X W f tx) (m : M2 X o "get" apos e f cpos) : DE X W (.Call (.Attribute o "get" apos) [e, f] [] cpos) (dKGet a tb to' te' tx) := by
  obtain ⟨es, n, D⟩ := hT.dict
  obtain ⟨t1, p1, r1⟩ := ho.ex
  obtain ⟨t2, p2, r2⟩ := he.ex
  obtain ⟨t3, p3, r3⟩ := hf.ex
  refine ⟨_, pe_kget2 D p1 p2 p3 m, fun c hc ρ μ g σ H Q rr μ' s hh hx k => ?_⟩
  refine (r1 c hc).then_ s hh hx fun d μ1 h1 v1 H1 g1 l1 s1 rp1 hx1 => ?_
  cases d <;> first | (cases h1; done) | skip
  rename_i b
  have h1' : (if b = a then M.bind (te' ρ) fun y => M.bind (tx ρ) fun z => match y with
    | .str k => match tb.lookup k with
      | some (some v) => M.ret v
      | some none => M.ret z
      | none => M.stuck
    | _ => M.stuck else M.stuck) μ1 = some (rr, μ') := h1
  by_cases hb : b = a
  · rw [if_pos hb] at h1'
    subst hb
    refine ⟨rep_flat (d := .ref b) rfl rp1, ?_⟩
    refine (r2 c hc).then_ s1 h1' hx1 fun y μ2 h2 v2 H2 g2 l2 s2 rp2 hx2 => ?_
    refine (r3 c hc).then_ s2 h2 hx2 fun z μ3 h3 v3 H3 g3 l3 s3 rp3 hx3 => ?_
    cases y <;> first | (cases h3; done) | skip
    rename_i kk
    refine ⟨kk, rep_str (l3.rep rp2), ?_⟩
    have h3' : (match tb.lookup kk with
      | some (some v) => M.ret v
      | some none => M.ret z
      | none => M.stuck) μ3 = some (rr, μ') := h3
    cases e : tb.lookup kk with
    | none => simp only [e] at h3'; cases h3'
    | some ov =>
      cases ov with
      | some v =>
        simp only [e] at h3'
        obtain ⟨rfl, rfl⟩ := ret_some h3'
        obtain ⟨u, w, q1, q2, q3⟩ := hT.at_ _ (lookup_mem' e)
        exact .inl ⟨u, w, q1, q2, k _ rfl w H3 g3 ((l1.trans l2).trans l3) s3 (by rw [hc]; exact q3 _ _)⟩
      | none =>
        simp only [e] at h3'
        obtain ⟨rfl, rfl⟩ := ret_some h3'
        have q := hT.at_ _ (lookup_mem' e)
        exact .inr ⟨q, k _ rfl v3 H3 g3 ((l1.trans l2).trans l3) s3 rp3⟩
  · rw [if_neg hb] at h1'
    cases h1'
end
/-! ### C.m(), m a staticmethod -/
structure SMet (K : Fg) (C : Addr) (mc : Value) (m : Str) (p g : Addr) : Prop where
  at_ : PySem.W.findCls K (.ref C) mc m = some (.get (.builtin "staticmethod.__get__") (.ref p) .none (.ref C))
  rc : ∃ rest, PySem.W.recIn K p "staticmethod" = some (.ref g :: rest)
  kp : PySem.W.keepIn K (.ref g) = true
structure KnownS (P : Program) (w : World) (K : Fg) (mg : Str → Option Value) (base : Heap) (C : Addr) (m : Str) (k n : Nat) (F : List D → M D) : Prop where
  ex : ∃ mc p f fd ps, ClX.CRead K C mc ∧ SMet K C mc m p f ∧ Binds K fd ps [] ∧ ps.length = n ∧ FnOk P w K mg base (L2.CX P w) k f fd ps (spD K n F)
section
variable {X : Cx} {W : WX} {CX : CXT} {k : Nat} {C p g : Addr} {mc : Value} {sp : Sp} {E : XK} {fd : FuncData} {ps : List Str} {o e : Expr} {es : List Expr} {m : Str} {pos apos : Pos} {ta : TE} {t : TA} {pl : Sem Bool} {F : List D → M D} {to' : TD}
def tSMet (C : Addr) (sp : Sp) (E : XK) (ta : TE) : TE := fun σ H Q => ta σ H fun x H1 => x = .ref C ∧ sp [] H1 Q E
theorem getsm_ok {b : Bool} {Q : Value → Shared → Prop} {E : Value → Shared → Prop} {A : Around} {pins : List (Addr × Obj)} {σ : L2.St} {H : Hp} {s : Shared} (I : Inv X pins σ H s) (r : ClX.CRead X.K C mc) (k : SMet X.K C mc m p g)
    (h : ∀ s', Inv X pins σ H s' → Q (.ref g) s') : wpAny (model X.prog X.w) A (getAttr (.ref C) m b) Q E s := by
  obtain ⟨rest, hp⟩ := k.rc
  refine PySem.W.cls_bind I.kIn r.rd k.at_ ?_
  refine wpAny_call (PySem.W.sm_get (s := { s with toks := s.toks + 1 }) I.kIn hp (PySem.W.handed_on rfl ?_))
  exact h _ (I.tok _)
theorem pe_smet0 (he : PE X o ta) (r : ClX.CRead X.K C mc) (c : SMet X.K C mc m p g) (F : FnOk X.prog X.w X.K X.mg X.base CX k g fd ps sp) (hr : Room k X.A) (hb : Binds X.K fd ps []) (hx : Passes CX X E)
    (ht : eval (.Call (.Attribute o m apos) [] [] pos) X.env = (do
      let ov ← eval o X.env
      standAt apos.atName
      let (f, first) ← holding [ov] (getMethod ov m pl)
      callWith pos f first (backTo pos (starEach [] X.env)) (backToKw pos (keywordEach [] X.env))) := by rfl) :
    PE X (.Call (.Attribute o m apos) [] [] pos) (tSMet C sp E ta) := by
  refine ⟨fun pins s σ H Q I h => ?_⟩
  refine PySem.W.methodCall_KW (pl := pl) (thn (he.run pins s σ H _ I h) fun u s1 ⟨x, H1, I1, rx, ex, q⟩ => ?_) ht
  subst ex
  obtain rfl : u = Value.ref C := rx
  refine PySem.W.method_cls I1.kIn r.ga (getsm_ok I1 r c fun s2 I2 => ?_)
  exact PySem.W.callWith_K0 I2.kIn c.kp (run_fn (us := []) (vs := []) (ds := []) (dvs := []) F hr hb .nil hx I2 .nil q)
def dSMet0 (C : Addr) (F : List D → M D) (t : TD) : TD := fun ρ => M.bind (t ρ) fun d => match d with
  | .ref b => if b = C then M.nx (F []) else M.stuck
  | _ => M.stuck
theorem de_smet0 (hk : KnownS X.prog X.w X.K X.mg X.base C m k 0 F) (hr : Room k X.A) (ho : DE X W o to')
    (ht : eval (.Call (.Attribute o m apos) [] [] pos) X.env = (do
      let ov ← eval o X.env
      standAt apos.atName
      let (f, first) ← holding [ov] (getMethod ov m pl)
      callWith pos f first (backTo pos (starEach [] X.env)) (backToKw pos (keywordEach [] X.env))) := by rfl) : DE X W (.Call (.Attribute o m apos) [] [] pos) (dSMet0 C F to') := by
  obtain ⟨mc, p, f, fd, ps, h1, h2, h3, h4, h5⟩ := hk.ex
  obtain ⟨te, pe, r⟩ := ho.ex
  refine ⟨_, pe_smet0 pe h1 h2 h5 hr h3 passL ht, fun c hc ρ μ g σ H Q rr μ' s hh hx k => ?_⟩
  refine (r c hc).then_ s hh hx fun x μ1 e1 v1 H1 g1 l1 s1 r1 hx1 => ?_
  cases x <;> first | (cases e1; done) | skip
  rename_i b
  have e1' : (if b = C then M.nx (F []) else M.stuck) μ1 = some (rr, μ') := e1
  by_cases z : b = C
  · rw [if_pos z] at e1'
    subst z
    refine ⟨rep_flat (d := .ref b) rfl r1, ?_⟩
    obtain ⟨d, ed0, hF2⟩ := nx_some e1'
    subst ed0
    rw [← hc]
    refine ⟨[], μ1, g1.enter, .ok d, μ', rfl, s1.toSH.enter, reps_nil, hF2, fun d' ed v H' g' l' s' rp => ?_, fun C ns es ed => by cases ed⟩
    cases ed
    exact k d rfl v H' _ (l1.trans (le_after l')) (s1.after l' s') rp
  · rw [if_neg z] at e1'
    cases e1'
end
/-! ### the facts that the head reads -/
/-- one def: where it stands, its name, its qualified name, its text -/
structure XDef where
  at_ : Fg → Addr
  name : Str
  qual : Str
  st : Stmt
def XDef.obs (K : Fg) (d : XDef) : He.FnV := match K.lookup (d.at_ K) with
  | some ⟨_, _, .func fd, _⟩ => some (fd.name, fd.qualname, fd.params, fd.body, fd.scope, fd.globals, fd.closure, fd.defaults, fd.builtins)
  | _ => none
def XDef.val (d : XDef) : He.FnV := some (d.name, d.qual, defArgs d.st, .stmts (defBody d.st), defScope d.st, mainGlobals, [], .none, builtinsNs)
def XDef.ok (K : Fg) (d : XDef) : Bool := PySem.W.keepIn K (.ref (d.at_ K)) && (match K.lookup (d.at_ K) with
  | some ⟨_, _, .func fd, _⟩ => PySem.W.codeIn K fd.code d.qual
  | _ => false)
theorem XDef.fun_ {K : Fg} {d : XDef} (e : d.obs K = d.val) (c : d.ok K = true) : ∃ fd, Fun K d.name d.qual d.st (d.at_ K) fd := by
  obtain ⟨kp, c2⟩ := Bool.and_eq_true_iff.mp c
  unfold XDef.obs at e
  cases q : K.lookup (d.at_ K) with
  | none =>
    rw [q] at c2
    cases c2
  | some o =>
    obtain ⟨oc, od, dt, osl⟩ := o
    rw [q] at c2 e
    cases dt with
    | func fd =>
      obtain ⟨n1, n2, n3, n4, n5, n6, n7, n8, n9, n10, n11, n12, n13, n14, n15⟩ := fd
      have e2 : (some (n1, n2, n3, n4, n5, n6, n7, n8, n15) : He.FnV) = some (d.name, d.qual, defArgs d.st, .stmts (defBody d.st), defScope d.st, mainGlobals, [], .none, builtinsNs) := e
      simp only [Option.some.injEq, Prod.mk.injEq] at e2
      obtain ⟨h1, h2, h3, h4, h5, h6, h7, h8, h9⟩ := e2
      have c3 : PySem.W.codeIn K n13 d.qual = true := c2
      rw [h1, h2, h3, h4, h5, h6, h7, h8, h9] at q
      exact ⟨_, ⟨oc, od, n9, n10, n11, n12, n13, n14, osl, rfl, q, c3⟩, kp⟩
    | _ => cases c2
abbrev XA : Type := Bool × List He.FnV × List (Option (List (Option (Str × Int))))
def obsX (bs : List (Fg → Bool)) (fn : List XDef) (ts : List He.Tab) (K : Fg) : XA := ((bs.all fun b => b K) && fn.all fun d => d.ok K, fn.map fun d => d.obs K, ts.map fun t => He.dicW K (t.1 K))
def valX (fn : List XDef) (ts : List He.Tab) (w : World) : XA := (true, fn.map XDef.val, ts.map fun t => some (He.keysIn w.params t.2))
def obsXG (n : Nat) (bs : List (Fg → Bool)) (fn : List XDef) (ts : List He.Tab) (g : Addr → Option Obj) : XA := obsX bs fn ts (He.frG g (cStatics :: He.asD g n))
def SaysX (bs : List (Fg → Bool)) (fn : List XDef) (ts : List He.Tab) (w : World) (K : Fg) : Prop := obsX bs fn ts K = valX fn ts w
def hookX (n : Nat) (bs : List (Fg → Bool)) (fn : List XDef) (ts : List He.Tab) : PySem.W.Hook where
  α := XA
  obs := fun s => obsXG n bs fn ts s.heap.get?
  val := fun w => valX fn ts w
  says := fun w h => ∃ K : Fg, K.In h ∧ SaysX bs fn ts w K
  of := fun _ _ e => ⟨_, He.frG_in, e⟩
  keeps := fun _ _ _ ⟨K, hK, c⟩ k => ⟨K, PySem.W.Frag.In.keeps hK k, c⟩
theorem obsXG_eq {n : Nat} {bs : List (Fg → Bool)} {fn : List XDef} {ts : List He.Tab} {g : Addr → Option Obj} {s : Shared} (h : ∀ a, g a = s.heap.get? a) : obsXG n bs fn ts g = (hookX n bs fn ts).obs s := by
  have e : g = s.heap.get? := funext h
  rw [e] <;> rfl
section
variable {bs : List (Fg → Bool)} {fn : List XDef} {ts : List He.Tab} {w : World} {K : Fg}
theorem SaysX.fact (c : SaysX bs fn ts w K) (i : Nat) {b : Fg → Bool} (h : bs[i]? = some b := by rfl) : b K = true := by
  have c1 := (Bool.and_eq_true_iff.mp (show ((bs.all fun b => b K) && fn.all fun d => d.ok K) = true from congrArg (fun z : XA => z.1) c)).1
  exact List.all_eq_true.mp c1 b (List.mem_of_getElem? h)
theorem SaysX.def_ (c : SaysX bs fn ts w K) (i : Nat) {d : XDef} (h : fn[i]? = some d := by rfl) : ∃ fd, Fun K d.name d.qual d.st (d.at_ K) fd := by
  have c2 := (Bool.and_eq_true_iff.mp (show ((bs.all fun b => b K) && fn.all fun d => d.ok K) = true from congrArg (fun z : XA => z.1) c)).2
  have e : fn.map (fun d => d.obs K) = fn.map XDef.val := congrArg (fun z : XA => z.2.1) c
  have e2 : (fn.map fun d => d.obs K)[i]? = (fn.map XDef.val)[i]? := by rw [e]
  rw [List.getElem?_map, List.getElem?_map, h] at e2
  exact XDef.fun_ (Option.some.inj e2) (List.all_eq_true.mp c2 d (List.mem_of_getElem? h))
theorem SaysX.tab (c : SaysX bs fn ts w K) (i : Nat) {t : He.Tab} (h : ts[i]? = some t := by rfl) : ∃ es n, KDict K w (t.1 K) es n := by
  have e : ts.map (fun t => He.dicW K (t.1 K)) = ts.map fun t => some (He.keysIn w.params t.2) := congrArg (fun z : XA => z.2.2) c
  have e2 : (ts.map fun t => He.dicW K (t.1 K))[i]? = (ts.map fun t => some (He.keysIn w.params t.2))[i]? := by rw [e]
  rw [List.getElem?_map, List.getElem?_map, h] at e2
  exact He.dicW_ok (Option.some.inj e2)
end
/-- a def without defaults takes what is given -/
theorem fun_binds {K : Fg} {x qual : Str} {st : Stmt} {f : Addr} {fd : FuncData} (F : Fun K x qual st f fd) {ps : List Str}
    (h : ∀ (kV doc pm : Value) (an : Option Addr) (cdv ct : Value) (us : List Value), us.length = ps.length → bindArgs (PySem.W.fnOf x qual (defArgs st) (defBody st) (defScope st) .none kV doc pm an cdv ct) ⟨us, []⟩ = pure (ps.zip us)) : Binds K fd ps [] := by
  obtain ⟨oc, od, kV, doc, pm, an, cdv, ct, osl, rfl, lk, hcd⟩ := F.ex
  exact .all (h kV doc pm an cdv ct)
/-! ### Bool facts -/
def ownB (C : Fg → Addr) (K : Fg) : Bool := He.eqO (PySem.W.findIn K (.ref (C K)) "__class__") (some (some (.builtin "object.__class__"))) && (He.eqO (PySem.W.specialIn K (.builtin "object.__class__") "__get__") (some (some (.builtin "getset_descriptor.__get__"))) &&
  (decide (PySem.W.takesIn K (.builtin "object.__class__") = some true) && decide (PySem.W.mroIn K (C K) (.type "object") = some true)))
theorem ownB_ok {C : Fg → Addr} {K : Fg} (cl : Cls K (C K)) (h : ownB C K = true) : Own K (C K) := by
  obtain ⟨h1, h⟩ := Bool.and_eq_true_iff.mp h
  obtain ⟨h2, h⟩ := Bool.and_eq_true_iff.mp h
  obtain ⟨h3, h4⟩ := Bool.and_eq_true_iff.mp h
  exact ⟨cl, He.eqO_ok h1, He.eqO_ok h2, of_decide_eq_true h3, of_decide_eq_true h4⟩
/-- the function of a staticmethod -/
def smF (K : Fg) (C m : Str) : Addr := match PySem.W.recIn K (He.ma K (He.ga K C) m) "staticmethod" with
  | some (.ref g :: _) => g
  | _ => 0
def smB (C m : Str) (K : Fg) : Bool := (match PySem.W.findCls K (.ref (He.ga K C)) (.type "type") m with
  | some (.get (.builtin b) (.ref p) .none (.ref q)) => decide (b = "staticmethod.__get__") && (decide (p = He.ma K (He.ga K C) m) && decide (q = He.ga K C))
  | _ => false) && ((match PySem.W.recIn K (He.ma K (He.ga K C) m) "staticmethod" with
  | some (.ref _ :: _) => true
  | _ => false) && (PySem.W.keepIn K (.ref (smF K C m)) && (PySem.W.readsIn K (He.ga K C) (.type "type") && He.eqO (PySem.W.specialIn K (.ref (He.ga K C)) "__getattribute__") (some (some (.builtin "type.__getattribute__"))))))
theorem smB_ok {C m : Str} {K : Fg} (h : smB C m K = true) : ClX.CRead K (He.ga K C) (.type "type") ∧ SMet K (He.ga K C) (.type "type") m (He.ma K (He.ga K C) m) (smF K C m) := by
  obtain ⟨h1, h⟩ := Bool.and_eq_true_iff.mp h
  obtain ⟨h2, h⟩ := Bool.and_eq_true_iff.mp h
  obtain ⟨h3, h⟩ := Bool.and_eq_true_iff.mp h
  obtain ⟨h4, h5⟩ := Bool.and_eq_true_iff.mp h
  refine ⟨⟨h4, He.eqO_ok h5⟩, ?_, ?_, h3⟩
  · split at h1
    · rename_i b p q e
      obtain ⟨q1, h1⟩ := Bool.and_eq_true_iff.mp h1
      obtain ⟨q2, q3⟩ := Bool.and_eq_true_iff.mp h1
      rw [e, of_decide_eq_true q1, of_decide_eq_true q2, of_decide_eq_true q3]
    · cases h1
  · split at h2
    · rename_i g rest e
      refine ⟨rest, ?_⟩
      rw [e]
      unfold smF
      rw [e]
    · cases h2
/-- no such key -/
def missB (a : Fg → Addr) (zs : List Str) (K : Fg) : Bool := zs.all fun z => He.eqO (PySem.W.nsIn K (a K) z) (some none)
theorem missB_ok {a : Fg → Addr} {zs : List Str} {K : Fg} (h : missB a zs K = true) {z : Str} (hz : z ∈ zs) : PySem.W.nsIn K (a K) z = some none := He.eqO_ok (List.all_eq_true.mp h z hz)
/-- a thing of type t is of class c -/
def kitB' (kI : Fg → Kit) (K : Fg) : Bool := (kI K).all fun x => decide (PySem.W.kitOne K x.1 x.2.1 = some x.2.2)
theorem kitB'_ok {kI : Fg → Kit} {K : Fg} (h : kitB' kI K = true) : KitOk K (kI K) := fun x hx => of_decide_eq_true (List.all_eq_true.mp h x hx)
end DL
set_option Elab.async false
set_option linter.all false
set_option maxRecDepth 100000
set_option maxHeartbeats 4000000
set_option autoImplicit false
namespace DL
open PySem PySem.Spec L2
/-! ### comprehensions over lists that may change -/
structure Src where
  n : Nat
  nxt : Mu → Nat → Option (Option D)
def ItOkJ (c : Ct) (g0 : G) (J : It) (S : Mu → Nat → Option (Option D)) : Prop := ∀ ρ μ g σ H i, Le g0 g → SR c ρ μ g σ H →
  (S μ i = some none → J.stop i H) ∧ (∀ d, S μ i = some (some d) → J.go i H ∧ ∀ x H', J.yld i H x H' → ∃ g', Le g g' ∧ SR c ρ μ g' σ H' ∧ GRep c.K g' d x)
def RJ (c : Ct) (W : WX) (wi : TI) (t : Rho → M Src) : Prop := ∀ ρ μ g σ H R r μ', SR c ρ μ g σ H → t ρ μ = some (r, μ') → PX c W ρ σ g r μ' →
  (∀ S, r = .ok S → ∀ J H' g', Le g g' → SR c ρ μ' g' σ H' → ItOkJ c g' J S.nxt → R J H') → wi σ H R
structure DJ (X : Cx) (W : WX) (tg iter : Expr) (t : Rho → M Src) : Prop where
  ex : ∃ wi, PI X tg iter wi ∧ ∀ c : Ct, c.K = X.K → RJ c W wi t
def nxtM (k : Nat) (μ : Mu) (i : Nat) : Option (Option D) := match μ[k]? with
  | some (.lst ds) => some ds[i]?
  | _ => none
theorem nxtM_some {k : Nat} {μ : Mu} {i : Nat} {o : Option D} (h : nxtM k μ i = some o) : ∃ ds, μ[k]? = some (.lst ds) ∧ ds[i]? = o := by
  unfold nxtM at h
  split at h
  · rename_i ds e
    cases h
    exact ⟨ds, e, rfl⟩
  · cases h
def srcOf (d : D) (μ : Mu) : Option Src := match d.items with
  | some ds => some ⟨ds.length + 1, fun _ i => some ds[i]?⟩
  | none => match muLst d μ with
    | some (k, ds) => some ⟨ds.length + 1, nxtM k⟩
    | none => none
def dSrc (t : TD) : Rho → M Src := fun ρ => M.bind (t ρ) fun d μ => match srcOf d μ with
  | some S => some (.ok S, μ)
  | none => none
theorem itOkJ_st {c : Ct} {g0 : G} {J : It} {ds : List D} (h : ItOk c g0 J ds) (hs : ∀ i H, ds[i]? = none → J.stop ds.length H → J.stop i H) : ItOkJ c g0 J (fun _ i => some ds[i]?) := fun ρ μ g σ H i l s => by
  obtain ⟨h1, h2⟩ := h ρ μ g σ H l s
  refine ⟨fun e => hs i H (Option.some.inj e) h2, fun d e => ?_⟩
  obtain ⟨j1, j2⟩ := h1 i d (Option.some.inj e)
  exact ⟨j1, fun x H' hy => let ⟨g', q1, q2, q3, _⟩ := j2 x H' hy; ⟨g', q1, q2, q3⟩⟩
section
variable {X : Cx} {W : WX} {tg e : Expr} {t : TD} {pos : Pos}
theorem dj_seq (h : DE X W e t) : DJ X W tg e (dSrc t) := by
  obtain ⟨te, p, r⟩ := h.ex
  refine ⟨_, pi_or (pi_list p) (pi_tup p), fun c hc ρ μ g σ H R rr μ' s hh hx k => ?_⟩
  rcases bind_some hh with ⟨d, μ1, e1, e2⟩ | ⟨C, ns, ds, e1, rfl⟩
  · unfold srcOf at e2
    cases hi : d.items with
    | some ds =>
      simp only [hi] at e2
      cases e2
      cases hd : d.isT with
      | true =>
        right
        refine r c hc ρ μ g σ H _ _ _ s e1 px_ok fun d' ed v H1 g1 l1 s1 r1 => ?_
        cases ed
        obtain ⟨kk, a, xs, rfl, q1, q2, q3⟩ := items_rep r1 hi
        rw [hd] at q3
        subst q3
        rw [← hc]
        refine ⟨a, rfl, ⟨xs, sqT_mono q1 s1.sub⟩, k _ rfl _ H1 g1 l1 s1 (itOkJ_st (itOk_tup q1 q2) fun i H en hst => ?_)⟩
        obtain ⟨ys, y1, y2⟩ := hst
        exact ⟨ys, y1, by have := List.getElem?_eq_none_iff.mp en; omega⟩
      | false =>
        left
        refine r c hc ρ μ g σ H _ _ _ s e1 px_ok fun d' ed v H1 g1 l1 s1 r1 => ?_
        cases ed
        obtain ⟨kk, a, xs, rfl, q1, q2, q3⟩ := items_rep r1 hi
        rw [hd] at q3
        subst q3
        rw [← hc]
        refine ⟨a, rfl, ⟨xs, sqL_mono q1 s1.sub⟩, k _ rfl _ H1 g1 l1 s1 (itOkJ_st (itOk_list q1 q2) fun i H en hst => ?_)⟩
        obtain ⟨ys, y1, y2⟩ := hst
        exact ⟨ys, y1, by have := List.getElem?_eq_none_iff.mp en; omega⟩
    | none =>
      simp only [hi] at e2
      cases hm : muLst d μ1 with
      | none => simp only [hm] at e2; cases e2
      | some q =>
        obtain ⟨n, ds⟩ := q
        simp only [hm] at e2
        cases e2
        left
        refine r c hc ρ μ g σ H _ _ _ s e1 px_ok fun d' ed v H1 g1 l1 s1 r1 => ?_
        cases ed
        obtain ⟨a, xs, rfl, ha, _, _, hH, _⟩ := s1.mu r1 hm
        rw [← hc]
        refine ⟨a, rfl, ⟨xs, SqL.of hH⟩, k _ rfl _ H1 g1 l1 s1 fun ρ2 μ2 g2 σ2 H2 i l2 s2 => ?_⟩
        have ha2 := l2.a _ _ ha
        constructor
        · intro en
          obtain ⟨ds2, e3, e4⟩ := nxtM_some en
          obtain ⟨_, ys, q2, q3⟩ := s2.amb _ a _ ha2 e3
          have := List.getElem?_eq_none_iff.mp e4
          exact ⟨ys, SqL.of q2, by rw [← q3.length]; exact this⟩
        · intro d2 en
          obtain ⟨ds2, e3, e4⟩ := nxtM_some en
          obtain ⟨_, ys, q2, q3⟩ := s2.amb _ a _ ha2 e3
          obtain ⟨x, hx2, rx⟩ := q3.get e4
          refine ⟨⟨ys, x, SqL.of q2, hx2⟩, fun y H' hy => ?_⟩
          obtain ⟨rfl, hy⟩ := hy
          have e4 := hy ys (SqL.of q2)
          rw [hx2] at e4
          cases e4
          exact ⟨g2, Le.refl _, s2, rx⟩
  · left
    exact r c hc ρ μ g σ H _ _ _ s e1 (fun C' ns' ds' e => by cases e; exact hx C ns ds rfl) fun d e => by cases e
end
def lcJ (vs : List Nat) (gt : D → Rho → Option Rho) (tt : TB) (te : TD) (ρ : Rho) (S : Mu → Nat → Option (Option D)) : Nat → Nat → List D → M (List D)
  | 0, _, _ => M.stuck
  | n + 1, i, acc => fun μ => match S μ i with
    | none => none
    | some none => some (.ok acc, μ)
    | some (some d) => match gt d (wipeR ρ vs) with
      | none => none
      | some ρ1 => M.bind (M.nx (tt ρ1)) (fun b => if b = true then M.bind (M.nx (te ρ1)) fun y => if acc.length < sizeLine then lcJ vs gt tt te ρ S n (i + 1) (acc ++ [y]) else M.stuck else lcJ vs gt tt te ρ S n (i + 1) acc) μ
def dLcJ (vs : List Nat) (ts : Rho → M Src) (gt : D → Rho → Option Rho) (tt : TB) (te : TD) : TL := fun ρ => M.bind (ts ρ) fun S => if okW ρ vs = true then lcJ vs gt tt te ρ S.nxt S.n 0 [] else M.stuck
theorem lcJ_ok {vs : List Nat} {gt : D → Rho → Option Rho} {tt : TB} {te : TD} {ρ : Rho} {S : Mu → Nat → Option (Option D)} : ∀ {n i : Nat} {acc : List D} {μ μ' : Mu} {r : Res (List D)}, lcJ vs gt tt te ρ S n i acc μ = some (r, μ') → ∃ res, r = .ok res
  | 0, i, acc, μ, μ', r, h => by cases h
  | n + 1, i, acc, μ, μ', r, h => by
    unfold lcJ at h
    cases e0 : S μ i with
    | none => simp only [e0] at h; cases h
    | some o =>
      cases o with
      | none => simp only [e0] at h; cases h; exact ⟨_, rfl⟩
      | some d =>
        simp only [e0] at h
        cases e : gt d (wipeR ρ vs) with
        | none => simp only [e] at h; cases h
        | some ρ1 =>
          simp only [e] at h
          rcases bind_some h with ⟨b, μ1, e1, e2⟩ | ⟨C, ns, es, e1, e2⟩
          · cases b with
            | true =>
              rw [if_pos rfl] at e2
              rcases bind_some e2 with ⟨y, μ2, e3, e4⟩ | ⟨C, ns, es, e3, e4⟩
              · by_cases q : acc.length < sizeLine
                · rw [if_pos q] at e4
                  exact lcJ_ok e4
                · rw [if_neg q] at e4
                  cases e4
              · obtain ⟨a, q, _⟩ := nx_some e3
                cases q
            | false =>
              rw [if_neg (by decide)] at e2
              exact lcJ_ok e2
          · obtain ⟨a, q, _⟩ := nx_some e1
            cases q
section
variable {X : Cx} {W : WX} {elt tg iter : Expr} {ifs : List Expr} {scope : Scope} {own : List (Str × Nat)} {pos : Pos} {ts : Rho → M Src} {gt : D → Rho → Option Rho} {tt : TB} {te : TD} {is : List Nat}
theorem RJ.then_ {c : Ct} {W : WX} {ρ : Rho} {μ μ' : Mu} {g : G} {σ : L2.St} {H : Hp} {α : Type} {r : Res α} {wi : TI} (ht : RJ c W wi ts) {f : Src → M α} {R : It → Hp → Prop} (s : SR c ρ μ g σ H) (h : M.bind (ts ρ) f μ = some (r, μ')) (hx : PX c W ρ σ g r μ')
    (k : ∀ d μ1, f d μ1 = some (r, μ') → ∀ J H1 g1, Le g g1 → SR c ρ μ1 g1 σ H1 → ItOkJ c g1 J d.nxt → PX c W ρ σ g1 r μ' → R J H1) : wi σ H R := by
  rcases bind_some h with ⟨a, μ1, e1, e2⟩ | ⟨C, ns, ds, e1, rfl⟩
  · exact ht ρ μ g σ H R _ _ s e1 px_ok fun d e J H' g' l s' rp => by
      cases e
      exact k a μ1 e2 J H' g' l s' rp (hx.le l)
  · exact ht ρ μ g σ H R _ _ s e1 (fun C' ns' ds' e => by cases e; exact hx C ns ds rfl) fun d e => by cases e
theorem rf_lcJ {c : Ct} {wi : TI} (hi : RJ c W wi ts) (hoff : ∀ d ρ ρ', gt d ρ = some ρ' → Off is ρ ρ') (his : ∀ i ∈ is, i ∈ own.map (·.2)) : RF c W (tLc wi (cG c.K is gt) (cT c.K WF tt) (cE c.K WF te) (own.map (·.2))) (dLcJ (own.map (·.2)) ts gt tt te) := by
  intro ρ μ g σ H Q rr μ' s hh hx k
  refine RJ.then_ hi s hh hx fun S μ1 h1 J H1 g1 l1 s1 iok hx1 => ?_
  intro p hp
  by_cases hw : okW ρ (own.map (·.2)) = true
  · rw [if_pos hw] at h1
    obtain ⟨res, rfl⟩ := lcJ_ok h1
    have hTp := s1.freshT hp
    refine ⟨fun i m H => ∃ μ g acc xs, Le g1 g ∧ SR c ρ μ g σ H ∧ g.T p = some (.lst xs) ∧ GReps c.K g acc xs ∧ lcJ (own.map (·.2)) gt tt te ρ S.nxt m i acc μ = some (.ok res, μ'),
      ⟨_, μ1, (g1.own1 p 0).tell p (.lst []), [], [], le_tell (le_own1 _ _ _) hTp, (s1.tmp hp).tell (own1_at _ _ _) upd_same, upd_same, reps_nil, h1⟩, ?_⟩
    rintro i m H ⟨μ, g2, acc, xs, l, s2, ht, ra, hf⟩
    obtain ⟨i1, i2⟩ := iok ρ μ g2 σ H i l s2
    obtain ⟨ho, hpx⟩ := s2.tmpT _ _ ht
    cases m with
    | zero => cases hf
    | succ m =>
      unfold lcJ at hf
      cases e0 : S.nxt μ i with
      | none => simp only [e0] at hf; cases hf
      | some o =>
        cases o with
        | none =>
          left
          simp only [e0] at hf
          cases hf
          exact ⟨i1 e0, k _ rfl p xs H (g2.untell p) (le_untell (l1.trans l) (by
            cases z : g.T p with
            | none => rfl
            | some o =>
              have z2 := l1.t p o z
              rw [hTp] at z2
              cases z2)) s2.untell ⟨ho, if_pos rfl⟩ hpx ra⟩
        | some d =>
          right
          simp only [e0] at hf
          obtain ⟨j1, j2⟩ := i2 d e0
          refine ⟨j1, fun H' => ∃ m', m' < m + 1 ∧ (∃ μ g acc xs, Le g1 g ∧ SR c ρ μ g σ H' ∧ g.T p = some (.lst xs) ∧ GReps c.K g acc xs ∧ lcJ (own.map (·.2)) gt tt te ρ S.nxt m' (i + 1) acc μ = some (.ok res, μ')), fun H' q => q, fun x H' hy => ?_⟩
          obtain ⟨g3, l3, s3, rx⟩ := j2 x H' hy
          cases eg : gt d (wipeR ρ (own.map (·.2))) with
          | none => simp only [eg] at hf; cases hf
          | some ρ1 =>
            simp only [eg] at hf
            refine ⟨c, _, ρ1, μ, g3, d, rfl, s3.wipe _, rx, eg, fun σ1 s4 o4 => ?_⟩
            have offs : Off (own.map (·.2)) σ σ1 := (wipe_off σ (own.map (·.2))).trans o4 (fun j z => z) his
            have offr : Off (own.map (·.2)) ρ ρ1 := (wipeR_off ρ (own.map (·.2))).trans (hoff _ _ _ eg) (fun j z => z) his
            refine ⟨wipe_eq offs, ?_⟩
            rcases bind_some hf with ⟨b, μ2, e1, e2⟩ | ⟨C, ns, es, e1, e2⟩
            · obtain ⟨b', q, e1⟩ := nx_some e1
              cases q
              refine ⟨c, ρ1, μ, g3, _, μ2, rfl, s4, e1, px_ok, fun b2 eb H2 g4 l4 s5 => ?_⟩
              cases eb
              cases b with
              | false =>
                rw [if_neg (by decide)] at e2
                refine iteF ⟨m, Nat.lt_succ_self _, μ2, g4, acc, xs, l.trans (l3.trans l4), s3.back hw l4 s5 offr offs, l4.t _ _ (l3.t _ _ ht), (l3.trans l4).reps ra, e2⟩
              | true =>
                rw [if_pos rfl] at e2
                refine iteT ?_
                rcases bind_some e2 with ⟨y, μ3, e3, e4⟩ | ⟨C, ns, es, e3, e4⟩
                · obtain ⟨y', q, e3⟩ := nx_some e3
                  cases q
                  refine ⟨c, ρ1, μ2, g4, _, μ3, rfl, s5, e3, px_ok, fun y2 ey v H3 g5 l5 s6 ry => ?_⟩
                  cases ey
                  by_cases q : acc.length < sizeLine
                  · rw [if_pos q] at e4
                    have l35 := l3.trans (l4.trans l5)
                    have t5 := l35.t _ _ ht
                    have s7 := s3.back hw (l4.trans l5) s6 offr offs
                    obtain ⟨ho5, hp5⟩ := s7.tmpT _ _ t5
                    have s8 := (s7.untell (p := p)).wrtTmp (p := p) ho5 (if_pos rfl) (o := .lst (xs ++ [v]))
                    have l8 : Le g1 (g5.untell p) := le_untell (l.trans l35) hTp
                    refine ⟨xs, hp5, by rw [← ra.length]; exact q, m, Nat.lt_succ_self _, μ3, (g5.untell p).tell p (.lst (xs ++ [v])), acc ++ [y], xs ++ [v], le_tell l8 hTp, s8.tell ho5 upd_same, upd_same, Reps.append (l35.reps ra) (reps_cons ry reps_nil), e4⟩
                  · rw [if_neg q] at e4
                    cases e4
                · obtain ⟨a, q, _⟩ := nx_some e3
                  cases q
            · obtain ⟨a, q, _⟩ := nx_some e1
              cases q
  · rw [if_neg hw] at h1
    cases h1
theorem df_lcJ (hc : X.calm = true) (hN : X.N.Nodup) (hi : DJ X W tg iter ts) (ok : BlkOk X.N X.env.scope scope own)
    (hg : ∀ (s : Shared) (H : Hp) (C : Addr) (cl : List (Str × Addr)) (fp : List Addr), DG (X.blk s H scope (compEnvC scope cl C X.env) fp) tg is gt)
    (ht : ∀ (s : Shared) (H : Hp) (C : Addr) (cl : List (Str × Addr)) (fp : List Addr), DTs (X.blk s H scope (compEnvC scope cl C X.env) fp) WF ifs tt)
    (he : ∀ (s : Shared) (H : Hp) (C : Addr) (cl : List (Str × Addr)) (fp : List Addr), DE (X.blk s H scope (compEnvC scope cl C X.env) fp) WF elt te)
    (his : ∀ i ∈ is, i ∈ own.map (·.2) := by decide) (hs : ∀ x, foldedSetIterable iter X.env x = pure x := by intro _; rfl) :
    DF X W (.ListComp elt [⟨tg, iter, ifs, 0⟩] scope pos) (dLcJ (own.map (·.2)) ts gt tt te) := by
  obtain ⟨wi, p, r⟩ := hi.ex
  refine ⟨_, pe_lc (g := cG X.K is gt) (tt := cT X.K WF tt) (te := cE X.K WF te) hc hN p ok (fun s H C cl fp => (hg s H C cl fp).can) (fun s H C cl fp => (ht s H C cl fp).ex) (fun s H C cl fp => (he s H C cl fp).can) hs, fun c hc2 => ?_⟩
  have q := rf_lcJ (tt := tt) (te := te) (r c hc2) (hg X.s_0 X.H_0 0 [] []).off his
  rw [hc2] at q
  exact q
end
end DL
set_option Elab.async false
set_option linter.all false
set_option maxRecDepth 100000
set_option maxHeartbeats 4000000
set_option autoImplicit false
namespace DL
open PySem PySem.Spec L2
theorem units1 {k : Nat} {A : Around} (r : Room k A) : A.units + 1 < cLine := by have := r.un; omega
theorem takesF {X : Cx} : Takes X WF := fun u s' h => by
  obtain ⟨a, B, sI, pins, σ, H, cls, d, _, _, _, _, _, _, _, _, w⟩ := h
  exact w.elim
section
variable {X : Cx} {W : WX} {x : Str} {k n : Nat} {F : List D → M D} {p pos : Pos}
def dCall0 (F : List D → M D) : TD := fun _ => M.nx (F [])
theorem de_call0n (hk : Known X.prog X.w X.K X.mg X.base x k 0 F) (hr : Room k X.A) (hg : Gl X x := by rfl) (hdb : (x == ("__debug__" : Str)) = false := by decide) : DE X W (.Call (.Name x p) [] [] pos) (dCall0 F) := by
  obtain ⟨f, fd, ps, h1, h2, h3, h4, h5⟩ := hk.ex
  refine ⟨_, pe_call0 h5 hr hg h1 h2 h3 .nil passL hdb, fun c hc ρ μ g σ H Q rr μ' s hh hx k => ?_⟩
  obtain ⟨d, ed0, hF2⟩ := nx_some (show M.nx (F []) μ = some (rr, μ') from hh)
  subst ed0
  show spD X.K 0 F ([] ++ []) H Q E0
  rw [← hc]
  refine ⟨[], μ, g.enter, .ok d, μ', rfl, s.toSH.enter, reps_nil, hF2, fun d' ed v H' g' l' s' rp => ?_, fun C ns es ed => by cases ed⟩
  cases ed
  exact k d rfl v H' _ (le_after l') (s.after l' s') rp
end
end DL
set_option Elab.async false
set_option linter.all false
set_option maxRecDepth 100000
set_option maxHeartbeats 4000000
set_option autoImplicit false
namespace DL
open PySem PySem.Spec L2
/-! ### more Bool facts -/
/-- the value at a written dict's key is a tuple of these -/
def dtupB (a : Fg → Addr) (k : Str) (vs : List He.Dv) (K : Fg) : Bool := match PySem.W.nsIn K (a K) k with
  | some (some (.ref t)) => (match K.lookup t with
    | some ⟨.type c, _, .seq its _, _⟩ => decide (c = "tuple") && (decide (its.size ≤ sizeLine) && He.relAll (vs.map (He.Dv.v K)) its.toList)
    | _ => false)
  | _ => false
theorem dtupB_ok {a : Fg → Addr} {k : Str} {vs : List He.Dv} {K : Fg} (h : dtupB a k vs K = true) : ∃ t, PySem.W.nsIn K (a K) k = some (some (.ref t)) ∧ ∀ H, SqT K H t (vs.map (He.Dv.v K)) := by
  unfold dtupB at h
  split at h
  · rename_i t e
    refine ⟨t, e, fun H => ?_⟩
    split at h
    · rename_i c od its n sl q
      obtain ⟨h1, h2⟩ := Bool.and_eq_true_iff.mp h
      obtain ⟨h3, h4⟩ := Bool.and_eq_true_iff.mp h2
      exact .inr ⟨_, its, n, q, congrArg Value.type (of_decide_eq_true h1), rfl, of_decide_eq_true h3, He.relAll_ok h4⟩
    · cases h
  · cases h
/-- flat data -/
def D.dv : D → Option He.Dv
  | .int i => some (.int i)
  | .str s => some (.str s)
  | .bl b => some (.bl b)
  | .non => some .non
  | _ => none
theorem reps_dv {K : Fg} {ads : List Addr} {B : Hp} : ∀ {ds : List D} {vs : List He.Dv}, ds.map D.dv = vs.map some → Reps K ads B ds (vs.map (He.Dv.v K))
  | [], [], _ => reps_nil
  | [], _ :: _, h => by cases h
  | _ :: _, [], h => by cases h
  | d :: ds, v :: vs, h => by
    rw [List.map_cons, List.map_cons] at h
    injection h with h1 h2
    refine reps_cons ?_ (reps_dv h2)
    cases d <;> cases h1 <;> (unfold Rep; rfl)
theorem kt_rep {K : Fg} {a : Addr} {ds : List D} {vs : List He.Dv} (h : ∀ H, SqT K H a (vs.map (He.Dv.v K))) (e : ds.map D.dv = vs.map some) : ∀ ads B, Rep K ads B (.kt ds) (.ref a) := fun ads B => by
  unfold Rep
  exact ⟨a, _, rfl, h B, reps_dv e⟩
theorem dtup_at {a : Fg → Addr} {k : Str} {ds : List D} {vs : List He.Dv} {K : Fg} (h : dtupB a k vs K = true) (e : ds.map D.dv = vs.map some) : ∃ u v, PySem.W.nsIn K (a K) k = some (some u) ∧ RelV v u ∧ ∀ ads B, Rep K ads B (.kt ds) v := by
  obtain ⟨t, h1, h2⟩ := dtupB_ok h
  exact ⟨_, .ref t, h1, rfl, kt_rep h2 e⟩
/-! ### the law's def is entered with the script -/
def g0 (H : Hp) : G := ⟨[], H, fun _ => none, fun _ => none⟩
theorem sh0 (K : Fg) (H : Hp) : SH (Ct.call K (g0 H) H) [] (g0 H) H where
  sub := Same.refl _
  own := fun a e => absurd rfl e
  ownNew := fun a i e => by cases e
  ownAt := fun a e => absurd rfl e
  alen := rfl
  amb := fun k a m e _ => by cases e
  old := fun a o e _ => e
  oldT := fun a o e => ⟨o, e⟩
  newB := fun a o e => .inl e
  b0 := Same.refl _
  a0 := fun k a e => e
  aNew := fun a e => by cases e
  tmpT := fun a o e => by cases e
theorem sp_law {K : Fg} {F : List D → M D} {n : Nat} (hF : ∀ ns : List Int, ns.length ≤ n → ∃ μ', F [.rd (ns.map D.int)] [] = some (.ok (.bl true), μ')) (H : Hp) (a : Addr) (ns : List Int) (hn : ns.length ≤ n) (hS : SqL K H a (ns.map V.int)) :
    spD K 1 F [.ref a] H (fun v _ => v = .bl true) fun _ _ _ => False := by
  obtain ⟨μ', e⟩ := hF ns hn
  refine ⟨[.rd (ns.map D.int)], [], g0 H, _, μ', rfl, sh0 K H, reps_cons ?_ reps_nil, e, fun d ed v H' g' l s r => ?_, fun C ns es ed => by cases ed⟩
  · unfold Rep
    exact ⟨a, _, rfl, hS, ints_reps⟩
  · cases ed
    exact rep_flat (d := .bl true) rfl r
/-- the end, an exception's word may lean on the world -/
theorem walkW {l : PySem.W.OpenLaw} {n k : Nat} {q : Program} {loose : List Str} {XP : (Str → Option Value) → Heap → Prop} {YP : World → Heap → Prop} {d : DefRec} {CX : World → CXT} {x : Str}
    (hn : l.most = some n) (hn2 : n ≤ sizeLine) (hdf : d.params.defaults = []) (hr : Room k callerA)
    (F : ∀ (w : World) (mg : Str → Option Value) (fa : Addr) (h : Heap), YP w h → h.Ns mainGlobals mg → mg d.name = some (.ref fa) → ∃ (K : Fg) (fd : FuncData) (sp : Sp), K.In h ∧ (∀ (s : Shared) (u : Value), BindsTo s fd ⟨[u], []⟩ [(x, u)]) ∧
      (∀ (H : Hp) (a : Addr) (ns : List Int), ns.length ≤ n → SqL K H a (ns.map V.int) → sp [.ref a] H (fun v _ => v = .bl true) fun _ _ _ => False) ∧ ∀ base : Heap, K.In base → base.Ns mainGlobals mg → FnOk l.prog w K mg base (CX w) k fa fd [x] sp)
    (hCX : ∀ (w : World) (H : Hp) (s : Shared) (e : Value) (s' : Shared), CX w [] H s (fun _ _ _ => False) e s' → False) : PySem.W.WalkO q loose XP YP l.row.toRowW d [] (fun f vs => PySem.call f vs) := by
  refine Att.attach_call hn hdf fun w s0 s1 mg mb fa o pm cd doc a vs ns g y ho hd hcd hmg hob hin hlen hgg => ?_
  obtain ⟨K, fd, sp, e1, e2, e3, e4⟩ := F w mg fa _ y g.T.g hmg
  exact law_call e1 g.T.g g.T.b g.T.builtins g.T.nolimit hgg hob hin (Nat.le_trans hlen hn2) hr e4 e2 (fun H _ hS => e3 H a ns hlen hS) fun H e s' => hCX w H s1 e s'
end DL
set_option Elab.async false
set_option linter.all false
set_option maxRecDepth 100000
set_option maxHeartbeats 4000000
set_option autoImplicit false
namespace K56
open PySem PySem.Spec L2 DL
def top (i : Nat) : Stmt := PySem.Challenge.pw_selfwritten_k56_now_exactly_if_named.main.body.getD i (.Pass ⟨0, 0, 0, 0⟩)
def tab_NAMING_SPOTS : KTab := [("read", some (.kt [.int 1])), ("must", some (.kt [.int 1])), ("keep", some (.kt [.int 1])), ("write", some (.kt [.int 1, .int 2])), ("out", some (.kt [.int 2])), ("get", none), ("num", none), ("in", none), ("end", none), ("tick", none)]
def owns (K : Fg) : List Addr := [He.ga K "Middle"]
def kits (K : Fg) : Kit := [(.type "int", .type "int", true), (.type "int", .type "bool", false), (.ref (He.ga K "Middle"), .ref (He.ga K "Middle"), true), (.type "int", .ref (He.ga K "Middle"), false)]
def bs : List (Fg → Bool) := [(fun K => (He.Fa.free "len").ok K),
  (fun K => (He.Fa.free "min").ok K),
  (fun K => (He.Fa.free "range").ok K),
  (fun K => (He.Fa.free "int").ok K),
  (fun K => (He.Fa.glo "_law_draws").ok K),
  (fun K => (He.Fa.glo "_law_take").ok K),
  (fun K => (He.Fa.glo "_law_word").ok K),
  (fun K => (He.Fa.glo "_law_ops").ok K),
  (fun K => (He.Fa.glo "_law_drawn_middle").ok K),
  (fun K => (He.Fa.free "list").ok K),
  (fun K => (He.Fa.free "tuple").ok K),
  (fun K => (He.Fa.cls "Middle").ok K),
  (fun K => (He.Fa.noat "Middle" "lines").ok K),
  (fun K => (He.Fa.noat "Middle" "marks").ok K),
  (fun K => (He.Fa.mkr "Middle").ok K),
  (fun K => (He.Fa.glo "Middle").ok K),
  (ownB (fun K => He.ga K "Middle")),
  (kitB' kits),
  (fun K => (He.Fa.free "isinstance").ok K),
  (fun K => (He.Fa.glo "_law_is").ok K),
  (fun K => decide (PySem.W.subIn K (.type "int") (.ref (He.ga K "Middle")) = some false)),
  (fun K => (He.Fa.meth "Middle" "__eq__").ok K),
  (fun K => (He.Fa.glo "_law_names_of").ok K),
  (fun K => (He.Fa.glo "_law_now").ok K),
  (fun K => (He.Fa.free "reversed").ok K),
  (fun K => (He.Fa.glo "ASKING").ok K),
  (fun K => He.tupB K "ASKING" [.str "read", .str "must", .str "write", .str "out", .str "keep"]),
  (fun K => (He.Fa.glo "OPS").ok K),
  (fun K => He.tupB K "OPS" [.str "add", .str "sub", .str "and", .str "or", .str "xor", .str "less", .str "same"]),
  (smB "Pool" "ops"),
  (fun K => (He.Fa.glo "Pool").ok K),
  (fun K => (He.Fa.glo "is_op").ok K),
  (fun K => (He.Fa.glo "NAMING_SPOTS").ok K),
  (dtupB (fun K => He.ga K "NAMING_SPOTS") "read" [.int 1]),
  (dtupB (fun K => He.ga K "NAMING_SPOTS") "must" [.int 1]),
  (dtupB (fun K => He.ga K "NAMING_SPOTS") "keep" [.int 1]),
  (dtupB (fun K => He.ga K "NAMING_SPOTS") "write" [.int 1, .int 2]),
  (dtupB (fun K => He.ga K "NAMING_SPOTS") "out" [.int 2]),
  (missB (fun K => He.ga K "NAMING_SPOTS") ["get", "num", "in", "end", "tick"]),
  (fun K => (He.Fa.glo "naming_spots").ok K),
  (fun K => (He.Fa.glo "operands_of").ok K),
  (fun K => (He.Fa.glo "asked_through").ok K),
  (fun K => (He.Fa.glo "is_idle_kind").ok K),
  (fun K => (He.Fa.glo "now_lines").ok K),
  (fun K => (He.Fa.free "enumerate").ok K),
  (fun K => (He.Fa.glo "late_lines").ok K),
  (fun K => (He.Fa.glo "_law_lines_are").ok K),
  (fun K => (He.Fa.glo "renamed").ok K),
  (fun K => (He.Fa.glo "worked").ok K),
  (fun K => (He.Fa.glo "shortened").ok K),
  (fun K => (He.Fa.free "bool").ok K),
  (fun K => (He.Fa.glo "is_integer").ok K),
  (fun K => (He.Fa.glo "check_int").ok K),
  (fun K => (He.Fa.glo "ones").ok K),
  (fun K => (He.Fa.glo "marks_renamed").ok K),
  (fun K => (He.Fa.glo "known").ok K),
  (fun K => (He.Fa.glo "_law_renamed").ok K),
  (fun K => (He.Fa.glo "_law_op").ok K),
  (fun K => (He.Fa.glo "_law_shorter").ok K),
  (fun K => (He.Fa.glo "_law_marks_renamed").ok K),
  (fun K => (He.Fa.glo "_law_known").ok K),
  (fun K => (He.Fa.glo "once").ok K),
  (fun K => (He.Fa.glo "_law_once").ok K),
  (fun K => (He.Fa.free "zip").ok K),
  (fun K => (He.Fa.glo "lines_left").ok K),
  (fun K => (He.Fa.glo "never_leaves").ok K),
  (fun K => (He.Fa.glo "spared").ok K),
  (fun K => (He.Fa.glo "_law_lines_left").ok K),
  (fun K => (He.Fa.glo "_law_spared").ok K),
  (fun K => (He.Fa.glo "dropped").ok K),
  (fun K => (He.Fa.glo "_law_held").ok K),
  (fun K => (He.Fa.glo "_law_dropped").ok K),
  (fun K => (He.Fa.glo "_law_tidy").ok K),
  (fun K => (He.Fa.glo "tidy").ok K),
  (fun K => (He.Fa.glo "plainly").ok K),
  (fun K => (He.Fa.glo "_law_passes_are").ok K),
  (fun K => (He.Fa.glo "law").ok K)]
def fn : List XDef := [⟨fun K => He.ga K "_law_draws", "_law_draws", "_law_draws", top 40⟩,
  ⟨fun K => He.ga K "_law_take", "_law_take", "_law_take", top 41⟩,
  ⟨fun K => He.ga K "_law_word", "_law_word", "_law_word", top 42⟩,
  ⟨fun K => He.ga K "_law_ops", "_law_ops", "_law_ops", top 44⟩,
  ⟨fun K => He.ga K "_law_drawn_middle", "_law_drawn_middle", "_law_drawn_middle", top 48⟩,
  ⟨fun K => He.ma K (He.ga K "Middle") "__init__", "__init__", "Middle.__init__", inClass (top 18) 0⟩,
  ⟨fun K => He.ga K "_law_is", "_law_is", "_law_is", top 58⟩,
  ⟨fun K => He.ma K (He.ga K "Middle") "__eq__", "__eq__", "Middle.__eq__", inClass (top 18) 1⟩,
  ⟨fun K => He.ga K "_law_names_of", "_law_names_of", "_law_names_of", top 45⟩,
  ⟨fun K => He.ga K "_law_now", "_law_now", "_law_now", top 46⟩,
  ⟨fun K => smF K "Pool" "ops", "ops", "Pool.ops", inClass (top 15) 3⟩,
  ⟨fun K => He.ga K "is_op", "is_op", "is_op", top 19⟩,
  ⟨fun K => He.ga K "naming_spots", "naming_spots", "naming_spots", top 20⟩,
  ⟨fun K => He.ga K "operands_of", "operands_of", "operands_of", top 21⟩,
  ⟨fun K => He.ga K "asked_through", "asked_through", "asked_through", top 32⟩,
  ⟨fun K => He.ga K "is_idle_kind", "is_idle_kind", "is_idle_kind", top 33⟩,
  ⟨fun K => He.ga K "now_lines", "now_lines", "now_lines", top 35⟩,
  ⟨fun K => He.ga K "late_lines", "late_lines", "late_lines", top 36⟩,
  ⟨fun K => He.ga K "_law_lines_are", "_law_lines_are", "_law_lines_are", top 59⟩,
  ⟨fun K => He.ga K "renamed", "renamed", "renamed", top 22⟩,
  ⟨fun K => He.ga K "worked", "worked", "worked", top 14⟩,
  ⟨fun K => He.ga K "shortened", "shortened", "shortened", top 26⟩,
  ⟨fun K => He.ga K "is_integer", "is_integer", "is_integer", top 8⟩,
  ⟨fun K => He.ga K "check_int", "check_int", "check_int", top 9⟩,
  ⟨fun K => He.ga K "ones", "ones", "ones", top 10⟩,
  ⟨fun K => He.ga K "marks_renamed", "marks_renamed", "marks_renamed", top 25⟩,
  ⟨fun K => He.ga K "known", "known", "known", top 27⟩,
  ⟨fun K => He.ga K "_law_renamed", "_law_renamed", "_law_renamed", top 49⟩,
  ⟨fun K => He.ga K "_law_op", "_law_op", "_law_op", top 43⟩,
  ⟨fun K => He.ga K "_law_shorter", "_law_shorter", "_law_shorter", top 51⟩,
  ⟨fun K => He.ga K "_law_marks_renamed", "_law_marks_renamed", "_law_marks_renamed", top 50⟩,
  ⟨fun K => He.ga K "_law_known", "_law_known", "_law_known", top 52⟩,
  ⟨fun K => He.ga K "once", "once", "once", top 31⟩,
  ⟨fun K => He.ga K "_law_once", "_law_once", "_law_once", top 53⟩,
  ⟨fun K => He.ga K "lines_left", "lines_left", "lines_left", top 28⟩,
  ⟨fun K => He.ga K "never_leaves", "never_leaves", "never_leaves", top 29⟩,
  ⟨fun K => He.ga K "spared", "spared", "spared", top 30⟩,
  ⟨fun K => He.ga K "_law_lines_left", "_law_lines_left", "_law_lines_left", top 54⟩,
  ⟨fun K => He.ga K "_law_spared", "_law_spared", "_law_spared", top 55⟩,
  ⟨fun K => He.ga K "dropped", "dropped", "dropped", top 34⟩,
  ⟨fun K => He.ga K "_law_held", "_law_held", "_law_held", top 47⟩,
  ⟨fun K => He.ga K "_law_dropped", "_law_dropped", "_law_dropped", top 56⟩,
  ⟨fun K => He.ga K "_law_tidy", "_law_tidy", "_law_tidy", top 57⟩,
  ⟨fun K => He.ga K "tidy", "tidy", "tidy", top 37⟩,
  ⟨fun K => He.ga K "plainly", "plainly", "plainly", top 38⟩,
  ⟨fun K => He.ga K "_law_passes_are", "_law_passes_are", "_law_passes_are", top 60⟩,
  ⟨fun K => He.ga K "law", "law", "law", top 61⟩]
def ts : List He.Tab := [(fun K => He.ga K "NAMING_SPOTS", ["read", "must", "keep", "write", "out"])]
def loose1 : List Str := ["_wall", "__name__", "Refusal", "BadNumber", "BadWords", "BadPart", "TooMany", "is_integer", "check_int", "ones", "OPS", "MOST", "worked", "Pool", "NAMING_SPOTS", "Middle", "is_op", "naming_spots", "operands_of", "renamed", "ASKING", "marks_renamed", "shortened", "known", "lines_left", "never_leaves", "spared", "once"]
def loose2 : List Str := ["asked_through", "is_idle_kind", "dropped", "now_lines", "late_lines", "tidy", "plainly", "_law_draws", "_law_take", "_law_word", "_law_op", "_law_ops", "_law_names_of", "_law_now", "_law_held", "_law_drawn_middle", "_law_renamed", "_law_marks_renamed", "_law_shorter", "_law_known", "_law_once", "_law_lines_left", "_law_spared", "_law_dropped", "_law_tidy", "_law_is", "_law_lines_are", "_law_passes_are"]
def loose : List Str := loose1 ++ loose2
abbrev R : PySem.W.OpenRow := PySem.W.OpenLaw.row PySem.Challenge.rw_selfwritten_k56_now_exactly_if_named
abbrev hk : PySem.W.Hook := hookX 5 bs fn ts
def ob (s : PySem.W.SharedT) : XA := obsXG 5 bs fn ts (HandSHeadRun.getT s)
theorem ob_eq (s : PySem.W.SharedT) : ob s = hk.obs s.abs := obsXG_eq (HandSHeadRun.getT_eq s)
abbrev PW (w : World) : Prop := HandSHeadRun.RunEq R (PySem.W.view R.prog [61]) hk ob 5000 loose w
set_option maxHeartbeats 0 in
theorem run_f (w : World) : PW (w.withFollow "special-get-raises" false) := by intro os; kernel_rfl
set_option maxHeartbeats 0 in
theorem run_t (w : World) : PW (w.withFollow "special-get-raises" true) := by intro os; kernel_rfl
theorem run (w : World) : HandSHeadRun.RunEq R (PySem.W.view R.prog [61]) hk ob 5000 loose w := PySem.W.byRow2 "special-get-raises" (P := PW) run_f run_t w
end K56
set_option Elab.async false
set_option linter.all false
set_option maxRecDepth 100000
set_option maxHeartbeats 4000000
set_option autoImplicit false
noncomputable section
namespace K56
open PySem PySem.Spec L2 DL
/-- what the proofs of the text lean on -/
structure Fx (w : World) (K : Fg) (mg : Str → Option Value) : Prop where
  fr_len : mg "len" = none
  fr_min : mg "min" = none
  fr_range : mg "range" = none
  fr_int : mg "int" = none
  gl__law_draws : mg "_law_draws" = some (.ref (He.ga K "_law_draws"))
  fn__law_draws : ∃ fd, Fun K "_law_draws" "_law_draws" (top 40) (He.ga K "_law_draws") fd
  gl__law_take : mg "_law_take" = some (.ref (He.ga K "_law_take"))
  fn__law_take : ∃ fd, Fun K "_law_take" "_law_take" (top 41) (He.ga K "_law_take") fd
  gl__law_word : mg "_law_word" = some (.ref (He.ga K "_law_word"))
  fn__law_word : ∃ fd, Fun K "_law_word" "_law_word" (top 42) (He.ga K "_law_word") fd
  gl__law_ops : mg "_law_ops" = some (.ref (He.ga K "_law_ops"))
  fn__law_ops : ∃ fd, Fun K "_law_ops" "_law_ops" (top 44) (He.ga K "_law_ops") fd
  gl__law_drawn_middle : mg "_law_drawn_middle" = some (.ref (He.ga K "_law_drawn_middle"))
  fn__law_drawn_middle : ∃ fd, Fun K "_law_drawn_middle" "_law_drawn_middle" (top 48) (He.ga K "_law_drawn_middle") fd
  fr_list : mg "list" = none
  fr_tuple : mg "tuple" = none
  cl_Middle : Cls K (He.ga K "Middle")
  na_Middle_lines : NoAttr K (He.ga K "Middle") "lines"
  na_Middle_marks : NoAttr K (He.ga K "Middle") "marks"
  fn_Middle_init : ∃ fd, Fun K "__init__" "Middle.__init__" (inClass (top 18) 0) (He.ma K (He.ga K "Middle") "__init__") fd
  mk_Middle : Mk K (He.ga K "Middle") (He.ma K (He.ga K "Middle") "__init__")
  gl_Middle : mg "Middle" = some (.ref (He.ga K "Middle"))
  own : ∀ C ∈ owns K, Own K C
  kit : KitOk K (kits K)
  fr_isinstance : mg "isinstance" = none
  gl__law_is : mg "_law_is" = some (.ref (He.ga K "_law_is"))
  fn__law_is : ∃ fd, Fun K "_law_is" "_law_is" (top 58) (He.ga K "_law_is") fd
  fn_Middle_eq : ∃ fd, Fun K "__eq__" "Middle.__eq__" (inClass (top 18) 1) (He.ma K (He.ga K "Middle") "__eq__") fd
  eqi_Middle : PySem.W.subIn K (.type "int") (.ref (He.ga K "Middle")) = some false
  eqf_Middle : PySem.W.findIn K (.ref (He.ga K "Middle")) "__eq__" = some (some (.ref (He.ma K (He.ga K "Middle") "__eq__")))
  eqn_Middle : PySem.W.isFn K (.ref (He.ma K (He.ga K "Middle") "__eq__")) = true
  gl__law_names_of : mg "_law_names_of" = some (.ref (He.ga K "_law_names_of"))
  fn__law_names_of : ∃ fd, Fun K "_law_names_of" "_law_names_of" (top 45) (He.ga K "_law_names_of") fd
  gl__law_now : mg "_law_now" = some (.ref (He.ga K "_law_now"))
  fn__law_now : ∃ fd, Fun K "_law_now" "_law_now" (top 46) (He.ga K "_law_now") fd
  fr_reversed : mg "reversed" = none
  gl_ASKING : mg "ASKING" = some (.ref (He.ga K "ASKING"))
  tp_ASKING : ∀ ads B, Rep K ads B (.kt [.str "read", .str "must", .str "write", .str "out", .str "keep"]) (.ref (He.ga K "ASKING"))
  gl_OPS : mg "OPS" = some (.ref (He.ga K "OPS"))
  tp_OPS : ∀ ads B, Rep K ads B (.kt [.str "add", .str "sub", .str "and", .str "or", .str "xor", .str "less", .str "same"]) (.ref (He.ga K "OPS"))
  fn_Pool_ops : ∃ fd, Fun K "ops" "Pool.ops" (inClass (top 15) 3) (smF K "Pool" "ops") fd
  sm_Pool_ops : ClX.CRead K (He.ga K "Pool") (.type "type") ∧ SMet K (He.ga K "Pool") (.type "type") "ops" (He.ma K (He.ga K "Pool") "ops") (smF K "Pool" "ops")
  gl_Pool : mg "Pool" = some (.ref (He.ga K "Pool"))
  gl_is_op : mg "is_op" = some (.ref (He.ga K "is_op"))
  fn_is_op : ∃ fd, Fun K "is_op" "is_op" (top 19) (He.ga K "is_op") fd
  gl_NAMING_SPOTS : mg "NAMING_SPOTS" = some (.ref (He.ga K "NAMING_SPOTS"))
  kt_NAMING_SPOTS : KTabOk K w (He.ga K "NAMING_SPOTS") tab_NAMING_SPOTS
  gl_naming_spots : mg "naming_spots" = some (.ref (He.ga K "naming_spots"))
  fn_naming_spots : ∃ fd, Fun K "naming_spots" "naming_spots" (top 20) (He.ga K "naming_spots") fd
  gl_operands_of : mg "operands_of" = some (.ref (He.ga K "operands_of"))
  fn_operands_of : ∃ fd, Fun K "operands_of" "operands_of" (top 21) (He.ga K "operands_of") fd
  gl_asked_through : mg "asked_through" = some (.ref (He.ga K "asked_through"))
  fn_asked_through : ∃ fd, Fun K "asked_through" "asked_through" (top 32) (He.ga K "asked_through") fd
  gl_is_idle_kind : mg "is_idle_kind" = some (.ref (He.ga K "is_idle_kind"))
  fn_is_idle_kind : ∃ fd, Fun K "is_idle_kind" "is_idle_kind" (top 33) (He.ga K "is_idle_kind") fd
  gl_now_lines : mg "now_lines" = some (.ref (He.ga K "now_lines"))
  fn_now_lines : ∃ fd, Fun K "now_lines" "now_lines" (top 35) (He.ga K "now_lines") fd
  fr_enumerate : mg "enumerate" = none
  gl_late_lines : mg "late_lines" = some (.ref (He.ga K "late_lines"))
  fn_late_lines : ∃ fd, Fun K "late_lines" "late_lines" (top 36) (He.ga K "late_lines") fd
  gl__law_lines_are : mg "_law_lines_are" = some (.ref (He.ga K "_law_lines_are"))
  fn__law_lines_are : ∃ fd, Fun K "_law_lines_are" "_law_lines_are" (top 59) (He.ga K "_law_lines_are") fd
  gl_renamed : mg "renamed" = some (.ref (He.ga K "renamed"))
  fn_renamed : ∃ fd, Fun K "renamed" "renamed" (top 22) (He.ga K "renamed") fd
  gl_worked : mg "worked" = some (.ref (He.ga K "worked"))
  fn_worked : ∃ fd, Fun K "worked" "worked" (top 14) (He.ga K "worked") fd
  gl_shortened : mg "shortened" = some (.ref (He.ga K "shortened"))
  fn_shortened : ∃ fd, Fun K "shortened" "shortened" (top 26) (He.ga K "shortened") fd
  fr_bool : mg "bool" = none
  gl_is_integer : mg "is_integer" = some (.ref (He.ga K "is_integer"))
  fn_is_integer : ∃ fd, Fun K "is_integer" "is_integer" (top 8) (He.ga K "is_integer") fd
  gl_check_int : mg "check_int" = some (.ref (He.ga K "check_int"))
  fn_check_int : ∃ fd, Fun K "check_int" "check_int" (top 9) (He.ga K "check_int") fd
  gl_ones : mg "ones" = some (.ref (He.ga K "ones"))
  fn_ones : ∃ fd, Fun K "ones" "ones" (top 10) (He.ga K "ones") fd
  gl_marks_renamed : mg "marks_renamed" = some (.ref (He.ga K "marks_renamed"))
  fn_marks_renamed : ∃ fd, Fun K "marks_renamed" "marks_renamed" (top 25) (He.ga K "marks_renamed") fd
  gl_known : mg "known" = some (.ref (He.ga K "known"))
  fn_known : ∃ fd, Fun K "known" "known" (top 27) (He.ga K "known") fd
  gl__law_renamed : mg "_law_renamed" = some (.ref (He.ga K "_law_renamed"))
  fn__law_renamed : ∃ fd, Fun K "_law_renamed" "_law_renamed" (top 49) (He.ga K "_law_renamed") fd
  gl__law_op : mg "_law_op" = some (.ref (He.ga K "_law_op"))
  fn__law_op : ∃ fd, Fun K "_law_op" "_law_op" (top 43) (He.ga K "_law_op") fd
  gl__law_shorter : mg "_law_shorter" = some (.ref (He.ga K "_law_shorter"))
  fn__law_shorter : ∃ fd, Fun K "_law_shorter" "_law_shorter" (top 51) (He.ga K "_law_shorter") fd
  gl__law_marks_renamed : mg "_law_marks_renamed" = some (.ref (He.ga K "_law_marks_renamed"))
  fn__law_marks_renamed : ∃ fd, Fun K "_law_marks_renamed" "_law_marks_renamed" (top 50) (He.ga K "_law_marks_renamed") fd
  gl__law_known : mg "_law_known" = some (.ref (He.ga K "_law_known"))
  fn__law_known : ∃ fd, Fun K "_law_known" "_law_known" (top 52) (He.ga K "_law_known") fd
  gl_once : mg "once" = some (.ref (He.ga K "once"))
  fn_once : ∃ fd, Fun K "once" "once" (top 31) (He.ga K "once") fd
  gl__law_once : mg "_law_once" = some (.ref (He.ga K "_law_once"))
  fn__law_once : ∃ fd, Fun K "_law_once" "_law_once" (top 53) (He.ga K "_law_once") fd
  fr_zip : mg "zip" = none
  gl_lines_left : mg "lines_left" = some (.ref (He.ga K "lines_left"))
  fn_lines_left : ∃ fd, Fun K "lines_left" "lines_left" (top 28) (He.ga K "lines_left") fd
  gl_never_leaves : mg "never_leaves" = some (.ref (He.ga K "never_leaves"))
  fn_never_leaves : ∃ fd, Fun K "never_leaves" "never_leaves" (top 29) (He.ga K "never_leaves") fd
  gl_spared : mg "spared" = some (.ref (He.ga K "spared"))
  fn_spared : ∃ fd, Fun K "spared" "spared" (top 30) (He.ga K "spared") fd
  gl__law_lines_left : mg "_law_lines_left" = some (.ref (He.ga K "_law_lines_left"))
  fn__law_lines_left : ∃ fd, Fun K "_law_lines_left" "_law_lines_left" (top 54) (He.ga K "_law_lines_left") fd
  gl__law_spared : mg "_law_spared" = some (.ref (He.ga K "_law_spared"))
  fn__law_spared : ∃ fd, Fun K "_law_spared" "_law_spared" (top 55) (He.ga K "_law_spared") fd
  gl_dropped : mg "dropped" = some (.ref (He.ga K "dropped"))
  fn_dropped : ∃ fd, Fun K "dropped" "dropped" (top 34) (He.ga K "dropped") fd
  gl__law_held : mg "_law_held" = some (.ref (He.ga K "_law_held"))
  fn__law_held : ∃ fd, Fun K "_law_held" "_law_held" (top 47) (He.ga K "_law_held") fd
  gl__law_dropped : mg "_law_dropped" = some (.ref (He.ga K "_law_dropped"))
  fn__law_dropped : ∃ fd, Fun K "_law_dropped" "_law_dropped" (top 56) (He.ga K "_law_dropped") fd
  gl__law_tidy : mg "_law_tidy" = some (.ref (He.ga K "_law_tidy"))
  fn__law_tidy : ∃ fd, Fun K "_law_tidy" "_law_tidy" (top 57) (He.ga K "_law_tidy") fd
  gl_tidy : mg "tidy" = some (.ref (He.ga K "tidy"))
  fn_tidy : ∃ fd, Fun K "tidy" "tidy" (top 37) (He.ga K "tidy") fd
  gl_plainly : mg "plainly" = some (.ref (He.ga K "plainly"))
  fn_plainly : ∃ fd, Fun K "plainly" "plainly" (top 38) (He.ga K "plainly") fd
  gl__law_passes_are : mg "_law_passes_are" = some (.ref (He.ga K "_law_passes_are"))
  fn__law_passes_are : ∃ fd, Fun K "_law_passes_are" "_law_passes_are" (top 60) (He.ga K "_law_passes_are") fd
  gl_law : mg "law" = some (.ref (He.ga K "law"))
  fn_law : ∃ fd, Fun K "law" "law" (top 61) (He.ga K "law") fd
section
variable {P : Program} {w : World} {K : Fg} {mg : Str → Option Value} {base : Heap} {f : Addr}
theorem Fx.fld_Middle_lines (F : Fx w K mg) : ∀ C ∈ [He.ga K "Middle"], Cls K C ∧ NoAttr K C "lines" := fun C h => by rw [List.mem_singleton.mp h]; exact ⟨F.cl_Middle, F.na_Middle_lines⟩
theorem Fx.fld_Middle_marks (F : Fx w K mg) : ∀ C ∈ [He.ga K "Middle"], Cls K C ∧ NoAttr K C "marks" := fun C h => by rw [List.mem_singleton.mp h]; exact ⟨F.cl_Middle, F.na_Middle_marks⟩
def B__law_draws (K : Fg) : TO' := dsSeq (dsSet 1 (dAmb (dLst (dNil)))) (dsSeq (dsFor (dRng1 (dMin2 (dLen (qVal (dVar 0))) (dC (.int 63)))) (gtName 2) (dsSeq (dsSet 3 (dInt (dIx (qVal (dVar 0)) (dVar 2)))) (dsSeq (dsSet 4 (dC (.int 0))) (dsSeq (dsIf (dTest (dBin gLt (dVar 3) (dC (.int 0)))) (dsSeq (dsSet 4 (dC (.int 1))) (dsSet 3 (dNeg (dVar 3)))) (dsNext)) (dsIf (dTest (dBin gGe (dVar 3) (dBin gPow (dC (.int 10)) (dC (.int 18))))) (dsFor (dRng1 (dC (.int 45))) (gtName 5) (dsIf (dTest (dBin gGt (dVar 3) (dC (.int 0)))) (dsSeq (dsAppM (dVar 1) (dBin gMod (dInt (dVar 3)) (dC (.int 30)))) (dsSet 3 (dBin gDiv (dVar 3) (dC (.int 30))))) (dsNext))) (dsSeq (dsSet 6 (dBin gMod (dInt (dBin gAdd (dBin gAdd (dBin gAdd (dBin gMul (dVar 3) (dC (.int 16807))) (dBin gMul (dVar 4) (dC (.int 911)))) (dBin gMul (dVar 2) (dC (.int 7919)))) (dC (.int 13)))) (dC (.int 2147483647)))) (dsFor (dRng1 (dC (.int 6))) (gtName 5) (dsSeq (dsSet 6 (dBin gMod (dInt (dBin gAdd (dBin gAdd (dBin gMul (dVar 6) (dC (.int 69621))) (dBin gDiv (dVar 6) (dC (.int 1000)))) (dVar 5))) (dC (.int 2147483647)))) (dsAppM (dVar 1) (dBin gDiv (dVar 6) (dC (.int 8)))))))))))) (dsSeq (dsFzM 1) (dsRet (dAmb (dLst (dCons (dC (.int 0)) (dCons (dVar 1) (dNil))))))))
def S__law_draws (K : Fg) : List D → M D := runF 7 (B__law_draws K)
abbrev N__law_draws : List Str := ["_law_script", "_law_numbers", "_law_at", "_law_cell", "_law_sign", "_law_turn", "_law_mixed"]
abbrev P__law_draws : List Str := ["_law_script"]
theorem sc__law_draws : FnScope N__law_draws P__law_draws (defScope (top 40)) := ⟨rfl, rfl, rfl, by decide +kernel, rfl, by decide +kernel, by decide +kernel⟩
set_option maxHeartbeats 4000000 in
theorem b__law_draws (F : Fx w K mg) : ∀ cdv A outer s H E, Room 0 (XB P w K mg base N__law_draws "_law_draws" (top 40) f cdv A outer s H E).A → DSs (XB P w K mg base N__law_draws "_law_draws" (top 40) f cdv A outer s H E) (WB E) (defBody (top 40)) (B__law_draws K) := by
  intro cdv A outer s H E hr
  have tk : Takes (XB P w K mg base N__law_draws "_law_draws" (top 40) f cdv A outer s H E) (WB E) := takes_of rfl rfl rfl rfl
  exact dss_cons (ds_set (i := 1) sc__law_draws.nd (de_amb (df_lst (da_nil)))) (dss_cons (ds_for (passes_of rfl) rfl (di_rng1 (de_min2 (de_len (dq_val (de_var 0)) F.fr_len) (de_int) rfl F.fr_min) F.fr_range) (dg_name 2 sc__law_draws.nd) (dss_cons (ds_set (i := 3) sc__law_draws.nd (de_intOf (de_ix (dq_val (de_var 0)) (de_var 2)) F.fr_int)) (dss_cons (ds_set (i := 4) sc__law_draws.nd (de_int)) (dss_cons (ds_if (dt_cmp od_lt (de_var 3) (de_int)) (dss_cons (ds_set (i := 4) sc__law_draws.nd (de_int)) (dss_one (ds_set (i := 3) sc__law_draws.nd (de_neg (de_var 3))))) (dss_nil)) (dss_one (ds_if (dt_cmp od_ge (de_var 3) (de_op od_pow (de_int) (de_int))) (dss_one (ds_for (passes_of rfl) rfl (di_rng1 (de_int) F.fr_range) (dg_name 5 sc__law_draws.nd) (dss_one (ds_if (dt_cmp od_gt (de_var 3) (de_int)) (dss_cons (ds_appM (de_var 1) (de_op od_mod (de_intOf (de_var 3) F.fr_int) (de_int))) (dss_one (ds_set (i := 3) sc__law_draws.nd (de_op od_div (de_var 3) (de_int))))) (dss_nil))))) (dss_cons (ds_set (i := 6) sc__law_draws.nd (de_op od_mod (de_intOf (de_op od_add (de_op od_add (de_op od_add (de_op od_mul (de_var 3) (de_int)) (de_op od_mul (de_var 4) (de_int))) (de_op od_mul (de_var 2) (de_int))) (de_int)) F.fr_int) (de_int))) (dss_one (ds_for (passes_of rfl) rfl (di_rng1 (de_int) F.fr_range) (dg_name 5 sc__law_draws.nd) (dss_cons (ds_set (i := 6) sc__law_draws.nd (de_op od_mod (de_intOf (de_op od_add (de_op od_add (de_op od_mul (de_var 6) (de_int)) (de_op od_div (de_var 6) (de_int))) (de_var 5)) F.fr_int) (de_int))) (dss_one (ds_appM (de_var 1) (de_op od_div (de_var 6) (de_int)))))))))))))) (dss_fzM 1 (dss_one (ds_ret (de_amb (df_lst (da_cons (de_int) (da_cons (de_var 1) (da_nil)))))))))
theorem k__law_draws (F : Fx w K mg) : Known P w K mg base "_law_draws" 1 1 (S__law_draws K) := by
  obtain ⟨fd, hf⟩ := F.fn__law_draws
  exact (known_of hf sc__law_draws F.gl__law_draws (fun_binds hf fun _ _ _ _ _ _ us hl => match us, hl with | [_], _ => rfl) rfl (b__law_draws F))

def B__law_take (K : Fg) : TO' := dsSeq (dsSet 2 (dIx (qVal (dVar 0)) (dC (.int 0)))) (dsSeq (dsIf (dTest (dBin gGe (dVar 2) (dLen (qVal (dIx (qVal (dVar 0)) (dC (.int 1))))))) (dsRet (dC (.int 0))) (dsNext)) (dsSeq (dsSetIxM (dBin gAdd (dVar 2) (dC (.int 1))) (dVar 0) (dC (.int 0))) (dsRet (dBin gMod (dInt (dIx (qVal (dIx (qVal (dVar 0)) (dC (.int 1)))) (dVar 2))) (dVar 1)))))
def S__law_take (K : Fg) : List D → M D := scopeF (runF 3 (B__law_take K))
abbrev N__law_take : List Str := ["_law_draws_here", "_law_many", "_law_at"]
abbrev P__law_take : List Str := ["_law_draws_here", "_law_many"]
theorem sc__law_take : FnScope N__law_take P__law_take (defScope (top 41)) := ⟨rfl, rfl, rfl, by decide +kernel, rfl, by decide +kernel, by decide +kernel⟩
set_option maxHeartbeats 4000000 in
theorem b__law_take (F : Fx w K mg) : ∀ cdv A outer s H E, Room 0 (XB P w K mg base N__law_take "_law_take" (top 41) f cdv A outer s H E).A → DSs (XB P w K mg base N__law_take "_law_take" (top 41) f cdv A outer s H E) (WB E) (defBody (top 41)) (B__law_take K) := by
  intro cdv A outer s H E hr
  have tk : Takes (XB P w K mg base N__law_take "_law_take" (top 41) f cdv A outer s H E) (WB E) := takes_of rfl rfl rfl rfl
  exact dss_cons (ds_set (i := 2) sc__law_take.nd (de_ix (dq_val (de_var 0)) (de_int))) (dss_cons (ds_if (dt_cmp od_ge (de_var 2) (de_len (dq_val (de_ix (dq_val (de_var 0)) (de_int))) F.fr_len)) (dss_one (ds_ret (de_int))) (dss_nil)) (dss_cons (ds_setIxM (de_op od_add (de_var 2) (de_int)) (de_var 0) (de_int)) (dss_one (ds_ret (de_op od_mod (de_intOf (de_ix (dq_val (de_ix (dq_val (de_var 0)) (de_int))) (de_var 2)) F.fr_int) (de_var 1))))))
theorem k__law_take (F : Fx w K mg) : Known P w K mg base "_law_take" 1 2 (S__law_take K) := by
  obtain ⟨fd, hf⟩ := F.fn__law_take
  exact (known_of hf sc__law_take F.gl__law_take (fun_binds hf fun _ _ _ _ _ _ us hl => match us, hl with | [_, _], _ => rfl) rfl (b__law_take F)).scope

def B__law_word (K : Fg) : TO' := dsSeq (dsSet 2 (dCall (S__law_take K) 2 (dCons (dVar 0) (dCons (dC (.int 30)) (dNil))))) (dsSeq (dsSet 3 (dCall (S__law_take K) 2 (dCons (dVar 0) (dCons (dC (.int 30)) (dNil))))) (dsSeq (dsSet 4 (dCall (S__law_take K) 2 (dCons (dVar 0) (dCons (dC (.int 5)) (dNil))))) (dsSeq (dsIf (dTest (dBin gEq (dVar 4) (dC (.int 1)))) (dsRet (dBin gMod (dInt (dBin gSub (dBin gSub (dC (.int 0)) (dC (.int 1))) (dBin gMod (dVar 3) (dC (.int 2))))) (dBin gShl (dC (.int 1)) (dVar 1)))) (dsNext)) (dsSeq (dsIf (dTest (dBin gEq (dVar 4) (dC (.int 2)))) (dsRet (dBin gMod (dVar 3) (dC (.int 3)))) (dsNext)) (dsRet (dBin gMod (dInt (dBin gAdd (dBin gMul (dVar 2) (dC (.int 30))) (dVar 3))) (dBin gShl (dC (.int 1)) (dVar 1))))))))
def S__law_word (K : Fg) : List D → M D := scopeF (runF 5 (B__law_word K))
abbrev N__law_word : List Str := ["_law_draws_here", "_law_width", "_law_high", "_law_low", "_law_special"]
abbrev P__law_word : List Str := ["_law_draws_here", "_law_width"]
theorem sc__law_word : FnScope N__law_word P__law_word (defScope (top 42)) := ⟨rfl, rfl, rfl, by decide +kernel, rfl, by decide +kernel, by decide +kernel⟩
set_option maxHeartbeats 4000000 in
theorem b__law_word (F : Fx w K mg) : ∀ cdv A outer s H E, Room 1 (XB P w K mg base N__law_word "_law_word" (top 42) f cdv A outer s H E).A → DSs (XB P w K mg base N__law_word "_law_word" (top 42) f cdv A outer s H E) (WB E) (defBody (top 42)) (B__law_word K) := by
  intro cdv A outer s H E hr
  have tk : Takes (XB P w K mg base N__law_word "_law_word" (top 42) f cdv A outer s H E) (WB E) := takes_of rfl rfl rfl rfl
  exact dss_cons (ds_set (i := 2) sc__law_word.nd (de_call (k__law_take F) (hr.mono (by decide : 1 ≤ _)) tk (da_cons (de_var 0) (da_cons (de_int) (da_nil))))) (dss_cons (ds_set (i := 3) sc__law_word.nd (de_call (k__law_take F) (hr.mono (by decide : 1 ≤ _)) tk (da_cons (de_var 0) (da_cons (de_int) (da_nil))))) (dss_cons (ds_set (i := 4) sc__law_word.nd (de_call (k__law_take F) (hr.mono (by decide : 1 ≤ _)) tk (da_cons (de_var 0) (da_cons (de_int) (da_nil))))) (dss_cons (ds_if (dt_cmp (od_eq hr.units) (de_var 4) (de_int)) (dss_one (ds_ret (de_op od_mod (de_intOf (de_op od_sub (de_op od_sub (de_int) (de_int)) (de_op od_mod (de_var 3) (de_int))) F.fr_int) (de_op od_shl (de_int) (de_var 1))))) (dss_nil)) (dss_cons (ds_if (dt_cmp (od_eq hr.units) (de_var 4) (de_int)) (dss_one (ds_ret (de_op od_mod (de_var 3) (de_int)))) (dss_nil)) (dss_one (ds_ret (de_op od_mod (de_intOf (de_op od_add (de_op od_mul (de_var 2) (de_int)) (de_var 3)) F.fr_int) (de_op od_shl (de_int) (de_var 1)))))))))
theorem k__law_word (F : Fx w K mg) : Known P w K mg base "_law_word" 2 2 (S__law_word K) := by
  obtain ⟨fd, hf⟩ := F.fn__law_word
  exact (known_of hf sc__law_word F.gl__law_word (fun_binds hf fun _ _ _ _ _ _ us hl => match us, hl with | [_, _], _ => rfl) rfl (b__law_word F)).scope

def B__law_ops (K : Fg) : TO' := dsRet (dFz (dLst (dCons (dC (.str "add")) (dCons (dC (.str "xor")) (dCons (dC (.str "sub")) (dCons (dC (.str "and")) (dCons (dC (.str "same")) (dCons (dC (.str "or")) (dCons (dC (.str "less")) (dNil))))))))))
def S__law_ops (K : Fg) : List D → M D := scopeF (runF 0 (B__law_ops K))
abbrev N__law_ops : List Str := []
abbrev P__law_ops : List Str := []
theorem sc__law_ops : FnScope N__law_ops P__law_ops (defScope (top 44)) := ⟨rfl, rfl, rfl, by decide +kernel, rfl, by decide +kernel, by decide +kernel⟩
set_option maxHeartbeats 4000000 in
theorem b__law_ops (F : Fx w K mg) : ∀ cdv A outer s H E, Room 0 (XB P w K mg base N__law_ops "_law_ops" (top 44) f cdv A outer s H E).A → DSs (XB P w K mg base N__law_ops "_law_ops" (top 44) f cdv A outer s H E) (WB E) (defBody (top 44)) (B__law_ops K) := by
  intro cdv A outer s H E hr
  have tk : Takes (XB P w K mg base N__law_ops "_law_ops" (top 44) f cdv A outer s H E) (WB E) := takes_of rfl rfl rfl rfl
  exact dss_one (ds_ret (de_fz (df_lst (da_cons (de_str) (da_cons (de_str) (da_cons (de_str) (da_cons (de_str) (da_cons (de_str) (da_cons (de_str) (da_cons (de_str) (da_nil)))))))))))
theorem k__law_ops (F : Fx w K mg) : Known P w K mg base "_law_ops" 1 0 (S__law_ops K) := by
  obtain ⟨fd, hf⟩ := F.fn__law_ops
  exact (known_of hf sc__law_ops F.gl__law_ops (fun_binds hf fun _ _ _ _ _ _ us hl => match us, hl with | [], _ => rfl) rfl (b__law_ops F)).scope

def B__law_drawn_middle (K : Fg) : TO' := dsSeq (dsSet 2 (dBin gSub (dBin gShl (dC (.int 1)) (dVar 1)) (dC (.int 1)))) (dsSeq (dsSet 3 (dAmb (dLst (dCons (dTup (dCons (dC (.str "get")) (dCons (dC (.int 0)) (dNil)))) (dCons (dTup (dCons (dC (.str "get")) (dCons (dC (.int 1)) (dNil)))) (dCons (dTup (dCons (dC (.str "num")) (dCons (dCall (S__law_word K) 2 (dCons (dVar 0) (dCons (dVar 1) (dNil)))) (dNil)))) (dNil))))))) (dsSeq (dsSet 4 (dAmb (dLst (dCons (dC (.int 0)) (dCons (dC (.int 1)) (dCons (dC (.int 2)) (dNil))))))) (dsSeq (dsSet 5 (dAmb (dLst (dCons (dFz (dLst (dCons (dC (.int 2)) (dCons (dC (.int 0)) (dCons (dC (.int 1)) (dNil)))))) (dNil))))) (dsSeq (dsSet 6 (dIx (qVal (dFz (dLst (dCons (dC (.int 1)) (dCons (dC (.int 2)) (dCons (dC (.int 3)) (dNil))))))) (dCall (S__law_take K) 2 (dCons (dVar 0) (dCons (dC (.int 3)) (dNil)))))) (dsSeq (dsFor (dRng1 (dVar 6)) (gtName 7) (dsSeq (dsFor (dRng1 (dBin gAdd (dC (.int 1)) (dCall (S__law_take K) 2 (dCons (dVar 0) (dCons (dC (.int 8)) (dNil)))))) (gtName 8) (dsSeq (dsSet 9 (dIx (qVal (dVar 4)) (dBin gSub (dBin gSub (dLen (qVal (dVar 4))) (dC (.int 1))) (dCall (S__law_take K) 2 (dCons (dVar 0) (dCons (dMin2 (dC (.int 4)) (dLen (qVal (dVar 4)))) (dNil))))))) (dsSeq (dsSet 10 (dIx (qVal (dVar 4)) (dCall (S__law_take K) 2 (dCons (dVar 0) (dCons (dLen (qVal (dVar 4))) (dNil)))))) (dsSeq (dsSet 11 (dCall (S__law_take K) 2 (dCons (dVar 0) (dCons (dC (.int 16)) (dNil))))) (dsSeq (dsIf (dOr (dTest (dBin gEq (dVar 11) (dC (.int 0)))) (dOr (dTest (dBin gEq (dVar 11) (dC (.int 8)))) (dTest (dBin gEq (dVar 11) (dC (.int 9)))))) (dsAppM (dVar 3) (dTup (dCons (dC (.str "num")) (dCons (dIx (qVal (dFz (dLst (dCons (dC (.int 0)) (dCons (dVar 2) (dCons (dC (.int 1)) (dCons (dC (.int 2)) (dNil)))))))) (dCall (S__law_take K) 2 (dCons (dVar 0) (dCons (dC (.int 4)) (dNil))))) (dNil))))) (dsIf (dOr (dTest (dBin gEq (dVar 11) (dC (.int 1)))) (dTest (dBin gEq (dVar 11) (dC (.int 10))))) (dsAppM (dVar 3) (dTup (dCons (dC (.str "must")) (dCons (dVar 9) (dCons (dBin gAdd (dC (.int 12)) (dCall (S__law_take K) 2 (dCons (dVar 0) (dCons (dC (.int 4)) (dNil))))) (dNil)))))) (dsIf (dOr (dTest (dBin gEq (dVar 11) (dC (.int 2)))) (dTest (dBin gEq (dVar 11) (dC (.int 11))))) (dsAppM (dVar 3) (dTup (dCons (dC (.str "keep")) (dCons (dVar 9) (dCons (dIx (qVal (dFz (dLst (dCons (dC (.int 0)) (dCons (dVar 2) (dCons (dC (.int 1)) (dCons (dC (.int 2)) (dNil)))))))) (dCall (S__law_take K) 2 (dCons (dVar 0) (dCons (dC (.int 4)) (dNil))))) (dNil)))))) (dsIf (dTest (dBin gEq (dVar 11) (dC (.int 3)))) (dsAppM (dVar 3) (dTup (dCons (dC (.str "read")) (dCons (dVar 9) (dNil))))) (dsIf (dTest (dBin gEq (dVar 11) (dC (.int 4)))) (dsAppM (dVar 3) (dTup (dCons (dC (.str "write")) (dCons (dVar 9) (dCons (dVar 10) (dNil)))))) (dsIf (dTest (dBin gEq (dVar 11) (dC (.int 5)))) (dsAppM (dVar 3) (dTup (dCons (dC (.str "out")) (dCons (dIx (qVal (dFz (dLst (dCons (dC (.int 0)) (dCons (dC (.int 9)) (dCons (dC (.int 5)) (dNil))))))) (dCall (S__law_take K) 2 (dCons (dVar 0) (dCons (dC (.int 3)) (dNil))))) (dCons (dVar 9) (dNil)))))) (dsIf (dTest (dBin gEq (dVar 11) (dC (.int 6)))) (dsAppM (dVar 3) (dTup (dCons (dC (.str "in")) (dCons (dCall (S__law_take K) 2 (dCons (dVar 0) (dCons (dC (.int 6)) (dNil)))) (dNil))))) (dsAppM (dVar 3) (dTup (dCons (dIx (qVal (dCall0 (S__law_ops K))) (dCall (S__law_take K) 2 (dCons (dVar 0) (dCons (dC (.int 7)) (dNil))))) (dCons (dVar 9) (dCons (dVar 10) (dNil))))))))))))) (dsIf (dTest (dIn true (dIx (qVal (dIx (qVal (dVar 3)) (dBin gSub (dLen (qVal (dVar 3))) (dC (.int 1))))) (dC (.int 0))) (qVal (dTup (dCons (dC (.str "must")) (dCons (dC (.str "keep")) (dCons (dC (.str "write")) (dCons (dC (.str "out")) (dNil))))))))) (dsAppM (dVar 4) (dBin gSub (dLen (qVal (dVar 3))) (dC (.int 1)))) (dsNext))))))) (dsSeq (dsSet 12 (dFz (dLc [13] (dRng1 (dC (.int 3))) (gtName 13) (dYes) (dIx (qVal (dVar 4)) (dBin gSub (dBin gSub (dLen (qVal (dVar 4))) (dC (.int 1))) (dCall (S__law_take K) 2 (dCons (dVar 0) (dCons (dLen (qVal (dVar 4))) (dNil))))))))) (dsSeq (dsAppM (dVar 5) (dVar 12)) (dsAppM (dVar 3) (dIfE (dTest (dBin gEq (dVar 7) (dBin gSub (dVar 6) (dC (.int 1))))) (dTup (dCons (dC (.str "end")) (dNil))) (dTup (dCons (dC (.str "tick")) (dNil))))))))) (dsSeq (dsFzM 3) (dsSeq (dsFzM 5) (dsRet (dFz (dLst (dCons (dVar 3) (dCons (dVar 5) (dNil)))))))))))))
def S__law_drawn_middle (K : Fg) : List D → M D := scopeF (runF 14 (B__law_drawn_middle K))
abbrev N__law_drawn_middle : List Str := ["_law_draws_here", "_law_word_here", "_law_top", "_law_lines", "_law_spots", "_law_marks", "_law_parts", "_law_part", "_law_turn", "_law_one", "_law_other", "_law_kind", "_law_mark", "_law_place"]
abbrev P__law_drawn_middle : List Str := ["_law_draws_here", "_law_word_here"]
theorem sc__law_drawn_middle : FnScope N__law_drawn_middle P__law_drawn_middle (defScope (top 48)) := ⟨rfl, rfl, rfl, by decide +kernel, rfl, by decide +kernel, by decide +kernel⟩
set_option maxHeartbeats 4000000 in
theorem b__law_drawn_middle (F : Fx w K mg) : ∀ cdv A outer s H E, Room 2 (XB P w K mg base N__law_drawn_middle "_law_drawn_middle" (top 48) f cdv A outer s H E).A → DSs (XB P w K mg base N__law_drawn_middle "_law_drawn_middle" (top 48) f cdv A outer s H E) (WB E) (defBody (top 48)) (B__law_drawn_middle K) := by
  intro cdv A outer s H E hr
  have tk : Takes (XB P w K mg base N__law_drawn_middle "_law_drawn_middle" (top 48) f cdv A outer s H E) (WB E) := takes_of rfl rfl rfl rfl
  exact dss_cons (ds_set (i := 2) sc__law_drawn_middle.nd (de_op od_sub (de_op od_shl (de_int) (de_var 1)) (de_int))) (dss_cons (ds_set (i := 3) sc__law_drawn_middle.nd (de_amb (df_lst (da_cons (de_tup (da_cons (de_str) (da_cons (de_int) (da_nil)))) (da_cons (de_tup (da_cons (de_str) (da_cons (de_int) (da_nil)))) (da_cons (de_tup (da_cons (de_str) (da_cons (de_call (k__law_word F) (hr.mono (by decide : 2 ≤ _)) tk (da_cons (de_var 0) (da_cons (de_var 1) (da_nil)))) (da_nil)))) (da_nil))))))) (dss_cons (ds_set (i := 4) sc__law_drawn_middle.nd (de_amb (df_lst (da_cons (de_int) (da_cons (de_int) (da_cons (de_int) (da_nil))))))) (dss_cons (ds_set (i := 5) sc__law_drawn_middle.nd (de_amb (df_lst (da_cons (de_fz (df_lst (da_cons (de_int) (da_cons (de_int) (da_cons (de_int) (da_nil)))))) (da_nil))))) (dss_cons (ds_set (i := 6) sc__law_drawn_middle.nd (de_ix (dq_val (de_fz (df_lst (da_cons (de_int) (da_cons (de_int) (da_cons (de_int) (da_nil))))))) (de_call (k__law_take F) (hr.mono (by decide : 1 ≤ _)) tk (da_cons (de_var 0) (da_cons (de_int) (da_nil)))))) (dss_cons (ds_for (passes_of rfl) rfl (di_rng1 (de_var 6) F.fr_range) (dg_name 7 sc__law_drawn_middle.nd) (dss_cons (ds_for (passes_of rfl) rfl (di_rng1 (de_op od_add (de_int) (de_call (k__law_take F) (hr.mono (by decide : 1 ≤ _)) tk (da_cons (de_var 0) (da_cons (de_int) (da_nil))))) F.fr_range) (dg_name 8 sc__law_drawn_middle.nd) (dss_cons (ds_set (i := 9) sc__law_drawn_middle.nd (de_ix (dq_val (de_var 4)) (de_op od_sub (de_op od_sub (de_len (dq_val (de_var 4)) F.fr_len) (de_int)) (de_call (k__law_take F) (hr.mono (by decide : 1 ≤ _)) tk (da_cons (de_var 0) (da_cons (de_min2 (de_int) (de_len (dq_val (de_var 4)) F.fr_len) rfl F.fr_min) (da_nil))))))) (dss_cons (ds_set (i := 10) sc__law_drawn_middle.nd (de_ix (dq_val (de_var 4)) (de_call (k__law_take F) (hr.mono (by decide : 1 ≤ _)) tk (da_cons (de_var 0) (da_cons (de_len (dq_val (de_var 4)) F.fr_len) (da_nil)))))) (dss_cons (ds_set (i := 11) sc__law_drawn_middle.nd (de_call (k__law_take F) (hr.mono (by decide : 1 ≤ _)) tk (da_cons (de_var 0) (da_cons (de_int) (da_nil))))) (dss_cons (ds_if (dt_w (dw_or (dt_cmp (od_eq hr.units) (de_var 11) (de_int)) (dw_or (dt_cmp (od_eq hr.units) (de_var 11) (de_int)) (dw_or1 (dt_cmp (od_eq hr.units) (de_var 11) (de_int)))))) (dss_one (ds_appM (de_var 3) (de_tup (da_cons (de_str) (da_cons (de_ix (dq_val (de_fz (df_lst (da_cons (de_int) (da_cons (de_var 2) (da_cons (de_int) (da_cons (de_int) (da_nil)))))))) (de_call (k__law_take F) (hr.mono (by decide : 1 ≤ _)) tk (da_cons (de_var 0) (da_cons (de_int) (da_nil))))) (da_nil)))))) (dss_one (ds_if (dt_w (dw_or (dt_cmp (od_eq hr.units) (de_var 11) (de_int)) (dw_or1 (dt_cmp (od_eq hr.units) (de_var 11) (de_int))))) (dss_one (ds_appM (de_var 3) (de_tup (da_cons (de_str) (da_cons (de_var 9) (da_cons (de_op od_add (de_int) (de_call (k__law_take F) (hr.mono (by decide : 1 ≤ _)) tk (da_cons (de_var 0) (da_cons (de_int) (da_nil))))) (da_nil))))))) (dss_one (ds_if (dt_w (dw_or (dt_cmp (od_eq hr.units) (de_var 11) (de_int)) (dw_or1 (dt_cmp (od_eq hr.units) (de_var 11) (de_int))))) (dss_one (ds_appM (de_var 3) (de_tup (da_cons (de_str) (da_cons (de_var 9) (da_cons (de_ix (dq_val (de_fz (df_lst (da_cons (de_int) (da_cons (de_var 2) (da_cons (de_int) (da_cons (de_int) (da_nil)))))))) (de_call (k__law_take F) (hr.mono (by decide : 1 ≤ _)) tk (da_cons (de_var 0) (da_cons (de_int) (da_nil))))) (da_nil))))))) (dss_one (ds_if (dt_cmp (od_eq hr.units) (de_var 11) (de_int)) (dss_one (ds_appM (de_var 3) (de_tup (da_cons (de_str) (da_cons (de_var 9) (da_nil)))))) (dss_one (ds_if (dt_cmp (od_eq hr.units) (de_var 11) (de_int)) (dss_one (ds_appM (de_var 3) (de_tup (da_cons (de_str) (da_cons (de_var 9) (da_cons (de_var 10) (da_nil))))))) (dss_one (ds_if (dt_cmp (od_eq hr.units) (de_var 11) (de_int)) (dss_one (ds_appM (de_var 3) (de_tup (da_cons (de_str) (da_cons (de_ix (dq_val (de_fz (df_lst (da_cons (de_int) (da_cons (de_int) (da_cons (de_int) (da_nil))))))) (de_call (k__law_take F) (hr.mono (by decide : 1 ≤ _)) tk (da_cons (de_var 0) (da_cons (de_int) (da_nil))))) (da_cons (de_var 9) (da_nil))))))) (dss_one (ds_if (dt_cmp (od_eq hr.units) (de_var 11) (de_int)) (dss_one (ds_appM (de_var 3) (de_tup (da_cons (de_str) (da_cons (de_call (k__law_take F) (hr.mono (by decide : 1 ≤ _)) tk (da_cons (de_var 0) (da_cons (de_int) (da_nil)))) (da_nil)))))) (dss_one (ds_appM (de_var 3) (de_tup (da_cons (de_ix (dq_val (de_call0n (k__law_ops F) (hr.mono (by decide : 1 ≤ _)))) (de_call (k__law_take F) (hr.mono (by decide : 1 ≤ _)) tk (da_cons (de_var 0) (da_cons (de_int) (da_nil))))) (da_cons (de_var 9) (da_cons (de_var 10) (da_nil)))))))))))))))))))) (dss_one (ds_if (dt_notIn (de_ix (dq_val (de_ix (dq_val (de_var 3)) (de_op od_sub (de_len (dq_val (de_var 3)) F.fr_len) (de_int)))) (de_int)) (dq_val (de_tup (da_cons (de_str) (da_cons (de_str) (da_cons (de_str) (da_cons (de_str) (da_nil)))))))) (dss_one (ds_appM (de_var 4) (de_op od_sub (de_len (dq_val (de_var 3)) F.fr_len) (de_int)))) (dss_nil)))))))) (dss_cons (ds_setLc (i := 12) (own := [("_law_place", 13)]) rfl sc__law_drawn_middle.nd (di_rng1 (de_int) F.fr_range) (blkOk_by (by rfl)) (fun _ _ _ _ _ => dg_name 13 sc__law_drawn_middle.nd) (fun _ _ _ _ _ => dts_nil) (fun _ _ _ _ _ => de_ix (dq_val (de_var 4)) (de_op od_sub (de_op od_sub (de_len (dq_val (de_var 4)) F.fr_len) (de_int)) (de_call (k__law_take F) (hr.mono (by decide : 1 ≤ _)) takesF (da_cons (de_var 0) (da_cons (de_len (dq_val (de_var 4)) F.fr_len) (da_nil)))))) (by rfl)) (dss_cons (ds_appM (de_var 5) (de_var 12)) (dss_one (ds_appM (de_var 3) (de_if (dt_cmp (od_eq hr.units) (de_var 7) (de_op od_sub (de_var 6) (de_int))) (de_tup (da_cons (de_str) (da_nil))) (de_tup (da_cons (de_str) (da_nil)))))))))) (dss_fzM 3 (dss_fzM 5 (dss_one (ds_ret (de_fz (df_lst (da_cons (de_var 3) (da_cons (de_var 5) (da_nil))))))))))))))
theorem k__law_drawn_middle (F : Fx w K mg) : Known P w K mg base "_law_drawn_middle" 3 2 (S__law_drawn_middle K) := by
  obtain ⟨fd, hf⟩ := F.fn__law_drawn_middle
  exact (known_of hf sc__law_drawn_middle F.gl__law_drawn_middle (fun_binds hf fun _ _ _ _ _ _ us hl => match us, hl with | [_, _], _ => rfl) rfl (b__law_drawn_middle F)).scope

def B_Middle_init (K : Fg) : TO' := dsSeq (dsFld [He.ga K "Middle"] "lines" (dTupOf (qVal (dFz (dLcJ [3] (dSrc (dVar 1)) (gtName 3) (dYes) (dTupOf (qVal (dVar 3))))))) (dVar 0)) (dsFld [He.ga K "Middle"] "marks" (dTupOf (qVal (dFz (dLcJ [4] (dSrc (dVar 2)) (gtName 4) (dYes) (dTupOf (qVal (dVar 4))))))) (dVar 0))
def S_Middle_init (K : Fg) : List D → M D := scopeF (runF 5 (B_Middle_init K))
abbrev N_Middle_init : List Str := ["self", "lines", "marks", "line", "mark"]
abbrev P_Middle_init : List Str := ["self", "lines", "marks"]
theorem sc_Middle_init : FnScope N_Middle_init P_Middle_init (defScope (inClass (top 18) 0)) := ⟨rfl, rfl, rfl, by decide +kernel, rfl, by decide +kernel, by decide +kernel⟩
set_option maxHeartbeats 4000000 in
theorem b_Middle_init (F : Fx w K mg) : ∀ cdv A outer s H E, Room 0 (XB P w K mg base N_Middle_init "Middle.__init__" (inClass (top 18) 0) f cdv A outer s H E).A → DSs (XB P w K mg base N_Middle_init "Middle.__init__" (inClass (top 18) 0) f cdv A outer s H E) (WB E) (defBody (inClass (top 18) 0)) (B_Middle_init K) := by
  intro cdv A outer s H E hr
  have tk : Takes (XB P w K mg base N_Middle_init "Middle.__init__" (inClass (top 18) 0) f cdv A outer s H E) (WB E) := takes_of rfl rfl rfl rfl
  exact dss_cons (ds_fld (S := [He.ga K "Middle"]) F.fld_Middle_lines (de_tupOf (dq_val (de_fz (df_lcJ (own := [("line", 3)]) rfl sc_Middle_init.nd (dj_seq (de_var 1)) (blkOk_by (by rfl)) (fun _ _ _ _ _ => dg_name 3 sc_Middle_init.nd) (fun _ _ _ _ _ => dts_nil) (fun _ _ _ _ _ => de_tupOf (dq_val (de_var 3)) F.fr_tuple)))) F.fr_tuple) (de_var 0)) (dss_one (ds_fld (S := [He.ga K "Middle"]) F.fld_Middle_marks (de_tupOf (dq_val (de_fz (df_lcJ (own := [("mark", 4)]) rfl sc_Middle_init.nd (dj_seq (de_var 2)) (blkOk_by (by rfl)) (fun _ _ _ _ _ => dg_name 4 sc_Middle_init.nd) (fun _ _ _ _ _ => dts_nil) (fun _ _ _ _ _ => de_tupOf (dq_val (de_var 4)) F.fr_tuple)))) F.fr_tuple) (de_var 0)))
theorem k_Middle_init (F : Fx w K mg) : KnownC P w K mg base "Middle" (He.ga K "Middle") 1 3 (S_Middle_init K) := by
  obtain ⟨fd, hf⟩ := F.fn_Middle_init
  have h : KnownC P w K mg base "Middle" (He.ga K "Middle") 1 3 (runF 5 (B_Middle_init K)) := ⟨F.gl_Middle, _, fd, _, F.mk_Middle, fun_binds hf fun _ _ _ _ _ _ us hl => match us, hl with | [_, _, _], _ => rfl, rfl, fnOk_of hf sc_Middle_init rfl (b_Middle_init F)⟩
  exact h.scope

def B__law_is (K : Fg) : TO' := dsSeq (dsIf (dOr (dNot (dTruth (dIsi (owns K) (kits K) (dVar 0) (dC (.ref (He.ga K "Middle")))))) (dTest (dBin gNe (dFld [He.ga K "Middle"] "lines" (dVar 0)) (dTupOf (qVal (dIx (qVal (dVar 1)) (dC (.int 0)))))))) (dsRet (dC (.bl false))) (dsNext)) (dsRet (dBin gEq (dFld [He.ga K "Middle"] "marks" (dVar 0)) (dTupOf (qVal (dFz (dLc [2] (dIter (dIx (qVal (dVar 1)) (dC (.int 1)))) (gtName 2) (dYes) (dTupOf (qVal (dVar 2)))))))))
def S__law_is (K : Fg) : List D → M D := scopeF (runF 3 (B__law_is K))
abbrev N__law_is : List Str := ["_law_told", "_law_row", "_law_mark"]
abbrev P__law_is : List Str := ["_law_told", "_law_row"]
theorem sc__law_is : FnScope N__law_is P__law_is (defScope (top 58)) := ⟨rfl, rfl, rfl, by decide +kernel, rfl, by decide +kernel, by decide +kernel⟩
set_option maxHeartbeats 4000000 in
theorem b__law_is (F : Fx w K mg) : ∀ cdv A outer s H E, Room 0 (XB P w K mg base N__law_is "_law_is" (top 58) f cdv A outer s H E).A → DSs (XB P w K mg base N__law_is "_law_is" (top 58) f cdv A outer s H E) (WB E) (defBody (top 58)) (B__law_is K) := by
  intro cdv A outer s H E hr
  have tk : Takes (XB P w K mg base N__law_is "_law_is" (top 58) f cdv A outer s H E) (WB E) := takes_of rfl rfl rfl rfl
  exact dss_cons (ds_if (dt_w (dw_or (dt_not (dt_truth (de_isi F.own F.kit (de_var 0) ((de_glob (d := .ref (He.ga K "Middle")) F.gl_Middle rfl rfl)) F.fr_isinstance))) (dw_or1 (dt_cmp (od_ne hr.units) (de_fld (S := [He.ga K "Middle"]) (F.fld_Middle_lines) (de_var 0)) (de_tupOf (dq_val (de_ix (dq_val (de_var 1)) (de_int))) F.fr_tuple))))) (dss_one (ds_ret (de_bl))) (dss_nil)) (dss_one (ds_ret (de_cmp (od_eq hr.units) (de_fld (S := [He.ga K "Middle"]) (F.fld_Middle_marks) (de_var 0)) (de_tupOf (dq_val (de_fz (df_lc (own := [("_law_mark", 2)]) rfl sc__law_is.nd (di_seq (de_ix (dq_val (de_var 1)) (de_int))) (blkOk_by (by rfl)) (fun _ _ _ _ _ => dg_name 2 sc__law_is.nd) (fun _ _ _ _ _ => dts_nil) (fun _ _ _ _ _ => de_tupOf (dq_val (de_var 2)) F.fr_tuple)))) F.fr_tuple))))
theorem k__law_is (F : Fx w K mg) : Known P w K mg base "_law_is" 1 2 (S__law_is K) := by
  obtain ⟨fd, hf⟩ := F.fn__law_is
  exact (known_of hf sc__law_is F.gl__law_is (fun_binds hf fun _ _ _ _ _ _ us hl => match us, hl with | [_, _], _ => rfl) rfl (b__law_is F)).scope

def B_Middle_eq (K : Fg) : TO' := dsRet (dAndV (dIsi (owns K) (kits K) (dVar 1) (dC (.ref (He.ga K "Middle")))) (dAndV (dBin gEq (dFld [He.ga K "Middle"] "lines" (dVar 0)) (dFld [He.ga K "Middle"] "lines" (dVar 1))) (dBin gEq (dFld [He.ga K "Middle"] "marks" (dVar 0)) (dFld [He.ga K "Middle"] "marks" (dVar 1)))))
def S_Middle_eq (K : Fg) : List D → M D := scopeF (runF 2 (B_Middle_eq K))
abbrev N_Middle_eq : List Str := ["self", "other"]
abbrev P_Middle_eq : List Str := ["self", "other"]
theorem sc_Middle_eq : FnScope N_Middle_eq P_Middle_eq (defScope (inClass (top 18) 1)) := ⟨rfl, rfl, rfl, by decide +kernel, rfl, by decide +kernel, by decide +kernel⟩
set_option maxHeartbeats 4000000 in
theorem b_Middle_eq (F : Fx w K mg) : ∀ cdv A outer s H E, Room 0 (XB P w K mg base N_Middle_eq "Middle.__eq__" (inClass (top 18) 1) f cdv A outer s H E).A → DSs (XB P w K mg base N_Middle_eq "Middle.__eq__" (inClass (top 18) 1) f cdv A outer s H E) (WB E) (defBody (inClass (top 18) 1)) (B_Middle_eq K) := by
  intro cdv A outer s H E hr
  have tk : Takes (XB P w K mg base N_Middle_eq "Middle.__eq__" (inClass (top 18) 1) f cdv A outer s H E) (WB E) := takes_of rfl rfl rfl rfl
  exact dss_one (ds_ret (de_and (de_isi F.own F.kit (de_var 1) ((de_glob (d := .ref (He.ga K "Middle")) F.gl_Middle rfl rfl)) F.fr_isinstance) (de_and (de_cmp (od_eq hr.units) (de_fld (S := [He.ga K "Middle"]) (F.fld_Middle_lines) (de_var 0)) (de_fld (S := [He.ga K "Middle"]) (F.fld_Middle_lines) (de_var 1))) (de_one (de_cmp (od_eq hr.units) (de_fld (S := [He.ga K "Middle"]) (F.fld_Middle_marks) (de_var 0)) (de_fld (S := [He.ga K "Middle"]) (F.fld_Middle_marks) (de_var 1)))))))
theorem k_Middle_eq (F : Fx w K mg) : KnownEq P w K mg base (He.ga K "Middle") 1 (S_Middle_eq K) := by
  obtain ⟨fd, hf⟩ := F.fn_Middle_eq
  exact ⟨F.eqi_Middle, _, fd, _, F.eqf_Middle, F.eqn_Middle, fun_binds hf fun _ _ _ _ _ _ us hl => match us, hl with | [_, _], _ => rfl, (fnOk_of hf sc_Middle_eq rfl (b_Middle_eq F)).imp spD_scope⟩

def B__law_names_of (K : Fg) : TO' := dsSeq (dsIf (dOr (dTest (dIn false (dIx (qVal (dVar 0)) (dC (.int 0))) (qVal (dCall0 (S__law_ops K))))) (dTest (dBin gEq (dIx (qVal (dVar 0)) (dC (.int 0))) (dC (.str "write"))))) (dsRet (dFz (dLst (dCons (dIx (qVal (dVar 0)) (dC (.int 1))) (dCons (dIx (qVal (dVar 0)) (dC (.int 2))) (dNil)))))) (dsNext)) (dsSeq (dsIf (dTest (dIn false (dIx (qVal (dVar 0)) (dC (.int 0))) (qVal (dTup (dCons (dC (.str "read")) (dCons (dC (.str "must")) (dCons (dC (.str "keep")) (dNil)))))))) (dsRet (dFz (dLst (dCons (dIx (qVal (dVar 0)) (dC (.int 1))) (dNil))))) (dsNext)) (dsSeq (dsIf (dTest (dBin gEq (dIx (qVal (dVar 0)) (dC (.int 0))) (dC (.str "out")))) (dsRet (dFz (dLst (dCons (dIx (qVal (dVar 0)) (dC (.int 2))) (dNil))))) (dsNext)) (dsRet (dFz (dLst (dNil))))))
def S__law_names_of (K : Fg) : List D → M D := scopeF (runF 1 (B__law_names_of K))
abbrev N__law_names_of : List Str := ["_law_line"]
abbrev P__law_names_of : List Str := ["_law_line"]
theorem sc__law_names_of : FnScope N__law_names_of P__law_names_of (defScope (top 45)) := ⟨rfl, rfl, rfl, by decide +kernel, rfl, by decide +kernel, by decide +kernel⟩
set_option maxHeartbeats 4000000 in
theorem b__law_names_of (F : Fx w K mg) : ∀ cdv A outer s H E, Room 1 (XB P w K mg base N__law_names_of "_law_names_of" (top 45) f cdv A outer s H E).A → DSs (XB P w K mg base N__law_names_of "_law_names_of" (top 45) f cdv A outer s H E) (WB E) (defBody (top 45)) (B__law_names_of K) := by
  intro cdv A outer s H E hr
  have tk : Takes (XB P w K mg base N__law_names_of "_law_names_of" (top 45) f cdv A outer s H E) (WB E) := takes_of rfl rfl rfl rfl
  exact dss_cons (ds_if (dt_w (dw_or (dt_in (de_ix (dq_val (de_var 0)) (de_int)) (dq_val (de_call0n (k__law_ops F) (hr.mono (by decide : 1 ≤ _))))) (dw_or1 (dt_cmp (od_eq hr.units) (de_ix (dq_val (de_var 0)) (de_int)) (de_str))))) (dss_one (ds_ret (de_fz (df_lst (da_cons (de_ix (dq_val (de_var 0)) (de_int)) (da_cons (de_ix (dq_val (de_var 0)) (de_int)) (da_nil))))))) (dss_nil)) (dss_cons (ds_if (dt_in (de_ix (dq_val (de_var 0)) (de_int)) (dq_val (de_tup (da_cons (de_str) (da_cons (de_str) (da_cons (de_str) (da_nil))))))) (dss_one (ds_ret (de_fz (df_lst (da_cons (de_ix (dq_val (de_var 0)) (de_int)) (da_nil)))))) (dss_nil)) (dss_cons (ds_if (dt_cmp (od_eq hr.units) (de_ix (dq_val (de_var 0)) (de_int)) (de_str)) (dss_one (ds_ret (de_fz (df_lst (da_cons (de_ix (dq_val (de_var 0)) (de_int)) (da_nil)))))) (dss_nil)) (dss_one (ds_ret (de_fz (df_lst (da_nil)))))))
theorem k__law_names_of (F : Fx w K mg) : Known P w K mg base "_law_names_of" 2 1 (S__law_names_of K) := by
  obtain ⟨fd, hf⟩ := F.fn__law_names_of
  exact (known_of hf sc__law_names_of F.gl__law_names_of (fun_binds hf fun _ _ _ _ _ _ us hl => match us, hl with | [_], _ => rfl) rfl (b__law_names_of F)).scope

def B__law_now (K : Fg) : TO' := dsSeq (dsSet 1 (dCall0 (S__law_ops K))) (dsSeq (dsSetO 2 (dLc [6] (dIter (dVar 0)) (gtName 6) (dYes) (dIn true (dIx (qVal (dVar 6)) (dC (.int 0))) (qVal (dFz (dCat (qVal (dVar 1)) (qVal (dFz (dLst (dCons (dC (.str "get")) (dCons (dC (.str "num")) (dNil)))))))))))) (dsSeq (dsAmb 2) (dsSeq (dsFor (dRng1 (dLen (qVal (dVar 0)))) (gtName 3) (dsSeq (dsSet 4 (dBin gSub (dBin gSub (dLen (qVal (dVar 0))) (dC (.int 1))) (dVar 3))) (dsIf (dOr (dTruth (dIx (qVal (dVar 2)) (dVar 4))) (dTest (dIn false (dIx (qVal (dIx (qVal (dVar 0)) (dVar 4))) (dC (.int 0))) (qVal (dTup (dCons (dC (.str "read")) (dCons (dC (.str "must")) (dCons (dC (.str "write")) (dCons (dC (.str "out")) (dCons (dC (.str "keep")) (dNil))))))))))) (dsFor (dIter (dCall (S__law_names_of K) 1 (dCons (dIx (qVal (dVar 0)) (dVar 4)) (dNil)))) (gtName 5) (dsSetIxM (dC (.bl true)) (dVar 2) (dVar 5))) (dsNext)))) (dsSeq (dsFzM 2) (dsRet (dVar 2))))))
def S__law_now (K : Fg) : List D → M D := scopeF (runF 7 (B__law_now K))
abbrev N__law_now : List Str := ["_law_lines", "_law_ops_here", "_law_now_here", "_law_back", "_law_at", "_law_index", "_law_line"]
abbrev P__law_now : List Str := ["_law_lines"]
theorem sc__law_now : FnScope N__law_now P__law_now (defScope (top 46)) := ⟨rfl, rfl, rfl, by decide +kernel, rfl, by decide +kernel, by decide +kernel⟩
set_option maxHeartbeats 4000000 in
theorem b__law_now (F : Fx w K mg) : ∀ cdv A outer s H E, Room 2 (XB P w K mg base N__law_now "_law_now" (top 46) f cdv A outer s H E).A → DSs (XB P w K mg base N__law_now "_law_now" (top 46) f cdv A outer s H E) (WB E) (defBody (top 46)) (B__law_now K) := by
  intro cdv A outer s H E hr
  have tk : Takes (XB P w K mg base N__law_now "_law_now" (top 46) f cdv A outer s H E) (WB E) := takes_of rfl rfl rfl rfl
  exact dss_cons (ds_set (i := 1) sc__law_now.nd (de_call0n (k__law_ops F) (hr.mono (by decide : 1 ≤ _)))) (dss_cons (ds_setOLc (i := 2) (own := [("_law_line", 6)]) rfl sc__law_now.nd (di_seq (de_var 0)) (blkOk_by (by rfl)) (fun _ _ _ _ _ => dg_name 6 sc__law_now.nd) (fun _ _ _ _ _ => dts_nil) (fun _ _ _ _ _ => de_notIn (de_ix (dq_val (de_var 6)) (de_int)) (dq_val (de_fz (df_cat (dq_val (de_var 1)) (dq_val (de_fz (df_lst (da_cons (de_str) (da_cons (de_str) (da_nil)))))))))) (by rfl)) (dss_amb 2 (dss_cons (ds_for (passes_of rfl) rfl (di_rng1 (de_len (dq_val (de_var 0)) F.fr_len) F.fr_range) (dg_name 3 sc__law_now.nd) (dss_cons (ds_set (i := 4) sc__law_now.nd (de_op od_sub (de_op od_sub (de_len (dq_val (de_var 0)) F.fr_len) (de_int)) (de_var 3))) (dss_one (ds_if (dt_w (dw_or (dt_truth (de_ix (dq_val (de_var 2)) (de_var 4))) (dw_or1 (dt_in (de_ix (dq_val (de_ix (dq_val (de_var 0)) (de_var 4))) (de_int)) (dq_val (de_tup (da_cons (de_str) (da_cons (de_str) (da_cons (de_str) (da_cons (de_str) (da_cons (de_str) (da_nil)))))))))))) (dss_one (ds_for (passes_of rfl) rfl (di_seq (de_call (k__law_names_of F) (hr.mono (by decide : 2 ≤ _)) tk (da_cons (de_ix (dq_val (de_var 0)) (de_var 4)) (da_nil)))) (dg_name 5 sc__law_now.nd) (dss_one (ds_setIxM (de_bl) (de_var 2) (de_var 5))))) (dss_nil))))) (dss_fzM 2 (dss_one (ds_ret (de_var 2)))))))
theorem k__law_now (F : Fx w K mg) : Known P w K mg base "_law_now" 3 1 (S__law_now K) := by
  obtain ⟨fd, hf⟩ := F.fn__law_now
  exact (known_of hf sc__law_now F.gl__law_now (fun_binds hf fun _ _ _ _ _ _ us hl => match us, hl with | [_], _ => rfl) rfl (b__law_now F)).scope

def B_Pool_ops (K : Fg) : TO' := dsRet (dC (.kt [.str "add", .str "sub", .str "and", .str "or", .str "xor", .str "less", .str "same"]))
def S_Pool_ops (K : Fg) : List D → M D := scopeF (runF 0 (B_Pool_ops K))
abbrev N_Pool_ops : List Str := []
abbrev P_Pool_ops : List Str := []
theorem sc_Pool_ops : FnScope N_Pool_ops P_Pool_ops (defScope (inClass (top 15) 3)) := ⟨rfl, rfl, rfl, by decide +kernel, rfl, by decide +kernel, by decide +kernel⟩
set_option maxHeartbeats 4000000 in
theorem b_Pool_ops (F : Fx w K mg) : ∀ cdv A outer s H E, Room 0 (XB P w K mg base N_Pool_ops "Pool.ops" (inClass (top 15) 3) f cdv A outer s H E).A → DSs (XB P w K mg base N_Pool_ops "Pool.ops" (inClass (top 15) 3) f cdv A outer s H E) (WB E) (defBody (inClass (top 15) 3)) (B_Pool_ops K) := by
  intro cdv A outer s H E hr
  have tk : Takes (XB P w K mg base N_Pool_ops "Pool.ops" (inClass (top 15) 3) f cdv A outer s H E) (WB E) := takes_of rfl rfl rfl rfl
  exact dss_one (ds_ret ((de_globR F.gl_OPS (F.tp_OPS))))
theorem k_Pool_ops (F : Fx w K mg) : KnownS P w K mg base (He.ga K "Pool") "ops" 1 0 (S_Pool_ops K) := by
  obtain ⟨fd, hf⟩ := F.fn_Pool_ops
  exact ⟨_, _, _, fd, _, F.sm_Pool_ops.1, F.sm_Pool_ops.2, fun_binds hf fun _ _ _ _ _ _ us hl => match us, hl with | [], _ => rfl, rfl, (fnOk_of hf sc_Pool_ops rfl (b_Pool_ops F)).imp spD_scope⟩

def B_is_op (K : Fg) : TO' := dsRet (dIn false (dIx (qVal (dVar 0)) (dC (.int 0))) (qVal (dSMet0 (He.ga K "Pool") (S_Pool_ops K) (dC (.ref (He.ga K "Pool"))))))
def S_is_op (K : Fg) : List D → M D := scopeF (runF 1 (B_is_op K))
abbrev N_is_op : List Str := ["line"]
abbrev P_is_op : List Str := ["line"]
theorem sc_is_op : FnScope N_is_op P_is_op (defScope (top 19)) := ⟨rfl, rfl, rfl, by decide +kernel, rfl, by decide +kernel, by decide +kernel⟩
set_option maxHeartbeats 4000000 in
theorem b_is_op (F : Fx w K mg) : ∀ cdv A outer s H E, Room 1 (XB P w K mg base N_is_op "is_op" (top 19) f cdv A outer s H E).A → DSs (XB P w K mg base N_is_op "is_op" (top 19) f cdv A outer s H E) (WB E) (defBody (top 19)) (B_is_op K) := by
  intro cdv A outer s H E hr
  have tk : Takes (XB P w K mg base N_is_op "is_op" (top 19) f cdv A outer s H E) (WB E) := takes_of rfl rfl rfl rfl
  exact dss_one (ds_ret (de_in (de_ix (dq_val (de_var 0)) (de_int)) (dq_val (de_smet0 (k_Pool_ops F) (hr.mono (by decide : 1 ≤ _)) ((de_glob (d := .ref (He.ga K "Pool")) F.gl_Pool rfl rfl))))))
theorem k_is_op (F : Fx w K mg) : Known P w K mg base "is_op" 2 1 (S_is_op K) := by
  obtain ⟨fd, hf⟩ := F.fn_is_op
  exact (known_of hf sc_is_op F.gl_is_op (fun_binds hf fun _ _ _ _ _ _ us hl => match us, hl with | [_], _ => rfl) rfl (b_is_op F)).scope

def B_naming_spots (K : Fg) : TO' := dsRet (dIfE (dTruth (dCall (S_is_op K) 1 (dCons (dVar 0) (dNil)))) (dTup (dCons (dC (.int 1)) (dCons (dC (.int 2)) (dNil)))) (dKGet (He.ga K "NAMING_SPOTS") tab_NAMING_SPOTS (dC (.ref (He.ga K "NAMING_SPOTS"))) (dIx (qVal (dVar 0)) (dC (.int 0))) (dTup (dNil))))
def S_naming_spots (K : Fg) : List D → M D := scopeF (runF 1 (B_naming_spots K))
abbrev N_naming_spots : List Str := ["line"]
abbrev P_naming_spots : List Str := ["line"]
theorem sc_naming_spots : FnScope N_naming_spots P_naming_spots (defScope (top 20)) := ⟨rfl, rfl, rfl, by decide +kernel, rfl, by decide +kernel, by decide +kernel⟩
set_option maxHeartbeats 4000000 in
theorem b_naming_spots (F : Fx w K mg) : ∀ cdv A outer s H E, Room 2 (XB P w K mg base N_naming_spots "naming_spots" (top 20) f cdv A outer s H E).A → DSs (XB P w K mg base N_naming_spots "naming_spots" (top 20) f cdv A outer s H E) (WB E) (defBody (top 20)) (B_naming_spots K) := by
  intro cdv A outer s H E hr
  have tk : Takes (XB P w K mg base N_naming_spots "naming_spots" (top 20) f cdv A outer s H E) (WB E) := takes_of rfl rfl rfl rfl
  exact dss_one (ds_ret (de_if (dt_truth (de_call (k_is_op F) (hr.mono (by decide : 2 ≤ _)) tk (da_cons (de_var 0) (da_nil)))) (de_tup (da_cons (de_int) (da_cons (de_int) (da_nil)))) (de_kget2 (F.kt_NAMING_SPOTS) ((de_glob (d := .ref (He.ga K "NAMING_SPOTS")) F.gl_NAMING_SPOTS rfl rfl)) (de_ix (dq_val (de_var 0)) (de_int)) (de_tup (da_nil)) ⟨rfl, rfl, rfl, rfl⟩)))
theorem k_naming_spots (F : Fx w K mg) : Known P w K mg base "naming_spots" 3 1 (S_naming_spots K) := by
  obtain ⟨fd, hf⟩ := F.fn_naming_spots
  exact (known_of hf sc_naming_spots F.gl_naming_spots (fun_binds hf fun _ _ _ _ _ _ us hl => match us, hl with | [_], _ => rfl) rfl (b_naming_spots F)).scope

def B_operands_of (K : Fg) : TO' := dsRet (dFz (dLc [1] (dIter (dCall (S_naming_spots K) 1 (dCons (dVar 0) (dNil)))) (gtName 1) (dYes) (dIx (qVal (dVar 0)) (dVar 1))))
def S_operands_of (K : Fg) : List D → M D := scopeF (runF 2 (B_operands_of K))
abbrev N_operands_of : List Str := ["line", "spot"]
abbrev P_operands_of : List Str := ["line"]
theorem sc_operands_of : FnScope N_operands_of P_operands_of (defScope (top 21)) := ⟨rfl, rfl, rfl, by decide +kernel, rfl, by decide +kernel, by decide +kernel⟩
set_option maxHeartbeats 4000000 in
theorem b_operands_of (F : Fx w K mg) : ∀ cdv A outer s H E, Room 3 (XB P w K mg base N_operands_of "operands_of" (top 21) f cdv A outer s H E).A → DSs (XB P w K mg base N_operands_of "operands_of" (top 21) f cdv A outer s H E) (WB E) (defBody (top 21)) (B_operands_of K) := by
  intro cdv A outer s H E hr
  have tk : Takes (XB P w K mg base N_operands_of "operands_of" (top 21) f cdv A outer s H E) (WB E) := takes_of rfl rfl rfl rfl
  exact dss_one (ds_ret (de_fz (df_lc (own := [("spot", 1)]) rfl sc_operands_of.nd (di_seq (de_call (k_naming_spots F) (hr.mono (by decide : 3 ≤ _)) tk (da_cons (de_var 0) (da_nil)))) (blkOk_by (by rfl)) (fun _ _ _ _ _ => dg_name 1 sc_operands_of.nd) (fun _ _ _ _ _ => dts_nil) (fun _ _ _ _ _ => de_ix (dq_val (de_var 0)) (de_var 1)))))
theorem k_operands_of (F : Fx w K mg) : Known P w K mg base "operands_of" 4 1 (S_operands_of K) := by
  obtain ⟨fd, hf⟩ := F.fn_operands_of
  exact (known_of hf sc_operands_of F.gl_operands_of (fun_binds hf fun _ _ _ _ _ _ us hl => match us, hl with | [_], _ => rfl) rfl (b_operands_of F)).scope

def B_asked_through (K : Fg) : TO' := dsSeq (dsSet 2 (dAmb (dLstOf (qVal (dVar 1))))) (dsSeq (dsFor (dRevRng (dLen (qVal (dVar 0)))) (gtName 3) (dsIf (dOr (dTest (dIn false (dIx (qVal (dIx (qVal (dVar 0)) (dVar 3))) (dC (.int 0))) (qVal (dC (.kt [.str "read", .str "must", .str "write", .str "out", .str "keep"]))))) (dAnd (dTruth (dIx (qVal (dVar 2)) (dVar 3))) (dTruth (dCall (S_is_op K) 1 (dCons (dIx (qVal (dVar 0)) (dVar 3)) (dNil)))))) (dsFor (dIter (dCall (S_operands_of K) 1 (dCons (dIx (qVal (dVar 0)) (dVar 3)) (dNil)))) (gtName 4) (dsSetIxM (dC (.bl true)) (dVar 2) (dVar 4))) (dsNext))) (dsSeq (dsFzM 2) (dsRet (dVar 2))))
def S_asked_through (K : Fg) : List D → M D := scopeF (runF 5 (B_asked_through K))
abbrev N_asked_through : List Str := ["lines", "wanted", "reach", "at", "index"]
abbrev P_asked_through : List Str := ["lines", "wanted"]
theorem sc_asked_through : FnScope N_asked_through P_asked_through (defScope (top 32)) := ⟨rfl, rfl, rfl, by decide +kernel, rfl, by decide +kernel, by decide +kernel⟩
set_option maxHeartbeats 4000000 in
theorem b_asked_through (F : Fx w K mg) : ∀ cdv A outer s H E, Room 4 (XB P w K mg base N_asked_through "asked_through" (top 32) f cdv A outer s H E).A → DSs (XB P w K mg base N_asked_through "asked_through" (top 32) f cdv A outer s H E) (WB E) (defBody (top 32)) (B_asked_through K) := by
  intro cdv A outer s H E hr
  have tk : Takes (XB P w K mg base N_asked_through "asked_through" (top 32) f cdv A outer s H E) (WB E) := takes_of rfl rfl rfl rfl
  exact dss_cons (ds_set (i := 2) sc_asked_through.nd (de_amb (df_lstOf (dq_val (de_var 1)) F.fr_list))) (dss_cons (ds_for (passes_of rfl) rfl (di_revRng (de_len (dq_val (de_var 0)) F.fr_len) F.fr_reversed F.fr_range) (dg_name 3 sc_asked_through.nd) (dss_one (ds_if (dt_w (dw_or (dt_in (de_ix (dq_val (de_ix (dq_val (de_var 0)) (de_var 3))) (de_int)) (dq_val ((de_globR F.gl_ASKING (F.tp_ASKING))))) (dw_or1 (dt_w (dw_and (dt_truth (de_ix (dq_val (de_var 2)) (de_var 3))) (dw_and1 (dt_truth (de_call (k_is_op F) (hr.mono (by decide : 2 ≤ _)) tk (da_cons (de_ix (dq_val (de_var 0)) (de_var 3)) (da_nil)))))))))) (dss_one (ds_for (passes_of rfl) rfl (di_seq (de_call (k_operands_of F) (hr.mono (by decide : 4 ≤ _)) tk (da_cons (de_ix (dq_val (de_var 0)) (de_var 3)) (da_nil)))) (dg_name 4 sc_asked_through.nd) (dss_one (ds_setIxM (de_bl) (de_var 2) (de_var 4))))) (dss_nil)))) (dss_fzM 2 (dss_one (ds_ret (de_var 2)))))
theorem k_asked_through (F : Fx w K mg) : Known P w K mg base "asked_through" 5 2 (S_asked_through K) := by
  obtain ⟨fd, hf⟩ := F.fn_asked_through
  exact (known_of hf sc_asked_through F.gl_asked_through (fun_binds hf fun _ _ _ _ _ _ us hl => match us, hl with | [_, _], _ => rfl) rfl (b_asked_through F)).scope

def B_is_idle_kind (K : Fg) : TO' := dsRet (dOrV (dIn false (dIx (qVal (dVar 0)) (dC (.int 0))) (qVal (dTup (dCons (dC (.str "get")) (dCons (dC (.str "num")) (dNil)))))) (dCall (S_is_op K) 1 (dCons (dVar 0) (dNil))))
def S_is_idle_kind (K : Fg) : List D → M D := scopeF (runF 1 (B_is_idle_kind K))
abbrev N_is_idle_kind : List Str := ["line"]
abbrev P_is_idle_kind : List Str := ["line"]
theorem sc_is_idle_kind : FnScope N_is_idle_kind P_is_idle_kind (defScope (top 33)) := ⟨rfl, rfl, rfl, by decide +kernel, rfl, by decide +kernel, by decide +kernel⟩
set_option maxHeartbeats 4000000 in
theorem b_is_idle_kind (F : Fx w K mg) : ∀ cdv A outer s H E, Room 2 (XB P w K mg base N_is_idle_kind "is_idle_kind" (top 33) f cdv A outer s H E).A → DSs (XB P w K mg base N_is_idle_kind "is_idle_kind" (top 33) f cdv A outer s H E) (WB E) (defBody (top 33)) (B_is_idle_kind K) := by
  intro cdv A outer s H E hr
  have tk : Takes (XB P w K mg base N_is_idle_kind "is_idle_kind" (top 33) f cdv A outer s H E) (WB E) := takes_of rfl rfl rfl rfl
  exact dss_one (ds_ret (de_or (de_in (de_ix (dq_val (de_var 0)) (de_int)) (dq_val (de_tup (da_cons (de_str) (da_cons (de_str) (da_nil)))))) (de_one (de_call (k_is_op F) (hr.mono (by decide : 2 ≤ _)) tk (da_cons (de_var 0) (da_nil))))))
theorem k_is_idle_kind (F : Fx w K mg) : Known P w K mg base "is_idle_kind" 3 1 (S_is_idle_kind K) := by
  obtain ⟨fd, hf⟩ := F.fn_is_idle_kind
  exact (known_of hf sc_is_idle_kind F.gl_is_idle_kind (fun_binds hf fun _ _ _ _ _ _ us hl => match us, hl with | [_], _ => rfl) rfl (b_is_idle_kind F)).scope

def B_now_lines (K : Fg) : TO' := dsSeq (dsSet 1 (dFld [He.ga K "Middle"] "lines" (dVar 0))) (dsSeq (dsSet 2 (dCall (S_asked_through K) 2 (dCons (dVar 1) (dCons (dFz (dRepL (qVal (dFz (dLst (dCons (dC (.bl false)) (dNil))))) (dLen (qVal (dVar 1))))) (dNil))))) (dsRet (dTupOf (qVal (dFz (dLc [3] (dRng1 (dLen (qVal (dVar 1)))) (gtName 3) (dOr (dTruth (dIx (qVal (dVar 2)) (dVar 3))) (dNot (dTruth (dCall (S_is_idle_kind K) 1 (dCons (dIx (qVal (dVar 1)) (dVar 3)) (dNil)))))) (dVar 3)))))))
def S_now_lines (K : Fg) : List D → M D := scopeF (runF 4 (B_now_lines K))
abbrev N_now_lines : List Str := ["middle", "lines", "reach", "at"]
abbrev P_now_lines : List Str := ["middle"]
theorem sc_now_lines : FnScope N_now_lines P_now_lines (defScope (top 35)) := ⟨rfl, rfl, rfl, by decide +kernel, rfl, by decide +kernel, by decide +kernel⟩
set_option maxHeartbeats 4000000 in
theorem b_now_lines (F : Fx w K mg) : ∀ cdv A outer s H E, Room 5 (XB P w K mg base N_now_lines "now_lines" (top 35) f cdv A outer s H E).A → DSs (XB P w K mg base N_now_lines "now_lines" (top 35) f cdv A outer s H E) (WB E) (defBody (top 35)) (B_now_lines K) := by
  intro cdv A outer s H E hr
  have tk : Takes (XB P w K mg base N_now_lines "now_lines" (top 35) f cdv A outer s H E) (WB E) := takes_of rfl rfl rfl rfl
  exact dss_cons (ds_set (i := 1) sc_now_lines.nd (de_fld (S := [He.ga K "Middle"]) (F.fld_Middle_lines) (de_var 0))) (dss_cons (ds_set (i := 2) sc_now_lines.nd (de_call (k_asked_through F) (hr.mono (by decide : 5 ≤ _)) tk (da_cons (de_var 1) (da_cons (de_fz (df_rep (dq_val (de_fz (df_lst (da_cons (de_bl) (da_nil))))) (de_len (dq_val (de_var 1)) F.fr_len))) (da_nil))))) (dss_one (ds_ret (de_tupOf (dq_val (de_fz (df_lc (own := [("at", 3)]) rfl sc_now_lines.nd (di_rng1 (de_len (dq_val (de_var 1)) F.fr_len) F.fr_range) (blkOk_by (by rfl)) (fun _ _ _ _ _ => dg_name 3 sc_now_lines.nd) (fun _ _ _ _ _ => dts_one (dt_w (dw_or (dt_truth (de_ix (dq_val (de_var 2)) (de_var 3))) (dw_or1 (dt_not (dt_truth (de_call (k_is_idle_kind F) (hr.mono (by decide : 3 ≤ _)) takesF (da_cons (de_ix (dq_val (de_var 1)) (de_var 3)) (da_nil))))))))) (fun _ _ _ _ _ => de_var 3)))) F.fr_tuple))))
theorem k_now_lines (F : Fx w K mg) : Known P w K mg base "now_lines" 6 1 (S_now_lines K) := by
  obtain ⟨fd, hf⟩ := F.fn_now_lines
  exact (known_of hf sc_now_lines F.gl_now_lines (fun_binds hf fun _ _ _ _ _ _ us hl => match us, hl with | [_], _ => rfl) rfl (b_now_lines F)).scope

def B_late_lines (K : Fg) : TO' := dsSeq (dsSet 1 (dCall (S_now_lines K) 1 (dCons (dVar 0) (dNil)))) (dsRet (dTupOf (qVal (dFz (dLc [2, 3] (dEnum (dFld [He.ga K "Middle"] "lines" (dVar 0))) (gtTup 2 (gtCons (gtName 2) (gtCons (gtName 3) (gtNil)))) (dAnd (dTruth (dCall (S_is_op K) 1 (dCons (dVar 3) (dNil)))) (dTest (dIn true (dVar 2) (qVal (dVar 1))))) (dVar 2))))))
def S_late_lines (K : Fg) : List D → M D := scopeF (runF 4 (B_late_lines K))
abbrev N_late_lines : List Str := ["middle", "now", "at", "line"]
abbrev P_late_lines : List Str := ["middle"]
theorem sc_late_lines : FnScope N_late_lines P_late_lines (defScope (top 36)) := ⟨rfl, rfl, rfl, by decide +kernel, rfl, by decide +kernel, by decide +kernel⟩
set_option maxHeartbeats 4000000 in
theorem b_late_lines (F : Fx w K mg) : ∀ cdv A outer s H E, Room 6 (XB P w K mg base N_late_lines "late_lines" (top 36) f cdv A outer s H E).A → DSs (XB P w K mg base N_late_lines "late_lines" (top 36) f cdv A outer s H E) (WB E) (defBody (top 36)) (B_late_lines K) := by
  intro cdv A outer s H E hr
  have tk : Takes (XB P w K mg base N_late_lines "late_lines" (top 36) f cdv A outer s H E) (WB E) := takes_of rfl rfl rfl rfl
  exact dss_cons (ds_set (i := 1) sc_late_lines.nd (de_call (k_now_lines F) (hr.mono (by decide : 6 ≤ _)) tk (da_cons (de_var 0) (da_nil)))) (dss_one (ds_ret (de_tupOf (dq_val (de_fz (df_lc (own := [("at", 2), ("line", 3)]) rfl sc_late_lines.nd (di_enum (de_fld (S := [He.ga K "Middle"]) (F.fld_Middle_lines) (de_var 0)) F.fr_enumerate) (blkOk_by (by rfl)) (fun _ _ _ _ _ => dg_tup rfl (dgs_cons (dg_name 2 sc_late_lines.nd) (dgs_cons (dg_name 3 sc_late_lines.nd) (dgs_nil)))) (fun _ _ _ _ _ => dts_one (dt_w (dw_and (dt_truth (de_call (k_is_op F) (hr.mono (by decide : 2 ≤ _)) takesF (da_cons (de_var 3) (da_nil)))) (dw_and1 (dt_notIn (de_var 2) (dq_val (de_var 1))))))) (fun _ _ _ _ _ => de_var 2)))) F.fr_tuple)))
theorem k_late_lines (F : Fx w K mg) : Known P w K mg base "late_lines" 7 1 (S_late_lines K) := by
  obtain ⟨fd, hf⟩ := F.fn_late_lines
  exact (known_of hf sc_late_lines F.gl_late_lines (fun_binds hf fun _ _ _ _ _ _ us hl => match us, hl with | [_], _ => rfl) rfl (b_late_lines F)).scope

def B__law_lines_are (K : Fg) : TO' := dsSeq (dsSet 2 (dCall (S__law_now K) 1 (dCons (dIx (qVal (dVar 1)) (dC (.int 0))) (dNil)))) (dsSeq (dsSet 3 (dTupOf (qVal (dFz (dLc [5] (dRng1 (dLen (qVal (dVar 2)))) (gtName 5) (dTruth (dIx (qVal (dVar 2)) (dVar 5))) (dVar 5)))))) (dsSeq (dsSet 4 (dTupOf (qVal (dFz (dLc [5] (dRng1 (dLen (qVal (dVar 2)))) (gtName 5) (dAnd (dNot (dTruth (dIx (qVal (dVar 2)) (dVar 5)))) (dTest (dIn false (dIx (qVal (dIx (qVal (dIx (qVal (dVar 1)) (dC (.int 0)))) (dVar 5))) (dC (.int 0))) (qVal (dCall0 (S__law_ops K)))))) (dVar 5)))))) (dsRet (dAndV (dBin gEq (dCall (S_now_lines K) 1 (dCons (dVar 0) (dNil))) (dVar 3)) (dBin gEq (dCall (S_late_lines K) 1 (dCons (dVar 0) (dNil))) (dVar 4))))))
def S__law_lines_are (K : Fg) : List D → M D := scopeF (runF 6 (B__law_lines_are K))
abbrev N__law_lines_are : List Str := ["_law_middle", "_law_row", "_law_now_here", "_law_first", "_law_late", "_law_at"]
abbrev P__law_lines_are : List Str := ["_law_middle", "_law_row"]
theorem sc__law_lines_are : FnScope N__law_lines_are P__law_lines_are (defScope (top 59)) := ⟨rfl, rfl, rfl, by decide +kernel, rfl, by decide +kernel, by decide +kernel⟩
set_option maxHeartbeats 4000000 in
theorem b__law_lines_are (F : Fx w K mg) : ∀ cdv A outer s H E, Room 7 (XB P w K mg base N__law_lines_are "_law_lines_are" (top 59) f cdv A outer s H E).A → DSs (XB P w K mg base N__law_lines_are "_law_lines_are" (top 59) f cdv A outer s H E) (WB E) (defBody (top 59)) (B__law_lines_are K) := by
  intro cdv A outer s H E hr
  have tk : Takes (XB P w K mg base N__law_lines_are "_law_lines_are" (top 59) f cdv A outer s H E) (WB E) := takes_of rfl rfl rfl rfl
  exact dss_cons (ds_set (i := 2) sc__law_lines_are.nd (de_call (k__law_now F) (hr.mono (by decide : 3 ≤ _)) tk (da_cons (de_ix (dq_val (de_var 1)) (de_int)) (da_nil)))) (dss_cons (ds_set (i := 3) sc__law_lines_are.nd (de_tupOf (dq_val (de_fz (df_lc (own := [("_law_at", 5)]) rfl sc__law_lines_are.nd (di_rng1 (de_len (dq_val (de_var 2)) F.fr_len) F.fr_range) (blkOk_by (by rfl)) (fun _ _ _ _ _ => dg_name 5 sc__law_lines_are.nd) (fun _ _ _ _ _ => dts_one (dt_truth (de_ix (dq_val (de_var 2)) (de_var 5)))) (fun _ _ _ _ _ => de_var 5)))) F.fr_tuple)) (dss_cons (ds_set (i := 4) sc__law_lines_are.nd (de_tupOf (dq_val (de_fz (df_lc (own := [("_law_at", 5)]) rfl sc__law_lines_are.nd (di_rng1 (de_len (dq_val (de_var 2)) F.fr_len) F.fr_range) (blkOk_by (by rfl)) (fun _ _ _ _ _ => dg_name 5 sc__law_lines_are.nd) (fun _ _ _ _ _ => dts_one (dt_w (dw_and (dt_not (dt_truth (de_ix (dq_val (de_var 2)) (de_var 5)))) (dw_and1 (dt_in (de_ix (dq_val (de_ix (dq_val (de_ix (dq_val (de_var 1)) (de_int))) (de_var 5))) (de_int)) (dq_val (de_call0n (k__law_ops F) (hr.mono (by decide : 1 ≤ _))))))))) (fun _ _ _ _ _ => de_var 5)))) F.fr_tuple)) (dss_one (ds_ret (de_and (de_cmp (od_eq hr.units) (de_call (k_now_lines F) (hr.mono (by decide : 6 ≤ _)) tk (da_cons (de_var 0) (da_nil))) (de_var 3)) (de_one (de_cmp (od_eq hr.units) (de_call (k_late_lines F) (hr.mono (by decide : 7 ≤ _)) tk (da_cons (de_var 0) (da_nil))) (de_var 4))))))))
theorem k__law_lines_are (F : Fx w K mg) : Known P w K mg base "_law_lines_are" 8 2 (S__law_lines_are K) := by
  obtain ⟨fd, hf⟩ := F.fn__law_lines_are
  exact (known_of hf sc__law_lines_are F.gl__law_lines_are (fun_binds hf fun _ _ _ _ _ _ us hl => match us, hl with | [_, _], _ => rfl) rfl (b__law_lines_are F)).scope

def B_renamed (K : Fg) : TO' := dsSeq (dsSet 2 (dCall (S_naming_spots K) 1 (dCons (dVar 0) (dNil)))) (dsRet (dTupOf (qVal (dFz (dLc [3, 4] (dEnum (dVar 0)) (gtTup 2 (gtCons (gtName 3) (gtCons (gtName 4) (gtNil)))) (dYes) (dIfE (dTest (dIn false (dVar 3) (qVal (dVar 2)))) (dIx (qVal (dVar 1)) (dVar 4)) (dVar 4)))))))
def S_renamed (K : Fg) : List D → M D := scopeF (runF 5 (B_renamed K))
abbrev N_renamed : List Str := ["line", "names", "spots", "spot", "entry"]
abbrev P_renamed : List Str := ["line", "names"]
theorem sc_renamed : FnScope N_renamed P_renamed (defScope (top 22)) := ⟨rfl, rfl, rfl, by decide +kernel, rfl, by decide +kernel, by decide +kernel⟩
set_option maxHeartbeats 4000000 in
theorem b_renamed (F : Fx w K mg) : ∀ cdv A outer s H E, Room 3 (XB P w K mg base N_renamed "renamed" (top 22) f cdv A outer s H E).A → DSs (XB P w K mg base N_renamed "renamed" (top 22) f cdv A outer s H E) (WB E) (defBody (top 22)) (B_renamed K) := by
  intro cdv A outer s H E hr
  have tk : Takes (XB P w K mg base N_renamed "renamed" (top 22) f cdv A outer s H E) (WB E) := takes_of rfl rfl rfl rfl
  exact dss_cons (ds_set (i := 2) sc_renamed.nd (de_call (k_naming_spots F) (hr.mono (by decide : 3 ≤ _)) tk (da_cons (de_var 0) (da_nil)))) (dss_one (ds_ret (de_tupOf (dq_val (de_fz (df_lc (own := [("spot", 3), ("entry", 4)]) rfl sc_renamed.nd (di_enum (de_var 0) F.fr_enumerate) (blkOk_by (by rfl)) (fun _ _ _ _ _ => dg_tup rfl (dgs_cons (dg_name 3 sc_renamed.nd) (dgs_cons (dg_name 4 sc_renamed.nd) (dgs_nil)))) (fun _ _ _ _ _ => dts_nil) (fun _ _ _ _ _ => de_if (dt_in (de_var 3) (dq_val (de_var 2))) (de_ix (dq_val (de_var 1)) (de_var 4)) (de_var 4))))) F.fr_tuple)))
theorem k_renamed (F : Fx w K mg) : Known P w K mg base "renamed" 4 2 (S_renamed K) := by
  obtain ⟨fd, hf⟩ := F.fn_renamed
  exact (known_of hf sc_renamed F.gl_renamed (fun_binds hf fun _ _ _ _ _ _ us hl => match us, hl with | [_, _], _ => rfl) rfl (b_renamed F)).scope

def B_worked (K : Fg) : TO' := dsSeq (dsIf (dTest (dBin gEq (dVar 0) (dC (.str "add")))) (dsRet (dBin gBAnd (dBin gAdd (dVar 1) (dVar 2)) (dVar 3))) (dsNext)) (dsSeq (dsIf (dTest (dBin gEq (dVar 0) (dC (.str "sub")))) (dsRet (dBin gBAnd (dBin gSub (dVar 1) (dVar 2)) (dVar 3))) (dsNext)) (dsSeq (dsIf (dTest (dBin gEq (dVar 0) (dC (.str "and")))) (dsRet (dBin gBAnd (dVar 1) (dVar 2))) (dsNext)) (dsSeq (dsIf (dTest (dBin gEq (dVar 0) (dC (.str "or")))) (dsRet (dBin gBOr (dVar 1) (dVar 2))) (dsNext)) (dsSeq (dsIf (dTest (dBin gEq (dVar 0) (dC (.str "xor")))) (dsRet (dBin gBXor (dVar 1) (dVar 2))) (dsNext)) (dsSeq (dsIf (dTest (dBin gEq (dVar 0) (dC (.str "less")))) (dsRet (dIfE (dTest (dBin gLt (dVar 1) (dVar 2))) (dC (.int 1)) (dC (.int 0)))) (dsNext)) (dsRet (dIfE (dTest (dBin gEq (dVar 1) (dVar 2))) (dC (.int 1)) (dC (.int 0)))))))))
def S_worked (K : Fg) : List D → M D := scopeF (runF 4 (B_worked K))
abbrev N_worked : List Str := ["name", "one", "other", "top"]
abbrev P_worked : List Str := ["name", "one", "other", "top"]
theorem sc_worked : FnScope N_worked P_worked (defScope (top 14)) := ⟨rfl, rfl, rfl, by decide +kernel, rfl, by decide +kernel, by decide +kernel⟩
set_option maxHeartbeats 4000000 in
theorem b_worked (F : Fx w K mg) : ∀ cdv A outer s H E, Room 0 (XB P w K mg base N_worked "worked" (top 14) f cdv A outer s H E).A → DSs (XB P w K mg base N_worked "worked" (top 14) f cdv A outer s H E) (WB E) (defBody (top 14)) (B_worked K) := by
  intro cdv A outer s H E hr
  have tk : Takes (XB P w K mg base N_worked "worked" (top 14) f cdv A outer s H E) (WB E) := takes_of rfl rfl rfl rfl
  exact dss_cons (ds_if (dt_cmp (od_eq hr.units) (de_var 0) (de_str)) (dss_one (ds_ret (de_op od_band (de_op od_add (de_var 1) (de_var 2)) (de_var 3)))) (dss_nil)) (dss_cons (ds_if (dt_cmp (od_eq hr.units) (de_var 0) (de_str)) (dss_one (ds_ret (de_op od_band (de_op od_sub (de_var 1) (de_var 2)) (de_var 3)))) (dss_nil)) (dss_cons (ds_if (dt_cmp (od_eq hr.units) (de_var 0) (de_str)) (dss_one (ds_ret (de_op od_band (de_var 1) (de_var 2)))) (dss_nil)) (dss_cons (ds_if (dt_cmp (od_eq hr.units) (de_var 0) (de_str)) (dss_one (ds_ret (de_op od_bor (de_var 1) (de_var 2)))) (dss_nil)) (dss_cons (ds_if (dt_cmp (od_eq hr.units) (de_var 0) (de_str)) (dss_one (ds_ret (de_op od_bxor (de_var 1) (de_var 2)))) (dss_nil)) (dss_cons (ds_if (dt_cmp (od_eq hr.units) (de_var 0) (de_str)) (dss_one (ds_ret (de_if (dt_cmp od_lt (de_var 1) (de_var 2)) (de_int) (de_int)))) (dss_nil)) (dss_one (ds_ret (de_if (dt_cmp (od_eq hr.units) (de_var 1) (de_var 2)) (de_int) (de_int)))))))))
theorem k_worked (F : Fx w K mg) : Known P w K mg base "worked" 1 4 (S_worked K) := by
  obtain ⟨fd, hf⟩ := F.fn_worked
  exact (known_of hf sc_worked F.gl_worked (fun_binds hf fun _ _ _ _ _ _ us hl => match us, hl with | [_, _, _, _], _ => rfl) rfl (b_worked F)).scope

def B_shortened (K : Fg) : TO' := dsSeq (dsAsg (dVar 0) (gtTup 3 (gtCons (gtName 3) (gtCons (gtName 4) (gtCons (gtName 5) (gtNil)))))) (dsSeq (dsSet 6 (dIfE (dTest (dBin gEq (dIx (qVal (dIx (qVal (dVar 1)) (dVar 4))) (dC (.int 0))) (dC (.str "num")))) (dIx (qVal (dIx (qVal (dVar 1)) (dVar 4))) (dC (.int 1))) (dC .non))) (dsSeq (dsSet 7 (dIfE (dTest (dBin gEq (dIx (qVal (dIx (qVal (dVar 1)) (dVar 5))) (dC (.int 0))) (dC (.str "num")))) (dIx (qVal (dIx (qVal (dVar 1)) (dVar 5))) (dC (.int 1))) (dC .non))) (dsSeq (dsIf (dAnd (dTest (dBin gNotN (dVar 6) (dC .non))) (dTest (dBin gNotN (dVar 7) (dC .non)))) (dsRet (dTup (dCons (dC (.str "num")) (dCons (dCall (S_worked K) 4 (dCons (dVar 3) (dCons (dVar 6) (dCons (dVar 7) (dCons (dVar 2) (dNil)))))) (dNil))))) (dsNext)) (dsSeq (dsIf (dAnd (dTest (dIn false (dVar 3) (qVal (dTup (dCons (dC (.str "add")) (dCons (dC (.str "or")) (dCons (dC (.str "xor")) (dNil)))))))) (dTest (dBin gEq (dVar 6) (dC (.int 0))))) (dsRet (dTup (dCons (dC (.str "line")) (dCons (dVar 5) (dNil))))) (dsNext)) (dsSeq (dsIf (dAnd (dTest (dIn false (dVar 3) (qVal (dTup (dCons (dC (.str "add")) (dCons (dC (.str "or")) (dCons (dC (.str "xor")) (dCons (dC (.str "sub")) (dNil))))))))) (dTest (dBin gEq (dVar 7) (dC (.int 0))))) (dsRet (dTup (dCons (dC (.str "line")) (dCons (dVar 4) (dNil))))) (dsNext)) (dsSeq (dsIf (dAnd (dTest (dBin gEq (dVar 3) (dC (.str "and")))) (dOr (dTest (dBin gEq (dVar 6) (dC (.int 0)))) (dTest (dBin gEq (dVar 7) (dC (.int 0)))))) (dsRet (dTup (dCons (dC (.str "num")) (dCons (dC (.int 0)) (dNil))))) (dsNext)) (dsSeq (dsIf (dAnd (dTest (dBin gEq (dVar 3) (dC (.str "and")))) (dOr (dTest (dBin gEq (dVar 6) (dVar 2))) (dTest (dBin gEq (dVar 7) (dVar 2))))) (dsRet (dTup (dCons (dC (.str "line")) (dCons (dIfE (dTest (dBin gEq (dVar 6) (dVar 2))) (dVar 5) (dVar 4)) (dNil))))) (dsNext)) (dsSeq (dsIf (dAnd (dTest (dBin gEq (dVar 3) (dC (.str "less")))) (dTest (dBin gEq (dVar 7) (dC (.int 0))))) (dsRet (dTup (dCons (dC (.str "num")) (dCons (dC (.int 0)) (dNil))))) (dsNext)) (dsSeq (dsIf (dOr (dTest (dBin gNe (dVar 4) (dVar 5))) (dTest (dBin gEq (dVar 3) (dC (.str "add"))))) (dsRet (dC .non)) (dsNext)) (dsSeq (dsIf (dTest (dIn false (dVar 3) (qVal (dTup (dCons (dC (.str "and")) (dCons (dC (.str "or")) (dNil))))))) (dsRet (dTup (dCons (dC (.str "line")) (dCons (dVar 4) (dNil))))) (dsNext)) (dsRet (dTup (dCons (dC (.str "num")) (dCons (dIfE (dTest (dBin gEq (dVar 3) (dC (.str "same")))) (dC (.int 1)) (dC (.int 0))) (dNil)))))))))))))))
def S_shortened (K : Fg) : List D → M D := scopeF (runF 8 (B_shortened K))
abbrev N_shortened : List Str := ["line", "lines", "top", "name", "one", "other", "left", "right"]
abbrev P_shortened : List Str := ["line", "lines", "top"]
theorem sc_shortened : FnScope N_shortened P_shortened (defScope (top 26)) := ⟨rfl, rfl, rfl, by decide +kernel, rfl, by decide +kernel, by decide +kernel⟩
set_option maxHeartbeats 4000000 in
theorem b_shortened (F : Fx w K mg) : ∀ cdv A outer s H E, Room 1 (XB P w K mg base N_shortened "shortened" (top 26) f cdv A outer s H E).A → DSs (XB P w K mg base N_shortened "shortened" (top 26) f cdv A outer s H E) (WB E) (defBody (top 26)) (B_shortened K) := by
  intro cdv A outer s H E hr
  have tk : Takes (XB P w K mg base N_shortened "shortened" (top 26) f cdv A outer s H E) (WB E) := takes_of rfl rfl rfl rfl
  exact dss_cons (ds_asg (de_var 0) (dg_tup rfl (dgs_cons (dg_name 3 sc_shortened.nd) (dgs_cons (dg_name 4 sc_shortened.nd) (dgs_cons (dg_name 5 sc_shortened.nd) (dgs_nil)))))) (dss_cons (ds_set (i := 6) sc_shortened.nd (de_if (dt_cmp (od_eq hr.units) (de_ix (dq_val (de_ix (dq_val (de_var 1)) (de_var 4))) (de_int)) (de_str)) (de_ix (dq_val (de_ix (dq_val (de_var 1)) (de_var 4))) (de_int)) (de_non))) (dss_cons (ds_set (i := 7) sc_shortened.nd (de_if (dt_cmp (od_eq hr.units) (de_ix (dq_val (de_ix (dq_val (de_var 1)) (de_var 5))) (de_int)) (de_str)) (de_ix (dq_val (de_ix (dq_val (de_var 1)) (de_var 5))) (de_int)) (de_non))) (dss_cons (ds_if (dt_w (dw_and (dt_cmp od_notN (de_var 6) (de_non)) (dw_and1 (dt_cmp od_notN (de_var 7) (de_non))))) (dss_one (ds_ret (de_tup (da_cons (de_str) (da_cons (de_call (k_worked F) (hr.mono (by decide : 1 ≤ _)) tk (da_cons (de_var 3) (da_cons (de_var 6) (da_cons (de_var 7) (da_cons (de_var 2) (da_nil)))))) (da_nil)))))) (dss_nil)) (dss_cons (ds_if (dt_w (dw_and (dt_in (de_var 3) (dq_val (de_tup (da_cons (de_str) (da_cons (de_str) (da_cons (de_str) (da_nil))))))) (dw_and1 (dt_cmp (od_eq hr.units) (de_var 6) (de_int))))) (dss_one (ds_ret (de_tup (da_cons (de_str) (da_cons (de_var 5) (da_nil)))))) (dss_nil)) (dss_cons (ds_if (dt_w (dw_and (dt_in (de_var 3) (dq_val (de_tup (da_cons (de_str) (da_cons (de_str) (da_cons (de_str) (da_cons (de_str) (da_nil)))))))) (dw_and1 (dt_cmp (od_eq hr.units) (de_var 7) (de_int))))) (dss_one (ds_ret (de_tup (da_cons (de_str) (da_cons (de_var 4) (da_nil)))))) (dss_nil)) (dss_cons (ds_if (dt_w (dw_and (dt_cmp (od_eq hr.units) (de_var 3) (de_str)) (dw_and1 (dt_w (dw_or (dt_cmp (od_eq hr.units) (de_var 6) (de_int)) (dw_or1 (dt_cmp (od_eq hr.units) (de_var 7) (de_int)))))))) (dss_one (ds_ret (de_tup (da_cons (de_str) (da_cons (de_int) (da_nil)))))) (dss_nil)) (dss_cons (ds_if (dt_w (dw_and (dt_cmp (od_eq hr.units) (de_var 3) (de_str)) (dw_and1 (dt_w (dw_or (dt_cmp (od_eq hr.units) (de_var 6) (de_var 2)) (dw_or1 (dt_cmp (od_eq hr.units) (de_var 7) (de_var 2)))))))) (dss_one (ds_ret (de_tup (da_cons (de_str) (da_cons (de_if (dt_cmp (od_eq hr.units) (de_var 6) (de_var 2)) (de_var 5) (de_var 4)) (da_nil)))))) (dss_nil)) (dss_cons (ds_if (dt_w (dw_and (dt_cmp (od_eq hr.units) (de_var 3) (de_str)) (dw_and1 (dt_cmp (od_eq hr.units) (de_var 7) (de_int))))) (dss_one (ds_ret (de_tup (da_cons (de_str) (da_cons (de_int) (da_nil)))))) (dss_nil)) (dss_cons (ds_if (dt_w (dw_or (dt_cmp (od_ne hr.units) (de_var 4) (de_var 5)) (dw_or1 (dt_cmp (od_eq hr.units) (de_var 3) (de_str))))) (dss_one (ds_ret (de_non))) (dss_nil)) (dss_cons (ds_if (dt_in (de_var 3) (dq_val (de_tup (da_cons (de_str) (da_cons (de_str) (da_nil)))))) (dss_one (ds_ret (de_tup (da_cons (de_str) (da_cons (de_var 4) (da_nil)))))) (dss_nil)) (dss_one (ds_ret (de_tup (da_cons (de_str) (da_cons (de_if (dt_cmp (od_eq hr.units) (de_var 3) (de_str)) (de_int) (de_int)) (da_nil))))))))))))))))
theorem k_shortened (F : Fx w K mg) : Known P w K mg base "shortened" 2 3 (S_shortened K) := by
  obtain ⟨fd, hf⟩ := F.fn_shortened
  exact (known_of hf sc_shortened F.gl_shortened (fun_binds hf fun _ _ _ _ _ _ us hl => match us, hl with | [_, _, _], _ => rfl) rfl (b_shortened F)).scope

def B_is_integer (K : Fg) : TO' := dsRet (dAndV (dIsi (owns K) (kits K) (dVar 0) (dC (.ty "int"))) (dNotV (dIsi (owns K) (kits K) (dVar 0) (dC (.ty "bool")))))
def S_is_integer (K : Fg) : List D → M D := scopeF (runF 1 (B_is_integer K))
abbrev N_is_integer : List Str := ["value"]
abbrev P_is_integer : List Str := ["value"]
theorem sc_is_integer : FnScope N_is_integer P_is_integer (defScope (top 8)) := ⟨rfl, rfl, rfl, by decide +kernel, rfl, by decide +kernel, by decide +kernel⟩
set_option maxHeartbeats 4000000 in
theorem b_is_integer (F : Fx w K mg) : ∀ cdv A outer s H E, Room 0 (XB P w K mg base N_is_integer "is_integer" (top 8) f cdv A outer s H E).A → DSs (XB P w K mg base N_is_integer "is_integer" (top 8) f cdv A outer s H E) (WB E) (defBody (top 8)) (B_is_integer K) := by
  intro cdv A outer s H E hr
  have tk : Takes (XB P w K mg base N_is_integer "is_integer" (top 8) f cdv A outer s H E) (WB E) := takes_of rfl rfl rfl rfl
  exact dss_one (ds_ret (de_and (de_isi F.own F.kit (de_var 0) ((de_bltn (d := .ty "int") F.fr_int (by decide +kernel) rfl rfl)) F.fr_isinstance) (de_one (de_not (de_isi F.own F.kit (de_var 0) ((de_bltn (d := .ty "bool") F.fr_bool (by decide +kernel) rfl rfl)) F.fr_isinstance)))))
theorem k_is_integer (F : Fx w K mg) : Known P w K mg base "is_integer" 1 1 (S_is_integer K) := by
  obtain ⟨fd, hf⟩ := F.fn_is_integer
  exact (known_of hf sc_is_integer F.gl_is_integer (fun_binds hf fun _ _ _ _ _ _ us hl => match us, hl with | [_], _ => rfl) rfl (b_is_integer F)).scope

def B_check_int (K : Fg) : TO' := dsSeq (dsIf (dOr (dNot (dTruth (dCall (S_is_integer K) 1 (dCons (dVar 0) (dNil))))) (dTest (dBin gLt (dVar 0) (dVar 1)))) (dsStuck) (dsNext)) (dsSeq (dsIf (dAnd (dTest (dBin gNotN (dVar 2) (dC .non))) (dTest (dBin gGt (dVar 0) (dVar 2)))) (dsStuck) (dsNext)) (dsRet (dVar 0)))
def S_check_int (K : Fg) : List D → M D := scopeF (runF 4 (B_check_int K))
abbrev N_check_int : List Str := ["value", "low", "high", "name"]
abbrev P_check_int : List Str := ["value", "low", "high", "name"]
theorem sc_check_int : FnScope N_check_int P_check_int (defScope (top 9)) := ⟨rfl, rfl, rfl, by decide +kernel, rfl, by decide +kernel, by decide +kernel⟩
set_option maxHeartbeats 4000000 in
theorem b_check_int (F : Fx w K mg) : ∀ cdv A outer s H E, Room 1 (XB P w K mg base N_check_int "check_int" (top 9) f cdv A outer s H E).A → DSs (XB P w K mg base N_check_int "check_int" (top 9) f cdv A outer s H E) (WB E) (defBody (top 9)) (B_check_int K) := by
  intro cdv A outer s H E hr
  have tk : Takes (XB P w K mg base N_check_int "check_int" (top 9) f cdv A outer s H E) (WB E) := takes_of rfl rfl rfl rfl
  exact dss_cons (ds_if (dt_w (dw_or (dt_not (dt_truth (de_call (k_is_integer F) (hr.mono (by decide : 1 ≤ _)) tk (da_cons (de_var 0) (da_nil))))) (dw_or1 (dt_cmp od_lt (de_var 0) (de_var 1))))) (dss_never) (dss_nil)) (dss_cons (ds_if (dt_w (dw_and (dt_cmp od_notN (de_var 2) (de_non)) (dw_and1 (dt_cmp od_gt (de_var 0) (de_var 2))))) (dss_never) (dss_nil)) (dss_one (ds_ret (de_var 0))))
theorem k_check_int (F : Fx w K mg) : Known P w K mg base "check_int" 2 4 (S_check_int K) := by
  obtain ⟨fd, hf⟩ := F.fn_check_int
  exact (known_of hf sc_check_int F.gl_check_int (fun_binds hf fun _ _ _ _ _ _ us hl => match us, hl with | [_, _, _, _], _ => rfl) rfl (b_check_int F)).scope

def B_ones (K : Fg) : TO' := dsSeq (dsExpr (dCall (S_check_int K) 4 (dCons (dVar 0) (dCons (dC (.int 0)) (dCons (dC (.int 64)) (dCons (dC (.str "width")) (dNil))))))) (dsRet (dBin gSub (dBin gShl (dC (.int 1)) (dVar 0)) (dC (.int 1))))
def S_ones (K : Fg) : List D → M D := scopeF (runF 1 (B_ones K))
abbrev N_ones : List Str := ["width"]
abbrev P_ones : List Str := ["width"]
theorem sc_ones : FnScope N_ones P_ones (defScope (top 10)) := ⟨rfl, rfl, rfl, by decide +kernel, rfl, by decide +kernel, by decide +kernel⟩
set_option maxHeartbeats 4000000 in
theorem b_ones (F : Fx w K mg) : ∀ cdv A outer s H E, Room 2 (XB P w K mg base N_ones "ones" (top 10) f cdv A outer s H E).A → DSs (XB P w K mg base N_ones "ones" (top 10) f cdv A outer s H E) (WB E) (defBody (top 10)) (B_ones K) := by
  intro cdv A outer s H E hr
  have tk : Takes (XB P w K mg base N_ones "ones" (top 10) f cdv A outer s H E) (WB E) := takes_of rfl rfl rfl rfl
  exact dss_cons (ds_expr (de_call (k_check_int F) (hr.mono (by decide : 2 ≤ _)) tk (da_cons (de_var 0) (da_cons (de_int) (da_cons (de_int) (da_cons (de_str) (da_nil))))))) (dss_one (ds_ret (de_op od_sub (de_op od_shl (de_int) (de_var 0)) (de_int))))
theorem k_ones (F : Fx w K mg) : Known P w K mg base "ones" 3 1 (S_ones K) := by
  obtain ⟨fd, hf⟩ := F.fn_ones
  exact (known_of hf sc_ones F.gl_ones (fun_binds hf fun _ _ _ _ _ _ us hl => match us, hl with | [_], _ => rfl) rfl (b_ones F)).scope

def B_marks_renamed (K : Fg) : TO' := dsRet (dFz (dLc [2] (dIter (dFld [He.ga K "Middle"] "marks" (dVar 0))) (gtName 2) (dYes) (dFz (dLc [3] (dIter (dVar 2)) (gtName 3) (dYes) (dIx (qVal (dVar 1)) (dVar 3))))))
def S_marks_renamed (K : Fg) : List D → M D := scopeF (runF 4 (B_marks_renamed K))
abbrev N_marks_renamed : List Str := ["middle", "names", "mark", "index"]
abbrev P_marks_renamed : List Str := ["middle", "names"]
theorem sc_marks_renamed : FnScope N_marks_renamed P_marks_renamed (defScope (top 25)) := ⟨rfl, rfl, rfl, by decide +kernel, rfl, by decide +kernel, by decide +kernel⟩
set_option maxHeartbeats 4000000 in
theorem b_marks_renamed (F : Fx w K mg) : ∀ cdv A outer s H E, Room 0 (XB P w K mg base N_marks_renamed "marks_renamed" (top 25) f cdv A outer s H E).A → DSs (XB P w K mg base N_marks_renamed "marks_renamed" (top 25) f cdv A outer s H E) (WB E) (defBody (top 25)) (B_marks_renamed K) := by
  intro cdv A outer s H E hr
  have tk : Takes (XB P w K mg base N_marks_renamed "marks_renamed" (top 25) f cdv A outer s H E) (WB E) := takes_of rfl rfl rfl rfl
  exact dss_one (ds_ret (de_fz (df_lc (own := [("mark", 2)]) rfl sc_marks_renamed.nd (di_seq (de_fld (S := [He.ga K "Middle"]) (F.fld_Middle_marks) (de_var 0))) (blkOk_by (by rfl)) (fun _ _ _ _ _ => dg_name 2 sc_marks_renamed.nd) (fun _ _ _ _ _ => dts_nil) (fun _ _ _ _ _ => de_fz (df_lc (own := [("index", 3)]) rfl sc_marks_renamed.nd (di_seq (de_var 2)) (blkOk_by (by rfl)) (fun _ _ _ _ _ => dg_name 3 sc_marks_renamed.nd) (fun _ _ _ _ _ => dts_nil) (fun _ _ _ _ _ => de_ix (dq_val (de_var 1)) (de_var 3)))))))
theorem k_marks_renamed (F : Fx w K mg) : Known P w K mg base "marks_renamed" 1 2 (S_marks_renamed K) := by
  obtain ⟨fd, hf⟩ := F.fn_marks_renamed
  exact (known_of hf sc_marks_renamed F.gl_marks_renamed (fun_binds hf fun _ _ _ _ _ _ us hl => match us, hl with | [_, _], _ => rfl) rfl (b_marks_renamed F)).scope

def B_known (K : Fg) : TO' := dsSeq (dsSet 2 (dAmb (dLst (dNil)))) (dsSeq (dsSet 3 (dAmb (dLst (dNil)))) (dsSeq (dsFor (dEnum (dFld [He.ga K "Middle"] "lines" (dVar 0))) (gtTup 2 (gtCons (gtName 4) (gtCons (gtName 5) (gtNil)))) (dsSeq (dsSet 6 (dCall (S_renamed K) 2 (dCons (dVar 5) (dCons (dVar 3) (dNil))))) (dsSeq (dsSet 7 (dIfE (dTruth (dCall (S_is_op K) 1 (dCons (dVar 6) (dNil)))) (dCall (S_shortened K) 3 (dCons (dVar 6) (dCons (dVar 2) (dCons (dCall (S_ones K) 1 (dCons (dVar 1) (dNil))) (dNil))))) (dC .non))) (dsSeq (dsSet 8 (dVar 4)) (dsSeq (dsIf (dAnd (dTest (dBin gNotN (dVar 7) (dC .non))) (dTest (dBin gEq (dIx (qVal (dVar 7)) (dC (.int 0))) (dC (.str "num"))))) (dsSet 6 (dVar 7)) (dsIf (dTest (dBin gNotN (dVar 7) (dC .non))) (dsSet 8 (dIx (qVal (dVar 7)) (dC (.int 1)))) (dsNext))) (dsSeq (dsAppM (dVar 2) (dVar 6)) (dsAppM (dVar 3) (dVar 8)))))))) (dsSeq (dsFzM 2) (dsSeq (dsFzM 3) (dsRet (dMake (He.ga K "Middle") (S_Middle_init K) 3 (dCons (dVar 2) (dCons (dCall (S_marks_renamed K) 2 (dCons (dVar 0) (dCons (dVar 3) (dNil)))) (dNil)))))))))
def S_known (K : Fg) : List D → M D := scopeF (runF 9 (B_known K))
abbrev N_known : List Str := ["middle", "word", "lines", "names", "at", "line", "told", "short", "name"]
abbrev P_known : List Str := ["middle", "word"]
theorem sc_known : FnScope N_known P_known (defScope (top 27)) := ⟨rfl, rfl, rfl, by decide +kernel, rfl, by decide +kernel, by decide +kernel⟩
set_option maxHeartbeats 4000000 in
theorem b_known (F : Fx w K mg) : ∀ cdv A outer s H E, Room 4 (XB P w K mg base N_known "known" (top 27) f cdv A outer s H E).A → DSs (XB P w K mg base N_known "known" (top 27) f cdv A outer s H E) (WB E) (defBody (top 27)) (B_known K) := by
  intro cdv A outer s H E hr
  have tk : Takes (XB P w K mg base N_known "known" (top 27) f cdv A outer s H E) (WB E) := takes_of rfl rfl rfl rfl
  exact dss_cons (ds_set (i := 2) sc_known.nd (de_amb (df_lst (da_nil)))) (dss_cons (ds_set (i := 3) sc_known.nd (de_amb (df_lst (da_nil)))) (dss_cons (ds_for (passes_of rfl) rfl (di_enum (de_fld (S := [He.ga K "Middle"]) (F.fld_Middle_lines) (de_var 0)) F.fr_enumerate) (dg_tup rfl (dgs_cons (dg_name 4 sc_known.nd) (dgs_cons (dg_name 5 sc_known.nd) (dgs_nil)))) (dss_cons (ds_set (i := 6) sc_known.nd (de_call (k_renamed F) (hr.mono (by decide : 4 ≤ _)) tk (da_cons (de_var 5) (da_cons (de_var 3) (da_nil))))) (dss_cons (ds_set (i := 7) sc_known.nd (de_if (dt_truth (de_call (k_is_op F) (hr.mono (by decide : 2 ≤ _)) tk (da_cons (de_var 6) (da_nil)))) (de_call (k_shortened F) (hr.mono (by decide : 2 ≤ _)) tk (da_cons (de_var 6) (da_cons (de_var 2) (da_cons (de_call (k_ones F) (hr.mono (by decide : 3 ≤ _)) tk (da_cons (de_var 1) (da_nil))) (da_nil))))) (de_non))) (dss_cons (ds_set (i := 8) sc_known.nd (de_var 4)) (dss_cons (ds_if (dt_w (dw_and (dt_cmp od_notN (de_var 7) (de_non)) (dw_and1 (dt_cmp (od_eq hr.units) (de_ix (dq_val (de_var 7)) (de_int)) (de_str))))) (dss_one (ds_set (i := 6) sc_known.nd (de_var 7))) (dss_one (ds_if (dt_cmp od_notN (de_var 7) (de_non)) (dss_one (ds_set (i := 8) sc_known.nd (de_ix (dq_val (de_var 7)) (de_int)))) (dss_nil)))) (dss_cons (ds_appM (de_var 2) (de_var 6)) (dss_one (ds_appM (de_var 3) (de_var 8))))))))) (dss_fzM 2 (dss_fzM 3 (dss_one (ds_ret (de_make (k_Middle_init F) (hr.mono (by decide : 2 ≤ _)) tk (da_cons (de_var 2) (da_cons (de_call (k_marks_renamed F) (hr.mono (by decide : 1 ≤ _)) tk (da_cons (de_var 0) (da_cons (de_var 3) (da_nil)))) (da_nil))))))))))
theorem k_known (F : Fx w K mg) : Known P w K mg base "known" 5 2 (S_known K) := by
  obtain ⟨fd, hf⟩ := F.fn_known
  exact (known_of hf sc_known F.gl_known (fun_binds hf fun _ _ _ _ _ _ us hl => match us, hl with | [_, _], _ => rfl) rfl (b_known F)).scope

def B__law_renamed (K : Fg) : TO' := dsSeq (dsIf (dOr (dTest (dIn false (dIx (qVal (dVar 0)) (dC (.int 0))) (qVal (dCall0 (S__law_ops K))))) (dTest (dBin gEq (dIx (qVal (dVar 0)) (dC (.int 0))) (dC (.str "write"))))) (dsRet (dTup (dCons (dIx (qVal (dVar 0)) (dC (.int 0))) (dCons (dIx (qVal (dVar 1)) (dIx (qVal (dVar 0)) (dC (.int 1)))) (dCons (dIx (qVal (dVar 1)) (dIx (qVal (dVar 0)) (dC (.int 2)))) (dNil)))))) (dsNext)) (dsSeq (dsIf (dTest (dIn false (dIx (qVal (dVar 0)) (dC (.int 0))) (qVal (dTup (dCons (dC (.str "must")) (dCons (dC (.str "keep")) (dNil))))))) (dsRet (dTup (dCons (dIx (qVal (dVar 0)) (dC (.int 0))) (dCons (dIx (qVal (dVar 1)) (dIx (qVal (dVar 0)) (dC (.int 1)))) (dCons (dIx (qVal (dVar 0)) (dC (.int 2))) (dNil)))))) (dsNext)) (dsSeq (dsIf (dTest (dBin gEq (dIx (qVal (dVar 0)) (dC (.int 0))) (dC (.str "read")))) (dsRet (dTup (dCons (dC (.str "read")) (dCons (dIx (qVal (dVar 1)) (dIx (qVal (dVar 0)) (dC (.int 1)))) (dNil))))) (dsNext)) (dsSeq (dsIf (dTest (dBin gEq (dIx (qVal (dVar 0)) (dC (.int 0))) (dC (.str "out")))) (dsRet (dTup (dCons (dC (.str "out")) (dCons (dIx (qVal (dVar 0)) (dC (.int 1))) (dCons (dIx (qVal (dVar 1)) (dIx (qVal (dVar 0)) (dC (.int 2)))) (dNil)))))) (dsNext)) (dsRet (dVar 0)))))
def S__law_renamed (K : Fg) : List D → M D := scopeF (runF 2 (B__law_renamed K))
abbrev N__law_renamed : List Str := ["_law_line", "_law_names"]
abbrev P__law_renamed : List Str := ["_law_line", "_law_names"]
theorem sc__law_renamed : FnScope N__law_renamed P__law_renamed (defScope (top 49)) := ⟨rfl, rfl, rfl, by decide +kernel, rfl, by decide +kernel, by decide +kernel⟩
set_option maxHeartbeats 4000000 in
theorem b__law_renamed (F : Fx w K mg) : ∀ cdv A outer s H E, Room 1 (XB P w K mg base N__law_renamed "_law_renamed" (top 49) f cdv A outer s H E).A → DSs (XB P w K mg base N__law_renamed "_law_renamed" (top 49) f cdv A outer s H E) (WB E) (defBody (top 49)) (B__law_renamed K) := by
  intro cdv A outer s H E hr
  have tk : Takes (XB P w K mg base N__law_renamed "_law_renamed" (top 49) f cdv A outer s H E) (WB E) := takes_of rfl rfl rfl rfl
  exact dss_cons (ds_if (dt_w (dw_or (dt_in (de_ix (dq_val (de_var 0)) (de_int)) (dq_val (de_call0n (k__law_ops F) (hr.mono (by decide : 1 ≤ _))))) (dw_or1 (dt_cmp (od_eq hr.units) (de_ix (dq_val (de_var 0)) (de_int)) (de_str))))) (dss_one (ds_ret (de_tup (da_cons (de_ix (dq_val (de_var 0)) (de_int)) (da_cons (de_ix (dq_val (de_var 1)) (de_ix (dq_val (de_var 0)) (de_int))) (da_cons (de_ix (dq_val (de_var 1)) (de_ix (dq_val (de_var 0)) (de_int))) (da_nil))))))) (dss_nil)) (dss_cons (ds_if (dt_in (de_ix (dq_val (de_var 0)) (de_int)) (dq_val (de_tup (da_cons (de_str) (da_cons (de_str) (da_nil)))))) (dss_one (ds_ret (de_tup (da_cons (de_ix (dq_val (de_var 0)) (de_int)) (da_cons (de_ix (dq_val (de_var 1)) (de_ix (dq_val (de_var 0)) (de_int))) (da_cons (de_ix (dq_val (de_var 0)) (de_int)) (da_nil))))))) (dss_nil)) (dss_cons (ds_if (dt_cmp (od_eq hr.units) (de_ix (dq_val (de_var 0)) (de_int)) (de_str)) (dss_one (ds_ret (de_tup (da_cons (de_str) (da_cons (de_ix (dq_val (de_var 1)) (de_ix (dq_val (de_var 0)) (de_int))) (da_nil)))))) (dss_nil)) (dss_cons (ds_if (dt_cmp (od_eq hr.units) (de_ix (dq_val (de_var 0)) (de_int)) (de_str)) (dss_one (ds_ret (de_tup (da_cons (de_str) (da_cons (de_ix (dq_val (de_var 0)) (de_int)) (da_cons (de_ix (dq_val (de_var 1)) (de_ix (dq_val (de_var 0)) (de_int))) (da_nil))))))) (dss_nil)) (dss_one (ds_ret (de_var 0))))))
theorem k__law_renamed (F : Fx w K mg) : Known P w K mg base "_law_renamed" 2 2 (S__law_renamed K) := by
  obtain ⟨fd, hf⟩ := F.fn__law_renamed
  exact (known_of hf sc__law_renamed F.gl__law_renamed (fun_binds hf fun _ _ _ _ _ _ us hl => match us, hl with | [_, _], _ => rfl) rfl (b__law_renamed F)).scope

def B__law_op (K : Fg) : TO' := dsSeq (dsIf (dTest (dBin gEq (dVar 0) (dC (.str "add")))) (dsRet (dBin gMod (dInt (dBin gAdd (dVar 1) (dVar 2))) (dBin gShl (dC (.int 1)) (dVar 3)))) (dsNext)) (dsSeq (dsIf (dTest (dBin gEq (dVar 0) (dC (.str "sub")))) (dsRet (dBin gMod (dInt (dBin gSub (dVar 1) (dVar 2))) (dBin gShl (dC (.int 1)) (dVar 3)))) (dsNext)) (dsSeq (dsIf (dTest (dBin gEq (dVar 0) (dC (.str "and")))) (dsRet (dBin gBAnd (dVar 1) (dVar 2))) (dsNext)) (dsSeq (dsIf (dTest (dBin gEq (dVar 0) (dC (.str "or")))) (dsRet (dBin gBOr (dVar 1) (dVar 2))) (dsNext)) (dsSeq (dsIf (dTest (dBin gEq (dVar 0) (dC (.str "xor")))) (dsRet (dBin gBXor (dVar 1) (dVar 2))) (dsNext)) (dsSeq (dsIf (dTest (dBin gEq (dVar 0) (dC (.str "less")))) (dsRet (dIfE (dTest (dBin gLt (dVar 1) (dVar 2))) (dC (.int 1)) (dC (.int 0)))) (dsNext)) (dsRet (dIfE (dTest (dBin gEq (dVar 1) (dVar 2))) (dC (.int 1)) (dC (.int 0)))))))))
def S__law_op (K : Fg) : List D → M D := scopeF (runF 4 (B__law_op K))
abbrev N__law_op : List Str := ["_law_name", "_law_one", "_law_other", "_law_width"]
abbrev P__law_op : List Str := ["_law_name", "_law_one", "_law_other", "_law_width"]
theorem sc__law_op : FnScope N__law_op P__law_op (defScope (top 43)) := ⟨rfl, rfl, rfl, by decide +kernel, rfl, by decide +kernel, by decide +kernel⟩
set_option maxHeartbeats 4000000 in
theorem b__law_op (F : Fx w K mg) : ∀ cdv A outer s H E, Room 0 (XB P w K mg base N__law_op "_law_op" (top 43) f cdv A outer s H E).A → DSs (XB P w K mg base N__law_op "_law_op" (top 43) f cdv A outer s H E) (WB E) (defBody (top 43)) (B__law_op K) := by
  intro cdv A outer s H E hr
  have tk : Takes (XB P w K mg base N__law_op "_law_op" (top 43) f cdv A outer s H E) (WB E) := takes_of rfl rfl rfl rfl
  exact dss_cons (ds_if (dt_cmp (od_eq hr.units) (de_var 0) (de_str)) (dss_one (ds_ret (de_op od_mod (de_intOf (de_op od_add (de_var 1) (de_var 2)) F.fr_int) (de_op od_shl (de_int) (de_var 3))))) (dss_nil)) (dss_cons (ds_if (dt_cmp (od_eq hr.units) (de_var 0) (de_str)) (dss_one (ds_ret (de_op od_mod (de_intOf (de_op od_sub (de_var 1) (de_var 2)) F.fr_int) (de_op od_shl (de_int) (de_var 3))))) (dss_nil)) (dss_cons (ds_if (dt_cmp (od_eq hr.units) (de_var 0) (de_str)) (dss_one (ds_ret (de_op od_band (de_var 1) (de_var 2)))) (dss_nil)) (dss_cons (ds_if (dt_cmp (od_eq hr.units) (de_var 0) (de_str)) (dss_one (ds_ret (de_op od_bor (de_var 1) (de_var 2)))) (dss_nil)) (dss_cons (ds_if (dt_cmp (od_eq hr.units) (de_var 0) (de_str)) (dss_one (ds_ret (de_op od_bxor (de_var 1) (de_var 2)))) (dss_nil)) (dss_cons (ds_if (dt_cmp (od_eq hr.units) (de_var 0) (de_str)) (dss_one (ds_ret (de_if (dt_cmp od_lt (de_var 1) (de_var 2)) (de_int) (de_int)))) (dss_nil)) (dss_one (ds_ret (de_if (dt_cmp (od_eq hr.units) (de_var 1) (de_var 2)) (de_int) (de_int)))))))))
theorem k__law_op (F : Fx w K mg) : Known P w K mg base "_law_op" 1 4 (S__law_op K) := by
  obtain ⟨fd, hf⟩ := F.fn__law_op
  exact (known_of hf sc__law_op F.gl__law_op (fun_binds hf fun _ _ _ _ _ _ us hl => match us, hl with | [_, _, _, _], _ => rfl) rfl (b__law_op F)).scope

def B__law_shorter (K : Fg) : TO' := dsSeq (dsSet 3 (dIx (qVal (dVar 1)) (dIx (qVal (dVar 0)) (dC (.int 1))))) (dsSeq (dsSet 4 (dIx (qVal (dVar 1)) (dIx (qVal (dVar 0)) (dC (.int 2))))) (dsSeq (dsSet 5 (dBin gSub (dBin gShl (dC (.int 1)) (dVar 2)) (dC (.int 1)))) (dsSeq (dsIf (dAnd (dTest (dBin gEq (dIx (qVal (dVar 3)) (dC (.int 0))) (dC (.str "num")))) (dTest (dBin gEq (dIx (qVal (dVar 4)) (dC (.int 0))) (dC (.str "num"))))) (dsRet (dFz (dLst (dCons (dC (.str "num")) (dCons (dCall (S__law_op K) 4 (dCons (dIx (qVal (dVar 0)) (dC (.int 0))) (dCons (dIx (qVal (dVar 3)) (dC (.int 1))) (dCons (dIx (qVal (dVar 4)) (dC (.int 1))) (dCons (dVar 2) (dNil)))))) (dNil)))))) (dsNext)) (dsSeq (dsIf (dAnd (dTest (dIn false (dIx (qVal (dVar 0)) (dC (.int 0))) (qVal (dTup (dCons (dC (.str "add")) (dCons (dC (.str "or")) (dCons (dC (.str "xor")) (dCons (dC (.str "sub")) (dNil))))))))) (dTest (dBin gEq (dVar 4) (dTup (dCons (dC (.str "num")) (dCons (dC (.int 0)) (dNil))))))) (dsRet (dFz (dLst (dCons (dC (.str "line")) (dCons (dIx (qVal (dVar 0)) (dC (.int 1))) (dNil)))))) (dsNext)) (dsSeq (dsIf (dAnd (dTest (dIn false (dIx (qVal (dVar 0)) (dC (.int 0))) (qVal (dTup (dCons (dC (.str "add")) (dCons (dC (.str "or")) (dCons (dC (.str "xor")) (dNil)))))))) (dTest (dBin gEq (dVar 3) (dTup (dCons (dC (.str "num")) (dCons (dC (.int 0)) (dNil))))))) (dsRet (dFz (dLst (dCons (dC (.str "line")) (dCons (dIx (qVal (dVar 0)) (dC (.int 2))) (dNil)))))) (dsNext)) (dsSeq (dsIf (dAnd (dTest (dBin gEq (dIx (qVal (dVar 0)) (dC (.int 0))) (dC (.str "and")))) (dOr (dTest (dBin gEq (dVar 3) (dTup (dCons (dC (.str "num")) (dCons (dC (.int 0)) (dNil)))))) (dTest (dBin gEq (dVar 4) (dTup (dCons (dC (.str "num")) (dCons (dC (.int 0)) (dNil)))))))) (dsRet (dFz (dLst (dCons (dC (.str "num")) (dCons (dC (.int 0)) (dNil)))))) (dsNext)) (dsSeq (dsIf (dAnd (dTest (dBin gEq (dIx (qVal (dVar 0)) (dC (.int 0))) (dC (.str "and")))) (dTest (dBin gEq (dVar 3) (dTup (dCons (dC (.str "num")) (dCons (dVar 5) (dNil))))))) (dsRet (dFz (dLst (dCons (dC (.str "line")) (dCons (dIx (qVal (dVar 0)) (dC (.int 2))) (dNil)))))) (dsNext)) (dsSeq (dsIf (dAnd (dTest (dBin gEq (dIx (qVal (dVar 0)) (dC (.int 0))) (dC (.str "and")))) (dTest (dBin gEq (dVar 4) (dTup (dCons (dC (.str "num")) (dCons (dVar 5) (dNil))))))) (dsRet (dFz (dLst (dCons (dC (.str "line")) (dCons (dIx (qVal (dVar 0)) (dC (.int 1))) (dNil)))))) (dsNext)) (dsSeq (dsIf (dAnd (dTest (dBin gEq (dIx (qVal (dVar 0)) (dC (.int 0))) (dC (.str "less")))) (dTest (dBin gEq (dVar 4) (dTup (dCons (dC (.str "num")) (dCons (dC (.int 0)) (dNil))))))) (dsRet (dFz (dLst (dCons (dC (.str "num")) (dCons (dC (.int 0)) (dNil)))))) (dsNext)) (dsSeq (dsIf (dAnd (dTest (dBin gEq (dIx (qVal (dVar 0)) (dC (.int 1))) (dIx (qVal (dVar 0)) (dC (.int 2))))) (dTest (dIn false (dIx (qVal (dVar 0)) (dC (.int 0))) (qVal (dTup (dCons (dC (.str "sub")) (dCons (dC (.str "xor")) (dCons (dC (.str "less")) (dCons (dC (.str "same")) (dNil)))))))))) (dsRet (dFz (dLst (dCons (dC (.str "num")) (dCons (dIfE (dTest (dBin gEq (dIx (qVal (dVar 0)) (dC (.int 0))) (dC (.str "same")))) (dC (.int 1)) (dC (.int 0))) (dNil)))))) (dsNext)) (dsSeq (dsIf (dAnd (dTest (dBin gEq (dIx (qVal (dVar 0)) (dC (.int 1))) (dIx (qVal (dVar 0)) (dC (.int 2))))) (dTest (dIn false (dIx (qVal (dVar 0)) (dC (.int 0))) (qVal (dTup (dCons (dC (.str "and")) (dCons (dC (.str "or")) (dNil)))))))) (dsRet (dFz (dLst (dCons (dC (.str "line")) (dCons (dIx (qVal (dVar 0)) (dC (.int 1))) (dNil)))))) (dsNext)) (dsRet (dFz (dLst (dCons (dC (.str "none")) (dCons (dC (.int 0)) (dNil)))))))))))))))))
def S__law_shorter (K : Fg) : List D → M D := scopeF (runF 6 (B__law_shorter K))
abbrev N__law_shorter : List Str := ["_law_line", "_law_lines", "_law_word_here", "_law_one", "_law_other", "_law_top"]
abbrev P__law_shorter : List Str := ["_law_line", "_law_lines", "_law_word_here"]
theorem sc__law_shorter : FnScope N__law_shorter P__law_shorter (defScope (top 51)) := ⟨rfl, rfl, rfl, by decide +kernel, rfl, by decide +kernel, by decide +kernel⟩
set_option maxHeartbeats 4000000 in
theorem b__law_shorter (F : Fx w K mg) : ∀ cdv A outer s H E, Room 1 (XB P w K mg base N__law_shorter "_law_shorter" (top 51) f cdv A outer s H E).A → DSs (XB P w K mg base N__law_shorter "_law_shorter" (top 51) f cdv A outer s H E) (WB E) (defBody (top 51)) (B__law_shorter K) := by
  intro cdv A outer s H E hr
  have tk : Takes (XB P w K mg base N__law_shorter "_law_shorter" (top 51) f cdv A outer s H E) (WB E) := takes_of rfl rfl rfl rfl
  exact dss_cons (ds_set (i := 3) sc__law_shorter.nd (de_ix (dq_val (de_var 1)) (de_ix (dq_val (de_var 0)) (de_int)))) (dss_cons (ds_set (i := 4) sc__law_shorter.nd (de_ix (dq_val (de_var 1)) (de_ix (dq_val (de_var 0)) (de_int)))) (dss_cons (ds_set (i := 5) sc__law_shorter.nd (de_op od_sub (de_op od_shl (de_int) (de_var 2)) (de_int))) (dss_cons (ds_if (dt_w (dw_and (dt_cmp (od_eq hr.units) (de_ix (dq_val (de_var 3)) (de_int)) (de_str)) (dw_and1 (dt_cmp (od_eq hr.units) (de_ix (dq_val (de_var 4)) (de_int)) (de_str))))) (dss_one (ds_ret (de_fz (df_lst (da_cons (de_str) (da_cons (de_call (k__law_op F) (hr.mono (by decide : 1 ≤ _)) tk (da_cons (de_ix (dq_val (de_var 0)) (de_int)) (da_cons (de_ix (dq_val (de_var 3)) (de_int)) (da_cons (de_ix (dq_val (de_var 4)) (de_int)) (da_cons (de_var 2) (da_nil)))))) (da_nil))))))) (dss_nil)) (dss_cons (ds_if (dt_w (dw_and (dt_in (de_ix (dq_val (de_var 0)) (de_int)) (dq_val (de_tup (da_cons (de_str) (da_cons (de_str) (da_cons (de_str) (da_cons (de_str) (da_nil)))))))) (dw_and1 (dt_cmp (od_eq hr.units) (de_var 4) (de_tup (da_cons (de_str) (da_cons (de_int) (da_nil)))))))) (dss_one (ds_ret (de_fz (df_lst (da_cons (de_str) (da_cons (de_ix (dq_val (de_var 0)) (de_int)) (da_nil))))))) (dss_nil)) (dss_cons (ds_if (dt_w (dw_and (dt_in (de_ix (dq_val (de_var 0)) (de_int)) (dq_val (de_tup (da_cons (de_str) (da_cons (de_str) (da_cons (de_str) (da_nil))))))) (dw_and1 (dt_cmp (od_eq hr.units) (de_var 3) (de_tup (da_cons (de_str) (da_cons (de_int) (da_nil)))))))) (dss_one (ds_ret (de_fz (df_lst (da_cons (de_str) (da_cons (de_ix (dq_val (de_var 0)) (de_int)) (da_nil))))))) (dss_nil)) (dss_cons (ds_if (dt_w (dw_and (dt_cmp (od_eq hr.units) (de_ix (dq_val (de_var 0)) (de_int)) (de_str)) (dw_and1 (dt_w (dw_or (dt_cmp (od_eq hr.units) (de_var 3) (de_tup (da_cons (de_str) (da_cons (de_int) (da_nil))))) (dw_or1 (dt_cmp (od_eq hr.units) (de_var 4) (de_tup (da_cons (de_str) (da_cons (de_int) (da_nil))))))))))) (dss_one (ds_ret (de_fz (df_lst (da_cons (de_str) (da_cons (de_int) (da_nil))))))) (dss_nil)) (dss_cons (ds_if (dt_w (dw_and (dt_cmp (od_eq hr.units) (de_ix (dq_val (de_var 0)) (de_int)) (de_str)) (dw_and1 (dt_cmp (od_eq hr.units) (de_var 3) (de_tup (da_cons (de_str) (da_cons (de_var 5) (da_nil)))))))) (dss_one (ds_ret (de_fz (df_lst (da_cons (de_str) (da_cons (de_ix (dq_val (de_var 0)) (de_int)) (da_nil))))))) (dss_nil)) (dss_cons (ds_if (dt_w (dw_and (dt_cmp (od_eq hr.units) (de_ix (dq_val (de_var 0)) (de_int)) (de_str)) (dw_and1 (dt_cmp (od_eq hr.units) (de_var 4) (de_tup (da_cons (de_str) (da_cons (de_var 5) (da_nil)))))))) (dss_one (ds_ret (de_fz (df_lst (da_cons (de_str) (da_cons (de_ix (dq_val (de_var 0)) (de_int)) (da_nil))))))) (dss_nil)) (dss_cons (ds_if (dt_w (dw_and (dt_cmp (od_eq hr.units) (de_ix (dq_val (de_var 0)) (de_int)) (de_str)) (dw_and1 (dt_cmp (od_eq hr.units) (de_var 4) (de_tup (da_cons (de_str) (da_cons (de_int) (da_nil)))))))) (dss_one (ds_ret (de_fz (df_lst (da_cons (de_str) (da_cons (de_int) (da_nil))))))) (dss_nil)) (dss_cons (ds_if (dt_w (dw_and (dt_cmp (od_eq hr.units) (de_ix (dq_val (de_var 0)) (de_int)) (de_ix (dq_val (de_var 0)) (de_int))) (dw_and1 (dt_in (de_ix (dq_val (de_var 0)) (de_int)) (dq_val (de_tup (da_cons (de_str) (da_cons (de_str) (da_cons (de_str) (da_cons (de_str) (da_nil))))))))))) (dss_one (ds_ret (de_fz (df_lst (da_cons (de_str) (da_cons (de_if (dt_cmp (od_eq hr.units) (de_ix (dq_val (de_var 0)) (de_int)) (de_str)) (de_int) (de_int)) (da_nil))))))) (dss_nil)) (dss_cons (ds_if (dt_w (dw_and (dt_cmp (od_eq hr.units) (de_ix (dq_val (de_var 0)) (de_int)) (de_ix (dq_val (de_var 0)) (de_int))) (dw_and1 (dt_in (de_ix (dq_val (de_var 0)) (de_int)) (dq_val (de_tup (da_cons (de_str) (da_cons (de_str) (da_nil))))))))) (dss_one (ds_ret (de_fz (df_lst (da_cons (de_str) (da_cons (de_ix (dq_val (de_var 0)) (de_int)) (da_nil))))))) (dss_nil)) (dss_one (ds_ret (de_fz (df_lst (da_cons (de_str) (da_cons (de_int) (da_nil))))))))))))))))))
theorem k__law_shorter (F : Fx w K mg) : Known P w K mg base "_law_shorter" 2 3 (S__law_shorter K) := by
  obtain ⟨fd, hf⟩ := F.fn__law_shorter
  exact (known_of hf sc__law_shorter F.gl__law_shorter (fun_binds hf fun _ _ _ _ _ _ us hl => match us, hl with | [_, _, _], _ => rfl) rfl (b__law_shorter F)).scope

def B__law_marks_renamed (K : Fg) : TO' := dsSeq (dsSet 2 (dAmb (dLst (dNil)))) (dsSeq (dsFor (dIter (dVar 0)) (gtName 3) (dsAppM (dVar 2) (dFz (dLc [4] (dIter (dVar 3)) (gtName 4) (dYes) (dIx (qVal (dVar 1)) (dVar 4)))))) (dsSeq (dsFzM 2) (dsRet (dVar 2))))
def S__law_marks_renamed (K : Fg) : List D → M D := scopeF (runF 5 (B__law_marks_renamed K))
abbrev N__law_marks_renamed : List Str := ["_law_marks", "_law_names", "_law_made", "_law_mark", "_law_index"]
abbrev P__law_marks_renamed : List Str := ["_law_marks", "_law_names"]
theorem sc__law_marks_renamed : FnScope N__law_marks_renamed P__law_marks_renamed (defScope (top 50)) := ⟨rfl, rfl, rfl, by decide +kernel, rfl, by decide +kernel, by decide +kernel⟩
set_option maxHeartbeats 4000000 in
theorem b__law_marks_renamed (F : Fx w K mg) : ∀ cdv A outer s H E, Room 0 (XB P w K mg base N__law_marks_renamed "_law_marks_renamed" (top 50) f cdv A outer s H E).A → DSs (XB P w K mg base N__law_marks_renamed "_law_marks_renamed" (top 50) f cdv A outer s H E) (WB E) (defBody (top 50)) (B__law_marks_renamed K) := by
  intro cdv A outer s H E hr
  have tk : Takes (XB P w K mg base N__law_marks_renamed "_law_marks_renamed" (top 50) f cdv A outer s H E) (WB E) := takes_of rfl rfl rfl rfl
  exact dss_cons (ds_set (i := 2) sc__law_marks_renamed.nd (de_amb (df_lst (da_nil)))) (dss_cons (ds_for (passes_of rfl) rfl (di_seq (de_var 0)) (dg_name 3 sc__law_marks_renamed.nd) (dss_one (ds_appM (de_var 2) (de_fz (df_lc (own := [("_law_index", 4)]) rfl sc__law_marks_renamed.nd (di_seq (de_var 3)) (blkOk_by (by rfl)) (fun _ _ _ _ _ => dg_name 4 sc__law_marks_renamed.nd) (fun _ _ _ _ _ => dts_nil) (fun _ _ _ _ _ => de_ix (dq_val (de_var 1)) (de_var 4))))))) (dss_fzM 2 (dss_one (ds_ret (de_var 2)))))
theorem k__law_marks_renamed (F : Fx w K mg) : Known P w K mg base "_law_marks_renamed" 1 2 (S__law_marks_renamed K) := by
  obtain ⟨fd, hf⟩ := F.fn__law_marks_renamed
  exact (known_of hf sc__law_marks_renamed F.gl__law_marks_renamed (fun_binds hf fun _ _ _ _ _ _ us hl => match us, hl with | [_, _], _ => rfl) rfl (b__law_marks_renamed F)).scope

def B__law_known (K : Fg) : TO' := dsSeq (dsSet 2 (dAmb (dLst (dNil)))) (dsSeq (dsSet 3 (dAmb (dLst (dNil)))) (dsSeq (dsFor (dRng1 (dLen (qVal (dIx (qVal (dVar 0)) (dC (.int 0)))))) (gtName 4) (dsSeq (dsSet 5 (dCall (S__law_renamed K) 2 (dCons (dIx (qVal (dIx (qVal (dVar 0)) (dC (.int 0)))) (dVar 4)) (dCons (dVar 3) (dNil))))) (dsSeq (dsSet 6 (dVar 4)) (dsSeq (dsIf (dTest (dIn false (dIx (qVal (dVar 5)) (dC (.int 0))) (qVal (dCall0 (S__law_ops K))))) (dsSeq (dsSet 7 (dCall (S__law_shorter K) 3 (dCons (dVar 5) (dCons (dVar 2) (dCons (dVar 1) (dNil)))))) (dsIf (dTest (dBin gEq (dIx (qVal (dVar 7)) (dC (.int 0))) (dC (.str "num")))) (dsSet 5 (dTup (dCons (dC (.str "num")) (dCons (dIx (qVal (dVar 7)) (dC (.int 1))) (dNil))))) (dsIf (dTest (dBin gEq (dIx (qVal (dVar 7)) (dC (.int 0))) (dC (.str "line")))) (dsSet 6 (dIx (qVal (dVar 7)) (dC (.int 1)))) (dsNext)))) (dsNext)) (dsSeq (dsAppM (dVar 2) (dVar 5)) (dsAppM (dVar 3) (dVar 6))))))) (dsSeq (dsFzM 2) (dsSeq (dsFzM 3) (dsRet (dFz (dLst (dCons (dVar 2) (dCons (dCall (S__law_marks_renamed K) 2 (dCons (dIx (qVal (dVar 0)) (dC (.int 1))) (dCons (dVar 3) (dNil)))) (dNil))))))))))
def S__law_known (K : Fg) : List D → M D := scopeF (runF 8 (B__law_known K))
abbrev N__law_known : List Str := ["_law_row", "_law_word_here", "_law_lines", "_law_names", "_law_at", "_law_line", "_law_name", "_law_short"]
abbrev P__law_known : List Str := ["_law_row", "_law_word_here"]
theorem sc__law_known : FnScope N__law_known P__law_known (defScope (top 52)) := ⟨rfl, rfl, rfl, by decide +kernel, rfl, by decide +kernel, by decide +kernel⟩
set_option maxHeartbeats 4000000 in
theorem b__law_known (F : Fx w K mg) : ∀ cdv A outer s H E, Room 2 (XB P w K mg base N__law_known "_law_known" (top 52) f cdv A outer s H E).A → DSs (XB P w K mg base N__law_known "_law_known" (top 52) f cdv A outer s H E) (WB E) (defBody (top 52)) (B__law_known K) := by
  intro cdv A outer s H E hr
  have tk : Takes (XB P w K mg base N__law_known "_law_known" (top 52) f cdv A outer s H E) (WB E) := takes_of rfl rfl rfl rfl
  exact dss_cons (ds_set (i := 2) sc__law_known.nd (de_amb (df_lst (da_nil)))) (dss_cons (ds_set (i := 3) sc__law_known.nd (de_amb (df_lst (da_nil)))) (dss_cons (ds_for (passes_of rfl) rfl (di_rng1 (de_len (dq_val (de_ix (dq_val (de_var 0)) (de_int))) F.fr_len) F.fr_range) (dg_name 4 sc__law_known.nd) (dss_cons (ds_set (i := 5) sc__law_known.nd (de_call (k__law_renamed F) (hr.mono (by decide : 2 ≤ _)) tk (da_cons (de_ix (dq_val (de_ix (dq_val (de_var 0)) (de_int))) (de_var 4)) (da_cons (de_var 3) (da_nil))))) (dss_cons (ds_set (i := 6) sc__law_known.nd (de_var 4)) (dss_cons (ds_if (dt_in (de_ix (dq_val (de_var 5)) (de_int)) (dq_val (de_call0n (k__law_ops F) (hr.mono (by decide : 1 ≤ _))))) (dss_cons (ds_set (i := 7) sc__law_known.nd (de_call (k__law_shorter F) (hr.mono (by decide : 2 ≤ _)) tk (da_cons (de_var 5) (da_cons (de_var 2) (da_cons (de_var 1) (da_nil)))))) (dss_one (ds_if (dt_cmp (od_eq hr.units) (de_ix (dq_val (de_var 7)) (de_int)) (de_str)) (dss_one (ds_set (i := 5) sc__law_known.nd (de_tup (da_cons (de_str) (da_cons (de_ix (dq_val (de_var 7)) (de_int)) (da_nil)))))) (dss_one (ds_if (dt_cmp (od_eq hr.units) (de_ix (dq_val (de_var 7)) (de_int)) (de_str)) (dss_one (ds_set (i := 6) sc__law_known.nd (de_ix (dq_val (de_var 7)) (de_int)))) (dss_nil)))))) (dss_nil)) (dss_cons (ds_appM (de_var 2) (de_var 5)) (dss_one (ds_appM (de_var 3) (de_var 6)))))))) (dss_fzM 2 (dss_fzM 3 (dss_one (ds_ret (de_fz (df_lst (da_cons (de_var 2) (da_cons (de_call (k__law_marks_renamed F) (hr.mono (by decide : 1 ≤ _)) tk (da_cons (de_ix (dq_val (de_var 0)) (de_int)) (da_cons (de_var 3) (da_nil)))) (da_nil)))))))))))
theorem k__law_known (F : Fx w K mg) : Known P w K mg base "_law_known" 3 2 (S__law_known K) := by
  obtain ⟨fd, hf⟩ := F.fn__law_known
  exact (known_of hf sc__law_known F.gl__law_known (fun_binds hf fun _ _ _ _ _ _ us hl => match us, hl with | [_, _], _ => rfl) rfl (b__law_known F)).scope

def B_once (K : Fg) : TO' := dsSeq (dsSet 2 (dAmb (dLst (dNil)))) (dsSeq (dsSet 3 (dAmb (dLst (dNil)))) (dsSeq (dsSet 4 dNewT) (dsSeq (dsFor (dEnum (dFld [He.ga K "Middle"] "lines" (dVar 0))) (gtTup 2 (gtCons (gtName 5) (gtCons (gtName 6) (gtNil)))) (dsSeq (dsSet 7 (dCall (S_renamed K) 2 (dCons (dVar 6) (dCons (dVar 3) (dNil))))) (dsSeq (dsSet 8 (dOrV (dBin gEq (dIx (qVal (dVar 7)) (dC (.int 0))) (dC (.str "num"))) (dCall (S_is_op K) 1 (dCons (dVar 7) (dNil))))) (dsSeq (dsAppM (dVar 3) (dIfE (dTruth (dVar 8)) (dSetdT (dVar 4) (dVar 7) (dVar 5)) (dVar 5))) (dsAppM (dVar 2) (dVar 7)))))) (dsSeq (dsFzM 2) (dsSeq (dsFzM 3) (dsRet (dMake (He.ga K "Middle") (S_Middle_init K) 3 (dCons (dVar 2) (dCons (dCall (S_marks_renamed K) 2 (dCons (dVar 0) (dCons (dVar 3) (dNil)))) (dNil))))))))))
def S_once (K : Fg) : List D → M D := scopeF (runF 9 (B_once K))
abbrev N_once : List Str := ["middle", "word", "lines", "names", "first", "at", "line", "told", "is_plain"]
abbrev P_once : List Str := ["middle", "word"]
theorem sc_once : FnScope N_once P_once (defScope (top 31)) := ⟨rfl, rfl, rfl, by decide +kernel, rfl, by decide +kernel, by decide +kernel⟩
set_option maxHeartbeats 4000000 in
theorem b_once (F : Fx w K mg) : ∀ cdv A outer s H E, Room 4 (XB P w K mg base N_once "once" (top 31) f cdv A outer s H E).A → DSs (XB P w K mg base N_once "once" (top 31) f cdv A outer s H E) (WB E) (defBody (top 31)) (B_once K) := by
  intro cdv A outer s H E hr
  have tk : Takes (XB P w K mg base N_once "once" (top 31) f cdv A outer s H E) (WB E) := takes_of rfl rfl rfl rfl
  exact dss_cons (ds_set (i := 2) sc_once.nd (de_amb (df_lst (da_nil)))) (dss_cons (ds_set (i := 3) sc_once.nd (de_amb (df_lst (da_nil)))) (dss_cons (ds_set (i := 4) sc_once.nd de_newT) (dss_cons (ds_for (passes_of rfl) rfl (di_enum (de_fld (S := [He.ga K "Middle"]) (F.fld_Middle_lines) (de_var 0)) F.fr_enumerate) (dg_tup rfl (dgs_cons (dg_name 5 sc_once.nd) (dgs_cons (dg_name 6 sc_once.nd) (dgs_nil)))) (dss_cons (ds_set (i := 7) sc_once.nd (de_call (k_renamed F) (hr.mono (by decide : 4 ≤ _)) tk (da_cons (de_var 6) (da_cons (de_var 3) (da_nil))))) (dss_cons (ds_set (i := 8) sc_once.nd (de_or (de_cmp (od_eq hr.units) (de_ix (dq_val (de_var 7)) (de_int)) (de_str)) (de_one (de_call (k_is_op F) (hr.mono (by decide : 2 ≤ _)) tk (da_cons (de_var 7) (da_nil)))))) (dss_cons (ds_appM (de_var 3) (de_if (dt_truth (de_var 8)) (de_setdT (units1 hr) (de_var 4) (de_var 7) (de_var 5) ⟨rfl, rfl, rfl, rfl⟩) (de_var 5))) (dss_one (ds_appM (de_var 2) (de_var 7))))))) (dss_fzM 2 (dss_fzM 3 (dss_one (ds_ret (de_make (k_Middle_init F) (hr.mono (by decide : 2 ≤ _)) tk (da_cons (de_var 2) (da_cons (de_call (k_marks_renamed F) (hr.mono (by decide : 1 ≤ _)) tk (da_cons (de_var 0) (da_cons (de_var 3) (da_nil)))) (da_nil)))))))))))
theorem k_once (F : Fx w K mg) : Known P w K mg base "once" 5 2 (S_once K) := by
  obtain ⟨fd, hf⟩ := F.fn_once
  exact (known_of hf sc_once F.gl_once (fun_binds hf fun _ _ _ _ _ _ us hl => match us, hl with | [_, _], _ => rfl) rfl (b_once F)).scope

def B__law_once (K : Fg) : TO' := dsSeq (dsSet 1 (dAmb (dLst (dNil)))) (dsSeq (dsSet 2 (dAmb (dLst (dNil)))) (dsSeq (dsSet 3 dNewT) (dsSeq (dsFor (dRng1 (dLen (qVal (dIx (qVal (dVar 0)) (dC (.int 0)))))) (gtName 4) (dsSeq (dsSet 5 (dCall (S__law_renamed K) 2 (dCons (dIx (qVal (dIx (qVal (dVar 0)) (dC (.int 0)))) (dVar 4)) (dCons (dVar 2) (dNil))))) (dsSeq (dsSet 6 (dVar 4)) (dsSeq (dsIf (dOr (dTest (dBin gEq (dIx (qVal (dVar 5)) (dC (.int 0))) (dC (.str "num")))) (dTest (dIn false (dIx (qVal (dVar 5)) (dC (.int 0))) (qVal (dCall0 (S__law_ops K)))))) (dsIf (dTest (dDIn false (dVar 5) (dVar 3))) (dsSet 6 (dDGet (dVar 3) (dVar 5))) (dsDPut (dVar 4) (dVar 3) (dVar 5))) (dsNext)) (dsSeq (dsAppM (dVar 1) (dVar 5)) (dsAppM (dVar 2) (dVar 6))))))) (dsSeq (dsFzM 1) (dsSeq (dsFzM 2) (dsRet (dFz (dLst (dCons (dVar 1) (dCons (dCall (S__law_marks_renamed K) 2 (dCons (dIx (qVal (dVar 0)) (dC (.int 1))) (dCons (dVar 2) (dNil)))) (dNil)))))))))))
def S__law_once (K : Fg) : List D → M D := scopeF (runF 7 (B__law_once K))
abbrev N__law_once : List Str := ["_law_row", "_law_lines", "_law_names", "_law_first", "_law_at", "_law_line", "_law_name"]
abbrev P__law_once : List Str := ["_law_row"]
theorem sc__law_once : FnScope N__law_once P__law_once (defScope (top 53)) := ⟨rfl, rfl, rfl, by decide +kernel, rfl, by decide +kernel, by decide +kernel⟩
set_option maxHeartbeats 4000000 in
theorem b__law_once (F : Fx w K mg) : ∀ cdv A outer s H E, Room 2 (XB P w K mg base N__law_once "_law_once" (top 53) f cdv A outer s H E).A → DSs (XB P w K mg base N__law_once "_law_once" (top 53) f cdv A outer s H E) (WB E) (defBody (top 53)) (B__law_once K) := by
  intro cdv A outer s H E hr
  have tk : Takes (XB P w K mg base N__law_once "_law_once" (top 53) f cdv A outer s H E) (WB E) := takes_of rfl rfl rfl rfl
  exact dss_cons (ds_set (i := 1) sc__law_once.nd (de_amb (df_lst (da_nil)))) (dss_cons (ds_set (i := 2) sc__law_once.nd (de_amb (df_lst (da_nil)))) (dss_cons (ds_set (i := 3) sc__law_once.nd de_newT) (dss_cons (ds_for (passes_of rfl) rfl (di_rng1 (de_len (dq_val (de_ix (dq_val (de_var 0)) (de_int))) F.fr_len) F.fr_range) (dg_name 4 sc__law_once.nd) (dss_cons (ds_set (i := 5) sc__law_once.nd (de_call (k__law_renamed F) (hr.mono (by decide : 2 ≤ _)) tk (da_cons (de_ix (dq_val (de_ix (dq_val (de_var 0)) (de_int))) (de_var 4)) (da_cons (de_var 2) (da_nil))))) (dss_cons (ds_set (i := 6) sc__law_once.nd (de_var 4)) (dss_cons (ds_if (dt_w (dw_or (dt_cmp (od_eq hr.units) (de_ix (dq_val (de_var 5)) (de_int)) (de_str)) (dw_or1 (dt_in (de_ix (dq_val (de_var 5)) (de_int)) (dq_val (de_call0n (k__law_ops F) (hr.mono (by decide : 1 ≤ _)))))))) (dss_one (ds_if (dt_din (units1 hr) (de_var 5) (de_var 3)) (dss_one (ds_set (i := 6) sc__law_once.nd (de_dget (units1 hr) (de_var 3) (de_var 5)))) (dss_one (ds_dput (units1 hr) (de_var 4) (de_var 3) (de_var 5))))) (dss_nil)) (dss_cons (ds_appM (de_var 1) (de_var 5)) (dss_one (ds_appM (de_var 2) (de_var 6)))))))) (dss_fzM 1 (dss_fzM 2 (dss_one (ds_ret (de_fz (df_lst (da_cons (de_var 1) (da_cons (de_call (k__law_marks_renamed F) (hr.mono (by decide : 1 ≤ _)) tk (da_cons (de_ix (dq_val (de_var 0)) (de_int)) (da_cons (de_var 2) (da_nil)))) (da_nil))))))))))))
theorem k__law_once (F : Fx w K mg) : Known P w K mg base "_law_once" 3 1 (S__law_once K) := by
  obtain ⟨fd, hf⟩ := F.fn__law_once
  exact (known_of hf sc__law_once F.gl__law_once (fun_binds hf fun _ _ _ _ _ _ us hl => match us, hl with | [_], _ => rfl) rfl (b__law_once F)).scope

def B_lines_left (K : Fg) : TO' := dsSeq (dsSet 2 (dAmb (dLst (dNil)))) (dsSeq (dsSet 3 (dAmb (dLst (dNil)))) (dsSeq (dsFor (dZip (dFld [He.ga K "Middle"] "lines" (dVar 0)) (dVar 1)) (gtTup 2 (gtCons (gtName 4) (gtCons (gtName 5) (gtNil)))) (dsSeq (dsAppM (dVar 3) (dLen (qVal (dVar 2)))) (dsIf (dTruth (dVar 5)) (dsAppM (dVar 2) (dCall (S_renamed K) 2 (dCons (dVar 4) (dCons (dVar 3) (dNil))))) (dsNext)))) (dsSeq (dsFzM 2) (dsSeq (dsFzM 3) (dsRet (dMake (He.ga K "Middle") (S_Middle_init K) 3 (dCons (dVar 2) (dCons (dCall (S_marks_renamed K) 2 (dCons (dVar 0) (dCons (dVar 3) (dNil)))) (dNil)))))))))
def S_lines_left (K : Fg) : List D → M D := scopeF (runF 6 (B_lines_left K))
abbrev N_lines_left : List Str := ["middle", "stays", "lines", "names", "line", "is_left"]
abbrev P_lines_left : List Str := ["middle", "stays"]
theorem sc_lines_left : FnScope N_lines_left P_lines_left (defScope (top 28)) := ⟨rfl, rfl, rfl, by decide +kernel, rfl, by decide +kernel, by decide +kernel⟩
set_option maxHeartbeats 4000000 in
theorem b_lines_left (F : Fx w K mg) : ∀ cdv A outer s H E, Room 4 (XB P w K mg base N_lines_left "lines_left" (top 28) f cdv A outer s H E).A → DSs (XB P w K mg base N_lines_left "lines_left" (top 28) f cdv A outer s H E) (WB E) (defBody (top 28)) (B_lines_left K) := by
  intro cdv A outer s H E hr
  have tk : Takes (XB P w K mg base N_lines_left "lines_left" (top 28) f cdv A outer s H E) (WB E) := takes_of rfl rfl rfl rfl
  exact dss_cons (ds_set (i := 2) sc_lines_left.nd (de_amb (df_lst (da_nil)))) (dss_cons (ds_set (i := 3) sc_lines_left.nd (de_amb (df_lst (da_nil)))) (dss_cons (ds_for (passes_of rfl) rfl (di_zip (de_fld (S := [He.ga K "Middle"]) (F.fld_Middle_lines) (de_var 0)) (de_var 1) F.fr_zip) (dg_tup rfl (dgs_cons (dg_name 4 sc_lines_left.nd) (dgs_cons (dg_name 5 sc_lines_left.nd) (dgs_nil)))) (dss_cons (ds_appM (de_var 3) (de_len (dq_val (de_var 2)) F.fr_len)) (dss_one (ds_if (dt_truth (de_var 5)) (dss_one (ds_appM (de_var 2) (de_call (k_renamed F) (hr.mono (by decide : 4 ≤ _)) tk (da_cons (de_var 4) (da_cons (de_var 3) (da_nil)))))) (dss_nil))))) (dss_fzM 2 (dss_fzM 3 (dss_one (ds_ret (de_make (k_Middle_init F) (hr.mono (by decide : 2 ≤ _)) tk (da_cons (de_var 2) (da_cons (de_call (k_marks_renamed F) (hr.mono (by decide : 1 ≤ _)) tk (da_cons (de_var 0) (da_cons (de_var 3) (da_nil)))) (da_nil))))))))))
theorem k_lines_left (F : Fx w K mg) : Known P w K mg base "lines_left" 5 2 (S_lines_left K) := by
  obtain ⟨fd, hf⟩ := F.fn_lines_left
  exact (known_of hf sc_lines_left F.gl_lines_left (fun_binds hf fun _ _ _ _ _ _ us hl => match us, hl with | [_, _], _ => rfl) rfl (b_lines_left F)).scope

def B_never_leaves (K : Fg) : TO' := dsSeq (dsIf (dOr (dTest (dIn true (dIx (qVal (dVar 0)) (dC (.int 0))) (qVal (dTup (dCons (dC (.str "must")) (dCons (dC (.str "keep")) (dNil))))))) (dTest (dBin gNe (dIx (qVal (dIx (qVal (dVar 1)) (dIx (qVal (dVar 0)) (dC (.int 1))))) (dC (.int 0))) (dC (.str "num"))))) (dsRet (dC (.bl false))) (dsNext)) (dsSeq (dsSet 2 (dIx (qVal (dIx (qVal (dVar 1)) (dIx (qVal (dVar 0)) (dC (.int 1))))) (dC (.int 1)))) (dsRet (dIfE (dTest (dBin gEq (dIx (qVal (dVar 0)) (dC (.int 0))) (dC (.str "must")))) (dBin gNe (dVar 2) (dC (.int 0))) (dBin gEq (dVar 2) (dIx (qVal (dVar 0)) (dC (.int 2)))))))
def S_never_leaves (K : Fg) : List D → M D := scopeF (runF 3 (B_never_leaves K))
abbrev N_never_leaves : List Str := ["line", "lines", "number"]
abbrev P_never_leaves : List Str := ["line", "lines"]
theorem sc_never_leaves : FnScope N_never_leaves P_never_leaves (defScope (top 29)) := ⟨rfl, rfl, rfl, by decide +kernel, rfl, by decide +kernel, by decide +kernel⟩
set_option maxHeartbeats 4000000 in
theorem b_never_leaves (F : Fx w K mg) : ∀ cdv A outer s H E, Room 0 (XB P w K mg base N_never_leaves "never_leaves" (top 29) f cdv A outer s H E).A → DSs (XB P w K mg base N_never_leaves "never_leaves" (top 29) f cdv A outer s H E) (WB E) (defBody (top 29)) (B_never_leaves K) := by
  intro cdv A outer s H E hr
  have tk : Takes (XB P w K mg base N_never_leaves "never_leaves" (top 29) f cdv A outer s H E) (WB E) := takes_of rfl rfl rfl rfl
  exact dss_cons (ds_if (dt_w (dw_or (dt_notIn (de_ix (dq_val (de_var 0)) (de_int)) (dq_val (de_tup (da_cons (de_str) (da_cons (de_str) (da_nil)))))) (dw_or1 (dt_cmp (od_ne hr.units) (de_ix (dq_val (de_ix (dq_val (de_var 1)) (de_ix (dq_val (de_var 0)) (de_int)))) (de_int)) (de_str))))) (dss_one (ds_ret (de_bl))) (dss_nil)) (dss_cons (ds_set (i := 2) sc_never_leaves.nd (de_ix (dq_val (de_ix (dq_val (de_var 1)) (de_ix (dq_val (de_var 0)) (de_int)))) (de_int))) (dss_one (ds_ret (de_if (dt_cmp (od_eq hr.units) (de_ix (dq_val (de_var 0)) (de_int)) (de_str)) (de_cmp (od_ne hr.units) (de_var 2) (de_int)) (de_cmp (od_eq hr.units) (de_var 2) (de_ix (dq_val (de_var 0)) (de_int)))))))
theorem k_never_leaves (F : Fx w K mg) : Known P w K mg base "never_leaves" 1 2 (S_never_leaves K) := by
  obtain ⟨fd, hf⟩ := F.fn_never_leaves
  exact (known_of hf sc_never_leaves F.gl_never_leaves (fun_binds hf fun _ _ _ _ _ _ us hl => match us, hl with | [_, _], _ => rfl) rfl (b_never_leaves F)).scope

def B_spared (K : Fg) : TO' := dsRet (dCall (S_lines_left K) 2 (dCons (dVar 0) (dCons (dFz (dLc [2] (dIter (dFld [He.ga K "Middle"] "lines" (dVar 0))) (gtName 2) (dYes) (dNotV (dCall (S_never_leaves K) 2 (dCons (dVar 2) (dCons (dFld [He.ga K "Middle"] "lines" (dVar 0)) (dNil))))))) (dNil))))
def S_spared (K : Fg) : List D → M D := scopeF (runF 3 (B_spared K))
abbrev N_spared : List Str := ["middle", "word", "line"]
abbrev P_spared : List Str := ["middle", "word"]
theorem sc_spared : FnScope N_spared P_spared (defScope (top 30)) := ⟨rfl, rfl, rfl, by decide +kernel, rfl, by decide +kernel, by decide +kernel⟩
set_option maxHeartbeats 4000000 in
theorem b_spared (F : Fx w K mg) : ∀ cdv A outer s H E, Room 5 (XB P w K mg base N_spared "spared" (top 30) f cdv A outer s H E).A → DSs (XB P w K mg base N_spared "spared" (top 30) f cdv A outer s H E) (WB E) (defBody (top 30)) (B_spared K) := by
  intro cdv A outer s H E hr
  have tk : Takes (XB P w K mg base N_spared "spared" (top 30) f cdv A outer s H E) (WB E) := takes_of rfl rfl rfl rfl
  exact dss_one (ds_ret (de_call (k_lines_left F) (hr.mono (by decide : 5 ≤ _)) tk (da_cons (de_var 0) (da_cons (de_fz (df_lc (own := [("line", 2)]) rfl sc_spared.nd (di_seq (de_fld (S := [He.ga K "Middle"]) (F.fld_Middle_lines) (de_var 0))) (blkOk_by (by rfl)) (fun _ _ _ _ _ => dg_name 2 sc_spared.nd) (fun _ _ _ _ _ => dts_nil) (fun _ _ _ _ _ => de_not (de_call (k_never_leaves F) (hr.mono (by decide : 1 ≤ _)) takesF (da_cons (de_var 2) (da_cons (de_fld (S := [He.ga K "Middle"]) (F.fld_Middle_lines) (de_var 0)) (da_nil))))))) (da_nil)))))
theorem k_spared (F : Fx w K mg) : Known P w K mg base "spared" 6 2 (S_spared K) := by
  obtain ⟨fd, hf⟩ := F.fn_spared
  exact (known_of hf sc_spared F.gl_spared (fun_binds hf fun _ _ _ _ _ _ us hl => match us, hl with | [_, _], _ => rfl) rfl (b_spared F)).scope

def B__law_lines_left (K : Fg) : TO' := dsSeq (dsSet 2 (dAmb (dLst (dNil)))) (dsSeq (dsSet 3 (dAmb (dLst (dNil)))) (dsSeq (dsFor (dRng1 (dLen (qVal (dIx (qVal (dVar 0)) (dC (.int 0)))))) (gtName 4) (dsSeq (dsAppM (dVar 3) (dLen (qVal (dVar 2)))) (dsIf (dTruth (dIx (qVal (dVar 1)) (dVar 4))) (dsAppM (dVar 2) (dCall (S__law_renamed K) 2 (dCons (dIx (qVal (dIx (qVal (dVar 0)) (dC (.int 0)))) (dVar 4)) (dCons (dVar 3) (dNil))))) (dsNext)))) (dsSeq (dsFzM 2) (dsSeq (dsFzM 3) (dsRet (dFz (dLst (dCons (dVar 2) (dCons (dCall (S__law_marks_renamed K) 2 (dCons (dIx (qVal (dVar 0)) (dC (.int 1))) (dCons (dVar 3) (dNil)))) (dNil))))))))))
def S__law_lines_left (K : Fg) : List D → M D := scopeF (runF 5 (B__law_lines_left K))
abbrev N__law_lines_left : List Str := ["_law_row", "_law_stays", "_law_lines", "_law_names", "_law_at"]
abbrev P__law_lines_left : List Str := ["_law_row", "_law_stays"]
theorem sc__law_lines_left : FnScope N__law_lines_left P__law_lines_left (defScope (top 54)) := ⟨rfl, rfl, rfl, by decide +kernel, rfl, by decide +kernel, by decide +kernel⟩
set_option maxHeartbeats 4000000 in
theorem b__law_lines_left (F : Fx w K mg) : ∀ cdv A outer s H E, Room 2 (XB P w K mg base N__law_lines_left "_law_lines_left" (top 54) f cdv A outer s H E).A → DSs (XB P w K mg base N__law_lines_left "_law_lines_left" (top 54) f cdv A outer s H E) (WB E) (defBody (top 54)) (B__law_lines_left K) := by
  intro cdv A outer s H E hr
  have tk : Takes (XB P w K mg base N__law_lines_left "_law_lines_left" (top 54) f cdv A outer s H E) (WB E) := takes_of rfl rfl rfl rfl
  exact dss_cons (ds_set (i := 2) sc__law_lines_left.nd (de_amb (df_lst (da_nil)))) (dss_cons (ds_set (i := 3) sc__law_lines_left.nd (de_amb (df_lst (da_nil)))) (dss_cons (ds_for (passes_of rfl) rfl (di_rng1 (de_len (dq_val (de_ix (dq_val (de_var 0)) (de_int))) F.fr_len) F.fr_range) (dg_name 4 sc__law_lines_left.nd) (dss_cons (ds_appM (de_var 3) (de_len (dq_val (de_var 2)) F.fr_len)) (dss_one (ds_if (dt_truth (de_ix (dq_val (de_var 1)) (de_var 4))) (dss_one (ds_appM (de_var 2) (de_call (k__law_renamed F) (hr.mono (by decide : 2 ≤ _)) tk (da_cons (de_ix (dq_val (de_ix (dq_val (de_var 0)) (de_int))) (de_var 4)) (da_cons (de_var 3) (da_nil)))))) (dss_nil))))) (dss_fzM 2 (dss_fzM 3 (dss_one (ds_ret (de_fz (df_lst (da_cons (de_var 2) (da_cons (de_call (k__law_marks_renamed F) (hr.mono (by decide : 1 ≤ _)) tk (da_cons (de_ix (dq_val (de_var 0)) (de_int)) (da_cons (de_var 3) (da_nil)))) (da_nil)))))))))))
theorem k__law_lines_left (F : Fx w K mg) : Known P w K mg base "_law_lines_left" 3 2 (S__law_lines_left K) := by
  obtain ⟨fd, hf⟩ := F.fn__law_lines_left
  exact (known_of hf sc__law_lines_left F.gl__law_lines_left (fun_binds hf fun _ _ _ _ _ _ us hl => match us, hl with | [_, _], _ => rfl) rfl (b__law_lines_left F)).scope

def B__law_spared (K : Fg) : TO' := dsSeq (dsSet 1 (dAmb (dLst (dNil)))) (dsSeq (dsFor (dIter (dIx (qVal (dVar 0)) (dC (.int 0)))) (gtName 2) (dsSeq (dsSet 3 (dTup (dCons (dC (.str "none")) (dCons (dC (.int 0)) (dNil))))) (dsSeq (dsIf (dTest (dIn false (dIx (qVal (dVar 2)) (dC (.int 0))) (qVal (dTup (dCons (dC (.str "must")) (dCons (dC (.str "keep")) (dNil))))))) (dsSet 3 (dIx (qVal (dIx (qVal (dVar 0)) (dC (.int 0)))) (dIx (qVal (dVar 2)) (dC (.int 1))))) (dsNext)) (dsSeq (dsSet 4 (dAndV (dBin gEq (dIx (qVal (dVar 2)) (dC (.int 0))) (dC (.str "must"))) (dBin gNe (dIx (qVal (dVar 3)) (dC (.int 1))) (dC (.int 0))))) (dsSeq (dsIf (dAnd (dTest (dBin gEq (dIx (qVal (dVar 2)) (dC (.int 0))) (dC (.str "keep")))) (dTest (dBin gEq (dIx (qVal (dVar 3)) (dC (.int 1))) (dIx (qVal (dVar 2)) (dC (.int 2)))))) (dsSet 4 (dC (.bl true))) (dsNext)) (dsAppM (dVar 1) (dNotV (dAndV (dVar 4) (dBin gEq (dIx (qVal (dVar 3)) (dC (.int 0))) (dC (.str "num"))))))))))) (dsSeq (dsFzM 1) (dsRet (dCall (S__law_lines_left K) 2 (dCons (dVar 0) (dCons (dVar 1) (dNil)))))))
def S__law_spared (K : Fg) : List D → M D := scopeF (runF 5 (B__law_spared K))
abbrev N__law_spared : List Str := ["_law_row", "_law_stays", "_law_line", "_law_number", "_law_passes"]
abbrev P__law_spared : List Str := ["_law_row"]
theorem sc__law_spared : FnScope N__law_spared P__law_spared (defScope (top 55)) := ⟨rfl, rfl, rfl, by decide +kernel, rfl, by decide +kernel, by decide +kernel⟩
set_option maxHeartbeats 4000000 in
theorem b__law_spared (F : Fx w K mg) : ∀ cdv A outer s H E, Room 3 (XB P w K mg base N__law_spared "_law_spared" (top 55) f cdv A outer s H E).A → DSs (XB P w K mg base N__law_spared "_law_spared" (top 55) f cdv A outer s H E) (WB E) (defBody (top 55)) (B__law_spared K) := by
  intro cdv A outer s H E hr
  have tk : Takes (XB P w K mg base N__law_spared "_law_spared" (top 55) f cdv A outer s H E) (WB E) := takes_of rfl rfl rfl rfl
  exact dss_cons (ds_set (i := 1) sc__law_spared.nd (de_amb (df_lst (da_nil)))) (dss_cons (ds_for (passes_of rfl) rfl (di_seq (de_ix (dq_val (de_var 0)) (de_int))) (dg_name 2 sc__law_spared.nd) (dss_cons (ds_set (i := 3) sc__law_spared.nd (de_tup (da_cons (de_str) (da_cons (de_int) (da_nil))))) (dss_cons (ds_if (dt_in (de_ix (dq_val (de_var 2)) (de_int)) (dq_val (de_tup (da_cons (de_str) (da_cons (de_str) (da_nil)))))) (dss_one (ds_set (i := 3) sc__law_spared.nd (de_ix (dq_val (de_ix (dq_val (de_var 0)) (de_int))) (de_ix (dq_val (de_var 2)) (de_int))))) (dss_nil)) (dss_cons (ds_set (i := 4) sc__law_spared.nd (de_and (de_cmp (od_eq hr.units) (de_ix (dq_val (de_var 2)) (de_int)) (de_str)) (de_one (de_cmp (od_ne hr.units) (de_ix (dq_val (de_var 3)) (de_int)) (de_int))))) (dss_cons (ds_if (dt_w (dw_and (dt_cmp (od_eq hr.units) (de_ix (dq_val (de_var 2)) (de_int)) (de_str)) (dw_and1 (dt_cmp (od_eq hr.units) (de_ix (dq_val (de_var 3)) (de_int)) (de_ix (dq_val (de_var 2)) (de_int)))))) (dss_one (ds_set (i := 4) sc__law_spared.nd (de_bl))) (dss_nil)) (dss_one (ds_appM (de_var 1) (de_not (de_and (de_var 4) (de_one (de_cmp (od_eq hr.units) (de_ix (dq_val (de_var 3)) (de_int)) (de_str)))))))))))) (dss_fzM 1 (dss_one (ds_ret (de_call (k__law_lines_left F) (hr.mono (by decide : 3 ≤ _)) tk (da_cons (de_var 0) (da_cons (de_var 1) (da_nil))))))))
theorem k__law_spared (F : Fx w K mg) : Known P w K mg base "_law_spared" 4 1 (S__law_spared K) := by
  obtain ⟨fd, hf⟩ := F.fn__law_spared
  exact (known_of hf sc__law_spared F.gl__law_spared (fun_binds hf fun _ _ _ _ _ _ us hl => match us, hl with | [_], _ => rfl) rfl (b__law_spared F)).scope

def B_dropped (K : Fg) : TO' := dsSeq (dsSet 2 (dAmb (dRepL (qVal (dFz (dLst (dCons (dC (.bl false)) (dNil))))) (dLen (qVal (dFld [He.ga K "Middle"] "lines" (dVar 0))))))) (dsSeq (dsFor (dIter (dFld [He.ga K "Middle"] "marks" (dVar 0))) (gtName 3) (dsFor (dIter (dVar 3)) (gtName 4) (dsSetIxM (dC (.bl true)) (dVar 2) (dVar 4)))) (dsSeq (dsFzM 2) (dsSeq (dsSet 5 (dCall (S_asked_through K) 2 (dCons (dFld [He.ga K "Middle"] "lines" (dVar 0)) (dCons (dVar 2) (dNil))))) (dsSeq (dsSet 6 (dFz (dLc [7, 8] (dEnum (dFld [He.ga K "Middle"] "lines" (dVar 0))) (gtTup 2 (gtCons (gtName 7) (gtCons (gtName 8) (gtNil)))) (dYes) (dOrV (dNotV (dCall (S_is_idle_kind K) 1 (dCons (dVar 8) (dNil)))) (dOrV (dBin gEq (dIx (qVal (dVar 8)) (dC (.int 0))) (dC (.str "get"))) (dIx (qVal (dVar 5)) (dVar 7))))))) (dsRet (dCall (S_lines_left K) 2 (dCons (dVar 0) (dCons (dVar 6) (dNil)))))))))
def S_dropped (K : Fg) : List D → M D := scopeF (runF 9 (B_dropped K))
abbrev N_dropped : List Str := ["middle", "word", "wanted", "mark", "index", "reach", "stays", "at", "line"]
abbrev P_dropped : List Str := ["middle", "word"]
theorem sc_dropped : FnScope N_dropped P_dropped (defScope (top 34)) := ⟨rfl, rfl, rfl, by decide +kernel, rfl, by decide +kernel, by decide +kernel⟩
set_option maxHeartbeats 4000000 in
theorem b_dropped (F : Fx w K mg) : ∀ cdv A outer s H E, Room 5 (XB P w K mg base N_dropped "dropped" (top 34) f cdv A outer s H E).A → DSs (XB P w K mg base N_dropped "dropped" (top 34) f cdv A outer s H E) (WB E) (defBody (top 34)) (B_dropped K) := by
  intro cdv A outer s H E hr
  have tk : Takes (XB P w K mg base N_dropped "dropped" (top 34) f cdv A outer s H E) (WB E) := takes_of rfl rfl rfl rfl
  exact dss_cons (ds_set (i := 2) sc_dropped.nd (de_amb (df_rep (dq_val (de_fz (df_lst (da_cons (de_bl) (da_nil))))) (de_len (dq_val (de_fld (S := [He.ga K "Middle"]) (F.fld_Middle_lines) (de_var 0))) F.fr_len)))) (dss_cons (ds_for (passes_of rfl) rfl (di_seq (de_fld (S := [He.ga K "Middle"]) (F.fld_Middle_marks) (de_var 0))) (dg_name 3 sc_dropped.nd) (dss_one (ds_for (passes_of rfl) rfl (di_seq (de_var 3)) (dg_name 4 sc_dropped.nd) (dss_one (ds_setIxM (de_bl) (de_var 2) (de_var 4)))))) (dss_fzM 2 (dss_cons (ds_set (i := 5) sc_dropped.nd (de_call (k_asked_through F) (hr.mono (by decide : 5 ≤ _)) tk (da_cons (de_fld (S := [He.ga K "Middle"]) (F.fld_Middle_lines) (de_var 0)) (da_cons (de_var 2) (da_nil))))) (dss_cons (ds_setLc (i := 6) (own := [("at", 7), ("line", 8)]) rfl sc_dropped.nd (di_enum (de_fld (S := [He.ga K "Middle"]) (F.fld_Middle_lines) (de_var 0)) F.fr_enumerate) (blkOk_by (by rfl)) (fun _ _ _ _ _ => dg_tup rfl (dgs_cons (dg_name 7 sc_dropped.nd) (dgs_cons (dg_name 8 sc_dropped.nd) (dgs_nil)))) (fun _ _ _ _ _ => dts_nil) (fun _ _ _ _ _ => de_or (de_not (de_call (k_is_idle_kind F) (hr.mono (by decide : 3 ≤ _)) takesF (da_cons (de_var 8) (da_nil)))) (de_or (de_cmp (od_eq hr.units) (de_ix (dq_val (de_var 8)) (de_int)) (de_str)) (de_one (de_ix (dq_val (de_var 5)) (de_var 7))))) (by rfl)) (dss_one (ds_ret (de_call (k_lines_left F) (hr.mono (by decide : 5 ≤ _)) tk (da_cons (de_var 0) (da_cons (de_var 6) (da_nil))))))))))
theorem k_dropped (F : Fx w K mg) : Known P w K mg base "dropped" 6 2 (S_dropped K) := by
  obtain ⟨fd, hf⟩ := F.fn_dropped
  exact (known_of hf sc_dropped F.gl_dropped (fun_binds hf fun _ _ _ _ _ _ us hl => match us, hl with | [_, _], _ => rfl) rfl (b_dropped F)).scope

def B__law_held (K : Fg) : TO' := dsSeq (dsSetO 3 (dLc [8] (dIter (dVar 0)) (gtName 8) (dYes) (dC (.bl false)))) (dsSeq (dsAmb 3) (dsSeq (dsFor (dIter (dVar 1)) (gtName 4) (dsFor (dIter (dVar 4)) (gtName 5) (dsSetIxM (dC (.bl true)) (dVar 3) (dVar 5)))) (dsSeq (dsFor (dRng1 (dLen (qVal (dVar 0)))) (gtName 6) (dsSeq (dsSet 7 (dBin gSub (dBin gSub (dLen (qVal (dVar 0))) (dC (.int 1))) (dVar 6))) (dsIf (dAnd (dTruth (dIx (qVal (dVar 3)) (dVar 7))) (dAnd (dNot (dTruth (dIx (qVal (dVar 2)) (dVar 7)))) (dTest (dIn false (dIx (qVal (dIx (qVal (dVar 0)) (dVar 7))) (dC (.int 0))) (qVal (dCall0 (S__law_ops K))))))) (dsFor (dIter (dCall (S__law_names_of K) 1 (dCons (dIx (qVal (dVar 0)) (dVar 7)) (dNil)))) (gtName 5) (dsSetIxM (dC (.bl true)) (dVar 3) (dVar 5))) (dsNext)))) (dsSeq (dsFzM 3) (dsRet (dVar 3))))))
def S__law_held (K : Fg) : List D → M D := scopeF (runF 9 (B__law_held K))
abbrev N__law_held : List Str := ["_law_lines", "_law_marks", "_law_now_here", "_law_held_here", "_law_mark", "_law_index", "_law_back", "_law_at", "_law_line"]
abbrev P__law_held : List Str := ["_law_lines", "_law_marks", "_law_now_here"]
theorem sc__law_held : FnScope N__law_held P__law_held (defScope (top 47)) := ⟨rfl, rfl, rfl, by decide +kernel, rfl, by decide +kernel, by decide +kernel⟩
set_option maxHeartbeats 4000000 in
theorem b__law_held (F : Fx w K mg) : ∀ cdv A outer s H E, Room 2 (XB P w K mg base N__law_held "_law_held" (top 47) f cdv A outer s H E).A → DSs (XB P w K mg base N__law_held "_law_held" (top 47) f cdv A outer s H E) (WB E) (defBody (top 47)) (B__law_held K) := by
  intro cdv A outer s H E hr
  have tk : Takes (XB P w K mg base N__law_held "_law_held" (top 47) f cdv A outer s H E) (WB E) := takes_of rfl rfl rfl rfl
  exact dss_cons (ds_setOLc (i := 3) (own := [("_law_line", 8)]) rfl sc__law_held.nd (di_seq (de_var 0)) (blkOk_by (by rfl)) (fun _ _ _ _ _ => dg_name 8 sc__law_held.nd) (fun _ _ _ _ _ => dts_nil) (fun _ _ _ _ _ => de_bl) (by rfl)) (dss_amb 3 (dss_cons (ds_for (passes_of rfl) rfl (di_seq (de_var 1)) (dg_name 4 sc__law_held.nd) (dss_one (ds_for (passes_of rfl) rfl (di_seq (de_var 4)) (dg_name 5 sc__law_held.nd) (dss_one (ds_setIxM (de_bl) (de_var 3) (de_var 5)))))) (dss_cons (ds_for (passes_of rfl) rfl (di_rng1 (de_len (dq_val (de_var 0)) F.fr_len) F.fr_range) (dg_name 6 sc__law_held.nd) (dss_cons (ds_set (i := 7) sc__law_held.nd (de_op od_sub (de_op od_sub (de_len (dq_val (de_var 0)) F.fr_len) (de_int)) (de_var 6))) (dss_one (ds_if (dt_w (dw_and (dt_truth (de_ix (dq_val (de_var 3)) (de_var 7))) (dw_and (dt_not (dt_truth (de_ix (dq_val (de_var 2)) (de_var 7)))) (dw_and1 (dt_in (de_ix (dq_val (de_ix (dq_val (de_var 0)) (de_var 7))) (de_int)) (dq_val (de_call0n (k__law_ops F) (hr.mono (by decide : 1 ≤ _))))))))) (dss_one (ds_for (passes_of rfl) rfl (di_seq (de_call (k__law_names_of F) (hr.mono (by decide : 2 ≤ _)) tk (da_cons (de_ix (dq_val (de_var 0)) (de_var 7)) (da_nil)))) (dg_name 5 sc__law_held.nd) (dss_one (ds_setIxM (de_bl) (de_var 3) (de_var 5))))) (dss_nil))))) (dss_fzM 3 (dss_one (ds_ret (de_var 3)))))))
theorem k__law_held (F : Fx w K mg) : Known P w K mg base "_law_held" 3 3 (S__law_held K) := by
  obtain ⟨fd, hf⟩ := F.fn__law_held
  exact (known_of hf sc__law_held F.gl__law_held (fun_binds hf fun _ _ _ _ _ _ us hl => match us, hl with | [_, _, _], _ => rfl) rfl (b__law_held F)).scope

def B__law_dropped (K : Fg) : TO' := dsSeq (dsSet 1 (dCall (S__law_now K) 1 (dCons (dIx (qVal (dVar 0)) (dC (.int 0))) (dNil)))) (dsSeq (dsSet 2 (dCall (S__law_held K) 3 (dCons (dIx (qVal (dVar 0)) (dC (.int 0))) (dCons (dIx (qVal (dVar 0)) (dC (.int 1))) (dCons (dVar 1) (dNil)))))) (dsSeq (dsSet 3 (dAmb (dLst (dNil)))) (dsSeq (dsFor (dRng1 (dLen (qVal (dIx (qVal (dVar 0)) (dC (.int 0)))))) (gtName 4) (dsSeq (dsSet 5 (dOrV (dBin gEq (dIx (qVal (dIx (qVal (dIx (qVal (dVar 0)) (dC (.int 0)))) (dVar 4))) (dC (.int 0))) (dC (.str "num"))) (dIn false (dIx (qVal (dIx (qVal (dIx (qVal (dVar 0)) (dC (.int 0)))) (dVar 4))) (dC (.int 0))) (qVal (dCall0 (S__law_ops K)))))) (dsAppM (dVar 3) (dOrV (dNotV (dVar 5)) (dOrV (dIx (qVal (dVar 1)) (dVar 4)) (dIx (qVal (dVar 2)) (dVar 4))))))) (dsSeq (dsFzM 3) (dsRet (dCall (S__law_lines_left K) 2 (dCons (dVar 0) (dCons (dVar 3) (dNil)))))))))
def S__law_dropped (K : Fg) : List D → M D := scopeF (runF 6 (B__law_dropped K))
abbrev N__law_dropped : List Str := ["_law_row", "_law_now_here", "_law_held_here", "_law_stays", "_law_at", "_law_idle"]
abbrev P__law_dropped : List Str := ["_law_row"]
theorem sc__law_dropped : FnScope N__law_dropped P__law_dropped (defScope (top 56)) := ⟨rfl, rfl, rfl, by decide +kernel, rfl, by decide +kernel, by decide +kernel⟩
set_option maxHeartbeats 4000000 in
theorem b__law_dropped (F : Fx w K mg) : ∀ cdv A outer s H E, Room 3 (XB P w K mg base N__law_dropped "_law_dropped" (top 56) f cdv A outer s H E).A → DSs (XB P w K mg base N__law_dropped "_law_dropped" (top 56) f cdv A outer s H E) (WB E) (defBody (top 56)) (B__law_dropped K) := by
  intro cdv A outer s H E hr
  have tk : Takes (XB P w K mg base N__law_dropped "_law_dropped" (top 56) f cdv A outer s H E) (WB E) := takes_of rfl rfl rfl rfl
  exact dss_cons (ds_set (i := 1) sc__law_dropped.nd (de_call (k__law_now F) (hr.mono (by decide : 3 ≤ _)) tk (da_cons (de_ix (dq_val (de_var 0)) (de_int)) (da_nil)))) (dss_cons (ds_set (i := 2) sc__law_dropped.nd (de_call (k__law_held F) (hr.mono (by decide : 3 ≤ _)) tk (da_cons (de_ix (dq_val (de_var 0)) (de_int)) (da_cons (de_ix (dq_val (de_var 0)) (de_int)) (da_cons (de_var 1) (da_nil)))))) (dss_cons (ds_set (i := 3) sc__law_dropped.nd (de_amb (df_lst (da_nil)))) (dss_cons (ds_for (passes_of rfl) rfl (di_rng1 (de_len (dq_val (de_ix (dq_val (de_var 0)) (de_int))) F.fr_len) F.fr_range) (dg_name 4 sc__law_dropped.nd) (dss_cons (ds_set (i := 5) sc__law_dropped.nd (de_or (de_cmp (od_eq hr.units) (de_ix (dq_val (de_ix (dq_val (de_ix (dq_val (de_var 0)) (de_int))) (de_var 4))) (de_int)) (de_str)) (de_one (de_in (de_ix (dq_val (de_ix (dq_val (de_ix (dq_val (de_var 0)) (de_int))) (de_var 4))) (de_int)) (dq_val (de_call0n (k__law_ops F) (hr.mono (by decide : 1 ≤ _)))))))) (dss_one (ds_appM (de_var 3) (de_or (de_not (de_var 5)) (de_or (de_ix (dq_val (de_var 1)) (de_var 4)) (de_one (de_ix (dq_val (de_var 2)) (de_var 4))))))))) (dss_fzM 3 (dss_one (ds_ret (de_call (k__law_lines_left F) (hr.mono (by decide : 3 ≤ _)) tk (da_cons (de_var 0) (da_cons (de_var 3) (da_nil))))))))))
theorem k__law_dropped (F : Fx w K mg) : Known P w K mg base "_law_dropped" 4 1 (S__law_dropped K) := by
  obtain ⟨fd, hf⟩ := F.fn__law_dropped
  exact (known_of hf sc__law_dropped F.gl__law_dropped (fun_binds hf fun _ _ _ _ _ _ us hl => match us, hl with | [_], _ => rfl) rfl (b__law_dropped F)).scope

def B__law_tidy (K : Fg) : TO' := dsSeq (dsFor (dRng1 (dC (.int 80))) (gtName 3) (dsSeq (dsSet 4 (dVar 0)) (dsSeq (dsIf (dTruth (dVar 2)) (dsSet 4 (dCall (S__law_spared K) 1 (dCons (dCall (S__law_known K) 2 (dCons (dVar 4) (dCons (dVar 1) (dNil)))) (dNil)))) (dsNext)) (dsSeq (dsSet 4 (dCall (S__law_dropped K) 1 (dCons (dCall (S__law_once K) 1 (dCons (dVar 4) (dNil))) (dNil)))) (dsSeq (dsIf (dTest (dBin gEq (dVar 4) (dVar 0))) (dsRet (dVar 0)) (dsNext)) (dsSet 0 (dVar 4))))))) (dsRet (dVar 0))
def S__law_tidy (K : Fg) : List D → M D := scopeF (runF 5 (B__law_tidy K))
abbrev N__law_tidy : List Str := ["_law_row", "_law_word_here", "_law_whole", "_law_turn", "_law_made"]
abbrev P__law_tidy : List Str := ["_law_row", "_law_word_here", "_law_whole"]
theorem sc__law_tidy : FnScope N__law_tidy P__law_tidy (defScope (top 57)) := ⟨rfl, rfl, rfl, by decide +kernel, rfl, by decide +kernel, by decide +kernel⟩
set_option maxHeartbeats 4000000 in
theorem b__law_tidy (F : Fx w K mg) : ∀ cdv A outer s H E, Room 4 (XB P w K mg base N__law_tidy "_law_tidy" (top 57) f cdv A outer s H E).A → DSs (XB P w K mg base N__law_tidy "_law_tidy" (top 57) f cdv A outer s H E) (WB E) (defBody (top 57)) (B__law_tidy K) := by
  intro cdv A outer s H E hr
  have tk : Takes (XB P w K mg base N__law_tidy "_law_tidy" (top 57) f cdv A outer s H E) (WB E) := takes_of rfl rfl rfl rfl
  exact dss_cons (ds_for (passes_of rfl) rfl (di_rng1 (de_int) F.fr_range) (dg_name 3 sc__law_tidy.nd) (dss_cons (ds_set (i := 4) sc__law_tidy.nd (de_var 0)) (dss_cons (ds_if (dt_truth (de_var 2)) (dss_one (ds_set (i := 4) sc__law_tidy.nd (de_call (k__law_spared F) (hr.mono (by decide : 4 ≤ _)) tk (da_cons (de_call (k__law_known F) (hr.mono (by decide : 3 ≤ _)) tk (da_cons (de_var 4) (da_cons (de_var 1) (da_nil)))) (da_nil))))) (dss_nil)) (dss_cons (ds_set (i := 4) sc__law_tidy.nd (de_call (k__law_dropped F) (hr.mono (by decide : 4 ≤ _)) tk (da_cons (de_call (k__law_once F) (hr.mono (by decide : 3 ≤ _)) tk (da_cons (de_var 4) (da_nil))) (da_nil)))) (dss_cons (ds_if (dt_cmp (od_eq hr.units) (de_var 4) (de_var 0)) (dss_one (ds_ret (de_var 0))) (dss_nil)) (dss_one (ds_set (i := 0) sc__law_tidy.nd (de_var 4)))))))) (dss_one (ds_ret (de_var 0)))
theorem k__law_tidy (F : Fx w K mg) : Known P w K mg base "_law_tidy" 5 3 (S__law_tidy K) := by
  obtain ⟨fd, hf⟩ := F.fn__law_tidy
  exact (known_of hf sc__law_tidy F.gl__law_tidy (fun_binds hf fun _ _ _ _ _ _ us hl => match us, hl with | [_, _, _], _ => rfl) rfl (b__law_tidy F)).scope

def B_tidy (K : Fg) : TO' := dsWhile (dTruth (dC (.bl true))) (dsSeq (dsSet 2 (dCall (S_dropped K) 2 (dCons (dCall (S_once K) 2 (dCons (dCall (S_spared K) 2 (dCons (dCall (S_known K) 2 (dCons (dVar 0) (dCons (dVar 1) (dNil)))) (dCons (dVar 1) (dNil)))) (dCons (dVar 1) (dNil)))) (dCons (dVar 1) (dNil))))) (dsSeq (dsIf (dTest (dEqOwn (He.ga K "Middle") (S_Middle_eq K) (dVar 2) (dVar 0))) (dsRet (dVar 0)) (dsNext)) (dsSet 0 (dVar 2))))
def S_tidy (K : Fg) : List D → M D := scopeF (runF 3 (B_tidy K))
abbrev N_tidy : List Str := ["middle", "word", "after"]
abbrev P_tidy : List Str := ["middle", "word"]
theorem sc_tidy : FnScope N_tidy P_tidy (defScope (top 37)) := ⟨rfl, rfl, rfl, by decide +kernel, rfl, by decide +kernel, by decide +kernel⟩
set_option maxHeartbeats 4000000 in
theorem b_tidy (F : Fx w K mg) : ∀ cdv A outer s H E, Room 6 (XB P w K mg base N_tidy "tidy" (top 37) f cdv A outer s H E).A → DSs (XB P w K mg base N_tidy "tidy" (top 37) f cdv A outer s H E) (WB E) (defBody (top 37)) (B_tidy K) := by
  intro cdv A outer s H E hr
  have tk : Takes (XB P w K mg base N_tidy "tidy" (top 37) f cdv A outer s H E) (WB E) := takes_of rfl rfl rfl rfl
  exact dss_one (ds_while (passes_of rfl) (dt_truth (de_bl)) (dss_cons (ds_set (i := 2) sc_tidy.nd (de_call (k_dropped F) (hr.mono (by decide : 6 ≤ _)) tk (da_cons (de_call (k_once F) (hr.mono (by decide : 5 ≤ _)) tk (da_cons (de_call (k_spared F) (hr.mono (by decide : 6 ≤ _)) tk (da_cons (de_call (k_known F) (hr.mono (by decide : 5 ≤ _)) tk (da_cons (de_var 0) (da_cons (de_var 1) (da_nil)))) (da_cons (de_var 1) (da_nil)))) (da_cons (de_var 1) (da_nil)))) (da_cons (de_var 1) (da_nil))))) (dss_cons (ds_if (dt_eqOwn (k_Middle_eq F) (hr.mono (by decide : 1 ≤ _)) (de_var 2) (de_var 0)) (dss_one (ds_ret (de_var 0))) (dss_nil)) (dss_one (ds_set (i := 0) sc_tidy.nd (de_var 2))))))
theorem k_tidy (F : Fx w K mg) : Known P w K mg base "tidy" 7 2 (S_tidy K) := by
  obtain ⟨fd, hf⟩ := F.fn_tidy
  exact (known_of hf sc_tidy F.gl_tidy (fun_binds hf fun _ _ _ _ _ _ us hl => match us, hl with | [_, _], _ => rfl) rfl (b_tidy F)).scope

def B_plainly (K : Fg) : TO' := dsWhile (dTruth (dC (.bl true))) (dsSeq (dsSet 2 (dCall (S_dropped K) 2 (dCons (dCall (S_once K) 2 (dCons (dVar 0) (dCons (dVar 1) (dNil)))) (dCons (dVar 1) (dNil))))) (dsSeq (dsIf (dTest (dEqOwn (He.ga K "Middle") (S_Middle_eq K) (dVar 2) (dVar 0))) (dsRet (dVar 0)) (dsNext)) (dsSet 0 (dVar 2))))
def S_plainly (K : Fg) : List D → M D := scopeF (runF 3 (B_plainly K))
abbrev N_plainly : List Str := ["middle", "word", "after"]
abbrev P_plainly : List Str := ["middle", "word"]
theorem sc_plainly : FnScope N_plainly P_plainly (defScope (top 38)) := ⟨rfl, rfl, rfl, by decide +kernel, rfl, by decide +kernel, by decide +kernel⟩
set_option maxHeartbeats 4000000 in
theorem b_plainly (F : Fx w K mg) : ∀ cdv A outer s H E, Room 6 (XB P w K mg base N_plainly "plainly" (top 38) f cdv A outer s H E).A → DSs (XB P w K mg base N_plainly "plainly" (top 38) f cdv A outer s H E) (WB E) (defBody (top 38)) (B_plainly K) := by
  intro cdv A outer s H E hr
  have tk : Takes (XB P w K mg base N_plainly "plainly" (top 38) f cdv A outer s H E) (WB E) := takes_of rfl rfl rfl rfl
  exact dss_one (ds_while (passes_of rfl) (dt_truth (de_bl)) (dss_cons (ds_set (i := 2) sc_plainly.nd (de_call (k_dropped F) (hr.mono (by decide : 6 ≤ _)) tk (da_cons (de_call (k_once F) (hr.mono (by decide : 5 ≤ _)) tk (da_cons (de_var 0) (da_cons (de_var 1) (da_nil)))) (da_cons (de_var 1) (da_nil))))) (dss_cons (ds_if (dt_eqOwn (k_Middle_eq F) (hr.mono (by decide : 1 ≤ _)) (de_var 2) (de_var 0)) (dss_one (ds_ret (de_var 0))) (dss_nil)) (dss_one (ds_set (i := 0) sc_plainly.nd (de_var 2))))))
theorem k_plainly (F : Fx w K mg) : Known P w K mg base "plainly" 7 2 (S_plainly K) := by
  obtain ⟨fd, hf⟩ := F.fn_plainly
  exact (known_of hf sc_plainly F.gl_plainly (fun_binds hf fun _ _ _ _ _ _ us hl => match us, hl with | [_, _], _ => rfl) rfl (b_plainly F)).scope

def B__law_passes_are (K : Fg) : TO' := dsSeq (dsIf (dOr (dNot (dTruth (dCall (S__law_is K) 2 (dCons (dCall (S_known K) 2 (dCons (dVar 0) (dCons (dVar 2) (dNil)))) (dCons (dCall (S__law_known K) 2 (dCons (dVar 1) (dCons (dVar 2) (dNil)))) (dNil)))))) (dNot (dTruth (dCall (S__law_is K) 2 (dCons (dCall (S_once K) 2 (dCons (dVar 0) (dCons (dVar 2) (dNil)))) (dCons (dCall (S__law_once K) 1 (dCons (dVar 1) (dNil))) (dNil))))))) (dsRet (dC (.bl false))) (dsNext)) (dsSeq (dsIf (dOr (dNot (dTruth (dCall (S__law_is K) 2 (dCons (dCall (S_spared K) 2 (dCons (dVar 0) (dCons (dVar 2) (dNil)))) (dCons (dCall (S__law_spared K) 1 (dCons (dVar 1) (dNil))) (dNil)))))) (dNot (dTruth (dCall (S__law_is K) 2 (dCons (dCall (S_dropped K) 2 (dCons (dVar 0) (dCons (dVar 2) (dNil)))) (dCons (dCall (S__law_dropped K) 1 (dCons (dVar 1) (dNil))) (dNil))))))) (dsRet (dC (.bl false))) (dsNext)) (dsSeq (dsSet 3 (dCall (S__law_tidy K) 3 (dCons (dVar 1) (dCons (dVar 2) (dCons (dC (.bl true)) (dNil)))))) (dsSeq (dsSet 4 (dCall (S__law_tidy K) 3 (dCons (dVar 1) (dCons (dVar 2) (dCons (dC (.bl false)) (dNil)))))) (dsSeq (dsIf (dOr (dNot (dTruth (dCall (S__law_is K) 2 (dCons (dCall (S_tidy K) 2 (dCons (dVar 0) (dCons (dVar 2) (dNil)))) (dCons (dVar 3) (dNil)))))) (dNot (dTruth (dCall (S__law_is K) 2 (dCons (dCall (S_plainly K) 2 (dCons (dVar 0) (dCons (dVar 2) (dNil)))) (dCons (dVar 4) (dNil))))))) (dsRet (dC (.bl false))) (dsNext)) (dsSeq (dsSet 5 (dAndV (dEqOwn (He.ga K "Middle") (S_Middle_eq K) (dCall (S_tidy K) 2 (dCons (dCall (S_tidy K) 2 (dCons (dVar 0) (dCons (dVar 2) (dNil)))) (dCons (dVar 2) (dNil)))) (dCall (S_tidy K) 2 (dCons (dVar 0) (dCons (dVar 2) (dNil))))) (dCall (S__law_lines_are K) 2 (dCons (dCall (S_tidy K) 2 (dCons (dVar 0) (dCons (dVar 2) (dNil)))) (dCons (dVar 3) (dNil)))))) (dsRet (dAndV (dBin (gIs2 false) (dVar 5) (dC (.bl true))) (dCall (S__law_lines_are K) 2 (dCons (dCall (S_plainly K) 2 (dCons (dVar 0) (dCons (dVar 2) (dNil)))) (dCons (dVar 4) (dNil)))))))))))
def S__law_passes_are (K : Fg) : List D → M D := scopeF (runF 6 (B__law_passes_are K))
abbrev N__law_passes_are : List Str := ["_law_middle", "_law_row", "_law_word_here", "_law_full", "_law_some", "_law_again"]
abbrev P__law_passes_are : List Str := ["_law_middle", "_law_row", "_law_word_here"]
theorem sc__law_passes_are : FnScope N__law_passes_are P__law_passes_are (defScope (top 60)) := ⟨rfl, rfl, rfl, by decide +kernel, rfl, by decide +kernel, by decide +kernel⟩
set_option maxHeartbeats 4000000 in
theorem b__law_passes_are (F : Fx w K mg) : ∀ cdv A outer s H E, Room 8 (XB P w K mg base N__law_passes_are "_law_passes_are" (top 60) f cdv A outer s H E).A → DSs (XB P w K mg base N__law_passes_are "_law_passes_are" (top 60) f cdv A outer s H E) (WB E) (defBody (top 60)) (B__law_passes_are K) := by
  intro cdv A outer s H E hr
  have tk : Takes (XB P w K mg base N__law_passes_are "_law_passes_are" (top 60) f cdv A outer s H E) (WB E) := takes_of rfl rfl rfl rfl
  exact dss_cons (ds_if (dt_w (dw_or (dt_not (dt_truth (de_call (k__law_is F) (hr.mono (by decide : 1 ≤ _)) tk (da_cons (de_call (k_known F) (hr.mono (by decide : 5 ≤ _)) tk (da_cons (de_var 0) (da_cons (de_var 2) (da_nil)))) (da_cons (de_call (k__law_known F) (hr.mono (by decide : 3 ≤ _)) tk (da_cons (de_var 1) (da_cons (de_var 2) (da_nil)))) (da_nil)))))) (dw_or1 (dt_not (dt_truth (de_call (k__law_is F) (hr.mono (by decide : 1 ≤ _)) tk (da_cons (de_call (k_once F) (hr.mono (by decide : 5 ≤ _)) tk (da_cons (de_var 0) (da_cons (de_var 2) (da_nil)))) (da_cons (de_call (k__law_once F) (hr.mono (by decide : 3 ≤ _)) tk (da_cons (de_var 1) (da_nil))) (da_nil))))))))) (dss_one (ds_ret (de_bl))) (dss_nil)) (dss_cons (ds_if (dt_w (dw_or (dt_not (dt_truth (de_call (k__law_is F) (hr.mono (by decide : 1 ≤ _)) tk (da_cons (de_call (k_spared F) (hr.mono (by decide : 6 ≤ _)) tk (da_cons (de_var 0) (da_cons (de_var 2) (da_nil)))) (da_cons (de_call (k__law_spared F) (hr.mono (by decide : 4 ≤ _)) tk (da_cons (de_var 1) (da_nil))) (da_nil)))))) (dw_or1 (dt_not (dt_truth (de_call (k__law_is F) (hr.mono (by decide : 1 ≤ _)) tk (da_cons (de_call (k_dropped F) (hr.mono (by decide : 6 ≤ _)) tk (da_cons (de_var 0) (da_cons (de_var 2) (da_nil)))) (da_cons (de_call (k__law_dropped F) (hr.mono (by decide : 4 ≤ _)) tk (da_cons (de_var 1) (da_nil))) (da_nil))))))))) (dss_one (ds_ret (de_bl))) (dss_nil)) (dss_cons (ds_set (i := 3) sc__law_passes_are.nd (de_call (k__law_tidy F) (hr.mono (by decide : 5 ≤ _)) tk (da_cons (de_var 1) (da_cons (de_var 2) (da_cons (de_bl) (da_nil)))))) (dss_cons (ds_set (i := 4) sc__law_passes_are.nd (de_call (k__law_tidy F) (hr.mono (by decide : 5 ≤ _)) tk (da_cons (de_var 1) (da_cons (de_var 2) (da_cons (de_bl) (da_nil)))))) (dss_cons (ds_if (dt_w (dw_or (dt_not (dt_truth (de_call (k__law_is F) (hr.mono (by decide : 1 ≤ _)) tk (da_cons (de_call (k_tidy F) (hr.mono (by decide : 7 ≤ _)) tk (da_cons (de_var 0) (da_cons (de_var 2) (da_nil)))) (da_cons (de_var 3) (da_nil)))))) (dw_or1 (dt_not (dt_truth (de_call (k__law_is F) (hr.mono (by decide : 1 ≤ _)) tk (da_cons (de_call (k_plainly F) (hr.mono (by decide : 7 ≤ _)) tk (da_cons (de_var 0) (da_cons (de_var 2) (da_nil)))) (da_cons (de_var 4) (da_nil))))))))) (dss_one (ds_ret (de_bl))) (dss_nil)) (dss_cons (ds_set (i := 5) sc__law_passes_are.nd (de_and (de_eqOwn (k_Middle_eq F) (hr.mono (by decide : 1 ≤ _)) (de_call (k_tidy F) (hr.mono (by decide : 7 ≤ _)) tk (da_cons (de_call (k_tidy F) (hr.mono (by decide : 7 ≤ _)) tk (da_cons (de_var 0) (da_cons (de_var 2) (da_nil)))) (da_cons (de_var 2) (da_nil)))) (de_call (k_tidy F) (hr.mono (by decide : 7 ≤ _)) tk (da_cons (de_var 0) (da_cons (de_var 2) (da_nil))))) (de_one (de_call (k__law_lines_are F) (hr.mono (by decide : 8 ≤ _)) tk (da_cons (de_call (k_tidy F) (hr.mono (by decide : 7 ≤ _)) tk (da_cons (de_var 0) (da_cons (de_var 2) (da_nil)))) (da_cons (de_var 3) (da_nil))))))) (dss_one (ds_ret (de_and (de_cmp od_isB (de_var 5) (de_bl)) (de_one (de_call (k__law_lines_are F) (hr.mono (by decide : 8 ≤ _)) tk (da_cons (de_call (k_plainly F) (hr.mono (by decide : 7 ≤ _)) tk (da_cons (de_var 0) (da_cons (de_var 2) (da_nil)))) (da_cons (de_var 4) (da_nil)))))))))))))
theorem k__law_passes_are (F : Fx w K mg) : Known P w K mg base "_law_passes_are" 9 3 (S__law_passes_are K) := by
  obtain ⟨fd, hf⟩ := F.fn__law_passes_are
  exact (known_of hf sc__law_passes_are F.gl__law_passes_are (fun_binds hf fun _ _ _ _ _ _ us hl => match us, hl with | [_, _, _], _ => rfl) rfl (b__law_passes_are F)).scope

def B_law (K : Fg) : TO' := dsSeq (dsSet 1 (dCall (S__law_draws K) 1 (dCons (dVar 0) (dNil)))) (dsSeq (dsSet 2 (dBin gAdd (dC (.int 4)) (dCall (S__law_take K) 2 (dCons (dVar 1) (dCons (dC (.int 2)) (dNil)))))) (dsSeq (dsSet 3 (dCall (S__law_drawn_middle K) 2 (dCons (dVar 1) (dCons (dVar 2) (dNil))))) (dsSeq (dsSetO 4 (dLc [8] (dIter (dIx (qVal (dVar 3)) (dC (.int 0)))) (gtName 8) (dYes) (dAmb (dLstOf (qVal (dVar 8)))))) (dsSeq (dsAmb 4) (dsSeq (dsSetO 5 (dLc [9] (dIter (dIx (qVal (dVar 3)) (dC (.int 1)))) (gtName 9) (dYes) (dAmb (dLstOf (qVal (dVar 9)))))) (dsSeq (dsAmb 5) (dsSeq (dsSet 6 (dMake (He.ga K "Middle") (S_Middle_init K) 3 (dCons (dVar 4) (dCons (dVar 5) (dNil))))) (dsSeq (dsSetIxM (dC (.int 77)) (dIx (qVal (dVar 4)) (dC (.int 2))) (dC (.int 1))) (dsSeq (dsSetIxM (dC (.int 0)) (dIx (qVal (dVar 5)) (dC (.int 0))) (dC (.int 0))) (dsSeq (dsAppM (dVar 4) (dFz (dLst (dCons (dC (.str "end")) (dNil))))) (dsSeq (dsSet 7 (dMake (He.ga K "Middle") (S_Middle_init K) 3 (dCons (dTupOf (qVal (dIx (qVal (dVar 3)) (dC (.int 0))))) (dCons (dTupOf (qVal (dFz (dLc [9] (dIter (dIx (qVal (dVar 3)) (dC (.int 1)))) (gtName 9) (dYes) (dTupOf (qVal (dVar 9))))))) (dNil))))) (dsSeq (dsIf (dOr (dNot (dTruth (dCall (S__law_is K) 2 (dCons (dVar 6) (dCons (dVar 3) (dNil)))))) (dOr (dTest (dBin (gIs2 true) (dEqOwn (He.ga K "Middle") (S_Middle_eq K) (dVar 6) (dVar 7)) (dC (.bl true)))) (dTest (dBin (gIs2 true) (dEqOwn (He.ga K "Middle") (S_Middle_eq K) (dVar 6) (dC (.int 5))) (dC (.bl false)))))) (dsRet (dC (.bl false))) (dsNext)) (dsSeq (dsIf (dTest (dBin (gIs2 true) (dEqOwn (He.ga K "Middle") (S_Middle_eq K) (dVar 6) (dMake (He.ga K "Middle") (S_Middle_init K) 3 (dCons (dIx (qVal (dVar 3)) (dC (.int 0))) (dCons (dFz (dCat (qVal (dFz (dLst (dCons (dFz (dLst (dCons (dC (.int 2)) (dCons (dC (.int 1)) (dCons (dC (.int 0)) (dNil)))))) (dNil))))) (qVal (dFz (dSlice (qVal (dIx (qVal (dVar 3)) (dC (.int 1)))) (dPoS (dC (.int 1))) (dPoN)))))) (dNil))))) (dC (.bl false)))) (dsRet (dC (.bl false))) (dsNext)) (dsSeq (dsIf (dOr (dNot (dTruth (dCall (S__law_lines_are K) 2 (dCons (dVar 6) (dCons (dVar 3) (dNil)))))) (dNot (dTruth (dCall (S__law_passes_are K) 3 (dCons (dVar 6) (dCons (dVar 3) (dCons (dVar 2) (dNil)))))))) (dsRet (dC (.bl false))) (dsNext)) (dsRet (dAndV (dCall (S__law_passes_are K) 3 (dCons (dVar 7) (dCons (dVar 3) (dCons (dVar 2) (dNil))))) (dAndV (dCall (S__law_is K) 2 (dCons (dVar 6) (dCons (dVar 3) (dNil)))) (dCall (S__law_is K) 2 (dCons (dVar 7) (dCons (dVar 3) (dNil)))))))))))))))))))))
def S_law (K : Fg) : List D → M D := runF 10 (B_law K)
abbrev N_law : List Str := ["_law_script", "_law_draws_here", "_law_word_here", "_law_row", "_law_lines", "_law_marks", "_law_middle", "_law_twin", "_law_line", "_law_mark"]
abbrev P_law : List Str := ["_law_script"]
theorem sc_law : FnScope N_law P_law (defScope (top 61)) := ⟨rfl, rfl, rfl, by decide +kernel, rfl, by decide +kernel, by decide +kernel⟩
set_option maxHeartbeats 4000000 in
theorem b_law (F : Fx w K mg) : ∀ cdv A outer s H E, Room 9 (XB P w K mg base N_law "law" (top 61) f cdv A outer s H E).A → DSs (XB P w K mg base N_law "law" (top 61) f cdv A outer s H E) (WB E) (defBody (top 61)) (B_law K) := by
  intro cdv A outer s H E hr
  have tk : Takes (XB P w K mg base N_law "law" (top 61) f cdv A outer s H E) (WB E) := takes_of rfl rfl rfl rfl
  exact dss_cons (ds_set (i := 1) sc_law.nd (de_call (k__law_draws F) (hr.mono (by decide : 1 ≤ _)) tk (da_cons (de_var 0) (da_nil)))) (dss_cons (ds_set (i := 2) sc_law.nd (de_op od_add (de_int) (de_call (k__law_take F) (hr.mono (by decide : 1 ≤ _)) tk (da_cons (de_var 1) (da_cons (de_int) (da_nil)))))) (dss_cons (ds_set (i := 3) sc_law.nd (de_call (k__law_drawn_middle F) (hr.mono (by decide : 3 ≤ _)) tk (da_cons (de_var 1) (da_cons (de_var 2) (da_nil))))) (dss_cons (ds_setOLc (i := 4) (own := [("_law_line", 8)]) rfl sc_law.nd (di_seq (de_ix (dq_val (de_var 3)) (de_int))) (blkOk_by (by rfl)) (fun _ _ _ _ _ => dg_name 8 sc_law.nd) (fun _ _ _ _ _ => dts_nil) (fun _ _ _ _ _ => de_amb (df_lstOf (dq_val (de_var 8)) F.fr_list)) (by rfl)) (dss_amb 4 (dss_cons (ds_setOLc (i := 5) (own := [("_law_mark", 9)]) rfl sc_law.nd (di_seq (de_ix (dq_val (de_var 3)) (de_int))) (blkOk_by (by rfl)) (fun _ _ _ _ _ => dg_name 9 sc_law.nd) (fun _ _ _ _ _ => dts_nil) (fun _ _ _ _ _ => de_amb (df_lstOf (dq_val (de_var 9)) F.fr_list)) (by rfl)) (dss_amb 5 (dss_cons (ds_set (i := 6) sc_law.nd (de_make (k_Middle_init F) (hr.mono (by decide : 2 ≤ _)) tk (da_cons (de_var 4) (da_cons (de_var 5) (da_nil))))) (dss_cons (ds_setIxM (de_int) (de_ix (dq_val (de_var 4)) (de_int)) (de_int)) (dss_cons (ds_setIxM (de_int) (de_ix (dq_val (de_var 5)) (de_int)) (de_int)) (dss_cons (ds_appM (de_var 4) (de_fz (df_lst (da_cons (de_str) (da_nil))))) (dss_cons (ds_set (i := 7) sc_law.nd (de_make (k_Middle_init F) (hr.mono (by decide : 2 ≤ _)) tk (da_cons (de_tupOf (dq_val (de_ix (dq_val (de_var 3)) (de_int))) F.fr_tuple) (da_cons (de_tupOf (dq_val (de_fz (df_lc (own := [("_law_mark", 9)]) rfl sc_law.nd (di_seq (de_ix (dq_val (de_var 3)) (de_int))) (blkOk_by (by rfl)) (fun _ _ _ _ _ => dg_name 9 sc_law.nd) (fun _ _ _ _ _ => dts_nil) (fun _ _ _ _ _ => de_tupOf (dq_val (de_var 9)) F.fr_tuple)))) F.fr_tuple) (da_nil))))) (dss_cons (ds_if (dt_w (dw_or (dt_not (dt_truth (de_call (k__law_is F) (hr.mono (by decide : 1 ≤ _)) tk (da_cons (de_var 6) (da_cons (de_var 3) (da_nil)))))) (dw_or (dt_cmp od_notB (de_eqOwn (k_Middle_eq F) (hr.mono (by decide : 1 ≤ _)) (de_var 6) (de_var 7)) (de_bl)) (dw_or1 (dt_cmp od_notB (de_eqOwn (k_Middle_eq F) (hr.mono (by decide : 1 ≤ _)) (de_var 6) (de_int)) (de_bl)))))) (dss_one (ds_ret (de_bl))) (dss_nil)) (dss_cons (ds_if (dt_cmp od_notB (de_eqOwn (k_Middle_eq F) (hr.mono (by decide : 1 ≤ _)) (de_var 6) (de_make (k_Middle_init F) (hr.mono (by decide : 2 ≤ _)) tk (da_cons (de_ix (dq_val (de_var 3)) (de_int)) (da_cons (de_fz (df_cat (dq_val (de_fz (df_lst (da_cons (de_fz (df_lst (da_cons (de_int) (da_cons (de_int) (da_cons (de_int) (da_nil)))))) (da_nil))))) (dq_val (de_fz (df_slice (dq_val (de_ix (dq_val (de_var 3)) (de_int))) (dpo_some (de_int)) (dpo_none)))))) (da_nil))))) (de_bl)) (dss_one (ds_ret (de_bl))) (dss_nil)) (dss_cons (ds_if (dt_w (dw_or (dt_not (dt_truth (de_call (k__law_lines_are F) (hr.mono (by decide : 8 ≤ _)) tk (da_cons (de_var 6) (da_cons (de_var 3) (da_nil)))))) (dw_or1 (dt_not (dt_truth (de_call (k__law_passes_are F) (hr.mono (by decide : 9 ≤ _)) tk (da_cons (de_var 6) (da_cons (de_var 3) (da_cons (de_var 2) (da_nil)))))))))) (dss_one (ds_ret (de_bl))) (dss_nil)) (dss_one (ds_ret (de_and (de_call (k__law_passes_are F) (hr.mono (by decide : 9 ≤ _)) tk (da_cons (de_var 7) (da_cons (de_var 3) (da_cons (de_var 2) (da_nil))))) (de_and (de_call (k__law_is F) (hr.mono (by decide : 1 ≤ _)) tk (da_cons (de_var 6) (da_cons (de_var 3) (da_nil)))) (de_one (de_call (k__law_is F) (hr.mono (by decide : 1 ≤ _)) tk (da_cons (de_var 7) (da_cons (de_var 3) (da_nil)))))))))))))))))))))))
theorem k_law (F : Fx w K mg) : Known P w K mg base "law" 10 1 (S_law K) := by
  obtain ⟨fd, hf⟩ := F.fn_law
  exact (known_of hf sc_law F.gl_law (fun_binds hf fun _ _ _ _ _ _ us hl => match us, hl with | [_], _ => rfl) rfl (b_law F))

end
end K56
set_option Elab.async false
set_option linter.all false
set_option maxRecDepth 100000
set_option maxHeartbeats 4000000
set_option autoImplicit false
namespace K56
open PySem PySem.Spec L2 DL
theorem facts {w : World} {K : Fg} {mg : Str → Option Value} {h : Heap} (X : K.In h) (G : h.Ns mainGlobals mg) (c : SaysX bs fn ts w K) : Fx w K mg where
  fr_len := He.free_ok X G (c.fact 0 (b := (fun K => (He.Fa.free "len").ok K)))
  fr_min := He.free_ok X G (c.fact 1 (b := (fun K => (He.Fa.free "min").ok K)))
  fr_range := He.free_ok X G (c.fact 2 (b := (fun K => (He.Fa.free "range").ok K)))
  fr_int := He.free_ok X G (c.fact 3 (b := (fun K => (He.Fa.free "int").ok K)))
  gl__law_draws := He.glo_ok X G (c.fact 4 (b := (fun K => (He.Fa.glo "_law_draws").ok K)))
  fn__law_draws := c.def_ 0 (d := ⟨fun K => He.ga K "_law_draws", "_law_draws", "_law_draws", top 40⟩)
  gl__law_take := He.glo_ok X G (c.fact 5 (b := (fun K => (He.Fa.glo "_law_take").ok K)))
  fn__law_take := c.def_ 1 (d := ⟨fun K => He.ga K "_law_take", "_law_take", "_law_take", top 41⟩)
  gl__law_word := He.glo_ok X G (c.fact 6 (b := (fun K => (He.Fa.glo "_law_word").ok K)))
  fn__law_word := c.def_ 2 (d := ⟨fun K => He.ga K "_law_word", "_law_word", "_law_word", top 42⟩)
  gl__law_ops := He.glo_ok X G (c.fact 7 (b := (fun K => (He.Fa.glo "_law_ops").ok K)))
  fn__law_ops := c.def_ 3 (d := ⟨fun K => He.ga K "_law_ops", "_law_ops", "_law_ops", top 44⟩)
  gl__law_drawn_middle := He.glo_ok X G (c.fact 8 (b := (fun K => (He.Fa.glo "_law_drawn_middle").ok K)))
  fn__law_drawn_middle := c.def_ 4 (d := ⟨fun K => He.ga K "_law_drawn_middle", "_law_drawn_middle", "_law_drawn_middle", top 48⟩)
  fr_list := He.free_ok X G (c.fact 9 (b := (fun K => (He.Fa.free "list").ok K)))
  fr_tuple := He.free_ok X G (c.fact 10 (b := (fun K => (He.Fa.free "tuple").ok K)))
  cl_Middle := He.cls_ok (c.fact 11 (b := (fun K => (He.Fa.cls "Middle").ok K)))
  na_Middle_lines := He.noat_ok (c.fact 12 (b := (fun K => (He.Fa.noat "Middle" "lines").ok K)))
  na_Middle_marks := He.noat_ok (c.fact 13 (b := (fun K => (He.Fa.noat "Middle" "marks").ok K)))
  fn_Middle_init := c.def_ 5 (d := ⟨fun K => He.ma K (He.ga K "Middle") "__init__", "__init__", "Middle.__init__", inClass (top 18) 0⟩)
  mk_Middle := He.mkr_ok (c.fact 14 (b := (fun K => (He.Fa.mkr "Middle").ok K)))
  gl_Middle := He.glo_ok X G (c.fact 15 (b := (fun K => (He.Fa.glo "Middle").ok K)))
  own := fun C hC => by rw [List.mem_singleton.mp hC]; exact ownB_ok (He.cls_ok (c.fact 11 (b := (fun K => (He.Fa.cls "Middle").ok K)))) (c.fact 16 (b := (ownB (fun K => He.ga K "Middle"))))
  kit := kitB'_ok (c.fact 17 (b := (kitB' kits)))
  fr_isinstance := He.free_ok X G (c.fact 18 (b := (fun K => (He.Fa.free "isinstance").ok K)))
  gl__law_is := He.glo_ok X G (c.fact 19 (b := (fun K => (He.Fa.glo "_law_is").ok K)))
  fn__law_is := c.def_ 6 (d := ⟨fun K => He.ga K "_law_is", "_law_is", "_law_is", top 58⟩)
  fn_Middle_eq := c.def_ 7 (d := ⟨fun K => He.ma K (He.ga K "Middle") "__eq__", "__eq__", "Middle.__eq__", inClass (top 18) 1⟩)
  eqi_Middle := of_decide_eq_true (c.fact 20 (b := (fun K => decide (PySem.W.subIn K (.type "int") (.ref (He.ga K "Middle")) = some false))))
  eqf_Middle := (He.meth_ok (c.fact 21 (b := (fun K => (He.Fa.meth "Middle" "__eq__").ok K)))).at_
  eqn_Middle := (He.meth_ok (c.fact 21 (b := (fun K => (He.Fa.meth "Middle" "__eq__").ok K)))).fn
  gl__law_names_of := He.glo_ok X G (c.fact 22 (b := (fun K => (He.Fa.glo "_law_names_of").ok K)))
  fn__law_names_of := c.def_ 8 (d := ⟨fun K => He.ga K "_law_names_of", "_law_names_of", "_law_names_of", top 45⟩)
  gl__law_now := He.glo_ok X G (c.fact 23 (b := (fun K => (He.Fa.glo "_law_now").ok K)))
  fn__law_now := c.def_ 9 (d := ⟨fun K => He.ga K "_law_now", "_law_now", "_law_now", top 46⟩)
  fr_reversed := He.free_ok X G (c.fact 24 (b := (fun K => (He.Fa.free "reversed").ok K)))
  gl_ASKING := He.glo_ok X G (c.fact 25 (b := (fun K => (He.Fa.glo "ASKING").ok K)))
  tp_ASKING := kt_rep (vs := [.str "read", .str "must", .str "write", .str "out", .str "keep"]) (He.tupB_ok (c.fact 26 (b := (fun K => He.tupB K "ASKING" [.str "read", .str "must", .str "write", .str "out", .str "keep"])))) rfl
  gl_OPS := He.glo_ok X G (c.fact 27 (b := (fun K => (He.Fa.glo "OPS").ok K)))
  tp_OPS := kt_rep (vs := [.str "add", .str "sub", .str "and", .str "or", .str "xor", .str "less", .str "same"]) (He.tupB_ok (c.fact 28 (b := (fun K => He.tupB K "OPS" [.str "add", .str "sub", .str "and", .str "or", .str "xor", .str "less", .str "same"])))) rfl
  fn_Pool_ops := c.def_ 10 (d := ⟨fun K => smF K "Pool" "ops", "ops", "Pool.ops", inClass (top 15) 3⟩)
  sm_Pool_ops := smB_ok (c.fact 29 (b := (smB "Pool" "ops")))
  gl_Pool := He.glo_ok X G (c.fact 30 (b := (fun K => (He.Fa.glo "Pool").ok K)))
  gl_is_op := He.glo_ok X G (c.fact 31 (b := (fun K => (He.Fa.glo "is_op").ok K)))
  fn_is_op := c.def_ 11 (d := ⟨fun K => He.ga K "is_op", "is_op", "is_op", top 19⟩)
  gl_NAMING_SPOTS := He.glo_ok X G (c.fact 32 (b := (fun K => (He.Fa.glo "NAMING_SPOTS").ok K)))
  kt_NAMING_SPOTS := ⟨c.tab 0 (t := (fun K => He.ga K "NAMING_SPOTS", ["read", "must", "keep", "write", "out"])), fun x hx => by
    simp only [tab_NAMING_SPOTS, List.mem_cons, List.not_mem_nil, or_false] at hx
    rcases hx with rfl | rfl | rfl | rfl | rfl | rfl | rfl | rfl | rfl | rfl
    · exact dtup_at (c.fact 33 (b := (dtupB (fun K => He.ga K "NAMING_SPOTS") "read" [.int 1]))) rfl
    · exact dtup_at (c.fact 34 (b := (dtupB (fun K => He.ga K "NAMING_SPOTS") "must" [.int 1]))) rfl
    · exact dtup_at (c.fact 35 (b := (dtupB (fun K => He.ga K "NAMING_SPOTS") "keep" [.int 1]))) rfl
    · exact dtup_at (c.fact 36 (b := (dtupB (fun K => He.ga K "NAMING_SPOTS") "write" [.int 1, .int 2]))) rfl
    · exact dtup_at (c.fact 37 (b := (dtupB (fun K => He.ga K "NAMING_SPOTS") "out" [.int 2]))) rfl
    · exact missB_ok (c.fact 38 (b := (missB (fun K => He.ga K "NAMING_SPOTS") ["get", "num", "in", "end", "tick"]))) (by decide)
    · exact missB_ok (c.fact 38 (b := (missB (fun K => He.ga K "NAMING_SPOTS") ["get", "num", "in", "end", "tick"]))) (by decide)
    · exact missB_ok (c.fact 38 (b := (missB (fun K => He.ga K "NAMING_SPOTS") ["get", "num", "in", "end", "tick"]))) (by decide)
    · exact missB_ok (c.fact 38 (b := (missB (fun K => He.ga K "NAMING_SPOTS") ["get", "num", "in", "end", "tick"]))) (by decide)
    · exact missB_ok (c.fact 38 (b := (missB (fun K => He.ga K "NAMING_SPOTS") ["get", "num", "in", "end", "tick"]))) (by decide)⟩
  gl_naming_spots := He.glo_ok X G (c.fact 39 (b := (fun K => (He.Fa.glo "naming_spots").ok K)))
  fn_naming_spots := c.def_ 12 (d := ⟨fun K => He.ga K "naming_spots", "naming_spots", "naming_spots", top 20⟩)
  gl_operands_of := He.glo_ok X G (c.fact 40 (b := (fun K => (He.Fa.glo "operands_of").ok K)))
  fn_operands_of := c.def_ 13 (d := ⟨fun K => He.ga K "operands_of", "operands_of", "operands_of", top 21⟩)
  gl_asked_through := He.glo_ok X G (c.fact 41 (b := (fun K => (He.Fa.glo "asked_through").ok K)))
  fn_asked_through := c.def_ 14 (d := ⟨fun K => He.ga K "asked_through", "asked_through", "asked_through", top 32⟩)
  gl_is_idle_kind := He.glo_ok X G (c.fact 42 (b := (fun K => (He.Fa.glo "is_idle_kind").ok K)))
  fn_is_idle_kind := c.def_ 15 (d := ⟨fun K => He.ga K "is_idle_kind", "is_idle_kind", "is_idle_kind", top 33⟩)
  gl_now_lines := He.glo_ok X G (c.fact 43 (b := (fun K => (He.Fa.glo "now_lines").ok K)))
  fn_now_lines := c.def_ 16 (d := ⟨fun K => He.ga K "now_lines", "now_lines", "now_lines", top 35⟩)
  fr_enumerate := He.free_ok X G (c.fact 44 (b := (fun K => (He.Fa.free "enumerate").ok K)))
  gl_late_lines := He.glo_ok X G (c.fact 45 (b := (fun K => (He.Fa.glo "late_lines").ok K)))
  fn_late_lines := c.def_ 17 (d := ⟨fun K => He.ga K "late_lines", "late_lines", "late_lines", top 36⟩)
  gl__law_lines_are := He.glo_ok X G (c.fact 46 (b := (fun K => (He.Fa.glo "_law_lines_are").ok K)))
  fn__law_lines_are := c.def_ 18 (d := ⟨fun K => He.ga K "_law_lines_are", "_law_lines_are", "_law_lines_are", top 59⟩)
  gl_renamed := He.glo_ok X G (c.fact 47 (b := (fun K => (He.Fa.glo "renamed").ok K)))
  fn_renamed := c.def_ 19 (d := ⟨fun K => He.ga K "renamed", "renamed", "renamed", top 22⟩)
  gl_worked := He.glo_ok X G (c.fact 48 (b := (fun K => (He.Fa.glo "worked").ok K)))
  fn_worked := c.def_ 20 (d := ⟨fun K => He.ga K "worked", "worked", "worked", top 14⟩)
  gl_shortened := He.glo_ok X G (c.fact 49 (b := (fun K => (He.Fa.glo "shortened").ok K)))
  fn_shortened := c.def_ 21 (d := ⟨fun K => He.ga K "shortened", "shortened", "shortened", top 26⟩)
  fr_bool := He.free_ok X G (c.fact 50 (b := (fun K => (He.Fa.free "bool").ok K)))
  gl_is_integer := He.glo_ok X G (c.fact 51 (b := (fun K => (He.Fa.glo "is_integer").ok K)))
  fn_is_integer := c.def_ 22 (d := ⟨fun K => He.ga K "is_integer", "is_integer", "is_integer", top 8⟩)
  gl_check_int := He.glo_ok X G (c.fact 52 (b := (fun K => (He.Fa.glo "check_int").ok K)))
  fn_check_int := c.def_ 23 (d := ⟨fun K => He.ga K "check_int", "check_int", "check_int", top 9⟩)
  gl_ones := He.glo_ok X G (c.fact 53 (b := (fun K => (He.Fa.glo "ones").ok K)))
  fn_ones := c.def_ 24 (d := ⟨fun K => He.ga K "ones", "ones", "ones", top 10⟩)
  gl_marks_renamed := He.glo_ok X G (c.fact 54 (b := (fun K => (He.Fa.glo "marks_renamed").ok K)))
  fn_marks_renamed := c.def_ 25 (d := ⟨fun K => He.ga K "marks_renamed", "marks_renamed", "marks_renamed", top 25⟩)
  gl_known := He.glo_ok X G (c.fact 55 (b := (fun K => (He.Fa.glo "known").ok K)))
  fn_known := c.def_ 26 (d := ⟨fun K => He.ga K "known", "known", "known", top 27⟩)
  gl__law_renamed := He.glo_ok X G (c.fact 56 (b := (fun K => (He.Fa.glo "_law_renamed").ok K)))
  fn__law_renamed := c.def_ 27 (d := ⟨fun K => He.ga K "_law_renamed", "_law_renamed", "_law_renamed", top 49⟩)
  gl__law_op := He.glo_ok X G (c.fact 57 (b := (fun K => (He.Fa.glo "_law_op").ok K)))
  fn__law_op := c.def_ 28 (d := ⟨fun K => He.ga K "_law_op", "_law_op", "_law_op", top 43⟩)
  gl__law_shorter := He.glo_ok X G (c.fact 58 (b := (fun K => (He.Fa.glo "_law_shorter").ok K)))
  fn__law_shorter := c.def_ 29 (d := ⟨fun K => He.ga K "_law_shorter", "_law_shorter", "_law_shorter", top 51⟩)
  gl__law_marks_renamed := He.glo_ok X G (c.fact 59 (b := (fun K => (He.Fa.glo "_law_marks_renamed").ok K)))
  fn__law_marks_renamed := c.def_ 30 (d := ⟨fun K => He.ga K "_law_marks_renamed", "_law_marks_renamed", "_law_marks_renamed", top 50⟩)
  gl__law_known := He.glo_ok X G (c.fact 60 (b := (fun K => (He.Fa.glo "_law_known").ok K)))
  fn__law_known := c.def_ 31 (d := ⟨fun K => He.ga K "_law_known", "_law_known", "_law_known", top 52⟩)
  gl_once := He.glo_ok X G (c.fact 61 (b := (fun K => (He.Fa.glo "once").ok K)))
  fn_once := c.def_ 32 (d := ⟨fun K => He.ga K "once", "once", "once", top 31⟩)
  gl__law_once := He.glo_ok X G (c.fact 62 (b := (fun K => (He.Fa.glo "_law_once").ok K)))
  fn__law_once := c.def_ 33 (d := ⟨fun K => He.ga K "_law_once", "_law_once", "_law_once", top 53⟩)
  fr_zip := He.free_ok X G (c.fact 63 (b := (fun K => (He.Fa.free "zip").ok K)))
  gl_lines_left := He.glo_ok X G (c.fact 64 (b := (fun K => (He.Fa.glo "lines_left").ok K)))
  fn_lines_left := c.def_ 34 (d := ⟨fun K => He.ga K "lines_left", "lines_left", "lines_left", top 28⟩)
  gl_never_leaves := He.glo_ok X G (c.fact 65 (b := (fun K => (He.Fa.glo "never_leaves").ok K)))
  fn_never_leaves := c.def_ 35 (d := ⟨fun K => He.ga K "never_leaves", "never_leaves", "never_leaves", top 29⟩)
  gl_spared := He.glo_ok X G (c.fact 66 (b := (fun K => (He.Fa.glo "spared").ok K)))
  fn_spared := c.def_ 36 (d := ⟨fun K => He.ga K "spared", "spared", "spared", top 30⟩)
  gl__law_lines_left := He.glo_ok X G (c.fact 67 (b := (fun K => (He.Fa.glo "_law_lines_left").ok K)))
  fn__law_lines_left := c.def_ 37 (d := ⟨fun K => He.ga K "_law_lines_left", "_law_lines_left", "_law_lines_left", top 54⟩)
  gl__law_spared := He.glo_ok X G (c.fact 68 (b := (fun K => (He.Fa.glo "_law_spared").ok K)))
  fn__law_spared := c.def_ 38 (d := ⟨fun K => He.ga K "_law_spared", "_law_spared", "_law_spared", top 55⟩)
  gl_dropped := He.glo_ok X G (c.fact 69 (b := (fun K => (He.Fa.glo "dropped").ok K)))
  fn_dropped := c.def_ 39 (d := ⟨fun K => He.ga K "dropped", "dropped", "dropped", top 34⟩)
  gl__law_held := He.glo_ok X G (c.fact 70 (b := (fun K => (He.Fa.glo "_law_held").ok K)))
  fn__law_held := c.def_ 40 (d := ⟨fun K => He.ga K "_law_held", "_law_held", "_law_held", top 47⟩)
  gl__law_dropped := He.glo_ok X G (c.fact 71 (b := (fun K => (He.Fa.glo "_law_dropped").ok K)))
  fn__law_dropped := c.def_ 41 (d := ⟨fun K => He.ga K "_law_dropped", "_law_dropped", "_law_dropped", top 56⟩)
  gl__law_tidy := He.glo_ok X G (c.fact 72 (b := (fun K => (He.Fa.glo "_law_tidy").ok K)))
  fn__law_tidy := c.def_ 42 (d := ⟨fun K => He.ga K "_law_tidy", "_law_tidy", "_law_tidy", top 57⟩)
  gl_tidy := He.glo_ok X G (c.fact 73 (b := (fun K => (He.Fa.glo "tidy").ok K)))
  fn_tidy := c.def_ 43 (d := ⟨fun K => He.ga K "tidy", "tidy", "tidy", top 37⟩)
  gl_plainly := He.glo_ok X G (c.fact 74 (b := (fun K => (He.Fa.glo "plainly").ok K)))
  fn_plainly := c.def_ 44 (d := ⟨fun K => He.ga K "plainly", "plainly", "plainly", top 38⟩)
  gl__law_passes_are := He.glo_ok X G (c.fact 75 (b := (fun K => (He.Fa.glo "_law_passes_are").ok K)))
  fn__law_passes_are := c.def_ 45 (d := ⟨fun K => He.ga K "_law_passes_are", "_law_passes_are", "_law_passes_are", top 60⟩)
  gl_law := He.glo_ok X G (c.fact 76 (b := (fun K => (He.Fa.glo "law").ok K)))
  fn_law := c.def_ 46 (d := ⟨fun K => He.ga K "law", "law", "law", top 61⟩)
theorem lawF {P : Program} {w : World} {K : Fg} {h : Heap} {mg : Str → Option Value} {f : Addr} (X : K.In h) (G : h.Ns mainGlobals mg) (hfa : mg ("law" : Str) = some (.ref f)) (c : SaysX bs fn ts w K) :
    ∃ fd : FuncData, (∀ (s : Shared) (v : Value), BindsTo s fd ⟨[v], []⟩ [("_law_script", v)]) ∧ ∀ base : Heap, K.In base → base.Ns mainGlobals mg → FnOk P w K mg base (L2.CX P w) 10 f fd P_law (spD K 1 (S_law K)) := by
  have F := facts X G c
  obtain ⟨fd, hf⟩ := F.fn_law
  have e := hfa.symm.trans F.gl_law
  cases e
  refine ⟨fd, fun s v => ?_, fun base _ _ => fnOk_of hf sc_law rfl (b_law F)⟩
  obtain ⟨oc, od, kV, doc, pm, an, cdv, ct, osl, rfl, lk, hcd⟩ := hf.ex
  exact .of_eq rfl
end K56
set_option Elab.async false
set_option linter.all false
set_option maxRecDepth 100000
set_option maxHeartbeats 4000000
set_option autoImplicit false
namespace DL
open PySem PySem.Spec L2
/-! ### reckoning: what every reading answers -/
@[simp] theorem bind_ap {α β : Type} {μ : Mu} {m : M α} {f : α → M β} : M.bind m f μ = (match m μ with
  | none => none
  | some (.ok a, μ') => f a μ'
  | some (.ex C ns ds, μ') => some (.ex C ns ds, μ')) := rfl
@[simp] theorem ret_ap {α : Type} {μ : Mu} {a : α} : M.ret a μ = some (.ok a, μ) := rfl
@[simp] theorem liftS_ap {α : Type} {μ : Mu} {a : α} : M.lift (some a) μ = some (.ok a, μ) := rfl
@[simp] theorem liftN_ap {α : Type} {μ : Mu} : M.lift (none : Option α) μ = none := rfl
@[simp] theorem stuck_ap {α : Type} {μ : Mu} : (M.stuck : M α) μ = none := rfl
@[simp] theorem iteM_ap {α : Type} {μ : Mu} {p : Prop} [Decidable p] {a b : M α} : (if p then a else b) μ = if p then a μ else b μ := by split <;> rfl
@[simp] theorem nx_ap {α : Type} {μ : Mu} {m : M α} : M.nx m μ = (match m μ with
  | some (.ok a, μ') => some (.ok a, μ')
  | _ => none) := rfl
@[simp] theorem dsStuck_ap {ρ : Rho} {μ : Mu} : dsStuck ρ μ = none := rfl
@[simp] theorem gtName_ap {i : Nat} {d : D} {ρ : Rho} : gtName i d ρ = some (ρ.set i (some (.sh d))) := rfl
@[simp] theorem gtNil_ap {ρ : Rho} : gtNil [] ρ = some ρ := rfl
@[simp] theorem gtCons_ap {t : D → Rho → Option Rho} {u : List D → Rho → Option Rho} {d : D} {ds : List D} {ρ : Rho} : gtCons t u (d :: ds) ρ = (match t d ρ with
  | none => none
  | some ρ' => u ds ρ') := rfl
@[simp] theorem gtTup_ap {n : Nat} {u : List D → Rho → Option Rho} {ds : List D} {ρ : Rho} : gtTup n u (.tup ds) ρ = (if ds.length = n then u ds ρ else none) := rfl
@[simp] theorem dVar_ap {i : Nat} {ρ : Rho} {μ : Mu} : dVar i ρ μ = (match ρ[i]? with
  | some (some (.sh d)) => M.ret d
  | _ => M.stuck) μ := rfl
@[simp] theorem dC_ap {d : D} {ρ0 : Rho} {μ : Mu} : dC d ρ0 μ = (M.ret d) μ := rfl
@[simp] theorem dBin_ap {gf : D → D → Option D} {ta tb : TD} {ρ : Rho} {μ : Mu} : dBin gf ta tb ρ μ = (M.bind (ta ρ) fun x => M.bind (tb ρ) fun y => M.lift (gf x y)) μ := rfl
@[simp] theorem dTest_ap {t : TD} {ρ : Rho} {μ : Mu} : dTest t ρ μ = (M.bind (t ρ) fun d => match d with
  | .bl b => M.ret b
  | _ => M.stuck) μ := rfl
@[simp] theorem dTruth_ap {t : TD} {ρ : Rho} {μ : Mu} : dTruth t ρ μ = (M.bind (t ρ) fun d => M.lift d.truth) μ := rfl
@[simp] theorem dAnd_ap {t u : TB} {ρ : Rho} {μ : Mu} : dAnd t u ρ μ = (M.bind (t ρ) fun b => if b = true then u ρ else M.ret false) μ := rfl
@[simp] theorem dOr_ap {t u : TB} {ρ : Rho} {μ : Mu} : dOr t u ρ μ = (M.bind (t ρ) fun b => if b = true then M.ret true else u ρ) μ := rfl
@[simp] theorem dNot_ap {t : TB} {ρ : Rho} {μ : Mu} : dNot t ρ μ = (M.bind (t ρ) fun b => M.ret (!b)) μ := rfl
@[simp] theorem dAndV_ap {t u : TD} {ρ : Rho} {μ : Mu} : dAndV t u ρ μ = (M.bind (t ρ) fun d => match d with
  | .bl true => u ρ
  | .bl false => M.ret (.bl false)
  | _ => M.stuck) μ := rfl
@[simp] theorem dOrV_ap {t u : TD} {ρ : Rho} {μ : Mu} : dOrV t u ρ μ = (M.bind (t ρ) fun d => match d with
  | .bl false => u ρ
  | .bl true => M.ret (.bl true)
  | _ => M.stuck) μ := rfl
@[simp] theorem dNotV_ap {t : TD} {ρ : Rho} {μ : Mu} : dNotV t ρ μ = (M.bind (t ρ) fun d => match d with
  | .bl b => M.ret (.bl (!b))
  | _ => M.stuck) μ := rfl
@[simp] theorem dIfE_ap {t : TB} {u v : TD} {ρ : Rho} {μ : Mu} : dIfE t u v ρ μ = (M.bind (t ρ) fun b => if b = true then u ρ else v ρ) μ := rfl
@[simp] theorem dNil_ap  {ρ0 : Rho} {μ : Mu} : dNil  ρ0 μ = (M.ret []) μ := rfl
@[simp] theorem dCons_ap {t : TD} {u : TL} {ρ : Rho} {μ : Mu} : dCons t u ρ μ = (M.bind (t ρ) fun d => M.bind (u ρ) fun ds => M.ret (d :: ds)) μ := rfl
@[simp] theorem dTup_ap {t : TL} {ρ : Rho} {μ : Mu} : dTup t ρ μ = (M.bind (t ρ) fun ds => if ds.length ≤ sizeLine then M.ret (.tup ds) else M.stuck) μ := rfl
@[simp] theorem dLst_ap {t : TL} {ρ : Rho} {μ : Mu} : dLst t ρ μ = (M.bind (t ρ) fun ds => if ds.length ≤ sizeLine then M.ret ds else M.stuck) μ := rfl
@[simp] theorem dFz_ap {t : TL} {ρ : Rho} {μ : Mu} : dFz t ρ μ = (M.bind (t ρ) fun ds => M.ret (.lst ds)) μ := rfl
@[simp] theorem dsE_ap {α : Type} {m : Rho → M α} {f : α → Rho → Mu → Option (Out × Mu)} {ρ : Rho} {μ : Mu} : dsE m f ρ μ = (match m ρ μ with
  | none => none
  | some (.ok a, μ') => f a ρ μ'
  | some (.ex C ns ds, μ') => some (.ex ρ C ns ds, μ')) := rfl
@[simp] theorem dsNext_ap  {ρ : Rho} {μ : Mu} : dsNext  ρ μ = (some (.nx ρ, μ)) := rfl
theorem dsSeq_ap {t u : TO'} {ρ : Rho} {μ : Mu} : dsSeq t u ρ μ = (match t ρ μ with
  | none => none
  | some (.nx ρ', μ') => u ρ' μ'
  | some (o, μ') => some (o, μ')) := rfl
@[simp] theorem dCall_ap {F : List D → M D} {n : Nat} {t : TL} {ρ : Rho} {μ : Mu} : dCall F n t ρ μ = (M.bind (t ρ) fun ds => if ds.length = n then F ds else M.stuck) μ := rfl
@[simp] theorem dRng1_ap {t : TD} {ρ : Rho} {μ : Mu} : dRng1 t ρ μ = (M.bind (t ρ) fun d => match d with
  | .int j => if -(2 ^ 62) ≤ j ∧ j < 2 ^ 62 then M.ret (rangeD 0 j.toNat) else M.stuck
  | _ => M.stuck) μ := rfl
@[simp] theorem dYes_ap  {ρ0 : Rho} {μ : Mu} : dYes  ρ0 μ = (M.ret true) μ := rfl
@[simp] theorem dLc_ap {vs : List Nat} {tl : TL} {gt : D → Rho → Option Rho} {tt : TB} {te : TD} {ρ : Rho} {μ : Mu} : dLc vs tl gt tt te ρ μ = (M.bind (tl ρ) fun ds => if okW ρ vs = true then lcL vs gt tt te ρ ds [] else M.stuck) μ := rfl
@[simp] theorem qVal_ap {t : TD} {ρ : Rho} {μ : Mu} : qVal t ρ μ = (M.bind (t ρ) fun d => M.ret (.val d)) μ := rfl
@[simp] theorem dLen_ap {t : TQ} {ρ : Rho} {μ : Mu} : dLen t ρ μ = (M.bind (t ρ) fun q μ => match q with
  | .val (.str z) => if z.length ≤ sizeLine then some (.ok (.int z.length), μ) else none
  | q => match qv q ρ μ with
    | some ds => some (.ok (.int ds.length), μ)
    | none => none) μ := rfl
@[simp] theorem dIx_ap {t : TQ} {u : TD} {ρ : Rho} {μ : Mu} : dIx t u ρ μ = (M.bind (t ρ) fun q => M.bind (u ρ) fun i μ => match i with
  | .int i => match q with
    | .val (.str z) => if z.length ≤ sizeLine then match atI z.cps.toList i with
      | some ch => some (.ok (.str ⟨#[ch]⟩), μ)
      | none => none else none
    | q => match qv q ρ μ with
      | some ds => match atI ds i with
        | some d => some (.ok d, μ)
        | none => none
      | none => none
  | _ => none) μ := rfl
@[simp] theorem dIn_ap {neg : Bool} {t : TD} {u : TQ} {ρ : Rho} {μ : Mu} : dIn neg t u ρ μ = (M.bind (t ρ) fun x => M.bind (u ρ) fun q μ => match qv q ρ μ with
  | some ds => match inD x ds with
    | some b => some (.ok (.bl (if neg then !b else b)), μ)
    | none => none
  | none => none) μ := rfl
@[simp] theorem dTupOf_ap {t : TQ} {ρ : Rho} {μ : Mu} : dTupOf t ρ μ = (M.bind (t ρ) fun q μ => match qv q ρ μ with
  | some ds => some (.ok (if q.isK = true then .kt ds else .tup ds), μ)
  | none => none) μ := rfl
@[simp] theorem dLstOf_ap {t : TQ} {ρ : Rho} {μ : Mu} : dLstOf t ρ μ = (M.bind (t ρ) fun q μ => match qv q ρ μ with
  | some ds => some (.ok ds, μ)
  | none => none) μ := rfl
@[simp] theorem dMin2_ap {t u : TD} {ρ : Rho} {μ : Mu} : dMin2 t u ρ μ = (M.bind (t ρ) fun x => M.bind (u ρ) fun y => match x, y with
  | .int i, .int j => M.ret (.int (if j < i then j else i))
  | _, _ => M.stuck) μ := rfl
@[simp] theorem dInt_ap {t : TD} {ρ : Rho} {μ : Mu} : dInt t ρ μ = (M.bind (t ρ) fun x => match x with
  | .int i => M.ret (.int i)
  | .bl b => M.ret (.int (if b then 1 else 0))
  | _ => M.stuck) μ := rfl
@[simp] theorem dNeg_ap {t : TD} {ρ : Rho} {μ : Mu} : dNeg t ρ μ = (M.bind (t ρ) fun x => match x with
  | .int i => M.ret (.int (-i))
  | _ => M.stuck) μ := rfl
@[simp] theorem dAmb_ap {t : TL} {ρ : Rho} {μ : Mu} : dAmb t ρ μ = (M.bind (t ρ) fun ds μ => some (.ok (.mref μ.length), μ ++ [.lst ds])) μ := rfl
@[simp] theorem dsAmb_ap {i : Nat} {ρ : Rho} {μ : Mu} : dsAmb i ρ μ = (match ρ[i]? with
  | some (some (.ol ds)) => some (.nx (ρ.set i (some (.sh (.mref μ.length)))), μ ++ [.lst ds])
  | _ => none) := rfl
@[simp] theorem dsFzM_ap {i : Nat} {ρ : Rho} {μ : Mu} : dsFzM i ρ μ = (match ρ[i]? with
  | some (some (.sh (.mref k))) => match μ[k]? with
    | some (.lst ds) => some (.nx (ρ.set i (some (.sh (.lst ds)))), μ.set k .dead)
    | _ => none
  | _ => none) := rfl
@[simp] theorem dIter_ap {t : TD} {ρ : Rho} {μ : Mu} : dIter t ρ μ = (M.bind (t ρ) fun d => M.lift d.items) μ := rfl
@[simp] theorem dEnum_ap {t : TD} {ρ : Rho} {μ : Mu} : dEnum t ρ μ = (M.bind (t ρ) fun d => M.lift (d.items.map enumD)) μ := rfl
@[simp] theorem dZip_ap {t u : TD} {ρ : Rho} {μ : Mu} : dZip t u ρ μ = (M.bind (t ρ) fun d => M.bind (u ρ) fun e => M.lift (match d.items, e.items with
  | some ds, some es => some (zipD ds es)
  | _, _ => none)) μ := rfl
@[simp] theorem dRevRng_ap {t : TD} {ρ : Rho} {μ : Mu} : dRevRng t ρ μ = (M.bind (t ρ) fun d => match d with
  | .int j => if 0 ≤ j ∧ j < 2 ^ 62 then M.ret (revRange j.toNat) else M.stuck
  | _ => M.stuck) μ := rfl
@[simp] theorem dCat_ap {t u : TQ} {ρ : Rho} {μ : Mu} : dCat t u ρ μ = (M.bind (t ρ) fun p => M.bind (u ρ) fun q μ => match qvl p ρ μ, qvl q ρ μ with
  | some ds, some es => if ds.length + es.length ≤ sizeLine then some (.ok (ds ++ es), μ) else none
  | _, _ => none) μ := rfl
@[simp] theorem dRepL_ap {t : TQ} {u : TD} {ρ : Rho} {μ : Mu} : dRepL t u ρ μ = (M.bind (t ρ) fun p => M.bind (u ρ) fun d μ => match d with
  | .int n => match qvl p ρ μ with
    | some ds => if -(2 ^ 63) ≤ n ∧ n < 2 ^ 63 ∧ ds.length * n.toNat ≤ sizeLine then some (.ok (List.replicate n.toNat ds).flatten, μ) else none
    | none => none
  | _ => none) μ := rfl
@[simp] theorem dPoS_ap {t : TD} {ρ : Rho} {μ : Mu} : dPoS t ρ μ = (M.bind (t ρ) fun d => match d with
  | .int i => M.ret (some i)
  | _ => M.stuck) μ := rfl
@[simp] theorem dSlice_ap {t : TQ} {lo hi : Rho → M (Option Int)} {ρ : Rho} {μ : Mu} : dSlice t lo hi ρ μ = (M.bind (t ρ) fun q => M.bind (lo ρ) fun l => M.bind (hi ρ) fun h μ => match qvl q ρ μ with
  | some ds => some (.ok (cutD ds l h), μ)
  | none => none) μ := rfl
@[simp] theorem dFld_ap {S : List Addr} {f : Str} {t : TD} {ρ : Rho} {μ : Mu} : dFld S f t ρ μ = (M.bind (t ρ) fun d μ => match insD d μ with
  | some (C, ns, ds) => if C ∈ S then match fldD ns ds f with
    | some y => some (.ok y, μ)
    | none => none else none
  | none => none) μ := rfl
@[simp] theorem dEqOwn_ap {C : Addr} {F : List D → M D} {t u : TD} {ρ : Rho} {μ : Mu} : dEqOwn C F t u ρ μ = (M.bind (t ρ) fun x => M.bind (u ρ) fun y μ => match x with
  | .obj C' _ _ => if C' = C then match tyRight C y with
    | some _ => match F [x, y] μ with
      | some (.ok (.bl b), μ') => some (.ok (.bl b), μ')
      | _ => none
    | none => none else none
  | _ => none) μ := rfl
@[simp] theorem dIsi_ap {S : List Addr} {kI : Kit} {t u : TD} {ρ : Rho} {μ : Mu} : dIsi S kI t u ρ μ = (M.bind (t ρ) fun x => M.bind (u ρ) fun y μ => match tyD S x μ, clsD y with
  | some ty, some c => match kitD kI ty c with
    | some b => some (.ok (.bl b), μ)
    | none => none
  | _, _ => none) μ := rfl
@[simp] theorem dMake_ap {C : Addr} {F : List D → M D} {n : Nat} {tl : TL} {ρ : Rho} {μ : Mu} : dMake C F n tl ρ μ = (M.bind (tl ρ) fun ds μ => match made C F n ds μ with
  | some (.ok (), μ') => match μ'[μ.length]? with
    | some (.ins C' ns es) => if (D.lowAll μ.length es && (μ'.take μ.length).all (MO.low μ.length)) = true then some (.ok (.obj C' ns es), μ'.take μ.length) else none
    | _ => none
  | some (.ex C ns es, μ') => some (.ex C ns es, μ')
  | none => none) μ := rfl
@[simp] theorem dNewT_ap  {ρ0 : Rho} {μ : Mu} : dNewT  ρ0 μ = (some (.ok (.mref μ.length), μ ++ [.dt [] []])) := rfl
@[simp] theorem dDGet_ap {t u : TD} {ρ : Rho} {μ : Mu} : dDGet t u ρ μ = (M.bind (t ρ) fun d => M.bind (u ρ) fun y μ => match dgetD d y μ with
  | some (some x) => some (.ok x, μ)
  | _ => none) μ := rfl
@[simp] theorem dDIn_ap {neg : Bool} {u t : TD} {ρ : Rho} {μ : Mu} : dDIn neg u t ρ μ = (M.bind (u ρ) fun y => M.bind (t ρ) fun d μ => match dgetD d y μ with
  | some o => some (.ok (.bl (if neg then !o.isSome else o.isSome)), μ)
  | none => none) μ := rfl
@[simp] theorem dSetdT_ap {t u x : TD} {ρ : Rho} {μ : Mu} : dSetdT t u x ρ μ = (M.bind (t ρ) fun d μ0 => if isDt d μ0 = true then M.bind (u ρ) (fun y => M.bind (x ρ) fun z μ => match d with
  | .mref n => match μ[n]? with
    | some (.dt ks ds) => match y.keyT with
      | some k => if ds.length < sizeLine then match valD ks ds k with
        | some v => some (.ok v, μ)
        | none => some (.ok z, μ.set n (.dt (putKs ks k) (putVs ks ds k z))) else none
      | none => none
    | _ => none
  | _ => none) μ0 else none) μ := rfl
@[simp] theorem dKGet_ap {a : Addr} {tb : KTab} {t u x : TD} {ρ : Rho} {μ : Mu} : dKGet a tb t u x ρ μ = (M.bind (t ρ) fun d => match d with
  | .ref b => if b = a then M.bind (u ρ) fun y => M.bind (x ρ) fun z => match y with
    | .str k => match tb.lookup k with
      | some (some v) => M.ret v
      | some none => M.ret z
      | none => M.stuck
    | _ => M.stuck else M.stuck
  | _ => M.stuck) μ := rfl
@[simp] theorem dSMet0_ap {C : Addr} {F : List D → M D} {t : TD} {ρ : Rho} {μ : Mu} : dSMet0 C F t ρ μ = (M.bind (t ρ) fun d => match d with
  | .ref b => if b = C then M.nx (F []) else M.stuck
  | _ => M.stuck) μ := rfl
@[simp] theorem dSrc_ap {t : TD} {ρ : Rho} {μ : Mu} : dSrc t ρ μ = (M.bind (t ρ) fun d μ => match srcOf d μ with
  | some S => some (.ok S, μ)
  | none => none) μ := rfl
@[simp] theorem dLcJ_ap {vs : List Nat} {ts : Rho → M Src} {gt : D → Rho → Option Rho} {tt : TB} {te : TD} {ρ : Rho} {μ : Mu} : dLcJ vs ts gt tt te ρ μ = (M.bind (ts ρ) fun S => if okW ρ vs = true then lcJ vs gt tt te ρ S.nxt S.n 0 [] else M.stuck) μ := rfl
@[simp] theorem dCall0_ap {F : List D → M D} {ρ0 : Rho} {μ : Mu} : dCall0 F ρ0 μ = (M.nx (F [])) μ := rfl

theorem dsIf_ap {t : TB} {u v : TO'} {ρ : Rho} {μ : Mu} : dsIf t u v ρ μ = dsE t (fun b ρ μ => if b = true then u ρ μ else v ρ μ) ρ μ := rfl
@[simp] theorem dsRet_ap {t : TD} {ρ : Rho} {μ : Mu} : dsRet t ρ μ = dsE t (fun d ρ μ => some (.rt d, μ)) ρ μ := rfl
@[simp] theorem dsExpr_ap {t : TD} {ρ : Rho} {μ : Mu} : dsExpr t ρ μ = dsE t (fun d ρ μ => some (.nx ρ, μ)) ρ μ := rfl
@[simp] theorem dsSet_ap {i : Nat} {t : TD} {ρ : Rho} {μ : Mu} : dsSet i t ρ μ = dsE t (fun d ρ μ => some (.nx (ρ.set i (some (.sh d))), μ)) ρ μ := rfl
@[simp] theorem dsSetO_ap {i : Nat} {t : TL} {ρ : Rho} {μ : Mu} : dsSetO i t ρ μ = dsE t (fun ds ρ μ => some (.nx (ρ.set i (some (.ol ds))), μ)) ρ μ := rfl
@[simp] theorem dsAsg_ap {t : TD} {gt : D → Rho → Option Rho} {ρ : Rho} {μ : Mu} : dsAsg t gt ρ μ = dsE t (fun d ρ μ => match gt d ρ with
  | some ρ' => some (.nx ρ', μ)
  | none => none) ρ μ := rfl
@[simp] theorem dsFor_ap {tl : TL} {gt : D → Rho → Option Rho} {tb : TO'} {ρ : Rho} {μ : Mu} : dsFor tl gt tb ρ μ = dsE tl (fun ds ρ μ => forL gt tb ds ρ μ) ρ μ := rfl
@[simp] theorem dsAppM_ap {to' te' : TD} {ρ : Rho} {μ : Mu} : dsAppM to' te' ρ μ = dsE to' (fun d ρ μ => match muLst d μ with
  | some _ => dsE te' (fun y ρ μ => match muLst d μ with
    | some (k, ds) => if ds.length < sizeLine then some (.nx ρ, μ.set k (.lst (ds ++ [y]))) else none
    | none => none) ρ μ
  | none => none) ρ μ := rfl
@[simp] theorem dsSetIxM_ap {te' to' tb : TD} {ρ : Rho} {μ : Mu} : dsSetIxM te' to' tb ρ μ = dsE te' (fun y => dsE to' fun d => dsE tb fun i ρ μ => match i with
  | .int i => match muLst d μ with
    | some (k, ds) => match ixN ds.length i with
      | some j => some (.nx ρ, μ.set k (.lst (ds.set j y)))
      | none => none
    | none => none
  | _ => none) ρ μ := rfl
@[simp] theorem dsDPut_ap {tv to' ti : TD} {ρ : Rho} {μ : Mu} : dsDPut tv to' ti ρ μ = dsE tv (fun z => dsE to' fun d => dsE ti fun y ρ μ => match dputD d y z μ with
  | some μ' => some (.nx ρ, μ')
  | none => none) ρ μ := rfl
@[simp] theorem dsFld_ap {S : List Addr} {f : Str} {te to' : TD} {ρ : Rho} {μ : Mu} : dsFld S f te to' ρ μ = dsE te (fun y => dsE to' fun d ρ μ => match d with
  | .mref k => match μ[k]? with
    | some (.ins C ns ds) => if C ∈ S ∧ ns.length < 1000 then some (.nx ρ, μ.set k (.ins C (putN ns f) (putA ns ds f y))) else none
    | _ => none
  | _ => none) ρ μ := rfl
/-! ### statements, one by one -/
section
variable {t u v : TO'} {tq : TB} {a : TD} {ρ ρ1 : Rho} {μ μ1 μ2 : Mu} {r : Option (Out × Mu)} {d : D} {c : Bool} {N : Nat} {ds : List D}
theorem seq_nx (h : t ρ μ = some (.nx ρ1, μ1)) (h2 : u ρ1 μ1 = r) : dsSeq t u ρ μ = r := by rw [dsSeq_ap, h]; exact h2
theorem seq_rt (h : t ρ μ = some (.rt d, μ1)) : dsSeq t u ρ μ = some (.rt d, μ1) := by rw [dsSeq_ap, h]
theorem if_is (h : tq ρ μ = some (.ok c, μ1)) : dsIf tq t u ρ μ = if c = true then t ρ μ1 else u ρ μ1 := by rw [dsIf_ap, dsE_ap, h]
theorem if_y (h : tq ρ μ = some (.ok true, μ1)) (h2 : t ρ μ1 = r) : dsIf tq t u ρ μ = r := by rw [if_is h, if_pos rfl]; exact h2
theorem if_n (h : tq ρ μ = some (.ok false, μ1)) (h2 : u ρ μ1 = r) : dsIf tq t u ρ μ = r := by rw [if_is h, if_neg (by decide)]; exact h2
theorem ret_is (h : a ρ μ = some (.ok d, μ1)) : dsRet a ρ μ = some (.rt d, μ1) := by rw [dsRet_ap, dsE_ap, h]
theorem set_is {i : Nat} (h : a ρ μ = some (.ok d, μ1)) : dsSet i a ρ μ = some (.nx (ρ.set i (some (.sh d))), μ1) := by rw [dsSet_ap, dsE_ap, h]
/-- if c: return a; then more -/
theorem seq_guard (h : tq ρ μ = some (.ok c, μ1)) (h1 : c = true → ∃ d μ2, a ρ μ1 = some (.ok d, μ2) ∧ some (.rt d, μ2) = r) (h2 : c = false → u ρ μ1 = r) : dsSeq (dsIf tq (dsRet a) dsNext) u ρ μ = r := by
  cases c with
  | true =>
    obtain ⟨d, μ2, e1, e2⟩ := h1 rfl
    rw [← e2]
    exact seq_rt (if_y h (ret_is e1))
  | false => exact seq_nx (if_n h rfl) (h2 rfl)
theorem and_is {t u : TB} {b1 b2 : Bool} (h1 : t ρ μ = some (.ok b1, μ)) (h2 : u ρ μ = some (.ok b2, μ)) : dAnd t u ρ μ = some (.ok (b1 && b2), μ) := by
  rw [dAnd_ap, bind_ap, h1]
  cases b1 <;> simp [h2]
theorem or_is {t u : TB} {b1 b2 : Bool} (h1 : t ρ μ = some (.ok b1, μ)) (h2 : u ρ μ = some (.ok b2, μ)) : dOr t u ρ μ = some (.ok (b1 || b2), μ) := by
  rw [dOr_ap, bind_ap, h1]
  cases b1 <;> simp [h2]
theorem run_rt (h : t (initR N ds) μ = some (.rt d, μ1)) : runF N t ds μ = some (.ok d, μ1) := by unfold runF; rw [h]
theorem run_nx (h : t (initR N ds) μ = some (.nx ρ1, μ1)) : runF N t ds μ = some (.ok .non, μ1) := by unfold runF; rw [h]
end
/-! ### items -/
@[simp] theorem qv_tup {ds : List D} {ρ : Rho} {μ : Mu} : qv (.val (.tup ds)) ρ μ = some ds := rfl
@[simp] theorem qv_lst {ds : List D} {ρ : Rho} {μ : Mu} : qv (.val (.lst ds)) ρ μ = some ds := rfl
@[simp] theorem qv_kt {ds : List D} {ρ : Rho} {μ : Mu} : qv (.val (.kt ds)) ρ μ = some ds := rfl
@[simp] theorem qv_rd {ds : List D} {ρ : Rho} {μ : Mu} : qv (.val (.rd ds)) ρ μ = some ds := rfl
@[simp] theorem qv_mref {k : Nat} {ρ : Rho} {μ : Mu} : qv (.val (.mref k)) ρ μ = (match μ[k]? with
  | some (.lst ds) => some ds
  | _ => none) := rfl
@[simp] theorem qvl_lst {ds : List D} {ρ : Rho} {μ : Mu} : qvl (.val (.lst ds)) ρ μ = some ds := rfl
@[simp] theorem muLst_mref {k : Nat} {μ : Mu} : muLst (.mref k) μ = (match μ[k]? with
  | some (.lst ds) => some (k, ds)
  | _ => none) := rfl
@[simp] theorem items_tup {ds : List D} : (D.tup ds).items = some ds := rfl
@[simp] theorem items_lst {ds : List D} : (D.lst ds).items = some ds := rfl
@[simp] theorem items_kt {ds : List D} : (D.kt ds).items = some ds := rfl
@[simp] theorem items_rd {ds : List D} : (D.rd ds).items = some ds := rfl
@[simp] theorem items_mref {k : Nat} : (D.mref k).items = none := rfl
@[simp] theorem isK_tup {ds : List D} : QV.isK (.val (.tup ds)) = false := rfl
@[simp] theorem isK_lst {ds : List D} : QV.isK (.val (.lst ds)) = false := rfl
@[simp] theorem isK_mref {k : Nat} : QV.isK (.val (.mref k)) = false := rfl
@[simp] theorem insD_obj {C : Addr} {ns : List Str} {ds : List D} {μ : Mu} : insD (.obj C ns ds) μ = some (C, ns, ds) := rfl
@[simp] theorem truth_bl {b : Bool} : (D.bl b).truth = some b := rfl
theorem atI_nat {α : Type} {ds : List α} {i : Nat} : atI ds (i : Int) = ds[i]? := by
  unfold atI ixN
  by_cases h : i < ds.length
  · rw [if_pos (by omega), if_pos (by omega)]
    simp
  · rw [if_pos (by omega), if_neg (by omega)]
    simp at h
    simp [h]
@[simp] theorem atI_0 {α : Type} {a : α} {ds : List α} : atI (a :: ds) 0 = some a := atI_nat (i := 0)
@[simp] theorem atI_1 {α : Type} {a b : α} {ds : List α} : atI (a :: b :: ds) 1 = some b := atI_nat (i := 1)
@[simp] theorem atI_2 {α : Type} {a b c : α} {ds : List α} : atI (a :: b :: c :: ds) 2 = some c := atI_nat (i := 2)
theorem ixN_nat {n i : Nat} (h : i < n) : ixN n (i : Int) = some i := by
  unfold ixN
  rw [if_pos (by omega), if_pos (by omega)]
  simp
/-! ### == and in -/
@[simp] theorem gEq_str {a b : Str} : gEq (.str a) (.str b) = some (.bl (decide (a = b))) := by
  have : (V.str a = V.str b) = (a = b) := by simp
  simp [gEq, eqD, D.flat, scal]
@[simp] theorem gEq_int {a b : Int} : gEq (.int a) (.int b) = some (.bl (decide (a = b))) := by
  simp [gEq, eqD, D.flat, scal]
@[simp] theorem gNe_str {a b : Str} : gNe (.str a) (.str b) = some (.bl (!decide (a = b))) := by
  simp [gNe, eqD, D.flat, scal]
@[simp] theorem gNe_int {a b : Int} : gNe (.int a) (.int b) = some (.bl (!decide (a = b))) := by
  simp [gNe, eqD, D.flat, scal]
@[simp] theorem gAdd_int {a b : Int} : gAdd (.int a) (.int b) = some (.int (a + b)) := rfl
@[simp] theorem gSub_int {a b : Int} : gSub (.int a) (.int b) = some (.int (a - b)) := rfl
@[simp] theorem gLt_int {a b : Int} : gLt (.int a) (.int b) = some (.bl (decide (a < b))) := rfl
@[simp] theorem gLe_int {a b : Int} : gLe (.int a) (.int b) = some (.bl (decide (a ≤ b))) := rfl
@[simp] theorem gGt_int {a b : Int} : gGt (.int a) (.int b) = some (.bl (decide (b < a))) := rfl
@[simp] theorem gGe_int {a b : Int} : gGe (.int a) (.int b) = some (.bl (decide (b ≤ a))) := rfl
@[simp] theorem gBAnd_int {a b : Int} : gBAnd (.int a) (.int b) = some (.int (Builtin.bitAnd a b)) := rfl
@[simp] theorem gBOr_int {a b : Int} : gBOr (.int a) (.int b) = some (.int (Builtin.bitOr a b)) := rfl
@[simp] theorem gBXor_int {a b : Int} : gBXor (.int a) (.int b) = some (.int (Builtin.bitXor a b)) := rfl
theorem gMod_pos {a b : Int} (h : 0 < b) : gMod (.int a) (.int b) = some (.int (a % b)) := if_pos h
theorem gMul_int {a b : Int} (h : CMul a b) : gMul (.int a) (.int b) = some (.int (a * b)) := if_pos h
theorem gDiv_int {a b : Int} (h : CDiv a b) : gDiv (.int a) (.int b) = some (.int (a / b)) := if_pos h
theorem gShl_int {a b : Int} (h : CPow a b) : gShl (.int a) (.int b) = some (.int (a * 2 ^ b.toNat)) := if_pos h
@[simp] theorem gIsN_non : gIsN .non .non = some (.bl true) := rfl
@[simp] theorem gNotN_non : gNotN .non .non = some (.bl false) := rfl
@[simp] theorem gNotN_int {a : Int} : gNotN (.int a) .non = some (.bl true) := rfl
@[simp] theorem gNotN_tup {a : List D} : gNotN (.tup a) .non = some (.bl true) := rfl
@[simp] theorem gIsN_int {a : Int} : gIsN (.int a) .non = some (.bl false) := rfl
@[simp] theorem gIs2_ap {n a b : Bool} : gIs2 n (.bl a) (.bl b) = some (.bl (if n then !(decide (a = b)) else decide (a = b))) := rfl
theorem flats_str : ∀ {ss : List Str}, flats (ss.map D.str) = some (ss.map V.str)
  | [] => rfl
  | s :: ss => by
    show (match (D.str s).flat, flats (ss.map D.str) with
      | some v, some vs => some (v :: vs)
      | _, _ => none) = _
    rw [flats_str]
    rfl
theorem flats_int : ∀ {ss : List Int}, flats (ss.map D.int) = some (ss.map V.int)
  | [] => rfl
  | s :: ss => by
    show (match (D.int s).flat, flats (ss.map D.int) with
      | some v, some vs => some (v :: vs)
      | _, _ => none) = _
    rw [flats_int]
    rfl
/-! ### a def's own things forgotten -/
def Wf (μ : Mu) : Prop := μ.all (MO.low μ.length) = true
theorem scope_ok {F : List D → M D} {ds : List D} {μ ν : Mu} {d : D} (h : F ds μ = some (.ok d, μ ++ ν)) (hd : d.low μ.length = true) (w : Wf μ) : scopeF F ds μ = some (.ok d, μ) := by
  unfold scopeF
  rw [h]
  have e : (μ ++ ν).take μ.length = μ := by simp
  show (if (d.low μ.length && ((μ ++ ν).take μ.length).all (MO.low μ.length)) = true then some (Res.ok d, (μ ++ ν).take μ.length) else none) = _
  rw [e, hd]
  rw [if_pos (by rw [Bool.true_and]; exact w)]
theorem scope_ok0 {F : List D → M D} {ds : List D} {μ : Mu} {d : D} (h : F ds μ = some (.ok d, μ)) (hd : d.low μ.length = true) (w : Wf μ) : scopeF F ds μ = some (.ok d, μ) := scope_ok (ν := []) (by rw [List.append_nil]; exact h) hd w
end DL
set_option Elab.async false
set_option linter.all false
set_option maxRecDepth 100000
set_option maxHeartbeats 4000000
set_option autoImplicit false
namespace DL
open PySem PySem.Spec L2
/-! ### loops, plainly -/
/-- an invariant by the number of turns -/
theorem for_inv {gt : D → Rho → Option Rho} {tb : TO'} {ds : List D} (I : Nat → Rho → Mu → Prop)
    (step : ∀ i d ρ μ, ds[i]? = some d → I i ρ μ → ∃ ρ1 ρ2 μ2, gt d ρ = some ρ1 ∧ tb ρ1 μ = some (.nx ρ2, μ2) ∧ I (i + 1) ρ2 μ2) {ρ : Rho} {μ : Mu} (h0 : I 0 ρ μ) :
    ∃ ρ' μ', forL gt tb ds ρ μ = some (.nx ρ', μ') ∧ I ds.length ρ' μ' := by
  have key : ∀ (es : List D) (k : Nat) (ρ : Rho) (μ : Mu), ds.drop k = es → k ≤ ds.length → I k ρ μ → ∃ ρ' μ', forL gt tb es ρ μ = some (.nx ρ', μ') ∧ I ds.length ρ' μ' := by
    intro es
    induction es with
    | nil =>
      intro k ρ μ e hk hI
      have hz : k = ds.length := by
        have := List.length_drop (i := k) (l := ds)
        rw [e] at this
        have h0 : ds.length - k = 0 := this.symm
        omega
      exact ⟨ρ, μ, rfl, by rw [← hz]; exact hI⟩
    | cons d r ih =>
      intro k ρ μ e hk hI
      obtain ⟨ed, er⟩ := drop_cons e
      obtain ⟨ρ1, ρ2, μ2, g1, g2, g3⟩ := step k d ρ μ ed hI
      obtain ⟨ρ', μ', q1, q2⟩ := ih (k + 1) ρ2 μ2 er (List.getElem?_eq_some_iff.mp ed).1 g3
      refine ⟨ρ', μ', ?_, q2⟩
      unfold forL
      rw [g1]
      simp only [g2]
      exact q1
  exact key ds 0 ρ μ rfl (Nat.zero_le _) h0
/-- a comprehension that only reads -/
theorem lc_is {α : Type} {vs : List Nat} {gt : D → Rho → Option Rho} {tt : TB} {te : TD} {ρ : Rho} {μ : Mu} (enc f : α → D) (p : α → Bool) : ∀ (xs : List α) (acc : List D), acc.length + xs.length ≤ sizeLine →
    (∀ x ∈ xs, ∃ ρ1, gt (enc x) (wipeR ρ vs) = some ρ1 ∧ tt ρ1 μ = some (.ok (p x), μ) ∧ (p x = true → te ρ1 μ = some (.ok (f x), μ))) → lcL vs gt tt te ρ (xs.map enc) acc μ = some (.ok (acc ++ (xs.filter p).map f), μ)
  | [], acc, _, _ => by simp [lcL]
  | x :: xs, acc, hl, h => by
    obtain ⟨ρ1, h1, h2, h3⟩ := h x (List.mem_cons_self ..)
    rw [List.length_cons] at hl
    unfold lcL
    rw [List.map_cons]
    simp only [h1, bind_ap, nx_ap, h2]
    cases hp : p x with
    | true =>
      have h3' := h3 hp
      have hz : acc.length < sizeLine := by omega
      simp only [if_true, bind_ap, nx_ap, h3', hz]
      rw [lc_is enc f p xs (acc ++ [f x]) (by rw [List.length_append, List.length_singleton]; omega) fun y hy => h y (List.mem_cons_of_mem _ hy)]
      simp [hp]
    | false =>
      simp only [Bool.false_eq_true, if_false]
      rw [lc_is enc f p xs acc (by omega) fun y hy => h y (List.mem_cons_of_mem _ hy)]
      simp [hp]
theorem lc_all {α : Type} {vs : List Nat} {gt : D → Rho → Option Rho} {te : TD} {ρ : Rho} {μ : Mu} (enc f : α → D) (xs : List α) (hl : xs.length ≤ sizeLine)
    (h : ∀ x ∈ xs, ∃ ρ1, gt (enc x) (wipeR ρ vs) = some ρ1 ∧ te ρ1 μ = some (.ok (f x), μ)) : lcL vs gt dYes te ρ (xs.map enc) [] μ = some (.ok (xs.map f), μ) := by
  have q := lc_is (vs := vs) (gt := gt) (tt := dYes) (te := te) (ρ := ρ) (μ := μ) enc f (fun _ => true) xs [] (by simpa using hl) fun x hx => by
    obtain ⟨ρ1, h1, h2⟩ := h x hx
    exact ⟨ρ1, h1, rfl, fun _ => h2⟩
  rw [q, List.filter_eq_self.mpr (fun _ _ => rfl)]
  rfl
/-- the same of a source that may change, if it does not -/
theorem lcJ_all {α : Type} {vs : List Nat} {gt : D → Rho → Option Rho} {te : TD} {ρ : Rho} {μ : Mu} {S : Mu → Nat → Option (Option D)} (enc f : α → D) (xs : List α) (hS : ∀ i, S μ i = some (xs.map enc)[i]?) (hl : xs.length ≤ sizeLine)
    (h : ∀ x ∈ xs, ∃ ρ1, gt (enc x) (wipeR ρ vs) = some ρ1 ∧ te ρ1 μ = some (.ok (f x), μ)) : lcJ vs gt dYes te ρ S (xs.length + 1) 0 [] μ = some (.ok (xs.map f), μ) := by
  have key : ∀ (n k : Nat), k + n = xs.length → lcJ vs gt dYes te ρ S (n + 1) k ((xs.take k).map f) μ = some (.ok (xs.map f), μ) := by
    intro n
    induction n with
    | zero =>
      intro k hk
      unfold lcJ
      rw [hS]
      have e : (xs.map enc)[k]? = none := List.getElem?_eq_none (by rw [List.length_map]; omega)
      rw [e]
      have e2 : xs.take k = xs := List.take_of_length_le (by omega)
      rw [e2]
    | succ n ih =>
      intro k hk
      have hlt : k < xs.length := by omega
      obtain ⟨ρ1, h1, h2⟩ := h xs[k] (List.getElem_mem hlt)
      unfold lcJ
      rw [hS]
      have e : (xs.map enc)[k]? = some (enc xs[k]) := by rw [List.getElem?_map, List.getElem?_eq_getElem hlt]; rfl
      have hz : ((xs.take k).map f).length < sizeLine := by rw [List.length_map, List.length_take]; omega
      rw [e]
      simp only [h1, bind_ap, nx_ap, dYes_ap, ret_ap, if_true, h2, hz]
      have e3 : (xs.take k).map f ++ [f xs[k]] = (xs.take (k + 1)).map f := by rw [List.take_succ_eq_append_getElem hlt, List.map_append]; rfl
      rw [e3]
      exact ih (k + 1) (by omega)
  have := key xs.length 0 (by omega)
  simpa using this
end DL
set_option Elab.async false
set_option linter.all false
set_option maxRecDepth 100000
set_option maxHeartbeats 4000000
set_option autoImplicit false
namespace DL
open PySem PySem.Spec L2
mutual
theorem low_mono {n n' : Nat} (hn : n ≤ n') : ∀ {d : D}, d.low n = true → d.low n' = true
  | .non, _ => by unfold D.low; rfl
  | .bl b, _ => by unfold D.low; rfl
  | .int i, _ => by unfold D.low; rfl
  | .str s, _ => by unfold D.low; rfl
  | .ref a, _ => by unfold D.low; rfl
  | .ty s, _ => by unfold D.low; rfl
  | .mref k, h => by
    unfold D.low at *
    exact decide_eq_true (Nat.lt_of_lt_of_le (of_decide_eq_true h) hn)
  | .tup ds, h => by unfold D.low at *; exact lowAll_mono hn h
  | .kt ds, h => by unfold D.low at *; exact lowAll_mono hn h
  | .lst ds, h => by unfold D.low at *; exact lowAll_mono hn h
  | .rd ds, h => by unfold D.low at *; exact lowAll_mono hn h
  | .obj C ns ds, h => by unfold D.low at *; exact lowAll_mono hn h
  | .dk ks ds, h => by unfold D.low at *; exact lowAll_mono hn h
theorem lowAll_mono {n n' : Nat} (hn : n ≤ n') : ∀ {ds : List D}, D.lowAll n ds = true → D.lowAll n' ds = true
  | [], _ => rfl
  | d :: ds, h => by
    unfold D.lowAll at *
    obtain ⟨h1, h2⟩ := Bool.and_eq_true_iff.mp h
    rw [low_mono hn h1, lowAll_mono hn h2]
    rfl
end
theorem moLow_mono {n n' : Nat} (hn : n ≤ n') {m : MO} (h : m.low n = true) : m.low n' = true := by
  cases m with
  | dead => rfl
  | lst ds => exact lowAll_mono hn h
  | ins C ns ds => exact lowAll_mono hn h
  | dk ks ds => exact lowAll_mono hn h
  | dt ks ds => exact lowAll_mono hn h
theorem all_mono {n n' : Nat} (hn : n ≤ n') {μ : Mu} (h : μ.all (MO.low n) = true) : μ.all (MO.low n') = true := List.all_eq_true.mpr fun m hm => moLow_mono hn (List.all_eq_true.mp h m hm)
theorem Wf.app {μ : Mu} {m : MO} (w : Wf μ) (h : m.low (μ.length + 1) = true) : Wf (μ ++ [m]) := by
  unfold Wf
  rw [List.length_append, List.length_singleton, List.all_append]
  rw [all_mono (Nat.le_succ _) w]
  simp [h]
theorem scope_same {F : List D → M D} {ds : List D} {μ μ' : Mu} {d : D} (h : F ds μ = some (.ok d, μ')) (hl : μ'.length = μ.length) (hd : d.low μ.length = true) (w : Wf μ') : scopeF F ds μ = some (.ok d, μ') := by
  unfold scopeF
  rw [h]
  have e : μ'.take μ.length = μ' := List.take_of_length_le (by omega)
  show (if (d.low μ.length && (μ'.take μ.length).all (MO.low μ.length)) = true then some (Res.ok d, μ'.take μ.length) else none) = _
  rw [e, hd, if_pos (by rw [Bool.true_and, ← hl]; exact w)]
end DL
set_option Elab.async false
set_option linter.all false
set_option maxRecDepth 100000
set_option maxHeartbeats 4000000
set_option autoImplicit false
namespace K56
open PySem PySem.Spec L2 DL
/-! ### lines -/
inductive Op where
  | add | sub | and | or | xor | less | same
deriving DecidableEq
def Op.s : Op → Str
  | .add => "add" | .sub => "sub" | .and => "and" | .or => "or" | .xor => "xor" | .less => "less" | .same => "same"
inductive Ln where
  | get (i : Int) | num (v : Int) | op (o : Op) (a b : Nat) | must (a : Nat) (c : Int) | keep (a : Nat) (v : Int) | read (a : Nat) | write (a b : Nat) | out (k : Int) (a : Nat) | inn (k : Int) | tick | fin
deriving DecidableEq
def Ln.d : Ln → D
  | .get i => .tup [.str "get", .int i]
  | .num i => .tup [.str "num", .int i]
  | .op o a b => .tup [.str o.s, .int a, .int b]
  | .must a c => .tup [.str "must", .int a, .int c]
  | .keep a c => .tup [.str "keep", .int a, .int c]
  | .read a => .tup [.str "read", .int a]
  | .write a b => .tup [.str "write", .int a, .int b]
  | .out k a => .tup [.str "out", .int k, .int a]
  | .inn k => .tup [.str "in", .int k]
  | .tick => .tup [.str "tick"]
  | .fin => .tup [.str "end"]
def Ln.isOp : Ln → Bool
  | .op _ _ _ => true
  | _ => false
def Ln.isNum : Ln → Bool
  | .num _ => true
  | _ => false
def Ln.idle : Ln → Bool
  | .op _ _ _ => true
  | .num _ => true
  | .get _ => true
  | _ => false
def Ln.asks : Ln → Bool
  | .read _ => true
  | .must _ _ => true
  | .write _ _ => true
  | .out _ _ => true
  | .keep _ _ => true
  | _ => false
def Ln.uses : Ln → List Nat
  | .op _ a b => [a, b]
  | .write a b => [a, b]
  | .must a _ => [a]
  | .keep a _ => [a]
  | .read a => [a]
  | .out _ a => [a]
  | _ => []
def ren (f : List Nat) : Ln → Ln
  | .op o a b => .op o (f.getD a 0) (f.getD b 0)
  | .write a b => .write (f.getD a 0) (f.getD b 0)
  | .must a c => .must (f.getD a 0) c
  | .keep a c => .keep (f.getD a 0) c
  | .read a => .read (f.getD a 0)
  | .out k a => .out k (f.getD a 0)
  | l => l
abbrev dI (l : List Nat) : List D := l.map fun (n : Nat) => D.int (n : Int)
/-! ### small defs -/
variable {K : Fg} {μ : Mu}
abbrev opsD : List D := [.str "add", .str "xor", .str "sub", .str "and", .str "same", .str "or", .str "less"]
theorem law_ops_eq (w : Wf μ) : S__law_ops K [] μ = some (.ok (.lst opsD), μ) := by
  refine scope_ok0 ?_ rfl w
  simp [runF, B__law_ops, initR, dsSeq_ap, dsIf_ap, sizeLine]
theorem pool_ops_eq (w : Wf μ) : S_Pool_ops K [] μ = some (.ok (.kt [.str "add", .str "sub", .str "and", .str "or", .str "xor", .str "less", .str "same"]), μ) := by
  refine scope_ok0 ?_ rfl w
  simp [runF, B_Pool_ops, initR, dsSeq_ap, dsIf_ap]
theorem inOps (l : Ln) : ∃ n r, l.d = .tup (.str n :: r) ∧ inD (.str n) opsD = some l.isOp ∧ inD (.str n) [.str "add", .str "sub", .str "and", .str "or", .str "xor", .str "less", .str "same"] = some l.isOp := by
  cases l with
  | op o a b => cases o <;> exact ⟨_, _, rfl, rfl, rfl⟩
  | _ => exact ⟨_, _, rfl, rfl, rfl⟩
theorem is_op_eq (w : Wf μ) (l : Ln) : S_is_op K [l.d] μ = some (.ok (.bl l.isOp), μ) := by
  obtain ⟨n, r, e, h1, h2⟩ := inOps l
  refine scope_ok0 ?_ rfl w
  rw [e]
  simp [runF, B_is_op, initR, dsSeq_ap, dsIf_ap, pool_ops_eq w, h2]
theorem low_int {n : Nat} {i : Int} : (D.int i).low n = true := rfl
theorem low_ints {n : Nat} : ∀ l : List Nat, D.lowAll n (dI l) = true
  | [] => rfl
  | a :: l => by
    show (D.low n (.int a) && D.lowAll n (dI l)) = true
    rw [low_ints l]
    rfl
theorem low_ln {n : Nat} (l : Ln) : l.d.low n = true := by
  cases l with
  | op o a b => cases o <;> rfl
  | _ => rfl
end K56
set_option Elab.async false
set_option linter.all false
set_option maxRecDepth 100000
set_option maxHeartbeats 4000000
set_option autoImplicit false
namespace K56
open PySem PySem.Spec L2 DL
variable {K : Fg} {μ : Mu}
theorem names_of_eq (w : Wf μ) (l : Ln) : S__law_names_of K [l.d] μ = some (.ok (.lst (dI l.uses)), μ) := by
  refine scope_ok0 ?_ (low_ints _) w
  cases l with
  | op o a b => cases o <;> simp (decide := true) [runF, B__law_names_of, initR, dsSeq_ap, dsIf_ap, law_ops_eq w, Ln.d, Ln.uses, inD, flats, D.flat, flatV, inV, Op.s, sizeLine]
  | _ => simp (decide := true) [runF, B__law_names_of, initR, dsSeq_ap, dsIf_ap, law_ops_eq w, Ln.d, Ln.uses, inD, flats, D.flat, flatV, inV, sizeLine]
end K56
set_option Elab.async false
set_option linter.all false
set_option maxRecDepth 100000
set_option maxHeartbeats 4000000
set_option autoImplicit false
namespace K56
open PySem PySem.Spec L2 DL
variable {K : Fg} {μ : Mu}
/-- a list of numbers, as it may stand -/
def Nums (N : D) (μ : Mu) (f : List Nat) : Prop := (∃ k, N = .mref k ∧ μ[k]? = some (.lst (dI f))) ∨ N = .lst (dI f)
theorem atI_dI {f : List Nat} {a : Nat} (h : a < f.length) : atI (dI f) (a : Int) = some (.int (f.getD a 0 : Nat)) := by
  rw [DL.atI_nat]
  simp [List.getElem?_map, List.getD_eq_getElem?_getD, h]
/-- the operands stand before f's end -/
def Ln.ok (n : Nat) (l : Ln) : Prop := ∀ a ∈ l.uses, a < n
theorem law_renamed_eq (w : Wf μ) (l : Ln) {N : D} {f : List Nat} (hN : Nums N μ f) (hl : l.ok f.length) : S__law_renamed K [l.d, N] μ = some (.ok (ren f l).d, μ) := by
  refine scope_ok0 ?_ (low_ln _) w
  rcases hN with ⟨k, rfl, hk⟩ | rfl
  · cases l with
    | op o a b =>
      have ha := hl a (by simp [Ln.uses])
      have hb := hl b (by simp [Ln.uses])
      cases o <;> simp (decide := true) [runF, B__law_renamed, initR, dsSeq_ap, dsIf_ap, law_ops_eq w, Ln.d, ren, inD, flats, D.flat, flatV, inV, Op.s, sizeLine, hk, atI_dI ha, atI_dI hb]
    | write a b =>
      have ha := hl a (by simp [Ln.uses])
      have hb := hl b (by simp [Ln.uses])
      simp (decide := true) [runF, B__law_renamed, initR, dsSeq_ap, dsIf_ap, law_ops_eq w, Ln.d, ren, inD, flats, D.flat, flatV, inV, Op.s, sizeLine, hk, atI_dI ha, atI_dI hb]
    | must a c =>
      have ha := hl a (by simp [Ln.uses])
      simp (decide := true) [runF, B__law_renamed, initR, dsSeq_ap, dsIf_ap, law_ops_eq w, Ln.d, ren, inD, flats, D.flat, flatV, inV, Op.s, sizeLine, hk, atI_dI ha]
    | keep a c =>
      have ha := hl a (by simp [Ln.uses])
      simp (decide := true) [runF, B__law_renamed, initR, dsSeq_ap, dsIf_ap, law_ops_eq w, Ln.d, ren, inD, flats, D.flat, flatV, inV, Op.s, sizeLine, hk, atI_dI ha]
    | read a =>
      have ha := hl a (by simp [Ln.uses])
      simp (decide := true) [runF, B__law_renamed, initR, dsSeq_ap, dsIf_ap, law_ops_eq w, Ln.d, ren, inD, flats, D.flat, flatV, inV, Op.s, sizeLine, hk, atI_dI ha]
    | out c a =>
      have ha := hl a (by simp [Ln.uses])
      simp (decide := true) [runF, B__law_renamed, initR, dsSeq_ap, dsIf_ap, law_ops_eq w, Ln.d, ren, inD, flats, D.flat, flatV, inV, Op.s, sizeLine, hk, atI_dI ha]
    | _ => simp (decide := true) [runF, B__law_renamed, initR, dsSeq_ap, dsIf_ap, law_ops_eq w, Ln.d, ren, inD, flats, D.flat, flatV, inV, Op.s, sizeLine, hk]
  · cases l with
    | op o a b =>
      have ha := hl a (by simp [Ln.uses])
      have hb := hl b (by simp [Ln.uses])
      cases o <;> simp (decide := true) [runF, B__law_renamed, initR, dsSeq_ap, dsIf_ap, law_ops_eq w, Ln.d, ren, inD, flats, D.flat, flatV, inV, Op.s, sizeLine, atI_dI ha, atI_dI hb]
    | write a b =>
      have ha := hl a (by simp [Ln.uses])
      have hb := hl b (by simp [Ln.uses])
      simp (decide := true) [runF, B__law_renamed, initR, dsSeq_ap, dsIf_ap, law_ops_eq w, Ln.d, ren, inD, flats, D.flat, flatV, inV, Op.s, sizeLine, atI_dI ha, atI_dI hb]
    | must a c =>
      have ha := hl a (by simp [Ln.uses])
      simp (decide := true) [runF, B__law_renamed, initR, dsSeq_ap, dsIf_ap, law_ops_eq w, Ln.d, ren, inD, flats, D.flat, flatV, inV, Op.s, sizeLine, atI_dI ha]
    | keep a c =>
      have ha := hl a (by simp [Ln.uses])
      simp (decide := true) [runF, B__law_renamed, initR, dsSeq_ap, dsIf_ap, law_ops_eq w, Ln.d, ren, inD, flats, D.flat, flatV, inV, Op.s, sizeLine, atI_dI ha]
    | read a =>
      have ha := hl a (by simp [Ln.uses])
      simp (decide := true) [runF, B__law_renamed, initR, dsSeq_ap, dsIf_ap, law_ops_eq w, Ln.d, ren, inD, flats, D.flat, flatV, inV, Op.s, sizeLine, atI_dI ha]
    | out c a =>
      have ha := hl a (by simp [Ln.uses])
      simp (decide := true) [runF, B__law_renamed, initR, dsSeq_ap, dsIf_ap, law_ops_eq w, Ln.d, ren, inD, flats, D.flat, flatV, inV, Op.s, sizeLine, atI_dI ha]
    | _ => simp (decide := true) [runF, B__law_renamed, initR, dsSeq_ap, dsIf_ap, law_ops_eq w, Ln.d, ren, inD, flats, D.flat, flatV, inV, Op.s, sizeLine]
end K56
set_option Elab.async false
set_option linter.all false
set_option maxRecDepth 100000
set_option maxHeartbeats 4000000
set_option autoImplicit false
namespace K56
open PySem PySem.Spec L2 DL
variable {K : Fg} {μ : Mu}
/-! ### the spots of a line's operands -/
def Ln.spots : Ln → D
  | .op _ _ _ => .tup [.int 1, .int 2]
  | .read _ => .kt [.int 1]
  | .must _ _ => .kt [.int 1]
  | .keep _ _ => .kt [.int 1]
  | .write _ _ => .kt [.int 1, .int 2]
  | .out _ _ => .kt [.int 2]
  | _ => .tup []
theorem low_spots {n : Nat} (l : Ln) : l.spots.low n = true := by cases l <;> rfl
@[simp] theorem t_get : List.lookup ("get" : Str) tab_NAMING_SPOTS = some none := rfl
@[simp] theorem t_num : List.lookup ("num" : Str) tab_NAMING_SPOTS = some none := rfl
@[simp] theorem t_in : List.lookup ("in" : Str) tab_NAMING_SPOTS = some none := rfl
@[simp] theorem t_tick : List.lookup ("tick" : Str) tab_NAMING_SPOTS = some none := rfl
@[simp] theorem t_end : List.lookup ("end" : Str) tab_NAMING_SPOTS = some none := rfl
@[simp] theorem t_read : List.lookup ("read" : Str) tab_NAMING_SPOTS = some (some (.kt [.int 1])) := rfl
@[simp] theorem t_must : List.lookup ("must" : Str) tab_NAMING_SPOTS = some (some (.kt [.int 1])) := rfl
@[simp] theorem t_keep : List.lookup ("keep" : Str) tab_NAMING_SPOTS = some (some (.kt [.int 1])) := rfl
@[simp] theorem t_write : List.lookup ("write" : Str) tab_NAMING_SPOTS = some (some (.kt [.int 1, .int 2])) := rfl
@[simp] theorem t_out : List.lookup ("out" : Str) tab_NAMING_SPOTS = some (some (.kt [.int 2])) := rfl
theorem naming_spots_eq (w : Wf μ) (l : Ln) : S_naming_spots K [l.d] μ = some (.ok l.spots, μ) := by
  refine scope_ok0 ?_ (low_spots _) w
  have h := is_op_eq (K := K) w l
  cases l <;> simp only [Ln.d, Ln.isOp] at h ⊢ <;> simp [runF, B_naming_spots, initR, dsSeq_ap, dsIf_ap, h, Ln.spots, sizeLine]
theorem operands_eq (w : Wf μ) (l : Ln) : S_operands_of K [l.d] μ = some (.ok (.lst (dI l.uses)), μ) := by
  refine scope_ok0 ?_ (low_ints _) w
  have h := naming_spots_eq (K := K) w l
  cases l <;> simp only [Ln.d, Ln.spots] at h ⊢ <;> simp [runF, B_operands_of, initR, dsSeq_ap, dsIf_ap, h, sizeLine, okW, lcL, wipeR, Ln.uses]
theorem eqV_str {a b : Str} : eqV (.str a) (.str b) = decide (a = b) := by first | rfl | (rw [Bool.eq_iff_iff]; simp [eqV])
theorem idle_eq (w : Wf μ) (l : Ln) : S_is_idle_kind K [l.d] μ = some (.ok (.bl l.idle), μ) := by
  refine scope_ok0 ?_ rfl w
  have h := is_op_eq (K := K) w l
  cases l with
  | op o a b =>
    have e : inD (.str o.s) [.str "get", .str "num"] = some false := by cases o <;> rfl
    simp only [Ln.d, Ln.isOp] at h ⊢
    simp [runF, B_is_idle_kind, initR, dsSeq_ap, dsIf_ap, h, sizeLine, Ln.idle, e]
  | _ =>
    simp only [Ln.d, Ln.isOp] at h ⊢
    simp (decide := true) [runF, B_is_idle_kind, initR, dsSeq_ap, dsIf_ap, h, sizeLine, Ln.idle, inD, flats, D.flat, flatV, inV, eqV_str]
theorem renamed_eq (w : Wf μ) (l : Ln) {N : D} {f : List Nat} (hN : Nums N μ f) (hl : l.ok f.length) : S_renamed K [l.d, N] μ = some (.ok (ren f l).d, μ) := by
  refine scope_ok0 ?_ (low_ln _) w
  have h := naming_spots_eq (K := K) w l
  have i0 : inD (.int 0) [.int 1, .int 2] = some false := rfl
  have i1 : inD (.int 1) [.int 1, .int 2] = some true := rfl
  have i2 : inD (.int 2) [.int 1, .int 2] = some true := rfl
  have i3 : inD (.int 0) [.int 1] = some false := rfl
  have i4 : inD (.int 1) [.int 1] = some true := rfl
  have i5 : inD (.int 2) [.int 1] = some false := rfl
  have i6 : inD (.int 0) [.int 2] = some false := rfl
  have i7 : inD (.int 1) [.int 2] = some false := rfl
  have i8 : inD (.int 2) [.int 2] = some true := rfl
  have i9 : inD (.int 0) [] = some false := rfl
  have i10 : inD (.int 1) [] = some false := rfl
  have at1 : ∀ a ∈ l.uses, atI (dI f) (a : Int) = some (.int (f.getD a 0 : Nat)) := fun a ha => atI_dI (hl a ha)
  rcases hN with ⟨k, rfl, hk⟩ | rfl
  · cases l <;> simp only [Ln.d, Ln.spots, Ln.uses, List.mem_cons, List.not_mem_nil, or_false, forall_eq_or_imp, forall_eq] at h at1 ⊢ <;>
      simp [runF, B_renamed, initR, dsSeq_ap, dsIf_ap, h, sizeLine, okW, lcL, wipeR, ren, enumD, i0, i1, i2, i3, i4, i5, i6, i7, i8, i9, i10, hk, at1, Ln.d]
  · cases l <;> simp only [Ln.d, Ln.spots, Ln.uses, List.mem_cons, List.not_mem_nil, or_false, forall_eq_or_imp, forall_eq] at h at1 ⊢ <;>
      simp [runF, B_renamed, initR, dsSeq_ap, dsIf_ap, h, sizeLine, okW, lcL, wipeR, ren, enumD, i0, i1, i2, i3, i4, i5, i6, i7, i8, i9, i10, at1, Ln.d]
end K56
set_option Elab.async false
set_option linter.all false
set_option maxRecDepth 100000
set_option maxHeartbeats 4000000
set_option autoImplicit false
namespace K56
open PySem PySem.Spec L2 DL
variable {K : Fg} {μ : Mu}
/-! ### numbers -/
theorem gShl1 {w : Nat} (h : w ≤ 1000000) : gShl (.int 1) (.int (w : Int)) = some (.int (2 ^ w)) := by
  rw [gShl_int ⟨by omega, by omega, by decide⟩]
  simp
theorem gModW {a : Int} {w : Nat} : gMod (.int a) (.int (2 ^ w)) = some (.int (a % 2 ^ w)) := gMod_pos (Int.pow_pos (by decide))
def opV (o : Op) (a b : Int) (w : Nat) : Int := match o with
  | .add => (a + b) % 2 ^ w
  | .sub => (a - b) % 2 ^ w
  | .and => Builtin.bitAnd a b
  | .or => Builtin.bitOr a b
  | .xor => Builtin.bitXor a b
  | .less => if a < b then 1 else 0
  | .same => if a = b then 1 else 0
theorem worked_eq (w : Wf μ) (o : Op) (a b : Int) (n : Nat) : S_worked K [.str o.s, .int a, .int b, .int (2 ^ n - 1)] μ = some (.ok (.int (opV o a b n)), μ) := by
  refine scope_ok0 ?_ rfl w
  by_cases h1 : a < b <;> by_cases h2 : a = b <;> cases o <;> simp (decide := true) [runF, B_worked, initR, dsSeq_ap, dsIf_ap, Op.s, opV, PySem.W.kbt_mask, h1, h2]
theorem law_op_eq (w : Wf μ) (o : Op) (a b : Int) {n : Nat} (hn : n ≤ 1000000) : S__law_op K [.str o.s, .int a, .int b, .int (n : Int)] μ = some (.ok (.int (opV o a b n)), μ) := by
  refine scope_ok0 ?_ rfl w
  by_cases h1 : a < b <;> by_cases h2 : a = b <;> cases o <;> simp (decide := true) [runF, B__law_op, initR, dsSeq_ap, dsIf_ap, Op.s, opV, gShl1 hn, gModW, h1, h2]
/-! ### ones -/
theorem is_integer_eq (w : Wf μ) (i : Int) : S_is_integer K [.int i] μ = some (.ok (.bl true), μ) := by
  refine scope_ok0 ?_ rfl w
  have k1 : kitD (kits K) (.type "int") (.type "int") = some true := rfl
  have k2 : kitD (kits K) (.type "int") (.type "bool") = some false := rfl
  simp [runF, B_is_integer, initR, dsSeq_ap, dsIf_ap, tyD, clsD, k1, k2]
theorem check_int_eq (w : Wf μ) {v lo hi : Int} (h1 : lo ≤ v) (h2 : v ≤ hi) (s : Str) : S_check_int K [.int v, .int lo, .int hi, .str s] μ = some (.ok (.int v), μ) := by
  refine scope_ok0 ?_ rfl w
  have e1 : ¬ v < lo := by omega
  have e2 : ¬ hi < v := by omega
  simp [runF, B_check_int, initR, dsSeq_ap, dsIf_ap, is_integer_eq w, e1, e2]
theorem ones_eq (w : Wf μ) {n : Nat} (hn : n ≤ 64) : S_ones K [.int (n : Int)] μ = some (.ok (.int (2 ^ n - 1)), μ) := by
  refine scope_ok0 ?_ rfl w
  have e := check_int_eq (K := K) (μ := μ) w (v := (n : Int)) (lo := 0) (hi := 64) (by omega) (by omega) "width"
  simp [runF, B_ones, initR, dsSeq_ap, dsIf_ap, e, gShl1 (w := n) (by omega)]
/-! ### == of lines -/
def Ln.p : Ln → PyData
  | .get i => .tuple [.str "get", .int i]
  | .num i => .tuple [.str "num", .int i]
  | .op o a b => .tuple [.str o.s, .int a, .int b]
  | .must a c => .tuple [.str "must", .int a, .int c]
  | .keep a c => .tuple [.str "keep", .int a, .int c]
  | .read a => .tuple [.str "read", .int a]
  | .write a b => .tuple [.str "write", .int a, .int b]
  | .out k a => .tuple [.str "out", .int k, .int a]
  | .inn k => .tuple [.str "in", .int k]
  | .tick => .tuple [.str "tick"]
  | .fin => .tuple [.str "end"]
theorem ln_py (l : Ln) : l.d.py = some l.p := by cases l <;> rfl
theorem ln_flat (l : Ln) : l.d.flat = none := by cases l <;> rfl
theorem op_s_ok (o : Op) : PyData.strOk o.s = true := by cases o <;> decide +kernel
theorem ln_shaped (l : Ln) : SeqAt.shaped l.p = true := by
  cases l <;> simp [SeqAt.shaped, Ln.p, PyData.canLay0, PyData.canLayAll0, PyData.depth, PyData.depthAll, op_s_ok] <;> decide +kernel
theorem op_s_inj {o o' : Op} : o.s = o'.s ↔ o = o' := by
  constructor
  · intro h
    cases o <;> cases o' <;> first | rfl | (exfalso; revert h; decide)
  · rintro rfl; rfl
theorem op_ne (o : Op) : o.s ≠ "must" ∧ o.s ≠ "keep" ∧ o.s ≠ "write" ∧ o.s ≠ "out" ∧ o.s ≠ "num" ∧ ("must" : Str) ≠ o.s ∧ ("keep" : Str) ≠ o.s ∧ ("write" : Str) ≠ o.s ∧ ("out" : Str) ≠ o.s ∧ ("num" : Str) ≠ o.s := by cases o <;> decide
theorem ln_eqv_iff (l m : Ln) : PyData.eqv l.p m.p = true ↔ l = m := by
  cases l <;> cases m <;> simp (decide := true) [Ln.p, PyData.eqv, PyData.eqvAll, op_s_inj, op_ne] <;> omega
theorem ln_eqv (l m : Ln) : PyData.eqv l.p m.p = decide (l = m) := by
  rw [Bool.eq_iff_iff, ln_eqv_iff]
  simp
theorem ln_eq (l m : Ln) : gEq l.d m.d = some (.bl (decide (l = m))) := by
  unfold gEq eqD
  rw [ln_flat, ln_flat, ln_py, ln_py]
  simp [ln_shaped, ln_eqv]
end K56
set_option Elab.async false
set_option linter.all false
set_option maxRecDepth 100000
set_option maxHeartbeats 8000000
set_option autoImplicit false
namespace K56
open PySem PySem.Spec L2 DL
variable {K : Fg} {μ : Mu}
inductive Sh where
  | num (v : Int) | line (a : Nat) | no
def Sh.dp : Sh → D
  | .num v => .tup [.str "num", .int v]
  | .line a => .tup [.str "line", .int a]
  | .no => .non
def Sh.dl : Sh → D
  | .num v => .lst [.str "num", .int v]
  | .line a => .lst [.str "line", .int a]
  | .no => .lst [.str "none", .int 0]
def numOf : Ln → Option Int
  | .num v => some v
  | _ => none
def oi : Option Int → D
  | some u => .int u
  | none => .non
/-- as the program asks -/
def shortP (o : Op) (a b : Nat) (l r : Option Int) (n : Nat) : Sh :=
  if (l.isSome && r.isSome) = true then .num (opV o (l.getD 0) (r.getD 0) n)
  else if (decide (o = .add ∨ o = .or ∨ o = .xor) && decide (l = some 0)) = true then .line b
  else if (decide (o = .add ∨ o = .or ∨ o = .xor ∨ o = .sub) && decide (r = some 0)) = true then .line a
  else if (decide (o = .and) && (decide (l = some 0) || decide (r = some 0))) = true then .num 0
  else if (decide (o = .and) && (decide (l = some (2 ^ n - 1)) || decide (r = some (2 ^ n - 1)))) = true then .line (if l = some (2 ^ n - 1) then b else a)
  else if (decide (o = .less) && decide (r = some 0)) = true then .num 0
  else if (!decide (a = b) || decide (o = .add)) = true then .no
  else if decide (o = .and ∨ o = .or) = true then .line a
  else .num (if o = .same then 1 else 0)
theorem ln_num (x : Ln) : (∃ v, x = .num v) ∨ (∃ t r, x.d = .tup (.str t :: r) ∧ t ≠ "num" ∧ numOf x = none ∧ ∀ v, x ≠ .num v) := by
  cases x with
  | num v => exact .inl ⟨v, rfl⟩
  | op o a b => exact .inr ⟨o.s, _, rfl, (op_ne o).2.2.2.2.1, rfl, fun v h => by cases h⟩
  | _ => exact .inr ⟨_, _, rfl, by decide, rfl, fun v h => by cases h⟩
theorem low_dp {n : Nat} (s : Sh) : s.dp.low n = true := by cases s <;> rfl
theorem low_dl {n : Nat} (s : Sh) : s.dl.low n = true := by cases s <;> rfl
/-- the lines so far, as they may stand -/
def Lines (L : D) (μ : Mu) (ls : List Ln) : Prop := ∃ k, L = .mref k ∧ μ[k]? = some (.lst (ls.map Ln.d))
theorem atI_lines {ls : List Ln} {a : Nat} {x : Ln} (h : ls[a]? = some x) : atI (ls.map Ln.d) (a : Int) = some x.d := by
  rw [DL.atI_nat, List.getElem?_map, h]
  rfl
theorem oi_eq (l : Option Int) (i : Int) : gEq (oi l) (.int i) = some (.bl (decide (l = some i))) := by
  cases l with
  | none => rfl
  | some u => simp [oi]
theorem oi_not (l : Option Int) : gNotN (oi l) .non = some (.bl l.isSome) := by cases l <;> rfl
theorem shortened_eq (w : Wf μ) {L : D} {ls : List Ln} {o : Op} {a b n : Nat} {x y : Ln} (hL : Lines L μ ls) (ha : ls[a]? = some x) (hb : ls[b]? = some y) (hn : n ≤ 60) :
    S_shortened K [.tup [.str o.s, .int a, .int b], L, .int (2 ^ n - 1)] μ = some (.ok (shortP o a b (numOf x) (numOf y) n).dp, μ) := by
  refine scope_ok0 ?_ (low_dp _) w
  obtain ⟨k, rfl, hk⟩ := hL
  have e1 := atI_lines ha
  have e2 := atI_lines hb
  have e3 := fun u v => worked_eq (K := K) w o u v n
  have c1 : inD (.str o.s) [.str "add", .str "or", .str "xor"] = some (decide (o = .add ∨ o = .or ∨ o = .xor)) := by cases o <;> rfl
  have c2 : inD (.str o.s) [.str "add", .str "or", .str "xor", .str "sub"] = some (decide (o = .add ∨ o = .or ∨ o = .xor ∨ o = .sub)) := by cases o <;> rfl
  have c3 : inD (.str o.s) [.str "and", .str "or"] = some (decide (o = .and ∨ o = .or)) := by cases o <;> rfl
  have c4 : (o.s = "and") = (o = .and) := by cases o <;> simp (decide := true)
  have c5 : (o.s = "less") = (o = .less) := by cases o <;> simp (decide := true)
  have c6 : (o.s = "add") = (o = .add) := by cases o <;> simp (decide := true)
  have c7 : (o.s = "same") = (o = .same) := by cases o <;> simp (decide := true)
  refine run_rt ?_
  unfold B_shortened
  refine seq_nx (ρ1 := [some (.sh (.tup [.str o.s, .int a, .int b])), some (.sh (.mref k)), some (.sh (.int (2 ^ n - 1))), some (.sh (.str o.s)), some (.sh (.int a)), some (.sh (.int b)), none, none]) (μ1 := μ) (by simp [initR]) ?_
  refine seq_nx (ρ1 := [some (.sh (.tup [.str o.s, .int a, .int b])), some (.sh (.mref k)), some (.sh (.int (2 ^ n - 1))), some (.sh (.str o.s)), some (.sh (.int a)), some (.sh (.int b)), some (.sh (oi (numOf x))), none]) (μ1 := μ) ?_ ?_
  · rcases ln_num x with ⟨u, rfl⟩ | ⟨t, r, ex, et, en, _⟩
    · simp [hk, e1, Ln.d, numOf, oi]
    · rw [ex] at e1
      simp [hk, e1, et, en, oi]
  refine seq_nx (ρ1 := [some (.sh (.tup [.str o.s, .int a, .int b])), some (.sh (.mref k)), some (.sh (.int (2 ^ n - 1))), some (.sh (.str o.s)), some (.sh (.int a)), some (.sh (.int b)), some (.sh (oi (numOf x))), some (.sh (oi (numOf y)))]) (μ1 := μ) ?_ ?_
  · rcases ln_num y with ⟨u, rfl⟩ | ⟨t, r, ex, et, en, _⟩
    · simp [hk, e2, Ln.d, numOf, oi]
    · rw [ex] at e2
      simp [hk, e2, et, en, oi]
  generalize numOf x = l
  generalize numOf y = r
  unfold shortP
  refine seq_guard (c := l.isSome && r.isSome) (μ1 := μ) (by cases l <;> cases r <;> simp [oi_not, oi]) (fun h => ?_) (fun h => ?_)
  · cases l <;> cases r <;> first | cases h | skip
    exact ⟨_, μ, by simp [oi, e3, sizeLine]; rfl, by simp [Sh.dp]⟩
  rw [if_neg (by rw [h]; decide)]
  refine seq_guard (c := decide (o = .add ∨ o = .or ∨ o = .xor) && decide (l = some 0)) (μ1 := μ) (and_is (by simp [c1, sizeLine]) (by simp [oi_eq])) (fun h => ⟨_, μ, by simp [sizeLine]; rfl, by rw [if_pos h]; rfl⟩) (fun h => ?_)
  rw [if_neg (by rw [h]; decide)]
  refine seq_guard (c := decide (o = .add ∨ o = .or ∨ o = .xor ∨ o = .sub) && decide (r = some 0)) (μ1 := μ) (and_is (by simp [c2, sizeLine]) (by simp [oi_eq])) (fun h => ⟨_, μ, by simp [sizeLine]; rfl, by rw [if_pos h]; rfl⟩) (fun h => ?_)
  rw [if_neg (by rw [h]; decide)]
  refine seq_guard (c := decide (o = .and) && (decide (l = some 0) || decide (r = some 0))) (μ1 := μ) (and_is (by simp [c4]) (or_is (by simp [oi_eq]) (by simp [oi_eq]))) (fun h => ⟨_, μ, by simp [sizeLine]; rfl, by rw [if_pos h]; rfl⟩) (fun h => ?_)
  rw [if_neg (by rw [h]; decide)]
  refine seq_guard (c := decide (o = .and) && (decide (l = some (2 ^ n - 1)) || decide (r = some (2 ^ n - 1)))) (μ1 := μ) (and_is (by simp [c4]) (or_is (by simp [oi_eq]) (by simp [oi_eq]))) (fun h => ?_) (fun h => ?_)
  · rw [if_pos h]
    by_cases q : l = some (2 ^ n - 1)
    · exact ⟨_, μ, by simp [oi_eq, q, sizeLine]; rfl, by rw [if_pos q]; rfl⟩
    · exact ⟨_, μ, by simp [oi_eq, q, sizeLine]; rfl, by rw [if_neg q]; rfl⟩
  rw [if_neg (by rw [h]; decide)]
  refine seq_guard (c := decide (o = .less) && decide (r = some 0)) (μ1 := μ) (and_is (by simp [c5]) (by simp [oi_eq])) (fun h => ⟨_, μ, by simp [sizeLine]; rfl, by rw [if_pos h]; rfl⟩) (fun h => ?_)
  rw [if_neg (by rw [h]; decide)]
  refine seq_guard (c := !decide (a = b) || decide (o = .add)) (μ1 := μ) (or_is (by simp [Int.ofNat_inj]) (by simp [c6])) (fun h => ⟨_, μ, by simp; rfl, by rw [if_pos h]; rfl⟩) (fun h => ?_)
  rw [if_neg (by rw [h]; decide)]
  refine seq_guard (c := decide (o = .and ∨ o = .or)) (μ1 := μ) (by simp [c3, sizeLine]) (fun h => ⟨_, μ, by simp [sizeLine]; rfl, by rw [if_pos h]; rfl⟩) (fun h => ?_)
  rw [if_neg (by rw [h]; decide)]
  refine ret_is ?_
  by_cases q : o = .same
  · simp [c7, q, sizeLine, Sh.dp, Op.s]
  · simp [c7, q, sizeLine, Sh.dp]
end K56
set_option Elab.async false
set_option linter.all false
set_option maxRecDepth 100000
set_option maxHeartbeats 8000000
set_option autoImplicit false
namespace K56
open PySem PySem.Spec L2 DL
variable {K : Fg} {μ : Mu}
/-- as the law asks -/
def shortL (o : Op) (a b : Nat) (l r : Option Int) (n : Nat) : Sh :=
  if (l.isSome && r.isSome) = true then .num (opV o (l.getD 0) (r.getD 0) n)
  else if (decide (o = .add ∨ o = .or ∨ o = .xor ∨ o = .sub) && decide (r = some 0)) = true then .line a
  else if (decide (o = .add ∨ o = .or ∨ o = .xor) && decide (l = some 0)) = true then .line b
  else if (decide (o = .and) && (decide (l = some 0) || decide (r = some 0))) = true then .num 0
  else if (decide (o = .and) && decide (l = some (2 ^ n - 1))) = true then .line b
  else if (decide (o = .and) && decide (r = some (2 ^ n - 1))) = true then .line a
  else if (decide (o = .less) && decide (r = some 0)) = true then .num 0
  else if (decide (a = b) && decide (o = .sub ∨ o = .xor ∨ o = .less ∨ o = .same)) = true then .num (if o = .same then 1 else 0)
  else if (decide (a = b) && decide (o = .and ∨ o = .or)) = true then .line a
  else .no
theorem short_same (o : Op) (a b : Nat) (l r : Option Int) (n : Nat) : shortL o a b l r n = shortP o a b l r n := by
  unfold shortL shortP
  by_cases h : a = b <;> cases l <;> cases r <;> cases o <;> simp [h] <;> (try split) <;> simp_all
theorem num_is (x : Ln) (v : Int) : gEq x.d (.tup [.str "num", .int v]) = some (.bl (decide (numOf x = some v))) := by
  have h := ln_eq x (.num v)
  have e : (x = .num v) = (numOf x = some v) := by cases x <;> simp [numOf]
  rw [show decide (numOf x = some v) = decide (x = .num v) from decide_eq_decide.mpr (by rw [e])]
  exact h
theorem num_tag (x : Ln) {ρ : Rho} {i : Nat} (h : ρ[i]? = some (some (.sh x.d))) : dTest (dBin gEq (dIx (qVal (dVar i)) (dC (.int 0))) (dC (.str "num"))) ρ μ = some (.ok (numOf x).isSome, μ) := by
  rcases ln_num x with ⟨u, rfl⟩ | ⟨t, r, ex, et, en, _⟩
  · simp only [Ln.d] at h
    simp [h, numOf]
  · rw [ex] at h
    simp [h, et, en]
theorem law_shorter_eq (w : Wf μ) {L : D} {ls : List Ln} {o : Op} {a b n : Nat} {x y : Ln} (hL : Lines L μ ls) (ha : ls[a]? = some x) (hb : ls[b]? = some y) (hn : n ≤ 60) :
    S__law_shorter K [.tup [.str o.s, .int a, .int b], L, .int (n : Int)] μ = some (.ok (shortL o a b (numOf x) (numOf y) n).dl, μ) := by
  refine scope_ok0 ?_ (low_dl _) w
  obtain ⟨k, rfl, hk⟩ := hL
  have e1 := atI_lines ha
  have e2 := atI_lines hb
  have e3 := fun u v => law_op_eq (K := K) w o u v (n := n) (by omega)
  have c1 : inD (.str o.s) [.str "add", .str "or", .str "xor"] = some (decide (o = .add ∨ o = .or ∨ o = .xor)) := by cases o <;> rfl
  have c2 : inD (.str o.s) [.str "add", .str "or", .str "xor", .str "sub"] = some (decide (o = .add ∨ o = .or ∨ o = .xor ∨ o = .sub)) := by cases o <;> rfl
  have c3 : inD (.str o.s) [.str "and", .str "or"] = some (decide (o = .and ∨ o = .or)) := by cases o <;> rfl
  have c8 : inD (.str o.s) [.str "sub", .str "xor", .str "less", .str "same"] = some (decide (o = .sub ∨ o = .xor ∨ o = .less ∨ o = .same)) := by cases o <;> rfl
  have c4 : (o.s = "and") = (o = .and) := by cases o <;> simp (decide := true)
  have c5 : (o.s = "less") = (o = .less) := by cases o <;> simp (decide := true)
  have c7 : (o.s = "same") = (o = .same) := by cases o <;> simp (decide := true)
  refine run_rt ?_
  unfold B__law_shorter
  refine seq_nx (ρ1 := [some (.sh (.tup [.str o.s, .int a, .int b])), some (.sh (.mref k)), some (.sh (.int n)), some (.sh x.d), none, none]) (μ1 := μ) (by simp [initR, hk, e1]) ?_
  refine seq_nx (ρ1 := [some (.sh (.tup [.str o.s, .int a, .int b])), some (.sh (.mref k)), some (.sh (.int n)), some (.sh x.d), some (.sh y.d), none]) (μ1 := μ) (by simp [hk, e2]) ?_
  refine seq_nx (ρ1 := [some (.sh (.tup [.str o.s, .int a, .int b])), some (.sh (.mref k)), some (.sh (.int n)), some (.sh x.d), some (.sh y.d), some (.sh (.int (2 ^ n - 1)))]) (μ1 := μ) (by simp [gShl1 (w := n) (by omega)]) ?_
  unfold shortL
  refine seq_guard (c := (numOf x).isSome && (numOf y).isSome) (μ1 := μ) (and_is (num_tag x rfl) (num_tag y rfl)) (fun h => ?_) (fun h => ?_)
  · rw [if_pos h]
    rcases ln_num x with ⟨u, rfl⟩ | ⟨t, r, ex, et, en, _⟩
    · rcases ln_num y with ⟨v, rfl⟩ | ⟨t, r, ex, et, en, _⟩
      · exact ⟨_, μ, by simp [Ln.d, e3, sizeLine]; rfl, by simp [Sh.dl, numOf]⟩
      · rw [en] at h; simp at h
    · rw [en] at h; simp at h
  rw [if_neg (by rw [h]; decide)]
  refine seq_guard (c := decide (o = .add ∨ o = .or ∨ o = .xor ∨ o = .sub) && decide (numOf y = some 0)) (μ1 := μ) (and_is (by simp [c2, sizeLine]) (by simp [num_is, sizeLine])) (fun h => ⟨_, μ, by simp [sizeLine]; rfl, by rw [if_pos h]; rfl⟩) (fun h => ?_)
  rw [if_neg (by rw [h]; decide)]
  refine seq_guard (c := decide (o = .add ∨ o = .or ∨ o = .xor) && decide (numOf x = some 0)) (μ1 := μ) (and_is (by simp [c1, sizeLine]) (by simp [num_is, sizeLine])) (fun h => ⟨_, μ, by simp [sizeLine]; rfl, by rw [if_pos h]; rfl⟩) (fun h => ?_)
  rw [if_neg (by rw [h]; decide)]
  refine seq_guard (c := decide (o = .and) && (decide (numOf x = some 0) || decide (numOf y = some 0))) (μ1 := μ) (and_is (by simp [c4]) (or_is (by simp [num_is, sizeLine]) (by simp [num_is, sizeLine]))) (fun h => ⟨_, μ, by simp [sizeLine]; rfl, by rw [if_pos h]; rfl⟩) (fun h => ?_)
  rw [if_neg (by rw [h]; decide)]
  refine seq_guard (c := decide (o = .and) && decide (numOf x = some (2 ^ n - 1))) (μ1 := μ) (and_is (by simp [c4]) (by simp [num_is, sizeLine])) (fun h => ⟨_, μ, by simp [sizeLine]; rfl, by rw [if_pos h]; rfl⟩) (fun h => ?_)
  rw [if_neg (by rw [h]; decide)]
  refine seq_guard (c := decide (o = .and) && decide (numOf y = some (2 ^ n - 1))) (μ1 := μ) (and_is (by simp [c4]) (by simp [num_is, sizeLine])) (fun h => ⟨_, μ, by simp [sizeLine]; rfl, by rw [if_pos h]; rfl⟩) (fun h => ?_)
  rw [if_neg (by rw [h]; decide)]
  refine seq_guard (c := decide (o = .less) && decide (numOf y = some 0)) (μ1 := μ) (and_is (by simp [c5]) (by simp [num_is, sizeLine])) (fun h => ⟨_, μ, by simp [sizeLine]; rfl, by rw [if_pos h]; rfl⟩) (fun h => ?_)
  rw [if_neg (by rw [h]; decide)]
  refine seq_guard (c := decide (a = b) && decide (o = .sub ∨ o = .xor ∨ o = .less ∨ o = .same)) (μ1 := μ) (and_is (by simp [Int.ofNat_inj]) (by simp [c8, sizeLine])) (fun h => ?_) (fun h => ?_)
  · rw [if_pos h]
    by_cases q : o = .same
    · exact ⟨_, μ, by simp [c7, q, sizeLine, Op.s]; rfl, by simp [Sh.dl, q]⟩
    · exact ⟨_, μ, by simp [c7, q, sizeLine]; rfl, by simp [Sh.dl, q]⟩
  rw [if_neg (by rw [h]; decide)]
  refine seq_guard (c := decide (a = b) && decide (o = .and ∨ o = .or)) (μ1 := μ) (and_is (by simp [Int.ofNat_inj]) (by simp [c3, sizeLine])) (fun h => ⟨_, μ, by simp [sizeLine]; rfl, by rw [if_pos h]; rfl⟩) (fun h => ?_)
  rw [if_neg (by rw [h]; decide)]
  exact ret_is (by simp [sizeLine, Sh.dl])
end K56
set_option Elab.async false
set_option linter.all false
set_option maxRecDepth 100000
set_option maxHeartbeats 8000000
set_option autoImplicit false
namespace K56
open PySem PySem.Spec L2 DL
variable {K : Fg} {μ : Mu}
/-! ### middles and rows -/
abbrev tL (ls : List Ln) : D := .tup (ls.map Ln.d)
abbrev tM (ms : List (List Nat)) : D := .tup (ms.map fun m => D.tup (dI m))
abbrev lM (ms : List (List Nat)) : D := .lst (ms.map fun m => D.lst (dI m))
abbrev mid (K : Fg) (ls : List Ln) (ms : List (List Nat)) : D := .obj (He.ga K "Middle") ["lines", "marks"] [tL ls, tM ms]
abbrev row (ls : List Ln) (ms : List (List Nat)) : D := .lst [.lst (ls.map Ln.d), lM ms]
def renM (f : List Nat) (ms : List (List Nat)) : List (List Nat) := ms.map fun m => m.map fun i => f.getD i 0
def okM (n : Nat) (ms : List (List Nat)) : Prop := ∀ m ∈ ms, m.length ≤ 1000 ∧ ∀ i ∈ m, i < n
theorem low_all {n : Nat} {α : Type} (f : α → D) (h : ∀ x, (f x).low n = true) : ∀ xs : List α, D.lowAll n (xs.map f) = true
  | [] => rfl
  | x :: xs => by
    show (D.low n (f x) && D.lowAll n (xs.map f)) = true
    rw [h, low_all f h xs]
    rfl
theorem low_tL {n : Nat} (ls : List Ln) : (tL ls).low n = true := low_all _ low_ln ls
theorem low_lM {n : Nat} (ms : List (List Nat)) : (lM ms).low n = true := low_all (fun m => D.lst (dI m)) (fun m => low_ints m) ms
theorem low_tM {n : Nat} (ms : List (List Nat)) : (tM ms).low n = true := low_all (fun m => D.tup (dI m)) (fun m => low_ints m) ms
theorem low_mid {n : Nat} (ls : List Ln) (ms : List (List Nat)) : (mid K ls ms).low n = true := by
  show (D.low n (tL ls) && (D.low n (tM ms) && true)) = true
  rw [low_tL, low_tM]
  rfl
theorem fld_lines {ls : List Ln} {ms : List (List Nat)} : fldD ["lines", "marks"] [tL ls, tM ms] "lines" = some (tL ls) := rfl
theorem fld_marks {ls : List Ln} {ms : List (List Nat)} : fldD ["lines", "marks"] [tL ls, tM ms] "marks" = some (tM ms) := rfl
theorem marks_renamed_eq (w : Wf μ) {N : D} {f : List Nat} {ls : List Ln} {ms : List (List Nat)} (hN : Nums N μ f) (hm : okM f.length ms) (hs : ms.length ≤ 1000) :
    S_marks_renamed K [mid K ls ms, N] μ = some (.ok (lM (renM f ms)), μ) := by
  refine scope_ok0 ?_ (low_lM _) w
  refine run_rt ?_
  unfold B_marks_renamed
  refine ret_is ?_
  have inner : ∀ m ∈ ms, ∀ s3, lcL [3] (gtName 3) dYes (dIx (qVal (dVar 1)) (dVar 3)) [some (.sh (mid K ls ms)), some (.sh N), some (.sh (.tup (dI m))), s3] (dI m) [] μ = some (.ok (dI (m.map fun i => f.getD i 0)), μ) := fun m hmm s3 => by
    have q := lc_all (vs := [3]) (gt := gtName 3) (te := dIx (qVal (dVar 1)) (dVar 3)) (ρ := [some (.sh (mid K ls ms)), some (.sh N), some (.sh (.tup (dI m))), s3]) (μ := μ) (fun (n : Nat) => D.int (n : Int)) (fun i => D.int ((f.getD i 0 : Nat) : Int)) m (by have := (hm m hmm).1; simp [sizeLine]; omega) fun i hi => ⟨_, gtName_ap, by
      have e := atI_dI ((hm m hmm).2 i hi)
      rcases hN with ⟨k, rfl, hk⟩ | rfl
      · simp [wipeR, hk, e]
      · simp [wipeR, e]⟩
    rw [q]
    simp
  have q := lc_all (vs := [2]) (gt := gtName 2) (te := dFz (dLc [3] (dIter (dVar 2)) (gtName 3) dYes (dIx (qVal (dVar 1)) (dVar 3)))) (ρ := [some (.sh (mid K ls ms)), some (.sh N), none, none]) (μ := μ) (fun m => D.tup (dI m)) (fun m => D.lst (dI (m.map fun i => f.getD i 0))) ms (by simp [sizeLine]; omega) fun m hmm => ⟨_, gtName_ap, by
    simp [wipeR, okW, inner m hmm]⟩
  simp [initR, fld_marks, okW, q, renM]
/-! ### the law's own -/
theorem Nums.more {N : D} {f : List Nat} (h : Nums N μ f) (ν : Mu) : Nums N (μ ++ ν) f := by
  rcases h with ⟨k, rfl, hk⟩ | rfl
  · exact .inl ⟨k, rfl, by rw [List.getElem?_append_left (List.getElem?_eq_some_iff.mp hk).1]; exact hk⟩
  · exact .inr rfl
theorem marks_turn {N : D} {f : List Nat} {m : List Nat} {n : Nat} {ρ : Rho} (hN : Nums N μ f) (h1 : m.length ≤ 1000) (h2 : ∀ i ∈ m, i < f.length) (hρ : ρ[1]? = some (some (.sh N))) (h4 : ∀ d : D, (ρ.set 4 (some (.sh d)))[4]? = some (some (.sh d))) (h5 : ∀ d : D, ((wipeR ρ [4]).set 4 (some (.sh d)))[4]? = some (some (.sh d))) (h6 : ∀ d : D, ((wipeR ρ [4]).set 4 (some (.sh d)))[1]? = some (some (.sh N))) :
    lcL [4] (gtName 4) dYes (dIx (qVal (dVar 1)) (dVar 4)) ρ (dI m) [] μ = some (.ok (dI (m.map fun i => f.getD i 0)), μ) := by
  have q := lc_all (vs := [4]) (gt := gtName 4) (te := dIx (qVal (dVar 1)) (dVar 4)) (ρ := ρ) (μ := μ) (fun (n : Nat) => D.int (n : Int)) (fun i => D.int ((f.getD i 0 : Nat) : Int)) m (by simp [sizeLine]; omega) fun j hj => ⟨_, gtName_ap, by
    have e := atI_dI (h2 j hj)
    rcases hN with ⟨k, rfl, hk⟩ | rfl
    · rw [dIx_ap]
      simp only [bind_ap, qVal_ap, dVar_ap, h6, h5, ret_ap, qv_mref, hk, e]
    · rw [dIx_ap]
      simp only [bind_ap, qVal_ap, dVar_ap, h6, h5, ret_ap, qv_lst, e]⟩
  rw [q]
  simp
def accM (f : List Nat) (ms : List (List Nat)) (i : Nat) : List D := (ms.take i).map fun m => D.lst (dI (m.map fun i => f.getD i 0))
theorem accM_succ {f : List Nat} {ms : List (List Nat)} {i : Nat} {m : List Nat} (h : ms[i]? = some m) : accM f ms (i + 1) = accM f ms i ++ [D.lst (dI (m.map fun i => f.getD i 0))] := by
  obtain ⟨h1, h2⟩ := List.getElem?_eq_some_iff.mp h
  unfold accM
  rw [List.take_succ_eq_append_getElem h1, List.map_append, h2]
  rfl
theorem accM_len {f : List Nat} {ms : List (List Nat)} {i : Nat} (hs : ms.length ≤ 1000) : (accM f ms i).length < sizeLine := by
  unfold accM
  rw [List.length_map, List.length_take]
  simp [sizeLine]
  omega
theorem law_marks_renamed_eq (w : Wf μ) {N : D} {f : List Nat} {ms : List (List Nat)} (hN : Nums N μ f) (hm : okM f.length ms) (hs : ms.length ≤ 1000) :
    S__law_marks_renamed K [lM ms, N] μ = some (.ok (lM (renM f ms)), μ) := by
  refine scope_ok (ν := [.dead]) ?_ (low_lM _) w
  refine run_rt ?_
  unfold B__law_marks_renamed
  refine seq_nx (ρ1 := [some (.sh (lM ms)), some (.sh N), some (.sh (.mref μ.length)), none, none]) (μ1 := μ ++ [.lst []]) (by simp [initR, sizeLine]) ?_
  obtain ⟨ρ', μ', e1, s3, e2, e3⟩ := for_inv (gt := gtName 3) (tb := dsAppM (dVar 2) (dFz (dLc [4] (dIter (dVar 3)) (gtName 4) dYes (dIx (qVal (dVar 1)) (dVar 4))))) (ds := ms.map fun m => D.lst (dI m))
    (fun i ρ μ2 => ∃ s3, ρ = [some (.sh (lM ms)), some (.sh N), some (.sh (.mref μ.length)), s3, none] ∧ μ2 = μ ++ [.lst (accM f ms i)]) (fun i d ρ μ2 hd hI => by
      obtain ⟨s3, rfl, rfl⟩ := hI
      rw [List.getElem?_map] at hd
      obtain ⟨m, hm1, rfl⟩ := Option.map_eq_some_iff.mp hd
      have hmm : m ∈ ms := List.mem_of_getElem? hm1
      have q := marks_turn (n := 0) (ρ := [some (.sh (lM ms)), some (.sh N), some (.sh (.mref μ.length)), some (.sh (.lst (dI m))), none]) (hN.more [.lst (accM f ms i)]) (hm m hmm).1 (hm m hmm).2 rfl (fun _ => rfl) (fun _ => rfl) (fun _ => rfl)
      refine ⟨_, [some (.sh (lM ms)), some (.sh N), some (.sh (.mref μ.length)), some (.sh (.lst (dI m))), none], μ ++ [.lst (accM f ms (i + 1))], gtName_ap, ?_, some (.sh (.lst (dI m))), rfl, rfl⟩
      have hz := accM_len (f := f) (i := i) hs
      simp [okW, q, hz, accM_succ hm1]) (ρ := [some (.sh (lM ms)), some (.sh N), some (.sh (.mref μ.length)), none, none]) (μ := μ ++ [.lst []]) ⟨none, rfl, by simp [accM]⟩
  refine seq_nx (ρ1 := ρ') (μ1 := μ') (by simp; exact e1) ?_
  subst e2 e3
  have hz : accM f ms (ms.map fun m => D.lst (dI m)).length = (renM f ms).map fun m => D.lst (dI m) := by
    unfold accM renM
    rw [List.length_map, List.take_length, List.map_map]
    rfl
  refine seq_nx (ρ1 := [some (.sh (lM ms)), some (.sh N), some (.sh (lM (renM f ms))), s3, none]) (μ1 := μ ++ [.dead]) ?_ (ret_is (by simp))
  rw [hz]
  simp [dsFzM]
end K56
set_option Elab.async false
set_option linter.all false
set_option maxRecDepth 100000
set_option maxHeartbeats 8000000
set_option autoImplicit false
namespace K56
open PySem PySem.Spec L2 DL
variable {K : Fg} {μ : Mu}
/-- a thing whose items are things whose items are g x -/
structure Rows2 {α : Type} (L : D) (μ : Mu) (xs : List α) (g : α → List D) : Prop where
  ex : ∃ (enc : α → D) (S : Mu → Nat → Option (Option D)), srcOf L μ = some ⟨xs.length + 1, S⟩ ∧ (∀ i, S μ i = some (xs.map enc)[i]?) ∧ ∀ x ∈ xs, (∀ ρ, qv (.val (enc x)) ρ μ = some (g x)) ∧ QV.isK (.val (enc x)) = false
theorem Rows2.items {α : Type} {L : D} {xs : List α} {g : α → List D} (enc : α → D) (h : L.items = some (xs.map enc)) (h2 : ∀ x ∈ xs, (∀ ρ, qv (.val (enc x)) ρ μ = some (g x)) ∧ QV.isK (.val (enc x)) = false) : Rows2 L μ xs g := by
  refine ⟨enc, fun _ i => some (xs.map enc)[i]?, ?_, fun i => rfl, h2⟩
  unfold srcOf
  rw [h]
  simp
theorem tups_eq {α : Type} {L : D} {xs : List α} {g : α → List D} (hR : Rows2 L μ xs g) (hl : xs.length ≤ 1000) {v s : Nat} {ρ : Rho} (hv : ρ[v]? = some (some (.sh L))) (hs : ∀ d : D, ((wipeR ρ [s]).set s (some (.sh d)))[s]? = some (some (.sh d))) (ho : okW ρ [s] = true) :
    dTupOf (qVal (dFz (dLcJ [s] (dSrc (dVar v)) (gtName s) dYes (dTupOf (qVal (dVar s)))))) ρ μ = some (.ok (.tup (xs.map fun x => .tup (g x))), μ) := by
  obtain ⟨enc, S, h1, h2, h3⟩ := hR.ex
  have q := lcJ_all (vs := [s]) (gt := gtName s) (te := dTupOf (qVal (dVar s))) (ρ := ρ) (μ := μ) (S := S) enc (fun x => D.tup (g x)) xs h2 (by simp [sizeLine]; omega) fun x hx => ⟨_, gtName_ap, by
    obtain ⟨e1, e2⟩ := h3 x hx
    rw [dTupOf_ap]
    simp only [bind_ap, qVal_ap, dVar_ap, hs, ret_ap, e1, e2]
    simp⟩
  rw [dTupOf_ap]
  simp only [bind_ap, qVal_ap, dFz_ap, dLcJ_ap, dSrc_ap, dVar_ap, hv, ret_ap, h1, ho, if_true, q, qv_lst, isK_lst]
  simp
theorem low_tups {α : Type} {n : Nat} {xs : List α} {g : α → List D} (h : ∀ x ∈ xs, D.lowAll n (g x) = true) : (D.tup (xs.map fun x => .tup (g x))).low n = true := by
  show D.lowAll n _ = true
  induction xs with
  | nil => rfl
  | cons x xs ih =>
    show (D.lowAll n (g x) && D.lowAll n (xs.map fun x => D.tup (g x))) = true
    rw [h x (List.mem_cons_self ..), ih fun y hy => h y (List.mem_cons_of_mem _ hy)]
    rfl
/-- Middle(L, M), that stands still -/
theorem middle_eq {α β : Type} {L M' : D} {xs : List α} {ys : List β} {g : α → List D} {g' : β → List D} {tl : TL} {ρ : Rho} {μ0 : Mu} (w : Wf μ) (ht : tl ρ μ0 = some (.ok [L, M'], μ)) (hL : Rows2 L (μ ++ [.ins (He.ga K "Middle") [] []]) xs g) (hM : Rows2 M' (μ ++ [.ins (He.ga K "Middle") ["lines"] [.tup (xs.map fun x => .tup (g x))]]) ys g')
    (h1 : xs.length ≤ 1000) (h2 : ys.length ≤ 1000) (h3 : ∀ n, ∀ x ∈ xs, D.lowAll n (g x) = true) (h4 : ∀ n, ∀ x ∈ ys, D.lowAll n (g' x) = true) :
    dMake (He.ga K "Middle") (S_Middle_init K) 3 tl ρ μ0 = some (.ok (.obj (He.ga K "Middle") ["lines", "marks"] [.tup (xs.map fun x => .tup (g x)), .tup (ys.map fun x => .tup (g' x))]), μ) := by
  have e1 := tups_eq hL h1 (v := 1) (s := 3) (ρ := [some (.sh (.mref μ.length)), some (.sh L), some (.sh M'), none, none]) rfl (fun _ => rfl) rfl
  have e2 := tups_eq hM h2 (v := 2) (s := 4) (ρ := [some (.sh (.mref μ.length)), some (.sh L), some (.sh M'), none, none]) rfl (fun _ => rfl) rfl
  have l3 : ∀ n, D.lowAll n [.tup (xs.map fun x => .tup (g x)), .tup (ys.map fun x => .tup (g' x))] = true := fun n => by
    show (D.low n (.tup (xs.map fun x => .tup (g x))) && (D.low n (.tup (ys.map fun x => .tup (g' x))) && true)) = true
    rw [low_tups (h3 n), low_tups (h4 n)]
    rfl
  have body : S_Middle_init K [.mref μ.length, L, M'] (μ ++ [.ins (He.ga K "Middle") [] []]) = some (.ok .non, μ ++ [.ins (He.ga K "Middle") ["lines", "marks"] [.tup (xs.map fun x => .tup (g x)), .tup (ys.map fun x => .tup (g' x))]]) := by
    refine scope_same ?_ (by simp) rfl (w.app (l3 _))
    refine run_nx (ρ1 := [some (.sh (.mref μ.length)), some (.sh L), some (.sh M'), none, none]) ?_
    have ini : initR 5 [.mref μ.length, L, M'] = [some (.sh (.mref μ.length)), some (.sh L), some (.sh M'), none, none] := rfl
    rw [ini]
    unfold B_Middle_init
    refine seq_nx (ρ1 := [some (.sh (.mref μ.length)), some (.sh L), some (.sh M'), none, none]) (μ1 := μ ++ [.ins (He.ga K "Middle") ["lines"] [.tup (xs.map fun x => .tup (g x))]]) ?_ ?_
    · simp only [dsFld_ap, dsE_ap]
      rw [e1]
      simp [putN, putA]
    · simp only [dsFld_ap, dsE_ap]
      rw [e2]
      simp (decide := true) [putN, putA]
  rw [dMake_ap]
  simp only [bind_ap, ht, made, List.length_cons, List.length_nil, if_true, body]
  have z1 : (μ ++ [MO.ins (He.ga K "Middle") ["lines", "marks"] [.tup (xs.map fun x => .tup (g x)), .tup (ys.map fun x => .tup (g' x))]])[μ.length]? = some (MO.ins (He.ga K "Middle") ["lines", "marks"] [.tup (xs.map fun x => .tup (g x)), .tup (ys.map fun x => .tup (g' x))]) := by simp
  have z2 : (μ ++ [MO.ins (He.ga K "Middle") ["lines", "marks"] [.tup (xs.map fun x => .tup (g x)), .tup (ys.map fun x => .tup (g' x))]]).take μ.length = μ := by simp
  simp only [z1, z2, l3]
  rw [if_pos (by rw [Bool.true_and]; exact w)]
end K56
set_option Elab.async false
set_option linter.all false
set_option maxRecDepth 100000
set_option maxHeartbeats 8000000
set_option autoImplicit false
namespace K56
open PySem PySem.Spec L2 DL
variable {K : Fg} {μ : Mu}
/-! ### known -/
def kPut (st : List Ln × List Nat) (t : Ln) : Sh → List Ln × List Nat
  | .num v => (st.1 ++ [.num v], st.2 ++ [st.2.length])
  | .line c => (st.1 ++ [t], st.2 ++ [c])
  | .no => (st.1 ++ [t], st.2 ++ [st.2.length])
def kSh (n : Nat) (ls : List Ln) : Ln → Sh
  | .op o a b => shortP o a b (numOf (ls.getD a .tick)) (numOf (ls.getD b .tick)) n
  | _ => .no
def kStep (n : Nat) (st : List Ln × List Nat) (l : Ln) : List Ln × List Nat := kPut st (ren st.2 l) (kSh n st.1 (ren st.2 l))
def kTo (n : Nat) (ls : List Ln) (i : Nat) : List Ln × List Nat := (ls.take i).foldl (kStep n) ([], [])
/-- every line leans on lines ahead of it -/
def okL (ls : List Ln) : Prop := ∀ (i : Nat) (l : Ln), ls[i]? = some l → l.ok i
/-- lines and names so far -/
structure KInv (st : List Ln × List Nat) (i : Nat) : Prop where
  l1 : st.1.length = i
  l2 : st.2.length = i
  le : ∀ j, j < i → st.2.getD j 0 ≤ j
  ok : okL st.1
theorem ren_ok {f : List Nat} {i : Nat} {l : Ln} (h : l.ok i) (hf : ∀ j, j < i → f.getD j 0 ≤ j) : (ren f l).ok i := by
  intro c hc
  cases l <;> simp only [ren, Ln.uses, List.mem_cons, List.not_mem_nil, or_false] at hc <;> first
    | (rcases hc with rfl | rfl <;> (refine Nat.lt_of_le_of_lt (hf _ ?_) ?_ <;> exact h _ (by simp [Ln.uses])))
    | (subst hc; refine Nat.lt_of_le_of_lt (hf _ ?_) ?_ <;> exact h _ (by simp [Ln.uses]))
    | cases hc
theorem okL_snoc {ls : List Ln} {l : Ln} (h : okL ls) (hl : l.ok ls.length) : okL (ls ++ [l]) := by
  intro i m e
  by_cases q : i < ls.length
  · rw [List.getElem?_append_left q] at e
    exact h i m e
  · rw [List.getElem?_append_right (by omega)] at e
    have hi : i - ls.length = 0 := by
      have := (List.getElem?_eq_some_iff.mp e).1
      simp at this
      omega
    rw [hi] at e
    cases e
    have : i = ls.length := by omega
    rw [this]
    exact hl
theorem getD_snoc {f : List Nat} {c i : Nat} (hl : f.length = i) (h : ∀ j, j < i → f.getD j 0 ≤ j) (hc : c ≤ i) : ∀ j, j < i + 1 → (f ++ [c]).getD j 0 ≤ j := by
  intro j hj
  by_cases q : j < i
  · have e : (f ++ [c]).getD j 0 = f.getD j 0 := by
      rw [List.getD_eq_getElem?_getD, List.getD_eq_getElem?_getD, List.getElem?_append_left (by omega)]
    rw [e]
    exact h j q
  · have e : j = i := by omega
    subst e
    rw [List.getD_eq_getElem?_getD, List.getElem?_append_right (by omega), hl, Nat.sub_self]
    simpa using hc
theorem short_le {o : Op} {a b n i c : Nat} {l r : Option Int} (ha : a < i) (hb : b < i) (h : shortP o a b l r n = .line c) : c ≤ i := by
  unfold shortP at h
  repeat' split at h
  all_goals cases h
  all_goals first | omega | (split <;> omega)
theorem kStep_inv {n : Nat} {st : List Ln × List Nat} {i : Nat} {l : Ln} (I : KInv st i) (hl : l.ok i) : KInv (kStep n st l) (i + 1) := by
  have hr := ren_ok hl I.le
  have num_ok : ∀ v, (Ln.num v).ok i := fun v c hc => by cases hc
  have base : ∀ (t : Ln) (c : Nat), t.ok i → c ≤ i → KInv (st.1 ++ [t], st.2 ++ [c]) (i + 1) := fun t c ht hc =>
    ⟨by simp [I.l1], by simp [I.l2], getD_snoc I.l2 I.le hc, okL_snoc I.ok (by rw [I.l1]; exact ht)⟩
  unfold kStep
  have hc : ∀ c, kSh n st.1 (ren st.2 l) = .line c → c ≤ i := fun c h => by
    cases e : ren st.2 l with
    | op o a b =>
      rw [e] at hr h
      exact short_le (hr a (by simp [Ln.uses])) (hr b (by simp [Ln.uses])) h
    | _ => rw [e] at h; cases h
  cases h : kSh n st.1 (ren st.2 l) with
  | num v => exact base _ _ (num_ok _) (by rw [I.l2]; exact Nat.le_refl _)
  | line c => exact base _ _ hr (hc c h)
  | no => exact base _ _ hr (by rw [I.l2]; exact Nat.le_refl _)
theorem kTo_succ {n : Nat} {ls : List Ln} {i : Nat} {l : Ln} (h : ls[i]? = some l) : kTo n ls (i + 1) = kStep n (kTo n ls i) l := by
  obtain ⟨h1, h2⟩ := List.getElem?_eq_some_iff.mp h
  unfold kTo
  rw [List.take_succ_eq_append_getElem h1, List.foldl_append, h2]
  rfl
theorem kTo_inv {n : Nat} {ls : List Ln} (h : okL ls) : ∀ i, i ≤ ls.length → KInv (kTo n ls i) i
  | 0, _ => ⟨rfl, rfl, fun j hj => by omega, fun i l e => by cases e⟩
  | i + 1, hi => by
    have e : ls[i]? = some ls[i] := List.getElem?_eq_getElem (by omega)
    rw [kTo_succ e]
    exact kStep_inv (kTo_inv h i (by omega)) (h i _ e)
end K56
set_option Elab.async false
set_option linter.all false
set_option maxRecDepth 100000
set_option maxHeartbeats 8000000
set_option autoImplicit false
namespace K56
open PySem PySem.Spec L2 DL
variable {K : Fg} {μ : Mu}
/-- what stands while known runs -/
abbrev kMu (μ : Mu) (st : List Ln × List Nat) : Mu := μ ++ [.lst (st.1.map Ln.d), .lst (dI st.2)]
theorem wf_k (w : Wf μ) (st : List Ln × List Nat) : Wf (kMu μ st) := by
  have w1 := Wf.app (m := .lst (st.1.map Ln.d)) w (low_all _ low_ln _)
  have w2 := Wf.app (m := .lst (dI st.2)) w1 (low_ints _)
  rw [List.append_assoc] at w2
  exact w2
theorem k_lines (st : List Ln × List Nat) : Lines (.mref μ.length) (kMu μ st) st.1 := ⟨_, rfl, by simp⟩
theorem k_names (st : List Ln × List Nat) : Nums (.mref (μ.length + 1)) (kMu μ st) st.2 := .inl ⟨_, rfl, by simp⟩
theorem k_app1 {st : List Ln × List Nat} {t : Ln} (hl : st.1.length < 1000) {ρ : Rho} {i j : Nat} (h1 : ρ[i]? = some (some (.sh (.mref μ.length)))) (h2 : ρ[j]? = some (some (.sh t.d))) :
    dsAppM (dVar i) (dVar j) ρ (kMu μ st) = some (.nx ρ, kMu μ (st.1 ++ [t], st.2)) := by
  have hz : st.1.length < sizeLine := by simp [sizeLine]; omega
  simp [h1, h2, hz]
theorem k_app2 {st : List Ln × List Nat} {c : Nat} (hl : st.2.length < 1000) {ρ : Rho} {i j : Nat} (h1 : ρ[i]? = some (some (.sh (.mref (μ.length + 1))))) (h2 : ρ[j]? = some (some (.sh (.int (c : Int))))) :
    dsAppM (dVar i) (dVar j) ρ (kMu μ st) = some (.nx ρ, kMu μ (st.1, st.2 ++ [c])) := by
  have hz : st.2.length < sizeLine := by simp [sizeLine]; omega
  simp [h1, h2, hz]
theorem call_is {F : List D → M D} {n : Nat} {tl : TL} {ρ : Rho} {ds : List D} {r : Option (Res D × Mu)} (h : tl ρ μ = some (.ok ds, μ)) (hn : ds.length = n) (hF : F ds μ = r) : dCall F n tl ρ μ = r := by
  rw [dCall_ap, bind_ap, h]
  simp only [hn, if_true, iteM_ap]
  exact hF
abbrev kBody (K : Fg) : TO' := dsSeq (dsSet 6 (dCall (S_renamed K) 2 (dCons (dVar 5) (dCons (dVar 3) (dNil))))) (dsSeq (dsSet 7 (dIfE (dTruth (dCall (S_is_op K) 1 (dCons (dVar 6) (dNil)))) (dCall (S_shortened K) 3 (dCons (dVar 6) (dCons (dVar 2) (dCons (dCall (S_ones K) 1 (dCons (dVar 1) (dNil))) (dNil))))) (dC .non))) (dsSeq (dsSet 8 (dVar 4)) (dsSeq (dsIf (dAnd (dTest (dBin gNotN (dVar 7) (dC .non))) (dTest (dBin gEq (dIx (qVal (dVar 7)) (dC (.int 0))) (dC (.str "num"))))) (dsSet 6 (dVar 7)) (dsIf (dTest (dBin gNotN (dVar 7) (dC .non))) (dsSet 8 (dIx (qVal (dVar 7)) (dC (.int 1)))) (dsNext))) (dsSeq (dsAppM (dVar 2) (dVar 6)) (dsAppM (dVar 3) (dVar 8))))))
theorem sh_at {ls : List Ln} {a : Nat} (h : a < ls.length) : ls[a]? = some (ls.getD a .tick) := by
  rw [List.getD_eq_getElem?_getD, List.getElem?_eq_getElem h]
  rfl
theorem known_turn (w : Wf μ) {st : List Ln × List Nat} {i n : Nat} {l : Ln} (I : KInv st i) (hl : l.ok i) (hi : i < 1000) (hn : n ≤ 60) {m : D} {s6 s7 s8 : Option Sl} :
    ∃ t6 t7 t8, kBody K [some (.sh m), some (.sh (.int n)), some (.sh (.mref μ.length)), some (.sh (.mref (μ.length + 1))), some (.sh (.int (i : Nat))), some (.sh l.d), s6, s7, s8] (kMu μ st) = some (.nx [some (.sh m), some (.sh (.int n)), some (.sh (.mref μ.length)), some (.sh (.mref (μ.length + 1))), some (.sh (.int (i : Nat))), some (.sh l.d), t6, t7, t8], kMu μ (kStep n st l)) := by
  have wk := wf_k w st
  have hr := ren_ok hl I.le
  have e1 := renamed_eq (K := K) wk l (k_names st) (by rw [I.l2]; exact hl)
  have e2 := is_op_eq (K := K) wk (ren st.2 l)
  have e3 := ones_eq (K := K) wk (n := n) (by omega)
  have fin : ∀ (t : Ln) (c : Nat) (s7 : Option Sl), dsSeq (dsAppM (dVar 2) (dVar 6)) (dsAppM (dVar 3) (dVar 8)) [some (.sh m), some (.sh (.int n)), some (.sh (.mref μ.length)), some (.sh (.mref (μ.length + 1))), some (.sh (.int (i : Nat))), some (.sh l.d), some (.sh t.d), s7, some (.sh (.int (c : Nat)))] (kMu μ st) =
      some (.nx [some (.sh m), some (.sh (.int n)), some (.sh (.mref μ.length)), some (.sh (.mref (μ.length + 1))), some (.sh (.int (i : Nat))), some (.sh l.d), some (.sh t.d), s7, some (.sh (.int (c : Nat)))], kMu μ (st.1 ++ [t], st.2 ++ [c])) := fun t c s7 =>
    seq_nx (k_app1 (by rw [I.l1]; exact hi) rfl rfl) (k_app2 (by show st.2.length < 1000; rw [I.l2]; exact hi) rfl rfl)
  have first := set_is (i := 6) (ρ := [some (.sh m), some (.sh (.int n)), some (.sh (.mref μ.length)), some (.sh (.mref (μ.length + 1))), some (.sh (.int (i : Nat))), some (.sh l.d), s6, s7, s8]) (call_is (n := 2) (tl := dCons (dVar 5) (dCons (dVar 3) dNil)) (ds := [l.d, .mref (μ.length + 1)]) (by simp) rfl e1)
  by_cases ho : (ren st.2 l).isOp = true
  · cases et : ren st.2 l with
    | op o a b =>
      rw [et] at e1 e2 hr first
      have ha := hr a (by simp [Ln.uses])
      have hb := hr b (by simp [Ln.uses])
      have e4 := shortened_eq (K := K) wk (o := o) (n := n) (k_lines st) (sh_at (by rw [I.l1]; exact ha)) (sh_at (by rw [I.l1]; exact hb)) hn
      have hk : kStep n st l = kPut st (.op o a b) (shortP o a b (numOf (st.1.getD a .tick)) (numOf (st.1.getD b .tick)) n) := by unfold kStep; rw [et]; rfl
      rw [hk]
      have second : ∀ s7 s8, dsSet 7 (dIfE (dTruth (dCall (S_is_op K) 1 (dCons (dVar 6) (dNil)))) (dCall (S_shortened K) 3 (dCons (dVar 6) (dCons (dVar 2) (dCons (dCall (S_ones K) 1 (dCons (dVar 1) (dNil))) (dNil))))) (dC .non)) [some (.sh m), some (.sh (.int n)), some (.sh (.mref μ.length)), some (.sh (.mref (μ.length + 1))), some (.sh (.int (i : Nat))), some (.sh l.d), some (.sh (Ln.op o a b).d), s7, s8] (kMu μ st) =
          some (.nx [some (.sh m), some (.sh (.int n)), some (.sh (.mref μ.length)), some (.sh (.mref (μ.length + 1))), some (.sh (.int (i : Nat))), some (.sh l.d), some (.sh (Ln.op o a b).d), some (.sh (shortP o a b (numOf (st.1.getD a .tick)) (numOf (st.1.getD b .tick)) n).dp), s8], kMu μ st) := fun s7 s8 => by
        refine set_is ?_
        rw [dIfE_ap, bind_ap, dTruth_ap, bind_ap, call_is (n := 1) (tl := dCons (dVar 6) dNil) (ds := [(Ln.op o a b).d]) (by simp) rfl e2]
        simp only [truth_bl, liftS_ap, Ln.isOp, if_true]
        refine call_is (ds := [(Ln.op o a b).d, .mref μ.length, .int (2 ^ n - 1)]) ?_ rfl e4
        simp [e3]
      generalize hs : shortP o a b (numOf (st.1.getD a .tick)) (numOf (st.1.getD b .tick)) n = sh at *
      have third : ∀ (s7 : D) (s8 : Option Sl), dsSet 8 (dVar 4) [some (.sh m), some (.sh (.int n)), some (.sh (.mref μ.length)), some (.sh (.mref (μ.length + 1))), some (.sh (.int (i : Nat))), some (.sh l.d), some (.sh (Ln.op o a b).d), some (.sh s7), s8] (kMu μ st) =
          some (.nx [some (.sh m), some (.sh (.int n)), some (.sh (.mref μ.length)), some (.sh (.mref (μ.length + 1))), some (.sh (.int (i : Nat))), some (.sh l.d), some (.sh (Ln.op o a b).d), some (.sh s7), some (.sh (.int (i : Nat)))], kMu μ st) := fun s7 s8 => by simp
      cases sh with
      | num v =>
        refine ⟨some (.sh (Ln.num v).d), some (.sh (Sh.num v).dp), some (.sh (.int (i : Nat))), seq_nx first (seq_nx (second _ _) (seq_nx (third _ _) (seq_nx (ρ1 := [some (.sh m), some (.sh (.int n)), some (.sh (.mref μ.length)), some (.sh (.mref (μ.length + 1))), some (.sh (.int (i : Nat))), some (.sh l.d), some (.sh (Ln.num v).d), some (.sh (Sh.num v).dp), some (.sh (.int (i : Nat)))]) (μ1 := kMu μ st) ?_ ?_)))⟩
        · refine if_y (μ1 := kMu μ st) (and_is (b1 := true) (b2 := true) (by simp [Sh.dp]) (by simp [Sh.dp])) ?_
          simp [Sh.dp, Ln.d]
        · have := fin (.num v) i (some (.sh (Sh.num v).dp))
          rw [this]
          simp [kPut, I.l2]
      | line c =>
        refine ⟨some (.sh (Ln.op o a b).d), some (.sh (Sh.line c).dp), some (.sh (.int (c : Nat))), seq_nx first (seq_nx (second _ _) (seq_nx (third _ _) (seq_nx (ρ1 := [some (.sh m), some (.sh (.int n)), some (.sh (.mref μ.length)), some (.sh (.mref (μ.length + 1))), some (.sh (.int (i : Nat))), some (.sh l.d), some (.sh (Ln.op o a b).d), some (.sh (Sh.line c).dp), some (.sh (.int (c : Nat)))]) (μ1 := kMu μ st) ?_ ?_)))⟩
        · refine if_n (μ1 := kMu μ st) (and_is (b1 := true) (b2 := false) (by simp [Sh.dp]) (by simp (decide := true) [Sh.dp])) ?_
          refine if_y (μ1 := kMu μ st) (by simp [Sh.dp]) ?_
          simp [Sh.dp]
        · have := fin (.op o a b) c (some (.sh (Sh.line c).dp))
          rw [this]
          simp [kPut]
      | no =>
        refine ⟨some (.sh (Ln.op o a b).d), some (.sh .non), some (.sh (.int (i : Nat))), seq_nx first (seq_nx (second _ _) (seq_nx (third _ _) (seq_nx (ρ1 := [some (.sh m), some (.sh (.int n)), some (.sh (.mref μ.length)), some (.sh (.mref (μ.length + 1))), some (.sh (.int (i : Nat))), some (.sh l.d), some (.sh (Ln.op o a b).d), some (.sh (.non)), some (.sh (.int (i : Nat)))]) (μ1 := kMu μ st) ?_ ?_)))⟩
        · refine if_n (μ1 := kMu μ st) ?_ ?_
          · rw [dAnd_ap, bind_ap]
            simp [Sh.dp]
          refine if_n (μ1 := kMu μ st) (by simp [Sh.dp]) ?_
          simp [Sh.dp]
        · have := fin (.op o a b) i (some (.sh .non))
          rw [this]
          simp [kPut, I.l2]
    | _ => rw [et] at ho; cases ho
  · have ho' : (ren st.2 l).isOp = false := by simpa using ho
    have hk : kStep n st l = kPut st (ren st.2 l) .no := by
      unfold kStep
      generalize ren st.2 l = t at *
      cases t <;> first | rfl | (exfalso; simp [Ln.isOp] at ho)
    rw [hk]
    rw [ho'] at e2
    refine ⟨some (.sh (ren st.2 l).d), some (.sh .non), some (.sh (.int (i : Nat))), seq_nx first (seq_nx (ρ1 := [some (.sh m), some (.sh (.int n)), some (.sh (.mref μ.length)), some (.sh (.mref (μ.length + 1))), some (.sh (.int (i : Nat))), some (.sh l.d), some (.sh (ren st.2 l).d), some (.sh .non), s8]) (μ1 := kMu μ st) ?_ (seq_nx (ρ1 := [some (.sh m), some (.sh (.int n)), some (.sh (.mref μ.length)), some (.sh (.mref (μ.length + 1))), some (.sh (.int (i : Nat))), some (.sh l.d), some (.sh (ren st.2 l).d), some (.sh .non), some (.sh (.int (i : Nat)))]) (μ1 := kMu μ st) (by simp) (seq_nx (ρ1 := [some (.sh m), some (.sh (.int n)), some (.sh (.mref μ.length)), some (.sh (.mref (μ.length + 1))), some (.sh (.int (i : Nat))), some (.sh l.d), some (.sh (ren st.2 l).d), some (.sh .non), some (.sh (.int (i : Nat)))]) (μ1 := kMu μ st) ?_ ?_)))⟩
    · refine set_is ?_
      rw [dIfE_ap, bind_ap, dTruth_ap, bind_ap, call_is (n := 1) (tl := dCons (dVar 6) dNil) (ds := [(ren st.2 l).d]) (by simp) rfl e2]
      simp
    · refine if_n (μ1 := kMu μ st) ?_ ?_
      · rw [dAnd_ap, bind_ap]
        simp
      refine if_n (μ1 := kMu μ st) (by simp) ?_
      simp
    · have := fin (ren st.2 l) i (some (.sh .non))
      rw [this]
      simp [kPut, I.l2]
end K56
set_option Elab.async false
set_option linter.all false
set_option maxRecDepth 100000
set_option maxHeartbeats 8000000
set_option autoImplicit false
namespace K56
open PySem PySem.Spec L2 DL
variable {K : Fg} {μ : Mu}
theorem wf_dead2 (w : Wf μ) : Wf (μ ++ [.dead, .dead]) := by
  have q := Wf.app (m := .dead) (Wf.app (m := .dead) w rfl) rfl
  rw [List.append_assoc] at q
  exact q
theorem rows_lines {ls : List Ln} : Rows2 (.lst (ls.map Ln.d)) μ ls (fun l => match l.d with
  | .tup ds => ds
  | _ => []) := Rows2.items Ln.d rfl fun l _ => by cases l <;> exact ⟨fun _ => rfl, rfl⟩
theorem ln_tup (l : Ln) : D.tup (match l.d with
  | .tup ds => ds
  | _ => []) = l.d := by cases l <;> rfl
theorem ln_low (n : Nat) (l : Ln) : D.lowAll n (match l.d with
  | .tup ds => ds
  | _ => []) = true := by
  have := low_ln (n := n) l
  rw [← ln_tup] at this
  exact this
/-- Middle(lines, marks) of frozen lists -/
theorem middle_is {tl : TL} {ρ : Rho} {μ0 : Mu} {ls : List Ln} {ms : List (List Nat)} (w : Wf μ) (ht : tl ρ μ0 = some (.ok [.lst (ls.map Ln.d), lM ms], μ)) (h1 : ls.length ≤ 1000) (h2 : ms.length ≤ 1000) :
    dMake (He.ga K "Middle") (S_Middle_init K) 3 tl ρ μ0 = some (.ok (mid K ls ms), μ) := by
  have q := middle_eq (K := K) (xs := ls) (ys := ms) (g' := fun m => dI m) w ht rows_lines (Rows2.items (fun m => D.lst (dI m)) rfl fun m _ => ⟨fun _ => rfl, rfl⟩) h1 h2 (fun n l _ => ln_low n l) (fun n m _ => low_ints m)
  rw [q]
  have e : (ls.map fun l => D.tup (match l.d with
    | .tup ds => ds
    | _ => [])) = ls.map Ln.d := List.map_congr_left fun l _ => ln_tup l
  rw [e]
theorem enum_at {ls : List Ln} {i : Nat} {d : D} (h : (enumD (ls.map Ln.d))[i]? = some d) : ∃ l, ls[i]? = some l ∧ d = .tup [.int (i : Nat), l.d] := by
  unfold enumD at h
  rw [List.getElem?_mapIdx, List.getElem?_map] at h
  cases e : ls[i]? with
  | none => rw [e] at h; cases h
  | some l => rw [e] at h; cases h; exact ⟨l, rfl, rfl⟩
theorem enum_len {ls : List Ln} : (enumD (ls.map Ln.d)).length = ls.length := by unfold enumD; simp
theorem kTo_len {n : Nat} {ls : List Ln} (h : okL ls) : (kTo n ls ls.length).1.length = ls.length ∧ (kTo n ls ls.length).2.length = ls.length := ⟨(kTo_inv h _ (Nat.le_refl _)).l1, (kTo_inv h _ (Nat.le_refl _)).l2⟩
theorem known_eq (w : Wf μ) {n : Nat} {ls : List Ln} {ms : List (List Nat)} (hn : n ≤ 60) (h : okL ls) (hl : ls.length < 1000) (hm : okM ls.length ms) (hs : ms.length ≤ 1000) :
    S_known K [mid K ls ms, .int (n : Int)] μ = some (.ok (mid K (kTo n ls ls.length).1 (renM (kTo n ls ls.length).2 ms)), μ) := by
  refine scope_ok (ν := [.dead, .dead]) ?_ (low_mid _ _) w
  refine run_rt ?_
  unfold B_known
  have ini : initR 9 [mid K ls ms, .int (n : Int)] = [some (.sh (mid K ls ms)), some (.sh (.int n)), none, none, none, none, none, none, none] := rfl
  rw [ini]
  refine seq_nx (ρ1 := [some (.sh (mid K ls ms)), some (.sh (.int n)), some (.sh (.mref μ.length)), none, none, none, none, none, none]) (μ1 := μ ++ [.lst []]) (by simp [sizeLine]) ?_
  refine seq_nx (ρ1 := [some (.sh (mid K ls ms)), some (.sh (.int n)), some (.sh (.mref μ.length)), some (.sh (.mref (μ.length + 1))), none, none, none, none, none]) (μ1 := kMu μ (kTo n ls 0)) (by simp [sizeLine, kTo]) ?_
  obtain ⟨ρ', μ', e1, ⟨s4, s5, s6, s7, s8, e2⟩, e3⟩ := for_inv (gt := gtTup 2 (gtCons (gtName 4) (gtCons (gtName 5) gtNil))) (tb := kBody K) (ds := enumD (ls.map Ln.d))
    (fun i ρ μ2 => (∃ s4 s5 s6 s7 s8, ρ = [some (.sh (mid K ls ms)), some (.sh (.int n)), some (.sh (.mref μ.length)), some (.sh (.mref (μ.length + 1))), s4, s5, s6, s7, s8]) ∧ μ2 = kMu μ (kTo n ls i)) (fun i d ρ μ2 hd hI => by
      obtain ⟨⟨s4, s5, s6, s7, s8, rfl⟩, rfl⟩ := hI
      obtain ⟨l, hl1, rfl⟩ := enum_at hd
      have hi : i < ls.length := (List.getElem?_eq_some_iff.mp hl1).1
      obtain ⟨t6, t7, t8, q⟩ := known_turn (K := K) w (kTo_inv (n := n) h i (by omega)) (h i l hl1) (by omega) hn (m := mid K ls ms) (s6 := s6) (s7 := s7) (s8 := s8)
      refine ⟨_, _, _, by simp, q, ⟨_, _, _, _, _, rfl⟩, ?_⟩
      rw [kTo_succ hl1]) (ρ := [some (.sh (mid K ls ms)), some (.sh (.int n)), some (.sh (.mref μ.length)), some (.sh (.mref (μ.length + 1))), none, none, none, none, none]) (μ := kMu μ (kTo n ls 0)) ⟨⟨_, _, _, _, _, rfl⟩, rfl⟩
  refine seq_nx (ρ1 := ρ') (μ1 := μ') ?_ ?_
  · simp [fld_lines]
    exact e1
  subst e2 e3
  rw [enum_len]
  obtain ⟨l1, l2⟩ := kTo_len (n := n) h
  generalize kTo n ls ls.length = st at *
  refine seq_nx (ρ1 := [some (.sh (mid K ls ms)), some (.sh (.int n)), some (.sh (.lst (st.1.map Ln.d))), some (.sh (.mref (μ.length + 1))), s4, s5, s6, s7, s8]) (μ1 := μ ++ [.dead, .lst (dI st.2)]) (by simp [dsFzM]) ?_
  refine seq_nx (ρ1 := [some (.sh (mid K ls ms)), some (.sh (.int n)), some (.sh (.lst (st.1.map Ln.d))), some (.sh (.lst (dI st.2))), s4, s5, s6, s7, s8]) (μ1 := μ ++ [.dead, .dead]) (by simp [dsFzM]) ?_
  refine ret_is (middle_is (wf_dead2 w) ?_ (by omega) (by simpa [renM] using hs))
  have q := marks_renamed_eq (K := K) (wf_dead2 w) (N := .lst (dI st.2)) (f := st.2) (ls := ls) (ms := ms) (.inr rfl) (by rw [l2]; exact hm) hs
  have q2 := call_is (n := 2) (tl := dCons (dVar 0) (dCons (dVar 3) dNil)) (ρ := [some (.sh (mid K ls ms)), some (.sh (.int n)), some (.sh (.lst (st.1.map Ln.d))), some (.sh (.lst (dI st.2))), s4, s5, s6, s7, s8]) (ds := [mid K ls ms, .lst (dI st.2)]) (by simp) rfl q
  rw [dCons_ap, bind_ap, dVar_ap]
  simp only [List.getElem?_cons_zero, List.getElem?_cons_succ, ret_ap, dCons_ap, bind_ap, q2, dNil_ap]
end K56
set_option Elab.async false
set_option linter.all false
set_option maxRecDepth 100000
set_option maxHeartbeats 8000000
set_option autoImplicit false
namespace K56
open PySem PySem.Spec L2 DL
variable {K : Fg} {μ : Mu}
abbrev lkBody (K : Fg) : TO' := dsSeq (dsSet 5 (dCall (S__law_renamed K) 2 (dCons (dIx (qVal (dIx (qVal (dVar 0)) (dC (.int 0)))) (dVar 4)) (dCons (dVar 3) (dNil))))) (dsSeq (dsSet 6 (dVar 4)) (dsSeq (dsIf (dTest (dIn false (dIx (qVal (dVar 5)) (dC (.int 0))) (qVal (dCall0 (S__law_ops K))))) (dsSeq (dsSet 7 (dCall (S__law_shorter K) 3 (dCons (dVar 5) (dCons (dVar 2) (dCons (dVar 1) (dNil)))))) (dsIf (dTest (dBin gEq (dIx (qVal (dVar 7)) (dC (.int 0))) (dC (.str "num")))) (dsSet 5 (dTup (dCons (dC (.str "num")) (dCons (dIx (qVal (dVar 7)) (dC (.int 1))) (dNil))))) (dsIf (dTest (dBin gEq (dIx (qVal (dVar 7)) (dC (.int 0))) (dC (.str "line")))) (dsSet 6 (dIx (qVal (dVar 7)) (dC (.int 1)))) (dsNext)))) (dsNext)) (dsSeq (dsAppM (dVar 2) (dVar 5)) (dsAppM (dVar 3) (dVar 6)))))
/-- is a line an op: the law's test -/
theorem law_isop (w : Wf μ) (t : Ln) {ρ : Rho} {i : Nat} (h : ρ[i]? = some (some (.sh t.d))) : dTest (dIn false (dIx (qVal (dVar i)) (dC (.int 0))) (qVal (dCall0 (S__law_ops K)))) ρ μ = some (.ok t.isOp, μ) := by
  obtain ⟨n, r, e, h1, h2⟩ := inOps t
  rw [e] at h
  simp [h, law_ops_eq w, h1]
theorem law_known_turn (w : Wf μ) {st : List Ln × List Nat} {i n : Nat} {l : Ln} {ls : List Ln} {ms : List (List Nat)} (I : KInv st i) (hli : ls[i]? = some l) (hl : l.ok i) (hi : i < 1000) (hn : n ≤ 60) {s5 s6 s7 : Option Sl} :
    ∃ t5 t6 t7, lkBody K [some (.sh (row ls ms)), some (.sh (.int n)), some (.sh (.mref μ.length)), some (.sh (.mref (μ.length + 1))), some (.sh (.int (i : Nat))), s5, s6, s7] (kMu μ st) = some (.nx [some (.sh (row ls ms)), some (.sh (.int n)), some (.sh (.mref μ.length)), some (.sh (.mref (μ.length + 1))), some (.sh (.int (i : Nat))), t5, t6, t7], kMu μ (kStep n st l)) := by
  have wk := wf_k w st
  have hr := ren_ok hl I.le
  have e1 := law_renamed_eq (K := K) wk l (k_names st) (by rw [I.l2]; exact hl)
  have at0 := atI_lines hli
  have fin : ∀ (t : Ln) (c : Nat) (s7 : Option Sl), dsSeq (dsAppM (dVar 2) (dVar 5)) (dsAppM (dVar 3) (dVar 6)) [some (.sh (row ls ms)), some (.sh (.int n)), some (.sh (.mref μ.length)), some (.sh (.mref (μ.length + 1))), some (.sh (.int (i : Nat))), some (.sh t.d), some (.sh (.int (c : Nat))), s7] (kMu μ st) =
      some (.nx [some (.sh (row ls ms)), some (.sh (.int n)), some (.sh (.mref μ.length)), some (.sh (.mref (μ.length + 1))), some (.sh (.int (i : Nat))), some (.sh t.d), some (.sh (.int (c : Nat))), s7], kMu μ (st.1 ++ [t], st.2 ++ [c])) := fun t c s7 =>
    seq_nx (k_app1 (by rw [I.l1]; exact hi) rfl rfl) (k_app2 (by show st.2.length < 1000; rw [I.l2]; exact hi) rfl rfl)
  have first := set_is (i := 5) (ρ := [some (.sh (row ls ms)), some (.sh (.int n)), some (.sh (.mref μ.length)), some (.sh (.mref (μ.length + 1))), some (.sh (.int (i : Nat))), s5, s6, s7]) (call_is (n := 2) (tl := dCons (dIx (qVal (dIx (qVal (dVar 0)) (dC (.int 0)))) (dVar 4)) (dCons (dVar 3) dNil)) (ds := [l.d, .mref (μ.length + 1)]) (by simp [at0]) rfl e1)
  have second : ∀ s6 : Option Sl, dsSet 6 (dVar 4) [some (.sh (row ls ms)), some (.sh (.int n)), some (.sh (.mref μ.length)), some (.sh (.mref (μ.length + 1))), some (.sh (.int (i : Nat))), some (.sh (ren st.2 l).d), s6, s7] (kMu μ st) =
      some (.nx [some (.sh (row ls ms)), some (.sh (.int n)), some (.sh (.mref μ.length)), some (.sh (.mref (μ.length + 1))), some (.sh (.int (i : Nat))), some (.sh (ren st.2 l).d), some (.sh (.int (i : Nat))), s7], kMu μ st) := fun s6 => by simp
  have third := law_isop (K := K) wk (ren st.2 l) (ρ := [some (.sh (row ls ms)), some (.sh (.int n)), some (.sh (.mref μ.length)), some (.sh (.mref (μ.length + 1))), some (.sh (.int (i : Nat))), some (.sh (ren st.2 l).d), some (.sh (.int (i : Nat))), s7]) (i := 5) rfl
  by_cases ho : (ren st.2 l).isOp = true
  · rw [ho] at third
    cases et : ren st.2 l with
    | op o a b =>
      rw [et] at hr first second third
      have ha := hr a (by simp [Ln.uses])
      have hb := hr b (by simp [Ln.uses])
      have e4 := law_shorter_eq (K := K) wk (o := o) (n := n) (k_lines st) (sh_at (by rw [I.l1]; exact ha)) (sh_at (by rw [I.l1]; exact hb)) hn
      rw [short_same] at e4
      have hk : kStep n st l = kPut st (.op o a b) (shortP o a b (numOf (st.1.getD a .tick)) (numOf (st.1.getD b .tick)) n) := by unfold kStep; rw [et]; rfl
      rw [hk]
      have fourth : dsSet 7 (dCall (S__law_shorter K) 3 (dCons (dVar 5) (dCons (dVar 2) (dCons (dVar 1) (dNil))))) [some (.sh (row ls ms)), some (.sh (.int n)), some (.sh (.mref μ.length)), some (.sh (.mref (μ.length + 1))), some (.sh (.int (i : Nat))), some (.sh (Ln.op o a b).d), some (.sh (.int (i : Nat))), s7] (kMu μ st) =
          some (.nx [some (.sh (row ls ms)), some (.sh (.int n)), some (.sh (.mref μ.length)), some (.sh (.mref (μ.length + 1))), some (.sh (.int (i : Nat))), some (.sh (Ln.op o a b).d), some (.sh (.int (i : Nat))), some (.sh (shortP o a b (numOf (st.1.getD a .tick)) (numOf (st.1.getD b .tick)) n).dl)], kMu μ st) :=
        set_is (call_is (ds := [(Ln.op o a b).d, .mref μ.length, .int n]) (by simp) rfl e4)
      generalize hs : shortP o a b (numOf (st.1.getD a .tick)) (numOf (st.1.getD b .tick)) n = sh at *
      cases sh with
      | num v =>
        refine ⟨some (.sh (Ln.num v).d), some (.sh (.int (i : Nat))), some (.sh (Sh.num v).dl), seq_nx first (seq_nx (second _) (seq_nx (ρ1 := [some (.sh (row ls ms)), some (.sh (.int n)), some (.sh (.mref μ.length)), some (.sh (.mref (μ.length + 1))), some (.sh (.int (i : Nat))), some (.sh (Ln.num v).d), some (.sh (.int (i : Nat))), some (.sh (Sh.num v).dl)]) (μ1 := kMu μ st) (if_y third (seq_nx fourth (if_y (μ1 := kMu μ st) (by simp [Sh.dl]) (by simp [Sh.dl, Ln.d, sizeLine])))) ?_))⟩
        have := fin (.num v) i (some (.sh (Sh.num v).dl))
        rw [this]
        simp [kPut, I.l2]
      | line c =>
        refine ⟨some (.sh (Ln.op o a b).d), some (.sh (.int (c : Nat))), some (.sh (Sh.line c).dl), seq_nx first (seq_nx (second _) (seq_nx (ρ1 := [some (.sh (row ls ms)), some (.sh (.int n)), some (.sh (.mref μ.length)), some (.sh (.mref (μ.length + 1))), some (.sh (.int (i : Nat))), some (.sh (Ln.op o a b).d), some (.sh (.int (c : Nat))), some (.sh (Sh.line c).dl)]) (μ1 := kMu μ st) (if_y third (seq_nx fourth (if_n (μ1 := kMu μ st) (by simp (decide := true) [Sh.dl]) (if_y (μ1 := kMu μ st) (by simp [Sh.dl]) (by simp [Sh.dl]))))) ?_))⟩
        have := fin (.op o a b) c (some (.sh (Sh.line c).dl))
        rw [this]
        simp [kPut]
      | no =>
        refine ⟨some (.sh (Ln.op o a b).d), some (.sh (.int (i : Nat))), some (.sh Sh.no.dl), seq_nx first (seq_nx (second _) (seq_nx (ρ1 := [some (.sh (row ls ms)), some (.sh (.int n)), some (.sh (.mref μ.length)), some (.sh (.mref (μ.length + 1))), some (.sh (.int (i : Nat))), some (.sh (Ln.op o a b).d), some (.sh (.int (i : Nat))), some (.sh Sh.no.dl)]) (μ1 := kMu μ st) (if_y third (seq_nx fourth (if_n (μ1 := kMu μ st) (by simp (decide := true) [Sh.dl]) (if_n (μ1 := kMu μ st) (by simp (decide := true) [Sh.dl]) (by simp [Sh.dl]))))) ?_))⟩
        have := fin (.op o a b) i (some (.sh Sh.no.dl))
        rw [this]
        simp [kPut, I.l2]
    | _ => rw [et] at ho; cases ho
  · have ho' : (ren st.2 l).isOp = false := by simpa using ho
    have hk : kStep n st l = kPut st (ren st.2 l) .no := by
      unfold kStep
      generalize ren st.2 l = t at *
      cases t <;> first | rfl | (exfalso; simp [Ln.isOp] at ho)
    rw [hk]
    rw [ho'] at third
    refine ⟨some (.sh (ren st.2 l).d), some (.sh (.int (i : Nat))), s7, seq_nx first (seq_nx (second _) (seq_nx (if_n third rfl) ?_))⟩
    have := fin (ren st.2 l) i s7
    rw [this]
    simp [kPut, I.l2]
theorem low_row {n : Nat} (ls : List Ln) (ms : List (List Nat)) : (row ls ms).low n = true := by
  show (D.low n (.lst (ls.map Ln.d)) && (D.low n (lM ms) && true)) = true
  rw [low_lM]
  show (D.lowAll n (ls.map Ln.d) && true) = true
  rw [low_all Ln.d low_ln]
  rfl
theorem rng_at {m i : Nat} {d : D} (h : (rangeD 0 m)[i]? = some d) : i < m ∧ d = .int (i : Nat) := by
  unfold rangeD at h
  rw [List.getElem?_map] at h
  obtain ⟨j, h1, rfl⟩ := Option.map_eq_some_iff.mp h
  have hlt := (List.getElem?_eq_some_iff.mp h1).1
  rw [List.length_range] at hlt
  rw [List.getElem?_range hlt] at h1
  cases h1
  exact ⟨hlt, by simp⟩
theorem rng_len {m : Nat} : (rangeD 0 m).length = m := by unfold rangeD; simp
end K56
set_option Elab.async false
set_option linter.all false
set_option maxRecDepth 100000
set_option maxHeartbeats 8000000
set_option autoImplicit false
namespace K56
open PySem PySem.Spec L2 DL
variable {K : Fg} {μ : Mu}
theorem rng1_is {t : TD} {ρ : Rho} {m : Nat} (h : t ρ μ = some (.ok (.int (m : Int)), μ)) (hm : m < 1000000) : dRng1 t ρ μ = some (.ok (rangeD 0 m), μ) := by
  rw [dRng1_ap, bind_ap, h]
  have h1 : (-(2 ^ 62) : Int) ≤ (m : Int) := Int.le_trans (by decide) (Int.natCast_nonneg m)
  have h2 : (m : Int) < 2 ^ 62 := Int.lt_trans (Int.ofNat_lt.mpr hm) (by decide)
  show (if -(2 ^ 62) ≤ (m : Int) ∧ (m : Int) < 2 ^ 62 then M.ret (rangeD 0 (m : Int).toNat) else M.stuck) μ = _
  rw [if_pos ⟨h1, h2⟩, Int.toNat_natCast]
  rfl
theorem for_is {tl : TL} {gt : D → Rho → Option Rho} {tb : TO'} {ρ : Rho} {ds : List D} {r : Option (Out × Mu)} {μ1 : Mu} (h : tl ρ μ = some (.ok ds, μ1)) (h2 : forL gt tb ds ρ μ1 = r) : dsFor tl gt tb ρ μ = r := by
  rw [dsFor_ap, dsE_ap, h]
  exact h2
theorem law_known_eq (w : Wf μ) {n : Nat} {ls : List Ln} {ms : List (List Nat)} (hn : n ≤ 60) (h : okL ls) (hl : ls.length < 1000) (hm : okM ls.length ms) (hs : ms.length ≤ 1000) :
    S__law_known K [row ls ms, .int (n : Int)] μ = some (.ok (row (kTo n ls ls.length).1 (renM (kTo n ls ls.length).2 ms)), μ) := by
  refine scope_ok (ν := [.dead, .dead]) ?_ (low_row _ _) w
  refine run_rt ?_
  unfold B__law_known
  have ini : initR 8 [row ls ms, .int (n : Int)] = [some (.sh (row ls ms)), some (.sh (.int n)), none, none, none, none, none, none] := rfl
  rw [ini]
  refine seq_nx (ρ1 := [some (.sh (row ls ms)), some (.sh (.int n)), some (.sh (.mref μ.length)), none, none, none, none, none]) (μ1 := μ ++ [.lst []]) (by simp [sizeLine]) ?_
  refine seq_nx (ρ1 := [some (.sh (row ls ms)), some (.sh (.int n)), some (.sh (.mref μ.length)), some (.sh (.mref (μ.length + 1))), none, none, none, none]) (μ1 := kMu μ (kTo n ls 0)) (by simp [sizeLine, kTo]) ?_
  obtain ⟨ρ', μ', e1, ⟨s4, s5, s6, s7, e2⟩, e3⟩ := for_inv (gt := gtName 4) (tb := lkBody K) (ds := rangeD 0 ls.length)
    (fun i ρ μ2 => (∃ s4 s5 s6 s7, ρ = [some (.sh (row ls ms)), some (.sh (.int n)), some (.sh (.mref μ.length)), some (.sh (.mref (μ.length + 1))), s4, s5, s6, s7]) ∧ μ2 = kMu μ (kTo n ls i)) (fun i d ρ μ2 hd hI => by
      obtain ⟨⟨s4, s5, s6, s7, rfl⟩, rfl⟩ := hI
      obtain ⟨hi, rfl⟩ := rng_at hd
      have hl1 : ls[i]? = some ls[i] := List.getElem?_eq_getElem hi
      obtain ⟨t5, t6, t7, q⟩ := law_known_turn (K := K) w (ms := ms) (kTo_inv (n := n) h i (by omega)) hl1 (h i _ hl1) (by omega) hn (s5 := s5) (s6 := s6) (s7 := s7)
      refine ⟨_, _, _, by simp, q, ⟨_, _, _, _, rfl⟩, ?_⟩
      rw [kTo_succ hl1]) (ρ := [some (.sh (row ls ms)), some (.sh (.int n)), some (.sh (.mref μ.length)), some (.sh (.mref (μ.length + 1))), none, none, none, none]) (μ := kMu μ (kTo n ls 0)) ⟨⟨_, _, _, _, rfl⟩, rfl⟩
  refine seq_nx (ρ1 := ρ') (μ1 := μ') ?_ ?_
  · exact for_is (rng1_is (m := ls.length) (by simp) (by omega)) e1
  subst e2 e3
  rw [rng_len]
  obtain ⟨l1, l2⟩ := kTo_len (n := n) h
  generalize kTo n ls ls.length = st at *
  refine seq_nx (ρ1 := [some (.sh (row ls ms)), some (.sh (.int n)), some (.sh (.lst (st.1.map Ln.d))), some (.sh (.mref (μ.length + 1))), s4, s5, s6, s7]) (μ1 := μ ++ [.dead, .lst (dI st.2)]) (by simp [dsFzM]) ?_
  refine seq_nx (ρ1 := [some (.sh (row ls ms)), some (.sh (.int n)), some (.sh (.lst (st.1.map Ln.d))), some (.sh (.lst (dI st.2))), s4, s5, s6, s7]) (μ1 := μ ++ [.dead, .dead]) (by simp [dsFzM]) ?_
  refine ret_is ?_
  have q := law_marks_renamed_eq (K := K) (wf_dead2 w) (N := .lst (dI st.2)) (f := st.2) (ms := ms) (.inr rfl) (by rw [l2]; exact hm) hs
  have q2 := call_is (n := 2) (tl := dCons (dIx (qVal (dVar 0)) (dC (.int 1))) (dCons (dVar 3) dNil)) (ρ := [some (.sh (row ls ms)), some (.sh (.int n)), some (.sh (.lst (st.1.map Ln.d))), some (.sh (.lst (dI st.2))), s4, s5, s6, s7]) (ds := [lM ms, .lst (dI st.2)]) (by simp) rfl q
  rw [dFz_ap, bind_ap, dLst_ap, bind_ap, dCons_ap, bind_ap, dVar_ap]
  simp only [List.getElem?_cons_zero, List.getElem?_cons_succ, ret_ap, dCons_ap, bind_ap, q2, dNil_ap]
  simp [sizeLine]
end K56
set_option Elab.async false
set_option linter.all false
set_option maxRecDepth 100000
set_option maxHeartbeats 8000000
set_option autoImplicit false
namespace K56
open PySem PySem.Spec L2 DL
variable {K : Fg} {μ : Mu}
/-! ### once -/
def Ln.key : Ln → List Key
  | .get i => [.inr "get", .inl i]
  | .num i => [.inr "num", .inl i]
  | .op o a b => [.inr o.s, .inl a, .inl b]
  | .must a c => [.inr "must", .inl a, .inl c]
  | .keep a c => [.inr "keep", .inl a, .inl c]
  | .read a => [.inr "read", .inl a]
  | .write a b => [.inr "write", .inl a, .inl b]
  | .out k a => [.inr "out", .inl k, .inl a]
  | .inn k => [.inr "in", .inl k]
  | .tick => [.inr "tick"]
  | .fin => [.inr "end"]
theorem ln_key (l : Ln) : l.d.keyT = some l.key := by cases l <;> rfl
theorem key_inj (l m : Ln) : l.key = m.key ↔ l = m := by
  cases l <;> cases m <;> simp (decide := true) [Ln.key, op_s_inj, op_ne] <;> omega
/-- the first places of the plain lines so far -/
abbrev Fs := List (Ln × Nat)
def Fs.ks (fs : Fs) : List (List Key) := fs.map fun p => p.1.key
def Fs.ds (fs : Fs) : List D := fs.map fun p => D.int (p.2 : Int)
def Fs.find (fs : Fs) (t : Ln) : Option Nat := (fs.find? fun p => decide (p.1 = t)).map (·.2)
theorem fs_val (fs : Fs) (t : Ln) : valD (Fs.ks fs) (Fs.ds fs) t.key = (Fs.find fs t).map fun c : Nat => D.int (c : Int) := by
  unfold valD Fs.ks Fs.ds Fs.find
  induction fs with
  | nil => rfl
  | cons p fs ih =>
    rw [List.map_cons, List.map_cons, List.zip_cons_cons, List.find?_cons, List.find?_cons]
    by_cases h : p.1 = t
    · simp [h]
    · have h' : ¬ p.1.key = t.key := fun e => h ((key_inj _ _).mp e)
      simp only [h, h', decide_false]
      exact ih
theorem fs_mem (fs : Fs) (t : Ln) : t.key ∈ Fs.ks fs ↔ (Fs.find fs t).isSome = true := by
  unfold Fs.ks Fs.find
  rw [List.mem_map]
  constructor
  · rintro ⟨p, hp, e⟩
    have e' := (key_inj _ _).mp e
    rw [Option.isSome_map]
    rw [List.find?_isSome]
    exact ⟨p, hp, by simp [e']⟩
  · intro h
    rw [Option.isSome_map, List.find?_isSome] at h
    obtain ⟨p, hp, e⟩ := h
    exact ⟨p, hp, by rw [of_decide_eq_true e]⟩
theorem fs_put {fs : Fs} {t : Ln} {c : Nat} (h : Fs.find fs t = none) : putKs (Fs.ks fs) t.key = Fs.ks (fs ++ [(t, c)]) ∧ putVs (Fs.ks fs) (Fs.ds fs) t.key (.int (c : Int)) = Fs.ds (fs ++ [(t, c)]) := by
  have hm : ¬ t.key ∈ Fs.ks fs := fun z => by
    have := (fs_mem fs t).mp z
    rw [h] at this
    cases this
  unfold putKs putVs
  rw [if_neg hm, if_neg hm]
  simp [Fs.ks, Fs.ds]
/-- one turn: lines, names, first places -/
def oStep (st : (List Ln × List Nat) × Fs) (l : Ln) : (List Ln × List Nat) × Fs :=
  let t := ren st.1.2 l
  if (t.isNum || t.isOp) = true then match Fs.find st.2 t with
    | some c => ((st.1.1 ++ [t], st.1.2 ++ [c]), st.2)
    | none => ((st.1.1 ++ [t], st.1.2 ++ [st.1.2.length]), st.2 ++ [(t, st.1.2.length)])
  else ((st.1.1 ++ [t], st.1.2 ++ [st.1.2.length]), st.2)
def oTo (ls : List Ln) (i : Nat) : (List Ln × List Nat) × Fs := (ls.take i).foldl oStep (([], []), [])
theorem oTo_succ {ls : List Ln} {i : Nat} {l : Ln} (h : ls[i]? = some l) : oTo ls (i + 1) = oStep (oTo ls i) l := by
  obtain ⟨h1, h2⟩ := List.getElem?_eq_some_iff.mp h
  unfold oTo
  rw [List.take_succ_eq_append_getElem h1, List.foldl_append, h2]
  rfl
structure OInv (st : (List Ln × List Nat) × Fs) (i : Nat) : Prop extends KInv st.1 i where
  fle : ∀ p ∈ st.2, p.2 < i
  flen : st.2.length ≤ i
theorem oStep_inv {st : (List Ln × List Nat) × Fs} {i : Nat} {l : Ln} (I : OInv st i) (hl : l.ok i) : OInv (oStep st l) (i + 1) := by
  have hr := ren_ok hl I.le
  have base : ∀ (t : Ln) (c : Nat), t.ok i → c ≤ i → KInv (st.1.1 ++ [t], st.1.2 ++ [c]) (i + 1) := fun t c ht hc =>
    ⟨by simp [I.l1], by simp [I.l2], getD_snoc I.l2 I.le hc, okL_snoc I.ok (by rw [I.l1]; exact ht)⟩
  unfold oStep
  simp only
  split
  · cases e : Fs.find st.2 (ren st.1.2 l) with
    | some c =>
      obtain ⟨p, hp, rfl⟩ := Option.map_eq_some_iff.mp e
      have hlt := I.fle p (List.mem_of_find?_eq_some hp)
      exact ⟨base _ _ hr (by omega), fun q hq => by have := I.fle q hq; omega, Nat.le_succ_of_le I.flen⟩
    | none =>
      refine ⟨base _ _ hr (by rw [I.l2]; exact Nat.le_refl _), fun q hq => ?_, by simp; exact I.flen⟩
      rcases List.mem_append.mp hq with hq | hq
      · have := I.fle q hq; omega
      · rw [List.mem_singleton.mp hq]
        show st.1.2.length < i + 1
        rw [I.l2]; omega
  · exact ⟨base _ _ hr (by rw [I.l2]; exact Nat.le_refl _), fun q hq => by have := I.fle q hq; omega, Nat.le_succ_of_le I.flen⟩
theorem oTo_inv {ls : List Ln} (h : okL ls) : ∀ i, i ≤ ls.length → OInv (oTo ls i) i
  | 0, _ => ⟨⟨rfl, rfl, fun j hj => by omega, fun i l e => by cases e⟩, (fun p hp => by cases hp), Nat.le_refl _⟩
  | i + 1, hi => by
    have e : ls[i]? = some ls[i] := List.getElem?_eq_getElem (by omega)
    rw [oTo_succ e]
    exact oStep_inv (oTo_inv h i (by omega)) (h i _ e)
end K56
set_option Elab.async false
set_option linter.all false
set_option maxRecDepth 100000
set_option maxHeartbeats 8000000
set_option autoImplicit false
namespace K56
open PySem PySem.Spec L2 DL
variable {K : Fg} {μ : Mu}
abbrev oMu (μ : Mu) (st : (List Ln × List Nat) × Fs) : Mu := μ ++ [.lst (st.1.1.map Ln.d), .lst (dI st.1.2), .dt (Fs.ks st.2) (Fs.ds st.2)]
theorem low_fs {n : Nat} (fs : Fs) : D.lowAll n (Fs.ds fs) = true := low_all (fun p : Ln × Nat => D.int (p.2 : Int)) (fun _ => rfl) fs
theorem wf_o (w : Wf μ) (st : (List Ln × List Nat) × Fs) : Wf (oMu μ st) := by
  have w3 := Wf.app (m := .dt (Fs.ks st.2) (Fs.ds st.2)) (wf_k w st.1) (low_fs _)
  rw [List.append_assoc] at w3
  exact w3
theorem o_names (st : (List Ln × List Nat) × Fs) : Nums (.mref (μ.length + 1)) (oMu μ st) st.1.2 := .inl ⟨_, rfl, by simp⟩
theorem o_app1 {st : (List Ln × List Nat) × Fs} {t : Ln} (hl : st.1.1.length < 1000) {ρ : Rho} {i j : Nat} (h1 : ρ[i]? = some (some (.sh (.mref μ.length)))) (h2 : ρ[j]? = some (some (.sh t.d))) :
    dsAppM (dVar i) (dVar j) ρ (oMu μ st) = some (.nx ρ, oMu μ ((st.1.1 ++ [t], st.1.2), st.2)) := by
  have hz : st.1.1.length < sizeLine := by simp [sizeLine]; omega
  simp [h1, h2, hz]
/-- names.append(e), e a number, whatever e does to the first places -/
theorem o_app2 {st : (List Ln × List Nat) × Fs} {fs : Fs} {c : Nat} (hl : st.1.2.length < 1000) {ρ : Rho} {i : Nat} {te : TD} (h1 : ρ[i]? = some (some (.sh (.mref (μ.length + 1))))) (h2 : te ρ (oMu μ st) = some (.ok (.int (c : Int)), oMu μ (st.1, fs))) :
    dsAppM (dVar i) te ρ (oMu μ st) = some (.nx ρ, oMu μ ((st.1.1, st.1.2 ++ [c]), fs)) := by
  have hz : st.1.2.length < sizeLine := by simp [sizeLine]; omega
  have h2' := h2
  rw [dsAppM_ap, dsE_ap, dVar_ap, h1]
  simp only [ret_ap, muLst_mref]
  have e1 : (oMu μ st)[μ.length + 1]? = some (.lst (dI st.1.2)) := by simp
  have e2 : (oMu μ (st.1, fs))[μ.length + 1]? = some (.lst (dI st.1.2)) := by simp
  simp only [e1, dsE_ap, h2, e2, List.length_map, hz, if_true]
  simp
theorem setd_some {st : (List Ln × List Nat) × Fs} {t : Ln} {c n : Nat} (hf : Fs.find st.2 t = some c) (hl : st.2.length < 1000) {ρ : Rho} {i j k : Nat} (h1 : ρ[i]? = some (some (.sh (.mref (μ.length + 2))))) (h2 : ρ[j]? = some (some (.sh t.d))) (h3 : ρ[k]? = some (some (.sh (.int (n : Int))))) :
    dSetdT (dVar i) (dVar j) (dVar k) ρ (oMu μ st) = some (.ok (.int (c : Int)), oMu μ (st.1, st.2)) := by
  have e1 : (oMu μ st)[μ.length + 2]? = some (.dt (Fs.ks st.2) (Fs.ds st.2)) := by simp
  have e2 : isDt (.mref (μ.length + 2)) (oMu μ st) = true := by unfold isDt; simp only [e1]
  have e3 : (Fs.ds st.2).length < sizeLine := by simp [Fs.ds, sizeLine]; omega
  have e4 := fs_val st.2 t
  rw [hf] at e4
  rw [dSetdT_ap]
  simp only [bind_ap, dVar_ap, h1, h2, h3, ret_ap, e2, if_true, e1, ln_key, e3, e4, Option.map_some]
theorem setd_none {st : (List Ln × List Nat) × Fs} {t : Ln} {n : Nat} (hf : Fs.find st.2 t = none) (hl : st.2.length < 1000) {ρ : Rho} {i j k : Nat} (h1 : ρ[i]? = some (some (.sh (.mref (μ.length + 2))))) (h2 : ρ[j]? = some (some (.sh t.d))) (h3 : ρ[k]? = some (some (.sh (.int (n : Int))))) :
    dSetdT (dVar i) (dVar j) (dVar k) ρ (oMu μ st) = some (.ok (.int (n : Int)), oMu μ (st.1, st.2 ++ [(t, n)])) := by
  have e1 : (oMu μ st)[μ.length + 2]? = some (.dt (Fs.ks st.2) (Fs.ds st.2)) := by simp
  have e2 : isDt (.mref (μ.length + 2)) (oMu μ st) = true := by unfold isDt; simp only [e1]
  have e3 : (Fs.ds st.2).length < sizeLine := by simp [Fs.ds, sizeLine]; omega
  have e4 := fs_val st.2 t
  rw [hf] at e4
  obtain ⟨p1, p2⟩ := fs_put (c := n) hf
  rw [dSetdT_ap]
  simp only [bind_ap, dVar_ap, h1, h2, h3, ret_ap, e2, if_true, e1, ln_key, e3, e4, Option.map_none, p1, p2]
  simp
abbrev oBody (K : Fg) : TO' := dsSeq (dsSet 7 (dCall (S_renamed K) 2 (dCons (dVar 6) (dCons (dVar 3) (dNil))))) (dsSeq (dsSet 8 (dOrV (dBin gEq (dIx (qVal (dVar 7)) (dC (.int 0))) (dC (.str "num"))) (dCall (S_is_op K) 1 (dCons (dVar 7) (dNil))))) (dsSeq (dsAppM (dVar 3) (dIfE (dTruth (dVar 8)) (dSetdT (dVar 4) (dVar 7) (dVar 5)) (dVar 5))) (dsAppM (dVar 2) (dVar 7))))
theorem num_bool (t : Ln) : (numOf t).isSome = t.isNum := by cases t <;> rfl
theorem once_turn (w : Wf μ) {st : (List Ln × List Nat) × Fs} {i : Nat} {l : Ln} (I : OInv st i) (hl : l.ok i) (hi : i < 1000) {m n : D} {s7 s8 : Option Sl} :
    ∃ t7 t8, oBody K [some (.sh m), some (.sh n), some (.sh (.mref μ.length)), some (.sh (.mref (μ.length + 1))), some (.sh (.mref (μ.length + 2))), some (.sh (.int (i : Nat))), some (.sh l.d), s7, s8] (oMu μ st) = some (.nx [some (.sh m), some (.sh n), some (.sh (.mref μ.length)), some (.sh (.mref (μ.length + 1))), some (.sh (.mref (μ.length + 2))), some (.sh (.int (i : Nat))), some (.sh l.d), t7, t8], oMu μ (oStep st l)) := by
  have wo := wf_o w st
  have e1 := renamed_eq (K := K) wo l (o_names st) (by rw [I.l2]; exact hl)
  have e2 := is_op_eq (K := K) wo (ren st.1.2 l)
  have hfl : st.2.length < 1000 := Nat.lt_of_le_of_lt I.flen hi
  have first := set_is (i := 7) (ρ := [some (.sh m), some (.sh n), some (.sh (.mref μ.length)), some (.sh (.mref (μ.length + 1))), some (.sh (.mref (μ.length + 2))), some (.sh (.int (i : Nat))), some (.sh l.d), s7, s8]) (call_is (n := 2) (tl := dCons (dVar 6) (dCons (dVar 3) dNil)) (ds := [l.d, .mref (μ.length + 1)]) (by simp) rfl e1)
  have second : ∀ s8, dsSet 8 (dOrV (dBin gEq (dIx (qVal (dVar 7)) (dC (.int 0))) (dC (.str "num"))) (dCall (S_is_op K) 1 (dCons (dVar 7) (dNil)))) [some (.sh m), some (.sh n), some (.sh (.mref μ.length)), some (.sh (.mref (μ.length + 1))), some (.sh (.mref (μ.length + 2))), some (.sh (.int (i : Nat))), some (.sh l.d), some (.sh (ren st.1.2 l).d), s8] (oMu μ st) =
      some (.nx [some (.sh m), some (.sh n), some (.sh (.mref μ.length)), some (.sh (.mref (μ.length + 1))), some (.sh (.mref (μ.length + 2))), some (.sh (.int (i : Nat))), some (.sh l.d), some (.sh (ren st.1.2 l).d), some (.sh (.bl ((ren st.1.2 l).isNum || (ren st.1.2 l).isOp)))], oMu μ st) := fun s8 => by
    refine set_is ?_
    generalize ren st.1.2 l = t at *
    have q := call_is (n := 1) (tl := dCons (dVar 7) dNil) (ρ := [some (.sh m), some (.sh n), some (.sh (.mref μ.length)), some (.sh (.mref (μ.length + 1))), some (.sh (.mref (μ.length + 2))), some (.sh (.int (i : Nat))), some (.sh l.d), some (.sh t.d), s8]) (ds := [t.d]) (by simp) rfl e2
    rw [dOrV_ap, bind_ap]
    rcases ln_num t with ⟨v, rfl⟩ | ⟨tt, r, ex, et, en, _⟩
    · simp [Ln.d, Ln.isNum]
    · have hn : t.isNum = false := by rw [← num_bool, en]; rfl
      rw [hn, Bool.false_or]
      rw [← q]
      simp only [dBin_ap, bind_ap, dIx_ap, qVal_ap, dVar_ap, dC_ap]
      simp [ex, et]
  by_cases hp : ((ren st.1.2 l).isNum || (ren st.1.2 l).isOp) = true
  · rw [hp] at second
    cases hf : Fs.find st.2 (ren st.1.2 l) with
    | some c =>
      have hk : oStep st l = ((st.1.1 ++ [ren st.1.2 l], st.1.2 ++ [c]), st.2) := by
        unfold oStep
        simp only [hp, if_true, hf]
      rw [hk]
      refine ⟨_, _, seq_nx first (seq_nx (second _) (seq_nx (o_app2 (fs := st.2) (c := c) (by rw [I.l2]; exact hi) rfl ?_) (o_app1 (t := ren st.1.2 l) (by show st.1.1.length < 1000; rw [I.l1]; exact hi) rfl rfl)))⟩
      rw [dIfE_ap, bind_ap, dTruth_ap, bind_ap]
      simp only [dVar_ap, List.getElem?_cons_zero, List.getElem?_cons_succ, ret_ap, truth_bl, liftS_ap, if_true]
      exact setd_some hf hfl rfl rfl rfl
    | none =>
      have hk : oStep st l = ((st.1.1 ++ [ren st.1.2 l], st.1.2 ++ [i]), st.2 ++ [(ren st.1.2 l, i)]) := by
        unfold oStep
        simp only [hp, if_true, hf, I.l2]
      rw [hk]
      refine ⟨_, _, seq_nx first (seq_nx (second _) (seq_nx (o_app2 (fs := st.2 ++ [(ren st.1.2 l, i)]) (c := i) (by rw [I.l2]; exact hi) rfl ?_) (o_app1 (t := ren st.1.2 l) (by show st.1.1.length < 1000; rw [I.l1]; exact hi) rfl rfl)))⟩
      rw [dIfE_ap, bind_ap, dTruth_ap, bind_ap]
      simp only [dVar_ap, List.getElem?_cons_zero, List.getElem?_cons_succ, ret_ap, truth_bl, liftS_ap, if_true]
      exact setd_none hf hfl rfl rfl rfl
  · have hp' : ((ren st.1.2 l).isNum || (ren st.1.2 l).isOp) = false := by simpa using hp
    rw [hp'] at second
    have hk : oStep st l = ((st.1.1 ++ [ren st.1.2 l], st.1.2 ++ [i]), st.2) := by
      unfold oStep
      simp only [hp', Bool.false_eq_true, if_false, I.l2]
    rw [hk]
    refine ⟨_, _, seq_nx first (seq_nx (second _) (seq_nx (o_app2 (fs := st.2) (c := i) (by rw [I.l2]; exact hi) rfl ?_) (o_app1 (t := ren st.1.2 l) (by show st.1.1.length < 1000; rw [I.l1]; exact hi) rfl rfl)))⟩
    rw [dIfE_ap, bind_ap, dTruth_ap, bind_ap]
    simp
end K56
set_option Elab.async false
set_option linter.all false
set_option maxRecDepth 100000
set_option maxHeartbeats 8000000
set_option autoImplicit false
namespace K56
open PySem PySem.Spec L2 DL
variable {K : Fg} {μ : Mu}
theorem oTo_len {ls : List Ln} (h : okL ls) : (oTo ls ls.length).1.1.length = ls.length ∧ (oTo ls ls.length).1.2.length = ls.length := ⟨(oTo_inv h _ (Nat.le_refl _)).l1, (oTo_inv h _ (Nat.le_refl _)).l2⟩
theorem wf_dead2t (w : Wf μ) (fs : Fs) : Wf (μ ++ [.dead, .dead, .dt (Fs.ks fs) (Fs.ds fs)]) := by
  have q := Wf.app (m := .dt (Fs.ks fs) (Fs.ds fs)) (wf_dead2 w) (low_fs _)
  rw [List.append_assoc] at q
  exact q
theorem once_eq (w : Wf μ) {n : D} {ls : List Ln} {ms : List (List Nat)} (h : okL ls) (hl : ls.length < 1000) (hm : okM ls.length ms) (hs : ms.length ≤ 1000) :
    S_once K [mid K ls ms, n] μ = some (.ok (mid K (oTo ls ls.length).1.1 (renM (oTo ls ls.length).1.2 ms)), μ) := by
  refine scope_ok (ν := [.dead, .dead, .dt (Fs.ks (oTo ls ls.length).2) (Fs.ds (oTo ls ls.length).2)]) ?_ (low_mid _ _) w
  refine run_rt ?_
  unfold B_once
  have ini : initR 9 [mid K ls ms, n] = [some (.sh (mid K ls ms)), some (.sh n), none, none, none, none, none, none, none] := rfl
  rw [ini]
  refine seq_nx (ρ1 := [some (.sh (mid K ls ms)), some (.sh n), some (.sh (.mref μ.length)), none, none, none, none, none, none]) (μ1 := μ ++ [.lst []]) (by simp [sizeLine]) ?_
  refine seq_nx (ρ1 := [some (.sh (mid K ls ms)), some (.sh n), some (.sh (.mref μ.length)), some (.sh (.mref (μ.length + 1))), none, none, none, none, none]) (μ1 := μ ++ [.lst [], .lst []]) (by simp [sizeLine]) ?_
  refine seq_nx (ρ1 := [some (.sh (mid K ls ms)), some (.sh n), some (.sh (.mref μ.length)), some (.sh (.mref (μ.length + 1))), some (.sh (.mref (μ.length + 2))), none, none, none, none]) (μ1 := oMu μ (oTo ls 0)) (by simp [dNewT, oTo, Fs.ks, Fs.ds]) ?_
  obtain ⟨ρ', μ', e1, ⟨s5, s6, s7, s8, e2⟩, e3⟩ := for_inv (gt := gtTup 2 (gtCons (gtName 5) (gtCons (gtName 6) gtNil))) (tb := oBody K) (ds := enumD (ls.map Ln.d))
    (fun i ρ μ2 => (∃ s5 s6 s7 s8, ρ = [some (.sh (mid K ls ms)), some (.sh n), some (.sh (.mref μ.length)), some (.sh (.mref (μ.length + 1))), some (.sh (.mref (μ.length + 2))), s5, s6, s7, s8]) ∧ μ2 = oMu μ (oTo ls i)) (fun i d ρ μ2 hd hI => by
      obtain ⟨⟨s5, s6, s7, s8, rfl⟩, rfl⟩ := hI
      obtain ⟨l, hl1, rfl⟩ := enum_at hd
      have hi : i < ls.length := (List.getElem?_eq_some_iff.mp hl1).1
      obtain ⟨t7, t8, q⟩ := once_turn (K := K) w (oTo_inv h i (by omega)) (h i l hl1) (by omega) (m := mid K ls ms) (n := n) (s7 := s7) (s8 := s8)
      refine ⟨_, _, _, by simp, q, ⟨_, _, _, _, rfl⟩, ?_⟩
      rw [oTo_succ hl1]) (ρ := [some (.sh (mid K ls ms)), some (.sh n), some (.sh (.mref μ.length)), some (.sh (.mref (μ.length + 1))), some (.sh (.mref (μ.length + 2))), none, none, none, none]) (μ := oMu μ (oTo ls 0)) ⟨⟨_, _, _, _, rfl⟩, rfl⟩
  refine seq_nx (ρ1 := ρ') (μ1 := μ') ?_ ?_
  · simp [fld_lines]
    exact e1
  subst e2 e3
  rw [enum_len]
  obtain ⟨l1, l2⟩ := oTo_len h
  generalize oTo ls ls.length = st at *
  refine seq_nx (ρ1 := [some (.sh (mid K ls ms)), some (.sh n), some (.sh (.lst (st.1.1.map Ln.d))), some (.sh (.mref (μ.length + 1))), some (.sh (.mref (μ.length + 2))), s5, s6, s7, s8]) (μ1 := μ ++ [.dead, .lst (dI st.1.2), .dt (Fs.ks st.2) (Fs.ds st.2)]) (by simp [dsFzM]) ?_
  refine seq_nx (ρ1 := [some (.sh (mid K ls ms)), some (.sh n), some (.sh (.lst (st.1.1.map Ln.d))), some (.sh (.lst (dI st.1.2))), some (.sh (.mref (μ.length + 2))), s5, s6, s7, s8]) (μ1 := μ ++ [.dead, .dead, .dt (Fs.ks st.2) (Fs.ds st.2)]) (by simp [dsFzM]) ?_
  refine ret_is (middle_is (wf_dead2t w _) ?_ (by omega) (by simpa [renM] using hs))
  have q := marks_renamed_eq (K := K) (wf_dead2t w st.2) (N := .lst (dI st.1.2)) (f := st.1.2) (ls := ls) (ms := ms) (.inr rfl) (by rw [l2]; exact hm) hs
  have q2 := call_is (n := 2) (tl := dCons (dVar 0) (dCons (dVar 3) dNil)) (ρ := [some (.sh (mid K ls ms)), some (.sh n), some (.sh (.lst (st.1.1.map Ln.d))), some (.sh (.lst (dI st.1.2))), some (.sh (.mref (μ.length + 2))), s5, s6, s7, s8]) (ds := [mid K ls ms, .lst (dI st.1.2)]) (by simp) rfl q
  rw [dCons_ap, bind_ap, dVar_ap]
  simp only [List.getElem?_cons_zero, List.getElem?_cons_succ, ret_ap, dCons_ap, bind_ap, q2, dNil_ap]
end K56
set_option Elab.async false
set_option linter.all false
set_option maxRecDepth 100000
set_option maxHeartbeats 8000000
set_option autoImplicit false
namespace K56
open PySem PySem.Spec L2 DL
variable {K : Fg} {μ : Mu}
abbrev loBody (K : Fg) : TO' := dsSeq (dsSet 5 (dCall (S__law_renamed K) 2 (dCons (dIx (qVal (dIx (qVal (dVar 0)) (dC (.int 0)))) (dVar 4)) (dCons (dVar 2) (dNil))))) (dsSeq (dsSet 6 (dVar 4)) (dsSeq (dsIf (dOr (dTest (dBin gEq (dIx (qVal (dVar 5)) (dC (.int 0))) (dC (.str "num")))) (dTest (dIn false (dIx (qVal (dVar 5)) (dC (.int 0))) (qVal (dCall0 (S__law_ops K)))))) (dsIf (dTest (dDIn false (dVar 5) (dVar 3))) (dsSet 6 (dDGet (dVar 3) (dVar 5))) (dsDPut (dVar 4) (dVar 3) (dVar 5))) (dsNext)) (dsSeq (dsAppM (dVar 1) (dVar 5)) (dsAppM (dVar 2) (dVar 6)))))
theorem o_dget {st : (List Ln × List Nat) × Fs} {t : Ln} : dgetD (.mref (μ.length + 2)) t.d (oMu μ st) = some ((Fs.find st.2 t).map fun c : Nat => D.int (c : Int)) := by
  have e1 : (oMu μ st)[μ.length + 2]? = some (.dt (Fs.ks st.2) (Fs.ds st.2)) := by simp
  unfold dgetD
  simp only [e1, ln_key, Option.map_some, fs_val]
theorem law_once_turn (w : Wf μ) {st : (List Ln × List Nat) × Fs} {i : Nat} {l : Ln} {ls : List Ln} {ms : List (List Nat)} (I : OInv st i) (hli : ls[i]? = some l) (hl : l.ok i) (hi : i < 1000) {s5 s6 : Option Sl} :
    ∃ t5 t6, loBody K [some (.sh (row ls ms)), some (.sh (.mref μ.length)), some (.sh (.mref (μ.length + 1))), some (.sh (.mref (μ.length + 2))), some (.sh (.int (i : Nat))), s5, s6] (oMu μ st) = some (.nx [some (.sh (row ls ms)), some (.sh (.mref μ.length)), some (.sh (.mref (μ.length + 1))), some (.sh (.mref (μ.length + 2))), some (.sh (.int (i : Nat))), t5, t6], oMu μ (oStep st l)) := by
  have wo := wf_o w st
  have e1 := law_renamed_eq (K := K) wo l (o_names st) (by rw [I.l2]; exact hl)
  have at0 := atI_lines hli
  have hfl : st.2.length < 1000 := Nat.lt_of_le_of_lt I.flen hi
  have first := set_is (i := 5) (ρ := [some (.sh (row ls ms)), some (.sh (.mref μ.length)), some (.sh (.mref (μ.length + 1))), some (.sh (.mref (μ.length + 2))), some (.sh (.int (i : Nat))), s5, s6]) (call_is (n := 2) (tl := dCons (dIx (qVal (dIx (qVal (dVar 0)) (dC (.int 0)))) (dVar 4)) (dCons (dVar 2) dNil)) (ds := [l.d, .mref (μ.length + 1)]) (by simp [at0]) rfl e1)
  have second : dsSet 6 (dVar 4) [some (.sh (row ls ms)), some (.sh (.mref μ.length)), some (.sh (.mref (μ.length + 1))), some (.sh (.mref (μ.length + 2))), some (.sh (.int (i : Nat))), some (.sh (ren st.1.2 l).d), s6] (oMu μ st) =
      some (.nx [some (.sh (row ls ms)), some (.sh (.mref μ.length)), some (.sh (.mref (μ.length + 1))), some (.sh (.mref (μ.length + 2))), some (.sh (.int (i : Nat))), some (.sh (ren st.1.2 l).d), some (.sh (.int (i : Nat)))], oMu μ st) := by simp
  have third := or_is (num_tag (μ := oMu μ st) (ren st.1.2 l) (ρ := [some (.sh (row ls ms)), some (.sh (.mref μ.length)), some (.sh (.mref (μ.length + 1))), some (.sh (.mref (μ.length + 2))), some (.sh (.int (i : Nat))), some (.sh (ren st.1.2 l).d), some (.sh (.int (i : Nat)))]) (i := 5) rfl) (law_isop (K := K) wo (ren st.1.2 l) (i := 5) rfl)
  rw [num_bool] at third
  have a1 : ∀ (fs : Fs) (c : Nat), dsSeq (dsAppM (dVar 1) (dVar 5)) (dsAppM (dVar 2) (dVar 6)) [some (.sh (row ls ms)), some (.sh (.mref μ.length)), some (.sh (.mref (μ.length + 1))), some (.sh (.mref (μ.length + 2))), some (.sh (.int (i : Nat))), some (.sh (ren st.1.2 l).d), some (.sh (.int (c : Nat)))] (oMu μ (st.1, fs)) =
      some (.nx [some (.sh (row ls ms)), some (.sh (.mref μ.length)), some (.sh (.mref (μ.length + 1))), some (.sh (.mref (μ.length + 2))), some (.sh (.int (i : Nat))), some (.sh (ren st.1.2 l).d), some (.sh (.int (c : Nat)))], oMu μ ((st.1.1 ++ [ren st.1.2 l], st.1.2 ++ [c]), fs)) := fun fs c =>
    seq_nx (o_app1 (st := (st.1, fs)) (by show st.1.1.length < 1000; rw [I.l1]; exact hi) rfl rfl) (o_app2 (st := ((st.1.1 ++ [ren st.1.2 l], st.1.2), fs)) (fs := fs) (c := c) (by show st.1.2.length < 1000; rw [I.l2]; exact hi) rfl rfl)
  by_cases hp : ((ren st.1.2 l).isNum || (ren st.1.2 l).isOp) = true
  · rw [hp] at third
    have tst : dTest (dDIn false (dVar 5) (dVar 3)) [some (.sh (row ls ms)), some (.sh (.mref μ.length)), some (.sh (.mref (μ.length + 1))), some (.sh (.mref (μ.length + 2))), some (.sh (.int (i : Nat))), some (.sh (ren st.1.2 l).d), some (.sh (.int (i : Nat)))] (oMu μ st) = some (.ok (Fs.find st.2 (ren st.1.2 l)).isSome, oMu μ st) := by
      rw [dTest_ap, bind_ap, dDIn_ap]
      simp only [bind_ap, dVar_ap, List.getElem?_cons_zero, List.getElem?_cons_succ, ret_ap, o_dget]
      simp
    cases hf : Fs.find st.2 (ren st.1.2 l) with
    | some c =>
      have hk : oStep st l = ((st.1.1 ++ [ren st.1.2 l], st.1.2 ++ [c]), st.2) := by
        unfold oStep
        simp only [hp, if_true, hf]
      rw [hk]
      rw [hf] at tst
      have get : dsSet 6 (dDGet (dVar 3) (dVar 5)) [some (.sh (row ls ms)), some (.sh (.mref μ.length)), some (.sh (.mref (μ.length + 1))), some (.sh (.mref (μ.length + 2))), some (.sh (.int (i : Nat))), some (.sh (ren st.1.2 l).d), some (.sh (.int (i : Nat)))] (oMu μ st) =
          some (.nx [some (.sh (row ls ms)), some (.sh (.mref μ.length)), some (.sh (.mref (μ.length + 1))), some (.sh (.mref (μ.length + 2))), some (.sh (.int (i : Nat))), some (.sh (ren st.1.2 l).d), some (.sh (.int (c : Nat)))], oMu μ st) := by
        refine set_is ?_
        rw [dDGet_ap]
        simp only [bind_ap, dVar_ap, List.getElem?_cons_zero, List.getElem?_cons_succ, ret_ap, o_dget, hf, Option.map_some]
      exact ⟨_, _, seq_nx first (seq_nx second (seq_nx (if_y third (if_y tst get)) (a1 st.2 c)))⟩
    | none =>
      have hk : oStep st l = ((st.1.1 ++ [ren st.1.2 l], st.1.2 ++ [i]), st.2 ++ [(ren st.1.2 l, i)]) := by
        unfold oStep
        simp only [hp, if_true, hf, I.l2]
      rw [hk]
      rw [hf] at tst
      have put : dsDPut (dVar 4) (dVar 3) (dVar 5) [some (.sh (row ls ms)), some (.sh (.mref μ.length)), some (.sh (.mref (μ.length + 1))), some (.sh (.mref (μ.length + 2))), some (.sh (.int (i : Nat))), some (.sh (ren st.1.2 l).d), some (.sh (.int (i : Nat)))] (oMu μ st) =
          some (.nx [some (.sh (row ls ms)), some (.sh (.mref μ.length)), some (.sh (.mref (μ.length + 1))), some (.sh (.mref (μ.length + 2))), some (.sh (.int (i : Nat))), some (.sh (ren st.1.2 l).d), some (.sh (.int (i : Nat)))], oMu μ (st.1, st.2 ++ [(ren st.1.2 l, i)])) := by
        have e1 : (oMu μ st)[μ.length + 2]? = some (.dt (Fs.ks st.2) (Fs.ds st.2)) := by simp
        have e3 : (Fs.ds st.2).length < sizeLine := by simp [Fs.ds, sizeLine]; omega
        obtain ⟨p1, p2⟩ := fs_put (c := i) hf
        rw [dsDPut_ap]
        simp only [dsE_ap, dVar_ap, List.getElem?_cons_zero, List.getElem?_cons_succ, ret_ap, dputD, e1, ln_key, e3, if_true, p1, p2]
        simp
      exact ⟨_, _, seq_nx first (seq_nx second (seq_nx (if_y third (if_n tst put)) (a1 _ i)))⟩
  · have hp' : ((ren st.1.2 l).isNum || (ren st.1.2 l).isOp) = false := by simpa using hp
    rw [hp'] at third
    have hk : oStep st l = ((st.1.1 ++ [ren st.1.2 l], st.1.2 ++ [i]), st.2) := by
      unfold oStep
      simp only [hp', Bool.false_eq_true, if_false, I.l2]
    rw [hk]
    exact ⟨_, _, seq_nx first (seq_nx second (seq_nx (if_n third rfl) (a1 st.2 i)))⟩
end K56
set_option Elab.async false
set_option linter.all false
set_option maxRecDepth 100000
set_option maxHeartbeats 8000000
set_option autoImplicit false
namespace K56
open PySem PySem.Spec L2 DL
variable {K : Fg} {μ : Mu}
theorem law_once_eq (w : Wf μ) {ls : List Ln} {ms : List (List Nat)} (h : okL ls) (hl : ls.length < 1000) (hm : okM ls.length ms) (hs : ms.length ≤ 1000) :
    S__law_once K [row ls ms] μ = some (.ok (row (oTo ls ls.length).1.1 (renM (oTo ls ls.length).1.2 ms)), μ) := by
  refine scope_ok (ν := [.dead, .dead, .dt (Fs.ks (oTo ls ls.length).2) (Fs.ds (oTo ls ls.length).2)]) ?_ (low_row _ _) w
  refine run_rt ?_
  unfold B__law_once
  have ini : initR 7 [row ls ms] = [some (.sh (row ls ms)), none, none, none, none, none, none] := rfl
  rw [ini]
  refine seq_nx (ρ1 := [some (.sh (row ls ms)), some (.sh (.mref μ.length)), none, none, none, none, none]) (μ1 := μ ++ [.lst []]) (by simp [sizeLine]) ?_
  refine seq_nx (ρ1 := [some (.sh (row ls ms)), some (.sh (.mref μ.length)), some (.sh (.mref (μ.length + 1))), none, none, none, none]) (μ1 := μ ++ [.lst [], .lst []]) (by simp [sizeLine]) ?_
  refine seq_nx (ρ1 := [some (.sh (row ls ms)), some (.sh (.mref μ.length)), some (.sh (.mref (μ.length + 1))), some (.sh (.mref (μ.length + 2))), none, none, none]) (μ1 := oMu μ (oTo ls 0)) (by simp [dNewT, oTo, Fs.ks, Fs.ds]) ?_
  obtain ⟨ρ', μ', e1, ⟨s4, s5, s6, e2⟩, e3⟩ := for_inv (gt := gtName 4) (tb := loBody K) (ds := rangeD 0 ls.length)
    (fun i ρ μ2 => (∃ s4 s5 s6, ρ = [some (.sh (row ls ms)), some (.sh (.mref μ.length)), some (.sh (.mref (μ.length + 1))), some (.sh (.mref (μ.length + 2))), s4, s5, s6]) ∧ μ2 = oMu μ (oTo ls i)) (fun i d ρ μ2 hd hI => by
      obtain ⟨⟨s4, s5, s6, rfl⟩, rfl⟩ := hI
      obtain ⟨hi, rfl⟩ := rng_at hd
      have hl1 : ls[i]? = some ls[i] := List.getElem?_eq_getElem hi
      obtain ⟨t5, t6, q⟩ := law_once_turn (K := K) w (ms := ms) (oTo_inv h i (by omega)) hl1 (h i _ hl1) (by omega) (s5 := s5) (s6 := s6)
      refine ⟨_, _, _, by simp, q, ⟨_, _, _, rfl⟩, ?_⟩
      rw [oTo_succ hl1]) (ρ := [some (.sh (row ls ms)), some (.sh (.mref μ.length)), some (.sh (.mref (μ.length + 1))), some (.sh (.mref (μ.length + 2))), none, none, none]) (μ := oMu μ (oTo ls 0)) ⟨⟨_, _, _, rfl⟩, rfl⟩
  refine seq_nx (ρ1 := ρ') (μ1 := μ') ?_ ?_
  · exact for_is (rng1_is (m := ls.length) (by simp) (by omega)) e1
  subst e2 e3
  rw [rng_len]
  obtain ⟨l1, l2⟩ := oTo_len h
  generalize oTo ls ls.length = st at *
  refine seq_nx (ρ1 := [some (.sh (row ls ms)), some (.sh (.lst (st.1.1.map Ln.d))), some (.sh (.mref (μ.length + 1))), some (.sh (.mref (μ.length + 2))), s4, s5, s6]) (μ1 := μ ++ [.dead, .lst (dI st.1.2), .dt (Fs.ks st.2) (Fs.ds st.2)]) (by simp [dsFzM]) ?_
  refine seq_nx (ρ1 := [some (.sh (row ls ms)), some (.sh (.lst (st.1.1.map Ln.d))), some (.sh (.lst (dI st.1.2))), some (.sh (.mref (μ.length + 2))), s4, s5, s6]) (μ1 := μ ++ [.dead, .dead, .dt (Fs.ks st.2) (Fs.ds st.2)]) (by simp [dsFzM]) ?_
  refine ret_is ?_
  have q := law_marks_renamed_eq (K := K) (wf_dead2t w st.2) (N := .lst (dI st.1.2)) (f := st.1.2) (ms := ms) (.inr rfl) (by rw [l2]; exact hm) hs
  have q2 := call_is (n := 2) (tl := dCons (dIx (qVal (dVar 0)) (dC (.int 1))) (dCons (dVar 2) dNil)) (ρ := [some (.sh (row ls ms)), some (.sh (.lst (st.1.1.map Ln.d))), some (.sh (.lst (dI st.1.2))), some (.sh (.mref (μ.length + 2))), s4, s5, s6]) (ds := [lM ms, .lst (dI st.1.2)]) (by simp) rfl q
  rw [dFz_ap, bind_ap, dLst_ap, bind_ap, dCons_ap, bind_ap, dVar_ap]
  simp only [List.getElem?_cons_zero, List.getElem?_cons_succ, ret_ap, dCons_ap, bind_ap, q2, dNil_ap]
  simp [sizeLine]
/-! ### lines left -/
def lStep (st : List Ln × List Nat) (p : Ln × Bool) : List Ln × List Nat := (if p.2 = true then st.1 ++ [ren (st.2 ++ [st.1.length]) p.1] else st.1, st.2 ++ [st.1.length])
def lTo (ps : List (Ln × Bool)) (i : Nat) : List Ln × List Nat := (ps.take i).foldl lStep ([], [])
theorem lTo_succ {ps : List (Ln × Bool)} {i : Nat} {p : Ln × Bool} (h : ps[i]? = some p) : lTo ps (i + 1) = lStep (lTo ps i) p := by
  obtain ⟨h1, h2⟩ := List.getElem?_eq_some_iff.mp h
  unfold lTo
  rw [List.take_succ_eq_append_getElem h1, List.foldl_append, h2]
  rfl
end K56
set_option Elab.async false
set_option linter.all false
set_option maxRecDepth 100000
set_option maxHeartbeats 8000000
set_option autoImplicit false
namespace K56
open PySem PySem.Spec L2 DL
variable {K : Fg} {μ : Mu}
theorem lTo_len {ps : List (Ln × Bool)} : ∀ i, i ≤ ps.length → (lTo ps i).2.length = i ∧ (lTo ps i).1.length ≤ i
  | 0, _ => ⟨rfl, Nat.le_refl _⟩
  | i + 1, hi => by
    have e : ps[i]? = some ps[i] := List.getElem?_eq_getElem (by omega)
    obtain ⟨h1, h2⟩ := lTo_len (ps := ps) i (by omega)
    rw [lTo_succ e]
    unfold lStep
    refine ⟨by simp [h1], ?_⟩
    split
    · simp; omega
    · exact Nat.le_succ_of_le h2
/-- names.append(len(lines)) -/
theorem l_app {st : List Ln × List Nat} (h1 : st.1.length < 1000) (h2 : st.2.length < 1000) {ρ : Rho} {i j : Nat} (e1 : ρ[i]? = some (some (.sh (.mref (μ.length + 1))))) (e2 : ρ[j]? = some (some (.sh (.mref μ.length)))) :
    dsAppM (dVar i) (dLen (qVal (dVar j))) ρ (kMu μ st) = some (.nx ρ, kMu μ (st.1, st.2 ++ [st.1.length])) := by
  have hz : st.2.length < sizeLine := by simp [sizeLine]; omega
  simp [e1, e2, hz]
/-- lines.append(e), e a line -/
theorem l_put {st : List Ln × List Nat} {t : Ln} (h1 : st.1.length < 1000) {ρ : Rho} {i : Nat} {te : TD} (e1 : ρ[i]? = some (some (.sh (.mref μ.length)))) (e2 : te ρ (kMu μ st) = some (.ok t.d, kMu μ st)) :
    dsAppM (dVar i) te ρ (kMu μ st) = some (.nx ρ, kMu μ (st.1 ++ [t], st.2)) := by
  have hz : st.1.length < sizeLine := by simp [sizeLine]; omega
  have m1 : (kMu μ st)[μ.length]? = some (.lst (st.1.map Ln.d)) := by simp
  rw [dsAppM_ap, dsE_ap, dVar_ap, e1]
  simp only [ret_ap, muLst_mref, m1, dsE_ap, e2, List.length_map, hz, if_true]
  simp
abbrev llBody (K : Fg) : TO' := dsSeq (dsAppM (dVar 3) (dLen (qVal (dVar 2)))) (dsIf (dTruth (dVar 5)) (dsAppM (dVar 2) (dCall (S_renamed K) 2 (dCons (dVar 4) (dCons (dVar 3) (dNil))))) (dsNext))
theorem left_turn (w : Wf μ) {st : List Ln × List Nat} {i : Nat} {l : Ln} {b : Bool} (h1 : st.1.length ≤ i) (h2 : st.2.length = i) (hl : l.ok i) (hi : i < 1000) {m s : D} :
    llBody K [some (.sh m), some (.sh s), some (.sh (.mref μ.length)), some (.sh (.mref (μ.length + 1))), some (.sh l.d), some (.sh (.bl b))] (kMu μ st) = some (.nx [some (.sh m), some (.sh s), some (.sh (.mref μ.length)), some (.sh (.mref (μ.length + 1))), some (.sh l.d), some (.sh (.bl b))], kMu μ (lStep st (l, b))) := by
  have wk := wf_k w (st.1, st.2 ++ [st.1.length])
  have hl' : l.ok (st.2 ++ [st.1.length]).length := fun a ha => by
    have := hl a ha
    rw [List.length_append, List.length_singleton]
    omega
  have e1 := renamed_eq (K := K) wk l (k_names (st.1, st.2 ++ [st.1.length])) hl'
  refine seq_nx (l_app (by omega) (by omega) rfl rfl) ?_
  unfold lStep
  cases b with
  | true =>
    refine if_y (μ1 := kMu μ (st.1, st.2 ++ [st.1.length])) (by simp) ?_
    exact l_put (by show st.1.length < 1000; omega) rfl (call_is (n := 2) (tl := dCons (dVar 4) (dCons (dVar 3) dNil)) (ds := [l.d, .mref (μ.length + 1)]) (by simp) rfl e1)
  | false => exact if_n (μ1 := kMu μ (st.1, st.2 ++ [st.1.length])) (by simp) rfl
end K56
set_option Elab.async false
set_option linter.all false
set_option maxRecDepth 100000
set_option maxHeartbeats 8000000
set_option autoImplicit false
namespace K56
open PySem PySem.Spec L2 DL
variable {K : Fg} {μ : Mu}
abbrev lB (bs : List Bool) : D := .lst (bs.map D.bl)
theorem atI_lB {bs : List Bool} {i : Nat} {b : Bool} (h : bs[i]? = some b) : atI (bs.map D.bl) (i : Int) = some (.bl b) := by
  rw [DL.atI_nat, List.getElem?_map, h]
  rfl
abbrev lllBody (K : Fg) : TO' := dsSeq (dsAppM (dVar 3) (dLen (qVal (dVar 2)))) (dsIf (dTruth (dIx (qVal (dVar 1)) (dVar 4))) (dsAppM (dVar 2) (dCall (S__law_renamed K) 2 (dCons (dIx (qVal (dIx (qVal (dVar 0)) (dC (.int 0)))) (dVar 4)) (dCons (dVar 3) (dNil))))) (dsNext))
theorem law_left_turn (w : Wf μ) {st : List Ln × List Nat} {i : Nat} {l : Ln} {b : Bool} {ls : List Ln} {ms : List (List Nat)} {bs : List Bool} (h1 : st.1.length ≤ i) (h2 : st.2.length = i) (hli : ls[i]? = some l) (hbi : bs[i]? = some b) (hl : l.ok i) (hi : i < 1000) :
    lllBody K [some (.sh (row ls ms)), some (.sh (lB bs)), some (.sh (.mref μ.length)), some (.sh (.mref (μ.length + 1))), some (.sh (.int (i : Nat)))] (kMu μ st) = some (.nx [some (.sh (row ls ms)), some (.sh (lB bs)), some (.sh (.mref μ.length)), some (.sh (.mref (μ.length + 1))), some (.sh (.int (i : Nat)))], kMu μ (lStep st (l, b))) := by
  have wk := wf_k w (st.1, st.2 ++ [st.1.length])
  have hl' : l.ok (st.2 ++ [st.1.length]).length := fun a ha => by
    have := hl a ha
    rw [List.length_append, List.length_singleton]
    omega
  have e1 := law_renamed_eq (K := K) wk l (k_names (st.1, st.2 ++ [st.1.length])) hl'
  have at0 := atI_lines hli
  have at1 := atI_lB hbi
  refine seq_nx (l_app (by omega) (by omega) rfl rfl) ?_
  unfold lStep
  cases b with
  | true =>
    refine if_y (μ1 := kMu μ (st.1, st.2 ++ [st.1.length])) (by simp [at1]) ?_
    exact l_put (by show st.1.length < 1000; omega) rfl (call_is (n := 2) (tl := dCons (dIx (qVal (dIx (qVal (dVar 0)) (dC (.int 0)))) (dVar 4)) (dCons (dVar 3) dNil)) (ds := [l.d, .mref (μ.length + 1)]) (by simp [at0]) rfl e1)
  | false => exact if_n (μ1 := kMu μ (st.1, st.2 ++ [st.1.length])) (by simp [at1]) rfl
end K56
set_option Elab.async false
set_option linter.all false
set_option maxRecDepth 100000
set_option maxHeartbeats 8000000
set_option autoImplicit false
namespace K56
open PySem PySem.Spec L2 DL
variable {K : Fg} {μ : Mu}
theorem zip_at {ls : List Ln} {bs : List Bool} {i : Nat} {d : D} (h : (zipD (ls.map Ln.d) (bs.map D.bl))[i]? = some d) : ∃ l b, ls[i]? = some l ∧ bs[i]? = some b ∧ (ls.zip bs)[i]? = some (l, b) ∧ d = .tup [l.d, .bl b] := by
  unfold zipD at h
  rw [List.getElem?_zipWith, List.getElem?_map, List.getElem?_map] at h
  cases e1 : ls[i]? with
  | none => rw [e1] at h; cases h
  | some l =>
    cases e2 : bs[i]? with
    | none => rw [e1, e2] at h; cases h
    | some b =>
      rw [e1, e2] at h
      cases h
      refine ⟨l, b, rfl, rfl, ?_, rfl⟩
      rw [List.getElem?_zip_eq_some]
      exact ⟨e1, e2⟩
theorem zip_len' {ls : List Ln} {bs : List Bool} (h : bs.length = ls.length) : (zipD (ls.map Ln.d) (bs.map D.bl)).length = ls.length := by unfold zipD; simp [h]
theorem lines_left_eq (w : Wf μ) {ls : List Ln} {bs : List Bool} {ms : List (List Nat)} (h : okL ls) (hb : bs.length = ls.length) (hl : ls.length < 1000) (hm : okM ls.length ms) (hs : ms.length ≤ 1000) :
    S_lines_left K [mid K ls ms, lB bs] μ = some (.ok (mid K (lTo (ls.zip bs) ls.length).1 (renM (lTo (ls.zip bs) ls.length).2 ms)), μ) := by
  refine scope_ok (ν := [.dead, .dead]) ?_ (low_mid _ _) w
  refine run_rt ?_
  unfold B_lines_left
  have ini : initR 6 [mid K ls ms, lB bs] = [some (.sh (mid K ls ms)), some (.sh (lB bs)), none, none, none, none] := rfl
  rw [ini]
  have hz : (ls.zip bs).length = ls.length := by simp [hb]
  refine seq_nx (ρ1 := [some (.sh (mid K ls ms)), some (.sh (lB bs)), some (.sh (.mref μ.length)), none, none, none]) (μ1 := μ ++ [.lst []]) (by simp [sizeLine]) ?_
  refine seq_nx (ρ1 := [some (.sh (mid K ls ms)), some (.sh (lB bs)), some (.sh (.mref μ.length)), some (.sh (.mref (μ.length + 1))), none, none]) (μ1 := kMu μ (lTo (ls.zip bs) 0)) (by simp [sizeLine, lTo]) ?_
  obtain ⟨ρ', μ', e1, ⟨s4, s5, e2⟩, e3⟩ := for_inv (gt := gtTup 2 (gtCons (gtName 4) (gtCons (gtName 5) gtNil))) (tb := llBody K) (ds := zipD (ls.map Ln.d) (bs.map D.bl))
    (fun i ρ μ2 => (∃ s4 s5, ρ = [some (.sh (mid K ls ms)), some (.sh (lB bs)), some (.sh (.mref μ.length)), some (.sh (.mref (μ.length + 1))), s4, s5]) ∧ μ2 = kMu μ (lTo (ls.zip bs) i)) (fun i d ρ μ2 hd hI => by
      obtain ⟨⟨s4, s5, rfl⟩, rfl⟩ := hI
      obtain ⟨l, b, hl1, hb1, hp1, rfl⟩ := zip_at hd
      have hi : i < ls.length := (List.getElem?_eq_some_iff.mp hl1).1
      obtain ⟨z1, z2⟩ := lTo_len (ps := ls.zip bs) i (by omega)
      have q := left_turn (K := K) w (b := b) z2 z1 (h i l hl1) (by omega) (m := mid K ls ms) (s := lB bs)
      refine ⟨_, _, _, by simp, q, ⟨_, _, rfl⟩, ?_⟩
      rw [lTo_succ hp1]) (ρ := [some (.sh (mid K ls ms)), some (.sh (lB bs)), some (.sh (.mref μ.length)), some (.sh (.mref (μ.length + 1))), none, none]) (μ := kMu μ (lTo (ls.zip bs) 0)) ⟨⟨_, _, rfl⟩, rfl⟩
  refine seq_nx (ρ1 := ρ') (μ1 := μ') ?_ ?_
  · simp [fld_lines]
    exact e1
  subst e2 e3
  rw [zip_len' hb]
  obtain ⟨l2, l1⟩ := lTo_len (ps := ls.zip bs) ls.length (by omega)
  generalize lTo (ls.zip bs) ls.length = st at *
  refine seq_nx (ρ1 := [some (.sh (mid K ls ms)), some (.sh (lB bs)), some (.sh (.lst (st.1.map Ln.d))), some (.sh (.mref (μ.length + 1))), s4, s5]) (μ1 := μ ++ [.dead, .lst (dI st.2)]) (by simp [dsFzM]) ?_
  refine seq_nx (ρ1 := [some (.sh (mid K ls ms)), some (.sh (lB bs)), some (.sh (.lst (st.1.map Ln.d))), some (.sh (.lst (dI st.2))), s4, s5]) (μ1 := μ ++ [.dead, .dead]) (by simp [dsFzM]) ?_
  refine ret_is (middle_is (wf_dead2 w) ?_ (by omega) (by simpa [renM] using hs))
  have q := marks_renamed_eq (K := K) (wf_dead2 w) (N := .lst (dI st.2)) (f := st.2) (ls := ls) (ms := ms) (.inr rfl) (by rw [l2]; exact hm) hs
  have q2 := call_is (n := 2) (tl := dCons (dVar 0) (dCons (dVar 3) dNil)) (ρ := [some (.sh (mid K ls ms)), some (.sh (lB bs)), some (.sh (.lst (st.1.map Ln.d))), some (.sh (.lst (dI st.2))), s4, s5]) (ds := [mid K ls ms, .lst (dI st.2)]) (by simp) rfl q
  rw [dCons_ap, bind_ap, dVar_ap]
  simp only [List.getElem?_cons_zero, List.getElem?_cons_succ, ret_ap, dCons_ap, bind_ap, q2, dNil_ap]
end K56
set_option Elab.async false
set_option linter.all false
set_option maxRecDepth 100000
set_option maxHeartbeats 8000000
set_option autoImplicit false
namespace K56
open PySem PySem.Spec L2 DL
variable {K : Fg} {μ : Mu}
theorem law_lines_left_eq (w : Wf μ) {ls : List Ln} {bs : List Bool} {ms : List (List Nat)} (h : okL ls) (hb : bs.length = ls.length) (hl : ls.length < 1000) (hm : okM ls.length ms) (hs : ms.length ≤ 1000) :
    S__law_lines_left K [row ls ms, lB bs] μ = some (.ok (row (lTo (ls.zip bs) ls.length).1 (renM (lTo (ls.zip bs) ls.length).2 ms)), μ) := by
  refine scope_ok (ν := [.dead, .dead]) ?_ (low_row _ _) w
  refine run_rt ?_
  unfold B__law_lines_left
  have ini : initR 5 [row ls ms, lB bs] = [some (.sh (row ls ms)), some (.sh (lB bs)), none, none, none] := rfl
  rw [ini]
  have hz : (ls.zip bs).length = ls.length := by simp [hb]
  refine seq_nx (ρ1 := [some (.sh (row ls ms)), some (.sh (lB bs)), some (.sh (.mref μ.length)), none, none]) (μ1 := μ ++ [.lst []]) (by simp [sizeLine]) ?_
  refine seq_nx (ρ1 := [some (.sh (row ls ms)), some (.sh (lB bs)), some (.sh (.mref μ.length)), some (.sh (.mref (μ.length + 1))), none]) (μ1 := kMu μ (lTo (ls.zip bs) 0)) (by simp [sizeLine, lTo]) ?_
  obtain ⟨ρ', μ', e1, ⟨s4, e2⟩, e3⟩ := for_inv (gt := gtName 4) (tb := lllBody K) (ds := rangeD 0 ls.length)
    (fun i ρ μ2 => (∃ s4, ρ = [some (.sh (row ls ms)), some (.sh (lB bs)), some (.sh (.mref μ.length)), some (.sh (.mref (μ.length + 1))), s4]) ∧ μ2 = kMu μ (lTo (ls.zip bs) i)) (fun i d ρ μ2 hd hI => by
      obtain ⟨⟨s4, rfl⟩, rfl⟩ := hI
      obtain ⟨hi, rfl⟩ := rng_at hd
      have hl1 : ls[i]? = some ls[i] := List.getElem?_eq_getElem hi
      have hb1 : bs[i]? = some bs[i] := List.getElem?_eq_getElem (by omega)
      have hp1 : (ls.zip bs)[i]? = some (ls[i], bs[i]) := by rw [List.getElem?_zip_eq_some]; exact ⟨hl1, hb1⟩
      obtain ⟨z1, z2⟩ := lTo_len (ps := ls.zip bs) i (by omega)
      have q := law_left_turn (K := K) w (ms := ms) z2 z1 hl1 hb1 (h i _ hl1) (by omega)
      refine ⟨_, _, _, by simp, q, ⟨_, rfl⟩, ?_⟩
      rw [lTo_succ hp1]) (ρ := [some (.sh (row ls ms)), some (.sh (lB bs)), some (.sh (.mref μ.length)), some (.sh (.mref (μ.length + 1))), none]) (μ := kMu μ (lTo (ls.zip bs) 0)) ⟨⟨_, rfl⟩, rfl⟩
  refine seq_nx (ρ1 := ρ') (μ1 := μ') ?_ ?_
  · exact for_is (rng1_is (m := ls.length) (by simp) (by omega)) e1
  subst e2 e3
  rw [rng_len]
  obtain ⟨l2, l1⟩ := lTo_len (ps := ls.zip bs) ls.length (by omega)
  generalize lTo (ls.zip bs) ls.length = st at *
  refine seq_nx (ρ1 := [some (.sh (row ls ms)), some (.sh (lB bs)), some (.sh (.lst (st.1.map Ln.d))), some (.sh (.mref (μ.length + 1))), s4]) (μ1 := μ ++ [.dead, .lst (dI st.2)]) (by simp [dsFzM]) ?_
  refine seq_nx (ρ1 := [some (.sh (row ls ms)), some (.sh (lB bs)), some (.sh (.lst (st.1.map Ln.d))), some (.sh (.lst (dI st.2))), s4]) (μ1 := μ ++ [.dead, .dead]) (by simp [dsFzM]) ?_
  refine ret_is ?_
  have q := law_marks_renamed_eq (K := K) (wf_dead2 w) (N := .lst (dI st.2)) (f := st.2) (ms := ms) (.inr rfl) (by rw [l2]; exact hm) hs
  have q2 := call_is (n := 2) (tl := dCons (dIx (qVal (dVar 0)) (dC (.int 1))) (dCons (dVar 3) dNil)) (ρ := [some (.sh (row ls ms)), some (.sh (lB bs)), some (.sh (.lst (st.1.map Ln.d))), some (.sh (.lst (dI st.2))), s4]) (ds := [lM ms, .lst (dI st.2)]) (by simp) rfl q
  rw [dFz_ap, bind_ap, dLst_ap, bind_ap, dCons_ap, bind_ap, dVar_ap]
  simp only [List.getElem?_cons_zero, List.getElem?_cons_succ, ret_ap, dCons_ap, bind_ap, q2, dNil_ap]
  simp [sizeLine]
end K56
set_option Elab.async false
set_option linter.all false
set_option maxRecDepth 100000
set_option maxHeartbeats 8000000
set_option autoImplicit false
namespace K56
open PySem PySem.Spec L2 DL
variable {K : Fg} {μ : Mu}
/-- a line that always passes -/
def passes (ls : List Ln) : Ln → Bool
  | .must a _ => match numOf (ls.getD a .tick) with
    | some v => !decide (v = 0)
    | none => false
  | .keep a u => match numOf (ls.getD a .tick) with
    | some v => decide (v = u)
    | none => false
  | _ => false
theorem never_leaves_eq (w : Wf μ) {ls : List Ln} {l : Ln} (hl : l.ok ls.length) : S_never_leaves K [l.d, tL ls] μ = some (.ok (.bl (passes ls l)), μ) := by
  refine scope_ok0 ?_ rfl w
  refine run_rt ?_
  unfold B_never_leaves
  have ini : initR 3 [l.d, tL ls] = [some (.sh l.d), some (.sh (tL ls)), none] := rfl
  rw [ini]
  cases l with
  | must a c =>
    have e := atI_lines (sh_at (hl a (by simp [Ln.uses])))
    rcases ln_num (ls.getD a .tick) with ⟨v, ev⟩ | ⟨t, r, ex, et, en, _⟩
    · rw [ev] at e
      simp only [Ln.d] at e
      refine seq_nx (if_n (μ1 := μ) (by simp (decide := true) [Ln.d, e, inD, flats, D.flat, flatV, inV, eqV_str, sizeLine]) rfl) ?_
      refine seq_nx (set_is (d := .int v) (μ1 := μ) (by simp [Ln.d, e])) (ret_is ?_)
      simp only [passes, ev, numOf]
      simp [Ln.d]
    · rw [ex] at e
      simp only [passes, en]
      exact seq_rt (if_y (μ1 := μ) (by simp (decide := true) [Ln.d, e, et, inD, flats, D.flat, flatV, inV, eqV_str, sizeLine]) (ret_is (by simp)))
  | keep a u =>
    have e := atI_lines (sh_at (hl a (by simp [Ln.uses])))
    rcases ln_num (ls.getD a .tick) with ⟨v, ev⟩ | ⟨t, r, ex, et, en, _⟩
    · rw [ev] at e
      simp only [Ln.d] at e
      refine seq_nx (if_n (μ1 := μ) (by simp (decide := true) [Ln.d, e, inD, flats, D.flat, flatV, inV, eqV_str, sizeLine]) rfl) ?_
      refine seq_nx (set_is (d := .int v) (μ1 := μ) (by simp [Ln.d, e])) (ret_is ?_)
      simp only [passes, ev, numOf]
      simp (decide := true) [Ln.d]
    · rw [ex] at e
      simp only [passes, en]
      exact seq_rt (if_y (μ1 := μ) (by simp (decide := true) [Ln.d, e, et, inD, flats, D.flat, flatV, inV, eqV_str, sizeLine]) (ret_is (by simp)))
  | op o a b =>
    have q : inD (.str o.s) [.str "must", .str "keep"] = some false := by cases o <;> rfl
    exact seq_rt (if_y (μ1 := μ) (by simp [Ln.d, q, sizeLine]) (ret_is (by simp [passes])))
  | _ => exact seq_rt (if_y (μ1 := μ) (by simp (decide := true) [Ln.d, inD, flats, D.flat, flatV, inV, eqV_str, sizeLine]) (ret_is (by simp [passes])))
end K56
set_option Elab.async false
set_option linter.all false
set_option maxRecDepth 100000
set_option maxHeartbeats 8000000
set_option autoImplicit false
namespace K56
open PySem PySem.Spec L2 DL
variable {K : Fg} {μ : Mu}
def stays (ls : List Ln) : List Bool := ls.map fun l => !passes ls l
theorem spared_eq (w : Wf μ) {n : D} {ls : List Ln} {ms : List (List Nat)} (h : okL ls) (hl : ls.length < 1000) (hm : okM ls.length ms) (hs : ms.length ≤ 1000) :
    S_spared K [mid K ls ms, n] μ = some (.ok (mid K (lTo (ls.zip (stays ls)) ls.length).1 (renM (lTo (ls.zip (stays ls)) ls.length).2 ms)), μ) := by
  refine scope_ok0 ?_ (low_mid _ _) w
  refine run_rt ?_
  unfold B_spared
  have ini : initR 3 [mid K ls ms, n] = [some (.sh (mid K ls ms)), some (.sh n), none] := rfl
  rw [ini]
  refine ret_is (call_is (n := 2) (ds := [mid K ls ms, lB (stays ls)]) ?_ rfl (lines_left_eq w h (by simp [stays]) hl hm hs))
  have q := lc_all (vs := [2]) (gt := gtName 2) (te := dNotV (dCall (S_never_leaves K) 2 (dCons (dVar 2) (dCons (dFld [He.ga K "Middle"] "lines" (dVar 0)) (dNil))))) (ρ := [some (.sh (mid K ls ms)), some (.sh n), none]) (μ := μ) Ln.d (fun l => D.bl (!passes ls l)) ls (by simp [sizeLine]; omega) fun l hll => ⟨_, gtName_ap, by
    obtain ⟨i, hi1, hi2⟩ := List.mem_iff_getElem.mp hll
    have ok : l.ok ls.length := fun a ha => Nat.lt_trans (h i l (by rw [List.getElem?_eq_getElem hi1, hi2]) a ha) hi1
    have e := call_is (n := 2) (tl := dCons (dVar 2) (dCons (dFld [He.ga K "Middle"] "lines" (dVar 0)) dNil)) (ρ := [some (.sh (mid K ls ms)), some (.sh n), some (.sh l.d)]) (ds := [l.d, tL ls]) (by simp [fld_lines]) rfl (never_leaves_eq (K := K) w ok)
    show dNotV _ [some (.sh (mid K ls ms)), some (.sh n), some (.sh l.d)] μ = _
    rw [dNotV_ap, bind_ap, e]
    simp⟩
  have e2 : (stays ls).map D.bl = ls.map fun l => D.bl (!passes ls l) := by unfold stays; rw [List.map_map]; rfl
  rw [dCons_ap, bind_ap, dVar_ap]
  simp only [List.getElem?_cons_zero, ret_ap, dCons_ap, bind_ap, dFz_ap, dLc_ap, dIter_ap, dFld_ap, dVar_ap, insD_obj, List.mem_cons, true_or, if_true, fld_lines, items_tup, liftS_ap]
  simp [okW, q, e2]
end K56
set_option Elab.async false
set_option linter.all false
set_option maxRecDepth 100000
set_option maxHeartbeats 8000000
set_option autoImplicit false
namespace K56
open PySem PySem.Spec L2 DL
variable {K : Fg} {μ : Mu}
/-! ### == of lists -/
theorem eqv_lines : ∀ ls ms : List Ln, PyData.eqvAll (ls.map Ln.p) (ms.map Ln.p) = decide (ls = ms)
  | [], [] => by simp [PyData.eqvAll]
  | [], m :: ms => by simp [PyData.eqvAll]
  | l :: ls, [] => by simp [PyData.eqvAll]
  | l :: ls, m :: ms => by
    rw [List.map_cons, List.map_cons]
    unfold PyData.eqvAll
    rw [ln_eqv, eqv_lines ls ms]
    simp
theorem pys_lines : ∀ ls : List Ln, D.pys (ls.map Ln.d) = some (ls.map Ln.p)
  | [] => rfl
  | l :: ls => by
    rw [List.map_cons]
    unfold D.pys
    rw [ln_py, pys_lines ls]
    rfl
end K56
set_option Elab.async false
set_option linter.all false
set_option maxRecDepth 100000
set_option maxHeartbeats 8000000
set_option autoImplicit false
namespace K56
open PySem PySem.Spec L2 DL
variable {K : Fg} {μ : Mu}
/-- a line that has a word -/
def Ln.val : Ln → Bool
  | .get _ => true
  | .num _ => true
  | .op _ _ _ => true
  | .read _ => true
  | .inn _ => true
  | _ => false
/-- what is named has a word -/
def okV (ls : List Ln) : Prop := ∀ (i : Nat) (l : Ln), ls[i]? = some l → ∀ a ∈ l.uses, ∀ x, ls[a]? = some x → x.val = true
theorem ln_val {x : Ln} (h : x.val = true) : ∃ t v r, x.d = .tup (.str t :: .int v :: r) ∧ numOf x = if t = "num" then some v else none := by
  cases x with
  | num v => exact ⟨"num", v, [], rfl, rfl⟩
  | op o a b => exact ⟨o.s, a, [.int b], rfl, by rw [if_neg (op_ne o).2.2.2.2.1]; rfl⟩
  | get i => exact ⟨"get", i, [], rfl, by rw [if_neg (by decide)]; rfl⟩
  | read a => exact ⟨"read", a, [], rfl, by rw [if_neg (by decide)]; rfl⟩
  | inn k => exact ⟨"in", k, [], rfl, by rw [if_neg (by decide)]; rfl⟩
  | _ => cases h
abbrev bMu (μ : Mu) (f : List Bool) : Mu := μ ++ [.lst (f.map D.bl)]
theorem b_app {f : List Bool} {b : Bool} (hl : f.length < 1000) {ρ : Rho} {i : Nat} {te : TD} (h1 : ρ[i]? = some (some (.sh (.mref μ.length)))) (h2 : te ρ (bMu μ f) = some (.ok (.bl b), bMu μ f)) :
    dsAppM (dVar i) te ρ (bMu μ f) = some (.nx ρ, bMu μ (f ++ [b])) := by
  have hz : f.length < sizeLine := by simp [sizeLine]; omega
  have m1 : (bMu μ f)[μ.length]? = some (.lst (f.map D.bl)) := by simp
  rw [dsAppM_ap, dsE_ap, dVar_ap, h1]
  simp only [ret_ap, muLst_mref, m1, dsE_ap, h2, List.length_map, hz, if_true]
  simp
abbrev lsBody : TO' := dsSeq (dsSet 3 (dTup (dCons (dC (.str "none")) (dCons (dC (.int 0)) (dNil))))) (dsSeq (dsIf (dTest (dIn false (dIx (qVal (dVar 2)) (dC (.int 0))) (qVal (dTup (dCons (dC (.str "must")) (dCons (dC (.str "keep")) (dNil))))))) (dsSet 3 (dIx (qVal (dIx (qVal (dVar 0)) (dC (.int 0)))) (dIx (qVal (dVar 2)) (dC (.int 1))))) (dsNext)) (dsSeq (dsSet 4 (dAndV (dBin gEq (dIx (qVal (dVar 2)) (dC (.int 0))) (dC (.str "must"))) (dBin gNe (dIx (qVal (dVar 3)) (dC (.int 1))) (dC (.int 0))))) (dsSeq (dsIf (dAnd (dTest (dBin gEq (dIx (qVal (dVar 2)) (dC (.int 0))) (dC (.str "keep")))) (dTest (dBin gEq (dIx (qVal (dVar 3)) (dC (.int 1))) (dIx (qVal (dVar 2)) (dC (.int 2)))))) (dsSet 4 (dC (.bl true))) (dsNext)) (dsAppM (dVar 1) (dNotV (dAndV (dVar 4) (dBin gEq (dIx (qVal (dVar 3)) (dC (.int 0))) (dC (.str "num")))))))))
theorem law_spared_turn {ls : List Ln} {ms : List (List Nat)} {l : Ln} {f : List Bool} (hl : l.ok ls.length) (hv : ∀ a ∈ l.uses, ∀ x, ls[a]? = some x → x.val = true) (hf : f.length < 1000) {s3 s4 : Option Sl} :
    ∃ t3 t4, lsBody [some (.sh (row ls ms)), some (.sh (.mref μ.length)), some (.sh l.d), s3, s4] (bMu μ f) = some (.nx [some (.sh (row ls ms)), some (.sh (.mref μ.length)), some (.sh l.d), t3, t4], bMu μ (f ++ [!passes ls l])) := by
  have first : ∀ s3 s4 : Option Sl, dsSet 3 (dTup (dCons (dC (.str "none")) (dCons (dC (.int 0)) (dNil)))) [some (.sh (row ls ms)), some (.sh (.mref μ.length)), some (.sh l.d), s3, s4] (bMu μ f) = some (.nx [some (.sh (row ls ms)), some (.sh (.mref μ.length)), some (.sh l.d), some (.sh (.tup [.str "none", .int 0])), s4], bMu μ f) := fun s3 s4 => by simp [sizeLine]
  have other : ∀ n r, l.d = .tup (.str n :: r) → n ≠ "must" → n ≠ "keep" → passes ls l = false → ∃ t3 t4, lsBody [some (.sh (row ls ms)), some (.sh (.mref μ.length)), some (.sh l.d), s3, s4] (bMu μ f) = some (.nx [some (.sh (row ls ms)), some (.sh (.mref μ.length)), some (.sh l.d), t3, t4], bMu μ (f ++ [!passes ls l])) := fun n r e n1 n2 hp => by
    have q : inD (.str n) [.str "must", .str "keep"] = some false := by simp (decide := true) [inD, flats, D.flat, flatV, inV, eqV_str, n1, n2, Ne.symm n1, Ne.symm n2]
    refine ⟨some (.sh (.tup [.str "none", .int 0])), some (.sh (.bl false)), seq_nx (first _ _) (seq_nx (if_n (μ1 := bMu μ f) (by simp [e, q, sizeLine]) rfl) (seq_nx (set_is (d := .bl false) (μ1 := bMu μ f) (by simp [e, n1])) (seq_nx (if_n (μ1 := bMu μ f) ?_ rfl) ?_)))⟩
    · rw [dAnd_ap, bind_ap]
      simp [e, n2]
    · exact b_app hf rfl (by simp [hp])
  cases l with
  | must a c =>
    have ha := hl a (by simp [Ln.uses])
    have ea := sh_at ha
    have e := atI_lines ea
    obtain ⟨t, v, r, ex, en⟩ := ln_val (hv a (by simp [Ln.uses]) _ ea)
    rw [ex] at e
    refine ⟨some (.sh (.tup (.str t :: .int v :: r))), some (.sh (.bl (!decide (v = 0)))), seq_nx (first _ _) (seq_nx (ρ1 := [some (.sh (row ls ms)), some (.sh (.mref μ.length)), some (.sh (Ln.must a c).d), some (.sh (.tup (.str t :: .int v :: r))), s4]) (μ1 := bMu μ f) (if_y (μ1 := bMu μ f) (by simp (decide := true) [Ln.d, inD, flats, D.flat, flatV, inV, eqV_str, sizeLine]) (set_is (by simp [Ln.d, e]))) (seq_nx (set_is (d := .bl (!decide (v = 0))) (μ1 := bMu μ f) (by simp [Ln.d])) (seq_nx (if_n (μ1 := bMu μ f) ?_ rfl) (b_app hf rfl ?_))))⟩
    · rw [dAnd_ap, bind_ap]
      simp (decide := true) [Ln.d]
    · have hp : passes ls (.must a c) = (!decide (v = 0) && decide (t = "num")) := by
        unfold passes
        simp only [en]
        by_cases ht : t = "num"
        · simp [ht]
        · simp [ht]
      rw [hp]
      by_cases hz : v = 0 <;> by_cases ht : t = "num" <;> simp [hz, ht]
  | keep a u =>
    have ha := hl a (by simp [Ln.uses])
    have ea := sh_at ha
    have e := atI_lines ea
    obtain ⟨t, v, r, ex, en⟩ := ln_val (hv a (by simp [Ln.uses]) _ ea)
    rw [ex] at e
    have hp : passes ls (.keep a u) = (decide (v = u) && decide (t = "num")) := by
      unfold passes
      simp only [en]
      by_cases ht : t = "num"
      · simp [ht]
      · simp [ht]
    rw [hp]
    refine ⟨some (.sh (.tup (.str t :: .int v :: r))), some (.sh (.bl (decide (v = u)))), seq_nx (first _ _) (seq_nx (ρ1 := [some (.sh (row ls ms)), some (.sh (.mref μ.length)), some (.sh (Ln.keep a u).d), some (.sh (.tup (.str t :: .int v :: r))), s4]) (μ1 := bMu μ f) (if_y (μ1 := bMu μ f) (by simp (decide := true) [Ln.d, inD, flats, D.flat, flatV, inV, eqV_str, sizeLine]) (set_is (by simp [Ln.d, e]))) (seq_nx (set_is (d := .bl false) (μ1 := bMu μ f) (by simp (decide := true) [Ln.d])) (seq_nx (ρ1 := [some (.sh (row ls ms)), some (.sh (.mref μ.length)), some (.sh (Ln.keep a u).d), some (.sh (.tup (.str t :: .int v :: r))), some (.sh (.bl (decide (v = u))))]) (μ1 := bMu μ f) ?_ (b_app hf rfl ?_))))⟩
    · by_cases hz : v = u
      · exact if_y (μ1 := bMu μ f) (and_is (b1 := true) (b2 := true) (by simp [Ln.d]) (by simp [Ln.d, hz])) (by simp [hz])
      · rw [decide_eq_false hz]
        exact if_n (μ1 := bMu μ f) (and_is (b1 := true) (b2 := false) (by simp [Ln.d]) (by simp [Ln.d, hz])) rfl
    · by_cases hz : v = u <;> by_cases ht : t = "num" <;> simp [hz, ht]
  | op o a b => exact other o.s _ rfl (op_ne o).1 (op_ne o).2.1 rfl
  | get i => exact other _ _ rfl (by decide) (by decide) rfl
  | num i => exact other _ _ rfl (by decide) (by decide) rfl
  | read i => exact other _ _ rfl (by decide) (by decide) rfl
  | write i j => exact other _ _ rfl (by decide) (by decide) rfl
  | out i j => exact other _ _ rfl (by decide) (by decide) rfl
  | inn i => exact other _ _ rfl (by decide) (by decide) rfl
  | tick => exact other _ _ rfl (by decide) (by decide) rfl
  | fin => exact other _ _ rfl (by decide) (by decide) rfl
end K56
set_option Elab.async false
set_option linter.all false
set_option maxRecDepth 100000
set_option maxHeartbeats 8000000
set_option autoImplicit false
namespace K56
open PySem PySem.Spec L2 DL
variable {K : Fg} {μ : Mu}
theorem stays_succ {ls : List Ln} {i : Nat} {l : Ln} (h : ls[i]? = some l) : (stays ls).take (i + 1) = (stays ls).take i ++ [!passes ls l] := by
  obtain ⟨h1, h2⟩ := List.getElem?_eq_some_iff.mp h
  have h3 : i < (stays ls).length := by simp [stays]; exact h1
  rw [List.take_succ_eq_append_getElem h3]
  simp [stays, h2]
theorem low_bs {n : Nat} (f : List Bool) : D.lowAll n (f.map D.bl) = true := low_all D.bl (fun _ => rfl) f
theorem wf_b (w : Wf μ) (f : List Bool) : Wf (bMu μ f) := Wf.app w (low_bs f)
theorem wf_dead1 (w : Wf μ) : Wf (μ ++ [.dead]) := Wf.app w rfl
theorem law_spared_eq (w : Wf μ) {ls : List Ln} {ms : List (List Nat)} (h : okL ls) (hv : okV ls) (hl : ls.length < 1000) (hm : okM ls.length ms) (hs : ms.length ≤ 1000) :
    S__law_spared K [row ls ms] μ = some (.ok (row (lTo (ls.zip (stays ls)) ls.length).1 (renM (lTo (ls.zip (stays ls)) ls.length).2 ms)), μ) := by
  refine scope_ok (ν := [.dead]) ?_ (low_row _ _) w
  refine run_rt ?_
  unfold B__law_spared
  have ini : initR 5 [row ls ms] = [some (.sh (row ls ms)), none, none, none, none] := rfl
  rw [ini]
  refine seq_nx (ρ1 := [some (.sh (row ls ms)), some (.sh (.mref μ.length)), none, none, none]) (μ1 := bMu μ []) (by simp [sizeLine]) ?_
  obtain ⟨ρ', μ', e1, ⟨s2, s3, s4, e2⟩, e3⟩ := for_inv (gt := gtName 2) (tb := lsBody) (ds := ls.map Ln.d)
    (fun i ρ μ2 => (∃ s2 s3 s4, ρ = [some (.sh (row ls ms)), some (.sh (.mref μ.length)), s2, s3, s4]) ∧ μ2 = bMu μ ((stays ls).take i)) (fun i d ρ μ2 hd hI => by
      obtain ⟨⟨s2, s3, s4, rfl⟩, rfl⟩ := hI
      rw [List.getElem?_map] at hd
      obtain ⟨l, hl1, rfl⟩ := Option.map_eq_some_iff.mp hd
      have hi : i < ls.length := (List.getElem?_eq_some_iff.mp hl1).1
      obtain ⟨t3, t4, q⟩ := law_spared_turn (μ := μ) (ls := ls) (ms := ms) (f := (stays ls).take i) (fun a ha => Nat.lt_trans (h i l hl1 a ha) hi) (hv i l hl1) (by rw [List.length_take]; omega) (s3 := s3) (s4 := s4)
      refine ⟨_, _, _, gtName_ap, q, ⟨_, _, _, rfl⟩, ?_⟩
      rw [stays_succ hl1]) (ρ := [some (.sh (row ls ms)), some (.sh (.mref μ.length)), none, none, none]) (μ := bMu μ []) ⟨⟨_, _, _, rfl⟩, by simp⟩
  refine seq_nx (ρ1 := ρ') (μ1 := μ') (for_is (by simp) e1) ?_
  subst e2 e3
  have hz : (stays ls).take (ls.map Ln.d).length = stays ls := List.take_of_length_le (by simp [stays])
  rw [hz]
  refine seq_nx (ρ1 := [some (.sh (row ls ms)), some (.sh (lB (stays ls))), s2, s3, s4]) (μ1 := μ ++ [.dead]) (by simp [dsFzM]) ?_
  exact ret_is (call_is (n := 2) (ds := [row ls ms, lB (stays ls)]) (by simp) rfl (law_lines_left_eq (wf_dead1 w) h (by simp [stays]) hl hm hs))
/-! ### what is reached -/
def setT (f : List Bool) : List Nat → List Bool
  | [] => f
  | a :: us => setT (f.set a true) us
theorem setT_len : ∀ (us : List Nat) (f : List Bool), (setT f us).length = f.length
  | [], _ => rfl
  | a :: us, f => by rw [setT, setT_len us, List.length_set]
theorem setT_at : ∀ (us : List Nat) (f : List Bool) (j : Nat), j < f.length → (setT f us).getD j false = (f.getD j false || decide (j ∈ us))
  | [], f, j, _ => by simp [setT]
  | a :: us, f, j, h => by
    rw [setT, setT_at us _ j (by rw [List.length_set]; exact h)]
    have e : (f.set a true).getD j false = (f.getD j false || decide (j = a)) := by
      by_cases q : a = j
      · subst q
        simp [List.getD_eq_getElem?_getD, h]
      · rw [List.getD_eq_getElem?_getD, List.getElem?_set_ne q, ← List.getD_eq_getElem?_getD]
        simp [Ne.symm q]
    rw [e]
    simp [Bool.or_assoc]
def aStep (g : Nat → Ln → Bool → Bool) (ls : List Ln) (f : List Bool) (at' : Nat) : List Bool := if g at' (ls.getD at' .tick) (f.getD at' false) = true then setT f (ls.getD at' .tick).uses else f
def aTo (g : Nat → Ln → Bool → Bool) (ls : List Ln) (f : List Bool) : Nat → List Bool
  | 0 => f
  | i + 1 => aStep g ls (aTo g ls f i) (ls.length - 1 - i)
theorem aStep_len {g : Nat → Ln → Bool → Bool} {ls : List Ln} {f : List Bool} {j : Nat} : (aStep g ls f j).length = f.length := by
  unfold aStep
  split
  · exact setT_len _ _
  · rfl
theorem aTo_len {g : Nat → Ln → Bool → Bool} {ls : List Ln} {f : List Bool} : ∀ i, (aTo g ls f i).length = f.length
  | 0 => rfl
  | i + 1 => by rw [aTo, aStep_len, aTo_len i]
theorem set_loop {j r : Nat} (hjr : j ≠ r) : ∀ (us : List Nat) (f : List Bool) (ρ : Rho), j < ρ.length → ρ[r]? = some (some (.sh (.mref μ.length))) → (∀ a ∈ us, a < f.length) →
    ∃ s, forL (gtName j) (dsSetIxM (dC (.bl true)) (dVar r) (dVar j)) (dI us) ρ (bMu μ f) = some (.nx (ρ.set j s), bMu μ (setT f us))
  | [], f, ρ, hj, hr, hu => ⟨ρ[j], by simp [forL, setT]⟩
  | a :: us, f, ρ, hj, hr, hu => by
    have ha := hu a (List.mem_cons_self ..)
    obtain ⟨s, q⟩ := set_loop hjr us (f.set a true) (ρ.set j (some (.sh (.int (a : Int))))) (by rw [List.length_set]; exact hj) (by rw [List.getElem?_set_ne hjr]; exact hr) (fun b hb => by rw [List.length_set]; exact hu b (List.mem_cons_of_mem _ hb))
    refine ⟨s, ?_⟩
    have ed : dI (a :: us) = .int (a : Int) :: dI us := rfl
    rw [ed]
    unfold forL
    have e : dsSetIxM (dC (.bl true)) (dVar r) (dVar j) (ρ.set j (some (.sh (.int (a : Int))))) (bMu μ f) = some (.nx (ρ.set j (some (.sh (.int (a : Int))))), bMu μ (f.set a true)) := by
      have m1 : (bMu μ f)[μ.length]? = some (.lst (f.map D.bl)) := by simp
      have r1 : (ρ.set j (some (.sh (.int (a : Int)))))[r]? = some (some (.sh (.mref μ.length))) := by rw [List.getElem?_set_ne hjr]; exact hr
      have r2 : (ρ.set j (some (Sl.sh (.int (a : Int)))))[j]? = some (some (.sh (.int (a : Int)))) := by simp [hj]
      have r3 : ixN (f.map D.bl).length (a : Int) = some a := ixN_nat (by rw [List.length_map]; exact ha)
      simp only [dsSetIxM_ap, dsE_ap, dC_ap, ret_ap, dVar_ap, r1, r2, muLst_mref, m1, r3]
      simp [List.map_set]
    rw [gtName_ap]
    simp only [e]
    rw [q, List.set_set]
    rfl
end K56
set_option Elab.async false
set_option linter.all false
set_option maxRecDepth 100000
set_option maxHeartbeats 8000000
set_option autoImplicit false
namespace K56
open PySem PySem.Spec L2 DL
variable {K : Fg} {μ : Mu}
theorem getD_range {α : Type} {n j : Nat} {F : Nat → α} {d : α} (h : j < n) : ((List.range n).map F).getD j d = F j := by
  rw [List.getD_eq_getElem?_getD, List.getElem?_map, List.getElem?_range h]
  rfl
theorem getD_map {α β : Type} {xs : List α} {j : Nat} {F : α → β} {d : α} {e : β} (h : j < xs.length) : (xs.map F).getD j e = F (xs.getD j d) := by
  rw [List.getD_eq_getElem?_getD, List.getD_eq_getElem?_getD, List.getElem?_map, List.getElem?_eq_getElem h]
  rfl
theorem aStep_at {g : Nat → Ln → Bool → Bool} {ls : List Ln} {f : List Bool} {a j : Nat} (hj : j < f.length) :
    (aStep g ls f a).getD j false = (f.getD j false || (g a (ls.getD a .tick) (f.getD a false) && decide (j ∈ (ls.getD a .tick).uses))) := by
  unfold aStep
  split
  · rename_i h
    rw [setT_at _ _ _ hj, h, Bool.true_and]
  · rename_i h
    have h' : g a (ls.getD a .tick) (f.getD a false) = false := by simpa using h
    rw [h', Bool.false_and, Bool.or_false]
theorem uses_lt {ls : List Ln} (h : okL ls) {a j : Nat} (ha : a < ls.length) (hj : j ∈ (ls.getD a .tick).uses) : j < a := h a _ (sh_at ha) j hj
/-- a line's word stands when its turn comes -/
theorem aTo_fin {g : Nat → Ln → Bool → Bool} {ls : List Ln} {f : List Bool} (h : okL ls) (hf : f.length = ls.length) {a : Nat} (ha : a < ls.length) :
    ∀ m, ls.length - 1 - a + m ≤ ls.length → (aTo g ls f (ls.length - 1 - a + m)).getD a false = (aTo g ls f (ls.length - 1 - a)).getD a false
  | 0, _ => rfl
  | m + 1, hm => by
    rw [← aTo_fin h hf ha m (by omega)]
    show (aStep g ls (aTo g ls f (ls.length - 1 - a + m)) (ls.length - 1 - (ls.length - 1 - a + m))).getD a false = _
    rw [aStep_at (by rw [aTo_len, hf]; exact ha)]
    have hn : ¬ a ∈ (ls.getD (ls.length - 1 - (ls.length - 1 - a + m)) .tick).uses := fun q => by
      have := uses_lt h (by omega) q
      omega
    rw [decide_eq_false hn, Bool.and_false, Bool.or_false]
theorem aTo_end {g : Nat → Ln → Bool → Bool} {ls : List Ln} {f : List Bool} (h : okL ls) (hf : f.length = ls.length) {a : Nat} (ha : a < ls.length) :
    (aTo g ls f ls.length).getD a false = (aTo g ls f (ls.length - 1 - a)).getD a false := by
  have q := aTo_fin (g := g) h hf ha (a + 1) (by omega)
  have e : ls.length - 1 - a + (a + 1) = ls.length := by omega
  rw [e] at q
  exact q
theorem aTo_more {g : Nat → Ln → Bool → Bool} {ls : List Ln} {f : List Bool} (hf : f.length = ls.length) {j : Nat} (hj : j < ls.length) {i : Nat} (ht : (aTo g ls f i).getD j false = true) : ∀ m, (aTo g ls f (i + m)).getD j false = true
  | 0 => ht
  | m + 1 => by
    show (aStep g ls (aTo g ls f (i + m)) _).getD j false = true
    rw [aStep_at (by rw [aTo_len, hf]; exact hj), aTo_more hf hj ht m, Bool.true_or]
/-- what is reached reaches -/
theorem aTo_closed {g : Nat → Ln → Bool → Bool} {ls : List Ln} {f : List Bool} (h : okL ls) (hf : f.length = ls.length) {a : Nat} (ha : a < ls.length) (hg : g a (ls.getD a .tick) ((aTo g ls f ls.length).getD a false) = true) {j : Nat} (hj : j ∈ (ls.getD a .tick).uses) : (aTo g ls f ls.length).getD j false = true := by
  have hlt := uses_lt h ha hj
  have e : ls.length = (ls.length - 1 - a + 1) + a := by omega
  have q : (aTo g ls f (ls.length - 1 - a + 1)).getD j false = true := by
    show (aStep g ls (aTo g ls f (ls.length - 1 - a)) (ls.length - 1 - (ls.length - 1 - a))).getD j false = true
    have e2 : ls.length - 1 - (ls.length - 1 - a) = a := by omega
    rw [e2, aStep_at (by rw [aTo_len, hf]; omega), ← aTo_end h hf ha, hg, Bool.true_and, decide_eq_true hj, Bool.or_true]
  have q2 := aTo_more hf (by omega : j < ls.length) q a
  rw [← e] at q2
  exact q2
theorem aTo_keep {g : Nat → Ln → Bool → Bool} {ls : List Ln} {f : List Bool} (hf : f.length = ls.length) {j : Nat} (hj : j < ls.length) (ht : f.getD j false = true) : (aTo g ls f ls.length).getD j false = true := by
  have := aTo_more (g := g) (i := 0) hf hj ht ls.length
  rwa [Nat.zero_add] at this
theorem aTo_only {g : Nat → Ln → Bool → Bool} {ls : List Ln} {f : List Bool} (hf : f.length = ls.length) {j : Nat} (hj : j < ls.length) : ∀ i, i ≤ ls.length → (aTo g ls f i).getD j false = true → f.getD j false = true ∨ ∃ a, a < ls.length ∧ j ∈ (ls.getD a .tick).uses
  | 0, _, h => .inl h
  | i + 1, hi, h => by
    have h' : (aStep g ls (aTo g ls f i) (ls.length - 1 - i)).getD j false = true := h
    rw [aStep_at (by rw [aTo_len, hf]; exact hj)] at h'
    rcases Bool.or_eq_true_iff.mp h' with h' | h'
    · exact aTo_only hf hj i (by omega) h'
    · exact .inr ⟨_, by omega, of_decide_eq_true (Bool.and_eq_true_iff.mp h').2⟩
/-! ### the program's, the law's -/
def gP : Nat → Ln → Bool → Bool := fun _ l b => l.asks || (b && l.isOp)
def gN : Nat → Ln → Bool → Bool := fun _ l b => b || l.asks
def gH (nw : List Bool) : Nat → Ln → Bool → Bool := fun a l b => b && (!nw.getD a false && l.isOp)
abbrev noB (ls : List Ln) : List Bool := List.replicate ls.length false
def setM (f : List Bool) : List (List Nat) → List Bool
  | [] => f
  | m :: ms => setM (setT f m) ms
theorem setM_len : ∀ (ms : List (List Nat)) (f : List Bool), (setM f ms).length = f.length
  | [], _ => rfl
  | m :: ms, f => by rw [setM, setM_len ms, setT_len]
theorem setM_at : ∀ (ms : List (List Nat)) (f : List Bool) (j : Nat), j < f.length → (setM f ms).getD j false = (f.getD j false || decide (∃ m ∈ ms, j ∈ m))
  | [], f, j, _ => by simp [setM]
  | m :: ms, f, j, h => by
    rw [setM, setM_at ms _ j (by rw [setT_len]; exact h), setT_at _ _ _ h, Bool.or_assoc]
    congr 1
    rw [Bool.eq_iff_iff]
    simp
def reach (ls : List Ln) (f : List Bool) : List Bool := aTo gP ls f ls.length
def nowL (ls : List Ln) : List Bool := (List.range ls.length).map fun j => !(ls.getD j .tick).idle || (reach ls (noB ls)).getD j false
def wantL (ls : List Ln) (ms : List (List Nat)) : List Bool := setM (noB ls) ms
def stD (ls : List Ln) (ms : List (List Nat)) : List Bool := (List.range ls.length).map fun j => !((ls.getD j .tick).isNum || (ls.getD j .tick).isOp) || (reach ls (wantL ls ms)).getD j false
theorem noB_len {ls : List Ln} : (noB ls).length = ls.length := List.length_replicate ..
theorem noB_at {ls : List Ln} {j : Nat} : (noB ls).getD j false = false := by
  rw [List.getD_eq_getElem?_getD]
  by_cases h : j < ls.length <;> simp [h]
theorem want_len {ls : List Ln} {ms : List (List Nat)} : (wantL ls ms).length = ls.length := by unfold wantL; rw [setM_len, noB_len]
theorem want_at {ls : List Ln} {ms : List (List Nat)} {j : Nat} (h : j < ls.length) : (wantL ls ms).getD j false = decide (∃ m ∈ ms, j ∈ m) := by
  unfold wantL
  rw [setM_at _ _ _ (by rw [noB_len]; exact h), noB_at, Bool.false_or]
theorem and_uses {l : Ln} {j : Nat} {b c : Bool} (h : l.uses ≠ [] → b = c) : (b && decide (j ∈ l.uses)) = (c && decide (j ∈ l.uses)) := by
  by_cases q : l.uses = []
  · rw [q]; simp
  · rw [h q]
theorem gN_gP {a : Nat} {l : Ln} {r : Bool} (hu : l.uses ≠ []) : gN a l (!l.idle || r) = gP a l r := by
  unfold gN gP
  cases l <;> first
    | (cases r <;> rfl)
    | (exact absurd rfl hu)
theorem gP_gH {nw : List Bool} {a : Nat} {l : Ln} {r3 r4 : Bool} (hu : l.uses ≠ []) (hw : nw.getD a false = (!l.idle || r3)) : gP a l (r3 || r4) = (gP a l r3 || gH nw a l r4) := by
  unfold gP gH
  rw [hw]
  cases l <;> first
    | (cases r3 <;> cases r4 <;> rfl)
    | (exact absurd rfl hu)
theorem law_now_is {ls : List Ln} {j : Nat} (hj : j < ls.length) : ∀ i, i ≤ ls.length → (aTo gN ls (ls.map fun l => !l.idle) i).getD j false = (!(ls.getD j .tick).idle || (aTo gP ls (noB ls) i).getD j false) := by
  have key : ∀ i, i ≤ ls.length → ∀ j, j < ls.length → (aTo gN ls (ls.map fun l => !l.idle) i).getD j false = (!(ls.getD j .tick).idle || (aTo gP ls (noB ls) i).getD j false) := by
    intro i
    induction i with
    | zero =>
      intro _ j hj
      show (ls.map fun l => !l.idle).getD j false = (!(ls.getD j .tick).idle || (noB ls).getD j false)
      rw [noB_at, Bool.or_false, getD_map (d := .tick) hj]
    | succ i ih =>
      intro hi j hj
      show (aStep gN ls (aTo gN ls (ls.map fun l => !l.idle) i) (ls.length - 1 - i)).getD j false = (!(ls.getD j .tick).idle || (aStep gP ls (aTo gP ls (noB ls) i) (ls.length - 1 - i)).getD j false)
      rw [aStep_at (by rw [aTo_len, List.length_map]; exact hj), aStep_at (by rw [aTo_len, noB_len]; exact hj), ih (by omega) j hj, ih (by omega) (ls.length - 1 - i) (by omega), Bool.or_assoc]
      congr 1
      congr 1
      refine and_uses fun hu => ?_
      exact gN_gP hu
  exact fun i hi => key i hi j hj
theorem law_now_plain {ls : List Ln} : aTo gN ls (ls.map fun l => !l.idle) ls.length = nowL ls := by
  refine List.ext_getElem (by rw [aTo_len]; simp [nowL]) fun j h1 h2 => ?_
  rw [aTo_len, List.length_map] at h1
  have q := law_now_is h1 ls.length (Nat.le_refl _)
  have e1 := getD_range (d := false) (F := fun j => !(ls.getD j .tick).idle || (reach ls (noB ls)).getD j false) h1
  rw [List.getD_eq_getElem?_getD, List.getElem?_eq_getElem (by rw [aTo_len, List.length_map]; exact h1)] at q
  have e2 : (nowL ls).getD j false = (!(ls.getD j .tick).idle || (aTo gP ls (noB ls) ls.length).getD j false) := e1
  rw [List.getD_eq_getElem?_getD, List.getElem?_eq_getElem h2] at e2
  exact q.trans e2.symm
theorem now_at {ls : List Ln} {j : Nat} (hj : j < ls.length) : (nowL ls).getD j false = (!(ls.getD j .tick).idle || (reach ls (noB ls)).getD j false) := getD_range hj
theorem held_is {ls : List Ln} {ms : List (List Nat)} (h : okL ls) : ∀ i, i ≤ ls.length → ∀ j, j < ls.length → (aTo gP ls (wantL ls ms) i).getD j false = ((aTo gP ls (noB ls) i).getD j false || (aTo (gH (nowL ls)) ls (wantL ls ms) i).getD j false) := by
  intro i
  induction i with
  | zero =>
    intro _ j hj
    show (wantL ls ms).getD j false = ((noB ls).getD j false || (wantL ls ms).getD j false)
    rw [noB_at, Bool.false_or]
  | succ i ih =>
    intro hi j hj
    show (aStep gP ls (aTo gP ls (wantL ls ms) i) (ls.length - 1 - i)).getD j false = ((aStep gP ls (aTo gP ls (noB ls) i) (ls.length - 1 - i)).getD j false || (aStep (gH (nowL ls)) ls (aTo (gH (nowL ls)) ls (wantL ls ms) i) (ls.length - 1 - i)).getD j false)
    have ha : ls.length - 1 - i < ls.length := by omega
    have hw : (nowL ls).getD (ls.length - 1 - i) false = (!(ls.getD (ls.length - 1 - i) .tick).idle || (aTo gP ls (noB ls) i).getD (ls.length - 1 - i) false) := by
      rw [now_at ha]
      unfold reach
      rw [aTo_end h noB_len ha]
      have : ls.length - 1 - (ls.length - 1 - i) = i := by omega
      rw [this]
    rw [aStep_at (by rw [aTo_len, want_len]; exact hj), aStep_at (by rw [aTo_len, noB_len]; exact hj), aStep_at (by rw [aTo_len, want_len]; exact hj), ih (by omega) j hj, ih (by omega) _ ha]
    by_cases hu : (ls.getD (ls.length - 1 - i) .tick).uses = []
    · rw [hu]
      simp
    · rw [gP_gH hu hw]
      generalize (aTo gP ls (noB ls) i).getD j false = r1
      generalize (aTo (gH (nowL ls)) ls (wantL ls ms) i).getD j false = r2
      generalize gP _ _ _ = r3
      generalize gH _ _ _ _ = r4
      generalize decide (j ∈ (ls.getD (ls.length - 1 - i) .tick).uses) = r5
      cases r1 <;> cases r2 <;> cases r3 <;> cases r4 <;> cases r5 <;> rfl
theorem held_plain {ls : List Ln} {ms : List (List Nat)} (h : okL ls) {j : Nat} (hj : j < ls.length) :
    (!((ls.getD j .tick).isNum || (ls.getD j .tick).isOp) || ((nowL ls).getD j false || (aTo (gH (nowL ls)) ls (wantL ls ms) ls.length).getD j false)) = (stD ls ms).getD j false := by
  have e : (stD ls ms).getD j false = (!((ls.getD j .tick).isNum || (ls.getD j .tick).isOp) || (reach ls (wantL ls ms)).getD j false) := getD_range hj
  rw [e, now_at hj]
  unfold reach
  rw [held_is h _ (Nat.le_refl _) _ hj]
  generalize (aTo gP ls (noB ls) ls.length).getD j false = r1
  generalize (aTo (gH (nowL ls)) ls (wantL ls ms) ls.length).getD j false = r2
  cases ls.getD j .tick <;> cases r1 <;> cases r2 <;> rfl
end K56
set_option Elab.async false
set_option linter.all false
set_option maxRecDepth 100000
set_option maxHeartbeats 8000000
set_option autoImplicit false
namespace K56
open PySem PySem.Spec L2 DL
variable {K : Fg} {μ : Mu}
theorem inAsk (l : Ln) : ∃ n r, l.d = .tup (.str n :: r) ∧ inD (.str n) [.str "read", .str "must", .str "write", .str "out", .str "keep"] = some l.asks := by
  cases l with
  | op o a b => cases o <;> exact ⟨_, _, rfl, rfl⟩
  | _ => exact ⟨_, _, rfl, rfl⟩
theorem revRng_is {t : TD} {ρ : Rho} {m : Nat} (h : t ρ μ = some (.ok (.int (m : Int)), μ)) (hm : m < 1000000) : dRevRng t ρ μ = some (.ok (revRange m), μ) := by
  rw [dRevRng_ap, bind_ap, h]
  have h2 : (m : Int) < 2 ^ 62 := Int.lt_trans (Int.ofNat_lt.mpr hm) (by decide)
  show (if 0 ≤ (m : Int) ∧ (m : Int) < 2 ^ 62 then M.ret (revRange (m : Int).toNat) else M.stuck) μ = _
  rw [if_pos ⟨Int.natCast_nonneg m, h2⟩, Int.toNat_natCast]
  rfl
theorem rev_at {m i : Nat} {d : D} (h : (revRange m)[i]? = some d) : i < m ∧ d = .int ((m - 1 - i : Nat) : Int) := by
  unfold revRange at h
  rw [List.getElem?_map] at h
  obtain ⟨j, h1, rfl⟩ := Option.map_eq_some_iff.mp h
  have hlt := (List.getElem?_eq_some_iff.mp h1).1
  rw [List.length_range] at hlt
  rw [List.getElem?_range hlt] at h1
  cases h1
  exact ⟨hlt, by congr 1; omega⟩
theorem rev_len {m : Nat} : (revRange m).length = m := by unfold revRange; simp
theorem atI_bs {f : List Bool} {i : Nat} (h : i < f.length) : atI (f.map D.bl) (i : Int) = some (.bl (f.getD i false)) := by
  rw [DL.atI_nat, List.getElem?_map, List.getD_eq_getElem?_getD, List.getElem?_eq_getElem h]
  rfl
abbrev atBody (K : Fg) : TO' := dsIf (dOr (dTest (dIn false (dIx (qVal (dIx (qVal (dVar 0)) (dVar 3))) (dC (.int 0))) (qVal (dC (.kt [.str "read", .str "must", .str "write", .str "out", .str "keep"]))))) (dAnd (dTruth (dIx (qVal (dVar 2)) (dVar 3))) (dTruth (dCall (S_is_op K) 1 (dCons (dIx (qVal (dVar 0)) (dVar 3)) (dNil)))))) (dsFor (dIter (dCall (S_operands_of K) 1 (dCons (dIx (qVal (dVar 0)) (dVar 3)) (dNil)))) (gtName 4) (dsSetIxM (dC (.bl true)) (dVar 2) (dVar 4))) (dsNext)
theorem asked_turn (w : Wf μ) {ls : List Ln} {f : List Bool} {W : D} (h : okL ls) (hf : f.length = ls.length) {a : Nat} (ha : a < ls.length) {s4 : Option Sl} :
    ∃ t4, atBody K [some (.sh (tL ls)), some (.sh W), some (.sh (.mref μ.length)), some (.sh (.int (a : Nat))), s4] (bMu μ f) = some (.nx [some (.sh (tL ls)), some (.sh W), some (.sh (.mref μ.length)), some (.sh (.int (a : Nat))), t4], bMu μ (aStep gP ls f a)) := by
  have wb := wf_b w f
  have e := atI_lines (sh_at ha)
  have eb := atI_bs (f := f) (i := a) (by omega)
  have e1 := is_op_eq (K := K) wb (ls.getD a .tick)
  have e2 := operands_eq (K := K) wb (ls.getD a .tick)
  obtain ⟨n, r, ed, en⟩ := inAsk (ls.getD a .tick)
  have c1 : dTest (dIn false (dIx (qVal (dIx (qVal (dVar 0)) (dVar 3))) (dC (.int 0))) (qVal (dC (.kt [.str "read", .str "must", .str "write", .str "out", .str "keep"])))) [some (.sh (tL ls)), some (.sh W), some (.sh (.mref μ.length)), some (.sh (.int (a : Nat))), s4] (bMu μ f) = some (.ok (ls.getD a .tick).asks, bMu μ f) := by
    rw [ed] at e
    simp [e, en]
  have c2 : dTruth (dIx (qVal (dVar 2)) (dVar 3)) [some (.sh (tL ls)), some (.sh W), some (.sh (.mref μ.length)), some (.sh (.int (a : Nat))), s4] (bMu μ f) = some (.ok (f.getD a false), bMu μ f) := by
    simp [eb]
  have c3 : dTruth (dCall (S_is_op K) 1 (dCons (dIx (qVal (dVar 0)) (dVar 3)) (dNil))) [some (.sh (tL ls)), some (.sh W), some (.sh (.mref μ.length)), some (.sh (.int (a : Nat))), s4] (bMu μ f) = some (.ok (ls.getD a .tick).isOp, bMu μ f) := by
    rw [dTruth_ap, bind_ap, call_is (n := 1) (tl := dCons (dIx (qVal (dVar 0)) (dVar 3)) dNil) (ds := [(ls.getD a .tick).d]) (by simp [e]) rfl e1]
    simp
  have cc := or_is c1 (and_is c2 c3)
  show ∃ t4, dsIf _ _ _ _ _ = _
  rw [if_is cc]
  unfold aStep
  have eg : gP a (ls.getD a .tick) (f.getD a false) = ((ls.getD a .tick).asks || (f.getD a false && (ls.getD a .tick).isOp)) := rfl
  rw [eg]
  by_cases hc : ((ls.getD a .tick).asks || (f.getD a false && (ls.getD a .tick).isOp)) = true
  · rw [if_pos hc]
    rw [if_pos hc]
    obtain ⟨s, q⟩ := set_loop (μ := μ) (j := 4) (r := 2) (by decide) (ls.getD a .tick).uses f [some (.sh (tL ls)), some (.sh W), some (.sh (.mref μ.length)), some (.sh (.int (a : Nat))), s4] (by simp) rfl (fun b hb => by have := uses_lt h ha hb; omega)
    refine ⟨s, for_is (ds := dI (ls.getD a .tick).uses) (μ1 := bMu μ f) ?_ q⟩
    rw [dIter_ap, bind_ap, call_is (n := 1) (tl := dCons (dIx (qVal (dVar 0)) (dVar 3)) dNil) (ds := [(ls.getD a .tick).d]) (by simp [e]) rfl e2]
    simp
  · rw [if_neg hc, if_neg hc]
    exact ⟨s4, rfl⟩
theorem asked_eq (w : Wf μ) {ls : List Ln} {f : List Bool} (h : okL ls) (hf : f.length = ls.length) (hl : ls.length < 1000) :
    S_asked_through K [tL ls, lB f] μ = some (.ok (lB (reach ls f)), μ) := by
  refine scope_ok (ν := [.dead]) ?_ (low_bs _) w
  refine run_rt ?_
  unfold B_asked_through
  have ini : initR 5 [tL ls, lB f] = [some (.sh (tL ls)), some (.sh (lB f)), none, none, none] := rfl
  rw [ini]
  refine seq_nx (ρ1 := [some (.sh (tL ls)), some (.sh (lB f)), some (.sh (.mref μ.length)), none, none]) (μ1 := bMu μ f) (by simp) ?_
  obtain ⟨ρ', μ', e1, ⟨s3, s4, e2⟩, e3⟩ := for_inv (gt := gtName 3) (tb := atBody K) (ds := revRange ls.length)
    (fun i ρ μ2 => (∃ s3 s4, ρ = [some (.sh (tL ls)), some (.sh (lB f)), some (.sh (.mref μ.length)), s3, s4]) ∧ μ2 = bMu μ (aTo gP ls f i)) (fun i d ρ μ2 hd hI => by
      obtain ⟨⟨s3, s4, rfl⟩, rfl⟩ := hI
      obtain ⟨hi, rfl⟩ := rev_at hd
      obtain ⟨t4, q⟩ := asked_turn (K := K) w (W := lB f) (f := aTo gP ls f i) h (by rw [aTo_len, hf]) (a := ls.length - 1 - i) (by omega) (s4 := s4)
      exact ⟨_, _, _, gtName_ap, q, ⟨_, _, rfl⟩, rfl⟩) (ρ := [some (.sh (tL ls)), some (.sh (lB f)), some (.sh (.mref μ.length)), none, none]) (μ := bMu μ f) ⟨⟨_, _, rfl⟩, rfl⟩
  refine seq_nx (ρ1 := ρ') (μ1 := μ') (for_is (revRng_is (m := ls.length) (by simp) (by omega)) e1) ?_
  subst e2 e3
  rw [rev_len]
  refine seq_nx (ρ1 := [some (.sh (tL ls)), some (.sh (lB f)), some (.sh (lB (reach ls f))), s3, s4]) (μ1 := μ ++ [.dead]) (by simp [dsFzM, reach]) ?_
  exact ret_is (by simp)
end K56
set_option Elab.async false
set_option linter.all false
set_option maxRecDepth 100000
set_option maxHeartbeats 8000000
set_option autoImplicit false
namespace K56
open PySem PySem.Spec L2 DL
variable {K : Fg} {μ : Mu}
abbrev lLn (ls : List Ln) : D := .lst (ls.map Ln.d)
theorem low_lLn {n : Nat} (ls : List Ln) : (lLn ls).low n = true := low_all _ low_ln ls
abbrev opsD2 : List D := [.str "add", .str "xor", .str "sub", .str "and", .str "same", .str "or", .str "less", .str "get", .str "num"]
theorem inIdle (l : Ln) : ∃ n r, l.d = .tup (.str n :: r) ∧ inD (.str n) opsD2 = some l.idle := by
  cases l with
  | op o a b => cases o <;> exact ⟨_, _, rfl, rfl⟩
  | _ => exact ⟨_, _, rfl, rfl⟩
/-- len(lines) - 1 - back -/
theorem back_is {t : TQ} {j n i : Nat} {ρ : Rho} (ht : dLen t ρ μ = some (.ok (.int (n : Int)), μ)) (hj : ρ[j]? = some (some (.sh (.int (i : Int))))) (hi : i < n) :
    dBin gSub (dBin gSub (dLen t) (dC (.int 1))) (dVar j) ρ μ = some (.ok (.int ((n - 1 - i : Nat) : Int)), μ) := by
  simp only [dBin_ap, bind_ap, ht, dC_ap, ret_ap, gSub_int, liftS_ap, dVar_ap, hj]
  have : ((n : Int) - 1 - (i : Int)) = ((n - 1 - i : Nat) : Int) := by omega
  rw [this]
abbrev lnBody (K : Fg) : TO' := dsSeq (dsSet 4 (dBin gSub (dBin gSub (dLen (qVal (dVar 0))) (dC (.int 1))) (dVar 3))) (dsIf (dOr (dTruth (dIx (qVal (dVar 2)) (dVar 4))) (dTest (dIn false (dIx (qVal (dIx (qVal (dVar 0)) (dVar 4))) (dC (.int 0))) (qVal (dTup (dCons (dC (.str "read")) (dCons (dC (.str "must")) (dCons (dC (.str "write")) (dCons (dC (.str "out")) (dCons (dC (.str "keep")) (dNil))))))))))) (dsFor (dIter (dCall (S__law_names_of K) 1 (dCons (dIx (qVal (dVar 0)) (dVar 4)) (dNil)))) (gtName 5) (dsSetIxM (dC (.bl true)) (dVar 2) (dVar 5))) (dsNext))
theorem law_now_turn (w : Wf μ) {ls : List Ln} {f : List Bool} {W : D} (h : okL ls) (hf : f.length = ls.length) {i : Nat} (hi : i < ls.length) {s4 s5 s6 : Option Sl} :
    ∃ t4 t5, lnBody K [some (.sh (lLn ls)), some (.sh W), some (.sh (.mref μ.length)), some (.sh (.int (i : Nat))), s4, s5, s6] (bMu μ f) = some (.nx [some (.sh (lLn ls)), some (.sh W), some (.sh (.mref μ.length)), some (.sh (.int (i : Nat))), t4, t5, s6], bMu μ (aStep gN ls f (ls.length - 1 - i))) := by
  have wb := wf_b w f
  have ha : ls.length - 1 - i < ls.length := by omega
  have first : dsSet 4 (dBin gSub (dBin gSub (dLen (qVal (dVar 0))) (dC (.int 1))) (dVar 3)) [some (.sh (lLn ls)), some (.sh W), some (.sh (.mref μ.length)), some (.sh (.int (i : Nat))), s4, s5, s6] (bMu μ f) = some (.nx [some (.sh (lLn ls)), some (.sh W), some (.sh (.mref μ.length)), some (.sh (.int (i : Nat))), some (.sh (.int ((ls.length - 1 - i : Nat) : Int))), s5, s6], bMu μ f) :=
    set_is (back_is (n := ls.length) (by simp) rfl hi)
  generalize ls.length - 1 - i = a at *
  have e := atI_lines (sh_at ha)
  have eb := atI_bs (f := f) (i := a) (by omega)
  have e2 := names_of_eq (K := K) wb (ls.getD a .tick)
  obtain ⟨n, r, ed, en⟩ := inAsk (ls.getD a .tick)
  have c2 : dTruth (dIx (qVal (dVar 2)) (dVar 4)) [some (.sh (lLn ls)), some (.sh W), some (.sh (.mref μ.length)), some (.sh (.int (i : Nat))), some (.sh (.int (a : Int))), s5, s6] (bMu μ f) = some (.ok (f.getD a false), bMu μ f) := by
    simp [eb]
  have c1 : dTest (dIn false (dIx (qVal (dIx (qVal (dVar 0)) (dVar 4))) (dC (.int 0))) (qVal (dTup (dCons (dC (.str "read")) (dCons (dC (.str "must")) (dCons (dC (.str "write")) (dCons (dC (.str "out")) (dCons (dC (.str "keep")) (dNil))))))))) [some (.sh (lLn ls)), some (.sh W), some (.sh (.mref μ.length)), some (.sh (.int (i : Nat))), some (.sh (.int (a : Int))), s5, s6] (bMu μ f) = some (.ok (ls.getD a .tick).asks, bMu μ f) := by
    rw [ed] at e
    simp [e, en, sizeLine]
  have cc := or_is c2 c1
  by_cases hc : (f.getD a false || (ls.getD a .tick).asks) = true
  · obtain ⟨s, q⟩ := set_loop (μ := μ) (j := 5) (r := 2) (by decide) (ls.getD a .tick).uses f [some (.sh (lLn ls)), some (.sh W), some (.sh (.mref μ.length)), some (.sh (.int (i : Nat))), some (.sh (.int (a : Int))), s5, s6] (by simp) rfl (fun b hb => by have := uses_lt h ha hb; omega)
    refine ⟨some (.sh (.int (a : Int))), s, seq_nx first ?_⟩
    rw [if_is cc, if_pos hc]
    have eg : aStep gN ls f a = setT f (ls.getD a .tick).uses := by
      unfold aStep gN
      rw [if_pos hc]
    rw [eg]
    refine for_is (ds := dI (ls.getD a .tick).uses) (μ1 := bMu μ f) ?_ q
    rw [dIter_ap, bind_ap, call_is (n := 1) (tl := dCons (dIx (qVal (dVar 0)) (dVar 4)) dNil) (ds := [(ls.getD a .tick).d]) (by simp [e]) rfl e2]
    simp
  · refine ⟨some (.sh (.int (a : Int))), s5, seq_nx first ?_⟩
    rw [if_is cc, if_neg hc]
    have eg : aStep gN ls f a = f := by
      unfold aStep gN
      rw [if_neg hc]
    rw [eg]
    rfl
theorem law_now_eq (w : Wf μ) {ls : List Ln} (h : okL ls) (hl : ls.length < 1000) :
    S__law_now K [lLn ls] μ = some (.ok (lB (nowL ls)), μ) := by
  refine scope_ok (ν := [.dead]) ?_ (low_bs _) w
  refine run_rt ?_
  unfold B__law_now
  have ini : initR 7 [lLn ls] = [some (.sh (lLn ls)), none, none, none, none, none, none] := rfl
  rw [ini]
  refine seq_nx (ρ1 := [some (.sh (lLn ls)), some (.sh (.lst opsD)), none, none, none, none, none]) (μ1 := μ) (by simp [law_ops_eq w]) ?_
  have q := lc_all (vs := [6]) (gt := gtName 6) (te := dIn true (dIx (qVal (dVar 6)) (dC (.int 0))) (qVal (dFz (dCat (qVal (dVar 1)) (qVal (dFz (dLst (dCons (dC (.str "get")) (dCons (dC (.str "num")) (dNil)))))))))) (ρ := [some (.sh (lLn ls)), some (.sh (.lst opsD)), none, none, none, none, none]) (μ := μ) Ln.d (fun l => D.bl (!l.idle)) ls (by simp [sizeLine]; omega) fun l hll => ⟨_, gtName_ap, by
    obtain ⟨n, r, ed, en⟩ := inIdle l
    rw [ed]
    simp [wipeR, sizeLine, en]⟩
  refine seq_nx (ρ1 := [some (.sh (lLn ls)), some (.sh (.lst opsD)), some (.ol ((ls.map fun l => !l.idle).map D.bl)), none, none, none, none]) (μ1 := μ) ?_ ?_
  · rw [dsSetO_ap, dsE_ap, dLc_ap, bind_ap, dIter_ap, bind_ap]
    simp only [dVar_ap, List.getElem?_cons_zero, ret_ap, items_lst, liftS_ap]
    rw [if_pos (by rfl), q, List.map_map]
    rfl
  refine seq_nx (ρ1 := [some (.sh (lLn ls)), some (.sh (.lst opsD)), some (.sh (.mref μ.length)), none, none, none, none]) (μ1 := bMu μ (ls.map fun l => !l.idle)) (by simp) ?_
  obtain ⟨ρ', μ', e1, ⟨s3, s4, s5, s6, e2⟩, e3⟩ := for_inv (gt := gtName 3) (tb := lnBody K) (ds := rangeD 0 ls.length)
    (fun i ρ μ2 => (∃ s3 s4 s5 s6, ρ = [some (.sh (lLn ls)), some (.sh (.lst opsD)), some (.sh (.mref μ.length)), s3, s4, s5, s6]) ∧ μ2 = bMu μ (aTo gN ls (ls.map fun l => !l.idle) i)) (fun i d ρ μ2 hd hI => by
      obtain ⟨⟨s3, s4, s5, s6, rfl⟩, rfl⟩ := hI
      obtain ⟨hi, rfl⟩ := rng_at hd
      obtain ⟨t4, t5, q⟩ := law_now_turn (K := K) w (W := .lst opsD) (f := aTo gN ls (ls.map fun l => !l.idle) i) h (by rw [aTo_len, List.length_map]) hi (s4 := s4) (s5 := s5) (s6 := s6)
      exact ⟨_, _, _, gtName_ap, q, ⟨_, _, _, _, rfl⟩, rfl⟩) (ρ := [some (.sh (lLn ls)), some (.sh (.lst opsD)), some (.sh (.mref μ.length)), none, none, none, none]) (μ := bMu μ (ls.map fun l => !l.idle)) ⟨⟨_, _, _, _, rfl⟩, rfl⟩
  refine seq_nx (ρ1 := ρ') (μ1 := μ') (for_is (rng1_is (m := ls.length) (by simp) (by omega)) e1) ?_
  subst e2 e3
  rw [rng_len, law_now_plain]
  refine seq_nx (ρ1 := [some (.sh (lLn ls)), some (.sh (.lst opsD)), some (.sh (lB (nowL ls))), s3, s4, s5, s6]) (μ1 := μ ++ [.dead]) (by simp [dsFzM]) ?_
  exact ret_is (by simp)
end K56
set_option Elab.async false
set_option linter.all false
set_option maxRecDepth 100000
set_option maxHeartbeats 8000000
set_option autoImplicit false
namespace K56
open PySem PySem.Spec L2 DL
variable {K : Fg} {μ : Mu}
/-- for mark in marks: for index in mark: held[index] = True -/
theorem marks_loop {jm j r : Nat} (hm : jm ≠ j) (hjr : j ≠ r) (hmr : jm ≠ r) (enc : List D → D) (henc : ∀ ds, (enc ds).items = some ds) : ∀ (ms : List (List Nat)) (f : List Bool) (ρ : Rho), jm < ρ.length → j < ρ.length → ρ[r]? = some (some (.sh (.mref μ.length))) → (∀ m ∈ ms, ∀ a ∈ m, a < f.length) →
    ∃ s t, forL (gtName jm) (dsFor (dIter (dVar jm)) (gtName j) (dsSetIxM (dC (.bl true)) (dVar r) (dVar j))) (ms.map fun m => enc (dI m)) ρ (bMu μ f) = some (.nx ((ρ.set jm s).set j t), bMu μ (setM f ms))
  | [], f, ρ, h1, h2, hr, hu => ⟨ρ[jm], ρ[j], by simp [forL, setM]⟩
  | m :: ms, f, ρ, h1, h2, hr, hu => by
    have hms := hu m (List.mem_cons_self ..)
    obtain ⟨s, q⟩ := set_loop hjr m f (ρ.set jm (some (.sh (enc (dI m))))) (by rw [List.length_set]; exact h2) (by rw [List.getElem?_set_ne hmr]; exact hr) hms
    obtain ⟨s2, t2, q2⟩ := marks_loop hm hjr hmr enc henc ms (setT f m) ((ρ.set jm (some (.sh (enc (dI m))))).set j s) (by simp; exact h1) (by simp; exact h2) (by rw [List.getElem?_set_ne hjr, List.getElem?_set_ne hmr]; exact hr) (fun m' hm' a ha => by rw [setT_len]; exact hu m' (List.mem_cons_of_mem _ hm') a ha)
    refine ⟨s2, t2, ?_⟩
    rw [List.map_cons]
    unfold forL
    have e : dsFor (dIter (dVar jm)) (gtName j) (dsSetIxM (dC (.bl true)) (dVar r) (dVar j)) (ρ.set jm (some (.sh (enc (dI m))))) (bMu μ f) = some (.nx ((ρ.set jm (some (.sh (enc (dI m))))).set j s), bMu μ (setT f m)) := by
      refine for_is (ds := dI m) (μ1 := bMu μ f) ?_ q
      have r2 : (ρ.set jm (some (Sl.sh (enc (dI m)))))[jm]? = some (some (.sh (enc (dI m)))) := by simp [h1]
      rw [dIter_ap, bind_ap, dVar_ap, r2]
      simp only [ret_ap, henc, liftS_ap]
    rw [gtName_ap]
    simp only [e]
    rw [q2]
    congr 2
    rw [List.set_comm _ _ hm.symm, List.set_set, List.set_set]
abbrev lhBody (K : Fg) : TO' := dsSeq (dsSet 7 (dBin gSub (dBin gSub (dLen (qVal (dVar 0))) (dC (.int 1))) (dVar 6))) (dsIf (dAnd (dTruth (dIx (qVal (dVar 3)) (dVar 7))) (dAnd (dNot (dTruth (dIx (qVal (dVar 2)) (dVar 7)))) (dTest (dIn false (dIx (qVal (dIx (qVal (dVar 0)) (dVar 7))) (dC (.int 0))) (qVal (dCall0 (S__law_ops K))))))) (dsFor (dIter (dCall (S__law_names_of K) 1 (dCons (dIx (qVal (dVar 0)) (dVar 7)) (dNil)))) (gtName 5) (dsSetIxM (dC (.bl true)) (dVar 3) (dVar 5))) (dsNext))
theorem law_held_turn (w : Wf μ) {ls : List Ln} {f nw : List Bool} {W : D} (h : okL ls) (hf : f.length = ls.length) (hn : nw.length = ls.length) {i : Nat} (hi : i < ls.length) {s4 s5 s7 s8 : Option Sl} :
    ∃ t5 t7, lhBody K [some (.sh (lLn ls)), some (.sh W), some (.sh (lB nw)), some (.sh (.mref μ.length)), s4, s5, some (.sh (.int (i : Nat))), s7, s8] (bMu μ f) = some (.nx [some (.sh (lLn ls)), some (.sh W), some (.sh (lB nw)), some (.sh (.mref μ.length)), s4, t5, some (.sh (.int (i : Nat))), t7, s8], bMu μ (aStep (gH nw) ls f (ls.length - 1 - i))) := by
  have wb := wf_b w f
  have ha : ls.length - 1 - i < ls.length := by omega
  have first : dsSet 7 (dBin gSub (dBin gSub (dLen (qVal (dVar 0))) (dC (.int 1))) (dVar 6)) [some (.sh (lLn ls)), some (.sh W), some (.sh (lB nw)), some (.sh (.mref μ.length)), s4, s5, some (.sh (.int (i : Nat))), s7, s8] (bMu μ f) = some (.nx [some (.sh (lLn ls)), some (.sh W), some (.sh (lB nw)), some (.sh (.mref μ.length)), s4, s5, some (.sh (.int (i : Nat))), some (.sh (.int ((ls.length - 1 - i : Nat) : Int))), s8], bMu μ f) :=
    set_is (back_is (n := ls.length) (by simp) rfl hi)
  generalize ls.length - 1 - i = a at *
  have e := atI_lines (sh_at ha)
  have eb := atI_bs (f := f) (i := a) (by omega)
  have en := atI_bs (f := nw) (i := a) (by omega)
  have e2 := names_of_eq (K := K) wb (ls.getD a .tick)
  obtain ⟨n, r, ed, eo, _⟩ := inOps (ls.getD a .tick)
  have c1 : dTruth (dIx (qVal (dVar 3)) (dVar 7)) [some (.sh (lLn ls)), some (.sh W), some (.sh (lB nw)), some (.sh (.mref μ.length)), s4, s5, some (.sh (.int (i : Nat))), some (.sh (.int (a : Int))), s8] (bMu μ f) = some (.ok (f.getD a false), bMu μ f) := by
    simp [eb]
  have c2 : dNot (dTruth (dIx (qVal (dVar 2)) (dVar 7))) [some (.sh (lLn ls)), some (.sh W), some (.sh (lB nw)), some (.sh (.mref μ.length)), s4, s5, some (.sh (.int (i : Nat))), some (.sh (.int (a : Int))), s8] (bMu μ f) = some (.ok (!nw.getD a false), bMu μ f) := by
    simp [en]
  have c3 : dTest (dIn false (dIx (qVal (dIx (qVal (dVar 0)) (dVar 7))) (dC (.int 0))) (qVal (dCall0 (S__law_ops K)))) [some (.sh (lLn ls)), some (.sh W), some (.sh (lB nw)), some (.sh (.mref μ.length)), s4, s5, some (.sh (.int (i : Nat))), some (.sh (.int (a : Int))), s8] (bMu μ f) = some (.ok (ls.getD a .tick).isOp, bMu μ f) := by
    rw [ed] at e
    simp [e, law_ops_eq wb, eo]
  have cc := and_is c1 (and_is c2 c3)
  by_cases hc : (f.getD a false && (!nw.getD a false && (ls.getD a .tick).isOp)) = true
  · obtain ⟨s, q⟩ := set_loop (μ := μ) (j := 5) (r := 3) (by decide) (ls.getD a .tick).uses f [some (.sh (lLn ls)), some (.sh W), some (.sh (lB nw)), some (.sh (.mref μ.length)), s4, s5, some (.sh (.int (i : Nat))), some (.sh (.int (a : Int))), s8] (by simp) rfl (fun b hb => by have := uses_lt h ha hb; omega)
    refine ⟨s, some (.sh (.int (a : Int))), seq_nx first ?_⟩
    rw [if_is cc, if_pos hc]
    have eg : aStep (gH nw) ls f a = setT f (ls.getD a .tick).uses := by
      unfold aStep gH
      rw [if_pos hc]
    rw [eg]
    refine for_is (ds := dI (ls.getD a .tick).uses) (μ1 := bMu μ f) ?_ q
    rw [dIter_ap, bind_ap, call_is (n := 1) (tl := dCons (dIx (qVal (dVar 0)) (dVar 7)) dNil) (ds := [(ls.getD a .tick).d]) (by simp [e]) rfl e2]
    simp
  · refine ⟨s5, some (.sh (.int (a : Int))), seq_nx first ?_⟩
    rw [if_is cc, if_neg hc]
    have eg : aStep (gH nw) ls f a = f := by
      unfold aStep gH
      rw [if_neg hc]
    rw [eg]
    rfl
def heldL (ls : List Ln) (ms : List (List Nat)) : List Bool := aTo (gH (nowL ls)) ls (wantL ls ms) ls.length
theorem now_len {ls : List Ln} : (nowL ls).length = ls.length := by simp [nowL]
theorem law_held_eq (w : Wf μ) {ls : List Ln} {ms : List (List Nat)} (h : okL ls) (hl : ls.length < 1000) (hm : okM ls.length ms) :
    S__law_held K [lLn ls, lM ms, lB (nowL ls)] μ = some (.ok (lB (heldL ls ms)), μ) := by
  refine scope_ok (ν := [.dead]) ?_ (low_bs _) w
  refine run_rt ?_
  unfold B__law_held
  have ini : initR 9 [lLn ls, lM ms, lB (nowL ls)] = [some (.sh (lLn ls)), some (.sh (lM ms)), some (.sh (lB (nowL ls))), none, none, none, none, none, none] := rfl
  rw [ini]
  have q := lc_all (vs := [8]) (gt := gtName 8) (te := dC (.bl false)) (ρ := [some (.sh (lLn ls)), some (.sh (lM ms)), some (.sh (lB (nowL ls))), none, none, none, none, none, none]) (μ := μ) Ln.d (fun l => D.bl false) ls (by simp [sizeLine]; omega) fun l hll => ⟨_, gtName_ap, by simp⟩
  have hz : ls.map (fun _ => D.bl false) = (noB ls).map D.bl := by unfold noB; rw [List.map_replicate]; exact List.map_const' ..
  refine seq_nx (ρ1 := [some (.sh (lLn ls)), some (.sh (lM ms)), some (.sh (lB (nowL ls))), some (.ol ((noB ls).map D.bl)), none, none, none, none, none]) (μ1 := μ) ?_ ?_
  · rw [dsSetO_ap, dsE_ap, dLc_ap, bind_ap, dIter_ap, bind_ap]
    simp only [dVar_ap, List.getElem?_cons_zero, ret_ap, items_lst, liftS_ap]
    rw [if_pos (by rfl), q, hz]
    rfl
  refine seq_nx (ρ1 := [some (.sh (lLn ls)), some (.sh (lM ms)), some (.sh (lB (nowL ls))), some (.sh (.mref μ.length)), none, none, none, none, none]) (μ1 := bMu μ (noB ls)) (by simp) ?_
  obtain ⟨s4, s5, e0⟩ := marks_loop (μ := μ) (jm := 4) (j := 5) (r := 3) (by decide) (by decide) (by decide) D.lst (fun _ => rfl) ms (noB ls) [some (.sh (lLn ls)), some (.sh (lM ms)), some (.sh (lB (nowL ls))), some (.sh (.mref μ.length)), none, none, none, none, none] (by simp) (by simp) rfl (fun m hm' a ha => by rw [noB_len]; exact (hm m hm').2 a ha)
  refine seq_nx (ρ1 := [some (.sh (lLn ls)), some (.sh (lM ms)), some (.sh (lB (nowL ls))), some (.sh (.mref μ.length)), s4, s5, none, none, none]) (μ1 := bMu μ (wantL ls ms)) (for_is (by simp) e0) ?_
  obtain ⟨ρ', μ', e1, ⟨s5, s6, s7, s8, e2⟩, e3⟩ := for_inv (gt := gtName 6) (tb := lhBody K) (ds := rangeD 0 ls.length)
    (fun i ρ μ2 => (∃ s5 s6 s7 s8, ρ = [some (.sh (lLn ls)), some (.sh (lM ms)), some (.sh (lB (nowL ls))), some (.sh (.mref μ.length)), s4, s5, s6, s7, s8]) ∧ μ2 = bMu μ (aTo (gH (nowL ls)) ls (wantL ls ms) i)) (fun i d ρ μ2 hd hI => by
      obtain ⟨⟨s5, s6, s7, s8, rfl⟩, rfl⟩ := hI
      obtain ⟨hi, rfl⟩ := rng_at hd
      obtain ⟨t5, t7, q⟩ := law_held_turn (K := K) w (W := lM ms) (nw := nowL ls) (f := aTo (gH (nowL ls)) ls (wantL ls ms) i) h (by rw [aTo_len, want_len]) now_len hi (s4 := s4) (s5 := s5) (s7 := s7) (s8 := s8)
      exact ⟨_, _, _, gtName_ap, q, ⟨_, _, _, _, rfl⟩, rfl⟩) (ρ := [some (.sh (lLn ls)), some (.sh (lM ms)), some (.sh (lB (nowL ls))), some (.sh (.mref μ.length)), s4, s5, none, none, none]) (μ := bMu μ (wantL ls ms)) ⟨⟨_, _, _, _, rfl⟩, rfl⟩
  refine seq_nx (ρ1 := ρ') (μ1 := μ') (for_is (rng1_is (m := ls.length) (by simp) (by omega)) e1) ?_
  subst e2 e3
  rw [rng_len]
  refine seq_nx (ρ1 := [some (.sh (lLn ls)), some (.sh (lM ms)), some (.sh (lB (nowL ls))), some (.sh (lB (heldL ls ms))), s4, s5, s6, s7, s8]) (μ1 := μ ++ [.dead]) (by simp [dsFzM, heldL]) ?_
  exact ret_is (by simp)
end K56
set_option Elab.async false
set_option linter.all false
set_option maxRecDepth 100000
set_option maxHeartbeats 8000000
set_option autoImplicit false
namespace K56
open PySem PySem.Spec L2 DL
variable {K : Fg} {μ : Mu}
/-! ### == of nested rows -/
/-- f x is data, that tell x -/
structure PyEnc {α : Type} [DecidableEq α] (f : α → D) (n : Nat) : Prop where
  ex : ∃ g : α → PyData, (∀ x, (f x).py = some (g x)) ∧ (∀ x, PyData.canLay0 (g x) = true) ∧ (∀ x, PyData.depth (g x) ≤ n) ∧ ∀ x y, PyData.eqv (g x) (g y) = decide (x = y)
theorem pys_map {α : Type} {f : α → D} {g : α → PyData} (h : ∀ x, (f x).py = some (g x)) : ∀ xs : List α, D.pys (xs.map f) = some (xs.map g)
  | [] => rfl
  | x :: xs => by
    rw [List.map_cons]
    unfold D.pys
    rw [h, pys_map h xs]
    rfl
theorem lay_map {α : Type} {g : α → PyData} (h : ∀ x, PyData.canLay0 (g x) = true) : ∀ xs : List α, PyData.canLayAll0 (xs.map g) = true
  | [] => by simp [PyData.canLayAll0]
  | x :: xs => by simp [PyData.canLayAll0, h, lay_map h xs]
theorem depth_map {α : Type} {g : α → PyData} {n : Nat} (h : ∀ x, PyData.depth (g x) ≤ n) : ∀ xs : List α, PyData.depthAll (xs.map g) ≤ n
  | [] => by simp [PyData.depthAll]
  | x :: xs => by
    rw [List.map_cons]
    unfold PyData.depthAll
    exact Nat.max_le.mpr ⟨h x, depth_map h xs⟩
theorem eqv_map {α : Type} [DecidableEq α] {g : α → PyData} (h : ∀ x y, PyData.eqv (g x) (g y) = decide (x = y)) : ∀ xs ys : List α, PyData.eqvAll (xs.map g) (ys.map g) = decide (xs = ys)
  | [], [] => by simp [PyData.eqvAll]
  | [], m :: ms => by simp [PyData.eqvAll]
  | l :: ls, [] => by simp [PyData.eqvAll]
  | l :: ls, m :: ms => by
    rw [List.map_cons, List.map_cons]
    unfold PyData.eqvAll
    rw [h, eqv_map h ls ms]
    simp
theorem PyEnc.tup {α : Type} [DecidableEq α] {f : α → D} {n : Nat} (E : PyEnc f n) : PyEnc (fun xs : List α => D.tup (xs.map f)) (n + 1) := by
  obtain ⟨g, h1, h2, h3, h4⟩ := E.ex
  refine ⟨fun xs => .tuple (xs.map g), fun xs => by unfold D.py; rw [pys_map h1], fun xs => by simp [PyData.canLay0, lay_map h2], fun xs => ?_, fun xs ys => by simp [PyData.eqv, eqv_map h4]⟩
  have := depth_map h3 xs
  simp [PyData.depth]
  omega
theorem PyEnc.lst {α : Type} [DecidableEq α] {f : α → D} {n : Nat} (E : PyEnc f n) : PyEnc (fun xs : List α => D.lst (xs.map f)) (n + 1) := by
  obtain ⟨g, h1, h2, h3, h4⟩ := E.ex
  refine ⟨fun xs => .list (xs.map g), fun xs => by unfold D.py; rw [pys_map h1], fun xs => by simp [PyData.canLay0, lay_map h2], fun xs => ?_, fun xs ys => by simp [PyData.eqv, eqv_map h4]⟩
  have := depth_map h3 xs
  simp [PyData.depth]
  omega
theorem pyNat : PyEnc (fun n : Nat => D.int (n : Int)) 0 := ⟨fun n => .int n, fun _ => rfl, fun _ => by simp [PyData.canLay0], fun _ => by simp [PyData.depth], fun x y => by
  simp [PyData.eqv]
  rw [Bool.eq_iff_iff]
  simp
  exact Int.ofNat_inj⟩
theorem pyLn : PyEnc Ln.d 10 := ⟨Ln.p, ln_py, fun l => SeqAt.canLay_of_shaped (ln_shaped l), fun l => by cases l <;> simp [Ln.p, PyData.depth, PyData.depthAll], ln_eqv⟩
theorem PyEnc.gEq {α : Type} [DecidableEq α] {f : α → D} {n : Nat} (E : PyEnc f n) (hn : n ≤ 64) (x y : α) (h1 : (f x).flat = none) : gEq (f x) (f y) = some (.bl (decide (x = y))) := by
  obtain ⟨g, e1, e2, e3, e4⟩ := E.ex
  have hs : ∀ x, SeqAt.shaped (g x) = true := fun x => by
    unfold SeqAt.shaped
    rw [e2, Bool.true_and]
    exact decide_eq_true (Nat.le_trans (e3 x) hn)
  unfold DL.gEq eqD
  rw [h1, e1, e1]
  simp [hs, e4]
theorem PyEnc.gNe {α : Type} [DecidableEq α] {f : α → D} {n : Nat} (E : PyEnc f n) (hn : n ≤ 64) (x y : α) (h1 : (f x).flat = none) : gNe (f x) (f y) = some (.bl (!decide (x = y))) := by
  have q := E.gEq hn x y h1
  unfold DL.gEq at q
  unfold DL.gNe
  cases e : eqD (f x) (f y) with
  | none => rw [e] at q; cases q
  | some b =>
    rw [e] at q
    cases q
    rfl
theorem eq_tL (ls ms : List Ln) : gEq (tL ls) (tL ms) = some (.bl (decide (ls = ms))) := pyLn.tup.gEq (by decide) ls ms rfl
theorem ne_tL (ls ms : List Ln) : gNe (tL ls) (tL ms) = some (.bl (!decide (ls = ms))) := pyLn.tup.gNe (by decide) ls ms rfl
theorem eq_tM (ls ms : List (List Nat)) : gEq (tM ls) (tM ms) = some (.bl (decide (ls = ms))) := pyNat.tup.tup.gEq (by decide) ls ms rfl
theorem eq_dI (a b : List Nat) : gEq (.tup (dI a)) (.tup (dI b)) = some (.bl (decide (a = b))) := pyNat.tup.gEq (by decide) a b rfl
theorem eq_row (ls ls' : List Ln) (ms ms' : List (List Nat)) : gEq (row ls ms) (row ls' ms') = some (.bl (decide (ls = ls') && decide (ms = ms'))) := by
  obtain ⟨g, a1, a2, a3, a4⟩ := pyLn.lst.ex
  obtain ⟨k, b1, b2, b3, b4⟩ := pyNat.lst.lst.ex
  have hp : ∀ ls ms, (row ls ms).py = some (.list [g ls, k ms]) := fun ls ms => by
    have c1 := a1 ls
    have c2 := b1 ms
    show (match D.pys [D.lst (ls.map Ln.d), lM ms] with
      | some ps => some (PyData.list ps)
      | none => none) = _
    unfold D.pys D.pys D.pys
    rw [c1, c2]
  have hs : ∀ ls ms, SeqAt.shaped (.list [g ls, k ms]) = true := fun ls ms => by
    have d1 := a3 ls
    have d2 := b3 ms
    unfold SeqAt.shaped
    simp [PyData.canLay0, PyData.canLayAll0, a2, b2, PyData.depth, PyData.depthAll]
    omega
  have he : PyData.eqv (.list [g ls, k ms]) (.list [g ls', k ms']) = (decide (ls = ls') && decide (ms = ms')) := by
    simp only [PyData.eqv, PyData.eqvAll, a4, b4, Bool.and_true]
  have fl : ∀ ls ms, (row ls ms).flat = none := fun _ _ => rfl
  unfold gEq eqD
  rw [fl, fl, hp, hp]
  simp only [hs, Bool.and_true, if_true, he]
  rfl
/-! ### _law_is and == of Middles -/
theorem isi_mid {ls : List Ln} {ms : List (List Nat)} {t u : TD} {ρ : Rho} (h1 : t ρ μ = some (.ok (mid K ls ms), μ)) (h2 : u ρ μ = some (.ok (.ref (He.ga K "Middle")), μ)) : dIsi (owns K) (kits K) t u ρ μ = some (.ok (.bl true), μ) := by
  have k1 : tyD (owns K) (mid K ls ms) μ = some (.ref (He.ga K "Middle")) := by simp [tyD, owns]
  have k2 : clsD (.ref (He.ga K "Middle")) = some (.ref (He.ga K "Middle")) := rfl
  have k3 : kitD (kits K) (.ref (He.ga K "Middle")) (.ref (He.ga K "Middle")) = some true := by simp [kitD, kits]
  rw [dIsi_ap]
  simp only [bind_ap, h1, h2, k1, k2, k3]
theorem isi_int {i : Int} {t u : TD} {ρ : Rho} (h1 : t ρ μ = some (.ok (.int i), μ)) (h2 : u ρ μ = some (.ok (.ref (He.ga K "Middle")), μ)) : dIsi (owns K) (kits K) t u ρ μ = some (.ok (.bl false), μ) := by
  have k1 : tyD (owns K) (.int i) μ = some (.type "int") := rfl
  have k2 : clsD (.ref (He.ga K "Middle")) = some (.ref (He.ga K "Middle")) := rfl
  have k3 : kitD (kits K) (.type "int") (.ref (He.ga K "Middle")) = some false := by simp [kitD, kits]
  rw [dIsi_ap]
  simp only [bind_ap, h1, h2, k1, k2, k3]
end K56
set_option Elab.async false
set_option linter.all false
set_option maxRecDepth 100000
set_option maxHeartbeats 8000000
set_option autoImplicit false
namespace K56
open PySem PySem.Spec L2 DL
variable {K : Fg} {μ : Mu}
theorem mid_eq_eq (w : Wf μ) (ls ls' : List Ln) (ms ms' : List (List Nat)) : S_Middle_eq K [mid K ls ms, mid K ls' ms'] μ = some (.ok (.bl (decide (ls = ls') && decide (ms = ms'))), μ) := by
  refine scope_ok0 ?_ rfl w
  refine run_rt ?_
  unfold B_Middle_eq
  have ini : initR 2 [mid K ls ms, mid K ls' ms'] = [some (.sh (mid K ls ms)), some (.sh (mid K ls' ms'))] := rfl
  rw [ini]
  refine ret_is ?_
  have e1 := isi_mid (μ := μ) (K := K) (ls := ls') (ms := ms') (t := dVar 1) (u := dC (.ref (He.ga K "Middle"))) (ρ := [some (.sh (mid K ls ms)), some (.sh (mid K ls' ms'))]) rfl rfl
  rw [dAndV_ap, bind_ap, e1]
  have f1 := eq_tL ls ls'
  have f2 := eq_tM ms ms'
  have g1 : dBin gEq (dFld [He.ga K "Middle"] "lines" (dVar 0)) (dFld [He.ga K "Middle"] "lines" (dVar 1)) [some (.sh (mid K ls ms)), some (.sh (mid K ls' ms'))] μ = some (.ok (.bl (decide (ls = ls'))), μ) := by
    simp [fld_lines, f1]
  have g2 : dBin gEq (dFld [He.ga K "Middle"] "marks" (dVar 0)) (dFld [He.ga K "Middle"] "marks" (dVar 1)) [some (.sh (mid K ls ms)), some (.sh (mid K ls' ms'))] μ = some (.ok (.bl (decide (ms = ms'))), μ) := by
    simp [fld_marks, f2]
  simp only [dAndV_ap, bind_ap, g1]
  cases decide (ls = ls') with
  | true => exact g2
  | false => rfl
theorem mid_eq_int (w : Wf μ) (ls : List Ln) (ms : List (List Nat)) (i : Int) : S_Middle_eq K [mid K ls ms, .int i] μ = some (.ok (.bl false), μ) := by
  refine scope_ok0 ?_ rfl w
  refine run_rt ?_
  unfold B_Middle_eq
  have ini : initR 2 [mid K ls ms, .int i] = [some (.sh (mid K ls ms)), some (.sh (.int i))] := rfl
  rw [ini]
  refine ret_is ?_
  have e1 := isi_int (μ := μ) (K := K) (i := i) (t := dVar 1) (u := dC (.ref (He.ga K "Middle"))) (ρ := [some (.sh (mid K ls ms)), some (.sh (.int i))]) rfl rfl
  rw [dAndV_ap, bind_ap, e1]
  rfl
theorem eqOwn_is (w : Wf μ) {ls ls' : List Ln} {ms ms' : List (List Nat)} {t u : TD} {ρ : Rho} (h1 : t ρ μ = some (.ok (mid K ls ms), μ)) (h2 : u ρ μ = some (.ok (mid K ls' ms'), μ)) :
    dEqOwn (He.ga K "Middle") (S_Middle_eq K) t u ρ μ = some (.ok (.bl (decide (ls = ls') && decide (ms = ms'))), μ) := by
  have k : ∃ q, tyRight (He.ga K "Middle") (mid K ls' ms') = some q := ⟨_, by simp [tyRight]; rfl⟩
  obtain ⟨q, hq⟩ := k
  rw [dEqOwn_ap]
  simp only [bind_ap, h1, h2, if_true, hq, mid_eq_eq w]
theorem eqOwn_int (w : Wf μ) {ls : List Ln} {ms : List (List Nat)} {i : Int} {t u : TD} {ρ : Rho} (h1 : t ρ μ = some (.ok (mid K ls ms), μ)) (h2 : u ρ μ = some (.ok (.int i), μ)) :
    dEqOwn (He.ga K "Middle") (S_Middle_eq K) t u ρ μ = some (.ok (.bl false), μ) := by
  have k : ∃ q, tyRight (He.ga K "Middle") (.int i) = some q := ⟨_, rfl⟩
  obtain ⟨q, hq⟩ := k
  rw [dEqOwn_ap]
  simp only [bind_ap, h1, h2, if_true, hq, mid_eq_int w]
theorem law_is_eq (w : Wf μ) (ls ls' : List Ln) (ms ms' : List (List Nat)) (hs : ms'.length ≤ 1000) : S__law_is K [mid K ls ms, row ls' ms'] μ = some (.ok (.bl (decide (ls = ls') && decide (ms = ms'))), μ) := by
  refine scope_ok0 ?_ rfl w
  refine run_rt ?_
  unfold B__law_is
  have ini : initR 3 [mid K ls ms, row ls' ms'] = [some (.sh (mid K ls ms)), some (.sh (row ls' ms')), none] := rfl
  rw [ini]
  have e1 := isi_mid (μ := μ) (K := K) (ls := ls) (ms := ms) (t := dVar 0) (u := dC (.ref (He.ga K "Middle"))) (ρ := [some (.sh (mid K ls ms)), some (.sh (row ls' ms')), none]) rfl rfl
  have c1 : dNot (dTruth (dIsi (owns K) (kits K) (dVar 0) (dC (.ref (He.ga K "Middle"))))) [some (.sh (mid K ls ms)), some (.sh (row ls' ms')), none] μ = some (.ok false, μ) := by
    rw [dNot_ap, bind_ap, dTruth_ap, bind_ap, e1]
    rfl
  have c2 : dTest (dBin gNe (dFld [He.ga K "Middle"] "lines" (dVar 0)) (dTupOf (qVal (dIx (qVal (dVar 1)) (dC (.int 0)))))) [some (.sh (mid K ls ms)), some (.sh (row ls' ms')), none] μ = some (.ok (!decide (ls = ls')), μ) := by
    have f := ne_tL ls ls'
    simp [fld_lines, f]
  have cc := or_is c1 c2
  rw [Bool.false_or] at cc
  by_cases h : ls = ls'
  · rw [decide_eq_true h] at cc ⊢
    refine seq_nx (if_n cc rfl) (ret_is ?_)
    have q := lc_all (vs := [2]) (gt := gtName 2) (te := dTupOf (qVal (dVar 2))) (ρ := [some (.sh (mid K ls ms)), some (.sh (row ls' ms')), none]) (μ := μ) (fun m => D.lst (dI m)) (fun m => D.tup (dI m)) ms' (by simp [sizeLine]; omega) fun m hm => ⟨_, gtName_ap, by simp [wipeR]⟩
    have f := eq_tM ms ms'
    simp [fld_marks, okW, q, f]
  · rw [decide_eq_false h] at cc ⊢
    exact seq_rt (if_y cc (ret_is (by simp)))
end K56
set_option Elab.async false
set_option linter.all false
set_option maxRecDepth 100000
set_option maxHeartbeats 8000000
set_option autoImplicit false
namespace K56
open PySem PySem.Spec L2 DL
variable {K : Fg} {μ : Mu}
def nowIx (ls : List Ln) : List Nat := (List.range ls.length).filter fun j => (nowL ls).getD j false
def lateIx (ls : List Ln) : List Nat := (List.range ls.length).filter fun j => !(nowL ls).getD j false && (ls.getD j .tick).isOp
theorem rng_map {n : Nat} : rangeD 0 n = (List.range n).map fun i : Nat => D.int (i : Int) := by
  unfold rangeD
  refine List.map_congr_left fun i _ => ?_
  simp
theorem reach_len {ls : List Ln} {f : List Bool} : (reach ls f).length = f.length := aTo_len _
theorem rep_bl {n : Nat} : (List.replicate n [D.bl false]).flatten = (List.replicate n false).map D.bl := by
  rw [List.map_replicate]
  induction n with
  | zero => rfl
  | succ n ih => rw [List.replicate_succ, List.flatten_cons, ih, List.replicate_succ]; rfl
theorem rep_is {t : TD} {ρ : Rho} {n : Nat} (h : t ρ μ = some (.ok (.int (n : Int)), μ)) (hl : n < 1000) : dRepL (qVal (dFz (dLst (dCons (dC (.bl false)) (dNil))))) t ρ μ = some (.ok ((List.replicate n false).map D.bl), μ) := by
  have h1 : (-(2 ^ 63) : Int) ≤ (n : Int) := Int.le_trans (by decide) (Int.natCast_nonneg _)
  have h2 : (n : Int) < 2 ^ 63 := Int.lt_trans (Int.ofNat_lt.mpr hl) (by decide)
  have h3 : ([D.bl false]).length * (n : Int).toNat ≤ sizeLine := by simp [sizeLine]; omega
  have hc : dLst (dCons (dC (.bl false)) (dNil)) ρ μ = some (.ok [D.bl false], μ) := by simp [sizeLine]
  rw [dRepL_ap, bind_ap, qVal_ap, bind_ap, dFz_ap, bind_ap, hc]
  simp only [ret_ap, bind_ap, h, qvl_lst]
  rw [if_pos ⟨h1, h2, h3⟩, Int.toNat_natCast, rep_bl]
theorem cons_is {t : TD} {u : TL} {ρ : Rho} {d : D} {ds : List D} {μ1 μ2 : Mu} (h1 : t ρ μ = some (.ok d, μ1)) (h2 : u ρ μ1 = some (.ok ds, μ2)) : dCons t u ρ μ = some (.ok (d :: ds), μ2) := by
  rw [dCons_ap, bind_ap, h1]
  simp only [bind_ap, h2, ret_ap]
theorem fz_is {t : TL} {ρ : Rho} {ds : List D} {μ1 : Mu} (h : t ρ μ = some (.ok ds, μ1)) : dFz t ρ μ = some (.ok (.lst ds), μ1) := by
  rw [dFz_ap, bind_ap, h]
  rfl
theorem tupOf_is {t : TD} {ρ : Rho} {ds : List D} {μ1 : Mu} (h : t ρ μ = some (.ok (.lst ds), μ1)) : dTupOf (qVal t) ρ μ = some (.ok (.tup ds), μ1) := by
  rw [dTupOf_ap, bind_ap, qVal_ap, bind_ap, h]
  rfl
theorem dLc_is {vs : List Nat} {tl : TL} {gt : D → Rho → Option Rho} {tt : TB} {te : TD} {ρ : Rho} {ds : List D} {r : Option (Res (List D) × Mu)} {μ1 : Mu} (h : tl ρ μ = some (.ok ds, μ1)) (ho : okW ρ vs = true) (h2 : lcL vs gt tt te ρ ds [] μ1 = r) : dLc vs tl gt tt te ρ μ = r := by
  rw [dLc_ap, bind_ap, h]
  simp only [ho, if_true]
  exact h2
theorem now_args {ls : List Ln} {m : D} {s2 s3 : Option Sl} (hl : ls.length < 1000) : dCons (dVar 1) (dCons (dFz (dRepL (qVal (dFz (dLst (dCons (dC (.bl false)) (dNil))))) (dLen (qVal (dVar 1))))) (dNil)) [some (.sh m), some (.sh (tL ls)), s2, s3] μ = some (.ok [tL ls, lB (noB ls)], μ) := by
  have hr := rep_is (μ := μ) (n := ls.length) (t := dLen (qVal (dVar 1))) (ρ := [some (.sh m), some (.sh (tL ls)), s2, s3]) (by simp) hl
  exact cons_is rfl (cons_is (fz_is hr) rfl)
theorem now_comp (w : Wf μ) {ls : List Ln} {ms : List (List Nat)} (h : okL ls) (hl : ls.length < 1000) :
    dTupOf (qVal (dFz (dLc [3] (dRng1 (dLen (qVal (dVar 1)))) (gtName 3) (dOr (dTruth (dIx (qVal (dVar 2)) (dVar 3))) (dNot (dTruth (dCall (S_is_idle_kind K) 1 (dCons (dIx (qVal (dVar 1)) (dVar 3)) (dNil)))))) (dVar 3)))) [some (.sh (mid K ls ms)), some (.sh (tL ls)), some (.sh (lB (reach ls (noB ls)))), none] μ = some (.ok (.tup (dI (nowIx ls))), μ) := by
  have q := lc_is (vs := [3]) (gt := gtName 3) (tt := dOr (dTruth (dIx (qVal (dVar 2)) (dVar 3))) (dNot (dTruth (dCall (S_is_idle_kind K) 1 (dCons (dIx (qVal (dVar 1)) (dVar 3)) (dNil)))))) (te := dVar 3) (ρ := [some (.sh (mid K ls ms)), some (.sh (tL ls)), some (.sh (lB (reach ls (noB ls)))), none]) (μ := μ) (fun (i : Nat) => D.int (i : Int)) (fun (i : Nat) => D.int (i : Int)) (fun j => (nowL ls).getD j false) (List.range ls.length) [] (by simp [sizeLine]; omega) fun j hj => by
    have hj' : j < ls.length := List.mem_range.mp hj
    have e1 := atI_lines (sh_at hj')
    have e2 := atI_bs (f := reach ls (noB ls)) (i := j) (by rw [reach_len, noB_len]; exact hj')
    have e3 := idle_eq (K := K) w (ls.getD j .tick)
    refine ⟨[some (.sh (mid K ls ms)), some (.sh (tL ls)), some (.sh (lB (reach ls (noB ls)))), some (.sh (.int (j : Int)))], rfl, ?_, fun _ => rfl⟩
    rw [now_at hj', Bool.or_comm]
    refine or_is (by simp [e2]) ?_
    rw [dNot_ap, bind_ap, dTruth_ap, bind_ap, call_is (n := 1) (tl := dCons (dIx (qVal (dVar 1)) (dVar 3)) dNil) (ds := [(ls.getD j .tick).d]) (by simp [e1]) rfl e3]
    simp
  have hr := rng1_is (μ := μ) (t := dLen (qVal (dVar 1))) (ρ := [some (.sh (mid K ls ms)), some (.sh (tL ls)), some (.sh (lB (reach ls (noB ls)))), none]) (m := ls.length) (by simp) (by omega)
  refine tupOf_is (fz_is (dLc_is hr (by rfl) ?_))
  rw [rng_map, q]
  simp [nowIx]
theorem now_lines_eq (w : Wf μ) {ls : List Ln} {ms : List (List Nat)} (h : okL ls) (hl : ls.length < 1000) :
    S_now_lines K [mid K ls ms] μ = some (.ok (.tup (dI (nowIx ls))), μ) := by
  refine scope_ok0 ?_ (low_ints _) w
  refine run_rt ?_
  unfold B_now_lines
  have ini : initR 4 [mid K ls ms] = [some (.sh (mid K ls ms)), none, none, none] := rfl
  rw [ini]
  refine seq_nx (ρ1 := [some (.sh (mid K ls ms)), some (.sh (tL ls)), none, none]) (μ1 := μ) (by simp [fld_lines]) ?_
  have e := asked_eq (K := K) w (f := noB ls) h noB_len hl
  refine seq_nx (ρ1 := [some (.sh (mid K ls ms)), some (.sh (tL ls)), some (.sh (lB (reach ls (noB ls)))), none]) (μ1 := μ) ?_ ?_
  · refine set_is (call_is (ds := [tL ls, lB (noB ls)]) ?_ rfl e)
    exact now_args hl
  · exact ret_is (now_comp w h hl)
theorem enum_map {ls : List Ln} : enumD (ls.map Ln.d) = (List.range ls.length).map fun i : Nat => D.tup [.int (i : Int), (ls.getD i .tick).d] := by
  refine List.ext_getElem? fun i => ?_
  unfold enumD
  rw [List.getElem?_mapIdx, List.getElem?_map, List.getElem?_map]
  by_cases h : i < ls.length
  · rw [List.getElem?_range h, sh_at h]
    rfl
  · rw [List.getElem?_eq_none (by omega), List.getElem?_eq_none (by rw [List.length_range]; omega)]
    rfl
theorem inD_ints (a : Nat) (l : List Nat) : inD (.int (a : Int)) (dI l) = some (decide (a ∈ l)) := by
  have e : (dI l) = ((l.map fun n : Nat => (n : Int)).map D.int) := by rw [List.map_map]; rfl
  unfold inD
  rw [e, flats_int]
  have fv : flatV (.int (a : Int)) = true := rfl
  have fa : ((l.map fun n : Nat => (n : Int)).map V.int).all flatV = true := List.all_eq_true.mpr fun v hv => by
    obtain ⟨i, _, rfl⟩ := List.mem_map.mp hv
    rfl
  show (if flatV (.int (a : Int)) = true ∧ ((l.map fun n : Nat => (n : Int)).map V.int).all flatV = true then some (inV (.int (a : Int)) ((l.map fun n : Nat => (n : Int)).map V.int)) else none) = _
  rw [if_pos ⟨fv, fa⟩]
  congr 1
  rw [Bool.eq_iff_iff]
  simp [inV, eqV]
  exact ⟨fun ⟨x, hx, e⟩ => Int.ofNat_inj.mp e ▸ hx, fun q => ⟨a, q, rfl⟩⟩
theorem late_lines_eq (w : Wf μ) {ls : List Ln} {ms : List (List Nat)} (h : okL ls) (hl : ls.length < 1000) :
    S_late_lines K [mid K ls ms] μ = some (.ok (.tup (dI (lateIx ls))), μ) := by
  refine scope_ok0 ?_ (low_ints _) w
  refine run_rt ?_
  unfold B_late_lines
  have ini : initR 4 [mid K ls ms] = [some (.sh (mid K ls ms)), none, none, none] := rfl
  rw [ini]
  refine seq_nx (ρ1 := [some (.sh (mid K ls ms)), some (.sh (.tup (dI (nowIx ls)))), none, none]) (μ1 := μ) (set_is (call_is (ds := [mid K ls ms]) (by simp) rfl (now_lines_eq w h hl))) ?_
  refine ret_is ?_
  have q := lc_is (vs := [2, 3]) (gt := gtTup 2 (gtCons (gtName 2) (gtCons (gtName 3) (gtNil)))) (tt := dAnd (dTruth (dCall (S_is_op K) 1 (dCons (dVar 3) (dNil)))) (dTest (dIn true (dVar 2) (qVal (dVar 1))))) (te := dVar 2) (ρ := [some (.sh (mid K ls ms)), some (.sh (.tup (dI (nowIx ls)))), none, none]) (μ := μ) (fun i : Nat => D.tup [.int (i : Int), (ls.getD i .tick).d]) (fun (i : Nat) => D.int (i : Int)) (fun j => !(nowL ls).getD j false && (ls.getD j .tick).isOp) (List.range ls.length) [] (by simp [sizeLine]; omega) fun j hj => by
    have hj' : j < ls.length := List.mem_range.mp hj
    have e3 := is_op_eq (K := K) w (ls.getD j .tick)
    refine ⟨[some (.sh (mid K ls ms)), some (.sh (.tup (dI (nowIx ls)))), some (.sh (.int (j : Int))), some (.sh (ls.getD j .tick).d)], rfl, ?_, fun _ => rfl⟩
    rw [Bool.and_comm]
    refine and_is ?_ ?_
    · rw [dTruth_ap, bind_ap, call_is (n := 1) (tl := dCons (dVar 3) dNil) (ds := [(ls.getD j .tick).d]) (by simp) rfl e3]
      simp
    · have hm : decide (j ∈ nowIx ls) = (nowL ls).getD j false := by
        rw [Bool.eq_iff_iff, decide_eq_true_iff]
        unfold nowIx
        rw [List.mem_filter]
        exact ⟨fun q => q.2, fun q => ⟨hj, q⟩⟩
      have e4 := inD_ints j (nowIx ls)
      rw [hm] at e4
      simp [e4]
  have he : dEnum (dFld [He.ga K "Middle"] "lines" (dVar 0)) [some (.sh (mid K ls ms)), some (.sh (.tup (dI (nowIx ls)))), none, none] μ = some (.ok (enumD (ls.map Ln.d)), μ) := by simp [fld_lines]
  refine tupOf_is (fz_is (dLc_is he (by rfl) ?_))
  rw [enum_map, q]
  simp [lateIx]
end K56
set_option Elab.async false
set_option linter.all false
set_option maxRecDepth 100000
set_option maxHeartbeats 8000000
set_option autoImplicit false
namespace K56
open PySem PySem.Spec L2 DL
variable {K : Fg} {μ : Mu}
theorem andV_is {t u : TD} {ρ : Rho} {b c : Bool} (h1 : t ρ μ = some (.ok (.bl b), μ)) (h2 : u ρ μ = some (.ok (.bl c), μ)) : dAndV t u ρ μ = some (.ok (.bl (b && c)), μ) := by
  rw [dAndV_ap, bind_ap, h1]
  cases b with
  | true => exact h2
  | false => rfl
theorem orV_is {t u : TD} {ρ : Rho} {b c : Bool} (h1 : t ρ μ = some (.ok (.bl b), μ)) (h2 : u ρ μ = some (.ok (.bl c), μ)) : dOrV t u ρ μ = some (.ok (.bl (b || c)), μ) := by
  rw [dOrV_ap, bind_ap, h1]
  cases b with
  | true => rfl
  | false => exact h2
theorem notV_is {t : TD} {ρ : Rho} {b : Bool} (h1 : t ρ μ = some (.ok (.bl b), μ)) : dNotV t ρ μ = some (.ok (.bl (!b)), μ) := by
  rw [dNotV_ap, bind_ap, h1]
  rfl
theorem bin_is {gf : D → D → Option D} {t u : TD} {ρ : Rho} {x y z : D} {μ1 μ2 : Mu} (h1 : t ρ μ = some (.ok x, μ1)) (h2 : u ρ μ1 = some (.ok y, μ2)) (h : gf x y = some z) : dBin gf t u ρ μ = some (.ok z, μ2) := by
  rw [dBin_ap, bind_ap, h1]
  simp only [bind_ap, h2, h, liftS_ap]
theorem truth_is {t : TD} {ρ : Rho} {b : Bool} {μ1 : Mu} (h : t ρ μ = some (.ok (.bl b), μ1)) : dTruth t ρ μ = some (.ok b, μ1) := by
  rw [dTruth_ap, bind_ap, h]
  rfl
theorem test_is {t : TD} {ρ : Rho} {b : Bool} {μ1 : Mu} (h : t ρ μ = some (.ok (.bl b), μ1)) : dTest t ρ μ = some (.ok b, μ1) := by
  rw [dTest_ap, bind_ap, h]
  rfl
theorem not_is {t : TB} {ρ : Rho} {b : Bool} {μ1 : Mu} (h : t ρ μ = some (.ok b, μ1)) : dNot t ρ μ = some (.ok (!b), μ1) := by
  rw [dNot_ap, bind_ap, h]
  rfl
theorem now_filter {ls : List Ln} {ms : List (List Nat)} {m : D} (hl : ls.length < 1000) {s3 s4 : Option Sl} :
    dTupOf (qVal (dFz (dLc [5] (dRng1 (dLen (qVal (dVar 2)))) (gtName 5) (dTruth (dIx (qVal (dVar 2)) (dVar 5))) (dVar 5)))) [some (.sh m), some (.sh (row ls ms)), some (.sh (lB (nowL ls))), s3, s4, none] μ = some (.ok (.tup (dI (nowIx ls))), μ) := by
  have q := lc_is (vs := [5]) (gt := gtName 5) (tt := dTruth (dIx (qVal (dVar 2)) (dVar 5))) (te := dVar 5) (ρ := [some (.sh m), some (.sh (row ls ms)), some (.sh (lB (nowL ls))), s3, s4, none]) (μ := μ) (fun (i : Nat) => D.int (i : Int)) (fun (i : Nat) => D.int (i : Int)) (fun j => (nowL ls).getD j false) (List.range ls.length) [] (by simp [sizeLine]; omega) fun j hj => by
    have hj' : j < ls.length := List.mem_range.mp hj
    have e2 := atI_bs (f := nowL ls) (i := j) (by rw [now_len]; exact hj')
    exact ⟨[some (.sh m), some (.sh (row ls ms)), some (.sh (lB (nowL ls))), s3, s4, some (.sh (.int (j : Int)))], rfl, truth_is (by simp [e2]), fun _ => rfl⟩
  have hr := rng1_is (μ := μ) (t := dLen (qVal (dVar 2))) (ρ := [some (.sh m), some (.sh (row ls ms)), some (.sh (lB (nowL ls))), s3, s4, none]) (m := ls.length) (by simp [now_len]) (by omega)
  refine tupOf_is (fz_is (dLc_is hr (by rfl) ?_))
  rw [rng_map, q]
  simp [nowIx]
theorem late_filter (w : Wf μ) {ls : List Ln} {ms : List (List Nat)} {m : D} (hl : ls.length < 1000) {s3 s4 : Option Sl} :
    dTupOf (qVal (dFz (dLc [5] (dRng1 (dLen (qVal (dVar 2)))) (gtName 5) (dAnd (dNot (dTruth (dIx (qVal (dVar 2)) (dVar 5)))) (dTest (dIn false (dIx (qVal (dIx (qVal (dIx (qVal (dVar 1)) (dC (.int 0)))) (dVar 5))) (dC (.int 0))) (qVal (dCall0 (S__law_ops K)))))) (dVar 5)))) [some (.sh m), some (.sh (row ls ms)), some (.sh (lB (nowL ls))), s3, s4, none] μ = some (.ok (.tup (dI (lateIx ls))), μ) := by
  have q := lc_is (vs := [5]) (gt := gtName 5) (tt := dAnd (dNot (dTruth (dIx (qVal (dVar 2)) (dVar 5)))) (dTest (dIn false (dIx (qVal (dIx (qVal (dIx (qVal (dVar 1)) (dC (.int 0)))) (dVar 5))) (dC (.int 0))) (qVal (dCall0 (S__law_ops K)))))) (te := dVar 5) (ρ := [some (.sh m), some (.sh (row ls ms)), some (.sh (lB (nowL ls))), s3, s4, none]) (μ := μ) (fun (i : Nat) => D.int (i : Int)) (fun (i : Nat) => D.int (i : Int)) (fun j => !(nowL ls).getD j false && (ls.getD j .tick).isOp) (List.range ls.length) [] (by simp [sizeLine]; omega) fun j hj => by
    have hj' : j < ls.length := List.mem_range.mp hj
    have e1 := atI_lines (sh_at hj')
    have e2 := atI_bs (f := nowL ls) (i := j) (by rw [now_len]; exact hj')
    obtain ⟨n, r, ed, eo, _⟩ := inOps (ls.getD j .tick)
    refine ⟨[some (.sh m), some (.sh (row ls ms)), some (.sh (lB (nowL ls))), s3, s4, some (.sh (.int (j : Int)))], rfl, and_is (not_is (truth_is (by simp [e2]))) (test_is ?_), fun _ => rfl⟩
    rw [ed] at e1
    simp [e1, law_ops_eq w, eo]
  have hr := rng1_is (μ := μ) (t := dLen (qVal (dVar 2))) (ρ := [some (.sh m), some (.sh (row ls ms)), some (.sh (lB (nowL ls))), s3, s4, none]) (m := ls.length) (by simp [now_len]) (by omega)
  refine tupOf_is (fz_is (dLc_is hr (by rfl) ?_))
  rw [rng_map, q]
  simp [lateIx]
theorem lines_are_eq (w : Wf μ) {ls : List Ln} {ms ms' : List (List Nat)} (h : okL ls) (hl : ls.length < 1000) :
    S__law_lines_are K [mid K ls ms, row ls ms'] μ = some (.ok (.bl true), μ) := by
  refine scope_ok0 ?_ rfl w
  refine run_rt ?_
  unfold B__law_lines_are
  have ini : initR 6 [mid K ls ms, row ls ms'] = [some (.sh (mid K ls ms)), some (.sh (row ls ms')), none, none, none, none] := rfl
  rw [ini]
  refine seq_nx (set_is (call_is (ds := [lLn ls]) (by simp) rfl (law_now_eq w h hl))) ?_
  refine seq_nx (set_is (now_filter hl)) ?_
  refine seq_nx (set_is (late_filter w hl)) ?_
  have g1 : dBin gEq (dCall (S_now_lines K) 1 (dCons (dVar 0) (dNil))) (dVar 3) [some (.sh (mid K ls ms)), some (.sh (row ls ms')), some (.sh (lB (nowL ls))), some (.sh (.tup (dI (nowIx ls)))), some (.sh (.tup (dI (lateIx ls)))), none] μ = some (.ok (.bl true), μ) :=
    bin_is (call_is (ds := [mid K ls ms]) (by simp) rfl (now_lines_eq w h hl)) rfl (by rw [eq_dI]; simp)
  have g2 : dBin gEq (dCall (S_late_lines K) 1 (dCons (dVar 0) (dNil))) (dVar 4) [some (.sh (mid K ls ms)), some (.sh (row ls ms')), some (.sh (lB (nowL ls))), some (.sh (.tup (dI (nowIx ls)))), some (.sh (.tup (dI (lateIx ls)))), none] μ = some (.ok (.bl true), μ) :=
    bin_is (call_is (ds := [mid K ls ms]) (by simp) rfl (late_lines_eq w h hl)) rfl (by rw [eq_dI]; simp)
  exact ret_is (andV_is g1 g2)
end K56
set_option Elab.async false
set_option linter.all false
set_option maxRecDepth 100000
set_option maxHeartbeats 8000000
set_option autoImplicit false
namespace K56
open PySem PySem.Spec L2 DL
variable {K : Fg} {μ : Mu}
theorem stD_len {ls : List Ln} {ms : List (List Nat)} : (stD ls ms).length = ls.length := by simp [stD]
theorem stD_map {ls : List Ln} {ms : List (List Nat)} : (stD ls ms).map D.bl = (List.range ls.length).map fun j => D.bl (!((ls.getD j .tick).isNum || (ls.getD j .tick).isOp) || (reach ls (wantL ls ms)).getD j false) := by
  unfold stD
  rw [List.map_map]
  rfl
theorem tag_get (l : Ln) : ∃ n r, l.d = .tup (.str n :: r) ∧ (n = "get" ↔ (l.idle && !(l.isNum || l.isOp)) = true) := by
  cases l with
  | op o a b => cases o <;> exact ⟨_, _, rfl, by simp (decide := true) [Ln.idle, Ln.isNum, Ln.isOp, Op.s]⟩
  | _ => exact ⟨_, _, rfl, by simp (decide := true) [Ln.idle, Ln.isNum, Ln.isOp]⟩
theorem drop_stays (w : Wf μ) {ls : List Ln} {ms : List (List Nat)} {n : D} {s2 s3 s4 s6 : Option Sl} (hl : ls.length < 1000) :
    dFz (dLc [7, 8] (dEnum (dFld [He.ga K "Middle"] "lines" (dVar 0))) (gtTup 2 (gtCons (gtName 7) (gtCons (gtName 8) (gtNil)))) (dYes) (dOrV (dNotV (dCall (S_is_idle_kind K) 1 (dCons (dVar 8) (dNil)))) (dOrV (dBin gEq (dIx (qVal (dVar 8)) (dC (.int 0))) (dC (.str "get"))) (dIx (qVal (dVar 5)) (dVar 7))))) [some (.sh (mid K ls ms)), some (.sh n), s2, s3, s4, some (.sh (lB (reach ls (wantL ls ms)))), s6, none, none] μ = some (.ok (lB (stD ls ms)), μ) := by
  have q := lc_all (vs := [7, 8]) (gt := gtTup 2 (gtCons (gtName 7) (gtCons (gtName 8) (gtNil)))) (te := dOrV (dNotV (dCall (S_is_idle_kind K) 1 (dCons (dVar 8) (dNil)))) (dOrV (dBin gEq (dIx (qVal (dVar 8)) (dC (.int 0))) (dC (.str "get"))) (dIx (qVal (dVar 5)) (dVar 7)))) (ρ := [some (.sh (mid K ls ms)), some (.sh n), s2, s3, s4, some (.sh (lB (reach ls (wantL ls ms)))), s6, none, none]) (μ := μ) (fun i : Nat => D.tup [.int (i : Int), (ls.getD i .tick).d]) (fun j => D.bl (!((ls.getD j .tick).isNum || (ls.getD j .tick).isOp) || (reach ls (wantL ls ms)).getD j false)) (List.range ls.length) (by simp [sizeLine]; omega) fun j hj => by
    have hj' : j < ls.length := List.mem_range.mp hj
    have e2 := atI_bs (f := reach ls (wantL ls ms)) (i := j) (by rw [reach_len, want_len]; exact hj')
    have e3 := idle_eq (K := K) w (ls.getD j .tick)
    obtain ⟨t, r, ed, et⟩ := tag_get (ls.getD j .tick)
    refine ⟨[some (.sh (mid K ls ms)), some (.sh n), s2, s3, s4, some (.sh (lB (reach ls (wantL ls ms)))), s6, some (.sh (.int (j : Int))), some (.sh (ls.getD j .tick).d)], rfl, ?_⟩
    have c1 := notV_is (call_is (n := 1) (tl := dCons (dVar 8) dNil) (ρ := [some (.sh (mid K ls ms)), some (.sh n), s2, s3, s4, some (.sh (lB (reach ls (wantL ls ms)))), s6, some (.sh (.int (j : Int))), some (.sh (ls.getD j .tick).d)]) (ds := [(ls.getD j .tick).d]) (by simp) rfl e3)
    have c2 : dBin gEq (dIx (qVal (dVar 8)) (dC (.int 0))) (dC (.str "get")) [some (.sh (mid K ls ms)), some (.sh n), s2, s3, s4, some (.sh (lB (reach ls (wantL ls ms)))), s6, some (.sh (.int (j : Int))), some (.sh (ls.getD j .tick).d)] μ = some (.ok (.bl (decide (t = "get"))), μ) := by
      rw [ed]
      simp
    have c3 : dIx (qVal (dVar 5)) (dVar 7) [some (.sh (mid K ls ms)), some (.sh n), s2, s3, s4, some (.sh (lB (reach ls (wantL ls ms)))), s6, some (.sh (.int (j : Int))), some (.sh (ls.getD j .tick).d)] μ = some (.ok (.bl ((reach ls (wantL ls ms)).getD j false)), μ) := by
      simp [e2]
    have cc := orV_is c1 (orV_is c2 c3)
    have hb : (!(ls.getD j .tick).idle || (decide (t = "get") || (reach ls (wantL ls ms)).getD j false)) = (!((ls.getD j .tick).isNum || (ls.getD j .tick).isOp) || (reach ls (wantL ls ms)).getD j false) := by
      have ht : decide (t = "get") = ((ls.getD j .tick).idle && !((ls.getD j .tick).isNum || (ls.getD j .tick).isOp)) := by
        rw [Bool.eq_iff_iff, decide_eq_true_iff]
        exact et
      rw [ht]
      generalize (reach ls (wantL ls ms)).getD j false = b
      cases ls.getD j .tick <;> cases b <;> rfl
    rw [hb] at cc
    exact cc
  have he : dEnum (dFld [He.ga K "Middle"] "lines" (dVar 0)) [some (.sh (mid K ls ms)), some (.sh n), s2, s3, s4, some (.sh (lB (reach ls (wantL ls ms)))), s6, none, none] μ = some (.ok (enumD (ls.map Ln.d)), μ) := by simp [fld_lines]
  have hf := fz_is (dLc_is he (by rfl) ((congrArg (fun ds => lcL [7, 8] (gtTup 2 (gtCons (gtName 7) (gtCons (gtName 8) (gtNil)))) dYes (dOrV (dNotV (dCall (S_is_idle_kind K) 1 (dCons (dVar 8) (dNil)))) (dOrV (dBin gEq (dIx (qVal (dVar 8)) (dC (.int 0))) (dC (.str "get"))) (dIx (qVal (dVar 5)) (dVar 7)))) [some (.sh (mid K ls ms)), some (.sh n), s2, s3, s4, some (.sh (lB (reach ls (wantL ls ms)))), s6, none, none] ds [] μ) (enum_map (ls := ls))).trans q))
  have hz : lB (stD ls ms) = .lst ((List.range ls.length).map fun j => D.bl (!((ls.getD j .tick).isNum || (ls.getD j .tick).isOp) || (reach ls (wantL ls ms)).getD j false)) := congrArg D.lst stD_map
  rw [hz]
  exact hf
theorem amb_is {t : TL} {ρ : Rho} {ds : List D} (h : t ρ μ = some (.ok ds, μ)) : dAmb t ρ μ = some (.ok (.mref μ.length), μ ++ [.lst ds]) := by
  rw [dAmb_ap, bind_ap, h]
theorem dropped_eq (w : Wf μ) {n : D} {ls : List Ln} {ms : List (List Nat)} (h : okL ls) (hl : ls.length < 1000) (hm : okM ls.length ms) (hs : ms.length ≤ 1000) :
    S_dropped K [mid K ls ms, n] μ = some (.ok (mid K (lTo (ls.zip (stD ls ms)) ls.length).1 (renM (lTo (ls.zip (stD ls ms)) ls.length).2 ms)), μ) := by
  refine scope_ok (ν := [.dead]) ?_ (low_mid _ _) w
  refine run_rt ?_
  unfold B_dropped
  have ini : initR 9 [mid K ls ms, n] = [some (.sh (mid K ls ms)), some (.sh n), none, none, none, none, none, none, none] := rfl
  rw [ini]
  have r0 : dLen (qVal (dFld [He.ga K "Middle"] "lines" (dVar 0))) [some (.sh (mid K ls ms)), some (.sh n), none, none, none, none, none, none, none] μ = some (.ok (.int (ls.length : Int)), μ) := by simp [fld_lines]
  refine seq_nx (ρ1 := [some (.sh (mid K ls ms)), some (.sh n), some (.sh (.mref μ.length)), none, none, none, none, none, none]) (μ1 := bMu μ (noB ls)) (set_is (amb_is (rep_is r0 hl))) ?_
  obtain ⟨s3, s4, e0⟩ := marks_loop (μ := μ) (jm := 3) (j := 4) (r := 2) (by decide) (by decide) (by decide) D.tup (fun _ => rfl) ms (noB ls) [some (.sh (mid K ls ms)), some (.sh n), some (.sh (.mref μ.length)), none, none, none, none, none, none] (by simp) (by simp) rfl (fun m hm' a ha => by rw [noB_len]; exact (hm m hm').2 a ha)
  refine seq_nx (ρ1 := [some (.sh (mid K ls ms)), some (.sh n), some (.sh (.mref μ.length)), s3, s4, none, none, none, none]) (μ1 := bMu μ (wantL ls ms)) (for_is (by simp [fld_marks]) e0) ?_
  refine seq_nx (ρ1 := [some (.sh (mid K ls ms)), some (.sh n), some (.sh (lB (wantL ls ms))), s3, s4, none, none, none, none]) (μ1 := μ ++ [.dead]) (by simp [dsFzM]) ?_
  refine seq_nx (set_is (call_is (ds := [tL ls, lB (wantL ls ms)]) (by simp [fld_lines]) rfl (asked_eq (wf_dead1 w) h want_len hl))) ?_
  refine seq_nx (set_is (drop_stays (wf_dead1 w) hl)) ?_
  exact ret_is (call_is (n := 2) (ds := [mid K ls ms, lB (stD ls ms)]) (by simp) rfl (lines_left_eq (wf_dead1 w) h stD_len hl hm hs))
end K56
set_option Elab.async false
set_option linter.all false
set_option maxRecDepth 100000
set_option maxHeartbeats 8000000
set_option autoImplicit false
namespace K56
open PySem PySem.Spec L2 DL
variable {K : Fg} {μ : Mu}
theorem stD_succ {ls : List Ln} {ms : List (List Nat)} (h : okL ls) {i : Nat} (hi : i < ls.length) : (stD ls ms).take (i + 1) = (stD ls ms).take i ++ [!((ls.getD i .tick).isNum || (ls.getD i .tick).isOp) || ((nowL ls).getD i false || (heldL ls ms).getD i false)] := by
  have h3 : i < (stD ls ms).length := by rw [stD_len]; exact hi
  rw [List.take_succ_eq_append_getElem h3]
  have q := held_plain (ms := ms) h hi
  unfold heldL
  rw [q, List.getD_eq_getElem?_getD, List.getElem?_eq_getElem h3]
  rfl
theorem held_len {ls : List Ln} {ms : List (List Nat)} : (heldL ls ms).length = ls.length := by unfold heldL; rw [aTo_len, want_len]
abbrev ldBody (K : Fg) : TO' := dsSeq (dsSet 5 (dOrV (dBin gEq (dIx (qVal (dIx (qVal (dIx (qVal (dVar 0)) (dC (.int 0)))) (dVar 4))) (dC (.int 0))) (dC (.str "num"))) (dIn false (dIx (qVal (dIx (qVal (dIx (qVal (dVar 0)) (dC (.int 0)))) (dVar 4))) (dC (.int 0))) (qVal (dCall0 (S__law_ops K)))))) (dsAppM (dVar 3) (dOrV (dNotV (dVar 5)) (dOrV (dIx (qVal (dVar 1)) (dVar 4)) (dIx (qVal (dVar 2)) (dVar 4)))))
theorem law_dropped_turn (w : Wf μ) {ls : List Ln} {ms : List (List Nat)} {f nw hd : List Bool} (hf : f.length < 1000) (h1 : nw.length = ls.length) (h2 : hd.length = ls.length) {i : Nat} (hi : i < ls.length) {s5 : Option Sl} :
    ∃ t5, ldBody K [some (.sh (row ls ms)), some (.sh (lB nw)), some (.sh (lB hd)), some (.sh (.mref μ.length)), some (.sh (.int (i : Nat))), s5] (bMu μ f) = some (.nx [some (.sh (row ls ms)), some (.sh (lB nw)), some (.sh (lB hd)), some (.sh (.mref μ.length)), some (.sh (.int (i : Nat))), t5], bMu μ (f ++ [!((ls.getD i .tick).isNum || (ls.getD i .tick).isOp) || (nw.getD i false || hd.getD i false)])) := by
  have wb := wf_b w f
  have e := atI_lines (sh_at hi)
  have e1 := atI_bs (f := nw) (i := i) (by omega)
  have e2 := atI_bs (f := hd) (i := i) (by omega)
  obtain ⟨n, r, ed, eo, _⟩ := inOps (ls.getD i .tick)
  have en : decide (n = "num") = (ls.getD i .tick).isNum := by
    rw [← num_bool]
    rcases ln_num (ls.getD i .tick) with ⟨v, q⟩ | ⟨t, r', ex, et, en, _⟩
    · rw [q] at ed
      cases ed
      rw [q]
      rfl
    · rw [ex] at ed
      cases ed
      rw [en]
      simp [et]
  rw [ed] at e
  have c1 : dBin gEq (dIx (qVal (dIx (qVal (dIx (qVal (dVar 0)) (dC (.int 0)))) (dVar 4))) (dC (.int 0))) (dC (.str "num")) [some (.sh (row ls ms)), some (.sh (lB nw)), some (.sh (lB hd)), some (.sh (.mref μ.length)), some (.sh (.int (i : Nat))), s5] (bMu μ f) = some (.ok (.bl (ls.getD i .tick).isNum), bMu μ f) := by
    rw [← en]
    simp [e]
  have c2 : dIn false (dIx (qVal (dIx (qVal (dIx (qVal (dVar 0)) (dC (.int 0)))) (dVar 4))) (dC (.int 0))) (qVal (dCall0 (S__law_ops K))) [some (.sh (row ls ms)), some (.sh (lB nw)), some (.sh (lB hd)), some (.sh (.mref μ.length)), some (.sh (.int (i : Nat))), s5] (bMu μ f) = some (.ok (.bl (ls.getD i .tick).isOp), bMu μ f) := by
    simp [e, law_ops_eq wb, eo]
  refine ⟨some (.sh (.bl ((ls.getD i .tick).isNum || (ls.getD i .tick).isOp))), seq_nx (set_is (orV_is c1 c2)) ?_⟩
  refine b_app hf rfl (orV_is (notV_is rfl) (orV_is ?_ ?_))
  · simp [e1]
  · simp [e2]
theorem law_dropped_eq (w : Wf μ) {ls : List Ln} {ms : List (List Nat)} (h : okL ls) (hl : ls.length < 1000) (hm : okM ls.length ms) (hs : ms.length ≤ 1000) :
    S__law_dropped K [row ls ms] μ = some (.ok (row (lTo (ls.zip (stD ls ms)) ls.length).1 (renM (lTo (ls.zip (stD ls ms)) ls.length).2 ms)), μ) := by
  refine scope_ok (ν := [.dead]) ?_ (low_row _ _) w
  refine run_rt ?_
  unfold B__law_dropped
  have ini : initR 6 [row ls ms] = [some (.sh (row ls ms)), none, none, none, none, none] := rfl
  rw [ini]
  refine seq_nx (set_is (call_is (ds := [lLn ls]) (by simp) rfl (law_now_eq w h hl))) ?_
  refine seq_nx (set_is (call_is (ds := [lLn ls, lM ms, lB (nowL ls)]) (by simp) rfl (law_held_eq w h hl hm))) ?_
  refine seq_nx (ρ1 := [some (.sh (row ls ms)), some (.sh (lB (nowL ls))), some (.sh (lB (heldL ls ms))), some (.sh (.mref μ.length)), none, none]) (μ1 := bMu μ []) (by simp [sizeLine]) ?_
  obtain ⟨ρ', μ', e1, ⟨s4, s5, e2⟩, e3⟩ := for_inv (gt := gtName 4) (tb := ldBody K) (ds := rangeD 0 ls.length)
    (fun i ρ μ2 => (∃ s4 s5, ρ = [some (.sh (row ls ms)), some (.sh (lB (nowL ls))), some (.sh (lB (heldL ls ms))), some (.sh (.mref μ.length)), s4, s5]) ∧ μ2 = bMu μ ((stD ls ms).take i)) (fun i d ρ μ2 hd hI => by
      obtain ⟨⟨s4, s5, rfl⟩, rfl⟩ := hI
      obtain ⟨hi, rfl⟩ := rng_at hd
      obtain ⟨t5, q⟩ := law_dropped_turn (K := K) w (ms := ms) (f := (stD ls ms).take i) (by rw [List.length_take]; omega) (now_len (ls := ls)) (held_len (ls := ls) (ms := ms)) hi (s5 := s5)
      refine ⟨_, _, _, gtName_ap, q, ⟨_, _, rfl⟩, ?_⟩
      rw [stD_succ h hi]) (ρ := [some (.sh (row ls ms)), some (.sh (lB (nowL ls))), some (.sh (lB (heldL ls ms))), some (.sh (.mref μ.length)), none, none]) (μ := bMu μ []) ⟨⟨_, _, rfl⟩, by simp⟩
  refine seq_nx (ρ1 := ρ') (μ1 := μ') (for_is (rng1_is (m := ls.length) (by simp) (by omega)) e1) ?_
  subst e2 e3
  rw [rng_len]
  have hz : (stD ls ms).take ls.length = stD ls ms := List.take_of_length_le (by rw [stD_len]; exact Nat.le_refl _)
  rw [hz]
  refine seq_nx (ρ1 := [some (.sh (row ls ms)), some (.sh (lB (nowL ls))), some (.sh (lB (heldL ls ms))), some (.sh (lB (stD ls ms))), s4, s5]) (μ1 := μ ++ [.dead]) (by simp [dsFzM]) ?_
  exact ret_is (call_is (n := 2) (ds := [row ls ms, lB (stD ls ms)]) (by simp) rfl (law_lines_left_eq (wf_dead1 w) h stD_len hl hm hs))
end K56
set_option Elab.async false
set_option linter.all false
set_option maxRecDepth 100000
set_option maxHeartbeats 8000000
set_option autoImplicit false
namespace K56
open PySem PySem.Spec L2 DL
/-! ### the passes, plainly -/
theorem ren_val (f : List Nat) (l : Ln) : (ren f l).val = l.val := by cases l <;> rfl
theorem ren_op (f : List Nat) (l : Ln) : (ren f l).isOp = l.isOp := by cases l <;> rfl
theorem ren_num (f : List Nat) (l : Ln) : (ren f l).isNum = l.isNum := by cases l <;> rfl
theorem ren_uses (f : List Nat) (l : Ln) : (ren f l).uses = l.uses.map fun a => f.getD a 0 := by cases l <;> rfl
theorem val_plain {l : Ln} (h : (l.isNum || l.isOp) = true) : l.val = true := by cases l <;> first | rfl | cases h
theorem ren_cong {f g : List Nat} {l : Ln} (h : ∀ a ∈ l.uses, f.getD a 0 = g.getD a 0) : ren f l = ren g l := by
  cases l with
  | op o a b => simp only [ren, h a (by simp [Ln.uses]), h b (by simp [Ln.uses])]
  | write a b => simp only [ren, h a (by simp [Ln.uses]), h b (by simp [Ln.uses])]
  | must a c => simp only [ren, h a (by simp [Ln.uses])]
  | keep a c => simp only [ren, h a (by simp [Ln.uses])]
  | read a => simp only [ren, h a (by simp [Ln.uses])]
  | out k a => simp only [ren, h a (by simp [Ln.uses])]
  | _ => rfl
theorem ren_id {f : List Nat} {l : Ln} (h : ∀ a ∈ l.uses, f.getD a 0 = a) : ren f l = l := by
  cases l with
  | op o a b => simp only [ren, h a (by simp [Ln.uses]), h b (by simp [Ln.uses])]
  | write a b => simp only [ren, h a (by simp [Ln.uses]), h b (by simp [Ln.uses])]
  | must a c => simp only [ren, h a (by simp [Ln.uses])]
  | keep a c => simp only [ren, h a (by simp [Ln.uses])]
  | read a => simp only [ren, h a (by simp [Ln.uses])]
  | out k a => simp only [ren, h a (by simp [Ln.uses])]
  | _ => rfl
theorem getD_app {α : Type} {xs : List α} {x d : α} {j : Nat} (h : j < xs.length) : (xs ++ [x]).getD j d = xs.getD j d := by
  rw [List.getD_eq_getElem?_getD, List.getElem?_append_left h, ← List.getD_eq_getElem?_getD]
theorem getD_end {α : Type} {xs : List α} {x d : α} {j : Nat} (h : j = xs.length) : (xs ++ [x]).getD j d = x := by
  subst h
  rw [List.getD_eq_getElem?_getD]
  simp
/-- what a renaming pass over ls has done up to line i -/
structure Pass (ls ls' : List Ln) (N : List Nat) (i : Nat) : Prop where
  len : ls'.length = i
  nlen : N.length = i
  le : ∀ j, j < i → N.getD j 0 ≤ j
  idem : ∀ j, j < i → N.getD (N.getD j 0) 0 = N.getD j 0
  at' : ∀ j, j < i → ls'.getD j .tick = ren N (ls.getD j .tick) ∨ ((ls.getD j .tick).isOp = true ∧ (ls'.getD j .tick).isNum = true)
  val : ∀ j, j < i → (ls.getD j .tick).val = true → (ls.getD (N.getD j 0) .tick).val = true
  ne : ∀ j, j < i → N.getD j 0 ≠ j → ((ls'.getD j .tick).isNum || (ls'.getD j .tick).isOp) = true
theorem Pass.step {ls ls' : List Ln} {N : List Nat} {i c : Nat} {t : Ln} (P : Pass ls ls' N i) (h : okL ls) (hi : i < ls.length) (hc : c = i ∨ (c < i ∧ N.getD c 0 = c))
    (ht : t = ren N (ls.getD i .tick) ∨ ((ls.getD i .tick).isOp = true ∧ t.isNum = true)) (hv : (ls.getD i .tick).val = true → (ls.getD c .tick).val = true) (hn : c ≠ i → (t.isNum || t.isOp) = true) : Pass ls (ls' ++ [t]) (N ++ [c]) (i + 1) := by
  have old : ∀ j, j < i → (N ++ [c]).getD j 0 = N.getD j 0 := fun j hj => getD_app (by rw [P.nlen]; exact hj)
  have new : (N ++ [c]).getD i 0 = c := getD_end P.nlen.symm
  have oldl : ∀ j, j < i → (ls' ++ [t]).getD j .tick = ls'.getD j .tick := fun j hj => getD_app (by rw [P.len]; exact hj)
  have newl : (ls' ++ [t]).getD i .tick = t := getD_end P.len.symm
  have rn : ∀ j, j ≤ i → ren (N ++ [c]) (ls.getD j .tick) = ren N (ls.getD j .tick) := fun j hj => ren_cong fun a ha => old a (Nat.lt_of_lt_of_le (uses_lt h (by omega) ha) hj)
  have cases' : ∀ j, j < i + 1 → j < i ∨ j = i := fun j hj => by omega
  refine ⟨by simp [P.len], by simp [P.nlen], fun j hj => ?_, fun j hj => ?_, fun j hj => ?_, fun j hj hvj => ?_, fun j hj => ?_⟩
  · rcases cases' j hj with q | rfl
    · rw [old j q]; exact P.le j q
    · rw [new]; omega
  · rcases cases' j hj with q | rfl
    · rw [old j q, old _ (Nat.lt_of_le_of_lt (P.le j q) q)]; exact P.idem j q
    · rw [new]
      rcases hc with rfl | ⟨hc1, hc2⟩
      · exact new
      · rw [old c hc1]; exact hc2
  · rcases cases' j hj with q | rfl
    · rw [oldl j q, rn j (by omega)]; exact P.at' j q
    · rw [newl, rn j (Nat.le_refl _)]; exact ht
  · rcases cases' j hj with q | rfl
    · rw [old j q]; exact P.val j q hvj
    · rw [new]; exact hv hvj
  · rcases cases' j hj with q | rfl
    · rw [old j q, oldl j q]; exact P.ne j q
    · rw [new, newl]; exact hn
theorem Pass.zero {ls : List Ln} : Pass ls [] [] 0 := ⟨rfl, rfl, fun j hj => by omega, fun j hj => by omega, fun j hj => by omega, fun j hj => by omega, fun j hj => by omega⟩
theorem short_use {o : Op} {a b n c : Nat} {l r : Option Int} (h : shortP o a b l r n = .line c) : c = a ∨ c = b := by
  unfold shortP at h
  repeat' split at h
  all_goals cases h
  all_goals first | exact .inl rfl | exact .inr rfl | (split <;> first | exact .inl rfl | exact .inr rfl)
theorem kTo_pass {n : Nat} {ls : List Ln} (h : okL ls) (hv : okV ls) : ∀ i, i ≤ ls.length → Pass ls (kTo n ls i).1 (kTo n ls i).2 i
  | 0, _ => Pass.zero
  | i + 1, hi => by
    have P := kTo_pass (n := n) h hv i (by omega)
    have e : ls[i]? = some (ls.getD i .tick) := sh_at (by omega)
    rw [kTo_succ e]
    generalize kTo n ls i = st at *
    obtain ⟨ls', N⟩ := st
    have hN : N.length = i := P.nlen
    unfold kStep
    cases hk : kSh n ls' (ren N (ls.getD i .tick)) with
    | num v =>
      show Pass ls (ls' ++ [.num v]) (N ++ [N.length]) (i + 1)
      rw [hN]
      have ho : (ls.getD i .tick).isOp = true := by
        rw [← ren_op N]
        cases er : ren N (ls.getD i .tick) <;> first | rfl | (rw [er] at hk; cases hk)
      exact P.step h (by omega) (.inl rfl) (.inr ⟨ho, rfl⟩) (fun q => q) (fun q => absurd rfl q)
    | no =>
      show Pass ls (ls' ++ [ren N (ls.getD i .tick)]) (N ++ [N.length]) (i + 1)
      rw [hN]
      exact P.step h (by omega) (.inl rfl) (.inl rfl) (fun q => q) (fun q => absurd rfl q)
    | line c =>
      show Pass ls (ls' ++ [ren N (ls.getD i .tick)]) (N ++ [c]) (i + 1)
      have hu : c ∈ (ren N (ls.getD i .tick)).uses ∧ (ren N (ls.getD i .tick)).isOp = true := by
        cases er : ren N (ls.getD i .tick) with
        | op o a b =>
          rw [er] at hk
          rcases short_use hk with rfl | rfl
          · exact ⟨by simp [Ln.uses], rfl⟩
          · exact ⟨by simp [Ln.uses], rfl⟩
        | _ => rw [er] at hk; cases hk
      obtain ⟨hu1, hu2⟩ := hu
      rw [ren_uses] at hu1
      obtain ⟨a, ha, rfl⟩ := List.mem_map.mp hu1
      have hai : a < i := uses_lt h (by omega) ha
      refine P.step h (by omega) (.inr ⟨Nat.lt_of_le_of_lt (P.le a hai) hai, P.idem a hai⟩) (.inl rfl) (fun _ => P.val a hai (hv i _ e a ha _ (sh_at (by omega)))) (fun _ => by rw [hu2, Bool.or_true])
structure FsOk (ls' : List Ln) (N : List Nat) (fs : Fs) (i : Nat) : Prop where
  at' : ∀ p ∈ fs, p.2 < i ∧ N.getD p.2 0 = p.2 ∧ ls'.getD p.2 .tick = p.1 ∧ (p.1.isNum || p.1.isOp) = true
theorem oTo_pass {ls : List Ln} (h : okL ls) : ∀ i, i ≤ ls.length → Pass ls (oTo ls i).1.1 (oTo ls i).1.2 i ∧ FsOk (oTo ls i).1.1 (oTo ls i).1.2 (oTo ls i).2 i ∧ ∀ j, j < i → (oTo ls i).1.1.getD j .tick = ren (oTo ls i).1.2 (ls.getD j .tick)
  | 0, _ => ⟨Pass.zero, ⟨fun p hp => by cases hp⟩, fun j hj => by omega⟩
  | i + 1, hi => by
    obtain ⟨P, F, A⟩ := oTo_pass h i (by omega)
    have e : ls[i]? = some (ls.getD i .tick) := sh_at (by omega)
    rw [oTo_succ e]
    generalize oTo ls i = st at *
    obtain ⟨⟨ls', N⟩, fs⟩ := st
    have hN : N.length = i := P.nlen
    have hL : ls'.length = i := P.len
    have moreF : ∀ (t : Ln) (c : Nat), FsOk (ls' ++ [t]) (N ++ [c]) fs (i + 1) := fun t c => ⟨fun p hp => by
      obtain ⟨h1, h2, h3, h4⟩ := F.at' p hp
      exact ⟨by omega, by rw [getD_app (by rw [hN]; exact h1)]; exact h2, by rw [getD_app (by rw [hL]; exact h1)]; exact h3, h4⟩⟩
    have moreA : ∀ (c : Nat), ∀ j, j < i + 1 → (ls' ++ [ren N (ls.getD i .tick)]).getD j .tick = ren (N ++ [c]) (ls.getD j .tick) := fun c j hj => by
      have rn : ren (N ++ [c]) (ls.getD j .tick) = ren N (ls.getD j .tick) := ren_cong fun a ha => getD_app (by rw [hN]; exact Nat.lt_of_lt_of_le (uses_lt h (by omega) ha) (by omega))
      rw [rn]
      by_cases q : j < i
      · rw [getD_app (by rw [hL]; exact q)]; exact A j q
      · have : j = i := by omega
        subst this
        exact getD_end hL.symm
    unfold oStep
    simp only
    split
    · rename_i hp
      cases hf : Fs.find fs (ren N (ls.getD i .tick)) with
      | some c =>
        obtain ⟨p, hp1, rfl⟩ := Option.map_eq_some_iff.mp hf
        obtain ⟨h1, h2, h3, h4⟩ := F.at' p (List.mem_of_find?_eq_some hp1)
        have hc : (ls.getD p.2 .tick).val = true := by
          have q := A p.2 h1
          have q2 : ls'.getD p.2 .tick = p.1 := h3
          have q3 : ren N (ls.getD p.2 .tick) = p.1 := q.symm.trans q2
          have q4 := val_plain h4
          rw [← q3, ren_val] at q4
          exact q4
        exact ⟨P.step h (by omega) (.inr ⟨h1, h2⟩) (.inl rfl) (fun _ => hc) (fun _ => hp), moreF _ _, moreA _⟩
      | none =>
        show Pass ls (ls' ++ [_]) (N ++ [N.length]) (i + 1) ∧ FsOk (ls' ++ [_]) (N ++ [N.length]) (fs ++ [(ren N (ls.getD i .tick), N.length)]) (i + 1) ∧ _
        rw [hN]
        refine ⟨P.step h (by omega) (.inl rfl) (.inl rfl) (fun q => q) (fun q => absurd rfl q), ⟨fun p hp' => ?_⟩, moreA _⟩
        rcases List.mem_append.mp hp' with hp' | hp'
        · exact (moreF _ _).at' p hp'
        · rw [List.mem_singleton.mp hp']
          exact ⟨Nat.lt_succ_self i, getD_end hN.symm, getD_end hL.symm, hp⟩
    · show Pass ls (ls' ++ [_]) (N ++ [N.length]) (i + 1) ∧ FsOk (ls' ++ [_]) (N ++ [N.length]) fs (i + 1) ∧ _
      rw [hN]
      exact ⟨P.step h (by omega) (.inl rfl) (.inl rfl) (fun q => q) (fun q => absurd rfl q), moreF _ _, moreA _⟩
end K56
set_option Elab.async false
set_option linter.all false
set_option maxRecDepth 100000
set_option maxHeartbeats 8000000
set_option autoImplicit false
namespace K56
open PySem PySem.Spec L2 DL
abbrev Rw := List Ln × List (List Nat)
structure Ok (r : Rw) : Prop where
  l : okL r.1
  v : okV r.1
  n : r.1.length ≤ 35
  m : okM r.1.length r.2
  s : r.2.length ≤ 1000
  mv : ∀ m ∈ r.2, ∀ i ∈ m, (r.1.getD i .tick).val = true
def fK (n : Nat) (r : Rw) : Rw := ((kTo n r.1 r.1.length).1, renM (kTo n r.1 r.1.length).2 r.2)
def fO (r : Rw) : Rw := ((oTo r.1 r.1.length).1.1, renM (oTo r.1 r.1.length).1.2 r.2)
def fL (st : List Bool) (r : Rw) : Rw := ((lTo (r.1.zip st) r.1.length).1, renM (lTo (r.1.zip st) r.1.length).2 r.2)
def fS (r : Rw) : Rw := fL (stays r.1) r
def fD (r : Rw) : Rw := fL (stD r.1 r.2) r
def turn (whole : Bool) (n : Nat) (r : Rw) : Rw := fD (fO (if whole = true then fS (fK n r) else r))
/-- a line is named -/
def named (r : Rw) (j : Nat) : Prop := (∃ a, a < r.1.length ∧ j ∈ (r.1.getD a .tick).uses) ∨ ∃ m ∈ r.2, j ∈ m
theorem val_lt {ls : List Ln} {j : Nat} (h : (ls.getD j .tick).val = true) : j < ls.length := by
  by_cases q : j < ls.length
  · exact q
  · rw [List.getD_eq_getElem?_getD, List.getElem?_eq_none (by omega)] at h
    cases h
theorem okV_at {ls : List Ln} (hv : okV ls) {i a : Nat} (hi : i < ls.length) (ha : a ∈ (ls.getD i .tick).uses) (h : okL ls) : (ls.getD a .tick).val = true :=
  hv i _ (sh_at hi) a ha _ (sh_at (Nat.lt_trans (uses_lt h hi ha) hi))
theorem okV_of {ls : List Ln} (q : ∀ i, i < ls.length → ∀ a ∈ (ls.getD i .tick).uses, (ls.getD a .tick).val = true) : okV ls := fun i l hl a ha x hx => by
  have hi := (List.getElem?_eq_some_iff.mp hl).1
  have e : ls.getD i .tick = l := by rw [List.getD_eq_getElem?_getD, hl]; rfl
  have e2 : ls.getD a .tick = x := by rw [List.getD_eq_getElem?_getD, hx]; rfl
  rw [← e2]
  exact q i hi a (by rw [e]; exact ha)
theorem okL_of {ls : List Ln} (q : ∀ i, i < ls.length → ∀ a ∈ (ls.getD i .tick).uses, a < i) : okL ls := fun i l hl a ha => by
  have hi := (List.getElem?_eq_some_iff.mp hl).1
  have e : ls.getD i .tick = l := by rw [List.getD_eq_getElem?_getD, hl]; rfl
  exact q i hi a (by rw [e]; exact ha)
theorem Pass.uses {ls ls' : List Ln} {N : List Nat} {n : Nat} (P : Pass ls ls' N n) {j a : Nat} (hj : j < n) (ha : a ∈ (ls'.getD j .tick).uses) : ∃ b ∈ (ls.getD j .tick).uses, a = N.getD b 0 := by
  rcases P.at' j hj with e | ⟨_, e⟩
  · rw [e, ren_uses] at ha
    obtain ⟨b, hb, rfl⟩ := List.mem_map.mp ha
    exact ⟨b, hb, rfl⟩
  · cases q : ls'.getD j .tick <;> rw [q] at e ha <;> first | (simp [Ln.uses] at ha; done) | cases e
theorem Pass.vals {ls ls' : List Ln} {N : List Nat} {n : Nat} (P : Pass ls ls' N n) {j : Nat} (hj : j < n) (h : (ls.getD j .tick).val = true) : (ls'.getD j .tick).val = true := by
  rcases P.at' j hj with e | ⟨_, e⟩
  · rw [e, ren_val]; exact h
  · exact val_plain (by rw [e]; rfl)
theorem renM_mem {f : List Nat} {ms : List (List Nat)} {m' : List Nat} (h : m' ∈ renM f ms) : ∃ m ∈ ms, m' = m.map fun i => f.getD i 0 := by
  obtain ⟨m, hm, rfl⟩ := List.mem_map.mp h
  exact ⟨m, hm, rfl⟩
theorem Pass.ok {ls ls' : List Ln} {N : List Nat} {ms : List (List Nat)} (P : Pass ls ls' N ls.length) (h : Ok (ls, ms)) : Ok (ls', renM N ms) := by
  have hl := h.l
  have hv := h.v
  have hm := h.m
  refine ⟨okL_of fun i hi a ha => ?_, okV_of fun i hi a ha => ?_, ?_, fun m' hm' => ?_, ?_, fun m' hm' i hi => ?_⟩
  · have hi' : i < ls.length := P.len ▸ hi
    obtain ⟨b, hb, rfl⟩ := P.uses hi' ha
    have hbi := uses_lt hl hi' hb
    exact Nat.lt_of_le_of_lt (P.le b (Nat.lt_trans hbi hi')) hbi
  · have hi' : i < ls.length := P.len ▸ hi
    obtain ⟨b, hb, rfl⟩ := P.uses hi' ha
    have hbi : b < ls.length := Nat.lt_trans (uses_lt hl hi' hb) hi'
    exact P.vals (Nat.lt_of_le_of_lt (P.le b hbi) hbi) (P.val b hbi (okV_at hv hi' hb hl))
  · show ls'.length ≤ 35
    rw [P.len]
    exact h.n
  · obtain ⟨m, hmm, rfl⟩ := renM_mem hm'
    obtain ⟨q1, q2⟩ := hm m hmm
    refine ⟨by simpa using q1, fun i hi => ?_⟩
    obtain ⟨b, hb, rfl⟩ := List.mem_map.mp hi
    show _ < ls'.length
    rw [P.len]
    exact Nat.lt_of_le_of_lt (P.le b (q2 b hb)) (q2 b hb)
  · show (renM N ms).length ≤ 1000
    rw [renM, List.length_map]
    exact h.s
  · obtain ⟨m, hmm, rfl⟩ := renM_mem hm'
    obtain ⟨b, hb, rfl⟩ := List.mem_map.mp hi
    have hbn : b < ls.length := (hm m hmm).2 b hb
    exact P.vals (Nat.lt_of_le_of_lt (P.le b hbn) hbn) (P.val b hbn (h.mv m hmm b hb))
theorem Pass.named {ls ls' : List Ln} {N : List Nat} {ms : List (List Nat)} (P : Pass ls ls' N ls.length) (h : Ok (ls, ms)) {j : Nat} (q : named (ls', renM N ms) j) : N.getD j 0 = j := by
  rcases q with ⟨a, ha, hj⟩ | ⟨m', hm', hj⟩
  · have ha' : a < ls.length := P.len ▸ ha
    obtain ⟨b, hb, rfl⟩ := P.uses ha' hj
    exact P.idem b (Nat.lt_trans (uses_lt h.l ha' hb) ha')
  · obtain ⟨m, hmm, rfl⟩ := renM_mem hm'
    obtain ⟨b, hb, rfl⟩ := List.mem_map.mp hj
    exact P.idem b ((h.m m hmm).2 b hb)
theorem fK_pass {n : Nat} {r : Rw} (h : Ok r) : Pass r.1 (kTo n r.1 r.1.length).1 (kTo n r.1 r.1.length).2 r.1.length := kTo_pass h.l h.v _ (Nat.le_refl _)
theorem fO_pass {r : Rw} (h : Ok r) : Pass r.1 (oTo r.1 r.1.length).1.1 (oTo r.1 r.1.length).1.2 r.1.length := (oTo_pass h.l _ (Nat.le_refl _)).1
theorem fK_ok {n : Nat} {r : Rw} (h : Ok r) : Ok (fK n r) := (fK_pass h).ok h
theorem fO_ok {r : Rw} (h : Ok r) : Ok (fO r) := (fO_pass h).ok h
/-! ### lines left -/
def cnt (st : List Bool) (i : Nat) : Nat := (st.take i).countP fun b => b
theorem cnt_succ {st : List Bool} {i : Nat} (h : i < st.length) : cnt st (i + 1) = cnt st i + if st.getD i false = true then 1 else 0 := by
  unfold cnt
  rw [List.take_succ_eq_append_getElem h, List.countP_append, List.getD_eq_getElem?_getD, List.getElem?_eq_getElem h]
  cases st[i] <;> rfl
theorem cnt_mono {st : List Bool} {i j : Nat} (h : i ≤ j) : cnt st i ≤ cnt st j := by
  unfold cnt
  exact List.Sublist.countP_le (List.take_sublist_take_left h)
theorem cnt_lt {st : List Bool} {i j : Nat} (h : i < j) (hi : i < st.length) (q : st.getD i false = true) : cnt st i < cnt st j := by
  have := cnt_mono (st := st) (show i + 1 ≤ j from h)
  rw [cnt_succ hi, if_pos q] at this
  omega
theorem cnt_le {st : List Bool} : ∀ i, cnt st i ≤ i := fun i => by
  unfold cnt
  exact Nat.le_trans (List.countP_le_length) (by rw [List.length_take]; omega)
/-- what lines_left has done up to line i -/
structure Left (ls ls' : List Ln) (N : List Nat) (st : List Bool) (i : Nat) : Prop where
  len : ls'.length = cnt st i
  nlen : N.length = i
  nat : ∀ j, j < i → N.getD j 0 = cnt st j
  all : ∀ p, p < ls'.length → ∃ j, j < i ∧ st.getD j false = true ∧ p = cnt st j ∧ ls'.getD p .tick = ren N (ls.getD j .tick)
  kept : ∀ j, j < i → st.getD j false = true → ls'.getD (cnt st j) .tick = ren N (ls.getD j .tick)
  ops : ls'.countP Ln.isOp ≤ (ls.take i).countP Ln.isOp
theorem lTo_left {ls : List Ln} {st : List Bool} (h : okL ls) (hs : st.length = ls.length) : ∀ i, i ≤ ls.length → Left ls (lTo (ls.zip st) i).1 (lTo (ls.zip st) i).2 st i
  | 0, _ => ⟨by simp [lTo, cnt], rfl, fun j hj => by omega, fun p hp => by simp [lTo] at hp, fun j hj => by omega, by simp [lTo]⟩
  | i + 1, hi => by
    have P := lTo_left h hs i (by omega)
    have hi' : i < ls.length := by omega
    have e1 : ls[i]? = some (ls.getD i .tick) := sh_at hi'
    have e2 : st[i]? = some (st.getD i false) := by rw [List.getD_eq_getElem?_getD, List.getElem?_eq_getElem (by omega)]; rfl
    have e : (ls.zip st)[i]? = some (ls.getD i .tick, st.getD i false) := by rw [List.getElem?_zip_eq_some]; exact ⟨e1, e2⟩
    rw [lTo_succ e]
    generalize lTo (ls.zip st) i = s at *
    obtain ⟨ls', N⟩ := s
    have hN : N.length = i := P.nlen
    have hL : ls'.length = cnt st i := P.len
    have rn : ∀ j, j < i → ren (N ++ [ls'.length]) (ls.getD j .tick) = ren N (ls.getD j .tick) := fun j hj => ren_cong fun a ha => getD_app (by rw [hN]; exact Nat.lt_trans (uses_lt h (by omega) ha) hj)
    have nat' : ∀ j, j < i + 1 → (N ++ [ls'.length]).getD j 0 = cnt st j := fun j hj => by
      by_cases q : j < i
      · rw [getD_app (by rw [hN]; exact q)]; exact P.nat j q
      · have : j = i := by omega
        subst this
        rw [getD_end hN.symm]; exact hL
    have tk : (ls.take (i + 1)).countP Ln.isOp = (ls.take i).countP Ln.isOp + if (ls.getD i .tick).isOp = true then 1 else 0 := by
      rw [List.take_succ_eq_append_getElem hi', List.countP_append, List.getD_eq_getElem?_getD, List.getElem?_eq_getElem hi']
      show _ + List.countP Ln.isOp [ls[i]] = _ + if (ls[i]).isOp = true then 1 else 0
      rw [List.countP_singleton]
    have cs := cnt_succ (st := st) (i := i) (by omega)
    unfold lStep
    by_cases q : st.getD i false = true
    · simp only [q, if_true]
      rw [q, if_pos rfl] at cs
      refine ⟨by simp [hL, cs], by simp [hN], nat', fun p hp => ?_, fun j hj hj2 => ?_, ?_⟩
      · by_cases hp2 : p < ls'.length
        · obtain ⟨j, j1, j2, j3, j4⟩ := P.all p hp2
          exact ⟨j, by omega, j2, j3, by rw [getD_app hp2, rn j j1]; exact j4⟩
        · have : p = ls'.length := by simp at hp; omega
          exact ⟨i, by omega, q, by rw [this]; exact hL, getD_end this⟩
      · by_cases q2 : j < i
        · have := P.kept j q2 hj2
          have hlt : cnt st j < ls'.length := by rw [hL]; exact cnt_lt q2 (by omega) hj2
          rw [getD_app hlt, rn j q2]
          exact this
        · have : j = i := by omega
          subst this
          exact getD_end hL.symm
      · rw [List.countP_append, tk, List.countP_singleton, ren_op]
        have := P.ops
        simp only at this
        omega
    · have q' : st.getD i false = false := by simpa using q
      simp only [q', Bool.false_eq_true, if_false]
      rw [if_neg q] at cs
      refine ⟨by simp [hL, cs], by simp [hN], nat', fun p hp => ?_, fun j hj hj2 => ?_, ?_⟩
      · obtain ⟨j, j1, j2, j3, j4⟩ := P.all p hp
        exact ⟨j, by omega, j2, j3, by rw [rn j j1]; exact j4⟩
      · by_cases q2 : j < i
        · rw [rn j q2]
          exact P.kept j q2 hj2
        · have : j = i := by omega
          subst this
          exact absurd hj2 q
      · rw [tk]
        exact Nat.le_trans P.ops (Nat.le_add_right _ _)
end K56
set_option Elab.async false
set_option linter.all false
set_option maxRecDepth 100000
set_option maxHeartbeats 8000000
set_option autoImplicit false
namespace K56
open PySem PySem.Spec L2 DL
theorem getD_lt {st : List Bool} {j : Nat} (h : st.getD j false = true) : j < st.length := by
  by_cases q : j < st.length
  · exact q
  · rw [List.getD_eq_getElem?_getD, List.getElem?_eq_none (by omega)] at h
    cases h
/-- what stays names what stays -/
structure Shut (st : List Bool) (r : Rw) : Prop where
  len : st.length = r.1.length
  u : ∀ j, j < r.1.length → st.getD j false = true → ∀ a ∈ (r.1.getD j .tick).uses, st.getD a false = true
  m : ∀ m ∈ r.2, ∀ i ∈ m, st.getD i false = true
theorem fL_ok {st : List Bool} {r : Rw} (h : Ok r) (c : Shut st r) : Ok (fL st r) := by
  have P := lTo_left h.l c.len r.1.length (Nat.le_refl _)
  unfold fL
  generalize lTo (r.1.zip st) r.1.length = s at *
  obtain ⟨ls', N⟩ := s
  have hL : ls'.length = cnt st r.1.length := P.len
  have line : ∀ i, i < ls'.length → ∀ a ∈ (ls'.getD i .tick).uses, ∃ j b, j < r.1.length ∧ st.getD j false = true ∧ i = cnt st j ∧ b ∈ (r.1.getD j .tick).uses ∧ b < j ∧ st.getD b false = true ∧ a = cnt st b := fun i hi a ha => by
    obtain ⟨j, j1, j2, j3, j4⟩ := P.all i hi
    rw [show ls'.getD i .tick = ren N (r.1.getD j .tick) from j4, ren_uses] at ha
    obtain ⟨b, hb, rfl⟩ := List.mem_map.mp ha
    have hbj := uses_lt h.l j1 hb
    exact ⟨j, b, j1, j2, j3, hb, hbj, c.u j j1 j2 b hb, P.nat b (by omega)⟩
  have valK : ∀ b, b < r.1.length → st.getD b false = true → (r.1.getD b .tick).val = true → (ls'.getD (cnt st b) .tick).val = true := fun b hb hb2 hv => by
    have := P.kept b hb hb2
    rw [show ls'.getD (cnt st b) .tick = ren N (r.1.getD b .tick) from this, ren_val]
    exact hv
  refine ⟨okL_of fun i hi a ha => ?_, okV_of fun i hi a ha => ?_, ?_, fun m' hm' => ?_, ?_, fun m' hm' i hi => ?_⟩
  · obtain ⟨j, b, j1, j2, rfl, hb, hbj, hb2, rfl⟩ := line i hi a ha
    exact cnt_lt hbj (getD_lt hb2) hb2
  · obtain ⟨j, b, j1, j2, rfl, hb, hbj, hb2, rfl⟩ := line i hi a ha
    exact valK b (by omega) hb2 (okV_at h.v j1 hb h.l)
  · show ls'.length ≤ 35
    rw [hL]
    exact Nat.le_trans (cnt_le _) h.n
  · obtain ⟨m, hmm, rfl⟩ := renM_mem hm'
    obtain ⟨q1, q2⟩ := h.m m hmm
    refine ⟨by simpa using q1, fun i hi => ?_⟩
    obtain ⟨b, hb, rfl⟩ := List.mem_map.mp hi
    have hbn := q2 b hb
    show N.getD b 0 < ls'.length
    rw [P.nat b hbn, hL]
    have := c.m m hmm b hb
    exact cnt_lt hbn (getD_lt this) this
  · show (renM N r.2).length ≤ 1000
    rw [renM, List.length_map]
    exact h.s
  · obtain ⟨m, hmm, rfl⟩ := renM_mem hm'
    obtain ⟨b, hb, rfl⟩ := List.mem_map.mp hi
    have hbn := (h.m m hmm).2 b hb
    rw [P.nat b hbn]
    exact valK b hbn (c.m m hmm b hb) (h.mv m hmm b hb)
theorem stays_at {ls : List Ln} {j : Nat} (h : (ls.getD j .tick).val = true) : (stays ls).getD j false = true := by
  have hj := val_lt h
  have e : (stays ls).getD j false = !passes ls (ls.getD j .tick) := getD_map hj
  rw [e]
  cases q : ls.getD j .tick <;> rw [q] at h <;> first | rfl | cases h
theorem shutS {r : Rw} (h : Ok r) : Shut (stays r.1) r := ⟨by simp [stays], fun j hj _ a ha => stays_at (okV_at h.v hj ha h.l), fun m hm i hi => stays_at (h.mv m hm i hi)⟩
theorem stD_at {r : Rw} {j : Nat} (hj : j < r.1.length) : (stD r.1 r.2).getD j false = (!((r.1.getD j .tick).isNum || (r.1.getD j .tick).isOp) || (reach r.1 (wantL r.1 r.2)).getD j false) := getD_range hj
theorem gP_of {l : Ln} {b : Bool} {a j : Nat} (ha : a ∈ l.uses) (hs : (!(l.isNum || l.isOp) || b) = true) : gP j l b = true := by
  have hu : l.uses ≠ [] := fun q => by rw [q] at ha; cases ha
  unfold gP
  cases l <;> first
    | rfl
    | (exact absurd rfl hu)
    | (cases b <;> first | rfl | cases hs)
theorem shutD {r : Rw} (h : Ok r) : Shut (stD r.1 r.2) r := by
  refine ⟨stD_len, fun j hj hs a ha => ?_, fun m hm i hi => ?_⟩
  · have haj := uses_lt h.l hj ha
    rw [stD_at (by omega)]
    have hg : gP j (r.1.getD j .tick) ((aTo gP r.1 (wantL r.1 r.2) r.1.length).getD j false) = true := by
      rw [stD_at hj] at hs
      exact gP_of ha hs
    have := aTo_closed h.l want_len hj hg ha
    unfold reach
    rw [this, Bool.or_true]
  · have hin := (h.m m hm).2 i hi
    rw [stD_at hin]
    have hw : (wantL r.1 r.2).getD i false = true := by rw [want_at hin]; exact decide_eq_true ⟨m, hm, hi⟩
    have := aTo_keep (g := gP) want_len hin hw
    unfold reach
    rw [this, Bool.or_true]
theorem fS_ok {r : Rw} (h : Ok r) : Ok (fS r) := fL_ok h (shutS h)
theorem fD_ok {r : Rw} (h : Ok r) : Ok (fD r) := fL_ok h (shutD h)
theorem turn_ok {wh : Bool} {n : Nat} {r : Rw} (h : Ok r) : Ok (turn wh n r) := by
  unfold turn
  cases wh with
  | true => exact fD_ok (fO_ok (fS_ok (fK_ok h)))
  | false => exact fD_ok (fO_ok h)
end K56
set_option Elab.async false
set_option linter.all false
set_option maxRecDepth 100000
set_option maxHeartbeats 8000000
set_option autoImplicit false
namespace K56
open PySem PySem.Spec L2 DL
abbrev ops (ls : List Ln) : Nat := ls.countP Ln.isOp
def mu (r : Rw) : Nat := r.1.length + ops r.1
theorem ops_cong : ∀ (ls ls' : List Ln), ls'.length = ls.length → (∀ j, j < ls.length → ls'.getD j .tick = ls.getD j .tick ∨ ((ls.getD j .tick).isOp = true ∧ (ls'.getD j .tick).isNum = true)) → ops ls' ≤ ops ls ∧ (ops ls' = ops ls → ls' = ls)
  | [], ls', hl, _ => by
    rw [List.length_eq_zero_iff.mp hl]
    exact ⟨Nat.le_refl _, fun _ => rfl⟩
  | l :: ls, [], hl, _ => by cases hl
  | l :: ls, l' :: ls', hl, h => by
    have hl' : ls'.length = ls.length := by simpa using hl
    obtain ⟨i1, i2⟩ := ops_cong ls ls' hl' fun j hj => by
      have := h (j + 1) (by simp; omega)
      simpa using this
    have h0 : l' = l ∨ (l.isOp = true ∧ l'.isNum = true) := by simpa using h 0 (by simp)
    unfold ops at *
    rw [List.countP_cons, List.countP_cons]
    rcases h0 with rfl | ⟨q1, q2⟩
    · refine ⟨by omega, fun q => ?_⟩
      rw [i2 (by omega)]
    · have q3 : l'.isOp = false := by cases l' <;> first | rfl | cases q2
      rw [q1, q3]
      simp only [Bool.false_eq_true, if_false, if_true]
      exact ⟨by omega, fun q => by omega⟩
theorem ops_ren (f : List Nat) (ls : List Ln) : ops (ls.map (ren f)) = ops ls := by
  unfold ops
  rw [List.countP_map]
  congr 1
  funext l
  exact ren_op f l
theorem map_ren_id {ls : List Ln} {f : List Nat} (h : okL ls) (hf : ∀ j, j < ls.length → f.getD j 0 = j) : ls.map (ren f) = ls := by
  refine List.ext_getElem (by simp) fun j h1 h2 => ?_
  rw [List.getElem_map]
  refine ren_id fun a ha => hf a ?_
  have := h j ls[j] (List.getElem?_eq_getElem h2) a ha
  omega
theorem renM_id {ms : List (List Nat)} {f : List Nat} {n : Nat} (hm : okM n ms) (hf : ∀ j, j < n → f.getD j 0 = j) : renM f ms = ms := by
  unfold renM
  have : ∀ m ∈ ms, (m.map fun i => f.getD i 0) = m := fun m hmm => by
    have e : m.map (fun i => f.getD i 0) = m.map id := List.map_congr_left fun i hi => hf i ((hm m hmm).2 i hi)
    rw [e, List.map_id]
  rw [List.map_congr_left this, List.map_id']
theorem list_getD {ls ls' : List Ln} (hl : ls'.length = ls.length) (h : ∀ j, j < ls.length → ls'.getD j .tick = ls.getD j .tick) : ls' = ls := by
  refine List.ext_getElem hl fun j h1 h2 => ?_
  have := h j h2
  rw [List.getD_eq_getElem?_getD, List.getD_eq_getElem?_getD, List.getElem?_eq_getElem h1, List.getElem?_eq_getElem h2] at this
  exact this
theorem fK_len {n : Nat} {r : Rw} (h : Ok r) : (fK n r).1.length = r.1.length := (fK_pass h).len
theorem fO_len {r : Rw} (h : Ok r) : (fO r).1.length = r.1.length := (fO_pass h).len
theorem mapren_getD {ls : List Ln} {f : List Nat} {j : Nat} (hj : j < ls.length) : (ls.map (ren f)).getD j .tick = ren f (ls.getD j .tick) := getD_map hj
theorem fK_ops {n : Nat} {r : Rw} (h : Ok r) : ops (fK n r).1 ≤ ops r.1 ∧ (ops (fK n r).1 = ops r.1 → (fK n r).1 = r.1.map (ren (kTo n r.1 r.1.length).2)) := by
  have P := fK_pass (n := n) h
  obtain ⟨q1, q2⟩ := ops_cong (r.1.map (ren (kTo n r.1 r.1.length).2)) (kTo n r.1 r.1.length).1 (by rw [P.len, List.length_map]) fun j hj => by
    rw [List.length_map] at hj
    rw [mapren_getD hj, ren_op]
    exact P.at' j hj
  rw [ops_ren] at q1 q2
  exact ⟨q1, q2⟩
theorem fO_is {r : Rw} (h : Ok r) : (fO r).1 = r.1.map (ren (oTo r.1 r.1.length).1.2) := by
  obtain ⟨P, _, A⟩ := oTo_pass h.l r.1.length (Nat.le_refl _)
  refine list_getD (by rw [List.length_map]; exact P.len) fun j hj => ?_
  rw [List.length_map] at hj
  rw [mapren_getD hj]
  exact A j hj
theorem fO_ops {r : Rw} (h : Ok r) : ops (fO r).1 = ops r.1 := by rw [fO_is h, ops_ren]
theorem cnt_all {st : List Bool} : ∀ i, i ≤ st.length → cnt st i = i → ∀ j, j < i → st.getD j false = true
  | 0, _, _, j, hj => by omega
  | i + 1, hi, e, j, hj => by
    have c := cnt_succ (st := st) (i := i) (by omega)
    have l := cnt_le (st := st) i
    have q : st.getD i false = true := by
      by_cases z : st.getD i false = true
      · exact z
      · rw [if_neg z] at c; omega
    rw [if_pos q] at c
    by_cases z : j < i
    · exact cnt_all i (by omega) (by omega) j z
    · have : j = i := by omega
      rw [this]; exact q
theorem cnt_id {st : List Bool} : ∀ i, i ≤ st.length → (∀ j, j < i → st.getD j false = true) → cnt st i = i
  | 0, _, _ => rfl
  | i + 1, hi, h => by
    rw [cnt_succ (by omega), if_pos (h i (by omega)), cnt_id i (by omega) fun j hj => h j (by omega)]
theorem fL_len {st : List Bool} {r : Rw} (h : Ok r) (c : Shut st r) : (fL st r).1.length ≤ r.1.length ∧ ops (fL st r).1 ≤ ops r.1 ∧ ((fL st r).1.length = r.1.length → (∀ j, j < r.1.length → st.getD j false = true) ∧ fL st r = r) := by
  have P := lTo_left h.l c.len r.1.length (Nat.le_refl _)
  have hL : (fL st r).1.length = cnt st r.1.length := P.len
  refine ⟨by rw [hL]; exact cnt_le _, ?_, fun q => ?_⟩
  · have := P.ops
    rw [List.take_length] at this
    exact this
  · rw [hL] at q
    have ha := cnt_all r.1.length (by rw [c.len]; exact Nat.le_refl _) q
    refine ⟨ha, ?_⟩
    have hN : ∀ j, j < r.1.length → (lTo (r.1.zip st) r.1.length).2.getD j 0 = j := fun j hj => by
      rw [P.nat j hj]
      exact cnt_id j (by rw [c.len]; omega) fun k hk => ha k (by omega)
    have e1 : (lTo (r.1.zip st) r.1.length).1 = r.1 := by
      have e : (lTo (r.1.zip st) r.1.length).1 = r.1.map (ren (lTo (r.1.zip st) r.1.length).2) := by
        refine list_getD (by rw [List.length_map, P.len]; exact q) fun j hj => ?_
        rw [List.length_map] at hj
        rw [mapren_getD hj]
        have := P.kept j hj (ha j hj)
        rw [cnt_id j (by rw [c.len]; omega) fun k hk => ha k (by omega)] at this
        exact this
      rw [e, map_ren_id h.l hN]
    have e2 : renM (lTo (r.1.zip st) r.1.length).2 r.2 = r.2 := renM_id h.m hN
    unfold fL
    rw [e1, e2]
/-- what is not named and plain is dropped -/
theorem drop_named {r : Rw} (h : Ok r) (q : (fD r).1.length = r.1.length) : (∀ j, j < r.1.length → ((r.1.getD j .tick).isNum || (r.1.getD j .tick).isOp) = true → named r j) ∧ fD r = r := by
  obtain ⟨ha, he⟩ := (fL_len h (shutD h)).2.2 q
  refine ⟨fun j hj hp => ?_, he⟩
  have := ha j hj
  rw [stD_at hj, hp, Bool.not_true, Bool.false_or] at this
  rcases aTo_only (g := gP) want_len hj _ (Nat.le_refl _) this with w | ⟨a, ha, hu⟩
  · rw [want_at hj] at w
    exact .inr (of_decide_eq_true w)
  · exact .inl ⟨a, ha, hu⟩
/-- once and dropped: no line less, nothing changed -/
theorem od_same {r : Rw} (h : Ok r) (q : (fD (fO r)).1.length = r.1.length) : fO r = r ∧ fD r = r ∧ ∀ j, j < r.1.length → ((r.1.getD j .tick).isNum || (r.1.getD j .tick).isOp) = true → named r j := by
  have P := fO_pass h
  have q' : (fD (fO r)).1.length = (fO r).1.length := by rw [q, fO_len h]
  obtain ⟨hn, he⟩ := drop_named (fO_ok h) q'
  have hN : ∀ j, j < r.1.length → (oTo r.1 r.1.length).1.2.getD j 0 = j := fun j hj => by
    by_cases z : (oTo r.1 r.1.length).1.2.getD j 0 = j
    · exact z
    · have hp := P.ne j hj z
      exact P.named h (hn j (by rw [fO_len h]; exact hj) hp)
  have e1 : (fO r).1 = r.1 := by rw [fO_is h, map_ren_id h.l hN]
  have e2 : (fO r).2 = r.2 := renM_id h.m hN
  have e : fO r = r := Prod.ext e1 e2
  rw [e] at hn he
  exact ⟨e, he, hn⟩
theorem turn_mu {wh : Bool} {n : Nat} {r : Rw} (h : Ok r) : mu (turn wh n r) < mu r ∨ turn wh n r = r := by
  by_cases lt : mu (turn wh n r) < mu r
  · exact .inl lt
  refine .inr ?_
  cases wh with
  | false =>
    have hO := fO_ok h
    have d := fL_len hO (shutD hO)
    have oL := fO_len h
    have oO := fO_ops h
    unfold mu turn at lt
    simp only [Bool.false_eq_true, if_false] at lt
    have hlen : (fD (fO r)).1.length = r.1.length := by
      have d1 := d.1
      have d2 := d.2.1
      unfold fD at *
      omega
    obtain ⟨e1, e2, _⟩ := od_same h hlen
    unfold turn
    simp only [Bool.false_eq_true, if_false]
    rw [e1, e2]
  | true =>
    have hK := fK_ok (n := n) h
    have hS := fS_ok hK
    have hO := fO_ok hS
    have dK := fK_len (n := n) h
    obtain ⟨kO, kE⟩ := fK_ops (n := n) h
    have s := fL_len hK (shutS hK)
    have oL := fO_len hS
    have oO := fO_ops hS
    have d := fL_len hO (shutD hO)
    unfold mu turn at lt
    simp only [if_true] at lt
    have s1 : (fS (fK n r)).1.length ≤ (fK n r).1.length := s.1
    have s2 : ops (fS (fK n r)).1 ≤ ops (fK n r).1 := s.2.1
    have d1 : (fD (fO (fS (fK n r)))).1.length ≤ (fO (fS (fK n r))).1.length := d.1
    have d2 : ops (fD (fO (fS (fK n r)))).1 ≤ ops (fO (fS (fK n r))).1 := d.2.1
    have hlen : (fD (fO (fS (fK n r)))).1.length = (fS (fK n r)).1.length := by omega
    have hlS : (fS (fK n r)).1.length = (fK n r).1.length := by omega
    have hops : ops (fK n r).1 = ops r.1 := by omega
    obtain ⟨e1, e2, e3⟩ := od_same hS hlen
    have eS : fS (fK n r) = fK n r := (s.2.2 hlS).2
    rw [eS] at e1 e2 e3
    have P := fK_pass (n := n) h
    have hN : ∀ j, j < r.1.length → (kTo n r.1 r.1.length).2.getD j 0 = j := fun j hj => by
      by_cases z : (kTo n r.1 r.1.length).2.getD j 0 = j
      · exact z
      · have hp := P.ne j hj z
        exact P.named h (e3 j (by rw [dK]; exact hj) hp)
    have eK : fK n r = r := Prod.ext (by rw [kE hops, map_ren_id h.l hN]) (renM_id h.m hN)
    unfold turn
    simp only [if_true]
    rw [eS, e1, e2, eK]
/-! ### again and again -/
def fixT (wh : Bool) (n : Nat) : Nat → Rw → Rw
  | 0, r => r
  | k + 1, r => if turn wh n r = r then r else fixT wh n k (turn wh n r)
theorem fix_ok {wh : Bool} {n : Nat} : ∀ {k : Nat} {r : Rw}, Ok r → Ok (fixT wh n k r)
  | 0, r, h => h
  | k + 1, r, h => by
    unfold fixT
    split
    · exact h
    · exact fix_ok (turn_ok h)
theorem fix_end {wh : Bool} {n : Nat} : ∀ {k : Nat} {r : Rw}, Ok r → mu r < k → turn wh n (fixT wh n k r) = fixT wh n k r
  | 0, r, h, hk => by omega
  | k + 1, r, h, hk => by
    unfold fixT
    split
    · rename_i e; exact e
    · rename_i e
      rcases turn_mu (wh := wh) (n := n) h with q | q
      · exact fix_end (turn_ok h) (by omega)
      · exact absurd q e
theorem mu_le {r : Rw} (h : Ok r) : mu r < 80 := by
  have h1 := h.n
  have h2 : ops r.1 ≤ r.1.length := List.countP_le_length
  unfold mu
  omega
end K56
set_option Elab.async false
set_option linter.all false
set_option maxRecDepth 100000
set_option maxHeartbeats 8000000
set_option autoImplicit false
namespace K56
open PySem PySem.Spec L2 DL
variable {K : Fg} {μ : Mu}
abbrev mR (K : Fg) (r : Rw) : D := mid K r.1 r.2
abbrev rR (r : Rw) : D := row r.1 r.2
section
variable {r : Rw} {n : Nat}
theorem Ok.lt (h : Ok r) : r.1.length < 1000 := Nat.lt_of_le_of_lt h.n (by decide)
theorem p_known (w : Wf μ) (h : Ok r) (hn : n ≤ 60) : S_known K [mR K r, .int (n : Int)] μ = some (.ok (mR K (fK n r)), μ) := known_eq w hn h.l h.lt h.m h.s
theorem p_once (w : Wf μ) (h : Ok r) (d : D) : S_once K [mR K r, d] μ = some (.ok (mR K (fO r)), μ) := once_eq w h.l h.lt h.m h.s
theorem p_spared (w : Wf μ) (h : Ok r) (d : D) : S_spared K [mR K r, d] μ = some (.ok (mR K (fS r)), μ) := spared_eq w h.l h.lt h.m h.s
theorem p_dropped (w : Wf μ) (h : Ok r) (d : D) : S_dropped K [mR K r, d] μ = some (.ok (mR K (fD r)), μ) := dropped_eq w h.l h.lt h.m h.s
theorem l_known (w : Wf μ) (h : Ok r) (hn : n ≤ 60) : S__law_known K [rR r, .int (n : Int)] μ = some (.ok (rR (fK n r)), μ) := law_known_eq w hn h.l h.lt h.m h.s
theorem l_once (w : Wf μ) (h : Ok r) : S__law_once K [rR r] μ = some (.ok (rR (fO r)), μ) := law_once_eq w h.l h.lt h.m h.s
theorem l_spared (w : Wf μ) (h : Ok r) : S__law_spared K [rR r] μ = some (.ok (rR (fS r)), μ) := law_spared_eq w h.l h.v h.lt h.m h.s
theorem l_dropped (w : Wf μ) (h : Ok r) : S__law_dropped K [rR r] μ = some (.ok (rR (fD r)), μ) := law_dropped_eq w h.l h.lt h.m h.s
end
theorem rw_eq {r r' : Rw} : (decide (r'.1 = r.1) && decide (r'.2 = r.2)) = decide (r' = r) := by
  rw [Bool.eq_iff_iff]
  simp [Prod.ext_iff]
/-- f(x, word) -/
theorem call2_is {F : List D → M D} {t u : TD} {ρ : Rho} {x y d : D} (h1 : t ρ μ = some (.ok x, μ)) (h2 : u ρ μ = some (.ok y, μ)) (h : F [x, y] μ = some (.ok d, μ)) : dCall F 2 (dCons t (dCons u dNil)) ρ μ = some (.ok d, μ) :=
  call_is (ds := [x, y]) (cons_is h1 (cons_is h2 rfl)) rfl h
theorem call1_is {F : List D → M D} {t : TD} {ρ : Rho} {x d : D} (h1 : t ρ μ = some (.ok x, μ)) (h : F [x] μ = some (.ok d, μ)) : dCall F 1 (dCons t dNil) ρ μ = some (.ok d, μ) :=
  call_is (ds := [x]) (cons_is h1 rfl) rfl h
theorem call3_is {F : List D → M D} {t u v : TD} {ρ : Rho} {x y z d : D} (h1 : t ρ μ = some (.ok x, μ)) (h2 : u ρ μ = some (.ok y, μ)) (h3 : v ρ μ = some (.ok z, μ)) (h : F [x, y, z] μ = some (.ok d, μ)) : dCall F 3 (dCons t (dCons u (dCons v dNil))) ρ μ = some (.ok d, μ) :=
  call_is (ds := [x, y, z]) (cons_is h1 (cons_is h2 (cons_is h3 rfl))) rfl h
abbrev tiBody (K : Fg) (t : TD) : TO' := dsSeq (dsSet 2 t) (dsSeq (dsIf (dTest (dEqOwn (He.ga K "Middle") (S_Middle_eq K) (dVar 2) (dVar 0))) (dsRet (dVar 0)) (dsNext)) (dsSet 0 (dVar 2)))
theorem tidy_turn (w : Wf μ) {r r' : Rw} {t : TD} {wd : D} {s2 : Option Sl} (ht : t [some (.sh (mR K r)), some (.sh wd), s2] μ = some (.ok (mR K r'), μ)) :
    tiBody K t [some (.sh (mR K r)), some (.sh wd), s2] μ = if r' = r then some (.rt (mR K r), μ) else some (.nx [some (.sh (mR K r')), some (.sh wd), some (.sh (mR K r'))], μ) := by
  have e := eqOwn_is (K := K) w (ls := r'.1) (ls' := r.1) (ms := r'.2) (ms' := r.2) (t := dVar 2) (u := dVar 0) (ρ := [some (.sh (mR K r)), some (.sh wd), some (.sh (mR K r'))]) rfl rfl
  rw [rw_eq] at e
  have e' := test_is e
  by_cases q : r' = r
  · rw [if_pos q]
    rw [decide_eq_true q] at e'
    exact seq_nx (set_is ht) (seq_rt (if_y e' (ret_is rfl)))
  · rw [if_neg q]
    rw [decide_eq_false q] at e'
    exact seq_nx (set_is ht) (seq_nx (if_n e' rfl) (set_is rfl))
theorem tidy_loop (w : Wf μ) {wh : Bool} {n : Nat} {t : TD} {wd : D} (ht : ∀ (r : Rw) (s2 : Option Sl), Ok r → t [some (.sh (mR K r)), some (.sh wd), s2] μ = some (.ok (mR K (turn wh n r)), μ)) : ∀ (k : Nat) (r : Rw) (s2 : Option Sl), Ok r → mu r < k →
    whileF (dTruth (dC (.bl true))) (tiBody K t) k [some (.sh (mR K r)), some (.sh wd), s2] μ = some (.rt (mR K (fixT wh n k r)), μ)
  | 0, r, s2, h, hk => by omega
  | k + 1, r, s2, h, hk => by
    have e := tidy_turn w (ht r s2 h)
    have et : dTruth (dC (.bl true)) [some (.sh (mR K r)), some (.sh wd), s2] μ = some (.ok true, μ) := rfl
    unfold whileF fixT
    simp only [et, e]
    by_cases q : turn wh n r = r
    · rw [if_pos q, if_pos q]
    · rw [if_neg q, if_neg q]
      rcases turn_mu (wh := wh) (n := n) h with z | z
      · exact tidy_loop w ht k _ _ (turn_ok h) (by omega)
      · exact absurd z q
abbrev fin (wh : Bool) (n : Nat) (r : Rw) : Rw := fixT wh n 80 r
theorem tidy_eq (w : Wf μ) {n : Nat} (hn : n ≤ 60) {r : Rw} (h : Ok r) : S_tidy K [mR K r, .int (n : Int)] μ = some (.ok (mR K (fin true n r)), μ) := by
  refine scope_ok0 ?_ (low_mid _ _) w
  refine run_rt ?_
  have ini : initR 3 [mR K r, .int (n : Int)] = [some (.sh (mR K r)), some (.sh (.int (n : Int))), none] := rfl
  rw [ini]
  refine dsWhile_of (n := 80) (tidy_loop w (fun r s2 h => ?_) 80 r none h (mu_le h))
  have e := turn_ok (wh := true) (n := n) h
  unfold turn
  rw [if_pos rfl]
  exact call2_is (call2_is (call2_is (call2_is rfl rfl (p_known w h hn)) rfl (p_spared w (fK_ok h) _)) rfl (p_once w (fS_ok (fK_ok h)) _)) rfl (p_dropped w (fO_ok (fS_ok (fK_ok h))) _)
theorem plainly_eq (w : Wf μ) {n : Nat} {r : Rw} (h : Ok r) : S_plainly K [mR K r, .int (n : Int)] μ = some (.ok (mR K (fin false n r)), μ) := by
  refine scope_ok0 ?_ (low_mid _ _) w
  refine run_rt ?_
  have ini : initR 3 [mR K r, .int (n : Int)] = [some (.sh (mR K r)), some (.sh (.int (n : Int))), none] := rfl
  rw [ini]
  refine dsWhile_of (n := 80) (tidy_loop w (fun r s2 h => ?_) 80 r none h (mu_le h))
  unfold turn
  rw [if_neg (by decide)]
  exact call2_is (call2_is rfl rfl (p_once w h _)) rfl (p_dropped w (fO_ok h) _)
/-! ### the law's own -/
abbrev ltBody (K : Fg) : TO' := dsSeq (dsSet 4 (dVar 0)) (dsSeq (dsIf (dTruth (dVar 2)) (dsSet 4 (dCall (S__law_spared K) 1 (dCons (dCall (S__law_known K) 2 (dCons (dVar 4) (dCons (dVar 1) (dNil)))) (dNil)))) (dsNext)) (dsSeq (dsSet 4 (dCall (S__law_dropped K) 1 (dCons (dCall (S__law_once K) 1 (dCons (dVar 4) (dNil))) (dNil)))) (dsSeq (dsIf (dTest (dBin gEq (dVar 4) (dVar 0))) (dsRet (dVar 0)) (dsNext)) (dsSet 0 (dVar 4)))))
theorem law_tidy_turn (w : Wf μ) {n : Nat} (hn : n ≤ 60) {r : Rw} {wh : Bool} (h : Ok r) {s3 s4 : Option Sl} :
    ltBody K [some (.sh (rR r)), some (.sh (.int (n : Int))), some (.sh (.bl wh)), s3, s4] μ = if turn wh n r = r then some (.rt (rR r), μ) else some (.nx [some (.sh (rR (turn wh n r))), some (.sh (.int (n : Int))), some (.sh (.bl wh)), s3, some (.sh (rR (turn wh n r)))], μ) := by
  have rest : ∀ r1 : Rw, Ok r1 → turn wh n r = fD (fO r1) → dsSeq (dsSet 4 (dCall (S__law_dropped K) 1 (dCons (dCall (S__law_once K) 1 (dCons (dVar 4) (dNil))) (dNil)))) (dsSeq (dsIf (dTest (dBin gEq (dVar 4) (dVar 0))) (dsRet (dVar 0)) (dsNext)) (dsSet 0 (dVar 4))) [some (.sh (rR r)), some (.sh (.int (n : Int))), some (.sh (.bl wh)), s3, some (.sh (rR r1))] μ = if turn wh n r = r then some (.rt (rR r), μ) else some (.nx [some (.sh (rR (turn wh n r))), some (.sh (.int (n : Int))), some (.sh (.bl wh)), s3, some (.sh (rR (turn wh n r)))], μ) := fun r1 h1 er => by
    have c := call1_is (t := dCall (S__law_once K) 1 (dCons (dVar 4) (dNil))) (ρ := [some (.sh (rR r)), some (.sh (.int (n : Int))), some (.sh (.bl wh)), s3, some (.sh (rR r1))]) (call1_is rfl (l_once (K := K) w h1)) (l_dropped (K := K) w (fO_ok h1))
    rw [← er] at c
    have f := eq_row (turn wh n r).1 r.1 (turn wh n r).2 r.2
    rw [rw_eq] at f
    have e : dTest (dBin gEq (dVar 4) (dVar 0)) [some (.sh (rR r)), some (.sh (.int (n : Int))), some (.sh (.bl wh)), s3, some (.sh (rR (turn wh n r)))] μ = some (.ok (decide (turn wh n r = r)), μ) := test_is (bin_is rfl rfl f)
    by_cases q : turn wh n r = r
    · rw [if_pos q]
      rw [decide_eq_true q] at e
      exact seq_nx (set_is c) (seq_rt (if_y e (ret_is rfl)))
    · rw [if_neg q]
      rw [decide_eq_false q] at e
      exact seq_nx (set_is c) (seq_nx (if_n e rfl) (set_is rfl))
  refine seq_nx (set_is rfl) ?_
  cases wh with
  | true =>
    refine seq_nx (if_y (μ1 := μ) rfl (set_is (call1_is (call2_is rfl rfl (l_known w h hn)) (l_spared w (fK_ok h))))) ?_
    exact rest _ (fS_ok (fK_ok h)) (by unfold turn; rw [if_pos rfl])
  | false =>
    refine seq_nx (if_n (μ1 := μ) rfl rfl) ?_
    exact rest _ h (by unfold turn; rw [if_neg (by decide)])
theorem law_tidy_loop (w : Wf μ) {n : Nat} (hn : n ≤ 60) {wh : Bool} : ∀ (ds : List D) (r : Rw) (s3 s4 : Option Sl), Ok r → mu r < ds.length →
    forL (gtName 3) (ltBody K) ds [some (.sh (rR r)), some (.sh (.int (n : Int))), some (.sh (.bl wh)), s3, s4] μ = some (.rt (rR (fixT wh n ds.length r)), μ)
  | [], r, s3, s4, h, hk => by simp at hk
  | d :: ds, r, s3, s4, h, hk => by
    have e := law_tidy_turn (K := K) w hn (wh := wh) h (s3 := some (.sh d)) (s4 := s4)
    have eg : gtName 3 d [some (.sh (rR r)), some (.sh (.int (n : Int))), some (.sh (.bl wh)), s3, s4] = some [some (.sh (rR r)), some (.sh (.int (n : Int))), some (.sh (.bl wh)), some (.sh d), s4] := rfl
    rw [List.length_cons] at hk ⊢
    unfold forL fixT
    simp only [eg, e]
    by_cases q : turn wh n r = r
    · rw [if_pos q, if_pos q]
    · rw [if_neg q, if_neg q]
      rcases turn_mu (wh := wh) (n := n) h with z | z
      · exact law_tidy_loop w hn ds _ _ _ (turn_ok h) (by omega)
      · exact absurd z q
theorem law_tidy_eq (w : Wf μ) {n : Nat} (hn : n ≤ 60) {r : Rw} {wh : Bool} (h : Ok r) : S__law_tidy K [rR r, .int (n : Int), .bl wh] μ = some (.ok (rR (fin wh n r)), μ) := by
  refine scope_ok0 ?_ (low_row _ _) w
  refine run_rt ?_
  unfold B__law_tidy
  have ini : initR 5 [rR r, .int (n : Int), .bl wh] = [some (.sh (rR r)), some (.sh (.int (n : Int))), some (.sh (.bl wh)), none, none] := rfl
  rw [ini]
  have q := law_tidy_loop (K := K) w hn (wh := wh) (rangeD 0 80) r none none h (by rw [rng_len]; exact mu_le h)
  rw [rng_len] at q
  exact seq_rt (for_is (rng1_is (m := 80) rfl (by decide)) q)
end K56
set_option Elab.async false
set_option linter.all false
set_option maxRecDepth 100000
set_option maxHeartbeats 8000000
set_option autoImplicit false
namespace K56
open PySem PySem.Spec L2 DL
variable {K : Fg} {μ : Mu}
theorem fin_ok {wh : Bool} {n : Nat} {r : Rw} (h : Ok r) : Ok (fin wh n r) := fix_ok h
theorem fin_fin {wh : Bool} {n : Nat} {r : Rw} (h : Ok r) : fin wh n (fin wh n r) = fin wh n r := by
  have e : turn wh n (fin wh n r) = fin wh n r := fix_end h (mu_le h)
  have q : fin wh n (fin wh n r) = if turn wh n (fin wh n r) = fin wh n r then fin wh n r else fixT wh n 79 (turn wh n (fin wh n r)) := rfl
  rw [q, if_pos e]
theorem is_same (w : Wf μ) {r : Rw} (h : Ok r) {t u : TD} {ρ : Rho} (h1 : t ρ μ = some (.ok (mR K r), μ)) (h2 : u ρ μ = some (.ok (rR r), μ)) : dNot (dTruth (dCall (S__law_is K) 2 (dCons t (dCons u dNil)))) ρ μ = some (.ok false, μ) := by
  have e := law_is_eq (K := K) w r.1 r.1 r.2 r.2 h.s
  rw [decide_eq_true rfl, decide_eq_true rfl] at e
  exact not_is (truth_is (call2_is h1 h2 e))
theorem are_same (w : Wf μ) {r : Rw} (h : Ok r) {t u : TD} {ρ : Rho} (h1 : t ρ μ = some (.ok (mR K r), μ)) (h2 : u ρ μ = some (.ok (rR r), μ)) : dCall (S__law_lines_are K) 2 (dCons t (dCons u dNil)) ρ μ = some (.ok (.bl true), μ) :=
  call2_is h1 h2 (lines_are_eq w h.l h.lt)
theorem passes_are_eq (w : Wf μ) {n : Nat} (hn : n ≤ 60) {r : Rw} (h : Ok r) : S__law_passes_are K [mR K r, rR r, .int (n : Int)] μ = some (.ok (.bl true), μ) := by
  refine scope_ok0 ?_ rfl w
  refine run_rt ?_
  unfold B__law_passes_are
  have ini : initR 6 [mR K r, rR r, .int (n : Int)] = [some (.sh (mR K r)), some (.sh (rR r)), some (.sh (.int (n : Int))), none, none, none] := rfl
  rw [ini]
  refine seq_nx (if_n (or_is (is_same w (fK_ok (n := n) h) (call2_is rfl rfl (p_known w h hn)) (call2_is rfl rfl (l_known w h hn))) (is_same w (fO_ok h) (call2_is rfl rfl (p_once w h _)) (call1_is rfl (l_once w h)))) rfl) ?_
  refine seq_nx (if_n (or_is (is_same w (fS_ok h) (call2_is rfl rfl (p_spared w h _)) (call1_is rfl (l_spared w h))) (is_same w (fD_ok h) (call2_is rfl rfl (p_dropped w h _)) (call1_is rfl (l_dropped w h)))) rfl) ?_
  refine seq_nx (set_is (call3_is rfl rfl rfl (law_tidy_eq w hn (wh := true) h))) ?_
  refine seq_nx (set_is (call3_is rfl rfl rfl (law_tidy_eq w hn (wh := false) h))) ?_
  refine seq_nx (if_n (or_is (is_same w (fin_ok (wh := true) (n := n) h) (call2_is rfl rfl (tidy_eq w hn h)) rfl) (is_same w (fin_ok (wh := false) (n := n) h) (call2_is rfl rfl (plainly_eq w h)) rfl)) rfl) ?_
  have e := tidy_eq (K := K) w hn (fin_ok (wh := true) (n := n) h)
  rw [fin_fin h] at e
  have ρt : ∀ s5 : Option Sl, dCall (S_tidy K) 2 (dCons (dVar 0) (dCons (dVar 2) (dNil))) [some (.sh (mR K r)), some (.sh (rR r)), some (.sh (.int (n : Int))), some (.sh (rR (fin true n r))), some (.sh (rR (fin false n r))), s5] μ = some (.ok (mR K (fin true n r)), μ) := fun s5 => call2_is rfl rfl (tidy_eq w hn h)
  have q := eqOwn_is (K := K) w (ρ := [some (.sh (mR K r)), some (.sh (rR r)), some (.sh (.int (n : Int))), some (.sh (rR (fin true n r))), some (.sh (rR (fin false n r))), none]) (call2_is (t := dCall (S_tidy K) 2 (dCons (dVar 0) (dCons (dVar 2) (dNil)))) (u := dVar 2) (ρt none) rfl e) (ρt none)
  rw [rw_eq, decide_eq_true rfl] at q
  refine seq_nx (set_is (andV_is q (are_same w (fin_ok (wh := true) (n := n) h) (ρt none) rfl))) ?_
  exact ret_is (andV_is (b := true) (c := true) (bin_is rfl rfl rfl) (are_same w (fin_ok (wh := false) (n := n) h) (call2_is rfl rfl (plainly_eq w h)) rfl))
end K56
set_option Elab.async false
set_option linter.all false
set_option maxRecDepth 100000
set_option maxHeartbeats 8000000
set_option autoImplicit false
namespace K56
open PySem PySem.Spec L2 DL
variable {K : Fg} {μ : Mu}
/-! ### the draws -/
abbrev dZ (xs : List Int) : List D := xs.map D.int
abbrev nMu (xs : List Int) : Mu := [.lst (dZ xs)]
theorem n_app {xs : List Int} {v : Int} {te : TD} {ρ : Rho} (hl : xs.length < 100000) (h1 : ρ[1]? = some (some (.sh (.mref 0)))) (h2 : te ρ (nMu xs) = some (.ok (.int v), nMu xs)) : dsAppM (dVar 1) te ρ (nMu xs) = some (.nx ρ, nMu (xs ++ [v])) := by
  have hz : xs.length < sizeLine := by simp [sizeLine]; omega
  have m1 : (nMu xs)[0]? = some (.lst (dZ xs)) := rfl
  rw [dsAppM_ap, dsE_ap, dVar_ap, h1]
  simp only [ret_ap, muLst_mref, m1, dsE_ap, h2, List.length_map, hz, if_true]
  simp
theorem mod_is {a b : Int} (h : 0 < b) : gMod (.int a) (.int b) = some (.int (a % b)) := gMod_pos h
theorem div_is {a b : Int} (h1 : 0 < b) (h2 : b < 1073741824) : gDiv (.int a) (.int b) = some (.int (a / b)) := gDiv_int ⟨h1, h2⟩
theorem mul_is {a b : Int} (h1 : -1000000000 < b) (h2 : b < 1000000000) : gMul (.int a) (.int b) = some (.int (a * b)) := gMul_int (.inr ⟨Int.lt_trans (by decide) h1, Int.lt_trans h2 (by decide)⟩)
theorem int_is {t : TD} {ρ : Rho} {i : Int} {μ1 : Mu} (h : t ρ μ = some (.ok (.int i), μ1)) : dInt t ρ μ = some (.ok (.int i), μ1) := by
  rw [dInt_ap, bind_ap, h]
  rfl
theorem neg_is {t : TD} {ρ : Rho} {i : Int} {μ1 : Mu} (h : t ρ μ = some (.ok (.int i), μ1)) : dNeg t ρ μ = some (.ok (.int (-i)), μ1) := by
  rw [dNeg_ap, bind_ap, h]
  rfl
theorem pow18 : gPow (.int 10) (.int 18) = some (.int 1000000000000000000) := by
  have : CPow 10 18 := by decide
  have e : (10 : Int) ^ (18 : Int).toNat = 1000000000000000000 := by decide
  show (if CPow 10 18 then some (D.int (10 ^ (18 : Int).toNat)) else none) = _
  rw [if_pos this, e]
abbrev bigBody : TO' := dsIf (dTest (dBin gGt (dVar 3) (dC (.int 0)))) (dsSeq (dsAppM (dVar 1) (dBin gMod (dInt (dVar 3)) (dC (.int 30)))) (dsSet 3 (dBin gDiv (dVar 3) (dC (.int 30))))) (dsNext)
theorem big_turn {s : D} {s2 s4 s5 s6 : Option Sl} {c : Int} {xs : List Int} (hl : xs.length < 100000) : ∃ c' xs', xs'.length ≤ xs.length + 1 ∧ bigBody [some (.sh s), some (.sh (.mref 0)), s2, some (.sh (.int c)), s4, s5, s6] (nMu xs) = some (.nx [some (.sh s), some (.sh (.mref 0)), s2, some (.sh (.int c')), s4, s5, s6], nMu xs') := by
  have t : dTest (dBin gGt (dVar 3) (dC (.int 0))) [some (.sh s), some (.sh (.mref 0)), s2, some (.sh (.int c)), s4, s5, s6] (nMu xs) = some (.ok (decide (0 < c)), nMu xs) := test_is (bin_is rfl rfl gGt_int)
  by_cases h : 0 < c
  · rw [decide_eq_true h] at t
    exact ⟨c / 30, xs ++ [c % 30], by simp, if_y t (seq_nx (n_app hl rfl (bin_is (int_is rfl) rfl (mod_is (by decide)))) (set_is (bin_is rfl rfl (div_is (by decide) (by decide)))))⟩
  · rw [decide_eq_false h] at t
    exact ⟨c, xs, by omega, if_n t rfl⟩
abbrev mixBody : TO' := dsSeq (dsSet 6 (dBin gMod (dInt (dBin gAdd (dBin gAdd (dBin gMul (dVar 6) (dC (.int 69621))) (dBin gDiv (dVar 6) (dC (.int 1000)))) (dVar 5))) (dC (.int 2147483647)))) (dsAppM (dVar 1) (dBin gDiv (dVar 6) (dC (.int 8))))
theorem mix_turn {s : D} {s2 s3 s4 : Option Sl} {c j : Int} {xs : List Int} (hl : xs.length < 100000) : ∃ c' v, mixBody [some (.sh s), some (.sh (.mref 0)), s2, s3, s4, some (.sh (.int j)), some (.sh (.int c))] (nMu xs) = some (.nx [some (.sh s), some (.sh (.mref 0)), s2, s3, s4, some (.sh (.int j)), some (.sh (.int c'))], nMu (xs ++ [v])) :=
  ⟨_, _, seq_nx (set_is (bin_is (int_is (bin_is (bin_is (bin_is rfl rfl (mul_is (by decide) (by decide))) (bin_is rfl rfl (div_is (by decide) (by decide))) gAdd_int) rfl gAdd_int)) rfl (mod_is (by decide)))) (n_app hl rfl (bin_is rfl rfl (div_is (by decide) (by decide))))⟩
abbrev drBody : TO' := dsSeq (dsSet 3 (dInt (dIx (qVal (dVar 0)) (dVar 2)))) (dsSeq (dsSet 4 (dC (.int 0))) (dsSeq (dsIf (dTest (dBin gLt (dVar 3) (dC (.int 0)))) (dsSeq (dsSet 4 (dC (.int 1))) (dsSet 3 (dNeg (dVar 3)))) (dsNext)) (dsIf (dTest (dBin gGe (dVar 3) (dBin gPow (dC (.int 10)) (dC (.int 18))))) (dsFor (dRng1 (dC (.int 45))) (gtName 5) bigBody) (dsSeq (dsSet 6 (dBin gMod (dInt (dBin gAdd (dBin gAdd (dBin gAdd (dBin gMul (dVar 3) (dC (.int 16807))) (dBin gMul (dVar 4) (dC (.int 911)))) (dBin gMul (dVar 2) (dC (.int 7919)))) (dC (.int 13)))) (dC (.int 2147483647)))) (dsFor (dRng1 (dC (.int 6))) (gtName 5) mixBody)))))
theorem dr_turn {ns : List Int} {i : Nat} (hi : i < ns.length) {s3 s4 s5 s6 : Option Sl} {xs : List Int} (hl : xs.length < 10000) : ∃ t3 t4 t5 t6 xs', xs'.length ≤ xs.length + 45 ∧ drBody [some (.sh (.rd (dZ ns))), some (.sh (.mref 0)), some (.sh (.int (i : Nat))), s3, s4, s5, s6] (nMu xs) = some (.nx [some (.sh (.rd (dZ ns))), some (.sh (.mref 0)), some (.sh (.int (i : Nat))), t3, t4, t5, t6], nMu xs') := by
  have e0 : dIx (qVal (dVar 0)) (dVar 2) [some (.sh (.rd (dZ ns))), some (.sh (.mref 0)), some (.sh (.int (i : Nat))), s3, s4, s5, s6] (nMu xs) = some (.ok (.int ns[i]), nMu xs) := by
    have : atI (dZ ns) (i : Int) = some (.int ns[i]) := by rw [DL.atI_nat, List.getElem?_map, List.getElem?_eq_getElem hi]; rfl
    simp [this]
  generalize ns[i] = c at e0
  -- the sign
  have sg : ∃ c2 s2, dsIf (dTest (dBin gLt (dVar 3) (dC (.int 0)))) (dsSeq (dsSet 4 (dC (.int 1))) (dsSet 3 (dNeg (dVar 3)))) (dsNext) [some (.sh (.rd (dZ ns))), some (.sh (.mref 0)), some (.sh (.int (i : Nat))), some (.sh (.int c)), some (.sh (.int 0)), s5, s6] (nMu xs) = some (.nx [some (.sh (.rd (dZ ns))), some (.sh (.mref 0)), some (.sh (.int (i : Nat))), some (.sh (.int c2)), some (.sh (.int s2)), s5, s6], nMu xs) := by
    have t : dTest (dBin gLt (dVar 3) (dC (.int 0))) [some (.sh (.rd (dZ ns))), some (.sh (.mref 0)), some (.sh (.int (i : Nat))), some (.sh (.int c)), some (.sh (.int 0)), s5, s6] (nMu xs) = some (.ok (decide (c < 0)), nMu xs) := test_is (bin_is rfl rfl gLt_int)
    by_cases h : c < 0
    · rw [decide_eq_true h] at t
      exact ⟨-c, 1, if_y t (seq_nx (set_is rfl) (set_is (neg_is rfl)))⟩
    · rw [decide_eq_false h] at t
      exact ⟨c, 0, if_n t rfl⟩
  obtain ⟨c2, sn, sg⟩ := sg
  have t : dTest (dBin gGe (dVar 3) (dBin gPow (dC (.int 10)) (dC (.int 18)))) [some (.sh (.rd (dZ ns))), some (.sh (.mref 0)), some (.sh (.int (i : Nat))), some (.sh (.int c2)), some (.sh (.int sn)), s5, s6] (nMu xs) = some (.ok (decide ((1000000000000000000 : Int) ≤ c2)), nMu xs) := test_is (bin_is rfl (bin_is rfl rfl pow18) gGe_int)
  by_cases h : (1000000000000000000 : Int) ≤ c2
  · rw [decide_eq_true h] at t
    obtain ⟨ρ', μ', e1, ⟨c', t5, xs', hx, e2⟩⟩ := for_inv (gt := gtName 5) (tb := bigBody) (ds := rangeD 0 45)
      (fun k ρ μ2 => ∃ c' t5 xs', xs'.length ≤ xs.length + k ∧ ρ = [some (.sh (.rd (dZ ns))), some (.sh (.mref 0)), some (.sh (.int (i : Nat))), some (.sh (.int c')), some (.sh (.int sn)), t5, s6] ∧ μ2 = nMu xs') (fun k d ρ μ2 hd hI => by
        obtain ⟨c', t5, xs', hx, rfl, rfl⟩ := hI
        obtain ⟨hk, rfl⟩ := rng_at hd
        obtain ⟨c3, xs3, hx3, q⟩ := big_turn (s := .rd (dZ ns)) (s2 := some (.sh (.int (i : Nat)))) (s4 := some (.sh (.int sn))) (s5 := some (.sh (.int (k : Int)))) (s6 := s6) (c := c') (xs := xs') (by omega)
        exact ⟨_, _, _, gtName_ap, q, c3, _, xs3, by omega, rfl, rfl⟩) (ρ := [some (.sh (.rd (dZ ns))), some (.sh (.mref 0)), some (.sh (.int (i : Nat))), some (.sh (.int c2)), some (.sh (.int sn)), s5, s6]) (μ := nMu xs) ⟨c2, s5, xs, by omega, rfl, rfl⟩
    rw [rng_len] at hx
    obtain ⟨rfl, rfl⟩ := e2
    exact ⟨_, _, _, _, xs', hx, seq_nx (set_is (int_is e0)) (seq_nx (set_is rfl) (seq_nx sg (if_y t (for_is (rng1_is (m := 45) rfl (by decide)) e1))))⟩
  · rw [decide_eq_false h] at t
    have m6 : ∃ v, dBin gMod (dInt (dBin gAdd (dBin gAdd (dBin gAdd (dBin gMul (dVar 3) (dC (.int 16807))) (dBin gMul (dVar 4) (dC (.int 911)))) (dBin gMul (dVar 2) (dC (.int 7919)))) (dC (.int 13)))) (dC (.int 2147483647)) [some (.sh (.rd (dZ ns))), some (.sh (.mref 0)), some (.sh (.int (i : Nat))), some (.sh (.int c2)), some (.sh (.int sn)), s5, s6] (nMu xs) = some (.ok (.int v), nMu xs) :=
      ⟨_, bin_is (int_is (bin_is (bin_is (bin_is (bin_is rfl rfl (mul_is (by decide) (by decide))) (bin_is rfl rfl (mul_is (by decide) (by decide))) gAdd_int) (bin_is rfl rfl (mul_is (by decide) (by decide))) gAdd_int) rfl gAdd_int)) rfl (mod_is (by decide))⟩
    obtain ⟨v, m6⟩ := m6
    obtain ⟨ρ', μ', e1, ⟨c', t5, xs', hx, e2⟩⟩ := for_inv (gt := gtName 5) (tb := mixBody) (ds := rangeD 0 6)
      (fun k ρ μ2 => ∃ c' t5 xs', xs'.length ≤ xs.length + k ∧ ρ = [some (.sh (.rd (dZ ns))), some (.sh (.mref 0)), some (.sh (.int (i : Nat))), some (.sh (.int c2)), some (.sh (.int sn)), t5, some (.sh (.int c'))] ∧ μ2 = nMu xs') (fun k d ρ μ2 hd hI => by
        obtain ⟨c', t5, xs', hx, rfl, rfl⟩ := hI
        obtain ⟨hk, rfl⟩ := rng_at hd
        obtain ⟨c3, v3, q⟩ := mix_turn (s := .rd (dZ ns)) (s2 := some (.sh (.int (i : Nat)))) (s3 := some (.sh (.int c2))) (s4 := some (.sh (.int sn))) (j := (k : Int)) (c := c') (xs := xs') (by omega)
        exact ⟨_, _, _, gtName_ap, q, c3, _, xs' ++ [v3], by simp; omega, rfl, rfl⟩) (ρ := [some (.sh (.rd (dZ ns))), some (.sh (.mref 0)), some (.sh (.int (i : Nat))), some (.sh (.int c2)), some (.sh (.int sn)), s5, some (.sh (.int v))]) (μ := nMu xs) ⟨v, s5, xs, by omega, rfl, rfl⟩
    rw [rng_len] at hx
    obtain ⟨rfl, rfl⟩ := e2
    exact ⟨_, _, _, _, xs', by omega, seq_nx (set_is (int_is e0)) (seq_nx (set_is rfl) (seq_nx sg (if_n t (seq_nx (set_is m6) (for_is (rng1_is (m := 6) rfl (by decide)) e1)))))⟩
end K56
set_option Elab.async false
set_option linter.all false
set_option maxRecDepth 100000
set_option maxHeartbeats 8000000
set_option autoImplicit false
namespace K56
open PySem PySem.Spec L2 DL
variable {K : Fg} {μ : Mu}
abbrev drw (xs : List Int) (a : Nat) : MO := .lst [.int (a : Int), .lst (dZ xs)]
theorem draws_eq {ns : List Int} (h : ns.length ≤ 63) : ∃ xs : List Int, xs.length ≤ 3000 ∧ S__law_draws K [.rd (dZ ns)] [] = some (.ok (.mref 1), [.dead, drw xs 0]) := by
  obtain ⟨ρ', μ', e1, ⟨s2, s3, s4, s5, s6, xs, hx, e2⟩⟩ := for_inv (gt := gtName 2) (tb := drBody) (ds := rangeD 0 ns.length)
    (fun k ρ μ2 => ∃ s2 s3 s4 s5 s6 xs, xs.length ≤ 45 * k ∧ ρ = [some (.sh (.rd (dZ ns))), some (.sh (.mref 0)), s2, s3, s4, s5, s6] ∧ μ2 = nMu xs) (fun k d ρ μ2 hd hI => by
      obtain ⟨s2, s3, s4, s5, s6, xs, hx, rfl, rfl⟩ := hI
      obtain ⟨hk, rfl⟩ := rng_at hd
      obtain ⟨t3, t4, t5, t6, xs', hx', q⟩ := dr_turn (i := k) hk (s3 := s3) (s4 := s4) (s5 := s5) (s6 := s6) (xs := xs) (by omega)
      exact ⟨_, _, _, gtName_ap, q, _, _, _, _, _, xs', by omega, rfl, rfl⟩) (ρ := [some (.sh (.rd (dZ ns))), some (.sh (.mref 0)), none, none, none, none, none]) (μ := nMu []) ⟨_, _, _, _, _, [], by simp, rfl, rfl⟩
  rw [rng_len] at hx
  obtain ⟨rfl, rfl⟩ := e2
  refine ⟨xs, by omega, ?_⟩
  refine run_rt ?_
  unfold B__law_draws
  have ini : initR 7 [.rd (dZ ns)] = [some (.sh (.rd (dZ ns))), none, none, none, none, none, none] := rfl
  rw [ini]
  refine seq_nx (ρ1 := [some (.sh (.rd (dZ ns))), some (.sh (.mref 0)), none, none, none, none, none]) (μ1 := nMu []) (by simp [sizeLine]) ?_
  have hmin : dMin2 (dLen (qVal (dVar 0))) (dC (.int 63)) [some (.sh (.rd (dZ ns))), some (.sh (.mref 0)), none, none, none, none, none] (nMu []) = some (.ok (.int (ns.length : Int)), nMu []) := by
    have : ¬ ((63 : Int) < (ns.length : Int)) := by omega
    simp [this]
  refine seq_nx (for_is (rng1_is (m := ns.length) hmin (by omega)) e1) ?_
  refine seq_nx (ρ1 := [some (.sh (.rd (dZ ns))), some (.sh (.lst (dZ xs))), s2, s3, s4, s5, s6]) (μ1 := [.dead]) (by simp [dsFzM]) ?_
  exact ret_is (by simp [sizeLine])
/-! ### one draw -/
theorem wf_set {μ : Mu} {k : Nat} {m : MO} (w : Wf μ) (h : m.low μ.length = true) : Wf (μ.set k m) := by
  unfold Wf
  rw [List.length_set, List.all_eq_true]
  intro x hx
  rcases List.mem_or_eq_of_mem_set hx with q | rfl
  · exact List.all_eq_true.mp w x q
  · exact h
theorem low_dZ {n : Nat} (xs : List Int) : D.lowAll n (dZ xs) = true := low_all D.int (fun _ => rfl) xs
theorem low_drw {n : Nat} (xs : List Int) (a : Nat) : (drw xs a).low n = true := by
  show (D.low n (.int (a : Int)) && (D.low n (.lst (dZ xs)) && true)) = true
  have : D.low n (.lst (dZ xs)) = true := low_dZ xs
  rw [this]
  rfl
theorem set_same {α : Type} {xs : List α} {k : Nat} {x : α} (h : xs[k]? = some x) : xs.set k x = xs := by
  obtain ⟨h1, h2⟩ := List.getElem?_eq_some_iff.mp h
  subst h2
  exact List.set_getElem_self _
theorem take_eq (w : Wf μ) {k : Nat} {xs : List Int} {a : Nat} {m : Int} (hk : μ[k]? = some (drw xs a)) (hm : 0 < m) :
    ∃ v a' : Nat, (v : Int) < m ∧ S__law_take K [.mref k, .int m] μ = some (.ok (.int (v : Int)), μ.set k (drw xs a')) := by
  have hkl : k < μ.length := (List.getElem?_eq_some_iff.mp hk).1
  have ini : initR 3 [.mref k, .int m] = [some (.sh (.mref k)), some (.sh (.int m)), none] := rfl
  have e0 : ∀ s2 : Option Sl, dIx (qVal (dVar 0)) (dC (.int 0)) [some (.sh (.mref k)), some (.sh (.int m)), s2] μ = some (.ok (.int (a : Int)), μ) := fun s2 => by simp [hk]
  have e1 : dLen (qVal (dIx (qVal (dVar 0)) (dC (.int 1)))) [some (.sh (.mref k)), some (.sh (.int m)), some (.sh (.int (a : Int)))] μ = some (.ok (.int (xs.length : Int)), μ) := by simp [hk]
  have t : dTest (dBin gGe (dVar 2) (dLen (qVal (dIx (qVal (dVar 0)) (dC (.int 1)))))) [some (.sh (.mref k)), some (.sh (.int m)), some (.sh (.int (a : Int)))] μ = some (.ok (decide ((xs.length : Int) ≤ (a : Int))), μ) := test_is (bin_is rfl e1 gGe_int)
  by_cases h : (xs.length : Int) ≤ (a : Int)
  · rw [decide_eq_true h] at t
    refine ⟨0, a, hm, ?_⟩
    rw [set_same hk]
    refine scope_ok0 ?_ rfl w
    refine run_rt ?_
    unfold B__law_take
    rw [ini]
    exact seq_nx (set_is (e0 none)) (seq_rt (if_y t (ret_is rfl)))
  · rw [decide_eq_false h] at t
    have ha : a < xs.length := by omega
    have hv0 := Int.emod_nonneg xs[a] (Int.ne_of_gt hm)
    have hv1 := Int.emod_lt_of_pos xs[a] hm
    refine ⟨(xs[a] % m).toNat, a + 1, by omega, ?_⟩
    have ev : ((xs[a] % m).toNat : Int) = xs[a] % m := Int.toNat_of_nonneg hv0
    rw [ev]
    refine scope_same ?_ (List.length_set ..) rfl (wf_set w (low_drw xs _))
    refine run_rt ?_
    unfold B__law_take
    rw [ini]
    have hk2 : (μ.set k (drw xs (a + 1)))[k]? = some (drw xs (a + 1)) := by simp [hkl]
    have ax : atI (dZ xs) (a : Int) = some (.int xs[a]) := by rw [DL.atI_nat, List.getElem?_map, List.getElem?_eq_getElem ha]; rfl
    refine seq_nx (set_is (e0 none)) (seq_nx (if_n t rfl) (seq_nx (ρ1 := [some (.sh (.mref k)), some (.sh (.int m)), some (.sh (.int (a : Int)))]) (μ1 := μ.set k (drw xs (a + 1))) ?_ ?_))
    · have i0 : ixN 2 0 = some 0 := rfl
      have i1 : ((a : Int) + 1) = ((a + 1 : Nat) : Int) := by omega
      simp [hk, i0]
      rfl
    · refine ret_is (bin_is (int_is (i := xs[a]) ?_) rfl (mod_is hm))
      simp [hk2, ax]
theorem call2_m {F : List D → M D} {t u : TD} {ρ : Rho} {x y d : D} {μ1 : Mu} (h1 : t ρ μ = some (.ok x, μ)) (h2 : u ρ μ = some (.ok y, μ)) (h : F [x, y] μ = some (.ok d, μ1)) : dCall F 2 (dCons t (dCons u dNil)) ρ μ = some (.ok d, μ1) :=
  call_is (ds := [x, y]) (cons_is h1 (cons_is h2 rfl)) rfl h
theorem word_eq (w : Wf μ) {k n : Nat} {xs : List Int} {a : Nat} (hk : μ[k]? = some (drw xs a)) (hn : n ≤ 1000) :
    ∃ (v : Int) (a' : Nat), S__law_word K [.mref k, .int (n : Int)] μ = some (.ok (.int v), μ.set k (drw xs a')) := by
  have hkl : k < μ.length := (List.getElem?_eq_some_iff.mp hk).1
  have at' : ∀ a, (μ.set k (drw xs a))[k]? = some (drw xs a) := fun a => by simp [hkl]
  have w' : ∀ a, Wf (μ.set k (drw xs a)) := fun a => wf_set w (low_drw xs a)
  obtain ⟨v1, a1, b1, e1⟩ := take_eq (K := K) (m := 30) w hk (by decide)
  obtain ⟨v2, a2, b2, e2⟩ := take_eq (K := K) (m := 30) (w' a1) (at' a1) (by decide)
  obtain ⟨v3, a3, b3, e3⟩ := take_eq (K := K) (m := 5) (w' a2) (at' a2) (by decide)
  rw [List.set_set] at e2 e3
  have ini : initR 5 [.mref k, .int (n : Int)] = [some (.sh (.mref k)), some (.sh (.int (n : Int))), none, none, none] := rfl
  have body : ∃ v : Int, B__law_word K [some (.sh (.mref k)), some (.sh (.int (n : Int))), none, none, none] μ = some (.rt (.int v), μ.set k (drw xs a3)) := by
    unfold B__law_word
    have t1 : dTest (dBin gEq (dVar 4) (dC (.int 1))) [some (.sh (.mref k)), some (.sh (.int (n : Int))), some (.sh (.int (v1 : Int))), some (.sh (.int (v2 : Int))), some (.sh (.int (v3 : Int)))] (μ.set k (drw xs a3)) = some (.ok (decide ((v3 : Int) = 1)), μ.set k (drw xs a3)) := test_is (bin_is rfl rfl gEq_int)
    have t2 : dTest (dBin gEq (dVar 4) (dC (.int 2))) [some (.sh (.mref k)), some (.sh (.int (n : Int))), some (.sh (.int (v1 : Int))), some (.sh (.int (v2 : Int))), some (.sh (.int (v3 : Int)))] (μ.set k (drw xs a3)) = some (.ok (decide ((v3 : Int) = 2)), μ.set k (drw xs a3)) := test_is (bin_is rfl rfl gEq_int)
    by_cases h1 : (v3 : Int) = 1
    · rw [decide_eq_true h1] at t1
      exact ⟨_, seq_nx (set_is (call2_m rfl rfl e1)) (seq_nx (set_is (call2_m rfl rfl e2)) (seq_nx (set_is (call2_m rfl rfl e3)) (seq_rt (if_y t1 (ret_is (bin_is (int_is (bin_is (bin_is rfl rfl gSub_int) (bin_is rfl rfl (mod_is (by decide))) gSub_int)) (bin_is rfl rfl (gShl1 (by omega))) gModW))))))⟩
    · rw [decide_eq_false h1] at t1
      by_cases h2 : (v3 : Int) = 2
      · rw [decide_eq_true h2] at t2
        exact ⟨_, seq_nx (set_is (call2_m rfl rfl e1)) (seq_nx (set_is (call2_m rfl rfl e2)) (seq_nx (set_is (call2_m rfl rfl e3)) (seq_nx (if_n t1 rfl) (seq_rt (if_y t2 (ret_is (bin_is rfl rfl (mod_is (by decide)))))))))⟩
      · rw [decide_eq_false h2] at t2
        exact ⟨_, seq_nx (set_is (call2_m rfl rfl e1)) (seq_nx (set_is (call2_m rfl rfl e2)) (seq_nx (set_is (call2_m rfl rfl e3)) (seq_nx (if_n t1 rfl) (seq_nx (if_n t2 rfl) (ret_is (bin_is (int_is (bin_is (bin_is rfl rfl (mul_is (by decide) (by decide))) rfl gAdd_int)) (bin_is rfl rfl (gShl1 (by omega))) gModW))))))⟩
  obtain ⟨v, body⟩ := body
  refine ⟨v, a3, scope_same (run_rt ?_) (List.length_set ..) rfl (w' a3)⟩
  rw [ini]
  exact body
end K56
set_option Elab.async false
set_option linter.all false
set_option maxRecDepth 100000
set_option maxHeartbeats 8000000
set_option autoImplicit false
namespace K56
open PySem PySem.Spec L2 DL
variable {K : Fg} {μ : Mu}
/-! ### what stands while a middle row is drawn -/
abbrev dM (ms : List (List Nat)) : List D := ms.map fun m => D.lst (dI m)
/-- the base, where the draws stand, the draws -/
structure Bs where
  μ : Mu
  k : Nat
  xs : List Int
structure Bs.Ok (b : Bs) : Prop where
  w : Wf b.μ
  k : b.k < b.μ.length
def Bs.at' (b : Bs) (a : Nat) : Mu := b.μ.set b.k (drw b.xs a)
def gMu (b : Bs) (a : Nat) (ls : List Ln) (sp : List Nat) (ms : List (List Nat)) : Mu := b.at' a ++ [.lst (ls.map Ln.d), .lst (dI sp), .lst (dM ms)]
section
variable {b : Bs} {a : Nat} {ls : List Ln} {sp : List Nat} {ms : List (List Nat)}
theorem Bs.len : (b.at' a).length = b.μ.length := List.length_set ..
theorem Bs.Ok.wf (h : b.Ok) (a : Nat) : Wf (b.at' a) := wf_set h.w (low_drw _ _)
theorem Bs.Ok.dr (h : b.Ok) (a : Nat) : (b.at' a)[b.k]? = some (drw b.xs a) := by
  unfold Bs.at'
  simp [h.k]
theorem Bs.set_set (a a' : Nat) : (b.at' a).set b.k (drw b.xs a') = b.at' a' := by unfold Bs.at'; rw [List.set_set]
theorem low_dM {n : Nat} (ms : List (List Nat)) : D.lowAll n (dM ms) = true := low_all (fun m => D.lst (dI m)) (fun m => low_ints m) ms
theorem g_wf (h : b.Ok) : Wf (gMu b a ls sp ms) := by
  have w1 := Wf.app (m := .lst (ls.map Ln.d)) (h.wf a) (low_all _ low_ln _)
  have w2 := Wf.app (m := .lst (dI sp)) w1 (low_ints _)
  have w3 := Wf.app (m := .lst (dM ms)) w2 (low_dM _)
  rw [List.append_assoc, List.append_assoc] at w3
  exact w3
theorem g_dr (h : b.Ok) : (gMu b a ls sp ms)[b.k]? = some (drw b.xs a) := by
  unfold gMu
  rw [List.getElem?_append_left (by rw [Bs.len]; exact h.k)]
  exact h.dr a
theorem g_ls : (gMu b a ls sp ms)[b.μ.length]? = some (.lst (ls.map Ln.d)) := by
  unfold gMu
  rw [List.getElem?_append_right (by rw [Bs.len]; omega), Bs.len, Nat.sub_self]
  rfl
theorem g_sp : (gMu b a ls sp ms)[b.μ.length + 1]? = some (.lst (dI sp)) := by
  unfold gMu
  rw [List.getElem?_append_right (by rw [Bs.len]; omega), Bs.len, Nat.add_sub_cancel_left]
  rfl
theorem g_ms : (gMu b a ls sp ms)[b.μ.length + 2]? = some (.lst (dM ms)) := by
  unfold gMu
  rw [List.getElem?_append_right (by rw [Bs.len]; omega), Bs.len, Nat.add_sub_cancel_left]
  rfl
theorem g_set (h : b.Ok) (a' : Nat) : (gMu b a ls sp ms).set b.k (drw b.xs a') = gMu b a' ls sp ms := by
  unfold gMu
  rw [List.set_append_left _ _ (by rw [Bs.len]; exact h.k), Bs.set_set]
theorem g_setL (ls' : List Ln) : (gMu b a ls sp ms).set b.μ.length (.lst (ls'.map Ln.d)) = gMu b a ls' sp ms := by
  unfold gMu
  rw [List.set_append_right _ _ (by rw [Bs.len]; omega), Bs.len, Nat.sub_self]
  rfl
theorem g_setS (sp' : List Nat) : (gMu b a ls sp ms).set (b.μ.length + 1) (.lst (dI sp')) = gMu b a ls sp' ms := by
  unfold gMu
  rw [List.set_append_right _ _ (by rw [Bs.len]; omega), Bs.len, Nat.add_sub_cancel_left]
  rfl
theorem g_setM (ms' : List (List Nat)) : (gMu b a ls sp ms).set (b.μ.length + 2) (.lst (dM ms')) = gMu b a ls sp ms' := by
  unfold gMu
  rw [List.set_append_right _ _ (by rw [Bs.len]; omega), Bs.len, Nat.add_sub_cancel_left]
  rfl
theorem app_is {to' te : TD} {ρ : Rho} {k : Nat} {ds ds' : List D} {y : D} {μ1 : Mu} (h1 : to' ρ μ = some (.ok (.mref k), μ)) (h2 : μ[k]? = some (.lst ds)) (h3 : te ρ μ = some (.ok y, μ1)) (h4 : μ1[k]? = some (.lst ds')) (hl : ds'.length < sizeLine) : dsAppM to' te ρ μ = some (.nx ρ, μ1.set k (.lst (ds' ++ [y]))) := by
  rw [dsAppM_ap, dsE_ap, h1]
  simp only [muLst_mref, h2, dsE_ap, h3, h4, hl, if_true]
theorem g_appL {te : TD} {ρ : Rho} {l : Ln} {a' : Nat} (hl : ls.length < 1000) (h1 : ρ[3]? = some (some (.sh (.mref b.μ.length)))) (h3 : te ρ (gMu b a ls sp ms) = some (.ok l.d, gMu b a' ls sp ms)) : dsAppM (dVar 3) te ρ (gMu b a ls sp ms) = some (.nx ρ, gMu b a' (ls ++ [l]) sp ms) := by
  have hv : dVar 3 ρ (gMu b a ls sp ms) = some (.ok (.mref b.μ.length), gMu b a ls sp ms) := by rw [dVar_ap, h1]; rfl
  have q := app_is hv g_ls h3 g_ls (by rw [List.length_map]; simp [sizeLine]; omega)
  have e : ls.map Ln.d ++ [l.d] = (ls ++ [l]).map Ln.d := by simp
  rw [e, g_setL] at q
  exact q
theorem g_appS {te : TD} {ρ : Rho} {c : Nat} {a' : Nat} (hl : sp.length < 1000) (h1 : ρ[4]? = some (some (.sh (.mref (b.μ.length + 1))))) (h3 : te ρ (gMu b a ls sp ms) = some (.ok (.int (c : Int)), gMu b a' ls sp ms)) : dsAppM (dVar 4) te ρ (gMu b a ls sp ms) = some (.nx ρ, gMu b a' ls (sp ++ [c]) ms) := by
  have hv : dVar 4 ρ (gMu b a ls sp ms) = some (.ok (.mref (b.μ.length + 1)), gMu b a ls sp ms) := by rw [dVar_ap, h1]; rfl
  have q := app_is hv g_sp h3 g_sp (by rw [List.length_map]; simp [sizeLine]; omega)
  have e : dI sp ++ [D.int (c : Int)] = dI (sp ++ [c]) := by simp
  rw [e, g_setS] at q
  exact q
theorem g_appM {te : TD} {ρ : Rho} {m : List Nat} {a' : Nat} (hl : ms.length < 1000) (h1 : ρ[5]? = some (some (.sh (.mref (b.μ.length + 2))))) (h3 : te ρ (gMu b a ls sp ms) = some (.ok (.lst (dI m)), gMu b a' ls sp ms)) : dsAppM (dVar 5) te ρ (gMu b a ls sp ms) = some (.nx ρ, gMu b a' ls sp (ms ++ [m])) := by
  have hv : dVar 5 ρ (gMu b a ls sp ms) = some (.ok (.mref (b.μ.length + 2)), gMu b a ls sp ms) := by rw [dVar_ap, h1]; rfl
  have q := app_is hv g_ms h3 g_ms (by rw [List.length_map]; simp [sizeLine]; omega)
  have e : dM ms ++ [D.lst (dI m)] = dM (ms ++ [m]) := by simp [dM]
  rw [e, g_setM] at q
  exact q
theorem ix_lst {t u : TD} {ρ : Rho} {ds : List D} {i : Int} {d : D} {μ1 μ2 : Mu} (h1 : t ρ μ = some (.ok (.lst ds), μ1)) (h2 : u ρ μ1 = some (.ok (.int i), μ2)) (h : atI ds i = some d) : dIx (qVal t) u ρ μ = some (.ok d, μ2) := by
  rw [dIx_ap, bind_ap, qVal_ap, bind_ap, h1]
  simp only [ret_ap, bind_ap, h2, qv_lst, h]
theorem ix_mref {t u : TD} {ρ : Rho} {k : Nat} {ds : List D} {i : Int} {d : D} {μ1 μ2 : Mu} (h1 : t ρ μ = some (.ok (.mref k), μ1)) (h2 : u ρ μ1 = some (.ok (.int i), μ2)) (hk : μ2[k]? = some (.lst ds)) (h : atI ds i = some d) : dIx (qVal t) u ρ μ = some (.ok d, μ2) := by
  rw [dIx_ap, bind_ap, qVal_ap, bind_ap, h1]
  simp only [ret_ap, bind_ap, h2, qv_mref, hk, h]
theorem ix_tup {t u : TD} {ρ : Rho} {ds : List D} {i : Int} {d : D} {μ1 μ2 : Mu} (h1 : t ρ μ = some (.ok (.tup ds), μ1)) (h2 : u ρ μ1 = some (.ok (.int i), μ2)) (h : atI ds i = some d) : dIx (qVal t) u ρ μ = some (.ok d, μ2) := by
  rw [dIx_ap, bind_ap, qVal_ap, bind_ap, h1]
  simp only [ret_ap, bind_ap, h2, qv_tup, h]
theorem len_mref {t : TD} {ρ : Rho} {k : Nat} {ds : List D} (h1 : t ρ μ = some (.ok (.mref k), μ)) (hk : μ[k]? = some (.lst ds)) : dLen (qVal t) ρ μ = some (.ok (.int (ds.length : Int)), μ) := by
  rw [dLen_ap, bind_ap, qVal_ap, bind_ap, h1]
  simp only [ret_ap, qv_mref, hk]
theorem tup_is {tl : TL} {ρ : Rho} {ds : List D} {μ1 : Mu} (h : tl ρ μ = some (.ok ds, μ1)) (hl : ds.length ≤ 1000) : dTup tl ρ μ = some (.ok (.tup ds), μ1) := by
  have hz : ds.length ≤ sizeLine := by simp [sizeLine]; omega
  rw [dTup_ap, bind_ap, h]
  simp only [hz, if_true]
  rfl
theorem lst_is {tl : TL} {ρ : Rho} {ds : List D} {μ1 : Mu} (h : tl ρ μ = some (.ok ds, μ1)) (hl : ds.length ≤ 1000) : dLst tl ρ μ = some (.ok ds, μ1) := by
  have hz : ds.length ≤ sizeLine := by simp [sizeLine]; omega
  rw [dLst_ap, bind_ap, h]
  simp only [hz, if_true]
  rfl
theorem g_take (h : b.Ok) {mT : TD} {ρ : Rho} {m : Int} (h0 : ρ[0]? = some (some (.sh (.mref b.k)))) (hmT : mT ρ (gMu b a ls sp ms) = some (.ok (.int m), gMu b a ls sp ms)) (hm : 0 < m) :
    ∃ v a' : Nat, (v : Int) < m ∧ dCall (S__law_take K) 2 (dCons (dVar 0) (dCons mT dNil)) ρ (gMu b a ls sp ms) = some (.ok (.int (v : Int)), gMu b a' ls sp ms) := by
  obtain ⟨v, a', h1, h2⟩ := take_eq (K := K) (g_wf h (a := a) (ls := ls) (sp := sp) (ms := ms)) (g_dr h) hm
  rw [g_set h] at h2
  refine ⟨v, a', h1, call2_m ?_ hmT h2⟩
  rw [dVar_ap, h0]
  rfl
theorem sp_at {i : Nat} (hi : i < sp.length) : atI (dI sp) (i : Int) = some (.int (sp[i] : Int)) := by
  rw [DL.atI_nat, List.getElem?_map, List.getElem?_eq_getElem hi]
  rfl
theorem sp_len {ρ : Rho} (h4 : ρ[4]? = some (some (.sh (.mref (b.μ.length + 1))))) : dLen (qVal (dVar 4)) ρ (gMu b a ls sp ms) = some (.ok (.int (sp.length : Int)), gMu b a ls sp ms) := by
  have hv : dVar 4 ρ (gMu b a ls sp ms) = some (.ok (.mref (b.μ.length + 1)), gMu b a ls sp ms) := by rw [dVar_ap, h4]; rfl
  have q := len_mref hv g_sp
  rw [List.length_map] at q
  exact q
/-- spots[len(spots) - 1 - take(m)] -/
theorem g_pick (h : b.Ok) {mT : TD} {ρ : Rho} {m : Int} (h0 : ρ[0]? = some (some (.sh (.mref b.k)))) (h4 : ρ[4]? = some (some (.sh (.mref (b.μ.length + 1))))) (hmT : mT ρ (gMu b a ls sp ms) = some (.ok (.int m), gMu b a ls sp ms)) (hm : 0 < m) (hm2 : m ≤ (sp.length : Int)) :
    ∃ c ∈ sp, ∃ a' : Nat, dIx (qVal (dVar 4)) (dBin gSub (dBin gSub (dLen (qVal (dVar 4))) (dC (.int 1))) (dCall (S__law_take K) 2 (dCons (dVar 0) (dCons mT dNil)))) ρ (gMu b a ls sp ms) = some (.ok (.int (c : Nat)), gMu b a' ls sp ms) := by
  obtain ⟨v, a', hv, q⟩ := g_take (K := K) h h0 hmT hm
  have hv4 : dVar 4 ρ (gMu b a ls sp ms) = some (.ok (.mref (b.μ.length + 1)), gMu b a ls sp ms) := by rw [dVar_ap, h4]; rfl
  have hi : sp.length - 1 - v < sp.length := by omega
  refine ⟨sp[sp.length - 1 - v], List.getElem_mem hi, a', ix_mref (i := ((sp.length - 1 - v : Nat) : Int)) hv4 ?_ g_sp (sp_at hi)⟩
  have e : ((sp.length : Int) - 1 - (v : Int)) = ((sp.length - 1 - v : Nat) : Int) := by omega
  rw [← e]
  exact bin_is (bin_is (sp_len h4) rfl gSub_int) q gSub_int
/-- spots[take(len(spots))] -/
theorem g_pick2 (h : b.Ok) {ρ : Rho} (h0 : ρ[0]? = some (some (.sh (.mref b.k)))) (h4 : ρ[4]? = some (some (.sh (.mref (b.μ.length + 1))))) (hs : 0 < sp.length) :
    ∃ c ∈ sp, ∃ a' : Nat, dIx (qVal (dVar 4)) (dCall (S__law_take K) 2 (dCons (dVar 0) (dCons (dLen (qVal (dVar 4))) dNil))) ρ (gMu b a ls sp ms) = some (.ok (.int (c : Nat)), gMu b a' ls sp ms) := by
  obtain ⟨v, a', hv, q⟩ := g_take (K := K) h h0 (sp_len h4) (m := (sp.length : Int)) (by omega)
  have hv4 : dVar 4 ρ (gMu b a ls sp ms) = some (.ok (.mref (b.μ.length + 1)), gMu b a ls sp ms) := by rw [dVar_ap, h4]; rfl
  have hi : v < sp.length := by omega
  exact ⟨sp[v], List.getElem_mem hi, a', ix_mref hv4 q g_sp (sp_at hi)⟩
/-- [.., .., .., ..][take(n)] of numbers -/
theorem g_of (h : b.Ok) {t : TD} {zs : List Int} {n : Nat} {ρ : Rho} (h0 : ρ[0]? = some (some (.sh (.mref b.k)))) (ht : t ρ (gMu b a ls sp ms) = some (.ok (.lst (dZ zs)), gMu b a ls sp ms)) (hn : 0 < n) (hz : n ≤ zs.length) :
    ∃ (z : Int) (a' : Nat), dIx (qVal t) (dCall (S__law_take K) 2 (dCons (dVar 0) (dCons (dC (.int (n : Int))) dNil))) ρ (gMu b a ls sp ms) = some (.ok (.int z), gMu b a' ls sp ms) := by
  obtain ⟨v, a', hv, q⟩ := g_take (K := K) h h0 (mT := dC (.int (n : Int))) rfl (m := (n : Int)) (by omega)
  have hi : v < zs.length := by omega
  have e : atI (dZ zs) (v : Int) = some (.int zs[v]) := by rw [DL.atI_nat, List.getElem?_map, List.getElem?_eq_getElem hi]; rfl
  exact ⟨zs[v], a', ix_lst ht q e⟩
end
end K56
set_option Elab.async false
set_option linter.all false
set_option maxRecDepth 100000
set_option maxHeartbeats 8000000
set_option autoImplicit false
namespace K56
open PySem PySem.Spec L2 DL
variable {K : Fg} {μ : Mu}
def Ln.ins : Ln → Bool
  | .tick => false
  | .fin => false
  | _ => true
theorem inSkip {l : Ln} (h : l.ins = true) : ∃ n r, l.d = .tup (.str n :: r) ∧ inD (.str n) [.str "must", .str "keep", .str "write", .str "out"] = some (!l.val) := by
  cases l with
  | op o a b => cases o <;> exact ⟨_, _, rfl, rfl⟩
  | tick => cases h
  | fin => cases h
  | _ => exact ⟨_, _, rfl, rfl⟩
/-- one line more -/
def Adds (b : Bs) (a : Nat) (ls : List Ln) (sp : List Nat) (ms : List (List Nat)) (c d : Nat) (ρ : Rho) (t : TO') : Prop :=
  ∃ l a', (∀ u ∈ l.uses, u = c ∨ u = d) ∧ l.ins = true ∧ t ρ (gMu b a ls sp ms) = some (.nx ρ, gMu b a' (ls ++ [l]) sp ms)
section
variable {b : Bs} {a : Nat} {ls : List Ln} {sp : List Nat} {ms : List (List Nat)} {c d : Nat} {ρ : Rho}
theorem adds_if {tq : TB} {t u : TO'} {x : Bool} (h : tq ρ (gMu b a ls sp ms) = some (.ok x, gMu b a ls sp ms)) (h1 : Adds b a ls sp ms c d ρ t) (h2 : Adds b a ls sp ms c d ρ u) : Adds b a ls sp ms c d ρ (dsIf tq t u) := by
  cases x with
  | true =>
    obtain ⟨l, a', q1, q2, q3⟩ := h1
    exact ⟨l, a', q1, q2, if_y h q3⟩
  | false =>
    obtain ⟨l, a', q1, q2, q3⟩ := h2
    exact ⟨l, a', q1, q2, if_n h q3⟩
theorem adds_line {te : TD} {l : Ln} {a' : Nat} (hl : ls.length < 1000) (h1 : ρ[3]? = some (some (.sh (.mref b.μ.length)))) (q1 : ∀ u ∈ l.uses, u = c ∨ u = d) (q2 : l.ins = true) (h3 : te ρ (gMu b a ls sp ms) = some (.ok l.d, gMu b a' ls sp ms)) : Adds b a ls sp ms c d ρ (dsAppM (dVar 3) te) :=
  ⟨l, a', q1, q2, g_appL hl h1 h3⟩
theorem call0_is {F : List D → M D} {d : D} (h : F [] μ = some (.ok d, μ)) : dCall0 F ρ μ = some (.ok d, μ) := by
  rw [dCall0_ap, nx_ap, h]
theorem ops_at {v : Nat} (h : v < 7) : ∃ o : Op, atI opsD (v : Int) = some (.str o.s) := by
  rw [DL.atI_nat]
  match v, h with
  | 0, _ => exact ⟨.add, rfl⟩
  | 1, _ => exact ⟨.xor, rfl⟩
  | 2, _ => exact ⟨.sub, rfl⟩
  | 3, _ => exact ⟨.and, rfl⟩
  | 4, _ => exact ⟨.same, rfl⟩
  | 5, _ => exact ⟨.or, rfl⟩
  | 6, _ => exact ⟨.less, rfl⟩
  | n + 7, h => omega
abbrev dmNum : TD := dFz (dLst (dCons (dC (.int 0)) (dCons (dVar 2) (dCons (dC (.int 1)) (dCons (dC (.int 2)) (dNil))))))
abbrev dmChain (K : Fg) : TO' := dsIf (dOr (dTest (dBin gEq (dVar 11) (dC (.int 0)))) (dOr (dTest (dBin gEq (dVar 11) (dC (.int 8)))) (dTest (dBin gEq (dVar 11) (dC (.int 9)))))) (dsAppM (dVar 3) (dTup (dCons (dC (.str "num")) (dCons (dIx (qVal dmNum) (dCall (S__law_take K) 2 (dCons (dVar 0) (dCons (dC (.int 4)) (dNil))))) (dNil))))) (dsIf (dOr (dTest (dBin gEq (dVar 11) (dC (.int 1)))) (dTest (dBin gEq (dVar 11) (dC (.int 10))))) (dsAppM (dVar 3) (dTup (dCons (dC (.str "must")) (dCons (dVar 9) (dCons (dBin gAdd (dC (.int 12)) (dCall (S__law_take K) 2 (dCons (dVar 0) (dCons (dC (.int 4)) (dNil))))) (dNil)))))) (dsIf (dOr (dTest (dBin gEq (dVar 11) (dC (.int 2)))) (dTest (dBin gEq (dVar 11) (dC (.int 11))))) (dsAppM (dVar 3) (dTup (dCons (dC (.str "keep")) (dCons (dVar 9) (dCons (dIx (qVal dmNum) (dCall (S__law_take K) 2 (dCons (dVar 0) (dCons (dC (.int 4)) (dNil))))) (dNil)))))) (dsIf (dTest (dBin gEq (dVar 11) (dC (.int 3)))) (dsAppM (dVar 3) (dTup (dCons (dC (.str "read")) (dCons (dVar 9) (dNil))))) (dsIf (dTest (dBin gEq (dVar 11) (dC (.int 4)))) (dsAppM (dVar 3) (dTup (dCons (dC (.str "write")) (dCons (dVar 9) (dCons (dVar 10) (dNil)))))) (dsIf (dTest (dBin gEq (dVar 11) (dC (.int 5)))) (dsAppM (dVar 3) (dTup (dCons (dC (.str "out")) (dCons (dIx (qVal (dFz (dLst (dCons (dC (.int 0)) (dCons (dC (.int 9)) (dCons (dC (.int 5)) (dNil))))))) (dCall (S__law_take K) 2 (dCons (dVar 0) (dCons (dC (.int 3)) (dNil))))) (dCons (dVar 9) (dNil)))))) (dsIf (dTest (dBin gEq (dVar 11) (dC (.int 6)))) (dsAppM (dVar 3) (dTup (dCons (dC (.str "in")) (dCons (dCall (S__law_take K) 2 (dCons (dVar 0) (dCons (dC (.int 6)) (dNil)))) (dNil))))) (dsAppM (dVar 3) (dTup (dCons (dIx (qVal (dCall0 (S__law_ops K))) (dCall (S__law_take K) 2 (dCons (dVar 0) (dCons (dC (.int 7)) (dNil))))) (dCons (dVar 9) (dCons (dVar 10) (dNil))))))))))))
theorem var_is {i : Nat} {d : D} (h : ρ[i]? = some (some (.sh d))) : dVar i ρ μ = some (.ok d, μ) := by rw [dVar_ap, h]; rfl
theorem dm_chain (h : b.Ok) (hl : ls.length < 1000) {kd : Int} {top : Int} (h0 : ρ[0]? = some (some (.sh (.mref b.k)))) (h2 : ρ[2]? = some (some (.sh (.int top)))) (h3 : ρ[3]? = some (some (.sh (.mref b.μ.length)))) (h9 : ρ[9]? = some (some (.sh (.int (c : Int))))) (h10 : ρ[10]? = some (some (.sh (.int (d : Int))))) (h11 : ρ[11]? = some (some (.sh (.int kd)))) : Adds b a ls sp ms c d ρ (dmChain K) := by
  have tst : ∀ j : Int, dTest (dBin gEq (dVar 11) (dC (.int j))) ρ (gMu b a ls sp ms) = some (.ok (decide (kd = j)), gMu b a ls sp ms) := fun j => test_is (bin_is (var_is h11) rfl gEq_int)
  have hz : dmNum ρ (gMu b a ls sp ms) = some (.ok (.lst (dZ [0, top, 1, 2])), gMu b a ls sp ms) := fz_is (lst_is (cons_is rfl (cons_is (var_is h2) (cons_is rfl (cons_is rfl rfl)))) (by simp))
  have none' : ∀ {l : Ln}, l.uses = [] → ∀ u ∈ l.uses, u = c ∨ u = d := fun e u hu => by rw [e] at hu; cases hu
  have one' : ∀ {l : Ln}, l.uses = [c] → ∀ u ∈ l.uses, u = c ∨ u = d := fun e u hu => by rw [e] at hu; exact .inl (List.mem_singleton.mp hu)
  have two' : ∀ {l : Ln}, l.uses = [c, d] → ∀ u ∈ l.uses, u = c ∨ u = d := fun e u hu => by
    rw [e] at hu
    rcases List.mem_cons.mp hu with q | q
    · exact .inl q
    · exact .inr (List.mem_singleton.mp q)
  refine adds_if (or_is (tst 0) (or_is (tst 8) (tst 9))) ?_ (adds_if (or_is (tst 1) (tst 10)) ?_ (adds_if (or_is (tst 2) (tst 11)) ?_ (adds_if (tst 3) ?_ (adds_if (tst 4) ?_ (adds_if (tst 5) ?_ (adds_if (tst 6) ?_ ?_))))))
  · obtain ⟨z, a', q⟩ := g_of (K := K) h (n := 4) h0 hz (by decide) (by simp)
    exact adds_line (l := .num z) hl h3 (none' rfl) rfl (tup_is (cons_is rfl (cons_is q rfl)) (by simp))
  · obtain ⟨v, a', hv, q⟩ := g_take (K := K) h h0 (mT := dC (.int 4)) (m := 4) rfl (by decide) (a := a) (ls := ls) (sp := sp) (ms := ms)
    exact adds_line (l := .must c (12 + (v : Int))) hl h3 (one' rfl) rfl (tup_is (cons_is rfl (cons_is (var_is h9) (cons_is (bin_is rfl q gAdd_int) rfl))) (by simp))
  · obtain ⟨z, a', q⟩ := g_of (K := K) h (n := 4) h0 hz (by decide) (by simp)
    exact adds_line (l := .keep c z) hl h3 (one' rfl) rfl (tup_is (cons_is rfl (cons_is (var_is h9) (cons_is q rfl))) (by simp))
  · exact adds_line (l := .read c) hl h3 (one' rfl) rfl (tup_is (cons_is rfl (cons_is (var_is h9) rfl)) (by simp))
  · exact adds_line (l := .write c d) hl h3 (two' rfl) rfl (tup_is (cons_is rfl (cons_is (var_is h9) (cons_is (var_is h10) rfl))) (by simp))
  · have hz3 : dFz (dLst (dCons (dC (.int 0)) (dCons (dC (.int 9)) (dCons (dC (.int 5)) (dNil))))) ρ (gMu b a ls sp ms) = some (.ok (.lst (dZ [0, 9, 5])), gMu b a ls sp ms) := fz_is (lst_is (cons_is rfl (cons_is rfl (cons_is rfl rfl))) (by simp))
    obtain ⟨z, a', q⟩ := g_of (K := K) h (n := 3) h0 hz3 (by decide) (by decide)
    exact adds_line (l := .out z c) hl h3 (one' rfl) rfl (tup_is (cons_is rfl (cons_is q (cons_is (var_is h9) rfl))) (by simp))
  · obtain ⟨v, a', hv, q⟩ := g_take (K := K) h h0 (mT := dC (.int 6)) (m := 6) rfl (by decide) (a := a) (ls := ls) (sp := sp) (ms := ms)
    exact adds_line (l := .inn (v : Int)) hl h3 (none' rfl) rfl (tup_is (cons_is rfl (cons_is q rfl)) (by simp))
  · obtain ⟨v, a', hv, q⟩ := g_take (K := K) h h0 (mT := dC (.int 7)) (m := 7) rfl (by decide) (a := a) (ls := ls) (sp := sp) (ms := ms)
    obtain ⟨o, ho⟩ := ops_at (v := v) (by omega)
    exact adds_line (l := .op o c d) hl h3 (two' rfl) rfl (tup_is (cons_is (ix_lst (call0_is (law_ops_eq (g_wf h))) q ho) (cons_is (var_is h9) (cons_is (var_is h10) rfl))) (by simp))
abbrev dmSpot : TO' := dsIf (dTest (dIn true (dIx (qVal (dIx (qVal (dVar 3)) (dBin gSub (dLen (qVal (dVar 3))) (dC (.int 1))))) (dC (.int 0))) (qVal (dTup (dCons (dC (.str "must")) (dCons (dC (.str "keep")) (dCons (dC (.str "write")) (dCons (dC (.str "out")) (dNil))))))))) (dsAppM (dVar 4) (dBin gSub (dLen (qVal (dVar 3))) (dC (.int 1)))) (dsNext)
theorem dm_spot (hs : sp.length < 1000) {l : Ln} (hi : l.ins = true) (h3 : ρ[3]? = some (some (.sh (.mref b.μ.length)))) (h4 : ρ[4]? = some (some (.sh (.mref (b.μ.length + 1))))) :
    dmSpot ρ (gMu b a (ls ++ [l]) sp ms) = some (.nx ρ, gMu b a (ls ++ [l]) (if l.val = true then sp ++ [ls.length] else sp) ms) := by
  have hv3 : dVar 3 ρ (gMu b a (ls ++ [l]) sp ms) = some (.ok (.mref b.μ.length), gMu b a (ls ++ [l]) sp ms) := var_is h3
  have hln := len_mref hv3 (g_ls (b := b) (a := a) (ls := ls ++ [l]) (sp := sp) (ms := ms))
  rw [List.length_map, List.length_append, List.length_singleton] at hln
  have e : (((ls.length + 1 : Nat) : Int) - 1) = (ls.length : Int) := by omega
  have hix : dBin gSub (dLen (qVal (dVar 3))) (dC (.int 1)) ρ (gMu b a (ls ++ [l]) sp ms) = some (.ok (.int (ls.length : Int)), gMu b a (ls ++ [l]) sp ms) := by
    rw [← e]
    exact bin_is hln rfl gSub_int
  have hat : atI ((ls ++ [l]).map Ln.d) (ls.length : Int) = some l.d := atI_lines (by simp)
  obtain ⟨n, r, ed, en⟩ := inSkip hi
  have h0' : dIx (qVal (dIx (qVal (dVar 3)) (dBin gSub (dLen (qVal (dVar 3))) (dC (.int 1))))) (dC (.int 0)) ρ (gMu b a (ls ++ [l]) sp ms) = some (.ok (.str n), gMu b a (ls ++ [l]) sp ms) := by
    refine ix_tup (ix_mref hv3 hix g_ls (hat.trans (congrArg some ed))) rfl atI_0
  have htup : dTup (dCons (dC (.str "must")) (dCons (dC (.str "keep")) (dCons (dC (.str "write")) (dCons (dC (.str "out")) (dNil))))) ρ (gMu b a (ls ++ [l]) sp ms) = some (.ok (.tup [.str "must", .str "keep", .str "write", .str "out"]), gMu b a (ls ++ [l]) sp ms) := tup_is (cons_is rfl (cons_is rfl (cons_is rfl (cons_is rfl rfl)))) (by simp)
  have t : dTest (dIn true (dIx (qVal (dIx (qVal (dVar 3)) (dBin gSub (dLen (qVal (dVar 3))) (dC (.int 1))))) (dC (.int 0))) (qVal (dTup (dCons (dC (.str "must")) (dCons (dC (.str "keep")) (dCons (dC (.str "write")) (dCons (dC (.str "out")) (dNil)))))))) ρ (gMu b a (ls ++ [l]) sp ms) = some (.ok l.val, gMu b a (ls ++ [l]) sp ms) := by
    refine test_is ?_
    rw [dIn_ap, bind_ap, h0']
    simp only [bind_ap, qVal_ap, htup, ret_ap, qv_tup, en]
    simp
  cases hv : l.val with
  | true =>
    rw [hv] at t
    rw [if_pos rfl]
    exact if_y t (g_appS hs h4 hix)
  | false =>
    rw [hv] at t
    rw [if_neg (by decide)]
    exact if_n t rfl
end
end K56
set_option Elab.async false
set_option linter.all false
set_option maxRecDepth 100000
set_option maxHeartbeats 8000000
set_option autoImplicit false
namespace K56
open PySem PySem.Spec L2 DL
variable {K : Fg} {μ : Mu}
structure Gd (ls : List Ln) (sp : List Nat) (ms : List (List Nat)) : Prop where
  l : okL ls
  v : okV ls
  s : ∀ i ∈ sp, (ls.getD i .tick).val = true
  n : 0 < sp.length
  sl : sp.length ≤ ls.length
  m : ∀ m ∈ ms, m.length ≤ 1000 ∧ ∀ i ∈ m, (ls.getD i .tick).val = true
  p : ∃ z ls0, ls = .get 0 :: .get 1 :: .num z :: ls0
  q : ∃ ms0, ms = [2, 0, 1] :: ms0
theorem val_snoc {ls : List Ln} {l : Ln} {i : Nat} (h : (ls.getD i .tick).val = true) : ((ls ++ [l]).getD i .tick).val = true := by
  rw [getD_app (val_lt h)]
  exact h
theorem okV_snoc {ls : List Ln} {l : Ln} (hv : okV ls) (h : okL ls) (hl : ∀ u ∈ l.uses, (ls.getD u .tick).val = true) : okV (ls ++ [l]) := okV_of fun i hi a ha => by
  rw [List.length_append, List.length_singleton] at hi
  by_cases q : i < ls.length
  · rw [getD_app q] at ha
    exact val_snoc (okV_at hv q ha h)
  · have e : i = ls.length := by omega
    rw [getD_end e] at ha
    exact val_snoc (hl a ha)
theorem Gd.line {ls : List Ln} {sp : List Nat} {ms : List (List Nat)} (G : Gd ls sp ms) {l : Ln} (hu : ∀ u ∈ l.uses, u ∈ sp) : Gd (ls ++ [l]) (if l.val = true then sp ++ [ls.length] else sp) ms := by
  have hv : ∀ u ∈ l.uses, (ls.getD u .tick).val = true := fun u h => G.s u (hu u h)
  refine ⟨okL_snoc G.l fun u h => val_lt (hv u h), okV_snoc G.v G.l hv, fun i hi => ?_, ?_, ?_, fun m hm => ?_, ?_, G.q⟩
  · split at hi
    · rename_i hl
      rcases List.mem_append.mp hi with h | h
      · exact val_snoc (G.s i h)
      · rw [List.mem_singleton.mp h, getD_end rfl]
        exact hl
    · exact val_snoc (G.s i hi)
  · have := G.n
    split
    · simp
    · exact this
  · have := G.sl
    split <;> simp <;> omega
  · exact ⟨(G.m m hm).1, fun i hi => val_snoc ((G.m m hm).2 i hi)⟩
  · obtain ⟨z, ls0, e⟩ := G.p
    exact ⟨z, ls0 ++ [l], by rw [e]; rfl⟩
theorem Gd.mark {ls : List Ln} {sp : List Nat} {ms : List (List Nat)} (G : Gd ls sp ms) {l : Ln} {m : List Nat} (hu : l.uses = []) (hm : m.length ≤ 1000) (hs : ∀ i ∈ m, i ∈ sp) : Gd (ls ++ [l]) sp (ms ++ [m]) := by
  have hv : ∀ u ∈ l.uses, (ls.getD u .tick).val = true := fun u h => by rw [hu] at h; cases h
  refine ⟨okL_snoc G.l fun u h => val_lt (hv u h), okV_snoc G.v G.l hv, fun i hi => val_snoc (G.s i hi), G.n, ?_, fun m' hm' => ?_, ?_, ?_⟩
  · have := G.sl
    simp
    omega
  · rcases List.mem_append.mp hm' with h | h
    · exact ⟨(G.m m' h).1, fun i hi => val_snoc ((G.m m' h).2 i hi)⟩
    · rw [List.mem_singleton.mp h]
      exact ⟨hm, fun i hi => val_snoc (G.s i (hs i hi))⟩
  · obtain ⟨z, ls0, e⟩ := G.p
    exact ⟨z, ls0 ++ [l], by rw [e]; rfl⟩
  · obtain ⟨ms0, e⟩ := G.q
    exact ⟨ms0 ++ [m], by rw [e]; rfl⟩
abbrev dmR (b : Bs) (n : Nat) (top : Int) (q : Nat) (s7 s8 s9 s10 s11 s12 s13 : Option Sl) : Rho := [some (.sh (.mref b.k)), some (.sh (.int (n : Int))), some (.sh (.int top)), some (.sh (.mref b.μ.length)), some (.sh (.mref (b.μ.length + 1))), some (.sh (.mref (b.μ.length + 2))), some (.sh (.int (q : Int))), s7, s8, s9, s10, s11, s12, s13]
theorem min2_is {t u : TD} {ρ : Rho} {i j : Int} (h1 : t ρ μ = some (.ok (.int i), μ)) (h2 : u ρ μ = some (.ok (.int j), μ)) : dMin2 t u ρ μ = some (.ok (.int (if j < i then j else i)), μ) := by
  rw [dMin2_ap, bind_ap, h1]
  simp only [bind_ap, h2, ret_ap]
abbrev dmBody (K : Fg) : TO' := dsSeq (dsSet 9 (dIx (qVal (dVar 4)) (dBin gSub (dBin gSub (dLen (qVal (dVar 4))) (dC (.int 1))) (dCall (S__law_take K) 2 (dCons (dVar 0) (dCons (dMin2 (dC (.int 4)) (dLen (qVal (dVar 4)))) (dNil))))))) (dsSeq (dsSet 10 (dIx (qVal (dVar 4)) (dCall (S__law_take K) 2 (dCons (dVar 0) (dCons (dLen (qVal (dVar 4))) (dNil)))))) (dsSeq (dsSet 11 (dCall (S__law_take K) 2 (dCons (dVar 0) (dCons (dC (.int 16)) (dNil))))) (dsSeq (dmChain K) dmSpot)))
section
variable {b : Bs} {a : Nat} {ls : List Ln} {sp : List Nat} {ms : List (List Nat)}
theorem dm_turn (h : b.Ok) (G : Gd ls sp ms) (hl : ls.length < 900) {n q : Nat} {top : Int} {s7 s8 s9 s10 s11 s12 s13 : Option Sl} :
    ∃ a' ls' sp' t9 t10 t11, Gd ls' sp' ms ∧ ls'.length = ls.length + 1 ∧ dmBody K (dmR b n top q s7 s8 s9 s10 s11 s12 s13) (gMu b a ls sp ms) = some (.nx (dmR b n top q s7 s8 t9 t10 t11 s12 s13), gMu b a' ls' sp' ms) := by
  have hn := G.n
  have hsl := G.sl
  have hmin : (0 : Int) < (if (sp.length : Int) < 4 then (sp.length : Int) else 4) ∧ (if (sp.length : Int) < 4 then (sp.length : Int) else 4) ≤ (sp.length : Int) := by split <;> omega
  obtain ⟨c, hc, a1, e1⟩ := g_pick (K := K) h (a := a) (ls := ls) (sp := sp) (ms := ms) (ρ := dmR b n top q s7 s8 s9 s10 s11 s12 s13) (mT := dMin2 (dC (.int 4)) (dLen (qVal (dVar 4)))) rfl rfl (min2_is rfl (sp_len rfl)) hmin.1 hmin.2
  obtain ⟨d, hd, a2, e2⟩ := g_pick2 (K := K) h (a := a1) (ls := ls) (sp := sp) (ms := ms) (ρ := dmR b n top q s7 s8 (some (.sh (.int (c : Int)))) s10 s11 s12 s13) rfl rfl hn
  obtain ⟨kd, a3, hkd, e3⟩ := g_take (K := K) h (a := a2) (ls := ls) (sp := sp) (ms := ms) (ρ := dmR b n top q s7 s8 (some (.sh (.int (c : Int)))) (some (.sh (.int (d : Int)))) s11 s12 s13) (mT := dC (.int 16)) (m := 16) rfl rfl (by decide)
  obtain ⟨l, a4, hu, hi, e4⟩ := dm_chain (K := K) h (a := a3) (ls := ls) (sp := sp) (ms := ms) (c := c) (d := d) (kd := (kd : Int)) (top := top) (ρ := dmR b n top q s7 s8 (some (.sh (.int (c : Int)))) (some (.sh (.int (d : Int)))) (some (.sh (.int (kd : Int)))) s12 s13) (by omega) rfl rfl rfl rfl rfl rfl
  have e5 := dm_spot (a := a4) (ls := ls) (sp := sp) (ms := ms) (b := b) (ρ := dmR b n top q s7 s8 (some (.sh (.int (c : Int)))) (some (.sh (.int (d : Int)))) (some (.sh (.int (kd : Int)))) s12 s13) (by omega) hi rfl rfl
  refine ⟨a4, _, _, _, _, _, G.line fun u hu' => ?_, by simp, seq_nx (set_is e1) (seq_nx (set_is e2) (seq_nx (set_is e3) (seq_nx e4 e5)))⟩
  rcases hu u hu' with rfl | rfl
  · exact hc
  · exact hd
abbrev dmPick (K : Fg) : TD := dIx (qVal (dVar 4)) (dBin gSub (dBin gSub (dLen (qVal (dVar 4))) (dC (.int 1))) (dCall (S__law_take K) 2 (dCons (dVar 0) (dCons (dLen (qVal (dVar 4))) (dNil)))))
theorem dm_mark (h : b.Ok) (G : Gd ls sp ms) {n q : Nat} {top : Int} {s7 s8 s9 s10 s11 s12 s13 : Option Sl} : ∀ (ds : List D) (acc : List Nat) (a : Nat), acc.length + ds.length ≤ 1000 → (∀ i ∈ acc, i ∈ sp) →
    ∃ (m : List Nat) (a' : Nat), m.length = acc.length + ds.length ∧ (∀ i ∈ m, i ∈ sp) ∧ lcL [13] (gtName 13) dYes (dmPick K) (dmR b n top q s7 s8 s9 s10 s11 s12 s13) ds (dI acc) (gMu b a ls sp ms) = some (.ok (dI m), gMu b a' ls sp ms)
  | [], acc, a, _, hacc => ⟨acc, a, by simp, hacc, rfl⟩
  | d :: ds, acc, a, hl, hacc => by
    rw [List.length_cons] at hl
    have hn := G.n
    obtain ⟨c, hc, a1, e1⟩ := g_pick (K := K) h (a := a) (ls := ls) (sp := sp) (ms := ms) (ρ := dmR b n top q s7 s8 s9 s10 s11 s12 (some (.sh d))) (mT := dLen (qVal (dVar 4))) rfl rfl (sp_len rfl) (by omega) (Int.le_refl _)
    obtain ⟨m, a', h1, h2, h3⟩ := dm_mark h G ds (acc ++ [c]) a1 (by simp; omega) (fun i hi => by
      rcases List.mem_append.mp hi with q | q
      · exact hacc i q
      · rw [List.mem_singleton.mp q]; exact hc)
    refine ⟨m, a', by rw [h1]; simp; omega, h2, ?_⟩
    have eg : gtName 13 d (wipeR (dmR b n top q s7 s8 s9 s10 s11 s12 s13) [13]) = some (dmR b n top q s7 s8 s9 s10 s11 s12 (some (.sh d))) := rfl
    have hz : (dI acc).length < sizeLine := by rw [List.length_map]; simp [sizeLine]; omega
    have ed : dI acc ++ [D.int (c : Int)] = dI (acc ++ [c]) := by simp
    unfold lcL
    simp only [eg, bind_ap, nx_ap, dYes_ap, ret_ap, if_true, e1, hz]
    rw [ed]
    exact h3
theorem rng1_m {t : TD} {ρ : Rho} {m : Nat} {μ1 : Mu} (h : t ρ μ = some (.ok (.int (m : Int)), μ1)) (hm : m < 1000000) : dRng1 t ρ μ = some (.ok (rangeD 0 m), μ1) := by
  rw [dRng1_ap, bind_ap, h]
  have h1 : (-(2 ^ 62) : Int) ≤ (m : Int) := Int.le_trans (by decide) (Int.natCast_nonneg m)
  have h2 : (m : Int) < 2 ^ 62 := Int.lt_trans (Int.ofNat_lt.mpr hm) (by decide)
  show (if -(2 ^ 62) ≤ (m : Int) ∧ (m : Int) < 2 ^ 62 then M.ret (rangeD 0 (m : Int).toNat) else M.stuck) μ1 = _
  rw [if_pos ⟨h1, h2⟩, Int.toNat_natCast]
  rfl
abbrev dmPart (K : Fg) : TO' := dsSeq (dsFor (dRng1 (dBin gAdd (dC (.int 1)) (dCall (S__law_take K) 2 (dCons (dVar 0) (dCons (dC (.int 8)) (dNil)))))) (gtName 8) (dmBody K)) (dsSeq (dsSet 12 (dFz (dLc [13] (dRng1 (dC (.int 3))) (gtName 13) (dYes) (dmPick K)))) (dsSeq (dsAppM (dVar 5) (dVar 12)) (dsAppM (dVar 3) (dIfE (dTest (dBin gEq (dVar 7) (dBin gSub (dVar 6) (dC (.int 1))))) (dTup (dCons (dC (.str "end")) (dNil))) (dTup (dCons (dC (.str "tick")) (dNil)))))))
theorem dm_part (h : b.Ok) (G : Gd ls sp ms) (hl : ls.length < 800) (hms : ms.length < 900) {n q p : Nat} {top : Int} {s8 s9 s10 s11 s12 : Option Sl} :
    ∃ a' ls' sp' m t8 t9 t10 t11 t12, Gd ls' sp' (ms ++ [m]) ∧ ls'.length ≤ ls.length + 9 ∧ dmPart K (dmR b n top q (some (.sh (.int (p : Nat)))) s8 s9 s10 s11 s12 none) (gMu b a ls sp ms) = some (.nx (dmR b n top q (some (.sh (.int (p : Nat)))) t8 t9 t10 t11 t12 none), gMu b a' ls' sp' (ms ++ [m])) := by
  obtain ⟨v, a0, hv, e0⟩ := g_take (K := K) h (a := a) (ls := ls) (sp := sp) (ms := ms) (ρ := dmR b n top q (some (.sh (.int (p : Nat)))) s8 s9 s10 s11 s12 none) (mT := dC (.int 8)) (m := 8) rfl rfl (by decide)
  have er : dBin gAdd (dC (.int 1)) (dCall (S__law_take K) 2 (dCons (dVar 0) (dCons (dC (.int 8)) (dNil)))) (dmR b n top q (some (.sh (.int (p : Nat)))) s8 s9 s10 s11 s12 none) (gMu b a ls sp ms) = some (.ok (.int ((1 + v : Nat) : Int)), gMu b a0 ls sp ms) := by
    have e : ((1 + v : Nat) : Int) = 1 + (v : Int) := by omega
    rw [e]
    exact bin_is rfl e0 gAdd_int
  obtain ⟨ρ', μ', e1, ⟨a1, ls1, sp1, t8, t9, t10, t11, G1, l1, e2⟩⟩ := for_inv (gt := gtName 8) (tb := dmBody K) (ds := rangeD 0 (1 + v))
    (fun k ρ μ2 => ∃ a' ls' sp' t8 t9 t10 t11, Gd ls' sp' ms ∧ ls'.length = ls.length + k ∧ ρ = dmR b n top q (some (.sh (.int (p : Nat)))) t8 t9 t10 t11 s12 none ∧ μ2 = gMu b a' ls' sp' ms) (fun k dd ρ μ2 hd hI => by
      obtain ⟨a', ls', sp', t8, t9, t10, t11, G', l', rfl, rfl⟩ := hI
      obtain ⟨hk, rfl⟩ := rng_at hd
      obtain ⟨a3, ls3, sp3, u9, u10, u11, G3, l3, e3⟩ := dm_turn (K := K) h G' (a := a') (by omega) (n := n) (q := q) (top := top) (s7 := some (.sh (.int (p : Nat)))) (s8 := some (.sh (.int (k : Nat)))) (s9 := t9) (s10 := t10) (s11 := t11) (s12 := s12) (s13 := none)
      exact ⟨_, _, _, gtName_ap, e3, a3, ls3, sp3, _, _, _, _, G3, by omega, rfl, rfl⟩) (ρ := dmR b n top q (some (.sh (.int (p : Nat)))) s8 s9 s10 s11 s12 none) (μ := gMu b a0 ls sp ms) ⟨a0, ls, sp, _, _, _, _, G, by omega, rfl, rfl⟩
  rw [rng_len] at l1
  obtain ⟨rfl, rfl⟩ := e2
  obtain ⟨m, a2, hm1, hm2, e3⟩ := dm_mark (K := K) h G1 (n := n) (q := q) (top := top) (s7 := some (.sh (.int (p : Nat)))) (s8 := t8) (s9 := t9) (s10 := t10) (s11 := t11) (s12 := s12) (s13 := none) (rangeD 0 3) [] a1 (by rw [rng_len]; simp) (fun i hi => by cases hi)
  rw [rng_len] at hm1
  have hm3 : m.length = 3 := by simpa using hm1
  have mk : dFz (dLc [13] (dRng1 (dC (.int 3))) (gtName 13) (dYes) (dmPick K)) (dmR b n top q (some (.sh (.int (p : Nat)))) t8 t9 t10 t11 s12 none) (gMu b a1 ls1 sp1 ms) = some (.ok (.lst (dI m)), gMu b a2 ls1 sp1 ms) := fz_is (dLc_is (rng1_m (m := 3) rfl (by decide)) rfl e3)
  have e4 := g_appM (b := b) (a := a2) (ls := ls1) (sp := sp1) (ms := ms) (m := m) (a' := a2) (te := dVar 12) (ρ := dmR b n top q (some (.sh (.int (p : Nat)))) t8 t9 t10 t11 (some (.sh (.lst (dI m)))) none) (by omega) rfl rfl
  have tt : dTest (dBin gEq (dVar 7) (dBin gSub (dVar 6) (dC (.int 1)))) (dmR b n top q (some (.sh (.int (p : Nat)))) t8 t9 t10 t11 (some (.sh (.lst (dI m)))) none) (gMu b a2 ls1 sp1 (ms ++ [m])) = some (.ok (decide ((p : Int) = (q : Int) - 1)), gMu b a2 ls1 sp1 (ms ++ [m])) := test_is (bin_is rfl (bin_is rfl rfl gSub_int) gEq_int)
  have e5 : ∃ l : Ln, l.uses = [] ∧ dsAppM (dVar 3) (dIfE (dTest (dBin gEq (dVar 7) (dBin gSub (dVar 6) (dC (.int 1))))) (dTup (dCons (dC (.str "end")) (dNil))) (dTup (dCons (dC (.str "tick")) (dNil)))) (dmR b n top q (some (.sh (.int (p : Nat)))) t8 t9 t10 t11 (some (.sh (.lst (dI m)))) none) (gMu b a2 ls1 sp1 (ms ++ [m])) = some (.nx (dmR b n top q (some (.sh (.int (p : Nat)))) t8 t9 t10 t11 (some (.sh (.lst (dI m)))) none), gMu b a2 (ls1 ++ [l]) sp1 (ms ++ [m])) := by
    by_cases z : (p : Int) = (q : Int) - 1
    · rw [decide_eq_true z] at tt
      refine ⟨.fin, rfl, g_appL (by omega) rfl ?_⟩
      rw [dIfE_ap, bind_ap, tt]
      exact tup_is (cons_is rfl rfl) (by simp)
    · rw [decide_eq_false z] at tt
      refine ⟨.tick, rfl, g_appL (by omega) rfl ?_⟩
      rw [dIfE_ap, bind_ap, tt]
      exact tup_is (cons_is rfl rfl) (by simp)
  obtain ⟨l, hlu, e5⟩ := e5
  refine ⟨a2, ls1 ++ [l], sp1, m, _, _, _, _, _, G1.mark hlu (by omega) hm2, by simp; omega, seq_nx (for_is (rng1_m er (by omega)) e1) (seq_nx (set_is mk) (seq_nx e4 e5))⟩
end
end K56
set_option Elab.async false
set_option linter.all false
set_option maxRecDepth 100000
set_option maxHeartbeats 8000000
set_option autoImplicit false
namespace K56
open PySem PySem.Spec L2 DL
variable {K : Fg} {μ : Mu}
theorem scope_cut {F : List D → M D} {ds : List D} {μ μ1 ν : Mu} {d : D} (h : F ds μ = some (.ok d, μ1 ++ ν)) (hl : μ1.length = μ.length) (hd : d.low μ.length = true) (w : Wf μ1) : scopeF F ds μ = some (.ok d, μ1) := by
  unfold scopeF
  rw [h]
  have e : (μ1 ++ ν).take μ.length = μ1 := by rw [← hl]; simp
  show (if (d.low μ.length && ((μ1 ++ ν).take μ.length).all (MO.low μ.length)) = true then some (Res.ok d, (μ1 ++ ν).take μ.length) else none) = _
  rw [e, hd, if_pos (by rw [Bool.true_and, ← hl]; exact w)]
theorem fzM_is {ρ : Rho} {i k : Nat} {ds : List D} (h1 : ρ[i]? = some (some (.sh (.mref k)))) (h2 : μ[k]? = some (.lst ds)) : dsFzM i ρ μ = some (.nx (ρ.set i (some (.sh (.lst ds)))), μ.set k .dead) := by
  rw [dsFzM_ap, h1]
  simp only [h2]
theorem Gd.ok {ls : List Ln} {sp : List Nat} {ms : List (List Nat)} (G : Gd ls sp ms) (h1 : ls.length ≤ 35) (h2 : ms.length ≤ 1000) : Ok (ls, ms) :=
  ⟨G.l, G.v, h1, fun m hm => ⟨(G.m m hm).1, fun i hi => val_lt ((G.m m hm).2 i hi)⟩, h2, fun m hm i hi => (G.m m hm).2 i hi⟩
theorem gd_start (z : Int) : Gd [.get 0, .get 1, .num z] [0, 1, 2] [[2, 0, 1]] := by
  refine ⟨okL_of fun i hi a ha => ?_, okV_of fun i hi a ha => ?_, fun i hi => ?_, by decide, by simp, fun m hm => ?_, ⟨z, [], rfl⟩, ⟨[], rfl⟩⟩
  · match i, hi with
    | 0, _ => cases ha
    | 1, _ => cases ha
    | 2, _ => cases ha
    | n + 3, h => exact absurd h (by simp)
  · match i, hi with
    | 0, _ => cases ha
    | 1, _ => cases ha
    | 2, _ => cases ha
    | n + 3, h => exact absurd h (by simp)
  · simp only [List.mem_cons, List.not_mem_nil, or_false] at hi
    rcases hi with rfl | rfl | rfl <;> rfl
  · rw [List.mem_singleton.mp hm]
    refine ⟨by decide, fun i hi => ?_⟩
    simp only [List.mem_cons, List.not_mem_nil, or_false] at hi
    rcases hi with rfl | rfl | rfl <;> rfl
theorem amb_m {t : TL} {ρ : Rho} {ds : List D} {μ1 : Mu} (h : t ρ μ = some (.ok ds, μ1)) : dAmb t ρ μ = some (.ok (.mref μ1.length), μ1 ++ [.lst ds]) := by
  rw [dAmb_ap, bind_ap, h]
theorem amb_at {t : TL} {ρ : Rho} {ds : List D} {μ1 μ2 : Mu} {k : Nat} (h : t ρ μ = some (.ok ds, μ1)) (hk : μ1.length = k) (hm : μ1 ++ [.lst ds] = μ2) : dAmb t ρ μ = some (.ok (.mref k), μ2) := by
  rw [amb_m h, hk, hm]
theorem drawn_eq {b : Bs} (h : b.Ok) (a : Nat) {n : Nat} (hn : n ≤ 60) :
    ∃ (r : Rw) (a' : Nat), Ok r ∧ (∃ z ls0, r.1 = .get 0 :: .get 1 :: .num z :: ls0) ∧ (∃ ms0, r.2 = [2, 0, 1] :: ms0) ∧ S__law_drawn_middle K [.mref b.k, .int (n : Int)] (b.at' a) = some (.ok (rR r), b.at' a') := by
  obtain ⟨z, a1, ew⟩ := word_eq (K := K) (n := n) (h.wf a) (h.dr a) (by omega)
  rw [Bs.set_set] at ew
  have ini : initR 14 [.mref b.k, .int (n : Int)] = [some (.sh (.mref b.k)), some (.sh (.int (n : Int))), none, none, none, none, none, none, none, none, none, none, none, none] := rfl
  have top : dBin gSub (dBin gShl (dC (.int 1)) (dVar 1)) (dC (.int 1)) [some (.sh (.mref b.k)), some (.sh (.int (n : Int))), none, none, none, none, none, none, none, none, none, none, none, none] (b.at' a) = some (.ok (.int (2 ^ n - 1)), b.at' a) := bin_is (bin_is rfl rfl (gShl1 (by omega))) rfl gSub_int
  -- the first three lines
  have g0 : ∀ (i : Int) (ρ : Rho) (ν : Mu), dTup (dCons (dC (.str "get")) (dCons (dC (.int i)) (dNil))) ρ ν = some (.ok (Ln.get i).d, ν) := fun i ρ ν => tup_is (cons_is rfl (cons_is rfl rfl)) (by simp)
  have s3 : dAmb (dLst (dCons (dTup (dCons (dC (.str "get")) (dCons (dC (.int 0)) (dNil)))) (dCons (dTup (dCons (dC (.str "get")) (dCons (dC (.int 1)) (dNil)))) (dCons (dTup (dCons (dC (.str "num")) (dCons (dCall (S__law_word K) 2 (dCons (dVar 0) (dCons (dVar 1) (dNil)))) (dNil)))) (dNil))))) [some (.sh (.mref b.k)), some (.sh (.int (n : Int))), some (.sh (.int (2 ^ n - 1))), none, none, none, none, none, none, none, none, none, none, none] (b.at' a) = some (.ok (.mref b.μ.length), b.at' a1 ++ [.lst ([Ln.get 0, Ln.get 1, Ln.num z].map Ln.d)]) := by
    refine amb_at (ds := [Ln.get 0, Ln.get 1, Ln.num z].map Ln.d) (μ1 := b.at' a1) (lst_is (cons_is (g0 0 _ _) (cons_is (g0 1 _ _) (cons_is (tup_is (cons_is rfl (cons_is (call2_m rfl rfl ew) rfl)) (by simp)) rfl))) (by simp)) Bs.len rfl
  have s4 : dAmb (dLst (dCons (dC (.int 0)) (dCons (dC (.int 1)) (dCons (dC (.int 2)) (dNil))))) [some (.sh (.mref b.k)), some (.sh (.int (n : Int))), some (.sh (.int (2 ^ n - 1))), some (.sh (.mref b.μ.length)), none, none, none, none, none, none, none, none, none, none] (b.at' a1 ++ [.lst ([Ln.get 0, Ln.get 1, Ln.num z].map Ln.d)]) = some (.ok (.mref (b.μ.length + 1)), b.at' a1 ++ [.lst ([Ln.get 0, Ln.get 1, Ln.num z].map Ln.d)] ++ [.lst (dI [0, 1, 2])]) := by
    refine amb_at (ds := dI [0, 1, 2]) (lst_is (cons_is rfl (cons_is rfl (cons_is rfl rfl))) (by simp)) ?_ rfl
    rw [List.length_append, Bs.len]
    rfl
  have s5 : dAmb (dLst (dCons (dFz (dLst (dCons (dC (.int 2)) (dCons (dC (.int 0)) (dCons (dC (.int 1)) (dNil)))))) (dNil))) [some (.sh (.mref b.k)), some (.sh (.int (n : Int))), some (.sh (.int (2 ^ n - 1))), some (.sh (.mref b.μ.length)), some (.sh (.mref (b.μ.length + 1))), none, none, none, none, none, none, none, none, none] (b.at' a1 ++ [.lst ([Ln.get 0, Ln.get 1, Ln.num z].map Ln.d)] ++ [.lst (dI [0, 1, 2])]) = some (.ok (.mref (b.μ.length + 2)), gMu b a1 [.get 0, .get 1, .num z] [0, 1, 2] [[2, 0, 1]]) := by
    refine amb_at (ds := dM [[2, 0, 1]]) (lst_is (cons_is (fz_is (lst_is (cons_is rfl (cons_is rfl (cons_is rfl rfl))) (by simp))) rfl) (by simp)) ?_ ?_
    · rw [List.length_append, List.length_append, Bs.len]
      rfl
    · unfold gMu
      rw [List.append_assoc, List.append_assoc]
      rfl
  -- how many parts
  obtain ⟨v, a2, hv, e6⟩ := g_take (K := K) h (a := a1) (ls := [.get 0, .get 1, .num z]) (sp := [0, 1, 2]) (ms := [[2, 0, 1]]) (ρ := [some (.sh (.mref b.k)), some (.sh (.int (n : Int))), some (.sh (.int (2 ^ n - 1))), some (.sh (.mref b.μ.length)), some (.sh (.mref (b.μ.length + 1))), some (.sh (.mref (b.μ.length + 2))), none, none, none, none, none, none, none, none]) (mT := dC (.int 3)) (m := 3) rfl rfl (by decide)
  have hv' : v < 3 := by omega
  have at3 : atI ([.int 1, .int 2, .int 3] : List D) (v : Int) = some (.int ((v + 1 : Nat) : Int)) := by
    match v, hv' with
    | 0, _ => rfl
    | 1, _ => rfl
    | 2, _ => rfl
    | k + 3, h => omega
  have s6 : dIx (qVal (dFz (dLst (dCons (dC (.int 1)) (dCons (dC (.int 2)) (dCons (dC (.int 3)) (dNil))))))) (dCall (S__law_take K) 2 (dCons (dVar 0) (dCons (dC (.int 3)) (dNil)))) [some (.sh (.mref b.k)), some (.sh (.int (n : Int))), some (.sh (.int (2 ^ n - 1))), some (.sh (.mref b.μ.length)), some (.sh (.mref (b.μ.length + 1))), some (.sh (.mref (b.μ.length + 2))), none, none, none, none, none, none, none, none] (gMu b a1 [.get 0, .get 1, .num z] [0, 1, 2] [[2, 0, 1]]) = some (.ok (.int ((v + 1 : Nat) : Int)), gMu b a2 [.get 0, .get 1, .num z] [0, 1, 2] [[2, 0, 1]]) :=
    ix_lst (fz_is (lst_is (cons_is rfl (cons_is rfl (cons_is rfl rfl))) (by simp))) e6 at3
  -- the parts
  obtain ⟨ρ', μ', e7, ⟨a3, ls, sp, ms, t7, t8, t9, t10, t11, t12, G, l1, l2, e8⟩⟩ := for_inv (gt := gtName 7) (tb := dmPart K) (ds := rangeD 0 (v + 1))
    (fun k ρ μ2 => ∃ a' ls sp ms t7 t8 t9 t10 t11 t12, Gd ls sp ms ∧ ls.length ≤ 3 + 9 * k ∧ ms.length = 1 + k ∧ ρ = dmR b n (2 ^ n - 1) (v + 1) t7 t8 t9 t10 t11 t12 none ∧ μ2 = gMu b a' ls sp ms) (fun k dd ρ μ2 hd hI => by
      obtain ⟨a', ls, sp, ms, t7, t8, t9, t10, t11, t12, G, l1, l2, rfl, rfl⟩ := hI
      obtain ⟨hk, rfl⟩ := rng_at hd
      obtain ⟨a4, ls', sp', m, u8, u9, u10, u11, u12, G', l', e⟩ := dm_part (K := K) h G (a := a') (by omega) (by omega) (n := n) (q := v + 1) (p := k) (top := 2 ^ n - 1) (s8 := t8) (s9 := t9) (s10 := t10) (s11 := t11) (s12 := t12)
      exact ⟨_, _, _, gtName_ap, e, a4, ls', sp', _, _, _, _, _, _, _, G', by omega, by simp; omega, rfl, rfl⟩) (ρ := dmR b n (2 ^ n - 1) (v + 1) none none none none none none none) (μ := gMu b a2 [.get 0, .get 1, .num z] [0, 1, 2] [[2, 0, 1]]) ⟨a2, _, _, _, _, _, _, _, _, _, gd_start z, by simp, by simp, rfl, rfl⟩
  rw [rng_len] at l1 l2
  obtain ⟨rfl, rfl⟩ := e8
  refine ⟨(ls, ms), a3, G.ok (by omega) (by omega), G.p, G.q, scope_cut (ν := [.dead, .lst (dI sp), .dead]) (run_rt ?_) (Bs.len.trans Bs.len.symm) (low_row _ _) (h.wf a3)⟩
  unfold B__law_drawn_middle
  rw [ini]
  refine seq_nx (set_is top) (seq_nx (set_is s3) (seq_nx (set_is s4) (seq_nx (set_is s5) (seq_nx (set_is s6) (seq_nx (for_is (rng1_m (m := v + 1) rfl (by omega)) e7) ?_)))))
  have f1 := fzM_is (ρ := dmR b n (2 ^ n - 1) (v + 1) t7 t8 t9 t10 t11 t12 none) (i := 3) rfl (g_ls (b := b) (a := a3) (ls := ls) (sp := sp) (ms := ms))
  have m1 : (gMu b a3 ls sp ms).set b.μ.length .dead = b.at' a3 ++ [.dead, .lst (dI sp), .lst (dM ms)] := by
    unfold gMu
    rw [List.set_append_right _ _ (by rw [Bs.len]; omega), Bs.len, Nat.sub_self]
    rfl
  rw [m1] at f1
  have k2 : (b.at' a3 ++ [MO.dead, MO.lst (dI sp), MO.lst (dM ms)])[b.μ.length + 2]? = some (.lst (dM ms)) := by
    rw [List.getElem?_append_right (by rw [Bs.len]; omega), Bs.len, Nat.add_sub_cancel_left]
    rfl
  have f2 := fzM_is (μ := b.at' a3 ++ [.dead, .lst (dI sp), .lst (dM ms)]) (ρ := (dmR b n (2 ^ n - 1) (v + 1) t7 t8 t9 t10 t11 t12 none).set 3 (some (.sh (.lst (ls.map Ln.d))))) (i := 5) rfl k2
  have m2 : (b.at' a3 ++ [MO.dead, MO.lst (dI sp), MO.lst (dM ms)]).set (b.μ.length + 2) MO.dead = b.at' a3 ++ [MO.dead, MO.lst (dI sp), MO.dead] := by
    rw [List.set_append_right _ _ (by rw [Bs.len]; omega), Bs.len, Nat.add_sub_cancel_left]
    rfl
  rw [m2] at f2
  exact seq_nx f1 (seq_nx f2 (ret_is (fz_is (lst_is (cons_is rfl (cons_is rfl rfl)) (by simp)))))
end K56
set_option Elab.async false
set_option linter.all false
set_option maxRecDepth 100000
set_option maxHeartbeats 8000000
set_option autoImplicit false
namespace K56
open PySem PySem.Spec L2 DL
variable {K : Fg} {μ : Mu}
/-- a line's items -/
def lit (l : Ln) : List D := match l.d with
  | .tup ds => ds
  | _ => []
theorem lit_tup (l : Ln) : D.tup (lit l) = l.d := ln_tup l
theorem lit_low (n : Nat) (l : Ln) : D.lowAll n (lit l) = true := ln_low n l
theorem wf_apps : ∀ (A : List MO) {μ : Mu}, Wf μ → (∀ m ∈ A, ∀ n, m.low n = true) → Wf (μ ++ A)
  | [], μ, w, _ => by rw [List.append_nil]; exact w
  | m :: A, μ, w, h => by
    have q := wf_apps A (Wf.app (m := m) w (h m (List.mem_cons_self ..) _)) fun x hx n => h x (List.mem_cons_of_mem _ hx) n
    rw [List.append_assoc] at q
    exact q
abbrev refs (k n : Nat) : List D := (List.range n).map fun i => D.mref (k + i)
theorem low_refs {k n N : Nat} (h : k + n ≤ N) : D.lowAll N (refs k n) = true := by
  have key : ∀ (is : List Nat), (∀ i ∈ is, k + i < N) → D.lowAll N (is.map fun i => D.mref (k + i)) = true := by
    intro is
    induction is with
    | nil => intro _; rfl
    | cons i is ih =>
      intro hh
      show (D.low N (D.mref (k + i)) && D.lowAll N (is.map fun i => D.mref (k + i))) = true
      rw [ih fun j hj => hh j (List.mem_cons_of_mem _ hj)]
      have : D.low N (D.mref (k + i)) = decide (k + i < N) := rfl
      rw [this, decide_eq_true (hh i (List.mem_cons_self ..))]
      rfl
  exact key _ fun i hi => by have := List.mem_range.mp hi; omega
/-- [list(x) for x in xs]: lists that may change -/
theorem amb_lc {α : Type} (enc : α → D) (g : α → List D) {s : Nat} {ρ : Rho} (hs : ∀ d : D, ((wipeR ρ [s]).set s (some (.sh d)))[s]? = some (some (.sh d))) (hq : ∀ x ρ ν, qv (.val (enc x)) ρ ν = some (g x)) : ∀ (xs : List α) (acc : List D) (ν : Mu), acc.length + xs.length ≤ 1000 →
    lcL [s] (gtName s) dYes (dAmb (dLstOf (qVal (dVar s)))) ρ (xs.map enc) acc ν = some (.ok (acc ++ refs ν.length xs.length), ν ++ xs.map fun x => MO.lst (g x))
  | [], acc, ν, _ => by simp [lcL, refs]
  | x :: xs, acc, ν, hl => by
    rw [List.length_cons] at hl
    have e1 : dAmb (dLstOf (qVal (dVar s))) ((wipeR ρ [s]).set s (some (.sh (enc x)))) ν = some (.ok (.mref ν.length), ν ++ [.lst (g x)]) := by
      refine amb_m ?_
      rw [dLstOf_ap, bind_ap, qVal_ap, bind_ap, dVar_ap, hs]
      simp only [ret_ap, hq]
    have hz : acc.length < sizeLine := by simp [sizeLine]; omega
    have ih := amb_lc enc g hs hq xs (acc ++ [.mref ν.length]) (ν ++ [.lst (g x)]) (by simp; omega)
    rw [List.map_cons]
    unfold lcL
    simp only [gtName_ap, bind_ap, nx_ap, dYes_ap, ret_ap, if_true, e1, hz]
    rw [ih]
    have er : acc ++ [D.mref ν.length] ++ refs (ν ++ [MO.lst (g x)]).length xs.length = acc ++ refs ν.length (x :: xs).length := by
      rw [List.append_assoc]
      congr 1
      unfold refs
      rw [List.length_append, List.length_singleton, List.length_cons, List.range_succ_eq_map, List.map_cons, List.map_map]
      show D.mref ν.length :: _ = _
      congr 1
      refine List.map_congr_left fun i _ => ?_
      show D.mref (ν.length + 1 + i) = D.mref (ν.length + (i + 1))
      congr 1
      omega
    rw [er, List.append_assoc]
    rfl
theorem rows_mref {L : Nat} {xs : List Nat} {k : Nat} {g : Nat → List D} (h : μ[L]? = some (.lst (xs.map fun i => D.mref (k + i)))) (h2 : ∀ i ∈ xs, μ[k + i]? = some (.lst (g i))) : Rows2 (.mref L) μ xs g := by
  refine ⟨fun i => .mref (k + i), nxtM L, ?_, fun i => ?_, fun i hi => ⟨fun ρ => ?_, rfl⟩⟩
  · unfold srcOf
    simp only [items_mref, muLst_mref, h, List.length_map]
  · unfold nxtM
    simp only [h]
  · rw [qv_mref, h2 i hi]
theorem look_in {M A T : Mu} {i : Nat} (h : i < A.length) : (M ++ (A ++ T))[M.length + i]? = A[i]? := by
  rw [List.getElem?_append_right (by omega), Nat.add_sub_cancel_left, List.getElem?_append_left h]
theorem look_at {M A T : Mu} {x : MO} : (M ++ (A ++ x :: T))[M.length + A.length]? = some x := by
  rw [List.getElem?_append_right (by omega), Nat.add_sub_cancel_left, List.getElem?_append_right (by omega), Nat.sub_self]
  rfl
theorem setix_is {te to' tb : TD} {ρ : Rho} {k j : Nat} {ds : List D} {y : D} {i : Int} (h1 : te ρ μ = some (.ok y, μ)) (h2 : to' ρ μ = some (.ok (.mref k), μ)) (h3 : tb ρ μ = some (.ok (.int i), μ)) (h4 : μ[k]? = some (.lst ds)) (h5 : ixN ds.length i = some j) : dsSetIxM te to' tb ρ μ = some (.nx ρ, μ.set k (.lst (ds.set j y))) := by
  rw [dsSetIxM_ap, dsE_ap, h1]
  simp only [dsE_ap, h2, h3, muLst_mref, h4, h5]
theorem mid_lines {ls : List Ln} : ((List.range ls.length).map fun i => D.tup (lit (ls.getD i .tick))) = ls.map Ln.d := by
  refine List.ext_getElem? fun i => ?_
  rw [List.getElem?_map, List.getElem?_map]
  by_cases h : i < ls.length
  · rw [List.getElem?_range h, sh_at h]
    show some (D.tup (lit (ls.getD i .tick))) = some (ls.getD i .tick).d
    rw [lit_tup]
  · rw [List.getElem?_eq_none (by rw [List.length_range]; omega), List.getElem?_eq_none (by omega)]
    rfl
theorem mid_marks {ms : List (List Nat)} : ((List.range ms.length).map fun i => D.tup (dI (ms.getD i []))) = ms.map fun m => D.tup (dI m) := by
  refine List.ext_getElem? fun i => ?_
  rw [List.getElem?_map, List.getElem?_map]
  by_cases h : i < ms.length
  · rw [List.getElem?_range h, List.getElem?_eq_getElem h]
    show some (D.tup (dI (ms.getD i []))) = some (D.tup (dI ms[i]))
    rw [List.getD_eq_getElem?_getD, List.getElem?_eq_getElem h]
    rfl
  · rw [List.getElem?_eq_none (by rw [List.length_range]; omega), List.getElem?_eq_none (by omega)]
    rfl
/-- Middle(lines, marks) of things that hold the same -/
theorem middle_is2 {tl : TL} {ρ : Rho} {μ0 : Mu} {ls : List Ln} {ms : List (List Nat)} {L M' : D} {e1 : List Nat → D} (w : Wf μ) (ht : tl ρ μ0 = some (.ok [L, M'], μ)) (hL : L.items = some (ls.map Ln.d)) (hM : M'.items = some (ms.map e1)) (he : ∀ m, (∀ ρ ν, qv (.val (e1 m)) ρ ν = some (dI m)) ∧ QV.isK (.val (e1 m)) = false) (h1 : ls.length ≤ 1000) (h2 : ms.length ≤ 1000) :
    dMake (He.ga K "Middle") (S_Middle_init K) 3 tl ρ μ0 = some (.ok (mid K ls ms), μ) := by
  have q := middle_eq (K := K) (xs := ls) (ys := ms) (g := lit) (g' := fun m => dI m) w ht (Rows2.items Ln.d hL fun l _ => by cases l <;> exact ⟨fun _ => rfl, rfl⟩) (Rows2.items e1 hM fun m _ => ⟨fun ρ => (he m).1 ρ _, (he m).2⟩) h1 h2 (fun n l _ => lit_low n l) (fun n m _ => low_ints m)
  rw [q]
  have e : (ls.map fun l => D.tup (lit l)) = ls.map Ln.d := List.map_congr_left fun l _ => lit_tup l
  rw [e]
/-- Middle(lines, marks) of lists that may change -/
theorem middle_is3 {tl : TL} {ρ : Rho} {μ0 : Mu} {ls : List Ln} {ms : List (List Nat)} {L M' k1 k2 : Nat} (w : Wf μ) (ht : tl ρ μ0 = some (.ok [.mref L, .mref M'], μ)) (a1 : μ[L]? = some (.lst (refs k1 ls.length))) (a2 : ∀ i, i < ls.length → μ[k1 + i]? = some (.lst (lit (ls.getD i .tick)))) (b1 : μ[M']? = some (.lst (refs k2 ms.length))) (b2 : ∀ i, i < ms.length → μ[k2 + i]? = some (.lst (dI (ms.getD i []))))
    (h1 : ls.length ≤ 1000) (h2 : ms.length ≤ 1000) : dMake (He.ga K "Middle") (S_Middle_init K) 3 tl ρ μ0 = some (.ok (mid K ls ms), μ) := by
  have more : ∀ {x : MO} {j : Nat} {o : MO}, μ[j]? = some o → (μ ++ [x])[j]? = some o := fun h => by
    rw [List.getElem?_append_left (List.getElem?_eq_some_iff.mp h).1]
    exact h
  have q := middle_eq (K := K) (xs := List.range ls.length) (ys := List.range ms.length) (g := fun i => lit (ls.getD i .tick)) (g' := fun i => dI (ms.getD i [])) w ht (rows_mref (more a1) fun i hi => more (a2 i (List.mem_range.mp hi))) (rows_mref (more b1) fun i hi => more (b2 i (List.mem_range.mp hi))) (by rw [List.length_range]; exact h1) (by rw [List.length_range]; exact h2) (fun n i _ => lit_low n _) (fun n i _ => low_ints _)
  rw [q, mid_lines, mid_marks]
end K56
set_option Elab.async false
set_option linter.all false
set_option maxRecDepth 100000
set_option maxHeartbeats 8000000
set_option autoImplicit false
namespace K56
open PySem PySem.Spec L2 DL
variable {K : Fg} {μ : Mu}
theorem setO_is {t : TL} {ρ : Rho} {i : Nat} {ds : List D} {μ1 : Mu} (h : t ρ μ = some (.ok ds, μ1)) : dsSetO i t ρ μ = some (.nx (ρ.set i (some (.ol ds))), μ1) := by
  rw [dsSetO_ap, dsE_ap, h]
theorem ambS_is {ρ : Rho} {i : Nat} {ds : List D} (h : ρ[i]? = some (some (.ol ds))) : dsAmb i ρ μ = some (.nx (ρ.set i (some (.sh (.mref μ.length)))), μ ++ [.lst ds]) := by
  rw [dsAmb_ap, h]
theorem refs_at {k n i : Nat} (h : i < n) : atI (refs k n) (i : Int) = some (.mref (k + i)) := by
  rw [DL.atI_nat, List.getElem?_map, List.getElem?_range h]
  rfl
theorem iter_lst {t : TD} {ρ : Rho} {ds : List D} {μ1 : Mu} (h : t ρ μ = some (.ok (.lst ds), μ1)) : dIter t ρ μ = some (.ok ds, μ1) := by
  rw [dIter_ap, bind_ap, h]
  rfl
theorem tupOf_tup {t : TD} {ρ : Rho} {ds : List D} {μ1 : Mu} (h : t ρ μ = some (.ok (.lst ds), μ1)) : dTupOf (qVal t) ρ μ = some (.ok (.tup ds), μ1) := tupOf_is h
theorem set_ne {M : Mu} {i j : Nat} {x : MO} {o : Option MO} (h : M[j]? = o) (hn : i ≠ j) : (M.set i x)[j]? = o := by
  rw [List.getElem?_set_ne hn]
  exact h
noncomputable abbrev lawRest (K : Fg) : TO' := dsSeq (dsSetO 4 (dLc [8] (dIter (dIx (qVal (dVar 3)) (dC (.int 0)))) (gtName 8) (dYes) (dAmb (dLstOf (qVal (dVar 8)))))) (dsSeq (dsAmb 4) (dsSeq (dsSetO 5 (dLc [9] (dIter (dIx (qVal (dVar 3)) (dC (.int 1)))) (gtName 9) (dYes) (dAmb (dLstOf (qVal (dVar 9)))))) (dsSeq (dsAmb 5) (dsSeq (dsSet 6 (dMake (He.ga K "Middle") (S_Middle_init K) 3 (dCons (dVar 4) (dCons (dVar 5) (dNil))))) (dsSeq (dsSetIxM (dC (.int 77)) (dIx (qVal (dVar 4)) (dC (.int 2))) (dC (.int 1))) (dsSeq (dsSetIxM (dC (.int 0)) (dIx (qVal (dVar 5)) (dC (.int 0))) (dC (.int 0))) (dsSeq (dsAppM (dVar 4) (dFz (dLst (dCons (dC (.str "end")) (dNil))))) (dsSeq (dsSet 7 (dMake (He.ga K "Middle") (S_Middle_init K) 3 (dCons (dTupOf (qVal (dIx (qVal (dVar 3)) (dC (.int 0))))) (dCons (dTupOf (qVal (dFz (dLc [9] (dIter (dIx (qVal (dVar 3)) (dC (.int 1)))) (gtName 9) (dYes) (dTupOf (qVal (dVar 9))))))) (dNil))))) (dsSeq (dsIf (dOr (dNot (dTruth (dCall (S__law_is K) 2 (dCons (dVar 6) (dCons (dVar 3) (dNil)))))) (dOr (dTest (dBin (gIs2 true) (dEqOwn (He.ga K "Middle") (S_Middle_eq K) (dVar 6) (dVar 7)) (dC (.bl true)))) (dTest (dBin (gIs2 true) (dEqOwn (He.ga K "Middle") (S_Middle_eq K) (dVar 6) (dC (.int 5))) (dC (.bl false)))))) (dsRet (dC (.bl false))) (dsNext)) (dsSeq (dsIf (dTest (dBin (gIs2 true) (dEqOwn (He.ga K "Middle") (S_Middle_eq K) (dVar 6) (dMake (He.ga K "Middle") (S_Middle_init K) 3 (dCons (dIx (qVal (dVar 3)) (dC (.int 0))) (dCons (dFz (dCat (qVal (dFz (dLst (dCons (dFz (dLst (dCons (dC (.int 2)) (dCons (dC (.int 1)) (dCons (dC (.int 0)) (dNil)))))) (dNil))))) (qVal (dFz (dSlice (qVal (dIx (qVal (dVar 3)) (dC (.int 1)))) (dPoS (dC (.int 1))) (dPoN)))))) (dNil))))) (dC (.bl false)))) (dsRet (dC (.bl false))) (dsNext)) (dsSeq (dsIf (dOr (dNot (dTruth (dCall (S__law_lines_are K) 2 (dCons (dVar 6) (dCons (dVar 3) (dNil)))))) (dNot (dTruth (dCall (S__law_passes_are K) 3 (dCons (dVar 6) (dCons (dVar 3) (dCons (dVar 2) (dNil)))))))) (dsRet (dC (.bl false))) (dsNext)) (dsRet (dAndV (dCall (S__law_passes_are K) 3 (dCons (dVar 7) (dCons (dVar 3) (dCons (dVar 2) (dNil))))) (dAndV (dCall (S__law_is K) 2 (dCons (dVar 6) (dCons (dVar 3) (dNil)))) (dCall (S__law_is K) 2 (dCons (dVar 7) (dCons (dVar 3) (dNil))))))))))))))))))
theorem row_0 {ls : List Ln} {ms : List (List Nat)} {s0 s1 s2 s4 s5 s6 s7 s8 s9 : Option Sl} : dIx (qVal (dVar 3)) (dC (.int 0)) [s0, s1, s2, some (.sh (row ls ms)), s4, s5, s6, s7, s8, s9] μ = some (.ok (lLn ls), μ) := ix_lst rfl rfl atI_0
theorem row_1 {ls : List Ln} {ms : List (List Nat)} {s0 s1 s2 s4 s5 s6 s7 s8 s9 : Option Sl} : dIx (qVal (dVar 3)) (dC (.int 1)) [s0, s1, s2, some (.sh (row ls ms)), s4, s5, s6, s7, s8, s9] μ = some (.ok (lM ms), μ) := ix_lst rfl rfl atI_1
theorem qv_ln (l : Ln) (ρ : Rho) (ν : Mu) : qv (.val l.d) ρ ν = some (lit l) := by cases l <;> rfl
theorem law_rest {M : Mu} (w : Wf M) {r : Rw} (h : Ok r) (hz : ∃ z ls0, r.1 = .get 0 :: .get 1 :: .num z :: ls0) (hq : ∃ ms0, r.2 = [2, 0, 1] :: ms0) {n : Nat} (hn : n ≤ 60) {s0 s1 : Option Sl} :
    ∃ μ', lawRest K [s0, s1, some (.sh (.int (n : Int))), some (.sh (rR r)), none, none, none, none, none, none] M = some (.rt (.bl true), μ') := by
  obtain ⟨ls, ms⟩ := r
  obtain ⟨z, ls0, hz⟩ := hz
  obtain ⟨ms0, hq⟩ := hq
  have hz' : ls = .get 0 :: .get 1 :: .num z :: ls0 := hz
  have hq' : ms = [2, 0, 1] :: ms0 := hq
  have hl : ls.length ≤ 35 := h.n
  have hs : ms.length ≤ 1000 := h.s
  have hl3 : 3 ≤ ls.length := by rw [hz']; simp
  have hm1 : 1 ≤ ms.length := by rw [hq']; simp
  have l2 : ls.getD 2 .tick = .num z := by rw [hz']; rfl
  have m0 : ms.getD 0 [] = [2, 0, 1] := by rw [hq']; rfl
  -- the lists
  have A1 := amb_lc (s := 8) (ρ := [s0, s1, some (.sh (.int (n : Int))), some (.sh (row ls ms)), none, none, none, none, none, none]) Ln.d lit (fun _ => rfl) qv_ln ls [] M (by simp; omega)
  rw [List.nil_append] at A1
  have A2 := setO_is (i := 4) (dLc_is (iter_lst (row_0 (s0 := s0) (s1 := s1) (s2 := some (.sh (.int (n : Int)))) (ls := ls) (ms := ms) (s4 := none) (s5 := none) (s6 := none) (s7 := none) (s8 := none) (s9 := none) (μ := M))) rfl A1)
  generalize hA : (ls.map fun x => MO.lst (lit x)) = A at A1 A2
  have lA : A.length = ls.length := by rw [← hA, List.length_map]
  have A3 := ambS_is (μ := M ++ A) (ρ := [s0, s1, some (.sh (.int (n : Int))), some (.sh (row ls ms)), some (.ol (refs M.length ls.length)), none, none, none, none, none]) (i := 4) rfl
  rw [List.length_append, lA] at A3
  have B1 := amb_lc (s := 9) (ρ := [s0, s1, some (.sh (.int (n : Int))), some (.sh (row ls ms)), some (.sh (.mref (M.length + ls.length))), none, none, none, none, none]) (fun m => D.lst (dI m)) (fun m => dI m) (fun _ => rfl) (fun _ _ _ => rfl) ms [] (M ++ A ++ [.lst (refs M.length ls.length)]) (by simp; omega)
  rw [List.nil_append] at B1
  have hL1 : (M ++ A ++ [MO.lst (refs M.length ls.length)]).length = M.length + ls.length + 1 := by simp [lA]; omega
  have B2 := setO_is (i := 5) (dLc_is (iter_lst (row_1 (s0 := s0) (s1 := s1) (s2 := some (.sh (.int (n : Int)))) (ls := ls) (ms := ms) (s4 := some (.sh (.mref (M.length + ls.length)))) (s5 := none) (s6 := none) (s7 := none) (s8 := none) (s9 := none) (μ := M ++ A ++ [.lst (refs M.length ls.length)]))) rfl B1)
  generalize hB : (ms.map fun x => MO.lst (dI x)) = B at B1 B2
  have lB' : B.length = ms.length := by rw [← hB, List.length_map]
  have B3 := ambS_is (μ := M ++ A ++ [.lst (refs M.length ls.length)] ++ B) (ρ := [s0, s1, some (.sh (.int (n : Int))), some (.sh (row ls ms)), some (.sh (.mref (M.length + ls.length))), some (.ol (refs (M ++ A ++ [MO.lst (refs M.length ls.length)]).length ms.length)), none, none, none, none]) (i := 5) rfl
  have eAi : ∀ i, i < ls.length → A[i]? = some (.lst (lit (ls.getD i .tick))) := fun i hi => by
    rw [← hA, List.getElem?_map, sh_at hi]
    rfl
  have eBi : ∀ i, i < ms.length → B[i]? = some (.lst (dI (ms.getD i []))) := fun i hi => by
    rw [← hB, List.getElem?_map, List.getD_eq_getElem?_getD, List.getElem?_eq_getElem hi]
    rfl
  have wA : Wf (M ++ A) := wf_apps A w fun m hm k => by
    rw [← hA] at hm
    obtain ⟨l, _, rfl⟩ := List.mem_map.mp hm
    exact lit_low k l
  have wA1 : Wf (M ++ A ++ [.lst (refs M.length ls.length)]) := Wf.app wA (low_refs (by simp [lA]))
  have wB : Wf (M ++ A ++ [.lst (refs M.length ls.length)] ++ B) := wf_apps B wA1 fun m hm k => by
    rw [← hB] at hm
    obtain ⟨l, _, rfl⟩ := List.mem_map.mp hm
    exact low_ints _
  have F12 : ∀ T : Mu, (∀ i, i < ls.length → (M ++ A ++ [MO.lst (refs M.length ls.length)] ++ T)[M.length + i]? = some (.lst (lit (ls.getD i .tick)))) ∧ (M ++ A ++ [MO.lst (refs M.length ls.length)] ++ T)[M.length + ls.length]? = some (.lst (refs M.length ls.length)) := fun T => by
    have e : M ++ A ++ [MO.lst (refs M.length ls.length)] ++ T = M ++ (A ++ MO.lst (refs M.length ls.length) :: T) := by simp
    rw [e]
    refine ⟨fun i hi => ?_, ?_⟩
    · rw [look_in (by omega)]
      exact eAi i hi
    · have := look_at (M := M) (A := A) (T := T) (x := MO.lst (refs M.length ls.length))
      rw [lA] at this
      exact this
  generalize hM1 : M ++ A ++ [MO.lst (refs M.length ls.length)] = M1 at *
  have wB1 : Wf (M1 ++ B ++ [.lst (refs M1.length ms.length)]) := Wf.app wB (low_refs (by simp [lB']))
  have F3 : (M1 ++ B ++ [MO.lst (refs M1.length ms.length)])[M1.length + ms.length]? = some (.lst (refs M1.length ms.length)) := by
    have := look_at (M := M1) (A := B) (T := []) (x := MO.lst (refs M1.length ms.length))
    rw [lB'] at this
    rw [List.append_assoc]
    exact this
  have F4 : ∀ i, i < ms.length → (M1 ++ B ++ [MO.lst (refs M1.length ms.length)])[M1.length + i]? = some (.lst (dI (ms.getD i []))) := fun i hi => by
    rw [List.append_assoc, look_in (by omega)]
    exact eBi i hi
  have F1 : (M1 ++ B ++ [MO.lst (refs M1.length ms.length)])[M.length + ls.length]? = some (.lst (refs M.length ls.length)) := by
    rw [List.append_assoc]
    exact (F12 _).2
  have F2 : ∀ i, i < ls.length → (M1 ++ B ++ [MO.lst (refs M1.length ms.length)])[M.length + i]? = some (.lst (lit (ls.getD i .tick))) := fun i hi => by
    rw [List.append_assoc]
    exact (F12 _).1 i hi
  have lM2 : (M1 ++ B).length = M1.length + ms.length := by simp [lB']
  rw [lM2] at B3
  have hM2l : (M1 ++ B ++ [MO.lst (refs M1.length ms.length)]).length = M1.length + ms.length + 1 := by simp [lB']; omega
  generalize hM2 : M1 ++ B ++ [MO.lst (refs M1.length ms.length)] = M2 at *
  -- the first Middle
  have C1 := middle_is3 (K := K) (tl := dCons (dVar 4) (dCons (dVar 5) dNil)) (ρ := [s0, s1, some (.sh (.int (n : Int))), some (.sh (row ls ms)), some (.sh (.mref (M.length + ls.length))), some (.sh (.mref (M1.length + ms.length))), none, none, none, none]) (μ0 := M2) wB1 (cons_is rfl (cons_is rfl rfl)) F1 F2 F3 F4 (by omega) hs
  -- then its lists change
  have e2 : atI (refs M.length ls.length) (2 : Int) = some (.mref (M.length + 2)) := refs_at (i := 2) (by omega)
  have e0 : atI (refs M1.length ms.length) (0 : Int) = some (.mref (M1.length + 0)) := refs_at (i := 0) (by omega)
  have k2 := F2 2 (by omega)
  rw [l2] at k2
  have D1 := setix_is (μ := M2) (te := dC (.int 77)) (to' := dIx (qVal (dVar 4)) (dC (.int 2))) (tb := dC (.int 1)) (ρ := [s0, s1, some (.sh (.int (n : Int))), some (.sh (row ls ms)), some (.sh (.mref (M.length + ls.length))), some (.sh (.mref (M1.length + ms.length))), some (.sh (mid K ls ms)), none, none, none]) (j := 1) rfl (ix_mref rfl rfl F1 e2) rfl k2 rfl
  have w3 : Wf (M2.set (M.length + 2) (.lst ((lit (.num z)).set 1 (.int 77)))) := wf_set wB1 rfl
  have G1 : (M2.set (M.length + 2) (.lst ((lit (.num z)).set 1 (.int 77))))[M1.length + ms.length]? = some (.lst (refs M1.length ms.length)) := set_ne F3 (by omega)
  have k0 := F4 0 (by omega)
  rw [m0] at k0
  have G2 : (M2.set (M.length + 2) (.lst ((lit (.num z)).set 1 (.int 77))))[M1.length + 0]? = some (.lst (dI [2, 0, 1])) := set_ne k0 (by omega)
  have G3 : (M2.set (M.length + 2) (.lst ((lit (.num z)).set 1 (.int 77))))[M.length + ls.length]? = some (.lst (refs M.length ls.length)) := set_ne F1 (by omega)
  have lM3 : (M2.set (M.length + 2) (.lst ((lit (.num z)).set 1 (.int 77)))).length = M1.length + ms.length + 1 := by rw [List.length_set]; exact hM2l
  generalize M2.set (M.length + 2) (.lst ((lit (.num z)).set 1 (.int 77))) = M3 at *
  have D2 := setix_is (μ := M3) (te := dC (.int 0)) (to' := dIx (qVal (dVar 5)) (dC (.int 0))) (tb := dC (.int 0)) (ρ := [s0, s1, some (.sh (.int (n : Int))), some (.sh (row ls ms)), some (.sh (.mref (M.length + ls.length))), some (.sh (.mref (M1.length + ms.length))), some (.sh (mid K ls ms)), none, none, none]) (j := 0) rfl (ix_mref rfl rfl G1 e0) rfl G2 rfl
  have w4 : Wf (M3.set (M1.length + 0) (.lst ((dI [2, 0, 1]).set 0 (.int 0)))) := wf_set w3 rfl
  have G4 : (M3.set (M1.length + 0) (.lst ((dI [2, 0, 1]).set 0 (.int 0))))[M.length + ls.length]? = some (.lst (refs M.length ls.length)) := set_ne G3 (by omega)
  have lM4 : (M3.set (M1.length + 0) (.lst ((dI [2, 0, 1]).set 0 (.int 0)))).length = M1.length + ms.length + 1 := by rw [List.length_set]; exact lM3
  generalize M3.set (M1.length + 0) (.lst ((dI [2, 0, 1]).set 0 (.int 0))) = M4 at *
  have D3 := app_is (μ := M4) (to' := dVar 4) (te := dFz (dLst (dCons (dC (.str "end")) (dNil)))) (ρ := [s0, s1, some (.sh (.int (n : Int))), some (.sh (row ls ms)), some (.sh (.mref (M.length + ls.length))), some (.sh (.mref (M1.length + ms.length))), some (.sh (mid K ls ms)), none, none, none]) rfl G4 (fz_is (lst_is (cons_is rfl rfl) (by simp))) G4 (by simp [sizeLine]; omega)
  have w5 : Wf (M4.set (M.length + ls.length) (.lst (refs M.length ls.length ++ [.lst [.str "end"]]))) := wf_set w4 (by
    have e : refs M.length ls.length ++ [D.lst [.str "end"]] = refs M.length ls.length ++ [D.lst [.str "end"]] := rfl
    have l1 : D.lowAll M4.length (refs M.length ls.length) = true := low_refs (by omega)
    have key : ∀ (xs : List D), D.lowAll M4.length xs = true → D.lowAll M4.length (xs ++ [D.lst [.str "end"]]) = true := by
      intro xs
      induction xs with
      | nil => intro _; rfl
      | cons x xs ih =>
        intro hx
        have hx' : (D.low M4.length x && D.lowAll M4.length xs) = true := hx
        obtain ⟨q1, q2⟩ := Bool.and_eq_true_iff.mp hx'
        show (D.low M4.length x && D.lowAll M4.length (xs ++ [D.lst [.str "end"]])) = true
        rw [q1, ih q2]
        rfl
    exact key _ l1)
  generalize M4.set (M.length + ls.length) (.lst (refs M.length ls.length ++ [.lst [.str "end"]])) = M5 at *
  -- the twin
  have tw : dFz (dLc [9] (dIter (dIx (qVal (dVar 3)) (dC (.int 1)))) (gtName 9) (dYes) (dTupOf (qVal (dVar 9)))) [s0, s1, some (.sh (.int (n : Int))), some (.sh (row ls ms)), some (.sh (.mref (M.length + ls.length))), some (.sh (.mref (M1.length + ms.length))), some (.sh (mid K ls ms)), none, none, none] M5 = some (.ok (.lst (ms.map fun m => D.tup (dI m))), M5) :=
    fz_is (dLc_is (iter_lst row_1) rfl (lc_all (vs := [9]) (gt := gtName 9) (te := dTupOf (qVal (dVar 9))) (μ := M5) (fun m => D.lst (dI m)) (fun m => D.tup (dI m)) ms (by simp [sizeLine]; omega) fun m hm => ⟨_, gtName_ap, tupOf_is rfl⟩))
  have E1 := middle_is2 (K := K) (μ := M5) (μ0 := M5) (ls := ls) (ms := ms) (L := tL ls) (M' := tM ms) (e1 := fun m => D.tup (dI m)) (tl := dCons (dTupOf (qVal (dIx (qVal (dVar 3)) (dC (.int 0))))) (dCons (dTupOf (qVal (dFz (dLc [9] (dIter (dIx (qVal (dVar 3)) (dC (.int 1)))) (gtName 9) (dYes) (dTupOf (qVal (dVar 9))))))) (dNil))) w5 (cons_is (tupOf_is row_0) (cons_is (tupOf_is tw) rfl)) rfl rfl (fun m => ⟨fun _ _ => rfl, rfl⟩) (by omega) hs
  -- what is asked of them
  have q1 := is_same (K := K) (μ := M5) w5 (r := (ls, ms)) h (t := dVar 6) (u := dVar 3) (ρ := [s0, s1, some (.sh (.int (n : Int))), some (.sh (row ls ms)), some (.sh (.mref (M.length + ls.length))), some (.sh (.mref (M1.length + ms.length))), some (.sh (mid K ls ms)), some (.sh (mid K ls ms)), none, none]) rfl rfl
  have q2 := eqOwn_is (K := K) (μ := M5) w5 (ls := ls) (ls' := ls) (ms := ms) (ms' := ms) (t := dVar 6) (u := dVar 7) (ρ := [s0, s1, some (.sh (.int (n : Int))), some (.sh (row ls ms)), some (.sh (.mref (M.length + ls.length))), some (.sh (.mref (M1.length + ms.length))), some (.sh (mid K ls ms)), some (.sh (mid K ls ms)), none, none]) rfl rfl
  rw [decide_eq_true rfl, decide_eq_true rfl] at q2
  have q3 := eqOwn_int (K := K) (μ := M5) w5 (ls := ls) (ms := ms) (i := 5) (t := dVar 6) (u := dC (.int 5)) (ρ := [s0, s1, some (.sh (.int (n : Int))), some (.sh (row ls ms)), some (.sh (.mref (M.length + ls.length))), some (.sh (.mref (M1.length + ms.length))), some (.sh (mid K ls ms)), some (.sh (mid K ls ms)), none, none]) rfl rfl
  have i1 : gIs2 true (.bl true) (.bl true) = some (.bl false) := rfl
  have i2 : gIs2 true (.bl false) (.bl false) = some (.bl false) := rfl
  have T1 := or_is q1 (or_is (test_is (bin_is q2 (u := dC (.bl true)) rfl i1)) (test_is (bin_is q3 (u := dC (.bl false)) rfl i2)))
  -- another one
  have sl : dFz (dSlice (qVal (dIx (qVal (dVar 3)) (dC (.int 1)))) (dPoS (dC (.int 1))) (dPoN)) [s0, s1, some (.sh (.int (n : Int))), some (.sh (row ls ms)), some (.sh (.mref (M.length + ls.length))), some (.sh (.mref (M1.length + ms.length))), some (.sh (mid K ls ms)), some (.sh (mid K ls ms)), none, none] M5 = some (.ok (.lst (ms0.map fun m => D.lst (dI m))), M5) := by
    refine fz_is ?_
    have cut : cutD (ms.map fun m => D.lst (dI m)) (some 1) none = ms0.map fun m => D.lst (dI m) := by
      unfold cutD
      have h1 : HT.sIx (ms.map fun m => D.lst (dI m)).length 0 (some (1 : Int)) = 1 := by
        have := HT.sIx_nat (ms.map fun m => D.lst (dI m)).length 0 1
        rw [List.length_map] at this ⊢
        refine this.trans ?_
        omega
      rw [h1, HT.sIx_none, hq']
      simp
      exact List.take_of_length_le (by simp)
    rw [dSlice_ap, bind_ap, qVal_ap, bind_ap, row_1]
    simp only [ret_ap, bind_ap, dPoS_ap, dC_ap]
    show some (Res.ok (cutD (ms.map fun m => D.lst (dI m)) (some 1) none), M5) = _
    rw [cut]
  have ct : dFz (dCat (qVal (dFz (dLst (dCons (dFz (dLst (dCons (dC (.int 2)) (dCons (dC (.int 1)) (dCons (dC (.int 0)) (dNil)))))) (dNil))))) (qVal (dFz (dSlice (qVal (dIx (qVal (dVar 3)) (dC (.int 1)))) (dPoS (dC (.int 1))) (dPoN))))) [s0, s1, some (.sh (.int (n : Int))), some (.sh (row ls ms)), some (.sh (.mref (M.length + ls.length))), some (.sh (.mref (M1.length + ms.length))), some (.sh (mid K ls ms)), some (.sh (mid K ls ms)), none, none] M5 = some (.ok (lM ([2, 1, 0] :: ms0)), M5) := by
    refine fz_is ?_
    have f : dFz (dLst (dCons (dFz (dLst (dCons (dC (.int 2)) (dCons (dC (.int 1)) (dCons (dC (.int 0)) (dNil)))))) (dNil))) [s0, s1, some (.sh (.int (n : Int))), some (.sh (row ls ms)), some (.sh (.mref (M.length + ls.length))), some (.sh (.mref (M1.length + ms.length))), some (.sh (mid K ls ms)), some (.sh (mid K ls ms)), none, none] M5 = some (.ok (.lst [.lst (dI [2, 1, 0])]), M5) := fz_is (lst_is (cons_is (fz_is (lst_is (cons_is rfl (cons_is rfl (cons_is rfl rfl))) (by simp))) rfl) (by simp))
    have hz : ([D.lst (dI [2, 1, 0])]).length + (ms0.map fun m => D.lst (dI m)).length ≤ sizeLine := by
      rw [hq'] at hs
      simp at hs
      simp [sizeLine]
      omega
    rw [dCat_ap, bind_ap, qVal_ap, bind_ap, f]
    simp only [ret_ap, bind_ap, qVal_ap, sl, qvl_lst, hz, if_true]
    rfl
  have ho := middle_is2 (K := K) (tl := dCons (dIx (qVal (dVar 3)) (dC (.int 0))) (dCons (dFz (dCat (qVal (dFz (dLst (dCons (dFz (dLst (dCons (dC (.int 2)) (dCons (dC (.int 1)) (dCons (dC (.int 0)) (dNil)))))) (dNil))))) (qVal (dFz (dSlice (qVal (dIx (qVal (dVar 3)) (dC (.int 1)))) (dPoS (dC (.int 1))) (dPoN)))))) (dNil))) (μ := M5) (μ0 := M5) (ls := ls) (ms := [2, 1, 0] :: ms0) (L := lLn ls) (M' := lM ([2, 1, 0] :: ms0)) (e1 := fun m => D.lst (dI m)) w5 (cons_is row_0 (cons_is ct rfl)) rfl rfl (fun m => ⟨fun _ _ => rfl, rfl⟩) (by omega) (by rw [hq'] at hs; simpa using hs)
  have q4 := eqOwn_is (K := K) (μ := M5) w5 (ls := ls) (ls' := ls) (ms := ms) (ms' := [2, 1, 0] :: ms0) (t := dVar 6) (ρ := [s0, s1, some (.sh (.int (n : Int))), some (.sh (row ls ms)), some (.sh (.mref (M.length + ls.length))), some (.sh (.mref (M1.length + ms.length))), some (.sh (mid K ls ms)), some (.sh (mid K ls ms)), none, none]) rfl ho
  have hne : ¬ ms = [2, 1, 0] :: ms0 := by rw [hq']; simp
  rw [decide_eq_false hne, Bool.and_false] at q4
  have T2 := test_is (bin_is q4 (u := dC (.bl false)) rfl i2)
  have q5 := are_same (K := K) (μ := M5) w5 (r := (ls, ms)) h (t := dVar 6) (u := dVar 3) (ρ := [s0, s1, some (.sh (.int (n : Int))), some (.sh (row ls ms)), some (.sh (.mref (M.length + ls.length))), some (.sh (.mref (M1.length + ms.length))), some (.sh (mid K ls ms)), some (.sh (mid K ls ms)), none, none]) rfl rfl
  have q6 := call3_is (t := dVar 6) (u := dVar 3) (v := dVar 2) (ρ := [s0, s1, some (.sh (.int (n : Int))), some (.sh (row ls ms)), some (.sh (.mref (M.length + ls.length))), some (.sh (.mref (M1.length + ms.length))), some (.sh (mid K ls ms)), some (.sh (mid K ls ms)), none, none]) rfl rfl rfl (passes_are_eq (K := K) (μ := M5) w5 hn (r := (ls, ms)) h)
  have q7 := call3_is (t := dVar 7) (u := dVar 3) (v := dVar 2) (ρ := [s0, s1, some (.sh (.int (n : Int))), some (.sh (row ls ms)), some (.sh (.mref (M.length + ls.length))), some (.sh (.mref (M1.length + ms.length))), some (.sh (mid K ls ms)), some (.sh (mid K ls ms)), none, none]) rfl rfl rfl (passes_are_eq (K := K) (μ := M5) w5 hn (r := (ls, ms)) h)
  have T3 := or_is (not_is (truth_is q5)) (not_is (truth_is q6))
  have e := law_is_eq (K := K) (μ := M5) w5 ls ls ms ms hs
  rw [decide_eq_true rfl, decide_eq_true rfl] at e
  have q8 := call2_is (t := dVar 6) (u := dVar 3) (ρ := [s0, s1, some (.sh (.int (n : Int))), some (.sh (row ls ms)), some (.sh (.mref (M.length + ls.length))), some (.sh (.mref (M1.length + ms.length))), some (.sh (mid K ls ms)), some (.sh (mid K ls ms)), none, none]) rfl rfl e
  have q9 := call2_is (t := dVar 7) (u := dVar 3) (ρ := [s0, s1, some (.sh (.int (n : Int))), some (.sh (row ls ms)), some (.sh (.mref (M.length + ls.length))), some (.sh (.mref (M1.length + ms.length))), some (.sh (mid K ls ms)), some (.sh (mid K ls ms)), none, none]) rfl rfl e
  have fin' := ret_is (andV_is q7 (andV_is q8 q9))
  exact ⟨M5, seq_nx A2 (seq_nx A3 (seq_nx B2 (seq_nx B3 (seq_nx (set_is C1) (seq_nx D1 (seq_nx D2 (seq_nx D3 (seq_nx (set_is E1) (seq_nx (if_n T1 rfl) (seq_nx (if_n T2 rfl) (seq_nx (if_n T3 rfl) fin')))))))))))⟩
theorem plain (K : Fg) (ns : List Int) (h : ns.length ≤ 63) : ∃ μ', S_law K [.rd (ns.map D.int)] [] = some (.ok (.bl true), μ') := by
  obtain ⟨xs, _, e1⟩ := draws_eq (K := K) h
  have ok : (Bs.mk [.dead, drw xs 0] 1 xs).Ok := ⟨by
    have w1 : Wf [MO.dead] := rfl
    exact Wf.app (m := drw xs 0) w1 (low_drw _ _), by simp⟩
  have at0 : (Bs.mk [.dead, drw xs 0] 1 xs).at' 0 = [.dead, drw xs 0] := rfl
  obtain ⟨v, a1, hv, e2⟩ := take_eq (K := K) (m := 2) (ok.wf 0) (ok.dr 0) (by decide)
  rw [Bs.set_set] at e2
  have hv' : v < 2 := by omega
  obtain ⟨r, a2, hr, hz, hq, e3⟩ := drawn_eq (K := K) ok a1 (n := 4 + v) (by omega)
  obtain ⟨μ', e4⟩ := law_rest (K := K) (ok.wf a2) hr hz hq (n := 4 + v) (by omega) (s0 := some (.sh (.rd (ns.map D.int)))) (s1 := some (.sh (.mref 1)))
  refine ⟨μ', run_rt ?_⟩
  have ini : initR 10 [.rd (ns.map D.int)] = [some (.sh (.rd (ns.map D.int))), none, none, none, none, none, none, none, none, none] := rfl
  rw [ini]
  have c1 := call_is (F := S__law_draws K) (n := 1) (tl := dCons (dVar 0) dNil) (ρ := [some (.sh (.rd (ns.map D.int))), none, none, none, none, none, none, none, none, none]) (ds := [.rd (ns.map D.int)]) rfl rfl e1
  have c2 : dBin gAdd (dC (.int 4)) (dCall (S__law_take K) 2 (dCons (dVar 1) (dCons (dC (.int 2)) (dNil)))) [some (.sh (.rd (ns.map D.int))), some (.sh (.mref 1)), none, none, none, none, none, none, none, none] [.dead, drw xs 0] = some (.ok (.int ((4 + v : Nat) : Int)), (Bs.mk [.dead, drw xs 0] 1 xs).at' a1) := by
    have e : ((4 + v : Nat) : Int) = 4 + (v : Int) := by omega
    rw [e]
    exact bin_is rfl (call2_m rfl rfl e2) gAdd_int
  have c3 := call2_m (F := S__law_drawn_middle K) (t := dVar 1) (u := dVar 2) (ρ := [some (.sh (.rd (ns.map D.int))), some (.sh (.mref 1)), some (.sh (.int ((4 + v : Nat) : Int))), none, none, none, none, none, none, none]) rfl rfl e3
  exact seq_nx (set_is c1) (seq_nx (set_is c2) (seq_nx (set_is c3) e4))
end K56
set_option Elab.async false
set_option linter.all false
set_option maxRecDepth 100000
set_option maxHeartbeats 4000000
open PySem PySem.W PySem.Calls PyProof.Rows in
theorem PySem.Challenge.cw_selfwritten_k56_now_exactly_if_named_holds : PySem.Challenge.rw_selfwritten_k56_now_exactly_if_named.Holds := by
  w_on; o_law
  refine HandSHeadRun.head_any (r := OpenLaw.row PySem.Challenge.rw_selfwritten_k56_now_exactly_if_named) (q := view (OpenLaw.row PySem.Challenge.rw_selfwritten_k56_now_exactly_if_named).prog [61]) (H := K56.hk) (ob := K56.ob) (M := 5000) (loose := K56.loose) (d := HandSHeadRun.topDef (OpenLaw.row PySem.Challenge.rw_selfwritten_k56_now_exactly_if_named).prog 61) (kwd := []) K56.ob_eq
    (by kernel_rfl) (fun s => by kernel_rfl) K56.run (by kernel_rfl) (by kernel_rfl) (by kernel_rfl) (by rfl) (by first | assumption | decide +kernel) (by decide +kernel) ⟨rfl, rfl, rfl, rfl, rfl, by decide +kernel⟩ ?hw ?hc
  case hw => w_witness2
  case hc =>
    refine DL.walkW (l := PySem.Challenge.rw_selfwritten_k56_now_exactly_if_named) (n := 63) (k := 10) (x := "_law_script") (CX := L2.CX (PySem.Challenge.rw_selfwritten_k56_now_exactly_if_named).prog) rfl (by decide) (by kernel_rfl) ⟨rfl, by decide, by decide⟩ ?F ?hz
    case hz =>
      intro w H s e s' z
      obtain ⟨_, _, _, _, _, _, _, _, _, _, _, _, z⟩ := z
      exact z.elim
    case F =>
      intro w mg fa h Y G hmg0
      obtain ⟨K, KX, c⟩ := Y
      have hmg : mg ("law" : PySem.Str) = some (.ref fa) := by
        have e : (HandSHeadRun.topDef (OpenLaw.row PySem.Challenge.rw_selfwritten_k56_now_exactly_if_named).prog 61).name = ("law" : PySem.Str) := by kernel_rfl
        rw [← e]
        exact hmg0
      obtain ⟨fd, hb, hF⟩ := K56.lawF (P := (PySem.Challenge.rw_selfwritten_k56_now_exactly_if_named).prog) (w := w) KX G hmg c
      exact ⟨K, fd, DL.spD K 1 (K56.S_law K), KX, hb, fun H a ns hl hS => DL.sp_law (n := 63) (K56.plain K) H a ns hl hS, hF⟩
