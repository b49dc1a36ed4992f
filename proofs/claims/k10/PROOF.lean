import PyProof.Rows.All
import Wide.All
import OpenK.AllK
import Wide.FinOn
import HandS.ForMost
import HandS.ForExc
import HandS.Flow
import HandS.Defaults
import HandS.IsInst
import HandS.Style
import KE.GoesEnum
import KE.GoesZip
import HandS.RevRange
import HandS.SetKeys
import KE.KDictKeyed
import HandS.ClsMeth
import HandS.HeadHook1
import HandS.HeadHook2
import HandS.HeadHook3
import HandS.Head0
import HandS.Head1
import HandS.Head2
import HandS.HeadEnd
import KE.KExcInit
import HandS.ExcInit
import HandS.ExcField
import HandS.ExcSuper
import HandS.TryOnly
import HandS.Text
import HandS.FStr
import HandS.RaiseMore
import PyProof.StrOps2
import KE.GoesMore
import HandS.ExcIs
import KE.KExcIs
import HandS.WideBits
import HandS.More
import HandS.OwnIter
import HandS.IterNext
import HandS.DictSub
import HandS.SortInts
import HandS.DictComp
import HandS.SetBool
import HandS.Strs
import HandS.TupAny
import HandS.DeepEq
import PyProof.NeKinds
import KE.KEqNest
import PySem.Challenge.RW_selfwritten_k10_codes_two_forms_share
set_option Elab.async false
set_option linter.all false
set_option maxRecDepth 100000
set_option maxHeartbeats 4000000
set_option autoImplicit false
namespace DL
open PySem PySem.Spec L2
inductive D where
  | non | bl (b : Bool) | int (i : Int) | str (s : Str)
  | tup (ds : List D) | lst (ds : List D)
  | ref (a : Addr) | ty (n : String) | mref (k : Nat)
  | obj (C : Addr) (ns : List Str) (ds : List D)
  | dk (ks : List Key) (ds : List D)
  | rd (ds : List D) | kt (ds : List D)
abbrev Fg := PySem.W.Frag
mutual
def Rep (K : Fg) (ads : List Addr) (B : Hp) : D → V → Prop
  | .non, v => v = .non
  | .bl b, v => v = .bl b
  | .int i, v => v = .int i
  | .str s, v => v = .str s
  | .ref a, v => v = .ref a
  | .ty n, v => v = .ty n
  | .mref k, v => ∃ a, ads[k]? = some a ∧ v = .ref a
  | .tup ds, v => ∃ a xs, v = .ref a ∧ B a = some (.tup xs) ∧ Reps K ads B ds xs
  | .kt ds, v => ∃ a xs, v = .ref a ∧ SqT K B a xs ∧ Reps K ads B ds xs
  | .lst ds, v => ∃ a xs, v = .ref a ∧ B a = some (.lst xs) ∧ Reps K ads B ds xs
  | .rd ds, v => ∃ a xs, v = .ref a ∧ SqL K B a xs ∧ Reps K ads B ds xs
  | .obj C ns ds, v => ∃ a dx xs, v = .ref a ∧ B a = some (.ins C dx (ns.zip xs)) ∧ ns.length = xs.length ∧ Reps K ads B ds xs
  | .dk ks ds, v => ∃ a xs, v = .ref a ∧ B a = some (.dK (ks.zip xs)) ∧ ks.length = xs.length ∧ Reps K ads B ds xs
def Reps (K : Fg) (ads : List Addr) (B : Hp) : List D → List V → Prop
  | [], xs => xs = []
  | d :: ds, xs => ∃ x r, xs = x :: r ∧ Rep K ads B d x ∧ Reps K ads B ds r
end
section
variable {K : Fg} {ads ads' : List Addr} {B B' : Hp}
theorem sqT_mono {a : Addr} {xs : List V} (h : SqT K B a xs) (e : Same B B') : SqT K B' a xs := by
  rcases h with (h | ⟨o, h⟩) | h
  · exact .inl (.inl (e _ _ h))
  · exact .inl (.inr ⟨o, e _ _ h⟩)
  · exact .inr h
theorem sqL_mono {a : Addr} {xs : List V} (h : SqL K B a xs) (e : Same B B') : SqL K B' a xs := e.seq h
mutual
theorem Rep.mono (e : Same B B') (q : ∀ (k : Nat) (a : Addr), ads[k]? = some a → ads'[k]? = some a) : ∀ {d : D} {v : V}, Rep K ads B d v → Rep K ads' B' d v
  | .non, v, h => by unfold Rep at *; exact h
  | .bl b, v, h => by unfold Rep at *; exact h
  | .int i, v, h => by unfold Rep at *; exact h
  | .str s, v, h => by unfold Rep at *; exact h
  | .ref a, v, h => by unfold Rep at *; exact h
  | .ty n, v, h => by unfold Rep at *; exact h
  | .mref k, v, h => by
    unfold Rep at *
    obtain ⟨a, h1, h2⟩ := h
    exact ⟨a, q _ _ h1, h2⟩
  | .tup ds, v, h => by
    unfold Rep at *
    obtain ⟨a, xs, h1, h2, h3⟩ := h
    exact ⟨a, xs, h1, e _ _ h2, Reps.mono e q h3⟩
  | .kt ds, v, h => by
    unfold Rep at *
    obtain ⟨a, xs, h1, h2, h3⟩ := h
    exact ⟨a, xs, h1, sqT_mono h2 e, Reps.mono e q h3⟩
  | .lst ds, v, h => by
    unfold Rep at *
    obtain ⟨a, xs, h1, h2, h3⟩ := h
    exact ⟨a, xs, h1, e _ _ h2, Reps.mono e q h3⟩
  | .rd ds, v, h => by
    unfold Rep at *
    obtain ⟨a, xs, h1, h2, h3⟩ := h
    exact ⟨a, xs, h1, sqL_mono h2 e, Reps.mono e q h3⟩
  | .obj C ns ds, v, h => by
    unfold Rep at *
    obtain ⟨a, dx, xs, h1, h2, h4, h3⟩ := h
    exact ⟨a, dx, xs, h1, e _ _ h2, h4, Reps.mono e q h3⟩
  | .dk ks ds, v, h => by
    unfold Rep at *
    obtain ⟨a, xs, h1, h2, h4, h3⟩ := h
    exact ⟨a, xs, h1, e _ _ h2, h4, Reps.mono e q h3⟩
theorem Reps.mono (e : Same B B') (q : ∀ (k : Nat) (a : Addr), ads[k]? = some a → ads'[k]? = some a) : ∀ {ds : List D} {xs : List V}, Reps K ads B ds xs → Reps K ads' B' ds xs
  | [], xs, h => by unfold Reps at *; exact h
  | d :: ds, xs, h => by
    unfold Reps at *
    obtain ⟨x, r, h1, h2, h3⟩ := h
    exact ⟨x, r, h1, Rep.mono e q h2, Reps.mono e q h3⟩
end
theorem reps_nil : Reps K ads B [] [] := by unfold Reps; rfl
theorem reps_cons {d : D} {ds : List D} {x : V} {xs : List V} (h : Rep K ads B d x) (t : Reps K ads B ds xs) : Reps K ads B (d :: ds) (x :: xs) := by
  unfold Reps
  exact ⟨x, xs, rfl, h, t⟩
theorem reps_nil_inv {xs : List V} (h : Reps K ads B [] xs) : xs = [] := by unfold Reps at h; exact h
theorem reps_cons_inv {d : D} {ds : List D} {xs : List V} (h : Reps K ads B (d :: ds) xs) : ∃ x r, xs = x :: r ∧ Rep K ads B d x ∧ Reps K ads B ds r := by unfold Reps at h; exact h
theorem Reps.length : ∀ {ds : List D} {xs : List V}, Reps K ads B ds xs → ds.length = xs.length
  | [], xs, h => by rw [reps_nil_inv h]; rfl
  | d :: ds, xs, h => by
    obtain ⟨x, r, rfl, _, t⟩ := reps_cons_inv h
    rw [List.length_cons, List.length_cons, Reps.length t]
theorem Reps.get : ∀ {ds : List D} {xs : List V} {i : Nat} {d : D}, Reps K ads B ds xs → ds[i]? = some d → ∃ x, xs[i]? = some x ∧ Rep K ads B d x
  | [], xs, i, d, h, e => by simp at e
  | c :: ds, xs, i, d, h, e => by
    obtain ⟨x, r, rfl, hx, t⟩ := reps_cons_inv h
    cases i with
    | zero =>
      simp at e
      subst e
      exact ⟨x, rfl, hx⟩
    | succ i => exact Reps.get (i := i) t (by simpa using e)
theorem Reps.append : ∀ {ds es : List D} {xs ys : List V}, Reps K ads B ds xs → Reps K ads B es ys → Reps K ads B (ds ++ es) (xs ++ ys)
  | [], es, xs, ys, h, t => by rw [reps_nil_inv h]; exact t
  | d :: ds, es, xs, ys, h, t => by
    obtain ⟨x, r, rfl, hx, u⟩ := reps_cons_inv h
    exact reps_cons hx (Reps.append u t)
theorem Reps.set : ∀ {ds : List D} {xs : List V} {d : D} {x : V} (i : Nat), Reps K ads B ds xs → Rep K ads B d x → Reps K ads B (ds.set i d) (xs.set i x)
  | [], xs, d, x, i, h, t => by rw [reps_nil_inv h]; exact reps_nil
  | c :: ds, xs, d, x, i, h, t => by
    obtain ⟨y, r, rfl, hy, u⟩ := reps_cons_inv h
    cases i with
    | zero => exact reps_cons t u
    | succ i => exact reps_cons hy (Reps.set i u t)
theorem Reps.take : ∀ {ds : List D} {xs : List V} (n : Nat), Reps K ads B ds xs → Reps K ads B (ds.take n) (xs.take n)
  | [], xs, n, h => by rw [reps_nil_inv h]; simp; exact reps_nil
  | c :: ds, xs, n, h => by
    obtain ⟨y, r, rfl, hy, u⟩ := reps_cons_inv h
    cases n with
    | zero => exact reps_nil
    | succ n => exact reps_cons hy (Reps.take n u)
theorem Reps.drop : ∀ {ds : List D} {xs : List V} (n : Nat), Reps K ads B ds xs → Reps K ads B (ds.drop n) (xs.drop n)
  | [], xs, n, h => by rw [reps_nil_inv h]; simp; exact reps_nil
  | c :: ds, xs, n, h => by
    obtain ⟨y, r, rfl, hy, u⟩ := reps_cons_inv h
    cases n with
    | zero => exact reps_cons hy u
    | succ n => exact Reps.drop n u
theorem ints_reps : ∀ {ns : List Int}, Reps K ads B (ns.map D.int) (ns.map V.int)
  | [] => reps_nil
  | n :: ns => reps_cons (by unfold Rep; rfl) ints_reps
end
inductive Sl where
  | sh (d : D) | ol (ds : List D) | od (ks : List Key) (ds : List D) | ot (ks : List (List Key)) (ds : List D)
abbrev Rho := List (Option Sl)
inductive MO where
  | dead | lst (ds : List D) | ins (C : Addr) (ns : List Str) (ds : List D) | dk (ks : List Key) (ds : List D) | dt (ks : List (List Key)) (ds : List D)
abbrev Mu := List MO
structure G where
  ads : List Addr
  B : Hp
  O : Addr → Option (Sum Nat Nat)
  T : Addr → Option HO
abbrev GRep (K : Fg) (g : G) := Rep K g.ads g.B
abbrev GReps (K : Fg) (g : G) := Reps K g.ads g.B
structure Le (g g' : G) : Prop where
  b : Same g.B g'.B
  a : ∀ (k : Nat) (x : Addr), g.ads[k]? = some x → g'.ads[k]? = some x
  t : ∀ a o, g.T a = some o → g'.T a = some o
theorem Le.refl (g : G) : Le g g := ⟨Same.refl _, fun _ _ h => h, fun _ _ h => h⟩
theorem Le.trans {g g' g'' : G} (x : Le g g') (y : Le g' g'') : Le g g'' := ⟨x.b.trans y.b, fun k a h => y.a k a (x.a k a h), fun a o h => y.t a o (x.t a o h)⟩
theorem Le.rep {K : Fg} {g g' : G} (x : Le g g') {d : D} {v : V} (h : GRep K g d v) : GRep K g' d v := Rep.mono x.b x.a h
theorem Le.reps {K : Fg} {g g' : G} (x : Le g g') {d : List D} {v : List V} (h : GReps K g d v) : GReps K g' d v := Reps.mono x.b x.a h
structure Ct where
  K : Fg
  H0 : Hp
  B0 : Hp
  A0 : List Addr
def RSl (K : Fg) (g : G) (H : Hp) (i : Nat) : Option Sl → Option V → Prop
  | none, _ => True
  | some (.sh d), x => ∃ v, x = some v ∧ GRep K g d v
  | some (.ol ds), x => ∃ p xs, x = some (.ref p) ∧ g.O p = some (.inl (i + 1)) ∧ H p = some (.lst xs) ∧ GReps K g ds xs
  | some (.od ks ds), x => ∃ p xs, x = some (.ref p) ∧ g.O p = some (.inl (i + 1)) ∧ H p = some (.dK (ks.zip xs)) ∧ ks.length = xs.length ∧ GReps K g ds xs
  | some (.ot ks ds), x => ∃ p xs, x = some (.ref p) ∧ g.O p = some (.inl (i + 1)) ∧ H p = some (.dT (ks.zip xs)) ∧ ks.length = xs.length ∧ GReps K g ds xs
def RMO (K : Fg) (g : G) (H : Hp) (a : Addr) : MO → Prop
  | .dead => ∃ o, g.B a = some o
  | .lst ds => ∃ xs, H a = some (.lst xs) ∧ GReps K g ds xs
  | .ins C ns ds => ∃ dx xs, H a = some (.ins C dx (ns.zip xs)) ∧ ns.length = xs.length ∧ GReps K g ds xs
  | .dk ks ds => ∃ xs, H a = some (.dK (ks.zip xs)) ∧ ks.length = xs.length ∧ GReps K g ds xs
  | .dt ks ds => ∃ xs, H a = some (.dT (ks.zip xs)) ∧ ks.length = xs.length ∧ GReps K g ds xs
structure SH (c : Ct) (μ : Mu) (g : G) (H : Hp) : Prop where
  sub : Same g.B H
  own : ∀ a, g.O a ≠ none → g.B a = none
  ownNew : ∀ a i, g.O a = some (.inl i) → c.H0 a = none
  ownAt : ∀ a, g.O a ≠ none → ∃ o, H a = some o
  alen : g.ads.length = μ.length
  amb : ∀ (k : Nat) (a : Addr) (m : MO), g.ads[k]? = some a → μ[k]? = some m → (m = .dead ∨ g.O a = some (.inr k)) ∧ RMO c.K g H a m
  old : ∀ a o, c.H0 a = some o → a ∉ c.A0 → H a = some o
  oldT : ∀ a o, c.H0 a = some o → ∃ o', H a = some o'
  newB : ∀ a o, g.B a = some o → c.B0 a = some o ∨ c.H0 a = none ∨ a ∈ c.A0
  b0 : Same c.B0 g.B
  a0 : ∀ (k : Nat) (a : Addr), c.A0[k]? = some a → g.ads[k]? = some a
  aNew : ∀ a, a ∈ g.ads → a ∈ c.A0 ∨ c.H0 a = none
  tmpT : ∀ a o, g.T a = some o → g.O a = some (.inl 0) ∧ H a = some o
structure SR (c : Ct) (ρ : Rho) (μ : Mu) (g : G) (σ : St) (H : Hp) : Prop extends SH c μ g H where
  slen : ρ.length = σ.length
  slot : ∀ (i : Nat) (s : Option Sl) (x : Option V), ρ[i]? = some s → σ[i]? = some x → RSl c.K g H i s x
inductive Res (α : Type) where
  | ok (a : α) | ex (C : Addr) (ns : List Str) (ds : List D)
abbrev M (α : Type) : Type := Mu → Option (Res α × Mu)
namespace M
def ret {α : Type} (a : α) : M α := fun μ => some (.ok a, μ)
def bind {α β : Type} (m : M α) (f : α → M β) : M β := fun μ => match m μ with
  | none => none
  | some (.ok a, μ') => f a μ'
  | some (.ex C ns ds, μ') => some (.ex C ns ds, μ')
def lift {α : Type} (o : Option α) : M α := fun μ => match o with
  | none => none
  | some a => some (.ok a, μ)
def stuck {α : Type} : M α := fun _ => none
end M
def ExAt (c : Ct) (g : G) (H : Hp) : Option Addr → List Str → List D → Prop
  | none, ns, ds => ns = [] ∧ ds = []
  | some d, ns, ds => ∃ xs, H d = some (.xd (ns.zip xs)) ∧ ns.length = xs.length ∧ GReps c.K g ds xs ∧ c.H0 d = none ∧ g.O d = none ∧ g.B d = none ∧ d ∉ g.ads
def PX (c : Ct) (W : WX) (ρ : Rho) (σ : St) (g : G) {α : Type} (r : Res α) (μ' : Mu) : Prop :=
  ∀ C ns ds, r = .ex C ns ds → ∀ d H' g', Le g g' → SR c ρ μ' g' σ H' → ExAt c g' H' d ns ds → W (.ref C) d σ H'
theorem PX.le {c : Ct} {W : WX} {ρ : Rho} {σ : St} {g g1 : G} {α : Type} {r : Res α} {μ' : Mu} (h : PX c W ρ σ g r μ') (l : Le g g1) : PX c W ρ σ g1 r μ' :=
  fun C ns ds e d H' g' l' => h C ns ds e d H' g' (l.trans l')
abbrev TD := Rho → M D
abbrev TB := Rho → M Bool
abbrev TL := Rho → M (List D)
def RE (c : Ct) (W : WX) (te : TE) (t : TD) : Prop := ∀ ρ μ g σ H Q r μ', SR c ρ μ g σ H → t ρ μ = some (r, μ') → PX c W ρ σ g r μ' →
  (∀ d, r = .ok d → ∀ v H' g', Le g g' → SR c ρ μ' g' σ H' → GRep c.K g' d v → Q v H') → te σ H Q
def RT (c : Ct) (W : WX) (te : TT) (t : TB) : Prop := ∀ ρ μ g σ H Q r μ', SR c ρ μ g σ H → t ρ μ = some (r, μ') → PX c W ρ σ g r μ' →
  (∀ d, r = .ok d → ∀ H' g', Le g g' → SR c ρ μ' g' σ H' → Q d H') → te σ H Q
def RA (c : Ct) (W : WX) (te : TA) (t : TL) : Prop := ∀ ρ μ g σ H Q r μ', SR c ρ μ g σ H → t ρ μ = some (r, μ') → PX c W ρ σ g r μ' →
  (∀ ds, r = .ok ds → ∀ vs H' g', Le g g' → SR c ρ μ' g' σ H' → GReps c.K g' ds vs → Q vs H') → te σ H Q
def SqV (K : Fg) (H : Hp) (a : Addr) (xs : List V) : Prop := SqL K H a xs ∨ SqT K H a xs
def RL (c : Ct) (W : WX) (te : TE) (t : TL) : Prop := ∀ ρ μ g σ H Q r μ', SR c ρ μ g σ H → t ρ μ = some (r, μ') → PX c W ρ σ g r μ' →
  (∀ ds, r = .ok ds → ∀ a xs H' g', Le g g' → SR c ρ μ' g' σ H' → SqV c.K H' a xs → GReps c.K g' ds xs → Q (.ref a) H') → te σ H Q
def RF (c : Ct) (W : WX) (te : TE) (t : TL) : Prop := ∀ ρ μ g σ H Q r μ', SR c ρ μ g σ H → t ρ μ = some (r, μ') → PX c W ρ σ g r μ' →
  (∀ ds, r = .ok ds → ∀ p xs H' g', Le g g' → SR c ρ μ' g' σ H' → (g'.O p = some (.inl 0) ∧ g'.T p = none) → H' p = some (.lst xs) → GReps c.K g' ds xs → Q (.ref p) H') → te σ H Q
structure DE (X : Cx) (W : WX) (e : Expr) (t : TD) : Prop where
  ex : ∃ te, PE X e te ∧ ∀ c : Ct, c.K = X.K → RE c W te t
structure DT (X : Cx) (W : WX) (e : Expr) (t : TB) : Prop where
  ex : ∃ te, PT X e te ∧ ∀ c : Ct, c.K = X.K → RT c W te t
structure DW (X : Cx) (W : WX) (e : Expr) (t : TB) : Prop where
  ex : ∃ te, PW X e te ∧ ∀ c : Ct, c.K = X.K → RT c W te t
structure DA (X : Cx) (W : WX) (es : List Expr) (t : TL) : Prop where
  ex : ∃ te, PA X es te ∧ ∀ c : Ct, c.K = X.K → RA c W te t
structure DLq (X : Cx) (W : WX) (e : Expr) (t : TL) : Prop where
  ex : ∃ te, PE X e te ∧ ∀ c : Ct, c.K = X.K → RL c W te t
structure DF (X : Cx) (W : WX) (e : Expr) (t : TL) : Prop where
  ex : ∃ te, PE X e te ∧ ∀ c : Ct, c.K = X.K → RF c W te t
inductive Out where
  | nx (ρ : Rho) | rt (d : D) | bk (ρ : Rho) | ct (ρ : Rho) | ex (ρ : Rho) (C : Addr) (ns : List Str) (ds : List D)
abbrev TO' := Rho → Mu → Option (Out × Mu)
def PS' (c : Ct) (W : WX) (g : G) (o : Out) (μ' : Mu) (D : Ends) : Prop := match o with
  | .nx ρ' => ∀ σ' H' g', Le g g' → SR c ρ' μ' g' σ' H' → D.nx σ' H'
  | .bk ρ' => ∀ σ' H' g', Le g g' → SR c ρ' μ' g' σ' H' → D.bk σ' H'
  | .ct ρ' => ∀ σ' H' g', Le g g' → SR c ρ' μ' g' σ' H' → D.ct σ' H'
  | .rt d => ∀ v H' g', Le g g' → SH c μ' g' H' → GRep c.K g' d v → D.rt v H'
  | .ex ρ' C ns ds => ∀ d σ' H' g', Le g g' → SR c ρ' μ' g' σ' H' → ExAt c g' H' d ns ds → W (.ref C) d σ' H'
theorem PS'.le {c : Ct} {W : WX} {g g1 : G} {o : Out} {μ' : Mu} {D : Ends} (h : PS' c W g o μ' D) (l : Le g g1) : PS' c W g1 o μ' D := by
  cases o with
  | nx ρ' => exact fun σ' H' g' l' => h σ' H' g' (l.trans l')
  | bk ρ' => exact fun σ' H' g' l' => h σ' H' g' (l.trans l')
  | ct ρ' => exact fun σ' H' g' l' => h σ' H' g' (l.trans l')
  | rt d => exact fun v H' g' l' => h v H' g' (l.trans l')
  | ex ρ' C ns ds => exact fun d σ' H' g' l' => h d σ' H' g' (l.trans l')
def RS (c : Ct) (W : WX) (ts : TS) (t : TO') : Prop := ∀ ρ μ g σ H D o μ', SR c ρ μ g σ H → t ρ μ = some (o, μ') → PS' c W g o μ' D → ts D σ H
structure DS (X : Cx) (W : WX) (st : Stmt) (t : TO') : Prop where
  ex : ∃ ts, PS X st ts ∧ ∀ c : Ct, c.K = X.K → RS c W ts t
structure DSs (X : Cx) (W : WX) (sts : List Stmt) (t : TO') : Prop where
  ex : ∃ ts, PSs X sts ts ∧ ∀ c : Ct, c.K = X.K → RS c W ts t
end DL

set_option Elab.async false
set_option linter.all false
set_option maxRecDepth 100000
set_option maxHeartbeats 4000000
set_option autoImplicit false
namespace DL
open PySem PySem.Spec L2
def G.addB (g : G) (p : Addr) (o : HO) : G := { g with B := upd g.B p o }
section
variable {c : Ct} {μ : Mu} {g g' : G} {σ : L2.St} {H H' : Hp} {ρ : Rho} {p : Addr} {o : HO}
theorem RSl.step {K : Fg} {i : Nat} {s : Option Sl} {x : Option V} (h : RSl K g H i s x) (l : Le g g') (q : ∀ p, g.O p = some (.inl (i + 1)) → g'.O p = some (.inl (i + 1)) ∧ H' p = H p) : RSl K g' H' i s x := by
  cases s with
  | none => trivial
  | some s =>
    cases s with
    | sh d =>
      obtain ⟨v, h1, h2⟩ := h
      exact ⟨v, h1, l.rep h2⟩
    | ol ds =>
      obtain ⟨p, xs, h1, h2, h3, h4⟩ := h
      obtain ⟨q1, q2⟩ := q p h2
      exact ⟨p, xs, h1, q1, by rw [q2]; exact h3, l.reps h4⟩
    | od ks ds =>
      obtain ⟨p, xs, h1, h2, h3, h4, h5⟩ := h
      obtain ⟨q1, q2⟩ := q p h2
      exact ⟨p, xs, h1, q1, by rw [q2]; exact h3, h4, l.reps h5⟩
    | ot ks ds =>
      obtain ⟨p, xs, h1, h2, h3, h4, h5⟩ := h
      obtain ⟨q1, q2⟩ := q p h2
      exact ⟨p, xs, h1, q1, by rw [q2]; exact h3, h4, l.reps h5⟩
theorem RMO.step {K : Fg} {a : Addr} {m : MO} (h : RMO K g H a m) (l : Le g g') (q : H' a = H a) : RMO K g' H' a m := by
  cases m with
  | dead =>
    obtain ⟨o, h1⟩ := h
    exact ⟨o, l.b _ _ h1⟩
  | lst ds =>
    obtain ⟨xs, h1, h2⟩ := h
    exact ⟨xs, by rw [q]; exact h1, l.reps h2⟩
  | ins C ns ds =>
    obtain ⟨dx, xs, h1, h2, h3⟩ := h
    exact ⟨dx, xs, by rw [q]; exact h1, h2, l.reps h3⟩
  | dk ks ds =>
    obtain ⟨xs, h1, h2, h3⟩ := h
    exact ⟨xs, by rw [q]; exact h1, h2, l.reps h3⟩
  | dt ks ds =>
    obtain ⟨xs, h1, h2, h3⟩ := h
    exact ⟨xs, by rw [q]; exact h1, h2, l.reps h3⟩
theorem SH.fresh0 (h : SH c μ g H) (hp : H p = none) : c.H0 p = none := by
  cases q : c.H0 p with
  | none => rfl
  | some o =>
    obtain ⟨o', e⟩ := h.oldT p o q
    rw [hp] at e
    cases e
theorem SH.freshO (h : SH c μ g H) (hp : H p = none) : g.O p = none := by
  cases q : g.O p with
  | none => rfl
  | some o =>
    obtain ⟨o', e⟩ := h.ownAt p (by rw [q]; exact fun z => by cases z)
    rw [hp] at e
    cases e
theorem SH.freshB (h : SH c μ g H) (hp : H p = none) : g.B p = none := by
  cases q : g.B p with
  | none => rfl
  | some o =>
    have e := h.sub p o q
    rw [hp] at e
    cases e
theorem SH.ambNe0 (h : SH c μ g H) (hp : H p = none) {k : Nat} {a : Addr} {m : MO} (e1 : g.ads[k]? = some a) (e2 : μ[k]? = some m) : a ≠ p := fun z => by
  obtain ⟨q1, q2⟩ := h.amb k a m e1 e2
  rcases q1 with rfl | q1
  · obtain ⟨o, q2⟩ := q2
    rw [z, h.freshB hp] at q2
    cases q2
  · rw [z, h.freshO hp] at q1
    cases q1
theorem SH.ambNeO (h : SH c μ g H) {i : Nat} (hp : g.O p = some (.inl i)) {k : Nat} {a : Addr} {m : MO} (e1 : g.ads[k]? = some a) (e2 : μ[k]? = some m) : a ≠ p := fun z => by
  obtain ⟨q1, q2⟩ := h.amb k a m e1 e2
  rcases q1 with rfl | q1
  · obtain ⟨o, q2⟩ := q2
    rw [z, h.own p (by rw [hp]; exact fun z => by cases z)] at q2
    cases q2
  · rw [z, hp] at q1
    cases q1
theorem SH.leB (h : SH c μ g H) (hp : H p = none) : Le g (g.addB p o) :=
  ⟨fun a u e => by
    show upd g.B p o a = some u
    rw [upd_ne (fun z => by rw [z, h.freshB hp] at e; cases e)]
    exact e, fun _ _ e => e, fun _ _ e => e⟩
theorem SH.addB (h : SH c μ g H) (hp : H p = none) : SH c μ (g.addB p o) (upd H p o) where
  sub := fun a u e => by
    by_cases z : a = p
    · subst z
      have e' : upd g.B a o a = some u := e
      rw [upd_same] at e' ⊢
      exact e'
    · have e' : upd g.B p o a = some u := e
      rw [upd_ne z] at e' ⊢
      exact h.sub a u e'
  own := fun a e => by
    have z : a ≠ p := fun z => e (by rw [z]; exact h.freshO hp)
    show upd g.B p o a = none
    rw [upd_ne z]
    exact h.own a e
  ownNew := fun a i e => h.ownNew a i e
  ownAt := fun a e => by
    have z : a ≠ p := fun z => e (by rw [z]; exact h.freshO hp)
    rw [upd_ne z]
    exact h.ownAt a e
  alen := h.alen
  amb := fun k a m e1 e2 => by
    obtain ⟨q1, q2⟩ := h.amb k a m e1 e2
    exact ⟨q1, q2.step (h.leB hp) (upd_ne (h.ambNe0 hp e1 e2))⟩
  old := fun a u e n => by
    have z : a ≠ p := fun z => by rw [z, h.fresh0 hp] at e; cases e
    rw [upd_ne z]
    exact h.old a u e n
  oldT := fun a u e => by
    have z : a ≠ p := fun z => by rw [z, h.fresh0 hp] at e; cases e
    rw [upd_ne z]
    exact h.oldT a u e
  newB := fun a u e => by
    by_cases z : a = p
    · right; left
      rw [z]
      exact h.fresh0 hp
    · have e' : upd g.B p o a = some u := e
      rw [upd_ne z] at e'
      exact h.newB a u e'
  b0 := fun a u e => (h.leB hp).b a u (h.b0 a u e)
  a0 := h.a0
  aNew := h.aNew
  tmpT := fun a u e => by
    obtain ⟨q1, q2⟩ := h.tmpT a u e
    exact ⟨q1, by rw [upd_ne (fun z => by rw [z, h.freshO hp] at q1; cases q1)]; exact q2⟩
theorem SR.addB (h : SR c ρ μ g σ H) (hp : H p = none) : SR c ρ μ (g.addB p o) σ (upd H p o) :=
  { h.toSH.addB hp with
    slen := h.slen
    slot := fun i s x e1 e2 => (h.slot i s x e1 e2).step (h.leB hp) fun q e => ⟨e, upd_ne (fun z => by rw [z, h.freshO hp] at e; cases e)⟩ }
end
section
variable {α β : Type}
theorem bind_some {m : M α} {f : α → M β} {μ μ' : Mu} {r : Res β} (h : M.bind m f μ = some (r, μ')) :
    (∃ a μ1, m μ = some (.ok a, μ1) ∧ f a μ1 = some (r, μ')) ∨ (∃ C ns ds, m μ = some (.ex C ns ds, μ') ∧ r = .ex C ns ds) := by
  unfold M.bind at h
  cases e : m μ with
  | none => rw [e] at h; cases h
  | some q =>
    obtain ⟨r1, μ1⟩ := q
    rw [e] at h
    cases r1 with
    | ok a => exact .inl ⟨a, μ1, rfl, h⟩
    | ex C ns ds =>
      have h' : some ((Res.ex C ns ds : Res β), μ1) = some (r, μ') := h
      injection h' with h'
      injection h' with h1 h2
      subst h1 h2
      exact .inr ⟨C, ns, ds, rfl, rfl⟩
theorem lift_some {o : Option α} {μ μ' : Mu} {r : Res α} (h : M.lift o μ = some (r, μ')) : ∃ a, o = some a ∧ r = .ok a ∧ μ' = μ := by
  unfold M.lift at h
  cases o with
  | none => cases h
  | some a =>
    have h' : some ((Res.ok a : Res α), μ) = some (r, μ') := h
    injection h' with h'
    injection h' with h1 h2
    exact ⟨a, rfl, h1.symm, h2.symm⟩
theorem ret_some {a : α} {μ μ' : Mu} {r : Res α} (h : M.ret a μ = some (r, μ')) : r = .ok a ∧ μ' = μ := by
  have h' : some ((Res.ok a : Res α), μ) = some (r, μ') := h
  injection h' with h'
  injection h' with h1 h2
  exact ⟨h1.symm, h2.symm⟩
end
section
variable {c : Ct} {W : WX} {ρ : Rho} {μ μ' : Mu} {g : G} {σ : L2.St} {H : Hp} {α : Type} {r : Res α}
theorem RE.then_ {te : TE} {t : TD} (ht : RE c W te t) {f : D → M α} {Q : VK} (s : SR c ρ μ g σ H) (h : M.bind (t ρ) f μ = some (r, μ')) (hx : PX c W ρ σ g r μ')
    (k : ∀ d μ1, f d μ1 = some (r, μ') → ∀ v H1 g1, Le g g1 → SR c ρ μ1 g1 σ H1 → GRep c.K g1 d v → PX c W ρ σ g1 r μ' → Q v H1) : te σ H Q := by
  rcases bind_some h with ⟨a, μ1, e1, e2⟩ | ⟨C, ns, ds, e1, rfl⟩
  · exact ht ρ μ g σ H Q _ _ s e1 (fun C ns ds e => by cases e) fun d e v H' g' l s' rp => by
      cases e
      exact k a μ1 e2 v H' g' l s' rp (hx.le l)
  · exact ht ρ μ g σ H Q _ _ s e1 (fun C' ns' ds' e => by cases e; exact hx C ns ds rfl) fun d e => by cases e
theorem RT.then_ {te : TT} {t : TB} (ht : RT c W te t) {f : Bool → M α} {Q : Bool → Hp → Prop} (s : SR c ρ μ g σ H) (h : M.bind (t ρ) f μ = some (r, μ')) (hx : PX c W ρ σ g r μ')
    (k : ∀ d μ1, f d μ1 = some (r, μ') → ∀ H1 g1, Le g g1 → SR c ρ μ1 g1 σ H1 → PX c W ρ σ g1 r μ' → Q d H1) : te σ H Q := by
  rcases bind_some h with ⟨a, μ1, e1, e2⟩ | ⟨C, ns, ds, e1, rfl⟩
  · exact ht ρ μ g σ H Q _ _ s e1 (fun C ns ds e => by cases e) fun d e H' g' l s' => by
      cases e
      exact k a μ1 e2 H' g' l s' (hx.le l)
  · exact ht ρ μ g σ H Q _ _ s e1 (fun C' ns' ds' e => by cases e; exact hx C ns ds rfl) fun d e => by cases e
theorem RA.then_ {te : TA} {t : TL} (ht : RA c W te t) {f : List D → M α} {Q : List V → Hp → Prop} (s : SR c ρ μ g σ H) (h : M.bind (t ρ) f μ = some (r, μ')) (hx : PX c W ρ σ g r μ')
    (k : ∀ d μ1, f d μ1 = some (r, μ') → ∀ v H1 g1, Le g g1 → SR c ρ μ1 g1 σ H1 → GReps c.K g1 d v → PX c W ρ σ g1 r μ' → Q v H1) : te σ H Q := by
  rcases bind_some h with ⟨a, μ1, e1, e2⟩ | ⟨C, ns, ds, e1, rfl⟩
  · exact ht ρ μ g σ H Q _ _ s e1 (fun C ns ds e => by cases e) fun d e v H' g' l s' rp => by
      cases e
      exact k a μ1 e2 v H' g' l s' rp (hx.le l)
  · exact ht ρ μ g σ H Q _ _ s e1 (fun C' ns' ds' e => by cases e; exact hx C ns ds rfl) fun d e => by cases e
theorem RL.then_ {te : TE} {t : TL} (ht : RL c W te t) {f : List D → M α} {Q : VK} (s : SR c ρ μ g σ H) (h : M.bind (t ρ) f μ = some (r, μ')) (hx : PX c W ρ σ g r μ')
    (k : ∀ d μ1, f d μ1 = some (r, μ') → ∀ a xs H1 g1, Le g g1 → SR c ρ μ1 g1 σ H1 → SqV c.K H1 a xs → GReps c.K g1 d xs → PX c W ρ σ g1 r μ' → Q (.ref a) H1) : te σ H Q := by
  rcases bind_some h with ⟨a, μ1, e1, e2⟩ | ⟨C, ns, ds, e1, rfl⟩
  · exact ht ρ μ g σ H Q _ _ s e1 (fun C ns ds e => by cases e) fun d e a' xs H' g' l s' sq rp => by
      cases e
      exact k a μ1 e2 a' xs H' g' l s' sq rp (hx.le l)
  · exact ht ρ μ g σ H Q _ _ s e1 (fun C' ns' ds' e => by cases e; exact hx C ns ds rfl) fun d e => by cases e
end
section
variable {X : Cx} {W : WX}
def dVar (i : Nat) : TD := fun ρ => match ρ[i]? with
  | some (some (.sh d)) => M.ret d
  | _ => M.stuck
def dC (d : D) : TD := fun _ => M.ret d
def D.flat : D → Option V
  | .non => some .non
  | .bl b => some (.bl b)
  | .int i => some (.int i)
  | .str s => some (.str s)
  | .ref a => some (.ref a)
  | .ty n => some (.ty n)
  | _ => none
theorem flat_rep {K : Fg} {ads : List Addr} {B : Hp} {d : D} {v : V} (h : d.flat = some v) : Rep K ads B d v := by
  cases d <;> first | (cases h; unfold Rep; rfl) | cases h
theorem rep_flat {K : Fg} {ads : List Addr} {B : Hp} {d : D} {v w : V} (h : d.flat = some v) (r : Rep K ads B d w) : w = v := by
  cases d <;> first | (cases h; unfold Rep at r; exact r) | cases h
theorem dVar_some {ρ : Rho} {i : Nat} {μ μ' : Mu} {r : Res D} (h : dVar i ρ μ = some (r, μ')) : ∃ d, ρ[i]? = some (some (.sh d)) ∧ r = .ok d ∧ μ' = μ := by
  unfold dVar at h
  cases e : ρ[i]? with
  | none => rw [e] at h; cases h
  | some q =>
    rw [e] at h
    cases q with
    | none => cases h
    | some s =>
      cases s with
      | sh d =>
        obtain ⟨h1, h2⟩ := ret_some h
        exact ⟨d, rfl, h1, h2⟩
      | _ => cases h
theorem re_var {c : Ct} {i : Nat} : RE c W (tVar i) (dVar i) := fun ρ μ g σ H Q r μ' s h hx k => by
  obtain ⟨d, e, rfl, rfl⟩ := dVar_some h
  have hl : i < σ.length := by
    rw [← s.slen]
    exact (List.getElem?_eq_some_iff.mp e).1
  obtain ⟨v, h1, h2⟩ := s.slot i _ _ e (List.getElem?_eq_getElem hl)
  exact ⟨v, by rw [List.getElem?_eq_getElem hl, h1], k d rfl v H g (Le.refl g) s h2⟩
theorem de_var (i : Nat) {x : Str} {pos : Pos} (hN : X.N[i]? = some x := by rfl) (hv : Vis X.env.scope x := by first | exact Or.inl rfl | exact Or.inr (Or.inl rfl) | exact Or.inr (Or.inr rfl)) (hd : (x == ("__debug__" : Str)) = false := by decide)
    (hcd : (x == ("__classdict__" : Str)) = false := by decide) : DE X W (.Name x pos) (dVar i) := ⟨tVar i, pe_var hN hv hd hcd, fun c _ => re_var⟩
theorem re_C {c : Ct} {d : D} {v : V} (h : d.flat = some v) : RE c W (tC v) (dC d) := fun ρ μ g σ H Q r μ' s e hx k => by
  obtain ⟨rfl, rfl⟩ := ret_some e
  exact k d rfl v H g (Le.refl g) s (flat_rep h)
theorem de_int {i : Int} {j pos} : DE X W (.Constant (.int i) j pos) (dC (.int i)) := ⟨_, pe_int, fun c _ => re_C rfl⟩
theorem de_bl {b : Bool} {j pos} : DE X W (.Constant (.bool b) j pos) (dC (.bl b)) := ⟨_, pe_bl, fun c _ => re_C rfl⟩
theorem de_non {j pos} : DE X W (.Constant .none j pos) (dC .non) := ⟨_, pe_non, fun c _ => re_C rfl⟩
theorem de_str {x : Str} {j pos} : DE X W (.Constant (.str x) j pos) (dC (.str x)) := ⟨_, pe_str, fun c _ => re_C rfl⟩
theorem de_glob {x : Str} {d : D} {v : V} {u : Value} {pos : Pos} (hm : X.mg x = some u) (hf : d.flat = some v) (r : RelV v u) (hg : Gl X x := by rfl) (hd : (x == ("__debug__" : Str)) = false := by decide) : DE X W (.Name x pos) (dC d) := ⟨_, pe_glob hg hm r hd, fun c _ => re_C hf⟩
theorem de_globR {x : Str} {d : D} {a : Addr} {pos : Pos} (hm : X.mg x = some (.ref a)) (hr : ∀ ads B, Rep X.K ads B d (.ref a)) (hg : Gl X x := by rfl) (hd : (x == ("__debug__" : Str)) = false := by decide) : DE X W (.Name x pos) (dC d) :=
  ⟨_, pe_glob (v := .ref a) hg hm rfl hd, fun c hc ρ μ g σ H Q r μ' s e hx k => by
    obtain ⟨rfl, rfl⟩ := ret_some e
    exact k d rfl _ H g (Le.refl g) s (by rw [hc]; exact hr _ _)⟩
end
end DL

set_option Elab.async false
set_option linter.all false
set_option maxRecDepth 100000
set_option maxHeartbeats 4000000
set_option autoImplicit false
namespace DL
open PySem PySem.Spec L2
section
variable {c : Ct} {μ : Mu} {g g' : G} {σ : L2.St} {H H' : Hp} {ρ : Rho} {p : Addr}
theorem set_slot {i j : Nat} {s s' : Option Sl} {x x' : Option V} (e1 : (ρ.set i s')[j]? = some s) (e2 : (σ.set i x')[j]? = some x) :
    (i = j ∧ s = s' ∧ x = x' ∧ i < ρ.length) ∨ (i ≠ j ∧ ρ[j]? = some s ∧ σ[j]? = some x) := by
  by_cases h : i = j
  · subst h
    left
    rw [List.getElem?_set] at e1 e2
    rw [if_pos rfl] at e1 e2
    by_cases q : i < ρ.length
    · rw [if_pos q] at e1
      by_cases q2 : i < σ.length
      · rw [if_pos q2] at e2
        cases e1
        cases e2
        exact ⟨rfl, rfl, rfl, q⟩
      · rw [if_neg q2] at e2
        cases e2
    · rw [if_neg q] at e1
      cases e1
  · right
    rw [List.getElem?_set_ne h] at e1 e2
    exact ⟨h, e1, e2⟩
theorem SR.setSh (h : SR c ρ μ g σ H) (i : Nat) {d : D} {v : V} (r : GRep c.K g d v) : SR c (ρ.set i (some (.sh d))) μ g (σ.set i (some v)) H :=
  { h.toSH with
    slen := by rw [List.length_set, List.length_set]; exact h.slen
    slot := fun j s x e1 e2 => by
      rcases set_slot e1 e2 with ⟨rfl, rfl, rfl, _⟩ | ⟨_, q1, q2⟩
      · exact ⟨v, rfl, r⟩
      · exact h.slot j s x q1 q2 }
theorem SR.setNone (h : SR c ρ μ g σ H) (i : Nat) : SR c (ρ.set i none) μ g (σ.set i none) H :=
  { h.toSH with
    slen := by rw [List.length_set, List.length_set]; exact h.slen
    slot := fun j s x e1 e2 => by
      rcases set_slot e1 e2 with ⟨rfl, rfl, rfl, _⟩ | ⟨_, q1, q2⟩
      · trivial
      · exact h.slot j s x q1 q2 }
def G.own1 (g : G) (p : Addr) (i : Nat) : G := { g with O := fun a => if a = p then some (.inl i) else g.O a }
theorem SH.own1 (h : SH c μ g H) (hp : H p = none) (i : Nat) {o : HO} : SH c μ (g.own1 p i) (upd H p o) where
  sub := fun a u e => by
    rw [upd_ne (fun z => by rw [z] at e; have e' : g.B p = some u := e; rw [h.freshB hp] at e'; cases e')]
    exact h.sub a u e
  own := fun a e => by
    by_cases z : a = p
    · rw [z]; exact h.freshB hp
    · have e' : (if a = p then some (Sum.inl i) else g.O a) ≠ none := e
      rw [if_neg z] at e'
      exact h.own a e'
  ownNew := fun a j e => by
    by_cases z : a = p
    · rw [z]; exact h.fresh0 hp
    · have e' : (if a = p then some (Sum.inl i) else g.O a) = some (.inl j) := e
      rw [if_neg z] at e'
      exact h.ownNew a j e'
  ownAt := fun a e => by
    by_cases z : a = p
    · rw [z]; exact ⟨o, upd_same⟩
    · have e' : (if a = p then some (Sum.inl i) else g.O a) ≠ none := e
      rw [if_neg z] at e'
      rw [upd_ne z]
      exact h.ownAt a e'
  alen := h.alen
  amb := fun k a m e1 e2 => by
    obtain ⟨q1, q2⟩ := h.amb k a m e1 e2
    have z : a ≠ p := h.ambNe0 hp e1 e2
    refine ⟨q1.imp id fun q1 => ?_, ?_⟩
    · show (if a = p then some (Sum.inl i) else g.O a) = _
      rw [if_neg z]; exact q1
    · exact q2.step ⟨Same.refl _, fun _ _ e => e, fun _ _ e => e⟩ (upd_ne z)
  old := fun a u e n => by
    rw [upd_ne (fun z => by rw [z, h.fresh0 hp] at e; cases e)]
    exact h.old a u e n
  oldT := fun a u e => by
    rw [upd_ne (fun z => by rw [z, h.fresh0 hp] at e; cases e)]
    exact h.oldT a u e
  newB := h.newB
  b0 := h.b0
  a0 := h.a0
  aNew := h.aNew
  tmpT := fun a u e => by
    obtain ⟨q1, q2⟩ := h.tmpT a u e
    have z : a ≠ p := fun z => by rw [z, h.freshO hp] at q1; cases q1
    refine ⟨?_, by rw [upd_ne z]; exact q2⟩
    show (if a = p then some (Sum.inl i) else g.O a) = _
    rw [if_neg z]; exact q1
theorem le_own1 (g : G) (p : Addr) (i : Nat) : Le g (g.own1 p i) := ⟨Same.refl _, fun _ _ e => e, fun _ _ e => e⟩
theorem SH.noT (h : SH c μ g H) {i : Nat} (hp : g.O p = some (.inl (i + 1))) : g.T p = none := by
  cases e : g.T p with
  | none => rfl
  | some o =>
    have q := (h.tmpT p o e).1
    rw [hp] at q
    cases q
theorem SH.freshT (h : SH c μ g H) (hp : H p = none) : g.T p = none := by
  cases e : g.T p with
  | none => rfl
  | some o =>
    have q := (h.tmpT p o e).2
    rw [hp] at q
    cases q
theorem SR.own1 (h : SR c ρ μ g σ H) (hp : H p = none) (i : Nat) {o : HO} {s' : Sl} (hs : RSl c.K (g.own1 p (i + 1)) (upd H p o) i (some s') (some (.ref p))) :
    SR c (ρ.set i (some s')) μ (g.own1 p (i + 1)) (σ.set i (some (.ref p))) (upd H p o) :=
  { h.toSH.own1 hp (i + 1) with
    slen := by rw [List.length_set, List.length_set]; exact h.slen
    slot := fun j s x e1 e2 => by
      rcases set_slot e1 e2 with ⟨rfl, rfl, rfl, _⟩ | ⟨n, q1, q2⟩
      · exact hs
      · refine (h.slot j s x q1 q2).step (le_own1 g p _) fun q e => ?_
        have z : q ≠ p := fun z => by rw [z, h.freshO hp] at e; cases e
        refine ⟨?_, upd_ne z⟩
        show (if q = p then some (Sum.inl _) else g.O q) = _
        rw [if_neg z]; exact e }
theorem SH.wrt (h : SH c μ g H) {i : Nat} (hp : g.O p = some (.inl i)) (hT : g.T p = none) {o : HO} : SH c μ g (upd H p o) where
  sub := fun a u e => by
    rw [upd_ne (fun z => by rw [z, h.own p (by rw [hp]; exact fun z => by cases z)] at e; cases e)]
    exact h.sub a u e
  own := h.own
  ownNew := h.ownNew
  ownAt := fun a e => by
    by_cases z : a = p
    · rw [z]; exact ⟨o, upd_same⟩
    · rw [upd_ne z]; exact h.ownAt a e
  alen := h.alen
  amb := fun k a m e1 e2 => by
    obtain ⟨q1, q2⟩ := h.amb k a m e1 e2
    have z : a ≠ p := h.ambNeO hp e1 e2
    exact ⟨q1, q2.step (Le.refl g) (upd_ne z)⟩
  old := fun a u e n => by
    rw [upd_ne (fun z => by rw [z, h.ownNew p i hp] at e; cases e)]
    exact h.old a u e n
  oldT := fun a u e => by
    rw [upd_ne (fun z => by rw [z, h.ownNew p i hp] at e; cases e)]
    exact h.oldT a u e
  newB := h.newB
  b0 := h.b0
  a0 := h.a0
  aNew := h.aNew
  tmpT := fun a u e => by
    obtain ⟨q1, q2⟩ := h.tmpT a u e
    exact ⟨q1, by rw [upd_ne (fun z => by rw [z, hT] at e; cases e)]; exact q2⟩
theorem SR.wrt (h : SR c ρ μ g σ H) {i : Nat} (hp : g.O p = some (.inl (i + 1))) (hσ : σ[i]? = some (some (.ref p))) {o : HO} {s' : Sl} (hs : RSl c.K g (upd H p o) i (some s') (some (.ref p))) :
    SR c (ρ.set i (some s')) μ g σ (upd H p o) :=
  { h.toSH.wrt hp (h.toSH.noT hp) with
    slen := by rw [List.length_set]; exact h.slen
    slot := fun j s x e1 e2 => by
      by_cases z : i = j
      · subst z
        rw [hσ] at e2
        cases e2
        rw [List.getElem?_set, if_pos rfl] at e1
        by_cases q : i < ρ.length
        · rw [if_pos q] at e1
          cases e1
          exact hs
        · rw [if_neg q] at e1
          cases e1
      · rw [List.getElem?_set_ne z] at e1
        exact (h.slot j s x e1 e2).step (Le.refl g) fun q e => ⟨e, upd_ne (fun w => by rw [w, hp] at e; cases e; exact z rfl)⟩ }
def G.fz (g : G) (p : Addr) (o : HO) : G := { g with B := upd g.B p o, O := fun a => if a = p then none else g.O a }
theorem SH.leFz (h : SH c μ g H) {i : Nat} (hp : g.O p = some (.inl i)) {o : HO} : Le g (g.fz p o) :=
  ⟨fun a u e => by
    show upd g.B p o a = some u
    rw [upd_ne (fun z => by rw [z, h.own p (by rw [hp]; exact fun z => by cases z)] at e; cases e)]
    exact e, fun _ _ e => e, fun _ _ e => e⟩
theorem SH.fz (h : SH c μ g H) {i : Nat} (hp : g.O p = some (.inl i)) (hT : g.T p = none) {o : HO} (ho : H p = some o) : SH c μ (g.fz p o) H where
  sub := fun a u e => by
    have e' : upd g.B p o a = some u := e
    by_cases z : a = p
    · subst z
      rw [upd_same] at e'
      rw [ho, e']
    · rw [upd_ne z] at e'
      exact h.sub a u e'
  own := fun a e => by
    have e' : (if a = p then none else g.O a) ≠ none := e
    by_cases z : a = p
    · rw [if_pos z] at e'
      exact absurd rfl e'
    · rw [if_neg z] at e'
      show upd g.B p o a = none
      rw [upd_ne z]
      exact h.own a e'
  ownNew := fun a j e => by
    have e' : (if a = p then none else g.O a) = some (.inl j) := e
    by_cases z : a = p
    · rw [if_pos z] at e'; cases e'
    · rw [if_neg z] at e'
      exact h.ownNew a j e'
  ownAt := fun a e => by
    have e' : (if a = p then none else g.O a) ≠ none := e
    by_cases z : a = p
    · rw [if_pos z] at e'; exact absurd rfl e'
    · rw [if_neg z] at e'
      exact h.ownAt a e'
  alen := h.alen
  amb := fun k a m e1 e2 => by
    obtain ⟨q1, q2⟩ := h.amb k a m e1 e2
    have z : a ≠ p := h.ambNeO hp e1 e2
    refine ⟨q1.imp id fun q1 => ?_, q2.step (h.leFz hp) rfl⟩
    show (if a = p then none else g.O a) = _
    rw [if_neg z]; exact q1
  old := h.old
  oldT := h.oldT
  newB := fun a u e => by
    have e' : upd g.B p o a = some u := e
    by_cases z : a = p
    · right; left; rw [z]; exact h.ownNew p i hp
    · rw [upd_ne z] at e'
      exact h.newB a u e'
  b0 := fun a u e => (h.leFz hp).b a u (h.b0 a u e)
  a0 := h.a0
  aNew := h.aNew
  tmpT := fun a u e => by
    obtain ⟨q1, q2⟩ := h.tmpT a u e
    refine ⟨?_, q2⟩
    show (if a = p then none else g.O a) = _
    have e' : g.T a = some u := e
    rw [if_neg (fun z => by rw [z, hT] at e'; cases e')]; exact q1
theorem SR.fz (h : SR c ρ μ g σ H) {i : Nat} (hp : g.O p = some (.inl (i + 1))) (hσ : σ[i]? = some (some (.ref p))) {o : HO} (ho : H p = some o) {d : D} (hd : GRep c.K (g.fz p o) d (.ref p)) :
    SR c (ρ.set i (some (.sh d))) μ (g.fz p o) σ H :=
  { h.toSH.fz hp (h.toSH.noT hp) ho with
    slen := by rw [List.length_set]; exact h.slen
    slot := fun j s x e1 e2 => by
      by_cases z : i = j
      · subst z
        rw [hσ] at e2
        cases e2
        rw [List.getElem?_set, if_pos rfl] at e1
        by_cases q : i < ρ.length
        · rw [if_pos q] at e1
          cases e1
          exact ⟨.ref p, rfl, hd⟩
        · rw [if_neg q] at e1
          cases e1
      · rw [List.getElem?_set_ne z] at e1
        refine (h.slot j s x e1 e2).step (h.leFz hp) fun q e => ⟨?_, rfl⟩
        show (if q = p then none else g.O q) = _
        rw [if_neg (fun w => by rw [w, hp] at e; cases e; exact z rfl)]; exact e }
theorem SR.at (h : SR c ρ μ g σ H) {i : Nat} {s : Option Sl} (e : ρ[i]? = some s) : ∃ x, σ[i]? = some x ∧ RSl c.K g H i s x := by
  have hl : i < σ.length := by rw [← h.slen]; exact (List.getElem?_eq_some_iff.mp e).1
  exact ⟨σ[i], List.getElem?_eq_getElem hl, h.slot i _ _ e (List.getElem?_eq_getElem hl)⟩
end

section
variable {c : Ct} {μ : Mu} {g g' : G} {σ : L2.St} {H H' : Hp} {ρ : Rho} {p : Addr}
theorem SR.tmp (h : SR c ρ μ g σ H) (hp : H p = none) {o : HO} : SR c ρ μ (g.own1 p 0) σ (upd H p o) :=
  { h.toSH.own1 hp 0 with
    slen := h.slen
    slot := fun j s x e1 e2 => by
      refine (h.slot j s x e1 e2).step (le_own1 g p 0) fun q e => ?_
      have z : q ≠ p := fun z => by rw [z, h.freshO hp] at e; cases e
      refine ⟨?_, upd_ne z⟩
      show (if q = p then some (Sum.inl 0) else g.O q) = _
      rw [if_neg z]; exact e }
theorem own1_at (g : G) (p : Addr) (i : Nat) : (g.own1 p i).O p = some (.inl i) := if_pos rfl
theorem SR.wrtTmp (h : SR c ρ μ g σ H) (hp : g.O p = some (.inl 0)) (hT : g.T p = none) {o : HO} : SR c ρ μ g σ (upd H p o) :=
  { h.toSH.wrt hp hT with
    slen := h.slen
    slot := fun j s x e1 e2 => (h.slot j s x e1 e2).step (Le.refl g) fun q e => ⟨e, upd_ne (fun z => by rw [z, hp] at e; cases e)⟩ }
theorem SR.fzTmp (h : SR c ρ μ g σ H) (hp : g.O p = some (.inl 0)) (hT : g.T p = none) {o : HO} (ho : H p = some o) : SR c ρ μ (g.fz p o) σ H :=
  { h.toSH.fz hp hT ho with
    slen := h.slen
    slot := fun j s x e1 e2 => (h.slot j s x e1 e2).step (h.leFz hp) fun q e => by
      refine ⟨?_, rfl⟩
      show (if q = p then none else g.O q) = _
      rw [if_neg (fun z => by rw [z, hp] at e; cases e)]; exact e }
theorem SH.take (h : SH c μ g H) {i j : Nat} (hp : g.O p = some (.inl j)) (hT : g.T p = none) : SH c μ (g.own1 p i) H where
  sub := h.sub
  own := fun a e => by
    by_cases z : a = p
    · rw [z]; exact h.own p (by rw [hp]; exact fun z => by cases z)
    · have e' : (if a = p then some (Sum.inl i) else g.O a) ≠ none := e
      rw [if_neg z] at e'
      exact h.own a e'
  ownNew := fun a j' e => by
    by_cases z : a = p
    · rw [z]; exact h.ownNew p j hp
    · have e' : (if a = p then some (Sum.inl i) else g.O a) = some (.inl j') := e
      rw [if_neg z] at e'
      exact h.ownNew a j' e'
  ownAt := fun a e => by
    by_cases z : a = p
    · rw [z]; exact h.ownAt p (by rw [hp]; exact fun z => by cases z)
    · have e' : (if a = p then some (Sum.inl i) else g.O a) ≠ none := e
      rw [if_neg z] at e'
      exact h.ownAt a e'
  alen := h.alen
  amb := fun k a m e1 e2 => by
    obtain ⟨q1, q2⟩ := h.amb k a m e1 e2
    have z : a ≠ p := h.ambNeO hp e1 e2
    refine ⟨q1.imp id fun q1 => ?_, q2.step ⟨Same.refl _, fun _ _ e => e, fun _ _ e => e⟩ rfl⟩
    show (if a = p then some (Sum.inl i) else g.O a) = _
    rw [if_neg z]; exact q1
  old := h.old
  oldT := h.oldT
  newB := h.newB
  b0 := h.b0
  a0 := h.a0
  aNew := h.aNew
  tmpT := fun a u e => by
    obtain ⟨q1, q2⟩ := h.tmpT a u e
    refine ⟨?_, q2⟩
    show (if a = p then some (Sum.inl i) else g.O a) = _
    have e' : g.T a = some u := e
    rw [if_neg (fun z => by rw [z, hT] at e'; cases e')]; exact q1
theorem SR.take (h : SR c ρ μ g σ H) (i : Nat) (hp : g.O p = some (.inl 0)) (hT : g.T p = none) {s' : Sl} (hs : RSl c.K (g.own1 p (i + 1)) H i (some s') (some (.ref p))) :
    SR c (ρ.set i (some s')) μ (g.own1 p (i + 1)) (σ.set i (some (.ref p))) H :=
  { h.toSH.take hp hT with
    slen := by rw [List.length_set, List.length_set]; exact h.slen
    slot := fun j s x e1 e2 => by
      rcases set_slot e1 e2 with ⟨rfl, rfl, rfl, _⟩ | ⟨n, q1, q2⟩
      · exact hs
      · refine (h.slot j s x q1 q2).step (le_own1 g p _) fun q e => ?_
        have z : q ≠ p := fun z => by rw [z, hp] at e; cases e
        refine ⟨?_, rfl⟩
        show (if q = p then some (Sum.inl _) else g.O q) = _
        rw [if_neg z]; exact e }
def G.tell (g : G) (p : Addr) (o : HO) : G := { g with T := upd g.T p o }
theorem SR.tell (h : SR c ρ μ g σ H) (hp : g.O p = some (.inl 0)) {o : HO} (ho : H p = some o) : SR c ρ μ (g.tell p o) σ H :=
  { h with
    amb := fun k a m e1 e2 => by
      obtain ⟨q1, q2⟩ := h.amb k a m e1 e2
      exact ⟨q1, by cases m <;> exact q2⟩
    tmpT := fun a u e => by
      have e' : upd g.T p o a = some u := e
      by_cases z : a = p
      · subst z
        rw [upd_same] at e'
        cases e'
        exact ⟨hp, ho⟩
      · rw [upd_ne z] at e'
        exact h.tmpT a u e'
    slot := fun i s x e1 e2 => by
      have q := h.slot i s x e1 e2
      cases s with
      | none => trivial
      | some s => cases s <;> exact q }
def G.untell (g : G) (p : Addr) : G := { g with T := fun a => if a = p then none else g.T a }
theorem SR.untell (h : SR c ρ μ g σ H) : SR c ρ μ (g.untell p) σ H :=
  { h with
    amb := fun k a m e1 e2 => by
      obtain ⟨q1, q2⟩ := h.amb k a m e1 e2
      exact ⟨q1, by cases m <;> exact q2⟩
    tmpT := fun a u e => by
      have e' : (if a = p then none else g.T a) = some u := e
      by_cases z : a = p
      · rw [if_pos z] at e'; cases e'
      · rw [if_neg z] at e'
        exact h.tmpT a u e'
    slot := fun i s x e1 e2 => by
      have q := h.slot i s x e1 e2
      cases s with
      | none => trivial
      | some s => cases s <;> exact q }
theorem le_tell {g0 g : G} (l : Le g0 g) (hp : g0.T p = none) {o : HO} : Le g0 (g.tell p o) := ⟨l.b, l.a, fun a u e => by
  show upd g.T p o a = some u
  rw [upd_ne (fun z => by rw [z, hp] at e; cases e)]
  exact l.t a u e⟩
theorem le_untell {g0 g : G} (l : Le g0 g) (hp : g0.T p = none) : Le g0 (g.untell p) := ⟨l.b, l.a, fun a u e => by
  show (if a = p then none else g.T a) = some u
  rw [if_neg (fun z => by rw [z, hp] at e; cases e)]
  exact l.t a u e⟩
end
end DL

set_option Elab.async false
set_option linter.all false
set_option maxRecDepth 100000
set_option maxHeartbeats 4000000
set_option autoImplicit false
namespace DL
open PySem PySem.Spec L2
structure OpD (X : Cx) (f : Value → Value → Sem Value) (gf : D → D → Option D) : Prop where
  ex : ∃ r, OpR X f r ∧ ∀ c : Ct, c.K = X.K → ∀ ρ μ g σ H x y vx vy Q d, SR c ρ μ g σ H → GRep c.K g x vx → GRep c.K g y vy → gf x y = some d →
    (∀ v' H' g', Le g g' → SR c ρ μ g' σ H' → GRep c.K g' d v' → Q v' H') → r vx vy H Q
def dBin (gf : D → D → Option D) (ta tb : TD) : TD := fun ρ => M.bind (ta ρ) fun x => M.bind (tb ρ) fun y => M.lift (gf x y)
section
variable {X : Cx} {W : WX} {a b : Expr} {ta tb : TD} {pos : Pos}
theorem re_op {c : Ct} {f : Value → Value → Sem Value} {gf : D → D → Option D} {r : R2} {tea teb : TE} (ha : RE c W tea ta) (hb : RE c W teb tb)
    (hr : ∀ ρ μ g σ H x y vx vy Q d, SR c ρ μ g σ H → GRep c.K g x vx → GRep c.K g y vy → gf x y = some d → (∀ v' H' g', Le g g' → SR c ρ μ g' σ H' → GRep c.K g' d v' → Q v' H') → r vx vy H Q) :
    RE c W (tOp r tea teb) (dBin gf ta tb) := fun ρ μ g σ H Q rr μ' s h hx k => by
  refine ha.then_ s h hx fun x μ1 h1 v1 H1 g1 l1 s1 r1 hx1 => ?_
  refine hb.then_ s1 h1 hx1 fun y μ2 h2 v2 H2 g2 l2 s2 r2 hx2 => ?_
  obtain ⟨d, e, rfl, rfl⟩ := lift_some h2
  exact hr ρ _ g2 σ H2 x y v1 v2 Q d s2 (l2.rep r1) r2 e fun v' H' g' l s' rp => k d rfl v' H' g' (l1.trans (l2.trans l)) s' rp
theorem de_op {op : Operator} {gf : D → D → Option D} (ho : OpD X (binaryOp op) gf) (ha : DE X W a ta) (hb : DE X W b tb) : DE X W (.BinOp a op b pos) (dBin gf ta tb) := by
  obtain ⟨r, h1, h2⟩ := ho.ex
  obtain ⟨tea, pa, ra⟩ := ha.ex
  obtain ⟨teb, pb, rb⟩ := hb.ex
  exact ⟨_, pe_op h1 pa pb, fun c hc => re_op (f := binaryOp op) (ra c hc) (rb c hc) (h2 c hc)⟩
theorem de_cmp {op : CmpOp} {gf : D → D → Option D} (ho : OpD X (compareOp op) gf) (ha : DE X W a ta) (hb : DE X W b tb) (hm : behindInMarks op b = false := by first | exact nomark _ | rfl | with_unfolding_all rfl) : DE X W (.Compare a [op] [b] pos) (dBin gf ta tb) := by
  obtain ⟨r, h1, h2⟩ := ho.ex
  obtain ⟨tea, pa, ra⟩ := ha.ex
  obtain ⟨teb, pb, rb⟩ := hb.ex
  exact ⟨_, pe_cmpR h1 pa pb hm, fun c hc => re_op (f := compareOp op) (ra c hc) (rb c hc) (h2 c hc)⟩
def dTest (t : TD) : TB := fun ρ => M.bind (t ρ) fun d => match d with
  | .bl b => M.ret b
  | _ => M.stuck
theorem rt_test {c : Ct} {te : TE} {t : TD} (h : RE c W te t) : RT c W (tTest te) (dTest t) := fun ρ μ g σ H Q rr μ' s hh hx k => by
  refine h.then_ s hh hx fun x μ1 h1 v1 H1 g1 l1 s1 r1 hx1 => ?_
  cases x with
  | bl b =>
    obtain ⟨rfl, rfl⟩ := ret_some h1
    have e : v1 = .bl b := rep_flat (d := .bl b) rfl r1
    exact ⟨b, e, k b rfl H1 g1 l1 s1⟩
  | _ => cases h1
theorem dt_cmp {op : CmpOp} {gf : D → D → Option D} (ho : OpD X (compareOp op) gf) (ha : DE X W a ta) (hb : DE X W b tb) (hm : behindInMarks op b = false := by first | exact nomark _ | rfl | with_unfolding_all rfl) : DT X W (.Compare a [op] [b] pos) (dTest (dBin gf ta tb)) := by
  obtain ⟨r, h1, h2⟩ := ho.ex
  obtain ⟨tea, pa, ra⟩ := ha.ex
  obtain ⟨teb, pb, rb⟩ := hb.ex
  exact ⟨_, pt_cmpR h1 pa pb hm, fun c hc => rt_test (re_op (f := compareOp op) (ra c hc) (rb c hc) (h2 c hc))⟩
def D.truth : D → Option Bool
  | .non => some false
  | .bl b => some b
  | .int i => some (i != 0)
  | .str s => if s.length ≤ sizeLine then some ((s.length : Int) != 0) else none
  | .tup ds => some (!ds.isEmpty)
  | .kt ds => some (!ds.isEmpty)
  | .lst ds => some (!ds.isEmpty)
  | .rd ds => some (!ds.isEmpty)
  | _ => none
theorem isEmpty_reps {K : Fg} {ads : List Addr} {B : Hp} {ds : List D} {xs : List V} (h : Reps K ads B ds xs) : xs.isEmpty = ds.isEmpty := by
  cases ds with
  | nil => rw [reps_nil_inv h]; rfl
  | cons d ds =>
    obtain ⟨x, r, rfl, _⟩ := reps_cons_inv h
    rfl
theorem truth_V {K : Fg} {g : G} {H : Hp} {d : D} {v : V} {b : Bool} (sub : Same g.B H) (h : GRep K g d v) (e : d.truth = some b) : TruV K v H b := by
  cases d with
  | non => cases e; unfold GRep Rep at h; subst h; rfl
  | bl b' => cases e; unfold GRep Rep at h; subst h; rfl
  | int i => cases e; unfold GRep Rep at h; subst h; rfl
  | str z =>
    unfold GRep Rep at h
    subst h
    have e : (if z.length ≤ sizeLine then some ((z.length : Int) != 0) else none) = some b := e
    by_cases q : z.length ≤ sizeLine
    · rw [if_pos q] at e
      cases e
      exact ⟨q, rfl⟩
    · rw [if_neg q] at e
      cases e
  | tup ds =>
    cases e
    unfold GRep Rep at h
    obtain ⟨a, xs, rfl, h1, h2⟩ := h
    exact .inr (.inl ⟨xs, SqT.of (sub _ _ h1), by rw [isEmpty_reps h2]⟩)
  | kt ds =>
    cases e
    unfold GRep Rep at h
    obtain ⟨a, xs, rfl, h1, h2⟩ := h
    exact .inr (.inl ⟨xs, sqT_mono h1 sub, by rw [isEmpty_reps h2]⟩)
  | lst ds =>
    cases e
    unfold GRep Rep at h
    obtain ⟨a, xs, rfl, h1, h2⟩ := h
    exact .inl ⟨xs, SqL.of (sub _ _ h1), by rw [isEmpty_reps h2]⟩
  | rd ds =>
    cases e
    unfold GRep Rep at h
    obtain ⟨a, xs, rfl, h1, h2⟩ := h
    exact .inl ⟨xs, sqL_mono h1 sub, by rw [isEmpty_reps h2]⟩
  | _ => cases e
def dTruth (t : TD) : TB := fun ρ => M.bind (t ρ) fun d => M.lift d.truth
theorem dt_truth (ha : DE X W a ta) (he : ∀ whole, isTrue a X.env whole = (do let v ← whole; standAt a.pos; holding [v] (truthy v)) := by intro _; rfl) : DT X W a (dTruth ta) := by
  obtain ⟨tea, pa, ra⟩ := ha.ex
  refine ⟨_, pt_truth pa he, fun c hc ρ μ g σ H Q rr μ' s hh hx k => ?_⟩
  refine (ra c hc).then_ s hh hx fun x μ1 h1 v1 H1 g1 l1 s1 r1 hx1 => ?_
  obtain ⟨b, e, rfl, rfl⟩ := lift_some h1
  exact ⟨b, by rw [← hc]; exact truth_V s1.sub r1 e, k b rfl H1 g1 l1 s1⟩
def dAnd (t u : TB) : TB := fun ρ => M.bind (t ρ) fun b => if b = true then u ρ else M.ret false
def dOr (t u : TB) : TB := fun ρ => M.bind (t ρ) fun b => if b = true then M.ret true else u ρ
def dNot (t : TB) : TB := fun ρ => M.bind (t ρ) fun b => M.ret (!b)
variable {rest : List Expr} {t u : TB}
theorem dt_w (h : DW X W a t) : DT X W a t := by
  obtain ⟨te, p, r⟩ := h.ex
  exact ⟨te, p.pt, r⟩
theorem dw_and1 (h : DT X W a t) : DW X W (.BoolOp .And [a] pos) t := by
  obtain ⟨te, p, r⟩ := h.ex
  exact ⟨te, pw_and1 p, r⟩
theorem dw_or1 (h : DT X W a t) : DW X W (.BoolOp .Or [a] pos) t := by
  obtain ⟨te, p, r⟩ := h.ex
  exact ⟨te, pw_or1 p, r⟩
theorem dw_and (ha : DT X W a t) (hb : DW X W (.BoolOp .And (b :: rest) pos) u) : DW X W (.BoolOp .And (a :: b :: rest) pos) (dAnd t u) := by
  obtain ⟨tea, pa, ra⟩ := ha.ex
  obtain ⟨teb, pb, rb⟩ := hb.ex
  refine ⟨_, pw_and pa pb, fun c hc ρ μ g σ H Q rr μ' s hh hx k => ?_⟩
  refine (ra c hc).then_ s hh hx fun x μ1 h1 H1 g1 l1 s1 hx1 => ?_
  cases x with
  | true => exact iteT (rb c hc ρ μ1 g1 σ H1 Q rr μ' s1 h1 hx1 fun d e H' g' l s' => k d e H' g' (l1.trans l) s')
  | false =>
    obtain ⟨rfl, rfl⟩ := ret_some (show M.ret false μ1 = some (rr, μ') from h1)
    exact iteF (k false rfl H1 g1 l1 s1)
theorem dw_or (ha : DT X W a t) (hb : DW X W (.BoolOp .Or (b :: rest) pos) u) : DW X W (.BoolOp .Or (a :: b :: rest) pos) (dOr t u) := by
  obtain ⟨tea, pa, ra⟩ := ha.ex
  obtain ⟨teb, pb, rb⟩ := hb.ex
  refine ⟨_, pw_or pa pb, fun c hc ρ μ g σ H Q rr μ' s hh hx k => ?_⟩
  refine (ra c hc).then_ s hh hx fun x μ1 h1 H1 g1 l1 s1 hx1 => ?_
  cases x with
  | false => exact iteF (rb c hc ρ μ1 g1 σ H1 Q rr μ' s1 h1 hx1 fun d e H' g' l s' => k d e H' g' (l1.trans l) s')
  | true =>
    obtain ⟨rfl, rfl⟩ := ret_some (show M.ret true μ1 = some (rr, μ') from h1)
    exact iteT (k true rfl H1 g1 l1 s1)
theorem dt_not (ha : DT X W a t) : DT X W (.UnaryOp .Not a pos) (dNot t) := by
  obtain ⟨tea, pa, ra⟩ := ha.ex
  refine ⟨_, pt_not pa, fun c hc ρ μ g σ H Q rr μ' s hh hx k => ?_⟩
  refine (ra c hc).then_ s hh hx fun x μ1 h1 H1 g1 l1 s1 hx1 => ?_
  obtain ⟨rfl, rfl⟩ := ret_some h1
  exact k _ rfl H1 g1 l1 s1
def dAndV (t u : TD) : TD := fun ρ => M.bind (t ρ) fun d => match d with
  | .bl true => u ρ
  | .bl false => M.ret (.bl false)
  | _ => M.stuck
def dOrV (t u : TD) : TD := fun ρ => M.bind (t ρ) fun d => match d with
  | .bl false => u ρ
  | .bl true => M.ret (.bl true)
  | _ => M.stuck
def dNotV (t : TD) : TD := fun ρ => M.bind (t ρ) fun d => match d with
  | .bl b => M.ret (.bl (!b))
  | _ => M.stuck
theorem de_one {op : PySem.BoolOp} (h : DE X W a ta) : DE X W (.BoolOp op [a] pos) ta := by
  obtain ⟨te, p, r⟩ := h.ex
  exact ⟨te, pe_one p, r⟩
theorem de_and (ha : DE X W a ta) (hb : DE X W (.BoolOp .And (b :: rest) pos) tb) : DE X W (.BoolOp .And (a :: b :: rest) pos) (dAndV ta tb) := by
  obtain ⟨tea, pa, ra⟩ := ha.ex
  obtain ⟨teb, pb, rb⟩ := hb.ex
  refine ⟨_, pe_and pa pb, fun c hc ρ μ g σ H Q rr μ' s hh hx k => ?_⟩
  refine (ra c hc).then_ s hh hx fun x μ1 h1 v1 H1 g1 l1 s1 r1 hx1 => ?_
  cases x with
  | bl q =>
    have e : v1 = .bl q := rep_flat (d := .bl q) rfl r1
    cases q with
    | true => exact ⟨true, e, iteT (rb c hc ρ μ1 g1 σ H1 Q rr μ' s1 h1 hx1 fun d e v' H' g' l s' => k d e v' H' g' (l1.trans l) s')⟩
    | false =>
      obtain ⟨rfl, rfl⟩ := ret_some (show M.ret (D.bl false) μ1 = some (rr, μ') from h1)
      exact ⟨false, e, iteF (k _ rfl _ H1 g1 l1 s1 (flat_rep rfl))⟩
  | _ => cases h1
theorem de_not (ha : DE X W a ta) : DE X W (.UnaryOp .Not a pos) (dNotV ta) := by
  obtain ⟨tea, pa, ra⟩ := ha.ex
  refine ⟨_, pe_not pa, fun c hc ρ μ g σ H Q rr μ' s hh hx k => ?_⟩
  refine (ra c hc).then_ s hh hx fun x μ1 h1 v1 H1 g1 l1 s1 r1 hx1 => ?_
  cases x with
  | bl q =>
    obtain ⟨rfl, rfl⟩ := ret_some h1
    exact ⟨q, rep_flat (d := .bl q) rfl r1, k _ rfl _ H1 g1 l1 s1 (flat_rep rfl)⟩
  | _ => cases h1
def dIfE (t : TB) (u v : TD) : TD := fun ρ => M.bind (t ρ) fun b => if b = true then u ρ else v ρ
theorem de_if {q : Expr} (hq : DT X W q t) (ha : DE X W a ta) (hb : DE X W b tb) : DE X W (.IfExp q a b pos) (dIfE t ta tb) := by
  obtain ⟨teq, pq, rq⟩ := hq.ex
  obtain ⟨tea, pa, ra⟩ := ha.ex
  obtain ⟨teb, pb, rb⟩ := hb.ex
  refine ⟨_, pe_ifExp pq pa pb, fun c hc ρ μ g σ H Q rr μ' s hh hx k => ?_⟩
  refine (rq c hc).then_ s hh hx fun x μ1 h1 H1 g1 l1 s1 hx1 => ?_
  cases x with
  | true => exact iteT (ra c hc ρ μ1 g1 σ H1 Q rr μ' s1 h1 hx1 fun d e v' H' g' l s' => k d e v' H' g' (l1.trans l) s')
  | false => exact iteF (rb c hc ρ μ1 g1 σ H1 Q rr μ' s1 h1 hx1 fun d e v' H' g' l s' => k d e v' H' g' (l1.trans l) s')
def dNil : TL := fun _ => M.ret []
def dCons (t : TD) (u : TL) : TL := fun ρ => M.bind (t ρ) fun d => M.bind (u ρ) fun ds => M.ret (d :: ds)
theorem da_nil : DA X W [] dNil := ⟨_, pa_nil, fun c hc ρ μ g σ H Q rr μ' s h hx k => by
  obtain ⟨rfl, rfl⟩ := ret_some h
  exact k [] rfl [] H g (Le.refl g) s reps_nil⟩
theorem da_cons {es : List Expr} {tl : TL} (ha : DE X W a ta) (hr : DA X W es tl) (hs : starEach (a :: es) X.env = (false, eval a X.env) :: starEach es X.env := by rfl) : DA X W (a :: es) (dCons ta tl) := by
  obtain ⟨tea, pa, ra⟩ := ha.ex
  obtain ⟨teb, pb, rb⟩ := hr.ex
  refine ⟨_, pa_cons pa pb hs, fun c hc ρ μ g σ H Q rr μ' s hh hx k => ?_⟩
  refine (ra c hc).then_ s hh hx fun x μ1 h1 v1 H1 g1 l1 s1 r1 hx1 => ?_
  refine (rb c hc).then_ s1 h1 hx1 fun ds μ2 h2 vs H2 g2 l2 s2 r2 hx2 => ?_
  obtain ⟨rfl, rfl⟩ := ret_some h2
  exact k _ rfl _ H2 g2 (l1.trans l2) s2 (reps_cons (l2.rep r1) r2)
def dTup (t : TL) : TD := fun ρ => M.bind (t ρ) fun ds => if ds.length ≤ sizeLine then M.ret (.tup ds) else M.stuck
theorem de_tup {es : List Expr} {tl : TL} {x1} (h : DA X W es tl) : DE X W (.Tuple es x1 pos) (dTup tl) := by
  obtain ⟨te, p, r⟩ := h.ex
  refine ⟨_, pe_tup p, fun c hc ρ μ g σ H Q rr μ' s hh hx k => ?_⟩
  refine (r c hc).then_ s hh hx fun ds μ1 h1 xs H1 g1 l1 s1 r1 hx1 => ?_
  by_cases q : ds.length ≤ sizeLine
  · rw [if_pos q] at h1
    obtain ⟨rfl, rfl⟩ := ret_some h1
    refine ⟨by rw [← r1.length]; exact q, fun p hp => ?_⟩
    refine k _ rfl _ _ (g1.addB p (.tup xs)) (l1.trans (s1.leB hp)) (s1.addB hp) ?_
    unfold GRep Rep
    exact ⟨p, xs, rfl, upd_same, (s1.leB hp).reps r1⟩
  · rw [if_neg q] at h1
    cases h1
def dLst (t : TL) : TL := fun ρ => M.bind (t ρ) fun ds => if ds.length ≤ sizeLine then M.ret ds else M.stuck
theorem df_lst {es : List Expr} {tl : TL} (h : DA X W es tl) : DF X W (.List es pos) (dLst tl) := by
  obtain ⟨te, p, r⟩ := h.ex
  refine ⟨_, pe_lst p, fun c hc ρ μ g σ H Q rr μ' s hh hx k => ?_⟩
  refine (r c hc).then_ s hh hx fun ds μ1 h1 xs H1 g1 l1 s1 r1 hx1 => ?_
  by_cases q : ds.length ≤ sizeLine
  · rw [if_pos q] at h1
    obtain ⟨rfl, rfl⟩ := ret_some h1
    exact ⟨by rw [← r1.length]; exact q, fun p hp => k _ rfl p xs _ _ (l1.trans (le_own1 g1 p 0)) (s1.tmp hp) ⟨own1_at _ _ _, s1.freshT hp⟩ upd_same ((le_own1 _ _ _).reps r1)⟩
  · rw [if_neg q] at h1
    cases h1
def dFz (t : TL) : TD := fun ρ => M.bind (t ρ) fun ds => M.ret (.lst ds)
theorem RF.then_ {c : Ct} {ρ : Rho} {μ μ' : Mu} {g : G} {σ : L2.St} {H : Hp} {α : Type} {r : Res α} {te : TE} {t : TL} (ht : RF c W te t) {f : List D → M α} {Q : VK} (s : SR c ρ μ g σ H) (h : M.bind (t ρ) f μ = some (r, μ')) (hx : PX c W ρ σ g r μ')
    (k : ∀ d μ1, f d μ1 = some (r, μ') → ∀ p xs H1 g1, Le g g1 → SR c ρ μ1 g1 σ H1 → (g1.O p = some (.inl 0) ∧ g1.T p = none) → H1 p = some (.lst xs) → GReps c.K g1 d xs → PX c W ρ σ g1 r μ' → Q (.ref p) H1) : te σ H Q := by
  rcases bind_some h with ⟨a, μ1, e1, e2⟩ | ⟨C, ns, ds, e1, rfl⟩
  · exact ht ρ μ g σ H Q _ _ s e1 (fun C ns ds e => by cases e) fun d e a' xs H' g' l s' ho sq rp => by
      cases e
      exact k a μ1 e2 a' xs H' g' l s' ho sq rp (hx.le l)
  · exact ht ρ μ g σ H Q _ _ s e1 (fun C' ns' ds' e => by cases e; exact hx C ns ds rfl) fun d e => by cases e
theorem de_fz {tl : TL} (h : DF X W a tl) : DE X W a (dFz tl) := by
  obtain ⟨te, p, r⟩ := h.ex
  refine ⟨te, p, fun c hc ρ μ g σ H Q rr μ' s hh hx k => ?_⟩
  refine (r c hc).then_ s hh hx fun ds μ1 h1 p xs H1 g1 l1 s1 ho hp r1 hx1 => ?_
  obtain ⟨rfl, rfl⟩ := ret_some h1
  refine k _ rfl _ _ (g1.fz p (.lst xs)) (l1.trans (s1.leFz ho.1)) (s1.fzTmp ho.1 ho.2 hp) ?_
  unfold GRep Rep
  exact ⟨p, xs, rfl, upd_same, (s1.leFz ho.1).reps r1⟩
end
section
variable {X : Cx}
theorem opD_pure {f : Value → Value → Sem Value} {r : R2} {gf : D → D → Option D} (hr : OpR X f r)
    (h : ∀ (g : G) H x y vx vy (Q : VK) d, Same g.B H → GRep X.K g x vx → GRep X.K g y vy → gf x y = some d → (∀ v, GRep X.K g d v → Q v H) → r vx vy H Q) : OpD X f gf :=
  ⟨r, hr, fun c hc ρ μ g σ H x y vx vy Q d s rx ry e k => h g H x y vx vy Q d s.sub (by rw [← hc]; exact rx) (by rw [← hc]; exact ry) e fun v rv => k v H g (Le.refl g) s (by rw [hc]; exact rv)⟩
def gI (f : Int → Int → Option D) : D → D → Option D
  | .int i, .int j => f i j
  | _, _ => none
theorem gI_some {f : Int → Int → Option D} {x y d : D} (h : gI f x y = some d) : ∃ i j, x = .int i ∧ y = .int j ∧ f i j = some d := by
  cases x <;> cases y <;> first | exact ⟨_, _, rfl, rfl, h⟩ | cases h
theorem rep_int {K : Fg} {ads : List Addr} {B : Hp} {i : Int} {v : V} (h : Rep K ads B (.int i) v) : v = .int i := rep_flat (d := .int i) rfl h
theorem rep_str {K : Fg} {ads : List Addr} {B : Hp} {i : Str} {v : V} (h : Rep K ads B (.str i) v) : v = .str i := rep_flat (d := .str i) rfl h
theorem opD_I0 {f : Value → Value → Sem Value} {gv : Int → Int → V} {gd : Int → Int → D} (hr : OpR X f (rI0 gv)) (e : ∀ i j, (gd i j).flat = some (gv i j)) : OpD X f (gI fun i j => some (gd i j)) :=
  opD_pure hr fun g H x y vx vy Q d _ rx ry h k => by
    obtain ⟨i, j, rfl, rfl, h⟩ := gI_some h
    cases h
    exact ⟨i, j, rep_int rx, rep_int ry, k _ (flat_rep (e i j))⟩
theorem opD_I {f : Value → Value → Sem Value} {C : Int → Int → Prop} [∀ i j, Decidable (C i j)] {gv : Int → Int → V} {gd : Int → Int → D} (hr : OpR X f (rI C gv)) (e : ∀ i j, (gd i j).flat = some (gv i j)) : OpD X f (gI fun i j => if C i j then some (gd i j) else none) :=
  opD_pure hr fun g H x y vx vy Q d _ rx ry h k => by
    obtain ⟨i, j, rfl, rfl, h⟩ := gI_some h
    have h : (if C i j then some (gd i j) else none) = some d := h
    by_cases q : C i j
    · rw [if_pos q] at h
      cases h
      exact ⟨i, j, rep_int rx, rep_int ry, q, k _ (flat_rep (e i j))⟩
    · rw [if_neg q] at h
      cases h
instance (i j : Int) : Decidable (CMul i j) := inferInstanceAs (Decidable ((-(2 ^ 64) < i ∧ i < 2 ^ 64) ∨ (-(2 ^ 64) < j ∧ j < 2 ^ 64)))
instance (i j : Int) : Decidable (CDiv i j) := inferInstanceAs (Decidable (0 < j ∧ j < 1073741824))
instance (i j : Int) : Decidable (CPow i j) := inferInstanceAs (Decidable (0 ≤ j ∧ j ≤ 1000000 ∧ i.natAbs < 2 ^ 64))
def gSub : D → D → Option D := gI fun i j => some (.int (i - j))
def gMul : D → D → Option D := gI fun i j => if CMul i j then some (.int (i * j)) else none
def gDiv : D → D → Option D := gI fun i j => if CDiv i j then some (.int (i / j)) else none
def gMod : D → D → Option D := gI fun i j => if 0 < j then some (.int (i % j)) else none
def gPow : D → D → Option D := gI fun i j => if CPow i j then some (.int (i ^ j.toNat)) else none
def gShl : D → D → Option D := gI fun i j => if CPow i j then some (.int (i * 2 ^ j.toNat)) else none
def gShr : D → D → Option D := gI fun i j => if 0 ≤ j then some (.int (i / 2 ^ j.toNat)) else none
def gBAnd : D → D → Option D := gI fun i j => some (.int (Builtin.bitAnd i j))
def gBOr : D → D → Option D := gI fun i j => some (.int (Builtin.bitOr i j))
def gBXor : D → D → Option D := gI fun i j => some (.int (Builtin.bitXor i j))
def gLt : D → D → Option D := gI fun i j => some (.bl (decide (i < j)))
def gLe : D → D → Option D := gI fun i j => some (.bl (decide (i ≤ j)))
def gGt : D → D → Option D := gI fun i j => some (.bl (decide (j < i)))
def gGe : D → D → Option D := gI fun i j => some (.bl (decide (j ≤ i)))
theorem od_sub : OpD X (binaryOp .Sub) gSub := opD_I0 op_sub fun _ _ => rfl
theorem od_mul : OpD X (binaryOp .Mult) gMul := opD_I op_mul fun _ _ => rfl
theorem od_div : OpD X (binaryOp .FloorDiv) gDiv := opD_I op_fdiv fun _ _ => rfl
theorem od_mod : OpD X (binaryOp .Mod) gMod := opD_I (C := fun _ j => 0 < j) op_mod fun _ _ => rfl
theorem od_pow : OpD X (binaryOp .Pow) gPow := opD_I op_pow fun _ _ => rfl
theorem od_shl : OpD X (binaryOp .LShift) gShl := opD_I op_shl fun _ _ => rfl
theorem od_shr : OpD X (binaryOp .RShift) gShr := opD_I (C := fun _ j => 0 ≤ j) op_shr fun _ _ => rfl
theorem od_band : OpD X (binaryOp .BitAnd) gBAnd := opD_I0 op_and fun _ _ => rfl
theorem od_lt : OpD X (compareOp .Lt) gLt := opD_I0 op_lt fun _ _ => rfl
theorem od_le : OpD X (compareOp .LtE) gLe := opD_I0 op_le fun _ _ => rfl
theorem od_gt : OpD X (compareOp .Gt) gGt := opD_I0 op_gt fun _ _ => rfl
theorem od_ge : OpD X (compareOp .GtE) gGe := opD_I0 op_ge fun _ _ => rfl
def gAdd : D → D → Option D
  | .int i, .int j => some (.int (i + j))
  | .str i, .str j => if i.length + j.length ≤ sizeLine then some (.str (i ++ j)) else none
  | _, _ => none
theorem od_add : OpD X (binaryOp .Add) gAdd := opD_pure (OpR.or op_add op_add_str) fun g H x y vx vy Q d _ rx ry h k => by
  cases x <;> cases y <;> first | (cases h; done) | skip
  · cases h
    exact .inl ⟨_, _, rep_int rx, rep_int ry, k _ (flat_rep rfl)⟩
  · rename_i i j
    have h' : (if i.length + j.length ≤ sizeLine then some (D.str (i ++ j)) else none) = some d := h
    by_cases q : i.length + j.length ≤ sizeLine
    · rw [if_pos q] at h'
      cases h'
      exact .inr ⟨i, j, rep_str rx, rep_str ry, q, k _ (flat_rep rfl)⟩
    · rw [if_neg q] at h'
      cases h'
def gIsN : D → D → Option D
  | x, .non => match x with
    | .non => some (.bl true)
    | _ => some (.bl false)
  | _, _ => none
def gNotN : D → D → Option D
  | x, .non => match x with
    | .non => some (.bl false)
    | _ => some (.bl true)
  | _, _ => none
def D.isNon : D → Bool
  | .non => true
  | _ => false
theorem rep_non {K : Fg} {ads : List Addr} {B : Hp} {x : D} {v : V} (h : Rep K ads B x v) : decide (v = .non) = x.isNon := by
  cases x <;> unfold Rep at h
  case non => subst h; rfl
  case bl => subst h; rfl
  case int => subst h; rfl
  case str => subst h; rfl
  case ref => subst h; rfl
  case ty => subst h; rfl
  case mref => obtain ⟨a, _, rfl⟩ := h; rfl
  case tup => obtain ⟨a, _, rfl, _⟩ := h; rfl
  case kt => obtain ⟨a, _, rfl, _⟩ := h; rfl
  case lst => obtain ⟨a, _, rfl, _⟩ := h; rfl
  case rd => obtain ⟨a, _, rfl, _⟩ := h; rfl
  case obj => obtain ⟨a, _, _, rfl, _⟩ := h; rfl
  case dk => obtain ⟨a, _, rfl, _⟩ := h; rfl
theorem gIsN_some {x y d : D} (h : gIsN x y = some d) : y = .non ∧ d = .bl x.isNon := by
  cases y <;> first | (cases h; done) | skip
  cases x <;> (cases h; exact ⟨rfl, rfl⟩)
theorem gNotN_some {x y d : D} (h : gNotN x y = some d) : y = .non ∧ d = .bl (!x.isNon) := by
  cases y <;> first | (cases h; done) | skip
  cases x <;> (cases h; exact ⟨rfl, rfl⟩)
theorem od_isN : OpD X (compareOp .Is) gIsN := opD_pure op_isN fun g H x y vx vy Q d _ rx ry h k => by
  obtain ⟨rfl, rfl⟩ := gIsN_some h
  refine ⟨rep_flat (d := .non) rfl ry, k _ ?_⟩
  rw [rep_non rx]
  exact flat_rep rfl
theorem od_notN : OpD X (compareOp .IsNot) gNotN := opD_pure op_notN fun g H x y vx vy Q d _ rx ry h k => by
  obtain ⟨rfl, rfl⟩ := gNotN_some h
  refine ⟨rep_flat (d := .non) rfl ry, k _ ?_⟩
  rw [rep_non rx]
  exact flat_rep rfl
mutual
def D.py : D → Option PyData
  | .non => some .none
  | .bl b => some (.bool b)
  | .int i => some (.int i)
  | .str s => some (.str s)
  | .tup ds => match D.pys ds with
    | some ps => some (.tuple ps)
    | none => none
  | .kt ds => match D.pys ds with
    | some ps => some (.tuple ps)
    | none => none
  | .lst ds => match D.pys ds with
    | some ps => some (.list ps)
    | none => none
  | .rd ds => match D.pys ds with
    | some ps => some (.list ps)
    | none => none
  | _ => none
def D.pys : List D → Option (List PyData)
  | [] => some []
  | d :: ds => match D.py d, D.pys ds with
    | some p, some ps => some (p :: ps)
    | _, _ => none
end
section
variable {K : Fg} {ads : List Addr} {B H : Hp}
mutual
theorem py_dp (sub : Same B H) : ∀ {d : D} {v : V} {p : PyData}, Rep K ads B d v → d.py = some p → Dp K H v p
  | .non, v, p, h, e => by unfold Rep at h; unfold D.py at e; cases e; subst h; exact .non
  | .bl b, v, p, h, e => by unfold Rep at h; unfold D.py at e; cases e; subst h; exact .bl b
  | .int i, v, p, h, e => by unfold Rep at h; unfold D.py at e; cases e; subst h; exact .int i
  | .str s, v, p, h, e => by unfold Rep at h; unfold D.py at e; cases e; subst h; exact .str s
  | .ref a, v, p, h, e => by unfold D.py at e; cases e
  | .ty n, v, p, h, e => by unfold D.py at e; cases e
  | .mref n, v, p, h, e => by unfold D.py at e; cases e
  | .obj C ns ds, v, p, h, e => by unfold D.py at e; cases e
  | .dk ns ds, v, p, h, e => by unfold D.py at e; cases e
  | .tup ds, v, p, h, e => by
    unfold Rep at h
    unfold D.py at e
    obtain ⟨a, xs, rfl, h1, h2⟩ := h
    cases q : D.pys ds with
    | none => rw [q] at e; cases e
    | some ps =>
      rw [q] at e
      cases e
      exact .tup (SqT.of (sub _ _ h1)) (pys_dp sub h2 q)
  | .kt ds, v, p, h, e => by
    unfold Rep at h
    unfold D.py at e
    obtain ⟨a, xs, rfl, h1, h2⟩ := h
    cases q : D.pys ds with
    | none => rw [q] at e; cases e
    | some ps =>
      rw [q] at e
      cases e
      exact .tup (sqT_mono h1 sub) (pys_dp sub h2 q)
  | .lst ds, v, p, h, e => by
    unfold Rep at h
    unfold D.py at e
    obtain ⟨a, xs, rfl, h1, h2⟩ := h
    cases q : D.pys ds with
    | none => rw [q] at e; cases e
    | some ps =>
      rw [q] at e
      cases e
      exact .lst (SqL.of (sub _ _ h1)) (pys_dp sub h2 q)
  | .rd ds, v, p, h, e => by
    unfold Rep at h
    unfold D.py at e
    obtain ⟨a, xs, rfl, h1, h2⟩ := h
    cases q : D.pys ds with
    | none => rw [q] at e; cases e
    | some ps =>
      rw [q] at e
      cases e
      exact .lst (sqL_mono h1 sub) (pys_dp sub h2 q)
theorem pys_dp (sub : Same B H) : ∀ {ds : List D} {xs : List V} {ps : List PyData}, Reps K ads B ds xs → D.pys ds = some ps → DpAll K H xs ps
  | [], xs, ps, h, e => by
    unfold D.pys at e
    cases e
    rw [reps_nil_inv h]
    exact .nil
  | d :: ds, xs, ps, h, e => by
    obtain ⟨x, r, rfl, hx, t⟩ := reps_cons_inv h
    unfold D.pys at e
    cases q1 : D.py d with
    | none => rw [q1] at e; cases e
    | some p =>
      cases q2 : D.pys ds with
      | none => rw [q1, q2] at e; cases e
      | some ps' =>
        rw [q1, q2] at e
        cases e
        exact .cons (py_dp sub hx q1) (pys_dp sub t q2)
end
end
def eqD (x y : D) : Option Bool := match x.flat, y.flat with
  | some v, some w => if scal v w = true then some (decide (v = w)) else none
  | _, _ => match x.py, y.py with
    | some p, some q => if (SeqAt.shaped p && SeqAt.shaped q) = true then some (PyData.eqv p q) else none
    | _, _ => none
def gEq (x y : D) : Option D := (eqD x y).map D.bl
def gNe (x y : D) : Option D := (eqD x y).map fun b => D.bl (!b)
theorem eqD_cases {x y : D} {b : Bool} (h : eqD x y = some b) : (∃ v w, x.flat = some v ∧ y.flat = some w ∧ scal v w = true ∧ b = decide (v = w)) ∨
    (∃ p q, x.py = some p ∧ y.py = some q ∧ SeqAt.shaped p = true ∧ SeqAt.shaped q = true ∧ b = PyData.eqv p q) := by
  have key : (match x.py, y.py with
    | some p, some q => if (SeqAt.shaped p && SeqAt.shaped q) = true then some (PyData.eqv p q) else none
    | _, _ => none) = some b → (∃ p q, x.py = some p ∧ y.py = some q ∧ SeqAt.shaped p = true ∧ SeqAt.shaped q = true ∧ b = PyData.eqv p q) := by
    intro h
    cases e1 : x.py with
    | none => rw [e1] at h; cases h
    | some p =>
      cases e2 : y.py with
      | none => rw [e1, e2] at h; cases h
      | some q =>
        rw [e1, e2] at h
        have h' : (if (SeqAt.shaped p && SeqAt.shaped q) = true then some (PyData.eqv p q) else none) = some b := h
        by_cases z : (SeqAt.shaped p && SeqAt.shaped q) = true
        · rw [if_pos z] at h'
          cases h'
          obtain ⟨z1, z2⟩ := Bool.and_eq_true_iff.mp z
          exact ⟨p, q, rfl, rfl, z1, z2, rfl⟩
        · rw [if_neg z] at h'
          cases h'
  unfold eqD at h
  cases e1 : x.flat with
  | none => rw [e1] at h; exact .inr (key h)
  | some v =>
    cases e2 : y.flat with
    | none => rw [e1, e2] at h; exact .inr (key h)
    | some w =>
      rw [e1, e2] at h
      have h' : (if scal v w = true then some (decide (v = w)) else none) = some b := h
      by_cases z : scal v w = true
      · rw [if_pos z] at h'
        cases h'
        exact .inl ⟨v, w, rfl, rfl, z, rfl⟩
      · rw [if_neg z] at h'
        cases h'
theorem od_eq (hu : X.A.units + 64 < cLine) : OpD X (compareOp .Eq) gEq := opD_pure (OpR.or op_eq (op_eqD hu)) fun g H x y vx vy Q d sub rx ry h k => by
  unfold gEq at h
  cases e : eqD x y with
  | none => rw [e] at h; cases h
  | some b =>
    rw [e] at h
    cases h
    rcases eqD_cases e with ⟨v, w, e1, e2, e3, rfl⟩ | ⟨p, q, e1, e2, e3, e4, rfl⟩
    · have z1 := rep_flat e1 rx
      have z2 := rep_flat e2 ry
      subst z1 z2
      exact .inl ⟨e3, k _ (flat_rep rfl)⟩
    · exact .inr ⟨p, q, py_dp sub rx e1, py_dp sub ry e2, e3, e4, k _ (flat_rep rfl)⟩
theorem od_ne (hu : X.A.units + 64 < cLine) : OpD X (compareOp .NotEq) gNe := opD_pure (OpR.or op_ne (op_neD hu)) fun g H x y vx vy Q d sub rx ry h k => by
  unfold gNe at h
  cases e : eqD x y with
  | none => rw [e] at h; cases h
  | some b =>
    rw [e] at h
    cases h
    rcases eqD_cases e with ⟨v, w, e1, e2, e3, rfl⟩ | ⟨p, q, e1, e2, e3, e4, rfl⟩
    · have z1 := rep_flat e1 rx
      have z2 := rep_flat e2 ry
      subst z1 z2
      exact .inl ⟨e3, k _ (flat_rep rfl)⟩
    · exact .inr ⟨p, q, py_dp sub rx e1, py_dp sub ry e2, e3, e4, k _ (flat_rep rfl)⟩
end
end DL

set_option Elab.async false
set_option linter.all false
set_option maxRecDepth 100000
set_option maxHeartbeats 4000000
set_option autoImplicit false
namespace DL
open PySem PySem.Spec L2
def dsE {α : Type} (m : Rho → M α) (f : α → Rho → Mu → Option (Out × Mu)) : TO' := fun ρ μ => match m ρ μ with
  | none => none
  | some (.ok a, μ') => f a ρ μ'
  | some (.ex C ns ds, μ') => some (.ex ρ C ns ds, μ')
section
variable {c : Ct} {W : WX} {ρ : Rho} {μ μ' : Mu} {g : G} {σ : L2.St} {H : Hp} {o : Out} {D₀ : Ends}
theorem dsE_some {α : Type} {m : Rho → M α} {f : α → Rho → Mu → Option (Out × Mu)} (h : dsE m f ρ μ = some (o, μ')) :
    (∃ a μ1, m ρ μ = some (.ok a, μ1) ∧ f a ρ μ1 = some (o, μ')) ∨ (∃ C ns ds, m ρ μ = some (.ex C ns ds, μ') ∧ o = .ex ρ C ns ds) := by
  unfold dsE at h
  cases e : m ρ μ with
  | none => rw [e] at h; cases h
  | some q =>
    obtain ⟨r1, μ1⟩ := q
    rw [e] at h
    cases r1 with
    | ok a => exact .inl ⟨a, μ1, rfl, h⟩
    | ex C ns ds =>
      have h' : some (Out.ex ρ C ns ds, μ1) = some (o, μ') := h
      injection h' with h'
      injection h' with h1 h2
      subst h1 h2
      exact .inr ⟨C, ns, ds, rfl, rfl⟩
theorem px_of {α : Type} {C : Addr} {ns : List Str} {ds : List D} (h : PS' c W g (.ex ρ C ns ds) μ' D₀) : PX c W ρ σ g (Res.ex C ns ds : Res α) μ' :=
  fun C' ns' ds' e d H' g' l s x => by
    cases e
    exact h d σ H' g' l s x
theorem px_ok {α : Type} {a : α} : PX c W ρ σ g (Res.ok a : Res α) μ' := fun C ns ds e => by cases e
theorem RE.stm {te : TE} {t : TD} (ht : RE c W te t) {f : D → Rho → Mu → Option (Out × Mu)} {Q : VK} (s : SR c ρ μ g σ H) (h : dsE t f ρ μ = some (o, μ')) (hx : PS' c W g o μ' D₀)
    (k : ∀ d μ1, f d ρ μ1 = some (o, μ') → ∀ v H1 g1, Le g g1 → SR c ρ μ1 g1 σ H1 → GRep c.K g1 d v → PS' c W g1 o μ' D₀ → Q v H1) : te σ H Q := by
  rcases dsE_some h with ⟨a, μ1, e1, e2⟩ | ⟨C, ns, ds, e1, rfl⟩
  · exact ht ρ μ g σ H Q _ _ s e1 px_ok fun d e v H' g' l s' rp => by
      cases e
      exact k a μ1 e2 v H' g' l s' rp (hx.le l)
  · exact ht ρ μ g σ H Q _ _ s e1 (px_of hx) fun d e => by cases e
theorem RT.stm {te : TT} {t : TB} (ht : RT c W te t) {f : Bool → Rho → Mu → Option (Out × Mu)} {Q : Bool → Hp → Prop} (s : SR c ρ μ g σ H) (h : dsE t f ρ μ = some (o, μ')) (hx : PS' c W g o μ' D₀)
    (k : ∀ d μ1, f d ρ μ1 = some (o, μ') → ∀ H1 g1, Le g g1 → SR c ρ μ1 g1 σ H1 → PS' c W g1 o μ' D₀ → Q d H1) : te σ H Q := by
  rcases dsE_some h with ⟨a, μ1, e1, e2⟩ | ⟨C, ns, ds, e1, rfl⟩
  · exact ht ρ μ g σ H Q _ _ s e1 px_ok fun d e H' g' l s' => by
      cases e
      exact k a μ1 e2 H' g' l s' (hx.le l)
  · exact ht ρ μ g σ H Q _ _ s e1 (px_of hx) fun d e => by cases e
theorem RF.stm {te : TE} {t : TL} (ht : RF c W te t) {f : List D → Rho → Mu → Option (Out × Mu)} {Q : VK} (s : SR c ρ μ g σ H) (h : dsE t f ρ μ = some (o, μ')) (hx : PS' c W g o μ' D₀)
    (k : ∀ d μ1, f d ρ μ1 = some (o, μ') → ∀ p xs H1 g1, Le g g1 → SR c ρ μ1 g1 σ H1 → (g1.O p = some (.inl 0) ∧ g1.T p = none) → H1 p = some (.lst xs) → GReps c.K g1 d xs → PS' c W g1 o μ' D₀ → Q (.ref p) H1) : te σ H Q := by
  rcases dsE_some h with ⟨a, μ1, e1, e2⟩ | ⟨C, ns, ds, e1, rfl⟩
  · exact ht ρ μ g σ H Q _ _ s e1 px_ok fun d e v xs H' g' l s' ho hp rp => by
      cases e
      exact k a μ1 e2 v xs H' g' l s' ho hp rp (hx.le l)
  · exact ht ρ μ g σ H Q _ _ s e1 (px_of hx) fun d e => by cases e
end
section
variable {X : Cx} {W : WX} {a b : Expr} {ta tb : TD} {pos : Pos} {st : Stmt} {rest : List Stmt} {t u : TO'}
def dsNext : TO' := fun ρ μ => some (.nx ρ, μ)
def dsStuck : TO' := fun _ _ => none
def dsSeq (t u : TO') : TO' := fun ρ μ => match t ρ μ with
  | none => none
  | some (.nx ρ', μ') => u ρ' μ'
  | some (o, μ') => some (o, μ')
theorem dss_nil : DSs X W [] dsNext := ⟨_, pss_nil, fun c hc ρ μ g σ H D₀ o μ' s h k => by
  cases h
  exact k σ H g (Le.refl g) s⟩
theorem rs_seq {c : Ct} {ts us : TS} (ht : RS c W ts t) (hu : RS c W us u) : RS c W (tSeq ts us) (dsSeq t u) := fun ρ μ g σ H D₀ o μ' s h k => by
  unfold dsSeq at h
  cases e : t ρ μ with
  | none => rw [e] at h; cases h
  | some q =>
    obtain ⟨o1, μ1⟩ := q
    rw [e] at h
    cases o1 with
    | nx ρ' => exact ht ρ μ g σ H _ _ _ s e fun σ' H' g' l s' => hu ρ' μ1 g' σ' H' D₀ o μ' s' h (k.le l)
    | rt d => cases h; exact ht ρ μ g σ H _ _ _ s e k
    | bk ρ' => cases h; exact ht ρ μ g σ H _ _ _ s e k
    | ct ρ' => cases h; exact ht ρ μ g σ H _ _ _ s e k
    | ex ρ' C ns ds => cases h; exact ht ρ μ g σ H _ _ _ s e k
theorem dss_cons (h1 : DS X W st t) (h2 : DSs X W rest u) : DSs X W (st :: rest) (dsSeq t u) := by
  obtain ⟨ts, p1, r1⟩ := h1.ex
  obtain ⟨us, p2, r2⟩ := h2.ex
  exact ⟨_, pss_cons p1 p2, fun c hc => rs_seq (r1 c hc) (r2 c hc)⟩
theorem dss_one (h1 : DS X W st t) : DSs X W [st] t := by
  obtain ⟨ts, p1, r1⟩ := h1.ex
  exact ⟨_, pss_one p1, r1⟩
theorem dss_gh {gh : TO'} (h : DSs X W rest u) (hg : ∀ c : Ct, c.K = X.K → ∀ ρ μ g σ H o μ', SR c ρ μ g σ H → gh ρ μ = some (o, μ') → ∃ ρ' g', o = .nx ρ' ∧ Le g g' ∧ SR c ρ' μ' g' σ H) : DSs X W rest (dsSeq gh u) := by
  obtain ⟨us, p2, r2⟩ := h.ex
  refine ⟨us, p2, fun c hc ρ μ g σ H D₀ o μ' s h k => ?_⟩
  unfold dsSeq at h
  cases e : gh ρ μ with
  | none => rw [e] at h; cases h
  | some q =>
    obtain ⟨o1, μ1⟩ := q
    rw [e] at h
    obtain ⟨ρ', g', rfl, l, s'⟩ := hg c hc ρ μ g σ H o1 μ1 s e
    exact r2 c hc ρ' μ1 g' σ H D₀ o μ' s' h (k.le l)
def dsFz (i : Nat) : TO' := fun ρ μ => match ρ[i]? with
  | some (some (.ol ds)) => some (.nx (ρ.set i (some (.sh (.lst ds)))), μ)
  | _ => none
def dsBreak : TO' := fun ρ μ => some (.bk ρ, μ)
def dsCont : TO' := fun ρ μ => some (.ct ρ, μ)
theorem ds_break : DS X W (.Break pos) dsBreak := ⟨_, ps_break, fun c hc ρ μ g σ H D₀ o μ' s h k => by
  cases h
  exact k σ H g (Le.refl g) s⟩
theorem dss_never {sts : List Stmt} : DSs X W sts dsStuck := ⟨_, pss_never, fun c hc ρ μ g σ H D₀ o μ' s h k => by cases h⟩
def dsExpr (t : TD) : TO' := dsE t fun _ ρ μ => some (.nx ρ, μ)
theorem ds_expr (he : DE X W a ta) (hs : swapsWith a none pos.line X.env = pure false := by rfl) : DS X W (.Expr a pos) (dsExpr ta) := by
  obtain ⟨te, p, r⟩ := he.ex
  refine ⟨_, ps_expr p hs, fun c hc ρ μ g σ H D₀ o μ' s h k => ?_⟩
  refine (r c hc).stm s h k fun d μ1 h1 v H1 g1 l1 s1 _ k1 => ?_
  cases h1
  exact k1 σ H1 g1 (Le.refl _) s1
def dsRet (t : TD) : TO' := dsE t fun d ρ μ => some (.rt d, μ)
theorem ds_ret (he : DE X W a ta) : DS X W (.Return (some a) pos) (dsRet ta) := by
  obtain ⟨te, p, r⟩ := he.ex
  refine ⟨_, ps_ret p, fun c hc ρ μ g σ H D₀ o μ' s h k => ?_⟩
  refine (r c hc).stm s h k fun d μ1 h1 v H1 g1 l1 s1 rp k1 => ?_
  cases h1
  exact k1 v H1 g1 (Le.refl _) s1.toSH rp
def dsRetN : TO' := fun ρ μ => some (.rt .non, μ)
def dsIf (t : TB) (u v : TO') : TO' := dsE t fun b ρ μ => if b = true then u ρ μ else v ρ μ
theorem ds_if {x y : List Stmt} {q : Expr} {tq : TB} (hq : DT X W q tq) (hx : DSs X W x t) (hy : DSs X W y u) : DS X W (.If q x y pos) (dsIf tq t u) := by
  obtain ⟨te, p, r⟩ := hq.ex
  obtain ⟨t1, p1, r1⟩ := hx.ex
  obtain ⟨t2, p2, r2⟩ := hy.ex
  refine ⟨_, ps_if p p1 p2, fun c hc ρ μ g σ H D₀ o μ' s h k => ?_⟩
  refine (r c hc).stm s h k fun b μ1 h1 H1 g1 l1 s1 k1 => ?_
  cases b with
  | true => exact iteT (r1 c hc ρ μ1 g1 σ H1 D₀ o μ' s1 h1 k1)
  | false => exact iteF (r2 c hc ρ μ1 g1 σ H1 D₀ o μ' s1 h1 k1)
def dsSet (i : Nat) (t : TD) : TO' := dsE t fun d ρ μ => some (.nx (ρ.set i (some (.sh d))), μ)
theorem ds_set {i : Nat} {x : Str} {pos' : Pos} (hN : X.N.Nodup) (he : DE X W a ta) (hi : X.N[i]? = some x := by rfl) (hx : Loc X.env.scope x := by first | exact Or.inl rfl | exact Or.inr rfl) (hs : swapsWith a (some (.Name x pos')) pos.line X.env = pure false := by rfl)
    (hf : X.fn x = true ∨ X.env.scope.names.lookup x = some .local := by first | exact .inl rfl | exact .inr rfl) : DS X W (.Assign [.Name x pos'] a pos) (dsSet i ta) := by
  obtain ⟨te, p, r⟩ := he.ex
  refine ⟨_, ps_set (i := i) hN hi hx p hs hf, fun c hc ρ μ g σ H D₀ o μ' s h k => ?_⟩
  refine (r c hc).stm s h k fun d μ1 h1 v H1 g1 l1 s1 rp k1 => ?_
  cases h1
  exact k1 _ H1 g1 (Le.refl _) (s1.setSh i rp)
def dsSetO (i : Nat) (t : TL) : TO' := dsE t fun ds ρ μ => some (.nx (ρ.set i (some (.ol ds))), μ)
end
end DL

set_option Elab.async false
set_option linter.all false
set_option maxRecDepth 100000
set_option maxHeartbeats 4000000
set_option autoImplicit false
namespace DL
open PySem PySem.Spec L2
def Ct.call (K : Fg) (g : G) (H : Hp) : Ct := ⟨K, H, g.B, g.ads⟩
def G.enter (g : G) : G := { ads := g.ads, B := g.B, T := fun _ => none, O := fun a => match g.O a with
  | some (.inr k) => some (.inr k)
  | _ => none }
def G.after (g g' : G) : G := { ads := g'.ads, B := g'.B, T := g.T, O := fun a => match g.O a with
  | some (.inl i) => some (.inl i)
  | _ => match g'.O a with
    | some (.inr k) => some (.inr k)
    | _ => none }
theorem RMO.same {K : Fg} {g g' : G} {H : Hp} {a : Addr} {m : MO} (h : RMO K g H a m) (eb : g'.B = g.B) (ea : g'.ads = g.ads) : RMO K g' H a m := by
  cases m with
  | dead => obtain ⟨o, h1⟩ := h; exact ⟨o, by rw [eb]; exact h1⟩
  | lst ds => obtain ⟨xs, h1, h2⟩ := h; exact ⟨xs, h1, by unfold GReps at *; rw [eb, ea]; exact h2⟩
  | ins C ns ds => obtain ⟨dx, xs, h1, h2, h3⟩ := h; exact ⟨dx, xs, h1, h2, by unfold GReps at *; rw [eb, ea]; exact h3⟩
  | dk ks ds => obtain ⟨xs, h1, h2, h3⟩ := h; exact ⟨xs, h1, h2, by unfold GReps at *; rw [eb, ea]; exact h3⟩
  | dt ks ds => obtain ⟨xs, h1, h2, h3⟩ := h; exact ⟨xs, h1, h2, by unfold GReps at *; rw [eb, ea]; exact h3⟩
section
variable {c : Ct} {μ μ' : Mu} {g g' : G} {σ : L2.St} {H H' : Hp} {ρ : Rho} {p : Addr}
theorem enter_O {a : Addr} {q : Sum Nat Nat} (h : g.enter.O a = some q) : ∃ k, q = .inr k ∧ g.O a = some (.inr k) := by
  unfold G.enter at h
  have h' : (match g.O a with
    | some (.inr k) => some (Sum.inr k)
    | _ => none) = some q := h
  cases e : g.O a with
  | none => rw [e] at h'; cases h'
  | some r =>
    rw [e] at h'
    cases r with
    | inl i => cases h'
    | inr k => cases h'; exact ⟨k, rfl, rfl⟩
theorem SH.ownCall (h : SH c μ g H) {a : Addr} {i : Nat} (e : g.O a = some (.inl i)) : a ∉ g.ads := fun ha => by
  obtain ⟨k, hk, ea⟩ := List.mem_iff_getElem.mp ha
  have hk2 : k < μ.length := by rw [← h.alen]; exact hk
  exact h.ambNeO e (k := k) (by rw [List.getElem?_eq_getElem hk, ea]) (List.getElem?_eq_getElem hk2) rfl
theorem SH.enter (h : SH c μ g H) : SH (Ct.call c.K g H) μ g.enter H where
  sub := h.sub
  own := fun a e => by
    cases q : g.enter.O a with
    | none => exact absurd q e
    | some r =>
      obtain ⟨k, _, q2⟩ := enter_O q
      exact h.own a (by rw [q2]; exact fun z => by cases z)
  ownNew := fun a i e => by
    obtain ⟨k, q1, _⟩ := enter_O e
    cases q1
  ownAt := fun a e => by
    cases q : g.enter.O a with
    | none => exact absurd q e
    | some r =>
      obtain ⟨k, _, q2⟩ := enter_O q
      exact h.ownAt a (by rw [q2]; exact fun z => by cases z)
  alen := h.alen
  amb := fun k a m e1 e2 => by
    obtain ⟨q1, q2⟩ := h.amb k a m e1 e2
    refine ⟨q1.imp id fun q1 => ?_, q2.same rfl rfl⟩
    show (match g.O a with
      | some (.inr k) => some (Sum.inr k)
      | _ => none) = _
    rw [q1]
  old := fun a o e _ => e
  oldT := fun a o e => ⟨o, e⟩
  newB := fun a o e => .inl e
  b0 := Same.refl _
  a0 := fun _ _ e => e
  aNew := fun a e => .inl e
  tmpT := fun a o e => by cases e
theorem le_after (l : Le g.enter g') : Le g (g.after g') := ⟨l.b, l.a, fun _ _ e => e⟩
theorem after_inl (h : SH c μ g H) {a : Addr} {i : Nat} (e : g.O a = some (.inl i)) : (g.after g').O a = some (.inl i) := by
  show (match g.O a with
    | some (.inl i) => some (Sum.inl i)
    | _ => match g'.O a with
      | some (.inr k) => some (Sum.inr k)
      | _ => none) = _
  rw [e]
theorem after_O {a : Addr} {q : Sum Nat Nat} (h : (g.after g').O a = some q) : (∃ i, q = .inl i ∧ g.O a = some (.inl i)) ∨ (∃ k, q = .inr k ∧ g'.O a = some (.inr k)) := by
  have h' : (match g.O a with
    | some (.inl i) => some (Sum.inl i)
    | _ => match g'.O a with
      | some (.inr k) => some (Sum.inr k)
      | _ => none) = some q := h
  have key : (match g'.O a with
      | some (.inr k) => some (Sum.inr k)
      | _ => (none : Option (Sum Nat Nat))) = some q → (∃ k, q = .inr k ∧ g'.O a = some (.inr k)) := by
    intro h
    cases e : g'.O a with
    | none => rw [e] at h; cases h
    | some r =>
      rw [e] at h
      cases r with
      | inl i => cases h
      | inr k => cases h; exact ⟨k, rfl, rfl⟩
  cases e : g.O a with
  | none => rw [e] at h'; exact .inr (key h')
  | some r =>
    rw [e] at h'
    cases r with
    | inl i => cases h'; exact .inl ⟨i, rfl, rfl⟩
    | inr k => exact .inr (key h')
theorem SH.after (h : SH c μ g H) (l : Le g.enter g') (h' : SH (Ct.call c.K g H) μ' g' H') : SH c μ' (g.after g') H' where
  sub := h'.sub
  own := fun a e => by
    cases q : (g.after g').O a with
    | none => exact absurd q e
    | some r =>
      rcases after_O q with ⟨i, _, q2⟩ | ⟨k, _, q2⟩
      · cases z : g'.B a with
        | none => exact z
        | some o =>
          rcases h'.newB a o z with w | w | w
          · have w' : g.B a = some o := w
            rw [h.own a (by rw [q2]; exact fun z => by cases z)] at w'
            cases w'
          · have w' : H a = none := w
            obtain ⟨o', e'⟩ := h.ownAt a (by rw [q2]; exact fun z => by cases z)
            rw [w'] at e'
            cases e'
          · exact absurd w (h.ownCall q2)
      · exact h'.own a (by rw [q2]; exact fun z => by cases z)
  ownNew := fun a i e => by
    rcases after_O e with ⟨i, _, q2⟩ | ⟨k, q1, _⟩
    · exact h.ownNew a i q2
    · cases q1
  ownAt := fun a e => by
    cases q : (g.after g').O a with
    | none => exact absurd q e
    | some r =>
      rcases after_O q with ⟨i, _, q2⟩ | ⟨k, _, q2⟩
      · obtain ⟨o', e'⟩ := h.ownAt a (by rw [q2]; exact fun z => by cases z)
        exact ⟨o', h'.old a o' e' (h.ownCall q2)⟩
      · exact h'.ownAt a (by rw [q2]; exact fun z => by cases z)
  alen := h'.alen
  amb := fun k a m e1 e2 => by
    obtain ⟨q1, q2⟩ := h'.amb k a m e1 e2
    refine ⟨q1.imp id fun q1 => ?_, q2.same rfl rfl⟩
    have n : ∀ i, g.O a ≠ some (.inl i) := fun i z => by
      have ha : a ∈ g'.ads := List.mem_of_getElem? e1
      rcases h'.aNew a ha with w | w
      · exact h.ownCall z w
      · have w' : H a = none := w
        obtain ⟨o', e'⟩ := h.ownAt a (by rw [z]; exact fun z => by cases z)
        rw [w'] at e'
        cases e'
    show (match g.O a with
      | some (.inl i) => some (Sum.inl i)
      | _ => match g'.O a with
        | some (.inr k) => some (Sum.inr k)
        | _ => none) = _
    cases e : g.O a with
    | none => simp only [q1]
    | some r =>
      cases r with
      | inl i => exact absurd e (n i)
      | inr k' => simp only [q1]
  old := fun a o e n => by
    refine h'.old a o (h.old a o e n) fun z => ?_
    rcases h.aNew a z with w | w
    · exact n w
    · rw [w] at e
      cases e
  oldT := fun a o e => by
    obtain ⟨o', e'⟩ := h.oldT a o e
    exact h'.oldT a o' e'
  newB := fun a o e => by
    rcases h'.newB a o e with w | w | w
    · exact h.newB a o w
    · right; left
      exact h.fresh0 w
    · rcases h.aNew a w with w | w
      · exact .inr (.inr w)
      · exact .inr (.inl w)
  b0 := fun a o e => l.b a o (h.b0 a o e)
  a0 := fun k a e => l.a k a (h.a0 k a e)
  aNew := fun a e => by
    rcases h'.aNew a e with w | w
    · exact h.aNew a w
    · right
      exact h.fresh0 w
  tmpT := fun a o e => by
    obtain ⟨q1, q2⟩ := h.tmpT a o e
    exact ⟨after_inl h q1, h'.old a o q2 (h.ownCall q1)⟩
theorem SR.after (h : SR c ρ μ g σ H) (l : Le g.enter g') (h' : SH (Ct.call c.K g H) μ' g' H') : SR c ρ μ' (g.after g') σ H' :=
  { h.toSH.after l h' with
    slen := h.slen
    slot := fun i s x e1 e2 => (h.slot i s x e1 e2).step (le_after l) fun p e => ⟨after_inl h.toSH e, by
      obtain ⟨o', e'⟩ := h.ownAt p (by rw [e]; exact fun z => by cases z)
      rw [e']
      exact h'.old p o' e' (h.ownCall e)⟩ }
end
theorem ExAt.after {c : Ct} {μ : Mu} {g g1 g' : G} {H H' : Hp} {d : Option Addr} {ns : List Str} {ds : List D} (x : ExAt (Ct.call c.K g1 H) g' H' d ns ds) (s : SH c μ g H) : ExAt c (g.after g') H' d ns ds := by
  cases d with
  | none => exact x
  | some d =>
    obtain ⟨xs, x1, x2, x3, x4, x5, x6, x7⟩ := x
    have x4' : H d = none := x4
    refine ⟨xs, x1, x2, x3, ?_, ?_, x6, x7⟩
    · cases e : c.H0 d with
      | none => rfl
      | some o =>
        obtain ⟨o', e'⟩ := s.oldT d o e
        rw [x4'] at e'
        cases e'
    · cases e : (g.after g').O d with
      | none => rfl
      | some q =>
        rcases after_O e with ⟨i, _, q2⟩ | ⟨k, _, q2⟩
        · obtain ⟨o', e'⟩ := s.ownAt d (by rw [q2]; exact fun z => by cases z)
          rw [x4'] at e'
          cases e'
        · rw [x5] at q2
          cases q2
def spD (K : Fg) (n : Nat) (F : List D → M D) : Sp := fun vs H Q E => ∃ ds μ g r μ', ds.length = n ∧ SH (Ct.call K g H) μ g H ∧ GReps K g ds vs ∧ F ds μ = some (r, μ') ∧
  (∀ d, r = .ok d → ∀ v H' g', Le g g' → SH (Ct.call K g H) μ' g' H' → GRep K g' d v → Q v H') ∧
  (∀ C ns es, r = .ex C ns es → ∀ d H' g', Le g g' → SH (Ct.call K g H) μ' g' H' → ExAt (Ct.call K g H) g' H' d ns es → E (.ref C) d H')
structure Known (P : Program) (w : World) (K : Fg) (mg : Str → Option Value) (base : Heap) (x : Str) (k n : Nat) (F : List D → M D) : Prop where
  ex : ∃ f fd ps, mg x = some (.ref f) ∧ PySem.W.keepIn K (.ref f) = true ∧ Binds K fd ps [] ∧ ps.length = n ∧ FnOk P w K mg base (L2.CX P w) k f fd ps (spD K n F)
section
variable {X : Cx} {W : WX} {x : Str} {k n : Nat} {F : List D → M D} {p pos : Pos} {e : Expr} {es : List Expr} {tl : TL}
def dCall (F : List D → M D) (n : Nat) (t : TL) : TD := fun ρ => M.bind (t ρ) fun ds => if ds.length = n then F ds else M.stuck
theorem de_call (hk : Known X.prog X.w X.K X.mg X.base x k n F) (hr : Room k X.A) (tk : Takes X W) (ha : DA X W (e :: es) tl) (hg : Gl X x := by rfl)
    (hdb : (x == ("__debug__" : Str)) = false := by decide) (he : starEach (e :: es) X.env = (false, eval e X.env) :: starEach es X.env := by rfl) (hpl : (backTo pos (starEach es X.env)).any (·.1) = false := by rfl) :
    DE X W (.Call (.Name x p) (e :: es) [] pos) (dCall F n tl) := by
  obtain ⟨f, fd, ps, h1, h2, h3, h4, h5⟩ := hk.ex
  obtain ⟨te, pa, ra⟩ := ha.ex
  refine ⟨_, pe_callS h5 hr hg h1 h2 h3 (fun σ => passAt tk σ) pa hdb he hpl, fun c hc ρ μ g σ H Q rr μ' s hh hx k => ?_⟩
  refine (ra c hc).then_ s hh hx fun ds μ1 e1 vs H1 g1 l1 s1 r1 hx1 => ?_
  by_cases q : ds.length = n
  · rw [if_pos q] at e1
    rw [← hc]
    refine ⟨ds, μ1, g1.enter, rr, μ', q, s1.toSH.enter, r1, e1, fun d ed v H' g' l' s' rp => ?_, fun C ns es ed d H' g' l' s' xx => ?_⟩
    · exact k d ed v H' _ (l1.trans (le_after l')) (s1.after l' s') rp
    · refine hx1 C ns es ed d H' _ (le_after l') (s1.after l' s') (xx.after s1.toSH)
  · rw [if_neg q] at e1
    cases e1
end
def initR (N : Nat) (ds : List D) : Rho := ds.map (fun d => some (.sh d)) ++ List.replicate (N - ds.length) none
def runF (N : Nat) (t : TO') : List D → M D := fun ds μ => match t (initR N ds) μ with
  | some (.nx _, μ') => some (.ok .non, μ')
  | some (.rt d, μ') => some (.ok d, μ')
  | some (.ex _ C ns es, μ') => some (.ex C ns es, μ')
  | _ => none
theorem init_slots {K : Fg} {g : G} {H : Hp} : ∀ {ds : List D} {vs : List V} {i : Nat} {s : Option Sl} {x : Option V}, GReps K g ds vs → (ds.map fun d => some (Sl.sh d))[i]? = some s → (vs.map some)[i]? = some x → RSl K g H i s x := by
  intro ds vs i s x h e1 e2
  rw [List.getElem?_map] at e1 e2
  cases q : ds[i]? with
  | none => rw [q] at e1; cases e1
  | some d =>
    rw [q] at e1
    cases e1
    obtain ⟨v, h1, h2⟩ := Reps.get h q
    rw [h1] at e2
    cases e2
    exact ⟨v, rfl, h2⟩
theorem init_SR {K : Fg} {g : G} {H : Hp} {μ : Mu} {N : List Str} {ds : List D} {vs : List V} (s : SH (Ct.call K g H) μ g H) (r : GReps K g ds vs) : SR (Ct.call K g H) (initR N.length ds) μ g (L2.start N vs) H :=
  { s with
    slen := by
      unfold initR L2.start
      rw [List.length_append, List.length_append, List.length_map, List.length_map, List.length_replicate, List.length_replicate, r.length]
    slot := fun i s x e1 e2 => by
      unfold initR at e1
      unfold L2.start at e2
      have hl := r.length
      by_cases q : i < ds.length
      · rw [List.getElem?_append_left (by rw [List.length_map]; exact q)] at e1
        rw [List.getElem?_append_left (by rw [List.length_map, ← hl]; exact q)] at e2
        exact init_slots r e1 e2
      · rw [List.getElem?_append_right (by rw [List.length_map]; omega)] at e1
        have e3 := List.mem_of_getElem? e1
        rw [List.mem_replicate] at e3
        rw [e3.2]
        trivial }
section
variable {P : Program} {w : World} {K : Fg} {mg : Str → Option Value} {base : Heap}
abbrev XB (P : Program) (w : World) (K : Fg) (mg : Str → Option Value) (base : Heap) (N : List Str) (qual : Str) (st : Stmt) (f : Addr) (cdv : Value) (A : Around) (outer : List Env) (s : Shared) (H : Hp) (E : XK) : Cx :=
  cxOf (L2.CX P w) P w K mg base N qual (defScope st) f cdv A outer s H E
abbrev WB (E : XK) : WX := fun cls d _ H => E cls d H
theorem fnOk_of {qual x : Str} {st : Stmt} {f : Addr} {fd : FuncData} {N ps : List Str} {k n : Nat} {t : TO'} (F : Fun K x qual st f fd) (S : FnScope N ps (defScope st)) (hn : ps.length = n)
    (body : ∀ cdv A outer s H E, Room k (XB P w K mg base N qual st f cdv A outer s H E).A → DSs (XB P w K mg base N qual st f cdv A outer s H E) (WB E) (defBody st) t) :
    FnOk P w K mg base (L2.CX P w) (k + 1) f fd ps (spD K n (runF N.length t)) := by
  refine F.okX S (fun vs H Q E h => ?_) (fun cdv A outer s H vs Q E hr h => ?_)
  · obtain ⟨ds, μ, g, r, μ', hl, _, hv, _⟩ := h
    rw [← hv.length, hl, hn]
  · obtain ⟨ds, μ, g, r, μ', hl, hs, hv, hF, hQ, hE⟩ := h
    obtain ⟨ts, p, q⟩ := (body cdv A outer s H E hr).ex
    refine ⟨ts, p, ?_⟩
    unfold runF at hF
    have s0 : SR (Ct.call K g H) (initR N.length ds) μ g (L2.start N vs) H := init_SR hs hv
    cases e : t (initR N.length ds) μ with
    | none => rw [e] at hF; cases hF
    | some o =>
      obtain ⟨o, μ1⟩ := o
      rw [e] at hF
      refine q (Ct.call K g H) rfl _ μ g _ H _ o μ1 s0 e ?_
      cases o with
      | nx ρ' =>
        cases hF
        exact fun σ' H' g' l s' => hQ _ rfl .non H' g' l s'.toSH (flat_rep rfl)
      | rt d =>
        cases hF
        exact fun v H' g' l s' rp => hQ _ rfl v H' g' l s' rp
      | bk ρ' => cases hF
      | ct ρ' => cases hF
      | ex ρ' C ns es =>
        cases hF
        exact fun d σ' H' g' l s' xx => hE C ns es rfl d H' g' l s'.toSH xx
theorem known_of {x : Str} {st : Stmt} {f : Addr} {fd : FuncData} {N ps : List Str} {k n : Nat} {t : TO'} (F : Fun K x x st f fd) (S : FnScope N ps (defScope st)) (hm : mg x = some (.ref f)) (hb : Binds K fd ps []) (hn : ps.length = n)
    (body : ∀ cdv A outer s H E, Room k (XB P w K mg base N x st f cdv A outer s H E).A → DSs (XB P w K mg base N x st f cdv A outer s H E) (WB E) (defBody st) t) :
    Known P w K mg base x (k + 1) n (runF N.length t) := ⟨f, fd, ps, hm, F.kp, hb, hn, fnOk_of F S hn body⟩
end
section
variable {X : Cx} {W : WX} {e : Expr} {t : TD} {pos : Pos}
def dsApp (i : Nat) (t : TD) : TO' := fun ρ μ => match ρ[i]? with
  | some (some (.ol ds)) => dsE t (fun d ρ μ => if ds.length < sizeLine then some (.nx (ρ.set i (some (.ol (ds ++ [d])))), μ) else none) ρ μ
  | _ => none
theorem own_some {α : Type} {ρ : Rho} {i : Nat} {f : List D → Option α} {r : α} (h : (match ρ[i]? with
  | some (some (.ol ds)) => f ds
  | _ => none) = some r) : ∃ ds, ρ[i]? = some (some (.ol ds)) ∧ f ds = some r := by
  cases q : ρ[i]? with
  | none => rw [q] at h; cases h
  | some s =>
    rw [q] at h
    cases s with
    | none => cases h
    | some s =>
      cases s with
      | ol ds => exact ⟨ds, rfl, h⟩
      | _ => cases h
end
end DL

set_option Elab.async false
set_option linter.all false
set_option maxRecDepth 100000
set_option maxHeartbeats 4000000
set_option autoImplicit false
namespace DL
open PySem PySem.Spec L2
def Off {α : Type} (is : List Nat) (l l' : List α) : Prop := l'.length = l.length ∧ ∀ j, j ∉ is → l'[j]? = l[j]?
theorem Off.refl {α : Type} (is : List Nat) (l : List α) : Off is l l := ⟨rfl, fun _ _ => rfl⟩
theorem Off.trans {α : Type} {is js ks : List Nat} {l l' l'' : List α} (a : Off is l l') (b : Off js l' l'') (h1 : ∀ j ∈ is, j ∈ ks) (h2 : ∀ j ∈ js, j ∈ ks) : Off ks l l'' :=
  ⟨b.1.trans a.1, fun j h => (b.2 j fun z => h (h2 j z)).trans (a.2 j fun z => h (h1 j z))⟩
theorem off_set {α : Type} {l : List α} {i : Nat} {x : α} : Off [i] l (l.set i x) := ⟨List.length_set .., fun j h => by
  rw [List.getElem?_set_ne]
  exact fun z => h (by rw [z]; exact List.mem_singleton.mpr rfl)⟩
structure DG (X : Cx) (tg : Expr) (is : List Nat) (gt : D → Rho → Option Rho) : Prop where
  ex : ∃ g, PG X tg g ∧ ∀ c : Ct, c.K = X.K → ∀ ρ ρ' μ gh σ H d v (Q : L2.St → Hp → Prop), SR c ρ μ gh σ H → GRep c.K gh d v → gt d ρ = some ρ' → (∀ σ', SR c ρ' μ gh σ' H → Off is σ σ' → Q σ' H) → g v σ H Q
  off : ∀ d ρ ρ', gt d ρ = some ρ' → Off is ρ ρ'
structure DGs (X : Cx) (tgs : List Expr) (is : List Nat) (gt : List D → Rho → Option Rho) : Prop where
  ex : ∃ g, PGs X tgs g ∧ ∀ c : Ct, c.K = X.K → ∀ ρ ρ' μ gh σ H ds vs (Q : L2.St → Hp → Prop), SR c ρ μ gh σ H → GReps c.K gh ds vs → gt ds ρ = some ρ' → (∀ σ', SR c ρ' μ gh σ' H → Off is σ σ' → Q σ' H) → g vs σ H Q
  off : ∀ d ρ ρ', gt d ρ = some ρ' → Off is ρ ρ'
section
variable {X : Cx} {tg : Expr} {tgs : List Expr} {is js : List Nat}
def gtName (i : Nat) : D → Rho → Option Rho := fun d ρ => some (ρ.set i (some (.sh d)))
theorem dg_name (i : Nat) {x : Str} {pos : Pos} (hN : X.N.Nodup) (hi : X.N[i]? = some x := by rfl) (hx : Loc X.env.scope x := by first | exact Or.inl rfl | exact Or.inr rfl) (hf : X.fn x = true ∨ X.env.scope.names.lookup x = some .local := by first | exact .inl rfl | exact .inr rfl) : DG X (.Name x pos) [i] (gtName i) where
  ex := ⟨_, pg_name hN hi hx hf, fun c hc ρ ρ' μ gh σ H d v Q s r e k => by
    cases e
    exact k _ (s.setSh i r) off_set⟩
  off := fun d ρ ρ' e => by
    cases e
    exact off_set
def gtNil : List D → Rho → Option Rho := fun ds ρ => match ds with
  | [] => some ρ
  | _ => none
def gtCons (t : D → Rho → Option Rho) (u : List D → Rho → Option Rho) : List D → Rho → Option Rho := fun ds ρ => match ds with
  | [] => none
  | d :: ds => match t d ρ with
    | none => none
    | some ρ' => u ds ρ'
theorem dgs_nil : DGs X [] [] gtNil where
  ex := ⟨_, pgs_nil, fun c hc ρ ρ' μ gh σ H ds vs Q s r e k => by
    cases ds with
    | nil =>
      cases e
      exact ⟨reps_nil_inv r, k σ s (Off.refl _ _)⟩
    | cons d ds => cases e⟩
  off := fun ds ρ ρ' e => by
    cases ds with
    | nil => cases e; exact Off.refl _ _
    | cons d ds => cases e
theorem gtCons_some {t : D → Rho → Option Rho} {u : List D → Rho → Option Rho} {ds : List D} {ρ ρ' : Rho} (e : gtCons t u ds ρ = some ρ') : ∃ d dr ρ1, ds = d :: dr ∧ t d ρ = some ρ1 ∧ u dr ρ1 = some ρ' := by
  cases ds with
  | nil => cases e
  | cons d ds =>
    have e' : (match t d ρ with
      | none => none
      | some ρ' => u ds ρ') = some ρ' := e
    cases q : t d ρ with
    | none => rw [q] at e'; cases e'
    | some ρ1 =>
      rw [q] at e'
      exact ⟨d, ds, ρ1, rfl, q, e'⟩
theorem dgs_cons {t : D → Rho → Option Rho} {u : List D → Rho → Option Rho} (h1 : DG X tg is t) (h2 : DGs X tgs js u)
    (hs : (assignEach (tg :: tgs) X.env).map (·.2) = assign tg X.env :: (assignEach tgs X.env).map (·.2) := by rfl) : DGs X (tg :: tgs) (is ++ js) (gtCons t u) where
  ex := by
    obtain ⟨g1, p1, r1⟩ := h1.ex
    obtain ⟨g2, p2, r2⟩ := h2.ex
    refine ⟨_, pgs_cons p1 p2 hs, fun c hc ρ ρ' μ gh σ H ds vs Q s r e k => ?_⟩
    obtain ⟨d, dr, ρ1, rfl, q, e'⟩ := gtCons_some e
    obtain ⟨v, vr, rfl, hv, hr⟩ := reps_cons_inv r
    exact ⟨v, vr, rfl, r1 c hc ρ ρ1 μ gh σ H d v _ s hv q fun σ1 s1 o1 => r2 c hc ρ1 ρ' μ gh σ1 H dr vr Q s1 hr e' fun σ2 s2 o2 =>
      k σ2 s2 (o1.trans o2 (fun j z => List.mem_append_left _ z) (fun j z => List.mem_append_right _ z))⟩
  off := fun ds ρ ρ' e => by
    obtain ⟨d, dr, ρ1, rfl, q, e'⟩ := gtCons_some e
    exact (h1.off _ _ _ q).trans (h2.off _ _ _ e') (fun j z => List.mem_append_left _ z) (fun j z => List.mem_append_right _ z)
def gtTup (n : Nat) (u : List D → Rho → Option Rho) : D → Rho → Option Rho := fun d ρ => match d with
  | .tup ds => if ds.length = n then u ds ρ else none
  | _ => none
theorem gtTup_some {n : Nat} {u : List D → Rho → Option Rho} {d : D} {ρ ρ' : Rho} (e : gtTup n u d ρ = some ρ') : ∃ ds, d = .tup ds ∧ ds.length = n ∧ u ds ρ = some ρ' := by
  cases d with
  | tup ds =>
    have e' : (if ds.length = n then u ds ρ else none) = some ρ' := e
    by_cases q : ds.length = n
    · rw [if_pos q] at e'
      exact ⟨ds, rfl, q, e'⟩
    · rw [if_neg q] at e'
      cases e'
  | _ => cases e
theorem dg_tup {k0 n : Nat} {pos : Pos} {u : List D → Rho → Option Rho} (hc : X.calm = true) (h : DGs X tgs is u)
    (hn : (assignEach tgs X.env).length = n := by rfl) (hst : (assignEach tgs X.env).findIdx? (·.1) = none := by rfl) : DG X (.Tuple tgs k0 pos) is (gtTup n u) where
  ex := by
    obtain ⟨g1, p1, r1⟩ := h.ex
    refine ⟨_, pg_tup hc p1 hn hst, fun c hc ρ ρ' μ gh σ H d v Q s r e k => ?_⟩
    obtain ⟨ds, rfl, q, e'⟩ := gtTup_some e
    unfold GRep Rep at r
    obtain ⟨a, xs, rfl, h1, h2⟩ := r
    exact ⟨a, xs, rfl, SqT.of (s.sub _ _ h1), by rw [← h2.length]; exact q, r1 c hc ρ ρ' μ gh σ H ds xs Q s h2 e' k⟩
  off := fun d ρ ρ' e => by
    obtain ⟨ds, rfl, q, e'⟩ := gtTup_some e
    exact h.off _ _ _ e'
end
def ItOk (c : Ct) (g0 : G) (J : It) (ds : List D) : Prop := ∀ ρ μ g σ H, Le g0 g → SR c ρ μ g σ H →
  (∀ i d, ds[i]? = some d → J.go i H ∧ ∀ x H', J.yld i H x H' → ∃ g', Le g g' ∧ SR c ρ μ g' σ H' ∧ GRep c.K g' d x ∧ ∀ p, H' p = none → H p = none) ∧ J.stop ds.length H
def RI (c : Ct) (W : WX) (wi : TI) (t : TL) : Prop := ∀ ρ μ g σ H R r μ', SR c ρ μ g σ H → t ρ μ = some (r, μ') → PX c W ρ σ g r μ' →
  (∀ ds, r = .ok ds → ∀ J H' g', Le g g' → SR c ρ μ' g' σ H' → ItOk c g' J ds → R J H') → wi σ H R
structure DI (X : Cx) (W : WX) (tg iter : Expr) (t : TL) : Prop where
  ex : ∃ wi, PI X tg iter wi ∧ ∀ c : Ct, c.K = X.K → RI c W wi t
section
variable {X : Cx} {W : WX} {tg e a b : Expr} {t : TD} {pos : Pos}
def dIterL (t : TD) : TL := fun ρ => M.bind (t ρ) fun d => match d with
  | .lst ds => M.ret ds
  | .rd ds => M.ret ds
  | _ => M.stuck
def dIterT (t : TD) : TL := fun ρ => M.bind (t ρ) fun d => match d with
  | .tup ds => M.ret ds
  | _ => M.stuck
theorem itOk_list {c : Ct} {g0 : G} {a : Addr} {xs : List V} {ds : List D} (h1 : SqL c.K g0.B a xs) (h2 : GReps c.K g0 ds xs) : ItOk c g0 (Itl c.K a) ds := fun ρ μ g σ H l s => by
  have hs : SqL c.K H a xs := sqL_mono (sqL_mono h1 l.b) s.sub
  refine ⟨fun i d e => ?_, ⟨xs, hs, by rw [h2.length]; exact Nat.le_refl _⟩⟩
  obtain ⟨x, hx, rx⟩ := h2.get e
  refine ⟨⟨xs, x, hs, hx⟩, fun y H' hy => ?_⟩
  obtain ⟨rfl, hy⟩ := hy
  have e2 := hy xs hs
  rw [hx] at e2
  cases e2
  exact ⟨g, Le.refl g, s, l.rep rx, fun p q => q⟩
theorem itOk_tup {c : Ct} {g0 : G} {a : Addr} {xs : List V} {ds : List D} (h1 : SqT c.K g0.B a xs) (h2 : GReps c.K g0 ds xs) : ItOk c g0 (Itt c.K a) ds := fun ρ μ g σ H l s => by
  have hs : SqT c.K H a xs := sqT_mono (sqT_mono h1 l.b) s.sub
  refine ⟨fun i d e => ?_, ⟨xs, hs, by rw [h2.length]; exact Nat.le_refl _⟩⟩
  obtain ⟨x, hx, rx⟩ := h2.get e
  refine ⟨⟨xs, x, hs, hx⟩, fun y H' hy => ?_⟩
  obtain ⟨rfl, hy⟩ := hy
  have e2 := hy xs hs
  rw [hx] at e2
  cases e2
  exact ⟨g, Le.refl g, s, l.rep rx, fun p q => q⟩
def rangeD (lo : Int) (n : Nat) : List D := (List.range n).map fun i => D.int (lo + (i : Nat))
def dRng1 (t : TD) : TL := fun ρ => M.bind (t ρ) fun d => match d with
  | .int j => if -(2 ^ 62) ≤ j ∧ j < 2 ^ 62 then M.ret (rangeD 0 j.toNat) else M.stuck
  | _ => M.stuck
def dRng2 (t u : TD) : TL := fun ρ => M.bind (t ρ) fun d => M.bind (u ρ) fun e => match d, e with
  | .int i, .int j => if -(2 ^ 62) ≤ i ∧ i < 2 ^ 62 ∧ -(2 ^ 62) ≤ j ∧ j < 2 ^ 62 then M.ret (rangeD i (j - i).toNat) else M.stuck
  | _, _ => M.stuck
theorem itOk_rng {c : Ct} {g0 : G} (lo : Int) (n : Nat) : ItOk c g0 (Itr lo n) (rangeD lo n) := fun ρ μ g σ H l s => by
  have hl : (rangeD lo n).length = n := by unfold rangeD; rw [List.length_map, List.length_range]
  refine ⟨fun i d e => ?_, by show n ≤ _; rw [hl]; exact Nat.le_refl _⟩
  have hi : i < n := by rw [← hl]; exact (List.getElem?_eq_some_iff.mp e).1
  unfold rangeD at e
  rw [List.getElem?_map, List.getElem?_range hi] at e
  cases e
  refine ⟨hi, fun y H' hy => ?_⟩
  obtain ⟨rfl, rfl⟩ := hy
  exact ⟨g, Le.refl g, s, flat_rep rfl, fun p q => q⟩
theorem di_rng1 {p : Pos} (h : DE X W a t) (hm : X.mg "range" = none) (hg : Gl X "range" := by rfl) (hs : starEach [a] X.env = [(false, eval a X.env)] := by rfl) : DI X W tg (.Call (.Name "range" p) [a] [] pos) (dRng1 t) := by
  obtain ⟨te, p, r⟩ := h.ex
  refine ⟨_, pi_range1 hg hm (pa_cons p pa_nil hs) hs, fun c hc ρ μ g σ H R rr μ' s hh hx k => ?_⟩
  refine (r c hc).then_ s hh hx fun x μ1 h1 v1 H1 g1 l1 s1 r1 hx1 => ?_
  cases x with
  | int j =>
    have h1' : (if -(2 ^ 62) ≤ j ∧ j < 2 ^ 62 then M.ret (rangeD 0 j.toNat) else M.stuck) μ1 = some (rr, μ') := h1
    by_cases q : -(2 ^ 62) ≤ j ∧ j < 2 ^ 62
    · rw [if_pos q] at h1'
      obtain ⟨rfl, rfl⟩ := ret_some h1'
      have e := rep_int r1
      subst e
      exact ⟨j, rfl, q.1, q.2, k _ rfl _ H1 g1 l1 s1 (itOk_rng 0 _)⟩
    · rw [if_neg q] at h1'
      cases h1'
  | _ => cases h1
end
def forL (gt : D → Rho → Option Rho) (tb : TO') : List D → TO'
  | [], ρ, μ => some (.nx ρ, μ)
  | d :: ds, ρ, μ => match gt d ρ with
    | none => none
    | some ρ1 => match tb ρ1 μ with
      | none => none
      | some (.nx ρ', μ') => forL gt tb ds ρ' μ'
      | some (.ct ρ', μ') => forL gt tb ds ρ' μ'
      | some (.bk ρ', μ') => some (.nx ρ', μ')
      | some (.rt d, μ') => some (.rt d, μ')
      | some (.ex ρ' C ns es, μ') => some (.ex ρ' C ns es, μ')
def dsFor (tl : TL) (gt : D → Rho → Option Rho) (tb : TO') : TO' := dsE tl fun ds ρ μ => forL gt tb ds ρ μ
section
variable {X : Cx} {W : WX} {tg iter : Expr} {body : List Stmt} {tl : TL} {gt : D → Rho → Option Rho} {tb : TO'} {pos : Pos}
theorem RI.stm {c : Ct} {ρ : Rho} {μ μ' : Mu} {g : G} {σ : L2.St} {H : Hp} {o : Out} {D₀ : Ends} {wi : TI} {t : TL} (ht : RI c W wi t) {f : List D → Rho → Mu → Option (Out × Mu)} {R : It → Hp → Prop} (s : SR c ρ μ g σ H) (h : dsE t f ρ μ = some (o, μ')) (hx : PS' c W g o μ' D₀)
    (k : ∀ d μ1, f d ρ μ1 = some (o, μ') → ∀ J H1 g1, Le g g1 → SR c ρ μ1 g1 σ H1 → ItOk c g1 J d → PS' c W g1 o μ' D₀ → R J H1) : wi σ H R := by
  rcases dsE_some h with ⟨a, μ1, e1, e2⟩ | ⟨C, ns, ds, e1, rfl⟩
  · exact ht ρ μ g σ H R _ _ s e1 px_ok fun d e J H' g' l s' rp => by
      cases e
      exact k a μ1 e2 J H' g' l s' rp (hx.le l)
  · exact ht ρ μ g σ H R _ _ s e1 (px_of hx) fun d e => by cases e
theorem drop_cons {α : Type} {l : List α} {i : Nat} {d : α} {r : List α} (h : l.drop i = d :: r) : l[i]? = some d ∧ l.drop (i + 1) = r := by
  have e : (l.drop i)[0]? = some d := by rw [h]; rfl
  rw [List.getElem?_drop] at e
  refine ⟨by simpa using e, ?_⟩
  have e2 : (l.drop i).drop 1 = r := by rw [h]; rfl
  rw [List.drop_drop] at e2
  exact e2
theorem ds_for (hp : PassesOwn (model X.prog X.w) X.A X.env X.xe) (hc : X.calm = true) (hi : DI X W tg iter tl) {is : List Nat} (hg : DG X tg is gt) (hb : DSs X W body tb) (hs : ∀ x, foldedSetIterable iter X.env x = pure x := by intro _; rfl) :
    DS X W (.For tg iter body [] pos) (dsFor tl gt tb) := by
  obtain ⟨wi, p1, r1⟩ := hi.ex
  obtain ⟨g0, p2, r2⟩ := hg.ex
  obtain ⟨tbs, p3, r3⟩ := hb.ex
  refine ⟨_, ps_for hp hc p1 p2 p3 hs, fun c hc ρ μ g σ H D₀ o μ' s h k => ?_⟩
  refine (r1 c hc).stm s h k fun ds μ1 h1 J H1 g1 l1 s1 iok k1 => ?_
  refine ⟨fun i m σ H => m = ds.length - i ∧ i ≤ ds.length ∧ ∃ ρ μ g, Le g1 g ∧ SR c ρ μ g σ H ∧ forL gt tb (ds.drop i) ρ μ = some (o, μ'), ⟨_, rfl, Nat.zero_le _, ρ, μ1, g1, Le.refl _, s1, h1⟩, ?_⟩
  rintro i m σ H ⟨rfl, hi, ρ, μ, g, l, s, hf⟩
  obtain ⟨i1, i2⟩ := iok ρ μ g σ H l s
  cases e : ds.drop i with
  | nil =>
    left
    rw [e] at hf
    cases hf
    have hz : i = ds.length := by
      have := List.length_drop (i := i) (l := ds)
      rw [e] at this
      have h0 : ds.length - i = 0 := this.symm
      omega
    rw [hz]
    exact ⟨i2, k1 σ H g l s⟩
  | cons d r =>
    right
    obtain ⟨ed, er⟩ := drop_cons e
    obtain ⟨j1, j2⟩ := i1 i d ed
    have hil : i < ds.length := (List.getElem?_eq_some_iff.mp ed).1
    refine ⟨j1, fun σ' H' => ∃ m', m' < ds.length - i ∧ (m' = ds.length - (i + 1) ∧ i + 1 ≤ ds.length ∧ ∃ ρ μ g, Le g1 g ∧ SR c ρ μ g σ' H' ∧ forL gt tb (ds.drop (i + 1)) ρ μ = some (o, μ')), fun σ' H' q => q, fun x H' hy => ?_⟩
    obtain ⟨g2, l2, s2, rx, _⟩ := j2 x H' hy
    rw [e] at hf
    have hf' : (match gt d ρ with
      | none => none
      | some ρ1 => match tb ρ1 μ with
        | none => none
        | some (.nx ρ', μ') => forL gt tb r ρ' μ'
        | some (.ct ρ', μ') => forL gt tb r ρ' μ'
        | some (.bk ρ', μ') => some (.nx ρ', μ')
        | some (.rt d, μ') => some (.rt d, μ')
        | some (.ex ρ' C ns es, μ') => some (.ex ρ' C ns es, μ')) = some (o, μ') := hf
    cases eg : gt d ρ with
    | none => rw [eg] at hf'; cases hf'
    | some ρ1 =>
      rw [eg] at hf'
      refine r2 c hc ρ ρ1 μ g2 σ H' d x _ s2 rx eg fun σ1 s3 _ => ?_
      have nxt : ∀ ρ' μ2, forL gt tb r ρ' μ2 = some (o, μ') → ∀ σ' H' g', Le g2 g' → SR c ρ' μ2 g' σ' H' →
          ∃ m', m' < ds.length - i ∧ (m' = ds.length - (i + 1) ∧ i + 1 ≤ ds.length ∧ ∃ ρ μ g, Le g1 g ∧ SR c ρ μ g σ' H' ∧ forL gt tb (ds.drop (i + 1)) ρ μ = some (o, μ')) :=
        fun ρ' μ2 hq σ' H' g' l' s' => ⟨_, by omega, rfl, hil, ρ', μ2, g', (l.trans l2).trans l', s', by rw [er]; exact hq⟩
      cases eb : tb ρ1 μ with
      | none => simp only [eb] at hf'; cases hf'
      | some q =>
        obtain ⟨o1, μ2⟩ := q
        simp only [eb] at hf'
        refine r3 c hc ρ1 μ g2 σ1 H' _ o1 μ2 s3 eb ?_
        cases o1 with
        | nx ρ' => exact nxt ρ' μ2 hf'
        | ct ρ' => exact nxt ρ' μ2 hf'
        | bk ρ' =>
          cases hf'
          exact fun σ' H' g' l' s' => k1 σ' H' g' ((l.trans l2).trans l') s'
        | rt d =>
          cases hf'
          exact fun v H' g' l' s' rp => k1 v H' g' ((l.trans l2).trans l') s' rp
        | ex ρ' C ns es =>
          cases hf'
          exact fun d σ' H' g' l' s' xx => k1 d σ' H' g' ((l.trans l2).trans l') s' xx
end
def whileF (tt : TB) (tb : TO') : Nat → TO'
  | 0, _, _ => none
  | n + 1, ρ, μ => match tt ρ μ with
    | none => none
    | some (.ex C ns es, μ') => some (.ex ρ C ns es, μ')
    | some (.ok false, μ') => some (.nx ρ, μ')
    | some (.ok true, μ1) => match tb ρ μ1 with
      | none => none
      | some (.nx ρ', μ') => whileF tt tb n ρ' μ'
      | some (.ct ρ', μ') => whileF tt tb n ρ' μ'
      | some (.bk ρ', μ') => some (.nx ρ', μ')
      | some (.rt d, μ') => some (.rt d, μ')
      | some (.ex ρ' C ns es, μ') => some (.ex ρ' C ns es, μ')
open Classical in
noncomputable def dsWhile (tt : TB) (tb : TO') : TO' := fun ρ μ => if h : ∃ n q, whileF tt tb n ρ μ = some q then some h.choose_spec.choose else none
section
variable {X : Cx} {W : WX} {test : Expr} {body : List Stmt} {tt : TB} {tb : TO'} {pos : Pos}
end
end DL

set_option Elab.async false
set_option linter.all false
set_option maxRecDepth 100000
set_option maxHeartbeats 4000000
set_option autoImplicit false
namespace DL
open PySem PySem.Spec L2
section
variable {X : Cx} {W : WX} {e : Expr}
theorem pe_imp {te te' : TE} (p : PE X e te) (h : ∀ σ H Q, te' σ H Q → te σ H Q) : PE X e te' := ⟨fun pins s σ H Q I q => p.run pins s σ H Q I (h σ H Q q)⟩
theorem pt_imp {te te' : TT} (p : PT X e te) (h : ∀ σ H Q, te' σ H Q → te σ H Q) : PT X e te' := ⟨fun pins s σ H Q I q => p.run pins s σ H Q I (h σ H Q q)⟩
theorem pg_imp {te te' : TG} (p : PG X e te) (h : ∀ v σ H Q, te' v σ H Q → te v σ H Q) : PG X e te' := ⟨fun pins s σ H v u Q I r q => p.run pins s σ H v u Q I r (h v σ H Q q)⟩
def cE (K : Fg) (W : WX) (t : TD) : TE := fun σ H Q => ∃ c ρ μ g r μ', c.K = K ∧ SR c ρ μ g σ H ∧ t ρ μ = some (r, μ') ∧ PX c W ρ σ g r μ' ∧
  ∀ d, r = .ok d → ∀ v H' g', Le g g' → SR c ρ μ' g' σ H' → GRep c.K g' d v → Q v H'
def cT (K : Fg) (W : WX) (t : TB) : TT := fun σ H Q => ∃ c ρ μ g r μ', c.K = K ∧ SR c ρ μ g σ H ∧ t ρ μ = some (r, μ') ∧ PX c W ρ σ g r μ' ∧
  ∀ d, r = .ok d → ∀ H' g', Le g g' → SR c ρ μ' g' σ H' → Q d H'
def cG (K : Fg) (is : List Nat) (gt : D → Rho → Option Rho) : TG := fun v σ H Q => ∃ c ρ ρ' μ gh d, c.K = K ∧ SR c ρ μ gh σ H ∧ GRep c.K gh d v ∧ gt d ρ = some ρ' ∧ ∀ σ', SR c ρ' μ gh σ' H → Off is σ σ' → Q σ' H
theorem DE.can {t : TD} (h : DE X W e t) : PE X e (cE X.K W t) := by
  obtain ⟨te, p, r⟩ := h.ex
  refine pe_imp p fun σ H Q q => ?_
  obtain ⟨c, ρ, μ, g, rr, μ', h1, h2, h3, h4, h5⟩ := q
  exact r c h1 ρ μ g σ H Q rr μ' h2 h3 h4 h5
theorem DT.can {t : TB} (h : DT X W e t) : PT X e (cT X.K W t) := by
  obtain ⟨te, p, r⟩ := h.ex
  refine pt_imp p fun σ H Q q => ?_
  obtain ⟨c, ρ, μ, g, rr, μ', h1, h2, h3, h4, h5⟩ := q
  exact r c h1 ρ μ g σ H Q rr μ' h2 h3 h4 h5
theorem DG.can {is : List Nat} {gt : D → Rho → Option Rho} (h : DG X e is gt) : PG X e (cG X.K is gt) := by
  obtain ⟨te, p, r⟩ := h.ex
  refine pg_imp p fun v σ H Q q => ?_
  obtain ⟨c, ρ, ρ', μ, gh, d, h1, h2, h3, h4, h5⟩ := q
  exact r c h1 ρ ρ' μ gh σ H d v Q h2 h3 h4 h5
end
structure DTs (X : Cx) (W : WX) (ifs : List Expr) (t : TB) : Prop where
  ex : PTs X ifs (cT X.K W t)
def dYes : TB := fun _ => M.ret true
section
variable {X : Cx} {W : WX}
theorem pts_imp {ifs : List Expr} {te te' : TT} (p : PTs X ifs te) (h : ∀ σ H Q, te' σ H Q → te σ H Q) : PTs X ifs te' := ⟨fun pins s σ H Q I q => p.run pins s σ H Q I (h σ H Q q)⟩
theorem dts_nil : DTs X W [] dYes := ⟨pts_imp pts_nil fun σ H Q q => by
  obtain ⟨c, ρ, μ, g, rr, μ', h1, h2, h3, h4, h5⟩ := q
  obtain ⟨rfl, rfl⟩ := ret_some h3
  exact h5 true rfl H g (Le.refl g) h2⟩
theorem dts_one {e : Expr} {t : TB} (h : DT X W e t) : DTs X W [e] t := ⟨pts_one h.can⟩
end
def wipeR (ρ : Rho) : List Nat → Rho
  | [] => ρ
  | v :: vs => (wipeR ρ vs).set v none
theorem wipeR_off (ρ : Rho) : ∀ vs : List Nat, Off vs ρ (wipeR ρ vs)
  | [] => Off.refl _ _
  | v :: vs => (wipeR_off ρ vs).trans (off_set (i := v) (x := none)) (fun j h => List.mem_cons_of_mem _ h) (fun j h => by rw [List.mem_singleton.mp h]; exact List.mem_cons_self ..)
theorem wipe_off (σ : L2.St) : ∀ vs : List Nat, Off vs σ (wipe σ vs)
  | [] => Off.refl _ _
  | v :: vs => (wipe_off σ vs).trans (off_set (i := v) (x := none)) (fun j h => List.mem_cons_of_mem _ h) (fun j h => by rw [List.mem_singleton.mp h]; exact List.mem_cons_self ..)
theorem wipe_in {σ : L2.St} {i : Nat} : ∀ {vs : List Nat}, i ∈ vs → i < σ.length → (wipe σ vs)[i]? = some none
  | [], h, _ => by cases h
  | v :: vs, h, hl => by
    show ((wipe σ vs).set v none)[i]? = some none
    by_cases z : v = i
    · rw [z, List.getElem?_set, if_pos rfl, if_pos (by rw [(wipe_off σ vs).1]; exact hl)]
    · rw [List.getElem?_set_ne z]
      rcases List.mem_cons.mp h with q | q
      · exact absurd q.symm z
      · exact wipe_in q hl
theorem wipe_eq {σ σ' : L2.St} {vs : List Nat} (h : Off vs σ σ') : wipe σ' vs = wipe σ vs := by
  apply List.ext_getElem?
  intro i
  by_cases m : i ∈ vs
  · by_cases hl : i < σ.length
    · rw [wipe_in m hl, wipe_in m (by rw [h.1]; exact hl)]
    · rw [List.getElem?_eq_none (l := L2.wipe σ vs) (by rw [(wipe_off σ vs).1]; omega), List.getElem?_eq_none (l := L2.wipe σ' vs) (by rw [(wipe_off σ' vs).1, h.1]; omega)]
  · rw [(wipe_off σ vs).2 i m, (wipe_off σ' vs).2 i m, h.2 i m]
section
variable {c : Ct} {μ μ' : Mu} {g g' : G} {σ σ' : L2.St} {H H' : Hp} {ρ ρ' : Rho}
theorem SR.wipe (h : SR c ρ μ g σ H) : ∀ vs : List Nat, SR c (wipeR ρ vs) μ g (L2.wipe σ vs) H
  | [] => h
  | v :: vs => (SR.wipe h vs).setNone v
def okW (ρ : Rho) (vs : List Nat) : Bool := vs.all fun i => match ρ[i]? with
  | some (some (.sh _)) => true
  | some none => true
  | none => true
  | _ => false
theorem SR.back (h : SR c ρ μ g σ H) {vs : List Nat} (hw : okW ρ vs = true) (l : Le g g') (h' : SR c ρ' μ' g' σ' H') (hr : Off vs ρ ρ') (hs : Off vs σ σ') : SR c ρ μ' g' σ H' :=
  { h'.toSH with
    slen := h.slen
    slot := fun i s x e1 e2 => by
      by_cases m : i ∈ vs
      · have q := List.all_eq_true.mp hw i m
        rw [e1] at q
        cases s with
        | none => trivial
        | some s =>
          cases s with
          | sh d =>
            obtain ⟨v, h1, h2⟩ := h.slot i _ x e1 e2
            exact ⟨v, h1, l.rep h2⟩
          | _ => cases q
      · exact h'.slot i s x (by rw [hr.2 i m]; exact e1) (by rw [hs.2 i m]; exact e2) }
end
def M.nx {α : Type} (m : M α) : M α := fun μ => match m μ with
  | some (.ok a, μ') => some (.ok a, μ')
  | _ => none
theorem nx_some {α : Type} {m : M α} {μ μ' : Mu} {r : Res α} (h : M.nx m μ = some (r, μ')) : ∃ a, r = .ok a ∧ m μ = some (.ok a, μ') := by
  unfold M.nx at h
  cases e : m μ with
  | none => rw [e] at h; cases h
  | some q =>
    obtain ⟨r1, μ1⟩ := q
    rw [e] at h
    cases r1 with
    | ok a => cases h; exact ⟨a, rfl, rfl⟩
    | ex C ns ds => cases h
def lcL (vs : List Nat) (gt : D → Rho → Option Rho) (tt : TB) (te : TD) (ρ : Rho) : List D → List D → M (List D)
  | [], acc => M.ret acc
  | d :: ds, acc => match gt d (wipeR ρ vs) with
    | none => M.stuck
    | some ρ1 => M.bind (M.nx (tt ρ1)) fun b => if b = true then M.bind (M.nx (te ρ1)) fun y => if acc.length < sizeLine then lcL vs gt tt te ρ ds (acc ++ [y]) else M.stuck else lcL vs gt tt te ρ ds acc
def dLc (vs : List Nat) (tl : TL) (gt : D → Rho → Option Rho) (tt : TB) (te : TD) : TL := fun ρ => M.bind (tl ρ) fun ds => if okW ρ vs = true then lcL vs gt tt te ρ ds [] else M.stuck
abbrev WF : WX := fun _ _ _ _ => False
theorem RI.then_ {c : Ct} {W : WX} {ρ : Rho} {μ μ' : Mu} {g : G} {σ : L2.St} {H : Hp} {α : Type} {r : Res α} {wi : TI} {t : TL} (ht : RI c W wi t) {f : List D → M α} {R : It → Hp → Prop} (s : SR c ρ μ g σ H) (h : M.bind (t ρ) f μ = some (r, μ')) (hx : PX c W ρ σ g r μ')
    (k : ∀ d μ1, f d μ1 = some (r, μ') → ∀ J H1 g1, Le g g1 → SR c ρ μ1 g1 σ H1 → ItOk c g1 J d → PX c W ρ σ g1 r μ' → R J H1) : wi σ H R := by
  rcases bind_some h with ⟨a, μ1, e1, e2⟩ | ⟨C, ns, ds, e1, rfl⟩
  · exact ht ρ μ g σ H R _ _ s e1 px_ok fun d e J H' g' l s' rp => by
      cases e
      exact k a μ1 e2 J H' g' l s' rp (hx.le l)
  · exact ht ρ μ g σ H R _ _ s e1 (fun C' ns' ds' e => by cases e; exact hx C ns ds rfl) fun d e => by cases e
theorem lcL_ok {vs : List Nat} {gt : D → Rho → Option Rho} {tt : TB} {te : TD} {ρ : Rho} : ∀ {ds acc : List D} {μ μ' : Mu} {r : Res (List D)}, lcL vs gt tt te ρ ds acc μ = some (r, μ') → ∃ res, r = .ok res
  | [], acc, μ, μ', r, h => ⟨_, (ret_some h).1⟩
  | d :: ds, acc, μ, μ', r, h => by
    unfold lcL at h
    cases e : gt d (wipeR ρ vs) with
    | none => rw [e] at h; cases h
    | some ρ1 =>
      rw [e] at h
      rcases bind_some h with ⟨b, μ1, e1, e2⟩ | ⟨C, ns, es, e1, e2⟩
      · cases b with
        | true =>
          rw [if_pos rfl] at e2
          rcases bind_some e2 with ⟨y, μ2, e3, e4⟩ | ⟨C, ns, es, e3, e4⟩
          · by_cases q : acc.length < sizeLine
            · rw [if_pos q] at e4
              exact lcL_ok e4
            · rw [if_neg q] at e4
              cases e4
          · obtain ⟨a, q, _⟩ := nx_some e3
            cases q
        | false =>
          rw [if_neg (by decide)] at e2
          exact lcL_ok e2
      · obtain ⟨a, q, _⟩ := nx_some e1
        cases q
section
variable {X : Cx} {W : WX} {elt tg iter : Expr} {ifs : List Expr} {scope : Scope} {own : List (Str × Nat)} {pos : Pos} {tl : TL} {gt : D → Rho → Option Rho} {tt : TB} {te : TD} {is : List Nat}
theorem rf_lc {c : Ct} {wi : TI} (hi : RI c W wi tl) (hoff : ∀ d ρ ρ', gt d ρ = some ρ' → Off is ρ ρ') (his : ∀ i ∈ is, i ∈ own.map (·.2)) : RF c W (tLc wi (cG c.K is gt) (cT c.K WF tt) (cE c.K WF te) (own.map (·.2))) (dLc (own.map (·.2)) tl gt tt te) := by
  intro ρ μ g σ H Q rr μ' s hh hx k
  refine hi.then_ s hh hx fun ds μ1 h1 J H1 g1 l1 s1 iok hx1 => ?_
  intro p hp
  by_cases hw : okW ρ (own.map (·.2)) = true
  · rw [if_pos hw] at h1
    obtain ⟨res, rfl⟩ := lcL_ok h1
    have hTp := s1.freshT hp
    refine ⟨fun i m H => m = ds.length - i ∧ i ≤ ds.length ∧ ∃ μ g acc xs, Le g1 g ∧ SR c ρ μ g σ H ∧ g.T p = some (.lst xs) ∧ GReps c.K g acc xs ∧ lcL (own.map (·.2)) gt tt te ρ (ds.drop i) acc μ = some (.ok res, μ'),
      ⟨_, rfl, Nat.zero_le _, μ1, (g1.own1 p 0).tell p (.lst []), [], [], le_tell (le_own1 _ _ _) hTp, (s1.tmp hp).tell (own1_at _ _ _) upd_same, upd_same, reps_nil, h1⟩, ?_⟩
    rintro i m H ⟨rfl, hi, μ, g2, acc, xs, l, s2, ht, ra, hf⟩
    obtain ⟨i1, i2⟩ := iok ρ μ g2 σ H l s2
    obtain ⟨ho, hpx⟩ := s2.tmpT _ _ ht
    cases e : ds.drop i with
    | nil =>
      left
      rw [e] at hf
      obtain ⟨q1, q2⟩ := ret_some hf
      cases q1
      subst q2
      have hz : i = ds.length := by
        have := List.length_drop (i := i) (l := ds)
        rw [e] at this
        have h0 : ds.length - i = 0 := this.symm
        omega
      rw [hz]
      exact ⟨i2, k _ rfl p xs H (g2.untell p) (le_untell (l1.trans l) (by
        cases z : g.T p with
        | none => rfl
        | some o =>
          have z2 := l1.t p o z
          rw [hTp] at z2
          cases z2)) s2.untell ⟨ho, if_pos rfl⟩ hpx ra⟩
    | cons d r =>
      right
      obtain ⟨ed, er⟩ := drop_cons e
      obtain ⟨j1, j2⟩ := i1 i d ed
      have hil : i < ds.length := (List.getElem?_eq_some_iff.mp ed).1
      refine ⟨j1, fun H' => ∃ m', m' < ds.length - i ∧ (m' = ds.length - (i + 1) ∧ i + 1 ≤ ds.length ∧ ∃ μ g acc xs, Le g1 g ∧ SR c ρ μ g σ H' ∧ g.T p = some (.lst xs) ∧ GReps c.K g acc xs ∧ lcL (own.map (·.2)) gt tt te ρ (ds.drop (i + 1)) acc μ = some (.ok res, μ')), fun H' q => q, fun x H' hy => ?_⟩
      obtain ⟨g3, l3, s3, rx, _⟩ := j2 x H' hy
      rw [e] at hf
      unfold lcL at hf
      cases eg : gt d (wipeR ρ (own.map (·.2))) with
      | none => rw [eg] at hf; cases hf
      | some ρ1 =>
        rw [eg] at hf
        refine ⟨c, _, ρ1, μ, g3, d, rfl, s3.wipe _, rx, eg, fun σ1 s4 o4 => ?_⟩
        have offs : Off (own.map (·.2)) σ σ1 := (wipe_off σ (own.map (·.2))).trans o4 (fun j z => z) his
        have offr : Off (own.map (·.2)) ρ ρ1 := (wipeR_off ρ (own.map (·.2))).trans (hoff _ _ _ eg) (fun j z => z) his
        refine ⟨wipe_eq offs, ?_⟩
        rcases bind_some hf with ⟨b, μ2, e1, e2⟩ | ⟨C, ns, es, e1, e2⟩
        · obtain ⟨b', q, e1⟩ := nx_some e1
          cases q
          refine ⟨c, ρ1, μ, g3, _, μ2, rfl, s4, e1, px_ok, fun b2 eb H2 g4 l4 s5 => ?_⟩
          cases eb
          cases b with
          | false =>
            rw [if_neg (by decide)] at e2
            refine iteF ⟨_, by omega, rfl, hil, μ2, g4, acc, xs, l.trans (l3.trans l4), s3.back hw l4 s5 offr offs, l4.t _ _ (l3.t _ _ ht), (l3.trans l4).reps ra, by rw [er]; exact e2⟩
          | true =>
            rw [if_pos rfl] at e2
            refine iteT ?_
            rcases bind_some e2 with ⟨y, μ3, e3, e4⟩ | ⟨C, ns, es, e3, e4⟩
            · obtain ⟨y', q, e3⟩ := nx_some e3
              cases q
              refine ⟨c, ρ1, μ2, g4, _, μ3, rfl, s5, e3, px_ok, fun y2 ey v H3 g5 l5 s6 ry => ?_⟩
              cases ey
              by_cases q : acc.length < sizeLine
              · rw [if_pos q] at e4
                have l35 := l3.trans (l4.trans l5)
                have t5 := l35.t _ _ ht
                have s7 := s3.back hw (l4.trans l5) s6 offr offs
                obtain ⟨ho5, hp5⟩ := s7.tmpT _ _ t5
                have s8 := (s7.untell (p := p)).wrtTmp (p := p) ho5 (if_pos rfl) (o := .lst (xs ++ [v]))
                have l8 : Le g1 (g5.untell p) := le_untell (l.trans l35) hTp
                refine ⟨xs, hp5, by rw [← ra.length]; exact q, _, by omega, rfl, hil, μ3, (g5.untell p).tell p (.lst (xs ++ [v])), acc ++ [y], xs ++ [v], le_tell l8 hTp, s8.tell ho5 upd_same, upd_same, Reps.append (l35.reps ra) (reps_cons ry reps_nil), by rw [er]; exact e4⟩
              · rw [if_neg q] at e4
                cases e4
            · obtain ⟨a, q, _⟩ := nx_some e3
              cases q
        · obtain ⟨a, q, _⟩ := nx_some e1
          cases q
  · rw [if_neg hw] at h1
    cases h1
theorem df_lc (hc : X.calm = true) (hN : X.N.Nodup) (hi : DI X W tg iter tl) (ok : BlkOk X.N X.env.scope scope own)
    (hg : ∀ (s : Shared) (H : Hp) (C : Addr) (cl : List (Str × Addr)) (fp : List Addr), DG (X.blk s H scope (compEnvC scope cl C X.env) fp) tg is gt)
    (ht : ∀ (s : Shared) (H : Hp) (C : Addr) (cl : List (Str × Addr)) (fp : List Addr), DTs (X.blk s H scope (compEnvC scope cl C X.env) fp) WF ifs tt)
    (he : ∀ (s : Shared) (H : Hp) (C : Addr) (cl : List (Str × Addr)) (fp : List Addr), DE (X.blk s H scope (compEnvC scope cl C X.env) fp) WF elt te)
    (his : ∀ i ∈ is, i ∈ own.map (·.2) := by decide) (hs : ∀ x, foldedSetIterable iter X.env x = pure x := by intro _; rfl) :
    DF X W (.ListComp elt [⟨tg, iter, ifs, 0⟩] scope pos) (dLc (own.map (·.2)) tl gt tt te) := by
  obtain ⟨wi, p, r⟩ := hi.ex
  refine ⟨_, pe_lc (g := cG X.K is gt) (tt := cT X.K WF tt) (te := cE X.K WF te) hc hN p ok (fun s H C cl fp => (hg s H C cl fp).can) (fun s H C cl fp => (ht s H C cl fp).ex) (fun s H C cl fp => (he s H C cl fp).can) hs, fun c hc2 => ?_⟩
  have q := rf_lc (tt := tt) (te := te) (r c hc2) (hg X.s_0 X.H_0 0 [] []).off his
  rw [hc2] at q
  exact q
end
end DL

set_option Elab.async false
set_option linter.all false
set_option maxRecDepth 100000
set_option maxHeartbeats 4000000
set_option autoImplicit false
namespace DL
open PySem PySem.Spec L2
inductive QV where
  | val (d : D) | own (i : Nat)
def qv (q : QV) (ρ : Rho) (μ : Mu) : Option (List D) := match q with
  | .val (.lst ds) => some ds
  | .val (.tup ds) => some ds
  | .val (.kt ds) => some ds
  | .val (.rd ds) => some ds
  | .val (.mref k) => match μ[k]? with
    | some (.lst ds) => some ds
    | _ => none
  | .own i => match ρ[i]? with
    | some (some (.ol ds)) => some ds
    | _ => none
  | _ => none
def QRep (K : Fg) (g : G) (σ : L2.St) (q : QV) (v : V) : Prop := match q with
  | .val d => GRep K g d v
  | .own i => σ[i]? = some (some v)
theorem QRep.le {K : Fg} {g g' : G} {σ : L2.St} {q : QV} {v : V} (h : QRep K g σ q v) (l : Le g g') : QRep K g' σ q v := by
  cases q with
  | val d => exact l.rep h
  | own i => exact h
abbrev TQ := Rho → M QV
def RQ (c : Ct) (W : WX) (te : TE) (t : TQ) : Prop := ∀ ρ μ g σ H Q r μ', SR c ρ μ g σ H → t ρ μ = some (r, μ') → PX c W ρ σ g r μ' →
  (∀ q, r = .ok q → ∀ v H' g', Le g g' → SR c ρ μ' g' σ H' → QRep c.K g' σ q v → Q v H') → te σ H Q
structure DQ (X : Cx) (W : WX) (e : Expr) (t : TQ) : Prop where
  ex : ∃ te, PE X e te ∧ ∀ c : Ct, c.K = X.K → RQ c W te t
section
variable {c : Ct} {W : WX} {ρ : Rho} {μ μ' : Mu} {g : G} {σ : L2.St} {H : Hp} {α : Type} {r : Res α}
theorem RQ.then_ {te : TE} {t : TQ} (ht : RQ c W te t) {f : QV → M α} {Q : VK} (s : SR c ρ μ g σ H) (h : M.bind (t ρ) f μ = some (r, μ')) (hx : PX c W ρ σ g r μ')
    (k : ∀ q μ1, f q μ1 = some (r, μ') → ∀ v H1 g1, Le g g1 → SR c ρ μ1 g1 σ H1 → QRep c.K g1 σ q v → PX c W ρ σ g1 r μ' → Q v H1) : te σ H Q := by
  rcases bind_some h with ⟨a, μ1, e1, e2⟩ | ⟨C, ns, ds, e1, rfl⟩
  · exact ht ρ μ g σ H Q _ _ s e1 (fun C ns ds e => by cases e) fun d e v H' g' l s' rp => by
      cases e
      exact k a μ1 e2 v H' g' l s' rp (hx.le l)
  · exact ht ρ μ g σ H Q _ _ s e1 (fun C' ns' ds' e => by cases e; exact hx C ns ds rfl) fun d e => by cases e
theorem SR.seqLT (s : SR c ρ μ g σ H) {q : QV} {v : V} {ds : List D} (r : QRep c.K g σ q v) (h : qv q ρ μ = some ds) : (∃ a xs, v = .ref a ∧ SqL c.K H a xs ∧ GReps c.K g ds xs) ∨ ((q = .val (.tup ds) ∨ q = .val (.kt ds)) ∧ ∃ a xs, v = .ref a ∧ SqT c.K H a xs ∧ GReps c.K g ds xs) := by
  cases q with
  | own i =>
    obtain ⟨ds', e1, e2⟩ := own_some (f := fun ds => some ds) h
    cases e2
    obtain ⟨x, hx, p, xs, rfl, h2, h3, h4⟩ := s.at e1
    have e : some (some (V.ref p)) = some (some v) := hx.symm.trans r
    cases e
    exact .inl ⟨p, xs, rfl, SqL.of h3, h4⟩
  | val d =>
    have r : GRep c.K g d v := r
    cases d <;> first | (cases h; done) | skip
    case tup es =>
      cases h
      unfold GRep Rep at r
      obtain ⟨a, xs, rfl, h1, h2⟩ := r
      exact .inr ⟨.inl rfl, a, xs, rfl, SqT.of (s.sub _ _ h1), h2⟩
    case kt es =>
      cases h
      unfold GRep Rep at r
      obtain ⟨a, xs, rfl, h1, h2⟩ := r
      exact .inr ⟨.inr rfl, a, xs, rfl, sqT_mono h1 s.sub, h2⟩
    case lst es =>
      cases h
      unfold GRep Rep at r
      obtain ⟨a, xs, rfl, h1, h2⟩ := r
      exact .inl ⟨a, xs, rfl, SqL.of (s.sub _ _ h1), h2⟩
    case rd es =>
      cases h
      unfold GRep Rep at r
      obtain ⟨a, xs, rfl, h1, h2⟩ := r
      exact .inl ⟨a, xs, rfl, sqL_mono h1 s.sub, h2⟩
    case mref =>
      rename_i n r0
      unfold GRep Rep at r
      obtain ⟨a, h1, rfl⟩ := r
      have h' : (match μ[n]? with
        | some (MO.lst ds) => some ds
        | _ => none) = some ds := h
      cases e : μ[n]? with
      | none => rw [e] at h'; cases h'
      | some m =>
        rw [e] at h'
        cases m with
        | lst es =>
          cases h'
          obtain ⟨_, xs, q2, q3⟩ := s.amb n a _ h1 e
          exact .inl ⟨a, xs, rfl, SqL.of q2, q3⟩
        | _ => cases h'
theorem SR.seq (s : SR c ρ μ g σ H) {q : QV} {v : V} {ds : List D} (r : QRep c.K g σ q v) (h : qv q ρ μ = some ds) : ∃ a xs, v = .ref a ∧ SqV c.K H a xs ∧ GReps c.K g ds xs := by
  rcases s.seqLT r h with ⟨a, xs, h1, h2, h3⟩ | ⟨_, a, xs, h1, h2, h3⟩
  · exact ⟨a, xs, h1, .inl h2, h3⟩
  · exact ⟨a, xs, h1, .inr h2, h3⟩
end
section
variable {X : Cx} {W : WX} {a b e : Expr} {ta tb : TD} {tq : TQ} {pos : Pos}
def qVal (t : TD) : TQ := fun ρ => M.bind (t ρ) fun d => M.ret (.val d)
def qOwn (i : Nat) : TQ := fun ρ => match ρ[i]? with
  | some (some (.ol _)) => M.ret (.own i)
  | _ => M.stuck
theorem dq_val (h : DE X W a ta) : DQ X W a (qVal ta) := by
  obtain ⟨te, p, r⟩ := h.ex
  refine ⟨te, p, fun c hc ρ μ g σ H Q rr μ' s hh hx k => ?_⟩
  refine (r c hc).then_ s hh hx fun x μ1 h1 v1 H1 g1 l1 s1 r1 hx1 => ?_
  obtain ⟨rfl, rfl⟩ := ret_some h1
  exact k _ rfl v1 H1 g1 l1 s1 r1
def dLen (t : TQ) : TD := fun ρ => M.bind (t ρ) fun q μ => match q with
  | .val (.str z) => if z.length ≤ sizeLine then some (.ok (.int z.length), μ) else none
  | q => match qv q ρ μ with
    | some ds => some (.ok (.int ds.length), μ)
    | none => none
theorem dLen_some {q : QV} {ρ : Rho} {μ μ' : Mu} {r : Res D} (h : (match q with
  | .val (.str z) => if z.length ≤ sizeLine then some (.ok (.int z.length), μ) else none
  | q => match qv q ρ μ with
    | some ds => some (Res.ok (D.int ds.length), μ)
    | none => none) = some (r, μ')) : (∃ z : Str, q = .val (.str z) ∧ z.length ≤ sizeLine ∧ r = .ok (.int z.length) ∧ μ' = μ) ∨ (∃ ds, qv q ρ μ = some ds ∧ r = .ok (.int ds.length) ∧ μ' = μ) := by
  have key : (match qv q ρ μ with
    | some ds => some (Res.ok (D.int ds.length), μ)
    | none => none) = some (r, μ') → (∃ ds, qv q ρ μ = some ds ∧ r = .ok (.int ds.length) ∧ μ' = μ) := by
    intro h
    cases e : qv q ρ μ with
    | none => rw [e] at h; cases h
    | some ds => rw [e] at h; cases h; exact ⟨ds, rfl, rfl, rfl⟩
  cases q with
  | own i => exact .inr (key h)
  | val d =>
    cases d with
    | str z =>
      have h' : (if z.length ≤ sizeLine then some (Res.ok (D.int z.length), μ) else none) = some (r, μ') := h
      by_cases q : z.length ≤ sizeLine
      · rw [if_pos q] at h'
        cases h'
        exact .inl ⟨z, rfl, q, rfl, rfl⟩
      · rw [if_neg q] at h'
        cases h'
    | _ => exact .inr (key h)
theorem de_len {p : Pos} (h : DQ X W a tq) (hm : X.mg "len" = none) (hg : Gl X "len" := by rfl) (he : starEach [a] X.env = [(false, eval a X.env)] := by rfl) (hpl : (backTo pos (starEach [] X.env)).any (·.1) = false := by rfl) : DE X W (.Call (.Name "len" p) [a] [] pos) (dLen tq) := by
  obtain ⟨te, p, r⟩ := h.ex
  refine ⟨_, pe_callB (CallR.or call_len_seq call_len_str) hg hm PySem.boot_len (pa_cons p pa_nil he) (he := he) (hpl := hpl), fun c hc ρ μ g σ H Q rr μ' s hh hx k => ?_⟩
  refine (r c hc).then_ s hh hx fun q μ1 h1 v1 H1 g1 l1 s1 r1 hx1 => ?_
  rcases dLen_some h1 with ⟨z, rfl, h2, rfl, rfl⟩ | ⟨ds, h2, rfl, rfl⟩
  · have e : v1 = .str z := rep_str (show GRep c.K g1 (.str z) v1 from r1)
    exact .inr ⟨z, by rw [e], h2, k _ rfl _ H1 g1 l1 s1 (flat_rep rfl)⟩
  · obtain ⟨a, xs, rfl, h3, h4⟩ := s1.seq r1 h2
    refine .inl ⟨a, xs, rfl, by rw [← hc]; exact h3, ?_⟩
    have e := k _ rfl (.int xs.length) H1 g1 l1 s1 (by rw [h4.length]; exact flat_rep rfl)
    exact e
def dIx (t : TQ) (u : TD) : TD := fun ρ => M.bind (t ρ) fun q => M.bind (u ρ) fun i μ => match i with
  | .int i => match q with
    | .val (.str z) => if z.length ≤ sizeLine then match atI z.cps.toList i with
      | some ch => some (.ok (.str ⟨#[ch]⟩), μ)
      | none => none else none
    | q => match qv q ρ μ with
      | some ds => match atI ds i with
        | some d => some (.ok d, μ)
        | none => none
      | none => none
  | _ => none
theorem reps_atI {K : Fg} {ads : List Addr} {B : Hp} {ds : List D} {xs : List V} {i : Int} {d : D} (h : Reps K ads B ds xs) (e : atI ds i = some d) : ∃ x, atI xs i = some x ∧ Rep K ads B d x := by
  unfold atI at e ⊢
  rw [← h.length]
  cases q : ixN ds.length i with
  | none => rw [q] at e; cases e
  | some j =>
    rw [q] at e
    exact h.get e
theorem de_ix (h : DQ X W a tq) (hb : DE X W b tb) (hs : PlainIx b := by intro _ _; rfl) : DE X W (.Subscript a b pos) (dIx tq tb) := by
  obtain ⟨te, p, r⟩ := h.ex
  obtain ⟨ue, pu, ru⟩ := hb.ex
  refine ⟨_, pe_ix ix_seq p pu hs, fun c hc ρ μ g σ H Q rr μ' s hh hx k => ?_⟩
  refine (r c hc).then_ s hh hx fun q μ1 h1 v1 H1 g1 l1 s1 r1 hx1 => ?_
  refine (ru c hc).then_ s1 h1 hx1 fun y μ2 h2 v2 H2 g2 l2 s2 r2 hx2 => ?_
  have r1' := r1.le l2
  cases y with
  | int i =>
    have e2 := rep_int r2
    subst e2
    have key : (match qv q ρ μ2 with
      | some ds => match atI ds i with
        | some d => some (Res.ok d, μ2)
        | none => none
      | none => none) = some (rr, μ') → rIx X.K v1 (.int i) H2 Q := by
      intro h2
      cases e3 : qv q ρ μ2 with
      | none => rw [e3] at h2; cases h2
      | some ds =>
        rw [e3] at h2
        have h2' : (match atI ds i with
          | some d => some (Res.ok d, μ2)
          | none => none) = some (rr, μ') := h2
        cases e4 : atI ds i with
        | none => rw [e4] at h2'; cases h2'
        | some d =>
          rw [e4] at h2'
          cases h2'
          obtain ⟨p, xs, rfl, h3, h4⟩ := s2.seq r1' e3
          obtain ⟨x, h5, h6⟩ := reps_atI h4 e4
          have fin := k d rfl x H2 g2 (l1.trans l2) s2 h6
          rw [hc] at h3
          rcases h3 with h3 | h3
          · exact .inl ⟨p, xs, i, x, rfl, rfl, h3, h5, fin⟩
          · exact .inr (.inl ⟨p, xs, i, x, rfl, rfl, h3, h5, fin⟩)
    cases q with
    | own j => exact key h2
    | val d =>
      cases d with
      | str z =>
        have h2' : (if z.length ≤ sizeLine then match atI z.cps.toList i with
          | some ch => some (Res.ok (D.str ⟨#[ch]⟩), μ2)
          | none => none else none) = some (rr, μ') := h2
        by_cases q : z.length ≤ sizeLine
        · rw [if_pos q] at h2'
          cases e4 : atI z.cps.toList i with
          | none => rw [e4] at h2'; cases h2'
          | some ch =>
            rw [e4] at h2'
            cases h2'
            exact .inr (.inr ⟨z, i, ch, rep_str (show GRep c.K g2 (.str z) v1 from r1'), rfl, q, e4, k _ rfl _ H2 g2 (l1.trans l2) s2 (flat_rep rfl)⟩)
        · rw [if_neg q] at h2'
          cases h2'
      | _ => exact key h2
  | _ => cases h2
def flats : List D → Option (List V)
  | [] => some []
  | d :: ds => match d.flat, flats ds with
    | some v, some vs => some (v :: vs)
    | _, _ => none
theorem flats_rep {K : Fg} {ads : List Addr} {B : Hp} : ∀ {ds : List D} {vs xs : List V}, flats ds = some vs → Reps K ads B ds xs → xs = vs
  | [], vs, xs, h, r => by cases h; exact reps_nil_inv r
  | d :: ds, vs, xs, h, r => by
    obtain ⟨x, t, rfl, hx, ht⟩ := reps_cons_inv r
    unfold flats at h
    cases e1 : d.flat with
    | none => rw [e1] at h; cases h
    | some v =>
      cases e2 : flats ds with
      | none => rw [e1, e2] at h; cases h
      | some vs' =>
        rw [e1, e2] at h
        cases h
        rw [rep_flat e1 hx, flats_rep e2 ht]
def inD (x : D) (ds : List D) : Option Bool := match x.flat, flats ds with
  | some v, some vs => if flatV v = true ∧ vs.all flatV = true then some (inV v vs) else none
  | _, _ => none
theorem inD_some {x : D} {ds : List D} {b : Bool} (h : inD x ds = some b) : ∃ v vs, x.flat = some v ∧ flats ds = some vs ∧ flatV v = true ∧ vs.all flatV = true ∧ b = inV v vs := by
  unfold inD at h
  cases e1 : x.flat with
  | none => rw [e1] at h; cases h
  | some v =>
    cases e2 : flats ds with
    | none => rw [e1, e2] at h; cases h
    | some vs =>
      rw [e1, e2] at h
      have h' : (if flatV v = true ∧ vs.all flatV = true then some (inV v vs) else none) = some b := h
      by_cases q : flatV v = true ∧ vs.all flatV = true
      · rw [if_pos q] at h'
        cases h'
        exact ⟨v, vs, rfl, rfl, q.1, q.2, rfl⟩
      · rw [if_neg q] at h'
        cases h'
def dIn (neg : Bool) (t : TD) (u : TQ) : TD := fun ρ => M.bind (t ρ) fun x => M.bind (u ρ) fun q μ => match qv q ρ μ with
  | some ds => match inD x ds with
    | some b => some (.ok (.bl (if neg then !b else b)), μ)
    | none => none
  | none => none
theorem re_in {c : Ct} {tea teb : TE} {neg : Bool} (ha : RE c W tea ta) (hb : RQ c W teb tq) : RE c W (tOp (rIn c.K neg) tea teb) (dIn neg ta tq) := fun ρ μ g σ H Q rr μ' s hh hx k => by
  refine ha.then_ s hh hx fun x μ1 h1 v1 H1 g1 l1 s1 r1 hx1 => ?_
  refine hb.then_ s1 h1 hx1 fun q μ2 h2 v2 H2 g2 l2 s2 r2 hx2 => ?_
  cases e3 : qv q ρ μ2 with
  | none => rw [e3] at h2; cases h2
  | some ds =>
    rw [e3] at h2
    have h2' : (match inD x ds with
      | some b => some (Res.ok (D.bl (if neg then !b else b)), μ2)
      | none => none) = some (rr, μ') := h2
    cases e4 : inD x ds with
    | none => rw [e4] at h2'; cases h2'
    | some b =>
      rw [e4] at h2'
      cases h2'
      obtain ⟨v, vs, f1, f2, f3, f4, rfl⟩ := inD_some e4
      obtain ⟨p, xs, rfl, h3, h4⟩ := s2.seq r2 e3
      have e5 := rep_flat f1 r1
      have e6 := flats_rep f2 h4
      subst e5 e6
      exact ⟨p, xs, rfl, h3, f3, f4, k _ rfl _ H2 g2 (l1.trans l2) s2 (flat_rep rfl)⟩
theorem de_in (ha : DE X W a ta) (hb : DQ X W b tq) (hm : behindInMarks .In b = false := by first | rfl | with_unfolding_all rfl) : DE X W (.Compare a [.In] [b] pos) (dIn false ta tq) := by
  obtain ⟨tea, pa, ra⟩ := ha.ex
  obtain ⟨teb, pb, rb⟩ := hb.ex
  exact ⟨_, pe_cmpR op_in_seq pa pb hm, fun c hc => by rw [← hc]; exact re_in (ra c hc) (rb c hc)⟩
theorem dt_in (ha : DE X W a ta) (hb : DQ X W b tq) (hm : behindInMarks .In b = false := by first | rfl | with_unfolding_all rfl) : DT X W (.Compare a [.In] [b] pos) (dTest (dIn false ta tq)) := by
  obtain ⟨tea, pa, ra⟩ := ha.ex
  obtain ⟨teb, pb, rb⟩ := hb.ex
  exact ⟨_, pt_cmpR op_in_seq pa pb hm, fun c hc => by rw [← hc]; exact rt_test (re_in (ra c hc) (rb c hc))⟩
theorem dt_notIn (ha : DE X W a ta) (hb : DQ X W b tq) (hm : behindInMarks .NotIn b = false := by first | rfl | with_unfolding_all rfl) : DT X W (.Compare a [.NotIn] [b] pos) (dTest (dIn true ta tq)) := by
  obtain ⟨tea, pa, ra⟩ := ha.ex
  obtain ⟨teb, pb, rb⟩ := hb.ex
  exact ⟨_, pt_cmpR op_notIn_seq pa pb hm, fun c hc => by rw [← hc]; exact rt_test (re_in (ra c hc) (rb c hc))⟩
def QV.isK : QV → Bool
  | .val (.kt _) => true
  | _ => false
def dTupOf (t : TQ) : TD := fun ρ => M.bind (t ρ) fun q μ => match qv q ρ μ with
  | some ds => some (.ok (if q.isK = true then .kt ds else .tup ds), μ)
  | none => none
theorem qv_bind {α : Type} {f : List D → Option α} {o : Option (List D)} {r : α} (h : (match o with
  | some ds => f ds
  | none => none) = some r) : ∃ ds, o = some ds ∧ f ds = some r := by
  cases o with
  | none => cases h
  | some ds => exact ⟨ds, rfl, h⟩
theorem de_tupOf {p : Pos} (h : DQ X W a tq) (hm : X.mg "tuple" = none) (hg : Gl X "tuple" := by rfl) (he : starEach [a] X.env = [(false, eval a X.env)] := by rfl) (hpl : (backTo pos (starEach [] X.env)).any (·.1) = false := by rfl) : DE X W (.Call (.Name "tuple" p) [a] [] pos) (dTupOf tq) := by
  obtain ⟨te, p, r⟩ := h.ex
  refine ⟨_, pe_callTy call_tuple_of hg hm (by decide +kernel) (pa_cons p pa_nil he) (he := he) (hpl := hpl), fun c hc ρ μ g σ H Q rr μ' s hh hx k => ?_⟩
  refine (r c hc).then_ s hh hx fun q μ1 h1 v1 H1 g1 l1 s1 r1 hx1 => ?_
  obtain ⟨ds, h2, h3⟩ := qv_bind h1
  cases h3
  rcases s1.seqLT r1 h2 with ⟨a, xs, rfl, h3, h4⟩ | ⟨rfl | rfl, a, xs, rfl, h3, h4⟩
  · rw [hc] at h3
    refine ⟨a, xs, rfl, .inl ⟨h3, fun p hp => ?_⟩⟩
    refine k _ rfl _ _ (g1.addB p (.tup xs)) (l1.trans (s1.leB hp)) (s1.addB hp) ?_
    by_cases z : q.isK = true
    · rw [if_pos z]
      unfold GRep Rep
      exact ⟨p, xs, rfl, SqT.of upd_same, (s1.leB hp).reps h4⟩
    · rw [if_neg z]
      unfold GRep Rep
      exact ⟨p, xs, rfl, upd_same, (s1.leB hp).reps h4⟩
  · rw [hc] at h3
    exact ⟨a, xs, rfl, .inr ⟨h3, k _ rfl _ H1 g1 l1 s1 r1⟩⟩
  · rw [hc] at h3
    exact ⟨a, xs, rfl, .inr ⟨h3, k _ rfl _ H1 g1 l1 s1 r1⟩⟩
def dLstOf (t : TQ) : TL := fun ρ => M.bind (t ρ) fun q μ => match qv q ρ μ with
  | some ds => some (.ok ds, μ)
  | none => none
theorem df_lstOf {p : Pos} (h : DQ X W a tq) (hm : X.mg "list" = none) (hg : Gl X "list" := by rfl) (he : starEach [a] X.env = [(false, eval a X.env)] := by rfl) (hpl : (backTo pos (starEach [] X.env)).any (·.1) = false := by rfl) : DF X W (.Call (.Name "list" p) [a] [] pos) (dLstOf tq) := by
  obtain ⟨te, p, r⟩ := h.ex
  refine ⟨_, pe_callTy call_list_of hg hm (by decide +kernel) (pa_cons p pa_nil he) (he := he) (hpl := hpl), fun c hc ρ μ g σ H Q rr μ' s hh hx k => ?_⟩
  refine (r c hc).then_ s hh hx fun q μ1 h1 v1 H1 g1 l1 s1 r1 hx1 => ?_
  obtain ⟨ds, h2, h3⟩ := qv_bind h1
  cases h3
  obtain ⟨a, xs, rfl, h3, h4⟩ := s1.seq r1 h2
  rw [hc] at h3
  exact ⟨a, xs, rfl, h3, fun p hp => k _ rfl p xs _ _ (l1.trans (le_own1 g1 p 0)) (s1.tmp hp) ⟨own1_at _ _ _, s1.freshT hp⟩ upd_same ((le_own1 _ _ _).reps h4)⟩
def dMin2 (t u : TD) : TD := fun ρ => M.bind (t ρ) fun x => M.bind (u ρ) fun y => match x, y with
  | .int i, .int j => M.ret (.int (if j < i then j else i))
  | _, _ => M.stuck
def dMax2 (t u : TD) : TD := fun ρ => M.bind (t ρ) fun x => M.bind (u ρ) fun y => match x, y with
  | .int i, .int j => M.ret (.int (if j > i then j else i))
  | _, _ => M.stuck
theorem de_min2 {p : Pos} (ha : DE X W a ta) (hb : DE X W b tb) (hcm : X.calm = true) (hm : X.mg "min" = none) (hg : Gl X "min" := by rfl) (he : starEach [a, b] X.env = (false, eval a X.env) :: starEach [b] X.env := by rfl) (he2 : starEach [b] X.env = [(false, eval b X.env)] := by rfl) (hpl : (backTo pos (starEach [b] X.env)).any (·.1) = false := by rfl) : DE X W (.Call (.Name "min" p) [a, b] [] pos) (dMin2 ta tb) := by
  obtain ⟨te, p, r⟩ := ha.ex
  obtain ⟨ue, pu, ru⟩ := hb.ex
  refine ⟨_, pe_callB (call_min2 hcm) hg hm (by decide +kernel) (pa_cons p (pa_cons pu pa_nil he2) he) (he := he) (hpl := hpl), fun c hc ρ μ g σ H Q rr μ' s hh hx k => ?_⟩
  refine (r c hc).then_ s hh hx fun x μ1 h1 v1 H1 g1 l1 s1 r1 hx1 => ?_
  refine (ru c hc).then_ s1 h1 hx1 fun y μ2 h2 v2 H2 g2 l2 s2 r2 hx2 => ?_
  cases x <;> cases y <;> first | (cases h2; done) | skip
  obtain ⟨rfl, rfl⟩ := ret_some h2
  have e1 := rep_int r1
  have e2 := rep_int r2
  subst e1 e2
  exact ⟨_, _, rfl, k _ rfl _ H2 g2 (l1.trans l2) s2 (flat_rep rfl)⟩
def dInt (t : TD) : TD := fun ρ => M.bind (t ρ) fun x => match x with
  | .int i => M.ret (.int i)
  | .bl b => M.ret (.int (if b then 1 else 0))
  | _ => M.stuck
theorem de_intOf {p : Pos} (ha : DE X W a ta) (hm : X.mg "int" = none) (hg : Gl X "int" := by rfl) (he : starEach [a] X.env = [(false, eval a X.env)] := by rfl) (hpl : (backTo pos (starEach [] X.env)).any (·.1) = false := by rfl) : DE X W (.Call (.Name "int" p) [a] [] pos) (dInt ta) := by
  obtain ⟨te, p, r⟩ := ha.ex
  refine ⟨_, pe_callTy call_int1 hg hm (by decide +kernel) (pa_cons p pa_nil he) (he := he) (hpl := hpl), fun c hc ρ μ g σ H Q rr μ' s hh hx k => ?_⟩
  refine (r c hc).then_ s hh hx fun x μ1 h1 v1 H1 g1 l1 s1 r1 hx1 => ?_
  cases x with
  | int i =>
    obtain ⟨rfl, rfl⟩ := ret_some h1
    exact .inl ⟨i, by rw [rep_int r1], k _ rfl _ H1 g1 l1 s1 (flat_rep rfl)⟩
  | bl b =>
    obtain ⟨rfl, rfl⟩ := ret_some h1
    exact .inr ⟨b, by rw [rep_flat (d := .bl b) rfl r1], k _ rfl _ H1 g1 l1 s1 (flat_rep rfl)⟩
  | _ => cases h1
def dNeg (t : TD) : TD := fun ρ => M.bind (t ρ) fun x => match x with
  | .int i => M.ret (.int (-i))
  | _ => M.stuck
theorem de_neg (ha : DE X W a ta) : DE X W (.UnaryOp .USub a pos) (dNeg ta) := by
  obtain ⟨te, p, r⟩ := ha.ex
  refine ⟨_, pe_un un_neg p, fun c hc ρ μ g σ H Q rr μ' s hh hx k => ?_⟩
  refine (r c hc).then_ s hh hx fun x μ1 h1 v1 H1 g1 l1 s1 r1 hx1 => ?_
  cases x with
  | int i =>
    obtain ⟨rfl, rfl⟩ := ret_some h1
    exact ⟨i, rep_int r1, k _ rfl _ H1 g1 l1 s1 (flat_rep rfl)⟩
  | _ => cases h1
def dsSetIx (i : Nat) (t : TD) (u : TD) : TO' := fun ρ μ => match ρ[i]? with
  | some (some (.ol ds)) => dsE t (fun d => dsE u fun k ρ μ => match k with
    | .int k => match ixN ds.length k with
      | some j => some (.nx (ρ.set i (some (.ol (ds.set j d)))), μ)
      | none => none
    | _ => none) ρ μ
  | _ => none
end
end DL

set_option Elab.async false
set_option linter.all false
set_option maxRecDepth 100000
set_option maxHeartbeats 4000000
set_option autoImplicit false
namespace DL
open PySem PySem.Spec L2
def G.amb1 (g : G) (p : Addr) : G := { ads := g.ads ++ [p], B := g.B, T := g.T, O := fun a => if a = p then some (.inr g.ads.length) else g.O a }
section
variable {c : Ct} {μ : Mu} {g g' : G} {σ : L2.St} {H H' : Hp} {ρ : Rho} {p : Addr}
theorem le_amb1 (g : G) (p : Addr) : Le g (g.amb1 p) := ⟨Same.refl _, fun k x e => by
  show (g.ads ++ [p])[k]? = some x
  rw [List.getElem?_append_left (List.getElem?_eq_some_iff.mp e).1]
  exact e, fun _ _ e => e⟩
theorem SH.amb1 (h : SH c μ g H) {j : Nat} (hp : g.O p = some (.inl j)) (hT : g.T p = none) {m : MO} (hm : RMO c.K (g.amb1 p) H p m) : SH c (μ ++ [m]) (g.amb1 p) H where
  sub := h.sub
  own := fun a e => by
    by_cases z : a = p
    · rw [z]; exact h.own p (by rw [hp]; exact fun z => by cases z)
    · have e' : (if a = p then some (Sum.inr g.ads.length) else g.O a) ≠ none := e
      rw [if_neg z] at e'
      exact h.own a e'
  ownNew := fun a i e => by
    have e' : (if a = p then some (Sum.inr g.ads.length) else g.O a) = some (.inl i) := e
    by_cases z : a = p
    · rw [if_pos z] at e'; cases e'
    · rw [if_neg z] at e'
      exact h.ownNew a i e'
  ownAt := fun a e => by
    by_cases z : a = p
    · rw [z]; exact h.ownAt p (by rw [hp]; exact fun z => by cases z)
    · have e' : (if a = p then some (Sum.inr g.ads.length) else g.O a) ≠ none := e
      rw [if_neg z] at e'
      exact h.ownAt a e'
  alen := by
    show (g.ads ++ [p]).length = (μ ++ [m]).length
    rw [List.length_append, List.length_append, h.alen]
    rfl
  amb := fun k a m' e1 e2 => by
    have e1' : (g.ads ++ [p])[k]? = some a := e1
    by_cases q : k < g.ads.length
    · rw [List.getElem?_append_left q] at e1'
      rw [List.getElem?_append_left (by rw [← h.alen]; exact q)] at e2
      obtain ⟨q1, q2⟩ := h.amb k a m' e1' e2
      refine ⟨q1.imp id fun q1 => ?_, q2.step (le_amb1 g p) rfl⟩
      show (if a = p then some (Sum.inr g.ads.length) else g.O a) = _
      rw [if_neg (h.ambNeO hp e1' e2)]; exact q1
    · rw [List.getElem?_append_right (by omega)] at e1'
      rw [List.getElem?_append_right (by rw [← h.alen]; omega)] at e2
      have hk : k - g.ads.length = 0 := by
        have := (List.getElem?_eq_some_iff.mp e1').1
        simp at this
        omega
      rw [hk] at e1'
      rw [← h.alen, hk] at e2
      cases e1'
      cases e2
      refine ⟨.inr ?_, hm⟩
      show (if p = p then some (Sum.inr g.ads.length) else g.O p) = _
      rw [if_pos rfl, show k = g.ads.length by omega]
  old := h.old
  oldT := h.oldT
  newB := h.newB
  b0 := h.b0
  a0 := fun k a e => (le_amb1 g p).a k a (h.a0 k a e)
  aNew := fun a e => by
    rcases List.mem_append.mp e with e | e
    · exact h.aNew a e
    · right
      rw [List.mem_singleton.mp e]
      exact h.ownNew p j hp
  tmpT := fun a u e => by
    obtain ⟨q1, q2⟩ := h.tmpT a u e
    refine ⟨?_, q2⟩
    show (if a = p then some (Sum.inr g.ads.length) else g.O a) = _
    have e' : g.T a = some u := e
    rw [if_neg (fun z => by rw [z, hT] at e'; cases e')]; exact q1
theorem SR.amb1 (h : SR c ρ μ g σ H) (hp : g.O p = some (.inl 0)) (hT : g.T p = none) {m : MO} (hm : RMO c.K (g.amb1 p) H p m) : SR c ρ (μ ++ [m]) (g.amb1 p) σ H :=
  { h.toSH.amb1 hp hT hm with
    slen := h.slen
    slot := fun i s x e1 e2 => (h.slot i s x e1 e2).step (le_amb1 g p) fun q e => by
      refine ⟨?_, rfl⟩
      show (if q = p then some (Sum.inr g.ads.length) else g.O q) = _
      rw [if_neg (fun z => by rw [z, hp] at e; cases e)]; exact e }
theorem SH.wrtA (h : SH c μ g H) {k : Nat} {a : Addr} {m m' : MO} (e1 : g.ads[k]? = some a) (e2 : μ[k]? = some m) (ho : g.O a = some (.inr k)) {o : HO} (hm : RMO c.K g (upd H a o) a m') : SH c (μ.set k m') g (upd H a o) where
  sub := fun b u e => by
    rw [upd_ne (fun z => by rw [z, h.own a (by rw [ho]; exact fun z => by cases z)] at e; cases e)]
    exact h.sub b u e
  own := h.own
  ownNew := h.ownNew
  ownAt := fun b e => by
    by_cases z : b = a
    · rw [z]; exact ⟨o, upd_same⟩
    · rw [upd_ne z]; exact h.ownAt b e
  alen := by rw [List.length_set]; exact h.alen
  amb := fun k' b m'' q1 q2 => by
    by_cases z : k = k'
    · subst z
      rw [e1] at q1
      cases q1
      rw [List.getElem?_set, if_pos rfl, if_pos (List.getElem?_eq_some_iff.mp e2).1] at q2
      cases q2
      exact ⟨.inr ho, hm⟩
    · rw [List.getElem?_set_ne z] at q2
      obtain ⟨r1, r2⟩ := h.amb k' b m'' q1 q2
      refine ⟨r1, r2.step (Le.refl g) (upd_ne fun w => ?_)⟩
      subst w
      rcases r1 with rfl | r1
      · obtain ⟨u, r2⟩ := r2
        rw [h.own b (by rw [ho]; exact fun z => by cases z)] at r2
        cases r2
      · rw [ho] at r1
        cases r1
        exact z rfl
  old := fun b u e n => by
    refine (upd_ne fun z => ?_).trans (h.old b u e n)
    subst z
    rcases h.aNew b (List.mem_of_getElem? e1) with w | w
    · exact n w
    · rw [w] at e; cases e
  oldT := fun b u e => by
    by_cases z : b = a
    · rw [z]; exact ⟨o, upd_same⟩
    · rw [upd_ne z]; exact h.oldT b u e
  newB := h.newB
  b0 := h.b0
  a0 := h.a0
  aNew := h.aNew
  tmpT := fun b u e => by
    obtain ⟨q1, q2⟩ := h.tmpT b u e
    exact ⟨q1, by rw [upd_ne (fun z => by rw [z, ho] at q1; cases q1)]; exact q2⟩
theorem SR.wrtA (h : SR c ρ μ g σ H) {k : Nat} {a : Addr} {m m' : MO} (e1 : g.ads[k]? = some a) (e2 : μ[k]? = some m) (ho : g.O a = some (.inr k)) {o : HO} (hm : RMO c.K g (upd H a o) a m') : SR c ρ (μ.set k m') g σ (upd H a o) :=
  { h.toSH.wrtA e1 e2 ho hm with
    slen := h.slen
    slot := fun j s x q1 q2 => (h.slot j s x q1 q2).step (Le.refl g) fun q e => ⟨e, upd_ne (fun w => by rw [w, ho] at e; cases e)⟩ }
theorem SH.fzA (h : SH c μ g H) {k : Nat} {a : Addr} {m : MO} (e1 : g.ads[k]? = some a) (e2 : μ[k]? = some m) (ho : g.O a = some (.inr k)) {o : HO} (hH : H a = some o) : Le g (g.fz a o) ∧ SH c (μ.set k .dead) (g.fz a o) H := by
  have hB : g.B a = none := h.own a (by rw [ho]; exact fun z => by cases z)
  have le : Le g (g.fz a o) := ⟨fun b u e => by
    show upd g.B a o b = some u
    rw [upd_ne (fun z => by rw [z, hB] at e; cases e)]
    exact e, fun _ _ e => e, fun _ _ e => e⟩
  refine ⟨le, ?_⟩
  exact {
    sub := fun b u e => by
      have e' : upd g.B a o b = some u := e
      by_cases z : b = a
      · subst z
        rw [upd_same] at e'
        rw [hH, e']
      · rw [upd_ne z] at e'
        exact h.sub b u e'
    own := fun b e => by
      have e' : (if b = a then none else g.O b) ≠ none := e
      by_cases z : b = a
      · rw [if_pos z] at e'; exact absurd rfl e'
      · rw [if_neg z] at e'
        show upd g.B a o b = none
        rw [upd_ne z]; exact h.own b e'
    ownNew := fun b j e => by
      have e' : (if b = a then none else g.O b) = some (.inl j) := e
      by_cases z : b = a
      · rw [if_pos z] at e'; cases e'
      · rw [if_neg z] at e'; exact h.ownNew b j e'
    ownAt := fun b e => by
      have e' : (if b = a then none else g.O b) ≠ none := e
      by_cases z : b = a
      · rw [if_pos z] at e'; exact absurd rfl e'
      · rw [if_neg z] at e'; exact h.ownAt b e'
    alen := by rw [List.length_set]; exact h.alen
    amb := fun k' b m'' q1 q2 => by
      by_cases z : k = k'
      · subst z
        have q1' : g.ads[k]? = some b := q1
        rw [e1] at q1'
        cases q1'
        rw [List.getElem?_set, if_pos rfl, if_pos (List.getElem?_eq_some_iff.mp e2).1] at q2
        cases q2
        exact ⟨.inl rfl, o, upd_same⟩
      · rw [List.getElem?_set_ne z] at q2
        obtain ⟨r1, r2⟩ := h.amb k' b m'' q1 q2
        refine ⟨r1.imp id fun r1 => ?_, r2.step le rfl⟩
        show (if b = a then none else g.O b) = _
        rw [if_neg (fun w => by rw [w, ho] at r1; cases r1; exact z rfl)]; exact r1
    old := h.old
    oldT := h.oldT
    newB := fun b u e => by
      have e' : upd g.B a o b = some u := e
      by_cases z : b = a
      · right
        rw [z]
        rcases h.aNew a (List.mem_of_getElem? e1) with w | w
        · exact .inr w
        · exact .inl w
      · rw [upd_ne z] at e'
        exact h.newB b u e'
    b0 := fun b u e => le.b b u (h.b0 b u e)
    a0 := h.a0
    aNew := h.aNew
    tmpT := fun b u e => by
      obtain ⟨q1, q2⟩ := h.tmpT b u e
      refine ⟨?_, q2⟩
      show (if b = a then none else g.O b) = _
      rw [if_neg (fun z => by rw [z, ho] at q1; cases q1)]; exact q1 }
theorem SR.fzA (h : SR c ρ μ g σ H) {k : Nat} {a : Addr} {m : MO} (e1 : g.ads[k]? = some a) (e2 : μ[k]? = some m) (ho : g.O a = some (.inr k)) {o : HO} (hH : H a = some o) : SR c ρ (μ.set k .dead) (g.fz a o) σ H :=
  { (h.toSH.fzA e1 e2 ho hH).2 with
    slen := h.slen
    slot := fun j s x q1 q2 => (h.slot j s x q1 q2).step (h.toSH.fzA e1 e2 ho hH).1 fun q e => by
      refine ⟨?_, rfl⟩
      show (if q = a then none else g.O q) = _
      rw [if_neg (fun w => by rw [w, ho] at e; cases e)]; exact e }
theorem SR.reSh (h : SR c ρ μ g σ H) {i : Nat} {v : V} (hσ : σ[i]? = some (some v)) {d : D} (r : GRep c.K g d v) : SR c (ρ.set i (some (.sh d))) μ g σ H :=
  { h.toSH with
    slen := by rw [List.length_set]; exact h.slen
    slot := fun j s x e1 e2 => by
      by_cases z : i = j
      · subst z
        rw [hσ] at e2
        cases e2
        rw [List.getElem?_set, if_pos rfl] at e1
        by_cases q : i < ρ.length
        · rw [if_pos q] at e1
          cases e1
          exact ⟨v, rfl, r⟩
        · rw [if_neg q] at e1
          cases e1
      · rw [List.getElem?_set_ne z] at e1
        exact h.slot j s x e1 e2 }
end
section
variable {X : Cx} {W : WX} {a b e o : Expr} {ta tb te' to' : TD} {tl : TL} {pos : Pos} {rest : List Stmt} {u : TO'}
def dAmb (t : TL) : TD := fun ρ => M.bind (t ρ) fun ds μ => some (.ok (.mref μ.length), μ ++ [.lst ds])
theorem de_amb (h : DF X W a tl) : DE X W a (dAmb tl) := by
  obtain ⟨te, p, r⟩ := h.ex
  refine ⟨te, p, fun c hc ρ μ g σ H Q rr μ' s hh hx k => ?_⟩
  refine (r c hc).then_ s hh hx fun ds μ1 h1 p xs H1 g1 l1 s1 ho hp r1 hx1 => ?_
  cases h1
  refine k _ rfl _ H1 (g1.amb1 p) (l1.trans (le_amb1 _ _)) (s1.amb1 (m := .lst ds) ho.1 ho.2 ⟨xs, hp, (le_amb1 _ _).reps r1⟩) ?_
  unfold GRep Rep
  refine ⟨p, ?_, rfl⟩
  show (g1.ads ++ [p])[μ1.length]? = some p
  rw [← s1.alen, List.getElem?_append_right (Nat.le_refl _), Nat.sub_self]
  rfl
def dsAmb (i : Nat) : TO' := fun ρ μ => match ρ[i]? with
  | some (some (.ol ds)) => some (.nx (ρ.set i (some (.sh (.mref μ.length)))), μ ++ [.lst ds])
  | _ => none
theorem gh_amb (i : Nat) : ∀ c : Ct, c.K = X.K → ∀ ρ μ g σ H o μ', SR c ρ μ g σ H → dsAmb i ρ μ = some (o, μ') → ∃ ρ' g', o = .nx ρ' ∧ Le g g' ∧ SR c ρ' μ' g' σ H := fun c hc ρ μ g σ H o μ' s h => by
  obtain ⟨ds, e, h⟩ := own_some h
  cases h
  obtain ⟨x, hx, p, xs, rfl, h2, h3, h4⟩ := s.at e
  refine ⟨_, g.amb1 p, rfl, le_amb1 _ _, ?_⟩
  have e2 : (g.amb1 p).ads[μ.length]? = some p := by
    show (g.ads ++ [p])[μ.length]? = some p
    rw [← s.alen, List.getElem?_append_right (Nat.le_refl _), Nat.sub_self]
    rfl
  exact { s.toSH.amb1 (m := .lst ds) h2 (s.toSH.noT h2) ⟨xs, h3, (le_amb1 _ _).reps h4⟩ with
    slen := by rw [List.length_set]; exact s.slen
    slot := fun j s' x' e1' e2' => by
      by_cases z : i = j
      · subst z
        rw [hx] at e2'
        cases e2'
        rw [List.getElem?_set, if_pos rfl] at e1'
        by_cases q : i < ρ.length
        · rw [if_pos q] at e1'
          cases e1'
          refine ⟨.ref p, rfl, ?_⟩
          unfold GRep Rep
          exact ⟨p, e2, rfl⟩
        · rw [if_neg q] at e1'
          cases e1'
      · rw [List.getElem?_set_ne z] at e1'
        refine (s.slot j s' x' e1' e2').step (le_amb1 _ _) fun q eq => ⟨?_, rfl⟩
        show (if q = p then some (Sum.inr g.ads.length) else g.O q) = _
        rw [if_neg (fun w => by rw [w, h2] at eq; cases eq; exact z rfl)]; exact eq }
theorem dss_amb (i : Nat) (h : DSs X W rest u) : DSs X W rest (dsSeq (dsAmb i) u) := dss_gh h (gh_amb i)
def dsFzM (i : Nat) : TO' := fun ρ μ => match ρ[i]? with
  | some (some (.sh (.mref k))) => match μ[k]? with
    | some (.lst ds) => some (.nx (ρ.set i (some (.sh (.lst ds)))), μ.set k .dead)
    | _ => none
  | _ => none
theorem dsFzM_some {i : Nat} {ρ : Rho} {μ μ' : Mu} {o : Out} (h : dsFzM i ρ μ = some (o, μ')) : ∃ k ds, ρ[i]? = some (some (.sh (.mref k))) ∧ μ[k]? = some (.lst ds) ∧ o = .nx (ρ.set i (some (.sh (.lst ds)))) ∧ μ' = μ.set k .dead := by
  unfold dsFzM at h
  split at h
  · rename_i k e1
    split at h
    · rename_i ds e2
      cases h
      exact ⟨k, ds, e1, e2, rfl, rfl⟩
    · cases h
  · cases h
theorem gh_fzM (i : Nat) : ∀ c : Ct, c.K = X.K → ∀ ρ μ g σ H o μ', SR c ρ μ g σ H → dsFzM i ρ μ = some (o, μ') → ∃ ρ' g', o = .nx ρ' ∧ Le g g' ∧ SR c ρ' μ' g' σ H := fun c hc ρ μ g σ H o μ' s h => by
  obtain ⟨k, ds, e1, e2, rfl, rfl⟩ := dsFzM_some h
  obtain ⟨x, hx, v, rfl, hv⟩ := s.at e1
  unfold GRep Rep at hv
  obtain ⟨a, ha, rfl⟩ := hv
  obtain ⟨q1, xs, q2, q3⟩ := s.amb k a _ ha e2
  rcases q1 with q1 | q1
  · cases q1
  have le := (s.toSH.fzA ha e2 q1 q2).1
  refine ⟨_, g.fz a (.lst xs), rfl, le, (s.fzA ha e2 q1 q2).reSh hx ?_⟩
  unfold GRep Rep
  exact ⟨a, xs, rfl, upd_same, le.reps q3⟩
theorem dss_fzM (i : Nat) (h : DSs X W rest u) : DSs X W rest (dsSeq (dsFzM i) u) := dss_gh h (gh_fzM i)
def muLst (d : D) (μ : Mu) : Option (Nat × List D) := match d with
  | .mref k => match μ[k]? with
    | some (.lst ds) => some (k, ds)
    | _ => none
  | _ => none
theorem muLst_some {d : D} {μ : Mu} {k : Nat} {ds : List D} (h : muLst d μ = some (k, ds)) : d = .mref k ∧ μ[k]? = some (.lst ds) := by
  unfold muLst at h
  split at h
  · split at h
    · rename_i e
      cases h
      exact ⟨rfl, e⟩
    · cases h
  · cases h
theorem SR.mu {c : Ct} {ρ : Rho} {μ : Mu} {g : G} {σ : L2.St} {H : Hp} (s : SR c ρ μ g σ H) {d : D} {v : V} {k : Nat} {ds : List D} (r : GRep c.K g d v) (h : muLst d μ = some (k, ds)) : ∃ a xs, v = .ref a ∧ g.ads[k]? = some a ∧ μ[k]? = some (.lst ds) ∧ g.O a = some (.inr k) ∧ H a = some (.lst xs) ∧ GReps c.K g ds xs := by
  obtain ⟨rfl, e⟩ := muLst_some h
  unfold GRep Rep at r
  obtain ⟨a, ha, rfl⟩ := r
  obtain ⟨q1, xs, q2, q3⟩ := s.amb k a _ ha e
  rcases q1 with q1 | q1
  · cases q1
  exact ⟨a, xs, rfl, ha, e, q1, q2, q3⟩
def dsAppM (to' te' : TD) : TO' := dsE to' fun d ρ μ => match muLst d μ with
  | some _ => dsE te' (fun y ρ μ => match muLst d μ with
    | some (k, ds) => if ds.length < sizeLine then some (.nx ρ, μ.set k (.lst (ds ++ [y]))) else none
    | none => none) ρ μ
  | none => none
theorem ds_appM {apos cpos : Pos} (ho : DE X W o to') (he : DE X W e te')
    (hpe : ∀ t1 t2, PE X o t1 → PE X e t2 → PE X (.Call (.Attribute o "append" apos) [e] [] cpos) (tBM X.K "list" rAppend t1 (tCons t2 tNil)) := by
      intro t1 t2 p1 p2; exact pe_bm PySem.F.plainAttrs_list PySem.F.slot_list_append PySem.F.type_list_append mt_append p1 (pa_cons p2 pa_nil))
    (hs : swapsWith (.Call (.Attribute o "append" apos) [e] [] cpos) none pos.line X.env = pure false := by rfl) :
    DS X W (.Expr (.Call (.Attribute o "append" apos) [e] [] cpos) pos) (dsAppM to' te') := by
  obtain ⟨t1, p1, r1⟩ := ho.ex
  obtain ⟨t2, p2, r2⟩ := he.ex
  refine ⟨_, ps_expr (hpe t1 t2 p1 p2) hs, fun c hc ρ μ g σ H D₀ out μ' s h k => ?_⟩
  refine (r1 c hc).stm s h k fun d μ1 h1 v H1 g1 l1 s1 rp k1 => ?_
  cases e0 : muLst d μ1 with
  | none => rw [e0] at h1; cases h1
  | some q =>
    obtain ⟨k0, ds0⟩ := q
    rw [e0] at h1
    obtain ⟨a0, xs0, rfl, _, _, _, hh0, _⟩ := s1.mu rp e0
    refine ⟨.inl ⟨rfl, xs0, SqL.of hh0⟩, ?_⟩
    refine (r2 c hc).stm s1 h1 k1 fun y μ2 h2 v2 H2 g2 l2 s2 rp2 k2 => ?_
    cases e1 : muLst d μ2 with
    | none => rw [e1] at h2; cases h2
    | some q =>
      obtain ⟨k', ds⟩ := q
      rw [e1] at h2
      have h2' : (if ds.length < sizeLine then some (Out.nx ρ, μ2.set k' (.lst (ds ++ [y]))) else none) = some (out, μ') := h2
      obtain ⟨a, xs, e3, ha, hμ, hO, hH, hr⟩ := s2.mu (l2.rep rp) e1
      cases e3
      by_cases z : ds.length < sizeLine
      · rw [if_pos z] at h2'
        cases h2'
        refine ⟨a0, xs, v2, rfl, rfl, hH, by rw [← hr.length]; exact z, ?_⟩
        exact k2 σ _ g2 (Le.refl _) (s2.wrtA (m' := .lst (ds ++ [y])) ha hμ hO ⟨_, upd_same, Reps.append hr (reps_cons rp2 reps_nil)⟩)
      · rw [if_neg z] at h2'
        cases h2'
def dsSetIxM (te' to' tb : TD) : TO' := dsE te' fun y => dsE to' fun d => dsE tb fun i ρ μ => match i with
  | .int i => match muLst d μ with
    | some (k, ds) => match ixN ds.length i with
      | some j => some (.nx ρ, μ.set k (.lst (ds.set j y)))
      | none => none
    | none => none
  | _ => none
theorem ds_setIxM {spos tpos : Pos} (he : DE X W e te') (ho : DE X W o to') (hb : DE X W b tb)
    (hps : ∀ {t1 t2 t3 : TE}, PE X e t1 → PE X o t2 → PE X b t3 → PS X (.Assign [.Subscript o b tpos] e spos) (tAsg t1 (L2.gSub t2 t3 rSetL)) := by
      intro t1 t2 t3 p q r; exact ps_asg p (pg_sub q r set_list)) :
    DS X W (.Assign [.Subscript o b tpos] e spos) (dsSetIxM te' to' tb) := by
  obtain ⟨t1, p1, r1⟩ := he.ex
  obtain ⟨t2, p2, r2⟩ := ho.ex
  obtain ⟨t3, p3, r3⟩ := hb.ex
  refine ⟨_, hps p1 p2 p3, fun c hc ρ μ g σ H D₀ out μ' s h k => ?_⟩
  refine (r1 c hc).stm s h k fun y μ1 h1 v1 H1 g1 l1 s1 rp1 k1 => ?_
  refine (r2 c hc).stm s1 h1 k1 fun d μ2 h2 v2 H2 g2 l2 s2 rp2 k2 => ?_
  refine (r3 c hc).stm s2 h2 k2 fun i μ3 h3 v3 H3 g3 l3 s3 rp3 k3 => ?_
  cases i with
  | int i =>
    have h3' : (match muLst d μ3 with
      | some (k, ds) => match ixN ds.length i with
        | some j => some (Out.nx ρ, μ3.set k (.lst (ds.set j y)))
        | none => none
      | none => none) = some (out, μ') := h3
    cases e1 : muLst d μ3 with
    | none => rw [e1] at h3'; cases h3'
    | some q =>
      obtain ⟨k', ds⟩ := q
      rw [e1] at h3'
      simp only at h3'
      cases e2 : ixN ds.length i with
      | none => rw [e2] at h3'; cases h3'
      | some j =>
        rw [e2] at h3'
        cases h3'
        obtain ⟨a, xs, rfl, ha, hμ, hO, hH, hr⟩ := s3.mu (l3.rep rp2) e1
        refine ⟨a, xs, i, j, rfl, rep_int rp3, hH, by rw [← hr.length]; exact e2, ?_⟩
        exact k3 σ _ g3 (Le.refl _) (s3.wrtA (m' := .lst (ds.set j y)) ha hμ hO ⟨_, upd_same, hr.set j ((l2.trans l3).rep rp1)⟩)
  | _ => cases h3
end
mutual
def D.low (n : Nat) : D → Bool
  | .mref k => decide (k < n)
  | .tup ds => D.lowAll n ds
  | .kt ds => D.lowAll n ds
  | .lst ds => D.lowAll n ds
  | .rd ds => D.lowAll n ds
  | .obj _ _ ds => D.lowAll n ds
  | .dk _ ds => D.lowAll n ds
  | _ => true
def D.lowAll (n : Nat) : List D → Bool
  | [] => true
  | d :: ds => D.low n d && D.lowAll n ds
end
def MO.low (n : Nat) : MO → Bool
  | .dead => true
  | .lst ds => D.lowAll n ds
  | .ins _ _ ds => D.lowAll n ds
  | .dk _ ds => D.lowAll n ds
  | .dt _ ds => D.lowAll n ds
section
variable {K : Fg} {ads : List Addr} {B : Hp} {n : Nat}
mutual
theorem below_rep : ∀ {d : D} {v : V}, Rep K ads B d v → d.low n = true → Rep K (ads.take n) B d v
  | .non, v, h, _ => by unfold Rep at *; exact h
  | .bl b, v, h, _ => by unfold Rep at *; exact h
  | .int i, v, h, _ => by unfold Rep at *; exact h
  | .str s, v, h, _ => by unfold Rep at *; exact h
  | .ref a, v, h, _ => by unfold Rep at *; exact h
  | .ty n, v, h, _ => by unfold Rep at *; exact h
  | .mref k, v, h, b => by
    unfold Rep at *
    unfold D.low at b
    obtain ⟨a, h1, h2⟩ := h
    exact ⟨a, by rw [List.getElem?_take_of_lt (of_decide_eq_true b)]; exact h1, h2⟩
  | .tup ds, v, h, b => by
    unfold Rep at *
    unfold D.low at b
    obtain ⟨a, xs, h1, h2, h3⟩ := h
    exact ⟨a, xs, h1, h2, belows_reps h3 b⟩
  | .kt ds, v, h, b => by
    unfold Rep at *
    unfold D.low at b
    obtain ⟨a, xs, h1, h2, h3⟩ := h
    exact ⟨a, xs, h1, h2, belows_reps h3 b⟩
  | .lst ds, v, h, b => by
    unfold Rep at *
    unfold D.low at b
    obtain ⟨a, xs, h1, h2, h3⟩ := h
    exact ⟨a, xs, h1, h2, belows_reps h3 b⟩
  | .rd ds, v, h, b => by
    unfold Rep at *
    unfold D.low at b
    obtain ⟨a, xs, h1, h2, h3⟩ := h
    exact ⟨a, xs, h1, h2, belows_reps h3 b⟩
  | .obj C ns ds, v, h, b => by
    unfold Rep at *
    unfold D.low at b
    obtain ⟨a, dx, xs, h1, h2, h4, h3⟩ := h
    exact ⟨a, dx, xs, h1, h2, h4, belows_reps h3 b⟩
  | .dk ks ds, v, h, b => by
    unfold Rep at *
    unfold D.low at b
    obtain ⟨a, xs, h1, h2, h4, h3⟩ := h
    exact ⟨a, xs, h1, h2, h4, belows_reps h3 b⟩
theorem belows_reps : ∀ {ds : List D} {xs : List V}, Reps K ads B ds xs → D.lowAll n ds = true → Reps K (ads.take n) B ds xs
  | [], xs, h, _ => by rw [reps_nil_inv h]; exact reps_nil
  | d :: ds, xs, h, b => by
    obtain ⟨x, r, rfl, hx, t⟩ := reps_cons_inv h
    unfold D.lowAll at b
    obtain ⟨b1, b2⟩ := Bool.and_eq_true_iff.mp b
    exact reps_cons (below_rep hx b1) (belows_reps t b2)
end
end
def G.cut (g : G) (n : Nat) : G := { ads := g.ads.take n, B := g.B, T := g.T, O := fun a => match g.O a with
  | some (.inr k) => if k < n then some (.inr k) else none
  | x => x }
theorem cut_O {g : G} {n : Nat} {a : Addr} {q : Sum Nat Nat} (h : (g.cut n).O a = some q) : g.O a = some q := by
  have h' : (match g.O a with
    | some (.inr k) => if k < n then some (Sum.inr k) else none
    | x => x) = some q := h
  cases e : g.O a with
  | none => rw [e] at h'; cases h'
  | some r =>
    rw [e] at h'
    cases r with
    | inl i => exact h'
    | inr k =>
      have h2 : (if k < n then some (Sum.inr k) else none) = some q := h'
      by_cases z : k < n
      · rw [if_pos z] at h2; exact h2
      · rw [if_neg z] at h2; cases h2
theorem cut_none {g : G} {n : Nat} {a : Addr} (h : g.O a = none) : (g.cut n).O a = none := by
  cases e : (g.cut n).O a with
  | none => rfl
  | some q =>
    rw [cut_O e] at h
    cases h
theorem cut_inl {g : G} {n : Nat} {a : Addr} {i : Nat} (h : g.O a = some (.inl i)) : (g.cut n).O a = some (.inl i) := by
  show (match g.O a with
    | some (.inr k) => if k < n then some (Sum.inr k) else none
    | x => x) = _
  rw [h]
theorem cut_inr {g : G} {n : Nat} {a : Addr} {k : Nat} (h : g.O a = some (.inr k)) (hk : k < n) : (g.cut n).O a = some (.inr k) := by
  show (match g.O a with
    | some (.inr k) => if k < n then some (Sum.inr k) else none
    | x => x) = _
  rw [h]
  show (if k < n then some (Sum.inr k) else none) = _
  rw [if_pos hk]
theorem SH.cut {c : Ct} {μ : Mu} {g : G} {H : Hp} {n : Nat} (h : SH c μ g H) (hn : c.A0.length ≤ n) (hb : (μ.take n).all (MO.low n) = true) : SH c (μ.take n) (g.cut n) H where
  sub := h.sub
  own := fun a e => by
    cases q : (g.cut n).O a with
    | none => exact absurd q e
    | some r => exact h.own a (by rw [cut_O q]; exact fun z => by cases z)
  ownNew := fun a i e => h.ownNew a i (cut_O e)
  ownAt := fun a e => by
    cases q : (g.cut n).O a with
    | none => exact absurd q e
    | some r => exact h.ownAt a (by rw [cut_O q]; exact fun z => by cases z)
  alen := by
    show (g.ads.take n).length = _
    rw [List.length_take, List.length_take, h.alen]
  amb := fun k a m e1 e2 => by
    have e1' : (g.ads.take n)[k]? = some a := e1
    have hk : k < n := by
      have := (List.getElem?_eq_some_iff.mp e1').1
      rw [List.length_take] at this
      omega
    rw [List.getElem?_take_of_lt hk] at e1'
    have e2' := e2
    rw [List.getElem?_take_of_lt hk] at e2'
    obtain ⟨q1, q2⟩ := h.amb k a m e1' e2'
    refine ⟨q1.imp id fun q1 => cut_inr q1 hk, ?_⟩
    have b := List.all_eq_true.mp hb m (List.mem_of_getElem? e2)
    cases m with
    | dead => exact q2
    | lst ds => obtain ⟨xs, h1, h2⟩ := q2; exact ⟨xs, h1, belows_reps h2 b⟩
    | ins C ns ds => obtain ⟨dx, xs, h1, h2, h3⟩ := q2; exact ⟨dx, xs, h1, h2, belows_reps h3 b⟩
    | dk ks ds => obtain ⟨xs, h1, h2, h3⟩ := q2; exact ⟨xs, h1, h2, belows_reps h3 b⟩
    | dt ks ds => obtain ⟨xs, h1, h2, h3⟩ := q2; exact ⟨xs, h1, h2, belows_reps h3 b⟩
  old := h.old
  oldT := h.oldT
  newB := h.newB
  b0 := h.b0
  a0 := fun k a e => by
    show (g.ads.take n)[k]? = some a
    have hk : k < n := Nat.lt_of_lt_of_le (List.getElem?_eq_some_iff.mp e).1 hn
    rw [List.getElem?_take_of_lt hk]
    exact h.a0 k a e
  aNew := fun a e => h.aNew a (List.mem_of_mem_take e)
  tmpT := fun a u e => by
    obtain ⟨q1, q2⟩ := h.tmpT a u e
    exact ⟨cut_inl q1, q2⟩
def scopeF (F : List D → M D) : List D → M D := fun ds μ => match F ds μ with
  | some (.ok d, μ') => if (d.low μ.length && (μ'.take μ.length).all (MO.low μ.length)) = true then some (.ok d, μ'.take μ.length) else none
  | some (.ex C ns es, μ') => if (D.lowAll μ.length es && (μ'.take μ.length).all (MO.low μ.length)) = true then some (.ex C ns es, μ'.take μ.length) else none
  | none => none
theorem spD_scope {K : Fg} {n : Nat} {F : List D → M D} : ∀ vs H Q E, spD K n (scopeF F) vs H Q E → spD K n F vs H Q E := fun vs H Q E h => by
  obtain ⟨ds, μ, g, r, μ', h1, h2, h3, h4, h5, h6⟩ := h
  unfold scopeF at h4
  have lecut : ∀ g', Le g g' → SH (Ct.call K g H) μ' g' H → Le g (g'.cut μ.length) := fun g' l _ => ⟨l.b, fun k a e => by
    show (g'.ads.take μ.length)[k]? = some a
    rw [List.getElem?_take_of_lt (by rw [← h2.alen]; exact (List.getElem?_eq_some_iff.mp e).1)]
    exact l.a k a e, l.t⟩
  have lecut' : ∀ g', Le g g' → Le g (g'.cut μ.length) := fun g' l => ⟨l.b, fun k a e => by
    show (g'.ads.take μ.length)[k]? = some a
    rw [List.getElem?_take_of_lt (by rw [← h2.alen]; exact (List.getElem?_eq_some_iff.mp e).1)]
    exact l.a k a e, l.t⟩
  have hA : (Ct.call K g H).A0.length ≤ μ.length := by
    show g.ads.length ≤ _
    rw [h2.alen]
    exact Nat.le_refl _
  cases e : F ds μ with
  | none => rw [e] at h4; cases h4
  | some q =>
    obtain ⟨r1, μ1⟩ := q
    rw [e] at h4
    cases r1 with
    | ok d =>
      have h4' : (if (d.low μ.length && (μ1.take μ.length).all (MO.low μ.length)) = true then some (Res.ok d, μ1.take μ.length) else none) = some (r, μ') := h4
      by_cases z : (d.low μ.length && (μ1.take μ.length).all (MO.low μ.length)) = true
      · rw [if_pos z] at h4'
        cases h4'
        obtain ⟨z1, z2⟩ := Bool.and_eq_true_iff.mp z
        refine ⟨ds, μ, g, .ok d, μ1, h1, h2, h3, e, fun d' ed v H' g' l s rp => ?_, fun C ns es ed => by cases ed⟩
        cases ed
        exact h5 d rfl v H' (g'.cut μ.length) (lecut' g' l) (s.cut hA z2) (below_rep rp z1)
      · rw [if_neg z] at h4'
        cases h4'
    | ex C ns es =>
      have h4' : (if (D.lowAll μ.length es && (μ1.take μ.length).all (MO.low μ.length)) = true then some (Res.ex C ns es, μ1.take μ.length) else none) = some (r, μ') := h4
      by_cases z : (D.lowAll μ.length es && (μ1.take μ.length).all (MO.low μ.length)) = true
      · rw [if_pos z] at h4'
        cases h4'
        obtain ⟨z1, z2⟩ := Bool.and_eq_true_iff.mp z
        refine ⟨ds, μ, g, .ex C ns es, μ1, h1, h2, h3, e, (fun d ed => by cases ed), fun C' ns' es' ed d H' g' l s xx => ?_⟩
        cases ed
        refine h6 C ns es rfl d H' (g'.cut μ.length) (lecut' g' l) (s.cut hA z2) ?_
        cases d with
        | none => exact xx
        | some d =>
          obtain ⟨xs, x1, x2, x3, x4, x5, x6, x7⟩ := xx
          exact ⟨xs, x1, x2, belows_reps x3 z1, x4, cut_none x5, x6, fun q => x7 (List.mem_of_mem_take q)⟩
      · rw [if_neg z] at h4'
        cases h4'
theorem Known.scope {P : Program} {w : World} {K : Fg} {mg : Str → Option Value} {base : Heap} {x : Str} {k n : Nat} {F : List D → M D} (h : Known P w K mg base x k n F) : Known P w K mg base x k n (scopeF F) := by
  obtain ⟨f, fd, ps, h1, h2, h3, h4, h5⟩ := h.ex
  exact ⟨f, fd, ps, h1, h2, h3, h4, h5.imp spD_scope⟩
end DL

set_option Elab.async false
set_option linter.all false
set_option maxRecDepth 100000
set_option maxHeartbeats 4000000
set_option autoImplicit false
namespace DL
open PySem PySem.Spec PyProof.Rows L2
open Sem (wp)
def ItrK (k : Bool) (h : Heap) (it a : Addr) (i : Nat) : Prop := match k with
  | true => h.IsTupleIter it a i
  | false => h.IsListIter it a i
def HasK (k : Bool) (h : Heap) (a : Addr) (its : Array Value) : Prop := match k with
  | true => h.IsTuple a its
  | false => h.IsList a its
def SqK (k : Bool) (K : Fg) (H : Hp) (a : Addr) (xs : List V) : Prop := match k with
  | true => SqT K H a xs
  | false => SqL K H a xs
theorem sqK_mono {k : Bool} {K : Fg} {H H' : Hp} {a : Addr} {xs : List V} (h : SqK k K H a xs) (e : Same H H') : SqK k K H' a xs := by
  cases k with
  | true => exact sqT_mono h e
  | false => exact sqL_mono h e
theorem drawsK (k : Bool) {P : Program} {w : World} {A : Around} (hh : A.handled = none) (it a : Addr) (hne : a ≠ it) (its : Array Value) :
    Draws P w A it [it, a] its.size (fun i v => its[i]? = some v) (fun i h => ItrK k h it a i ∧ HasK k h a its) := by
  cases k with
  | true => exact Draws.tuple hh it a hne its
  | false => exact Draws.list hh it a hne its
theorem ItrK.at {k : Bool} {h h' : Heap} {it a : Addr} {i : Nat} (x : ItrK k h it a i) (e : ∀ o, h.get? it = some o → h'.get? it = some o) : ItrK k h' it a i := by
  cases k with
  | true => exact Heap.IsTupleIter.at x e
  | false => exact Heap.IsListIter.at x e
theorem ItrK.rec_ {k : Bool} {h : Heap} {it a : Addr} {i : Nat} (x : ItrK k h it a i) : ∃ o, h.get? it = some o ∧ ∀ v, o.data ≠ .cell v := by
  cases k with
  | true =>
    obtain ⟨o, ho, hc, hd⟩ := x
    exact ⟨o, ho, fun v q => by rw [hd] at q; cases q⟩
  | false =>
    obtain ⟨o, ho, hc, hd⟩ := x
    exact ⟨o, ho, fun v q => by rw [hd] at q; cases q⟩
section
variable {X : Cx} {pins : List (Addr × Obj)} {σ : L2.St} {H : Hp} {s : Shared} {a : Addr} {xs ys : List V} {k : Bool}
theorem seqK_at (I : Inv X pins σ H s) (h : SqK k X.K H a xs) : ∃ its : List Value, Vals xs its ∧ HasK k s.heap a its.toArray ∧ xs.length ≤ sizeLine := by
  cases k with
  | true =>
    obtain ⟨its, r, p, z⟩ := I.tuple h
    exact ⟨its, r, p, z⟩
  | false =>
    obtain ⟨its, r, p, z⟩ := I.list h
    exact ⟨its, r, p.isList, z⟩
theorem seqK_inj (I : Inv X pins σ H s) (h : SqK k X.K H a xs) (h' : SqK k X.K H a ys) : xs = ys := by
  cases k with
  | true => exact I.tuple_inj h h'
  | false => exact I.list_inj h h'
end
set_option maxHeartbeats 1000000 in
theorem enum_new1 {v : Value} {o : Obj} {Hy : Heap → Prop} (B : Begins v o Hy) :
    Meets (Builtin.«enumerate.__new__» ⟨[.type "enumerate", v], []⟩) (fun _ R s => Hy s.heap ∧
      R (.ok (.ret (.ref (s.heap.push o).objs.size))) { s with heap := (s.heap.push o).push { cls := .type "enumerate", data := .fields #[.none, .bool false, .ref s.heap.objs.size, rawInt 0, .none, .none] } }) :=
  .of_wp fun prog w A R s h => by
    obtain ⟨hp, g, d, tk, os⟩ := s
    obtain ⟨h1, h⟩ := h
    have hsub := sub_enumerate
    have go : ∀ {A' : Around} {E : Value → Shared → Prop} {Q : Value → Shared → Prop}, Q (.ref hp.objs.size) ⟨hp.push o, g, d, tk, os⟩ → wpAny (model prog w) A' (pyIter v) Q E ⟨hp, g, d, tk, os⟩ :=
      fun q => B.iter prog w _ _ ⟨hp, g, d, tk, os⟩ _ h1 q
    wp_walk using go
    refine wpAny_stack_any fun st => wpAny_pure ?_
    split
    · rename_i c _ _ _ _ _
      cases (c == Value.type "enumerate") <;> (wp_walk using go; exact ⟨_, rfl, h⟩)
    · wp_walk using go
      exact ⟨_, rfl, h⟩
section
variable {prog : Program} {w : World} {A : Around} {E : Value → Shared → Prop} {s : Shared}
theorem enum_call1 {v : Value} {o : Obj} {Hy : Heap → Prop} {Q : Value → Shared → Prop} (B : Begins v o Hy) (h1 : Hy s.heap)
    (h : ∀ h', IsEnum h' (s.heap.objs.size + 1) s.heap.objs.size 0 .none → h'.get? s.heap.objs.size = some o → (∀ b o, s.heap.get? b = some o → h'.get? b = some o) → Q (.ref (s.heap.objs.size + 1)) { s with heap := h' }) :
    wpAny (model prog w) A (call (.type "enumerate") [v]) Q E s := by
  refine callType_new F.called_enumerate (by decide) (F.typeCall_enumerate_1 _) (F.newCall_enumerate_1 _) (fun obj => F.args_object_init_2 obj _) F.entry_enumerate_new (enum_new1 B) ⟨h1, ?_⟩
  have hz : (s.heap.push o).objs.size = s.heap.objs.size + 1 := Heap.size_push ..
  show _ ∧ _
  rw [hz]
  have he : IsEnum ((s.heap.push o).push { cls := .type "enumerate", data := .fields #[.none, .bool false, .ref s.heap.objs.size, rawInt 0, .none, .none] }) (s.heap.objs.size + 1) s.heap.objs.size 0 .none := by
    have q := Heap.get?_push_size (s.heap.push o) (o := { cls := .type "enumerate", data := .fields #[.none, .bool false, .ref s.heap.objs.size, rawInt 0, .none, .none] }) rfl
    rw [hz] at q
    exact q
  exact ⟨⟨_, he, rfl⟩, h _ he (Heap.get?_push_of_some _ (Heap.get?_push_size _ B.free)) fun b o x => Heap.get?_push_of_some _ (Heap.get?_push_of_some _ x)⟩
end
def IteK (k : Bool) (K : Fg) (a : Addr) : It :=
  ⟨fun i H => ∃ (xs : List V) (x : V), SqK k K H a xs ∧ xs[i]? = some x, fun i H v H' => ∃ T x, v = .ref T ∧ H T = none ∧ H' = upd H T (.tup [.int (i : Nat), x]) ∧ ∀ xs, SqK k K H a xs → xs[i]? = some x, fun i H => ∃ xs : List V, SqK k K H a xs ∧ xs.length = i⟩
theorem turn_enumK (k : Bool) {P : Program} {w : World} {K : Fg} {elts : List Expr} {kk : Nat} {tpos : Pos} (a e it : Addr) :
    Turn P w K (.Tuple elts kk tpos) (IteK k K a) [e, it] e (fun i h => (∃ old, IsEnum h e it ((i : Nat) : Int) old) ∧ ItrK k h it a i ∧ e ≠ it ∧ e ≠ a ∧ a ≠ it) where
  mem := List.mem_cons_self ..
  obj := fun i h st b hb => by
    obtain ⟨⟨old, he⟩, hi, _⟩ := st
    rcases List.mem_cons.mp hb with rfl | hb
    · exact ⟨_, he, fun v q => nomatch q⟩
    · rw [List.mem_singleton.mp hb]
      exact hi.rec_
  keep := fun i h h' st kp => by
    obtain ⟨⟨old, he⟩, hi, r⟩ := st
    exact ⟨⟨old, kp e (List.mem_cons_self ..) _ he⟩, hi.at fun o q => kp it (List.mem_cons_of_mem _ (List.mem_singleton.mpr rfl)) o q, r⟩
  item := by
    intro X hP hw hK hc i pins s σ H E I hf st hg
    subst hP hw hK
    obtain ⟨⟨old, he⟩, hit, n1, n2, n3⟩ := st
    obtain ⟨xs, x, hq, hx⟩ := hg
    obtain ⟨its, rv, hp, hz⟩ := seqK_at I hq
    obtain ⟨u, hu, ru⟩ := rv.get hx
    have hel : e < s.heap.objs.size := Heap.lt_size he
    have hil : it < s.heap.objs.size := by obtain ⟨_, q, _⟩ := hit.rec_; exact Heap.lt_size q
    have hlt : i < its.toArray.size := by
      rw [List.size_toArray]
      exact (List.getElem?_eq_some_iff.mp hu).1
    refine wpAny_pyNext_enum_itemD (drawsK k (A := X.A.in1) (I.ok.hd hc) it a n3 its.toArray) he ⟨hit, hp⟩ hlt n1 (fun z => by
      rcases List.mem_cons.mp z with z | z
      · exact n1 z
      · exact n2 (List.mem_singleton.mp z)) fun y h' tk hy ho st' hT hsz hk => ?_
    have ey : y = u := by
      rw [List.getElem?_toArray, hu] at hy
      exact (Option.some.inj hy).symm
    subst ey
    refine ⟨_, rfl, wpAny_letOwnedTupleGo_enum (s := { s with heap := h', toks := tk + 1 }) ho fun h'' he' sb => ?_⟩
    have hT2 : h''.get? s.heap.objs.size = some { cls := .type "tuple", data := .seq #[.int i tk, y] } := (sb.2 _ (Nat.ne_of_gt hel)).trans hT
    have new : ObjOk X.prog X.w (upd H s.heap.objs.size (.tup [.int (i : Nat), x])) h'' s.heap.objs.size (.tup [.int (i : Nat), x]) :=
      ⟨by show 2 ≤ sizeLine; decide, [.int i tk, y], .cons ⟨_, rfl⟩ (.cons ru .nil), ⟨_, hT2, rfl, _, rfl⟩⟩
    have I1 : Inv X pins σ (upd H s.heap.objs.size (.tup [.int (i : Nat), x])) { s with heap := h'', toks := tk + 1 } :=
      I.turnedNew (t' := tk + 1) (ch := [e, it]) (fun b ob hb q => (sb.2 b (fun z => hb (by rw [z]; exact List.mem_cons_self ..))).trans (hk b ob (fun z => hb (by rw [z]; exact List.mem_cons_self ..)) (fun z => hb (by rw [z]; exact List.mem_cons_of_mem _ (List.mem_singleton.mpr rfl))) q)) hf (Nat.le_refl _) new
    refine ⟨.ref s.heap.objs.size, _, I1, rfl, ⟨_, x, rfl, I.hok.fresh (Nat.le_refl _), rfl, fun ys hy2 => by rw [seqK_inj I hy2 hq]; exact hx⟩, ⟨⟨y, ?_⟩, ItrK.at st'.1 fun o q => (sb.2 it (Ne.symm n1)).trans q, n1, n2, n3⟩, fun b hb => ?_⟩
    · have e1 : ((i + 1 : Nat) : Int) = (i : Int) + 1 := by omega
      rw [e1]; exact he'
    · have hb' : b < s.heap.objs.size := by
        rcases List.mem_cons.mp hb with z | z
        · rw [z]; exact hel
        · rw [List.mem_singleton.mp z]; exact hil
      rw [upd_ne (Nat.ne_of_lt hb')]
      exact (hf b hb).1
  done := by
    intro X hP hw hK hc i pins s σ H E I hf st hg
    subst hP hw hK
    obtain ⟨⟨old, he⟩, hit, n1, n2, n3⟩ := st
    obtain ⟨xs, hq, hx⟩ := hg
    obtain ⟨its, rv, hp, hz⟩ := seqK_at I hq
    obtain ⟨f0, f1, f2, f3, f4, f5⟩ := hf it (List.mem_cons_of_mem _ (List.mem_singleton.mpr rfl))
    have hl := rv.length
    have hn : i = its.toArray.size := by rw [List.size_toArray, ← hl]; exact hx.symm
    have st2 : ItrK k s.heap it a its.toArray.size ∧ HasK k s.heap a its.toArray := by rw [← hn]; exact ⟨hit, hp⟩
    exact wpAny_pyNext_enum_endD (drawsK k (A := X.A.in1) (I.ok.hd hc) it a n3 its.toArray) he st2 fun h' eb => ⟨rfl, I.turned (t' := s.toks) (fun b o hb q => eb b o hb q) f0 f1 f3 f4 f5⟩
  self := fun A i s Q E st h => by
    obtain ⟨⟨_, he⟩, _⟩ := st
    exact wpAny_pyIter_enum he h
def beginK (k : Bool) (a : Addr) : Obj := match k with
  | true => { cls := .type "tuple_iterator", data := .fields #[.ref a, .int 0 0] }
  | false => { cls := .type "list_iterator", data := .fields #[.ref a, .int 0 0] }
theorem beginsK (k : Bool) (a : Addr) (its : Array Value) : Begins (.ref a) (beginK k a) fun h => HasK k h a its := by
  cases k with
  | true => exact begins_tuple a its
  | false => exact begins_list a its
theorem itrK_new (k : Bool) {h : Heap} {it a : Addr} (e : h.get? it = some (beginK k a)) : ItrK k h it a 0 := by
  cases k with
  | true => exact ⟨_, e, rfl, rfl⟩
  | false => exact ⟨_, e, rfl, rfl⟩
theorem HasK.lt {k : Bool} {h : Heap} {a : Addr} {its : Array Value} (x : HasK k h a its) : a < h.objs.size := by
  cases k with
  | true =>
    obtain ⟨o, ho, _⟩ := x
    exact Heap.lt_size ho
  | false =>
    obtain ⟨o, ho, _⟩ := x
    exact Heap.lt_size ho
def iEnumK (k : Bool) (K : Fg) (ta : TA) : TI := fun σ H R => ta σ H fun vs H1 => ∃ a xs, vs = [.ref a] ∧ SqK k K H1 a xs ∧ R (IteK k K a) H1
theorem pi_enumK (k : Bool) {X : Cx} {e : Expr} {ta : TA} {p pos tpos : Pos} {elts : List Expr} {kk : Nat} (hg : Gl X "enumerate") (hm : X.mg "enumerate" = none) (ha : PA X [e] ta) (hs : starEach [e] X.env = [(false, eval e X.env)]) :
    PI X (.Tuple elts kk tpos) (.Call (.Name "enumerate" p) [e] [] pos) (iEnumK k X.K ta) := by
  refine ⟨fun pins s σ H R I h => ?_⟩
  refine Call_ (ld_blt I hg hm boot_enumerate (PyProof.Rows.callWith_type1 (thn (ha.run pos pins s σ H _ I h) fun us s1 ⟨vs, H1, I1, r1, q1⟩ => ?_) hs rfl))
  obtain ⟨a, xs, ex, hq, q⟩ := q1
  subst ex
  obtain ⟨u, rfl, ru⟩ := Vals.one r1
  cases ru
  obtain ⟨its, rv, hp, hz⟩ := seqK_at I1 hq
  have hal := hp.lt
  refine enum_call1 (beginsK k a its.toArray) hp fun h' he hit hk => wpAny_pyIter_enum he ?_
  have I2 : Inv X pins σ H1 { s1 with heap := h' } := I1.kept (t' := s1.toks) hk
  refine ⟨s1.heap.objs.size + 1, [s1.heap.objs.size + 1, s1.heap.objs.size], _, _, H1, rfl, I2, turn_enumK k a (s1.heap.objs.size + 1) s1.heap.objs.size, ⟨⟨.none, he⟩, itrK_new k hit, Nat.succ_ne_self _, Nat.ne_of_gt (Nat.lt_succ_of_lt hal), Nat.ne_of_lt hal⟩, fun b hb => ?_, q⟩
  have hle : s1.heap.objs.size ≤ b := by
    rcases List.mem_cons.mp hb with z | z
    · rw [z]; exact Nat.le_succ _
    · rw [List.mem_singleton.mp z]; exact Nat.le_refl _
  exact I1.fpOk hle (I1.hok.fresh hle)
def ItzK (k1 k2 : Bool) (K : Fg) (a b : Addr) : It :=
  ⟨fun i H => ∃ (xs ys : List V) (x y : V), SqK k1 K H a xs ∧ SqK k2 K H b ys ∧ xs[i]? = some x ∧ ys[i]? = some y,
    fun i H v H' => ∃ T x y, v = .ref T ∧ H T = none ∧ H' = upd H T (.tup [x, y]) ∧ (∀ xs, SqK k1 K H a xs → xs[i]? = some x) ∧ ∀ ys, SqK k2 K H b ys → ys[i]? = some y,
    fun i H => ∃ xs ys : List V, SqK k1 K H a xs ∧ SqK k2 K H b ys ∧ i ≤ xs.length ∧ i ≤ ys.length ∧ (i = xs.length ∨ i = ys.length)⟩
theorem zs_le {n c : Nat} (h : c = n + 4 ∨ c = n + 2 ∨ c = n + 3 ∨ c = n ∨ c = n + 1) : n ≤ c := by omega
def iZipK (k1 k2 : Bool) (K : Fg) (ta : TA) : TI := fun σ H R => ta σ H fun vs H1 => ∃ a b xs ys, vs = [.ref a, .ref b] ∧ SqK k1 K H1 a xs ∧ SqK k2 K H1 b ys ∧ R (ItzK k1 k2 K a b) H1
end DL

set_option Elab.async false
set_option linter.all false
set_option maxRecDepth 100000
set_option maxHeartbeats 4000000
set_option autoImplicit false
namespace DL
open PySem PySem.Spec L2
section
variable {X : Cx} {W : WX} {tg e a b : Expr} {t u ta tb : TD} {tq tq2 : TQ} {pos : Pos}
theorem pi_or {it : Expr} {w1 w2 : TI} (h1 : PI X tg it w1) (h2 : PI X tg it w2) : PI X tg it (fun σ H R => w1 σ H R ∨ w2 σ H R) := ⟨fun pins s σ H R I h => by
  rcases h with h | h
  · exact h1.run pins s σ H R I h
  · exact h2.run pins s σ H R I h⟩
def D.isT : D → Bool
  | .tup _ => true
  | .kt _ => true
  | _ => false
def D.items : D → Option (List D)
  | .kt ds => some ds
  | .lst ds => some ds
  | .rd ds => some ds
  | .tup ds => some ds
  | _ => none
theorem items_rep {K : Fg} {ads : List Addr} {B : Hp} {d : D} {v : V} {ds : List D} (h : Rep K ads B d v) (e : d.items = some ds) : ∃ k a xs, v = .ref a ∧ SqK k K B a xs ∧ Reps K ads B ds xs ∧ k = d.isT := by
  cases d <;> first | (cases e; done) | skip
  case tup es =>
    cases e
    unfold Rep at h
    obtain ⟨a, xs, rfl, h1, h2⟩ := h
    exact ⟨true, a, xs, rfl, SqT.of h1, h2, rfl⟩
  case kt es =>
    cases e
    unfold Rep at h
    obtain ⟨a, xs, rfl, h1, h2⟩ := h
    exact ⟨true, a, xs, rfl, h1, h2, rfl⟩
  case lst es =>
    cases e
    unfold Rep at h
    obtain ⟨a, xs, rfl, h1, h2⟩ := h
    exact ⟨false, a, xs, rfl, SqL.of h1, h2, rfl⟩
  case rd es =>
    cases e
    unfold Rep at h
    obtain ⟨a, xs, rfl, h1, h2⟩ := h
    exact ⟨false, a, xs, rfl, h1, h2, rfl⟩
def dIter (t : TD) : TL := fun ρ => M.bind (t ρ) fun d => M.lift d.items
theorem di_seq (h : DE X W e t) : DI X W tg e (dIter t) := by
  obtain ⟨te, p, r⟩ := h.ex
  refine ⟨_, pi_or (pi_list p) (pi_tup p), fun c hc ρ μ g σ H R rr μ' s hh hx k => ?_⟩
  have gen : ∀ d, (∃ μ1, t ρ μ = some (.ok d, μ1)) ∨ True := fun _ => .inr trivial
  rcases bind_some hh with ⟨d, μ1, e1, e2⟩ | ⟨C, ns, ds, e1, rfl⟩
  · obtain ⟨ds, e3, rfl, rfl⟩ := lift_some e2
    cases hd : d.isT with
    | true =>
      right
      refine r c hc ρ μ g σ H _ _ _ s e1 px_ok fun d' ed v H1 g1 l1 s1 r1 => ?_
      cases ed
      obtain ⟨kk, a, xs, rfl, q1, q2, q3⟩ := items_rep r1 e3
      rw [hd] at q3
      subst q3
      rw [← hc]
      exact ⟨a, rfl, ⟨xs, sqT_mono q1 s1.sub⟩, k ds rfl _ H1 g1 l1 s1 (itOk_tup q1 q2)⟩
    | false =>
      left
      refine r c hc ρ μ g σ H _ _ _ s e1 px_ok fun d' ed v H1 g1 l1 s1 r1 => ?_
      cases ed
      obtain ⟨kk, a, xs, rfl, q1, q2, q3⟩ := items_rep r1 e3
      rw [hd] at q3
      subst q3
      rw [← hc]
      exact ⟨a, rfl, ⟨xs, sqL_mono q1 s1.sub⟩, k ds rfl _ H1 g1 l1 s1 (itOk_list q1 q2)⟩
  · left
    exact r c hc ρ μ g σ H _ _ _ s e1 (fun C' ns' ds' e => by cases e; exact hx C ns ds rfl) fun d e => by cases e
def enumD (ds : List D) : List D := ds.mapIdx fun i d => D.tup [.int (i : Nat), d]
theorem itOk_enum {c : Ct} {g0 : G} {k : Bool} {a : Addr} {xs : List V} {ds : List D} (h1 : SqK k c.K g0.B a xs) (h2 : GReps c.K g0 ds xs) : ItOk c g0 (IteK k c.K a) (enumD ds) := fun ρ μ g σ H l s => by
  have hs : SqK k c.K H a xs := sqK_mono (sqK_mono h1 l.b) s.sub
  have hl : (enumD ds).length = ds.length := by unfold enumD; rw [List.length_mapIdx]
  refine ⟨fun i d e => ?_, ⟨xs, hs, by rw [hl]; exact h2.length.symm⟩⟩
  unfold enumD at e
  rw [List.getElem?_mapIdx] at e
  cases e0 : ds[i]? with
  | none => rw [e0] at e; cases e
  | some d0 =>
    rw [e0] at e
    cases e
    obtain ⟨x, hx, rx⟩ := h2.get e0
    refine ⟨⟨xs, x, hs, hx⟩, fun y H' hy => ?_⟩
    obtain ⟨T, x2, rfl, hT, rfl, hy⟩ := hy
    have e2 := hy xs hs
    rw [hx] at e2
    cases e2
    refine ⟨g.addB T (.tup [.int (i : Nat), x]), s.leB hT, s.addB hT, ?_, fun p q => ?_⟩
    · unfold GRep Rep
      exact ⟨T, [.int (i : Nat), x], rfl, upd_same, reps_cons (flat_rep rfl) (reps_cons ((l.trans (s.leB hT)).rep rx) reps_nil)⟩
    · by_cases z : p = T
      · rw [z]; exact hT
      · rw [upd_ne z] at q; exact q
def dEnum (t : TD) : TL := fun ρ => M.bind (t ρ) fun d => M.lift (d.items.map enumD)
theorem di_enum {elts : List Expr} {kk : Nat} {tpos p : Pos} (h : DE X W e t) (hm : X.mg "enumerate" = none) (hg : Gl X "enumerate" := by rfl) (hs : starEach [e] X.env = [(false, eval e X.env)] := by rfl) : DI X W (.Tuple elts kk tpos) (.Call (.Name "enumerate" p) [e] [] pos) (dEnum t) := by
  obtain ⟨te, p, r⟩ := h.ex
  refine ⟨_, pi_or (pi_enumK false hg hm (pa_cons p pa_nil hs) hs) (pi_enumK true hg hm (pa_cons p pa_nil hs) hs), fun c hc ρ μ g σ H R rr μ' s hh hx k => ?_⟩
  rcases bind_some hh with ⟨d, μ1, e1, e2⟩ | ⟨C, ns, ds, e1, rfl⟩
  · obtain ⟨es, e3, rfl, rfl⟩ := lift_some e2
    obtain ⟨ds, e4, rfl⟩ := Option.map_eq_some_iff.mp e3
    cases hd : d.isT with
    | true =>
      right
      refine r c hc ρ μ g σ H _ _ _ s e1 px_ok fun d' ed v H1 g1 l1 s1 r1 => ?_
      cases ed
      obtain ⟨k2, a, xs, rfl, q1, q2, q3⟩ := items_rep r1 e4
      rw [hd] at q3
      subst q3
      rw [← hc]
      exact ⟨a, xs, rfl, sqT_mono q1 s1.sub, k _ rfl _ H1 g1 l1 s1 (itOk_enum (k := true) q1 q2)⟩
    | false =>
      left
      refine r c hc ρ μ g σ H _ _ _ s e1 px_ok fun d' ed v H1 g1 l1 s1 r1 => ?_
      cases ed
      obtain ⟨k2, a, xs, rfl, q1, q2, q3⟩ := items_rep r1 e4
      rw [hd] at q3
      subst q3
      rw [← hc]
      exact ⟨a, xs, rfl, sqL_mono q1 s1.sub, k _ rfl _ H1 g1 l1 s1 (itOk_enum (k := false) q1 q2)⟩
  · left
    exact r c hc ρ μ g σ H _ _ _ s e1 (fun C' ns' ds' e => by cases e; exact hx C ns ds rfl) fun d e => by cases e
def zipD (xs ys : List D) : List D := List.zipWith (fun a b => D.tup [a, b]) xs ys
def dZip (t u : TD) : TL := fun ρ => M.bind (t ρ) fun d => M.bind (u ρ) fun e => M.lift (match d.items, e.items with
  | some ds, some es => some (zipD ds es)
  | _, _ => none)
def revRange (n : Nat) : List D := (List.range n).map fun i => D.int ((n : Int) - 1 - (i : Nat))
def dRevRng (t : TD) : TL := fun ρ => M.bind (t ρ) fun d => match d with
  | .int j => if 0 ≤ j ∧ j < 2 ^ 62 then M.ret (revRange j.toNat) else M.stuck
  | _ => M.stuck
def dsAsg (t : TD) (gt : D → Rho → Option Rho) : TO' := dsE t fun d ρ μ => match gt d ρ with
  | some ρ' => some (.nx ρ', μ)
  | none => none
theorem ds_asg {is : List Nat} {gt : D → Rho → Option Rho} (he : DE X W e t) (hg : DG X tg is gt) (hs : swapsWithSole [tg] e pos.line X.env = pure false := by rfl) (hw : swappedStores [tg] e X.env = pure none := by rfl)
    (h1 : (assignEach [tg] X.env).map (·.2) = [assign tg X.env] := by rfl) : DS X W (.Assign [tg] e pos) (dsAsg t gt) := by
  obtain ⟨te, p, r⟩ := he.ex
  obtain ⟨g0, p2, r2⟩ := hg.ex
  refine ⟨_, ps_asg p p2 hs hw h1, fun c hc ρ μ g σ H D₀ o μ' s h k => ?_⟩
  refine (r c hc).stm s h k fun d μ1 h1 v H1 g1 l1 s1 rp k1 => ?_
  cases eg : gt d ρ with
  | none => rw [eg] at h1; cases h1
  | some ρ' =>
    rw [eg] at h1
    cases h1
    exact r2 c hc ρ ρ' _ g1 σ H1 d v _ s1 rp eg fun σ' s' _ => k1 σ' H1 g1 (Le.refl _) s'
def dsAug (i : Nat) (gf : D → D → Option D) (t : TD) : TO' := fun ρ μ => match ρ[i]? with
  | some (some (.sh x)) => dsE t (fun y ρ μ => match gf x y with
    | some z => some (.nx (ρ.set i (some (.sh z))), μ)
    | none => none) ρ μ
  | _ => none
def qvl (q : QV) (ρ : Rho) (μ : Mu) : Option (List D) := match q with
  | .val (.tup _) => none
  | .val (.kt _) => none
  | .val (.rd _) => none
  | q => qv q ρ μ
theorem SR.seqH {c : Ct} {ρ : Rho} {μ : Mu} {g : G} {σ : L2.St} {H : Hp} (s : SR c ρ μ g σ H) {q : QV} {v : V} {ds : List D} (r : QRep c.K g σ q v) (h : qvl q ρ μ = some ds) : ∃ a xs, v = .ref a ∧ H a = some (.lst xs) ∧ GReps c.K g ds xs := by
  cases q with
  | own i =>
    obtain ⟨ds', e1, e2⟩ := own_some (f := fun ds => some ds) h
    cases e2
    obtain ⟨x, hx, p, xs, rfl, h2, h3, h4⟩ := s.at e1
    have e : some (some (V.ref p)) = some (some v) := hx.symm.trans r
    cases e
    exact ⟨p, xs, rfl, h3, h4⟩
  | val d =>
    have r : GRep c.K g d v := r
    cases d <;> first | (cases h; done) | skip
    case lst es =>
      cases h
      unfold GRep Rep at r
      obtain ⟨a, xs, rfl, h1, h2⟩ := r
      exact ⟨a, xs, rfl, s.sub _ _ h1, h2⟩
    case mref =>
      rename_i n r0
      unfold GRep Rep at r
      obtain ⟨a, h1, rfl⟩ := r
      have h' : (match μ[n]? with
        | some (MO.lst ds) => some ds
        | _ => none) = some ds := h
      cases e : μ[n]? with
      | none => rw [e] at h'; cases h'
      | some m =>
        rw [e] at h'
        cases m with
        | lst es =>
          cases h'
          obtain ⟨_, xs, q2, q3⟩ := s.amb n a _ h1 e
          exact ⟨a, xs, rfl, q2, q3⟩
        | _ => cases h'
def dCat (t u : TQ) : TL := fun ρ => M.bind (t ρ) fun p => M.bind (u ρ) fun q μ => match qvl p ρ μ, qvl q ρ μ with
  | some ds, some es => if ds.length + es.length ≤ sizeLine then some (.ok (ds ++ es), μ) else none
  | _, _ => none
theorem df_cat (ha : DQ X W a tq) (hb : DQ X W b tq2) : DF X W (.BinOp a .Add b pos) (dCat tq tq2) := by
  obtain ⟨te, p, r⟩ := ha.ex
  obtain ⟨ue, pu, ru⟩ := hb.ex
  refine ⟨_, pe_op op_cat p pu, fun c hc ρ μ g σ H Q rr μ' s hh hx k => ?_⟩
  refine (r c hc).then_ s hh hx fun q1 μ1 h1 v1 H1 g1 l1 s1 r1 hx1 => ?_
  refine (ru c hc).then_ s1 h1 hx1 fun q2 μ2 h2 v2 H2 g2 l2 s2 r2 hx2 => ?_
  cases e1 : qvl q1 ρ μ2 with
  | none => rw [e1] at h2; cases h2
  | some ds =>
    cases e2 : qvl q2 ρ μ2 with
    | none => rw [e1, e2] at h2; cases h2
    | some es =>
      rw [e1, e2] at h2
      have h2' : (if ds.length + es.length ≤ sizeLine then some (Res.ok (ds ++ es), μ2) else none) = some (rr, μ') := h2
      obtain ⟨a1, xs, rfl, h3, h4⟩ := s2.seqH (r1.le l2) e1
      obtain ⟨a2, ys, rfl, h5, h6⟩ := s2.seqH r2 e2
      by_cases z : ds.length + es.length ≤ sizeLine
      · rw [if_pos z] at h2'
        cases h2'
        exact ⟨a1, a2, xs, ys, rfl, rfl, h3, h5, by rw [← h4.length, ← h6.length]; exact z, fun p hp => k _ rfl p _ _ _ ((l1.trans l2).trans (le_own1 g2 p 0)) (s2.tmp hp) ⟨own1_at _ _ _, s2.freshT hp⟩ upd_same ((le_own1 _ _ _).reps (h4.append h6))⟩
      · rw [if_neg z] at h2'
        cases h2'
def dRepL (t : TQ) (u : TD) : TL := fun ρ => M.bind (t ρ) fun p => M.bind (u ρ) fun d μ => match d with
  | .int n => match qvl p ρ μ with
    | some ds => if -(2 ^ 63) ≤ n ∧ n < 2 ^ 63 ∧ ds.length * n.toNat ≤ sizeLine then some (.ok (List.replicate n.toNat ds).flatten, μ) else none
    | none => none
  | _ => none
def cutD (ds : List D) (lo hi : Option Int) : List D := (ds.drop (HT.sIx ds.length 0 lo)).take (HT.sIx ds.length ds.length hi - HT.sIx ds.length 0 lo)
structure DPO (X : Cx) (W : WX) (e : Option Expr) (t : Rho → M (Option Int)) : Prop where
  ex : ∃ to, PO X e to ∧ ∀ c : Ct, c.K = X.K → ∀ ρ μ g σ H (Q : Option Int → Hp → Prop) r μ', SR c ρ μ g σ H → t ρ μ = some (r, μ') → PX c W ρ σ g r μ' → (∀ o, r = .ok o → ∀ H' g', Le g g' → SR c ρ μ' g' σ H' → Q o H') → to σ H Q
def dPoN : Rho → M (Option Int) := fun _ => M.ret none
def dPoS (t : TD) : Rho → M (Option Int) := fun ρ => M.bind (t ρ) fun d => match d with
  | .int i => M.ret (some i)
  | _ => M.stuck
theorem dpo_none : DPO X W none dPoN := ⟨_, po_none, fun c hc ρ μ g σ H Q r μ' s h hx k => by
  obtain ⟨rfl, rfl⟩ := ret_some h
  exact k none rfl H g (Le.refl g) s⟩
theorem dpo_some (h : DE X W e t) : DPO X W (some e) (dPoS t) := by
  obtain ⟨te, p, r⟩ := h.ex
  refine ⟨_, po_some p, fun c hc ρ μ g σ H Q rr μ' s hh hx k => ?_⟩
  refine (r c hc).then_ s hh hx fun x μ1 h1 v1 H1 g1 l1 s1 r1 hx1 => ?_
  cases x with
  | int i =>
    obtain ⟨rfl, rfl⟩ := ret_some h1
    exact ⟨i, rep_int r1, k _ rfl H1 g1 l1 s1⟩
  | _ => cases h1
def dSlice (t : TQ) (lo hi : Rho → M (Option Int)) : TL := fun ρ => M.bind (t ρ) fun q => M.bind (lo ρ) fun l => M.bind (hi ρ) fun h μ => match qvl q ρ μ with
  | some ds => some (.ok (cutD ds l h), μ)
  | none => none
theorem df_slice {lo hi : Option Expr} {p2 : Pos} {tl th : Rho → M (Option Int)} (ha : DQ X W a tq) (hl : DPO X W lo tl) (hh : DPO X W hi th) : DF X W (.Subscript a (.Slice lo hi none p2) pos) (dSlice tq tl th) := by
  obtain ⟨te, p, r⟩ := ha.ex
  obtain ⟨le, pl, rl⟩ := hl.ex
  obtain ⟨he, ph, rh⟩ := hh.ex
  refine ⟨_, pe_slice sl_list p pl ph, fun c hc ρ μ g σ H Q rr μ' s h0 hx k => ?_⟩
  refine (r c hc).then_ s h0 hx fun q1 μ1 h1 v1 H1 g1 l1 s1 r1 hx1 => ?_
  have step : ∀ {α β : Type} {m : M α} {f : α → M β} {μ μ' : Mu} {r : Res β}, M.bind m f μ = some (r, μ') → (∃ a μ1, m μ = some (.ok a, μ1) ∧ f a μ1 = some (r, μ')) ∨ (∃ C ns ds, m μ = some (.ex C ns ds, μ') ∧ r = .ex C ns ds) := fun h => bind_some h
  rcases step h1 with ⟨l, μ2, e1, e2⟩ | ⟨C, ns, ds, e1, rfl⟩
  · refine rl c hc ρ μ1 g1 σ H1 _ _ _ s1 e1 px_ok fun o eo H2 g2 l2 s2 => ?_
    cases eo
    rcases step e2 with ⟨h, μ3, e3, e4⟩ | ⟨C, ns, ds, e3, rfl⟩
    · refine rh c hc ρ μ2 g2 σ H2 _ _ _ s2 e3 px_ok fun o eo H3 g3 l3 s3 => ?_
      cases eo
      cases e5 : qvl q1 ρ μ3 with
      | none => rw [e5] at e4; cases e4
      | some ds =>
        rw [e5] at e4
        cases e4
        obtain ⟨a1, xs, rfl, h3, h4⟩ := s3.seqH (r1.le (l2.trans l3)) e5
        refine ⟨a1, xs, rfl, SqL.of h3, fun p hp => k _ rfl p _ _ _ (((l1.trans l2).trans l3).trans (le_own1 g3 p 0)) (s3.tmp hp) ⟨own1_at _ _ _, s3.freshT hp⟩ upd_same ((le_own1 _ _ _).reps ?_)⟩
        unfold cutD cutV
        rw [h4.length]
        exact (h4.drop _).take _
    · exact rh c hc ρ μ2 g2 σ H2 _ _ _ s2 e3 (fun C' ns' ds' e => by cases e; exact ((hx1.le l2)) C ns ds rfl) fun o eo => by cases eo
  · exact rl c hc ρ μ1 g1 σ H1 _ _ _ s1 e1 (fun C' ns' ds' e => by cases e; exact hx1 C ns ds rfl) fun o eo => by cases eo
end
end DL

set_option Elab.async false
set_option linter.all false
set_option maxRecDepth 100000
set_option maxHeartbeats 4000000
set_option autoImplicit false
namespace DL
open PySem PySem.Spec L2
def fldD (ns : List Str) (ds : List D) (f : Str) : Option D := (ns.zip ds).lookup f
theorem zip_lookup {K : Fg} {ads : List Addr} {B : Hp} {f : Str} : ∀ {ns : List Str} {ds : List D} {xs : List V} {d : D}, Reps K ads B ds xs → (ns.zip ds).lookup f = some d → ∃ v, (ns.zip xs).lookup f = some v ∧ Rep K ads B d v
  | [], ds, xs, d, h, e => by cases ds <;> cases e
  | n :: ns, [], xs, d, h, e => by cases e
  | n :: ns, d0 :: ds, xs, d, h, e => by
    obtain ⟨x, r, rfl, hx, t⟩ := reps_cons_inv h
    show ∃ v, List.lookup f ((n, x) :: ns.zip r) = some v ∧ _
    have e' : List.lookup f ((n, d0) :: ns.zip ds) = some d := e
    rw [List.lookup_cons] at e' ⊢
    cases q : (f == n) with
    | true =>
      rw [q] at e'
      cases e'
      exact ⟨x, rfl, hx⟩
    | false =>
      rw [q] at e'
      exact zip_lookup t e'
theorem zip_lookup_none {f : Str} {β : Type} : ∀ {ns : List Str} {ds : List D} {xs : List β}, ds.length = xs.length → (ns.zip ds).lookup f = none → (ns.zip xs).lookup f = none
  | [], ds, xs, h, e => by cases xs <;> rfl
  | n :: ns, [], [], h, e => rfl
  | n :: ns, d0 :: ds, x :: xs, h, e => by
    have e' : List.lookup f ((n, d0) :: ns.zip ds) = none := e
    show List.lookup f ((n, x) :: ns.zip xs) = none
    rw [List.lookup_cons] at e' ⊢
    cases q : (f == n) with
    | true => rw [q] at e'; cases e'
    | false =>
      rw [q] at e'
      exact zip_lookup_none (by simpa using h) e'
def insD (d : D) (μ : Mu) : Option (Addr × List Str × List D) := match d with
  | .obj C ns ds => some (C, ns, ds)
  | .mref k => match μ[k]? with
    | some (.ins C ns ds) => some (C, ns, ds)
    | _ => none
  | _ => none
theorem SR.ins {c : Ct} {ρ : Rho} {μ : Mu} {g : G} {σ : L2.St} {H : Hp} (s : SR c ρ μ g σ H) {d : D} {v : V} {C : Addr} {ns : List Str} {ds : List D} (r : GRep c.K g d v) (h : insD d μ = some (C, ns, ds)) :
    ∃ a dx xs, v = .ref a ∧ H a = some (.ins C dx (ns.zip xs)) ∧ ns.length = xs.length ∧ GReps c.K g ds xs := by
  unfold insD at h
  split at h
  · cases h
    unfold GRep Rep at r
    obtain ⟨a, dx, xs, rfl, h1, h2, h3⟩ := r
    exact ⟨a, dx, xs, rfl, s.sub _ _ h1, h2, h3⟩
  · rename_i k
    split at h
    · rename_i C' ns' ds' e
      cases h
      unfold GRep Rep at r
      obtain ⟨a, h1, rfl⟩ := r
      obtain ⟨_, dx, xs, q1, q2, q3⟩ := s.amb _ a _ h1 e
      exact ⟨a, dx, xs, rfl, q1, q2, q3⟩
    · cases h
  · cases h
def putN : List Str → Str → List Str
  | [], f => [f]
  | g :: r, f => if g = f then g :: r else g :: putN r f
def putA {α : Type} : List Str → List α → Str → α → List α
  | [], _, _, v => [v]
  | g :: r, x :: xs, f, v => if g = f then v :: xs else x :: putA r xs f v
  | _ :: _, [], _, _ => []
theorem putF_zip {f : Str} {v : V} : ∀ {ns : List Str} {xs : List V}, ns.length = xs.length → putF f v (ns.zip xs) = (putN ns f).zip (putA ns xs f v)
  | [], xs, h => by cases xs <;> first | rfl | cases h
  | g :: ns, [], h => by cases h
  | g :: ns, x :: xs, h => by
    show (if g = f then (g, v) :: ns.zip xs else (g, x) :: putF f v (ns.zip xs)) = (if g = f then g :: ns else g :: putN ns f).zip (if g = f then v :: xs else x :: putA ns xs f v)
    by_cases q : g = f
    · rw [if_pos q, if_pos q, if_pos q]
      rfl
    · rw [if_neg q, if_neg q, if_neg q, putF_zip (by simpa using h)]
      rfl
theorem putA_reps {K : Fg} {ads : List Addr} {B : Hp} {f : Str} {d : D} {v : V} (hv : Rep K ads B d v) : ∀ {ns : List Str} {ds : List D} {xs : List V}, ns.length = xs.length → Reps K ads B ds xs → Reps K ads B (putA ns ds f d) (putA ns xs f v)
  | [], ds, xs, h, r => reps_cons hv reps_nil
  | g :: ns, ds, [], h, r => by cases h
  | g :: ns, [], x :: xs, h, r => by
    have q := reps_nil_inv r
    cases q
  | g :: ns, d0 :: ds, x :: xs, h, r => by
    obtain ⟨y, t, e, hy, ht⟩ := reps_cons_inv r
    cases e
    show Reps K ads B (if g = f then d :: ds else d0 :: putA ns ds f d) (if g = f then v :: xs else x :: putA ns xs f v)
    by_cases q : g = f
    · rw [if_pos q, if_pos q]
      exact reps_cons hv ht
    · rw [if_neg q, if_neg q]
      exact reps_cons hy (putA_reps hv (by simpa using h) ht)
theorem putNA {α : Type} {f : Str} {v : α} : ∀ {ns : List Str} {xs : List α}, ns.length = xs.length → (putN ns f).length = (putA ns xs f v).length
  | [], xs, h => rfl
  | g :: ns, [], h => by cases h
  | g :: ns, x :: xs, h => by
    show (if g = f then g :: ns else g :: putN ns f).length = (if g = f then v :: xs else x :: putA ns xs f v).length
    by_cases q : g = f
    · rw [if_pos q, if_pos q]; exact h
    · rw [if_neg q, if_neg q, List.length_cons, List.length_cons, putNA (by simpa using h)]
section
variable {X : Cx} {W : WX} {e o a b : Expr} {t u ta tb : TD} {tl : TL} {f m : Str} {pos : Pos}
def dFld (S : List Addr) (f : Str) (t : TD) : TD := fun ρ => M.bind (t ρ) fun d μ => match insD d μ with
  | some (C, ns, ds) => if C ∈ S then match fldD ns ds f with
    | some y => some (.ok y, μ)
    | none => none else none
  | none => none
theorem de_fld {S : List Addr} (hS : ∀ C ∈ S, Cls X.K C ∧ NoAttr X.K C f) (he : DE X W e t) (hb : attributeBase e f X.env (eval e X.env) = eval e X.env := by rfl) : DE X W (.Attribute e f pos) (dFld S f t) := by
  obtain ⟨te, p, r⟩ := he.ex
  refine ⟨_, pe_fld p hb, fun c hc ρ μ g σ H Q rr μ' s hh hx k => ?_⟩
  refine (r c hc).then_ s hh hx fun x μ1 h1 v1 H1 g1 l1 s1 r1 hx1 => ?_
  cases e0 : insD x μ1 with
  | none => rw [e0] at h1; cases h1
  | some q =>
    obtain ⟨C, ns, ds⟩ := q
    rw [e0] at h1
    have h1' : (if C ∈ S then match fldD ns ds f with
      | some y => some (Res.ok y, μ1)
      | none => none else none) = some (rr, μ') := h1
    by_cases z : C ∈ S
    · rw [if_pos z] at h1'
      cases e1 : fldD ns ds f with
      | none => rw [e1] at h1'; cases h1'
      | some y =>
        rw [e1] at h1'
        cases h1'
        obtain ⟨a, dx, xs, rfl, h2, h3, h4⟩ := s1.ins r1 e0
        obtain ⟨v, h5, h6⟩ := zip_lookup h4 e1
        exact ⟨a, C, dx, _, v, rfl, h2, (hS C z).1, (hS C z).2, h5, k _ rfl v H1 g1 l1 s1 h6⟩
    · rw [if_neg z] at h1'
      cases h1'
def dsFld (S : List Addr) (f : Str) (te to' : TD) : TO' := dsE te fun y => dsE to' fun d ρ μ => match d with
  | .mref k => match μ[k]? with
    | some (.ins C ns ds) => if C ∈ S ∧ ns.length < 1000 then some (.nx ρ, μ.set k (.ins C (putN ns f) (putA ns ds f y))) else none
    | _ => none
  | _ => none
theorem ds_fld {S : List Addr} {pos' : Pos} {te to' : TD} (hS : ∀ C ∈ S, Cls X.K C ∧ NoAttr X.K C f) (he : DE X W e te) (ho : DE X W o to') (hs : swapsWith e (some (.Attribute o f pos')) pos.line X.env = pure false := by rfl) : DS X W (.Assign [.Attribute o f pos'] e pos) (dsFld S f te to') := by
  obtain ⟨t1, p1, r1⟩ := he.ex
  obtain ⟨t2, p2, r2⟩ := ho.ex
  refine ⟨_, ps_fld p2 p1 hs, fun c hc ρ μ g σ H D₀ out μ' s h k => ?_⟩
  refine (r1 c hc).stm s h k fun y μ1 h1 v1 H1 g1 l1 s1 rp1 k1 => ?_
  refine (r2 c hc).stm s1 h1 k1 fun d μ2 h2 v2 H2 g2 l2 s2 rp2 k2 => ?_
  cases d <;> first | (cases h2; done) | skip
  rename_i n
  have h2' : (match μ2[n]? with
    | some (.ins C ns ds) => if C ∈ S ∧ ns.length < 1000 then some (Out.nx ρ, μ2.set n (.ins C (putN ns f) (putA ns ds f y))) else none
    | _ => none) = some (out, μ') := h2
  cases e0 : μ2[n]? with
  | none => rw [e0] at h2'; cases h2'
  | some mo =>
    rw [e0] at h2'
    cases mo with
    | ins C ns ds =>
      have h3 : (if C ∈ S ∧ ns.length < 1000 then some (Out.nx ρ, μ2.set n (.ins C (putN ns f) (putA ns ds f y))) else none) = some (out, μ') := h2'
      by_cases z : C ∈ S ∧ ns.length < 1000
      · rw [if_pos z] at h3
        cases h3
        unfold GRep Rep at rp2
        obtain ⟨a, ha, rfl⟩ := rp2
        obtain ⟨q1, dx, xs, q2, q3, q4⟩ := s2.amb n a _ ha e0
        rcases q1 with q1 | q1
        · cases q1
        refine ⟨a, C, dx, _, rfl, q2, (hS C z.1).1, (hS C z.1).2, ?_, ?_⟩
        · rw [List.length_zip, ← q3, Nat.min_self]; exact z.2
        · refine k2 σ _ g2 (Le.refl _) (s2.wrtA (m' := .ins C (putN ns f) (putA ns ds f y)) ha e0 q1 ⟨dx, putA ns xs f v1, ?_, putNA q3, putA_reps (l2.rep rp1) q3 q4⟩)
          rw [upd_same, putF_zip q3]
      · rw [if_neg z] at h3
        cases h3
    | _ => cases h2'
structure KnownM (P : Program) (w : World) (K : Fg) (mg : Str → Option Value) (base : Heap) (C : Addr) (m : Str) (k n : Nat) (F : List D → M D) : Prop where
  cl : Cls K C
  ex : ∃ f fd ps, Meth K C m f ∧ Binds K fd ps [] ∧ ps.length = n ∧ FnOk P w K mg base (L2.CX P w) k f fd ps (spD K n F)
def dMeth (C : Addr) (m : Str) (F : List D → M D) (n : Nat) (t : TD) (tl : TL) : TD := fun ρ => M.bind (t ρ) fun d μ => match insD d μ with
  | some (C', ns, ds) => if C' = C ∧ fldD ns ds m = none then M.bind (tl ρ) (fun ds => if ds.length + 1 = n then M.nx (F (d :: ds)) else M.stuck) μ else none
  | none => none
def tyRight (C : Addr) : D → Option Value
  | .int _ => some (.type "int")
  | .obj C' _ _ => if C' = C then some (.ref C) else none
  | _ => none
def dEqOwn (C : Addr) (F : List D → M D) (t u : TD) : TD := fun ρ => M.bind (t ρ) fun x => M.bind (u ρ) fun y μ => match x with
  | .obj C' _ _ => if C' = C then match tyRight C y with
    | some _ => match F [x, y] μ with
      | some (.ok (.bl b), μ') => some (.ok (.bl b), μ')
      | _ => none
    | none => none else none
  | _ => none
def rEqOwn (K : Fg) (C : Addr) (F : List D → M D) : R2 := fun x y H Q => ∃ a dx fs tb, x = .ref a ∧ H a = some (.ins C dx fs) ∧ ((∃ i, y = .int i ∧ tb = Value.type "int") ∨ (∃ b dy gs, y = .ref b ∧ H b = some (.ins C dy gs) ∧ tb = Value.ref C)) ∧ spD K 2 F [x, y] H (fun v H' => (∃ b, v = .bl b) ∧ Q v H') E0
structure KnownEq (P : Program) (w : World) (K : Fg) (mg : Str → Option Value) (base : Heap) (C : Addr) (k : Nat) (F : List D → M D) : Prop where
  hi : PySem.W.subIn K (.type "int") (.ref C) = some false
  ex : ∃ f fd ps, PySem.W.findIn K (.ref C) "__eq__" = some (some (.ref f)) ∧ PySem.W.isFn K (.ref f) = true ∧ Binds K fd ps [] ∧ FnOk P w K mg base (L2.CX P w) k f fd ps (spD K 2 F)
def gIsB (neg : Bool) : D → D → Option D
  | .bl a, .bl b => some (.bl (if neg then !(a == b) else a == b))
  | _, _ => none
end
end DL

set_option Elab.async false
set_option linter.all false
set_option maxRecDepth 100000
set_option maxHeartbeats 4000000
set_option autoImplicit false
namespace DL
open PySem PySem.Spec L2
section
variable {X : Cx} {W : WX} {e o a b : Expr} {t u ta tb : TD} {tl : TL} {pos : Pos}
def gIs2 (neg : Bool) : D → D → Option D
  | .bl a, .bl b => some (.bl (if neg then !(decide (a = b)) else decide (a = b)))
  | _, _ => none
theorem gIs2_some {neg : Bool} {x y d : D} (h : gIs2 neg x y = some d) : ∃ a b, x = .bl a ∧ y = .bl b ∧ d = .bl (if neg then !(decide (a = b)) else decide (a = b)) := by
  cases x <;> cases y <;> first | (cases h; exact ⟨_, _, rfl, rfl, rfl⟩) | cases h
theorem od_isB : OpD X (compareOp .Is) (gIs2 false) := opD_pure op_isBl fun g H x y vx vy Q d _ rx ry h k => by
  obtain ⟨a, b, rfl, rfl, rfl⟩ := gIs2_some h
  exact ⟨a, b, rep_flat (d := .bl a) rfl rx, rep_flat (d := .bl b) rfl ry, k _ (flat_rep rfl)⟩
structure Own (K : Fg) (C : Addr) : Prop where
  cl : Cls K C
  ha : PySem.W.findIn K (.ref C) "__class__" = some (some (.builtin "object.__class__"))
  hn : PySem.W.specialIn K (.builtin "object.__class__") "__get__" = some (some (.builtin "getset_descriptor.__get__"))
  htk : PySem.W.takesIn K (.builtin "object.__class__") = some true
  hm : PySem.W.mroIn K C (.type "object") = some true
def tyD (S : List Addr) (d : D) (μ : Mu) : Option Value := match d with
  | .non => some (.type "NoneType")
  | .bl _ => some (.type "bool")
  | .int _ => some (.type "int")
  | .str _ => some (.type "str")
  | .tup _ => some (.type "tuple")
  | .kt _ => some (.type "tuple")
  | .lst _ => some (.type "list")
  | .rd _ => some (.type "list")
  | .dk _ _ => some (.type "dict")
  | .obj C _ _ => if C ∈ S then some (.ref C) else none
  | .mref k => match μ[k]? with
    | some (.lst _) => some (.type "list")
    | some (.dk _ _) => some (.type "dict")
    | some (.dt _ _) => some (.type "dict")
    | some (.ins C _ _) => if C ∈ S then some (.ref C) else none
    | _ => none
  | _ => none
theorem sqL_ty {K : Fg} {H : Hp} {a : Addr} {xs : List V} (h : SqL K H a xs) : TyX K H (.ref a) (.type "list") := by
  rcases h with (h | ⟨o, h⟩) | ⟨o, its, n, h1, h2, _⟩
  · exact .base (.lst h)
  · exact .base (.frz h)
  · exact .kList h1 h2
theorem sqT_ty {K : Fg} {H : Hp} {a : Addr} {xs : List V} (h : SqT K H a xs) : TyX K H (.ref a) (.type "tuple") := by
  rcases h with (h | ⟨o, h⟩) | ⟨o, its, n, h1, h2, _⟩
  · exact .base (.tup h)
  · exact .fTuple h
  · exact .kTuple h1 h2
theorem own_ty {K : Fg} {H : Hp} {a C dx : Addr} {fs : List (Str × V)} (o : Own K C) (h : H a = some (.ins C dx fs)) : TyX K H (.ref a) (.ref C) := .base (.ins h o.cl o.ha o.hn o.htk o.hm)
theorem SR.ty {c : Ct} {ρ : Rho} {μ : Mu} {g : G} {σ : L2.St} {H : Hp} (s : SR c ρ μ g σ H) {S : List Addr} (hS : ∀ C ∈ S, Own c.K C) {d : D} {v : V} {ty : Value} (r : GRep c.K g d v) (h : tyD S d μ = some ty) : TyX c.K H v ty := by
  unfold tyD at h
  split at h
  · cases h; rw [rep_flat (d := .non) rfl r]; exact .base .non
  · rename_i b; cases h; rw [rep_flat (d := .bl b) rfl r]; exact .base (.bl b)
  · rename_i i; cases h; rw [rep_flat (d := .int i) rfl r]; exact .base (.int i)
  · rename_i z; cases h; rw [rep_flat (d := .str z) rfl r]; exact .base (.str z)
  · cases h
    unfold GRep Rep at r
    obtain ⟨a, xs, rfl, h1, h2⟩ := r
    exact .base (.tup (s.sub _ _ h1))
  · cases h
    unfold GRep Rep at r
    obtain ⟨a, xs, rfl, h1, h2⟩ := r
    exact sqT_ty (sqT_mono h1 s.sub)
  · cases h
    unfold GRep Rep at r
    obtain ⟨a, xs, rfl, h1, h2⟩ := r
    exact .base (.lst (s.sub _ _ h1))
  · cases h
    unfold GRep Rep at r
    obtain ⟨a, xs, rfl, h1, h2⟩ := r
    exact sqL_ty (sqL_mono h1 s.sub)
  · cases h
    unfold GRep Rep at r
    obtain ⟨a, xs, rfl, h1, h2, h3⟩ := r
    exact .base (.dK (s.sub _ _ h1))
  · rename_i C ns ds
    split at h
    · rename_i z
      cases h
      unfold GRep Rep at r
      obtain ⟨a, dx, xs, rfl, h1, h2, h3⟩ := r
      exact own_ty (hS C z) (s.sub _ _ h1)
    · cases h
  · rename_i k
    unfold GRep Rep at r
    obtain ⟨a, ha, rfl⟩ := r
    split at h
    · rename_i ds e
      cases h
      obtain ⟨_, xs, q2, q3⟩ := s.amb _ a _ ha e
      exact .base (.lst q2)
    · rename_i ks ds e
      cases h
      obtain ⟨_, xs, q2, q3⟩ := s.amb _ a _ ha e
      exact .base (.dK q2)
    · rename_i ks ds e
      cases h
      obtain ⟨_, xs, q2, q3⟩ := s.amb _ a _ ha e
      exact .base (.dT q2)
    · rename_i C ns ds e
      split at h
      · rename_i z
        cases h
        obtain ⟨_, dx, xs, q2, q3⟩ := s.amb _ a _ ha e
        exact own_ty (hS C z) q2
      · cases h
    · cases h
  · cases h
def clsD : D → Option Value
  | .ty n => some (.type n)
  | .ref C => some (.ref C)
  | _ => none
theorem clsD_v {K : Fg} {ads : List Addr} {B : Hp} {d : D} {v : V} {w : Value} (r : Rep K ads B d v) (h : clsD d = some w) : ClsV v w := by
  cases d <;> first | (cases h; done) | skip
  · cases h; rw [rep_flat (d := .ref _) rfl r]; exact .own _
  · cases h; rw [rep_flat (d := .ty _) rfl r]; exact .ty _
abbrev Kit := List (Value × Value × Bool)
def kitD (kI : Kit) (t c : Value) : Option Bool := (kI.find? fun x => decide (x.1 = t ∧ x.2.1 = c)).map (·.2.2)
def KitOk (K : Fg) (kI : Kit) : Prop := ∀ x ∈ kI, PySem.W.kitOne K x.1 x.2.1 = some x.2.2
theorem kitD_some {K : Fg} {kI : Kit} (h : KitOk K kI) {t c : Value} {b : Bool} (e : kitD kI t c = some b) : PySem.W.kitOne K t c = some b := by
  unfold kitD at e
  obtain ⟨x, h1, rfl⟩ := Option.map_eq_some_iff.mp e
  have h2 := List.find?_some h1
  obtain ⟨q1, q2⟩ := of_decide_eq_true h2
  rw [← q1, ← q2]
  exact h x (List.mem_of_find?_eq_some h1)
def dIsi (S : List Addr) (kI : Kit) (t u : TD) : TD := fun ρ => M.bind (t ρ) fun x => M.bind (u ρ) fun y μ => match tyD S x μ, clsD y with
  | some ty, some c => match kitD kI ty c with
    | some b => some (.ok (.bl b), μ)
    | none => none
  | _, _ => none
theorem de_isi {S : List Addr} {kI : Kit} {p : Pos} (hS : ∀ C ∈ S, Own X.K C) (hK : KitOk X.K kI) (ha : DE X W a t) (hb : DE X W b u) (hm : X.mg "isinstance" = none) (hg : Gl X "isinstance" := by rfl) (he : starEach [a, b] X.env = (false, eval a X.env) :: starEach [b] X.env := by rfl) (he2 : starEach [b] X.env = [(false, eval b X.env)] := by rfl) (hpl : (backTo pos (starEach [b] X.env)).any (·.1) = false := by rfl) :
    DE X W (.Call (.Name "isinstance" p) [a, b] [] pos) (dIsi S kI t u) := by
  obtain ⟨te, p, r⟩ := ha.ex
  obtain ⟨ue, pu, ru⟩ := hb.ex
  refine ⟨_, pe_callB call_isi hg hm (by decide +kernel) (pa_cons p (pa_cons pu pa_nil he2) he) (he := he) (hpl := hpl), fun c hc ρ μ g σ H Q rr μ' s hh hx k => ?_⟩
  refine (r c hc).then_ s hh hx fun x μ1 h1 v1 H1 g1 l1 s1 r1 hx1 => ?_
  refine (ru c hc).then_ s1 h1 hx1 fun y μ2 h2 v2 H2 g2 l2 s2 r2 hx2 => ?_
  cases e1 : tyD S x μ2 with
  | none => rw [e1] at h2; cases h2
  | some ty =>
    cases e2 : clsD y with
    | none => rw [e1, e2] at h2; cases h2
    | some w =>
      rw [e1, e2] at h2
      have h2' : (match kitD kI ty w with
        | some b => some (Res.ok (D.bl b), μ2)
        | none => none) = some (rr, μ') := h2
      cases e3 : kitD kI ty w with
      | none => rw [e3] at h2'; cases h2'
      | some b =>
        rw [e3] at h2'
        cases h2'
        have tx := s2.ty (S := S) (by rw [hc]; exact hS) (l2.rep r1) e1
        rw [hc] at tx
        exact ⟨v1, v2, ty, w, b, rfl, clsD_v r2 e2, tx, kitD_some hK e3, k _ rfl _ H2 g2 (l1.trans l2) s2 (flat_rep rfl)⟩
end
end DL

set_option Elab.async false
set_option linter.all false
set_option maxRecDepth 100000
set_option maxHeartbeats 4000000
set_option autoImplicit false
namespace DL
open PySem PySem.Spec L2
section
variable {X : Cx} {W : WX} {e o a b : Expr} {t u ta tb : TD} {tl : TL} {pos : Pos}
theorem de_bltn {x : Str} {d : D} {v : V} {w : Value} {pos : Pos} (hm : X.mg x = none) (hv : bootBuiltins x = some w) (hf : d.flat = some v) (r : RelV v w) (hg : Gl X x := by rfl) (hn : x ≠ "__name__" := by decide) (hd : (x == ("__debug__" : Str)) = false := by decide) : DE X W (.Name x pos) (dC d) :=
  ⟨_, pe_bltn hg hm hv r hn hd, fun c hc => re_C hf⟩
end
section
variable {c : Ct} {μ : Mu} {g g' : G} {σ : L2.St} {H H' : Hp} {ρ : Rho} {p : Addr} {o : HO}
theorem SH.addU (h : SH c μ g H) (hp : H p = none) : SH c μ g (upd H p o) where
  sub := fun a u e => by
    rw [upd_ne (fun z => by rw [z, h.freshB hp] at e; cases e)]
    exact h.sub a u e
  own := h.own
  ownNew := h.ownNew
  ownAt := fun a e => by
    rw [upd_ne (fun z => e (by rw [z]; exact h.freshO hp))]
    exact h.ownAt a e
  alen := h.alen
  amb := fun k a m e1 e2 => by
    obtain ⟨q1, q2⟩ := h.amb k a m e1 e2
    exact ⟨q1, q2.step (Le.refl g) (upd_ne (h.ambNe0 hp e1 e2))⟩
  old := fun a u e n => by
    rw [upd_ne (fun z => by rw [z, h.fresh0 hp] at e; cases e)]
    exact h.old a u e n
  oldT := fun a u e => by
    rw [upd_ne (fun z => by rw [z, h.fresh0 hp] at e; cases e)]
    exact h.oldT a u e
  newB := h.newB
  b0 := h.b0
  a0 := h.a0
  aNew := h.aNew
  tmpT := fun a u e => by
    obtain ⟨q1, q2⟩ := h.tmpT a u e
    exact ⟨q1, by rw [upd_ne (fun z => by rw [z, h.freshO hp] at q1; cases q1)]; exact q2⟩
theorem SR.addU (h : SR c ρ μ g σ H) (hp : H p = none) : SR c ρ μ g σ (upd H p o) :=
  { h.toSH.addU hp with
    slen := h.slen
    slot := fun i s x e1 e2 => (h.slot i s x e1 e2).step (Le.refl g) fun q e => ⟨e, upd_ne (fun z => by rw [z, h.freshO hp] at e; cases e)⟩ }
theorem SH.a0le (h : SH c μ g H) : c.A0.length ≤ μ.length := by
  rw [← h.alen]
  by_cases q : c.A0.length ≤ g.ads.length
  · exact q
  · exfalso
    have hl : g.ads.length < c.A0.length := by omega
    have e := h.a0 g.ads.length _ (List.getElem?_eq_getElem hl)
    have := (List.getElem?_eq_some_iff.mp e).1
    omega
end
structure KnownC (P : Program) (w : World) (K : Fg) (mg : Str → Option Value) (base : Heap) (x : Str) (C : Addr) (k n : Nat) (F : List D → M D) : Prop where
  hm : mg x = some (.ref C)
  ex : ∃ f fd ps, Mk K C f ∧ Binds K fd ps [] ∧ ps.length = n ∧ FnOk P w K mg base (L2.CX P w) k f fd ps (spD K n F)
theorem KnownC.scope {P : Program} {w : World} {K : Fg} {mg : Str → Option Value} {base : Heap} {x : Str} {C : Addr} {k n : Nat} {F : List D → M D} (h : KnownC P w K mg base x C k n F) : KnownC P w K mg base x C k n (scopeF F) := by
  obtain ⟨f, fd, ps, h2, h3, h4, h5⟩ := h.ex
  exact ⟨h.hm, f, fd, ps, h2, h3, h4, h5.imp spD_scope⟩
def made (C : Addr) (F : List D → M D) (n : Nat) (ds : List D) (μ : Mu) : Option (Res Unit × Mu) := if ds.length + 1 = n then match F (.mref μ.length :: ds) (μ ++ [.ins C [] []]) with
  | some (.ok .non, μ') => some (.ok (), μ')
  | some (.ex C ns es, μ') => some (.ex C ns es, μ')
  | _ => none else none
def dMake (C : Addr) (F : List D → M D) (n : Nat) (tl : TL) : TD := fun ρ => M.bind (tl ρ) fun ds μ => match made C F n ds μ with
  | some (.ok (), μ') => match μ'[μ.length]? with
    | some (.ins C' ns es) => if (D.lowAll μ.length es && (μ'.take μ.length).all (MO.low μ.length)) = true then some (.ok (.obj C' ns es), μ'.take μ.length) else none
    | _ => none
  | some (.ex C ns es, μ') => some (.ex C ns es, μ')
  | none => none
def dMakeM (C : Addr) (F : List D → M D) (n : Nat) (tl : TL) : TD := fun ρ => M.bind (tl ρ) fun ds μ => match made C F n ds μ with
  | some (.ok (), μ') => some (.ok (.mref μ.length), μ')
  | some (.ex C ns es, μ') => some (.ex C ns es, μ')
  | none => none
section
variable {X : Cx} {CX : CXT} {k : Nat} {f C : Addr} {fd : FuncData} {ps : List Str} {sp : Sp} {E : L2.St → XK} {x m : Str} {p pos apos : Pos} {e o : Expr} {es : List Expr} {ta : TE} {t : TA}
def tMakeS (C : Addr) (sp : Sp) (E : L2.St → XK) (t : TA) : TE := fun σ H Q => t σ H fun vs H1 => ∀ x dx, H1 x = none → H1 dx = none → dx ≠ x →
  sp (.ref x :: vs) (upd (upd H1 dx (.own x)) x (.ins C dx [])) (fun v H2 => v = .non ∧ Q (.ref x) H2) (E σ)
theorem run_makeS {pins : List (Addr × Obj)} {σ : L2.St} {H : Hp} {s : Shared} {Q : VK} {us : List Value} {vs : List V} (M : Mk X.K C f) (F : FnOk X.prog X.w X.K X.mg X.base CX k f fd ps sp) (hr : Room (k + 1) X.A) (hb : Binds X.K fd ps [])
    (hx : PassesAt CX X σ (E σ)) (I : Inv X pins σ H s) (r : Vals vs us)
    (h : ∀ x dx, H x = none → H dx = none → dx ≠ x → sp (.ref x :: vs) (upd (upd H dx (.own x)) x (.ins C dx [])) (fun v H2 => v = .non ∧ Q (.ref x) H2) (E σ)) :
    wpAny (model X.prog X.w) X.A (call (.ref C) us) (EP X pins σ Q) X.xe s := by
  have hq := h (s.heap.objs.size + 1) s.heap.objs.size (I.hok.fresh (Nat.le_succ _)) (I.hok.fresh (Nat.le_refl _)) (Nat.ne_of_lt (Nat.lt_succ_self _))
  have I2 := Inv.made (C := C) I
  have r2 : Vals (V.ref (s.heap.objs.size + 1) :: vs) (Value.ref (s.heap.objs.size + 1) :: us) := .cons rfl r
  have hl : (Value.ref (s.heap.objs.size + 1) :: us).length = ps.length := by
    have e := r2.length
    rw [F.len _ _ _ _ hq] at e
    exact e.symm
  have bb := hb _ (Value.ref (s.heap.objs.size + 1) :: us) I2.kIn (by rw [List.append_nil]; exact hl)
  rw [List.append_nil] at bb
  refine wpAny_call (make_map (f := f) I.kIn M.makes M.init (beq_iff_eq.mp M.fn) (codeAny_mono (F.run _ X.stack _ _ ⟨Value.ref (s.heap.objs.size + 1) :: us, []⟩ (Value.ref (s.heap.objs.size + 1) :: us) _ _ (E σ) (hr.make C us [])
    (I2.env0.make C us []) bb r2 hq) fun r s' hq' => ?_))
  cases r with
  | error e => exact hx pins _ _ e s' I2 hq'
  | ok fl =>
    cases fl with
    | ret u =>
      obtain ⟨v, H', I3, rv, ev, q3⟩ := I2.after hq'
      subst ev
      exact ⟨rv, ⟨V.ref (s.heap.objs.size + 1), H', I3, rfl, q3⟩⟩
    | next => exact False.elim hq'
    | brk => exact False.elim hq'
    | cont => exact False.elim hq'
theorem pe_makeS (M : Mk X.K C f) (F : FnOk X.prog X.w X.K X.mg X.base CX k f fd ps sp) (hr : Room (k + 1) X.A) (hg : Gl X x) (hm : X.mg x = some (.ref C)) (hb : Binds X.K fd ps []) (hx : ∀ σ, PassesAt CX X σ (E σ))
    (ha : PA X (e :: es) t) (hdb : (x == ("__debug__" : Str)) = false := by decide) (he : starEach (e :: es) X.env = (false, eval e X.env) :: starEach es X.env := by rfl) (hpl : (backTo pos (starEach es X.env)).any (·.1) = false := by rfl) :
    PE X (.Call (.Name x p) (e :: es) [] pos) (tMakeS C sp E t) := by
  refine ⟨fun pins s σ H Q I h => ?_⟩
  refine wpAny_Call_Name_kw (ld_glob I hg hm ?_ hdb)
  refine PySem.W.callWith_K (h₀ := X.base) I.ok.mod.kin M.kp (thn (ha.run pos pins s σ H _ I h) fun us s1 ⟨vs, H1, I1, r, q⟩ => ⟨I1.kIn, ?_⟩) he hpl
  exact run_makeS M F hr hb (hx σ) I1 r q
end
end DL

set_option Elab.async false
set_option linter.all false
set_option maxRecDepth 100000
set_option maxHeartbeats 4000000
set_option autoImplicit false
namespace DL
open PySem PySem.Spec L2
theorem made_some {C : Addr} {F : List D → M D} {n : Nat} {ds : List D} {μ μ' : Mu} {r : Res Unit} (h : made C F n ds μ = some (r, μ')) :
    ds.length + 1 = n ∧ ((F (.mref μ.length :: ds) (μ ++ [.ins C [] []]) = some (.ok .non, μ') ∧ r = .ok ()) ∨ (∃ C' ns es, F (.mref μ.length :: ds) (μ ++ [.ins C [] []]) = some (.ex C' ns es, μ') ∧ r = .ex C' ns es)) := by
  unfold made at h
  by_cases q : ds.length + 1 = n
  · rw [if_pos q] at h
    refine ⟨q, ?_⟩
    split at h
    · rename_i μ2 e
      cases h
      exact .inl ⟨e, rfl⟩
    · rename_i C' ns es μ2 e
      cases h
      exact .inr ⟨C', ns, es, e, rfl⟩
    · cases h
  · rw [if_neg q] at h
    cases h
section
variable {c : Ct} {ρ : Rho} {μ μ' : Mu} {g g' : G} {σ : L2.St} {H H' : Hp} {x dx C : Addr}
theorem SR.born (s : SR c ρ μ g σ H) (hx : H x = none) (hd : H dx = none) (ne : dx ≠ x) : SR c ρ (μ ++ [.ins C [] []]) ((g.own1 x 0).amb1 x) σ (upd (upd H dx (.own x)) x (.ins C dx [])) ∧ Le g ((g.own1 x 0).amb1 x) ∧ ((g.own1 x 0).amb1 x).ads[μ.length]? = some x := by
  have s1 : SR c ρ μ g σ (upd H dx (.own x)) := s.addU hd
  have hx1 : upd H dx (HO.own x) x = none := by rw [upd_ne (Ne.symm ne)]; exact hx
  have s2 := s1.tmp hx1 (o := .ins C dx [])
  refine ⟨s2.amb1 (m := .ins C [] []) (own1_at g x 0) (s1.freshT hx1) ⟨dx, [], upd_same, rfl, reps_nil⟩, (le_own1 g x 0).trans (le_amb1 _ x), ?_⟩
  show (g.ads ++ [x])[μ.length]? = some x
  rw [← s.alen, List.getElem?_append_right (Nat.le_refl _), Nat.sub_self]
  rfl
theorem born_O (hx : g.O x = none) {a : Addr} {i : Nat} (h : g.O a = some (.inl i)) : ((g.own1 x 0).amb1 x).O a = some (.inl i) := by
  have z : a ≠ x := fun z => by rw [z, hx] at h; cases h
  show (if a = x then some (Sum.inr g.ads.length) else if a = x then some (Sum.inl 0) else g.O a) = _
  rw [if_neg z, if_neg z]
  exact h
theorem SR.grown (s : SR c ρ μ g σ H) (hx : H x = none) (hd : H dx = none) (ne : dx ≠ x) (l : Le ((g.own1 x 0).amb1 x).enter g') (s' : SH (Ct.call c.K ((g.own1 x 0).amb1 x) (upd (upd H dx (.own x)) x (.ins C dx []))) μ' g' H')
    {C' : Addr} {ns : List Str} {es : List D} (e : μ'[μ.length]? = some (.ins C' ns es)) (lo : D.lowAll μ.length es = true) (lm : (μ'.take μ.length).all (MO.low μ.length) = true) :
    ∃ gf, Le g gf ∧ SR c ρ (μ'.take μ.length) gf σ H' ∧ GRep c.K gf (.obj C' ns es) (.ref x) := by
  obtain ⟨b1, b2, b3⟩ := s.born (C := C) hx hd ne
  have a1 := b1.after l s'
  have l1 := b2.trans (le_after l)
  have ea := l.a _ _ b3
  obtain ⟨q1, dx', xs, q2, q3, q4⟩ := a1.amb _ x _ ea e
  rcases q1 with q1 | q1
  · cases q1
  have f1 := a1.toSH.fzA ea e q1 q2
  have tk : (μ'.set μ.length MO.dead).take μ.length = μ'.take μ.length := by rw [List.take_set_of_le (Nat.le_refl _)]
  have cu := f1.2.cut (n := μ.length) s.toSH.a0le (by rw [tk]; exact lm)
  rw [tk] at cu
  have lb := l1.trans f1.1
  have lf : Le g (((((g.own1 x 0).amb1 x).after g').fz x (.ins C' dx' (ns.zip xs))).cut μ.length) := ⟨lb.b, fun k a h => by
    show (g'.ads.take μ.length)[k]? = some a
    rw [List.getElem?_take_of_lt (by rw [← s.alen]; exact (List.getElem?_eq_some_iff.mp h).1)]
    exact lb.a k a h, lb.t⟩
  refine ⟨_, lf, ?_, ?_⟩
  · exact { cu with
      slen := s.slen
      slot := fun i s0 x0 e1 e2 => (s.slot i s0 x0 e1 e2).step lf fun p hp => by
        have hO := born_O (x := x) (s.freshO hx) hp
        have nx : p ≠ x := fun z => by rw [z, s.freshO hx] at hp; cases hp
        have nd : p ≠ dx := fun z => by rw [z, s.freshO hd] at hp; cases hp
        refine ⟨cut_inl ?_, ?_⟩
        · show (if p = x then none else (((g.own1 x 0).amb1 x).after g').O p) = _
          rw [if_neg nx]
          exact after_inl b1.toSH hO
        · obtain ⟨o, ho⟩ := s.ownAt p (by rw [hp]; exact fun z => by cases z)
          rw [ho]
          exact s'.old p o (by show upd (upd H dx (.own x)) x _ p = _; rw [upd_ne nx, upd_ne nd]; exact ho) (b1.toSH.ownCall hO) }
  · have r := (f1.1).reps q4
    unfold GRep Rep
    refine ⟨x, dx', xs, rfl, upd_same, q3, ?_⟩
    exact belows_reps (n := μ.length) r lo
end
section
variable {X : Cx} {W : WX} {e o a b : Expr} {es : List Expr} {t u ta tb : TD} {tl : TL} {pos p : Pos} {x : Str} {C : Addr} {k n : Nat} {F : List D → M D}
theorem re_make {c : Ct} {te : TA} (ra : RA c W te tl) : RE c W (tMakeS C (spD c.K n F) (WE W) te) (dMake C F n tl) := fun ρ μ g σ H Q rr μ' s hh hx k => by
  refine ra.then_ s hh hx fun ds μ1 h1 vs H1 g1 l1 s1 r1 hx1 => ?_
  intro x dx fx fd ne
  obtain ⟨b1, b2, b3⟩ := s1.born (C := C) fx fd ne
  cases e0 : made C F n ds μ1 with
  | none => rw [e0] at h1; cases h1
  | some q =>
    obtain ⟨r0, μ2⟩ := q
    rw [e0] at h1
    obtain ⟨hl, hm⟩ := made_some e0
    have rep : GReps c.K ((g1.own1 x 0).amb1 x).enter (.mref μ1.length :: ds) (.ref x :: vs) := reps_cons (by unfold Rep; exact ⟨x, b3, rfl⟩) (b2.reps r1)
    rcases hm with ⟨eF, rfl⟩ | ⟨C', ns, es, eF, rfl⟩
    · have h1' : (match μ2[μ1.length]? with
        | some (.ins C' ns es) => if (D.lowAll μ1.length es && (μ2.take μ1.length).all (MO.low μ1.length)) = true then some (Res.ok (D.obj C' ns es), μ2.take μ1.length) else none
        | _ => none) = some (rr, μ') := h1
      refine ⟨.mref μ1.length :: ds, _, _, _, _, by rw [List.length_cons]; exact hl, b1.toSH.enter, rep, eF, fun d ed v H' g' l' s' rp => ?_, fun C ns es ed => by cases ed⟩
      cases ed
      refine ⟨rep_flat (d := .non) rfl rp, ?_⟩
      split at h1'
      · rename_i C' ns es e2
        by_cases z : (D.lowAll μ1.length es && (μ2.take μ1.length).all (MO.low μ1.length)) = true
        · rw [if_pos z] at h1'
          cases h1'
          obtain ⟨z1, z2⟩ := Bool.and_eq_true_iff.mp z
          obtain ⟨gf, lf, sf, rf⟩ := s1.grown fx fd ne l' s' e2 z1 z2
          exact k _ rfl (.ref x) H' gf (l1.trans lf) sf rf
        · rw [if_neg z] at h1'
          cases h1'
      · cases h1'
    · cases h1
      refine ⟨.mref μ1.length :: ds, _, _, _, _, by rw [List.length_cons]; exact hl, b1.toSH.enter, rep, eF, (fun d ed => by cases ed), fun C0 ns0 es0 ed d H' g' l' s' xx => ?_⟩
      cases ed
      refine hx1 _ _ _ rfl d H' _ (b2.trans (le_after l')) (b1.after l' s') (xx.after b1.toSH)
theorem de_make (hk : KnownC X.prog X.w X.K X.mg X.base x C k n F) (hr : Room (k + 1) X.A) (tk : Takes X W) (ha : DA X W (e :: es) tl) (hg : Gl X x := by rfl)
    (hdb : (x == ("__debug__" : Str)) = false := by decide) (he : starEach (e :: es) X.env = (false, eval e X.env) :: starEach es X.env := by rfl) (hpl : (backTo pos (starEach es X.env)).any (·.1) = false := by rfl) :
    DE X W (.Call (.Name x p) (e :: es) [] pos) (dMake C F n tl) := by
  obtain ⟨f, fd, ps, h2, h3, h4, h5⟩ := hk.ex
  obtain ⟨te, pa, ra⟩ := ha.ex
  exact ⟨_, pe_makeS h2 h5 hr hg hk.hm h3 (fun σ => passAt tk σ) pa hdb he hpl, fun c hc => by rw [← hc]; exact re_make (ra c hc)⟩
end
end DL

set_option Elab.async false
set_option linter.all false
set_option maxRecDepth 100000
set_option maxHeartbeats 4000000
set_option autoImplicit false
namespace DL
open PySem PySem.Spec L2
section
variable {κ : Type} [DecidableEq κ]
def valD {α : Type} (ks : List κ) (ds : List α) (k : κ) : Option α := ((ks.zip ds).find? fun kv => decide (kv.1 = k)).map (·.2)
def putKs (ks : List κ) (k : κ) : List κ := if k ∈ ks then ks else ks ++ [k]
def putVs {α : Type} (ks : List κ) (ds : List α) (k : κ) (d : α) : List α := if k ∈ ks then (ks.zip ds).map (fun kv => if kv.1 = k then d else kv.2) else ds ++ [d]
theorem any_zip {α : Type} {k : κ} : ∀ {ks : List κ} {xs : List α}, ks.length = xs.length → ((ks.zip xs).any fun kv => decide (kv.1 = k)) = decide (k ∈ ks)
  | [], xs, h => by cases xs <;> simp
  | g :: ks, [], h => by cases h
  | g :: ks, x :: xs, h => by
    have ih := any_zip (k := k) (ks := ks) (xs := xs) (by simpa using h)
    rw [List.zip_cons_cons, List.any_cons, ih]
    by_cases z : g = k
    · subst z; simp
    · have z' : k ≠ g := fun e => z e.symm
      simp [z, z']
theorem map_zip {α : Type} {k : κ} {v : α} : ∀ {ks : List κ} {xs : List α}, ks.length = xs.length → (ks.zip xs).map (fun kv => if kv.1 = k then (kv.1, v) else kv) = ks.zip ((ks.zip xs).map fun kv => if kv.1 = k then v else kv.2)
  | [], xs, h => by cases xs <;> rfl
  | g :: ks, [], h => by cases h
  | g :: ks, x :: xs, h => by
    have ih := map_zip (k := k) (v := v) (ks := ks) (xs := xs) (by simpa using h)
    rw [List.zip_cons_cons, List.map_cons, List.map_cons, ih, List.zip_cons_cons]
    by_cases z : g = k
    · simp [z]
    · simp [z]
theorem putK_zip {k : κ} {v : V} {ks : List κ} {xs : List V} (h : ks.length = xs.length) : putK (ks.zip xs) k v = (putKs ks k).zip (putVs ks xs k v) := by
  unfold putK putKs putVs
  rw [any_zip h]
  by_cases z : k ∈ ks
  · rw [if_pos (decide_eq_true z), if_pos z, if_pos z]
    exact map_zip h
  · rw [if_neg (by simpa using z), if_neg z, if_neg z, List.zip_append h]
    rfl
theorem put_len {α : Type} {k : κ} {v : α} {ks : List κ} {xs : List α} (h : ks.length = xs.length) : (putKs ks k).length = (putVs ks xs k v).length := by
  unfold putKs putVs
  by_cases z : k ∈ ks
  · rw [if_pos z, if_pos z, List.length_map, List.length_zip, ← h, Nat.min_self]
  · rw [if_neg z, if_neg z, List.length_append, List.length_append, h]
    rfl
theorem reps_mapzip {K : Fg} {ads : List Addr} {B : Hp} {k : κ} {d : D} {v : V} (hv : Rep K ads B d v) : ∀ {ks : List κ} {ds : List D} {xs : List V}, Reps K ads B ds xs → Reps K ads B ((ks.zip ds).map fun kv => if kv.1 = k then d else kv.2) ((ks.zip xs).map fun kv => if kv.1 = k then v else kv.2)
  | [], ds, xs, r => by simpa using reps_nil
  | g :: ks, [], xs, r => by rw [reps_nil_inv r]; simpa using reps_nil
  | g :: ks, d0 :: ds, xs, r => by
    obtain ⟨x, t, rfl, hx, ht⟩ := reps_cons_inv r
    rw [List.zip_cons_cons, List.zip_cons_cons, List.map_cons, List.map_cons]
    refine reps_cons ?_ (reps_mapzip hv ht)
    by_cases z : g = k
    · simp only [z, if_true]; exact hv
    · simp only [if_neg z]; exact hx
theorem put_reps {K : Fg} {ads : List Addr} {B : Hp} {k : κ} {d : D} {v : V} {ks : List κ} {ds : List D} {xs : List V} (hv : Rep K ads B d v) (r : Reps K ads B ds xs) : Reps K ads B (putVs ks ds k d) (putVs ks xs k v) := by
  unfold putVs
  by_cases z : k ∈ ks
  · rw [if_pos z, if_pos z]; exact reps_mapzip hv r
  · rw [if_neg z, if_neg z]; exact r.append (reps_cons hv reps_nil)
theorem val_reps {K : Fg} {ads : List Addr} {B : Hp} {k : κ} : ∀ {ks : List κ} {ds : List D} {xs : List V}, ks.length = xs.length → Reps K ads B ds xs →
    (valD ks ds k = none ∧ valV (ks.zip xs) k = none) ∨ (∃ d v, valD ks ds k = some d ∧ valV (ks.zip xs) k = some v ∧ Rep K ads B d v)
  | [], ds, xs, h, r => .inl ⟨by unfold valD; rfl, by unfold valV; rfl⟩
  | g :: ks, ds, [], h, r => by cases h
  | g :: ks, [], x :: xs, h, r => by have e := reps_nil_inv r; cases e
  | g :: ks, d0 :: ds, x :: xs, h, r => by
    obtain ⟨y, t, e, hy, ht⟩ := reps_cons_inv r
    cases e
    unfold valD valV
    rw [List.zip_cons_cons, List.zip_cons_cons, List.find?_cons, List.find?_cons]
    by_cases z : g = k
    · simp only [z, decide_true]
      exact .inr ⟨d0, x, rfl, rfl, hy⟩
    · simp only [z, decide_false]
      exact val_reps (by simpa using h) ht
end
def D.key : D → Option Key
  | .int i => some (.inl i)
  | .str s => some (.inr s)
  | _ => none
def D.keys : List D → Option (List Key)
  | [] => some []
  | d :: ds => match d.key, D.keys ds with
    | some k, some ks => some (k :: ks)
    | _, _ => none
def D.keyT : D → Option (List Key)
  | .tup ds => D.keys ds
  | _ => none
theorem key_rep {K : Fg} {ads : List Addr} {B : Hp} {d : D} {v : V} {k : Key} (r : Rep K ads B d v) (h : d.key = some k) : v = kV k := by
  cases d <;> first | (cases h; done) | skip
  · cases h; exact rep_int r
  · cases h; exact rep_str r
theorem keys_rep {K : Fg} {ads : List Addr} {B : Hp} : ∀ {ds : List D} {vs : List V} {ks : List Key}, Reps K ads B ds vs → D.keys ds = some ks → vs = ks.map kV
  | [], vs, ks, r, h => by cases h; exact reps_nil_inv r
  | d :: ds, vs, ks, r, h => by
    obtain ⟨x, t, rfl, hx, ht⟩ := reps_cons_inv r
    unfold D.keys at h
    cases e1 : d.key with
    | none => rw [e1] at h; cases h
    | some k =>
      cases e2 : D.keys ds with
      | none => rw [e1, e2] at h; cases h
      | some ks' =>
        rw [e1, e2] at h
        cases h
        rw [key_rep hx e1, keys_rep ht e2]
        rfl
def dgetD (d y : D) (μ : Mu) : Option (Option D) := match d with
  | .dk ks ds => y.key.map (valD ks ds)
  | .mref n => match μ[n]? with
    | some (.dk ks ds) => y.key.map (valD ks ds)
    | some (.dt ks ds) => y.keyT.map (valD ks ds)
    | _ => none
  | _ => none
def RepO (K : Fg) (g : G) : Option D → Option V → Prop
  | none, none => True
  | some d, some v => GRep K g d v
  | _, _ => False
section
variable {c : Ct} {ρ : Rho} {μ μ' : Mu} {g : G} {σ : L2.St} {H : Hp}
theorem valO {κ : Type} [DecidableEq κ] {K : Fg} {k : κ} {ks : List κ} {ds : List D} {xs : List V} (h : ks.length = xs.length) (r : GReps K g ds xs) : RepO K g (valD ks ds k) (valV (ks.zip xs) k) := by
  rcases val_reps (k := k) h r with ⟨e1, e2⟩ | ⟨d, v, e1, e2, e3⟩
  · rw [e1, e2]; trivial
  · rw [e1, e2]; exact e3
theorem keyT_at (s : SR c ρ μ g σ H) {y : D} {w : V} {k : List Key} (r : GRep c.K g y w) (h : y.keyT = some k) : ∃ b, w = .ref b ∧ H b = some (.tup (k.map kV)) := by
  cases y <;> first | (cases h; done) | skip
  unfold GRep Rep at r
  obtain ⟨a, xs, rfl, h1, h2⟩ := r
  exact ⟨a, rfl, by rw [← keys_rep h2 h]; exact s.sub _ _ h1⟩
theorem SR.dget (s : SR c ρ μ g σ H) {d y : D} {v w : V} {o : Option D} (rd : GRep c.K g d v) (ry : GRep c.K g y w) (h : dgetD d y μ = some o) : ∃ a ov, v = .ref a ∧ IsD H a ∧ DGet H a w ov ∧ RepO c.K g o ov := by
  unfold dgetD at h
  split at h
  · obtain ⟨k, e1, rfl⟩ := Option.map_eq_some_iff.mp h
    unfold GRep Rep at rd
    obtain ⟨a, xs, rfl, h1, h2, h3⟩ := rd
    have h1' := s.sub _ _ h1
    rw [key_rep ry e1]
    exact ⟨a, _, rfl, .inl ⟨_, .inl h1'⟩, DGet.k h1', valO h2 h3⟩
  · rename_i n
    unfold GRep Rep at rd
    obtain ⟨a, ha, rfl⟩ := rd
    split at h
    · rename_i ks ds e
      obtain ⟨k, e1, rfl⟩ := Option.map_eq_some_iff.mp h
      obtain ⟨_, xs, q2, q3, q4⟩ := s.amb _ a _ ha e
      rw [key_rep ry e1]
      exact ⟨a, _, rfl, .inl ⟨_, .inl q2⟩, DGet.k q2, valO q3 q4⟩
    · rename_i ks ds e
      obtain ⟨k, e1, rfl⟩ := Option.map_eq_some_iff.mp h
      obtain ⟨_, xs, q2, q3, q4⟩ := s.amb _ a _ ha e
      obtain ⟨b, rfl, hb⟩ := keyT_at s ry e1
      exact ⟨a, _, rfl, .inr ⟨_, .inl q2⟩, DGet.t q2 hb, valO q3 q4⟩
    · cases h
  · cases h
def dputD (d y z : D) (μ : Mu) : Option Mu := match d with
  | .mref n => match μ[n]? with
    | some (.dk ks ds) => match y.key with
      | some k => if ds.length < sizeLine then some (μ.set n (.dk (putKs ks k) (putVs ks ds k z))) else none
      | none => none
    | some (.dt ks ds) => match y.keyT with
      | some k => if ds.length < sizeLine then some (μ.set n (.dt (putKs ks k) (putVs ks ds k z))) else none
      | none => none
    | _ => none
  | _ => none
theorem SR.dput (s : SR c ρ μ g σ H) {d y z : D} {v w x : V} (rd : GRep c.K g d v) (ry : GRep c.K g y w) (rz : GRep c.K g z x) (h : dputD d y z μ = some μ') : ∃ a H', v = .ref a ∧ DPut H a w x H' ∧ SR c ρ μ' g σ H' := by
  unfold dputD at h
  split at h
  · rename_i n
    unfold GRep Rep at rd
    obtain ⟨a, ha, rfl⟩ := rd
    split at h
    · rename_i ks ds e
      obtain ⟨q1, xs, q2, q3, q4⟩ := s.amb _ a _ ha e
      rcases q1 with q1 | q1
      · cases q1
      split at h
      · rename_i k ek
        by_cases hl : ds.length < sizeLine
        · rw [if_pos hl] at h
          cases h
          rw [key_rep ry ek]
          have hl2 : (ks.zip xs).length < sizeLine := by rw [List.length_zip, q3, Nat.min_self, ← q4.length]; exact hl
          refine ⟨a, _, rfl, DPut.k q2 hl2, s.wrtA (m' := .dk (putKs ks k) (putVs ks ds k z)) ha e q1 ⟨putVs ks xs k x, ?_, put_len q3, put_reps rz q4⟩⟩
          rw [upd_same, putK_zip q3]
        · rw [if_neg hl] at h; cases h
      · cases h
    · rename_i ks ds e
      obtain ⟨q1, xs, q2, q3, q4⟩ := s.amb _ a _ ha e
      rcases q1 with q1 | q1
      · cases q1
      split at h
      · rename_i k ek
        by_cases hl : ds.length < sizeLine
        · rw [if_pos hl] at h
          cases h
          obtain ⟨b, rfl, hb⟩ := keyT_at s ry ek
          have hl2 : (ks.zip xs).length < sizeLine := by rw [List.length_zip, q3, Nat.min_self, ← q4.length]; exact hl
          refine ⟨a, _, rfl, DPut.t q2 hb hl2, s.wrtA (m' := .dt (putKs ks k) (putVs ks ds k z)) ha e q1 ⟨putVs ks xs k x, ?_, put_len q3, put_reps rz q4⟩⟩
          rw [upd_same, putK_zip q3]
        · rw [if_neg hl] at h; cases h
      · cases h
    · cases h
  · cases h
end
section
variable {X : Cx} {W : WX} {o i e f b value : Expr} {to' ti te' tx : TD} {pos pos' apos cpos : Pos}
def dNewK : TD := fun _ μ => some (.ok (.mref μ.length), μ ++ [.dk [] []])
def dNewT : TD := fun _ μ => some (.ok (.mref μ.length), μ ++ [.dt [] []])
def dDGet (t u : TD) : TD := fun ρ => M.bind (t ρ) fun d => M.bind (u ρ) fun y μ => match dgetD d y μ with
  | some (some x) => some (.ok x, μ)
  | _ => none
theorem de_dget (hu : X.A.units + 1 < cLine) (ho : DE X W o to') (hi : DE X W i ti) (hs : NoSl i := by intro _ _; rfl) : DE X W (.Subscript o i pos) (dDGet to' ti) := by
  obtain ⟨te, p, r⟩ := ho.ex
  obtain ⟨ue, pu, ru⟩ := hi.ex
  refine ⟨_, pe_dget hu p pu hs, fun c hc ρ μ g σ H Q rr μ' s hh hx k => ?_⟩
  refine (r c hc).then_ s hh hx fun d μ1 h1 v1 H1 g1 l1 s1 r1 hx1 => ?_
  refine (ru c hc).then_ s1 h1 hx1 fun y μ2 h2 v2 H2 g2 l2 s2 r2 hx2 => ?_
  split at h2
  · rename_i x e
    cases h2
    obtain ⟨a, ov, rfl, _, h4, h5⟩ := s2.dget (l2.rep r1) r2 e
    cases ov with
    | none => exact h5.elim
    | some v => exact ⟨a, v, rfl, h4, k _ rfl v H2 g2 (l1.trans l2) s2 h5⟩
  · cases h2
def dDIn (neg : Bool) (u t : TD) : TD := fun ρ => M.bind (u ρ) fun y => M.bind (t ρ) fun d μ => match dgetD d y μ with
  | some o => some (.ok (.bl (if neg then !o.isSome else o.isSome)), μ)
  | none => none
theorem repO_some {K : Fg} {g : G} {o : Option D} {ov : Option V} (h : RepO K g o ov) : ov.isSome = o.isSome := by
  cases o <;> cases ov <;> first | rfl | exact h.elim
theorem re_din {c : Ct} {te ue : TE} (r : RE c W te to') (ru : RE c W ue ti) : RE c W (tDIn ue te) (dDIn false ti to') := fun ρ μ g σ H Q rr μ' s hh hx k => by
  refine ru.then_ s hh hx fun y μ1 h1 v1 H1 g1 l1 s1 r1 hx1 => ?_
  refine r.then_ s1 h1 hx1 fun d μ2 h2 v2 H2 g2 l2 s2 r2 hx2 => ?_
  cases e : dgetD d y μ2 with
  | none => simp only [e] at h2; cases h2
  | some o =>
    simp only [e] at h2
    cases h2
    obtain ⟨a, ov, rfl, _, h4, h5⟩ := s2.dget r2 (l2.rep r1) e
    exact ⟨a, ov, rfl, h4, k _ rfl _ H2 g2 (l1.trans l2) s2 (by rw [repO_some h5]; exact flat_rep rfl)⟩
def dsDPut (tv to' ti : TD) : TO' := dsE tv fun z => dsE to' fun d => dsE ti fun y ρ μ => match dputD d y z μ with
  | some μ' => some (.nx ρ, μ')
  | none => none
theorem ds_dput {tv : TD} (hu : X.A.units + 1 < cLine) (hv : DE X W value tv) (ho : DE X W o to') (hi : DE X W i ti) (hs : swapsWith value (some (.Subscript o i pos')) pos.line X.env = pure false := by rfl) : DS X W (.Assign [.Subscript o i pos'] value pos) (dsDPut tv to' ti) := by
  obtain ⟨t1, p1, r1⟩ := hv.ex
  obtain ⟨t2, p2, r2⟩ := ho.ex
  obtain ⟨t3, p3, r3⟩ := hi.ex
  refine ⟨_, ps_dput hu p2 p3 p1 hs, fun c hc ρ μ g σ H D₀ out μ' s h k => ?_⟩
  refine (r1 c hc).stm s h k fun z μ1 h1 v1 H1 g1 l1 s1 rp1 k1 => ?_
  refine (r2 c hc).stm s1 h1 k1 fun d μ2 h2 v2 H2 g2 l2 s2 rp2 k2 => ?_
  refine (r3 c hc).stm s2 h2 k2 fun y μ3 h3 v3 H3 g3 l3 s3 rp3 k3 => ?_
  cases e : dputD d y z μ3 with
  | none => simp only [e] at h3; cases h3
  | some μ4 =>
    simp only [e] at h3
    cases h3
    obtain ⟨a, H', rfl, q1, q2⟩ := s3.dput (l3.rep rp2) rp3 ((l2.trans l3).rep rp1) e
    exact ⟨a, H', rfl, q1, k3 σ H' g3 (Le.refl _) q2⟩
def dDGet2 (t u x : TD) : TD := fun ρ => M.bind (t ρ) fun d => M.bind (u ρ) fun y => M.bind (x ρ) fun z μ => match dgetD d y μ with
  | some (some v) => some (.ok v, μ)
  | some none => some (.ok z, μ)
  | none => none
def tDSetdT (td ty tx : TE) : TE := fun σ H Q => td σ H fun x H1 => ∃ a, x = .ref a ∧ IsD H1 a ∧ ty σ H1 fun y H2 => tx σ H2 fun z H3 => ∃ (kvs : List (List Key × V)) (k : List Key) (b : Addr), H3 a = some (.dT kvs) ∧ y = .ref b ∧ H3 b = some (.tup (k.map kV)) ∧ kvs.length < sizeLine ∧
  (∀ v, valV kvs k = some v → Q v H3) ∧ (valV kvs k = none → Q z (upd H3 a (.dT (putK kvs k z))))
def isDt (d : D) (μ : Mu) : Bool := match d with
  | .mref n => match μ[n]? with
    | some (.dt _ _) => true
    | _ => false
  | _ => false
def dSetdT (t u x : TD) : TD := fun ρ => M.bind (t ρ) fun d μ0 => if isDt d μ0 = true then M.bind (u ρ) (fun y => M.bind (x ρ) fun z μ => match d with
  | .mref n => match μ[n]? with
    | some (.dt ks ds) => match y.keyT with
      | some k => if ds.length < sizeLine then match valD ks ds k with
        | some v => some (.ok v, μ)
        | none => some (.ok z, μ.set n (.dt (putKs ks k) (putVs ks ds k z))) else none
      | none => none
    | _ => none
  | _ => none) μ0 else none
theorem tB_test {te : TE} : ∀ σ H Q, tTest te σ H Q → tB te σ H Q := fun σ H Q h => h
theorem dt_din (hu : X.A.units + 1 < cLine) (hi : DE X W i ti) (ho : DE X W o to') (hm : behindInMarks .In o = false := by first | rfl | with_unfolding_all rfl) : DT X W (.Compare i [.In] [o] pos) (dTest (dDIn false ti to')) := by
  obtain ⟨te, p, r⟩ := ho.ex
  obtain ⟨ue, pu, ru⟩ := hi.ex
  exact ⟨_, pt_imp (pt_cmp (pc_din hu pu p) hm) tB_test, fun c hc => rt_test (re_din (r c hc) (ru c hc))⟩
end
end DL

set_option Elab.async false
set_option linter.all false
set_option maxRecDepth 100000
set_option maxHeartbeats 4000000
set_option autoImplicit false
namespace DL
open PySem PySem.Spec L2
def tKGet (K : Fg) (a : Addr) (td ty tx : TE) : TE := fun σ H Q => td σ H fun x H1 => x = .ref a ∧ ty σ H1 fun y H2 => tx σ H2 fun z H3 => ∃ (zz : Str), y = .str zz ∧ ((∃ u v, PySem.W.nsIn K a zz = some (some u) ∧ RelV v u ∧ Q v H3) ∨ (PySem.W.nsIn K a zz = some none ∧ Q z H3))
section
variable {X : Cx} {W : WX} {o e f : Expr} {to' te' tx : TD} {pos apos cpos : Pos} {a : Addr} {es : Array DictEntry} {n : Nat}
abbrev KTab := List (Str × Option D)
structure KTabOk (K : Fg) (w : World) (a : Addr) (tb : KTab) : Prop where
  dict : ∃ es n, KDict K w a es n
  at_ : ∀ x ∈ tb, match x.2 with
    | some d => ∃ u v, PySem.W.nsIn K a x.1 = some (some u) ∧ RelV v u ∧ ∀ ads B, Rep K ads B d v
    | none => PySem.W.nsIn K a x.1 = some none
def dKGet (a : Addr) (tb : KTab) (t u x : TD) : TD := fun ρ => M.bind (t ρ) fun d => match d with
  | .ref b => if b = a then M.bind (u ρ) fun y => M.bind (x ρ) fun z => match y with
    | .str k => match tb.lookup k with
      | some (some v) => M.ret v
      | some none => M.ret z
      | none => M.stuck
    | _ => M.stuck else M.stuck
  | _ => M.stuck
theorem lookup_mem' {β : Type} {k : Str} : ∀ {l : List (Str × β)} {v : β}, l.lookup k = some v → (k, v) ∈ l
  | [], v, h => by cases h
  | (j, w) :: l, v, h => by
    rw [List.lookup_cons] at h
    cases q : (k == j) with
    | true =>
      rw [q] at h
      cases h
      rw [beq_iff_eq.mp q]
      exact List.mem_cons_self ..
    | false =>
      rw [q] at h
      exact List.mem_cons_of_mem _ (lookup_mem' h)
end
structure SMet (K : Fg) (C : Addr) (mc : Value) (m : Str) (p g : Addr) : Prop where
  at_ : PySem.W.findCls K (.ref C) mc m = some (.get (.builtin "staticmethod.__get__") (.ref p) .none (.ref C))
  rc : ∃ rest, PySem.W.recIn K p "staticmethod" = some (.ref g :: rest)
  kp : PySem.W.keepIn K (.ref g) = true
structure KnownS (P : Program) (w : World) (K : Fg) (mg : Str → Option Value) (base : Heap) (C : Addr) (m : Str) (k n : Nat) (F : List D → M D) : Prop where
  ex : ∃ mc p f fd ps, ClX.CRead K C mc ∧ SMet K C mc m p f ∧ Binds K fd ps [] ∧ ps.length = n ∧ FnOk P w K mg base (L2.CX P w) k f fd ps (spD K n F)
section
variable {X : Cx} {W : WX} {CX : CXT} {k : Nat} {C p g : Addr} {mc : Value} {sp : Sp} {E : XK} {fd : FuncData} {ps : List Str} {o e : Expr} {es : List Expr} {m : Str} {pos apos : Pos} {ta : TE} {t : TA} {pl : Sem Bool} {F : List D → M D} {to' : TD}
def tSMet (C : Addr) (sp : Sp) (E : XK) (ta : TE) : TE := fun σ H Q => ta σ H fun x H1 => x = .ref C ∧ sp [] H1 Q E
def dSMet0 (C : Addr) (F : List D → M D) (t : TD) : TD := fun ρ => M.bind (t ρ) fun d => match d with
  | .ref b => if b = C then M.nx (F []) else M.stuck
  | _ => M.stuck
end
structure XDef where
  at_ : Fg → Addr
  name : Str
  qual : Str
  st : Stmt
def XDef.obs (K : Fg) (d : XDef) : He.FnV := match K.lookup (d.at_ K) with
  | some ⟨_, _, .func fd, _⟩ => some (fd.name, fd.qualname, fd.params, fd.body, fd.scope, fd.globals, fd.closure, fd.defaults, fd.builtins)
  | _ => none
def XDef.val (d : XDef) : He.FnV := some (d.name, d.qual, defArgs d.st, .stmts (defBody d.st), defScope d.st, mainGlobals, [], .none, builtinsNs)
def XDef.ok (K : Fg) (d : XDef) : Bool := PySem.W.keepIn K (.ref (d.at_ K)) && (match K.lookup (d.at_ K) with
  | some ⟨_, _, .func fd, _⟩ => PySem.W.codeIn K fd.code d.qual
  | _ => false)
theorem XDef.fun_ {K : Fg} {d : XDef} (e : d.obs K = d.val) (c : d.ok K = true) : ∃ fd, Fun K d.name d.qual d.st (d.at_ K) fd := by
  obtain ⟨kp, c2⟩ := Bool.and_eq_true_iff.mp c
  unfold XDef.obs at e
  cases q : K.lookup (d.at_ K) with
  | none =>
    rw [q] at c2
    cases c2
  | some o =>
    obtain ⟨oc, od, dt, osl⟩ := o
    rw [q] at c2 e
    cases dt with
    | func fd =>
      obtain ⟨n1, n2, n3, n4, n5, n6, n7, n8, n9, n10, n11, n12, n13, n14, n15⟩ := fd
      have e2 : (some (n1, n2, n3, n4, n5, n6, n7, n8, n15) : He.FnV) = some (d.name, d.qual, defArgs d.st, .stmts (defBody d.st), defScope d.st, mainGlobals, [], .none, builtinsNs) := e
      simp only [Option.some.injEq, Prod.mk.injEq] at e2
      obtain ⟨h1, h2, h3, h4, h5, h6, h7, h8, h9⟩ := e2
      have c3 : PySem.W.codeIn K n13 d.qual = true := c2
      rw [h1, h2, h3, h4, h5, h6, h7, h8, h9] at q
      exact ⟨_, ⟨oc, od, n9, n10, n11, n12, n13, n14, osl, rfl, q, c3⟩, kp⟩
    | _ => cases c2
abbrev XA : Type := Bool × List He.FnV × List (Option (List (Option (Str × Int))))
def obsX (bs : List (Fg → Bool)) (fn : List XDef) (ts : List He.Tab) (K : Fg) : XA := ((bs.all fun b => b K) && fn.all fun d => d.ok K, fn.map fun d => d.obs K, ts.map fun t => He.dicW K (t.1 K))
def valX (fn : List XDef) (ts : List He.Tab) (w : World) : XA := (true, fn.map XDef.val, ts.map fun t => some (He.keysIn w.params t.2))
def obsXG (n : Nat) (bs : List (Fg → Bool)) (fn : List XDef) (ts : List He.Tab) (g : Addr → Option Obj) : XA := obsX bs fn ts (He.frG g (cStatics :: He.asD g n))
def SaysX (bs : List (Fg → Bool)) (fn : List XDef) (ts : List He.Tab) (w : World) (K : Fg) : Prop := obsX bs fn ts K = valX fn ts w
def hookX (n : Nat) (bs : List (Fg → Bool)) (fn : List XDef) (ts : List He.Tab) : PySem.W.Hook where
  α := XA
  obs := fun s => obsXG n bs fn ts s.heap.get?
  val := fun w => valX fn ts w
  says := fun w h => ∃ K : Fg, K.In h ∧ SaysX bs fn ts w K
  of := fun _ _ e => ⟨_, He.frG_in, e⟩
  keeps := fun _ _ _ ⟨K, hK, c⟩ k => ⟨K, PySem.W.Frag.In.keeps hK k, c⟩
section
variable {bs : List (Fg → Bool)} {fn : List XDef} {ts : List He.Tab} {w : World} {K : Fg}
theorem SaysX.fact (c : SaysX bs fn ts w K) (i : Nat) {b : Fg → Bool} (h : bs[i]? = some b := by rfl) : b K = true := by
  have c1 := (Bool.and_eq_true_iff.mp (show ((bs.all fun b => b K) && fn.all fun d => d.ok K) = true from congrArg (fun z : XA => z.1) c)).1
  exact List.all_eq_true.mp c1 b (List.mem_of_getElem? h)
theorem SaysX.def_ (c : SaysX bs fn ts w K) (i : Nat) {d : XDef} (h : fn[i]? = some d := by rfl) : ∃ fd, Fun K d.name d.qual d.st (d.at_ K) fd := by
  have c2 := (Bool.and_eq_true_iff.mp (show ((bs.all fun b => b K) && fn.all fun d => d.ok K) = true from congrArg (fun z : XA => z.1) c)).2
  have e : fn.map (fun d => d.obs K) = fn.map XDef.val := congrArg (fun z : XA => z.2.1) c
  have e2 : (fn.map fun d => d.obs K)[i]? = (fn.map XDef.val)[i]? := by rw [e]
  rw [List.getElem?_map, List.getElem?_map, h] at e2
  exact XDef.fun_ (Option.some.inj e2) (List.all_eq_true.mp c2 d (List.mem_of_getElem? h))
theorem SaysX.tab (c : SaysX bs fn ts w K) (i : Nat) {t : He.Tab} (h : ts[i]? = some t := by rfl) : ∃ es n, KDict K w (t.1 K) es n := by
  have e : ts.map (fun t => He.dicW K (t.1 K)) = ts.map fun t => some (He.keysIn w.params t.2) := congrArg (fun z : XA => z.2.2) c
  have e2 : (ts.map fun t => He.dicW K (t.1 K))[i]? = (ts.map fun t => some (He.keysIn w.params t.2))[i]? := by rw [e]
  rw [List.getElem?_map, List.getElem?_map, h] at e2
  exact He.dicW_ok (Option.some.inj e2)
end
theorem fun_binds {K : Fg} {x qual : Str} {st : Stmt} {f : Addr} {fd : FuncData} (F : Fun K x qual st f fd) {ps : List Str}
    (h : ∀ (kV doc pm : Value) (an : Option Addr) (cdv ct : Value) (us : List Value), us.length = ps.length → bindArgs (PySem.W.fnOf x qual (defArgs st) (defBody st) (defScope st) .none kV doc pm an cdv ct) ⟨us, []⟩ = pure (ps.zip us)) : Binds K fd ps [] := by
  obtain ⟨oc, od, kV, doc, pm, an, cdv, ct, osl, rfl, lk, hcd⟩ := F.ex
  exact .all (h kV doc pm an cdv ct)
def ownB (C : Fg → Addr) (K : Fg) : Bool := He.eqO (PySem.W.findIn K (.ref (C K)) "__class__") (some (some (.builtin "object.__class__"))) && (He.eqO (PySem.W.specialIn K (.builtin "object.__class__") "__get__") (some (some (.builtin "getset_descriptor.__get__"))) &&
  (decide (PySem.W.takesIn K (.builtin "object.__class__") = some true) && decide (PySem.W.mroIn K (C K) (.type "object") = some true)))
def smF (K : Fg) (C m : Str) : Addr := match PySem.W.recIn K (He.ma K (He.ga K C) m) "staticmethod" with
  | some (.ref g :: _) => g
  | _ => 0
def smB (C m : Str) (K : Fg) : Bool := (match PySem.W.findCls K (.ref (He.ga K C)) (.type "type") m with
  | some (.get (.builtin b) (.ref p) .none (.ref q)) => decide (b = "staticmethod.__get__") && (decide (p = He.ma K (He.ga K C) m) && decide (q = He.ga K C))
  | _ => false) && ((match PySem.W.recIn K (He.ma K (He.ga K C) m) "staticmethod" with
  | some (.ref _ :: _) => true
  | _ => false) && (PySem.W.keepIn K (.ref (smF K C m)) && (PySem.W.readsIn K (He.ga K C) (.type "type") && He.eqO (PySem.W.specialIn K (.ref (He.ga K C)) "__getattribute__") (some (some (.builtin "type.__getattribute__"))))))
def missB (a : Fg → Addr) (zs : List Str) (K : Fg) : Bool := zs.all fun z => He.eqO (PySem.W.nsIn K (a K) z) (some none)
def kitB' (kI : Fg → Kit) (K : Fg) : Bool := (kI K).all fun x => decide (PySem.W.kitOne K x.1 x.2.1 = some x.2.2)
theorem kitB'_ok {kI : Fg → Kit} {K : Fg} (h : kitB' kI K = true) : KitOk K (kI K) := fun x hx => of_decide_eq_true (List.all_eq_true.mp h x hx)
end DL

set_option Elab.async false
set_option linter.all false
set_option maxRecDepth 100000
set_option maxHeartbeats 4000000
set_option autoImplicit false
namespace DL
open PySem PySem.Spec L2
structure Src where
  n : Nat
  nxt : Mu → Nat → Option (Option D)
def ItOkJ (c : Ct) (g0 : G) (J : It) (S : Mu → Nat → Option (Option D)) : Prop := ∀ ρ μ g σ H i, Le g0 g → SR c ρ μ g σ H →
  (S μ i = some none → J.stop i H) ∧ (∀ d, S μ i = some (some d) → J.go i H ∧ ∀ x H', J.yld i H x H' → ∃ g', Le g g' ∧ SR c ρ μ g' σ H' ∧ GRep c.K g' d x)
def RJ (c : Ct) (W : WX) (wi : TI) (t : Rho → M Src) : Prop := ∀ ρ μ g σ H R r μ', SR c ρ μ g σ H → t ρ μ = some (r, μ') → PX c W ρ σ g r μ' →
  (∀ S, r = .ok S → ∀ J H' g', Le g g' → SR c ρ μ' g' σ H' → ItOkJ c g' J S.nxt → R J H') → wi σ H R
structure DJ (X : Cx) (W : WX) (tg iter : Expr) (t : Rho → M Src) : Prop where
  ex : ∃ wi, PI X tg iter wi ∧ ∀ c : Ct, c.K = X.K → RJ c W wi t
def nxtM (k : Nat) (μ : Mu) (i : Nat) : Option (Option D) := match μ[k]? with
  | some (.lst ds) => some ds[i]?
  | _ => none
def srcOf (d : D) (μ : Mu) : Option Src := match d.items with
  | some ds => some ⟨ds.length + 1, fun _ i => some ds[i]?⟩
  | none => match muLst d μ with
    | some (k, ds) => some ⟨ds.length + 1, nxtM k⟩
    | none => none
def dSrc (t : TD) : Rho → M Src := fun ρ => M.bind (t ρ) fun d μ => match srcOf d μ with
  | some S => some (.ok S, μ)
  | none => none
section
variable {X : Cx} {W : WX} {tg e : Expr} {t : TD} {pos : Pos}
end
def lcJ (vs : List Nat) (gt : D → Rho → Option Rho) (tt : TB) (te : TD) (ρ : Rho) (S : Mu → Nat → Option (Option D)) : Nat → Nat → List D → M (List D)
  | 0, _, _ => M.stuck
  | n + 1, i, acc => fun μ => match S μ i with
    | none => none
    | some none => some (.ok acc, μ)
    | some (some d) => match gt d (wipeR ρ vs) with
      | none => none
      | some ρ1 => M.bind (M.nx (tt ρ1)) (fun b => if b = true then M.bind (M.nx (te ρ1)) fun y => if acc.length < sizeLine then lcJ vs gt tt te ρ S n (i + 1) (acc ++ [y]) else M.stuck else lcJ vs gt tt te ρ S n (i + 1) acc) μ
def dLcJ (vs : List Nat) (ts : Rho → M Src) (gt : D → Rho → Option Rho) (tt : TB) (te : TD) : TL := fun ρ => M.bind (ts ρ) fun S => if okW ρ vs = true then lcJ vs gt tt te ρ S.nxt S.n 0 [] else M.stuck
section
variable {X : Cx} {W : WX} {elt tg iter : Expr} {ifs : List Expr} {scope : Scope} {own : List (Str × Nat)} {pos : Pos} {ts : Rho → M Src} {gt : D → Rho → Option Rho} {tt : TB} {te : TD} {is : List Nat}
theorem RJ.then_ {c : Ct} {W : WX} {ρ : Rho} {μ μ' : Mu} {g : G} {σ : L2.St} {H : Hp} {α : Type} {r : Res α} {wi : TI} (ht : RJ c W wi ts) {f : Src → M α} {R : It → Hp → Prop} (s : SR c ρ μ g σ H) (h : M.bind (ts ρ) f μ = some (r, μ')) (hx : PX c W ρ σ g r μ')
    (k : ∀ d μ1, f d μ1 = some (r, μ') → ∀ J H1 g1, Le g g1 → SR c ρ μ1 g1 σ H1 → ItOkJ c g1 J d.nxt → PX c W ρ σ g1 r μ' → R J H1) : wi σ H R := by
  rcases bind_some h with ⟨a, μ1, e1, e2⟩ | ⟨C, ns, ds, e1, rfl⟩
  · exact ht ρ μ g σ H R _ _ s e1 px_ok fun d e J H' g' l s' rp => by
      cases e
      exact k a μ1 e2 J H' g' l s' rp (hx.le l)
  · exact ht ρ μ g σ H R _ _ s e1 (fun C' ns' ds' e => by cases e; exact hx C ns ds rfl) fun d e => by cases e
end
end DL

set_option Elab.async false
set_option linter.all false
set_option maxRecDepth 100000
set_option maxHeartbeats 4000000
set_option autoImplicit false
namespace DL
open PySem PySem.Spec L2
theorem units1 {k : Nat} {A : Around} (r : Room k A) : A.units + 1 < cLine := by have := r.un; omega
theorem takesF {X : Cx} : Takes X WF := fun u s' h => by
  obtain ⟨a, B, sI, pins, σ, H, cls, d, _, _, _, _, _, _, _, _, w⟩ := h
  exact w.elim
section
variable {X : Cx} {W : WX} {x : Str} {k n : Nat} {F : List D → M D} {p pos : Pos}
def dCall0 (F : List D → M D) : TD := fun _ => M.nx (F [])
end
end DL

set_option Elab.async false
set_option linter.all false
set_option maxRecDepth 100000
set_option maxHeartbeats 4000000
set_option autoImplicit false
namespace DL
open PySem PySem.Spec L2
def dtupB (a : Fg → Addr) (k : Str) (vs : List He.Dv) (K : Fg) : Bool := match PySem.W.nsIn K (a K) k with
  | some (some (.ref t)) => (match K.lookup t with
    | some ⟨.type c, _, .seq its _, _⟩ => decide (c = "tuple") && (decide (its.size ≤ sizeLine) && He.relAll (vs.map (He.Dv.v K)) its.toList)
    | _ => false)
  | _ => false
theorem dtupB_ok {a : Fg → Addr} {k : Str} {vs : List He.Dv} {K : Fg} (h : dtupB a k vs K = true) : ∃ t, PySem.W.nsIn K (a K) k = some (some (.ref t)) ∧ ∀ H, SqT K H t (vs.map (He.Dv.v K)) := by
  unfold dtupB at h
  split at h
  · rename_i t e
    refine ⟨t, e, fun H => ?_⟩
    split at h
    · rename_i c od its n sl q
      obtain ⟨h1, h2⟩ := Bool.and_eq_true_iff.mp h
      obtain ⟨h3, h4⟩ := Bool.and_eq_true_iff.mp h2
      exact .inr ⟨_, its, n, q, congrArg Value.type (of_decide_eq_true h1), rfl, of_decide_eq_true h3, He.relAll_ok h4⟩
    · cases h
  · cases h
def D.dv : D → Option He.Dv
  | .int i => some (.int i)
  | .str s => some (.str s)
  | .bl b => some (.bl b)
  | .non => some .non
  | _ => none
theorem reps_dv {K : Fg} {ads : List Addr} {B : Hp} : ∀ {ds : List D} {vs : List He.Dv}, ds.map D.dv = vs.map some → Reps K ads B ds (vs.map (He.Dv.v K))
  | [], [], _ => reps_nil
  | [], _ :: _, h => by cases h
  | _ :: _, [], h => by cases h
  | d :: ds, v :: vs, h => by
    rw [List.map_cons, List.map_cons] at h
    injection h with h1 h2
    refine reps_cons ?_ (reps_dv h2)
    cases d <;> cases h1 <;> (unfold Rep; rfl)
theorem kt_rep {K : Fg} {a : Addr} {ds : List D} {vs : List He.Dv} (h : ∀ H, SqT K H a (vs.map (He.Dv.v K))) (e : ds.map D.dv = vs.map some) : ∀ ads B, Rep K ads B (.kt ds) (.ref a) := fun ads B => by
  unfold Rep
  exact ⟨a, _, rfl, h B, reps_dv e⟩
theorem dtup_at {a : Fg → Addr} {k : Str} {ds : List D} {vs : List He.Dv} {K : Fg} (h : dtupB a k vs K = true) (e : ds.map D.dv = vs.map some) : ∃ u v, PySem.W.nsIn K (a K) k = some (some u) ∧ RelV v u ∧ ∀ ads B, Rep K ads B (.kt ds) v := by
  obtain ⟨t, h1, h2⟩ := dtupB_ok h
  exact ⟨_, .ref t, h1, rfl, kt_rep h2 e⟩
def g0 (H : Hp) : G := ⟨[], H, fun _ => none, fun _ => none⟩
theorem sh0 (K : Fg) (H : Hp) : SH (Ct.call K (g0 H) H) [] (g0 H) H where
  sub := Same.refl _
  own := fun a e => absurd rfl e
  ownNew := fun a i e => by cases e
  ownAt := fun a e => absurd rfl e
  alen := rfl
  amb := fun k a m e _ => by cases e
  old := fun a o e _ => e
  oldT := fun a o e => ⟨o, e⟩
  newB := fun a o e => .inl e
  b0 := Same.refl _
  a0 := fun k a e => e
  aNew := fun a e => by cases e
  tmpT := fun a o e => by cases e
theorem sp_law {K : Fg} {F : List D → M D} {n : Nat} (hF : ∀ ns : List Int, ns.length ≤ n → ∃ μ', F [.rd (ns.map D.int)] [] = some (.ok (.bl true), μ')) (H : Hp) (a : Addr) (ns : List Int) (hn : ns.length ≤ n) (hS : SqL K H a (ns.map V.int)) :
    spD K 1 F [.ref a] H (fun v _ => v = .bl true) fun _ _ _ => False := by
  obtain ⟨μ', e⟩ := hF ns hn
  refine ⟨[.rd (ns.map D.int)], [], g0 H, _, μ', rfl, sh0 K H, reps_cons ?_ reps_nil, e, fun d ed v H' g' l s r => ?_, fun C ns es ed => by cases ed⟩
  · unfold Rep
    exact ⟨a, _, rfl, hS, ints_reps⟩
  · cases ed
    exact rep_flat (d := .bl true) rfl r
theorem walkW {l : PySem.W.OpenLaw} {n k : Nat} {q : Program} {loose : List Str} {XP : (Str → Option Value) → Heap → Prop} {YP : World → Heap → Prop} {d : DefRec} {CX : World → CXT} {x : Str}
    (hn : l.most = some n) (hn2 : n ≤ sizeLine) (hdf : d.params.defaults = []) (hr : Room k callerA)
    (F : ∀ (w : World) (mg : Str → Option Value) (fa : Addr) (h : Heap), YP w h → h.Ns mainGlobals mg → mg d.name = some (.ref fa) → ∃ (K : Fg) (fd : FuncData) (sp : Sp), K.In h ∧ (∀ (s : Shared) (u : Value), BindsTo s fd ⟨[u], []⟩ [(x, u)]) ∧
      (∀ (H : Hp) (a : Addr) (ns : List Int), ns.length ≤ n → SqL K H a (ns.map V.int) → sp [.ref a] H (fun v _ => v = .bl true) fun _ _ _ => False) ∧ ∀ base : Heap, K.In base → base.Ns mainGlobals mg → FnOk l.prog w K mg base (CX w) k fa fd [x] sp)
    (hCX : ∀ (w : World) (H : Hp) (s : Shared) (e : Value) (s' : Shared), CX w [] H s (fun _ _ _ => False) e s' → False) : PySem.W.WalkO q loose XP YP l.row.toRowW d [] (fun f vs => PySem.call f vs) := by
  refine Att.attach_call hn hdf fun w s0 s1 mg mb fa o pm cd doc a vs ns g y ho hd hcd hmg hob hin hlen hgg => ?_
  obtain ⟨K, fd, sp, e1, e2, e3, e4⟩ := F w mg fa _ y g.T.g hmg
  exact law_call e1 g.T.g g.T.b g.T.builtins g.T.nolimit hgg hob hin (Nat.le_trans hlen hn2) hr e4 e2 (fun H _ hS => e3 H a ns hlen hS) fun H e s' => hCX w H s1 e s'
end DL

set_option Elab.async false
set_option linter.all false
set_option maxRecDepth 100000
set_option maxHeartbeats 4000000
set_option autoImplicit false
namespace DL
open PySem PySem.Spec L2
abbrev exRow : List Value := [.type "Exception", .type "BaseException", .type "object"]
structure OexE (K : Fg) (C : Addr) : Prop where
  init : PySem.W.excInitIn K C exRow "Exception.__new__" = true
  over : PySem.W.excOver K C exRow = true
  dict : PySem.W.hasDictIn K C = true
  sa : PySem.W.findIn K (.ref C) "__setattr__" = some (some (.builtin "object.__setattr__"))
  exC : PySem.W.subIn K (.ref C) (.type "BaseException") = some true
  tyC : PySem.W.typeIn K (.ref C) = some (.type "type")
  kC : PySem.W.keepIn K (.ref C) = true
def oexB (C : Fg → Addr) (K : Fg) : Bool := PySem.W.excInitIn K (C K) exRow "Exception.__new__" && (PySem.W.excOver K (C K) exRow && (PySem.W.hasDictIn K (C K) && (decide (PySem.W.findIn K (.ref (C K)) "__setattr__" = some (some (.builtin "object.__setattr__"))) && (decide (PySem.W.subIn K (.ref (C K)) (.type "BaseException") = some true) && (decide (PySem.W.typeIn K (.ref (C K)) = some (.type "type")) && PySem.W.keepIn K (.ref (C K)))))))
theorem oexB_ok {C : Fg → Addr} {K : Fg} (h : oexB C K = true) : OexE K (C K) := by
  unfold oexB at h
  simp only [Bool.and_eq_true, decide_eq_true_eq] at h
  obtain ⟨a, b, c, d, e, f, g⟩ := h
  exact ⟨a, b, c, d, e, f, g⟩
theorem has_dict {K : Fg} {C : Addr} (h : PySem.W.hasDictIn K C = true) : ∃ cd, PySem.W.clsIn K C = some cd ∧ cd.hasDict = true := by
  unfold PySem.W.hasDictIn at h
  cases e : PySem.W.clsIn K C with
  | none => rw [e] at h; cases h
  | some cd => rw [e] at h; exact ⟨cd, rfl, h⟩
section
open Builtin Builtin.ObjectAttr
variable {prog : Program} {w : World} {A : Around} {R : Result → Shared → Prop} {hp : Heap} {g : Array GenState} {d : Drawn} {t : Nat} {os : OsState} {K : Fg} {C x : Addr} {name : Str} {tk : Tok} {v : Value} {fv : Array Value}
theorem ex_first (T : OexE K C) (X : K.In hp) (hx : hp.get? x = some { cls := .ref C, data := .fields fv }) (ht : PySem.W.takerIn K C name = some none)
    (hq : ∀ h' tk' dx, (∀ b o, b ≠ x → hp.get? b = some o → h'.get? b = some o) → hp.objs.size ≤ dx → dx ≠ x → h'.get? x = some { cls := .ref C, dict := some dx, data := .fields fv } → h'.Ns1 dx (fun y => if y = name then some v else none) → R (.ok (.ret .none)) ⟨h', g, d, tk', os⟩) :
    codeAny (model prog w) A (.call (.builtin "object.__setattr__") ⟨[.ref x, .str name tk, v], []⟩) R ⟨hp, g, d, t, os⟩ := by
  obtain ⟨cd, hc, hd⟩ := has_dict T.dict
  refine PySem.W.osa_openX (ox := { cls := .ref C, data := .fields fv }) (od := none) F.store_Exception X ⟨hx, rfl, rfl, trivial⟩ T.over ht fun b => ?_
  have lc : PySem.W.Looks (model prog w) hp (classData C) cd := PySem.W.looks_clsIn X hc
  have ne : x ≠ hp.objs.size := fun z => Nat.lt_irrefl _ (z ▸ Heap.lt_size hx)
  have hx2 : (hp.push { cls := .type "dict", data := .dict #[] }).get? x = some { cls := .ref C, data := .fields fv } := Heap.get?_push_of_some _ hx
  show wpAny _ _ (storeInOwnDict (.ref x) (.ref C) (.str name tk) name v b) _ _ _
  cases cd
  simp only at hd
  subst hd
  unfold storeInOwnDict ownDictForStores
  repeat (first
    | with_reducible refine HandSPX.store_in_new ?nd ?st
    | with_reducible refine wpAny_loadPart_at hx ?_
    | with_reducible refine lc.at ?_
    | wp_step)
  case nd => exact ⟨_, #[], _, (Heap.get?_update_ne _ _ _ _ ne.symm).trans (Heap.get?_push_at rfl rfl), rfl, (fun e he => by simp at he), fun _ => rfl⟩
  case st =>
    intro h' tk' hn hs
    refine hq h' tk' hp.objs.size (fun b o hb ho => ?_) (Nat.le_refl _) ne.symm ((hs.2 x ne).trans (Heap.get?_update_self _ hx2 rfl)) hn
    rw [hs.2 b (fun z => Nat.lt_irrefl _ (z ▸ Heap.lt_size ho)), Heap.get?_update_ne _ _ _ _ hb]
    exact Heap.get?_push_of_some _ ho
theorem ex_more {dx : Addr} {m0 : Str → Option Value} {nl : List Str} (T : OexE K C) (X : K.In hp) (hx : hp.get? x = some { cls := .ref C, dict := some dx, data := .fields fv }) (hns : hp.Ns1 dx m0) (hw : Within m0 nl) (hz : nl.length ≤ 1000) (ht : PySem.W.takerIn K C name = some none)
    (hq : ∀ h' tk', (∀ b o, b ≠ dx → hp.get? b = some o → h'.get? b = some o) → h'.Ns1 dx (fun y => if y = name then some v else m0 y) → R (.ok (.ret .none)) ⟨h', g, d, tk', os⟩) :
    codeAny (model prog w) A (.call (.builtin "object.__setattr__") ⟨[.ref x, .str name tk, v], []⟩) R ⟨hp, g, d, t, os⟩ := by
  obtain ⟨cd, hc, hd⟩ := has_dict T.dict
  obtain ⟨oD, _, _, hoD, _, _⟩ := hns.count hw
  refine PySem.W.osa_openX (ox := { cls := .ref C, dict := some dx, data := .fields fv }) (od := some oD) F.store_Exception X ⟨hx, rfl, rfl, hoD⟩ T.over ht fun b => ?_
  have lc : PySem.W.Looks (model prog w) hp (classData C) cd := PySem.W.looks_clsIn X hc
  show wpAny _ _ (storeInOwnDict (.ref x) (.ref C) (.str name tk) name v b) _ _ _
  cases cd
  simp only at hd
  subst hd
  unfold storeInOwnDict ownDictForStores
  repeat (first
    | with_reducible refine ESX.store_in_old hns hw hz ?st
    | with_reducible refine wpAny_loadPart_at hx ?_
    | with_reducible refine lc.at ?_
    | wp_step)
  case st =>
    intro h' tk' hn hs
    exact hq h' tk' (fun b o hb ho => (hs.2 b hb).trans ho) hn
end
end DL

set_option Elab.async false
set_option linter.all false
set_option maxRecDepth 100000
set_option maxHeartbeats 4000000
set_option autoImplicit false
namespace DL
open PySem PySem.Spec L2
section
variable {X : Cx} {pins : List (Addr × Obj)} {σ : St} {H : Hp} {s : Shared} {a C dx : Addr} {f : Str} {y : V} {u : Value} {fs : List (Str × V)} {Q : Unit → Shared → Prop} {E : Value → Shared → Prop} {A : Around}
theorem two_un {hp h' : Heap} {o1 o2 : HO} (e : H a = some (exo a C none)) (k : ∀ b o, b ≠ a → hp.get? b = some o → h'.get? b = some o) (nd : ∀ {b : Addr} {o : Obj}, hp.get? b = some o → b ≠ dx) (hnd : H dx = none) (hx : ∃ o, h'.get? a = some o) :
    Un X.fs [] H (upd (upd H dx o1) a o2) hp h' := by
  have other : ∀ {b : Addr} {o : HO}, H b = some o → exo a C none ≠ o → (upd (upd H dx o1) a o2) b = some o := fun {b o} q dn => by
    rw [upd_ne (at_ne e q dn), upd_ne (ne_of_none q hnd)]
    exact q
  have na : ∀ {b : Addr}, H b = none → b ≠ a := fun q z => by rw [z, e] at q; cases q
  constructor
  · exact fun b o q n _ _ => k b o (na n) q
  · exact fun b o q n _ _ => ⟨_, k b o (na n) q⟩
  · intro b o q n _
    rw [upd_ne (na n), upd_ne (nd q)]
    exact n
  · intro b o q _
    by_cases z : b = a
    · subst z; exact hx
    · exact ⟨o, k b o z q⟩
  · exact fun b xs q => other q exo_tup
  · exact fun b o v q => other q exo_frz
  · intro b ps q
    refine ⟨#[], ?_⟩
    rw [other q exo_tbl]
    simp
theorem oe_first (T : OexE X.K C) (I : Inv X pins σ H s) (e : H a = some (exo a C none)) (ht : PySem.W.takerIn X.K C f = some none) (ry : RelV y u)
    (h : ∀ dx s', H dx = none → dx ≠ a → Inv X pins σ (upd (upd H dx (exd dx [(f, y)])) a (exo a C (some dx))) s' → Q () s') : wpAny (model X.prog X.w) A (setAttr (.ref a) f u) Q E s := by
  obtain ⟨t1, ho⟩ := exo_at I.hok e
  obtain ⟨hp, g, d, t, os⟩ := s
  refine PySem.W.set_plain I.kIn (od := none) ⟨ho, rfl, rfl, trivial⟩ T.sa (ex_first T I.kIn ho ht fun h' tk' dx k dn dne hx hn => ?_)
  have hnd : H dx = none := I.hok.fresh dn
  have nd : ∀ {b : Addr} {o : Obj}, hp.get? b = some o → b ≠ dx := fun q z => Nat.not_le.mpr (Heap.lt_size q) (z ▸ dn)
  refine h dx _ hnd dne (I.un (t' := tk') (two_un e k nd hnd ⟨_, hx⟩) fun b o q => ?_)
  have keepA : ∀ {b : Addr} {o : HO}, H b = some o → exo a C none ≠ o → (upd (upd H dx (exd dx [(f, y)])) a (exo a C (some dx))) b = some o := fun {b o} q dn => by
    rw [upd_ne (at_ne e q dn), upd_ne (ne_of_none q hnd)]
    exact q
  by_cases z1 : b = a
  · subst z1
    rw [upd_same] at q
    cases q
    exact exo_ok hx
  by_cases z2 : b = dx
  · subst z2
    rw [upd_ne z1, upd_same] at q
    cases q
    exact exd_ok hn (relO_put (fs := []) ry fun g => True.intro)
  rw [upd_ne z1, upd_ne z2] at q
  refine (I.hok b o q).stay (fun c v hc => k c v ?_) (fun c hc => keepA hc exo_own) (fun c xs hc => keepA hc exo_tup)
  rcases hc with hc | hc
  · exact fun z => z1 (hc ▸ z)
  · exact at_ne e hc exo_own
theorem oe_more (T : OexE X.K C) (I : Inv X pins σ H s) (e : H a = some (exo a C (some dx))) (ed : H dx = some (exd dx fs)) (hl : fs.length ≤ 900) (ht : PySem.W.takerIn X.K C f = some none) (ry : RelV y u)
    (h : ∀ s', Inv X pins σ (upd H dx (exd dx ((f, y) :: fs))) s' → Q () s') : wpAny (model X.prog X.w) A (setAttr (.ref a) f u) Q E s := by
  obtain ⟨t1, ho⟩ := exo_at I.hok e
  obtain ⟨mA, hns, rel⟩ := exd_at I.hok ed
  have hw := within_of rel
  obtain ⟨hp, g, d, t, os⟩ := s
  obtain ⟨oD, _, _, hoD, _, _⟩ := hns.count hw
  refine PySem.W.set_plain I.kIn (od := some oD) ⟨ho, rfl, rfl, hoD⟩ T.sa (ex_more T I.kIn ho hns hw (by rw [List.length_map]; omega) ht fun h' tk' k hn => ?_)
  have hd : ∃ o, h'.get? dx = some o := let ⟨o, _, _, e', _⟩ := hn; ⟨o, e'⟩
  exact h _ (I.write (t' := tk') (x := dx) (e := dx) (o := exd dx ((f, y) :: fs)) (by rw [ed]; exact True.intro) (.inl rfl) k hd (exd_ok hn (relO_put ry rel)))
end
def tOse (K : Fg) (f : Str) (to te : TE) : TS := fun D σ H => te σ H fun y H1 => to σ H1 fun x H2 => ∃ a C : Addr, x = .ref a ∧ OexE K C ∧ PySem.W.takerIn K C f = some none ∧
  ((H2 a = some (exo a C none) ∧ ∀ dx, H2 dx = none → dx ≠ a → D.nx σ (upd (upd H2 dx (exd dx [(f, y)])) a (exo a C (some dx)))) ∨
    ∃ (dx : Addr) (fs : List (Str × V)), H2 a = some (exo a C (some dx)) ∧ H2 dx = some (exd dx fs) ∧ fs.length ≤ 900 ∧ D.nx σ (upd H2 dx (exd dx ((f, y) :: fs))))
theorem ps_ose {X : Cx} {o e : Expr} {to te : TE} {f : Str} {p' pos : Pos} (ho : PE X o to) (he : PE X e te) (hs : swapsWith e (some (.Attribute o f p')) pos.line X.env = pure false := by rfl) : PS X (.Assign [.Attribute o f p'] e pos) (tOse X.K f to te) := by
  constructor
  intro pins s σ H D I h
  refine plainObj_wpAny_Assign_Attribute (thn (he.run pins s σ H _ I h) fun v s1 q1 => ?_) hs
  obtain ⟨y, H1, I1, r1, q1⟩ := q1
  refine thn (ho.run pins s1 σ H1 _ I1 q1) fun u s2 q2 => ?_
  obtain ⟨x, H2, I2, r2, a, C, ex, T, hno, q⟩ := q2
  subst ex
  obtain rfl : u = Value.ref a := r2
  rcases q with ⟨ea, q⟩ | ⟨dx, fs, ea, ed, hl, q⟩
  · exact oe_first T I2 ea hno r1 fun dx s' n ne J => ⟨σ, _, J, q dx n ne⟩
  · exact oe_more T I2 ea ed hl hno r1 fun s' J => ⟨σ, _, J, q⟩
end DL

set_option Elab.async false
set_option linter.all false
set_option maxRecDepth 100000
set_option maxHeartbeats 4000000
set_option autoImplicit false
namespace DL
open PySem PySem.Spec L2
def tIni (K : Fg) : Nat → List Str → TS
  | _, [] => tNext
  | k, f :: r => tSeq (tOse K f (tVar 0) (tVar (k + 1))) (tIni K (k + 1) r)
theorem upd_twice {H : Hp} {a : Addr} {o o' : HO} : upd (upd H a o) a o' = upd H a o' := by
  funext b
  by_cases z : b = a
  · rw [z, upd_same, upd_same]
  · rw [upd_ne z, upd_ne z, upd_ne z]
theorem upd_id {H : Hp} {a : Addr} {o : HO} (h : H a = some o) : upd H a o = H := by
  funext b
  by_cases z : b = a
  · rw [z, upd_same, h]
  · rw [upd_ne z]
theorem upd_comm {H : Hp} {a b : Addr} {o o' : HO} (h : a ≠ b) : upd (upd H a o) b o' = upd (upd H b o') a o := by
  funext x
  by_cases z1 : x = b
  · subst z1
    rw [upd_same, upd_ne (Ne.symm h), upd_same]
  · by_cases z2 : x = a
    · subst z2
      rw [upd_ne z1, upd_same, upd_same]
    · rw [upd_ne z1, upd_ne z2, upd_ne z2, upd_ne z1]
theorem ini_more {K : Fg} {C e dx : Addr} (T : OexE K C) {σ : L2.St} (h0 : σ[0]? = some (some (.ref e))) (hde : dx ≠ e) {D : Ends} : ∀ (fl : List Str) (ys : List V) (k : Nat) (acc : List (Str × V)) (H1 : Hp), fl.length = ys.length →
    (∀ f ∈ fl, PySem.W.takerIn K C f = some none) → (∀ i y, ys[i]? = some y → σ[k + 1 + i]? = some (some y)) → acc.length + fl.length ≤ 900 → H1 e = some (exo e C (some dx)) → H1 dx = some (exd dx acc) →
    D.nx σ (upd H1 dx (exd dx ((fl.zip ys).reverse ++ acc))) → tIni K k fl D σ H1
  | [], ys, k, acc, H1, hl, _, _, _, _, e2, hq => by
    have : upd H1 dx (exd dx (([].zip ys).reverse ++ acc)) = H1 := upd_id e2
    rw [this] at hq
    exact hq
  | f :: fl, [], k, acc, H1, hl, _, _, _, _, _, _ => by cases hl
  | f :: fl, y :: ys, k, acc, H1, hl, hf, hy, hz, e1, e2, hq => by
    rw [List.length_cons] at hz
    refine ⟨y, hy 0 y rfl, .ref e, h0, e, C, rfl, T, hf f (List.mem_cons_self ..), .inr ⟨dx, acc, e1, e2, by omega, ?_⟩⟩
    refine ini_more T h0 hde fl ys (k + 1) ((f, y) :: acc) _ (by simpa using hl) (fun g hg => hf g (List.mem_cons_of_mem _ hg)) (fun i z hi => ?_) (by rw [List.length_cons]; omega) (by rw [upd_ne (Ne.symm hde)]; exact e1) upd_same ?_
    · have := hy (i + 1) z (by simpa using hi)
      rw [show k + 1 + (i + 1) = k + 1 + 1 + i by omega] at this
      exact this
    · rw [upd_twice]
      have q : ((f :: fl).zip (y :: ys)).reverse ++ acc = (fl.zip ys).reverse ++ ((f, y) :: acc) := by simp
      rw [q] at hq
      exact hq
def spIni (K : Fg) (C : Addr) (fl : List Str) : Sp := fun vs H Q _ => ∃ e ys, vs = .ref e :: ys ∧ ys.length = fl.length ∧ H e = some (exo e C none) ∧ ∀ dx, H dx = none → dx ≠ e → Q .non (upd (upd H dx (exd dx (fl.zip ys).reverse)) e (exo e C (some dx)))
structure KnownX (P : Program) (w : World) (K : Fg) (mg : Str → Option Value) (base : Heap) (x : Str) (C : Addr) (fl : List Str) : Prop where
  oex : OexE K C
  nod : ∀ f ∈ fl, PySem.W.takerIn K C f = some none
  mgC : mg x = some (.ref C)
  ex : ∃ f fd ps, PySem.W.findIn K (.ref C) "__init__" = some (some (.ref f)) ∧ PySem.W.typeIn K (.ref f) = some (.type "function") ∧ Binds K fd ps [] ∧ ps.length = fl.length + 1 ∧ FnOk P w K mg base (L2.CX P w) 1 f fd ps (spIni K C fl)
section
variable {P : Program} {w : World} {K : Fg} {mg : Str → Option Value} {base : Heap} {f C : Addr} {fd : FuncData}
theorem ini_ok {x qual : Str} {st : Stmt} {N ps : List Str} {f0 : Str} {fl : List Str} (T : OexE K C) (hf : ∀ g ∈ f0 :: fl, PySem.W.takerIn K C g = some none) (F : Fun K x qual st f fd) (S : FnScope N ps (defScope st)) (hn : ps.length = (f0 :: fl).length + 1) (hz : fl.length ≤ 800)
    (body : ∀ cdv A outer s H E, PSs (cxOf (L2.CX P w) P w K mg base N qual (defScope st) f cdv A outer s H E) (defBody st) (tIni K 0 (f0 :: fl))) :
    FnOk P w K mg base (L2.CX P w) 1 f fd ps (spIni K C (f0 :: fl)) := by
  refine F.okX S (fun vs H Q E h => ?_) (fun cdv A outer s H vs Q E hr h => ⟨_, body cdv A outer s H E, ?_⟩)
  · obtain ⟨e, ys, rfl, hl, _⟩ := h
    rw [List.length_cons, hl, hn]
  · obtain ⟨e, ys, rfl, hl, he, hq⟩ := h
    cases ys with
    | nil => cases hl
    | cons y ys =>
      have hl' : ys.length = fl.length := by simpa using hl
      have s0 : (start N (.ref e :: y :: ys))[0]? = some (some (.ref e)) := rfl
      have s1 : ∀ i z, (y :: ys)[i]? = some z → (start N (.ref e :: y :: ys))[0 + 1 + i]? = some (some z) := fun i z hi => by
        have : i < (y :: ys).length := (List.getElem?_eq_some_iff.mp hi).1
        unfold L2.start
        rw [List.getElem?_append_left (by rw [List.length_map, List.length_cons]; omega), List.getElem?_map, Nat.zero_add, Nat.add_comm, List.getElem?_cons_succ, hi]
        rfl
      refine ⟨y, s1 0 y rfl, .ref e, s0, e, C, rfl, T, hf f0 (List.mem_cons_self ..), .inl ⟨he, fun dx hd hde => ?_⟩⟩
      refine ini_more T s0 hde fl ys 1 [(f0, y)] _ hl'.symm (fun g hg => hf g (List.mem_cons_of_mem _ hg)) (fun i z hi => ?_) (by simp; omega) upd_same ?_ ?_
      · have := s1 (i + 1) z (by simpa using hi)
        rw [show 0 + 1 + (i + 1) = 1 + 1 + i by omega] at this
        exact this
      · rw [upd_ne hde]
        exact upd_same
      · have q := hq dx hd hde
        have z : ((f0 :: fl).zip (y :: ys)).reverse = (fl.zip ys).reverse ++ [(f0, y)] := by simp
        rw [z] at q
        rw [upd_comm (Ne.symm hde), upd_twice]
        exact q
end
def tMkE (C : Addr) (fl : List Str) (ta : TA) : St → Hp → XK → Prop := fun σ H Q => ta σ H fun vs H1 => vs.length = fl.length ∧ vs.length ≤ 1000 ∧ ∀ d, H1 d = none → Q (.ref C) (some d) (upd H1 d (.xd (fl.zip vs).reverse))
theorem pmk_oexE {X : Cx} {x : Str} {C : Addr} {fl : List Str} {e : Expr} {es : List Expr} {ta : TA} {p pos : Pos} (T : KnownX X.prog X.w X.K X.mg X.base x C fl) (hr : Room 2 X.A) (hp : Passes (L2.CX X.prog X.w) X (fun _ _ _ => False)) (hg : Gl X x) (ha : PA X (e :: es) ta)
    (hdb : (x == ("__debug__" : Str)) = false := by decide) (he : starEach (e :: es) X.env = (false, eval e X.env) :: starEach es X.env := by rfl) (hpl : (backTo pos (starEach es X.env)).any (·.1) = false := by rfl) :
    PMk X (.Call (.Name x p) (e :: es) [] pos) (tMkE C fl ta) := by
  intro pins s σ H Q I h
  obtain ⟨fI, fd, ps, iC, tI, hb, hps, F1⟩ := T.ex
  refine wpAny_Call_Name_kw (ld_glob I hg T.mgC ?_ hdb)
  refine PySem.W.callWith_K (h₀ := X.base) I.ok.mod.kin T.oex.kC (thn (ha.run pos pins s σ H _ I h) fun us s1 q1 => ?_) he hpl
  obtain ⟨vs, H1, I1, r1, hlen, hz, q1⟩ := q1
  refine ⟨I1.kIn, ?_⟩
  obtain ⟨nm, N, qn, bs, bm, hdct, sn, sub, ab, col, dd, k0, k1, k2, k3, k5, hC, hT⟩ := PySem.W.excInit_of I1.kIn T.oex.init
  obtain ⟨hp1, g, dr, tk, os⟩ := s1
  have up : hp1.objs.size ≤ hp1.objs.size + 1 := Nat.le_succ _
  have na : H1 (hp1.objs.size + 1) = none := I1.hok.fresh up
  have hk : ∀ b o, hp1.get? b = some o → ((hp1.push (PySem.W.kdv_tup us)).push (HandSPX.excO C hp1.objs.size)).get? b = some o := fun b o z => Heap.get?_push_of_some _ (Heap.get?_push_of_some _ z)
  have hget : ((hp1.push (PySem.W.kdv_tup us)).push (HandSPX.excO C hp1.objs.size)).get? (hp1.objs.size + 1) = some (HandSPX.excO C hp1.objs.size) := by heap_get
  have I2 := I1.laid (t' := tk) (a := hp1.objs.size + 1) (o := exo (hp1.objs.size + 1) C none) (h' := (hp1.push (PySem.W.kdv_tup us)).push (HandSPX.excO C hp1.objs.size)) hk up (exo_ok hget)
  have r2 : Vals (V.ref (hp1.objs.size + 1) :: vs) (Value.ref (hp1.objs.size + 1) :: us) := .cons rfl r1
  have hl : (Value.ref (hp1.objs.size + 1) :: us).length = ps.length := by rw [← r2.length, List.length_cons, hlen, hps]
  have hus : us.length ≤ sizeLine := by rw [← Paired.length r1, sizeLine_eq]; omega
  have sp : spIni X.K C fl (.ref (hp1.objs.size + 1) :: vs) (upd H1 (hp1.objs.size + 1) (exo (hp1.objs.size + 1) C none)) (fun v H2 => v = .non ∧ ∃ d, H2 (hp1.objs.size + 1) = some (exo (hp1.objs.size + 1) C (some d)) ∧ H2 d = some (exd d (fl.zip vs).reverse) ∧ H1 d = none ∧ Q (.ref C) (some d) (upd (del H2 (hp1.objs.size + 1)) d (.xd (fl.zip vs).reverse))) (fun _ _ _ => False) := by
    refine ⟨_, vs, rfl, hlen, upd_same, fun d hd hde => ⟨rfl, d, upd_same, ?_, ?_, ?_⟩⟩
    · rw [upd_ne hde]; exact upd_same
    · rw [upd_ne hde] at hd; exact hd
    · have hd' : H1 d = none := by rw [upd_ne hde] at hd; exact hd
      have z : upd (del (upd (upd (upd H1 (hp1.objs.size + 1) (exo (hp1.objs.size + 1) C none)) d (exd d (fl.zip vs).reverse)) (hp1.objs.size + 1) (exo (hp1.objs.size + 1) C (some d))) (hp1.objs.size + 1)) d (.xd (fl.zip vs).reverse) = upd H1 d (.xd (fl.zip vs).reverse) := by
        funext b
        by_cases z1 : b = d
        · rw [z1, upd_same, upd_same]
        · rw [upd_ne z1, upd_ne z1]
          by_cases z2 : b = hp1.objs.size + 1
          · rw [z2, del_same, na]
          · rw [del_ne z2, upd_ne z2, upd_ne z1, upd_ne z2]
      rw [z]
      exact q1 d hd'
  have b2 : BindsTo _ fd _ _ := hb ⟨(hp1.push (PySem.W.kdv_tup us)).push (HandSPX.excO C hp1.objs.size), g, dr, tk, os⟩ (Value.ref (hp1.objs.size + 1) :: us) I2.kIn (by rw [List.append_nil]; exact hl)
  rw [List.append_nil] at b2
  show wpAny _ _ (call (.ref C) us) _ _ _
  refine wpAny_call (HandSPX.call_own F.excBase_Exception hT hC (PySem.W.looks_findIn I1.kIn iC) (fun self => PySem.W.bind_fn I1.kIn self tI) hus (codeAny_mono (F1.run _ X.stack _ _ ⟨Value.ref (hp1.objs.size + 1) :: us, []⟩ _ _ _ _ (hr.make C us []) (I2.env0.make C us []) b2 r2 sp) fun r s' z => ?_))
  cases r with
  | error er => exact hp pins σ _ _ er s' I2 z
  | ok fl' =>
    cases fl' with
    | ret u =>
      obtain ⟨v, H2, os2, bare2, un2, hok2, rv, ev, d, ea, ed, hd1, q2⟩ := z
      subst ev
      obtain ⟨h2, g2, d2, t2, os'⟩ := s'
      exact ⟨rv, mk_end (raises_own T.oex.exC T.oex.tyC) I1 up hk un2 hok2 os2 bare2 ea ed hd1 q2⟩
    | next => exact z.elim
    | brk => exact z.elim
    | cont => exact z.elim
end DL

set_option Elab.async false
set_option linter.all false
set_option maxRecDepth 100000
set_option maxHeartbeats 4000000
set_option autoImplicit false
namespace DL
open PySem PySem.Spec L2
section
variable {c : Ct} {μ : Mu} {g : G} {σ : L2.St} {H : Hp} {ρ : Rho} {p : Addr}
theorem RMO.there {K : Fg} {a : Addr} {m : MO} (h : RMO K g H a m) (sub : Same g.B H) : ∃ o, H a = some o := by
  cases m with
  | dead => obtain ⟨o, h1⟩ := h; exact ⟨o, sub _ _ h1⟩
  | lst ds => obtain ⟨xs, h1, _⟩ := h; exact ⟨_, h1⟩
  | ins C ns ds => obtain ⟨dx, xs, h1, _⟩ := h; exact ⟨_, h1⟩
  | dk ks ds => obtain ⟨xs, h1, _⟩ := h; exact ⟨_, h1⟩
  | dt ks ds => obtain ⟨xs, h1, _⟩ := h; exact ⟨_, h1⟩
theorem RMO.heap {K : Fg} {H' : Hp} {a : Addr} {m : MO} (h : RMO K g H a m) (e : ∀ o, H a = some o → H' a = some o) : RMO K g H' a m := by
  cases m with
  | dead => exact h
  | lst ds => obtain ⟨xs, h1, h2⟩ := h; exact ⟨xs, e _ h1, h2⟩
  | ins C ns ds => obtain ⟨dx, xs, h1, h2⟩ := h; exact ⟨dx, xs, e _ h1, h2⟩
  | dk ks ds => obtain ⟨xs, h1, h2⟩ := h; exact ⟨xs, e _ h1, h2⟩
  | dt ks ds => obtain ⟨xs, h1, h2⟩ := h; exact ⟨xs, e _ h1, h2⟩
theorem RSl.heap {K : Fg} {H' : Hp} {i : Nat} {s : Option Sl} {x : Option V} (h : RSl K g H i s x) (e : ∀ a o, H a = some o → H' a = some o) : RSl K g H' i s x := by
  cases s with
  | none => trivial
  | some s => cases s with
    | sh d => exact h
    | ol ds => obtain ⟨p, xs, h1, h2, h3, h4⟩ := h; exact ⟨p, xs, h1, h2, e _ _ h3, h4⟩
    | od ks ds => obtain ⟨p, xs, h1, h2, h3, h4⟩ := h; exact ⟨p, xs, h1, h2, e _ _ h3, h4⟩
    | ot ks ds => obtain ⟨p, xs, h1, h2, h3, h4⟩ := h; exact ⟨p, xs, h1, h2, e _ _ h3, h4⟩
theorem SH.newAt (h : SH c μ g H) (hp : H p = none) : c.H0 p = none ∧ g.O p = none ∧ g.B p = none ∧ p ∉ g.ads := by
  refine ⟨?_, ?_, ?_, fun q => ?_⟩
  · cases e : c.H0 p with
    | none => rfl
    | some o => obtain ⟨o', e'⟩ := h.oldT p o e; rw [hp] at e'; cases e'
  · cases e : g.O p with
    | none => rfl
    | some o => obtain ⟨o', e'⟩ := h.ownAt p (by rw [e]; exact fun z => by cases z); rw [hp] at e'; cases e'
  · cases e : g.B p with
    | none => rfl
    | some o => have := h.sub p o e; rw [hp] at this; cases this
  · obtain ⟨k, hk, ea⟩ := List.mem_iff_getElem.mp q
    have hk2 : k < μ.length := by rw [← h.alen]; exact hk
    obtain ⟨_, r⟩ := h.amb k p _ (by rw [List.getElem?_eq_getElem hk, ea]) (List.getElem?_eq_getElem hk2)
    obtain ⟨o, e⟩ := r.there h.sub
    rw [hp] at e
    cases e
theorem SH.laid (h : SH c μ g H) (hp : H p = none) (o : HO) : SH c μ g (upd H p o) := by
  have k : ∀ a u, H a = some u → upd H p o a = some u := fun a u e => by rw [upd_ne (ne_of_none e hp)]; exact e
  exact { h with
    sub := fun a u e => k a u (h.sub a u e)
    ownAt := fun a e => let ⟨u, q⟩ := h.ownAt a e; ⟨u, k a u q⟩
    amb := fun i a m e1 e2 => let ⟨q1, q2⟩ := h.amb i a m e1 e2; ⟨q1, q2.heap fun u => k a u⟩
    old := fun a u e n => k a u (h.old a u e n)
    oldT := fun a u e => let ⟨u', q⟩ := h.oldT a u e; ⟨u', k a u' q⟩
    tmpT := fun a u e => let ⟨q1, q2⟩ := h.tmpT a u e; ⟨q1, k a u q2⟩ }
theorem SR.laid (h : SR c ρ μ g σ H) (hp : H p = none) (o : HO) : SR c ρ μ g σ (upd H p o) :=
  { h.toSH.laid hp o with
    slen := h.slen
    slot := fun i s x e1 e2 => (h.slot i s x e1 e2).heap fun a u e => by rw [upd_ne (ne_of_none e hp)]; exact e }
end
theorem zip_rev {α β : Type} : ∀ {xs : List α} {ys : List β}, xs.length = ys.length → (xs.zip ys).reverse = xs.reverse.zip ys.reverse
  | [], [], _ => rfl
  | x :: xs, y :: ys, h => by
    have h' : xs.length = ys.length := by simpa using h
    rw [List.zip_cons_cons, List.reverse_cons, zip_rev h', List.reverse_cons, List.reverse_cons, List.zip_append (by simp [h'])]
    rfl
theorem Reps.rev {K : Fg} {ads : List Addr} {B : Hp} : ∀ {ds : List D} {xs : List V}, Reps K ads B ds xs → Reps K ads B ds.reverse xs.reverse
  | [], xs, h => by rw [reps_nil_inv h]; exact reps_nil
  | d :: ds, xs, h => by
    obtain ⟨x, r, rfl, hx, t⟩ := reps_cons_inv h
    rw [List.reverse_cons, List.reverse_cons]
    exact Reps.append (Reps.rev t) (reps_cons hx reps_nil)
theorem RA.stm {c : Ct} {W : WX} {ρ : Rho} {μ μ' : Mu} {g : G} {σ : L2.St} {H : Hp} {o : Out} {D₀ : Ends} {te : TA} {t : TL} (ht : RA c W te t) {f : List D → Rho → Mu → Option (Out × Mu)} {Q : List V → Hp → Prop} (s : SR c ρ μ g σ H) (h : dsE t f ρ μ = some (o, μ')) (hx : PS' c W g o μ' D₀)
    (k : ∀ d μ1, f d ρ μ1 = some (o, μ') → ∀ v H1 g1, Le g g1 → SR c ρ μ1 g1 σ H1 → GReps c.K g1 d v → PS' c W g1 o μ' D₀ → Q v H1) : te σ H Q := by
  rcases dsE_some h with ⟨a, μ1, e1, e2⟩ | ⟨C, ns, ds, e1, rfl⟩
  · exact ht ρ μ g σ H Q _ _ s e1 px_ok fun d e v H' g' l s' rp => by
      cases e
      exact k a μ1 e2 v H' g' l s' rp (hx.le l)
  · exact ht ρ μ g σ H Q _ _ s e1 (px_of hx) fun d e => by cases e
def dsRaise (C : Addr) (fl : List Str) (tl : TL) : TO' := dsE tl fun ds ρ μ => if ds.length = fl.length ∧ ds.length ≤ 1000 then some (.ex ρ C fl.reverse ds.reverse, μ) else none
def dsRaise0 (C : Addr) : TO' := fun ρ μ => some (.ex ρ C [] [], μ)
section
variable {X : Cx} {W : WX} {x : Str} {C : Addr} {fl : List Str} {e : Expr} {es : List Expr} {tl : TL} {p pos pos' : Pos}
theorem passF {X : Cx} : Passes (L2.CX X.prog X.w) X (fun _ _ _ => False) := fun pins σ H s e s' I c => by
  obtain ⟨_, _, _, _, _, _, _, _, _, _, _, _, z⟩ := c
  exact z.elim
theorem ds_raise (hc : X.calm = true) (tk : Takes X W) (T : KnownX X.prog X.w X.K X.mg X.base x C fl) (hr : Room 2 X.A) (ha : DA X W (e :: es) tl) (hg : Gl X x := by rfl)
    (hdb : (x == ("__debug__" : Str)) = false := by decide) (he : starEach (e :: es) X.env = (false, eval e X.env) :: starEach es X.env := by rfl) (hpl : (backTo pos (starEach es X.env)).any (·.1) = false := by rfl) :
    DS X W (.Raise (some (.Call (.Name x p) (e :: es) [] pos)) none pos') (dsRaise C fl tl) := by
  obtain ⟨te, pa, ra⟩ := ha.ex
  refine ⟨_, ps_raise hc tk (pmk_oexE T hr passF hg pa hdb he hpl), fun c hc ρ μ g σ H D₀ o μ' s h k => ?_⟩
  refine (ra c hc).stm s h k fun ds μ1 h1 vs H1 g1 l1 s1 r1 k1 => ?_
  by_cases q : ds.length = fl.length ∧ ds.length ≤ 1000
  · rw [if_pos q] at h1
    cases h1
    have hv : vs.length = fl.length := by rw [← r1.length]; exact q.1
    refine ⟨hv, by rw [← r1.length]; exact q.2, fun d hd => ?_⟩
    obtain ⟨n1, n2, n3, n4⟩ := s1.toSH.newAt hd
    refine k1 (some d) σ _ g1 (Le.refl _) (s1.laid hd _) ⟨vs.reverse, ?_, by simp [hv], Reps.rev r1, n1, n2, n3, n4⟩
    rw [upd_same, zip_rev hv.symm]
  · rw [if_neg q] at h1
    cases h1
structure KnownY (K : Fg) (mg : Str → Option Value) (x : Str) (C : Addr) : Prop where
  exc : PySem.W.excIn K C exRow "Exception.__new__" = true
  mgC : mg x = some (.ref C)
  kC : PySem.W.keepIn K (.ref C) = true
  exC : PySem.W.subIn K (.ref C) (.type "BaseException") = some true
  tyC : PySem.W.typeIn K (.ref C) = some (.type "type")
end
end DL

set_option Elab.async false
set_option linter.all false
set_option maxRecDepth 100000
set_option maxHeartbeats 4000000
set_option autoImplicit false
namespace DL
open PySem PySem.Spec L2
def semS (K : Fg) (W : WX) (t : TO') : TS := fun D σ H => ∃ c ρ μ g o μ', c.K = K ∧ SR c ρ μ g σ H ∧ t ρ μ = some (o, μ') ∧ PS' c W g o μ' D
theorem DSs.sem {X : Cx} {W : WX} {sts : List Stmt} {t : TO'} (h : DSs X W sts t) : PSs X sts (semS X.K W t) := by
  obtain ⟨ts, p, r⟩ := h.ex
  refine ⟨fun pins s σ H D I q => ?_⟩
  obtain ⟨c, ρ, μ, g, o, μ', hc, s1, h1, k⟩ := q
  exact p.run pins s σ H D I (r c hc ρ μ g σ H D o μ' s1 h1 k)
abbrev KX := List (Addr × Addr × Bool)
def kxD (kx : KX) (C c : Addr) : Option Bool := (kx.find? fun x => decide (x.1 = C ∧ x.2.1 = c)).map (·.2.2)
def KXOk (K : Fg) (kx : KX) : Prop := ∀ x ∈ kx, PySem.W.exmOne K (.ref x.1) (.ref x.2.1) = some x.2.2
theorem kxD_some {K : Fg} {kx : KX} (h : KXOk K kx) {C c : Addr} {b : Bool} (e : kxD kx C c = some b) : PySem.W.exmOne K (.ref C) (.ref c) = some b := by
  unfold kxD at e
  obtain ⟨x, h1, rfl⟩ := Option.map_eq_some_iff.mp e
  have h2 := List.find?_some h1
  obtain ⟨q1, q2⟩ := of_decide_eq_true h2
  rw [← q1, ← q2]
  exact h x (List.mem_of_find?_eq_some h1)
def kxB (kx : Fg → KX) (K : Fg) : Bool := (kx K).all fun x => decide (PySem.W.exmOne K (.ref x.1) (.ref x.2.1) = some x.2.2)
theorem kxB_ok {kx : Fg → KX} {K : Fg} (h : kxB kx K = true) : KXOk K (kx K) := fun x hx => of_decide_eq_true (List.all_eq_true.mp h x hx)
def noEx : Option (Out × Mu) → Option (Out × Mu)
  | some (.ex _ _ _ _, _) => none
  | r => r
theorem noEx_some {r : Option (Out × Mu)} {o : Out} {μ : Mu} (h : noEx r = some (o, μ)) : r = some (o, μ) ∧ ∀ ρ C ns ds, o ≠ .ex ρ C ns ds := by
  unfold noEx at h
  split at h
  · cases h
  · rename_i hn
    refine ⟨h, fun ρ C ns ds e => ?_⟩
    subst e
    exact hn _ _ _ _ _ h
def dsTry (kx : KX) (c : Addr) (tb ts : TO') : TO' := fun ρ μ => match tb ρ μ with
  | some (.ex ρ' C ns ds, μ') => match kxD kx C c with
    | some true => noEx (ts ρ' μ')
    | some false => some (.ex ρ' C ns ds, μ')
    | none => none
  | r => r
theorem PS'.wish {c : Ct} {W W' : WX} {g : G} {o : Out} {μ' : Mu} {D : Ends} (h : PS' c W g o μ' D) (hn : ∀ ρ C ns ds, o ≠ .ex ρ C ns ds) : PS' c W' g o μ' D := by
  cases o with
  | ex ρ C ns ds => exact absurd rfl (hn _ _ _ _)
  | nx ρ => exact h
  | bk ρ => exact h
  | ct ρ => exact h
  | rt d => exact h
section
variable {X : Cx} {W : WX} {x : Str} {C : Addr} {kx : KX} {body suite : List Stmt} {b₀ : Stmt} {np pos pos' : Pos} {tb ts : TO'}
end
end DL

set_option Elab.async false
set_option linter.all false
set_option maxRecDepth 100000
set_option maxHeartbeats 4000000
set_option autoImplicit false
namespace DL
open PySem PySem.Spec L2
def Gam (i : Nat) (a : Addr) (d : Option Addr) (ns : List Str) (ds : List D) (c : Ct) (σ : L2.St) : Prop := σ[i]? = some (some (.ref a)) ∧ match d with
  | none => ns = []
  | some dd => ∃ xs, c.H0 dd = some (.xd (ns.zip xs)) ∧ dd ∉ c.A0 ∧ ns.length = xs.length ∧ Reps c.K c.A0 c.B0 ds xs
abbrev GamT := Ct → L2.St → Prop
def REg (Γ : GamT) (c : Ct) (te : TE) (t : TD) : Prop := ∀ ρ μ g σ H Q d μ', SR c ρ μ g σ H → Γ c σ → t ρ μ = some (.ok d, μ') → (∀ v H' g', Le g g' → SR c ρ μ' g' σ H' → GRep c.K g' d v → Q v H') → te σ H Q
def RAg (Γ : GamT) (c : Ct) (te : TA) (t : TL) : Prop := ∀ ρ μ g σ H Q ds μ', SR c ρ μ g σ H → Γ c σ → t ρ μ = some (.ok ds, μ') → (∀ vs H' g', Le g g' → SR c ρ μ' g' σ H' → GReps c.K g' ds vs → Q vs H') → te σ H Q
def RFg (Γ : GamT) (c : Ct) (te : TE) (t : TL) : Prop := ∀ ρ μ g σ H Q ds μ', SR c ρ μ g σ H → Γ c σ → t ρ μ = some (.ok ds, μ') →
  (∀ p xs H' g', Le g g' → SR c ρ μ' g' σ H' → (g'.O p = some (.inl 0) ∧ g'.T p = none) → H' p = some (.lst xs) → GReps c.K g' ds xs → Q (.ref p) H') → te σ H Q
def RSg (Γ : GamT) (c : Ct) (ts : TS) (t : TO') : Prop := ∀ ρ μ g σ H D o μ', SR c ρ μ g σ H → Γ c σ → t ρ μ = some (o, μ') → (∀ ρ C ns ds, o ≠ .ex ρ C ns ds) → PS' c (fun _ _ _ _ => False) g o μ' D → ts D σ H
structure DEg (X : Cx) (Γ : GamT) (e : Expr) (t : TD) : Prop where
  ex : ∃ te, PE X e te ∧ ∀ c : Ct, c.K = X.K → REg Γ c te t
structure DAg (X : Cx) (Γ : GamT) (es : List Expr) (t : TL) : Prop where
  ex : ∃ te, PA X es te ∧ ∀ c : Ct, c.K = X.K → RAg Γ c te t
structure DFg (X : Cx) (Γ : GamT) (e : Expr) (t : TL) : Prop where
  ex : ∃ te, PE X e te ∧ ∀ c : Ct, c.K = X.K → RFg Γ c te t
structure DSg (X : Cx) (Γ : GamT) (st : Stmt) (t : TO') : Prop where
  ex : ∃ ts, PS X st ts ∧ ∀ c : Ct, c.K = X.K → RSg Γ c ts t
theorem bind_ok {α β : Type} {m : M α} {f : α → M β} {μ μ' : Mu} {b : β} (h : M.bind m f μ = some (.ok b, μ')) : ∃ a μ1, m μ = some (.ok a, μ1) ∧ f a μ1 = some (.ok b, μ') := by
  rcases bind_some h with ⟨a, μ1, e1, e2⟩ | ⟨C, ns, ds, e1, e2⟩
  · exact ⟨a, μ1, e1, e2⟩
  · cases e2
section
variable {X : Cx} {Γ : GamT} {W : WX} {a : Expr} {ta : TD} {es : List Expr} {tl : TL} {pos : Pos}
theorem dag_nil : DAg X Γ [] dNil := ⟨_, pa_nil, fun c hc ρ μ g σ H Q ds μ' s _ h k => by
  cases h
  exact k [] H g (Le.refl g) s reps_nil⟩
theorem dag_cons (ha : DEg X Γ a ta) (hr : DAg X Γ es tl) (hs : starEach (a :: es) X.env = (false, eval a X.env) :: starEach es X.env := by rfl) : DAg X Γ (a :: es) (dCons ta tl) := by
  obtain ⟨tea, pa, ra⟩ := ha.ex
  obtain ⟨teb, pb, rb⟩ := hr.ex
  refine ⟨_, pa_cons pa pb hs, fun c hc ρ μ g σ H Q ds μ' s q h k => ?_⟩
  obtain ⟨x, μ1, h1, h2⟩ := bind_ok h
  obtain ⟨xs, μ2, h3, h4⟩ := bind_ok h2
  cases h4
  exact ra c hc ρ μ g σ H _ x μ1 s q h1 fun v1 H1 g1 l1 s1 r1 => rb c hc ρ μ1 g1 σ H1 _ xs _ s1 q h3 fun vs H2 g2 l2 s2 r2 => k _ H2 g2 (l1.trans l2) s2 (reps_cons (l2.rep r1) r2)
theorem deg_tup {x1} (h : DAg X Γ es tl) : DEg X Γ (.Tuple es x1 pos) (dTup tl) := by
  obtain ⟨te, p, r⟩ := h.ex
  refine ⟨_, pe_tup p, fun c hc ρ μ g σ H Q d μ' s q h k => ?_⟩
  obtain ⟨ds, μ1, h1, h2⟩ := bind_ok h
  by_cases z : ds.length ≤ sizeLine
  · rw [if_pos z] at h2
    cases h2
    refine r c hc ρ μ g σ H _ ds _ s q h1 fun xs H1 g1 l1 s1 r1 => ⟨by rw [← r1.length]; exact z, fun p hp => ?_⟩
    refine k _ _ (g1.addB p (.tup xs)) (l1.trans (s1.leB hp)) (s1.addB hp) ?_
    unfold GRep Rep
    exact ⟨p, xs, rfl, upd_same, (s1.leB hp).reps r1⟩
  · rw [if_neg z] at h2
    cases h2
end
def dExF (f : Str) (ns : List Str) (ds : List D) : TD := fun _ μ => match (ns.zip ds).lookup f with
  | some d => some (.ok d, μ)
  | none => none
theorem lookup_rep {K : Fg} {ads : List Addr} {B : Hp} {f : Str} {d : D} : ∀ {ns : List Str} {ds : List D} {xs : List V}, Reps K ads B ds xs → (ns.zip ds).lookup f = some d → ∃ x, (ns.zip xs).lookup f = some x ∧ Rep K ads B d x
  | [], ds, xs, _, h => by simp at h
  | n :: ns, [], xs, _, h => by simp at h
  | n :: ns, e :: ds, xs, r, h => by
    obtain ⟨x, t, rfl, hx, ht⟩ := reps_cons_inv r
    rw [List.zip_cons_cons] at h ⊢
    by_cases q : f = n
    · subst q
      simp [List.lookup] at h
      subst h
      exact ⟨x, by simp [List.lookup], hx⟩
    · have q' : (f == n) = false := by simpa using q
      simp only [List.lookup, q'] at h ⊢
      exact lookup_rep ht h
section
variable {X : Cx} {a C : Addr} {oe : Obj} {d : Option Addr} {pn : List (Addr × Obj)} {ns : List Str} {ds : List D} {i : Nat} {x f : Str} {p pos : Pos}
theorem deg_exf (T : XfC X.K C) (hno : PySem.W.findIn X.K (.ref C) f = some none) (hz : Zc (.ref C) d oe) (hf : ∃ vs, oe.data = .fields vs) (he : PE (X.suite a ((a, oe) :: pn)) (.Name x p) (tVar i)) (hb : attributeBase (.Name x p) f X.env (eval (.Name x p) X.env) = eval (.Name x p) X.env := by rfl) :
    DEg (X.suite a ((a, oe) :: pn)) (Gam i a d ns ds) (.Attribute (.Name x p) f pos) (dExF f ns ds) := by
  refine ⟨_, pe_xf T hno hz hf he hb, fun c hc ρ μ g σ H Q y μ' s q h k => ?_⟩
  obtain ⟨q1, q2⟩ := q
  unfold dExF at h
  cases e : (ns.zip ds).lookup f with
  | none => rw [e] at h; cases h
  | some y' =>
    rw [e] at h
    cases h
    cases d with
    | none =>
      have q2' : ns = [] := q2
      subst q2'
      simp at e
    | some dd =>
      obtain ⟨xs, x1, x2, x3, x4⟩ := q2
      obtain ⟨z, z1, z2⟩ := lookup_rep x4 e
      exact ⟨_, q1, rfl, rfl, dd, _, z, rfl, s.old dd _ x1 x2, z1, k z H g (Le.refl g) s (Rep.mono s.b0 s.a0 z2)⟩
end
end DL

set_option Elab.async false
set_option linter.all false
set_option maxRecDepth 100000
set_option maxHeartbeats 4000000
set_option autoImplicit false
namespace DL
open PySem PySem.Spec L2
def Ct.re (c : Ct) (g : G) (H0' : Hp) : Ct := ⟨c.K, H0', g.B, g.ads⟩
section
variable {c : Ct} {μ μ' : Mu} {g g' : G} {σ : L2.St} {H H' H0' : Hp} {ρ : Rho}
theorem SH.re (h : SH c μ g H) (k2 : ∀ a o, H0' a = some o → c.H0 a = some o ∨ (H a = some o ∧ g.O a = none)) : SH (c.re g H0') μ g H where
  sub := h.sub
  own := h.own
  ownNew := fun a i e => by
    show H0' a = none
    cases q : H0' a with
    | none => rfl
    | some o =>
      rcases k2 a o q with w | ⟨_, w⟩
      · rw [h.ownNew a i e] at w; cases w
      · rw [w] at e; cases e
  ownAt := h.ownAt
  alen := h.alen
  amb := h.amb
  old := fun a o e n => by
    rcases k2 a o e with w | ⟨w, _⟩
    · refine h.old a o w fun z => n ?_
      obtain ⟨k, hk, ea⟩ := List.mem_iff_getElem.mp z
      exact List.mem_of_getElem? (h.a0 k a (by rw [List.getElem?_eq_getElem hk, ea]))
    · exact w
  oldT := fun a o e => by
    rcases k2 a o e with w | ⟨w, _⟩
    · exact h.oldT a o w
    · exact ⟨o, w⟩
  newB := fun a o e => .inl e
  b0 := Same.refl _
  a0 := fun _ _ e => e
  aNew := fun a e => .inl e
  tmpT := h.tmpT
theorem SR.re (h : SR c ρ μ g σ H) (k2 : ∀ a o, H0' a = some o → c.H0 a = some o ∨ (H a = some o ∧ g.O a = none)) : SR (c.re g H0') ρ μ g σ H :=
  { h.toSH.re k2 with slen := h.slen, slot := h.slot }
theorem SH.un (h0 : SH c μ g H) (k1 : ∀ a o, c.H0 a = some o → H0' a = some o) (l : Le g g') (h : SH (c.re g H0') μ' g' H') : SH c μ' g' H' := by
  have n0 : ∀ a, H0' a = none → c.H0 a = none := fun a e => by
    cases q : c.H0 a with
    | none => rfl
    | some o => rw [k1 a o q] at e; cases e
  exact {
    sub := h.sub
    own := h.own
    ownNew := fun a i e => n0 a (h.ownNew a i e)
    ownAt := h.ownAt
    alen := h.alen
    amb := h.amb
    old := fun a o e n => h.old a o (k1 a o e) fun z => by
      rcases h0.aNew a z with w | w
      · exact n w
      · rw [e] at w; cases w
    oldT := fun a o e => h.oldT a o (k1 a o e)
    newB := fun a o e => by
      rcases h.newB a o e with w | w | w
      · exact h0.newB a o w
      · exact .inr (.inl (n0 a w))
      · rcases h0.aNew a w with z | z
        · exact .inr (.inr z)
        · exact .inr (.inl z)
    b0 := fun a o e => l.b a o (h0.b0 a o e)
    a0 := fun k a e => l.a k a (h0.a0 k a e)
    aNew := fun a e => by
      rcases h.aNew a e with w | w
      · exact h0.aNew a w
      · exact .inr (n0 a w)
    tmpT := h.tmpT }
theorem SR.un {ρ' : Rho} {σ' : L2.St} (h0 : SH c μ g H) (k1 : ∀ a o, c.H0 a = some o → H0' a = some o) (l : Le g g') (h : SR (c.re g H0') ρ' μ' g' σ' H') : SR c ρ' μ' g' σ' H' :=
  { h0.un k1 l h.toSH with slen := h.slen, slot := h.slot }
theorem SR.setAny (h : SR c ρ μ g σ H) (i : Nat) (x : Option V) : SR c (ρ.set i none) μ g (σ.set i x) H :=
  { h.toSH with
    slen := by rw [List.length_set, List.length_set]; exact h.slen
    slot := fun j s y e1 e2 => by
      rcases set_slot e1 e2 with ⟨rfl, rfl, rfl, _⟩ | ⟨_, q1, q2⟩
      · trivial
      · exact h.slot j s y q1 q2 }
end
def Out.clr (i : Nat) : Out → Out
  | .nx ρ => .nx (ρ.set i none)
  | .bk ρ => .bk (ρ.set i none)
  | .ct ρ => .ct (ρ.set i none)
  | o => o
def dsTryAs (kx : KX) (S : List Addr) (c : Addr) (i : Nat) (tb : TO') (ts : Addr → List Str → List D → TO') : TO' := fun ρ μ => match tb ρ μ with
  | some (.ex ρ' C ns ds, μ') => match kxD kx C c with
    | some true => if C ∈ S ∧ i < ρ'.length then match noEx (ts C ns ds (ρ'.set i none) μ') with
      | some (o, μ2) => some (o.clr i, μ2)
      | none => none else none
    | some false => some (.ex ρ' C ns ds, μ')
    | none => none
  | r => r
def semG (K : Fg) (S : List Addr) (i : Nat) (ts : Addr → List Str → List D → TO') (a : Addr) (cls : Value) (d : Option Addr) : TS := fun D σ H => ∃ C ns ds c ρ μ g o μ', cls = .ref C ∧ C ∈ S ∧ c.K = K ∧ SR c ρ μ g σ H ∧ Gam i a d ns ds c σ ∧ ts C ns ds ρ μ = some (o, μ') ∧ (∀ ρ C ns ds, o ≠ .ex ρ C ns ds) ∧ PS' c (fun _ _ _ _ => False) g o μ' D
section
variable {X : Cx} {W : WX} {x n : Str} {C : Addr} {kx : KX} {S : List Addr} {i : Nat} {body : List Stmt} {st : Stmt} {np pos pos' : Pos} {tb : TO'} {ts : Addr → List Str → List D → TO'}
end
end DL

set_option Elab.async false
set_option linter.all false
set_option maxRecDepth 100000
set_option maxHeartbeats 4000000
set_option autoImplicit false
namespace DL
open PySem PySem.Spec L2
section
variable {X : Cx} {W : WX} {a b e o : Expr} {ta tb t u : TD} {tq : TQ} {pos p2 : Pos}
def Str.sign (z : Str) : Option Nat := match z.cps.toList with
  | [c] => some c
  | _ => none
theorem sign_some {z : Str} {c : Nat} (h : Str.sign z = some c) : z = ⟨#[c]⟩ := by
  unfold Str.sign at h
  split at h
  · rename_i c' e
    cases h
    cases z with
    | mk cps =>
      cases cps with
      | mk l =>
        have e' : l = [c] := e
        rw [e']
  · cases h
def gInS (neg : Bool) : D → D → Option D
  | .str x, .str z => match Str.sign x with
    | some c => some (.bl (if neg then !decide (c ∈ z.cps.toList) else decide (c ∈ z.cps.toList)))
    | none => none
  | _, _ => none
theorem gInS_some {neg : Bool} {x y d : D} (h : gInS neg x y = some d) : ∃ c z, x = .str ⟨#[c]⟩ ∧ y = .str z ∧ d = .bl (if neg then !decide (c ∈ z.cps.toList) else decide (c ∈ z.cps.toList)) := by
  cases x <;> cases y <;> first | (cases h; done) | skip
  rename_i x z
  unfold gInS at h
  cases e : Str.sign x with
  | none => simp only [e] at h; cases h
  | some c =>
    simp only [e] at h
    cases h
    exact ⟨c, z, by rw [sign_some e], rfl, rfl⟩
theorem od_inS : OpD X (compareOp .In) (gInS false) := opD_pure op_in_sign fun g H x y vx vy Q d _ rx ry h k => by
  obtain ⟨c, z, rfl, rfl, rfl⟩ := gInS_some h
  exact ⟨c, z, rep_str rx, rep_str ry, k _ (flat_rep rfl)⟩
def repS (z : Str) (n : Int) : Str := if n < 1 then Str.empty else if (n == 1 || z.length == 0) = true then z else ⟨(List.replicate n.toNat z.cps).foldl (· ++ ·) #[]⟩
def gMulS : D → D → Option D
  | .str z, .int n => if -1000 ≤ n ∧ n ≤ 1000 ∧ z.length ≤ 1000 ∧ (repS z n).length ≤ sizeLine then some (.str (repS z n)) else none
  | _, _ => none
theorem op_mul_str : OpR X (binaryOp .Mult) (fun x y H Q => ∃ z n, x = .str z ∧ y = .int n ∧ -1000 ≤ n ∧ n ≤ 1000 ∧ z.length ≤ 1000 ∧ (repS z n).length ≤ sizeLine ∧ Q (.str (repS z n)) H) := by
  intro pins s σ H x y v u Q I rx ry h
  obtain ⟨z, n, rfl, rfl, h1, h2, h3, h4, q⟩ := h
  obtain ⟨t, rfl⟩ := rx
  obtain ⟨t', rfl⟩ := ry
  refine PySem.P.mul_str ?_ (fun hn _ => ?_) (fun hn _ => ?_) ?_
  · rw [decide_eq_false (by omega), decide_eq_false (by omega)]; rfl
  · have e1 : (n : Int) > 0 := by omega
    have e2 : (1000 : Int) ≤ (2 ^ 63 - 1) / n := by
      rw [Int.le_ediv_iff_mul_le e1]
      have : (1000 : Int) * n ≤ 1000 * 1000 := Int.mul_le_mul_of_nonneg_left h2 (by decide)
      omega
    omega
  · have e1 : z.length * n.toNat ≤ 1000 * 1000 := Nat.mul_le_mul h3 (by omega)
    show decide (_ > _) = false
    apply decide_eq_false
    have e3 : sizeLine = 16777216 := by decide
    omega
  · unfold repS at q h4
    by_cases c1 : n < 1
    · rw [if_pos c1] at q ⊢
      exact ⟨by decide, .str _, H, I.tok _, ⟨_, rfl⟩, q⟩
    · rw [if_neg c1] at q h4 ⊢
      by_cases c2 : (n == 1 || z.length == 0) = true
      · rw [if_pos c2] at q ⊢
        exact ⟨.str z, H, I, ⟨t, rfl⟩, q⟩
      · rw [if_neg c2] at q h4 ⊢
        exact ⟨h4, .str _, H, I.tok _, ⟨_, rfl⟩, q⟩
theorem gMulS_some {x y d : D} (h : gMulS x y = some d) : ∃ z n, x = .str z ∧ y = .int n ∧ -1000 ≤ n ∧ n ≤ 1000 ∧ z.length ≤ 1000 ∧ (repS z n).length ≤ sizeLine ∧ d = .str (repS z n) := by
  cases x <;> cases y <;> first | (cases h; done) | skip
  rename_i z n
  have h : (if -1000 ≤ n ∧ n ≤ 1000 ∧ z.length ≤ 1000 ∧ (repS z n).length ≤ sizeLine then some (D.str (repS z n)) else none) = some d := h
  by_cases q : -1000 ≤ n ∧ n ≤ 1000 ∧ z.length ≤ 1000 ∧ (repS z n).length ≤ sizeLine
  · rw [if_pos q] at h
    cases h
    exact ⟨z, n, rfl, rfl, q.1, q.2.1, q.2.2.1, q.2.2.2, rfl⟩
  · rw [if_neg q] at h
    cases h
theorem od_mulS : OpD X (binaryOp .Mult) gMulS := opD_pure op_mul_str fun g H x y vx vy Q d _ rx ry h k => by
  obtain ⟨z, n, rfl, rfl, h1, h2, h3, h4, rfl⟩ := gMulS_some h
  exact ⟨z, n, rep_str rx, rep_int ry, h1, h2, h3, h4, k _ (flat_rep rfl)⟩
def dM1 (gf : D → D → Option D) (t u : TD) : TD := fun ρ => M.bind (t ρ) fun x => match x with
  | .str a => M.bind (u ρ) fun y => M.lift (gf (.str a) y)
  | _ => M.stuck
theorem de_m1 {name : Str} {id : String} {apos : Pos} {gf : D → D → Option D} {r : V → List V → Hp → VK → Prop} (slot : Slot "str" name id) (ty : typeOf (.builtin id) = pure (.type "method_descriptor")) (rule : MtR X id r)
    (hr : ∀ (g : G) H a y vy (Q : VK) d, Same g.B H → GRep X.K g y vy → gf (.str a) y = some d → (∀ v, GRep X.K g d v → Q v H) → r (.str a) [vy] H Q)
    (ho : DE X W o ta) (he : DE X W e tb) (hs : starEach [e] X.env = [(false, eval e X.env)] := by rfl) (hbase : attributeBase o name X.env (eval o X.env) = eval o X.env := by rfl) (hline : (apos.endLine == pos.line) = true := by rfl) :
    DE X W (.Call (.Attribute o name apos) [e] [] pos) (dM1 gf ta tb) := by
  obtain ⟨te, p, r1⟩ := ho.ex
  obtain ⟨ue, pu, ru⟩ := he.ex
  refine ⟨_, pe_m1 slot ty rule p pu hs hbase hline, fun c hc ρ μ g σ H Q rr μ' s hh hx k => ?_⟩
  refine (r1 c hc).then_ s hh hx fun x μ1 h1 v1 H1 g1 l1 s1 r1 hx1 => ?_
  cases x with
  | str a =>
    refine ⟨⟨a, rep_str r1⟩, ?_⟩
    rw [rep_str r1]
    refine (ru c hc).then_ s1 h1 hx1 fun y μ2 h2 v2 H2 g2 l2 s2 r2 hx2 => ?_
    obtain ⟨d, e, rfl, rfl⟩ := lift_some h2
    exact hr g2 H2 a y v2 _ d s2.sub (by rw [← hc]; exact r2) e fun v rv => k d rfl v H2 g2 (l1.trans l2) s2 (by rw [hc]; exact rv)
  | _ => cases h1
def gCount : D → D → Option D
  | .str x, .str z => some (.int (Txt.count x z))
  | _, _ => none
theorem de_count {apos : Pos} (ho : DE X W o ta) (he : DE X W e tb) (hs : starEach [e] X.env = [(false, eval e X.env)] := by rfl) (hbase : attributeBase o "count" X.env (eval o X.env) = eval o X.env := by rfl) (hline : (apos.endLine == pos.line) = true := by rfl) :
    DE X W (.Call (.Attribute o "count" apos) [e] [] pos) (dM1 gCount ta tb) :=
  de_m1 PySem.F.slot_str_count PySem.F.type_str_count mt_count (fun g H a y vy Q d _ ry h k => by
    cases y <;> first | (cases h; done) | skip
    cases h
    exact ⟨a, _, rfl, by rw [rep_str ry], k _ (flat_rep rfl)⟩) ho he hs hbase hline
def D.strs : List D → Option (List Str)
  | [] => some []
  | .str z :: ds => (D.strs ds).map (z :: ·)
  | _ :: _ => none
theorem strs_rep {K : Fg} {ads : List Addr} {B : Hp} : ∀ {ds : List D} {xs : List V} {zs : List Str}, Reps K ads B ds xs → D.strs ds = some zs → xs = zs.map V.str
  | [], xs, zs, r, h => by
    cases h
    rw [reps_nil_inv r]
    rfl
  | d :: ds, xs, zs, r, h => by
    obtain ⟨x, t, rfl, hx, ht⟩ := reps_cons_inv r
    cases d <;> first | (cases h; done) | skip
    rename_i z
    have h : (D.strs ds).map (z :: ·) = some zs := h
    obtain ⟨zs', e1, rfl⟩ := Option.map_eq_some_iff.mp h
    rw [rep_str hx, strs_rep ht e1]
    rfl
def dJoin (t : TD) (u : TQ) : TD := fun ρ => M.bind (t ρ) fun x => match x with
  | .str a => M.bind (u ρ) fun q μ => match qv q ρ μ with
    | some ds => match D.strs ds with
      | some ys => if (ys.map (·.length)).sum + ys.length * a.length ≤ 16777216 then some (.ok (.str (Txt.join a ys)), μ) else none
      | none => none
    | none => none
  | _ => M.stuck
theorem de_join {apos : Pos} (ho : DE X W o ta) (he : DQ X W e tq) (hs : starEach [e] X.env = [(false, eval e X.env)] := by rfl) (hbase : attributeBase o "join" X.env (eval o X.env) = eval o X.env := by rfl) (hline : (apos.endLine == pos.line) = true := by rfl) :
    DE X W (.Call (.Attribute o "join" apos) [e] [] pos) (dJoin ta tq) := by
  obtain ⟨te, p, r1⟩ := ho.ex
  obtain ⟨ue, pu, ru⟩ := he.ex
  refine ⟨_, pe_join p pu hs hbase hline, fun c hc ρ μ g σ H Q rr μ' s hh hx k => ?_⟩
  refine (r1 c hc).then_ s hh hx fun x μ1 h1 v1 H1 g1 l1 s1 r1 hx1 => ?_
  cases x with
  | str a =>
    refine ⟨⟨a, rep_str r1⟩, ?_⟩
    rw [rep_str r1]
    refine (ru c hc).then_ s1 h1 hx1 fun q μ2 h2 v2 H2 g2 l2 s2 r2 hx2 => ?_
    obtain ⟨ds, h3, h4⟩ := qv_bind h2
    cases e1 : D.strs ds with
    | none => rw [e1] at h4; cases h4
    | some ys =>
      rw [e1] at h4
      have h4 : (if (ys.map (·.length)).sum + ys.length * a.length ≤ 16777216 then some (Res.ok (D.str (Txt.join a ys)), μ2) else none) = some (rr, μ') := h4
      by_cases z : (ys.map (·.length)).sum + ys.length * a.length ≤ 16777216
      · rw [if_pos z] at h4
        cases h4
        obtain ⟨b, xs, rfl, h5, h6⟩ := s2.seq r2 h3
        have e2 := strs_rep h6 e1
        subst e2
        rw [hc] at h5
        exact ⟨a, b, ys, rfl, rfl, h5, z, k _ rfl _ H2 g2 (l1.trans l2) s2 (flat_rep rfl)⟩
      · rw [if_neg z] at h4
        cases h4
  | _ => cases h1
def dIxS (t u : TD) : TD := fun ρ => M.bind (t ρ) fun x => M.bind (u ρ) fun y => match x, y with
  | .str z, .int i => if z.length ≤ sizeLine then M.lift ((atI z.cps.toList i).map fun c => D.str ⟨#[c]⟩) else M.stuck
  | _, _ => M.stuck
theorem de_ixS (h : DE X W a ta) (hb : DE X W b tb) (hs : PlainIx b := by intro _ _; rfl) : DE X W (.Subscript a b pos) (dIxS ta tb) := by
  obtain ⟨te, p, r1⟩ := h.ex
  obtain ⟨ue, pu, ru⟩ := hb.ex
  refine ⟨_, pe_ix ix_str p pu hs, fun c hc ρ μ g σ H Q rr μ' s hh hx k => ?_⟩
  refine (r1 c hc).then_ s hh hx fun x μ1 h1 v1 H1 g1 l1 s1 r1 hx1 => ?_
  refine (ru c hc).then_ s1 h1 hx1 fun y μ2 h2 v2 H2 g2 l2 s2 r2 hx2 => ?_
  cases x <;> cases y <;> first | (cases h2; done) | skip
  rename_i z i
  have h2 : (if z.length ≤ sizeLine then M.lift ((atI z.cps.toList i).map fun c => D.str ⟨#[c]⟩) else M.stuck) μ2 = some (rr, μ') := h2
  by_cases q : z.length ≤ sizeLine
  · rw [if_pos q] at h2
    obtain ⟨d, e, rfl, rfl⟩ := lift_some h2
    obtain ⟨cc, e1, rfl⟩ := Option.map_eq_some_iff.mp e
    exact ⟨z, i, cc, rep_str r1, rep_int r2, q, e1, k _ rfl _ H2 g2 (l1.trans l2) s2 (flat_rep rfl)⟩
  · rw [if_neg q] at h2
    cases h2
def dSliceS (t : TD) (lo hi : Rho → M (Option Int)) : TD := fun ρ => M.bind (t ρ) fun x => M.bind (lo ρ) fun l => M.bind (hi ρ) fun h => match x with
  | .str z => if z.length ≤ sizeLine then M.ret (.str (cutS z l h)) else M.stuck
  | _ => M.stuck
theorem de_sliceS {lo hi : Option Expr} {tl th : Rho → M (Option Int)} (ha : DE X W a ta) (hl : DPO X W lo tl) (hh : DPO X W hi th) : DE X W (.Subscript a (.Slice lo hi none p2) pos) (dSliceS ta tl th) := by
  obtain ⟨te, p, r⟩ := ha.ex
  obtain ⟨le, pl, rl⟩ := hl.ex
  obtain ⟨he, ph, rh⟩ := hh.ex
  refine ⟨_, pe_slice sl_str p pl ph, fun c hc ρ μ g σ H Q rr μ' s h0 hx k => ?_⟩
  refine (r c hc).then_ s h0 hx fun x μ1 h1 v1 H1 g1 l1 s1 r1 hx1 => ?_
  rcases bind_some h1 with ⟨l, μ2, e1, e2⟩ | ⟨C, ns, ds, e1, rfl⟩
  · refine rl c hc ρ μ1 g1 σ H1 _ _ _ s1 e1 px_ok fun o eo H2 g2 l2 s2 => ?_
    cases eo
    rcases bind_some e2 with ⟨h, μ3, e3, e4⟩ | ⟨C, ns, ds, e3, rfl⟩
    · refine rh c hc ρ μ2 g2 σ H2 _ _ _ s2 e3 px_ok fun o eo H3 g3 l3 s3 => ?_
      cases eo
      cases x with
      | str z =>
        have e4 : (if z.length ≤ sizeLine then M.ret (D.str (cutS z l h)) else M.stuck) μ3 = some (rr, μ') := e4
        by_cases q : z.length ≤ sizeLine
        · rw [if_pos q] at e4
          obtain ⟨rfl, rfl⟩ := ret_some e4
          exact ⟨z, rep_str r1, q, k _ rfl _ H3 g3 (l1.trans (l2.trans l3)) s3 (flat_rep rfl)⟩
        · rw [if_neg q] at e4
          cases e4
      | _ => cases e4
    · exact rh c hc ρ μ2 g2 σ H2 _ _ _ s2 e3 (fun C' ns' ds' e => by cases e; exact (hx1.le l2) C ns ds rfl) fun o eo => by cases eo
  · exact rl c hc ρ μ1 g1 σ H1 _ _ _ s1 e1 (fun C' ns' ds' e => by cases e; exact hx1 C ns ds rfl) fun o eo => by cases eo
def signsD (z : Str) : List D := z.cps.toList.map fun c => D.str ⟨#[c]⟩
def dIterS (t : TD) : TL := fun ρ => M.bind (t ρ) fun d => match d with
  | .str z => M.ret (signsD z)
  | _ => M.stuck
theorem itOk_str {c : Ct} {g0 : G} (z : Str) : ItOk c g0 (Its z) (signsD z) := fun ρ μ g σ H l s => by
  have hl : (signsD z).length = z.cps.size := by unfold signsD; rw [List.length_map, Array.length_toList]
  refine ⟨fun i d e => ?_, by show z.cps.size ≤ _; rw [hl]; exact Nat.le_refl _⟩
  have hi : i < z.cps.size := by rw [← hl]; exact (List.getElem?_eq_some_iff.mp e).1
  refine ⟨hi, fun y H' hy => ?_⟩
  obtain ⟨rfl, cc, h1, rfl⟩ := hy
  unfold signsD at e
  rw [List.getElem?_map, Array.getElem?_toList, h1] at e
  cases e
  exact ⟨g, Le.refl g, s, flat_rep rfl, fun p q => q⟩
theorem di_str {tg : Expr} (h : DE X W e t) : DI X W tg e (dIterS t) := by
  obtain ⟨te, p, r⟩ := h.ex
  refine ⟨_, pi_str p, fun c hc ρ μ g σ H R rr μ' s hh hx k => ?_⟩
  refine (r c hc).then_ s hh hx fun x μ1 h1 v1 H1 g1 l1 s1 r1 hx1 => ?_
  cases x with
  | str z =>
    obtain ⟨rfl, rfl⟩ := ret_some h1
    exact ⟨z, rep_str r1, k _ rfl _ H1 g1 l1 s1 (itOk_str z)⟩
  | _ => cases h1
def dChain (gf gf' : D → D → Option D) (ta tb tc : TD) : TD := fun ρ => M.bind (ta ρ) fun x => M.bind (tb ρ) fun y => match gf x y with
  | some (.bl true) => M.bind (tc ρ) fun z => M.lift (gf' y z)
  | some (.bl false) => M.ret (.bl false)
  | _ => M.stuck
theorem re_chain {cc : Ct} {f f' : Value → Value → Sem Value} {gf gf' : D → D → Option D} {r r' : R2} {tea teb tec : TE} {tc : TD} (ha : RE cc W tea ta) (hb : RE cc W teb tb) (hcc : RE cc W tec tc)
    (hr : ∀ ρ μ g σ H x y vx vy Q d, SR cc ρ μ g σ H → GRep cc.K g x vx → GRep cc.K g y vy → gf x y = some d → (∀ v' H' g', Le g g' → SR cc ρ μ g' σ H' → GRep cc.K g' d v' → Q v' H') → r vx vy H Q)
    (hr' : ∀ ρ μ g σ H x y vx vy Q d, SR cc ρ μ g σ H → GRep cc.K g x vx → GRep cc.K g y vy → gf' x y = some d → (∀ v' H' g', Le g g' → SR cc ρ μ g' σ H' → GRep cc.K g' d v' → Q v' H') → r' vx vy H Q) :
    RE cc W (tChain r r' tea teb tec) (dChain gf gf' ta tb tc) := fun ρ μ g σ H Q rr μ' s h hx k => by
  refine ha.then_ s h hx fun x μ1 h1 v1 H1 g1 l1 s1 r1 hx1 => ?_
  refine hb.then_ s1 h1 hx1 fun y μ2 h2 v2 H2 g2 l2 s2 r2 hx2 => ?_
  cases e : gf x y with
  | none => rw [e] at h2; cases h2
  | some d =>
    rw [e] at h2
    refine hr ρ μ2 g2 σ H2 x y v1 v2 _ d s2 (l2.rep r1) r2 e fun v' H' g' l s' rp => ?_
    cases d with
    | bl q =>
      refine ⟨q, rep_flat (d := .bl q) rfl rp, ?_⟩
      cases q with
      | false =>
        obtain ⟨rfl, rfl⟩ := ret_some (show M.ret (D.bl false) μ2 = some (rr, μ') from h2)
        exact iteF (k _ rfl _ H' g' (l1.trans (l2.trans l)) s' (flat_rep rfl))
      | true =>
        refine iteT ?_
        refine hcc.then_ s' h2 (hx2.le l) fun z μ3 h3 v3 H3 g3 l3 s3 r3 hx3 => ?_
        obtain ⟨d, e', rfl, rfl⟩ := lift_some h3
        exact hr' ρ _ g3 σ H3 y z v2 v3 Q d s3 ((l.trans l3).rep r2) r3 e' fun v' H' g' l' s' rp => k d rfl v' H' g' (l1.trans (l2.trans (l.trans (l3.trans l')))) s' rp
    | _ => cases h2
variable {cE : Expr} {tc : TD}
theorem de_chain {op op' : CmpOp} {gf gf' : D → D → Option D} (ho : OpD X (compareOp op) gf) (ho' : OpD X (compareOp op') gf') (ha : DE X W a ta) (hb : DE X W b tb) (hcc : DE X W cE tc) (hm : lastMarks [op, op'] [b, cE] = false := by with_unfolding_all rfl) :
    DE X W (.Compare a [op, op'] [b, cE] pos) (dChain gf gf' ta tb tc) := by
  obtain ⟨r, h1, h2⟩ := ho.ex
  obtain ⟨r', h1', h2'⟩ := ho'.ex
  obtain ⟨tea, pa, ra⟩ := ha.ex
  obtain ⟨teb, pb, rb⟩ := hb.ex
  obtain ⟨tec, pc, rc⟩ := hcc.ex
  exact ⟨_, pe_chain h1 h1' pa pb pc hm, fun c hc => re_chain (f := compareOp op) (f' := compareOp op') (ra c hc) (rb c hc) (rc c hc) (h2 c hc) (h2' c hc)⟩
theorem dt_chain {op op' : CmpOp} {gf gf' : D → D → Option D} (ho : OpD X (compareOp op) gf) (ho' : OpD X (compareOp op') gf') (ha : DE X W a ta) (hb : DE X W b tb) (hcc : DE X W cE tc) (hm : lastMarks [op, op'] [b, cE] = false := by with_unfolding_all rfl) :
    DT X W (.Compare a [op, op'] [b, cE] pos) (dTest (dChain gf gf' ta tb tc)) := by
  obtain ⟨r, h1, h2⟩ := ho.ex
  obtain ⟨r', h1', h2'⟩ := ho'.ex
  obtain ⟨tea, pa, ra⟩ := ha.ex
  obtain ⟨teb, pb, rb⟩ := hb.ex
  obtain ⟨tec, pc, rc⟩ := hcc.ex
  exact ⟨_, pt_chain h1 h1' pa pb pc hm, fun c hc => rt_test (re_chain (f := compareOp op) (f' := compareOp op') (ra c hc) (rb c hc) (rc c hc) (h2 c hc) (h2' c hc))⟩
end
end DL

set_option Elab.async false
set_option linter.all false
set_option maxRecDepth 100000
set_option maxHeartbeats 4000000
set_option autoImplicit false
namespace DL
open PySem PySem.Spec L2
section
variable {X : Cx} {W : WX} {a b e o : Expr} {ta tb t u : TD} {tq : TQ} {pos p2 : Pos}
def D.text : D → Option Str
  | .str z => if z.length ≤ sizeLine then some z else none
  | .int i => if i.natAbs.log2 < 1920 then some (toString i : Str) else none
  | _ => none
theorem text_some {d : D} {z : Str} (h : d.text = some z) : (d = .str z ∧ z.length ≤ sizeLine) ∨ ∃ i : Int, d = .int i ∧ i.natAbs.log2 < 1920 ∧ z = (toString i : Str) := by
  cases d <;> first | (cases h; done) | skip
  · rename_i i
    have h : (if i.natAbs.log2 < 1920 then some (toString i : Str) else none) = some z := h
    by_cases q : i.natAbs.log2 < 1920
    · rw [if_pos q] at h
      cases h
      exact .inr ⟨i, rfl, q, rfl⟩
    · rw [if_neg q] at h
      cases h
  · rename_i y
    have h : (if y.length ≤ sizeLine then some y else none) = some z := h
    by_cases q : y.length ≤ sizeLine
    · rw [if_pos q] at h
      cases h
      exact .inl ⟨rfl, q⟩
    · rw [if_neg q] at h
      cases h
def dText (t : TD) : TD := fun ρ => M.bind (t ρ) fun d => M.lift (d.text.map D.str)
theorem de_fmt (h : DE X W e t) : DE X W (.FormattedValue e (-1) none pos) (dText t) := by
  obtain ⟨te, p, r⟩ := h.ex
  refine ⟨_, pe_fmt p, fun c hc ρ μ g σ H Q rr μ' s hh hx k => ?_⟩
  refine (r c hc).then_ s hh hx fun x μ1 h1 v1 H1 g1 l1 s1 r1 hx1 => ?_
  obtain ⟨d, e1, rfl, rfl⟩ := lift_some h1
  obtain ⟨z, e2, rfl⟩ := Option.map_eq_some_iff.mp e1
  rcases text_some e2 with ⟨rfl, hz⟩ | ⟨i, rfl, hi, rfl⟩
  · exact .inl ⟨z, rep_str r1, hz, k _ rfl _ H1 g1 l1 s1 (flat_rep rfl)⟩
  · exact .inr ⟨i, rep_int r1, hi, k _ rfl _ H1 g1 l1 s1 (flat_rep rfl)⟩
theorem de_strOf {p : Pos} (ha : DE X W a ta) (hm : X.mg "str" = none) (hg : Gl X "str" := by rfl) (he : starEach [a] X.env = [(false, eval a X.env)] := by rfl) (hpl : (backTo pos (starEach [] X.env)).any (·.1) = false := by rfl) : DE X W (.Call (.Name "str" p) [a] [] pos) (dText ta) := by
  obtain ⟨te, p, r⟩ := ha.ex
  refine ⟨_, pe_callTy (CallR.or call_str_int SkE.call_str_str) hg hm (by decide +kernel) (pa_cons p pa_nil he) (he := he) (hpl := hpl), fun c hc ρ μ g σ H Q rr μ' s hh hx k => ?_⟩
  refine (r c hc).then_ s hh hx fun x μ1 h1 v1 H1 g1 l1 s1 r1 hx1 => ?_
  obtain ⟨d, e1, rfl, rfl⟩ := lift_some h1
  obtain ⟨z, e2, rfl⟩ := Option.map_eq_some_iff.mp e1
  rcases text_some e2 with ⟨rfl, hz⟩ | ⟨i, rfl, hi, rfl⟩
  · exact .inr ⟨z, by rw [rep_str r1], k _ rfl _ H1 g1 l1 s1 (flat_rep rfl)⟩
  · exact .inl ⟨i, by rw [rep_int r1], hi, k _ rfl _ H1 g1 l1 s1 (flat_rep rfl)⟩
inductive DJs (X : Cx) (W : WX) : List Expr → List TD → Prop where
  | nil : DJs X W [] []
  | cons {e : Expr} {t : TD} {es : List Expr} {ts : List TD} (h : DE X W e t) (r : DJs X W es ts) : DJs X W (e :: es) (t :: ts)
def dJs : List TD → Str → Rho → M D
  | [], acc, _ => M.ret (.str acc)
  | t :: ts, acc, ρ => M.bind (t ρ) fun d => match d with
    | .str y => if (acc ++ y).length ≤ sizeLine then dJs ts (acc ++ y) ρ else M.stuck
    | _ => M.stuck
theorem djs_ex {es : List Expr} {ts : List TD} (h : DJs X W es ts) : ∃ tes, PJ X es tes ∧ ∀ c : Ct, c.K = X.K → ∀ ρ μ g σ H (acc : Str) (Q : Str → Hp → Prop) r μ', SR c ρ μ g σ H → dJs ts acc ρ μ = some (r, μ') → PX c W ρ σ g r μ' →
    (∀ z, r = .ok (.str z) → ∀ H' g', Le g g' → SR c ρ μ' g' σ H' → Q z H') → tJs tes acc σ H Q := by
  induction h with
  | nil =>
    refine ⟨[], .nil, fun c hc ρ μ g σ H acc Q r μ' s h hx k => ?_⟩
    obtain ⟨rfl, rfl⟩ := ret_some h
    exact k acc rfl H g (Le.refl g) s
  | @cons e t es ts he _ ih =>
    obtain ⟨te, p, r⟩ := he.ex
    obtain ⟨tes, ps, rs⟩ := ih
    refine ⟨te :: tes, .cons p ps, fun c hc ρ μ g σ H acc Q rr μ' s h hx k => ?_⟩
    refine (r c hc).then_ s h hx fun x μ1 h1 v1 H1 g1 l1 s1 r1 hx1 => ?_
    cases x with
    | str y =>
      have h1 : (if (acc ++ y).length ≤ sizeLine then dJs ts (acc ++ y) ρ else M.stuck) μ1 = some (rr, μ') := h1
      by_cases q : (acc ++ y).length ≤ sizeLine
      · rw [if_pos q] at h1
        exact ⟨y, rep_str r1, q, rs c hc ρ μ1 g1 σ H1 (acc ++ y) Q rr μ' s1 h1 hx1 fun z ez H' g' l s' => k z ez H' g' (l1.trans l) s'⟩
      · rw [if_neg q] at h1
        cases h1
    | _ => cases h1
theorem de_joined {v1 v2 : Expr} {rest : List Expr} {ts : List TD} (h : DJs X W (v1 :: v2 :: rest) ts) : DE X W (.JoinedStr (v1 :: v2 :: rest) pos) (dJs ts Str.empty) := by
  obtain ⟨tes, p, r⟩ := djs_ex h
  refine ⟨_, pe_joined p, fun c hc ρ μ g σ H Q rr μ' s hh hx k => ?_⟩
  refine r c hc ρ μ g σ H _ _ rr μ' s hh hx fun z e H' g' l s' => ?_
  exact k (.str z) e _ H' g' l s' (flat_rep rfl)
def clsDs : List D → Option (List Value)
  | [] => some []
  | d :: ds => match clsD d, clsDs ds with
    | some v, some vs => some (v :: vs)
    | _, _ => none
theorem clsDs_v {K : Fg} {ads : List Addr} {B : Hp} : ∀ {ds : List D} {xs : List V} {ws : List Value}, Reps K ads B ds xs → clsDs ds = some ws → Paired ClsV xs ws
  | [], xs, ws, r, h => by
    cases h
    rw [reps_nil_inv r]
    exact .nil
  | d :: ds, xs, ws, r, h => by
    obtain ⟨x, t, rfl, hx, ht⟩ := reps_cons_inv r
    unfold clsDs at h
    cases e1 : clsD d with
    | none => rw [e1] at h; cases h
    | some w =>
      cases e2 : clsDs ds with
      | none => rw [e1, e2] at h; cases h
      | some ws' =>
        rw [e1, e2] at h
        cases h
        exact .cons (clsD_v hx e1) (clsDs_v ht e2)
def kitAnyD (kI : Kit) (t : Value) : List Value → Option Bool
  | [] => some false
  | c :: cs => match kitD kI t c with
    | some true => some true
    | some false => kitAnyD kI t cs
    | none => none
theorem kitAnyD_some {K : Fg} {kI : Kit} (h : KitOk K kI) {t : Value} : ∀ {cs : List Value} {b : Bool}, kitAnyD kI t cs = some b → PySem.W.kitAny K t cs = some b
  | [], b, e => e
  | c :: cs, b, e => by
    unfold kitAnyD at e
    unfold PySem.W.kitAny
    cases q : kitD kI t c with
    | none => rw [q] at e; cases e
    | some v =>
      rw [q] at e
      rw [kitD_some h q]
      cases v with
      | true => exact e
      | false => exact kitAnyD_some h e
def dIsiT (S : List Addr) (kI : Kit) (t u : TD) : TD := fun ρ => M.bind (t ρ) fun x => M.bind (u ρ) fun y μ => match y with
  | .tup ds => match tyD S x μ, clsDs ds with
    | some ty, some cs => match kitAnyD kI ty cs with
      | some b => some (.ok (.bl b), μ)
      | none => none
    | _, _ => none
  | _ => none
theorem de_isiT {S : List Addr} {kI : Kit} {p : Pos} (hS : ∀ C ∈ S, Own X.K C) (hK : KitOk X.K kI) (ha : DE X W a t) (hb : DE X W b u) (hm : X.mg "isinstance" = none) (hg : Gl X "isinstance" := by rfl) (he : starEach [a, b] X.env = (false, eval a X.env) :: starEach [b] X.env := by rfl) (he2 : starEach [b] X.env = [(false, eval b X.env)] := by rfl) (hpl : (backTo pos (starEach [b] X.env)).any (·.1) = false := by rfl) :
    DE X W (.Call (.Name "isinstance" p) [a, b] [] pos) (dIsiT S kI t u) := by
  obtain ⟨te, p, r⟩ := ha.ex
  obtain ⟨ue, pu, ru⟩ := hb.ex
  refine ⟨_, pe_callB call_isiT hg hm (by decide +kernel) (pa_cons p (pa_cons pu pa_nil he2) he) (he := he) (hpl := hpl), fun c hc ρ μ g σ H Q rr μ' s hh hx k => ?_⟩
  refine (r c hc).then_ s hh hx fun x μ1 h1 v1 H1 g1 l1 s1 r1 hx1 => ?_
  refine (ru c hc).then_ s1 h1 hx1 fun y μ2 h2 v2 H2 g2 l2 s2 r2 hx2 => ?_
  cases y with
  | tup ds =>
    have h2 : (match tyD S x μ2, clsDs ds with
      | some ty, some cs => match kitAnyD kI ty cs with
        | some b => some (Res.ok (D.bl b), μ2)
        | none => none
      | _, _ => none) = some (rr, μ') := h2
    cases e1 : tyD S x μ2 with
    | none => simp only [e1] at h2; cases h2
    | some ty =>
      cases e2 : clsDs ds with
      | none => simp only [e1, e2] at h2; cases h2
      | some cs =>
        simp only [e1, e2] at h2
        cases e3 : kitAnyD kI ty cs with
        | none => simp only [e3] at h2; cases h2
        | some b =>
          simp only [e3] at h2
          cases h2
          have tx := s2.ty (S := S) (by rw [hc]; exact hS) (l2.rep r1) e1
          rw [hc] at tx
          unfold GRep Rep at r2
          obtain ⟨q, xs, rfl, q1, q2⟩ := r2
          exact ⟨v1, q, xs, ty, cs, b, rfl, s2.sub _ _ q1, clsDs_v q2 e2, tx, kitAnyD_some hK e3, k _ rfl _ H2 g2 (l1.trans l2) s2 (flat_rep rfl)⟩
  | _ => cases h2
def D.ints : List D → Option (List Int)
  | [] => some []
  | .int i :: ds => (D.ints ds).map (i :: ·)
  | _ :: _ => none
def D.bls : List D → Option (List Bool)
  | [] => some []
  | .bl i :: ds => (D.bls ds).map (i :: ·)
  | _ :: _ => none
theorem bls_rep : ∀ {K : Fg} {ads : List Addr} {B : Hp} {ds : List D} {xs : List V} {zs : List Bool}, Reps K ads B ds xs → D.bls ds = some zs → xs = zs.map V.bl
  | K, ads, B, [], xs, zs, r, h => by
    cases h
    rw [reps_nil_inv r]
    rfl
  | K, ads, B, d :: ds, xs, zs, r, h => by
    obtain ⟨x, t, rfl, hx, ht⟩ := reps_cons_inv r
    cases d <;> first | (cases h; done) | skip
    rename_i z
    have h : (D.bls ds).map (z :: ·) = some zs := h
    obtain ⟨zs', e1, rfl⟩ := Option.map_eq_some_iff.mp h
    rw [rep_flat (d := .bl z) rfl hx, bls_rep ht e1]
    rfl
def dSum (t : TL) : TD := fun ρ => M.bind (t ρ) fun ds => M.lift ((D.ints ds).map fun zs => D.int zs.sum)
def dAll (t : TL) : TD := fun ρ => M.bind (t ρ) fun ds => M.lift ((D.bls ds).map fun zs => D.bl (zs.all id))
variable {tl : TL}
theorem de_all {p : Pos} (hcm : X.calm = true) (ha : DF X W a tl) (hm : X.mg "all" = none) (hg : Gl X "all" := by rfl) (he : starEach [a] X.env = [(false, eval a X.env)] := by rfl) (hpl : (backTo pos (starEach [] X.env)).any (·.1) = false := by rfl) : DE X W (.Call (.Name "all" p) [a] [] pos) (dAll tl) := by
  obtain ⟨te, p, r⟩ := ha.ex
  refine ⟨_, pe_callB (cr_all hcm) hg hm (by decide +kernel) (pa_cons p pa_nil he) (he := he) (hpl := hpl), fun c hc ρ μ g σ H Q rr μ' s hh hx k => ?_⟩
  refine (r c hc).then_ s hh hx fun ds μ1 h1 q xs H1 g1 l1 s1 ho hq r1 hx1 => ?_
  obtain ⟨d, e1, rfl, rfl⟩ := lift_some h1
  obtain ⟨zs, e2, rfl⟩ := Option.map_eq_some_iff.mp e1
  exact ⟨q, zs, rfl, SqL.of (by rw [hq, bls_rep r1 e2]), k _ rfl _ H1 g1 l1 s1 (flat_rep rfl)⟩
end
end DL

set_option Elab.async false
set_option linter.all false
set_option maxRecDepth 100000
set_option maxHeartbeats 4000000
set_option autoImplicit false
namespace DL
open PySem PySem.Spec L2
inductive DPs (X : Cx) (W : WX) : List (Option Expr) → List Expr → List Str → List TD → Prop where
  | nil : DPs X W [] [] [] []
  | cons {k : Str} {j : Nat} {p : Pos} {v : Expr} {t : TD} {ks : List (Option Expr)} {vs : List Expr} {zs : List Str} {ts : List TD} (h : DE X W v t) (r : DPs X W ks vs zs ts) : DPs X W (some (.Constant (.str k) j p) :: ks) (v :: vs) (k :: zs) (t :: ts)
def dVals : List TD → Rho → M (List D)
  | [], _ => M.ret []
  | t :: ts, ρ => M.bind (t ρ) fun x => M.bind (dVals ts ρ) fun xs => M.ret (x :: xs)
theorem dps_ex {X : Cx} {W : WX} {pos : Pos} {ks : List (Option Expr)} {vs : List Expr} {zs : List Str} {ts : List TD} (h : DPs X W ks vs zs ts) : ∃ trs, PPs X pos ks vs trs ∧ zs.length = ts.length ∧ ks.all (·.isSome) = true ∧ ks.length = vs.length ∧ ks.length = ts.length ∧
    ∀ c : Ct, c.K = X.K → ∀ ρ μ g σ H (Q : List (V × V) → Hp → Prop) r μ', SR c ρ μ g σ H → dVals ts ρ μ = some (r, μ') → PX c W ρ σ g r μ' →
    (∀ ds, r = .ok ds → ds.length = ts.length → ∀ xs H' g', Le g g' → SR c ρ μ' g' σ H' → GReps c.K g' ds xs → Q ((zs.map V.str).zip xs) H') → tPairs trs σ H Q := by
  induction h with
  | nil =>
    refine ⟨[], pps_nil, rfl, rfl, rfl, rfl, fun c hc ρ μ g σ H Q r μ' s h hx k => ?_⟩
    obtain ⟨rfl, rfl⟩ := ret_some h
    exact k [] rfl rfl [] H g (Le.refl g) s reps_nil
  | @cons k j p v t ks vs zs ts he _ ih =>
    obtain ⟨te, pt, r⟩ := he.ex
    obtain ⟨trs, ps, e1, e2, e3, e4, rs⟩ := ih
    refine ⟨(_, te) :: trs, pps_cons pe_str pt ps, by simp [e1], by simpa using e2, by simp [e3], by simp [e4], fun c hc ρ μ g σ H Q rr μ' s h hx kk => ?_⟩
    show te σ H _
    refine (r c hc).then_ s h hx fun x μ1 h1 v1 H1 g1 l1 s1 r1 hx1 => ?_
    rcases bind_some h1 with ⟨xs, μ2, e5, e6⟩ | ⟨C, ns, ds, e5, rfl⟩
    · obtain ⟨rfl, rfl⟩ := ret_some e6
      refine rs c hc ρ μ1 g1 σ H1 _ _ _ s1 e5 px_ok fun ds ed el ys H' g' l s' rp => ?_
      cases ed
      exact kk _ rfl (by simp [el]) (v1 :: ys) H' g' (l1.trans l) s' (reps_cons (l.rep r1) rp)
    · exact rs c hc ρ μ1 g1 σ H1 _ _ _ s1 e5 (fun C' ns' ds' e => by cases e; exact hx1 C ns ds rfl) fun ds e => by cases e
theorem merge_new : ∀ {more kvs : List (Key × V)}, (∀ k, k ∈ more.map (·.1) → k ∉ kvs.map (·.1)) → (more.map (·.1)).Nodup → mergeK kvs more = kvs ++ more
  | [], kvs, _, _ => by show kvs = kvs ++ []; rw [List.append_nil]
  | p :: more, kvs, h1, h2 => by
    have e : putK kvs p.1 p.2 = kvs ++ [p] := by
      unfold putK
      rw [if_neg]
      intro q
      obtain ⟨kv, m, e⟩ := List.any_eq_true.mp q
      have e := of_decide_eq_true e
      exact h1 p.1 (by simp) (by rw [← e]; exact List.mem_map_of_mem m)
    show mergeK (putK kvs p.1 p.2) more = _
    rw [e]
    have h2' : p.1 ∉ more.map (·.1) ∧ (more.map (·.1)).Nodup := List.nodup_cons.mp h2
    rw [merge_new (fun k hk hk2 => by
      rw [List.map_append, List.mem_append] at hk2
      rcases hk2 with q | q
      · exact h1 k (List.mem_cons_of_mem _ hk) q
      · have q : k = p.1 := by simpa using q
        exact h2'.1 (by rw [← q]; exact hk)) h2'.2, List.append_assoc]
    rfl
def keysS (zs : List Str) : List Key := zs.map Sum.inr
def dDisp (zs : List Str) (ts : List TD) : TD := fun ρ => M.bind (dVals ts ρ) fun ds => M.ret (.dk (keysS zs) ds)
def dDispM (zs : List Str) (ts : List TD) : TD := fun ρ => M.bind (dVals ts ρ) fun ds μ => some (.ok (.mref μ.length), μ ++ [.dk (keysS zs) ds])
theorem kv_zip : ∀ {zs : List Str} {xs : List V}, (zs.map V.str).zip xs = ((keysS zs).zip xs).map fun kv => (kV kv.1, kv.2)
  | [], xs => rfl
  | z :: zs, [] => rfl
  | z :: zs, x :: xs => by
    show (V.str z, x) :: (zs.map V.str).zip xs = _
    rw [kv_zip]
    rfl
section
variable {X : Cx} {W : WX} {pos : Pos} {ks : List (Option Expr)} {vs : List Expr} {zs : List Str} {ts : List TD}
theorem disp_gen {te : TE} (h : DPs X W ks vs zs ts) (hn : zs.Nodup) (h0 : ks ≠ []) (h15 : ks.length ≤ 15) (fin : List D → M D)
    (hf : ∀ c : Ct, c.K = X.K → ∀ ρ μ g1 σ H p ds xs rr μ' (Q : VK), SR c ρ μ g1 σ H → g1.O p = some (.inl 0) → g1.T p = none → H p = some (.dK ((keysS zs).zip xs)) → (keysS zs).length = xs.length → GReps c.K g1 ds xs → fin ds μ = some (rr, μ') →
      (∀ d, rr = .ok d → ∀ v H' g', Le g1 g' → SR c ρ μ' g' σ H' → GRep c.K g' d v → Q v H') → Q (.ref p) H) :
    DE X W (.Dict ks vs pos) (fun ρ => M.bind (dVals ts ρ) fin) := by
  obtain ⟨trs, ps, e1, e2, e3, e4, rs⟩ := dps_ex (pos := pos) h
  refine ⟨_, pe_disp ps e2 e3 h0 h15, fun c hc ρ μ g σ H Q rr μ' s hh hx k => ?_⟩
  intro p hp
  have hTp := s.freshT hp
  have s0 := (s.tmp hp (o := .dK [])).tell (own1_at _ _ _) upd_same
  have l0 : Le g ((g.own1 p 0).tell p (.dK [])) := le_tell (le_own1 _ _ _) hTp
  rcases bind_some hh with ⟨ds, μ1, e5, e6⟩ | ⟨C, ns, ds, e5, rfl⟩
  · refine rs c hc ρ μ _ σ _ _ _ _ s0 e5 px_ok fun ds' ed el xs H' g' l s' rp => ?_
    cases ed
    have ht : g'.T p = some (.dK []) := l.t _ _ (if_pos rfl)
    obtain ⟨ho, hpx⟩ := s'.tmpT _ _ ht
    have hz : zs.length = xs.length := by rw [← rp.length, el, e1]
    have hkz : (keysS zs).length = xs.length := by unfold keysS; rw [List.length_map, hz]
    have hm : (((keysS zs).zip xs).map (·.1)) = keysS zs := List.map_fst_zip (by omega)
    have em : mergeK [] ((keysS zs).zip xs) = (keysS zs).zip xs := by
      rw [merge_new (fun k _ h => by cases h) (by rw [hm]; exact List.Pairwise.map _ (fun a b hab e => hab (Sum.inr.inj e)) hn)]
      rfl
    refine ⟨hpx, (keysS zs).zip xs, kv_zip, by rw [List.length_zip]; omega, ?_⟩
    rw [em]
    have s8 := (s'.untell (p := p)).wrtTmp (p := p) ho (if_pos rfl) (o := .dK ((keysS zs).zip xs))
    have l8 : Le g (g'.untell p) := le_untell (l0.trans l) hTp
    exact hf c hc ρ μ1 (g'.untell p) σ _ p ds xs rr μ' Q s8 ho (if_pos rfl) upd_same hkz rp e6 fun d ed v H2 g2 l2 s2 r2 => k d ed v H2 g2 (l8.trans l2) s2 r2
  · exact rs c hc ρ μ _ σ _ _ _ _ s0 e5 (fun C' ns' ds' e => by cases e; exact (hx.le l0) C ns ds rfl) fun ds e => by cases e
theorem de_disp (h : DPs X W ks vs zs ts) (hn : zs.Nodup := by decide +kernel) (h0 : ks ≠ [] := by intro h; cases h) (h15 : ks.length ≤ 15 := by decide) : DE X W (.Dict ks vs pos) (dDisp zs ts) :=
  disp_gen (te := fun _ _ _ => True) h hn h0 h15 (fun ds => M.ret (.dk (keysS zs) ds)) fun c hc ρ μ g1 σ H p ds xs rr μ' Q s ho hT hp hl r e k => by
    obtain ⟨rfl, rfl⟩ := ret_some e
    refine k _ rfl _ H (g1.fz p (.dK ((keysS zs).zip xs))) (s.leFz ho) (s.fzTmp ho hT hp) ?_
    unfold GRep Rep
    exact ⟨p, xs, rfl, upd_same, hl, (s.leFz ho).reps r⟩
theorem de_dispM (h : DPs X W ks vs zs ts) (hn : zs.Nodup := by decide +kernel) (h0 : ks ≠ [] := by intro h; cases h) (h15 : ks.length ≤ 15 := by decide) : DE X W (.Dict ks vs pos) (dDispM zs ts) :=
  disp_gen (te := fun _ _ _ => True) h hn h0 h15 (fun ds μ => some (.ok (.mref μ.length), μ ++ [.dk (keysS zs) ds])) fun c hc ρ μ g1 σ H p ds xs rr μ' Q s ho hT hp hl r e k => by
    cases e
    refine k _ rfl _ H (g1.amb1 p) (le_amb1 _ _) (s.amb1 (m := .dk (keysS zs) ds) ho hT ⟨xs, hp, hl, (le_amb1 _ _).reps r⟩) ?_
    unfold GRep Rep
    refine ⟨p, ?_, rfl⟩
    show (g1.ads ++ [p])[μ.length]? = some p
    rw [← s.alen, List.getElem?_append_right (Nat.le_refl _), Nat.sub_self]
    rfl
end
end DL

set_option Elab.async false
set_option linter.all false
set_option maxRecDepth 100000
set_option maxHeartbeats 4000000
set_option autoImplicit false
namespace DL
open PySem PySem.Spec L2
section
variable {X : Cx} {W : WX} {a b e o tg iter : Expr} {ta tb te' to' t : TD} {tl : TL} {pos : Pos} {body : List Stmt} {tbd : TO'} {gt : D → Rho → Option Rho}
def dsExtM (to' : TD) (tl : TL) : TO' := dsE to' fun d ρ μ => match muLst d μ with
  | some _ => dsE tl (fun ys ρ μ => match muLst d μ with
    | some (k, ds) => if ds.length + ys.length ≤ sizeLine then some (.nx ρ, μ.set k (.lst (ds ++ ys))) else none
    | none => none) ρ μ
  | none => none
theorem ds_extM {apos cpos : Pos} (ho : DE X W o to') (he : DF X W e tl)
    (hpe : ∀ t1 t2, PE X o t1 → PE X e t2 → PE X (.Call (.Attribute o "extend" apos) [e] [] cpos) (tBM X.K "list" rExtend t1 (tCons t2 tNil)) := by
      intro t1 t2 p1 p2; exact pe_bm PySem.F.plainAttrs_list PySem.F.slot_list_extend PySem.F.type_list_extend mt_extend p1 (pa_cons p2 pa_nil))
    (hs : swapsWith (.Call (.Attribute o "extend" apos) [e] [] cpos) none pos.line X.env = pure false := by rfl) :
    DS X W (.Expr (.Call (.Attribute o "extend" apos) [e] [] cpos) pos) (dsExtM to' tl) := by
  obtain ⟨t1, p1, r1⟩ := ho.ex
  obtain ⟨t2, p2, r2⟩ := he.ex
  refine ⟨_, ps_expr (hpe t1 t2 p1 p2) hs, fun c hc ρ μ g σ H D₀ out μ' s h k => ?_⟩
  refine (r1 c hc).stm s h k fun d μ1 h1 v H1 g1 l1 s1 rp k1 => ?_
  cases e0 : muLst d μ1 with
  | none => rw [e0] at h1; cases h1
  | some q =>
    obtain ⟨k0, ds0⟩ := q
    rw [e0] at h1
    obtain ⟨a0, xs0, rfl, _, _, _, hh0, _⟩ := s1.mu rp e0
    refine ⟨.inl ⟨rfl, xs0, SqL.of hh0⟩, ?_⟩
    refine (r2 c hc).stm s1 h1 k1 fun ys μ2 h2 p2 zs H2 g2 l2 s2 ho2 hp2 rp2 k2 => ?_
    cases e1 : muLst d μ2 with
    | none => rw [e1] at h2; cases h2
    | some q =>
      obtain ⟨k', ds⟩ := q
      rw [e1] at h2
      have h2' : (if ds.length + ys.length ≤ sizeLine then some (Out.nx ρ, μ2.set k' (.lst (ds ++ ys))) else none) = some (out, μ') := h2
      obtain ⟨a, xs, e3, ha, hμ, hO, hH, hr⟩ := s2.mu (l2.rep rp) e1
      cases e3
      by_cases z : ds.length + ys.length ≤ sizeLine
      · rw [if_pos z] at h2'
        cases h2'
        refine ⟨a0, p2, xs, zs, rfl, rfl, hH, hp2, by rw [← hr.length, ← rp2.length]; exact z, ?_⟩
        exact k2 σ _ g2 (Le.refl _) (s2.wrtA (m' := .lst (ds ++ ys)) ha hμ hO ⟨_, upd_same, Reps.append hr rp2⟩)
      · rw [if_neg z] at h2'
        cases h2'
def forI (k : Nat) (gt : D → Rho → Option Rho) (tb : TO') : Nat → Nat → TO'
  | 0, _, _, _ => none
  | n + 1, i, ρ, μ => match muLst (.mref k) μ with
    | none => none
    | some (_, ds) => match ds[i]? with
      | none => some (.nx ρ, μ)
      | some d => match gt d ρ with
        | none => none
        | some ρ1 => match tb ρ1 μ with
          | none => none
          | some (.nx ρ', μ') => forI k gt tb n (i + 1) ρ' μ'
          | some (.ct ρ', μ') => forI k gt tb n (i + 1) ρ' μ'
          | some (.bk ρ', μ') => some (.nx ρ', μ')
          | some (.rt d, μ') => some (.rt d, μ')
          | some (.ex ρ' C ns es, μ') => some (.ex ρ' C ns es, μ')
def dsForM (t : TD) (gt : D → Rho → Option Rho) (tb : TO') : TO' := dsE t fun d ρ μ => match muLst d μ with
  | some (k, ds) => forI k gt tb (ds.length + 1) 0 ρ μ
  | none => none
theorem ds_forM (hp : PassesOwn (model X.prog X.w) X.A X.env X.xe) (hc : X.calm = true) (hi : DE X W iter t) {is : List Nat} (hg : DG X tg is gt) (hb : DSs X W body tbd) (hs : ∀ x, foldedSetIterable iter X.env x = pure x := by intro _; rfl) :
    DS X W (.For tg iter body [] pos) (dsForM t gt tbd) := by
  obtain ⟨te, p1, r1⟩ := hi.ex
  obtain ⟨g0, p2, r2⟩ := hg.ex
  obtain ⟨tbs, p3, r3⟩ := hb.ex
  refine ⟨_, ps_for hp hc (pi_list p1) p2 p3 hs, fun c hc ρ μ g σ H D₀ o μ' s h k => ?_⟩
  refine (r1 c hc).stm s h k fun d μ1 h1 v1 H1 g1 l1 s1 rv k1 => ?_
  cases e0 : muLst d μ1 with
  | none => rw [e0] at h1; cases h1
  | some q =>
    obtain ⟨kk, ds⟩ := q
    rw [e0] at h1
    have h1 : forI kk gt tbd (ds.length + 1) 0 ρ μ1 = some (o, μ') := h1
    obtain ⟨a, xs0, rfl, hads, _, _, hh0, _⟩ := s1.mu rv e0
    obtain ⟨rfl, _⟩ := muLst_some e0
    rw [← hc]
    refine ⟨a, rfl, ⟨xs0, SqL.of hh0⟩, ?_⟩
    refine ⟨fun i m σ H => ∃ ρ μ g, Le g1 g ∧ SR c ρ μ g σ H ∧ forI kk gt tbd m i ρ μ = some (o, μ'), ⟨_, ρ, μ1, g1, Le.refl _, s1, h1⟩, ?_⟩
    rintro i m σ H ⟨ρ, μ, g, l, s, hf⟩
    cases m with
    | zero => cases hf
    | succ m =>
      unfold forI at hf
      cases e1 : muLst (.mref kk) μ with
      | none => rw [e1] at hf; cases hf
      | some q =>
        obtain ⟨k2, ds2⟩ := q
        simp only [e1] at hf
        obtain ⟨a2, xs, ea, _, _, _, hh, hr⟩ := s.mu (l.rep rv) e1
        cases ea
        cases e2 : ds2[i]? with
        | none =>
          left
          simp only [e2] at hf
          cases hf
          exact ⟨⟨xs, SqL.of hh, by rw [← hr.length]; exact List.getElem?_eq_none_iff.mp e2⟩, k1 σ H g l s⟩
        | some d =>
          right
          simp only [e2] at hf
          obtain ⟨x, hx, rx⟩ := hr.get e2
          refine ⟨⟨xs, x, SqL.of hh, hx⟩, fun σ' H' => ∃ m', m' < m + 1 ∧ ∃ ρ μ g, Le g1 g ∧ SR c ρ μ g σ' H' ∧ forI kk gt tbd m' (i + 1) ρ μ = some (o, μ'), fun σ' H' q => q, fun y H' hy => ?_⟩
          obtain ⟨rfl, hy⟩ := hy
          have e3 := hy xs (SqL.of hh)
          rw [hx] at e3
          cases e3
          cases eg : gt d ρ with
          | none => simp only [eg] at hf; cases hf
          | some ρ1 =>
            simp only [eg] at hf
            refine r2 c hc ρ ρ1 μ g σ _ d x _ s rx eg fun σ1 s3 _ => ?_
            have nxt : ∀ ρ' μ2, forI kk gt tbd m (i + 1) ρ' μ2 = some (o, μ') → ∀ σ' H' g', Le g g' → SR c ρ' μ2 g' σ' H' →
                ∃ m', m' < m + 1 ∧ ∃ ρ μ g, Le g1 g ∧ SR c ρ μ g σ' H' ∧ forI kk gt tbd m' (i + 1) ρ μ = some (o, μ') :=
              fun ρ' μ2 hq σ' H' g' l' s' => ⟨m, Nat.lt_succ_self m, ρ', μ2, g', l.trans l', s', hq⟩
            cases eb : tbd ρ1 μ with
            | none => simp only [eb] at hf; cases hf
            | some q =>
              obtain ⟨o1, μ2⟩ := q
              simp only [eb] at hf
              refine r3 c hc ρ1 μ g σ1 _ _ o1 μ2 s3 eb ?_
              cases o1 with
              | nx ρ' => exact nxt ρ' μ2 hf
              | ct ρ' => exact nxt ρ' μ2 hf
              | bk ρ' =>
                cases hf
                exact fun σ' H' g' l' s' => k1 σ' H' g' (l.trans l') s'
              | rt d =>
                cases hf
                exact fun v H' g' l' s' rp => k1 v H' g' (l.trans l') s' rp
              | ex ρ' C ns es =>
                cases hf
                exact fun d σ' H' g' l' s' xx => k1 d σ' H' g' (l.trans l') s' xx
end
end DL

set_option Elab.async false
set_option linter.all false
set_option maxRecDepth 100000
set_option maxHeartbeats 4000000
set_option autoImplicit false
namespace DL
open PySem PySem.Spec PyProof.Rows L2
open Sem (wp)
inductive Sv where
  | sq (k : Bool) (a : Addr)
  | tx (z : Str)
inductive Sr where
  | sq (k : Bool) (a : Addr)
  | tx (z : Str) (t : Tok)
def Sr.sv : Sr → Sv
  | .sq k a => .sq k a
  | .tx z _ => .tx z
def Sv.items : Sv → Fg → Hp → List V → Prop
  | .sq k a, K, H, xs => SqK k K H a xs
  | .tx z, _, _, xs => xs = z.cps.toList.map fun c => V.str ⟨#[c]⟩
def Sr.it : Sr → Heap → Addr → Nat → Prop
  | .sq k a, h, it, i => ItrK k h it a i
  | .tx z t, h, it, i => h.IsStrIter it (strIterType z) z t i
def Sr.fp : Sr → Addr → List Addr
  | .sq _ a, it => [it, a]
  | .tx _ _, it => [it]
def Sr.has : Sr → Heap → Array Value → Prop
  | .sq k a, h, its => HasK k h a its
  | .tx _ _, _, _ => True
def Sr.P : Sr → Array Value → Nat → Value → Prop
  | .sq _ _, its, i, v => its[i]? = some v
  | .tx z _, _, i, v => ∃ c u, z.cps[i]? = some c ∧ v = .str ⟨#[c]⟩ u
def Sr.n : Sr → Array Value → Nat
  | .sq _ _, its => its.size
  | .tx z _, _ => z.cps.size
def Sr.apart : Sr → Addr → Prop
  | .sq _ a, it => a ≠ it
  | .tx _ _, _ => True
def Sr.lt : Sr → Nat → Prop
  | .sq _ a, n => a < n
  | .tx _ _, _ => True
def Sr.begin : Sr → Obj
  | .sq k a => beginK k a
  | .tx z t => { cls := .type (strIterType z), data := .fields #[.str z t, .int 0 0] }
def Sr.val : Sr → Value
  | .sq _ a => .ref a
  | .tx z t => .str z t
theorem Sr.draws (r : Sr) {P : Program} {w : World} {A : Around} (hh : A.handled = none) (it : Addr) (hne : r.apart it) (its : Array Value) : Draws P w A it (r.fp it) (r.n its) (r.P its) (fun i h => r.it h it i ∧ r.has h its) := by
  cases r with
  | sq k a => exact drawsK k hh it a hne its
  | tx z t =>
    have D := Draws.text (prog := P) (w := w) hh it z t
    exact ⟨fun i h st => D.live i h st.1, fun i h h' st hk => ⟨D.frame i h h' st.1 hk, trivial⟩, fun i s Q E hi st hQ => D.item i s Q E hi st.1 fun x h' tk p q r => hQ x h' tk p ⟨q, trivial⟩ r, fun s Q E st hE => D.done s Q E st.1 fun e h' q r => hE e h' q r⟩
theorem Sr.begins (r : Sr) (its : Array Value) : Begins r.val r.begin fun h => r.has h its := by
  cases r with
  | sq k a => exact beginsK k a its
  | tx z t => exact begins_text z t
theorem Sr.new (r : Sr) {h : Heap} {it : Addr} (e : h.get? it = some r.begin) : r.it h it 0 := by
  cases r with
  | sq k a => exact itrK_new k e
  | tx z t => exact ⟨_, e, rfl, rfl⟩
theorem Sr.it_at {r : Sr} {h h' : Heap} {it : Addr} {i : Nat} (x : r.it h it i) (e : ∀ o, h.get? it = some o → h'.get? it = some o) : r.it h' it i := by
  cases r with
  | sq k a => exact ItrK.at x e
  | tx z t =>
    obtain ⟨o, ho, q⟩ := x
    exact ⟨o, e o ho, q⟩
theorem Sr.it_rec {r : Sr} {h : Heap} {it : Addr} {i : Nat} (x : r.it h it i) : ∃ o, h.get? it = some o ∧ ∀ v, o.data ≠ .cell v := by
  cases r with
  | sq k a => exact ItrK.rec_ x
  | tx z t =>
    obtain ⟨o, ho, hc, hd⟩ := x
    exact ⟨o, ho, fun v q => by rw [hd] at q; cases q⟩
section
variable {X : Cx} {pins : List (Addr × Obj)} {σ : L2.St} {H : Hp} {s : Shared} {xs ys : List V} {r : Sr}
theorem Sr.at_ (I : Inv X pins σ H s) (h : r.sv.items X.K H xs) : ∃ its : Array Value, r.has s.heap its ∧ r.n its = xs.length ∧ ∀ i v, r.P its i v → ∃ x, xs[i]? = some x ∧ RelV x v := by
  cases r with
  | sq k a =>
    obtain ⟨its, rv, p, _⟩ := seqK_at I h
    refine ⟨its.toArray, p, ?_, fun i v hv => ?_⟩
    · show its.toArray.size = _
      rw [List.size_toArray]
      exact rv.length.symm
    · have hv' : its.toArray[i]? = some v := hv
      rw [List.getElem?_toArray] at hv'
      cases e : xs[i]? with
      | none =>
        have h1 := List.getElem?_eq_none_iff.mp e
        have h2 := (List.getElem?_eq_some_iff.mp hv').1
        have h3 := rv.length
        omega
      | some x =>
        obtain ⟨u, hu, ru⟩ := rv.get e
        rw [hu] at hv'
        cases hv'
        exact ⟨x, rfl, ru⟩
  | tx z t =>
    have h : xs = z.cps.toList.map fun c => V.str ⟨#[c]⟩ := h
    subst h
    refine ⟨#[], trivial, ?_, fun i v hv => ?_⟩
    · show z.cps.size = _
      rw [List.length_map, Array.length_toList]
    · obtain ⟨c, u, hc, rfl⟩ := hv
      refine ⟨.str ⟨#[c]⟩, ?_, u, rfl⟩
      rw [List.getElem?_map, Array.getElem?_toList, hc]
      rfl
theorem Sv.inj {v : Sv} (I : Inv X pins σ H s) (h : v.items X.K H xs) (h' : v.items X.K H ys) : xs = ys := by
  cases v with
  | sq k a => exact seqK_inj I h h'
  | tx z => exact Eq.trans h (Eq.symm h')
end
def ItzS (v1 v2 : Sv) (K : Fg) : It :=
  ⟨fun i H => ∃ (xs ys : List V) (x y : V), v1.items K H xs ∧ v2.items K H ys ∧ xs[i]? = some x ∧ ys[i]? = some y,
    fun i H v H' => ∃ T x y, v = .ref T ∧ H T = none ∧ H' = upd H T (.tup [x, y]) ∧ (∀ xs, v1.items K H xs → xs[i]? = some x) ∧ ∀ ys, v2.items K H ys → ys[i]? = some y,
    fun i H => ∃ xs ys : List V, v1.items K H xs ∧ v2.items K H ys ∧ i ≤ xs.length ∧ i ≤ ys.length ∧ (i = xs.length ∨ i = ys.length)⟩
theorem turn_zipS (r1 r2 : Sr) {P : Program} {w : World} {K : Fg} {elts : List Expr} {kk : Nat} {tpos : Pos} {z TI TO i1 i2 : Addr} (S : ZipSep2 z TI TO i1 i2 (r1.fp i1) (r2.fp i2)) (n1 : r1.apart i1) (n2 : r2.apart i2) :
    Turn P w K (.Tuple elts kk tpos) (ItzS r1.sv r2.sv K) [z, TI, TO, i1, i2] z (fun i h => IsZip h z TI TO .none ∧ IsTupOf2 h TI (.ref i1) (.ref i2) ∧ (∃ x y, IsTupOf2 h TO x y) ∧ r1.it h i1 i ∧ r2.it h i2 i) where
  mem := List.mem_cons_self ..
  obj := fun i h st c hc => by
    obtain ⟨hz, hTI, ⟨x, y, hTO⟩, h1, h2⟩ := st
    have e' : c = z ∨ c = TI ∨ c = TO ∨ c = i1 ∨ c = i2 := by simpa using hc
    rcases e' with q | q | q | q | q
    · rw [q]; exact ⟨_, hz, fun v q => nomatch q⟩
    · rw [q]; exact ⟨_, hTI, fun v q => nomatch q⟩
    · rw [q]; exact ⟨_, hTO, fun v q => nomatch q⟩
    · rw [q]; exact r1.it_rec h1
    · rw [q]; exact r2.it_rec h2
  keep := fun i h h' st k => by
    obtain ⟨hz, hTI, ⟨x, y, hTO⟩, h1, h2⟩ := st
    exact ⟨k z (by simp) _ hz, k TI (by simp) _ hTI, ⟨x, y, k TO (by simp) _ hTO⟩, r1.it_at h1 fun o q => k i1 (by simp) o q, r2.it_at h2 fun o q => k i2 (by simp) o q⟩
  item := by
    intro X hP hw hK hc i pins s σ H E I hf st hg
    subst hP hw hK
    obtain ⟨hz, hTI, ⟨x0, y0, hTO⟩, h1, h2⟩ := st
    obtain ⟨xs, ys, x, y, hqx, hqy, hx, hy⟩ := hg
    obtain ⟨its, p1, m1, f1⟩ := Sr.at_ I hqx
    obtain ⟨its2, p2, m2, f2⟩ := Sr.at_ I hqy
    have hzl : z < s.heap.objs.size := Heap.lt_size hz
    have l1 : i < r1.n its := by rw [m1]; exact (List.getElem?_eq_some_iff.mp hx).1
    have l2 : i < r2.n its2 := by rw [m2]; exact (List.getElem?_eq_some_iff.mp hy).1
    refine wpAny_pyNext_zipD2_item S (r1.draws (A := X.A.in1) (I.ok.hd hc) i1 n1 its) (r2.draws (A := X.A.in1) (I.ok.hd hc) i2 n2 its2) hz hTI hTO ⟨h1, p1⟩ ⟨h2, p2⟩ l1 l2 fun v1 v2 h' tk hv1 hv2 z' TO' s1' s2' hT hsz hk => ?_
    obtain ⟨x', e1, ru⟩ := f1 i v1 hv1
    obtain ⟨y', e2, ru2⟩ := f2 i v2 hv2
    rw [hx] at e1
    rw [hy] at e2
    cases e1
    cases e2
    refine ⟨_, rfl, wpAny_letOwnedTupleGo_zip (s := { s with heap := h', toks := tk }) z' fun h'' z'' sb => ?_⟩
    have hT2 : h''.get? s.heap.objs.size = some { cls := .type "tuple", data := .seq #[v1, v2] } := (sb.2 _ (Nat.ne_of_gt hzl)).trans hT
    have new : ObjOk X.prog X.w (upd H s.heap.objs.size (.tup [x, y])) h'' s.heap.objs.size (.tup [x, y]) :=
      ⟨by show 2 ≤ sizeLine; decide, [v1, v2], .cons ru (.cons ru2 .nil), ⟨_, hT2, rfl, _, rfl⟩⟩
    have I1 : Inv X pins σ (upd H s.heap.objs.size (.tup [x, y])) { s with heap := h'', toks := tk } :=
      I.turnedNew (t' := tk) (ch := [z, TI, TO, i1, i2]) (fun c o hb q => (sb.2 c (fun q' => hb (by simp [q']))).trans (hk c o (fun q' => hb (by simp [q'])) (fun q' => hb (by simp [q'])) (fun q' => hb (by simp [q'])) (fun q' => hb (by simp [q'])) q)) hf (Nat.le_refl _) new
    refine ⟨.ref s.heap.objs.size, _, I1, rfl, ⟨_, x, y, rfl, I.hok.fresh (Nat.le_refl _), rfl, fun l hl => by rw [Sv.inj I hl hqx]; exact hx, fun l hl => by rw [Sv.inj I hl hqy]; exact hy⟩, ⟨z'', ?_, ⟨v1, v2, ?_⟩, ?_, ?_⟩, fun c hcm => ?_⟩
    · exact (sb.2 _ S.TIz).trans (hk _ _ S.TIz S.TITO S.TIi1 S.TIi2 hTI)
    · exact (sb.2 _ S.TOz).trans TO'
    · exact r1.it_at s1'.1 fun o q => (sb.2 _ (fun w => S.zi1 w.symm)).trans q
    · exact r2.it_at s2'.1 fun o q => (sb.2 _ (fun w => S.zi2 w.symm)).trans q
    · have hlt : c < s.heap.objs.size := by
        have e' : c = z ∨ c = TI ∨ c = TO ∨ c = i1 ∨ c = i2 := by simpa using hcm
        rcases e' with q | q | q | q | q
        · rw [q]; exact hzl
        · rw [q]; exact Heap.lt_size hTI
        · rw [q]; exact Heap.lt_size hTO
        · rw [q]; obtain ⟨_, e1, _⟩ := r1.it_rec h1; exact Heap.lt_size e1
        · rw [q]; obtain ⟨_, e2, _⟩ := r2.it_rec h2; exact Heap.lt_size e2
      rw [upd_ne (Nat.ne_of_lt hlt)]
      exact (hf c hcm).1
  done := by
    intro X hP hw hK hc i pins s σ H E I hf st hg
    subst hP hw hK
    obtain ⟨hz, hTI, ⟨x0, y0, hTO⟩, h1, h2⟩ := st
    obtain ⟨xs, ys, hqx, hqy, le1, le2, hend⟩ := hg
    obtain ⟨its, p1, m1, f1⟩ := Sr.at_ I hqx
    obtain ⟨its2, p2, m2, f2⟩ := Sr.at_ I hqy
    exact wpAny_pyNext_zipD2_end S (r1.draws (A := X.A.in1) (I.ok.hd hc) i1 n1 its) (r2.draws (A := X.A.in1) (I.ok.hd hc) i2 n2 its2) hz hTI hTO ⟨h1, p1⟩ ⟨h2, p2⟩ (by rw [m1]; exact le1) (by rw [m2]; exact le2) (by rw [m1, m2]; exact hend) fun h' tk hk => ⟨rfl, I.turnedL (t' := tk) (ch := [z, TI, TO, i1, i2]) (fun c o hb q =>
      hk c o (fun q' => hb (by simp [q'])) (fun q' => hb (by simp [q'])) (fun q' => hb (by simp [q'])) (fun q' => hb (by simp [q'])) q) hf⟩
  self := fun A i s Q E st h => wpAny_pyIter_zip st.1 h
theorem sr_key {r : Sr} {i n x : Nat} (h : r.lt n) (q : x ≠ i) (hx : n ≤ x) : x ∉ r.fp i := fun hm => by
  cases r with
  | sq k a =>
    have h : a < n := h
    rcases List.mem_cons.mp hm with e | e
    · exact q e
    · exact absurd (List.mem_singleton.mp e) (Nat.ne_of_gt (Nat.lt_of_lt_of_le h hx))
  | tx z t => exact q (List.mem_singleton.mp hm)
theorem sr_mem {r : Sr} {i : Nat} : i ∈ r.fp i := by
  cases r <;> exact List.mem_cons_self ..
theorem zs_more (n : Nat) : (n + 2 ≠ n + 4) ∧ (n + 3 ≠ n + 4) ∧ (n + 2 ≠ n + 3) ∧ (n + 2 ≠ n) ∧ (n + 4 ≠ n) ∧ (n + 3 ≠ n) ∧ (n + 2 ≠ n + 1) ∧ (n + 4 ≠ n + 1) ∧ (n + 3 ≠ n + 1) ∧ (n ≠ n + 1) ∧ (n + 1 ≠ n) ∧ n ≤ n + 1 ∧ n ≤ n + 3 ∧ n ≤ n + 4 := by omega
theorem zs_fp {n : Nat} {r1 r2 : Sr} (h1 : r1.lt n) (h2 : r2.lt n) : ZipSep2 (n + 4) (n + 2) (n + 3) n (n + 1) (r1.fp n) (r2.fp (n + 1)) := by
  obtain ⟨f1, f2, f3, f4, f5, f6, f7, f8, f9, f10, f11, g1, g3, g4⟩ := zs_more n
  exact ⟨f1, f2, f3, f4, sr_mem, sr_key h1 f5 g4, sr_key h1 f6 g3, f7, sr_mem, sr_key h2 f8 g4, sr_key h2 f9 g3, sr_key h2 f10 (Nat.le_refl n), sr_key h1 f11 g1⟩
def Sv.of : Sv → V → Prop
  | .sq _ a, x => x = .ref a
  | .tx z, x => x = .str z
def iZipS (K : Fg) (ta : TA) : TI := fun σ H R => ta σ H fun vs H1 => ∃ (v1 v2 : Sv) (x1 x2 : V) (xs ys : List V), vs = [x1, x2] ∧ v1.of x1 ∧ v2.of x2 ∧ v1.items K H1 xs ∧ v2.items K H1 ys ∧ R (ItzS v1 v2 K) H1
theorem sr_of {X : Cx} {pins : List (Addr × Obj)} {σ : L2.St} {H : Hp} {s : Shared} {v : Sv} {x : V} {u : Value} {xs : List V} (I : Inv X pins σ H s) (h : v.of x) (ru : RelV x u) (hq : v.items X.K H xs) : ∃ r : Sr, r.sv = v ∧ r.val = u ∧ r.lt s.heap.objs.size := by
  cases v with
  | sq k a =>
    have h : x = .ref a := h
    subst h
    cases (show u = Value.ref a from ru)
    obtain ⟨its, rv, p, _⟩ := seqK_at I hq
    exact ⟨.sq k a, rfl, rfl, p.lt⟩
  | tx z =>
    have h : x = .str z := h
    subst h
    obtain ⟨t, rfl⟩ := (show ∃ t, u = Value.str z t from ru)
    exact ⟨.tx z t, rfl, rfl, trivial⟩
theorem Sr.apart_of {r : Sr} {n i : Nat} (h : r.lt n) (hi : n ≤ i) : r.apart i := by
  cases r with
  | sq k a => exact Nat.ne_of_lt (Nat.lt_of_lt_of_le h hi)
  | tx z t => trivial
theorem pi_zipS {X : Cx} {e e2 : Expr} {ta : TA} {p pos tpos : Pos} {elts : List Expr} {kk : Nat} (hg : Gl X "zip") (hm : X.mg "zip" = none) (ha : PA X [e, e2] ta)
    (hs : starEach [e, e2] X.env = (false, eval e X.env) :: starEach [e2] X.env) (hpl : (backTo pos (starEach [e2] X.env)).any (·.1) = false) :
    PI X (.Tuple elts kk tpos) (.Call (.Name "zip" p) [e, e2] [] pos) (iZipS X.K ta) := by
  refine ⟨fun pins s σ H R I h => ?_⟩
  refine Call_ (ld_blt I hg hm PyProof.Rows.boot_zip (PyProof.Rows.callWith_type1 (thn (ha.run pos pins s σ H _ I h) fun us s1 ⟨vs, H1, I1, r1, q1⟩ => ?_) hs hpl))
  obtain ⟨v1, v2, x1, x2, xs, ys, ex, o1, o2, hqx, hqy, q⟩ := q1
  subst ex
  obtain ⟨u, v, rfl, ru, rv0⟩ := Vals.two r1
  obtain ⟨a1, rfl, rfl, la⟩ := sr_of I1 o1 ru hqx
  obtain ⟨a2, rfl, rfl, lb⟩ := sr_of I1 o2 rv0 hqy
  obtain ⟨its, p1, m1, f1⟩ := Sr.at_ I1 hqx
  obtain ⟨its2, p2, m2, f2⟩ := Sr.at_ I1 hqy
  refine zip_begins2 (a1.begins its) (a2.begins its2) p1 p2 fun h' z' tI tO g1 g2 hsz hk => wpAny_pyIter_zip z' ?_
  have I2 : Inv X pins σ H1 { s1 with heap := h' } := I1.kept (t' := s1.toks) hk
  generalize hn : s1.heap.objs.size = n at *
  have S := zs_fp la lb
  refine ⟨n + 4, [n + 4, n + 2, n + 3, n, n + 1], _, _, H1, rfl, I2, turn_zipS a1 a2 S (Sr.apart_of la (Nat.le_refl _)) (Sr.apart_of lb (Nat.le_succ _)), ⟨z', tI, ⟨_, _, tO⟩, a1.new g1, a2.new g2⟩, fun c hc => ?_, q⟩
  have hle : s1.heap.objs.size ≤ c := by
    rw [hn]
    exact zs_le (by simpa using hc)
  exact I1.fpOk hle (I1.hok.fresh hle)
def D.srcs : D → Option (List D)
  | .str z => some (signsD z)
  | d => d.items
theorem Sv.items_mono {v : Sv} {K : Fg} {H H' : Hp} {xs : List V} (h : v.items K H xs) (e : Same H H') : v.items K H' xs := by
  cases v with
  | sq k a => exact sqK_mono h e
  | tx z => exact h
theorem signs_reps {K : Fg} {ads : List Addr} {B : Hp} : ∀ l : List Nat, Reps K ads B (l.map fun c => D.str ⟨#[c]⟩) (l.map fun c => V.str ⟨#[c]⟩)
  | [] => reps_nil
  | c :: l => reps_cons (by unfold Rep; rfl) (signs_reps l)
theorem srcs_rep {K : Fg} {ads : List Addr} {B : Hp} {d : D} {x : V} {ds : List D} (h : Rep K ads B d x) (e : d.srcs = some ds) : ∃ (v : Sv) (xs : List V), v.of x ∧ v.items K B xs ∧ Reps K ads B ds xs := by
  have gen : d.items = some ds → ∃ (v : Sv) (xs : List V), v.of x ∧ v.items K B xs ∧ Reps K ads B ds xs := fun e => by
    obtain ⟨k, a, xs, rfl, q1, q2, q3⟩ := items_rep h e
    exact ⟨.sq k a, xs, rfl, q1, q2⟩
  cases d with
  | str z =>
    cases e
    unfold Rep at h
    exact ⟨.tx z, _, h, rfl, signs_reps _⟩
  | _ => exact gen e
theorem itOk_zipS {c : Ct} {g0 : G} {v1 v2 : Sv} {xs ys : List V} {ds es : List D} (h1 : v1.items c.K g0.B xs) (h2 : GReps c.K g0 ds xs) (h3 : v2.items c.K g0.B ys) (h4 : GReps c.K g0 es ys) : ItOk c g0 (ItzS v1 v2 c.K) (zipD ds es) := fun ρ μ g σ H l s => by
  have hs1 : v1.items c.K H xs := Sv.items_mono (Sv.items_mono h1 l.b) s.sub
  have hs2 : v2.items c.K H ys := Sv.items_mono (Sv.items_mono h3 l.b) s.sub
  have hl : (zipD ds es).length = min ds.length es.length := by unfold zipD; rw [List.length_zipWith]
  have q1 := h2.length
  have q2 := h4.length
  refine ⟨fun i d e => ?_, ⟨xs, ys, hs1, hs2, by omega, by omega, by omega⟩⟩
  unfold zipD at e
  rw [List.getElem?_zipWith] at e
  cases e1 : ds[i]? with
  | none => rw [e1] at e; cases e
  | some d1 =>
    cases e2 : es[i]? with
    | none => rw [e1, e2] at e; cases e
    | some d2 =>
      rw [e1, e2] at e
      cases e
      obtain ⟨x, hx, rx⟩ := h2.get e1
      obtain ⟨y, hy, ry⟩ := h4.get e2
      refine ⟨⟨xs, ys, x, y, hs1, hs2, hx, hy⟩, fun v H' hv => ?_⟩
      obtain ⟨T, x2, y2, rfl, hT, rfl, hv1, hv2⟩ := hv
      have e3 := hv1 xs hs1
      have e4 := hv2 ys hs2
      rw [hx] at e3
      rw [hy] at e4
      cases e3
      cases e4
      refine ⟨g.addB T (.tup [x, y]), s.leB hT, s.addB hT, ?_, fun p q => ?_⟩
      · unfold GRep Rep
        exact ⟨T, [x, y], rfl, upd_same, reps_cons ((l.trans (s.leB hT)).rep rx) (reps_cons ((l.trans (s.leB hT)).rep ry) reps_nil)⟩
      · by_cases z : p = T
        · rw [z]; exact hT
        · rw [upd_ne z] at q; exact q
def dZipS (t u : TD) : TL := fun ρ => M.bind (t ρ) fun d => M.bind (u ρ) fun e => M.lift (match d.srcs, e.srcs with
  | some ds, some es => some (zipD ds es)
  | _, _ => none)
theorem di_zipS {X : Cx} {W : WX} {a b : Expr} {t u : TD} {pos : Pos} {elts : List Expr} {kk : Nat} {tpos p : Pos} (h : DE X W a t) (h' : DE X W b u) (hm : X.mg "zip" = none) (hg : Gl X "zip" := by rfl) (hs : starEach [a, b] X.env = (false, eval a X.env) :: starEach [b] X.env := by rfl) (hs2 : starEach [b] X.env = [(false, eval b X.env)] := by rfl) (hpl : (backTo pos (starEach [b] X.env)).any (·.1) = false := by rfl) :
    DI X W (.Tuple elts kk tpos) (.Call (.Name "zip" p) [a, b] [] pos) (dZipS t u) := by
  obtain ⟨te, p, r⟩ := h.ex
  obtain ⟨ue, pu, ru⟩ := h'.ex
  have pa := pa_cons p (pa_cons pu pa_nil hs2) hs
  refine ⟨_, pi_zipS hg hm pa hs hpl, fun c hc ρ μ g σ H R rr μ' s hh hx k => ?_⟩
  refine (r c hc).then_ s hh hx fun x μ1 h1 v1 H1 g1 l1 s1 r1 hx1 => ?_
  refine (ru c hc).then_ s1 h1 hx1 fun y μ2 h2 v2 H2 g2 l2 s2 r2 hx2 => ?_
  obtain ⟨zs, e5, rfl, rfl⟩ := lift_some h2
  cases hd : x.srcs with
  | none => rw [hd] at e5; cases e5
  | some ds =>
    cases he : y.srcs with
    | none => rw [hd, he] at e5; cases e5
    | some es =>
      rw [hd, he] at e5
      cases e5
      obtain ⟨w1, xs, q1, q2, q3⟩ := srcs_rep (l2.rep r1) hd
      obtain ⟨w2, ys, q4, q5, q6⟩ := srcs_rep r2 he
      rw [← hc]
      exact ⟨w1, w2, v1, v2, xs, ys, rfl, q1, q4, Sv.items_mono q2 s2.sub, Sv.items_mono q5 s2.sub, k _ rfl _ H2 g2 (l1.trans l2) s2 (itOk_zipS q2 q3 q5 q6)⟩
end DL

set_option Elab.async false
set_option linter.all false
set_option maxRecDepth 100000
set_option maxHeartbeats 4000000
set_option autoImplicit false
namespace DL
open PySem PySem.Spec L2
section
variable {X : Cx} {W : WX} {o e f a : Expr} {to' te' tx ta : TD} {apos cpos pos : Pos}
def isDm (d : D) (μ : Mu) : Bool := match d with
  | .mref n => match μ[n]? with
    | some (.dk _ _) => true
    | some (.dt _ _) => true
    | _ => false
  | .dk _ _ => true
  | _ => false
def getOr (d y z : D) (μ : Mu) : Option (Res D × Mu) := match dgetD d y μ with
  | some (some x) => some (.ok x, μ)
  | some none => some (.ok z, μ)
  | none => none
def dDGetD (t u w : TD) : TD := fun ρ => M.bind (t ρ) fun d μ => if isDm d μ = true then M.bind (u ρ) (fun y => M.bind (w ρ) fun z μ => getOr d y z μ) μ else none
def dIntS (t : TD) : TD := fun ρ => M.bind (t ρ) fun x => match x with
  | .str z => if z.length ≤ 640 then M.lift ((PySem.intText? z).map D.int) else M.stuck
  | _ => M.stuck
end
end DL

set_option Elab.async false
set_option linter.all false
set_option maxRecDepth 100000
set_option maxHeartbeats 4000000
set_option autoImplicit false
namespace DL
open PySem PySem.Spec PyProof.Rows L2
def Hnd (X : Cx) (hs : List ExceptHandler) (W : Ends → WX) : Prop :=
  ∀ (pins : List (Addr × Obj)) (D : Ends) (σ : L2.St) (H : Hp) (sI s : Shared) (a : Addr) (B h3 : Heap) (cls : Value) (d : Option Addr),
    Inv X pins σ H sI → (∀ b o, sI.heap.get? b = some o → b ∉ frs X.stack → B.get? b = some o) →
    sI.heap.UpToSlots h3 → HandSPX.FlyingZ B (X.env :: X.outer) a (Zc cls d) h3 →
    H a = none → s.os = sI.os → AllBare s.gens → W D cls d σ H →
    wpAny (model X.prog X.w) X.A (handleBy (.ref a) X.env hs) (SP X pins D) X.xe { s with heap := h3 }
section
variable {X : Cx}
theorem hnd_nil {Wo : WX} (hs : X.stack = X.env :: X.outer) (hf : X.env.frame = some X.env.locals) (tk : Takes X Wo) : Hnd X [] fun _ => Wo := by
  intro pins D σ H sI s a B h3 cls d J nb up fl na eos ag hw
  refine wpAny_handleBy_nil ?_
  obtain ⟨_, _, _, oe, vs, T, oT, ts, z1, z2, z3, z4, z5⟩ := id fl
  unfold PySem.passOn
  refine wpAny_bind (wpAny_field z1 z3 z4 ?_)
  rw [if_neg (show ¬ ((Value.ref T == Value.none) = true) by simp)]
  have last : wpAny (model X.prog X.w) X.A (setFlight (.ref a) X.env.frame)
      (fun _ s4 => wpAny (model X.prog X.w) X.A (throw (.ref a) : Sem Flow) (SP X pins D) X.xe s4) X.xe { s with heap := h3 } := by
    rw [hf]
    refine HandSPX.setFlight_upZ fl fun h4 q4 u4 => wpAny_throw (tk _ _ ?_)
    refine ⟨a, B, sI, pins, σ, H, cls, d, rfl, J, nb, up.trans u4, ?_, na, eos, ag, hw⟩
    rw [hs]
    exact .inr (.inr q4)
  first
    | exact wpAny_bind (wpAny_pure (wpAny_bind last))
    | exact wpAny_bind last
theorem hnd_step {x : Str} {c : Value} {np pos' : Pos} {nm : Option Str} {b0 : Stmt} {suite : List Stmt} {rest : List ExceptHandler} {pins : List (Addr × Obj)} {D : Ends} {σ : L2.St} {H : Hp} {sI s : Shared} {a : Addr} {B h3 : Heap} {cls : Value} {d : Option Addr} {b : Bool}
    (hs : X.stack = X.env :: X.outer) (hf : X.env.frame = some X.env.locals) (hc : Names X x c)
    (J : Inv X pins σ H sI) (nb : ∀ b o, sI.heap.get? b = some o → b ∉ frs X.stack → B.get? b = some o) (up : sI.heap.UpToSlots h3) (fl : HandSPX.FlyingZ B (X.env :: X.outer) a (Zc cls d) h3) (na : H a = none) (eos : s.os = sI.os) (ag : AllBare s.gens)
    (e1 : PySem.W.exmOne X.K cls c = some b)
    (hy : b = true → ∀ oe : Obj, Inv (X.suite a ((a, oe) :: (X.pn ++ pins))) [] σ H { s with heap := h3 } → a ≠ X.env.locals → a ∉ X.fs →
      codeAny (model X.prog X.w) (X.A.mark (some (.ref a))) (.handlers (.ref a) [.ExceptHandler none nm (b0 :: suite) pos'] X.env) (fun r s₂ => match r with
          | .ok f => (match nm with
            | none => SP X pins D f s₂
            | some n => wpAny (model X.prog X.w) X.A (do bindName X.env n .none; unbindBehindTheSuite X.env n pos') (fun _ s₃ => SP X pins D f s₃) X.xe s₂)
          | .error x => cameBackBy (model X.prog X.w) X.A X.env X.xe x s₂) { s with heap := h3 })
    (hn : b = false → wpAny (model X.prog X.w) X.A (handleBy (.ref a) X.env rest) (SP X pins D) X.xe { s with heap := h3 }) :
    wpAny (model X.prog X.w) X.A (handleBy (.ref a) X.env (.ExceptHandler (some (.Name x np)) nm (b0 :: suite) pos' :: rest)) (SP X pins D) X.xe { s with heap := h3 } := by
  have J3 : Inv X pins σ H { s with heap := h3 } := J.landed nb fl.1 up eos ag
  obtain ⟨oe, vs, t1, t2, t3⟩ := fl.there
  have frn : a ∉ frs (X.env :: X.outer) := fun hm => by
    obtain ⟨_, o', e', q⟩ := fl.2.2.1.mem hm
    rw [t1] at e'
    cases e'
    exact q _ t3
  have nL : a ≠ X.env.locals := fun z => frn (List.mem_filterMap.mpr ⟨X.env, List.mem_cons_self, by rw [hf, z]⟩)
  have nF : a ∉ X.fs := fun hm => by
    obtain ⟨e, q1, q2⟩ := List.mem_filterMap.mp hm
    exact frn (List.mem_filterMap.mpr ⟨e, List.mem_cons_of_mem _ q1, q2⟩)
  have S3 := J3.suite t1 t3 na nL nF
  refine wpAny_handleBy_cons (codeAny_handlers_test ?_) (by intro q; cases q)
  have LT : PySem.W.Looks (model X.prog X.w) h3 (typeOf (.ref a)) cls := fun A Q E s k q => by
    refine wpAny_typeOf_ref (k _ _ t1) ?_
    rw [t2.1]
    exact q
  have LM := PySem.W.exm_one (M := model X.prog X.w) J3.kIn LT e1
  have ask : ∀ {Q : Value → Shared → Prop} {E : Value → Shared → Prop}, Q c { s with heap := h3 } →
      wpAny (model X.prog X.w) (X.A.mark (some (.ref a))) (eval (.Name x np) X.env) Q E { s with heap := h3 } := fun {Q E} q => by
    obtain ⟨g1, g2, g3 | ⟨g3, g4, g5⟩⟩ := hc
    · exact ld_glob (X := X.suite a ((a, oe) :: (X.pn ++ pins))) S3 g1 g3 q g2
    · exact ld_blt (X := X.suite a ((a, oe) :: (X.pn ++ pins))) S3 g1 g3 g4 q g5 g2
  refine ask (LM.here ?_)
  cases b with
  | true => exact hy rfl oe S3 nL nF
  | false => exact hn rfl

theorem hnd_as {x n : Str} {c : Value} {i : Nat} {np pos' : Pos} {b0 : Stmt} {suite : List Stmt} {rest : List ExceptHandler} {W : Ends → WX} {ts : Addr → Value → Option Addr → TS}
    (hs : X.stack = X.env :: X.outer) (hf : X.env.frame = some X.env.locals) (hN : X.N.Nodup) (hi : X.N[i]? = some n) (hln : X.env.kindOf n = some .local) (hc : Names X x c)
    (su : ∀ (a : Addr) (oe : Obj) (cls : Value) (d : Option Addr) (pn : List (Addr × Obj)), Zc cls d oe → (∃ vs, oe.data = .fields vs) → PSs (X.suite a ((a, oe) :: pn)) (b0 :: suite) (ts a cls d))
    (hr : Hnd X rest W) :
    Hnd X (.ExceptHandler (some (.Name x np)) (some n) (b0 :: suite) pos' :: rest) fun D cls d σ H => ∃ b, PySem.W.exmOne X.K cls c = some b ∧
      (b = true → ∀ a, H a = none → ts a cls d { nx := fun σ1 H1 => D.nx (σ1.set i none) H1, rt := D.rt, bk := fun σ1 H1 => D.bk (σ1.set i none) H1, ct := fun σ1 H1 => D.ct (σ1.set i none) H1 } (σ.set i (some (.ref a))) H) ∧
      (b = false → W D cls d σ H) := by
  intro pins D σ H sI s a B h3 cls d J nb up fl na eos ag hw
  have ok := J.ok
  obtain ⟨b, e1, y1, y0⟩ := hw
  refine hnd_step hs hf hc J nb up fl na eos ag e1 (fun hb oe0 S0 nL nF => ?_) fun hb => hr pins D σ H sI s a B h3 cls d J nb up fl na eos ag (y0 hb)
  refine codeAny_handlers_suite_as ?_
  refine HandSPX.lands_againZ fl fun h4 f4 u4 => ?_
  have J4 : Inv X pins σ H { s with heap := h4 } := J.landed nb f4.1 (up.trans u4) eos ag
  obtain ⟨oe, vs, t1, t2, t3⟩ := f4.there
  have S4 := J4.suite t1 t3 na nL nF
  refine store_ok (X := X.suite a ((a, oe) :: (X.pn ++ pins))) (v := .ref a) S4 hN hi (.inl hln) rfl (fun s5 S5 => ?_) (.inr hln)
  refine wpAny_mono ((su a oe cls d (X.pn ++ pins) t2 ⟨_, t3⟩).run [] s5 _ H _ S5 (y1 hb a na)) (fun f s6 q => ?_) fun _ _ z => False.elim z
  have bye : ∀ {σ6 : L2.St} {H6 : Hp} {Q : Shared → Prop}, Inv (X.suite a ((a, oe) :: (X.pn ++ pins))) [] σ6 H6 s6 → (∀ s7, Inv X pins (σ6.set i none) H6 s7 → Q s7) →
      wpAny (model X.prog X.w) X.A (do bindName X.env n .none; unbindBehindTheSuite X.env n pos') (fun _ s7 => Q s7) X.xe s6 := fun S6 hq => gone_ok (S6.unsuite ok) hN hi hln hq
  cases f with
  | ret u =>
    obtain ⟨v6, σ6, H6, S6, r6, q6⟩ := q
    exact bye S6 fun s7 J7 => ⟨v6, _, H6, J7, r6, q6⟩
  | next =>
    obtain ⟨σ6, H6, S6, q6⟩ := q
    exact bye S6 fun s7 J7 => ⟨_, H6, J7, q6⟩
  | brk =>
    obtain ⟨σ6, H6, S6, q6⟩ := q
    exact bye S6 fun s7 J7 => ⟨_, H6, J7, q6⟩
  | cont =>
    obtain ⟨σ6, H6, S6, q6⟩ := q
    exact bye S6 fun s7 J7 => ⟨_, H6, J7, q6⟩
theorem ps_tryH {body : List Stmt} {hd : ExceptHandler} {hl : List ExceptHandler} {pos : Pos} {tb : WX → TS} {W : Ends → WX} (hs : X.stack = X.env :: X.outer) (hf : X.env.frame = some X.env.locals)
    (hb : ∀ (W' : WX) (pn : List (Addr × Obj)) (xe : Value → Shared → Prop), Takes (X.tr pn xe) W' → PassesOwn (model X.prog X.w) X.A X.env xe → PSs (X.tr pn xe) body (tb W'))
    (hh : Hnd X (hd :: hl) W) : PS X (.Try body (hd :: hl) [] [] pos) fun D σ H => tb (W D) D σ H := by
  refine ⟨fun pins s σ H D I h => ?_⟩
  have ok := I.ok
  have hfr : X.A.frames = some (X.env :: X.outer) := by rw [ok.frames, hs]
  refine wpAny_Try_except ?_
  refine wpAny_mono ((hb (W D) (X.pn ++ pins) (fun e s₁ => wpAny (model X.prog X.w) X.A (noteFrame e X.env)
    (fun _ s₂ => wpAny (model X.prog X.w) X.A (setFlight e none) (fun _ s₃ => wpAny (model X.prog X.w) X.A (handleBy e X.env (hd :: hl)) (SP X pins D) X.xe s₃) X.xe s₂) X.xe s₁)
    (fun u s' xx => ?_) PassesOwn.looking).run [] s σ H D (I.toTry _) h) (fun f s1 q => ?_) fun e s1 he => he
  · obtain ⟨a, B, sI, p1, σ1, H1, cls, d, rfl, J0, nb, up, sky, na, eos, ag, hw⟩ := xx
    have J : Inv X pins σ1 H1 sI := J0.ofTry ok
    have sky1 : Sky B (X.env :: X.outer) a (Zc cls d) X.env.locals s'.heap := by
      rw [← hs]
      exact sky
    show wpAny (model X.prog X.w) X.A (noteFrame (.ref a) X.env) _ _ _
    refine Sky.land Zc.steady hfr hf sky1 fun h3 f3 u3 => ?_
    exact hh pins D σ1 H1 sI s' a B h3 cls d J nb (up.trans u3) f3 na eos ag hw
  · cases f with
    | ret u =>
      obtain ⟨v, σ1, H1, J1, r, q1⟩ := q
      exact ⟨v, σ1, H1, J1.ofTry ok, r, q1⟩
    | next =>
      obtain ⟨σ1, H1, J1, q1⟩ := q
      exact wpAny_execs_nil ⟨σ1, H1, J1.ofTry ok, q1⟩
    | brk =>
      obtain ⟨σ1, H1, J1, q1⟩ := q
      exact ⟨σ1, H1, J1.ofTry ok, q1⟩
    | cont =>
      obtain ⟨σ1, H1, J1, q1⟩ := q
      exact ⟨σ1, H1, J1.ofTry ok, q1⟩
end
end DL

set_option Elab.async false
set_option linter.all false
set_option maxRecDepth 100000
set_option maxHeartbeats 4000000
set_option autoImplicit false
namespace DL
open PySem PySem.Spec L2
def rIsX (K : PySem.W.Frag) (D a : Addr) (d : Option Addr) : List V → Hp → VK → Prop := fun xs H Q => ∃ (c : V) (cv : Value) (b : Bool), xs = [.ref a, c] ∧ ClsV c cv ∧ PySem.W.kitOne K (.ref D) cv = some b ∧ (∀ dd, d = some dd → ∃ fs, H dd = some (.xd fs)) ∧ Q (.bl b) H
theorem call_isX {X : Cx} {a D : Addr} {d : Option Addr} {oe : Obj} {pn : List (Addr × Obj)} (C : ExcC X.K D) (hz : Zc (.ref D) d oe) (hf : ∃ vs, oe.data = .fields vs) : CallR (X.suite a ((a, oe) :: pn)) (.builtin "isinstance") (rIsX X.K D a d) := by
  intro pins s σ H xs us Q I r h
  obtain ⟨c, cv, b, rfl, hcv, e, hd, q⟩ := h
  cases r with
  | cons rx rr =>
    cases rr with
    | cons rt rr =>
      cases rr
      cases rx
      have ec := hcv.eq rt
      subst ec
      obtain ⟨ha, _⟩ := I.pin (a, oe) (List.mem_append_left _ List.mem_cons_self)
      obtain ⟨vs, hv⟩ := hf
      have nc : PySem.W.notCls oe := by unfold PySem.W.notCls; rw [hv] <;> rfl
      have hcl : (PySem.W.clsIn X.K D).isSome = true := by
        obtain ⟨cd, hc, _⟩ := has_dict C.hd
        rw [hc]
        rfl
      suffices J : ∃ od, PySem.W.InstAt s.heap a oe D od by
        obtain ⟨od, J⟩ := J
        exact PySem.W.kia_one (PySem.W.kitx_exc hcl C.hg C.hk C.hs C.ha C.hn C.ht C.hm) I.kIn J e (fun z => nomatch z) fun tk => ⟨.bl b, H, I.kept (t' := tk) fun _ _ z => z, rfl, q⟩
      cases d with
      | none => exact ⟨none, ha, hz.1, nc, by rw [hz.2]; trivial⟩
      | some dd =>
        obtain ⟨fs, hfs⟩ := hd dd rfl
        obtain ⟨mA, hns, _⟩ : ObjOk X.prog X.w H s.heap dd (.xd fs) := I.hok dd _ hfs
        obtain ⟨od, ho, _⟩ := lookIn_ns hns
        exact ⟨some od, ha, hz.1, nc, by rw [hz.2]; exact ho⟩
end DL

set_option Elab.async false
set_option linter.all false
set_option maxRecDepth 100000
set_option maxHeartbeats 4000000
set_option autoImplicit false
namespace DL
open PySem PySem.Spec L2
section
variable {X : Cx} {Γ : GamT} {W : WX} {a b : Expr} {ta tb : TD} {pos : Pos}
theorem deg_and (ha : DEg X Γ a ta) (hb : DEg X Γ b tb) : DEg X Γ (.BoolOp .And [a, b] pos) (dAndV ta tb) := by
  obtain ⟨tea, pa, ra⟩ := ha.ex
  obtain ⟨teb, pb, rb⟩ := hb.ex
  refine ⟨_, pe_and pa (pe_one pb), fun c hc ρ μ g σ H Q d μ' s q h k => ?_⟩
  obtain ⟨x, μ1, h1, h2⟩ := bind_ok h
  refine ra c hc ρ μ g σ H _ x μ1 s q h1 fun v1 H1 g1 l1 s1 r1 => ?_
  cases x with
  | bl z =>
    have e : v1 = .bl z := rep_flat (d := .bl z) rfl r1
    cases z with
    | true => exact ⟨true, e, iteT (rb c hc ρ μ1 g1 σ H1 Q d μ' s1 q h2 fun v' H' g' l s' => k v' H' g' (l1.trans l) s')⟩
    | false =>
      cases h2
      exact ⟨false, e, iteF (k _ H1 g1 l1 s1 (flat_rep rfl))⟩
  | _ => cases h2
theorem deg_not (ha : DEg X Γ a ta) : DEg X Γ (.UnaryOp .Not a pos) (dNotV ta) := by
  obtain ⟨tea, pa, ra⟩ := ha.ex
  refine ⟨_, pe_not pa, fun c hc ρ μ g σ H Q d μ' s q h k => ?_⟩
  obtain ⟨x, μ1, h1, h2⟩ := bind_ok h
  refine ra c hc ρ μ g σ H _ x μ1 s q h1 fun v1 H1 g1 l1 s1 r1 => ?_
  cases x with
  | bl z =>
    cases h2
    exact ⟨z, rep_flat (d := .bl z) rfl r1, k _ H1 g1 l1 s1 (flat_rep rfl)⟩
  | _ => cases h2
end
def dIsX (kI : Kit) (C E : Addr) : TD := fun _ μ => match kitD kI (.ref C) (.ref E) with
  | some b => some (.ok (.bl b), μ)
  | none => none
theorem deg_isx {X : Cx} {a C E : Addr} {oe : Obj} {d : Option Addr} {pn : List (Addr × Obj)} {ns : List Str} {ds : List D} {i : Nat} {x y : Str} {p p2 q pos : Pos} {kI : Kit} (T : ExcC X.K C) (hk : KitOk X.K kI) (hz : Zc (.ref C) d oe) (hf : ∃ vs, oe.data = .fields vs)
    (he : PE (X.suite a ((a, oe) :: pn)) (.Name x p) (tVar i)) (gy : X.mg y = some (.ref E)) (hm : X.mg "isinstance" = none)
    (hgy : Gl (X.suite a ((a, oe) :: pn)) y := by rfl) (hdy : (y == ("__debug__" : Str)) = false := by decide) (hg : Gl (X.suite a ((a, oe) :: pn)) "isinstance" := by rfl)
    (h1 : starEach [.Name x p, .Name y q] X.env = (false, eval (.Name x p) X.env) :: starEach [.Name y q] X.env := by rfl) (h2 : starEach [.Name y q] X.env = [(false, eval (.Name y q) X.env)] := by rfl) (hpl : (backTo pos (starEach [.Name y q] X.env)).any (·.1) = false := by rfl) :
    DEg (X.suite a ((a, oe) :: pn)) (Gam i a d ns ds) (.Call (.Name "isinstance" p2) [.Name x p, .Name y q] [] pos) (dIsX kI C E) := by
  refine ⟨_, pe_callB (X := X.suite a ((a, oe) :: pn)) (call_isX T hz hf) hg hm (by decide +kernel) (pa_cons he (pa_cons (pe_glob (v := .ref E) hgy gy rfl hdy) pa_nil h2) h1) (he := h1) (hpl := hpl), fun c hc ρ μ g σ H Q y' μ' s q h k => ?_⟩
  obtain ⟨q1, q2⟩ := q
  unfold dIsX at h
  cases e : kitD kI (.ref C) (.ref E) with
  | none => rw [e] at h; cases h
  | some bb =>
    rw [e] at h
    cases h
    refine ⟨_, q1, _, .ref E, bb, rfl, .own E, kitD_some hk e, fun dd hd => ?_, k _ H g (Le.refl g) s (flat_rep rfl)⟩
    subst hd
    obtain ⟨xs, x1, x2, x3, x4⟩ := q2
    exact ⟨_, s.old dd _ x1 x2⟩
def PSg (Γ : GamT) (c : Ct) (g : G) (o : Out) (μ' : Mu) (D : Ends) : Prop := match o with
  | .nx ρ' => ∀ σ' H' g', Le g g' → SR c ρ' μ' g' σ' H' → Γ c σ' → D.nx σ' H'
  | .rt d => ∀ v H' g', Le g g' → SH c μ' g' H' → GRep c.K g' d v → D.rt v H'
  | _ => False
def RK (Γ : GamT) (c : Ct) (ts : TS) (t : TO') : Prop := ∀ ρ μ g σ H D o μ', SR c ρ μ g σ H → Γ c σ → t ρ μ = some (o, μ') → PSg Γ c g o μ' D → ts D σ H
structure DK (X : Cx) (Γ : GamT) (st : Stmt) (t : TO') : Prop where
  ex : ∃ ts, PS X st ts ∧ ∀ c : Ct, c.K = X.K → RK Γ c ts t
structure DKs (X : Cx) (Γ : GamT) (sts : List Stmt) (t : TO') : Prop where
  ex : ∃ ts, PSs X sts ts ∧ ∀ c : Ct, c.K = X.K → RK Γ c ts t
section
variable {X : Cx} {Γ : GamT} {st : Stmt} {rest : List Stmt} {t u : TO'}
theorem dks_one (h : DK X Γ st t) : DKs X Γ [st] t := by
  obtain ⟨ts, p, r⟩ := h.ex
  exact ⟨_, pss_one p, r⟩
theorem dks_cons (h1 : DK X Γ st t) (h2 : DKs X Γ rest u) : DKs X Γ (st :: rest) (dsSeq t u) := by
  obtain ⟨ts, p1, r1⟩ := h1.ex
  obtain ⟨us, p2, r2⟩ := h2.ex
  refine ⟨_, pss_cons p1 p2, fun c hc ρ μ g σ H D o μ' s q h k => ?_⟩
  unfold dsSeq at h
  cases e : t ρ μ with
  | none => rw [e] at h; cases h
  | some w =>
    obtain ⟨o1, μ1⟩ := w
    rw [e] at h
    refine r1 c hc ρ μ g σ H _ o1 μ1 s q e ?_
    cases o1 with
    | nx ρ1 => exact fun σ1 H1 g1 l1 s1 q1 => r2 c hc ρ1 μ1 g1 σ1 H1 D o μ' s1 q1 h (by
        cases o with
        | nx ρ2 => exact fun σ2 H2 g2 l2 => k σ2 H2 g2 (l1.trans l2)
        | rt d => exact fun v H2 g2 l2 => k v H2 g2 (l1.trans l2)
        | _ => exact k.elim)
    | rt d => cases h; exact k
    | bk ρ1 => cases h; exact k
    | ct ρ1 => cases h; exact k
    | ex ρ1 C ns ds => cases h; exact k
theorem dk_set {i j : Nat} {x : Str} {e : Expr} {te : TD} {pos pos' : Pos} {a : Addr} {d : Option Addr} {ns : List Str} {ds : List D} (hij : j ≠ i) (hN : X.N.Nodup) (he : DEg X (Gam i a d ns ds) e te) (hi : X.N[j]? = some x := by rfl) (hx : Loc X.env.scope x := by first | exact Or.inl rfl | exact Or.inr rfl) (hs : swapsWith e (some (.Name x pos')) pos.line X.env = pure false := by rfl)
    (hf : X.fn x = true ∨ X.env.scope.names.lookup x = some .local := by first | exact .inl rfl | exact .inr rfl) : DK X (Gam i a d ns ds) (.Assign [.Name x pos'] e pos) (dsSet j te) := by
  obtain ⟨re, p, r⟩ := he.ex
  refine ⟨_, ps_set (i := j) hN hi hx p hs hf, fun c hc ρ μ g σ H D₀ o μ' s q h k => ?_⟩
  rcases dsE_some h with ⟨v, μ1, h1, h2⟩ | ⟨C, ns', ds', _, e2⟩
  · cases h2
    refine r c hc ρ μ g σ H _ v _ s q h1 fun w H1 g1 l1 s1 rp => k _ H1 g1 l1 (s1.setSh j rp) ⟨?_, q.2⟩
    rw [List.getElem?_set_ne hij]
    exact q.1
  · subst e2
    exact k.elim
end
end DL

set_option Elab.async false
set_option linter.all false
set_option maxRecDepth 100000
set_option maxHeartbeats 4000000
set_option autoImplicit false
namespace DL
open PySem PySem.Spec L2
structure Cl where
  c : Addr
  nm : Option Nat
  S : List Addr
  ts : Addr → List Str → List D → TO'
def Cl.clr : Option Nat → Rho → Rho
  | some i, ρ => ρ.set i none
  | none, ρ => ρ
def Cl.fin (nm : Option Nat) : Option (Out × Mu) → Option (Out × Mu)
  | some (.nx ρ, μ) => some (.nx (Cl.clr nm ρ), μ)
  | some (.rt d, μ) => some (.rt d, μ)
  | _ => none
def dHand (kx : KX) : List Cl → Rho → Addr → List Str → List D → Mu → Option (Out × Mu)
  | [], ρ, C, ns, ds, μ => some (.ex ρ C ns ds, μ)
  | k :: r, ρ, C, ns, ds, μ => match kxD kx C k.c with
    | some true => match k.nm with
      | some i => if C ∈ k.S ∧ i < ρ.length then Cl.fin k.nm (k.ts C ns ds (ρ.set i none) μ) else none
      | none => Cl.fin k.nm (k.ts C ns ds ρ μ)
    | some false => dHand kx r ρ C ns ds μ
    | none => none
def dsTryH (kx : KX) (ks : List Cl) (tb : TO') : TO' := fun ρ μ => match tb ρ μ with
  | some (.ex ρ' C ns ds, μ') => dHand kx ks ρ' C ns ds μ'
  | r => r
def HR (X : Cx) (kx : KX) (W0 : WX) (hs : List ExceptHandler) (ks : List Cl) : Prop := ∃ WH : Ends → WX, Hnd X hs WH ∧
  ∀ c : Ct, c.K = X.K → ∀ g D₀ ρ' C ns ds μ1 o μ', dHand kx ks ρ' C ns ds μ1 = some (o, μ') → PS' c W0 g o μ' D₀ → ∀ d σ' H' g', Le g g' → SR c ρ' μ1 g' σ' H' → ExAt c g' H' d ns ds → WH D₀ (.ref C) d σ' H'
def semK (K : Fg) (S : List Addr) (i : Nat) (ts : Addr → List Str → List D → TO') (a : Addr) (cls : Value) (d : Option Addr) : TS := fun D σ H => ∃ C ns ds c ρ μ g o μ', cls = .ref C ∧ C ∈ S ∧ c.K = K ∧ SR c ρ μ g σ H ∧ Gam i a d ns ds c σ ∧ ts C ns ds ρ μ = some (o, μ') ∧ PSg (Gam i a d ns ds) c g o μ' D
section
variable {X : Cx} {kx : KX} {W0 : WX} {hs : List ExceptHandler} {ks : List Cl} {x n : Str} {C : Addr} {np pos' : Pos} {b0 : Stmt} {suite : List Stmt} {i : Nat} {S : List Addr} {ts : Addr → List Str → List D → TO'}
theorem hr_nil (e1 : X.stack = X.env :: X.outer) (e2 : X.env.frame = some X.env.locals) (tk : Takes X W0) : HR X kx W0 [] [] :=
  ⟨_, hnd_nil e1 e2 tk, fun c hc g D₀ ρ' C ns ds μ1 o μ' h k d σ' H' g' l s z => by
    cases h
    exact k d σ' H' g' l s z⟩
theorem fin_some {nm : Option Nat} {r : Option (Out × Mu)} {o : Out} {μ' : Mu} (h : Cl.fin nm r = some (o, μ')) : (∃ ρ, r = some (.nx ρ, μ') ∧ o = .nx (Cl.clr nm ρ)) ∨ ∃ d, r = some (.rt d, μ') ∧ o = .rt d := by
  cases r with
  | none => cases h
  | some q =>
    obtain ⟨o1, μ1⟩ := q
    cases o1 with
    | nx ρ => cases h; exact .inl ⟨ρ, rfl, rfl⟩
    | rt d => cases h; exact .inr ⟨d, rfl, rfl⟩
    | bk ρ => cases h
    | ct ρ => cases h
    | ex ρ C ns ds => cases h
theorem hr_as (hk : KXOk X.K kx) (gC : X.mg x = some (.ref C)) (hN : X.N.Nodup)
    (hsu : ∀ (a : Addr) (oe : Obj) (d : Option Addr) (pn : List (Addr × Obj)) (C' : Addr) (ns : List Str) (ds : List D), C' ∈ S → Zc (.ref C') d oe → (∃ vs, oe.data = .fields vs) → DKs (X.suite a ((a, oe) :: pn)) (Gam i a d ns ds) (b0 :: suite) (ts C' ns ds))
    (hr : HR X kx W0 hs ks) (e1 : X.stack = X.env :: X.outer := by rfl) (e2 : X.env.frame = some X.env.locals := by rfl) (hi : X.N[i]? = some n := by rfl) (hln : X.env.kindOf n = some .local := by rfl) (hg : Gl X x := by rfl) (hdb : (x == ("__debug__" : Str)) = false := by decide) :
    HR X kx W0 (.ExceptHandler (some (.Name x np)) (some n) (b0 :: suite) pos' :: hs) (⟨C, some i, S, ts⟩ :: ks) := by
  obtain ⟨WH, h1, h2⟩ := hr
  refine ⟨_, hnd_as (i := i) (ts := semK X.K S i ts) e1 e2 hN hi hln ⟨hg, hdb, .inl gC⟩ (fun a oe cls d pn z1 z2 => ⟨fun pins s σ H D I q => ?_⟩) h1, fun c hc g D₀ ρ' C' ns ds μ1 o μ' h k d σ' H' g' l s xx => ?_⟩
  · obtain ⟨C', ns, ds, c, ρ, μ, g, o, μ', rfl, q1, q2, q3, q4, q5, q6⟩ := q
    obtain ⟨t, p, r⟩ := (hsu a oe d pn C' ns ds q1 z1 z2).ex
    exact p.run pins s σ H D I (r c q2 ρ μ g σ H D o μ' q3 q4 q5 q6)
  · unfold dHand at h
    cases ek : kxD kx C' C with
    | none => rw [ek] at h; cases h
    | some b =>
      rw [ek] at h
      refine ⟨b, kxD_some hk ek, fun hb1 a ha => ?_, fun hb0 => ?_⟩
      · subst hb1
        have h' : (if C' ∈ S ∧ i < ρ'.length then Cl.fin (some i) (ts C' ns ds (ρ'.set i none) μ1) else none) = some (o, μ') := h
        by_cases hS : C' ∈ S ∧ i < ρ'.length
        · rw [if_pos hS] at h'
          have key : ∃ H0' : Hp, (∀ a o, c.H0 a = some o → H0' a = some o) ∧ (∀ a o, H0' a = some o → c.H0 a = some o ∨ (H' a = some o ∧ g'.O a = none)) ∧ Gam i a d ns ds (c.re g' H0') (σ'.set i (some (.ref a))) := by
            have hsl : (σ'.set i (some (V.ref a)))[i]? = some (some (.ref a)) := by
              rw [List.getElem?_set_self (by rw [← s.slen]; exact hS.2)]
            cases d with
            | none => exact ⟨c.H0, fun _ _ e => e, fun _ _ e => .inl e, hsl, xx.1⟩
            | some dd =>
              obtain ⟨xs, x1, x2, x3, x4, x5, x6, x7⟩ := xx
              refine ⟨upd c.H0 dd (.xd (ns.zip xs)), fun a o e => ?_, fun a o e => ?_, hsl, xs, upd_same, x7, x2, x3⟩
              · rw [upd_ne (ne_of_none e x4)]; exact e
              · by_cases z : a = dd
                · subst z
                  rw [upd_same] at e
                  cases e
                  exact .inr ⟨x1, x5⟩
                · rw [upd_ne z] at e
                  exact .inl e
          obtain ⟨H0', k1, k2, gam⟩ := key
          have s2 := s.setAny i (some (.ref a))
          rcases fin_some h' with ⟨ρ2, r1, rfl⟩ | ⟨y, r1, rfl⟩
          · refine ⟨C', ns, ds, c.re g' H0', ρ'.set i none, μ1, g', _, _, rfl, hS.1, hc, s2.re k2, gam, r1, ?_⟩
            exact fun σ3 H3 g3 l3 s3 _ => k (σ3.set i none) H3 g3 (l.trans l3) ((SR.un s.toSH k1 l3 s3).setNone i)
          · refine ⟨C', ns, ds, c.re g' H0', ρ'.set i none, μ1, g', _, _, rfl, hS.1, hc, s2.re k2, gam, r1, ?_⟩
            exact fun v H3 g3 l3 s3 rp => k v H3 g3 (l.trans l3) (SH.un s.toSH k1 l3 s3) rp
        · rw [if_neg hS] at h'
          cases h'
      · subst hb0
        exact h2 c hc g D₀ ρ' C' ns ds μ1 o μ' h k d σ' H' g' l s xx
theorem ds_tryH {W : WX} {h0 : ExceptHandler} {body : List Stmt} {tb : TO'} {pos : Pos} (hh : HR X kx W (h0 :: hs) ks)
    (hb : ∀ (W' : WX) (pn : List (Addr × Obj)) (xe : Value → Shared → Prop), Takes (X.tr pn xe) W' → PassesOwn (model X.prog X.w) X.A X.env xe → DSs (X.tr pn xe) W' body tb)
    (e1 : X.stack = X.env :: X.outer := by rfl) (e2 : X.env.frame = some X.env.locals := by rfl) : DS X W (.Try body (h0 :: hs) [] [] pos) (dsTryH kx ks tb) := by
  obtain ⟨WH, h1, h2⟩ := hh
  refine ⟨_, ps_tryH (tb := fun W' => semS X.K W' tb) e1 e2 (fun W' pn xe t1 t2 => (hb W' pn xe t1 t2).sem) h1, fun c hc ρ μ g σ H D₀ o μ' s h k => ?_⟩
  unfold dsTryH at h
  cases e : tb ρ μ with
  | none => rw [e] at h; cases h
  | some q =>
    obtain ⟨o1, μ1⟩ := q
    rw [e] at h
    refine ⟨c, ρ, μ, g, o1, μ1, hc, s, e, ?_⟩
    cases o1 with
    | nx ρ' => cases h; exact k
    | bk ρ' => cases h; exact k
    | ct ρ' => cases h; exact k
    | rt d => cases h; exact k
    | ex ρ' C' ns ds => exact fun d σ' H' g' l s' xx => h2 c hc g D₀ ρ' C' ns ds μ1 o μ' h k d σ' H' g' l s' xx
end
end DL

set_option Elab.async false
set_option linter.all false
set_option maxRecDepth 100000
set_option maxHeartbeats 4000000
set_option autoImplicit false
namespace DL
open PySem PySem.Spec L2
def excCB (C : Fg → Addr) (K : Fg) : Bool := decide (PySem.W.findIn K (.ref (C K)) "__getattribute__" = some (some (.builtin "BaseException.__getattribute__"))) && (decide (PySem.W.findIn K (.ref (C K)) "__getattr__" = some none) && (decide (PySem.W.subIn K (.ref (C K)) (.type "BaseException") = some true) && (PySem.W.hasDictIn K (C K) && (decide (PySem.W.findIn K (.ref (C K)) "__class__" = some (some (.builtin "object.__class__"))) && (decide (PySem.W.specialIn K (.builtin "object.__class__") "__get__" = some (some (.builtin "getset_descriptor.__get__"))) && (decide (PySem.W.takesIn K (.builtin "object.__class__") = some true) && decide (PySem.W.mroIn K (C K) (.type "object") = some true)))))))
theorem excCB_ok {C : Fg → Addr} {K : Fg} (h : excCB C K = true) : ExcC K (C K) := by
  unfold excCB at h
  simp only [Bool.and_eq_true, decide_eq_true_eq] at h
  obtain ⟨a, b, c, d, e, f, g, i⟩ := h
  exact ⟨a, b, c, d, e, f, g, i⟩
def nodB (C : Fg → Addr) (fl : List Str) (K : Fg) : Bool := fl.all fun f => decide (PySem.W.takerIn K (C K) f = some none)
theorem nodB_ok {C : Fg → Addr} {fl : List Str} {K : Fg} (h : nodB C fl K = true) : ∀ f ∈ fl, PySem.W.takerIn K (C K) f = some none := fun f hf => of_decide_eq_true (List.all_eq_true.mp h f hf)
def nofB (C : Fg → Addr) (f : Str) (K : Fg) : Bool := decide (PySem.W.findIn K (.ref (C K)) f = some none)
theorem nofB_ok {C : Fg → Addr} {f : Str} {K : Fg} (h : nofB C f K = true) : PySem.W.findIn K (.ref (C K)) f = some none := of_decide_eq_true h
def iniB (C : Fg → Addr) (K : Fg) : Bool := decide (PySem.W.findIn K (.ref (C K)) "__init__" = some (some (.ref (He.ma K (C K) "__init__")))) && decide (PySem.W.typeIn K (.ref (He.ma K (C K) "__init__")) = some (.type "function"))
theorem iniB_ok {C : Fg → Addr} {K : Fg} (h : iniB C K = true) : PySem.W.findIn K (.ref (C K)) "__init__" = some (some (.ref (He.ma K (C K) "__init__"))) ∧ PySem.W.typeIn K (.ref (He.ma K (C K) "__init__")) = some (.type "function") := by
  unfold iniB at h
  simp only [Bool.and_eq_true, decide_eq_true_eq] at h
  exact h
def barB (C : Fg → Addr) (K : Fg) : Bool := PySem.W.excIn K (C K) exRow "Exception.__new__" && (PySem.W.keepIn K (.ref (C K)) && (decide (PySem.W.subIn K (.ref (C K)) (.type "BaseException") = some true) && decide (PySem.W.typeIn K (.ref (C K)) = some (.type "type"))))
end DL

set_option Elab.async false
set_option linter.all false
set_option maxRecDepth 100000
set_option maxHeartbeats 4000000
set_option autoImplicit false
namespace DL
open PySem PySem.Spec L2
section
variable {X : Cx} {CX : CXT} {k : Nat} {f C : Addr} {fd : FuncData} {ps : List Str} {sp : Sp} {E : L2.St → XK} {m : Str} {pos apos : Pos} {e o : Expr} {es : List Expr} {ta : TE} {t : TA}
def tMethS (C : Addr) (m : Str) (sp : Sp) (E : L2.St → XK) (ta : TE) (t : TA) : TE := fun σ H Q => ta σ H fun x H1 => ∃ a dx fs, x = .ref a ∧ H1 a = some (.ins C dx fs) ∧ fs.lookup m = none ∧
  t σ H1 fun vs H2 => sp (x :: vs) H2 Q (E σ)
theorem pe_methE {pl : Sem Bool} (he : PE X o ta) (c : Cls X.K C) (hm : Meth X.K C m f) (F : FnOk X.prog X.w X.K X.mg X.base CX k f fd ps sp) (hr : Room k X.A) (hb : Binds X.K fd ps []) (hx : ∀ σ, PassesAt CX X σ (E σ)) (ha : PA X (e :: es) t)
    (hst : starEach (e :: es) X.env = (false, eval e X.env) :: starEach es X.env := by rfl) (hpl : (backTo pos (starEach es X.env)).any (·.1) = false := by rfl)
    (ht : eval (.Call (.Attribute o m apos) (e :: es) [] pos) X.env = (do
      let ov ← eval o X.env
      standAt apos.atName
      let (f, first) ← holding [ov] (getMethod ov m pl)
      callWith pos f first (backTo pos (starEach (e :: es) X.env)) (backToKw pos (keywordEach [] X.env))) := by rfl) :
    PE X (.Call (.Attribute o m apos) (e :: es) [] pos) (tMethS C m sp E ta t) := by
  refine ⟨fun pins s σ H Q I h => ?_⟩
  refine PySem.W.methodCall_KW (pl := pl) (thn (he.run pins s σ H _ I h) fun u s1 ⟨x, H1, I1, rx, a, dx, fs, ex, ea, l, q⟩ => ?_) ht
  subst ex
  obtain rfl : u = Value.ref a := rx
  refine getmeth_ok I1 ea c hm l ?_
  refine PySem.W.callWith_K (first := [.ref a]) (h₀ := X.base) I.ok.mod.kin hm.kp (thn (ha.run pos pins s1 σ H1 _ I1 q) fun us s2 ⟨vs, H2, I2, r, q2⟩ => ⟨I2.kIn, ?_⟩) hst hpl
  exact run_fnS (us := .ref a :: us) (vs := .ref a :: vs) F hr hb (hx σ) I2 (.cons rfl r) q2
end
section
variable {X : Cx} {W : WX} {C : Addr} {m : Str} {k n : Nat} {F : List D → M D} {o e : Expr} {es : List Expr} {pos apos : Pos} {t : TD} {tl : TL}
def dMethX (C : Addr) (m : Str) (F : List D → M D) (n : Nat) (t : TD) (tl : TL) : TD := fun ρ => M.bind (t ρ) fun d μ => match insD d μ with
  | some (C', ns, ds) => if C' = C ∧ fldD ns ds m = none then M.bind (tl ρ) (fun es => if es.length + 1 = n then F (d :: es) else M.stuck) μ else none
  | none => none
def dMethX0 (C : Addr) (m : Str) (F : List D → M D) (t : TD) : TD := fun ρ => M.bind (t ρ) fun d μ => match insD d μ with
  | some (C', ns, ds) => if C' = C ∧ fldD ns ds m = none then F [d] μ else none
  | none => none
theorem de_methX (hk : KnownM X.prog X.w X.K X.mg X.base C m k n F) (hr : Room k X.A) (tk : Takes X W) (ho : DE X W o t) (ha : DA X W (e :: es) tl)
    (hpe : ∀ {f fd ps sp} {t1 : TE} {t2 : TA}, Room k X.A → (∀ σ, PassesAt (L2.CX X.prog X.w) X σ (WE W σ)) → Meth X.K C m f → FnOk X.prog X.w X.K X.mg X.base (L2.CX X.prog X.w) k f fd ps sp → Binds X.K fd ps [] → Cls X.K C → PE X o t1 → PA X (e :: es) t2 → PE X (.Call (.Attribute o m apos) (e :: es) [] pos) (tMethS C m sp (WE W) t1 t2) := by
      intro f fd ps sp t1 t2 hr hps hm F b cl p q; exact pe_methE p cl hm F hr b hps q) :
    DE X W (.Call (.Attribute o m apos) (e :: es) [] pos) (dMethX C m F n t tl) := by
  obtain ⟨f, fd, ps, h1, h2, h3, h4⟩ := hk.ex
  obtain ⟨te, p, r⟩ := ho.ex
  obtain ⟨ue, pu, ru⟩ := ha.ex
  refine ⟨_, hpe hr (fun σ => passAt tk σ) h1 h4 h2 hk.cl p pu, fun c hc ρ μ g σ H Q rr μ' s hh hx k => ?_⟩
  refine (r c hc).then_ s hh hx fun x μ1 h1 v1 H1 g1 l1 s1 r1 hx1 => ?_
  cases e0 : insD x μ1 with
  | none => rw [e0] at h1; cases h1
  | some q =>
    obtain ⟨C', ns, ds⟩ := q
    rw [e0] at h1
    have h1' : (if C' = C ∧ fldD ns ds m = none then M.bind (tl ρ) (fun es => if es.length + 1 = n then F (x :: es) else M.stuck) μ1 else none) = some (rr, μ') := h1
    by_cases z : C' = C ∧ fldD ns ds m = none
    · rw [if_pos z] at h1'
      obtain ⟨rfl, z2⟩ := z
      obtain ⟨a, dx, xs, rfl, h5, h6, h7⟩ := s1.ins r1 e0
      refine ⟨a, dx, _, rfl, h5, zip_lookup_none h7.length z2, ?_⟩
      refine (ru c hc).then_ s1 h1' hx1 fun es' μ2 h2 vs H2 g2 l2 s2 r2 hx2 => ?_
      by_cases q : es'.length + 1 = n
      · rw [if_pos q] at h2
        rw [← hc]
        refine ⟨x :: es', μ2, g2.enter, rr, μ', q, s2.toSH.enter, reps_cons (l2.rep r1) r2, h2, fun d ed v H' g' l' s' rp => ?_, fun C ns es ed d H' g' l' s' xx => ?_⟩
        · exact k d ed v H' _ ((l1.trans l2).trans (le_after l')) (s2.after l' s') rp
        · exact hx2 C ns es ed d H' _ (le_after l') (s2.after l' s') (xx.after s2.toSH)
      · rw [if_neg q] at h2
        cases h2
    · rw [if_neg z] at h1'
      cases h1'
end
end DL

set_option Elab.async false
set_option linter.all false
set_option maxRecDepth 100000
set_option maxHeartbeats 4000000
set_option autoImplicit false
namespace DL
open PySem PySem.Spec L2
section
variable {X : Cx} {CX : CXT} {k : Nat} {f C : Addr} {fd : FuncData} {ps : List Str} {sp : Sp} {E : XK}
end
section
variable {X : Cx} {W : WX} {C : Addr} {k : Nat} {F : List D → M D} {a : Expr} {pos : Pos} {t : TD}
structure KnownLen (P : Program) (w : World) (K : Fg) (mg : Str → Option Value) (base : Heap) (C : Addr) (k : Nat) (F : List D → M D) : Prop where
  ex : ∃ f fd ps, PySem.W.findIn K (.ref C) "__len__" = some (some (.ref f)) ∧ PySem.W.typeIn K (.ref f) = some (.type "function") ∧ Binds K fd ps [] ∧ FnOk P w K mg base (L2.CX P w) k f fd ps (spD K 1 F)
def dLenOwn (C : Addr) (F : List D → M D) (t : TD) : TD := fun ρ => M.bind (t ρ) fun d μ => match insD d μ with
  | some (C', _, _) => if C' = C then match F [d] μ with
    | some (.ok (.int n), μ') => if 0 ≤ n ∧ n < 2 ^ 63 then some (.ok (.int n), μ') else none
    | _ => none else none
  | none => none
end
end DL

set_option Elab.async false
set_option linter.all false
set_option maxRecDepth 100000
set_option maxHeartbeats 4000000
set_option autoImplicit false
namespace DL
open PySem PySem.Spec L2
section
variable {X : Cx} {W : WX} {o a : Expr} {to' t : TD} {pos apos cpos : Pos}
def dPopM (to' : TD) : TD := fun ρ => M.bind (to' ρ) fun d μ => match muLst d μ with
  | some (k, ds) => match ds[ds.length - 1]? with
    | some y => some (.ok y, μ.set k (.lst ds.dropLast))
    | none => none
  | none => none
def truthM (d : D) (μ : Mu) : Option Bool := match muLst d μ with
  | some (_, ds) => some (!ds.isEmpty)
  | none => none
def dTruthM (t : TD) : TB := fun ρ => M.bind (t ρ) fun d μ => match truthM d μ with
  | some b => some (.ok b, μ)
  | none => none
def dBits (t : TD) : TD := fun ρ => M.bind (t ρ) fun d => match d with
  | .int i => M.ret (.int (Builtin.Int.intBits i : Nat))
  | _ => M.stuck
def sortI (ns : List Int) : List Int := ns.mergeSort fun a b => decide (a ≤ b)
def keysI : List Key → Option (List Int)
  | [] => some []
  | .inl i :: ks => (keysI ks).map (i :: ·)
  | _ => none
def dkKeys (d : D) (μ : Mu) : Option (List Key) := match d with
  | .mref n => match μ[n]? with
    | some (.dk ks _) => some ks
    | _ => none
  | _ => none
def dSortD (t : TD) : TL := fun ρ => M.bind (t ρ) fun d μ => match dkKeys d μ with
  | some ks => match keysI ks with
    | some ns => if ns.length < 64 then some (.ok ((sortI ns).map D.int), μ) else none
    | none => none
  | none => none
end
end DL

set_option Elab.async false
set_option linter.all false
set_option maxRecDepth 100000
set_option maxHeartbeats 4000000
set_option autoImplicit false
namespace DL
open PySem PySem.Spec L2
def spLenF (C : Addr) (f : Str) : Sp := fun vs H Q _ => ∃ a dx fs l zs, vs = [V.ref a] ∧ H a = some (.ins C dx fs) ∧ fs.lookup f = some (.ref l) ∧ H l = some (.lst zs) ∧ Q (.int (zs.length : Nat)) H
def spIterF (C : Addr) (f : Str) : Sp := fun vs H Q _ => ∃ a dx fs l zs, vs = [V.ref a] ∧ H a = some (.ins C dx fs) ∧ fs.lookup f = some (.ref l) ∧ H l = some (.lst zs) ∧ ∀ it, H it = none → Q (.ref it) (upd H it (ItO l it 0))
structure ItF (K : Fg) (C fi fl : Addr) : Prop where
  it : PySem.W.findIn K (.ref C) "__iter__" = some (some (.ref fi))
  itF : PySem.W.isFn K (.ref fi) = true
  len : PySem.W.findIn K (.ref C) "__len__" = some (some (.ref fl))
  lenT : PySem.W.typeIn K (.ref fl) = some (.type "function")
section
variable {X : Cx} {CX : CXT} {k : Nat} {fn C fi fl : Addr} {fd fdI fdL : FuncData} {ps psI psL : List Str} {sp : Sp} {E EI EL : XK} {A1 : Around} {pins : List (Addr × Obj)} {σ : L2.St} {H : Hp} {s : Shared} {f : Str}
end
end DL

set_option Elab.async false
set_option linter.all false
set_option maxRecDepth 100000
set_option maxHeartbeats 4000000
set_option autoImplicit false
namespace DL
open PySem PySem.Spec L2
section
variable {X : Cx} {k : Nat} {C fi fl : Addr} {fdI fdL : FuncData} {psI psL : List Str} {A1 : Around} {pins : List (Addr × Obj)} {σ : L2.St} {H : Hp} {s : Shared} {f : Str}
def rItF (C : Addr) (f : Str) : List V → Hp → VK → Prop := fun xs H Q => ∃ a dx fs l zs, xs = [.ref a] ∧ H a = some (.ins C dx fs) ∧ fs.lookup f = some (.ref l) ∧ H l = some (.lst zs) ∧ ∀ q it, H q = none → H it = none → it ≠ q → Q (.ref q) (upd (upd H q (.lst zs)) it (ItE it zs.length))
end
end DL

set_option Elab.async false
set_option linter.all false
set_option maxRecDepth 100000
set_option maxHeartbeats 4000000
set_option autoImplicit false
namespace DL
open PySem PySem.Spec L2
structure KnownIt (P : Program) (w : World) (K : Fg) (mg : Str → Option Value) (base : Heap) (C : Addr) (f : Str) (k : Nat) : Prop where
  ex : ∃ fi fl fdI psI fdL psL, ItF K C fi fl ∧ FnOk P w K mg base (L2.CX P w) k fi fdI psI (spIterF C f) ∧ Binds K fdI psI [] ∧ FnOk P w K mg base (L2.CX P w) k fl fdL psL (spLenF C f) ∧ Binds K fdL psL []
def fldL (C : Addr) (f : Str) (d : D) (μ : Mu) : Option (List D) := match insD d μ with
  | some (C', ns, ds) => if C' = C then match fldD ns ds f with
    | some (.mref n) => match μ[n]? with
      | some (.lst es) => some es
      | _ => none
    | _ => none else none
  | none => none
theorem fldL_some {C : Addr} {f : Str} {d : D} {μ : Mu} {es : List D} (h : fldL C f d μ = some es) : ∃ ns ds n, insD d μ = some (C, ns, ds) ∧ fldD ns ds f = some (.mref n) ∧ μ[n]? = some (.lst es) := by
  unfold fldL at h
  cases e0 : insD d μ with
  | none => rw [e0] at h; cases h
  | some q =>
    obtain ⟨C', ns, ds⟩ := q
    rw [e0] at h
    have h' : (if C' = C then match fldD ns ds f with
      | some (.mref n) => match μ[n]? with
        | some (.lst es) => some es
        | _ => none
      | _ => none else none) = some es := h
    by_cases z : C' = C
    · subst z
      rw [if_pos rfl] at h'
      split at h'
      · rename_i n e1
        split at h'
        · rename_i es' e2
          cases h'
          exact ⟨ns, ds, n, rfl, e1, e2⟩
        · cases h'
      · cases h'
    · rw [if_neg z] at h'
      cases h'
theorem SR.fldL {c : Ct} {ρ : Rho} {μ : Mu} {g : G} {σ : L2.St} {H : Hp} (s : SR c ρ μ g σ H) {C : Addr} {f : Str} {d : D} {v : V} {es : List D} (r : GRep c.K g d v) (h : fldL C f d μ = some es) :
    ∃ a dx fs l zs, v = .ref a ∧ H a = some (.ins C dx fs) ∧ fs.lookup f = some (.ref l) ∧ H l = some (.lst zs) ∧ GReps c.K g es zs := by
  obtain ⟨ns, ds, n, h1, h2, h3⟩ := fldL_some h
  obtain ⟨a, dx, xs, rfl, q5, q6, q7⟩ := s.ins r h1
  obtain ⟨w, hw, rw'⟩ := zip_lookup q7 h2
  have rw2 : GRep c.K g (.mref n) w := rw'
  unfold GRep Rep at rw2
  obtain ⟨l, hl, rfl⟩ := rw2
  obtain ⟨_, zs, q2, q3⟩ := s.amb n l _ hl h3
  exact ⟨a, dx, _, l, zs, rfl, q5, hw, q2, q3⟩
section
variable {X : Cx} {W : WX} {C : Addr} {k : Nat} {f : Str} {a : Expr} {pos : Pos} {t : TD}
def dListF (C : Addr) (f : Str) (t : TD) : TL := fun ρ => M.bind (t ρ) fun d μ => match fldL C f d μ with
  | some es => some (.ok es, μ)
  | none => none
def dLenF (C : Addr) (f : Str) (t : TD) : TD := fun ρ => M.bind (t ρ) fun d μ => match fldL C f d μ with
  | some es => some (.ok (.int (es.length : Nat)), μ)
  | none => none
end
end DL

set_option Elab.async false
set_option linter.all false
set_option maxRecDepth 100000
set_option maxHeartbeats 4000000
set_option autoImplicit false
namespace DL
open PySem PySem.Spec L2
section
variable {X : Cx} {W : WX} {e : Expr} {tl : TL} {pos : Pos}
def dsAugL (i : Nat) (tl : TL) : TO' := fun ρ μ => match ρ[i]? with
  | some (some (.sh d)) => dsE tl (fun ys ρ μ => match muLst d μ with
    | some (k, ds) => if ds.length + ys.length ≤ sizeLine then some (.nx (ρ.set i (some (.sh d))), μ.set k (.lst (ds ++ ys))) else none
    | none => none) ρ μ
  | _ => none
end
end DL

set_option Elab.async false
set_option linter.all false
set_option maxRecDepth 100000
set_option maxHeartbeats 4000000
set_option autoImplicit false
namespace DL
open PySem PySem.Spec L2
def drf (d : D) (μ : Mu) : Option D := match d with
  | .mref n => match μ[n]? with
    | some (.lst ds) => some (.lst ds)
    | _ => none
  | d => some d
def pyM (d : D) (μ : Mu) : Option PyData := (drf d μ).bind D.py
def eqM (x y : D) (μ : Mu) : Option Bool := match pyM x μ, pyM y μ with
  | some p, some q => if (SeqAt.shaped p && SeqAt.shaped q) = true then some (PyData.eqv p q) else none
  | _, _ => none
def dEqM (neg : Bool) (ta tb : TD) : TD := fun ρ => M.bind (ta ρ) fun x => M.bind (tb ρ) fun y μ => match eqM x y μ with
  | some b => some (.ok (.bl (if neg then !b else b)), μ)
  | none => none
section
variable {X : Cx} {W : WX} {a b : Expr} {ta tb : TD} {pos : Pos}
end
end DL

set_option Elab.async false
set_option linter.all false
set_option maxRecDepth 100000
set_option maxHeartbeats 4000000
set_option autoImplicit false
namespace DL
open PySem PySem.Spec L2
section
variable {X : Cx} {W : WX} {a b : Expr} {tl : TL} {pos : Pos}
def dsPar (i j : Nat) (tl : TL) : TO' := dsE tl fun ds ρ μ => match ds with
  | [d, e] => some (.nx ((ρ.set i (some (.sh d))).set j (some (.sh e))), μ)
  | _ => none
end
end DL

set_option Elab.async false
set_option linter.all false
set_option maxRecDepth 100000
set_option maxHeartbeats 4000000
set_option autoImplicit false
namespace DL
open PySem PySem.Spec L2
def lstM (d : D) (μ : Mu) : Option (List D) := match d with
  | .lst ds => some ds
  | .mref n => match μ[n]? with
    | some (.lst ds) => some ds
    | _ => none
  | _ => none
theorem SR.lstM {c : Ct} {ρ : Rho} {μ : Mu} {g : G} {σ : L2.St} {H : Hp} (s : SR c ρ μ g σ H) {d : D} {v : V} {ds : List D} (r : GRep c.K g d v) (h : lstM d μ = some ds) : ∃ a xs, v = .ref a ∧ H a = some (.lst xs) ∧ GReps c.K g ds xs := by
  cases d <;> first | (cases h; done) | skip
  · rename_i es
    cases h
    unfold GRep Rep at r
    obtain ⟨a, xs, rfl, h1, h2⟩ := r
    exact ⟨a, xs, rfl, s.sub _ _ h1, h2⟩
  · rename_i n
    have h' : (match μ[n]? with
      | some (.lst ds) => some ds
      | _ => none) = some ds := h
    split at h'
    · rename_i es e
      cases h'
      unfold GRep Rep at r
      obtain ⟨a, ha, rfl⟩ := r
      obtain ⟨_, xs, q2, q3⟩ := s.amb n a _ ha e
      exact ⟨a, xs, rfl, q2, q3⟩
    · cases h'
def lcI (d : D) (vs : List Nat) (gt : D → Rho → Option Rho) (tt : TB) (te : TD) (ρ : Rho) : Nat → Nat → List D → M (List D)
  | 0, _, _ => M.stuck
  | n + 1, i, acc => fun μ => match lstM d μ with
    | none => none
    | some ds => match ds[i]? with
      | none => some (.ok acc, μ)
      | some x => match gt x (wipeR ρ vs) with
        | none => none
        | some ρ1 => M.bind (M.nx (tt ρ1)) (fun b => if b = true then M.bind (M.nx (te ρ1)) fun y => if acc.length < sizeLine then lcI d vs gt tt te ρ n (i + 1) (acc ++ [y]) else M.stuck else lcI d vs gt tt te ρ n (i + 1) acc) μ
def dLcI (vs : List Nat) (t : TD) (gt : D → Rho → Option Rho) (tt : TB) (te : TD) : TL := fun ρ => M.bind (t ρ) fun d μ => match lstM d μ with
  | some ds => if okW ρ vs = true then lcI d vs gt tt te ρ (ds.length + 1) 0 [] μ else none
  | none => none
theorem lcI_ok {d : D} {vs : List Nat} {gt : D → Rho → Option Rho} {tt : TB} {te : TD} {ρ : Rho} : ∀ {n i : Nat} {acc : List D} {μ μ' : Mu} {r : Res (List D)}, lcI d vs gt tt te ρ n i acc μ = some (r, μ') → ∃ res, r = .ok res
  | 0, i, acc, μ, μ', r, h => by cases h
  | n + 1, i, acc, μ, μ', r, h => by
    unfold lcI at h
    cases e0 : lstM d μ with
    | none => rw [e0] at h; cases h
    | some ds =>
      simp only [e0] at h
      cases e1 : ds[i]? with
      | none => simp only [e1] at h; cases h; exact ⟨_, rfl⟩
      | some x =>
        simp only [e1] at h
        cases e : gt x (wipeR ρ vs) with
        | none => simp only [e] at h; cases h
        | some ρ1 =>
          simp only [e] at h
          rcases bind_some h with ⟨b, μ1, e1, e2⟩ | ⟨C, ns, es, e1, e2⟩
          · cases b with
            | true =>
              rw [if_pos rfl] at e2
              rcases bind_some e2 with ⟨y, μ2, e3, e4⟩ | ⟨C, ns, es, e3, e4⟩
              · by_cases q : acc.length < sizeLine
                · rw [if_pos q] at e4
                  exact lcI_ok e4
                · rw [if_neg q] at e4
                  cases e4
              · obtain ⟨a, q, _⟩ := nx_some e3
                cases q
            | false =>
              rw [if_neg (by decide)] at e2
              exact lcI_ok e2
          · obtain ⟨a, q, _⟩ := nx_some e1
            cases q
section
variable {X : Cx} {W : WX} {elt tg iter : Expr} {ifs : List Expr} {scope : Scope} {own : List (Str × Nat)} {pos : Pos} {t : TD} {gt : D → Rho → Option Rho} {tt : TB} {te : TD} {is : List Nat}
theorem rf_lcI {c : Ct} {ti : TE} (hi : RE c W ti t) (hoff : ∀ d ρ ρ', gt d ρ = some ρ' → Off is ρ ρ') (his : ∀ i ∈ is, i ∈ own.map (·.2)) : RF c W (tLc (iList c.K ti) (cG c.K is gt) (cT c.K WF tt) (cE c.K WF te) (own.map (·.2))) (dLcI (own.map (·.2)) t gt tt te) := by
  intro ρ μ g σ H Q rr μ' s hh hx k
  refine hi.then_ s hh hx fun d0 μ1 h1 v1 H1 g1 l1 s1 rv hx1 => ?_
  cases e0 : lstM d0 μ1 with
  | none => rw [e0] at h1; cases h1
  | some ds =>
  rw [e0] at h1
  have h1 : (if okW ρ (own.map (·.2)) = true then lcI d0 (own.map (·.2)) gt tt te ρ (ds.length + 1) 0 [] μ1 else none) = some (rr, μ') := h1
  obtain ⟨a, xs0, rfl, hh0, _⟩ := s1.lstM rv e0
  refine ⟨a, rfl, ⟨xs0, SqL.of hh0⟩, ?_⟩
  intro p hp
  by_cases hw : okW ρ (own.map (·.2)) = true
  · rw [if_pos hw] at h1
    obtain ⟨res, rfl⟩ := lcI_ok h1
    have hTp := s1.freshT hp
    refine ⟨fun i m H => ∃ μ g acc xs, Le g1 g ∧ SR c ρ μ g σ H ∧ g.T p = some (.lst xs) ∧ GReps c.K g acc xs ∧ lcI d0 (own.map (·.2)) gt tt te ρ m i acc μ = some (.ok res, μ'),
      ⟨_, μ1, (g1.own1 p 0).tell p (.lst []), [], [], le_tell (le_own1 _ _ _) hTp, (s1.tmp hp).tell (own1_at _ _ _) upd_same, upd_same, reps_nil, h1⟩, ?_⟩
    rintro i m H ⟨μ, g2, acc, xs, l, s2, ht, ra, hf⟩
    cases m with
    | zero => cases hf
    | succ m =>
    obtain ⟨ho, hpx⟩ := s2.tmpT _ _ ht
    unfold lcI at hf
    cases e1 : lstM d0 μ with
    | none => rw [e1] at hf; cases hf
    | some ds2 =>
    simp only [e1] at hf
    obtain ⟨a2, zs, ea, hhz, hrz⟩ := s2.lstM (l.rep rv) e1
    cases ea
    cases e : ds2[i]? with
    | none =>
      left
      simp only [e] at hf
      cases hf
      exact ⟨⟨zs, SqL.of hhz, by rw [← hrz.length]; exact List.getElem?_eq_none_iff.mp e⟩, k _ rfl p xs H (g2.untell p) (le_untell (l1.trans l) (by
        cases z : g.T p with
        | none => rfl
        | some o =>
          have z2 := l1.t p o z
          rw [hTp] at z2
          cases z2)) s2.untell ⟨ho, if_pos rfl⟩ hpx ra⟩
    | some d =>
      right
      simp only [e] at hf
      obtain ⟨x, hx, rx⟩ := hrz.get e
      refine ⟨⟨zs, x, SqL.of hhz, hx⟩, fun H' => ∃ m', m' < m + 1 ∧ (∃ μ g acc xs, Le g1 g ∧ SR c ρ μ g σ H' ∧ g.T p = some (.lst xs) ∧ GReps c.K g acc xs ∧ lcI d0 (own.map (·.2)) gt tt te ρ m' (i + 1) acc μ = some (.ok res, μ')), fun H' q => q, fun y H' hy => ?_⟩
      obtain ⟨rfl, hy⟩ := hy
      have e3 := hy zs (SqL.of hhz)
      rw [hx] at e3
      cases e3
      cases eg : gt d (wipeR ρ (own.map (·.2))) with
      | none => simp only [eg] at hf; cases hf
      | some ρ1 =>
        simp only [eg] at hf
        refine ⟨c, _, ρ1, μ, g2, d, rfl, s2.wipe _, rx, eg, fun σ1 s4 o4 => ?_⟩
        have offs : Off (own.map (·.2)) σ σ1 := (wipe_off σ (own.map (·.2))).trans o4 (fun j z => z) his
        have offr : Off (own.map (·.2)) ρ ρ1 := (wipeR_off ρ (own.map (·.2))).trans (hoff _ _ _ eg) (fun j z => z) his
        refine ⟨wipe_eq offs, ?_⟩
        rcases bind_some hf with ⟨b, μ2, e1, e2⟩ | ⟨C, ns, es, e1, e2⟩
        · obtain ⟨b', q, e1⟩ := nx_some e1
          cases q
          refine ⟨c, ρ1, μ, g2, _, μ2, rfl, s4, e1, px_ok, fun b2 eb H2 g4 l4 s5 => ?_⟩
          cases eb
          cases b with
          | false =>
            rw [if_neg (by decide)] at e2
            exact iteF ⟨m, Nat.lt_succ_self m, μ2, g4, acc, xs, l.trans l4, s2.back hw l4 s5 offr offs, l4.t _ _ ht, l4.reps ra, e2⟩
          | true =>
            rw [if_pos rfl] at e2
            refine iteT ?_
            rcases bind_some e2 with ⟨y, μ3, e3, e4⟩ | ⟨C, ns, es, e3, e4⟩
            · obtain ⟨y', q, e3⟩ := nx_some e3
              cases q
              refine ⟨c, ρ1, μ2, g4, _, μ3, rfl, s5, e3, px_ok, fun y2 ey v H3 g5 l5 s6 ry => ?_⟩
              cases ey
              by_cases q : acc.length < sizeLine
              · rw [if_pos q] at e4
                have l35 := l4.trans l5
                have t5 := l35.t _ _ ht
                have s7 := s2.back hw (l4.trans l5) s6 offr offs
                obtain ⟨ho5, hp5⟩ := s7.tmpT _ _ t5
                have s8 := (s7.untell (p := p)).wrtTmp (p := p) ho5 (if_pos rfl) (o := .lst (xs ++ [v]))
                have l8 : Le g1 (g5.untell p) := le_untell (l.trans l35) hTp
                refine ⟨xs, hp5, by rw [← ra.length]; exact q, m, Nat.lt_succ_self m, μ3, (g5.untell p).tell p (.lst (xs ++ [v])), acc ++ [y], xs ++ [v], le_tell l8 hTp, s8.tell ho5 upd_same, upd_same, Reps.append (l35.reps ra) (reps_cons ry reps_nil), e4⟩
              · rw [if_neg q] at e4
                cases e4
            · obtain ⟨a, q, _⟩ := nx_some e3
              cases q
        · obtain ⟨a, q, _⟩ := nx_some e1
          cases q
  · rw [if_neg hw] at h1
    cases h1
end
end DL

set_option Elab.async false
set_option linter.all false
set_option maxRecDepth 100000
set_option maxHeartbeats 4000000
set_option autoImplicit false
namespace DL
open PySem PySem.Spec L2
section
variable {X : Cx} {W : WX} {a : Expr} {t : TD} {pos : Pos}
def intsO : List D → Option (List Int)
  | [] => some []
  | .int i :: ds => (intsO ds).map (i :: ·)
  | _ => none
def dSortL (t : TD) : TL := fun ρ => M.bind (t ρ) fun d μ => match lstM d μ with
  | some ds => match intsO ds with
    | some ns => some (.ok ((sortI ns).map D.int), μ)
    | none => none
  | none => none
end
end DL

set_option Elab.async false
set_option linter.all false
set_option maxRecDepth 100000
set_option maxHeartbeats 4000000
set_option autoImplicit false
namespace DL
open PySem PySem.Spec L2
def dcL (vs : List Nat) (gt : D → Rho → Option Rho) (tt : TB) (tk tv : TD) (ρ : Rho) : List D → List Key → List D → M (List Key × List D)
  | [], ks, xs => M.ret (ks, xs)
  | d :: ds, ks, xs => match gt d (wipeR ρ vs) with
    | none => M.stuck
    | some ρ1 => M.bind (M.nx (tt ρ1)) fun b => if b = true then M.bind (M.nx (tk ρ1)) fun y => M.bind (M.nx (tv ρ1)) fun z => (match y.key with
      | some k => if ks.length < sizeLine then dcL vs gt tt tk tv ρ ds (putKs ks k) (putVs ks xs k z) else M.stuck
      | none => M.stuck) else dcL vs gt tt tk tv ρ ds ks xs
def dDc (vs : List Nat) (tl : TL) (gt : D → Rho → Option Rho) (tt : TB) (tk tv : TD) : TD := fun ρ => M.bind (tl ρ) fun ds => if okW ρ vs = true then M.bind (dcL vs gt tt tk tv ρ ds [] []) (fun q μ => some (.ok (.mref μ.length), μ ++ [.dk q.1 q.2])) else M.stuck
section
variable {X : Cx} {W : WX} {kx vx tg iter : Expr} {ifs : List Expr} {scope : Scope} {own : List (Str × Nat)} {pos : Pos} {tl : TL} {gt : D → Rho → Option Rho} {tt : TB} {tk tv : TD} {is : List Nat}
end
end DL

set_option Elab.async false
set_option linter.all false
set_option maxRecDepth 100000
set_option maxHeartbeats 4000000
set_option autoImplicit false
namespace DL
open PySem PySem.Spec L2
def kitemD (a : Addr) (tb : KTab) : D → D → Option (Option D)
  | .ref b, .str k => if b = a then tb.lookup k else none
  | _, _ => none
theorem kitemD_some {a : Addr} {tb : KTab} {d y : D} {o : Option D} (h : kitemD a tb d y = some o) : ∃ k, d = .ref a ∧ y = .str k ∧ (k, o) ∈ tb := by
  unfold kitemD at h
  split at h
  · rename_i b k
    by_cases z : b = a
    · rw [if_pos z] at h
      exact ⟨k, by rw [z], rfl, lookup_mem' h⟩
    · rw [if_neg z] at h; cases h
  · cases h
def gKIn (neg : Bool) (a : Addr) (tb : KTab) (y d : D) : Option D := (kitemD a tb d y).map fun o => .bl (o.isSome != neg)
section
variable {X : Cx} {W : WX} {o i : Expr} {to' ti : TD} {pos : Pos} {a : Addr} {tb : KTab} {es : Array DictEntry} {n : Nat}
theorem KTabOk.val {K : Fg} {w : World} {a : Addr} {tb : KTab} (T : KTabOk K w a tb) {k : Str} {o : Option D} (h : (k, o) ∈ tb) :
    (∃ d u v, o = some d ∧ PySem.W.nsIn K a k = some (some u) ∧ RelV v u ∧ ∀ ads B, Rep K ads B d v) ∨ (o = none ∧ PySem.W.nsIn K a k = some none) := by
  have q := T.at_ _ h
  cases o with
  | none => exact .inr ⟨rfl, q⟩
  | some d =>
    obtain ⟨u, v, h1, h2, h3⟩ := q
    exact .inl ⟨d, u, v, rfl, h1, h2, h3⟩
theorem od_knotIn (T : KTabOk X.K X.w a tb) : OpD X (compareOp .NotIn) (gKIn true a tb) := by
  obtain ⟨es, n, D⟩ := T.dict
  refine opD_pure (op_notIn_kd D) fun g H x y vx vy Q d _ rx ry h k => ?_
  obtain ⟨oo, h1, rfl⟩ := Option.map_eq_some_iff.mp h
  obtain ⟨kk, rfl, rfl, hm⟩ := kitemD_some h1
  rcases T.val hm with ⟨d, u, v, rfl, e, _⟩ | ⟨rfl, e⟩
  · exact ⟨kk, _, rep_str rx, rep_flat (d := .ref a) rfl ry, e, k _ (flat_rep rfl)⟩
  · exact ⟨kk, _, rep_str rx, rep_flat (d := .ref a) rfl ry, e, k _ (flat_rep rfl)⟩
def tKItem (K : Fg) (a : Addr) (td ty : TE) : TE := fun σ H Q => td σ H fun x H1 => ty σ H1 fun y H2 => x = .ref a ∧ ∃ (zz : Str) (u : Value) (v : V), y = .str zz ∧ PySem.W.nsIn K a zz = some (some u) ∧ RelV v u ∧ Q v H2
theorem pe_kitem {td ty : TE} (D : KDict X.K X.w a es n) (ho : PE X o td) (hi : PE X i ty) (hs : NoSl i) : PE X (.Subscript o i pos) (tKItem X.K a td ty) := by
  refine ⟨fun pins s σ H Q I h => ?_⟩
  refine subD_of PySem.F.slot_dict_getitem.lookup hs (thn (ho.run pins s σ H _ I h) fun u s1 ⟨x, H1, I1, rx, q1⟩ => thn (hi.run pins s1 σ H1 _ I1 q1) fun iv s2 ⟨y, H2, I2, ry, ex, zz, u0, v0, ey, e0, r0, q2⟩ => ?_)
  subst ex
  obtain rfl : u = Value.ref a := rx
  exact ⟨kd_type D I2, op_item_kd D pins s2 σ H2 (.ref a) y (.ref a) iv Q I2 rfl ry ⟨zz, u0, v0, rfl, ey, e0, r0, q2⟩⟩
def dKItem (a : Addr) (tb : KTab) (t u : TD) : TD := fun ρ => M.bind (t ρ) fun d => M.bind (u ρ) fun y μ => match kitemD a tb d y with
  | some (some x) => some (.ok x, μ)
  | _ => none
theorem de_kitem (T : KTabOk X.K X.w a tb) (ho : DE X W o to') (hi : DE X W i ti) (hs : NoSl i := by intro _ _; rfl) : DE X W (.Subscript o i pos) (dKItem a tb to' ti) := by
  obtain ⟨es, n, D⟩ := T.dict
  obtain ⟨te, p, r⟩ := ho.ex
  obtain ⟨ue, pu, ru⟩ := hi.ex
  refine ⟨_, pe_kitem D p pu hs, fun c hc ρ μ g σ H Q rr μ' s hh hx k => ?_⟩
  refine (r c hc).then_ s hh hx fun d μ1 h1 v1 H1 g1 l1 s1 r1 hx1 => ?_
  refine (ru c hc).then_ s1 h1 hx1 fun y μ2 h2 v2 H2 g2 l2 s2 r2 hx2 => ?_
  split at h2
  · rename_i x e
    cases h2
    obtain ⟨kk, rfl, rfl, hm⟩ := kitemD_some e
    rcases T.val hm with ⟨d, u, v, ed, e0, e1, e2⟩ | ⟨ed, _⟩
    · cases ed
      exact ⟨rep_flat (d := .ref a) rfl (l2.rep r1), kk, u, v, rep_str r2, e0, e1, k _ rfl v H2 g2 (l1.trans l2) s2 (by rw [hc]; exact e2 _ _)⟩
    · cases ed
  · cases h2
end
def dvalB (a : Fg → Addr) (k : Str) (v : He.Dv) (K : Fg) : Bool := match PySem.W.nsIn K (a K) k with
  | some (some u) => He.relB (v.v K) u
  | _ => false
end DL

set_option Elab.async false
set_option linter.all false
set_option maxRecDepth 100000
set_option maxHeartbeats 4000000
set_option autoImplicit false
namespace DL
open PySem PySem.Spec L2
section
variable {X : Cx}
def scStep (w : World) (g : TG) (tt : TT) (te : TE) (vs : List Nat) (σ : L2.St) (D : Addr) (Nx : Hp → Prop) (x : V) (H : Hp) : Prop :=
  g x (wipe σ vs) H fun σ2 H2 => wipe σ2 vs = wipe σ vs ∧ tt σ2 H2 fun b H3 => if b = true then te σ2 H3 fun y H4 => ∃ (i : Int) (S : Int → Bool) (n : Nat), y = .int i ∧ H4 D = some (SetO w D S n) ∧ n + 1 < scanBound ∧
    Nx (upd H4 D (SetO w D (fun j => S j || decide (j = i)) (if S i = true then n else n + 1))) else Nx H3
def tScI (w : World) (wi : TI) (g : TG) (tt : TT) (te : TE) (vs : List Nat) : TE := fun σ H Q => wi σ H fun J H1 => ∀ D, H1 D = none → ∃ Z : Nat → Nat → Hp → Prop, (∃ m, Z 0 m (upd H1 D (SetO w D (fun _ => false) 0))) ∧
  ∀ i m H, Z i m H → (J.stop i H ∧ Q (.ref D) H) ∨ (J.go i H ∧ ∃ Nx : Hp → Prop, (∀ H', Nx H' → ∃ m', m' < m ∧ Z (i + 1) m' H') ∧ ∀ x H', J.yld i H x H' → scStep w g tt te vs σ D Nx x H')
variable {elt tg iter : Expr} {ifs : List Expr} {scope : Scope} {own : List (Str × Nat)} {pos : Pos} {wi : TI} {g : TG} {tt : TT} {te : TE}
end
end DL

set_option Elab.async false
set_option linter.all false
set_option maxRecDepth 100000
set_option maxHeartbeats 4000000
set_option autoImplicit false
namespace DL
open PySem PySem.Spec L2
def insI (a : Int) : List Int → List Int
  | [] => [a]
  | b :: l => if a < b then a :: b :: l else if a = b then b :: l else b :: insI a l
def ascI : List Int → List Int
  | [] => []
  | a :: l => insI a (ascI l)
def intsD : List D → Option (List Int)
  | [] => some []
  | .int i :: ds => (intsD ds).map (i :: ·)
  | _ => none
def dsSetSort (i : Nat) (t : TL) : TO' := dsE t fun ds ρ μ => match intsD ds with
  | some ns => if ns.length < 64 ∧ i < ρ.length then some (.rt (.tup ((ascI ns).map D.int)), μ) else none
  | none => none
section
variable {X : Cx} {W : WX} {elt tg iter : Expr} {ifs : List Expr} {scope : Scope} {own : List (Str × Nat)} {pos : Pos} {tl : TL} {gt : D → Rho → Option Rho} {tt : TB} {te : TD} {is : List Nat}
end
end DL

set_option Elab.async false
set_option linter.all false
set_option maxRecDepth 100000
set_option maxHeartbeats 4000000
set_option autoImplicit false
namespace DL
open PySem PySem.Spec L2
def sliceTD (l h : Option Int) : D → Option D
  | .tup ds => if HT.sIx ds.length 0 l = 0 ∧ HT.sIx ds.length ds.length h = ds.length then none else some (.tup (cutD ds l h))
  | _ => none
def dSliceT (t : TD) (lo hi : Rho → M (Option Int)) : TD := fun ρ => M.bind (t ρ) fun d => M.bind (lo ρ) fun l => M.bind (hi ρ) fun h μ => match sliceTD l h d with
  | some x => some (.ok x, μ)
  | none => none
section
variable {X : Cx} {W : WX} {a : Expr} {ta : TD} {pos : Pos}
theorem de_sliceT {lo hi : Option Expr} {p2 : Pos} {tl th : Rho → M (Option Int)} (ha : DE X W a ta) (hl : DPO X W lo tl) (hh : DPO X W hi th) : DE X W (.Subscript a (.Slice lo hi none p2) pos) (dSliceT ta tl th) := by
  obtain ⟨te, p, r⟩ := ha.ex
  obtain ⟨le, pl, rl⟩ := hl.ex
  obtain ⟨he, ph, rh⟩ := hh.ex
  refine ⟨_, pe_slice sl_tup p pl ph, fun c hc ρ μ g σ H Q rr μ' s h0 hx k => ?_⟩
  refine (r c hc).then_ s h0 hx fun d μ1 h1 v1 H1 g1 l1 s1 r1 hx1 => ?_
  have step : ∀ {α β : Type} {m : M α} {f : α → M β} {μ μ' : Mu} {r : Res β}, M.bind m f μ = some (r, μ') → (∃ a μ1, m μ = some (.ok a, μ1) ∧ f a μ1 = some (r, μ')) ∨ (∃ C ns ds, m μ = some (.ex C ns ds, μ') ∧ r = .ex C ns ds) := fun h => bind_some h
  rcases step h1 with ⟨l, μ2, e1, e2⟩ | ⟨C, ns, ds, e1, rfl⟩
  · refine rl c hc ρ μ1 g1 σ H1 _ _ _ s1 e1 px_ok fun o eo H2 g2 l2 s2 => ?_
    cases eo
    rcases step e2 with ⟨h, μ3, e3, e4⟩ | ⟨C, ns, ds, e3, rfl⟩
    · refine rh c hc ρ μ2 g2 σ H2 _ _ _ s2 e3 px_ok fun o eo H3 g3 l3 s3 => ?_
      cases eo
      cases e5 : sliceTD l h d with
      | none => rw [e5] at e4; cases e4
      | some x =>
        rw [e5] at e4
        cases e4
        cases d <;> first | (cases e5; done) | skip
        rename_i ds
        have e6 : (if HT.sIx ds.length 0 l = 0 ∧ HT.sIx ds.length ds.length h = ds.length then none else some (D.tup (cutD ds l h))) = some x := e5
        by_cases hw : HT.sIx ds.length 0 l = 0 ∧ HT.sIx ds.length ds.length h = ds.length
        · rw [if_pos hw] at e6; cases e6
        · rw [if_neg hw] at e6
          cases e6
          have r3 := (l2.trans l3).rep r1
          unfold GRep Rep at r3
          obtain ⟨a1, xs, rfl, h3, h4⟩ := r3
          have h3' := s3.sub _ _ h3
          refine ⟨a1, xs, rfl, SqT.of h3', by rw [← h4.length]; exact hw, fun p hp => k _ rfl (.ref p) _ _ (((l1.trans l2).trans l3).trans (s3.leB hp)) (s3.addB hp) ?_⟩
          unfold GRep Rep
          refine ⟨p, _, rfl, upd_same, (s3.leB hp).reps ?_⟩
          unfold cutD cutV
          rw [h4.length]
          exact (h4.drop _).take _
    · exact rh c hc ρ μ2 g2 σ H2 _ _ _ s2 e3 (fun C' ns' ds' e => by cases e; exact ((hx1.le l2)) C ns ds rfl) fun o eo => by cases eo
  · exact rl c hc ρ μ1 g1 σ H1 _ _ _ s1 e1 (fun C' ns' ds' e => by cases e; exact hx1 C ns ds rfl) fun o eo => by cases eo
def gAddT : D → D → Option D
  | .tup xs, .tup ys => if xs ≠ [] ∧ ys ≠ [] ∧ xs.length + ys.length ≤ sizeLine then some (.tup (xs ++ ys)) else none
  | _, _ => none
end
end DL

set_option Elab.async false
set_option linter.all false
set_option maxRecDepth 100000
set_option maxHeartbeats 4000000
set_option autoImplicit false
namespace DL
open PySem PySem.Spec L2
def dLenD (t : TD) : TD := fun ρ => M.bind (t ρ) fun d μ => match dkKeys d μ with
  | some ks => some (.ok (.int ks.length), μ)
  | none => none
section
variable {X : Cx} {W : WX} {a : Expr} {t : TD} {pos : Pos}
end
end DL

set_option Elab.async false
set_option linter.all false
set_option maxRecDepth 100000
set_option maxHeartbeats 4000000
set_option autoImplicit false
namespace DL
open PySem PySem.Spec L2
structure LeB (g g' : G) : Prop where
  b : Same g.B g'.B
  a : ∀ (k : Nat) (x : Addr), g.ads[k]? = some x → g'.ads[k]? = some x
theorem Le.lb {g g' : G} (h : Le g g') : LeB g g' := ⟨h.b, h.a⟩
theorem LeB.trans {g g' g'' : G} (x : LeB g g') (y : LeB g' g'') : LeB g g'' := ⟨x.b.trans y.b, fun k a h => y.a k a (x.a k a h)⟩
theorem LeB.rep {K : Fg} {g g' : G} (x : LeB g g') {d : D} {v : V} (h : GRep K g d v) : GRep K g' d v := Rep.mono x.b x.a h
def ItOkB (c : Ct) (g0 : G) (J : It) (ds : List D) : Prop := ∀ ρ μ g σ H, LeB g0 g → SR c ρ μ g σ H →
  (∀ i d, ds[i]? = some d → J.go i H ∧ ∀ x H', J.yld i H x H' → H' = H ∧ GRep c.K g d x) ∧ J.stop ds.length H
def cIB (K : Fg) (W : WX) (tl : TL) : TI := fun σ H R => ∃ c ρ μ g r μ', c.K = K ∧ SR c ρ μ g σ H ∧ tl ρ μ = some (r, μ') ∧ PX c W ρ σ g r μ' ∧
  ∀ ds, r = .ok ds → ∀ J H' g', Le g g' → SR c ρ μ' g' σ H' → ItOkB c g' J ds → R J H'
structure DIB (X : Cx) (W : WX) (tg iter : Expr) (t : TL) : Prop where
  ex : PI X tg iter (cIB X.K W t)
def lc2L (vs vs1 : List Nat) (gt : D → Rho → Option Rho) (tt : TB) (tl1 : TL) (gt1 : D → Rho → Option Rho) (tt1 : TB) (te : TD) (ρ : Rho) : List D → List D → M (List D)
  | [], acc => M.ret acc
  | d :: ds, acc => match gt d (wipeR ρ vs) with
    | none => M.stuck
    | some ρ1 => M.bind (M.nx (tt ρ1)) fun b => if b = true then M.bind (M.nx (tl1 ρ1)) fun es => M.bind (if okW ρ1 vs1 = true then lcL vs1 gt1 tt1 te ρ1 es acc else M.stuck) fun acc' => lc2L vs vs1 gt tt tl1 gt1 tt1 te ρ ds acc' else lc2L vs vs1 gt tt tl1 gt1 tt1 te ρ ds acc
def dLc2 (vs vs1 : List Nat) (tl : TL) (gt : D → Rho → Option Rho) (tt : TB) (tl1 : TL) (gt1 : D → Rho → Option Rho) (tt1 : TB) (te : TD) : TL := fun ρ => M.bind (tl ρ) fun ds => if okW ρ vs = true then lc2L vs vs1 gt tt tl1 gt1 tt1 te ρ ds [] else M.stuck
section
variable {X : Cx} {W : WX} {elt tg iter tg1 iter1 : Expr} {ifs ifs1 : List Expr} {scope : Scope} {own : List (Str × Nat)} {vs1 : List Nat} {pos : Pos} {tl tl1 : TL} {gt gt1 : D → Rho → Option Rho} {tt tt1 : TB} {te : TD} {is is1 : List Nat}
end
end DL

set_option Elab.async false
set_option linter.all false
set_option maxRecDepth 100000
set_option maxHeartbeats 4000000
set_option autoImplicit false
namespace PySem.SeqAt
open AutoSeq1 (wpAny_loadPart')
open MeetsSeq MeetsSeq2 MeetsSeq3
section
variable {prog : Program} {w : World}
abbrev isSeq (s : Shared) (l : Addr) (us : Array Value) (n : Nat) (dd : Option Addr) (sl : Array (Option Value)) : Prop := s.heap.get? l = some { cls := .type "list", dict := dd, data := .seq us n, slots := sl }
theorem dn_ne_turns (l b : Addr) (us vs : Array Value) (n m : Nat) (dl db : Option Addr) (sl sb : Array (Option Value)) (sz : us.size = vs.size) (r : Nat) :
    ∀ i : Nat, us.size - i = r → MeetsIn prog w (Builtin.«list.__eq__.loop» ⟨[.ref l, .ref b, rawInt i, rawInt 3], []⟩)
      (fun A R s => isSeq s l us n dl sl ∧ isSeq s b vs m db sb ∧
        (∀ j (z1 : j < us.size) (z2 : j < vs.size), EqP prog w A.in1 s us[j] vs[j] true) ∧ R (.ok (.ret (.bool false))) s) := by
  induction r with
  | zero =>
    intro i er A R s hh
    obtain ⟨hp, g, d, tk, os⟩ := s; obtain ⟨hl, hb, _, hh⟩ := hh
    wp_walk using wpAny_loadPart' hl, wpAny_loadPart' hb
    have o1 : us[((i : Nat) : Int).toNat]? = none := by simp; omega
    have o2 : vs[((i : Nat) : Int).toNat]? = none := by simp; omega
    rw [o1, o2]
    wp_walk using wpAny_loadPart' hl, wpAny_loadPart' hb
    show R (.ok (.ret (.bool (us.size != vs.size)))) _
    rw [sz]
    simpa using hh
  | succ r ih =>
    intro i er A R s hh
    obtain ⟨hp, g, d, tk, os⟩ := s; obtain ⟨hl, hb, hi, hh⟩ := hh
    wp_walk using wpAny_loadPart' hl, wpAny_loadPart' hb
    have z1 : i < us.size := by omega
    have z2 : i < vs.size := by omega
    have o1 : us[((i : Nat) : Int).toNat]? = some us[i] := by simp [z1]
    have o2 : vs[((i : Nat) : Int).toNat]? = some vs[i] := by simp [z2]
    have ec : ((i : Int) + 1) = ((i + 1 : Nat) : Int) := by push_cast; rfl
    rw [o1, o2]
    refine wpAny_bind (hi i z1 z2 _ _ ?_)
    wp_walk
    rw [ec]
    refine ⟨plainId_quiet plain_eq_loop _, codeAny_builtin entry_eq_loop ?_⟩
    rw [Around.under_plainId plain_eq_loop _]; exact ih (i + 1) (by omega) A R _ ⟨hl, hb, hi, hh⟩
theorem dn_ne_list (l b : Addr) (us vs : Array Value) (n m : Nat) (dl db : Option Addr) (sl sb : Array (Option Value)) (sz : us.size = vs.size) :
    MeetsIn prog w (Builtin.«list.__ne__» ⟨[.ref l, .ref b], []⟩)
      (fun A R s => isSeq s l us n dl sl ∧ isSeq s b vs m db sb ∧
        (∀ j (z1 : j < us.size) (z2 : j < vs.size), EqP prog w A.in1 s us[j] vs[j] true) ∧ R (.ok (.ret (.bool false))) s) := by
  intro A R s hh
  obtain ⟨hp, g, d, tk, os⟩ := s; obtain ⟨hl, hb, hi, hh⟩ := hh
  have q1 := AutoSeq1.sub_list_list
  have q2 : ¬ (us.size != vs.size) = true := by simp [sz]
  wp_walk using wpAny_loadPart' hl, wpAny_loadPart' hb
  refine ⟨plainId_quiet plain_eq_loop _, codeAny_builtin entry_eq_loop ?_⟩
  rw [Around.under_plainId plain_eq_loop _]; exact dn_ne_turns l b us vs n m dl db sl sb sz _ 0 rfl A R _ ⟨hl, hb, hi, hh⟩
theorem rcNeP_lists {A : Around} {s : Shared} {l b : Addr} {us vs : Array Value} (hl : s.heap.IsList l us) (hb : s.heap.IsList b vs) (sz : us.size = vs.size) (hu : A.units < cLine)
    (he : ∀ j (z1 : j < us.size) (z2 : j < vs.size), EqP prog w A.in1 s us[j] vs[j] true) (E Q : Value → Shared → Prop) (h : Q (.bool false) s) : wpAny (model prog w) A (richCompare .NotEq (.ref l) (.ref b)) Q E s := by
  obtain ⟨⟨c1, dl, da1, sl⟩, g1, e1, n, k1⟩ := id hl
  obtain ⟨⟨c2, db, da2, sb⟩, g2, e2, m, k2⟩ := id hb
  simp only at e1 k1 e2 k2
  subst e1 k1 e2 k2
  have ta : s.TypeIs (.ref l) "list" := ⟨_, g1, rfl⟩
  have tb : s.TypeIs (.ref b) "list" := ⟨_, g2, rfl⟩
  exact wpAny_richCompare_same_room (op := .NotEq) ta tb F.slot_list_ne (call_meetsIn F.slot_list_ne ta F.entry_list_ne (F.args_list_ne_2 _ _) (dn_ne_list l b us vs n m dl db sl sb sz)
    ⟨g1, g2, he, show Value.bool false ≠ Value.notImplemented ∧ Q (.bool false) s from ⟨(fun x => nomatch x), h⟩⟩) hu
end
end PySem.SeqAt
namespace DL
open PySem PySem.Spec L2 PyProof.Rows
def rNeV (K : PySem.W.Frag) : R2 := fun x y H Q => ∃ n, n ≤ 60 ∧ (∃ a b xs ys, x = .ref a ∧ y = .ref b ∧ SqL K H a xs ∧ SqL K H b ys ∧ Paired (EqV K H n) xs ys) ∧ Q (.bl false) H
def eqF : D → D → Bool
  | .int a, .int b => decide (a = b)
  | .str a, .str b => decide (a = b)
  | .non, .non => true
  | .bl a, .bl b => a == b
  | _, _ => false
theorem eqF_flat {d e : D} (h : eqF d e = true) : ∃ x, d.flat = some x ∧ e.flat = some x ∧ flatB x = true := by
  cases d <;> cases e <;> first | (cases h; done) | skip
  · exact ⟨_, rfl, rfl, rfl⟩
  · rename_i a b
    obtain rfl : a = b := by simpa [eqF] using h
    exact ⟨_, rfl, rfl, rfl⟩
  · rename_i a b
    obtain rfl : a = b := of_decide_eq_true h
    exact ⟨_, rfl, rfl, rfl⟩
  · rename_i a b
    obtain rfl : a = b := of_decide_eq_true h
    exact ⟨_, rfl, rfl, rfl⟩
def eqFs : List D → List D → Bool
  | [], [] => true
  | d :: ds, e :: es => eqF d e && eqFs ds es
  | _, _ => false
def lsAt (μ : Mu) : D → Option (List D)
  | .lst ds => some ds
  | .mref k => match μ[k]? with
    | some (.lst ds) => some ds
    | _ => none
  | _ => none
def dkAt (μ : Mu) : D → Option (List Key × List D)
  | .mref k => match μ[k]? with
    | some (.dk ks ds) => some (ks, ds)
    | _ => none
  | _ => none
def valDk : List Key → List D → Key → Option D
  | k :: ks, d :: ds, x => if k = x then some d else valDk ks ds x
  | _, _, _ => none
def subDk (ks' : List Key) (ds' : List D) : List Key → List D → Bool
  | k :: ks, d :: ds => (match valDk ks' ds' k with
    | some e => eqF d e
    | none => false) && subDk ks' ds' ks ds
  | [], [] => true
  | _, _ => false
def eqDk (μ : Mu) (d e : D) : Bool := match dkAt μ d, dkAt μ e with
  | some (ks, ds), some (ls, es) => decide (ks.length = ls.length) && subDk ls es ks ds
  | _, _ => false
def eqLs (μ : Mu) (d e : D) : Bool := match lsAt μ d, lsAt μ e with
  | some ds, some es => eqFs ds es
  | _, _ => false
def eqI (μ : Mu) (d e : D) : Bool := eqF d e || eqLs μ d e || eqDk μ d e
def eqIs (μ : Mu) : List D → List D → Bool
  | [], [] => true
  | d :: ds, e :: es => eqI μ d e && eqIs μ ds es
  | _, _ => false
def eqTop (μ : Mu) (d e : D) : Bool := match lsAt μ d, lsAt μ e with
  | some ds, some es => eqIs μ ds es
  | _, _ => false
section
variable {c : Ct} {ρ : Rho} {μ : Mu} {g : G} {σ : L2.St} {H : Hp}
theorem eqF_eqV (n : Nat) {d e : D} {v u : V} (h : eqF d e = true) (r : GRep c.K g d v) (q : GRep c.K g e u) : EqV c.K H (n + 1) v u := by
  obtain ⟨x, h1, h2, h3⟩ := eqF_flat h
  rw [rep_flat h1 r, rep_flat h2 q]
  exact .inl ⟨rfl, h3⟩
theorem lsAt_sq (s : SR c ρ μ g σ H) {d : D} {v : V} {ds : List D} (r : GRep c.K g d v) (h : lsAt μ d = some ds) : ∃ a xs, v = .ref a ∧ SqL c.K H a xs ∧ GReps c.K g ds xs := by
  cases d <;> first | (cases h; done) | skip
  · cases h
    unfold GRep Rep at r
    obtain ⟨a, xs, rfl, h1, h2⟩ := r
    exact ⟨a, xs, rfl, SqL.of (s.sub _ _ h1), h2⟩
  · rename_i k
    unfold GRep Rep at r
    obtain ⟨a, ha, rfl⟩ := r
    have h' : (match μ[k]? with
      | some (.lst ds) => some ds
      | _ => none) = some ds := h
    cases e : μ[k]? with
    | none => rw [e] at h'; cases h'
    | some m =>
      rw [e] at h'
      cases m <;> first | (cases h'; done) | skip
      cases h'
      obtain ⟨_, xs, q2, q3⟩ := s.amb k a _ ha e
      exact ⟨a, xs, rfl, SqL.of q2, q3⟩
theorem dkAt_at (s : SR c ρ μ g σ H) {d : D} {v : V} {p : List Key × List D} (r : GRep c.K g d v) (h : dkAt μ d = some p) : ∃ a xs, v = .ref a ∧ H a = some (.dK (p.1.zip xs)) ∧ p.1.length = xs.length ∧ GReps c.K g p.2 xs := by
  cases d <;> first | (cases h; done) | skip
  rename_i k
  unfold GRep Rep at r
  obtain ⟨a, ha, rfl⟩ := r
  have h' : (match μ[k]? with
    | some (.dk ks ds) => some (ks, ds)
    | _ => none) = some p := h
  cases e : μ[k]? with
  | none => rw [e] at h'; cases h'
  | some m =>
    rw [e] at h'
    cases m <;> first | (cases h'; done) | skip
    cases h'
    obtain ⟨_, xs, q2, q3, q4⟩ := s.amb k a _ ha e
    exact ⟨a, xs, rfl, q2, q3, q4⟩
theorem eqFs_paired (n : Nat) : ∀ {ds es : List D} {xs ys : List V}, eqFs ds es = true → GReps c.K g ds xs → GReps c.K g es ys → Paired (EqV c.K H (n + 1)) xs ys
  | [], [], xs, ys, _, r, q => by
    rw [reps_nil_inv r, reps_nil_inv q]
    exact .nil
  | [], _ :: _, _, _, h, _, _ => by cases h
  | _ :: _, [], _, _, h, _, _ => by cases h
  | d :: ds, e :: es, xs, ys, h, r, q => by
    obtain ⟨x, xr, rfl, r1, r2⟩ := reps_cons_inv r
    obtain ⟨y, yr, rfl, q1, q2⟩ := reps_cons_inv q
    obtain ⟨h1, h2⟩ := Bool.and_eq_true_iff.mp h
    exact .cons (eqF_eqV n h1 r1 q1) (eqFs_paired n h2 r2 q2)
theorem valDk_val : ∀ {ks : List Key} {ds : List D} {xs : List V} {k : Key} {e : D}, ks.length = xs.length → GReps c.K g ds xs → valDk ks ds k = some e → ∃ u, valV (ks.zip xs) k = some u ∧ GRep c.K g e u
  | [], _, _, _, _, _, _, h => by cases h
  | _ :: _, [], _, _, _, _, _, h => by cases h
  | k0 :: ks, d :: ds, xs, k, e, hl, r, h => by
    obtain ⟨x, xr, rfl, r1, r2⟩ := reps_cons_inv r
    have h' : (if k0 = k then some d else valDk ks ds k) = some e := h
    by_cases z : k0 = k
    · rw [if_pos z] at h'
      cases h'
      refine ⟨x, ?_, r1⟩
      simp [valV, z]
    · rw [if_neg z] at h'
      obtain ⟨u, h1, h2⟩ := valDk_val (k := k) (Nat.succ.inj hl) r2 h'
      refine ⟨u, ?_, h2⟩
      rw [← h1]
      simp [valV, z]
theorem subDk_all (n : Nat) {ls : List Key} {es : List D} {ys : List V} (hl : ls.length = ys.length) (q : GReps c.K g es ys) : ∀ {ks : List Key} {ds : List D} {xs : List V}, ks.length = xs.length → GReps c.K g ds xs → subDk ls es ks ds = true →
    ∀ p ∈ ks.zip xs, ∃ u, valV (ls.zip ys) p.1 = some u ∧ EqV c.K H (n + 1) p.2 u ∧ u = p.2 ∧ flatB p.2 = true
  | [], _, xs, _, _, _ => fun p hp => by cases xs <;> cases hp
  | _ :: _, [], _, _, _, h => by cases h
  | k :: ks, d :: ds, xs, hk, r, h => by
    obtain ⟨x, xr, rfl, r1, r2⟩ := reps_cons_inv r
    have h' : ((match valDk ls es k with
      | some e => eqF d e
      | none => false) && subDk ls es ks ds) = true := h
    obtain ⟨h1, h2⟩ := Bool.and_eq_true_iff.mp h'
    intro p hp
    rcases List.mem_cons.mp hp with rfl | hp
    · cases e1 : valDk ls es k with
      | none => rw [e1] at h1; cases h1
      | some e =>
        rw [e1] at h1
        obtain ⟨u, w1, w2⟩ := valDk_val hl q e1
        obtain ⟨z, f1, f2, f3⟩ := eqF_flat h1
        refine ⟨u, w1, eqF_eqV n h1 r1 w2, ?_, ?_⟩
        · rw [rep_flat f1 r1, rep_flat f2 w2]
        · rw [rep_flat f1 r1]; exact f3
    · exact subDk_all n hl q (Nat.succ.inj hk) r2 h2 p hp
theorem eqI_eqV (s : SR c ρ μ g σ H) (n : Nat) {d e : D} {v u : V} (h : eqI μ d e = true) (r : GRep c.K g d v) (q : GRep c.K g e u) : EqV c.K H (n + 2) v u := by
  unfold eqI at h
  rcases Bool.or_eq_true_iff.mp h with h | h
  · rcases Bool.or_eq_true_iff.mp h with h | h
    · exact eqF_eqV (n + 1) h r q
    · unfold eqLs at h
      cases e1 : lsAt μ d with
      | none => rw [e1] at h; cases h
      | some ds =>
        cases e2 : lsAt μ e with
        | none => rw [e1, e2] at h; cases h
        | some es =>
          rw [e1, e2] at h
          obtain ⟨a, xs, rfl, a1, a2⟩ := lsAt_sq s r e1
          obtain ⟨b, ys, rfl, b1, b2⟩ := lsAt_sq s q e2
          exact .inr (.inr (.inl ⟨a, b, xs, ys, rfl, rfl, a1, b1, eqFs_paired n h a2 b2⟩))
  · unfold eqDk at h
    cases e1 : dkAt μ d with
    | none => rw [e1] at h; cases h
    | some p =>
      cases e2 : dkAt μ e with
      | none => rw [e1, e2] at h; cases h
      | some p' =>
        rw [e1, e2] at h
        obtain ⟨ks, ds⟩ := p
        obtain ⟨ls, es⟩ := p'
        obtain ⟨h1, h2⟩ := Bool.and_eq_true_iff.mp h
        have hl := of_decide_eq_true h1
        obtain ⟨a, xs, rfl, a1, a2, a3⟩ := dkAt_at s r e1
        obtain ⟨b, ys, rfl, b1, b2, b3⟩ := dkAt_at s q e2
        refine .inr (.inr (.inr ⟨a, b, _, _, rfl, rfl, a1, b1, ?_, fun p hp => ?_⟩))
        · rw [List.length_zip, List.length_zip]
          have a2' : ks.length = xs.length := a2
          have b2' : ls.length = ys.length := b2
          omega
        · obtain ⟨u, w1, w2, _⟩ := subDk_all n b2 b3 a2 a3 h2 p hp
          exact ⟨u, w1, w2⟩
theorem eqIs_paired (s : SR c ρ μ g σ H) (n : Nat) : ∀ {ds es : List D} {xs ys : List V}, eqIs μ ds es = true → GReps c.K g ds xs → GReps c.K g es ys → Paired (EqV c.K H (n + 2)) xs ys
  | [], [], xs, ys, _, r, q => by
    rw [reps_nil_inv r, reps_nil_inv q]
    exact .nil
  | [], _ :: _, _, _, h, _, _ => by cases h
  | _ :: _, [], _, _, h, _, _ => by cases h
  | d :: ds, e :: es, xs, ys, h, r, q => by
    obtain ⟨x, xr, rfl, r1, r2⟩ := reps_cons_inv r
    obtain ⟨y, yr, rfl, q1, q2⟩ := reps_cons_inv q
    obtain ⟨h1, h2⟩ := Bool.and_eq_true_iff.mp h
    exact .cons (eqI_eqV s n h1 r1 q1) (eqIs_paired s n h2 r2 q2)
end
def dNeV (ta tb : TD) : TD := fun ρ => M.bind (ta ρ) fun x => M.bind (tb ρ) fun y μ => if eqTop μ x y = true then some (.ok (.bl false), μ) else none
def dNeDk (ta tb : TD) : TD := fun ρ => M.bind (ta ρ) fun x => M.bind (tb ρ) fun y μ => if eqDk μ x y = true then some (.ok (.bl false), μ) else none
section
variable {X : Cx} {W : WX} {a b : Expr} {ta tb : TD} {pos : Pos}
def dDictD (ta : TD) : TD := fun ρ => M.bind (ta ρ) fun d μ => match dkAt μ d with
  | some p => some (.ok (.mref μ.length), μ ++ [.dk p.1 p.2])
  | none => none
end
end DL

set_option Elab.async false
set_option linter.all false
set_option maxRecDepth 100000
set_option maxHeartbeats 4000000
set_option autoImplicit false
namespace DL
open PySem PySem.Spec L2
def pickY (g : Addr → Option Obj) (a : Addr) : List Addr := match g a with
  | some ⟨.type "code", _, .fields _, _⟩ => []
  | some o => He.refsD o
  | none => []
def lvlY (g : Addr → Option Obj) : Nat → List Addr → List Addr
  | 0, l => l
  | n + 1, l => l ++ lvlY g n (l.flatMap (pickY g))
def obsYG (n : Nat) (bs : List (Fg → Bool)) (fn : List XDef) (ts : List He.Tab) (g : Addr → Option Obj) : XA := obsX bs fn ts (He.frG g (cStatics :: lvlY g n [mainGlobals]))
def hookY (n : Nat) (bs : List (Fg → Bool)) (fn : List XDef) (ts : List He.Tab) : PySem.W.Hook where
  α := XA
  obs := fun s => obsYG n bs fn ts s.heap.get?
  val := fun w => valX fn ts w
  says := fun w h => ∃ K : Fg, K.In h ∧ SaysX bs fn ts w K
  of := fun _ _ e => ⟨_, He.frG_in, e⟩
  keeps := fun _ _ _ ⟨K, hK, c⟩ k => ⟨K, PySem.W.Frag.In.keeps hK k, c⟩
theorem obsYG_eq {n : Nat} {bs : List (Fg → Bool)} {fn : List XDef} {ts : List He.Tab} {g : Addr → Option Obj} {s : Shared} (h : ∀ a, g a = s.heap.get? a) : obsYG n bs fn ts g = (hookY n bs fn ts).obs s := by
  have e : g = s.heap.get? := funext h
  rw [e] <;> rfl
end DL

set_option Elab.async false
set_option linter.all false
set_option maxRecDepth 100000
set_option maxHeartbeats 4000000
set_option autoImplicit false
namespace DL
open PySem PySem.Spec L2 PyProof.Rows
theorem fly_push {B h : Heap} {l : List Env} {a : Addr} {Z : Obj → Prop} {o : Obj} (fl : HandSPX.FlyingZ B l a Z h) : HandSPX.FlyingZ B l a Z (h.push o) := by
  obtain ⟨f1, f2, f3, oe, vs, T, oT, ts, e1, e2, e3, e4, e5, e6, e7, e8, e9⟩ := fl
  refine ⟨fun b o' hb => Heap.get?_push_of_some _ (f1 b o' hb), f2, Heap.FunFrames.of_keeps (fun b o' hb _ => ⟨o', Heap.get?_push_of_some _ hb, rfl⟩) f3, oe, vs, T, oT, ts, Heap.get?_push_of_some _ e1, e2, e3, e4, e5, e6, Heap.get?_push_of_some _ e7, e8, e9⟩
def wTup2 (K : PySem.W.Frag) (c1 c2 : Value) (ts : Addr → Value → Option Addr → TS) (Wout : WX) (D : Ends) : WX := fun cls d σ H =>
  ∃ b, PySem.W.exmAny K cls [c1, c2] = some b ∧ (b = true → ∀ a, H a = none → ts a cls d D σ H) ∧ (b = false → Wout cls d σ H)
section
variable {X : Cx} {x1 x2 : Str} {c1 c2 : Value} {body suite : List Stmt} {b₀ : Stmt} {np1 np2 tp pos pos' : Pos} {kk : Nat} {tb : WX → TS} {ts : Addr → Value → Option Addr → TS} {Wout : WX}
theorem ps_try_tup2 (hs : X.stack = X.env :: X.outer) (hf : X.env.frame = some X.env.locals) (hc1 : Names X x1 c1) (hc2 : Names X x2 c2) (tk : Takes X Wout)
    (hb : ∀ (W : WX) (pn : List (Addr × Obj)) (xe : Value → Shared → Prop), Takes (X.tr pn xe) W → PassesOwn (model X.prog X.w) X.A X.env xe → PSs (X.tr pn xe) body (tb W))
    (hsu : ∀ (a : Addr) (oe : Obj) (cls : Value) (d : Option Addr) (pn : List (Addr × Obj)), Zc cls d oe → (∃ vs, oe.data = .fields vs) → PSs (X.suite a ((a, oe) :: pn)) (b₀ :: suite) (ts a cls d)) :
    PS X (.Try body [.ExceptHandler (some (.Tuple [.Name x1 np1, .Name x2 np2] kk tp)) none (b₀ :: suite) pos'] [] [] pos) (fun D σ H => tb (wTup2 X.K c1 c2 ts Wout D) D σ H) := by
  refine ⟨fun pins s σ H D I h => ?_⟩
  have ok := I.ok
  have hfr : X.A.frames = some (X.env :: X.outer) := by rw [ok.frames, hs]
  refine wpAny_Try_except ?_
  refine wpAny_mono ((hb (wTup2 X.K c1 c2 ts Wout D) (X.pn ++ pins) (fun e s₁ => wpAny (model X.prog X.w) X.A (noteFrame e X.env) (fun _ s₂ => wpAny (model X.prog X.w) X.A (setFlight e none) (fun _ s₃ =>
    wpAny (model X.prog X.w) X.A (handleBy e X.env [.ExceptHandler (some (.Tuple [.Name x1 np1, .Name x2 np2] kk tp)) none (b₀ :: suite) pos']) (SP X pins D) X.xe s₃) X.xe s₂) X.xe s₁) (fun u s' xx => ?_) PassesOwn.looking).run [] s σ H D (I.toTry _) h) (fun f s1 hsp => ?_) (fun e s₁ x => x)
  · -- the catch
    obtain ⟨a, B, sI, pins', σ', H', cls, d, rfl, J', nb, up, sky, na, os, ag, b, hb1, hyes, hno⟩ := xx
    have J : Inv X pins σ' H' sI := J'.ofTry ok
    have sky' : Sky B (X.env :: X.outer) a (Zc cls d) X.env.locals s'.heap := by rw [← hs]; exact sky
    show wpAny (model X.prog X.w) X.A (noteFrame (.ref a) X.env) _ _ _
    refine Sky.land Zc.steady hfr hf sky' fun h3 fl3 up3 => ?_
    have J3 : Inv X pins σ' H' { s' with heap := h3 } := J.landed nb fl3.1 (up.trans up3) os ag
    obtain ⟨oe3, vs3, he3, hz3, hd3⟩ := fl3.there
    have notFr : ∀ {h : Heap} {o : Obj} {vs : Array Value}, h.FunFrames B (X.env :: X.outer) → h.get? a = some o → o.data = .fields vs → a ∉ frs (X.env :: X.outer) := fun {h o vs} ff e dd hm => by
      obtain ⟨_, o', e', hnf⟩ := ff.mem hm
      rw [e] at e'; cases e'
      exact hnf _ dd
    have nfr := notFr fl3.2.2.1 he3 hd3
    have nL : a ≠ X.env.locals := fun z => nfr (List.mem_filterMap.mpr ⟨X.env, List.mem_cons_self, by rw [hf, z]⟩)
    have nF : a ∉ X.fs := fun hm => by
      obtain ⟨e, he, q⟩ := List.mem_filterMap.mp hm
      exact nfr (List.mem_filterMap.mpr ⟨e, List.mem_cons_of_mem _ he, q⟩)
    have S3 := J3.suite he3 hd3 na nL nF
    refine wpAny_handleBy_cons (codeAny_handlers_test ?_) (by intro q; cases q)
    have test : ∀ {x : Str} {c : Value} {np : Pos} {Q : Value → Shared → Prop} {E : Value → Shared → Prop}, Names X x c → Q c { s' with heap := h3 } → wpAny (model X.prog X.w) (X.A.mark (some (.ref a))) (eval (.Name x np) X.env) Q E { s' with heap := h3 } := fun {x c np Q E} hc q => by
      obtain ⟨hg, hdbg, hm | ⟨hm, hv, hnn⟩⟩ := hc
      · exact ld_glob (X := X.suite a ((a, oe3) :: (X.pn ++ pins))) S3 hg hm q hdbg
      · exact ld_blt (X := X.suite a ((a, oe3) :: (X.pn ++ pins))) S3 hg hm hv q hnn hdbg
    refine Tuple_ (spliced_more (test hc1 (spliced_more (test hc2 (spliced_none ?_)))))
    refine wpAny_newObj_type ?_
    -- the heap with the tuple
    have fl3 := fly_push (o := { cls := .type "tuple", dict := none, data := .seq [c1, c2].toArray }) fl3
    have up3 : s'.heap.UpToSlots (h3.push { cls := .type "tuple", dict := none, data := .seq [c1, c2].toArray }) := up3.trans (Heap.UpToSlots.of_keeps fun b o e => Heap.get?_push_of_some _ e)
    have J3 : Inv X pins σ' H' { s' with heap := h3.push { cls := .type "tuple", dict := none, data := .seq [c1, c2].toArray } } := J.landed nb fl3.1 (up.trans up3) os ag
    have hp : (h3.push { cls := .type "tuple", dict := none, data := .seq [c1, c2].toArray }).get? h3.objs.size = some { cls := .type "tuple", dict := none, data := .seq [c1, c2].toArray } := Heap.get?_push_size h3 rfl
    have he3 := Heap.get?_push_of_some { cls := .type "tuple", dict := none, data := .seq [c1, c2].toArray } he3
    have LT : PySem.W.Looks (model X.prog X.w) (h3.push { cls := .type "tuple", dict := none, data := .seq [c1, c2].toArray }) (typeOf (.ref a)) cls := fun A Q E s k q => wpAny_typeOf_ref (k _ _ he3) (by rw [hz3.1]; exact q)
    have LM := PySem.W.exm_tup2 (M := model X.prog X.w) (J3.kIn) LT hp hb1
    clear S3 test
    refine LM.here ?_
    generalize h3.push { cls := .type "tuple", dict := none, data := .seq [c1, c2].toArray } = h3 at *
    cases b with
    | true =>
      refine codeAny_handlers_suite ?_
      refine HandSPX.lands_againZ fl3 fun h4 fl4 up4 => ?_
      have J4 : Inv X pins σ' H' { s' with heap := h4 } := J.landed nb fl4.1 ((up.trans up3).trans up4) os ag
      obtain ⟨oe4, vs4, he4, hz4, hd4⟩ := fl4.there
      have S4 := J4.suite he4 hd4 na nL nF
      refine wpAny_mono ((hsu a oe4 cls d (X.pn ++ pins) hz4 ⟨_, hd4⟩).run [] _ _ H' _ S4 (hyes rfl a na)) (fun f s6 hsp => ?_) (fun _ _ z => False.elim z)
      cases f with
      | next =>
        obtain ⟨σ6, H6, S6, q6⟩ := hsp
        exact ⟨_, _, S6.unsuite ok, q6⟩
      | brk =>
        obtain ⟨σ6, H6, S6, q6⟩ := hsp
        exact ⟨_, _, S6.unsuite ok, q6⟩
      | cont =>
        obtain ⟨σ6, H6, S6, q6⟩ := hsp
        exact ⟨_, _, S6.unsuite ok, q6⟩
      | ret u =>
        obtain ⟨v6, σ6, H6, S6, r6, q6⟩ := hsp
        exact ⟨_, _, _, S6.unsuite ok, r6, q6⟩
    | false =>
      show wpAny _ X.A (handleBy (.ref a) X.env []) _ _ _
      refine wpAny_handleBy_nil ?_
      obtain ⟨k1, k2, k3, oe, vs, T, oT, ts', he, hz, hd, h1, hr⟩ := id fl3
      unfold PySem.passOn
      refine wpAny_bind (wpAny_field he hd h1 ?_)
      rw [if_neg (show ¬ ((Value.ref T == Value.none) = true) from by simp)]
      have fin : wpAny (model X.prog X.w) X.A (setFlight (.ref a) X.env.frame) (fun _ s4 => wpAny (model X.prog X.w) X.A (throw (.ref a) : Sem Flow) (SP X pins D) X.xe s4) X.xe { s' with heap := h3 } := by
        rw [hf]
        refine HandSPX.setFlight_upZ fl3 fun h4 hh4 up4 => wpAny_throw (tk _ _ ?_)
        exact ⟨a, B, sI, pins, σ', H', cls, d, rfl, J, nb, (up.trans up3).trans up4, .inr (.inr (by rw [hs]; exact hh4)), na, os, ag, hno rfl⟩
      first
        | exact wpAny_bind (wpAny_pure (wpAny_bind fin))
        | exact wpAny_bind fin
  · cases f with
    | next =>
      obtain ⟨σ', H', J', q⟩ := hsp
      exact wpAny_execs_nil ⟨σ', H', J'.ofTry ok, q⟩
    | brk =>
      obtain ⟨σ', H', J', q⟩ := hsp
      exact ⟨σ', H', J'.ofTry ok, q⟩
    | cont =>
      obtain ⟨σ', H', J', q⟩ := hsp
      exact ⟨σ', H', J'.ofTry ok, q⟩
    | ret u =>
      obtain ⟨v, σ', H', J', r, q⟩ := hsp
      exact ⟨v, σ', H', J'.ofTry ok, r, q⟩
end
def dsTryT (kx : KX) (x y : Addr) (tb ts : TO') : TO' := fun ρ μ => match tb ρ μ with
  | some (.ex ρ' C ns ds, μ') => match kxD kx C x, kxD kx C y with
    | some b1, some b2 => if (b1 || (b2 || false)) = true then noEx (ts ρ' μ') else some (.ex ρ' C ns ds, μ')
    | _, _ => none
  | r => r
section
variable {X : Cx} {W : WX} {x1 x2 : Str} {C1 C2 : Addr} {kx : KX} {body suite : List Stmt} {b₀ : Stmt} {np1 np2 tp pos pos' : Pos} {kk : Nat} {tb ts : TO'}
theorem ds_tryT (hk : KXOk X.K kx) (tk : Takes X W) (g1 : X.mg x1 = some (.ref C1)) (g2 : X.mg x2 = some (.ref C2))
    (hb : ∀ (W' : WX) (pn : List (Addr × Obj)) (xe : Value → Shared → Prop), Takes (X.tr pn xe) W' → PassesOwn (model X.prog X.w) X.A X.env xe → DSs (X.tr pn xe) W' body tb)
    (hsu : ∀ (a : Addr) (oe : Obj) (cls : Value) (d : Option Addr) (pn : List (Addr × Obj)), Zc cls d oe → (∃ vs, oe.data = .fields vs) → DSs (X.suite a ((a, oe) :: pn)) (fun _ _ _ _ => False) (b₀ :: suite) ts)
    (hs : X.stack = X.env :: X.outer := by rfl) (hf : X.env.frame = some X.env.locals := by rfl) (hg1 : Gl X x1 := by rfl) (hdb1 : (x1 == ("__debug__" : Str)) = false := by decide) (hg2 : Gl X x2 := by rfl) (hdb2 : (x2 == ("__debug__" : Str)) = false := by decide) :
    DS X W (.Try body [.ExceptHandler (some (.Tuple [.Name x1 np1, .Name x2 np2] kk tp)) none (b₀ :: suite) pos'] [] [] pos) (dsTryT kx C1 C2 tb ts) := by
  refine ⟨_, ps_try_tup2 (tb := fun W' => semS X.K W' tb) (ts := fun a cls d => semS X.K (fun _ _ _ _ => False) ts) hs hf ⟨hg1, hdb1, .inl g1⟩ ⟨hg2, hdb2, .inl g2⟩ tk (fun W' pn xe t1 t2 => (hb W' pn xe t1 t2).sem) (fun a oe cls d pn z1 z2 => (hsu a oe cls d pn z1 z2).sem), fun c hc ρ μ g σ H D₀ o μ' s h k => ?_⟩
  unfold dsTryT at h
  cases e : tb ρ μ with
  | none => rw [e] at h; cases h
  | some q =>
    obtain ⟨o1, μ1⟩ := q
    rw [e] at h
    refine ⟨c, ρ, μ, g, o1, μ1, hc, s, e, ?_⟩
    cases o1 with
    | nx ρ' => cases h; exact k
    | bk ρ' => cases h; exact k
    | ct ρ' => cases h; exact k
    | rt d => cases h; exact k
    | ex ρ' C' ns ds =>
      intro d σ' H' g' l s' xx
      simp only at h
      cases ek : kxD kx C' C1 with
      | none => rw [ek] at h; cases h
      | some b1 =>
        cases ek2 : kxD kx C' C2 with
        | none => rw [ek, ek2] at h; cases h
        | some b2 =>
          rw [ek, ek2] at h
          have hany : PySem.W.exmAny X.K (.ref C') [.ref C1, .ref C2] = some (b1 || (b2 || false)) := by
            unfold PySem.W.exmAny PySem.W.exmAny PySem.W.exmAny
            rw [kxD_some hk ek, kxD_some hk ek2]
          refine ⟨_, hany, fun hb1 a ha => ?_, fun hb0 => ?_⟩
          · have h : (if (b1 || (b2 || false)) = true then noEx (ts ρ' μ1) else some (Out.ex ρ' C' ns ds, μ1)) = some (o, μ') := h
            rw [if_pos hb1] at h
            obtain ⟨h1, h2⟩ := noEx_some h
            exact ⟨c, ρ', μ1, g', o, μ', hc, s', h1, (k.le l).wish h2⟩
          · have h : (if (b1 || (b2 || false)) = true then noEx (ts ρ' μ1) else some (Out.ex ρ' C' ns ds, μ1)) = some (o, μ') := h
            rw [if_neg (by rw [hb0]; decide)] at h
            cases h
            exact k d σ' H' g' l s' xx
end
end DL

set_option Elab.async false
set_option linter.all false
set_option maxRecDepth 100000
set_option maxHeartbeats 4000000
set_option autoImplicit false
namespace DL
open PySem PySem.Spec L2
section
variable {X : Cx} {W : WX} {elt tg iter : Expr} {ifs : List Expr} {scope : Scope} {own : List (Str × Nat)} {pos : Pos} {t : TD} {gt : D → Rho → Option Rho} {tt : TB} {te : TD} {is : List Nat}
theorem ds_setOLcI {i : Nat} {y : Str} {py spos : Pos} (hc : X.calm = true) (hN : X.N.Nodup) (hi : DE X W iter t) (ok : BlkOk X.N X.env.scope scope own)
    (hg : ∀ (s : Shared) (H : Hp) (C : Addr) (cl : List (Str × Addr)) (fp : List Addr), DG (X.blk s H scope (compEnvC scope cl C X.env) fp) tg is gt)
    (ht : ∀ (s : Shared) (H : Hp) (C : Addr) (cl : List (Str × Addr)) (fp : List Addr), DTs (X.blk s H scope (compEnvC scope cl C X.env) fp) WF ifs tt)
    (he : ∀ (s : Shared) (H : Hp) (C : Addr) (cl : List (Str × Addr)) (fp : List Addr), DE (X.blk s H scope (compEnvC scope cl C X.env) fp) WF elt te)
    (hsw : swapsWith (.ListComp elt [⟨tg, iter, ifs, 0⟩] scope pos) (some (.Name y py)) spos.line X.env = pure true)
    (hy : X.N[i]? = some y := by rfl) (hyl : X.env.scope.names.lookup y = some .local := by rfl)
    (his : ∀ i ∈ is, i ∈ own.map (·.2) := by decide) (hs : ∀ x, foldedSetIterable iter X.env x = pure x := by intro _; rfl) :
    DS X W (.Assign [.Name y py] (.ListComp elt [⟨tg, iter, ifs, 0⟩] scope pos) spos) (dsSetO i (dLcI (own.map (·.2)) t gt tt te)) := by
  obtain ⟨ti, p, r⟩ := hi.ex
  refine ⟨_, ps_setLc (g := cG X.K is gt) (tt := cT X.K WF tt) (te := cE X.K WF te) hc hN hy hyl hsw (pi_list p) ok (fun s H C cl fp => (hg s H C cl fp).can) (fun s H C cl fp => (ht s H C cl fp).ex) (fun s H C cl fp => (he s H C cl fp).can) hs, fun c hc2 ρ μ g σ H D₀ o μ' s h k => ?_⟩
  have q := rf_lcI (W := W) (tt := tt) (te := te) (r c hc2) (hg X.s_0 X.H_0 0 [] []).off his
  rw [hc2] at q
  refine q.stm s h k fun ds μ1 h1 p xs H1 g1 l1 s1 ho hp rp k1 => ?_
  cases h1
  exact k1 _ _ (g1.own1 p (i + 1)) (le_own1 _ _ _) (s1.take i ho.1 ho.2 ⟨p, xs, rfl, own1_at _ _ _, hp, (le_own1 _ _ _).reps rp⟩)
theorem ds_setLcI {i : Nat} {y : Str} {py spos : Pos} (hc : X.calm = true) (hN : X.N.Nodup) (hi : DE X W iter t) (ok : BlkOk X.N X.env.scope scope own)
    (hg : ∀ (s : Shared) (H : Hp) (C : Addr) (cl : List (Str × Addr)) (fp : List Addr), DG (X.blk s H scope (compEnvC scope cl C X.env) fp) tg is gt)
    (ht : ∀ (s : Shared) (H : Hp) (C : Addr) (cl : List (Str × Addr)) (fp : List Addr), DTs (X.blk s H scope (compEnvC scope cl C X.env) fp) WF ifs tt)
    (he : ∀ (s : Shared) (H : Hp) (C : Addr) (cl : List (Str × Addr)) (fp : List Addr), DE (X.blk s H scope (compEnvC scope cl C X.env) fp) WF elt te)
    (hsw : swapsWith (.ListComp elt [⟨tg, iter, ifs, 0⟩] scope pos) (some (.Name y py)) spos.line X.env = pure true)
    (hy : X.N[i]? = some y := by rfl) (hyl : X.env.scope.names.lookup y = some .local := by rfl)
    (his : ∀ i ∈ is, i ∈ own.map (·.2) := by decide) (hs : ∀ x, foldedSetIterable iter X.env x = pure x := by intro _; rfl) :
    DS X W (.Assign [.Name y py] (.ListComp elt [⟨tg, iter, ifs, 0⟩] scope pos) spos) (dsSet i (dFz (dLcI (own.map (·.2)) t gt tt te))) := by
  obtain ⟨ti, p, r⟩ := hi.ex
  refine ⟨_, ps_setLc (g := cG X.K is gt) (tt := cT X.K WF tt) (te := cE X.K WF te) hc hN hy hyl hsw (pi_list p) ok (fun s H C cl fp => (hg s H C cl fp).can) (fun s H C cl fp => (ht s H C cl fp).ex) (fun s H C cl fp => (he s H C cl fp).can) hs, fun c hc2 ρ μ g σ H D₀ o μ' s h k => ?_⟩
  have q := rf_lcI (W := W) (tt := tt) (te := te) (r c hc2) (hg X.s_0 X.H_0 0 [] []).off his
  rw [hc2] at q
  have h2 : dsE (dLcI (own.map (·.2)) t gt tt te) (fun ds ρ μ => some (.nx (ρ.set i (some (.sh (.lst ds)))), μ)) ρ μ = some (o, μ') := by
    have h' : dsE (dFz (dLcI (own.map (·.2)) t gt tt te)) (fun d ρ μ => some (.nx (ρ.set i (some (.sh d))), μ)) ρ μ = some (o, μ') := h
    rcases dsE_some h' with ⟨a, μ1, e1, e2⟩ | ⟨C, ns, ds, e1, rfl⟩
    · rcases bind_some e1 with ⟨ds, μ2, e3, e4⟩ | ⟨C, ns, es, e3, e4⟩
      · obtain ⟨q1, q2⟩ := ret_some e4
        cases q1
        subst q2
        unfold dsE
        rw [e3]
        exact e2
      · cases e4
    · rcases bind_some e1 with ⟨ds', μ2, e3, e4⟩ | ⟨C', ns', es', e3, e4⟩
      · obtain ⟨q1, q2⟩ := ret_some e4
        cases q1
      · cases e4
        unfold dsE
        rw [e3]
  refine q.stm s h2 k fun ds μ1 h1 p xs H1 g1 l1 s1 ho hp rp k1 => ?_
  cases h1
  refine k1 _ _ (g1.fz p (.lst xs)) (s1.leFz ho.1) ((s1.fzTmp ho.1 ho.2 hp).setSh i ?_)
  unfold GRep Rep
  exact ⟨p, xs, rfl, upd_same, (s1.leFz ho.1).reps rp⟩
end
end DL

set_option Elab.async false
set_option linter.all false
set_option maxRecDepth 100000
set_option maxHeartbeats 4000000
set_option autoImplicit false
namespace DL
open PySem PySem.Spec L2 PyProof.Rows
def EqT (K : PySem.W.Frag) (H : Hp) (n : Nat) (x y : V) : Prop := EqV K H n x y ∨ ∃ a b xs ys, x = .ref a ∧ y = .ref b ∧ SqT K H a xs ∧ SqT K H b ys ∧ Paired (EqV K H n) xs ys
theorem eqT_run {X : Cx} {pins : List (Addr × Obj)} {σ : L2.St} {H : Hp} {s : Shared} (I : Inv X pins σ H s) (n : Nat) (A : Around) (hu : A.units + n + 2 < cLine) (x y : V) (v u : Value) (h : EqT X.K H n x y) (rx : RelV x v) (ry : RelV y u) : SeqAt.EqP X.prog X.w A s v u true := by
  rcases h with h | ⟨a, b, xs, ys, rfl, rfl, ha, hb, hp⟩
  · exact eqV_run I n A (by omega) x y v u h rx ry
  · cases (show v = Value.ref a from rx)
    cases (show u = Value.ref b from ry)
    by_cases e : a = b
    · subst e
      exact (SeqAt.EqAt.same _).eqP
    obtain ⟨us, r1, p1, _⟩ := I.tuple ha
    obtain ⟨ws, r2, p2, _⟩ := I.tuple hb
    have sz : us.toArray.size = ws.toArray.size := by
      rw [List.size_toArray, List.size_toArray, ← r1.length, ← r2.length]
      exact Paired.length hp
    refine SeqAt.eqP_refs e fun E Q q => SeqAt.rcIn_tuples (e := fun _ => true) p1 p2 (by omega) (fun j h1 h2 => ?_) ?_
    · have k := items_run (eqV_run I n A.in1 (by show A.units + 1 + n < cLine; omega)) hp r1 r2 j (by simpa using h1) (by simpa using h2)
      intro E Q hq
      have := k E Q hq
      simpa using this
    · have e1 : ((List.range (min us.toArray.size ws.toArray.size)).all fun _ => true) = true := List.all_eq_true.mpr fun _ _ => rfl
      rw [e1, sz]
      simpa using q
def rNeT (K : PySem.W.Frag) : R2 := fun x y H Q => ∃ n, n ≤ 60 ∧ (∃ a b xs ys, x = .ref a ∧ y = .ref b ∧ SqL K H a xs ∧ SqL K H b ys ∧ Paired (EqT K H n) xs ys) ∧ Q (.bl false) H
theorem op_neT {X : Cx} (hu : X.A.units + 64 < cLine) : OpR X (compareOp .NotEq) (rNeT X.K) := by
  intro pins s σ H x y v u Q I rx ry h
  obtain ⟨n, hn, ⟨a, b, xs, ys, rfl, rfl, ha, hb, hp⟩, q⟩ := h
  cases (show v = Value.ref a from rx)
  cases (show u = Value.ref b from ry)
  obtain ⟨us, r1, p1, _⟩ := I.list ha
  obtain ⟨ws, r2, p2, _⟩ := I.list hb
  have sz : us.toArray.size = ws.toArray.size := by
    rw [List.size_toArray, List.size_toArray, ← r1.length, ← r2.length]
    exact Paired.length hp
  refine SeqAt.rcNeP_lists p1.isList p2.isList sz (by omega) (fun j h1 h2 => ?_) _ _ ⟨.bl false, H, I, rfl, q⟩
  have k := items_run (eqT_run I n X.A.in1 (by show X.A.units + 1 + n + 2 < cLine; omega)) hp r1 r2 j (by simpa using h1) (by simpa using h2)
  simpa using k
def eqT (μ : Mu) (d e : D) : Bool := eqI μ d e || (match d, e with
  | .tup ds, .tup es => eqIs μ ds es
  | _, _ => false)
def eqTs (μ : Mu) : List D → List D → Bool
  | [], [] => true
  | d :: ds, e :: es => eqT μ d e && eqTs μ ds es
  | _, _ => false
def eqTopT (μ : Mu) (d e : D) : Bool := match lsAt μ d, lsAt μ e with
  | some ds, some es => eqTs μ ds es
  | _, _ => false
section
variable {c : Ct} {ρ : Rho} {μ : Mu} {g : G} {σ : L2.St} {H : Hp}
theorem eqT_eqT (s : SR c ρ μ g σ H) (n : Nat) {d e : D} {v u : V} (h : eqT μ d e = true) (r : GRep c.K g d v) (q : GRep c.K g e u) : EqT c.K H (n + 2) v u := by
  unfold eqT at h
  rcases Bool.or_eq_true_iff.mp h with h | h
  · exact .inl (eqI_eqV s n h r q)
  · cases d <;> first | (cases h; done) | skip
    rename_i ds
    cases e <;> first | (cases h; done) | skip
    rename_i es
    unfold GRep Rep at r q
    obtain ⟨a, xs, rfl, h1, h2⟩ := r
    obtain ⟨b, ys, rfl, q1, q2⟩ := q
    exact .inr ⟨a, b, xs, ys, rfl, rfl, SqT.of (s.sub _ _ h1), SqT.of (s.sub _ _ q1), eqIs_paired s n h h2 q2⟩
theorem eqTs_paired (s : SR c ρ μ g σ H) (n : Nat) : ∀ {ds es : List D} {xs ys : List V}, eqTs μ ds es = true → GReps c.K g ds xs → GReps c.K g es ys → Paired (EqT c.K H (n + 2)) xs ys
  | [], [], xs, ys, _, r, q => by
    rw [reps_nil_inv r, reps_nil_inv q]
    exact .nil
  | [], _ :: _, _, _, h, _, _ => by cases h
  | _ :: _, [], _, _, h, _, _ => by cases h
  | d :: ds, e :: es, xs, ys, h, r, q => by
    obtain ⟨x, xr, rfl, r1, r2⟩ := reps_cons_inv r
    obtain ⟨y, yr, rfl, q1, q2⟩ := reps_cons_inv q
    obtain ⟨h1, h2⟩ := Bool.and_eq_true_iff.mp h
    exact .cons (eqT_eqT s n h1 r1 q1) (eqTs_paired s n h2 r2 q2)
end
def dNeT (ta tb : TD) : TD := fun ρ => M.bind (ta ρ) fun x => M.bind (tb ρ) fun y μ => if eqTopT μ x y = true then some (.ok (.bl false), μ) else none
section
variable {X : Cx} {W : WX} {a b : Expr} {ta tb : TD} {pos : Pos}
theorem re_neT {c : Ct} {tea teb : TE} (ha : RE c W tea ta) (hb : RE c W teb tb) : RE c W (tOp (rNeT c.K) tea teb) (dNeT ta tb) := fun ρ μ g σ H Q rr μ' s h hx k => by
  refine ha.then_ s h hx fun x μ1 h1 v1 H1 g1 l1 s1 r1 hx1 => ?_
  refine hb.then_ s1 h1 hx1 fun y μ2 h2 v2 H2 g2 l2 s2 r2 hx2 => ?_
  by_cases e : eqTopT μ2 x y = true
  · rw [if_pos e] at h2
    unfold eqTopT at e
    cases e1 : lsAt μ2 x with
    | none => rw [e1] at e; cases e
    | some ds =>
      cases e2 : lsAt μ2 y with
      | none => rw [e1, e2] at e; cases e
      | some es =>
        rw [e1, e2] at e
        obtain ⟨a, xs, rfl, a1, a2⟩ := lsAt_sq s2 (l2.rep r1) e1
        obtain ⟨b, ys, rfl, b1, b2⟩ := lsAt_sq s2 r2 e2
        cases h2
        exact ⟨2, by decide, ⟨a, b, xs, ys, rfl, rfl, a1, b1, eqTs_paired s2 0 e a2 b2⟩, k _ rfl _ H2 g2 (l1.trans l2) s2 (flat_rep rfl)⟩
  · rw [if_neg e] at h2
    cases h2
theorem dt_neT (hu : X.A.units + 64 < cLine) (ha : DE X W a ta) (hb : DE X W b tb) (hm : behindInMarks .NotEq b = false := by first | exact nomark _ | rfl | with_unfolding_all rfl) : DT X W (.Compare a [.NotEq] [b] pos) (dTest (dNeT ta tb)) := by
  obtain ⟨tea, pa, ra⟩ := ha.ex
  obtain ⟨teb, pb, rb⟩ := hb.ex
  refine ⟨_, pt_cmpR (op_neT hu) pa pb hm, fun c hc => rt_test ?_⟩
  rw [← hc]
  exact re_neT (ra c hc) (rb c hc)
end
end DL

set_option Elab.async false
set_option linter.all false
set_option maxRecDepth 100000
set_option maxHeartbeats 4000000
set_option autoImplicit false
namespace K10
open PySem PySem.Spec L2 DL
def top (i : Nat) : Stmt := PySem.Challenge.pw_selfwritten_k10_codes_two_forms_share.main.body.getD i (.Pass ⟨0, 0, 0, 0⟩)
def tab_SHAPES : KTab := [("get", some (.kt [.str "reg"])), ("num", some (.kt [.str "num"])), ("here", some (.kt [])), ("next", some (.kt [])), ("add", some (.kt [.str "line", .str "line"])), ("sub", some (.kt [.str "line", .str "line"])), ("and", some (.kt [.str "line", .str "line"])), ("or", some (.kt [.str "line", .str "line"])), ("xor", some (.kt [.str "line", .str "line"])), ("less", some (.kt [.str "line", .str "line"])), ("same", some (.kt [.str "line", .str "line"])), ("read", some (.kt [.str "line"])), ("in", some (.kt [.str "from"])), ("must", some (.kt [.str "line", .str "cause"])), ("write", some (.kt [.str "line", .str "line"])), ("out", some (.kt [.str "to", .str "line"])), ("put", some (.kt [.str "reg", .str "line"])), ("goto", some (.kt [.str "line"]))]
def owns (K : Fg) : List Addr := []
def kits (K : Fg) : Kit := [(.type "int", .type "int", true), (.type "int", .type "bool", false), (.type "bool", .type "bool", true), (.type "bool", .type "int", true), (.type "str", .type "str", true), (.type "list", .type "list", true), (.type "tuple", .type "list", false), (.type "tuple", .type "tuple", true), (.type "list", .type "str", false), (.ref (He.ga K "OneCode"), .ref (He.ga K "Refusal"), true), (.ref (He.ga K "OneCode"), .ref (He.ga K "HalfDone"), false), (.type "NoneType", .type "list", false), (.type "NoneType", .type "tuple", false), (.type "NoneType", .type "int", false), (.type "str", .type "int", false), (.type "list", .type "tuple", false), (.type "int", .type "str", false)]
def kxs (K : Fg) : KX := [(He.ga K "OneCode", He.ga K "OneCode", true), (He.ga K "OneCode", He.ga K "HalfDone", false)]
def bs : List (Fg → Bool) := [(fun K => (He.Fa.free "len").ok K),
  (fun K => (He.Fa.free "min").ok K),
  (fun K => (He.Fa.free "range").ok K),
  (fun K => (He.Fa.free "int").ok K),
  (fun K => (He.Fa.glo "_law_draws").ok K),
  (fun K => (He.Fa.glo "_law_take").ok K),
  (fun K => (He.Fa.glo "_law_bent").ok K),
  (fun K => (He.Fa.glo "_law_patterns").ok K),
  (fun K => (He.Fa.glo "_law_form_rows").ok K),
  (fun K => (He.Fa.free "list").ok K),
  (kitB' kits),
  (fun K => (He.Fa.free "isinstance").ok K),
  (fun K => (He.Fa.free "bool").ok K),
  (fun K => (He.Fa.glo "is_integer").ok K),
  (fun K => (He.Fa.glo "check_int").ok K),
  (fun K => (He.Fa.cls "Book").ok K),
  (fun K => (He.Fa.noat "Book" "word").ok K),
  (fun K => (He.Fa.noat "Book" "registers").ok K),
  (fun K => (He.Fa.free "tuple").ok K),
  (fun K => (He.Fa.free "str").ok K),
  (fun K => (He.Fa.str "SMALL" "abcdefghijklmnopqrstuvwxyz").ok K),
  (fun K => (He.Fa.free "all").ok K),
  (fun K => (He.Fa.glo "is_small_word").ok K),
  (fun K => (He.Fa.str "LETTERS" "abcmn").ok K),
  (fun K => (He.Fa.glo "letters_of").ok K),
  (fun K => (He.Fa.glo "good_patterns").ok K),
  (fun K => (He.Fa.glo "ones").ok K),
  (fun K => (He.Fa.free "enumerate").ok K),
  (fun K => (He.Fa.glo "SHAPES").ok K),
  (dtupB (fun K => He.ga K "SHAPES") "get" [.str "reg"]),
  (dtupB (fun K => He.ga K "SHAPES") "num" [.str "num"]),
  (dtupB (fun K => He.ga K "SHAPES") "here" []),
  (dtupB (fun K => He.ga K "SHAPES") "next" []),
  (dtupB (fun K => He.ga K "SHAPES") "add" [.str "line", .str "line"]),
  (dtupB (fun K => He.ga K "SHAPES") "sub" [.str "line", .str "line"]),
  (dtupB (fun K => He.ga K "SHAPES") "and" [.str "line", .str "line"]),
  (dtupB (fun K => He.ga K "SHAPES") "or" [.str "line", .str "line"]),
  (dtupB (fun K => He.ga K "SHAPES") "xor" [.str "line", .str "line"]),
  (dtupB (fun K => He.ga K "SHAPES") "less" [.str "line", .str "line"]),
  (dtupB (fun K => He.ga K "SHAPES") "same" [.str "line", .str "line"]),
  (dtupB (fun K => He.ga K "SHAPES") "read" [.str "line"]),
  (dtupB (fun K => He.ga K "SHAPES") "in" [.str "from"]),
  (dtupB (fun K => He.ga K "SHAPES") "must" [.str "line", .str "cause"]),
  (dtupB (fun K => He.ga K "SHAPES") "write" [.str "line", .str "line"]),
  (dtupB (fun K => He.ga K "SHAPES") "out" [.str "to", .str "line"]),
  (dtupB (fun K => He.ga K "SHAPES") "put" [.str "reg", .str "line"]),
  (dtupB (fun K => He.ga K "SHAPES") "goto" [.str "line"]),
  (fun K => (He.Fa.glo "good_entry").ok K),
  (fun K => (He.Fa.glo "good_line").ok K),
  (fun K => (He.Fa.glo "EFFECTS").ok K),
  (fun K => He.tupB K "EFFECTS" [.str "write", .str "in", .str "out"]),
  (fun K => (He.Fa.glo "OTHERS").ok K),
  (fun K => He.tupB K "OTHERS" [.str "must", .str "write", .str "out", .str "put", .str "goto"]),
  (fun K => (He.Fa.glo "first_wrong").ok K),
  (fun K => (He.Fa.cls "Form").ok K),
  (fun K => (He.Fa.noat "Form" "name").ok K),
  (fun K => (He.Fa.noat "Form" "patterns").ok K),
  (fun K => (He.Fa.noat "Form" "lines").ok K),
  (fun K => (He.Fa.noat "Form" "size").ok K),
  (fun K => (He.Fa.noat "Form" "letters").ok K),
  (fun K => (He.Fa.glo "line_at").ok K),
  (fun K => (He.Fa.noat "Form" "effect").ok K),
  (fun K => (He.Fa.noat "Form" "goto").ok K),
  (fun K => (He.Fa.mkr "Form").ok K),
  (fun K => (He.Fa.glo "Form").ok K),
  (fun K => (He.Fa.glo "made_form").ok K),
  (fun K => (He.Fa.glo "made_forms").ok K),
  (fun K => (He.Fa.noat "Book" "forms").ok K),
  (fun K => (He.Fa.glo "words_of_line").ok K),
  (fun K => (He.Fa.noat "Book" "_text").ok K),
  (fun K => (He.Fa.mkr "Book").ok K),
  (fun K => (He.Fa.glo "Book").ok K),
  (fun K => (He.Fa.glo "_law_fits").ok K),
  (fun K => (He.Fa.glo "_law_shared").ok K),
  (fun K => (He.Fa.free "zip").ok K),
  (fun K => (He.Fa.glo "joined_word").ok K),
  (fun K => (He.Fa.glo "shared_code").ok K),
  (fun K => (He.Fa.glo "_law_is_int").ok K),
  (fun K => (He.Fa.glo "_law_is_code").ok K),
  (fun K => (He.Fa.glo "_law_first_is").ok K),
  (fun K => (He.Fa.glo "first_shared").ok K),
  (oexB (fun K => He.ga K "OneCode")),
  (nodB (fun K => He.ga K "OneCode") ["first", "second", "code"]),
  (iniB (fun K => He.ga K "OneCode")),
  (fun K => (He.Fa.glo "OneCode").ok K),
  (fun K => (He.Fa.meth "Book" "form_named").ok K),
  (fun K => (He.Fa.glo "half_run").ok K),
  (oexB (fun K => He.ga K "HalfDone")),
  (nodB (fun K => He.ga K "HalfDone") ["form", "code", "place", "regs", "answers"]),
  (iniB (fun K => He.ga K "HalfDone")),
  (fun K => (He.Fa.glo "HalfDone").ok K),
  (fun K => (He.Fa.glo "check_book").ok K),
  (kxB kxs),
  (fun K => xfB K (He.ga K "OneCode")),
  (nofB (fun K => He.ga K "OneCode") "first"),
  (nofB (fun K => He.ga K "OneCode") "second"),
  (nofB (fun K => He.ga K "OneCode") "code"),
  (excCB (fun K => He.ga K "OneCode")),
  (fun K => (He.Fa.glo "Refusal").ok K),
  (fun K => (He.Fa.glo "is_let_by").ok K),
  (fun K => (He.Fa.glo "_law_checked_is").ok K),
  (fun K => (He.Fa.glo "law").ok K)]
def fn : List XDef := [⟨fun K => He.ga K "_law_draws", "_law_draws", "_law_draws", top 101⟩,
  ⟨fun K => He.ga K "_law_take", "_law_take", "_law_take", top 102⟩,
  ⟨fun K => He.ga K "_law_bent", "_law_bent", "_law_bent", top 106⟩,
  ⟨fun K => He.ga K "_law_patterns", "_law_patterns", "_law_patterns", top 105⟩,
  ⟨fun K => He.ga K "_law_form_rows", "_law_form_rows", "_law_form_rows", top 107⟩,
  ⟨fun K => He.ga K "is_integer", "is_integer", "is_integer", top 24⟩,
  ⟨fun K => He.ga K "check_int", "check_int", "check_int", top 25⟩,
  ⟨fun K => He.ga K "is_small_word", "is_small_word", "is_small_word", top 33⟩,
  ⟨fun K => He.ga K "letters_of", "letters_of", "letters_of", top 19⟩,
  ⟨fun K => He.ga K "good_patterns", "good_patterns", "good_patterns", top 34⟩,
  ⟨fun K => He.ga K "ones", "ones", "ones", top 26⟩,
  ⟨fun K => He.ga K "good_entry", "good_entry", "good_entry", top 35⟩,
  ⟨fun K => He.ga K "good_line", "good_line", "good_line", top 36⟩,
  ⟨fun K => He.ga K "first_wrong", "first_wrong", "first_wrong", top 37⟩,
  ⟨fun K => He.ga K "line_at", "line_at", "line_at", top 38⟩,
  ⟨fun K => He.ma K (He.ga K "Form") "__init__", "__init__", "Form.__init__", inClass (top 39) 0⟩,
  ⟨fun K => He.ga K "made_form", "made_form", "made_form", top 40⟩,
  ⟨fun K => He.ga K "made_forms", "made_forms", "made_forms", top 41⟩,
  ⟨fun K => He.ga K "words_of_line", "words_of_line", "words_of_line", top 42⟩,
  ⟨fun K => He.ma K (He.ga K "Book") "__init__", "__init__", "Book.__init__", inClass (top 47) 0⟩,
  ⟨fun K => He.ga K "_law_fits", "_law_fits", "_law_fits", top 104⟩,
  ⟨fun K => He.ga K "_law_shared", "_law_shared", "_law_shared", top 109⟩,
  ⟨fun K => He.ga K "joined_word", "joined_word", "joined_word", top 2⟩,
  ⟨fun K => He.ga K "shared_code", "shared_code", "shared_code", top 3⟩,
  ⟨fun K => He.ga K "_law_is_int", "_law_is_int", "_law_is_int", top 103⟩,
  ⟨fun K => He.ga K "_law_is_code", "_law_is_code", "_law_is_code", top 108⟩,
  ⟨fun K => He.ga K "_law_first_is", "_law_first_is", "_law_first_is", top 110⟩,
  ⟨fun K => He.ga K "first_shared", "first_shared", "first_shared", top 4⟩,
  ⟨fun K => He.ma K (He.ga K "OneCode") "__init__", "__init__", "OneCode.__init__", inClass (top 14) 0⟩,
  ⟨fun K => He.ma K (He.ga K "Book") "form_named", "form_named", "Book.form_named", inClass (top 47) 3⟩,
  ⟨fun K => He.ga K "half_run", "half_run", "half_run", top 96⟩,
  ⟨fun K => He.ma K (He.ga K "HalfDone") "__init__", "__init__", "HalfDone.__init__", inClass (top 15) 0⟩,
  ⟨fun K => He.ga K "check_book", "check_book", "check_book", top 98⟩,
  ⟨fun K => He.ga K "is_let_by", "is_let_by", "is_let_by", top 99⟩,
  ⟨fun K => He.ga K "_law_checked_is", "_law_checked_is", "_law_checked_is", top 111⟩,
  ⟨fun K => He.ga K "law", "law", "law", top 112⟩]
def ts : List He.Tab := [(fun K => He.ga K "SHAPES", ["get", "num", "here", "next", "add", "sub", "and", "or", "xor", "less", "same", "read", "in", "must", "write", "out", "put", "goto"])]
def loose1 : List Str := ["_wall", "__name__", "joined_word", "shared_code", "first_shared", "Refusal", "BadNumber", "BadWords", "BadPart", "BadOp", "TooMany", "BadLine", "BadBook", "OneCode", "HalfDone", "BadSource", "LETTERS", "letters_of", "word_bits", "cells_of", "FIGURES", "is_integer", "check_int", "ones", "plain_number", "SMALL", "EFFECTS", "OTHERS", "SHAPES", "is_small_word"]
def loose2 : List Str := ["good_patterns", "good_entry", "good_line", "first_wrong", "line_at", "Form", "made_form", "made_forms", "words_of_line", "line_read", "text_rows", "head_number", "form_rows", "Book", "OPS", "EITHER", "MOST", "worked", "Pool", "lifted", "is_value", "registers_of", "said", "line_parts", "SUMS", "LOOKS", "check_limits", "check_demands", "check_cover", "reached_by"]
def loose3 : List Str := ["standing_parts", "BitPlan", "standing_masks", "next_masks", "starts_of", "is_last", "MOST_UNKNOWNS", "MOST_STANDING", "MOST_DEMANDS", "groups", "check_sizes", "fit_groups", "choice_tables", "allowed_choices", "parted", "is_lost", "way_on", "group_way", "checked", "solved", "namings", "free_limits", "parts_named", "shown_run", "half_named", "half_run", "check_book", "is_let_by", "_law_draws", "_law_take"]
def loose4 : List Str := ["_law_is_int", "_law_fits", "_law_patterns", "_law_bent", "_law_form_rows", "_law_is_code", "_law_shared", "_law_first_is", "_law_checked_is"]
def loose : List Str := loose1 ++ loose2 ++ loose3 ++ loose4
abbrev R : PySem.W.OpenRow := PySem.W.OpenLaw.row PySem.Challenge.rw_selfwritten_k10_codes_two_forms_share
abbrev hk : PySem.W.Hook := hookY 5 bs fn ts
def ob (s : PySem.W.SharedT) : XA := obsYG 5 bs fn ts (HandSHeadRun.getT s)
theorem ob_eq (s : PySem.W.SharedT) : ob s = hk.obs s.abs := obsYG_eq (HandSHeadRun.getT_eq s)
abbrev PW (w : World) : Prop := HandSHeadRun.RunEq R (PySem.W.view R.prog [112]) hk ob 20000 loose w
set_option maxHeartbeats 0 in
theorem run_f (w : World) : PW (w.withFollow "special-get-raises" false) := by intro os; kernel_rfl
set_option maxHeartbeats 0 in
theorem run_t (w : World) : PW (w.withFollow "special-get-raises" true) := by intro os; kernel_rfl
theorem run (w : World) : HandSHeadRun.RunEq R (PySem.W.view R.prog [112]) hk ob 20000 loose w := PySem.W.byRow2 "special-get-raises" (P := PW) run_f run_t w
end K10

set_option Elab.async false
set_option linter.all false
set_option maxRecDepth 100000
set_option maxHeartbeats 4000000
set_option autoImplicit false
noncomputable section
namespace K10
open PySem PySem.Spec L2 DL
structure Fx (w : World) (K : Fg) (mg : Str → Option Value) : Prop where
  fr_len : mg "len" = none
  fr_min : mg "min" = none
  fr_range : mg "range" = none
  fr_int : mg "int" = none
  gl__law_draws : mg "_law_draws" = some (.ref (He.ga K "_law_draws"))
  fn__law_draws : ∃ fd, Fun K "_law_draws" "_law_draws" (top 101) (He.ga K "_law_draws") fd
  gl__law_take : mg "_law_take" = some (.ref (He.ga K "_law_take"))
  fn__law_take : ∃ fd, Fun K "_law_take" "_law_take" (top 102) (He.ga K "_law_take") fd
  gl__law_bent : mg "_law_bent" = some (.ref (He.ga K "_law_bent"))
  fn__law_bent : ∃ fd, Fun K "_law_bent" "_law_bent" (top 106) (He.ga K "_law_bent") fd
  gl__law_patterns : mg "_law_patterns" = some (.ref (He.ga K "_law_patterns"))
  fn__law_patterns : ∃ fd, Fun K "_law_patterns" "_law_patterns" (top 105) (He.ga K "_law_patterns") fd
  gl__law_form_rows : mg "_law_form_rows" = some (.ref (He.ga K "_law_form_rows"))
  fn__law_form_rows : ∃ fd, Fun K "_law_form_rows" "_law_form_rows" (top 107) (He.ga K "_law_form_rows") fd
  fr_list : mg "list" = none
  own : ∀ C ∈ owns K, Own K C
  kit : KitOk K (kits K)
  fr_isinstance : mg "isinstance" = none
  fr_bool : mg "bool" = none
  gl_is_integer : mg "is_integer" = some (.ref (He.ga K "is_integer"))
  fn_is_integer : ∃ fd, Fun K "is_integer" "is_integer" (top 24) (He.ga K "is_integer") fd
  gl_check_int : mg "check_int" = some (.ref (He.ga K "check_int"))
  fn_check_int : ∃ fd, Fun K "check_int" "check_int" (top 25) (He.ga K "check_int") fd
  cl_Book : Cls K (He.ga K "Book")
  na_Book_word : NoAttr K (He.ga K "Book") "word"
  na_Book_registers : NoAttr K (He.ga K "Book") "registers"
  fr_tuple : mg "tuple" = none
  fr_str : mg "str" = none
  st_SMALL : ∃ t, mg "SMALL" = some (.str "abcdefghijklmnopqrstuvwxyz" t)
  fr_all : mg "all" = none
  gl_is_small_word : mg "is_small_word" = some (.ref (He.ga K "is_small_word"))
  fn_is_small_word : ∃ fd, Fun K "is_small_word" "is_small_word" (top 33) (He.ga K "is_small_word") fd
  st_LETTERS : ∃ t, mg "LETTERS" = some (.str "abcmn" t)
  gl_letters_of : mg "letters_of" = some (.ref (He.ga K "letters_of"))
  fn_letters_of : ∃ fd, Fun K "letters_of" "letters_of" (top 19) (He.ga K "letters_of") fd
  gl_good_patterns : mg "good_patterns" = some (.ref (He.ga K "good_patterns"))
  fn_good_patterns : ∃ fd, Fun K "good_patterns" "good_patterns" (top 34) (He.ga K "good_patterns") fd
  gl_ones : mg "ones" = some (.ref (He.ga K "ones"))
  fn_ones : ∃ fd, Fun K "ones" "ones" (top 26) (He.ga K "ones") fd
  fr_enumerate : mg "enumerate" = none
  gl_SHAPES : mg "SHAPES" = some (.ref (He.ga K "SHAPES"))
  kt_SHAPES : KTabOk K w (He.ga K "SHAPES") tab_SHAPES
  gl_good_entry : mg "good_entry" = some (.ref (He.ga K "good_entry"))
  fn_good_entry : ∃ fd, Fun K "good_entry" "good_entry" (top 35) (He.ga K "good_entry") fd
  gl_good_line : mg "good_line" = some (.ref (He.ga K "good_line"))
  fn_good_line : ∃ fd, Fun K "good_line" "good_line" (top 36) (He.ga K "good_line") fd
  gl_EFFECTS : mg "EFFECTS" = some (.ref (He.ga K "EFFECTS"))
  tp_EFFECTS : ∀ ads B, Rep K ads B (.kt [.str "write", .str "in", .str "out"]) (.ref (He.ga K "EFFECTS"))
  gl_OTHERS : mg "OTHERS" = some (.ref (He.ga K "OTHERS"))
  tp_OTHERS : ∀ ads B, Rep K ads B (.kt [.str "must", .str "write", .str "out", .str "put", .str "goto"]) (.ref (He.ga K "OTHERS"))
  gl_first_wrong : mg "first_wrong" = some (.ref (He.ga K "first_wrong"))
  fn_first_wrong : ∃ fd, Fun K "first_wrong" "first_wrong" (top 37) (He.ga K "first_wrong") fd
  cl_Form : Cls K (He.ga K "Form")
  na_Form_name : NoAttr K (He.ga K "Form") "name"
  na_Form_patterns : NoAttr K (He.ga K "Form") "patterns"
  na_Form_lines : NoAttr K (He.ga K "Form") "lines"
  na_Form_size : NoAttr K (He.ga K "Form") "size"
  na_Form_letters : NoAttr K (He.ga K "Form") "letters"
  gl_line_at : mg "line_at" = some (.ref (He.ga K "line_at"))
  fn_line_at : ∃ fd, Fun K "line_at" "line_at" (top 38) (He.ga K "line_at") fd
  na_Form_effect : NoAttr K (He.ga K "Form") "effect"
  na_Form_goto : NoAttr K (He.ga K "Form") "goto"
  fn_Form_init : ∃ fd, Fun K "__init__" "Form.__init__" (inClass (top 39) 0) (He.ma K (He.ga K "Form") "__init__") fd
  mk_Form : Mk K (He.ga K "Form") (He.ma K (He.ga K "Form") "__init__")
  gl_Form : mg "Form" = some (.ref (He.ga K "Form"))
  gl_made_form : mg "made_form" = some (.ref (He.ga K "made_form"))
  fn_made_form : ∃ fd, Fun K "made_form" "made_form" (top 40) (He.ga K "made_form") fd
  gl_made_forms : mg "made_forms" = some (.ref (He.ga K "made_forms"))
  fn_made_forms : ∃ fd, Fun K "made_forms" "made_forms" (top 41) (He.ga K "made_forms") fd
  na_Book_forms : NoAttr K (He.ga K "Book") "forms"
  gl_words_of_line : mg "words_of_line" = some (.ref (He.ga K "words_of_line"))
  fn_words_of_line : ∃ fd, Fun K "words_of_line" "words_of_line" (top 42) (He.ga K "words_of_line") fd
  na_Book__text : NoAttr K (He.ga K "Book") "_text"
  fn_Book_init : ∃ fd, Fun K "__init__" "Book.__init__" (inClass (top 47) 0) (He.ma K (He.ga K "Book") "__init__") fd
  mk_Book : Mk K (He.ga K "Book") (He.ma K (He.ga K "Book") "__init__")
  gl_Book : mg "Book" = some (.ref (He.ga K "Book"))
  gl__law_fits : mg "_law_fits" = some (.ref (He.ga K "_law_fits"))
  fn__law_fits : ∃ fd, Fun K "_law_fits" "_law_fits" (top 104) (He.ga K "_law_fits") fd
  gl__law_shared : mg "_law_shared" = some (.ref (He.ga K "_law_shared"))
  fn__law_shared : ∃ fd, Fun K "_law_shared" "_law_shared" (top 109) (He.ga K "_law_shared") fd
  fr_zip : mg "zip" = none
  gl_joined_word : mg "joined_word" = some (.ref (He.ga K "joined_word"))
  fn_joined_word : ∃ fd, Fun K "joined_word" "joined_word" (top 2) (He.ga K "joined_word") fd
  gl_shared_code : mg "shared_code" = some (.ref (He.ga K "shared_code"))
  fn_shared_code : ∃ fd, Fun K "shared_code" "shared_code" (top 3) (He.ga K "shared_code") fd
  gl__law_is_int : mg "_law_is_int" = some (.ref (He.ga K "_law_is_int"))
  fn__law_is_int : ∃ fd, Fun K "_law_is_int" "_law_is_int" (top 103) (He.ga K "_law_is_int") fd
  gl__law_is_code : mg "_law_is_code" = some (.ref (He.ga K "_law_is_code"))
  fn__law_is_code : ∃ fd, Fun K "_law_is_code" "_law_is_code" (top 108) (He.ga K "_law_is_code") fd
  gl__law_first_is : mg "_law_first_is" = some (.ref (He.ga K "_law_first_is"))
  fn__law_first_is : ∃ fd, Fun K "_law_first_is" "_law_first_is" (top 110) (He.ga K "_law_first_is") fd
  gl_first_shared : mg "first_shared" = some (.ref (He.ga K "first_shared"))
  fn_first_shared : ∃ fd, Fun K "first_shared" "first_shared" (top 4) (He.ga K "first_shared") fd
  ox_OneCode : OexE K (He.ga K "OneCode")
  nd_OneCode : ∀ f ∈ (["first", "second", "code"] : List Str), PySem.W.takerIn K (He.ga K "OneCode") f = some none
  ii_OneCode : PySem.W.findIn K (.ref (He.ga K "OneCode")) "__init__" = some (some (.ref (He.ma K (He.ga K "OneCode") "__init__"))) ∧ PySem.W.typeIn K (.ref (He.ma K (He.ga K "OneCode") "__init__")) = some (.type "function")
  gl_OneCode : mg "OneCode" = some (.ref (He.ga K "OneCode"))
  fn_OneCode_init : ∃ fd, Fun K "__init__" "OneCode.__init__" (inClass (top 14) 0) (He.ma K (He.ga K "OneCode") "__init__") fd
  fn_Book_form_named : ∃ fd, Fun K "form_named" "Book.form_named" (inClass (top 47) 3) (He.ma K (He.ga K "Book") "form_named") fd
  me_Book_form_named : Meth K (He.ga K "Book") "form_named" (He.ma K (He.ga K "Book") "form_named")
  gl_half_run : mg "half_run" = some (.ref (He.ga K "half_run"))
  fn_half_run : ∃ fd, Fun K "half_run" "half_run" (top 96) (He.ga K "half_run") fd
  ox_HalfDone : OexE K (He.ga K "HalfDone")
  nd_HalfDone : ∀ f ∈ (["form", "code", "place", "regs", "answers"] : List Str), PySem.W.takerIn K (He.ga K "HalfDone") f = some none
  ii_HalfDone : PySem.W.findIn K (.ref (He.ga K "HalfDone")) "__init__" = some (some (.ref (He.ma K (He.ga K "HalfDone") "__init__"))) ∧ PySem.W.typeIn K (.ref (He.ma K (He.ga K "HalfDone") "__init__")) = some (.type "function")
  gl_HalfDone : mg "HalfDone" = some (.ref (He.ga K "HalfDone"))
  fn_HalfDone_init : ∃ fd, Fun K "__init__" "HalfDone.__init__" (inClass (top 15) 0) (He.ma K (He.ga K "HalfDone") "__init__") fd
  gl_check_book : mg "check_book" = some (.ref (He.ga K "check_book"))
  fn_check_book : ∃ fd, Fun K "check_book" "check_book" (top 98) (He.ga K "check_book") fd
  kx : KXOk K (kxs K)
  xf_OneCode : XfC K (He.ga K "OneCode")
  xn_OneCode_first : PySem.W.findIn K (.ref (He.ga K "OneCode")) "first" = some none
  xn_OneCode_second : PySem.W.findIn K (.ref (He.ga K "OneCode")) "second" = some none
  xn_OneCode_code : PySem.W.findIn K (.ref (He.ga K "OneCode")) "code" = some none
  ec_OneCode : ExcC K (He.ga K "OneCode")
  gl_Refusal : mg "Refusal" = some (.ref (He.ga K "Refusal"))
  gl_is_let_by : mg "is_let_by" = some (.ref (He.ga K "is_let_by"))
  fn_is_let_by : ∃ fd, Fun K "is_let_by" "is_let_by" (top 99) (He.ga K "is_let_by") fd
  gl__law_checked_is : mg "_law_checked_is" = some (.ref (He.ga K "_law_checked_is"))
  fn__law_checked_is : ∃ fd, Fun K "_law_checked_is" "_law_checked_is" (top 111) (He.ga K "_law_checked_is") fd
  gl_law : mg "law" = some (.ref (He.ga K "law"))
  fn_law : ∃ fd, Fun K "law" "law" (top 112) (He.ga K "law") fd
section
variable {P : Program} {w : World} {K : Fg} {mg : Str → Option Value} {base : Heap} {f : Addr}
theorem Fx.fld_Book_word (F : Fx w K mg) : ∀ C ∈ [He.ga K "Book"], Cls K C ∧ NoAttr K C "word" := fun C h => by rw [List.mem_singleton.mp h]; exact ⟨F.cl_Book, F.na_Book_word⟩
theorem Fx.fld_Book_registers (F : Fx w K mg) : ∀ C ∈ [He.ga K "Book"], Cls K C ∧ NoAttr K C "registers" := fun C h => by rw [List.mem_singleton.mp h]; exact ⟨F.cl_Book, F.na_Book_registers⟩
theorem Fx.fld_Form_name (F : Fx w K mg) : ∀ C ∈ [He.ga K "Form"], Cls K C ∧ NoAttr K C "name" := fun C h => by rw [List.mem_singleton.mp h]; exact ⟨F.cl_Form, F.na_Form_name⟩
theorem Fx.fld_Form_patterns (F : Fx w K mg) : ∀ C ∈ [He.ga K "Form"], Cls K C ∧ NoAttr K C "patterns" := fun C h => by rw [List.mem_singleton.mp h]; exact ⟨F.cl_Form, F.na_Form_patterns⟩
theorem Fx.fld_Form_lines (F : Fx w K mg) : ∀ C ∈ [He.ga K "Form"], Cls K C ∧ NoAttr K C "lines" := fun C h => by rw [List.mem_singleton.mp h]; exact ⟨F.cl_Form, F.na_Form_lines⟩
theorem Fx.fld_Form_size (F : Fx w K mg) : ∀ C ∈ [He.ga K "Form"], Cls K C ∧ NoAttr K C "size" := fun C h => by rw [List.mem_singleton.mp h]; exact ⟨F.cl_Form, F.na_Form_size⟩
theorem Fx.fld_Form_letters (F : Fx w K mg) : ∀ C ∈ [He.ga K "Form"], Cls K C ∧ NoAttr K C "letters" := fun C h => by rw [List.mem_singleton.mp h]; exact ⟨F.cl_Form, F.na_Form_letters⟩
theorem Fx.fld_Form_effect (F : Fx w K mg) : ∀ C ∈ [He.ga K "Form"], Cls K C ∧ NoAttr K C "effect" := fun C h => by rw [List.mem_singleton.mp h]; exact ⟨F.cl_Form, F.na_Form_effect⟩
theorem Fx.fld_Form_goto (F : Fx w K mg) : ∀ C ∈ [He.ga K "Form"], Cls K C ∧ NoAttr K C "goto" := fun C h => by rw [List.mem_singleton.mp h]; exact ⟨F.cl_Form, F.na_Form_goto⟩
theorem Fx.fld_Book_forms (F : Fx w K mg) : ∀ C ∈ [He.ga K "Book"], Cls K C ∧ NoAttr K C "forms" := fun C h => by rw [List.mem_singleton.mp h]; exact ⟨F.cl_Book, F.na_Book_forms⟩
theorem Fx.fld_Book__text (F : Fx w K mg) : ∀ C ∈ [He.ga K "Book"], Cls K C ∧ NoAttr K C "_text" := fun C h => by rw [List.mem_singleton.mp h]; exact ⟨F.cl_Book, F.na_Book__text⟩
def B__law_draws (K : Fg) : TO' := dsSeq (dsSet 1 (dAmb (dLst (dNil)))) (dsSeq (dsFor (dRng1 (dMin2 (dLen (qVal (dVar 0))) (dC (.int 63)))) (gtName 2) (dsSeq (dsSet 3 (dInt (dIx (qVal (dVar 0)) (dVar 2)))) (dsSeq (dsSet 4 (dC (.int 0))) (dsSeq (dsIf (dTest (dBin gLt (dVar 3) (dC (.int 0)))) (dsSeq (dsSet 4 (dC (.int 1))) (dsSet 3 (dNeg (dVar 3)))) (dsNext)) (dsIf (dTest (dBin gGe (dVar 3) (dBin gPow (dC (.int 10)) (dC (.int 18))))) (dsFor (dRng1 (dC (.int 45))) (gtName 5) (dsIf (dTest (dBin gGt (dVar 3) (dC (.int 0)))) (dsSeq (dsAppM (dVar 1) (dBin gMod (dInt (dVar 3)) (dC (.int 30)))) (dsSet 3 (dBin gDiv (dVar 3) (dC (.int 30))))) (dsNext))) (dsSeq (dsSet 6 (dBin gMod (dInt (dBin gAdd (dBin gAdd (dBin gAdd (dBin gMul (dVar 3) (dC (.int 16807))) (dBin gMul (dVar 4) (dC (.int 911)))) (dBin gMul (dVar 2) (dC (.int 7919)))) (dC (.int 13)))) (dC (.int 2147483647)))) (dsFor (dRng1 (dC (.int 6))) (gtName 5) (dsSeq (dsSet 6 (dBin gMod (dInt (dBin gAdd (dBin gAdd (dBin gMul (dVar 6) (dC (.int 69621))) (dBin gDiv (dVar 6) (dC (.int 1000)))) (dVar 5))) (dC (.int 2147483647)))) (dsAppM (dVar 1) (dBin gDiv (dVar 6) (dC (.int 8)))))))))))) (dsSeq (dsFzM 1) (dsRet (dAmb (dLst (dCons (dC (.int 0)) (dCons (dVar 1) (dNil))))))))
def S__law_draws (K : Fg) : List D → M D := runF 7 (B__law_draws K)
abbrev N__law_draws : List Str := ["_law_script", "_law_numbers", "_law_at", "_law_cell", "_law_sign", "_law_turn", "_law_mixed"]
abbrev P__law_draws : List Str := ["_law_script"]
theorem sc__law_draws : FnScope N__law_draws P__law_draws (defScope (top 101)) := ⟨rfl, rfl, rfl, by decide +kernel, rfl, by decide +kernel, by decide +kernel⟩
set_option maxHeartbeats 4000000 in
theorem b__law_draws (F : Fx w K mg) : ∀ cdv A outer s H E, Room 0 (XB P w K mg base N__law_draws "_law_draws" (top 101) f cdv A outer s H E).A → DSs (XB P w K mg base N__law_draws "_law_draws" (top 101) f cdv A outer s H E) (WB E) (defBody (top 101)) (B__law_draws K) := by
  intro cdv A outer s H E hr
  have tk : Takes (XB P w K mg base N__law_draws "_law_draws" (top 101) f cdv A outer s H E) (WB E) := takes_of rfl rfl rfl rfl
  have nd_ : (XB P w K mg base N__law_draws "_law_draws" (top 101) f cdv A outer s H E).N.Nodup := sc__law_draws.nd
  exact dss_cons (ds_set (i := 1) sc__law_draws.nd (de_amb (df_lst (da_nil)))) (dss_cons (ds_for (passes_of rfl) rfl (di_rng1 (de_min2 (de_len (dq_val (de_var 0)) F.fr_len) (de_int) rfl F.fr_min) F.fr_range) (dg_name 2 sc__law_draws.nd) (dss_cons (ds_set (i := 3) sc__law_draws.nd (de_intOf (de_ix (dq_val (de_var 0)) (de_var 2)) F.fr_int)) (dss_cons (ds_set (i := 4) sc__law_draws.nd (de_int)) (dss_cons (ds_if (dt_cmp od_lt (de_var 3) (de_int)) (dss_cons (ds_set (i := 4) sc__law_draws.nd (de_int)) (dss_one (ds_set (i := 3) sc__law_draws.nd (de_neg (de_var 3))))) (dss_nil)) (dss_one (ds_if (dt_cmp od_ge (de_var 3) (de_op od_pow (de_int) (de_int))) (dss_one (ds_for (passes_of rfl) rfl (di_rng1 (de_int) F.fr_range) (dg_name 5 sc__law_draws.nd) (dss_one (ds_if (dt_cmp od_gt (de_var 3) (de_int)) (dss_cons (ds_appM (de_var 1) (de_op od_mod (de_intOf (de_var 3) F.fr_int) (de_int))) (dss_one (ds_set (i := 3) sc__law_draws.nd (de_op od_div (de_var 3) (de_int))))) (dss_nil))))) (dss_cons (ds_set (i := 6) sc__law_draws.nd (de_op od_mod (de_intOf (de_op od_add (de_op od_add (de_op od_add (de_op od_mul (de_var 3) (de_int)) (de_op od_mul (de_var 4) (de_int))) (de_op od_mul (de_var 2) (de_int))) (de_int)) F.fr_int) (de_int))) (dss_one (ds_for (passes_of rfl) rfl (di_rng1 (de_int) F.fr_range) (dg_name 5 sc__law_draws.nd) (dss_cons (ds_set (i := 6) sc__law_draws.nd (de_op od_mod (de_intOf (de_op od_add (de_op od_add (de_op od_mul (de_var 6) (de_int)) (de_op od_div (de_var 6) (de_int))) (de_var 5)) F.fr_int) (de_int))) (dss_one (ds_appM (de_var 1) (de_op od_div (de_var 6) (de_int)))))))))))))) (dss_fzM 1 (dss_one (ds_ret (de_amb (df_lst (da_cons (de_int) (da_cons (de_var 1) (da_nil)))))))))
theorem k__law_draws (F : Fx w K mg) : Known P w K mg base "_law_draws" 1 1 (S__law_draws K) := by
  obtain ⟨fd, hf⟩ := F.fn__law_draws
  exact (known_of hf sc__law_draws F.gl__law_draws (fun_binds hf fun _ _ _ _ _ _ us hl => match us, hl with | [_], _ => rfl) rfl (b__law_draws F))

def B__law_take (K : Fg) : TO' := dsSeq (dsSet 2 (dIx (qVal (dVar 0)) (dC (.int 0)))) (dsSeq (dsIf (dTest (dBin gGe (dVar 2) (dLen (qVal (dIx (qVal (dVar 0)) (dC (.int 1))))))) (dsRet (dC (.int 0))) (dsNext)) (dsSeq (dsSetIxM (dBin gAdd (dVar 2) (dC (.int 1))) (dVar 0) (dC (.int 0))) (dsRet (dBin gMod (dInt (dIx (qVal (dIx (qVal (dVar 0)) (dC (.int 1)))) (dVar 2))) (dVar 1)))))
def S__law_take (K : Fg) : List D → M D := scopeF (runF 3 (B__law_take K))
abbrev N__law_take : List Str := ["_law_draws_here", "_law_many", "_law_at"]
abbrev P__law_take : List Str := ["_law_draws_here", "_law_many"]
theorem sc__law_take : FnScope N__law_take P__law_take (defScope (top 102)) := ⟨rfl, rfl, rfl, by decide +kernel, rfl, by decide +kernel, by decide +kernel⟩
set_option maxHeartbeats 4000000 in
theorem b__law_take (F : Fx w K mg) : ∀ cdv A outer s H E, Room 0 (XB P w K mg base N__law_take "_law_take" (top 102) f cdv A outer s H E).A → DSs (XB P w K mg base N__law_take "_law_take" (top 102) f cdv A outer s H E) (WB E) (defBody (top 102)) (B__law_take K) := by
  intro cdv A outer s H E hr
  have tk : Takes (XB P w K mg base N__law_take "_law_take" (top 102) f cdv A outer s H E) (WB E) := takes_of rfl rfl rfl rfl
  have nd_ : (XB P w K mg base N__law_take "_law_take" (top 102) f cdv A outer s H E).N.Nodup := sc__law_take.nd
  exact dss_cons (ds_set (i := 2) sc__law_take.nd (de_ix (dq_val (de_var 0)) (de_int))) (dss_cons (ds_if (dt_cmp od_ge (de_var 2) (de_len (dq_val (de_ix (dq_val (de_var 0)) (de_int))) F.fr_len)) (dss_one (ds_ret (de_int))) (dss_nil)) (dss_cons (ds_setIxM (de_op od_add (de_var 2) (de_int)) (de_var 0) (de_int)) (dss_one (ds_ret (de_op od_mod (de_intOf (de_ix (dq_val (de_ix (dq_val (de_var 0)) (de_int))) (de_var 2)) F.fr_int) (de_var 1))))))
theorem k__law_take (F : Fx w K mg) : Known P w K mg base "_law_take" 1 2 (S__law_take K) := by
  obtain ⟨fd, hf⟩ := F.fn__law_take
  exact (known_of hf sc__law_take F.gl__law_take (fun_binds hf fun _ _ _ _ _ _ us hl => match us, hl with | [_, _], _ => rfl) rfl (b__law_take F)).scope

def B__law_bent (K : Fg) : TO' := dsSeq (dsSetO 2 (dLcI [7] (dVar 1) (gtName 7) (dYes) (dVar 7))) (dsSeq (dsAmb 2) (dsSeq (dsSet 3 (dCall (S__law_take K) 2 (dCons (dVar 0) (dCons (dLen (qVal (dVar 2))) (dNil))))) (dsSeq (dsSet 4 (dCall (S__law_take K) 2 (dCons (dVar 0) (dCons (dLen (qVal (dIx (qVal (dVar 2)) (dVar 3)))) (dNil))))) (dsSeq (dsSet 5 (dIxS (dC (.str "10")) (dCall (S__law_take K) 2 (dCons (dVar 0) (dCons (dC (.int 2)) (dNil)))))) (dsSeq (dsSetIxM (dBin gAdd (dBin gAdd (dSliceS (dIx (qVal (dVar 2)) (dVar 3)) (dPoN) (dPoS (dVar 4))) (dVar 5)) (dSliceS (dIx (qVal (dVar 2)) (dVar 3)) (dPoS (dBin gAdd (dVar 4) (dC (.int 1)))) (dPoN))) (dVar 2) (dVar 3)) (dsSeq (dsSet 6 (dCall (S__law_take K) 2 (dCons (dVar 0) (dCons (dC (.int 4)) (dNil))))) (dsSeq (dsIf (dAnd (dTest (dBin gEq (dVar 6) (dC (.int 1)))) (dTest (dBin gLt (dLen (qVal (dVar 2))) (dC (.int 3))))) (dsAppM (dVar 2) (dBin gMulS (dC (.str "0")) (dLen (qVal (dIx (qVal (dVar 2)) (dC (.int 0))))))) (dsNext)) (dsSeq (dsIf (dAnd (dTest (dBin gEq (dVar 6) (dC (.int 2)))) (dTest (dBin gGt (dLen (qVal (dVar 2))) (dC (.int 1))))) (dsSet 2 (dAmb (dSlice (qVal (dVar 2)) (dPoN) (dPoS (dBin gSub (dLen (qVal (dVar 2))) (dC (.int 1))))))) (dsNext)) (dsRet (dVar 2))))))))))
def S__law_bent (K : Fg) : List D → M D := runF 8 (B__law_bent K)
abbrev N__law_bent : List Str := ["_law_draws_here", "_law_patterns_here", "_law_bent_here", "_law_at", "_law_place", "_law_sign", "_law_kind", "_law_pattern"]
abbrev P__law_bent : List Str := ["_law_draws_here", "_law_patterns_here"]
theorem sc__law_bent : FnScope N__law_bent P__law_bent (defScope (top 106)) := ⟨rfl, rfl, rfl, by decide +kernel, rfl, by decide +kernel, by decide +kernel⟩
set_option maxHeartbeats 4000000 in
theorem b__law_bent (F : Fx w K mg) : ∀ cdv A outer s H E, Room 1 (XB P w K mg base N__law_bent "_law_bent" (top 106) f cdv A outer s H E).A → DSs (XB P w K mg base N__law_bent "_law_bent" (top 106) f cdv A outer s H E) (WB E) (defBody (top 106)) (B__law_bent K) := by
  intro cdv A outer s H E hr
  have tk : Takes (XB P w K mg base N__law_bent "_law_bent" (top 106) f cdv A outer s H E) (WB E) := takes_of rfl rfl rfl rfl
  have nd_ : (XB P w K mg base N__law_bent "_law_bent" (top 106) f cdv A outer s H E).N.Nodup := sc__law_bent.nd
  exact dss_cons (ds_setOLcI (i := 2) (own := [("_law_pattern", 7)]) rfl sc__law_bent.nd (de_var 1) (blkOk_by (by rfl)) (fun _ _ _ _ _ => dg_name 7 sc__law_bent.nd) (fun _ _ _ _ _ => dts_nil) (fun _ _ _ _ _ => de_var 7) (by rfl)) (dss_amb 2 (dss_cons (ds_set (i := 3) sc__law_bent.nd (de_call (k__law_take F) (hr.mono (by decide : 1 ≤ _)) tk (da_cons (de_var 0) (da_cons (de_len (dq_val (de_var 2)) F.fr_len) (da_nil))))) (dss_cons (ds_set (i := 4) sc__law_bent.nd (de_call (k__law_take F) (hr.mono (by decide : 1 ≤ _)) tk (da_cons (de_var 0) (da_cons (de_len (dq_val (de_ix (dq_val (de_var 2)) (de_var 3))) F.fr_len) (da_nil))))) (dss_cons (ds_set (i := 5) sc__law_bent.nd (de_ixS (de_str) (de_call (k__law_take F) (hr.mono (by decide : 1 ≤ _)) tk (da_cons (de_var 0) (da_cons (de_int) (da_nil)))))) (dss_cons (ds_setIxM (de_op od_add (de_op od_add (de_sliceS (de_ix (dq_val (de_var 2)) (de_var 3)) (dpo_none) (dpo_some (de_var 4))) (de_var 5)) (de_sliceS (de_ix (dq_val (de_var 2)) (de_var 3)) (dpo_some (de_op od_add (de_var 4) (de_int))) (dpo_none))) (de_var 2) (de_var 3)) (dss_cons (ds_set (i := 6) sc__law_bent.nd (de_call (k__law_take F) (hr.mono (by decide : 1 ≤ _)) tk (da_cons (de_var 0) (da_cons (de_int) (da_nil))))) (dss_cons (ds_if (dt_w (dw_and (dt_cmp (od_eq hr.units) (de_var 6) (de_int)) (dw_and1 (dt_cmp od_lt (de_len (dq_val (de_var 2)) F.fr_len) (de_int))))) (dss_one (ds_appM (de_var 2) (de_op od_mulS (de_str) (de_len (dq_val (de_ix (dq_val (de_var 2)) (de_int))) F.fr_len)))) (dss_nil)) (dss_cons (ds_if (dt_w (dw_and (dt_cmp (od_eq hr.units) (de_var 6) (de_int)) (dw_and1 (dt_cmp od_gt (de_len (dq_val (de_var 2)) F.fr_len) (de_int))))) (dss_one (ds_set (i := 2) sc__law_bent.nd (de_amb (df_slice (dq_val (de_var 2)) (dpo_none) (dpo_some (de_op od_sub (de_len (dq_val (de_var 2)) F.fr_len) (de_int))))))) (dss_nil)) (dss_one (ds_ret (de_var 2)))))))))))
theorem k__law_bent (F : Fx w K mg) : Known P w K mg base "_law_bent" 2 2 (S__law_bent K) := by
  obtain ⟨fd, hf⟩ := F.fn__law_bent
  exact (known_of hf sc__law_bent F.gl__law_bent (fun_binds hf fun _ _ _ _ _ _ us hl => match us, hl with | [_, _], _ => rfl) rfl (b__law_bent F))

def B__law_patterns (K : Fg) : TO' := dsSeq (dsSet 4 (dIx (qVal (dFz (dLst (dCons (dC (.int 0)) (dCons (dC (.int 0)) (dCons (dC (.int 1)) (dCons (dC (.int 1)) (dCons (dC (.int 2)) (dNil))))))))) (dVar 2))) (dsSeq (dsSet 5 (dDispM ["a", "b", "c", "m", "n"] [dVar 4, dVar 4, dVar 4, dVar 1, dVar 1])) (dsSeq (dsSet 6 (dAmb (dLst (dNil)))) (dsSeq (dsFor (dRng1 (dVar 3)) (gtName 7) (dsSeq (dsSet 8 (dC (.str ""))) (dsSeq (dsFor (dRng1 (dVar 1)) (gtName 9) (dsSeq (dsSet 10 (dIxS (dC (.str "0101mnab01nc")) (dCall (S__law_take K) 2 (dCons (dVar 0) (dCons (dC (.int 12)) (dNil)))))) (dsSeq (dsIf (dTest (dDIn false (dVar 10) (dVar 5))) (dsIf (dTest (dBin gEq (dDGet (dVar 5) (dVar 10)) (dC (.int 0)))) (dsSet 10 (dC (.str "0"))) (dsDPut (dBin gSub (dDGet (dVar 5) (dVar 10)) (dC (.int 1))) (dVar 5) (dVar 10))) (dsNext)) (dsSet 8 (dBin gAdd (dVar 8) (dVar 10)))))) (dsAppM (dVar 6) (dVar 8))))) (dsRet (dVar 6)))))
def S__law_patterns (K : Fg) : List D → M D := runF 11 (B__law_patterns K)
abbrev N__law_patterns : List Str := ["_law_draws_here", "_law_word", "_law_registers", "_law_many", "_law_each", "_law_left", "_law_patterns_here", "_law_at", "_law_signs", "_law_place", "_law_sign"]
abbrev P__law_patterns : List Str := ["_law_draws_here", "_law_word", "_law_registers", "_law_many"]
theorem sc__law_patterns : FnScope N__law_patterns P__law_patterns (defScope (top 105)) := ⟨rfl, rfl, rfl, by decide +kernel, rfl, by decide +kernel, by decide +kernel⟩
set_option maxHeartbeats 4000000 in
theorem b__law_patterns (F : Fx w K mg) : ∀ cdv A outer s H E, Room 1 (XB P w K mg base N__law_patterns "_law_patterns" (top 105) f cdv A outer s H E).A → DSs (XB P w K mg base N__law_patterns "_law_patterns" (top 105) f cdv A outer s H E) (WB E) (defBody (top 105)) (B__law_patterns K) := by
  intro cdv A outer s H E hr
  have tk : Takes (XB P w K mg base N__law_patterns "_law_patterns" (top 105) f cdv A outer s H E) (WB E) := takes_of rfl rfl rfl rfl
  have nd_ : (XB P w K mg base N__law_patterns "_law_patterns" (top 105) f cdv A outer s H E).N.Nodup := sc__law_patterns.nd
  exact dss_cons (ds_set (i := 4) sc__law_patterns.nd (de_ix (dq_val (de_fz (df_lst (da_cons (de_int) (da_cons (de_int) (da_cons (de_int) (da_cons (de_int) (da_cons (de_int) (da_nil))))))))) (de_var 2))) (dss_cons (ds_set (i := 5) sc__law_patterns.nd (de_dispM (.cons (de_var 4) (.cons (de_var 4) (.cons (de_var 4) (.cons (de_var 1) (.cons (de_var 1) (.nil)))))))) (dss_cons (ds_set (i := 6) sc__law_patterns.nd (de_amb (df_lst (da_nil)))) (dss_cons (ds_for (passes_of rfl) rfl (di_rng1 (de_var 3) F.fr_range) (dg_name 7 sc__law_patterns.nd) (dss_cons (ds_set (i := 8) sc__law_patterns.nd (de_str)) (dss_cons (ds_for (passes_of rfl) rfl (di_rng1 (de_var 1) F.fr_range) (dg_name 9 sc__law_patterns.nd) (dss_cons (ds_set (i := 10) sc__law_patterns.nd (de_ixS (de_str) (de_call (k__law_take F) (hr.mono (by decide : 1 ≤ _)) tk (da_cons (de_var 0) (da_cons (de_int) (da_nil)))))) (dss_cons (ds_if (dt_din (units1 hr) (de_var 10) (de_var 5)) (dss_one (ds_if (dt_cmp (od_eq hr.units) (de_dget (units1 hr) (de_var 5) (de_var 10)) (de_int)) (dss_one (ds_set (i := 10) sc__law_patterns.nd (de_str))) (dss_one (ds_dput (units1 hr) (de_op od_sub (de_dget (units1 hr) (de_var 5) (de_var 10)) (de_int)) (de_var 5) (de_var 10))))) (dss_nil)) (dss_one (ds_set (i := 8) sc__law_patterns.nd (de_op od_add (de_var 8) (de_var 10))))))) (dss_one (ds_appM (de_var 6) (de_var 8)))))) (dss_one (ds_ret (de_var 6))))))
theorem k__law_patterns (F : Fx w K mg) : Known P w K mg base "_law_patterns" 2 4 (S__law_patterns K) := by
  obtain ⟨fd, hf⟩ := F.fn__law_patterns
  exact (known_of hf sc__law_patterns F.gl__law_patterns (fun_binds hf fun _ _ _ _ _ _ us hl => match us, hl with | [_, _, _, _], _ => rfl) rfl (b__law_patterns F))

def B__law_form_rows (K : Fg) : TO' := dsSeq (dsSet 4 (dFz (dLst (dCons (dC (.str "mid")) (dCons (dC (.str "a")) (dCons (dC (.str "zebra")) (dCons (dC (.str "halt")) (dCons (dC (.str "ab")) (dCons (dC (.str "stop")) (dNil)))))))))) (dsSeq (dsSet 5 (dAmb (dLst (dNil)))) (dsSeq (dsFor (dRng1 (dVar 3)) (gtName 6) (dsSeq (dsIf (dAnd (dTest (dBin gGt (dVar 6) (dC (.int 0)))) (dTest (dBin gEq (dCall (S__law_take K) 2 (dCons (dVar 0) (dCons (dC (.int 2)) (dNil)))) (dC (.int 1))))) (dsSet 7 (dCall (S__law_bent K) 2 (dCons (dVar 0) (dCons (dIx (qVal (dIx (qVal (dVar 5)) (dCall (S__law_take K) 2 (dCons (dVar 0) (dCons (dVar 6) (dNil)))))) (dC (.int 1))) (dNil))))) (dsSet 7 (dCall (S__law_patterns K) 4 (dCons (dVar 0) (dCons (dVar 1) (dCons (dVar 2) (dCons (dIx (qVal (dFz (dLst (dCons (dC (.int 1)) (dCons (dC (.int 2)) (dCons (dC (.int 1)) (dCons (dC (.int 3)) (dCons (dC (.int 2)) (dNil))))))))) (dCall (S__law_take K) 2 (dCons (dVar 0) (dCons (dC (.int 5)) (dNil))))) (dNil)))))))) (dsAppM (dVar 5) (dTup (dCons (dIx (qVal (dVar 4)) (dVar 6)) (dCons (dVar 7) (dCons (dFz (dLst (dNil))) (dNil)))))))) (dsRet (dVar 5))))
def S__law_form_rows (K : Fg) : List D → M D := runF 8 (B__law_form_rows K)
abbrev N__law_form_rows : List Str := ["_law_draws_here", "_law_word", "_law_registers", "_law_many", "_law_names", "_law_rows", "_law_at", "_law_patterns_here"]
abbrev P__law_form_rows : List Str := ["_law_draws_here", "_law_word", "_law_registers", "_law_many"]
theorem sc__law_form_rows : FnScope N__law_form_rows P__law_form_rows (defScope (top 107)) := ⟨rfl, rfl, rfl, by decide +kernel, rfl, by decide +kernel, by decide +kernel⟩
set_option maxHeartbeats 4000000 in
theorem b__law_form_rows (F : Fx w K mg) : ∀ cdv A outer s H E, Room 2 (XB P w K mg base N__law_form_rows "_law_form_rows" (top 107) f cdv A outer s H E).A → DSs (XB P w K mg base N__law_form_rows "_law_form_rows" (top 107) f cdv A outer s H E) (WB E) (defBody (top 107)) (B__law_form_rows K) := by
  intro cdv A outer s H E hr
  have tk : Takes (XB P w K mg base N__law_form_rows "_law_form_rows" (top 107) f cdv A outer s H E) (WB E) := takes_of rfl rfl rfl rfl
  have nd_ : (XB P w K mg base N__law_form_rows "_law_form_rows" (top 107) f cdv A outer s H E).N.Nodup := sc__law_form_rows.nd
  exact dss_cons (ds_set (i := 4) sc__law_form_rows.nd (de_fz (df_lst (da_cons (de_str) (da_cons (de_str) (da_cons (de_str) (da_cons (de_str) (da_cons (de_str) (da_cons (de_str) (da_nil)))))))))) (dss_cons (ds_set (i := 5) sc__law_form_rows.nd (de_amb (df_lst (da_nil)))) (dss_cons (ds_for (passes_of rfl) rfl (di_rng1 (de_var 3) F.fr_range) (dg_name 6 sc__law_form_rows.nd) (dss_cons (ds_if (dt_w (dw_and (dt_cmp od_gt (de_var 6) (de_int)) (dw_and1 (dt_cmp (od_eq hr.units) (de_call (k__law_take F) (hr.mono (by decide : 1 ≤ _)) tk (da_cons (de_var 0) (da_cons (de_int) (da_nil)))) (de_int))))) (dss_one (ds_set (i := 7) sc__law_form_rows.nd (de_call (k__law_bent F) (hr.mono (by decide : 2 ≤ _)) tk (da_cons (de_var 0) (da_cons (de_ix (dq_val (de_ix (dq_val (de_var 5)) (de_call (k__law_take F) (hr.mono (by decide : 1 ≤ _)) tk (da_cons (de_var 0) (da_cons (de_var 6) (da_nil)))))) (de_int)) (da_nil)))))) (dss_one (ds_set (i := 7) sc__law_form_rows.nd (de_call (k__law_patterns F) (hr.mono (by decide : 2 ≤ _)) tk (da_cons (de_var 0) (da_cons (de_var 1) (da_cons (de_var 2) (da_cons (de_ix (dq_val (de_fz (df_lst (da_cons (de_int) (da_cons (de_int) (da_cons (de_int) (da_cons (de_int) (da_cons (de_int) (da_nil))))))))) (de_call (k__law_take F) (hr.mono (by decide : 1 ≤ _)) tk (da_cons (de_var 0) (da_cons (de_int) (da_nil))))) (da_nil))))))))) (dss_one (ds_appM (de_var 5) (de_tup (da_cons (de_ix (dq_val (de_var 4)) (de_var 6)) (da_cons (de_var 7) (da_cons (de_fz (df_lst (da_nil))) (da_nil))))))))) (dss_one (ds_ret (de_var 5)))))
theorem k__law_form_rows (F : Fx w K mg) : Known P w K mg base "_law_form_rows" 3 4 (S__law_form_rows K) := by
  obtain ⟨fd, hf⟩ := F.fn__law_form_rows
  exact (known_of hf sc__law_form_rows F.gl__law_form_rows (fun_binds hf fun _ _ _ _ _ _ us hl => match us, hl with | [_, _, _, _], _ => rfl) rfl (b__law_form_rows F))

def B_is_integer (K : Fg) : TO' := dsRet (dAndV (dIsi (owns K) (kits K) (dVar 0) (dC (.ty "int"))) (dNotV (dIsi (owns K) (kits K) (dVar 0) (dC (.ty "bool")))))
def S_is_integer (K : Fg) : List D → M D := scopeF (runF 1 (B_is_integer K))
abbrev N_is_integer : List Str := ["value"]
abbrev P_is_integer : List Str := ["value"]
theorem sc_is_integer : FnScope N_is_integer P_is_integer (defScope (top 24)) := ⟨rfl, rfl, rfl, by decide +kernel, rfl, by decide +kernel, by decide +kernel⟩
set_option maxHeartbeats 4000000 in
theorem b_is_integer (F : Fx w K mg) : ∀ cdv A outer s H E, Room 0 (XB P w K mg base N_is_integer "is_integer" (top 24) f cdv A outer s H E).A → DSs (XB P w K mg base N_is_integer "is_integer" (top 24) f cdv A outer s H E) (WB E) (defBody (top 24)) (B_is_integer K) := by
  intro cdv A outer s H E hr
  have tk : Takes (XB P w K mg base N_is_integer "is_integer" (top 24) f cdv A outer s H E) (WB E) := takes_of rfl rfl rfl rfl
  have nd_ : (XB P w K mg base N_is_integer "is_integer" (top 24) f cdv A outer s H E).N.Nodup := sc_is_integer.nd
  exact dss_one (ds_ret (de_and (de_isi F.own F.kit (de_var 0) ((de_bltn (d := .ty "int") F.fr_int (by decide +kernel) rfl rfl)) F.fr_isinstance) (de_one (de_not (de_isi F.own F.kit (de_var 0) ((de_bltn (d := .ty "bool") F.fr_bool (by decide +kernel) rfl rfl)) F.fr_isinstance)))))
theorem k_is_integer (F : Fx w K mg) : Known P w K mg base "is_integer" 1 1 (S_is_integer K) := by
  obtain ⟨fd, hf⟩ := F.fn_is_integer
  exact (known_of hf sc_is_integer F.gl_is_integer (fun_binds hf fun _ _ _ _ _ _ us hl => match us, hl with | [_], _ => rfl) rfl (b_is_integer F)).scope

def B_check_int (K : Fg) : TO' := dsSeq (dsIf (dOr (dNot (dTruth (dCall (S_is_integer K) 1 (dCons (dVar 0) (dNil))))) (dTest (dBin gLt (dVar 0) (dVar 1)))) (dsStuck) (dsNext)) (dsSeq (dsIf (dAnd (dTest (dBin gNotN (dVar 2) (dC .non))) (dTest (dBin gGt (dVar 0) (dVar 2)))) (dsStuck) (dsNext)) (dsRet (dVar 0)))
def S_check_int (K : Fg) : List D → M D := scopeF (runF 4 (B_check_int K))
abbrev N_check_int : List Str := ["value", "low", "high", "name"]
abbrev P_check_int : List Str := ["value", "low", "high", "name"]
theorem sc_check_int : FnScope N_check_int P_check_int (defScope (top 25)) := ⟨rfl, rfl, rfl, by decide +kernel, rfl, by decide +kernel, by decide +kernel⟩
set_option maxHeartbeats 4000000 in
theorem b_check_int (F : Fx w K mg) : ∀ cdv A outer s H E, Room 1 (XB P w K mg base N_check_int "check_int" (top 25) f cdv A outer s H E).A → DSs (XB P w K mg base N_check_int "check_int" (top 25) f cdv A outer s H E) (WB E) (defBody (top 25)) (B_check_int K) := by
  intro cdv A outer s H E hr
  have tk : Takes (XB P w K mg base N_check_int "check_int" (top 25) f cdv A outer s H E) (WB E) := takes_of rfl rfl rfl rfl
  have nd_ : (XB P w K mg base N_check_int "check_int" (top 25) f cdv A outer s H E).N.Nodup := sc_check_int.nd
  exact dss_cons (ds_if (dt_w (dw_or (dt_not (dt_truth (de_call (k_is_integer F) (hr.mono (by decide : 1 ≤ _)) tk (da_cons (de_var 0) (da_nil))))) (dw_or1 (dt_cmp od_lt (de_var 0) (de_var 1))))) (dss_never) (dss_nil)) (dss_cons (ds_if (dt_w (dw_and (dt_cmp od_notN (de_var 2) (de_non)) (dw_and1 (dt_cmp od_gt (de_var 0) (de_var 2))))) (dss_never) (dss_nil)) (dss_one (ds_ret (de_var 0))))
theorem k_check_int (F : Fx w K mg) : Known P w K mg base "check_int" 2 4 (S_check_int K) := by
  obtain ⟨fd, hf⟩ := F.fn_check_int
  exact (known_of hf sc_check_int F.gl_check_int (fun_binds hf fun _ _ _ _ _ _ us hl => match us, hl with | [_, _, _, _], _ => rfl) rfl (b_check_int F)).scope

def B_is_small_word (K : Fg) : TO' := dsSeq (dsIf (dOr (dNot (dTruth (dIsi (owns K) (kits K) (dVar 0) (dC (.ty "str"))))) (dNot (dTest (dChain gLe gLe (dC (.int 1)) (dLen (qVal (dVar 0))) (dC (.int 8)))))) (dsRet (dC (.bl false))) (dsNext)) (dsRet (dAll (dLc [1] (dIterS (dVar 0)) (gtName 1) (dYes) (dBin (gInS false) (dVar 1) (dC (.str "abcdefghijklmnopqrstuvwxyz"))))))
def S_is_small_word (K : Fg) : List D → M D := scopeF (runF 2 (B_is_small_word K))
abbrev N_is_small_word : List Str := ["name", "sign"]
abbrev P_is_small_word : List Str := ["name"]
theorem sc_is_small_word : FnScope N_is_small_word P_is_small_word (defScope (top 33)) := ⟨rfl, rfl, rfl, by decide +kernel, rfl, by decide +kernel, by decide +kernel⟩
set_option maxHeartbeats 4000000 in
theorem b_is_small_word (F : Fx w K mg) : ∀ cdv A outer s H E, Room 0 (XB P w K mg base N_is_small_word "is_small_word" (top 33) f cdv A outer s H E).A → DSs (XB P w K mg base N_is_small_word "is_small_word" (top 33) f cdv A outer s H E) (WB E) (defBody (top 33)) (B_is_small_word K) := by
  intro cdv A outer s H E hr
  have tk : Takes (XB P w K mg base N_is_small_word "is_small_word" (top 33) f cdv A outer s H E) (WB E) := takes_of rfl rfl rfl rfl
  have nd_ : (XB P w K mg base N_is_small_word "is_small_word" (top 33) f cdv A outer s H E).N.Nodup := sc_is_small_word.nd
  exact dss_cons (ds_if (dt_w (dw_or (dt_not (dt_truth (de_isi F.own F.kit (de_var 0) ((de_bltn (d := .ty "str") F.fr_str (by decide +kernel) rfl rfl)) F.fr_isinstance))) (dw_or1 (dt_not (dt_chain od_le od_le (de_int) (de_len (dq_val (de_var 0)) F.fr_len) (de_int)))))) (dss_one (ds_ret (de_bl))) (dss_nil)) (dss_one (ds_ret (de_all rfl (df_lc (own := [("sign", 1)]) rfl sc_is_small_word.nd (di_str (de_var 0)) (blkOk_by (by rfl)) (fun _ _ _ _ _ => dg_name 1 sc_is_small_word.nd) (fun _ _ _ _ _ => dts_nil) (fun _ _ _ _ _ => de_cmp od_inS (de_var 1) ((F.st_SMALL.elim fun _ ht => de_glob (d := .str "abcdefghijklmnopqrstuvwxyz") ht rfl ⟨_, rfl⟩)))) F.fr_all)))
theorem k_is_small_word (F : Fx w K mg) : Known P w K mg base "is_small_word" 1 1 (S_is_small_word K) := by
  obtain ⟨fd, hf⟩ := F.fn_is_small_word
  exact (known_of hf sc_is_small_word F.gl_is_small_word (fun_binds hf fun _ _ _ _ _ _ us hl => match us, hl with | [_], _ => rfl) rfl (b_is_small_word F)).scope

def B_letters_of (K : Fg) : TO' := dsSeq (dsSet 1 (dJoin (dC (.str "")) (qVal (dVar 0)))) (dsRet (dTupOf (qVal (dFz (dLc [2] (dIterS (dC (.str "abcmn"))) (gtName 2) (dTest (dBin (gInS false) (dVar 2) (dVar 1))) (dTup (dCons (dVar 2) (dCons (dM1 gCount (dVar 1) (dVar 2)) (dNil)))))))))
def S_letters_of (K : Fg) : List D → M D := scopeF (runF 3 (B_letters_of K))
abbrev N_letters_of : List Str := ["patterns", "signs", "letter"]
abbrev P_letters_of : List Str := ["patterns"]
theorem sc_letters_of : FnScope N_letters_of P_letters_of (defScope (top 19)) := ⟨rfl, rfl, rfl, by decide +kernel, rfl, by decide +kernel, by decide +kernel⟩
set_option maxHeartbeats 4000000 in
theorem b_letters_of (F : Fx w K mg) : ∀ cdv A outer s H E, Room 0 (XB P w K mg base N_letters_of "letters_of" (top 19) f cdv A outer s H E).A → DSs (XB P w K mg base N_letters_of "letters_of" (top 19) f cdv A outer s H E) (WB E) (defBody (top 19)) (B_letters_of K) := by
  intro cdv A outer s H E hr
  have tk : Takes (XB P w K mg base N_letters_of "letters_of" (top 19) f cdv A outer s H E) (WB E) := takes_of rfl rfl rfl rfl
  have nd_ : (XB P w K mg base N_letters_of "letters_of" (top 19) f cdv A outer s H E).N.Nodup := sc_letters_of.nd
  exact dss_cons (ds_set (i := 1) sc_letters_of.nd (de_join (de_str) (dq_val (de_var 0)))) (dss_one (ds_ret (de_tupOf (dq_val (de_fz (df_lc (own := [("letter", 2)]) rfl sc_letters_of.nd (di_str ((F.st_LETTERS.elim fun _ ht => de_glob (d := .str "abcmn") ht rfl ⟨_, rfl⟩))) (blkOk_by (by rfl)) (fun _ _ _ _ _ => dg_name 2 sc_letters_of.nd) (fun _ _ _ _ _ => dts_one (dt_cmp od_inS (de_var 2) (de_var 1))) (fun _ _ _ _ _ => de_tup (da_cons (de_var 2) (da_cons (de_count (de_var 1) (de_var 2)) (da_nil))))))) F.fr_tuple)))
theorem k_letters_of (F : Fx w K mg) : Known P w K mg base "letters_of" 1 1 (S_letters_of K) := by
  obtain ⟨fd, hf⟩ := F.fn_letters_of
  exact (known_of hf sc_letters_of F.gl_letters_of (fun_binds hf fun _ _ _ _ _ _ us hl => match us, hl with | [_], _ => rfl) rfl (b_letters_of F)).scope

def B_good_patterns (K : Fg) : TO' := dsSeq (dsIf (dOr (dNot (dTruth (dIsiT (owns K) (kits K) (dVar 2) (dTup (dCons (dC (.ty "list")) (dCons (dC (.ty "tuple")) (dNil))))))) (dNot (dTest (dChain gLe gLe (dC (.int 1)) (dLen (qVal (dVar 2))) (dC (.int 3)))))) (dsRet (dC (.bl false))) (dsNext)) (dsSeq (dsForM (dVar 2) (gtName 3) (dsSeq (dsIf (dOr (dNot (dTruth (dIsi (owns K) (kits K) (dVar 3) (dC (.ty "str"))))) (dTest (dBin gNe (dLen (qVal (dVar 3))) (dVar 0)))) (dsRet (dC (.bl false))) (dsNext)) (dsIf (dNot (dTruth (dAll (dLc [6] (dIterS (dVar 3)) (gtName 6) (dYes) (dBin (gInS false) (dVar 6) (dC (.str "01abcmn"))))))) (dsRet (dC (.bl false))) (dsNext)))) (dsSeq (dsFor (dIter (dCall (S_letters_of K) 1 (dCons (dVar 2) (dNil)))) (gtTup 2 (gtCons (gtName 4) (gtCons (gtName 5) (gtNil)))) (dsSeq (dsIf (dAnd (dTest (dBin (gInS false) (dVar 4) (dC (.str "abc")))) (dTest (dBin gGt (dBin gShl (dC (.int 1)) (dVar 5)) (dVar 1)))) (dsRet (dC (.bl false))) (dsNext)) (dsIf (dAnd (dTest (dBin (gInS false) (dVar 4) (dC (.str "mn")))) (dTest (dBin gGt (dVar 5) (dVar 0)))) (dsRet (dC (.bl false))) (dsNext)))) (dsRet (dC (.bl true)))))
def S_good_patterns (K : Fg) : List D → M D := scopeF (runF 7 (B_good_patterns K))
abbrev N_good_patterns : List Str := ["word", "registers", "patterns", "pattern", "letter", "bits", "sign"]
abbrev P_good_patterns : List Str := ["word", "registers", "patterns"]
theorem sc_good_patterns : FnScope N_good_patterns P_good_patterns (defScope (top 34)) := ⟨rfl, rfl, rfl, by decide +kernel, rfl, by decide +kernel, by decide +kernel⟩
set_option maxHeartbeats 4000000 in
theorem b_good_patterns (F : Fx w K mg) : ∀ cdv A outer s H E, Room 1 (XB P w K mg base N_good_patterns "good_patterns" (top 34) f cdv A outer s H E).A → DSs (XB P w K mg base N_good_patterns "good_patterns" (top 34) f cdv A outer s H E) (WB E) (defBody (top 34)) (B_good_patterns K) := by
  intro cdv A outer s H E hr
  have tk : Takes (XB P w K mg base N_good_patterns "good_patterns" (top 34) f cdv A outer s H E) (WB E) := takes_of rfl rfl rfl rfl
  have nd_ : (XB P w K mg base N_good_patterns "good_patterns" (top 34) f cdv A outer s H E).N.Nodup := sc_good_patterns.nd
  exact dss_cons (ds_if (dt_w (dw_or (dt_not (dt_truth (de_isiT F.own F.kit (de_var 2) (de_tup (da_cons ((de_bltn (d := .ty "list") F.fr_list (by decide +kernel) rfl rfl)) (da_cons ((de_bltn (d := .ty "tuple") F.fr_tuple (by decide +kernel) rfl rfl)) (da_nil)))) F.fr_isinstance))) (dw_or1 (dt_not (dt_chain od_le od_le (de_int) (de_len (dq_val (de_var 2)) F.fr_len) (de_int)))))) (dss_one (ds_ret (de_bl))) (dss_nil)) (dss_cons (ds_forM (passes_of rfl) rfl (de_var 2) (dg_name 3 sc_good_patterns.nd) (dss_cons (ds_if (dt_w (dw_or (dt_not (dt_truth (de_isi F.own F.kit (de_var 3) ((de_bltn (d := .ty "str") F.fr_str (by decide +kernel) rfl rfl)) F.fr_isinstance))) (dw_or1 (dt_cmp (od_ne hr.units) (de_len (dq_val (de_var 3)) F.fr_len) (de_var 0))))) (dss_one (ds_ret (de_bl))) (dss_nil)) (dss_one (ds_if (dt_not (dt_truth (de_all rfl (df_lc (own := [("sign", 6)]) rfl sc_good_patterns.nd (di_str (de_var 3)) (blkOk_by (by rfl)) (fun _ _ _ _ _ => dg_name 6 sc_good_patterns.nd) (fun _ _ _ _ _ => dts_nil) (fun _ _ _ _ _ => de_cmp od_inS (de_var 6) (de_str))) F.fr_all))) (dss_one (ds_ret (de_bl))) (dss_nil))))) (dss_cons (ds_for (passes_of rfl) rfl (di_seq (de_call (k_letters_of F) (hr.mono (by decide : 1 ≤ _)) tk (da_cons (de_var 2) (da_nil)))) (dg_tup rfl (dgs_cons (dg_name 4 sc_good_patterns.nd) (dgs_cons (dg_name 5 sc_good_patterns.nd) (dgs_nil)))) (dss_cons (ds_if (dt_w (dw_and (dt_cmp od_inS (de_var 4) (de_str)) (dw_and1 (dt_cmp od_gt (de_op od_shl (de_int) (de_var 5)) (de_var 1))))) (dss_one (ds_ret (de_bl))) (dss_nil)) (dss_one (ds_if (dt_w (dw_and (dt_cmp od_inS (de_var 4) (de_str)) (dw_and1 (dt_cmp od_gt (de_var 5) (de_var 0))))) (dss_one (ds_ret (de_bl))) (dss_nil))))) (dss_one (ds_ret (de_bl)))))
theorem k_good_patterns (F : Fx w K mg) : Known P w K mg base "good_patterns" 2 3 (S_good_patterns K) := by
  obtain ⟨fd, hf⟩ := F.fn_good_patterns
  exact (known_of hf sc_good_patterns F.gl_good_patterns (fun_binds hf fun _ _ _ _ _ _ us hl => match us, hl with | [_, _, _], _ => rfl) rfl (b_good_patterns F)).scope

def B_ones (K : Fg) : TO' := dsSeq (dsExpr (dCall (S_check_int K) 4 (dCons (dVar 0) (dCons (dC (.int 0)) (dCons (dC (.int 64)) (dCons (dC (.str "width")) (dNil))))))) (dsRet (dBin gSub (dBin gShl (dC (.int 1)) (dVar 0)) (dC (.int 1))))
def S_ones (K : Fg) : List D → M D := scopeF (runF 1 (B_ones K))
abbrev N_ones : List Str := ["width"]
abbrev P_ones : List Str := ["width"]
theorem sc_ones : FnScope N_ones P_ones (defScope (top 26)) := ⟨rfl, rfl, rfl, by decide +kernel, rfl, by decide +kernel, by decide +kernel⟩
set_option maxHeartbeats 4000000 in
theorem b_ones (F : Fx w K mg) : ∀ cdv A outer s H E, Room 2 (XB P w K mg base N_ones "ones" (top 26) f cdv A outer s H E).A → DSs (XB P w K mg base N_ones "ones" (top 26) f cdv A outer s H E) (WB E) (defBody (top 26)) (B_ones K) := by
  intro cdv A outer s H E hr
  have tk : Takes (XB P w K mg base N_ones "ones" (top 26) f cdv A outer s H E) (WB E) := takes_of rfl rfl rfl rfl
  have nd_ : (XB P w K mg base N_ones "ones" (top 26) f cdv A outer s H E).N.Nodup := sc_ones.nd
  exact dss_cons (ds_expr (de_call (k_check_int F) (hr.mono (by decide : 2 ≤ _)) tk (da_cons (de_var 0) (da_cons (de_int) (da_cons (de_int) (da_cons (de_str) (da_nil))))))) (dss_one (ds_ret (de_op od_sub (de_op od_shl (de_int) (de_var 0)) (de_int))))
theorem k_ones (F : Fx w K mg) : Known P w K mg base "ones" 3 1 (S_ones K) := by
  obtain ⟨fd, hf⟩ := F.fn_ones
  exact (known_of hf sc_ones F.gl_ones (fun_binds hf fun _ _ _ _ _ _ us hl => match us, hl with | [_], _ => rfl) rfl (b_ones F)).scope

def B_good_entry (K : Fg) : TO' := dsSeq (dsIf (dTruth (dIsi (owns K) (kits K) (dVar 1) (dC (.ty "str")))) (dsRet (dAndV (dIn false (dVar 0) (qVal (dTup (dCons (dC (.str "reg")) (dCons (dC (.str "num")) (dNil)))))) (dIn false (dVar 1) (qVal (dDGet (dVar 2) (dVar 0)))))) (dsNext)) (dsSeq (dsIf (dNot (dTruth (dCall (S_is_integer K) 1 (dCons (dVar 1) (dNil))))) (dsRet (dC (.bl false))) (dsNext)) (dsSeq (dsIf (dTest (dBin gEq (dVar 0) (dC (.str "line")))) (dsRet (dIn false (dVar 1) (qVal (dVar 4)))) (dsNext)) (dsSeq (dsSet 5 (dIfE (dTest (dBin gEq (dVar 0) (dC (.str "cause")))) (dC (.int 12)) (dC (.int 0)))) (dsRet (dChain gLe gLe (dVar 5) (dVar 1) (dDGet (dVar 3) (dVar 0)))))))
def S_good_entry (K : Fg) : List D → M D := scopeF (runF 6 (B_good_entry K))
abbrev N_good_entry : List Str := ["kind", "entry", "letters", "tops", "earlier", "low"]
abbrev P_good_entry : List Str := ["kind", "entry", "letters", "tops", "earlier"]
theorem sc_good_entry : FnScope N_good_entry P_good_entry (defScope (top 35)) := ⟨rfl, rfl, rfl, by decide +kernel, rfl, by decide +kernel, by decide +kernel⟩
set_option maxHeartbeats 4000000 in
theorem b_good_entry (F : Fx w K mg) : ∀ cdv A outer s H E, Room 1 (XB P w K mg base N_good_entry "good_entry" (top 35) f cdv A outer s H E).A → DSs (XB P w K mg base N_good_entry "good_entry" (top 35) f cdv A outer s H E) (WB E) (defBody (top 35)) (B_good_entry K) := by
  intro cdv A outer s H E hr
  have tk : Takes (XB P w K mg base N_good_entry "good_entry" (top 35) f cdv A outer s H E) (WB E) := takes_of rfl rfl rfl rfl
  have nd_ : (XB P w K mg base N_good_entry "good_entry" (top 35) f cdv A outer s H E).N.Nodup := sc_good_entry.nd
  exact dss_cons (ds_if (dt_truth (de_isi F.own F.kit (de_var 1) ((de_bltn (d := .ty "str") F.fr_str (by decide +kernel) rfl rfl)) F.fr_isinstance)) (dss_one (ds_ret (de_and (de_in (de_var 0) (dq_val (de_tup (da_cons (de_str) (da_cons (de_str) (da_nil)))))) (de_one (de_in (de_var 1) (dq_val (de_dget (units1 hr) (de_var 2) (de_var 0)))))))) (dss_nil)) (dss_cons (ds_if (dt_not (dt_truth (de_call (k_is_integer F) (hr.mono (by decide : 1 ≤ _)) tk (da_cons (de_var 1) (da_nil))))) (dss_one (ds_ret (de_bl))) (dss_nil)) (dss_cons (ds_if (dt_cmp (od_eq hr.units) (de_var 0) (de_str)) (dss_one (ds_ret (de_in (de_var 1) (dq_val (de_var 4))))) (dss_nil)) (dss_cons (ds_set (i := 5) sc_good_entry.nd (de_if (dt_cmp (od_eq hr.units) (de_var 0) (de_str)) (de_int) (de_int))) (dss_one (ds_ret (de_chain od_le od_le (de_var 5) (de_var 1) (de_dget (units1 hr) (de_var 3) (de_var 0))))))))
theorem k_good_entry (F : Fx w K mg) : Known P w K mg base "good_entry" 2 5 (S_good_entry K) := by
  obtain ⟨fd, hf⟩ := F.fn_good_entry
  exact (known_of hf sc_good_entry F.gl_good_entry (fun_binds hf fun _ _ _ _ _ _ us hl => match us, hl with | [_, _, _, _, _], _ => rfl) rfl (b_good_entry F)).scope

def B_good_line (K : Fg) : TO' := dsSeq (dsIf (dOr (dNot (dTruth (dIsiT (owns K) (kits K) (dVar 0) (dTup (dCons (dC (.ty "list")) (dCons (dC (.ty "tuple")) (dNil))))))) (dOr (dTest (dBin gEq (dLen (qVal (dVar 0))) (dC (.int 0)))) (dNot (dTruth (dIsi (owns K) (kits K) (dIx (qVal (dVar 0)) (dC (.int 0))) (dC (.ty "str"))))))) (dsRet (dC (.bl false))) (dsNext)) (dsSeq (dsIf (dOr (dTest (dBin (gKIn true (He.ga K "SHAPES") tab_SHAPES) (dIx (qVal (dVar 0)) (dC (.int 0))) (dC (.ref (He.ga K "SHAPES"))))) (dTest (dBin gNe (dLen (qVal (dVar 0))) (dBin gAdd (dLen (qVal (dKItem (He.ga K "SHAPES") tab_SHAPES (dC (.ref (He.ga K "SHAPES"))) (dIx (qVal (dVar 0)) (dC (.int 0)))))) (dC (.int 1)))))) (dsRet (dC (.bl false))) (dsNext)) (dsSeq (dsSet 4 (dKItem (He.ga K "SHAPES") tab_SHAPES (dC (.ref (He.ga K "SHAPES"))) (dIx (qVal (dVar 0)) (dC (.int 0))))) (dsRet (dAll (dLc [5] (dRng1 (dLen (qVal (dVar 4)))) (gtName 5) (dYes) (dCall (S_good_entry K) 5 (dCons (dIx (qVal (dVar 4)) (dVar 5)) (dCons (dIx (qVal (dVar 0)) (dBin gAdd (dVar 5) (dC (.int 1)))) (dCons (dVar 1) (dCons (dVar 2) (dCons (dVar 3) (dNil))))))))))))
def S_good_line (K : Fg) : List D → M D := scopeF (runF 6 (B_good_line K))
abbrev N_good_line : List Str := ["line", "letters", "tops", "earlier", "kinds", "at"]
abbrev P_good_line : List Str := ["line", "letters", "tops", "earlier"]
theorem sc_good_line : FnScope N_good_line P_good_line (defScope (top 36)) := ⟨rfl, rfl, rfl, by decide +kernel, rfl, by decide +kernel, by decide +kernel⟩
set_option maxHeartbeats 4000000 in
theorem b_good_line (F : Fx w K mg) : ∀ cdv A outer s H E, Room 2 (XB P w K mg base N_good_line "good_line" (top 36) f cdv A outer s H E).A → DSs (XB P w K mg base N_good_line "good_line" (top 36) f cdv A outer s H E) (WB E) (defBody (top 36)) (B_good_line K) := by
  intro cdv A outer s H E hr
  have tk : Takes (XB P w K mg base N_good_line "good_line" (top 36) f cdv A outer s H E) (WB E) := takes_of rfl rfl rfl rfl
  have nd_ : (XB P w K mg base N_good_line "good_line" (top 36) f cdv A outer s H E).N.Nodup := sc_good_line.nd
  exact dss_cons (ds_if (dt_w (dw_or (dt_not (dt_truth (de_isiT F.own F.kit (de_var 0) (de_tup (da_cons ((de_bltn (d := .ty "list") F.fr_list (by decide +kernel) rfl rfl)) (da_cons ((de_bltn (d := .ty "tuple") F.fr_tuple (by decide +kernel) rfl rfl)) (da_nil)))) F.fr_isinstance))) (dw_or (dt_cmp (od_eq hr.units) (de_len (dq_val (de_var 0)) F.fr_len) (de_int)) (dw_or1 (dt_not (dt_truth (de_isi F.own F.kit (de_ix (dq_val (de_var 0)) (de_int)) ((de_bltn (d := .ty "str") F.fr_str (by decide +kernel) rfl rfl)) F.fr_isinstance))))))) (dss_one (ds_ret (de_bl))) (dss_nil)) (dss_cons (ds_if (dt_w (dw_or (dt_cmp (od_knotIn F.kt_SHAPES) (de_ix (dq_val (de_var 0)) (de_int)) ((de_glob (d := .ref (He.ga K "SHAPES")) F.gl_SHAPES rfl rfl))) (dw_or1 (dt_cmp (od_ne hr.units) (de_len (dq_val (de_var 0)) F.fr_len) (de_op od_add (de_len (dq_val (de_kitem F.kt_SHAPES ((de_glob (d := .ref (He.ga K "SHAPES")) F.gl_SHAPES rfl rfl)) (de_ix (dq_val (de_var 0)) (de_int)))) F.fr_len) (de_int)))))) (dss_one (ds_ret (de_bl))) (dss_nil)) (dss_cons (ds_set (i := 4) sc_good_line.nd (de_kitem F.kt_SHAPES ((de_glob (d := .ref (He.ga K "SHAPES")) F.gl_SHAPES rfl rfl)) (de_ix (dq_val (de_var 0)) (de_int)))) (dss_one (ds_ret (de_all rfl (df_lc (own := [("at", 5)]) rfl sc_good_line.nd (di_rng1 (de_len (dq_val (de_var 4)) F.fr_len) F.fr_range) (blkOk_by (by rfl)) (fun _ _ _ _ _ => dg_name 5 sc_good_line.nd) (fun _ _ _ _ _ => dts_nil) (fun _ _ _ _ _ => de_call (k_good_entry F) (hr.mono (by decide : 2 ≤ _)) takesF (da_cons (de_ix (dq_val (de_var 4)) (de_var 5)) (da_cons (de_ix (dq_val (de_var 0)) (de_op od_add (de_var 5) (de_int))) (da_cons (de_var 1) (da_cons (de_var 2) (da_cons (de_var 3) (da_nil)))))))) F.fr_all)))))
theorem k_good_line (F : Fx w K mg) : Known P w K mg base "good_line" 3 4 (S_good_line K) := by
  obtain ⟨fd, hf⟩ := F.fn_good_line
  exact (known_of hf sc_good_line F.gl_good_line (fun_binds hf fun _ _ _ _ _ _ us hl => match us, hl with | [_, _, _, _], _ => rfl) rfl (b_good_line F)).scope

def B_first_wrong (K : Fg) : TO' := dsSeq (dsSet 3 (dAmb (dLst (dNil)))) (dsSeq (dsSet 4 (dAmb (dLst (dNil)))) (dsSeq (dsFor (dEnum (dVar 0)) (gtTup 2 (gtCons (gtName 5) (gtCons (gtName 6) (gtNil)))) (dsSeq (dsIf (dNot (dTruth (dCall (S_good_line K) 4 (dCons (dVar 6) (dCons (dVar 1) (dCons (dVar 2) (dCons (dVar 3) (dNil)))))))) (dsRet (dVar 5)) (dsNext)) (dsSeq (dsIf (dOr (dTest (dIn false (dIx (qVal (dVar 6)) (dC (.int 0))) (qVal (dC (.kt [.str "write", .str "in", .str "out"]))))) (dTest (dBin gEq (dIx (qVal (dVar 6)) (dC (.int 0))) (dC (.str "goto"))))) (dsSeq (dsSet 7 (dIfE (dTest (dBin gEq (dIx (qVal (dVar 6)) (dC (.int 0))) (dC (.str "goto")))) (dC (.str "goto")) (dC (.str "effect")))) (dsSeq (dsIf (dTest (dIn false (dVar 7) (qVal (dVar 4)))) (dsRet (dVar 5)) (dsNext)) (dsAppM (dVar 4) (dVar 7)))) (dsNext)) (dsIf (dTest (dIn true (dIx (qVal (dVar 6)) (dC (.int 0))) (qVal (dC (.kt [.str "must", .str "write", .str "out", .str "put", .str "goto"]))))) (dsAppM (dVar 3) (dVar 5)) (dsNext))))) (dsRet (dC .non))))
def S_first_wrong (K : Fg) : List D → M D := scopeF (runF 8 (B_first_wrong K))
abbrev N_first_wrong : List Str := ["lines", "letters", "tops", "earlier", "once", "at", "line", "mark"]
abbrev P_first_wrong : List Str := ["lines", "letters", "tops"]
theorem sc_first_wrong : FnScope N_first_wrong P_first_wrong (defScope (top 37)) := ⟨rfl, rfl, rfl, by decide +kernel, rfl, by decide +kernel, by decide +kernel⟩
set_option maxHeartbeats 4000000 in
theorem b_first_wrong (F : Fx w K mg) : ∀ cdv A outer s H E, Room 3 (XB P w K mg base N_first_wrong "first_wrong" (top 37) f cdv A outer s H E).A → DSs (XB P w K mg base N_first_wrong "first_wrong" (top 37) f cdv A outer s H E) (WB E) (defBody (top 37)) (B_first_wrong K) := by
  intro cdv A outer s H E hr
  have tk : Takes (XB P w K mg base N_first_wrong "first_wrong" (top 37) f cdv A outer s H E) (WB E) := takes_of rfl rfl rfl rfl
  have nd_ : (XB P w K mg base N_first_wrong "first_wrong" (top 37) f cdv A outer s H E).N.Nodup := sc_first_wrong.nd
  exact dss_cons (ds_set (i := 3) sc_first_wrong.nd (de_amb (df_lst (da_nil)))) (dss_cons (ds_set (i := 4) sc_first_wrong.nd (de_amb (df_lst (da_nil)))) (dss_cons (ds_for (passes_of rfl) rfl (di_enum (de_var 0) F.fr_enumerate) (dg_tup rfl (dgs_cons (dg_name 5 sc_first_wrong.nd) (dgs_cons (dg_name 6 sc_first_wrong.nd) (dgs_nil)))) (dss_cons (ds_if (dt_not (dt_truth (de_call (k_good_line F) (hr.mono (by decide : 3 ≤ _)) tk (da_cons (de_var 6) (da_cons (de_var 1) (da_cons (de_var 2) (da_cons (de_var 3) (da_nil)))))))) (dss_one (ds_ret (de_var 5))) (dss_nil)) (dss_cons (ds_if (dt_w (dw_or (dt_in (de_ix (dq_val (de_var 6)) (de_int)) (dq_val ((de_globR F.gl_EFFECTS (F.tp_EFFECTS))))) (dw_or1 (dt_cmp (od_eq hr.units) (de_ix (dq_val (de_var 6)) (de_int)) (de_str))))) (dss_cons (ds_set (i := 7) sc_first_wrong.nd (de_if (dt_cmp (od_eq hr.units) (de_ix (dq_val (de_var 6)) (de_int)) (de_str)) (de_str) (de_str))) (dss_cons (ds_if (dt_in (de_var 7) (dq_val (de_var 4))) (dss_one (ds_ret (de_var 5))) (dss_nil)) (dss_one (ds_appM (de_var 4) (de_var 7))))) (dss_nil)) (dss_one (ds_if (dt_notIn (de_ix (dq_val (de_var 6)) (de_int)) (dq_val ((de_globR F.gl_OTHERS (F.tp_OTHERS))))) (dss_one (ds_appM (de_var 3) (de_var 5))) (dss_nil)))))) (dss_one (ds_ret (de_non)))))
theorem k_first_wrong (F : Fx w K mg) : Known P w K mg base "first_wrong" 4 3 (S_first_wrong K) := by
  obtain ⟨fd, hf⟩ := F.fn_first_wrong
  exact (known_of hf sc_first_wrong F.gl_first_wrong (fun_binds hf fun _ _ _ _ _ _ us hl => match us, hl with | [_, _, _], _ => rfl) rfl (b_first_wrong F)).scope

def B_line_at (K : Fg) : TO' := dsSeq (dsFor (dEnum (dVar 0)) (gtTup 2 (gtCons (gtName 2) (gtCons (gtName 3) (gtNil)))) (dsIf (dTest (dIn false (dIx (qVal (dVar 3)) (dC (.int 0))) (qVal (dVar 1)))) (dsRet (dVar 2)) (dsNext))) (dsRet (dC .non))
def S_line_at (K : Fg) : List D → M D := scopeF (runF 4 (B_line_at K))
abbrev N_line_at : List Str := ["lines", "names", "at", "line"]
abbrev P_line_at : List Str := ["lines", "names"]
theorem sc_line_at : FnScope N_line_at P_line_at (defScope (top 38)) := ⟨rfl, rfl, rfl, by decide +kernel, rfl, by decide +kernel, by decide +kernel⟩
set_option maxHeartbeats 4000000 in
theorem b_line_at (F : Fx w K mg) : ∀ cdv A outer s H E, Room 0 (XB P w K mg base N_line_at "line_at" (top 38) f cdv A outer s H E).A → DSs (XB P w K mg base N_line_at "line_at" (top 38) f cdv A outer s H E) (WB E) (defBody (top 38)) (B_line_at K) := by
  intro cdv A outer s H E hr
  have tk : Takes (XB P w K mg base N_line_at "line_at" (top 38) f cdv A outer s H E) (WB E) := takes_of rfl rfl rfl rfl
  have nd_ : (XB P w K mg base N_line_at "line_at" (top 38) f cdv A outer s H E).N.Nodup := sc_line_at.nd
  exact dss_cons (ds_for (passes_of rfl) rfl (di_enum (de_var 0) F.fr_enumerate) (dg_tup rfl (dgs_cons (dg_name 2 sc_line_at.nd) (dgs_cons (dg_name 3 sc_line_at.nd) (dgs_nil)))) (dss_one (ds_if (dt_in (de_ix (dq_val (de_var 3)) (de_int)) (dq_val (de_var 1))) (dss_one (ds_ret (de_var 2))) (dss_nil)))) (dss_one (ds_ret (de_non)))
theorem k_line_at (F : Fx w K mg) : Known P w K mg base "line_at" 1 2 (S_line_at K) := by
  obtain ⟨fd, hf⟩ := F.fn_line_at
  exact (known_of hf sc_line_at F.gl_line_at (fun_binds hf fun _ _ _ _ _ _ us hl => match us, hl with | [_, _], _ => rfl) rfl (b_line_at F)).scope

def B_Form_init (K : Fg) : TO' := dsSeq (dsFld [He.ga K "Form"] "name" (dVar 1) (dVar 0)) (dsSeq (dsFld [He.ga K "Form"] "patterns" (dVar 2) (dVar 0)) (dsSeq (dsFld [He.ga K "Form"] "lines" (dVar 3) (dVar 0)) (dsSeq (dsFld [He.ga K "Form"] "size" (dLen (qVal (dVar 2))) (dVar 0)) (dsSeq (dsFld [He.ga K "Form"] "letters" (dCall (S_letters_of K) 1 (dCons (dVar 2) (dNil))) (dVar 0)) (dsSeq (dsFld [He.ga K "Form"] "effect" (dCall (S_line_at K) 2 (dCons (dVar 3) (dCons (dC (.kt [.str "write", .str "in", .str "out"])) (dNil)))) (dVar 0)) (dsFld [He.ga K "Form"] "goto" (dCall (S_line_at K) 2 (dCons (dVar 3) (dCons (dTup (dCons (dC (.str "goto")) (dNil))) (dNil)))) (dVar 0)))))))
def S_Form_init (K : Fg) : List D → M D := scopeF (runF 4 (B_Form_init K))
abbrev N_Form_init : List Str := ["self", "name", "patterns", "lines"]
abbrev P_Form_init : List Str := ["self", "name", "patterns", "lines"]
theorem sc_Form_init : FnScope N_Form_init P_Form_init (defScope (inClass (top 39) 0)) := ⟨rfl, rfl, rfl, by decide +kernel, rfl, by decide +kernel, by decide +kernel⟩
set_option maxHeartbeats 4000000 in
theorem b_Form_init (F : Fx w K mg) : ∀ cdv A outer s H E, Room 1 (XB P w K mg base N_Form_init "Form.__init__" (inClass (top 39) 0) f cdv A outer s H E).A → DSs (XB P w K mg base N_Form_init "Form.__init__" (inClass (top 39) 0) f cdv A outer s H E) (WB E) (defBody (inClass (top 39) 0)) (B_Form_init K) := by
  intro cdv A outer s H E hr
  have tk : Takes (XB P w K mg base N_Form_init "Form.__init__" (inClass (top 39) 0) f cdv A outer s H E) (WB E) := takes_of rfl rfl rfl rfl
  have nd_ : (XB P w K mg base N_Form_init "Form.__init__" (inClass (top 39) 0) f cdv A outer s H E).N.Nodup := sc_Form_init.nd
  exact dss_cons (ds_fld (S := [He.ga K "Form"]) F.fld_Form_name (de_var 1) (de_var 0)) (dss_cons (ds_fld (S := [He.ga K "Form"]) F.fld_Form_patterns (de_var 2) (de_var 0)) (dss_cons (ds_fld (S := [He.ga K "Form"]) F.fld_Form_lines (de_var 3) (de_var 0)) (dss_cons (ds_fld (S := [He.ga K "Form"]) F.fld_Form_size (de_len (dq_val (de_var 2)) F.fr_len) (de_var 0)) (dss_cons (ds_fld (S := [He.ga K "Form"]) F.fld_Form_letters (de_call (k_letters_of F) (hr.mono (by decide : 1 ≤ _)) tk (da_cons (de_var 2) (da_nil))) (de_var 0)) (dss_cons (ds_fld (S := [He.ga K "Form"]) F.fld_Form_effect (de_call (k_line_at F) (hr.mono (by decide : 1 ≤ _)) tk (da_cons (de_var 3) (da_cons ((de_globR F.gl_EFFECTS (F.tp_EFFECTS))) (da_nil)))) (de_var 0)) (dss_one (ds_fld (S := [He.ga K "Form"]) F.fld_Form_goto (de_call (k_line_at F) (hr.mono (by decide : 1 ≤ _)) tk (da_cons (de_var 3) (da_cons (de_tup (da_cons (de_str) (da_nil))) (da_nil)))) (de_var 0))))))))
theorem k_Form_init (F : Fx w K mg) : KnownC P w K mg base "Form" (He.ga K "Form") 2 4 (S_Form_init K) := by
  obtain ⟨fd, hf⟩ := F.fn_Form_init
  have h : KnownC P w K mg base "Form" (He.ga K "Form") 2 4 (runF 4 (B_Form_init K)) := ⟨F.gl_Form, _, fd, _, F.mk_Form, fun_binds hf fun _ _ _ _ _ _ us hl => match us, hl with | [_, _, _, _], _ => rfl, rfl, fnOk_of hf sc_Form_init rfl (b_Form_init F)⟩
  exact h.scope

def B_made_form (K : Fg) : TO' := dsSeq (dsAsg (dVar 2) (gtTup 3 (gtCons (gtName 4) (gtCons (gtName 5) (gtCons (gtName 6) (gtNil)))))) (dsSeq (dsIf (dOr (dNot (dTruth (dCall (S_is_small_word K) 1 (dCons (dVar 4) (dNil))))) (dOr (dTest (dIn false (dVar 4) (qVal (dVar 3)))) (dNot (dTruth (dCall (S_good_patterns K) 3 (dCons (dVar 0) (dCons (dVar 1) (dCons (dVar 5) (dNil))))))))) (dsStuck) (dsNext)) (dsSeq (dsIf (dOr (dNot (dTruth (dIsiT (owns K) (kits K) (dVar 6) (dTup (dCons (dC (.ty "list")) (dCons (dC (.ty "tuple")) (dNil))))))) (dTest (dBin gGt (dLen (qVal (dVar 6))) (dC (.int 12))))) (dsStuck) (dsNext)) (dsSeq (dsSet 7 (dCall (S_letters_of K) 1 (dCons (dVar 5) (dNil)))) (dsSeq (dsSet 8 (dDisp ["reg", "num"] [dFz (dLc [11, 12] (dIter (dVar 7)) (gtTup 2 (gtCons (gtName 11) (gtCons (gtName 12) (gtNil)))) (dTest (dBin (gInS false) (dVar 11) (dC (.str "abc")))) (dVar 11)), dFz (dLc [11, 12] (dIter (dVar 7)) (gtTup 2 (gtCons (gtName 11) (gtCons (gtName 12) (gtNil)))) (dTest (dBin (gInS false) (dVar 11) (dC (.str "mn")))) (dVar 11))])) (dsSeq (dsSet 9 (dDisp ["reg", "num", "from", "to", "cause"] [dBin gSub (dVar 1) (dC (.int 1)), dCall (S_ones K) 1 (dCons (dVar 0) (dNil)), dC (.int 5), dC (.int 9), dC (.int 15)])) (dsSeq (dsSet 10 (dCall (S_first_wrong K) 3 (dCons (dVar 6) (dCons (dVar 8) (dCons (dVar 9) (dNil)))))) (dsSeq (dsIf (dTest (dBin gNotN (dVar 10) (dC .non))) (dsStuck) (dsNext)) (dsRet (dMake (He.ga K "Form") (S_Form_init K) 4 (dCons (dVar 4) (dCons (dTupOf (qVal (dVar 5))) (dCons (dTupOf (qVal (dFz (dLc [13] (dIter (dVar 6)) (gtName 13) (dYes) (dTupOf (qVal (dVar 13))))))) (dNil)))))))))))))
def S_made_form (K : Fg) : List D → M D := scopeF (runF 14 (B_made_form K))
abbrev N_made_form : List Str := ["word", "registers", "row", "names", "name", "patterns", "lines", "bits", "letters", "tops", "wrong", "letter", "_", "line"]
abbrev P_made_form : List Str := ["word", "registers", "row", "names"]
theorem sc_made_form : FnScope N_made_form P_made_form (defScope (top 40)) := ⟨rfl, rfl, rfl, by decide +kernel, rfl, by decide +kernel, by decide +kernel⟩
set_option maxHeartbeats 4000000 in
theorem b_made_form (F : Fx w K mg) : ∀ cdv A outer s H E, Room 4 (XB P w K mg base N_made_form "made_form" (top 40) f cdv A outer s H E).A → DSs (XB P w K mg base N_made_form "made_form" (top 40) f cdv A outer s H E) (WB E) (defBody (top 40)) (B_made_form K) := by
  intro cdv A outer s H E hr
  have tk : Takes (XB P w K mg base N_made_form "made_form" (top 40) f cdv A outer s H E) (WB E) := takes_of rfl rfl rfl rfl
  have nd_ : (XB P w K mg base N_made_form "made_form" (top 40) f cdv A outer s H E).N.Nodup := sc_made_form.nd
  exact dss_cons (ds_asg (de_var 2) (dg_tup rfl (dgs_cons (dg_name 4 sc_made_form.nd) (dgs_cons (dg_name 5 sc_made_form.nd) (dgs_cons (dg_name 6 sc_made_form.nd) (dgs_nil)))))) (dss_cons (ds_if (dt_w (dw_or (dt_not (dt_truth (de_call (k_is_small_word F) (hr.mono (by decide : 1 ≤ _)) tk (da_cons (de_var 4) (da_nil))))) (dw_or (dt_in (de_var 4) (dq_val (de_var 3))) (dw_or1 (dt_not (dt_truth (de_call (k_good_patterns F) (hr.mono (by decide : 2 ≤ _)) tk (da_cons (de_var 0) (da_cons (de_var 1) (da_cons (de_var 5) (da_nil))))))))))) (dss_never) (dss_nil)) (dss_cons (ds_if (dt_w (dw_or (dt_not (dt_truth (de_isiT F.own F.kit (de_var 6) (de_tup (da_cons ((de_bltn (d := .ty "list") F.fr_list (by decide +kernel) rfl rfl)) (da_cons ((de_bltn (d := .ty "tuple") F.fr_tuple (by decide +kernel) rfl rfl)) (da_nil)))) F.fr_isinstance))) (dw_or1 (dt_cmp od_gt (de_len (dq_val (de_var 6)) F.fr_len) (de_int))))) (dss_never) (dss_nil)) (dss_cons (ds_set (i := 7) sc_made_form.nd (de_call (k_letters_of F) (hr.mono (by decide : 1 ≤ _)) tk (da_cons (de_var 5) (da_nil)))) (dss_cons (ds_set (i := 8) sc_made_form.nd (de_disp (.cons (de_fz (df_lc (own := [("letter", 11), ("_", 12)]) rfl sc_made_form.nd (di_seq (de_var 7)) (blkOk_by (by rfl)) (fun _ _ _ _ _ => dg_tup rfl (dgs_cons (dg_name 11 sc_made_form.nd) (dgs_cons (dg_name 12 sc_made_form.nd) (dgs_nil)))) (fun _ _ _ _ _ => dts_one (dt_cmp od_inS (de_var 11) (de_str))) (fun _ _ _ _ _ => de_var 11))) (.cons (de_fz (df_lc (own := [("letter", 11), ("_", 12)]) rfl sc_made_form.nd (di_seq (de_var 7)) (blkOk_by (by rfl)) (fun _ _ _ _ _ => dg_tup rfl (dgs_cons (dg_name 11 sc_made_form.nd) (dgs_cons (dg_name 12 sc_made_form.nd) (dgs_nil)))) (fun _ _ _ _ _ => dts_one (dt_cmp od_inS (de_var 11) (de_str))) (fun _ _ _ _ _ => de_var 11))) (.nil))))) (dss_cons (ds_set (i := 9) sc_made_form.nd (de_disp (.cons (de_op od_sub (de_var 1) (de_int)) (.cons (de_call (k_ones F) (hr.mono (by decide : 3 ≤ _)) tk (da_cons (de_var 0) (da_nil))) (.cons (de_int) (.cons (de_int) (.cons (de_int) (.nil)))))))) (dss_cons (ds_set (i := 10) sc_made_form.nd (de_call (k_first_wrong F) (hr.mono (by decide : 4 ≤ _)) tk (da_cons (de_var 6) (da_cons (de_var 8) (da_cons (de_var 9) (da_nil)))))) (dss_cons (ds_if (dt_cmp od_notN (de_var 10) (de_non)) (dss_never) (dss_nil)) (dss_one (ds_ret (de_make (k_Form_init F) (hr.mono (by decide : 3 ≤ _)) tk (da_cons (de_var 4) (da_cons (de_tupOf (dq_val (de_var 5)) F.fr_tuple) (da_cons (de_tupOf (dq_val (de_fz (df_lc (own := [("line", 13)]) rfl sc_made_form.nd (di_seq (de_var 6)) (blkOk_by (by rfl)) (fun _ _ _ _ _ => dg_name 13 sc_made_form.nd) (fun _ _ _ _ _ => dts_nil) (fun _ _ _ _ _ => de_tupOf (dq_val (de_var 13)) F.fr_tuple)))) F.fr_tuple) (da_nil))))))))))))))
theorem k_made_form (F : Fx w K mg) : Known P w K mg base "made_form" 5 4 (S_made_form K) := by
  obtain ⟨fd, hf⟩ := F.fn_made_form
  exact (known_of hf sc_made_form F.gl_made_form (fun_binds hf fun _ _ _ _ _ _ us hl => match us, hl with | [_, _, _, _], _ => rfl) rfl (b_made_form F)).scope

def B_made_forms (K : Fg) : TO' := dsSeq (dsIf (dOr (dNot (dTruth (dIsiT (owns K) (kits K) (dVar 2) (dTup (dCons (dC (.ty "list")) (dCons (dC (.ty "tuple")) (dNil))))))) (dNot (dTest (dChain gLe gLe (dC (.int 1)) (dLen (qVal (dVar 2))) (dC (.int 32)))))) (dsStuck) (dsNext)) (dsSeq (dsSet 3 (dAmb (dLst (dNil)))) (dsSeq (dsSet 4 (dAmb (dLst (dNil)))) (dsSeq (dsForM (dVar 2) (gtName 5) (dsSeq (dsSet 6 (dCall (S_made_form K) 4 (dCons (dVar 0) (dCons (dVar 1) (dCons (dVar 5) (dCons (dVar 4) (dNil))))))) (dsSeq (dsAppM (dVar 3) (dVar 6)) (dsAppM (dVar 4) (dFld [He.ga K "Form"] "name" (dVar 6)))))) (dsSeq (dsFzM 3) (dsRet (dTupOf (qVal (dVar 3))))))))
def S_made_forms (K : Fg) : List D → M D := scopeF (runF 7 (B_made_forms K))
abbrev N_made_forms : List Str := ["word", "registers", "rows", "forms", "names", "row", "form"]
abbrev P_made_forms : List Str := ["word", "registers", "rows"]
theorem sc_made_forms : FnScope N_made_forms P_made_forms (defScope (top 41)) := ⟨rfl, rfl, rfl, by decide +kernel, rfl, by decide +kernel, by decide +kernel⟩
set_option maxHeartbeats 4000000 in
theorem b_made_forms (F : Fx w K mg) : ∀ cdv A outer s H E, Room 5 (XB P w K mg base N_made_forms "made_forms" (top 41) f cdv A outer s H E).A → DSs (XB P w K mg base N_made_forms "made_forms" (top 41) f cdv A outer s H E) (WB E) (defBody (top 41)) (B_made_forms K) := by
  intro cdv A outer s H E hr
  have tk : Takes (XB P w K mg base N_made_forms "made_forms" (top 41) f cdv A outer s H E) (WB E) := takes_of rfl rfl rfl rfl
  have nd_ : (XB P w K mg base N_made_forms "made_forms" (top 41) f cdv A outer s H E).N.Nodup := sc_made_forms.nd
  exact dss_cons (ds_if (dt_w (dw_or (dt_not (dt_truth (de_isiT F.own F.kit (de_var 2) (de_tup (da_cons ((de_bltn (d := .ty "list") F.fr_list (by decide +kernel) rfl rfl)) (da_cons ((de_bltn (d := .ty "tuple") F.fr_tuple (by decide +kernel) rfl rfl)) (da_nil)))) F.fr_isinstance))) (dw_or1 (dt_not (dt_chain od_le od_le (de_int) (de_len (dq_val (de_var 2)) F.fr_len) (de_int)))))) (dss_never) (dss_nil)) (dss_cons (ds_set (i := 3) sc_made_forms.nd (de_amb (df_lst (da_nil)))) (dss_cons (ds_set (i := 4) sc_made_forms.nd (de_amb (df_lst (da_nil)))) (dss_cons (ds_forM (passes_of rfl) rfl (de_var 2) (dg_name 5 sc_made_forms.nd) (dss_cons (ds_set (i := 6) sc_made_forms.nd (de_call (k_made_form F) (hr.mono (by decide : 5 ≤ _)) tk (da_cons (de_var 0) (da_cons (de_var 1) (da_cons (de_var 5) (da_cons (de_var 4) (da_nil))))))) (dss_cons (ds_appM (de_var 3) (de_var 6)) (dss_one (ds_appM (de_var 4) (de_fld (S := [He.ga K "Form"]) (F.fld_Form_name) (de_var 6))))))) (dss_fzM 3 (dss_one (ds_ret (de_tupOf (dq_val (de_var 3)) F.fr_tuple)))))))
theorem k_made_forms (F : Fx w K mg) : Known P w K mg base "made_forms" 6 3 (S_made_forms K) := by
  obtain ⟨fd, hf⟩ := F.fn_made_forms
  exact (known_of hf sc_made_forms F.gl_made_forms (fun_binds hf fun _ _ _ _ _ _ us hl => match us, hl with | [_, _, _], _ => rfl) rfl (b_made_forms F)).scope

def B_words_of_line (K : Fg) : TO' := dsRet (dJoin (dC (.str " ")) (qVal (dFz (dLc [1] (dIter (dVar 0)) (gtName 1) (dYes) (dText (dVar 1))))))
def S_words_of_line (K : Fg) : List D → M D := scopeF (runF 2 (B_words_of_line K))
abbrev N_words_of_line : List Str := ["line", "entry"]
abbrev P_words_of_line : List Str := ["line"]
theorem sc_words_of_line : FnScope N_words_of_line P_words_of_line (defScope (top 42)) := ⟨rfl, rfl, rfl, by decide +kernel, rfl, by decide +kernel, by decide +kernel⟩
set_option maxHeartbeats 4000000 in
theorem b_words_of_line (F : Fx w K mg) : ∀ cdv A outer s H E, Room 0 (XB P w K mg base N_words_of_line "words_of_line" (top 42) f cdv A outer s H E).A → DSs (XB P w K mg base N_words_of_line "words_of_line" (top 42) f cdv A outer s H E) (WB E) (defBody (top 42)) (B_words_of_line K) := by
  intro cdv A outer s H E hr
  have tk : Takes (XB P w K mg base N_words_of_line "words_of_line" (top 42) f cdv A outer s H E) (WB E) := takes_of rfl rfl rfl rfl
  have nd_ : (XB P w K mg base N_words_of_line "words_of_line" (top 42) f cdv A outer s H E).N.Nodup := sc_words_of_line.nd
  exact dss_one (ds_ret (de_join (de_str) (dq_val (de_fz (df_lc (own := [("entry", 1)]) rfl sc_words_of_line.nd (di_seq (de_var 0)) (blkOk_by (by rfl)) (fun _ _ _ _ _ => dg_name 1 sc_words_of_line.nd) (fun _ _ _ _ _ => dts_nil) (fun _ _ _ _ _ => de_strOf (de_var 1) F.fr_str))))))
theorem k_words_of_line (F : Fx w K mg) : Known P w K mg base "words_of_line" 1 1 (S_words_of_line K) := by
  obtain ⟨fd, hf⟩ := F.fn_words_of_line
  exact (known_of hf sc_words_of_line F.gl_words_of_line (fun_binds hf fun _ _ _ _ _ _ us hl => match us, hl with | [_], _ => rfl) rfl (b_words_of_line F)).scope

def B_Book_init (K : Fg) : TO' := dsSeq (dsFld [He.ga K "Book"] "word" (dCall (S_check_int K) 4 (dCons (dVar 1) (dCons (dC (.int 4)) (dCons (dC (.int 8)) (dCons (dC (.str "word")) (dNil)))))) (dVar 0)) (dsSeq (dsFld [He.ga K "Book"] "registers" (dCall (S_check_int K) 4 (dCons (dVar 2) (dCons (dC (.int 1)) (dCons (dC (.int 4)) (dCons (dC (.str "registers")) (dNil)))))) (dVar 0)) (dsSeq (dsFld [He.ga K "Book"] "forms" (dCall (S_made_forms K) 3 (dCons (dVar 1) (dCons (dVar 2) (dCons (dVar 3) (dNil))))) (dVar 0)) (dsSeq (dsSet 4 (dAmb (dLst (dCons (dJs [dC (.str "word "), dText (dVar 1)] Str.empty) (dCons (dJs [dC (.str "registers "), dText (dVar 2)] Str.empty) (dNil)))))) (dsSeq (dsFor (dIter (dFld [He.ga K "Book"] "forms" (dVar 0))) (gtName 5) (dsSeq (dsAppM (dVar 4) (dJoin (dC (.str " ")) (qVal (dFz (dCat (qVal (dFz (dLst (dCons (dC (.str "form")) (dCons (dFld [He.ga K "Form"] "name" (dVar 5)) (dNil)))))) (qVal (dFz (dLstOf (qVal (dFld [He.ga K "Form"] "patterns" (dVar 5))))))))))) (dsExtM (dVar 4) (dLc [6] (dIter (dFld [He.ga K "Form"] "lines" (dVar 5))) (gtName 6) (dYes) (dCall (S_words_of_line K) 1 (dCons (dVar 6) (dNil))))))) (dsSeq (dsFzM 4) (dsFld [He.ga K "Book"] "_text" (dBin gAdd (dJoin (dC (.str "\n")) (qVal (dVar 4))) (dC (.str "\n"))) (dVar 0)))))))
def S_Book_init (K : Fg) : List D → M D := scopeF (runF 7 (B_Book_init K))
abbrev N_Book_init : List Str := ["self", "word", "registers", "forms", "rows", "form", "line"]
abbrev P_Book_init : List Str := ["self", "word", "registers", "forms"]
theorem sc_Book_init : FnScope N_Book_init P_Book_init (defScope (inClass (top 47) 0)) := ⟨rfl, rfl, rfl, by decide +kernel, rfl, by decide +kernel, by decide +kernel⟩
set_option maxHeartbeats 4000000 in
theorem b_Book_init (F : Fx w K mg) : ∀ cdv A outer s H E, Room 6 (XB P w K mg base N_Book_init "Book.__init__" (inClass (top 47) 0) f cdv A outer s H E).A → DSs (XB P w K mg base N_Book_init "Book.__init__" (inClass (top 47) 0) f cdv A outer s H E) (WB E) (defBody (inClass (top 47) 0)) (B_Book_init K) := by
  intro cdv A outer s H E hr
  have tk : Takes (XB P w K mg base N_Book_init "Book.__init__" (inClass (top 47) 0) f cdv A outer s H E) (WB E) := takes_of rfl rfl rfl rfl
  have nd_ : (XB P w K mg base N_Book_init "Book.__init__" (inClass (top 47) 0) f cdv A outer s H E).N.Nodup := sc_Book_init.nd
  exact dss_cons (ds_fld (S := [He.ga K "Book"]) F.fld_Book_word (de_call (k_check_int F) (hr.mono (by decide : 2 ≤ _)) tk (da_cons (de_var 1) (da_cons (de_int) (da_cons (de_int) (da_cons (de_str) (da_nil)))))) (de_var 0)) (dss_cons (ds_fld (S := [He.ga K "Book"]) F.fld_Book_registers (de_call (k_check_int F) (hr.mono (by decide : 2 ≤ _)) tk (da_cons (de_var 2) (da_cons (de_int) (da_cons (de_int) (da_cons (de_str) (da_nil)))))) (de_var 0)) (dss_cons (ds_fld (S := [He.ga K "Book"]) F.fld_Book_forms (de_call (k_made_forms F) (hr.mono (by decide : 6 ≤ _)) tk (da_cons (de_var 1) (da_cons (de_var 2) (da_cons (de_var 3) (da_nil))))) (de_var 0)) (dss_cons (ds_set (i := 4) sc_Book_init.nd (de_amb (df_lst (da_cons (de_joined (.cons (de_str) (.cons (de_fmt (de_var 1)) (.nil)))) (da_cons (de_joined (.cons (de_str) (.cons (de_fmt (de_var 2)) (.nil)))) (da_nil)))))) (dss_cons (ds_for (passes_of rfl) rfl (di_seq (de_fld (S := [He.ga K "Book"]) (F.fld_Book_forms) (de_var 0))) (dg_name 5 sc_Book_init.nd) (dss_cons (ds_appM (de_var 4) (de_join (de_str) (dq_val (de_fz (df_cat (dq_val (de_fz (df_lst (da_cons (de_str) (da_cons (de_fld (S := [He.ga K "Form"]) (F.fld_Form_name) (de_var 5)) (da_nil)))))) (dq_val (de_fz (df_lstOf (dq_val (de_fld (S := [He.ga K "Form"]) (F.fld_Form_patterns) (de_var 5))) F.fr_list)))))))) (dss_one (ds_extM (de_var 4) (df_lc (own := [("line", 6)]) rfl sc_Book_init.nd (di_seq (de_fld (S := [He.ga K "Form"]) (F.fld_Form_lines) (de_var 5))) (blkOk_by (by rfl)) (fun _ _ _ _ _ => dg_name 6 sc_Book_init.nd) (fun _ _ _ _ _ => dts_nil) (fun _ _ _ _ _ => de_call (k_words_of_line F) (hr.mono (by decide : 1 ≤ _)) takesF (da_cons (de_var 6) (da_nil)))))))) (dss_fzM 4 (dss_one (ds_fld (S := [He.ga K "Book"]) F.fld_Book__text (de_op od_add (de_join (de_str) (dq_val (de_var 4))) (de_str)) (de_var 0))))))))
theorem k_Book_init (F : Fx w K mg) : KnownC P w K mg base "Book" (He.ga K "Book") 7 4 (S_Book_init K) := by
  obtain ⟨fd, hf⟩ := F.fn_Book_init
  have h : KnownC P w K mg base "Book" (He.ga K "Book") 7 4 (runF 7 (B_Book_init K)) := ⟨F.gl_Book, _, fd, _, F.mk_Book, fun_binds hf fun _ _ _ _ _ _ us hl => match us, hl with | [_, _, _, _], _ => rfl, rfl, fnOk_of hf sc_Book_init rfl (b_Book_init F)⟩
  exact h.scope

def B__law_fits (K : Fg) : TO' := dsSeq (dsSet 2 (dBin gSub (dLen (qVal (dVar 0))) (dC (.int 1)))) (dsSeq (dsFor (dRng1 (dLen (qVal (dVar 0)))) (gtName 3) (dsSeq (dsSet 4 (dBin gBAnd (dBin gShr (dVar 1) (dBin gSub (dVar 2) (dVar 3))) (dC (.int 1)))) (dsSeq (dsIf (dAnd (dTest (dBin gEq (dIxS (dVar 0) (dVar 3)) (dC (.str "0")))) (dTest (dBin gEq (dVar 4) (dC (.int 1))))) (dsRet (dC (.bl false))) (dsNext)) (dsIf (dAnd (dTest (dBin gEq (dIxS (dVar 0) (dVar 3)) (dC (.str "1")))) (dTest (dBin gEq (dVar 4) (dC (.int 0))))) (dsRet (dC (.bl false))) (dsNext))))) (dsRet (dC (.bl true))))
def S__law_fits (K : Fg) : List D → M D := scopeF (runF 5 (B__law_fits K))
abbrev N__law_fits : List Str := ["_law_pattern", "_law_word", "_law_high", "_law_at", "_law_bit"]
abbrev P__law_fits : List Str := ["_law_pattern", "_law_word"]
theorem sc__law_fits : FnScope N__law_fits P__law_fits (defScope (top 104)) := ⟨rfl, rfl, rfl, by decide +kernel, rfl, by decide +kernel, by decide +kernel⟩
set_option maxHeartbeats 4000000 in
theorem b__law_fits (F : Fx w K mg) : ∀ cdv A outer s H E, Room 0 (XB P w K mg base N__law_fits "_law_fits" (top 104) f cdv A outer s H E).A → DSs (XB P w K mg base N__law_fits "_law_fits" (top 104) f cdv A outer s H E) (WB E) (defBody (top 104)) (B__law_fits K) := by
  intro cdv A outer s H E hr
  have tk : Takes (XB P w K mg base N__law_fits "_law_fits" (top 104) f cdv A outer s H E) (WB E) := takes_of rfl rfl rfl rfl
  have nd_ : (XB P w K mg base N__law_fits "_law_fits" (top 104) f cdv A outer s H E).N.Nodup := sc__law_fits.nd
  exact dss_cons (ds_set (i := 2) sc__law_fits.nd (de_op od_sub (de_len (dq_val (de_var 0)) F.fr_len) (de_int))) (dss_cons (ds_for (passes_of rfl) rfl (di_rng1 (de_len (dq_val (de_var 0)) F.fr_len) F.fr_range) (dg_name 3 sc__law_fits.nd) (dss_cons (ds_set (i := 4) sc__law_fits.nd (de_op od_band (de_op od_shr (de_var 1) (de_op od_sub (de_var 2) (de_var 3))) (de_int))) (dss_cons (ds_if (dt_w (dw_and (dt_cmp (od_eq hr.units) (de_ixS (de_var 0) (de_var 3)) (de_str)) (dw_and1 (dt_cmp (od_eq hr.units) (de_var 4) (de_int))))) (dss_one (ds_ret (de_bl))) (dss_nil)) (dss_one (ds_if (dt_w (dw_and (dt_cmp (od_eq hr.units) (de_ixS (de_var 0) (de_var 3)) (de_str)) (dw_and1 (dt_cmp (od_eq hr.units) (de_var 4) (de_int))))) (dss_one (ds_ret (de_bl))) (dss_nil)))))) (dss_one (ds_ret (de_bl))))
theorem k__law_fits (F : Fx w K mg) : Known P w K mg base "_law_fits" 1 2 (S__law_fits K) := by
  obtain ⟨fd, hf⟩ := F.fn__law_fits
  exact (known_of hf sc__law_fits F.gl__law_fits (fun_binds hf fun _ _ _ _ _ _ us hl => match us, hl with | [_, _], _ => rfl) rfl (b__law_fits F)).scope

def B__law_shared (K : Fg) : TO' := dsSeq (dsSet 3 (dVar 0)) (dsSeq (dsSet 4 (dVar 1)) (dsSeq (dsIf (dTest (dBin gGt (dLen (qVal (dVar 1))) (dLen (qVal (dVar 0))))) (dsSeq (dsSet 3 (dVar 1)) (dsSet 4 (dVar 0))) (dsNext)) (dsSeq (dsSet 5 (dAmb (dLst (dNil)))) (dsSeq (dsFor (dRng1 (dLen (qVal (dVar 3)))) (gtName 6) (dsSeq (dsSet 7 (dC .non)) (dsSeq (dsFor (dRng1 (dBin gShl (dC (.int 1)) (dVar 2))) (gtName 8) (dsIf (dAnd (dTruth (dCall (S__law_fits K) 2 (dCons (dIx (qVal (dVar 3)) (dVar 6)) (dCons (dVar 8) (dNil))))) (dOr (dTest (dBin gGe (dVar 6) (dLen (qVal (dVar 4))))) (dTruth (dCall (S__law_fits K) 2 (dCons (dIx (qVal (dVar 4)) (dVar 6)) (dCons (dVar 8) (dNil))))))) (dsSeq (dsSet 7 (dVar 8)) (dsBreak)) (dsNext))) (dsSeq (dsIf (dTest (dBin gIsN (dVar 7) (dC .non))) (dsRet (dC .non)) (dsNext)) (dsAppM (dVar 5) (dVar 7)))))) (dsSeq (dsFzM 5) (dsRet (dVar 5)))))))
def S__law_shared (K : Fg) : List D → M D := scopeF (runF 9 (B__law_shared K))
abbrev N__law_shared : List Str := ["_law_one", "_law_other", "_law_word", "_law_longer", "_law_shorter", "_law_code", "_law_at", "_law_least", "_law_tried"]
abbrev P__law_shared : List Str := ["_law_one", "_law_other", "_law_word"]
theorem sc__law_shared : FnScope N__law_shared P__law_shared (defScope (top 109)) := ⟨rfl, rfl, rfl, by decide +kernel, rfl, by decide +kernel, by decide +kernel⟩
set_option maxHeartbeats 4000000 in
theorem b__law_shared (F : Fx w K mg) : ∀ cdv A outer s H E, Room 1 (XB P w K mg base N__law_shared "_law_shared" (top 109) f cdv A outer s H E).A → DSs (XB P w K mg base N__law_shared "_law_shared" (top 109) f cdv A outer s H E) (WB E) (defBody (top 109)) (B__law_shared K) := by
  intro cdv A outer s H E hr
  have tk : Takes (XB P w K mg base N__law_shared "_law_shared" (top 109) f cdv A outer s H E) (WB E) := takes_of rfl rfl rfl rfl
  have nd_ : (XB P w K mg base N__law_shared "_law_shared" (top 109) f cdv A outer s H E).N.Nodup := sc__law_shared.nd
  exact dss_cons (ds_set (i := 3) sc__law_shared.nd (de_var 0)) (dss_cons (ds_set (i := 4) sc__law_shared.nd (de_var 1)) (dss_cons (ds_if (dt_cmp od_gt (de_len (dq_val (de_var 1)) F.fr_len) (de_len (dq_val (de_var 0)) F.fr_len)) (dss_cons (ds_set (i := 3) sc__law_shared.nd (de_var 1)) (dss_one (ds_set (i := 4) sc__law_shared.nd (de_var 0)))) (dss_nil)) (dss_cons (ds_set (i := 5) sc__law_shared.nd (de_amb (df_lst (da_nil)))) (dss_cons (ds_for (passes_of rfl) rfl (di_rng1 (de_len (dq_val (de_var 3)) F.fr_len) F.fr_range) (dg_name 6 sc__law_shared.nd) (dss_cons (ds_set (i := 7) sc__law_shared.nd (de_non)) (dss_cons (ds_for (passes_of rfl) rfl (di_rng1 (de_op od_shl (de_int) (de_var 2)) F.fr_range) (dg_name 8 sc__law_shared.nd) (dss_one (ds_if (dt_w (dw_and (dt_truth (de_call (k__law_fits F) (hr.mono (by decide : 1 ≤ _)) tk (da_cons (de_ix (dq_val (de_var 3)) (de_var 6)) (da_cons (de_var 8) (da_nil))))) (dw_and1 (dt_w (dw_or (dt_cmp od_ge (de_var 6) (de_len (dq_val (de_var 4)) F.fr_len)) (dw_or1 (dt_truth (de_call (k__law_fits F) (hr.mono (by decide : 1 ≤ _)) tk (da_cons (de_ix (dq_val (de_var 4)) (de_var 6)) (da_cons (de_var 8) (da_nil))))))))))) (dss_cons (ds_set (i := 7) sc__law_shared.nd (de_var 8)) (dss_one (ds_break))) (dss_nil)))) (dss_cons (ds_if (dt_cmp od_isN (de_var 7) (de_non)) (dss_one (ds_ret (de_non))) (dss_nil)) (dss_one (ds_appM (de_var 5) (de_var 7))))))) (dss_fzM 5 (dss_one (ds_ret (de_var 5))))))))
theorem k__law_shared (F : Fx w K mg) : Known P w K mg base "_law_shared" 2 3 (S__law_shared K) := by
  obtain ⟨fd, hf⟩ := F.fn__law_shared
  exact (known_of hf sc__law_shared F.gl__law_shared (fun_binds hf fun _ _ _ _ _ _ us hl => match us, hl with | [_, _, _], _ => rfl) rfl (b__law_shared F)).scope

def B_joined_word (K : Fg) : TO' := dsSeq (dsSet 2 (dC (.int 0))) (dsSeq (dsFor (dZipS (dVar 0) (dVar 1)) (gtTup 2 (gtCons (gtName 3) (gtCons (gtName 4) (gtNil)))) (dsSeq (dsSet 5 (dBin gAdd (dVar 3) (dVar 4))) (dsSeq (dsIf (dTest (dIn false (dVar 5) (qVal (dTup (dCons (dC (.str "01")) (dCons (dC (.str "10")) (dNil))))))) (dsRet (dC .non)) (dsNext)) (dsSet 2 (dBin gAdd (dBin gMul (dC (.int 2)) (dVar 2)) (dIfE (dTest (dBin (gInS false) (dC (.str "1")) (dVar 5))) (dC (.int 1)) (dC (.int 0)))))))) (dsRet (dVar 2)))
def S_joined_word (K : Fg) : List D → M D := scopeF (runF 6 (B_joined_word K))
abbrev N_joined_word : List Str := ["pattern", "beside", "word", "sign", "mate", "pair"]
abbrev P_joined_word : List Str := ["pattern", "beside"]
theorem sc_joined_word : FnScope N_joined_word P_joined_word (defScope (top 2)) := ⟨rfl, rfl, rfl, by decide +kernel, rfl, by decide +kernel, by decide +kernel⟩
set_option maxHeartbeats 4000000 in
theorem b_joined_word (F : Fx w K mg) : ∀ cdv A outer s H E, Room 0 (XB P w K mg base N_joined_word "joined_word" (top 2) f cdv A outer s H E).A → DSs (XB P w K mg base N_joined_word "joined_word" (top 2) f cdv A outer s H E) (WB E) (defBody (top 2)) (B_joined_word K) := by
  intro cdv A outer s H E hr
  have tk : Takes (XB P w K mg base N_joined_word "joined_word" (top 2) f cdv A outer s H E) (WB E) := takes_of rfl rfl rfl rfl
  have nd_ : (XB P w K mg base N_joined_word "joined_word" (top 2) f cdv A outer s H E).N.Nodup := sc_joined_word.nd
  exact dss_cons (ds_set (i := 2) sc_joined_word.nd (de_int)) (dss_cons (ds_for (passes_of rfl) rfl (di_zipS (de_var 0) (de_var 1) F.fr_zip) (dg_tup rfl (dgs_cons (dg_name 3 sc_joined_word.nd) (dgs_cons (dg_name 4 sc_joined_word.nd) (dgs_nil)))) (dss_cons (ds_set (i := 5) sc_joined_word.nd (de_op od_add (de_var 3) (de_var 4))) (dss_cons (ds_if (dt_in (de_var 5) (dq_val (de_tup (da_cons (de_str) (da_cons (de_str) (da_nil)))))) (dss_one (ds_ret (de_non))) (dss_nil)) (dss_one (ds_set (i := 2) sc_joined_word.nd (de_op od_add (de_op od_mul (de_int) (de_var 2)) (de_if (dt_cmp od_inS (de_str) (de_var 5)) (de_int) (de_int)))))))) (dss_one (ds_ret (de_var 2))))
theorem k_joined_word (F : Fx w K mg) : Known P w K mg base "joined_word" 1 2 (S_joined_word K) := by
  obtain ⟨fd, hf⟩ := F.fn_joined_word
  exact (known_of hf sc_joined_word F.gl_joined_word (fun_binds hf fun _ _ _ _ _ _ us hl => match us, hl with | [_, _], _ => rfl) rfl (b_joined_word F)).scope

def B_shared_code (K : Fg) : TO' := dsSeq (dsAsg (dIfE (dTest (dBin gGt (dFld [He.ga K "Form"] "size" (dVar 1)) (dFld [He.ga K "Form"] "size" (dVar 0)))) (dTup (dCons (dVar 1) (dCons (dVar 0) (dNil)))) (dTup (dCons (dVar 0) (dCons (dVar 1) (dNil))))) (gtTup 2 (gtCons (gtName 2) (gtCons (gtName 3) (gtNil))))) (dsSeq (dsSet 4 (dAmb (dLst (dNil)))) (dsSeq (dsFor (dEnum (dFld [He.ga K "Form"] "patterns" (dVar 2))) (gtTup 2 (gtCons (gtName 5) (gtCons (gtName 6) (gtNil)))) (dsSeq (dsSet 7 (dIfE (dTest (dBin gLt (dVar 5) (dFld [He.ga K "Form"] "size" (dVar 3)))) (dIx (qVal (dFld [He.ga K "Form"] "patterns" (dVar 3))) (dVar 5)) (dVar 6))) (dsSeq (dsSet 8 (dCall (S_joined_word K) 2 (dCons (dVar 6) (dCons (dVar 7) (dNil))))) (dsSeq (dsIf (dTest (dBin gIsN (dVar 8) (dC .non))) (dsRet (dC .non)) (dsNext)) (dsAppM (dVar 4) (dVar 8)))))) (dsSeq (dsFzM 4) (dsRet (dTupOf (qVal (dVar 4)))))))
def S_shared_code (K : Fg) : List D → M D := scopeF (runF 9 (B_shared_code K))
abbrev N_shared_code : List Str := ["one", "other", "longer", "shorter", "cells", "at", "pattern", "beside", "word"]
abbrev P_shared_code : List Str := ["one", "other"]
theorem sc_shared_code : FnScope N_shared_code P_shared_code (defScope (top 3)) := ⟨rfl, rfl, rfl, by decide +kernel, rfl, by decide +kernel, by decide +kernel⟩
set_option maxHeartbeats 4000000 in
theorem b_shared_code (F : Fx w K mg) : ∀ cdv A outer s H E, Room 1 (XB P w K mg base N_shared_code "shared_code" (top 3) f cdv A outer s H E).A → DSs (XB P w K mg base N_shared_code "shared_code" (top 3) f cdv A outer s H E) (WB E) (defBody (top 3)) (B_shared_code K) := by
  intro cdv A outer s H E hr
  have tk : Takes (XB P w K mg base N_shared_code "shared_code" (top 3) f cdv A outer s H E) (WB E) := takes_of rfl rfl rfl rfl
  have nd_ : (XB P w K mg base N_shared_code "shared_code" (top 3) f cdv A outer s H E).N.Nodup := sc_shared_code.nd
  exact dss_cons (ds_asg (de_if (dt_cmp od_gt (de_fld (S := [He.ga K "Form"]) (F.fld_Form_size) (de_var 1)) (de_fld (S := [He.ga K "Form"]) (F.fld_Form_size) (de_var 0))) (de_tup (da_cons (de_var 1) (da_cons (de_var 0) (da_nil)))) (de_tup (da_cons (de_var 0) (da_cons (de_var 1) (da_nil))))) (dg_tup rfl (dgs_cons (dg_name 2 sc_shared_code.nd) (dgs_cons (dg_name 3 sc_shared_code.nd) (dgs_nil))))) (dss_cons (ds_set (i := 4) sc_shared_code.nd (de_amb (df_lst (da_nil)))) (dss_cons (ds_for (passes_of rfl) rfl (di_enum (de_fld (S := [He.ga K "Form"]) (F.fld_Form_patterns) (de_var 2)) F.fr_enumerate) (dg_tup rfl (dgs_cons (dg_name 5 sc_shared_code.nd) (dgs_cons (dg_name 6 sc_shared_code.nd) (dgs_nil)))) (dss_cons (ds_set (i := 7) sc_shared_code.nd (de_if (dt_cmp od_lt (de_var 5) (de_fld (S := [He.ga K "Form"]) (F.fld_Form_size) (de_var 3))) (de_ix (dq_val (de_fld (S := [He.ga K "Form"]) (F.fld_Form_patterns) (de_var 3))) (de_var 5)) (de_var 6))) (dss_cons (ds_set (i := 8) sc_shared_code.nd (de_call (k_joined_word F) (hr.mono (by decide : 1 ≤ _)) tk (da_cons (de_var 6) (da_cons (de_var 7) (da_nil))))) (dss_cons (ds_if (dt_cmp od_isN (de_var 8) (de_non)) (dss_one (ds_ret (de_non))) (dss_nil)) (dss_one (ds_appM (de_var 4) (de_var 8))))))) (dss_fzM 4 (dss_one (ds_ret (de_tupOf (dq_val (de_var 4)) F.fr_tuple))))))
theorem k_shared_code (F : Fx w K mg) : Known P w K mg base "shared_code" 2 2 (S_shared_code K) := by
  obtain ⟨fd, hf⟩ := F.fn_shared_code
  exact (known_of hf sc_shared_code F.gl_shared_code (fun_binds hf fun _ _ _ _ _ _ us hl => match us, hl with | [_, _], _ => rfl) rfl (b_shared_code F)).scope

def B__law_is_int (K : Fg) : TO' := dsRet (dAndV (dIsi (owns K) (kits K) (dVar 0) (dC (.ty "int"))) (dNotV (dIsi (owns K) (kits K) (dVar 0) (dC (.ty "bool")))))
def S__law_is_int (K : Fg) : List D → M D := scopeF (runF 1 (B__law_is_int K))
abbrev N__law_is_int : List Str := ["_law_thing"]
abbrev P__law_is_int : List Str := ["_law_thing"]
theorem sc__law_is_int : FnScope N__law_is_int P__law_is_int (defScope (top 103)) := ⟨rfl, rfl, rfl, by decide +kernel, rfl, by decide +kernel, by decide +kernel⟩
set_option maxHeartbeats 4000000 in
theorem b__law_is_int (F : Fx w K mg) : ∀ cdv A outer s H E, Room 0 (XB P w K mg base N__law_is_int "_law_is_int" (top 103) f cdv A outer s H E).A → DSs (XB P w K mg base N__law_is_int "_law_is_int" (top 103) f cdv A outer s H E) (WB E) (defBody (top 103)) (B__law_is_int K) := by
  intro cdv A outer s H E hr
  have tk : Takes (XB P w K mg base N__law_is_int "_law_is_int" (top 103) f cdv A outer s H E) (WB E) := takes_of rfl rfl rfl rfl
  have nd_ : (XB P w K mg base N__law_is_int "_law_is_int" (top 103) f cdv A outer s H E).N.Nodup := sc__law_is_int.nd
  exact dss_one (ds_ret (de_and (de_isi F.own F.kit (de_var 0) ((de_bltn (d := .ty "int") F.fr_int (by decide +kernel) rfl rfl)) F.fr_isinstance) (de_one (de_not (de_isi F.own F.kit (de_var 0) ((de_bltn (d := .ty "bool") F.fr_bool (by decide +kernel) rfl rfl)) F.fr_isinstance)))))
theorem k__law_is_int (F : Fx w K mg) : Known P w K mg base "_law_is_int" 1 1 (S__law_is_int K) := by
  obtain ⟨fd, hf⟩ := F.fn__law_is_int
  exact (known_of hf sc__law_is_int F.gl__law_is_int (fun_binds hf fun _ _ _ _ _ _ us hl => match us, hl with | [_], _ => rfl) rfl (b__law_is_int F)).scope

def B__law_is_code (K : Fg) : TO' := dsSeq (dsIf (dOr (dNot (dTruth (dIsi (owns K) (kits K) (dVar 0) (dC (.ty "tuple"))))) (dTest (dBin gNe (dLen (qVal (dVar 0))) (dLen (qVal (dVar 1)))))) (dsRet (dC (.bl false))) (dsNext)) (dsSeq (dsFor (dRng1 (dLen (qVal (dVar 1)))) (gtName 2) (dsIf (dOr (dNot (dTruth (dCall (S__law_is_int K) 1 (dCons (dIx (qVal (dVar 0)) (dVar 2)) (dNil))))) (dTest (dBin gNe (dIx (qVal (dVar 0)) (dVar 2)) (dIx (qVal (dVar 1)) (dVar 2))))) (dsRet (dC (.bl false))) (dsNext))) (dsRet (dC (.bl true))))
def S__law_is_code (K : Fg) : List D → M D := scopeF (runF 3 (B__law_is_code K))
abbrev N__law_is_code : List Str := ["_law_thing", "_law_code", "_law_at"]
abbrev P__law_is_code : List Str := ["_law_thing", "_law_code"]
theorem sc__law_is_code : FnScope N__law_is_code P__law_is_code (defScope (top 108)) := ⟨rfl, rfl, rfl, by decide +kernel, rfl, by decide +kernel, by decide +kernel⟩
set_option maxHeartbeats 4000000 in
theorem b__law_is_code (F : Fx w K mg) : ∀ cdv A outer s H E, Room 1 (XB P w K mg base N__law_is_code "_law_is_code" (top 108) f cdv A outer s H E).A → DSs (XB P w K mg base N__law_is_code "_law_is_code" (top 108) f cdv A outer s H E) (WB E) (defBody (top 108)) (B__law_is_code K) := by
  intro cdv A outer s H E hr
  have tk : Takes (XB P w K mg base N__law_is_code "_law_is_code" (top 108) f cdv A outer s H E) (WB E) := takes_of rfl rfl rfl rfl
  have nd_ : (XB P w K mg base N__law_is_code "_law_is_code" (top 108) f cdv A outer s H E).N.Nodup := sc__law_is_code.nd
  exact dss_cons (ds_if (dt_w (dw_or (dt_not (dt_truth (de_isi F.own F.kit (de_var 0) ((de_bltn (d := .ty "tuple") F.fr_tuple (by decide +kernel) rfl rfl)) F.fr_isinstance))) (dw_or1 (dt_cmp (od_ne hr.units) (de_len (dq_val (de_var 0)) F.fr_len) (de_len (dq_val (de_var 1)) F.fr_len))))) (dss_one (ds_ret (de_bl))) (dss_nil)) (dss_cons (ds_for (passes_of rfl) rfl (di_rng1 (de_len (dq_val (de_var 1)) F.fr_len) F.fr_range) (dg_name 2 sc__law_is_code.nd) (dss_one (ds_if (dt_w (dw_or (dt_not (dt_truth (de_call (k__law_is_int F) (hr.mono (by decide : 1 ≤ _)) tk (da_cons (de_ix (dq_val (de_var 0)) (de_var 2)) (da_nil))))) (dw_or1 (dt_cmp (od_ne hr.units) (de_ix (dq_val (de_var 0)) (de_var 2)) (de_ix (dq_val (de_var 1)) (de_var 2)))))) (dss_one (ds_ret (de_bl))) (dss_nil)))) (dss_one (ds_ret (de_bl))))
theorem k__law_is_code (F : Fx w K mg) : Known P w K mg base "_law_is_code" 2 2 (S__law_is_code K) := by
  obtain ⟨fd, hf⟩ := F.fn__law_is_code
  exact (known_of hf sc__law_is_code F.gl__law_is_code (fun_binds hf fun _ _ _ _ _ _ us hl => match us, hl with | [_, _], _ => rfl) rfl (b__law_is_code F)).scope

def B__law_first_is (K : Fg) : TO' := dsSeq (dsIf (dTest (dBin gIsN (dVar 1) (dC .non))) (dsRet (dBin gIsN (dVar 0) (dC .non))) (dsNext)) (dsSeq (dsIf (dOr (dNot (dTruth (dIsi (owns K) (kits K) (dVar 0) (dC (.ty "tuple"))))) (dTest (dBin gNe (dLen (qVal (dVar 0))) (dC (.int 3))))) (dsRet (dC (.bl false))) (dsNext)) (dsRet (dAndV (dBin gEq (dIx (qVal (dVar 0)) (dC (.int 0))) (dIx (qVal (dVar 1)) (dC (.int 0)))) (dAndV (dBin gEq (dIx (qVal (dVar 0)) (dC (.int 1))) (dIx (qVal (dVar 1)) (dC (.int 1)))) (dCall (S__law_is_code K) 2 (dCons (dIx (qVal (dVar 0)) (dC (.int 2))) (dCons (dIx (qVal (dVar 1)) (dC (.int 2))) (dNil))))))))
def S__law_first_is (K : Fg) : List D → M D := scopeF (runF 2 (B__law_first_is K))
abbrev N__law_first_is : List Str := ["_law_told", "_law_first"]
abbrev P__law_first_is : List Str := ["_law_told", "_law_first"]
theorem sc__law_first_is : FnScope N__law_first_is P__law_first_is (defScope (top 110)) := ⟨rfl, rfl, rfl, by decide +kernel, rfl, by decide +kernel, by decide +kernel⟩
set_option maxHeartbeats 4000000 in
theorem b__law_first_is (F : Fx w K mg) : ∀ cdv A outer s H E, Room 2 (XB P w K mg base N__law_first_is "_law_first_is" (top 110) f cdv A outer s H E).A → DSs (XB P w K mg base N__law_first_is "_law_first_is" (top 110) f cdv A outer s H E) (WB E) (defBody (top 110)) (B__law_first_is K) := by
  intro cdv A outer s H E hr
  have tk : Takes (XB P w K mg base N__law_first_is "_law_first_is" (top 110) f cdv A outer s H E) (WB E) := takes_of rfl rfl rfl rfl
  have nd_ : (XB P w K mg base N__law_first_is "_law_first_is" (top 110) f cdv A outer s H E).N.Nodup := sc__law_first_is.nd
  exact dss_cons (ds_if (dt_cmp od_isN (de_var 1) (de_non)) (dss_one (ds_ret (de_cmp od_isN (de_var 0) (de_non)))) (dss_nil)) (dss_cons (ds_if (dt_w (dw_or (dt_not (dt_truth (de_isi F.own F.kit (de_var 0) ((de_bltn (d := .ty "tuple") F.fr_tuple (by decide +kernel) rfl rfl)) F.fr_isinstance))) (dw_or1 (dt_cmp (od_ne hr.units) (de_len (dq_val (de_var 0)) F.fr_len) (de_int))))) (dss_one (ds_ret (de_bl))) (dss_nil)) (dss_one (ds_ret (de_and (de_cmp (od_eq hr.units) (de_ix (dq_val (de_var 0)) (de_int)) (de_ix (dq_val (de_var 1)) (de_int))) (de_and (de_cmp (od_eq hr.units) (de_ix (dq_val (de_var 0)) (de_int)) (de_ix (dq_val (de_var 1)) (de_int))) (de_one (de_call (k__law_is_code F) (hr.mono (by decide : 2 ≤ _)) tk (da_cons (de_ix (dq_val (de_var 0)) (de_int)) (da_cons (de_ix (dq_val (de_var 1)) (de_int)) (da_nil))))))))))
theorem k__law_first_is (F : Fx w K mg) : Known P w K mg base "_law_first_is" 3 2 (S__law_first_is K) := by
  obtain ⟨fd, hf⟩ := F.fn__law_first_is
  exact (known_of hf sc__law_first_is F.gl__law_first_is (fun_binds hf fun _ _ _ _ _ _ us hl => match us, hl with | [_, _], _ => rfl) rfl (b__law_first_is F)).scope

def B_first_shared (K : Fg) : TO' := dsSeq (dsFor (dEnum (dFld [He.ga K "Book"] "forms" (dVar 0))) (gtTup 2 (gtCons (gtName 1) (gtCons (gtName 2) (gtNil)))) (dsFor (dIter (dSliceT (dFld [He.ga K "Book"] "forms" (dVar 0)) (dPoS (dBin gAdd (dVar 1) (dC (.int 1)))) (dPoN))) (gtName 3) (dsSeq (dsSet 4 (dCall (S_shared_code K) 2 (dCons (dVar 2) (dCons (dVar 3) (dNil))))) (dsIf (dTest (dBin gNotN (dVar 4) (dC .non))) (dsRet (dTup (dCons (dFld [He.ga K "Form"] "name" (dVar 2)) (dCons (dFld [He.ga K "Form"] "name" (dVar 3)) (dCons (dVar 4) (dNil)))))) (dsNext))))) (dsRet (dC .non))
def S_first_shared (K : Fg) : List D → M D := scopeF (runF 5 (B_first_shared K))
abbrev N_first_shared : List Str := ["book", "at", "one", "other", "code"]
abbrev P_first_shared : List Str := ["book"]
theorem sc_first_shared : FnScope N_first_shared P_first_shared (defScope (top 4)) := ⟨rfl, rfl, rfl, by decide +kernel, rfl, by decide +kernel, by decide +kernel⟩
set_option maxHeartbeats 4000000 in
theorem b_first_shared (F : Fx w K mg) : ∀ cdv A outer s H E, Room 2 (XB P w K mg base N_first_shared "first_shared" (top 4) f cdv A outer s H E).A → DSs (XB P w K mg base N_first_shared "first_shared" (top 4) f cdv A outer s H E) (WB E) (defBody (top 4)) (B_first_shared K) := by
  intro cdv A outer s H E hr
  have tk : Takes (XB P w K mg base N_first_shared "first_shared" (top 4) f cdv A outer s H E) (WB E) := takes_of rfl rfl rfl rfl
  have nd_ : (XB P w K mg base N_first_shared "first_shared" (top 4) f cdv A outer s H E).N.Nodup := sc_first_shared.nd
  exact dss_cons (ds_for (passes_of rfl) rfl (di_enum (de_fld (S := [He.ga K "Book"]) (F.fld_Book_forms) (de_var 0)) F.fr_enumerate) (dg_tup rfl (dgs_cons (dg_name 1 sc_first_shared.nd) (dgs_cons (dg_name 2 sc_first_shared.nd) (dgs_nil)))) (dss_one (ds_for (passes_of rfl) rfl (di_seq (de_sliceT (de_fld (S := [He.ga K "Book"]) (F.fld_Book_forms) (de_var 0)) (dpo_some (de_op od_add (de_var 1) (de_int))) (dpo_none))) (dg_name 3 sc_first_shared.nd) (dss_cons (ds_set (i := 4) sc_first_shared.nd (de_call (k_shared_code F) (hr.mono (by decide : 2 ≤ _)) tk (da_cons (de_var 2) (da_cons (de_var 3) (da_nil))))) (dss_one (ds_if (dt_cmp od_notN (de_var 4) (de_non)) (dss_one (ds_ret (de_tup (da_cons (de_fld (S := [He.ga K "Form"]) (F.fld_Form_name) (de_var 2)) (da_cons (de_fld (S := [He.ga K "Form"]) (F.fld_Form_name) (de_var 3)) (da_cons (de_var 4) (da_nil))))))) (dss_nil))))))) (dss_one (ds_ret (de_non)))
theorem k_first_shared (F : Fx w K mg) : Known P w K mg base "first_shared" 3 1 (S_first_shared K) := by
  obtain ⟨fd, hf⟩ := F.fn_first_shared
  exact (known_of hf sc_first_shared F.gl_first_shared (fun_binds hf fun _ _ _ _ _ _ us hl => match us, hl with | [_], _ => rfl) rfl (b_first_shared F)).scope

abbrev N_OneCode_init : List Str := ["self", "first", "second", "code"]
theorem sc_OneCode_init : FnScope N_OneCode_init N_OneCode_init (defScope (inClass (top 14) 0)) := ⟨rfl, rfl, rfl, by decide +kernel, rfl, by decide +kernel, by decide +kernel⟩
theorem x_OneCode (F : Fx w K mg) : KnownX P w K mg base "OneCode" (He.ga K "OneCode") ["first", "second", "code"] := by
  obtain ⟨fd, hf⟩ := F.fn_OneCode_init
  exact ⟨F.ox_OneCode, F.nd_OneCode, F.gl_OneCode, _, fd, _, F.ii_OneCode.1, F.ii_OneCode.2, fun_binds hf fun _ _ _ _ _ _ us hl => match us, hl with | [_, _, _, _], _ => rfl, rfl, ini_ok F.ox_OneCode F.nd_OneCode hf sc_OneCode_init rfl (by decide) (fun cdv A outer s H E => pss_cons (ps_ose (pe_var (i := 0) rfl (.inl rfl)) (pe_var (i := 1) rfl (.inl rfl))) (pss_cons (ps_ose (pe_var (i := 0) rfl (.inl rfl)) (pe_var (i := 2) rfl (.inl rfl))) (pss_cons (ps_ose (pe_var (i := 0) rfl (.inl rfl)) (pe_var (i := 3) rfl (.inl rfl))) (pss_nil))))⟩

def B_Book_form_named (K : Fg) : TO' := dsSeq (dsFor (dIter (dFld [He.ga K "Book"] "forms" (dVar 0))) (gtName 2) (dsIf (dTest (dBin gEq (dFld [He.ga K "Form"] "name" (dVar 2)) (dVar 1))) (dsRet (dVar 2)) (dsNext))) (dsStuck)
def S_Book_form_named (K : Fg) : List D → M D := scopeF (runF 3 (B_Book_form_named K))
abbrev N_Book_form_named : List Str := ["self", "name", "form"]
abbrev P_Book_form_named : List Str := ["self", "name"]
theorem sc_Book_form_named : FnScope N_Book_form_named P_Book_form_named (defScope (inClass (top 47) 3)) := ⟨rfl, rfl, rfl, by decide +kernel, rfl, by decide +kernel, by decide +kernel⟩
set_option maxHeartbeats 4000000 in
theorem b_Book_form_named (F : Fx w K mg) : ∀ cdv A outer s H E, Room 0 (XB P w K mg base N_Book_form_named "Book.form_named" (inClass (top 47) 3) f cdv A outer s H E).A → DSs (XB P w K mg base N_Book_form_named "Book.form_named" (inClass (top 47) 3) f cdv A outer s H E) (WB E) (defBody (inClass (top 47) 3)) (B_Book_form_named K) := by
  intro cdv A outer s H E hr
  have tk : Takes (XB P w K mg base N_Book_form_named "Book.form_named" (inClass (top 47) 3) f cdv A outer s H E) (WB E) := takes_of rfl rfl rfl rfl
  have nd_ : (XB P w K mg base N_Book_form_named "Book.form_named" (inClass (top 47) 3) f cdv A outer s H E).N.Nodup := sc_Book_form_named.nd
  exact dss_cons (ds_for (passes_of rfl) rfl (di_seq (de_fld (S := [He.ga K "Book"]) (F.fld_Book_forms) (de_var 0))) (dg_name 2 sc_Book_form_named.nd) (dss_one (ds_if (dt_cmp (od_eq hr.units) (de_fld (S := [He.ga K "Form"]) (F.fld_Form_name) (de_var 2)) (de_var 1)) (dss_one (ds_ret (de_var 2))) (dss_nil)))) (dss_never)
theorem k_Book_form_named (F : Fx w K mg) : KnownM P w K mg base (He.ga K "Book") "form_named" 1 2 (S_Book_form_named K) := by
  obtain ⟨fd, hf⟩ := F.fn_Book_form_named
  exact ⟨F.cl_Book, _, fd, _, F.me_Book_form_named, fun_binds hf fun _ _ _ _ _ _ us hl => match us, hl with | [_, _], _ => rfl, rfl, (fnOk_of hf sc_Book_form_named rfl (b_Book_form_named F)).imp spD_scope⟩

def B_half_run (K : Fg) : TO' := dsSeq (dsSet 2 (dMethX (He.ga K "Book") "form_named" (S_Book_form_named K) 2 (dVar 0) (dCons (dVar 1) (dNil)))) (dsSeq (dsIf (dTest (dBin gIsN (dFld [He.ga K "Form"] "effect" (dVar 2)) (dC .non))) (dsRet (dC .non)) (dsNext)) (dsStuck))
def S_half_run (K : Fg) : List D → M D := scopeF (runF 5 (B_half_run K))
abbrev N_half_run : List Str := ["book", "name", "form", "naming", "shown"]
abbrev P_half_run : List Str := ["book", "name"]
theorem sc_half_run : FnScope N_half_run P_half_run (defScope (top 96)) := ⟨rfl, rfl, rfl, by decide +kernel, rfl, by decide +kernel, by decide +kernel⟩
set_option maxHeartbeats 4000000 in
theorem b_half_run (F : Fx w K mg) : ∀ cdv A outer s H E, Room 1 (XB P w K mg base N_half_run "half_run" (top 96) f cdv A outer s H E).A → DSs (XB P w K mg base N_half_run "half_run" (top 96) f cdv A outer s H E) (WB E) (defBody (top 96)) (B_half_run K) := by
  intro cdv A outer s H E hr
  have tk : Takes (XB P w K mg base N_half_run "half_run" (top 96) f cdv A outer s H E) (WB E) := takes_of rfl rfl rfl rfl
  have nd_ : (XB P w K mg base N_half_run "half_run" (top 96) f cdv A outer s H E).N.Nodup := sc_half_run.nd
  exact dss_cons (ds_set (i := 2) sc_half_run.nd (de_methX (k_Book_form_named F) (hr.mono (by decide : 1 ≤ _)) tk (de_var 0) (da_cons (de_var 1) (da_nil)))) (dss_cons (ds_if (dt_cmp od_isN (de_fld (S := [He.ga K "Form"]) (F.fld_Form_effect) (de_var 2)) (de_non)) (dss_one (ds_ret (de_non))) (dss_nil)) (dss_never))
theorem k_half_run (F : Fx w K mg) : Known P w K mg base "half_run" 2 2 (S_half_run K) := by
  obtain ⟨fd, hf⟩ := F.fn_half_run
  exact (known_of hf sc_half_run F.gl_half_run (fun_binds hf fun _ _ _ _ _ _ us hl => match us, hl with | [_, _], _ => rfl) rfl (b_half_run F)).scope

abbrev N_HalfDone_init : List Str := ["self", "form", "code", "place", "regs", "answers"]
theorem sc_HalfDone_init : FnScope N_HalfDone_init N_HalfDone_init (defScope (inClass (top 15) 0)) := ⟨rfl, rfl, rfl, by decide +kernel, rfl, by decide +kernel, by decide +kernel⟩
theorem x_HalfDone (F : Fx w K mg) : KnownX P w K mg base "HalfDone" (He.ga K "HalfDone") ["form", "code", "place", "regs", "answers"] := by
  obtain ⟨fd, hf⟩ := F.fn_HalfDone_init
  exact ⟨F.ox_HalfDone, F.nd_HalfDone, F.gl_HalfDone, _, fd, _, F.ii_HalfDone.1, F.ii_HalfDone.2, fun_binds hf fun _ _ _ _ _ _ us hl => match us, hl with | [_, _, _, _, _, _], _ => rfl, rfl, ini_ok F.ox_HalfDone F.nd_HalfDone hf sc_HalfDone_init rfl (by decide) (fun cdv A outer s H E => pss_cons (ps_ose (pe_var (i := 0) rfl (.inl rfl)) (pe_var (i := 1) rfl (.inl rfl))) (pss_cons (ps_ose (pe_var (i := 0) rfl (.inl rfl)) (pe_var (i := 2) rfl (.inl rfl))) (pss_cons (ps_ose (pe_var (i := 0) rfl (.inl rfl)) (pe_var (i := 3) rfl (.inl rfl))) (pss_cons (ps_ose (pe_var (i := 0) rfl (.inl rfl)) (pe_var (i := 4) rfl (.inl rfl))) (pss_cons (ps_ose (pe_var (i := 0) rfl (.inl rfl)) (pe_var (i := 5) rfl (.inl rfl))) (pss_nil))))))⟩

def B_check_book (K : Fg) : TO' := dsSeq (dsSet 1 (dCall (S_first_shared K) 1 (dCons (dVar 0) (dNil)))) (dsSeq (dsIf (dTest (dBin gNotN (dVar 1) (dC .non))) (dsSeq (dsAsg (dVar 1) (gtTup 3 (gtCons (gtName 2) (gtCons (gtName 3) (gtCons (gtName 4) (gtNil)))))) (dsRaise (He.ga K "OneCode") ["first", "second", "code"] (dCons (dVar 2) (dCons (dVar 3) (dCons (dVar 4) (dNil)))))) (dsNext)) (dsFor (dIter (dFld [He.ga K "Book"] "forms" (dVar 0))) (gtName 5) (dsSeq (dsSet 6 (dCall (S_half_run K) 2 (dCons (dVar 0) (dCons (dFld [He.ga K "Form"] "name" (dVar 5)) (dNil))))) (dsIf (dTest (dBin gNotN (dVar 6) (dC .non))) (dsSeq (dsAsg (dVar 6) (gtTup 4 (gtCons (gtName 4) (gtCons (gtName 7) (gtCons (gtName 8) (gtCons (gtName 9) (gtNil))))))) (dsRaise (He.ga K "HalfDone") ["form", "code", "place", "regs", "answers"] (dCons (dFld [He.ga K "Form"] "name" (dVar 5)) (dCons (dVar 4) (dCons (dVar 7) (dCons (dVar 8) (dCons (dVar 9) (dNil)))))))) (dsNext)))))
def S_check_book (K : Fg) : List D → M D := scopeF (runF 10 (B_check_book K))
abbrev N_check_book : List Str := ["book", "shared", "first", "second", "code", "form", "shown", "place", "regs", "answers"]
abbrev P_check_book : List Str := ["book"]
theorem sc_check_book : FnScope N_check_book P_check_book (defScope (top 98)) := ⟨rfl, rfl, rfl, by decide +kernel, rfl, by decide +kernel, by decide +kernel⟩
set_option maxHeartbeats 4000000 in
theorem b_check_book (F : Fx w K mg) : ∀ cdv A outer s H E, Room 3 (XB P w K mg base N_check_book "check_book" (top 98) f cdv A outer s H E).A → DSs (XB P w K mg base N_check_book "check_book" (top 98) f cdv A outer s H E) (WB E) (defBody (top 98)) (B_check_book K) := by
  intro cdv A outer s H E hr
  have tk : Takes (XB P w K mg base N_check_book "check_book" (top 98) f cdv A outer s H E) (WB E) := takes_of rfl rfl rfl rfl
  have nd_ : (XB P w K mg base N_check_book "check_book" (top 98) f cdv A outer s H E).N.Nodup := sc_check_book.nd
  exact dss_cons (ds_set (i := 1) sc_check_book.nd (de_call (k_first_shared F) (hr.mono (by decide : 3 ≤ _)) tk (da_cons (de_var 0) (da_nil)))) (dss_cons (ds_if (dt_cmp od_notN (de_var 1) (de_non)) (dss_cons (ds_asg (de_var 1) (dg_tup rfl (dgs_cons (dg_name 2 sc_check_book.nd) (dgs_cons (dg_name 3 sc_check_book.nd) (dgs_cons (dg_name 4 sc_check_book.nd) (dgs_nil)))))) (dss_one (ds_raise rfl tk (x_OneCode F) (hr.mono (by decide : 2 ≤ _)) (da_cons (de_var 2) (da_cons (de_var 3) (da_cons (de_var 4) (da_nil))))))) (dss_nil)) (dss_one (ds_for (passes_of rfl) rfl (di_seq (de_fld (S := [He.ga K "Book"]) (F.fld_Book_forms) (de_var 0))) (dg_name 5 sc_check_book.nd) (dss_cons (ds_set (i := 6) sc_check_book.nd (de_call (k_half_run F) (hr.mono (by decide : 2 ≤ _)) tk (da_cons (de_var 0) (da_cons (de_fld (S := [He.ga K "Form"]) (F.fld_Form_name) (de_var 5)) (da_nil))))) (dss_one (ds_if (dt_cmp od_notN (de_var 6) (de_non)) (dss_cons (ds_asg (de_var 6) (dg_tup rfl (dgs_cons (dg_name 4 sc_check_book.nd) (dgs_cons (dg_name 7 sc_check_book.nd) (dgs_cons (dg_name 8 sc_check_book.nd) (dgs_cons (dg_name 9 sc_check_book.nd) (dgs_nil))))))) (dss_one (ds_raise rfl tk (x_HalfDone F) (hr.mono (by decide : 2 ≤ _)) (da_cons (de_fld (S := [He.ga K "Form"]) (F.fld_Form_name) (de_var 5)) (da_cons (de_var 4) (da_cons (de_var 7) (da_cons (de_var 8) (da_cons (de_var 9) (da_nil))))))))) (dss_nil)))))))
theorem k_check_book (F : Fx w K mg) : Known P w K mg base "check_book" 4 1 (S_check_book K) := by
  obtain ⟨fd, hf⟩ := F.fn_check_book
  exact (known_of hf sc_check_book F.gl_check_book (fun_binds hf fun _ _ _ _ _ _ us hl => match us, hl with | [_], _ => rfl) rfl (b_check_book F)).scope

def B_is_let_by (K : Fg) : TO' := dsSeq (dsTryT (kxs K) (He.ga K "OneCode") (He.ga K "HalfDone") (dsExpr (dCall (S_check_book K) 1 (dCons (dVar 0) (dNil)))) (dsRet (dC (.bl false)))) (dsRet (dC (.bl true)))
def S_is_let_by (K : Fg) : List D → M D := scopeF (runF 1 (B_is_let_by K))
abbrev N_is_let_by : List Str := ["book"]
abbrev P_is_let_by : List Str := ["book"]
theorem sc_is_let_by : FnScope N_is_let_by P_is_let_by (defScope (top 99)) := ⟨rfl, rfl, rfl, by decide +kernel, rfl, by decide +kernel, by decide +kernel⟩
set_option maxHeartbeats 4000000 in
theorem b_is_let_by (F : Fx w K mg) : ∀ cdv A outer s H E, Room 4 (XB P w K mg base N_is_let_by "is_let_by" (top 99) f cdv A outer s H E).A → DSs (XB P w K mg base N_is_let_by "is_let_by" (top 99) f cdv A outer s H E) (WB E) (defBody (top 99)) (B_is_let_by K) := by
  intro cdv A outer s H E hr
  have tk : Takes (XB P w K mg base N_is_let_by "is_let_by" (top 99) f cdv A outer s H E) (WB E) := takes_of rfl rfl rfl rfl
  have nd_ : (XB P w K mg base N_is_let_by "is_let_by" (top 99) f cdv A outer s H E).N.Nodup := sc_is_let_by.nd
  exact dss_cons (ds_tryT (kx := kxs K) F.kx tk F.gl_OneCode F.gl_HalfDone (fun W' pn xe tk' ps' => dss_one (ds_expr (de_call (k_check_book F) (hr.mono (by decide : 4 ≤ _)) tk' (da_cons (de_var 0) (da_nil))))) (fun a oe cls d pn hz hf => dss_one (ds_ret (de_bl)))) (dss_one (ds_ret (de_bl)))
theorem k_is_let_by (F : Fx w K mg) : Known P w K mg base "is_let_by" 5 1 (S_is_let_by K) := by
  obtain ⟨fd, hf⟩ := F.fn_is_let_by
  exact (known_of hf sc_is_let_by F.gl_is_let_by (fun_binds hf fun _ _ _ _ _ _ us hl => match us, hl with | [_], _ => rfl) rfl (b_is_let_by F)).scope

def B__law_checked_is (K : Fg) : TO' := dsSeq (dsSet 2 (dC .non)) (dsSeq (dsSet 3 (dC .non)) (dsSeq (dsSet 4 (dC (.str "none"))) (dsSeq (dsTryH (kxs K) [⟨He.ga K "OneCode", some 5, [He.ga K "OneCode"], fun C ns ds => dsSeq (dsSet 2 (dTup (dCons (dExF "first" ns ds) (dCons (dExF "second" ns ds) (dCons (dExF "code" ns ds) (dNil)))))) (dsSet 3 (dAndV (dIsX (kits K) (He.ga K "OneCode") (He.ga K "Refusal")) (dNotV (dIsX (kits K) (He.ga K "OneCode") (He.ga K "HalfDone")))))⟩] (dsSet 4 (dCall (S_check_book K) 1 (dCons (dVar 0) (dNil))))) (dsSeq (dsSet 6 (dCall (S_is_let_by K) 1 (dCons (dVar 0) (dNil)))) (dsSeq (dsIf (dOr (dNot (dTruth (dIsi (owns K) (kits K) (dVar 6) (dC (.ty "bool"))))) (dTest (dBin gNe (dVar 6) (dBin gIsN (dVar 1) (dC .non))))) (dsRet (dC (.bl false))) (dsNext)) (dsSeq (dsIf (dTest (dBin gIsN (dVar 1) (dC .non))) (dsRet (dAndV (dBin gIsN (dVar 2) (dC .non)) (dBin gIsN (dVar 4) (dC .non)))) (dsNext)) (dsRet (dAndV (dBin (gIs2 false) (dVar 3) (dC (.bl true))) (dCall (S__law_first_is K) 2 (dCons (dVar 2) (dCons (dVar 1) (dNil))))))))))))
def S__law_checked_is (K : Fg) : List D → M D := scopeF (runF 7 (B__law_checked_is K))
abbrev N__law_checked_is : List Str := ["_law_book", "_law_first", "_law_caught", "_law_plain", "_law_returned", "error", "_law_taken"]
abbrev P__law_checked_is : List Str := ["_law_book", "_law_first"]
theorem sc__law_checked_is : FnScope N__law_checked_is P__law_checked_is (defScope (top 111)) := ⟨rfl, rfl, rfl, by decide +kernel, rfl, by decide +kernel, by decide +kernel⟩
set_option maxHeartbeats 4000000 in
theorem b__law_checked_is (F : Fx w K mg) : ∀ cdv A outer s H E, Room 5 (XB P w K mg base N__law_checked_is "_law_checked_is" (top 111) f cdv A outer s H E).A → DSs (XB P w K mg base N__law_checked_is "_law_checked_is" (top 111) f cdv A outer s H E) (WB E) (defBody (top 111)) (B__law_checked_is K) := by
  intro cdv A outer s H E hr
  have tk : Takes (XB P w K mg base N__law_checked_is "_law_checked_is" (top 111) f cdv A outer s H E) (WB E) := takes_of rfl rfl rfl rfl
  have nd_ : (XB P w K mg base N__law_checked_is "_law_checked_is" (top 111) f cdv A outer s H E).N.Nodup := sc__law_checked_is.nd
  exact dss_cons (ds_set (i := 2) sc__law_checked_is.nd (de_non)) (dss_cons (ds_set (i := 3) sc__law_checked_is.nd (de_non)) (dss_cons (ds_set (i := 4) sc__law_checked_is.nd (de_str)) (dss_cons (ds_tryH (kx := kxs K) (hr_as (i := 5) (S := [He.ga K "OneCode"]) F.kx F.gl_OneCode sc__law_checked_is.nd (fun a oe d pn C' ns ds hC hz hf => by obtain rfl := List.mem_singleton.mp hC; exact dks_cons (dk_set (i := 5) (j := 2) (by decide) sc__law_checked_is.nd (deg_tup (dag_cons (deg_exf F.xf_OneCode F.xn_OneCode_first hz hf (pe_var (i := 5) rfl (.inl rfl))) (dag_cons (deg_exf F.xf_OneCode F.xn_OneCode_second hz hf (pe_var (i := 5) rfl (.inl rfl))) (dag_cons (deg_exf F.xf_OneCode F.xn_OneCode_code hz hf (pe_var (i := 5) rfl (.inl rfl))) (dag_nil)))))) (dks_one (dk_set (i := 5) (j := 3) (by decide) sc__law_checked_is.nd (deg_and (deg_isx F.ec_OneCode F.kit hz hf (pe_var (i := 5) rfl (.inl rfl)) F.gl_Refusal F.fr_isinstance) (deg_not (deg_isx F.ec_OneCode F.kit hz hf (pe_var (i := 5) rfl (.inl rfl)) F.gl_HalfDone F.fr_isinstance)))))) (hr_nil rfl rfl tk)) (fun W' pn xe tk' ps' => dss_one (ds_set (i := 4) sc__law_checked_is.nd (de_call (k_check_book F) (hr.mono (by decide : 4 ≤ _)) tk' (da_cons (de_var 0) (da_nil)))))) (dss_cons (ds_set (i := 6) sc__law_checked_is.nd (de_call (k_is_let_by F) (hr.mono (by decide : 5 ≤ _)) tk (da_cons (de_var 0) (da_nil)))) (dss_cons (ds_if (dt_w (dw_or (dt_not (dt_truth (de_isi F.own F.kit (de_var 6) ((de_bltn (d := .ty "bool") F.fr_bool (by decide +kernel) rfl rfl)) F.fr_isinstance))) (dw_or1 (dt_cmp (od_ne hr.units) (de_var 6) (de_cmp od_isN (de_var 1) (de_non)))))) (dss_one (ds_ret (de_bl))) (dss_nil)) (dss_cons (ds_if (dt_cmp od_isN (de_var 1) (de_non)) (dss_one (ds_ret (de_and (de_cmp od_isN (de_var 2) (de_non)) (de_one (de_cmp od_isN (de_var 4) (de_non)))))) (dss_nil)) (dss_one (ds_ret (de_and (de_cmp od_isB (de_var 3) (de_bl)) (de_one (de_call (k__law_first_is F) (hr.mono (by decide : 3 ≤ _)) tk (da_cons (de_var 2) (da_cons (de_var 1) (da_nil))))))))))))))
theorem k__law_checked_is (F : Fx w K mg) : Known P w K mg base "_law_checked_is" 6 2 (S__law_checked_is K) := by
  obtain ⟨fd, hf⟩ := F.fn__law_checked_is
  exact (known_of hf sc__law_checked_is F.gl__law_checked_is (fun_binds hf fun _ _ _ _ _ _ us hl => match us, hl with | [_, _], _ => rfl) rfl (b__law_checked_is F)).scope

def B_law (K : Fg) : TO' := dsSeq (dsSet 1 (dCall (S__law_draws K) 1 (dCons (dVar 0) (dNil)))) (dsSeq (dsSet 2 (dIx (qVal (dFz (dLst (dCons (dC (.int 4)) (dCons (dC (.int 5)) (dCons (dC (.int 4)) (dCons (dC (.int 6)) (dCons (dC (.int 8)) (dNil))))))))) (dCall (S__law_take K) 2 (dCons (dVar 1) (dCons (dC (.int 5)) (dNil)))))) (dsSeq (dsSet 3 (dIx (qVal (dFz (dLst (dCons (dC (.int 2)) (dCons (dC (.int 1)) (dCons (dC (.int 4)) (dCons (dC (.int 3)) (dNil)))))))) (dCall (S__law_take K) 2 (dCons (dVar 1) (dCons (dC (.int 4)) (dNil)))))) (dsSeq (dsSet 4 (dCall (S__law_form_rows K) 4 (dCons (dVar 1) (dCons (dVar 2) (dCons (dVar 3) (dCons (dBin gAdd (dC (.int 2)) (dCall (S__law_take K) 2 (dCons (dVar 1) (dCons (dC (.int 3)) (dNil))))) (dNil))))))) (dsSeq (dsSet 5 (dFz (dLcI [12] (dVar 4) (gtName 12) (dYes) (dTup (dCons (dIx (qVal (dVar 12)) (dC (.int 0))) (dCons (dFz (dLstOf (qVal (dIx (qVal (dVar 12)) (dC (.int 1)))))) (dCons (dFz (dLstOf (qVal (dIx (qVal (dVar 12)) (dC (.int 2)))))) (dNil)))))))) (dsSeq (dsSet 6 (dMake (He.ga K "Book") (S_Book_init K) 4 (dCons (dVar 2) (dCons (dVar 3) (dCons (dVar 4) (dNil)))))) (dsSeq (dsIf (dOr (dTest (dNeT (dVar 4) (dVar 5))) (dTest (dBin gNe (dLen (qVal (dFld [He.ga K "Book"] "forms" (dVar 6)))) (dLen (qVal (dVar 4)))))) (dsRet (dC (.bl false))) (dsNext)) (dsSeq (dsSet 7 (dC .non)) (dsSeq (dsFor (dRng1 (dLen (qVal (dVar 4)))) (gtName 8) (dsFor (dRng1 (dLen (qVal (dVar 4)))) (gtName 9) (dsIf (dTest (dBin gNe (dVar 8) (dVar 9))) (dsSeq (dsSet 10 (dCall (S__law_shared K) 3 (dCons (dIx (qVal (dIx (qVal (dVar 5)) (dVar 8))) (dC (.int 1))) (dCons (dIx (qVal (dIx (qVal (dVar 5)) (dVar 9))) (dC (.int 1))) (dCons (dVar 2) (dNil)))))) (dsSeq (dsSet 11 (dCall (S_shared_code K) 2 (dCons (dIx (qVal (dFld [He.ga K "Book"] "forms" (dVar 6))) (dVar 8)) (dCons (dIx (qVal (dFld [He.ga K "Book"] "forms" (dVar 6))) (dVar 9)) (dNil))))) (dsSeq (dsIf (dAnd (dTest (dBin gIsN (dVar 10) (dC .non))) (dTest (dBin gNotN (dVar 11) (dC .non)))) (dsRet (dC (.bl false))) (dsNext)) (dsSeq (dsIf (dAnd (dTest (dBin gNotN (dVar 10) (dC .non))) (dNot (dTruth (dCall (S__law_is_code K) 2 (dCons (dVar 11) (dCons (dVar 10) (dNil))))))) (dsRet (dC (.bl false))) (dsNext)) (dsIf (dAnd (dTest (dBin gNotN (dVar 10) (dC .non))) (dAnd (dTest (dBin gIsN (dVar 7) (dC .non))) (dTest (dBin gLt (dVar 8) (dVar 9))))) (dsSet 7 (dFz (dLst (dCons (dIx (qVal (dIx (qVal (dVar 4)) (dVar 8))) (dC (.int 0))) (dCons (dIx (qVal (dIx (qVal (dVar 4)) (dVar 9))) (dC (.int 0))) (dCons (dVar 10) (dNil))))))) (dsNext)))))) (dsNext)))) (dsSeq (dsIf (dOr (dNot (dTruth (dCall (S__law_first_is K) 2 (dCons (dCall (S_first_shared K) 1 (dCons (dVar 6) (dNil))) (dCons (dVar 7) (dNil)))))) (dNot (dTruth (dCall (S__law_checked_is K) 2 (dCons (dVar 6) (dCons (dVar 7) (dNil))))))) (dsRet (dC (.bl false))) (dsNext)) (dsSeq (dsSetIxM (dBin gMulS (dC (.str "1")) (dVar 2)) (dIx (qVal (dIx (qVal (dVar 4)) (dC (.int 0)))) (dC (.int 1))) (dC (.int 0))) (dsSeq (dsAppM (dIx (qVal (dIx (qVal (dVar 4)) (dC (.int 1)))) (dC (.int 1))) (dBin gMulS (dC (.str "0")) (dVar 2))) (dsSeq (dsAppM (dVar 4) (dIx (qVal (dVar 4)) (dC (.int 0)))) (dsRet (dCall (S__law_first_is K) 2 (dCons (dCall (S_first_shared K) 1 (dCons (dVar 6) (dNil))) (dCons (dVar 7) (dNil)))))))))))))))))
def S_law (K : Fg) : List D → M D := runF 13 (B_law K)
abbrev N_law : List Str := ["_law_script", "_law_draws_here", "_law_word", "_law_registers", "_law_rows", "_law_copies", "_law_book", "_law_first", "_law_i", "_law_j", "_law_due", "_law_told", "_law_row"]
abbrev P_law : List Str := ["_law_script"]
theorem sc_law : FnScope N_law P_law (defScope (top 112)) := ⟨rfl, rfl, rfl, by decide +kernel, rfl, by decide +kernel, by decide +kernel⟩
set_option maxHeartbeats 4000000 in
theorem b_law (F : Fx w K mg) : ∀ cdv A outer s H E, Room 8 (XB P w K mg base N_law "law" (top 112) f cdv A outer s H E).A → DSs (XB P w K mg base N_law "law" (top 112) f cdv A outer s H E) (WB E) (defBody (top 112)) (B_law K) := by
  intro cdv A outer s H E hr
  have tk : Takes (XB P w K mg base N_law "law" (top 112) f cdv A outer s H E) (WB E) := takes_of rfl rfl rfl rfl
  have nd_ : (XB P w K mg base N_law "law" (top 112) f cdv A outer s H E).N.Nodup := sc_law.nd
  exact dss_cons (ds_set (i := 1) sc_law.nd (de_call (k__law_draws F) (hr.mono (by decide : 1 ≤ _)) tk (da_cons (de_var 0) (da_nil)))) (dss_cons (ds_set (i := 2) sc_law.nd (de_ix (dq_val (de_fz (df_lst (da_cons (de_int) (da_cons (de_int) (da_cons (de_int) (da_cons (de_int) (da_cons (de_int) (da_nil))))))))) (de_call (k__law_take F) (hr.mono (by decide : 1 ≤ _)) tk (da_cons (de_var 1) (da_cons (de_int) (da_nil)))))) (dss_cons (ds_set (i := 3) sc_law.nd (de_ix (dq_val (de_fz (df_lst (da_cons (de_int) (da_cons (de_int) (da_cons (de_int) (da_cons (de_int) (da_nil)))))))) (de_call (k__law_take F) (hr.mono (by decide : 1 ≤ _)) tk (da_cons (de_var 1) (da_cons (de_int) (da_nil)))))) (dss_cons (ds_set (i := 4) sc_law.nd (de_call (k__law_form_rows F) (hr.mono (by decide : 3 ≤ _)) tk (da_cons (de_var 1) (da_cons (de_var 2) (da_cons (de_var 3) (da_cons (de_op od_add (de_int) (de_call (k__law_take F) (hr.mono (by decide : 1 ≤ _)) tk (da_cons (de_var 1) (da_cons (de_int) (da_nil))))) (da_nil))))))) (dss_cons (ds_setLcI (i := 5) (own := [("_law_row", 12)]) rfl sc_law.nd (de_var 4) (blkOk_by (by rfl)) (fun _ _ _ _ _ => dg_name 12 sc_law.nd) (fun _ _ _ _ _ => dts_nil) (fun _ _ _ _ _ => de_tup (da_cons (de_ix (dq_val (de_var 12)) (de_int)) (da_cons (de_fz (df_lstOf (dq_val (de_ix (dq_val (de_var 12)) (de_int))) F.fr_list)) (da_cons (de_fz (df_lstOf (dq_val (de_ix (dq_val (de_var 12)) (de_int))) F.fr_list)) (da_nil))))) (by rfl)) (dss_cons (ds_set (i := 6) sc_law.nd (de_make (k_Book_init F) (hr.mono (by decide : 8 ≤ _)) tk (da_cons (de_var 2) (da_cons (de_var 3) (da_cons (de_var 4) (da_nil)))))) (dss_cons (ds_if (dt_w (dw_or (dt_neT hr.units (de_var 4) (de_var 5)) (dw_or1 (dt_cmp (od_ne hr.units) (de_len (dq_val (de_fld (S := [He.ga K "Book"]) (F.fld_Book_forms) (de_var 6))) F.fr_len) (de_len (dq_val (de_var 4)) F.fr_len))))) (dss_one (ds_ret (de_bl))) (dss_nil)) (dss_cons (ds_set (i := 7) sc_law.nd (de_non)) (dss_cons (ds_for (passes_of rfl) rfl (di_rng1 (de_len (dq_val (de_var 4)) F.fr_len) F.fr_range) (dg_name 8 sc_law.nd) (dss_one (ds_for (passes_of rfl) rfl (di_rng1 (de_len (dq_val (de_var 4)) F.fr_len) F.fr_range) (dg_name 9 sc_law.nd) (dss_one (ds_if (dt_cmp (od_ne hr.units) (de_var 8) (de_var 9)) (dss_cons (ds_set (i := 10) sc_law.nd (de_call (k__law_shared F) (hr.mono (by decide : 2 ≤ _)) tk (da_cons (de_ix (dq_val (de_ix (dq_val (de_var 5)) (de_var 8))) (de_int)) (da_cons (de_ix (dq_val (de_ix (dq_val (de_var 5)) (de_var 9))) (de_int)) (da_cons (de_var 2) (da_nil)))))) (dss_cons (ds_set (i := 11) sc_law.nd (de_call (k_shared_code F) (hr.mono (by decide : 2 ≤ _)) tk (da_cons (de_ix (dq_val (de_fld (S := [He.ga K "Book"]) (F.fld_Book_forms) (de_var 6))) (de_var 8)) (da_cons (de_ix (dq_val (de_fld (S := [He.ga K "Book"]) (F.fld_Book_forms) (de_var 6))) (de_var 9)) (da_nil))))) (dss_cons (ds_if (dt_w (dw_and (dt_cmp od_isN (de_var 10) (de_non)) (dw_and1 (dt_cmp od_notN (de_var 11) (de_non))))) (dss_one (ds_ret (de_bl))) (dss_nil)) (dss_cons (ds_if (dt_w (dw_and (dt_cmp od_notN (de_var 10) (de_non)) (dw_and1 (dt_not (dt_truth (de_call (k__law_is_code F) (hr.mono (by decide : 2 ≤ _)) tk (da_cons (de_var 11) (da_cons (de_var 10) (da_nil))))))))) (dss_one (ds_ret (de_bl))) (dss_nil)) (dss_one (ds_if (dt_w (dw_and (dt_cmp od_notN (de_var 10) (de_non)) (dw_and (dt_cmp od_isN (de_var 7) (de_non)) (dw_and1 (dt_cmp od_lt (de_var 8) (de_var 9)))))) (dss_one (ds_set (i := 7) sc_law.nd (de_fz (df_lst (da_cons (de_ix (dq_val (de_ix (dq_val (de_var 4)) (de_var 8))) (de_int)) (da_cons (de_ix (dq_val (de_ix (dq_val (de_var 4)) (de_var 9))) (de_int)) (da_cons (de_var 10) (da_nil)))))))) (dss_nil))))))) (dss_nil)))))) (dss_cons (ds_if (dt_w (dw_or (dt_not (dt_truth (de_call (k__law_first_is F) (hr.mono (by decide : 3 ≤ _)) tk (da_cons (de_call (k_first_shared F) (hr.mono (by decide : 3 ≤ _)) tk (da_cons (de_var 6) (da_nil))) (da_cons (de_var 7) (da_nil)))))) (dw_or1 (dt_not (dt_truth (de_call (k__law_checked_is F) (hr.mono (by decide : 6 ≤ _)) tk (da_cons (de_var 6) (da_cons (de_var 7) (da_nil))))))))) (dss_one (ds_ret (de_bl))) (dss_nil)) (dss_cons (ds_setIxM (de_op od_mulS (de_str) (de_var 2)) (de_ix (dq_val (de_ix (dq_val (de_var 4)) (de_int))) (de_int)) (de_int)) (dss_cons (ds_appM (de_ix (dq_val (de_ix (dq_val (de_var 4)) (de_int))) (de_int)) (de_op od_mulS (de_str) (de_var 2))) (dss_cons (ds_appM (de_var 4) (de_ix (dq_val (de_var 4)) (de_int))) (dss_one (ds_ret (de_call (k__law_first_is F) (hr.mono (by decide : 3 ≤ _)) tk (da_cons (de_call (k_first_shared F) (hr.mono (by decide : 3 ≤ _)) tk (da_cons (de_var 6) (da_nil))) (da_cons (de_var 7) (da_nil))))))))))))))))))
end
end K10

set_option Elab.async false
set_option linter.all false
set_option maxRecDepth 100000
set_option maxHeartbeats 4000000
set_option autoImplicit false
namespace K10
open PySem PySem.Spec L2 DL
theorem facts {w : World} {K : Fg} {mg : Str → Option Value} {h : Heap} (X : K.In h) (G : h.Ns mainGlobals mg) (c : SaysX bs fn ts w K) : Fx w K mg where
  fr_len := He.free_ok X G (c.fact 0 (b := (fun K => (He.Fa.free "len").ok K)))
  fr_min := He.free_ok X G (c.fact 1 (b := (fun K => (He.Fa.free "min").ok K)))
  fr_range := He.free_ok X G (c.fact 2 (b := (fun K => (He.Fa.free "range").ok K)))
  fr_int := He.free_ok X G (c.fact 3 (b := (fun K => (He.Fa.free "int").ok K)))
  gl__law_draws := He.glo_ok X G (c.fact 4 (b := (fun K => (He.Fa.glo "_law_draws").ok K)))
  fn__law_draws := c.def_ 0 (d := ⟨fun K => He.ga K "_law_draws", "_law_draws", "_law_draws", top 101⟩)
  gl__law_take := He.glo_ok X G (c.fact 5 (b := (fun K => (He.Fa.glo "_law_take").ok K)))
  fn__law_take := c.def_ 1 (d := ⟨fun K => He.ga K "_law_take", "_law_take", "_law_take", top 102⟩)
  gl__law_bent := He.glo_ok X G (c.fact 6 (b := (fun K => (He.Fa.glo "_law_bent").ok K)))
  fn__law_bent := c.def_ 2 (d := ⟨fun K => He.ga K "_law_bent", "_law_bent", "_law_bent", top 106⟩)
  gl__law_patterns := He.glo_ok X G (c.fact 7 (b := (fun K => (He.Fa.glo "_law_patterns").ok K)))
  fn__law_patterns := c.def_ 3 (d := ⟨fun K => He.ga K "_law_patterns", "_law_patterns", "_law_patterns", top 105⟩)
  gl__law_form_rows := He.glo_ok X G (c.fact 8 (b := (fun K => (He.Fa.glo "_law_form_rows").ok K)))
  fn__law_form_rows := c.def_ 4 (d := ⟨fun K => He.ga K "_law_form_rows", "_law_form_rows", "_law_form_rows", top 107⟩)
  fr_list := He.free_ok X G (c.fact 9 (b := (fun K => (He.Fa.free "list").ok K)))
  own := fun C hC => by cases hC
  kit := kitB'_ok (c.fact 10 (b := (kitB' kits)))
  fr_isinstance := He.free_ok X G (c.fact 11 (b := (fun K => (He.Fa.free "isinstance").ok K)))
  fr_bool := He.free_ok X G (c.fact 12 (b := (fun K => (He.Fa.free "bool").ok K)))
  gl_is_integer := He.glo_ok X G (c.fact 13 (b := (fun K => (He.Fa.glo "is_integer").ok K)))
  fn_is_integer := c.def_ 5 (d := ⟨fun K => He.ga K "is_integer", "is_integer", "is_integer", top 24⟩)
  gl_check_int := He.glo_ok X G (c.fact 14 (b := (fun K => (He.Fa.glo "check_int").ok K)))
  fn_check_int := c.def_ 6 (d := ⟨fun K => He.ga K "check_int", "check_int", "check_int", top 25⟩)
  cl_Book := He.cls_ok (c.fact 15 (b := (fun K => (He.Fa.cls "Book").ok K)))
  na_Book_word := He.noat_ok (c.fact 16 (b := (fun K => (He.Fa.noat "Book" "word").ok K)))
  na_Book_registers := He.noat_ok (c.fact 17 (b := (fun K => (He.Fa.noat "Book" "registers").ok K)))
  fr_tuple := He.free_ok X G (c.fact 18 (b := (fun K => (He.Fa.free "tuple").ok K)))
  fr_str := He.free_ok X G (c.fact 19 (b := (fun K => (He.Fa.free "str").ok K)))
  st_SMALL := He.str_ok X G (c.fact 20 (b := (fun K => (He.Fa.str "SMALL" "abcdefghijklmnopqrstuvwxyz").ok K)))
  fr_all := He.free_ok X G (c.fact 21 (b := (fun K => (He.Fa.free "all").ok K)))
  gl_is_small_word := He.glo_ok X G (c.fact 22 (b := (fun K => (He.Fa.glo "is_small_word").ok K)))
  fn_is_small_word := c.def_ 7 (d := ⟨fun K => He.ga K "is_small_word", "is_small_word", "is_small_word", top 33⟩)
  st_LETTERS := He.str_ok X G (c.fact 23 (b := (fun K => (He.Fa.str "LETTERS" "abcmn").ok K)))
  gl_letters_of := He.glo_ok X G (c.fact 24 (b := (fun K => (He.Fa.glo "letters_of").ok K)))
  fn_letters_of := c.def_ 8 (d := ⟨fun K => He.ga K "letters_of", "letters_of", "letters_of", top 19⟩)
  gl_good_patterns := He.glo_ok X G (c.fact 25 (b := (fun K => (He.Fa.glo "good_patterns").ok K)))
  fn_good_patterns := c.def_ 9 (d := ⟨fun K => He.ga K "good_patterns", "good_patterns", "good_patterns", top 34⟩)
  gl_ones := He.glo_ok X G (c.fact 26 (b := (fun K => (He.Fa.glo "ones").ok K)))
  fn_ones := c.def_ 10 (d := ⟨fun K => He.ga K "ones", "ones", "ones", top 26⟩)
  fr_enumerate := He.free_ok X G (c.fact 27 (b := (fun K => (He.Fa.free "enumerate").ok K)))
  gl_SHAPES := He.glo_ok X G (c.fact 28 (b := (fun K => (He.Fa.glo "SHAPES").ok K)))
  kt_SHAPES := ⟨c.tab 0 (t := (fun K => He.ga K "SHAPES", ["get", "num", "here", "next", "add", "sub", "and", "or", "xor", "less", "same", "read", "in", "must", "write", "out", "put", "goto"])), fun x hx => by
    simp only [tab_SHAPES, List.mem_cons, List.not_mem_nil, or_false] at hx
    rcases hx with rfl | rfl | rfl | rfl | rfl | rfl | rfl | rfl | rfl | rfl | rfl | rfl | rfl | rfl | rfl | rfl | rfl | rfl
    · exact dtup_at (c.fact 29 (b := (dtupB (fun K => He.ga K "SHAPES") "get" [.str "reg"]))) rfl
    · exact dtup_at (c.fact 30 (b := (dtupB (fun K => He.ga K "SHAPES") "num" [.str "num"]))) rfl
    · exact dtup_at (c.fact 31 (b := (dtupB (fun K => He.ga K "SHAPES") "here" []))) rfl
    · exact dtup_at (c.fact 32 (b := (dtupB (fun K => He.ga K "SHAPES") "next" []))) rfl
    · exact dtup_at (c.fact 33 (b := (dtupB (fun K => He.ga K "SHAPES") "add" [.str "line", .str "line"]))) rfl
    · exact dtup_at (c.fact 34 (b := (dtupB (fun K => He.ga K "SHAPES") "sub" [.str "line", .str "line"]))) rfl
    · exact dtup_at (c.fact 35 (b := (dtupB (fun K => He.ga K "SHAPES") "and" [.str "line", .str "line"]))) rfl
    · exact dtup_at (c.fact 36 (b := (dtupB (fun K => He.ga K "SHAPES") "or" [.str "line", .str "line"]))) rfl
    · exact dtup_at (c.fact 37 (b := (dtupB (fun K => He.ga K "SHAPES") "xor" [.str "line", .str "line"]))) rfl
    · exact dtup_at (c.fact 38 (b := (dtupB (fun K => He.ga K "SHAPES") "less" [.str "line", .str "line"]))) rfl
    · exact dtup_at (c.fact 39 (b := (dtupB (fun K => He.ga K "SHAPES") "same" [.str "line", .str "line"]))) rfl
    · exact dtup_at (c.fact 40 (b := (dtupB (fun K => He.ga K "SHAPES") "read" [.str "line"]))) rfl
    · exact dtup_at (c.fact 41 (b := (dtupB (fun K => He.ga K "SHAPES") "in" [.str "from"]))) rfl
    · exact dtup_at (c.fact 42 (b := (dtupB (fun K => He.ga K "SHAPES") "must" [.str "line", .str "cause"]))) rfl
    · exact dtup_at (c.fact 43 (b := (dtupB (fun K => He.ga K "SHAPES") "write" [.str "line", .str "line"]))) rfl
    · exact dtup_at (c.fact 44 (b := (dtupB (fun K => He.ga K "SHAPES") "out" [.str "to", .str "line"]))) rfl
    · exact dtup_at (c.fact 45 (b := (dtupB (fun K => He.ga K "SHAPES") "put" [.str "reg", .str "line"]))) rfl
    · exact dtup_at (c.fact 46 (b := (dtupB (fun K => He.ga K "SHAPES") "goto" [.str "line"]))) rfl⟩
  gl_good_entry := He.glo_ok X G (c.fact 47 (b := (fun K => (He.Fa.glo "good_entry").ok K)))
  fn_good_entry := c.def_ 11 (d := ⟨fun K => He.ga K "good_entry", "good_entry", "good_entry", top 35⟩)
  gl_good_line := He.glo_ok X G (c.fact 48 (b := (fun K => (He.Fa.glo "good_line").ok K)))
  fn_good_line := c.def_ 12 (d := ⟨fun K => He.ga K "good_line", "good_line", "good_line", top 36⟩)
  gl_EFFECTS := He.glo_ok X G (c.fact 49 (b := (fun K => (He.Fa.glo "EFFECTS").ok K)))
  tp_EFFECTS := kt_rep (vs := [.str "write", .str "in", .str "out"]) (He.tupB_ok (c.fact 50 (b := (fun K => He.tupB K "EFFECTS" [.str "write", .str "in", .str "out"])))) rfl
  gl_OTHERS := He.glo_ok X G (c.fact 51 (b := (fun K => (He.Fa.glo "OTHERS").ok K)))
  tp_OTHERS := kt_rep (vs := [.str "must", .str "write", .str "out", .str "put", .str "goto"]) (He.tupB_ok (c.fact 52 (b := (fun K => He.tupB K "OTHERS" [.str "must", .str "write", .str "out", .str "put", .str "goto"])))) rfl
  gl_first_wrong := He.glo_ok X G (c.fact 53 (b := (fun K => (He.Fa.glo "first_wrong").ok K)))
  fn_first_wrong := c.def_ 13 (d := ⟨fun K => He.ga K "first_wrong", "first_wrong", "first_wrong", top 37⟩)
  cl_Form := He.cls_ok (c.fact 54 (b := (fun K => (He.Fa.cls "Form").ok K)))
  na_Form_name := He.noat_ok (c.fact 55 (b := (fun K => (He.Fa.noat "Form" "name").ok K)))
  na_Form_patterns := He.noat_ok (c.fact 56 (b := (fun K => (He.Fa.noat "Form" "patterns").ok K)))
  na_Form_lines := He.noat_ok (c.fact 57 (b := (fun K => (He.Fa.noat "Form" "lines").ok K)))
  na_Form_size := He.noat_ok (c.fact 58 (b := (fun K => (He.Fa.noat "Form" "size").ok K)))
  na_Form_letters := He.noat_ok (c.fact 59 (b := (fun K => (He.Fa.noat "Form" "letters").ok K)))
  gl_line_at := He.glo_ok X G (c.fact 60 (b := (fun K => (He.Fa.glo "line_at").ok K)))
  fn_line_at := c.def_ 14 (d := ⟨fun K => He.ga K "line_at", "line_at", "line_at", top 38⟩)
  na_Form_effect := He.noat_ok (c.fact 61 (b := (fun K => (He.Fa.noat "Form" "effect").ok K)))
  na_Form_goto := He.noat_ok (c.fact 62 (b := (fun K => (He.Fa.noat "Form" "goto").ok K)))
  fn_Form_init := c.def_ 15 (d := ⟨fun K => He.ma K (He.ga K "Form") "__init__", "__init__", "Form.__init__", inClass (top 39) 0⟩)
  mk_Form := He.mkr_ok (c.fact 63 (b := (fun K => (He.Fa.mkr "Form").ok K)))
  gl_Form := He.glo_ok X G (c.fact 64 (b := (fun K => (He.Fa.glo "Form").ok K)))
  gl_made_form := He.glo_ok X G (c.fact 65 (b := (fun K => (He.Fa.glo "made_form").ok K)))
  fn_made_form := c.def_ 16 (d := ⟨fun K => He.ga K "made_form", "made_form", "made_form", top 40⟩)
  gl_made_forms := He.glo_ok X G (c.fact 66 (b := (fun K => (He.Fa.glo "made_forms").ok K)))
  fn_made_forms := c.def_ 17 (d := ⟨fun K => He.ga K "made_forms", "made_forms", "made_forms", top 41⟩)
  na_Book_forms := He.noat_ok (c.fact 67 (b := (fun K => (He.Fa.noat "Book" "forms").ok K)))
  gl_words_of_line := He.glo_ok X G (c.fact 68 (b := (fun K => (He.Fa.glo "words_of_line").ok K)))
  fn_words_of_line := c.def_ 18 (d := ⟨fun K => He.ga K "words_of_line", "words_of_line", "words_of_line", top 42⟩)
  na_Book__text := He.noat_ok (c.fact 69 (b := (fun K => (He.Fa.noat "Book" "_text").ok K)))
  fn_Book_init := c.def_ 19 (d := ⟨fun K => He.ma K (He.ga K "Book") "__init__", "__init__", "Book.__init__", inClass (top 47) 0⟩)
  mk_Book := He.mkr_ok (c.fact 70 (b := (fun K => (He.Fa.mkr "Book").ok K)))
  gl_Book := He.glo_ok X G (c.fact 71 (b := (fun K => (He.Fa.glo "Book").ok K)))
  gl__law_fits := He.glo_ok X G (c.fact 72 (b := (fun K => (He.Fa.glo "_law_fits").ok K)))
  fn__law_fits := c.def_ 20 (d := ⟨fun K => He.ga K "_law_fits", "_law_fits", "_law_fits", top 104⟩)
  gl__law_shared := He.glo_ok X G (c.fact 73 (b := (fun K => (He.Fa.glo "_law_shared").ok K)))
  fn__law_shared := c.def_ 21 (d := ⟨fun K => He.ga K "_law_shared", "_law_shared", "_law_shared", top 109⟩)
  fr_zip := He.free_ok X G (c.fact 74 (b := (fun K => (He.Fa.free "zip").ok K)))
  gl_joined_word := He.glo_ok X G (c.fact 75 (b := (fun K => (He.Fa.glo "joined_word").ok K)))
  fn_joined_word := c.def_ 22 (d := ⟨fun K => He.ga K "joined_word", "joined_word", "joined_word", top 2⟩)
  gl_shared_code := He.glo_ok X G (c.fact 76 (b := (fun K => (He.Fa.glo "shared_code").ok K)))
  fn_shared_code := c.def_ 23 (d := ⟨fun K => He.ga K "shared_code", "shared_code", "shared_code", top 3⟩)
  gl__law_is_int := He.glo_ok X G (c.fact 77 (b := (fun K => (He.Fa.glo "_law_is_int").ok K)))
  fn__law_is_int := c.def_ 24 (d := ⟨fun K => He.ga K "_law_is_int", "_law_is_int", "_law_is_int", top 103⟩)
  gl__law_is_code := He.glo_ok X G (c.fact 78 (b := (fun K => (He.Fa.glo "_law_is_code").ok K)))
  fn__law_is_code := c.def_ 25 (d := ⟨fun K => He.ga K "_law_is_code", "_law_is_code", "_law_is_code", top 108⟩)
  gl__law_first_is := He.glo_ok X G (c.fact 79 (b := (fun K => (He.Fa.glo "_law_first_is").ok K)))
  fn__law_first_is := c.def_ 26 (d := ⟨fun K => He.ga K "_law_first_is", "_law_first_is", "_law_first_is", top 110⟩)
  gl_first_shared := He.glo_ok X G (c.fact 80 (b := (fun K => (He.Fa.glo "first_shared").ok K)))
  fn_first_shared := c.def_ 27 (d := ⟨fun K => He.ga K "first_shared", "first_shared", "first_shared", top 4⟩)
  ox_OneCode := oexB_ok (c.fact 81 (b := (oexB (fun K => He.ga K "OneCode"))))
  nd_OneCode := nodB_ok (c.fact 82 (b := (nodB (fun K => He.ga K "OneCode") ["first", "second", "code"])))
  ii_OneCode := iniB_ok (c.fact 83 (b := (iniB (fun K => He.ga K "OneCode"))))
  gl_OneCode := He.glo_ok X G (c.fact 84 (b := (fun K => (He.Fa.glo "OneCode").ok K)))
  fn_OneCode_init := c.def_ 28 (d := ⟨fun K => He.ma K (He.ga K "OneCode") "__init__", "__init__", "OneCode.__init__", inClass (top 14) 0⟩)
  fn_Book_form_named := c.def_ 29 (d := ⟨fun K => He.ma K (He.ga K "Book") "form_named", "form_named", "Book.form_named", inClass (top 47) 3⟩)
  me_Book_form_named := He.meth_ok (c.fact 85 (b := (fun K => (He.Fa.meth "Book" "form_named").ok K)))
  gl_half_run := He.glo_ok X G (c.fact 86 (b := (fun K => (He.Fa.glo "half_run").ok K)))
  fn_half_run := c.def_ 30 (d := ⟨fun K => He.ga K "half_run", "half_run", "half_run", top 96⟩)
  ox_HalfDone := oexB_ok (c.fact 87 (b := (oexB (fun K => He.ga K "HalfDone"))))
  nd_HalfDone := nodB_ok (c.fact 88 (b := (nodB (fun K => He.ga K "HalfDone") ["form", "code", "place", "regs", "answers"])))
  ii_HalfDone := iniB_ok (c.fact 89 (b := (iniB (fun K => He.ga K "HalfDone"))))
  gl_HalfDone := He.glo_ok X G (c.fact 90 (b := (fun K => (He.Fa.glo "HalfDone").ok K)))
  fn_HalfDone_init := c.def_ 31 (d := ⟨fun K => He.ma K (He.ga K "HalfDone") "__init__", "__init__", "HalfDone.__init__", inClass (top 15) 0⟩)
  gl_check_book := He.glo_ok X G (c.fact 91 (b := (fun K => (He.Fa.glo "check_book").ok K)))
  fn_check_book := c.def_ 32 (d := ⟨fun K => He.ga K "check_book", "check_book", "check_book", top 98⟩)
  kx := kxB_ok (c.fact 92 (b := (kxB kxs)))
  xf_OneCode := xfB_ok (c.fact 93 (b := (fun K => xfB K (He.ga K "OneCode"))))
  xn_OneCode_first := nofB_ok (c.fact 94 (b := (nofB (fun K => He.ga K "OneCode") "first")))
  xn_OneCode_second := nofB_ok (c.fact 95 (b := (nofB (fun K => He.ga K "OneCode") "second")))
  xn_OneCode_code := nofB_ok (c.fact 96 (b := (nofB (fun K => He.ga K "OneCode") "code")))
  ec_OneCode := excCB_ok (c.fact 97 (b := (excCB (fun K => He.ga K "OneCode"))))
  gl_Refusal := He.glo_ok X G (c.fact 98 (b := (fun K => (He.Fa.glo "Refusal").ok K)))
  gl_is_let_by := He.glo_ok X G (c.fact 99 (b := (fun K => (He.Fa.glo "is_let_by").ok K)))
  fn_is_let_by := c.def_ 33 (d := ⟨fun K => He.ga K "is_let_by", "is_let_by", "is_let_by", top 99⟩)
  gl__law_checked_is := He.glo_ok X G (c.fact 100 (b := (fun K => (He.Fa.glo "_law_checked_is").ok K)))
  fn__law_checked_is := c.def_ 34 (d := ⟨fun K => He.ga K "_law_checked_is", "_law_checked_is", "_law_checked_is", top 111⟩)
  gl_law := He.glo_ok X G (c.fact 101 (b := (fun K => (He.Fa.glo "law").ok K)))
  fn_law := c.def_ 35 (d := ⟨fun K => He.ga K "law", "law", "law", top 112⟩)
theorem lawF {P : Program} {w : World} {K : Fg} {h : Heap} {mg : Str → Option Value} {f : Addr} (X : K.In h) (G : h.Ns mainGlobals mg) (hfa : mg ("law" : Str) = some (.ref f)) (c : SaysX bs fn ts w K) :
    ∃ fd : FuncData, (∀ (s : Shared) (v : Value), BindsTo s fd ⟨[v], []⟩ [("_law_script", v)]) ∧ ∀ base : Heap, K.In base → base.Ns mainGlobals mg → FnOk P w K mg base (L2.CX P w) 9 f fd P_law (spD K 1 (S_law K)) := by
  have F := facts X G c
  obtain ⟨fd, hf⟩ := F.fn_law
  have e := hfa.symm.trans F.gl_law
  cases e
  refine ⟨fd, fun s v => ?_, fun base _ _ => fnOk_of hf sc_law rfl (b_law F)⟩
  obtain ⟨oc, od, kV, doc, pm, an, cdv, ct, osl, rfl, lk, hcd⟩ := hf.ex
  exact .of_eq rfl
end K10

set_option Elab.async false
set_option linter.all false
set_option maxRecDepth 100000
set_option maxHeartbeats 4000000
open PySem PySem.W PySem.Calls PyProof.Rows in
theorem K10.front (hp : ∀ K : PySem.W.Frag, DL.KitOk K (K10.kits K) → ∀ ns : List Int, ns.length ≤ 63 → ∃ μ', K10.S_law K [.rd (ns.map DL.D.int)] [] = some (.ok (.bl true), μ')) : PySem.Challenge.rw_selfwritten_k10_codes_two_forms_share.Holds := by
  w_on; o_law
  refine HandSHeadRun.head_any (r := OpenLaw.row PySem.Challenge.rw_selfwritten_k10_codes_two_forms_share) (q := view (OpenLaw.row PySem.Challenge.rw_selfwritten_k10_codes_two_forms_share).prog [112]) (H := K10.hk) (ob := K10.ob) (M := 20000) (loose := K10.loose) (d := HandSHeadRun.topDef (OpenLaw.row PySem.Challenge.rw_selfwritten_k10_codes_two_forms_share).prog 112) (kwd := []) K10.ob_eq
    (by kernel_rfl) (fun s => by kernel_rfl) K10.run (by kernel_rfl) (by kernel_rfl) (by kernel_rfl) (by rfl) (by first | assumption | decide +kernel) (by decide +kernel) ⟨rfl, rfl, rfl, rfl, rfl, by decide +kernel⟩ ?hw ?hc
  case hw => w_witness2
  case hc =>
    refine DL.walkW (l := PySem.Challenge.rw_selfwritten_k10_codes_two_forms_share) (n := 63) (k := 9) (x := "_law_script") (CX := L2.CX (PySem.Challenge.rw_selfwritten_k10_codes_two_forms_share).prog) rfl (by decide) (by kernel_rfl) ⟨rfl, by decide, by decide⟩ ?F ?hz
    case hz =>
      intro w H s e s' z
      obtain ⟨_, _, _, _, _, _, _, _, _, _, _, _, z⟩ := z
      exact z.elim
    case F =>
      intro w mg fa h Y G hmg0
      obtain ⟨K, KX, c⟩ := Y
      have hmg : mg ("law" : PySem.Str) = some (.ref fa) := by
        have e : (HandSHeadRun.topDef (OpenLaw.row PySem.Challenge.rw_selfwritten_k10_codes_two_forms_share).prog 112).name = ("law" : PySem.Str) := by kernel_rfl
        rw [← e]
        exact hmg0
      obtain ⟨fd, hb, hF⟩ := K10.lawF (P := (PySem.Challenge.rw_selfwritten_k10_codes_two_forms_share).prog) (w := w) KX G hmg c
      exact ⟨K, fd, DL.spD K 1 (K10.S_law K), KX, hb, fun H a ns hl hS => DL.sp_law (n := 63) (hp K (K10.facts KX G c).kit) H a ns hl hS, hF⟩

set_option Elab.async false
set_option linter.all false
set_option maxRecDepth 100000
set_option maxHeartbeats 4000000
set_option autoImplicit false
namespace DL
open PySem PySem.Spec L2
@[simp] theorem bind_ap {α β : Type} {μ : Mu} {m : M α} {f : α → M β} : M.bind m f μ = (match m μ with
  | none => none
  | some (.ok a, μ') => f a μ'
  | some (.ex C ns ds, μ') => some (.ex C ns ds, μ')) := rfl
@[simp] theorem ret_ap {α : Type} {μ : Mu} {a : α} : M.ret a μ = some (.ok a, μ) := rfl
@[simp] theorem liftS_ap {α : Type} {μ : Mu} {a : α} : M.lift (some a) μ = some (.ok a, μ) := rfl
@[simp] theorem liftN_ap {α : Type} {μ : Mu} : M.lift (none : Option α) μ = none := rfl
@[simp] theorem stuck_ap {α : Type} {μ : Mu} : (M.stuck : M α) μ = none := rfl
@[simp] theorem iteM_ap {α : Type} {μ : Mu} {p : Prop} [Decidable p] {a b : M α} : (if p then a else b) μ = if p then a μ else b μ := by split <;> rfl
@[simp] theorem nx_ap {α : Type} {μ : Mu} {m : M α} : M.nx m μ = (match m μ with
  | some (.ok a, μ') => some (.ok a, μ')
  | _ => none) := rfl
@[simp] theorem dsStuck_ap {ρ : Rho} {μ : Mu} : dsStuck ρ μ = none := rfl
@[simp] theorem gtName_ap {i : Nat} {d : D} {ρ : Rho} : gtName i d ρ = some (ρ.set i (some (.sh d))) := rfl
@[simp] theorem gtNil_ap {ρ : Rho} : gtNil [] ρ = some ρ := rfl
@[simp] theorem gtCons_ap {t : D → Rho → Option Rho} {u : List D → Rho → Option Rho} {d : D} {ds : List D} {ρ : Rho} : gtCons t u (d :: ds) ρ = (match t d ρ with
  | none => none
  | some ρ' => u ds ρ') := rfl
@[simp] theorem gtTup_ap {n : Nat} {u : List D → Rho → Option Rho} {ds : List D} {ρ : Rho} : gtTup n u (.tup ds) ρ = (if ds.length = n then u ds ρ else none) := rfl
@[simp] theorem dVar_ap {i : Nat} {ρ : Rho} {μ : Mu} : dVar i ρ μ = (match ρ[i]? with
  | some (some (.sh d)) => M.ret d
  | _ => M.stuck) μ := rfl
@[simp] theorem dC_ap {d : D} {ρ0 : Rho} {μ : Mu} : dC d ρ0 μ = (M.ret d) μ := rfl
@[simp] theorem dBin_ap {gf : D → D → Option D} {ta tb : TD} {ρ : Rho} {μ : Mu} : dBin gf ta tb ρ μ = (M.bind (ta ρ) fun x => M.bind (tb ρ) fun y => M.lift (gf x y)) μ := rfl
@[simp] theorem dTest_ap {t : TD} {ρ : Rho} {μ : Mu} : dTest t ρ μ = (M.bind (t ρ) fun d => match d with
  | .bl b => M.ret b
  | _ => M.stuck) μ := rfl
@[simp] theorem dTruth_ap {t : TD} {ρ : Rho} {μ : Mu} : dTruth t ρ μ = (M.bind (t ρ) fun d => M.lift d.truth) μ := rfl
@[simp] theorem dAnd_ap {t u : TB} {ρ : Rho} {μ : Mu} : dAnd t u ρ μ = (M.bind (t ρ) fun b => if b = true then u ρ else M.ret false) μ := rfl
@[simp] theorem dOr_ap {t u : TB} {ρ : Rho} {μ : Mu} : dOr t u ρ μ = (M.bind (t ρ) fun b => if b = true then M.ret true else u ρ) μ := rfl
@[simp] theorem dNot_ap {t : TB} {ρ : Rho} {μ : Mu} : dNot t ρ μ = (M.bind (t ρ) fun b => M.ret (!b)) μ := rfl
@[simp] theorem dAndV_ap {t u : TD} {ρ : Rho} {μ : Mu} : dAndV t u ρ μ = (M.bind (t ρ) fun d => match d with
  | .bl true => u ρ
  | .bl false => M.ret (.bl false)
  | _ => M.stuck) μ := rfl
@[simp] theorem dOrV_ap {t u : TD} {ρ : Rho} {μ : Mu} : dOrV t u ρ μ = (M.bind (t ρ) fun d => match d with
  | .bl false => u ρ
  | .bl true => M.ret (.bl true)
  | _ => M.stuck) μ := rfl
@[simp] theorem dNotV_ap {t : TD} {ρ : Rho} {μ : Mu} : dNotV t ρ μ = (M.bind (t ρ) fun d => match d with
  | .bl b => M.ret (.bl (!b))
  | _ => M.stuck) μ := rfl
@[simp] theorem dIfE_ap {t : TB} {u v : TD} {ρ : Rho} {μ : Mu} : dIfE t u v ρ μ = (M.bind (t ρ) fun b => if b = true then u ρ else v ρ) μ := rfl
@[simp] theorem dNil_ap  {ρ0 : Rho} {μ : Mu} : dNil  ρ0 μ = (M.ret []) μ := rfl
@[simp] theorem dCons_ap {t : TD} {u : TL} {ρ : Rho} {μ : Mu} : dCons t u ρ μ = (M.bind (t ρ) fun d => M.bind (u ρ) fun ds => M.ret (d :: ds)) μ := rfl
@[simp] theorem dTup_ap {t : TL} {ρ : Rho} {μ : Mu} : dTup t ρ μ = (M.bind (t ρ) fun ds => if ds.length ≤ sizeLine then M.ret (.tup ds) else M.stuck) μ := rfl
@[simp] theorem dLst_ap {t : TL} {ρ : Rho} {μ : Mu} : dLst t ρ μ = (M.bind (t ρ) fun ds => if ds.length ≤ sizeLine then M.ret ds else M.stuck) μ := rfl
@[simp] theorem dFz_ap {t : TL} {ρ : Rho} {μ : Mu} : dFz t ρ μ = (M.bind (t ρ) fun ds => M.ret (.lst ds)) μ := rfl
@[simp] theorem dsE_ap {α : Type} {m : Rho → M α} {f : α → Rho → Mu → Option (Out × Mu)} {ρ : Rho} {μ : Mu} : dsE m f ρ μ = (match m ρ μ with
  | none => none
  | some (.ok a, μ') => f a ρ μ'
  | some (.ex C ns ds, μ') => some (.ex ρ C ns ds, μ')) := rfl
@[simp] theorem dsNext_ap  {ρ : Rho} {μ : Mu} : dsNext  ρ μ = (some (.nx ρ, μ)) := rfl
@[simp] theorem dCall_ap {F : List D → M D} {n : Nat} {t : TL} {ρ : Rho} {μ : Mu} : dCall F n t ρ μ = (M.bind (t ρ) fun ds => if ds.length = n then F ds else M.stuck) μ := rfl
@[simp] theorem dRng1_ap {t : TD} {ρ : Rho} {μ : Mu} : dRng1 t ρ μ = (M.bind (t ρ) fun d => match d with
  | .int j => if -(2 ^ 62) ≤ j ∧ j < 2 ^ 62 then M.ret (rangeD 0 j.toNat) else M.stuck
  | _ => M.stuck) μ := rfl
@[simp] theorem dYes_ap  {ρ0 : Rho} {μ : Mu} : dYes  ρ0 μ = (M.ret true) μ := rfl
@[simp] theorem dLc_ap {vs : List Nat} {tl : TL} {gt : D → Rho → Option Rho} {tt : TB} {te : TD} {ρ : Rho} {μ : Mu} : dLc vs tl gt tt te ρ μ = (M.bind (tl ρ) fun ds => if okW ρ vs = true then lcL vs gt tt te ρ ds [] else M.stuck) μ := rfl
@[simp] theorem qVal_ap {t : TD} {ρ : Rho} {μ : Mu} : qVal t ρ μ = (M.bind (t ρ) fun d => M.ret (.val d)) μ := rfl
@[simp] theorem dLen_ap {t : TQ} {ρ : Rho} {μ : Mu} : dLen t ρ μ = (M.bind (t ρ) fun q μ => match q with
  | .val (.str z) => if z.length ≤ sizeLine then some (.ok (.int z.length), μ) else none
  | q => match qv q ρ μ with
    | some ds => some (.ok (.int ds.length), μ)
    | none => none) μ := rfl
@[simp] theorem dIx_ap {t : TQ} {u : TD} {ρ : Rho} {μ : Mu} : dIx t u ρ μ = (M.bind (t ρ) fun q => M.bind (u ρ) fun i μ => match i with
  | .int i => match q with
    | .val (.str z) => if z.length ≤ sizeLine then match atI z.cps.toList i with
      | some ch => some (.ok (.str ⟨#[ch]⟩), μ)
      | none => none else none
    | q => match qv q ρ μ with
      | some ds => match atI ds i with
        | some d => some (.ok d, μ)
        | none => none
      | none => none
  | _ => none) μ := rfl
@[simp] theorem dIn_ap {neg : Bool} {t : TD} {u : TQ} {ρ : Rho} {μ : Mu} : dIn neg t u ρ μ = (M.bind (t ρ) fun x => M.bind (u ρ) fun q μ => match qv q ρ μ with
  | some ds => match inD x ds with
    | some b => some (.ok (.bl (if neg then !b else b)), μ)
    | none => none
  | none => none) μ := rfl
@[simp] theorem dTupOf_ap {t : TQ} {ρ : Rho} {μ : Mu} : dTupOf t ρ μ = (M.bind (t ρ) fun q μ => match qv q ρ μ with
  | some ds => some (.ok (if q.isK = true then .kt ds else .tup ds), μ)
  | none => none) μ := rfl
@[simp] theorem dLstOf_ap {t : TQ} {ρ : Rho} {μ : Mu} : dLstOf t ρ μ = (M.bind (t ρ) fun q μ => match qv q ρ μ with
  | some ds => some (.ok ds, μ)
  | none => none) μ := rfl
@[simp] theorem dMin2_ap {t u : TD} {ρ : Rho} {μ : Mu} : dMin2 t u ρ μ = (M.bind (t ρ) fun x => M.bind (u ρ) fun y => match x, y with
  | .int i, .int j => M.ret (.int (if j < i then j else i))
  | _, _ => M.stuck) μ := rfl
@[simp] theorem dInt_ap {t : TD} {ρ : Rho} {μ : Mu} : dInt t ρ μ = (M.bind (t ρ) fun x => match x with
  | .int i => M.ret (.int i)
  | .bl b => M.ret (.int (if b then 1 else 0))
  | _ => M.stuck) μ := rfl
@[simp] theorem dNeg_ap {t : TD} {ρ : Rho} {μ : Mu} : dNeg t ρ μ = (M.bind (t ρ) fun x => match x with
  | .int i => M.ret (.int (-i))
  | _ => M.stuck) μ := rfl
@[simp] theorem dAmb_ap {t : TL} {ρ : Rho} {μ : Mu} : dAmb t ρ μ = (M.bind (t ρ) fun ds μ => some (.ok (.mref μ.length), μ ++ [.lst ds])) μ := rfl
@[simp] theorem dsAmb_ap {i : Nat} {ρ : Rho} {μ : Mu} : dsAmb i ρ μ = (match ρ[i]? with
  | some (some (.ol ds)) => some (.nx (ρ.set i (some (.sh (.mref μ.length)))), μ ++ [.lst ds])
  | _ => none) := rfl
@[simp] theorem dsFzM_ap {i : Nat} {ρ : Rho} {μ : Mu} : dsFzM i ρ μ = (match ρ[i]? with
  | some (some (.sh (.mref k))) => match μ[k]? with
    | some (.lst ds) => some (.nx (ρ.set i (some (.sh (.lst ds)))), μ.set k .dead)
    | _ => none
  | _ => none) := rfl
@[simp] theorem dIter_ap {t : TD} {ρ : Rho} {μ : Mu} : dIter t ρ μ = (M.bind (t ρ) fun d => M.lift d.items) μ := rfl
@[simp] theorem dEnum_ap {t : TD} {ρ : Rho} {μ : Mu} : dEnum t ρ μ = (M.bind (t ρ) fun d => M.lift (d.items.map enumD)) μ := rfl
@[simp] theorem dZip_ap {t u : TD} {ρ : Rho} {μ : Mu} : dZip t u ρ μ = (M.bind (t ρ) fun d => M.bind (u ρ) fun e => M.lift (match d.items, e.items with
  | some ds, some es => some (zipD ds es)
  | _, _ => none)) μ := rfl
@[simp] theorem dRevRng_ap {t : TD} {ρ : Rho} {μ : Mu} : dRevRng t ρ μ = (M.bind (t ρ) fun d => match d with
  | .int j => if 0 ≤ j ∧ j < 2 ^ 62 then M.ret (revRange j.toNat) else M.stuck
  | _ => M.stuck) μ := rfl
@[simp] theorem dCat_ap {t u : TQ} {ρ : Rho} {μ : Mu} : dCat t u ρ μ = (M.bind (t ρ) fun p => M.bind (u ρ) fun q μ => match qvl p ρ μ, qvl q ρ μ with
  | some ds, some es => if ds.length + es.length ≤ sizeLine then some (.ok (ds ++ es), μ) else none
  | _, _ => none) μ := rfl
@[simp] theorem dRepL_ap {t : TQ} {u : TD} {ρ : Rho} {μ : Mu} : dRepL t u ρ μ = (M.bind (t ρ) fun p => M.bind (u ρ) fun d μ => match d with
  | .int n => match qvl p ρ μ with
    | some ds => if -(2 ^ 63) ≤ n ∧ n < 2 ^ 63 ∧ ds.length * n.toNat ≤ sizeLine then some (.ok (List.replicate n.toNat ds).flatten, μ) else none
    | none => none
  | _ => none) μ := rfl
@[simp] theorem dPoS_ap {t : TD} {ρ : Rho} {μ : Mu} : dPoS t ρ μ = (M.bind (t ρ) fun d => match d with
  | .int i => M.ret (some i)
  | _ => M.stuck) μ := rfl
@[simp] theorem dSlice_ap {t : TQ} {lo hi : Rho → M (Option Int)} {ρ : Rho} {μ : Mu} : dSlice t lo hi ρ μ = (M.bind (t ρ) fun q => M.bind (lo ρ) fun l => M.bind (hi ρ) fun h μ => match qvl q ρ μ with
  | some ds => some (.ok (cutD ds l h), μ)
  | none => none) μ := rfl
@[simp] theorem dFld_ap {S : List Addr} {f : Str} {t : TD} {ρ : Rho} {μ : Mu} : dFld S f t ρ μ = (M.bind (t ρ) fun d μ => match insD d μ with
  | some (C, ns, ds) => if C ∈ S then match fldD ns ds f with
    | some y => some (.ok y, μ)
    | none => none else none
  | none => none) μ := rfl
@[simp] theorem dEqOwn_ap {C : Addr} {F : List D → M D} {t u : TD} {ρ : Rho} {μ : Mu} : dEqOwn C F t u ρ μ = (M.bind (t ρ) fun x => M.bind (u ρ) fun y μ => match x with
  | .obj C' _ _ => if C' = C then match tyRight C y with
    | some _ => match F [x, y] μ with
      | some (.ok (.bl b), μ') => some (.ok (.bl b), μ')
      | _ => none
    | none => none else none
  | _ => none) μ := rfl
@[simp] theorem dIsi_ap {S : List Addr} {kI : Kit} {t u : TD} {ρ : Rho} {μ : Mu} : dIsi S kI t u ρ μ = (M.bind (t ρ) fun x => M.bind (u ρ) fun y μ => match tyD S x μ, clsD y with
  | some ty, some c => match kitD kI ty c with
    | some b => some (.ok (.bl b), μ)
    | none => none
  | _, _ => none) μ := rfl
@[simp] theorem dMake_ap {C : Addr} {F : List D → M D} {n : Nat} {tl : TL} {ρ : Rho} {μ : Mu} : dMake C F n tl ρ μ = (M.bind (tl ρ) fun ds μ => match made C F n ds μ with
  | some (.ok (), μ') => match μ'[μ.length]? with
    | some (.ins C' ns es) => if (D.lowAll μ.length es && (μ'.take μ.length).all (MO.low μ.length)) = true then some (.ok (.obj C' ns es), μ'.take μ.length) else none
    | _ => none
  | some (.ex C ns es, μ') => some (.ex C ns es, μ')
  | none => none) μ := rfl
@[simp] theorem dNewT_ap  {ρ0 : Rho} {μ : Mu} : dNewT  ρ0 μ = (some (.ok (.mref μ.length), μ ++ [.dt [] []])) := rfl
@[simp] theorem dDGet_ap {t u : TD} {ρ : Rho} {μ : Mu} : dDGet t u ρ μ = (M.bind (t ρ) fun d => M.bind (u ρ) fun y μ => match dgetD d y μ with
  | some (some x) => some (.ok x, μ)
  | _ => none) μ := rfl
@[simp] theorem dDIn_ap {neg : Bool} {u t : TD} {ρ : Rho} {μ : Mu} : dDIn neg u t ρ μ = (M.bind (u ρ) fun y => M.bind (t ρ) fun d μ => match dgetD d y μ with
  | some o => some (.ok (.bl (if neg then !o.isSome else o.isSome)), μ)
  | none => none) μ := rfl
@[simp] theorem dSetdT_ap {t u x : TD} {ρ : Rho} {μ : Mu} : dSetdT t u x ρ μ = (M.bind (t ρ) fun d μ0 => if isDt d μ0 = true then M.bind (u ρ) (fun y => M.bind (x ρ) fun z μ => match d with
  | .mref n => match μ[n]? with
    | some (.dt ks ds) => match y.keyT with
      | some k => if ds.length < sizeLine then match valD ks ds k with
        | some v => some (.ok v, μ)
        | none => some (.ok z, μ.set n (.dt (putKs ks k) (putVs ks ds k z))) else none
      | none => none
    | _ => none
  | _ => none) μ0 else none) μ := rfl
@[simp] theorem dKGet_ap {a : Addr} {tb : KTab} {t u x : TD} {ρ : Rho} {μ : Mu} : dKGet a tb t u x ρ μ = (M.bind (t ρ) fun d => match d with
  | .ref b => if b = a then M.bind (u ρ) fun y => M.bind (x ρ) fun z => match y with
    | .str k => match tb.lookup k with
      | some (some v) => M.ret v
      | some none => M.ret z
      | none => M.stuck
    | _ => M.stuck else M.stuck
  | _ => M.stuck) μ := rfl
@[simp] theorem dSMet0_ap {C : Addr} {F : List D → M D} {t : TD} {ρ : Rho} {μ : Mu} : dSMet0 C F t ρ μ = (M.bind (t ρ) fun d => match d with
  | .ref b => if b = C then M.nx (F []) else M.stuck
  | _ => M.stuck) μ := rfl
@[simp] theorem dSrc_ap {t : TD} {ρ : Rho} {μ : Mu} : dSrc t ρ μ = (M.bind (t ρ) fun d μ => match srcOf d μ with
  | some S => some (.ok S, μ)
  | none => none) μ := rfl
@[simp] theorem dLcJ_ap {vs : List Nat} {ts : Rho → M Src} {gt : D → Rho → Option Rho} {tt : TB} {te : TD} {ρ : Rho} {μ : Mu} : dLcJ vs ts gt tt te ρ μ = (M.bind (ts ρ) fun S => if okW ρ vs = true then lcJ vs gt tt te ρ S.nxt S.n 0 [] else M.stuck) μ := rfl
@[simp] theorem dCall0_ap {F : List D → M D} {ρ0 : Rho} {μ : Mu} : dCall0 F ρ0 μ = (M.nx (F [])) μ := rfl

@[simp] theorem dsRet_ap {t : TD} {ρ : Rho} {μ : Mu} : dsRet t ρ μ = dsE t (fun d ρ μ => some (.rt d, μ)) ρ μ := rfl
@[simp] theorem dsExpr_ap {t : TD} {ρ : Rho} {μ : Mu} : dsExpr t ρ μ = dsE t (fun d ρ μ => some (.nx ρ, μ)) ρ μ := rfl
@[simp] theorem dsSet_ap {i : Nat} {t : TD} {ρ : Rho} {μ : Mu} : dsSet i t ρ μ = dsE t (fun d ρ μ => some (.nx (ρ.set i (some (.sh d))), μ)) ρ μ := rfl
@[simp] theorem dsSetO_ap {i : Nat} {t : TL} {ρ : Rho} {μ : Mu} : dsSetO i t ρ μ = dsE t (fun ds ρ μ => some (.nx (ρ.set i (some (.ol ds))), μ)) ρ μ := rfl
@[simp] theorem dsAsg_ap {t : TD} {gt : D → Rho → Option Rho} {ρ : Rho} {μ : Mu} : dsAsg t gt ρ μ = dsE t (fun d ρ μ => match gt d ρ with
  | some ρ' => some (.nx ρ', μ)
  | none => none) ρ μ := rfl
@[simp] theorem dsFor_ap {tl : TL} {gt : D → Rho → Option Rho} {tb : TO'} {ρ : Rho} {μ : Mu} : dsFor tl gt tb ρ μ = dsE tl (fun ds ρ μ => forL gt tb ds ρ μ) ρ μ := rfl
@[simp] theorem dsAppM_ap {to' te' : TD} {ρ : Rho} {μ : Mu} : dsAppM to' te' ρ μ = dsE to' (fun d ρ μ => match muLst d μ with
  | some _ => dsE te' (fun y ρ μ => match muLst d μ with
    | some (k, ds) => if ds.length < sizeLine then some (.nx ρ, μ.set k (.lst (ds ++ [y]))) else none
    | none => none) ρ μ
  | none => none) ρ μ := rfl
@[simp] theorem dsSetIxM_ap {te' to' tb : TD} {ρ : Rho} {μ : Mu} : dsSetIxM te' to' tb ρ μ = dsE te' (fun y => dsE to' fun d => dsE tb fun i ρ μ => match i with
  | .int i => match muLst d μ with
    | some (k, ds) => match ixN ds.length i with
      | some j => some (.nx ρ, μ.set k (.lst (ds.set j y)))
      | none => none
    | none => none
  | _ => none) ρ μ := rfl
@[simp] theorem dsDPut_ap {tv to' ti : TD} {ρ : Rho} {μ : Mu} : dsDPut tv to' ti ρ μ = dsE tv (fun z => dsE to' fun d => dsE ti fun y ρ μ => match dputD d y z μ with
  | some μ' => some (.nx ρ, μ')
  | none => none) ρ μ := rfl
@[simp] theorem dsFld_ap {S : List Addr} {f : Str} {te to' : TD} {ρ : Rho} {μ : Mu} : dsFld S f te to' ρ μ = dsE te (fun y => dsE to' fun d ρ μ => match d with
  | .mref k => match μ[k]? with
    | some (.ins C ns ds) => if C ∈ S ∧ ns.length < 1000 then some (.nx ρ, μ.set k (.ins C (putN ns f) (putA ns ds f y))) else none
    | _ => none
  | _ => none) ρ μ := rfl
section
variable {t u v : TO'} {tq : TB} {a : TD} {ρ ρ1 : Rho} {μ μ1 μ2 : Mu} {r : Option (Out × Mu)} {d : D} {c : Bool} {N : Nat} {ds : List D}
end
@[simp] theorem qv_tup {ds : List D} {ρ : Rho} {μ : Mu} : qv (.val (.tup ds)) ρ μ = some ds := rfl
@[simp] theorem qv_lst {ds : List D} {ρ : Rho} {μ : Mu} : qv (.val (.lst ds)) ρ μ = some ds := rfl
@[simp] theorem qv_kt {ds : List D} {ρ : Rho} {μ : Mu} : qv (.val (.kt ds)) ρ μ = some ds := rfl
@[simp] theorem qv_rd {ds : List D} {ρ : Rho} {μ : Mu} : qv (.val (.rd ds)) ρ μ = some ds := rfl
@[simp] theorem qv_mref {k : Nat} {ρ : Rho} {μ : Mu} : qv (.val (.mref k)) ρ μ = (match μ[k]? with
  | some (.lst ds) => some ds
  | _ => none) := rfl
@[simp] theorem qvl_lst {ds : List D} {ρ : Rho} {μ : Mu} : qvl (.val (.lst ds)) ρ μ = some ds := rfl
@[simp] theorem muLst_mref {k : Nat} {μ : Mu} : muLst (.mref k) μ = (match μ[k]? with
  | some (.lst ds) => some (k, ds)
  | _ => none) := rfl
@[simp] theorem items_tup {ds : List D} : (D.tup ds).items = some ds := rfl
@[simp] theorem items_lst {ds : List D} : (D.lst ds).items = some ds := rfl
@[simp] theorem items_kt {ds : List D} : (D.kt ds).items = some ds := rfl
@[simp] theorem items_rd {ds : List D} : (D.rd ds).items = some ds := rfl
@[simp] theorem items_mref {k : Nat} : (D.mref k).items = none := rfl
@[simp] theorem isK_tup {ds : List D} : QV.isK (.val (.tup ds)) = false := rfl
@[simp] theorem isK_lst {ds : List D} : QV.isK (.val (.lst ds)) = false := rfl
@[simp] theorem isK_mref {k : Nat} : QV.isK (.val (.mref k)) = false := rfl
@[simp] theorem insD_obj {C : Addr} {ns : List Str} {ds : List D} {μ : Mu} : insD (.obj C ns ds) μ = some (C, ns, ds) := rfl
@[simp] theorem truth_bl {b : Bool} : (D.bl b).truth = some b := rfl
theorem atI_nat {α : Type} {ds : List α} {i : Nat} : atI ds (i : Int) = ds[i]? := by
  unfold atI ixN
  by_cases h : i < ds.length
  · rw [if_pos (by omega), if_pos (by omega)]
    simp
  · rw [if_pos (by omega), if_neg (by omega)]
    simp at h
    simp [h]
@[simp] theorem atI_0 {α : Type} {a : α} {ds : List α} : atI (a :: ds) 0 = some a := atI_nat (i := 0)
@[simp] theorem atI_1 {α : Type} {a b : α} {ds : List α} : atI (a :: b :: ds) 1 = some b := atI_nat (i := 1)
@[simp] theorem atI_2 {α : Type} {a b c : α} {ds : List α} : atI (a :: b :: c :: ds) 2 = some c := atI_nat (i := 2)
@[simp] theorem gEq_str {a b : Str} : gEq (.str a) (.str b) = some (.bl (decide (a = b))) := by
  have : (V.str a = V.str b) = (a = b) := by simp
  simp [gEq, eqD, D.flat, scal]
@[simp] theorem gEq_int {a b : Int} : gEq (.int a) (.int b) = some (.bl (decide (a = b))) := by
  simp [gEq, eqD, D.flat, scal]
@[simp] theorem gNe_str {a b : Str} : gNe (.str a) (.str b) = some (.bl (!decide (a = b))) := by
  simp [gNe, eqD, D.flat, scal]
@[simp] theorem gNe_int {a b : Int} : gNe (.int a) (.int b) = some (.bl (!decide (a = b))) := by
  simp [gNe, eqD, D.flat, scal]
@[simp] theorem gAdd_int {a b : Int} : gAdd (.int a) (.int b) = some (.int (a + b)) := rfl
@[simp] theorem gSub_int {a b : Int} : gSub (.int a) (.int b) = some (.int (a - b)) := rfl
@[simp] theorem gLt_int {a b : Int} : gLt (.int a) (.int b) = some (.bl (decide (a < b))) := rfl
@[simp] theorem gLe_int {a b : Int} : gLe (.int a) (.int b) = some (.bl (decide (a ≤ b))) := rfl
@[simp] theorem gGt_int {a b : Int} : gGt (.int a) (.int b) = some (.bl (decide (b < a))) := rfl
@[simp] theorem gGe_int {a b : Int} : gGe (.int a) (.int b) = some (.bl (decide (b ≤ a))) := rfl
@[simp] theorem gBAnd_int {a b : Int} : gBAnd (.int a) (.int b) = some (.int (Builtin.bitAnd a b)) := rfl
@[simp] theorem gBOr_int {a b : Int} : gBOr (.int a) (.int b) = some (.int (Builtin.bitOr a b)) := rfl
@[simp] theorem gBXor_int {a b : Int} : gBXor (.int a) (.int b) = some (.int (Builtin.bitXor a b)) := rfl
theorem gMod_pos {a b : Int} (h : 0 < b) : gMod (.int a) (.int b) = some (.int (a % b)) := if_pos h
theorem gMul_int {a b : Int} (h : CMul a b) : gMul (.int a) (.int b) = some (.int (a * b)) := if_pos h
theorem gDiv_int {a b : Int} (h : CDiv a b) : gDiv (.int a) (.int b) = some (.int (a / b)) := if_pos h
theorem gShl_int {a b : Int} (h : CPow a b) : gShl (.int a) (.int b) = some (.int (a * 2 ^ b.toNat)) := if_pos h
@[simp] theorem gIsN_non : gIsN .non .non = some (.bl true) := rfl
@[simp] theorem gNotN_non : gNotN .non .non = some (.bl false) := rfl
@[simp] theorem gNotN_int {a : Int} : gNotN (.int a) .non = some (.bl true) := rfl
@[simp] theorem gNotN_tup {a : List D} : gNotN (.tup a) .non = some (.bl true) := rfl
@[simp] theorem gIsN_int {a : Int} : gIsN (.int a) .non = some (.bl false) := rfl
@[simp] theorem gIs2_ap {n a b : Bool} : gIs2 n (.bl a) (.bl b) = some (.bl (if n then !(decide (a = b)) else decide (a = b))) := rfl
theorem flats_str : ∀ {ss : List Str}, flats (ss.map D.str) = some (ss.map V.str)
  | [] => rfl
  | s :: ss => by
    show (match (D.str s).flat, flats (ss.map D.str) with
      | some v, some vs => some (v :: vs)
      | _, _ => none) = _
    rw [flats_str]
    rfl
def Wf (μ : Mu) : Prop := μ.all (MO.low μ.length) = true
end DL

set_option Elab.async false
set_option linter.all false
set_option maxRecDepth 100000
set_option maxHeartbeats 4000000
set_option autoImplicit false
namespace DL
open PySem PySem.Spec L2
end DL

set_option Elab.async false
set_option linter.all false
set_option maxRecDepth 100000
set_option maxHeartbeats 4000000
set_option autoImplicit false
namespace DL
open PySem PySem.Spec L2
mutual
theorem low_mono {n n' : Nat} (hn : n ≤ n') : ∀ {d : D}, d.low n = true → d.low n' = true
  | .non, _ => by unfold D.low; rfl
  | .bl b, _ => by unfold D.low; rfl
  | .int i, _ => by unfold D.low; rfl
  | .str s, _ => by unfold D.low; rfl
  | .ref a, _ => by unfold D.low; rfl
  | .ty s, _ => by unfold D.low; rfl
  | .mref k, h => by
    unfold D.low at *
    exact decide_eq_true (Nat.lt_of_lt_of_le (of_decide_eq_true h) hn)
  | .tup ds, h => by unfold D.low at *; exact lowAll_mono hn h
  | .kt ds, h => by unfold D.low at *; exact lowAll_mono hn h
  | .lst ds, h => by unfold D.low at *; exact lowAll_mono hn h
  | .rd ds, h => by unfold D.low at *; exact lowAll_mono hn h
  | .obj C ns ds, h => by unfold D.low at *; exact lowAll_mono hn h
  | .dk ks ds, h => by unfold D.low at *; exact lowAll_mono hn h
theorem lowAll_mono {n n' : Nat} (hn : n ≤ n') : ∀ {ds : List D}, D.lowAll n ds = true → D.lowAll n' ds = true
  | [], _ => rfl
  | d :: ds, h => by
    unfold D.lowAll at *
    obtain ⟨h1, h2⟩ := Bool.and_eq_true_iff.mp h
    rw [low_mono hn h1, lowAll_mono hn h2]
    rfl
end
theorem moLow_mono {n n' : Nat} (hn : n ≤ n') {m : MO} (h : m.low n = true) : m.low n' = true := by
  cases m with
  | dead => rfl
  | lst ds => exact lowAll_mono hn h
  | ins C ns ds => exact lowAll_mono hn h
  | dk ks ds => exact lowAll_mono hn h
  | dt ks ds => exact lowAll_mono hn h
theorem all_mono {n n' : Nat} (hn : n ≤ n') {μ : Mu} (h : μ.all (MO.low n) = true) : μ.all (MO.low n') = true := List.all_eq_true.mpr fun m hm => moLow_mono hn (List.all_eq_true.mp h m hm)
theorem Wf.app {μ : Mu} {m : MO} (w : Wf μ) (h : m.low (μ.length + 1) = true) : Wf (μ ++ [m]) := by
  unfold Wf
  rw [List.length_append, List.length_singleton, List.all_append]
  rw [all_mono (Nat.le_succ _) w]
  simp [h]
end DL

set_option Elab.async false
set_option linter.all false
set_option maxRecDepth 100000
set_option maxHeartbeats 4000000
set_option autoImplicit false
namespace DL
open PySem PySem.Spec L2
def We {α : Type} (t : Rho → M α) (ρ : Rho) (μ : Mu) (Q : α → Mu → Prop) : Prop := ∃ a μ', t ρ μ = some (.ok a, μ') ∧ Q a μ'
def Ws (s : TO') (ρ : Rho) (μ : Mu) (Q : Out → Mu → Prop) : Prop := ∃ o μ', s ρ μ = some (o, μ') ∧ Q o μ'
def Wf' (F : List D → M D) (ds : List D) (μ : Mu) (Q : D → Mu → Prop) : Prop := ∃ d μ', F ds μ = some (.ok d, μ') ∧ Q d μ'
section
variable {α β : Type} {ρ : Rho} {μ : Mu} {ta tb t u v : TD} {tl : TL} {tq : TQ} {x y d : D}
theorem We.mono {t : Rho → M α} {Q Q' : α → Mu → Prop} (h : We t ρ μ Q) (k : ∀ a μ', Q a μ' → Q' a μ') : We t ρ μ Q' := by
  obtain ⟨a, μ', h1, h2⟩ := h
  exact ⟨a, μ', h1, k _ _ h2⟩
theorem we_bind {t : Rho → M α} {f : α → M β} {Q : β → Mu → Prop} (h : We t ρ μ fun a μ1 => ∃ b μ', f a μ1 = some (.ok b, μ') ∧ Q b μ') : ∃ b μ', M.bind (t ρ) f μ = some (.ok b, μ') ∧ Q b μ' := by
  obtain ⟨a, μ1, h1, b, μ', h2, h3⟩ := h
  refine ⟨b, μ', ?_, h3⟩
  unfold M.bind
  rw [h1]
  exact h2
theorem lift_ok {o : Option α} {Q : α → Mu → Prop} (h : ∃ z, o = some z ∧ Q z μ) : ∃ b μ', M.lift o μ = some (.ok b, μ') ∧ Q b μ' := by
  obtain ⟨z, rfl, q⟩ := h
  exact ⟨z, μ, rfl, q⟩
theorem ret_ok {a : α} {Q : α → Mu → Prop} (h : Q a μ) : ∃ b μ', M.ret a μ = some (.ok b, μ') ∧ Q b μ' := ⟨a, μ, rfl, h⟩
variable {Q : D → Mu → Prop} {QL : List D → Mu → Prop} {QB : Bool → Mu → Prop} {QV' : QV → Mu → Prop} {QO : Option Int → Mu → Prop}
theorem we_var {i : Nat} (h : ρ[i]? = some (some (.sh d))) (q : Q d μ) : We (dVar i) ρ μ Q := by
  refine ⟨d, μ, ?_, q⟩
  unfold dVar
  rw [h]
  rfl
theorem we_C (q : Q d μ) : We (dC d) ρ μ Q := ⟨d, μ, rfl, q⟩
theorem we_bin {gf : D → D → Option D} (h : We ta ρ μ fun x μ1 => We tb ρ μ1 fun y μ2 => ∃ z, gf x y = some z ∧ Q z μ2) : We (dBin gf ta tb) ρ μ Q :=
  we_bind (h.mono fun x μ1 h => we_bind (h.mono fun y μ2 h => lift_ok h))
theorem we_test (h : We t ρ μ fun d μ1 => ∃ b, d = .bl b ∧ QB b μ1) : We (dTest t) ρ μ QB :=
  we_bind (h.mono fun x μ1 h => by obtain ⟨b, rfl, q⟩ := h; exact ⟨b, μ1, rfl, q⟩)
theorem we_truth (h : We t ρ μ fun d μ1 => ∃ b, d.truth = some b ∧ QB b μ1) : We (dTruth t) ρ μ QB :=
  we_bind (h.mono fun x μ1 h => lift_ok h)
theorem we_and {t u : TB} (h : We t ρ μ fun b μ1 => (b = true → We u ρ μ1 QB) ∧ (b = false → QB false μ1)) : We (dAnd t u) ρ μ QB :=
  we_bind (h.mono fun b μ1 h => by
    cases b with
    | true => exact h.1 rfl
    | false => exact ⟨false, μ1, rfl, h.2 rfl⟩)
theorem we_or {t u : TB} (h : We t ρ μ fun b μ1 => (b = true → QB true μ1) ∧ (b = false → We u ρ μ1 QB)) : We (dOr t u) ρ μ QB :=
  we_bind (h.mono fun b μ1 h => by
    cases b with
    | true => exact ⟨true, μ1, rfl, h.1 rfl⟩
    | false => exact h.2 rfl)
theorem we_not {t : TB} (h : We t ρ μ fun b μ1 => QB (!b) μ1) : We (dNot t) ρ μ QB := we_bind (h.mono fun b μ1 h => ret_ok h)
theorem we_andV (h : We t ρ μ fun d μ1 => ∃ b, d = .bl b ∧ (b = true → We u ρ μ1 Q) ∧ (b = false → Q (.bl false) μ1)) : We (dAndV t u) ρ μ Q :=
  we_bind (h.mono fun d μ1 h => by
    obtain ⟨b, rfl, h1, h2⟩ := h
    cases b with
    | true => exact h1 rfl
    | false => exact ⟨_, μ1, rfl, h2 rfl⟩)
theorem we_notV (h : We t ρ μ fun d μ1 => ∃ b, d = .bl b ∧ Q (.bl (!b)) μ1) : We (dNotV t) ρ μ Q :=
  we_bind (h.mono fun d μ1 h => by obtain ⟨b, rfl, h⟩ := h; exact ret_ok h)
theorem we_ifE {c : TB} (h : We c ρ μ fun b μ1 => (b = true → We t ρ μ1 Q) ∧ (b = false → We u ρ μ1 Q)) : We (dIfE c t u) ρ μ Q :=
  we_bind (h.mono fun b μ1 h => by
    cases b with
    | true => exact h.1 rfl
    | false => exact h.2 rfl)
theorem we_q {t : TD} (h : We t ρ μ fun d μ1 => QV' (.val d) μ1) : We (qVal t) ρ μ QV' := we_bind (h.mono fun d μ1 h => ret_ok h)
theorem we_ix (h : We tq ρ μ fun q μ1 => We u ρ μ1 fun y μ2 => ∃ i ds d, y = .int i ∧ qv q ρ μ2 = some ds ∧ atI ds i = some d ∧ Q d μ2) : We (dIx tq u) ρ μ Q :=
  we_bind (h.mono fun q μ1 h => we_bind (h.mono fun y μ2 h => by
    obtain ⟨i, ds, d, rfl, h1, h2, h3⟩ := h
    refine ⟨d, μ2, ?_, h3⟩
    cases q with
    | own i => simp only [h1, h2]
    | val d =>
      cases d <;> first | (cases h1; done) | (simp only [h1, h2])))
theorem we_lenL (h : We tq ρ μ fun q μ1 => ∃ ds, qv q ρ μ1 = some ds ∧ Q (.int ds.length) μ1) : We (dLen tq) ρ μ Q :=
  we_bind (h.mono fun q μ1 h => by
    obtain ⟨ds, h1, h2⟩ := h
    refine ⟨_, μ1, ?_, h2⟩
    cases q with
    | own i => simp only [h1]
    | val d =>
      cases d <;> first | (cases h1; done) | (simp only [h1]))
theorem we_lenS {t : TD} (h : We t ρ μ fun d μ1 => ∃ z, d = .str z ∧ z.length ≤ sizeLine ∧ Q (.int z.length) μ1) : We (dLen (qVal t)) ρ μ Q :=
  we_bind (we_q (h.mono fun d μ1 h => by
    obtain ⟨z, rfl, h1, h2⟩ := h
    refine ⟨_, μ1, ?_, h2⟩
    simp only [h1, if_true]))
theorem we_int (h : We t ρ μ fun d μ1 => ∃ i, d = .int i ∧ Q (.int i) μ1) : We (dInt t) ρ μ Q :=
  we_bind (h.mono fun d μ1 h => by obtain ⟨i, rfl, h⟩ := h; exact ret_ok h)
theorem we_neg (h : We t ρ μ fun d μ1 => ∃ i, d = .int i ∧ Q (.int (-i)) μ1) : We (dNeg t) ρ μ Q :=
  we_bind (h.mono fun d μ1 h => by obtain ⟨i, rfl, h⟩ := h; exact ret_ok h)
theorem we_min2 (h : We t ρ μ fun x μ1 => We u ρ μ1 fun y μ2 => ∃ i j, x = .int i ∧ y = .int j ∧ Q (.int (if j < i then j else i)) μ2) : We (dMin2 t u) ρ μ Q :=
  we_bind (h.mono fun x μ1 h => we_bind (h.mono fun y μ2 h => by
    obtain ⟨i, j, rfl, rfl, h⟩ := h
    first
      | exact ⟨_, μ2, rfl, h⟩
      | (refine ⟨_, μ2, ?_, h⟩; unfold M.ret; split <;> rfl)))
theorem we_nil (h : QL [] μ) : We dNil ρ μ QL := ⟨[], μ, rfl, h⟩
theorem we_cons (h : We t ρ μ fun d μ1 => We tl ρ μ1 fun ds μ2 => QL (d :: ds) μ2) : We (dCons t tl) ρ μ QL :=
  we_bind (h.mono fun d μ1 h => we_bind (h.mono fun ds μ2 h => ret_ok h))
theorem we_tup (h : We tl ρ μ fun ds μ1 => ds.length ≤ sizeLine ∧ Q (.tup ds) μ1) : We (dTup tl) ρ μ Q :=
  we_bind (h.mono fun ds μ1 h => by rw [if_pos h.1]; exact ret_ok h.2)
theorem we_lst (h : We tl ρ μ fun ds μ1 => ds.length ≤ sizeLine ∧ QL ds μ1) : We (dLst tl) ρ μ QL :=
  we_bind (h.mono fun ds μ1 h => by rw [if_pos h.1]; exact ret_ok h.2)
theorem we_fz (h : We tl ρ μ fun ds μ1 => Q (.lst ds) μ1) : We (dFz tl) ρ μ Q := we_bind (h.mono fun ds μ1 h => ret_ok h)
theorem we_amb (h : We tl ρ μ fun ds μ1 => Q (.mref μ1.length) (μ1 ++ [.lst ds])) : We (dAmb tl) ρ μ Q := we_bind (h.mono fun ds μ1 h => ⟨_, _, rfl, h⟩)
theorem we_tupOf (h : We tq ρ μ fun q μ1 => ∃ ds, qv q ρ μ1 = some ds ∧ Q (if q.isK = true then .kt ds else .tup ds) μ1) : We (dTupOf tq) ρ μ Q :=
  we_bind (h.mono fun q μ1 h => by
    obtain ⟨ds, h1, h2⟩ := h
    refine ⟨_, μ1, ?_, h2⟩
    simp only [h1])
theorem we_lstOf (h : We tq ρ μ fun q μ1 => ∃ ds, qv q ρ μ1 = some ds ∧ QL ds μ1) : We (dLstOf tq) ρ μ QL :=
  we_bind (h.mono fun q μ1 h => by
    obtain ⟨ds, h1, h2⟩ := h
    refine ⟨_, μ1, ?_, h2⟩
    simp only [h1])
theorem we_cat {tq2 : TQ} (h : We tq ρ μ fun p μ1 => We tq2 ρ μ1 fun q μ2 => ∃ ds es, qvl p ρ μ2 = some ds ∧ qvl q ρ μ2 = some es ∧ ds.length + es.length ≤ sizeLine ∧ QL (ds ++ es) μ2) : We (dCat tq tq2) ρ μ QL :=
  we_bind (h.mono fun p μ1 h => we_bind (h.mono fun q μ2 h => by
    obtain ⟨ds, es, h1, h2, h3, h4⟩ := h
    refine ⟨_, μ2, ?_, h4⟩
    simp only [h1, h2, h3, if_true]))
theorem we_poN (h : QO none μ) : We dPoN ρ μ QO := ⟨none, μ, rfl, h⟩
theorem we_poS (h : We t ρ μ fun d μ1 => ∃ i, d = .int i ∧ QO (some i) μ1) : We (dPoS t) ρ μ QO :=
  we_bind (h.mono fun d μ1 h => by obtain ⟨i, rfl, h⟩ := h; exact ret_ok h)
theorem we_slice {lo hi : Rho → M (Option Int)} (h : We tq ρ μ fun q μ1 => We lo ρ μ1 fun l μ2 => We hi ρ μ2 fun h μ3 => ∃ ds, qvl q ρ μ3 = some ds ∧ QL (cutD ds l h) μ3) : We (dSlice tq lo hi) ρ μ QL :=
  we_bind (h.mono fun q μ1 h => we_bind (h.mono fun l μ2 h => we_bind (h.mono fun hh μ3 h => by
    obtain ⟨ds, h1, h2⟩ := h
    refine ⟨_, μ3, ?_, h2⟩
    simp only [h1])))
theorem we_call {F : List D → M D} {n : Nat} (h : We tl ρ μ fun ds μ1 => ds.length = n ∧ Wf' F ds μ1 Q) : We (dCall F n tl) ρ μ Q :=
  we_bind (h.mono fun ds μ1 h => by
    obtain ⟨h1, d, μ2, h2, h3⟩ := h
    exact ⟨d, μ2, by rw [if_pos h1]; exact h2, h3⟩)
theorem we_fld {S : List Addr} {f : Str} (h : We t ρ μ fun d μ1 => ∃ C ns ds y, insD d μ1 = some (C, ns, ds) ∧ C ∈ S ∧ fldD ns ds f = some y ∧ Q y μ1) : We (dFld S f t) ρ μ Q :=
  we_bind (h.mono fun d μ1 h => by
    obtain ⟨C, ns, ds, y, h1, h2, h3, h4⟩ := h
    refine ⟨y, μ1, ?_, h4⟩
    simp only [h1, h2, h3, if_true])
theorem we_rng1 {m : Nat} (h : We t ρ μ fun d μ1 => d = .int m ∧ m < 1000000 ∧ QL (rangeD 0 m) μ1) : We (dRng1 t) ρ μ QL :=
  we_bind (h.mono fun d μ1 h => by
    obtain ⟨rfl, h1, h2⟩ := h
    have e1 : (-(2 ^ 62) : Int) ≤ (m : Int) := Int.le_trans (by decide) (Int.natCast_nonneg m)
    have e2 : (m : Int) < 2 ^ 62 := Int.lt_trans (Int.ofNat_lt.mpr h1) (by decide)
    refine ⟨_, μ1, ?_, h2⟩
    show (if -(2 ^ 62) ≤ (m : Int) ∧ (m : Int) < 2 ^ 62 then M.ret (rangeD 0 (m : Int).toNat) else M.stuck) μ1 = _
    rw [if_pos ⟨e1, e2⟩, Int.toNat_natCast]
    rfl)
theorem we_iter (h : We t ρ μ fun d μ1 => ∃ ds, d.items = some ds ∧ QL ds μ1) : We (dIter t) ρ μ QL := we_bind (h.mono fun d μ1 h => lift_ok h)
theorem we_enum (h : We t ρ μ fun d μ1 => ∃ ds, d.items = some ds ∧ QL (enumD ds) μ1) : We (dEnum t) ρ μ QL := we_bind (h.mono fun d μ1 h => by
  obtain ⟨ds, h1, h2⟩ := h
  exact lift_ok ⟨_, by rw [h1]; rfl, h2⟩)
theorem we_iterS (h : We t ρ μ fun d μ1 => ∃ z, d = .str z ∧ QL (signsD z) μ1) : We (dIterS t) ρ μ QL := we_bind (h.mono fun d μ1 h => by
  obtain ⟨z, rfl, h⟩ := h
  exact ret_ok h)
theorem we_m1 {gf : D → D → Option D} (h : We t ρ μ fun x μ1 => ∃ a, x = .str a ∧ We u ρ μ1 fun y μ2 => ∃ z, gf (.str a) y = some z ∧ Q z μ2) : We (dM1 gf t u) ρ μ Q :=
  we_bind (h.mono fun x μ1 h => by
    obtain ⟨a, rfl, h⟩ := h
    exact we_bind (h.mono fun y μ2 h => lift_ok h))
theorem we_join (h : We t ρ μ fun x μ1 => ∃ a, x = .str a ∧ We tq ρ μ1 fun q μ2 => ∃ ds ys, qv q ρ μ2 = some ds ∧ D.strs ds = some ys ∧ (ys.map (·.length)).sum + ys.length * a.length ≤ 16777216 ∧ Q (.str (Txt.join a ys)) μ2) : We (dJoin t tq) ρ μ Q :=
  we_bind (h.mono fun x μ1 h => by
    obtain ⟨a, rfl, h⟩ := h
    refine we_bind (h.mono fun q μ2 h => ?_)
    obtain ⟨ds, ys, h1, h2, h3, h4⟩ := h
    refine ⟨_, μ2, ?_, h4⟩
    simp only [h1, h2, h3, if_true])
theorem we_ixS (h : We t ρ μ fun x μ1 => We u ρ μ1 fun y μ2 => ∃ z i c, x = .str z ∧ y = .int i ∧ z.length ≤ sizeLine ∧ atI z.cps.toList i = some c ∧ Q (.str ⟨#[c]⟩) μ2) : We (dIxS t u) ρ μ Q :=
  we_bind (h.mono fun x μ1 h => we_bind (h.mono fun y μ2 h => by
    obtain ⟨z, i, c, rfl, rfl, h1, h2, h3⟩ := h
    refine ⟨_, μ2, ?_, h3⟩
    show (if z.length ≤ sizeLine then M.lift ((atI z.cps.toList i).map fun c => D.str ⟨#[c]⟩) else M.stuck) μ2 = _
    rw [if_pos h1, h2]
    rfl))
theorem we_sliceS {lo hi : Rho → M (Option Int)} (h : We t ρ μ fun x μ1 => We lo ρ μ1 fun l μ2 => We hi ρ μ2 fun h μ3 => ∃ z, x = .str z ∧ z.length ≤ sizeLine ∧ Q (.str (cutS z l h)) μ3) : We (dSliceS t lo hi) ρ μ Q :=
  we_bind (h.mono fun q μ1 h => we_bind (h.mono fun l μ2 h => we_bind (h.mono fun hh μ3 h => by
    obtain ⟨z, rfl, h1, h2⟩ := h
    refine ⟨_, μ3, ?_, h2⟩
    show (if z.length ≤ sizeLine then M.ret (D.str (cutS z l hh)) else M.stuck) μ3 = _
    rw [if_pos h1]
    rfl)))
theorem we_chain {gf gf' : D → D → Option D} (h : We ta ρ μ fun x μ1 => We tb ρ μ1 fun y μ2 => ∃ b, gf x y = some (.bl b) ∧ (b = true → We t ρ μ2 fun z μ3 => ∃ w, gf' y z = some w ∧ Q w μ3) ∧ (b = false → Q (.bl false) μ2)) : We (dChain gf gf' ta tb t) ρ μ Q :=
  we_bind (h.mono fun x μ1 h => we_bind (h.mono fun y μ2 h => by
    obtain ⟨b, h1, h2, h3⟩ := h
    rw [h1]
    cases b with
    | true => exact we_bind ((h2 rfl).mono fun z μ3 h => lift_ok h)
    | false => exact ⟨_, μ2, rfl, h3 rfl⟩))
theorem we_isi {S : List Addr} {kI : Kit} (h : We t ρ μ fun x μ1 => We u ρ μ1 fun y μ2 => ∃ ty c b, tyD S x μ2 = some ty ∧ clsD y = some c ∧ kitD kI ty c = some b ∧ Q (.bl b) μ2) : We (dIsi S kI t u) ρ μ Q :=
  we_bind (h.mono fun x μ1 h => we_bind (h.mono fun y μ2 h => by
    obtain ⟨ty, c, b, h1, h2, h3, h4⟩ := h
    refine ⟨_, μ2, ?_, h4⟩
    simp only [h1, h2, h3]))
theorem we_isiT {S : List Addr} {kI : Kit} (h : We t ρ μ fun x μ1 => We u ρ μ1 fun y μ2 => ∃ ds ty cs b, y = .tup ds ∧ tyD S x μ2 = some ty ∧ clsDs ds = some cs ∧ kitAnyD kI ty cs = some b ∧ Q (.bl b) μ2) : We (dIsiT S kI t u) ρ μ Q :=
  we_bind (h.mono fun x μ1 h => we_bind (h.mono fun y μ2 h => by
    obtain ⟨ds, ty, cs, b, rfl, h1, h2, h3, h4⟩ := h
    refine ⟨_, μ2, ?_, h4⟩
    simp only [h1, h2, h3]))
theorem we_all (h : We tl ρ μ fun ds μ1 => ∃ zs, D.bls ds = some zs ∧ Q (.bl (zs.all id)) μ1) : We (dAll tl) ρ μ Q :=
  we_bind (h.mono fun ds μ1 h => by
    obtain ⟨zs, h1, h2⟩ := h
    exact lift_ok ⟨_, by rw [h1]; rfl, h2⟩)
theorem we_text (h : We t ρ μ fun d μ1 => ∃ z, d.text = some z ∧ Q (.str z) μ1) : We (dText t) ρ μ Q :=
  we_bind (h.mono fun d μ1 h => by
    obtain ⟨z, h1, h2⟩ := h
    exact lift_ok ⟨_, by rw [h1]; rfl, h2⟩)
theorem we_js_nil {acc : Str} (h : Q (.str acc) μ) : We (dJs [] acc) ρ μ Q := ⟨_, μ, rfl, h⟩
theorem we_js_cons {ts : List TD} {acc : Str} (h : We t ρ μ fun d μ1 => ∃ y, d = .str y ∧ (acc ++ y).length ≤ sizeLine ∧ We (dJs ts (acc ++ y)) ρ μ1 Q) : We (dJs (t :: ts) acc) ρ μ Q :=
  we_bind (h.mono fun d μ1 h => by
    obtain ⟨y, rfl, h1, h2⟩ := h
    show ∃ b μ', (if (acc ++ y).length ≤ sizeLine then dJs ts (acc ++ y) ρ else M.stuck) μ1 = _ ∧ _
    rw [if_pos h1]
    exact h2)
theorem we_vals_nil (h : QL [] μ) : We (dVals []) ρ μ QL := ⟨[], μ, rfl, h⟩
theorem we_vals_cons {ts : List TD} (h : We t ρ μ fun d μ1 => We (dVals ts) ρ μ1 fun ds μ2 => QL (d :: ds) μ2) : We (dVals (t :: ts)) ρ μ QL :=
  we_bind (h.mono fun d μ1 h => we_bind (h.mono fun ds μ2 h => ret_ok h))
theorem we_disp {zs : List Str} {ts : List TD} (h : We (dVals ts) ρ μ fun ds μ1 => Q (.dk (keysS zs) ds) μ1) : We (dDisp zs ts) ρ μ Q := we_bind (h.mono fun ds μ1 h => ret_ok h)
theorem we_dispM {zs : List Str} {ts : List TD} (h : We (dVals ts) ρ μ fun ds μ1 => Q (.mref μ1.length) (μ1 ++ [.dk (keysS zs) ds])) : We (dDispM zs ts) ρ μ Q := we_bind (h.mono fun ds μ1 h => ⟨_, _, rfl, h⟩)
theorem we_dget (h : We t ρ μ fun d μ1 => We u ρ μ1 fun y μ2 => ∃ z, dgetD d y μ2 = some (some z) ∧ Q z μ2) : We (dDGet t u) ρ μ Q :=
  we_bind (h.mono fun x μ1 h => we_bind (h.mono fun y μ2 h => by
    obtain ⟨z, h1, h2⟩ := h
    refine ⟨z, μ2, ?_, h2⟩
    simp only [h1]))
theorem we_din {neg : Bool} (h : We u ρ μ fun y μ1 => We t ρ μ1 fun d μ2 => ∃ o, dgetD d y μ2 = some o ∧ Q (.bl (if neg then !o.isSome else o.isSome)) μ2) : We (dDIn neg u t) ρ μ Q :=
  we_bind (h.mono fun x μ1 h => we_bind (h.mono fun y μ2 h => by
    obtain ⟨o, h1, h2⟩ := h
    refine ⟨_, μ2, ?_, h2⟩
    simp only [h1]))
theorem we_in {neg : Bool} (h : We t ρ μ fun x μ1 => We tq ρ μ1 fun q μ2 => ∃ ds b, qv q ρ μ2 = some ds ∧ inD x ds = some b ∧ Q (.bl (if neg then !b else b)) μ2) : We (dIn neg t tq) ρ μ Q :=
  we_bind (h.mono fun x μ1 h => we_bind (h.mono fun y μ2 h => by
    obtain ⟨ds, b, h1, h2, h3⟩ := h
    refine ⟨_, μ2, ?_, h3⟩
    simp only [h1, h2]))
end
end DL

set_option Elab.async false
set_option linter.all false
set_option maxRecDepth 100000
set_option maxHeartbeats 4000000
set_option autoImplicit false
namespace DL
open PySem PySem.Spec L2
section
variable {α : Type} {ρ : Rho} {μ : Mu} {t u : TD} {tl : TL} {s s' : TO'} {Q : Out → Mu → Prop} {QL : List D → Mu → Prop} {d : D} {i : Nat}
theorem Ws.mono {Q Q' : Out → Mu → Prop} (h : Ws s ρ μ Q) (k : ∀ o μ', Q o μ' → Q' o μ') : Ws s ρ μ Q' := by
  obtain ⟨a, μ', h1, h2⟩ := h
  exact ⟨a, μ', h1, k _ _ h2⟩
theorem ws_e {m : Rho → M α} {f : α → Rho → Mu → Option (Out × Mu)} (h : We m ρ μ fun a μ1 => ∃ o μ', f a ρ μ1 = some (o, μ') ∧ Q o μ') : Ws (dsE m f) ρ μ Q := by
  obtain ⟨a, μ1, h1, o, μ', h2, h3⟩ := h
  refine ⟨o, μ', ?_, h3⟩
  unfold dsE
  rw [h1]
  exact h2
def thn (u : TO') (Q : Out → Mu → Prop) : Out → Mu → Prop
  | .nx ρ1, μ1 => Ws u ρ1 μ1 Q
  | o, μ1 => Q o μ1
theorem ws_seq (h : Ws s ρ μ (thn s' Q)) : Ws (dsSeq s s') ρ μ Q := by
  obtain ⟨o, μ1, h1, h2⟩ := h
  unfold Ws dsSeq
  rw [h1]
  cases o with
  | nx ρ1 => exact h2
  | _ => exact ⟨_, _, rfl, h2⟩
theorem ws_next (h : Q (.nx ρ) μ) : Ws dsNext ρ μ Q := ⟨_, _, rfl, h⟩
theorem ws_break (h : Q (.bk ρ) μ) : Ws dsBreak ρ μ Q := ⟨_, _, rfl, h⟩
theorem ws_cont (h : Q (.ct ρ) μ) : Ws dsCont ρ μ Q := ⟨_, _, rfl, h⟩
theorem ws_retN (h : Q (.rt .non) μ) : Ws dsRetN ρ μ Q := ⟨_, _, rfl, h⟩
theorem ws_ret (h : We t ρ μ fun d μ1 => Q (.rt d) μ1) : Ws (dsRet t) ρ μ Q := ws_e (h.mono fun d μ1 h => ⟨_, _, rfl, h⟩)
theorem ws_expr (h : We t ρ μ fun d μ1 => Q (.nx ρ) μ1) : Ws (dsExpr t) ρ μ Q := ws_e (h.mono fun d μ1 h => ⟨_, _, rfl, h⟩)
theorem ws_set (h : We t ρ μ fun d μ1 => Q (.nx (ρ.set i (some (.sh d)))) μ1) : Ws (dsSet i t) ρ μ Q := ws_e (h.mono fun d μ1 h => ⟨_, _, rfl, h⟩)
theorem ws_setO (h : We tl ρ μ fun ds μ1 => Q (.nx (ρ.set i (some (.ol ds)))) μ1) : Ws (dsSetO i tl) ρ μ Q := ws_e (h.mono fun d μ1 h => ⟨_, _, rfl, h⟩)
theorem ws_ambO {ds : List D} (h0 : ρ[i]? = some (some (.ol ds))) (h : Q (.nx (ρ.set i (some (.sh (.mref μ.length))))) (μ ++ [.lst ds])) : Ws (dsAmb i) ρ μ Q := by
  refine ⟨_, _, ?_, h⟩
  unfold dsAmb
  rw [h0]
theorem ws_fzM {k : Nat} {ds : List D} (h0 : ρ[i]? = some (some (.sh (.mref k)))) (h1 : μ[k]? = some (.lst ds)) (h : Q (.nx (ρ.set i (some (.sh (.lst ds))))) (μ.set k .dead)) : Ws (dsFzM i) ρ μ Q := by
  refine ⟨_, _, ?_, h⟩
  unfold dsFzM
  rw [h0]
  simp only [h1]
theorem ws_if {c : TB} (h : We c ρ μ fun b μ1 => (b = true → Ws s ρ μ1 Q) ∧ (b = false → Ws s' ρ μ1 Q)) : Ws (dsIf c s s') ρ μ Q := ws_e (h.mono fun b μ1 h => by
  cases b with
  | true => exact h.1 rfl
  | false => exact h.2 rfl)
theorem ws_asg {gt : D → Rho → Option Rho} (h : We t ρ μ fun d μ1 => ∃ ρ', gt d ρ = some ρ' ∧ Q (.nx ρ') μ1) : Ws (dsAsg t gt) ρ μ Q := ws_e (h.mono fun d μ1 h => by
  obtain ⟨ρ', h1, h2⟩ := h
  exact ⟨_, _, by rw [h1], h2⟩)
theorem ws_app {k : Nat} {ds0 : List D} (h : We t ρ μ fun d μ1 => d = .mref k ∧ μ1[k]? = some (.lst ds0) ∧ We u ρ μ1 fun y μ2 => ∃ ds, μ2[k]? = some (.lst ds) ∧ ds.length < sizeLine ∧ Q (.nx ρ) (μ2.set k (.lst (ds ++ [y])))) : Ws (dsAppM t u) ρ μ Q := ws_e (h.mono fun d μ1 h => by
  obtain ⟨rfl, h1, y, μ2, h2, ds, h3, h4, h5⟩ := h
  refine ⟨_, _, ?_, h5⟩
  simp only [muLst_mref, h1, dsE_ap, h2, h3, h4, if_true])
theorem ws_ext {k : Nat} {ds0 : List D} (h : We t ρ μ fun d μ1 => d = .mref k ∧ μ1[k]? = some (.lst ds0) ∧ We tl ρ μ1 fun ys μ2 => ∃ ds, μ2[k]? = some (.lst ds) ∧ ds.length + ys.length ≤ sizeLine ∧ Q (.nx ρ) (μ2.set k (.lst (ds ++ ys)))) : Ws (dsExtM t tl) ρ μ Q := ws_e (h.mono fun d μ1 h => by
  obtain ⟨rfl, h1, y, μ2, h2, ds, h3, h4, h5⟩ := h
  refine ⟨_, _, ?_, h5⟩
  simp only [muLst_mref, h1, dsE_ap, h2, h3, h4, if_true])
theorem ws_setIx {te to' tb : TD} (h : We te ρ μ fun y μ1 => We to' ρ μ1 fun d μ2 => We tb ρ μ2 fun n μ3 => ∃ k z ds j, d = .mref k ∧ n = .int z ∧ μ3[k]? = some (.lst ds) ∧ ixN ds.length z = some j ∧ Q (.nx ρ) (μ3.set k (.lst (ds.set j y)))) : Ws (dsSetIxM te to' tb) ρ μ Q := ws_e (h.mono fun y μ1 h => by
  obtain ⟨d, μ2, h1, n, μ3, h2, k, z, ds, j, rfl, rfl, h3, h4, h5⟩ := h
  refine ⟨_, _, ?_, h5⟩
  simp only [dsE_ap, h1, h2, muLst_mref, h3, h4])
theorem ws_dput {tv to' ti : TD} (h : We tv ρ μ fun z μ1 => We to' ρ μ1 fun d μ2 => We ti ρ μ2 fun y μ3 => ∃ μ4, dputD d y z μ3 = some μ4 ∧ Q (.nx ρ) μ4) : Ws (dsDPut tv to' ti) ρ μ Q := ws_e (h.mono fun y μ1 h => by
  obtain ⟨d, μ2, h1, n, μ3, h2, μ4, h3, h4⟩ := h
  refine ⟨_, _, ?_, h4⟩
  simp only [dsE_ap, h1, h2, h3])
theorem ws_fld {S : List Addr} {f : Str} {te to' : TD} (h : We te ρ μ fun y μ1 => We to' ρ μ1 fun d μ2 => ∃ k C ns ds, d = .mref k ∧ μ2[k]? = some (.ins C ns ds) ∧ C ∈ S ∧ ns.length < 1000 ∧ Q (.nx ρ) (μ2.set k (.ins C (putN ns f) (putA ns ds f y)))) : Ws (dsFld S f te to') ρ μ Q := ws_e (h.mono fun y μ1 h => by
  obtain ⟨d, μ2, h1, k, C, ns, ds, rfl, h2, h3, h4, h5⟩ := h
  refine ⟨_, _, ?_, h5⟩
  simp only [dsE_ap, h1, h2, h3, h4, and_self, if_true])
def turn (I : Rho → Mu → Prop) (Q : Out → Mu → Prop) : Out → Mu → Prop
  | .nx ρ, μ => I ρ μ
  | .ct ρ, μ => I ρ μ
  | .bk ρ, μ => Q (.nx ρ) μ
  | .rt d, μ => Q (.rt d) μ
  | .ex ρ C ns ds, μ => Q (.ex ρ C ns ds) μ
theorem forL_inv {gt : D → Rho → Option Rho} {tb : TO'} {ds : List D} (I : Nat → Rho → Mu → Prop)
    (step : ∀ i d ρ μ, ds[i]? = some d → I i ρ μ → ∃ ρ1, gt d ρ = some ρ1 ∧ Ws tb ρ1 μ (turn (I (i + 1)) Q)) (fin : ∀ ρ μ, I ds.length ρ μ → Q (.nx ρ) μ) (h0 : I 0 ρ μ) :
    ∃ o μ', forL gt tb ds ρ μ = some (o, μ') ∧ Q o μ' := by
  have key : ∀ (es : List D) (k : Nat) (ρ : Rho) (μ : Mu), ds.drop k = es → k ≤ ds.length → I k ρ μ → ∃ o μ', forL gt tb es ρ μ = some (o, μ') ∧ Q o μ' := by
    intro es
    induction es with
    | nil =>
      intro k ρ μ e hk hI
      have hz : k = ds.length := by
        have := List.length_drop (i := k) (l := ds)
        rw [e] at this
        have h0 : ds.length - k = 0 := this.symm
        omega
      exact ⟨_, _, rfl, fin ρ μ (by rw [← hz]; exact hI)⟩
    | cons d r ih =>
      intro k ρ μ e hk hI
      obtain ⟨ed, er⟩ := drop_cons e
      obtain ⟨ρ1, g1, o, μ2, g2, g3⟩ := step k d ρ μ ed hI
      have hk1 := (List.getElem?_eq_some_iff.mp ed).1
      unfold forL
      rw [g1]
      simp only [g2]
      cases o with
      | nx ρ2 => exact ih (k + 1) ρ2 μ2 er hk1 g3
      | ct ρ2 => exact ih (k + 1) ρ2 μ2 er hk1 g3
      | bk ρ2 => exact ⟨_, _, rfl, g3⟩
      | rt d => exact ⟨_, _, rfl, g3⟩
      | ex ρ2 C ns es => exact ⟨_, _, rfl, g3⟩
  exact key ds 0 ρ μ rfl (Nat.zero_le _) h0
theorem ws_for {gt : D → Rho → Option Rho} {tb : TO'} (h : We tl ρ μ fun ds μ1 => ∃ I : Nat → Rho → Mu → Prop, I 0 ρ μ1 ∧ (∀ i d ρ μ, ds[i]? = some d → I i ρ μ → ∃ ρ1, gt d ρ = some ρ1 ∧ Ws tb ρ1 μ (turn (I (i + 1)) Q)) ∧ ∀ ρ μ, I ds.length ρ μ → Q (.nx ρ) μ) : Ws (dsFor tl gt tb) ρ μ Q := ws_e (h.mono fun ds μ1 h => by
  obtain ⟨I, h0, h1, h2⟩ := h
  exact forL_inv I h1 h2 h0)
theorem ws_forM {gt : D → Rho → Option Rho} {tb : TO'} {k : Nat} {ds : List D} (h : We t ρ μ fun d μ1 => d = .mref k ∧ ∃ I : Nat → Rho → Mu → Prop, I 0 ρ μ1 ∧ (∀ i ρ μ, I i ρ μ → μ[k]? = some (.lst ds)) ∧ (∀ i d ρ μ, ds[i]? = some d → I i ρ μ → ∃ ρ1, gt d ρ = some ρ1 ∧ Ws tb ρ1 μ (turn (I (i + 1)) Q)) ∧ ∀ ρ μ, I ds.length ρ μ → Q (.nx ρ) μ) : Ws (dsForM t gt tb) ρ μ Q := ws_e (h.mono fun d μ1 h => by
  obtain ⟨rfl, I, h0, hk, h1, h2⟩ := h
  have key : ∀ (n i : Nat) (ρ : Rho) (μ : Mu), i + n = ds.length → I i ρ μ → ∃ o μ', forI k gt tb (n + 1) i ρ μ = some (o, μ') ∧ Q o μ' := by
    intro n
    induction n with
    | zero =>
      intro i ρ μ e hI
      have hi : i = ds.length := by omega
      subst hi
      refine ⟨.nx ρ, μ, ?_, h2 ρ μ hI⟩
      unfold forI
      simp only [muLst_mref, hk _ _ _ hI, List.getElem?_eq_none (Nat.le_refl _)]
    | succ n ih =>
      intro i ρ μ e hI
      have hi : i < ds.length := by omega
      obtain ⟨ρ1, g1, o, μ2, g2, g3⟩ := h1 i ds[i] ρ μ (List.getElem?_eq_getElem hi) hI
      unfold forI
      simp only [muLst_mref, hk _ _ _ hI, List.getElem?_eq_getElem hi, g1, g2]
      cases o with
      | nx ρ2 => exact ih (i + 1) ρ2 μ2 (by omega) g3
      | ct ρ2 => exact ih (i + 1) ρ2 μ2 (by omega) g3
      | bk ρ2 => exact ⟨_, _, rfl, g3⟩
      | rt d => exact ⟨_, _, rfl, g3⟩
      | ex ρ2 C ns es => exact ⟨_, _, rfl, g3⟩
  obtain ⟨o, μ', q1, q2⟩ := key ds.length 0 ρ μ1 (by omega) h0
  refine ⟨o, μ', ?_, q2⟩
  simp only [muLst_mref, hk _ _ _ h0]
  exact q1)
theorem we_lc {vs : List Nat} {gt : D → Rho → Option Rho} {tt : TB} {te : TD} (h : We tl ρ μ fun ds μ1 => okW ρ vs = true ∧ ∃ I : Nat → List D → Mu → Prop, I 0 [] μ1 ∧ (∀ i d acc μ, ds[i]? = some d → I i acc μ → acc.length < sizeLine ∧ ∃ ρ1, gt d (wipeR ρ vs) = some ρ1 ∧ We tt ρ1 μ fun b μ2 => (b = true → We te ρ1 μ2 fun y μ3 => I (i + 1) (acc ++ [y]) μ3) ∧ (b = false → I (i + 1) acc μ2)) ∧ ∀ acc μ, I ds.length acc μ → QL acc μ) :
    We (dLc vs tl gt tt te) ρ μ QL := we_bind (h.mono fun ds μ1 h => by
  obtain ⟨hw, I, h0, h1, h2⟩ := h
  rw [if_pos hw]
  have key : ∀ (es : List D) (k : Nat) (acc : List D) (μ : Mu), ds.drop k = es → k ≤ ds.length → I k acc μ → ∃ o μ', lcL vs gt tt te ρ es acc μ = some (.ok o, μ') ∧ QL o μ' := by
    intro es
    induction es with
    | nil =>
      intro k acc μ e hk hI
      have hz : k = ds.length := by
        have := List.length_drop (i := k) (l := ds)
        rw [e] at this
        have h0 : ds.length - k = 0 := this.symm
        omega
      exact ⟨_, _, rfl, h2 acc μ (by rw [← hz]; exact hI)⟩
    | cons d r ih =>
      intro k acc μ e hk hI
      obtain ⟨ed, er⟩ := drop_cons e
      have hk1 := (List.getElem?_eq_some_iff.mp ed).1
      obtain ⟨hl, ρ1, g1, b, μ2, g2, g3, g4⟩ := h1 k d acc μ ed hI
      unfold lcL
      rw [g1]
      cases b with
      | true =>
        obtain ⟨y, μ3, g5, g6⟩ := g3 rfl
        obtain ⟨o, μ', q1, q2⟩ := ih (k + 1) (acc ++ [y]) μ3 er hk1 g6
        refine ⟨o, μ', ?_, q2⟩
        simp only [bind_ap, nx_ap, g2, if_true, g5, hl]
        exact q1
      | false =>
        obtain ⟨o, μ', q1, q2⟩ := ih (k + 1) acc μ2 er hk1 (g4 rfl)
        refine ⟨o, μ', ?_, q2⟩
        simp only [bind_ap, nx_ap, g2, Bool.false_eq_true, if_false]
        exact q1
  exact key ds 0 [] μ1 rfl (Nat.zero_le _) h0)
def ends (Q : D → Mu → Prop) : Out → Mu → Prop
  | .rt d, μ => Q d μ
  | .nx _, μ => Q .non μ
  | _, _ => False
theorem wf_run {N : Nat} {ds : List D} {Q : D → Mu → Prop} (h : Ws s (initR N ds) μ (ends Q)) : Wf' (runF N s) ds μ Q := by
  obtain ⟨o, μ1, h1, h2⟩ := h
  unfold Wf' runF
  rw [h1]
  cases o with
  | rt d => exact ⟨_, _, rfl, h2⟩
  | nx ρ => exact ⟨_, _, rfl, h2⟩
  | _ => exact h2.elim
theorem wf_scope {F : List D → M D} {ds : List D} {Q : D → Mu → Prop} (h : Wf' F ds μ fun d μ' => d.low μ.length = true ∧ (μ'.take μ.length).all (MO.low μ.length) = true ∧ Q d (μ'.take μ.length)) : Wf' (scopeF F) ds μ Q := by
  obtain ⟨d, μ1, h1, h2, h3, h4⟩ := h
  refine ⟨d, _, ?_, h4⟩
  unfold scopeF
  rw [h1]
  show (if (d.low μ.length && (μ1.take μ.length).all (MO.low μ.length)) = true then _ else none) = _
  rw [h2, h3]
  rfl
theorem Wf'.mono {F : List D → M D} {ds : List D} {Q Q' : D → Mu → Prop} (h : Wf' F ds μ Q) (k : ∀ a μ', Q a μ' → Q' a μ') : Wf' F ds μ Q' := by
  obtain ⟨a, μ', h1, h2⟩ := h
  exact ⟨a, μ', h1, k _ _ h2⟩
end
end DL

set_option Elab.async false
set_option linter.all false
set_option maxRecDepth 100000
set_option maxHeartbeats 4000000
set_option autoImplicit false
namespace DL
open PySem PySem.Spec L2
section
variable {α : Type} {ρ r : Rho} {μ : Mu} {Q : D → Mu → Prop} {QO : Out → Mu → Prop} {QL : List D → Mu → Prop} {QB : Bool → Mu → Prop} {d x : D} {t u v w' : TD} {tl : TL} {s0 s1 s2 s3 s4 s5 s6 s7 s8 s9 s10 s11 s12 s13 s14 s15 s16 s17 s18 s19 : Option Sl}
theorem yv0 (q : Q d μ) : We (dVar 0) (some (.sh d) :: r) μ Q := we_var rfl q
theorem yv1 (q : Q d μ) : We (dVar 1) (s0 :: some (.sh d) :: r) μ Q := we_var rfl q
theorem yv2 (q : Q d μ) : We (dVar 2) (s0 :: s1 :: some (.sh d) :: r) μ Q := we_var rfl q
theorem yv3 (q : Q d μ) : We (dVar 3) (s0 :: s1 :: s2 :: some (.sh d) :: r) μ Q := we_var rfl q
theorem yv4 (q : Q d μ) : We (dVar 4) (s0 :: s1 :: s2 :: s3 :: some (.sh d) :: r) μ Q := we_var rfl q
theorem yv5 (q : Q d μ) : We (dVar 5) (s0 :: s1 :: s2 :: s3 :: s4 :: some (.sh d) :: r) μ Q := we_var rfl q
theorem yv6 (q : Q d μ) : We (dVar 6) (s0 :: s1 :: s2 :: s3 :: s4 :: s5 :: some (.sh d) :: r) μ Q := we_var rfl q
theorem yv7 (q : Q d μ) : We (dVar 7) (s0 :: s1 :: s2 :: s3 :: s4 :: s5 :: s6 :: some (.sh d) :: r) μ Q := we_var rfl q
theorem yv8 (q : Q d μ) : We (dVar 8) (s0 :: s1 :: s2 :: s3 :: s4 :: s5 :: s6 :: s7 :: some (.sh d) :: r) μ Q := we_var rfl q
theorem yv9 (q : Q d μ) : We (dVar 9) (s0 :: s1 :: s2 :: s3 :: s4 :: s5 :: s6 :: s7 :: s8 :: some (.sh d) :: r) μ Q := we_var rfl q
theorem yv10 (q : Q d μ) : We (dVar 10) (s0 :: s1 :: s2 :: s3 :: s4 :: s5 :: s6 :: s7 :: s8 :: s9 :: some (.sh d) :: r) μ Q := we_var rfl q
theorem yv11 (q : Q d μ) : We (dVar 11) (s0 :: s1 :: s2 :: s3 :: s4 :: s5 :: s6 :: s7 :: s8 :: s9 :: s10 :: some (.sh d) :: r) μ Q := we_var rfl q
theorem yv12 (q : Q d μ) : We (dVar 12) (s0 :: s1 :: s2 :: s3 :: s4 :: s5 :: s6 :: s7 :: s8 :: s9 :: s10 :: s11 :: some (.sh d) :: r) μ Q := we_var rfl q
theorem yv13 (q : Q d μ) : We (dVar 13) (s0 :: s1 :: s2 :: s3 :: s4 :: s5 :: s6 :: s7 :: s8 :: s9 :: s10 :: s11 :: s12 :: some (.sh d) :: r) μ Q := we_var rfl q
theorem yt1 (h : We t (s0 :: s1 :: r) μ fun d μ1 => QO (.nx (s0 :: some (.sh d) :: r)) μ1) : Ws (dsSet 1 t) (s0 :: s1 :: r) μ QO := ws_set h
theorem yt2 (h : We t (s0 :: s1 :: s2 :: r) μ fun d μ1 => QO (.nx (s0 :: s1 :: some (.sh d) :: r)) μ1) : Ws (dsSet 2 t) (s0 :: s1 :: s2 :: r) μ QO := ws_set h
theorem yt3 (h : We t (s0 :: s1 :: s2 :: s3 :: r) μ fun d μ1 => QO (.nx (s0 :: s1 :: s2 :: some (.sh d) :: r)) μ1) : Ws (dsSet 3 t) (s0 :: s1 :: s2 :: s3 :: r) μ QO := ws_set h
theorem yt4 (h : We t (s0 :: s1 :: s2 :: s3 :: s4 :: r) μ fun d μ1 => QO (.nx (s0 :: s1 :: s2 :: s3 :: some (.sh d) :: r)) μ1) : Ws (dsSet 4 t) (s0 :: s1 :: s2 :: s3 :: s4 :: r) μ QO := ws_set h
theorem yt5 (h : We t (s0 :: s1 :: s2 :: s3 :: s4 :: s5 :: r) μ fun d μ1 => QO (.nx (s0 :: s1 :: s2 :: s3 :: s4 :: some (.sh d) :: r)) μ1) : Ws (dsSet 5 t) (s0 :: s1 :: s2 :: s3 :: s4 :: s5 :: r) μ QO := ws_set h
theorem yt6 (h : We t (s0 :: s1 :: s2 :: s3 :: s4 :: s5 :: s6 :: r) μ fun d μ1 => QO (.nx (s0 :: s1 :: s2 :: s3 :: s4 :: s5 :: some (.sh d) :: r)) μ1) : Ws (dsSet 6 t) (s0 :: s1 :: s2 :: s3 :: s4 :: s5 :: s6 :: r) μ QO := ws_set h
theorem yt7 (h : We t (s0 :: s1 :: s2 :: s3 :: s4 :: s5 :: s6 :: s7 :: r) μ fun d μ1 => QO (.nx (s0 :: s1 :: s2 :: s3 :: s4 :: s5 :: s6 :: some (.sh d) :: r)) μ1) : Ws (dsSet 7 t) (s0 :: s1 :: s2 :: s3 :: s4 :: s5 :: s6 :: s7 :: r) μ QO := ws_set h
theorem yt8 (h : We t (s0 :: s1 :: s2 :: s3 :: s4 :: s5 :: s6 :: s7 :: s8 :: r) μ fun d μ1 => QO (.nx (s0 :: s1 :: s2 :: s3 :: s4 :: s5 :: s6 :: s7 :: some (.sh d) :: r)) μ1) : Ws (dsSet 8 t) (s0 :: s1 :: s2 :: s3 :: s4 :: s5 :: s6 :: s7 :: s8 :: r) μ QO := ws_set h
theorem yt9 (h : We t (s0 :: s1 :: s2 :: s3 :: s4 :: s5 :: s6 :: s7 :: s8 :: s9 :: r) μ fun d μ1 => QO (.nx (s0 :: s1 :: s2 :: s3 :: s4 :: s5 :: s6 :: s7 :: s8 :: some (.sh d) :: r)) μ1) : Ws (dsSet 9 t) (s0 :: s1 :: s2 :: s3 :: s4 :: s5 :: s6 :: s7 :: s8 :: s9 :: r) μ QO := ws_set h
theorem yt10 (h : We t (s0 :: s1 :: s2 :: s3 :: s4 :: s5 :: s6 :: s7 :: s8 :: s9 :: s10 :: r) μ fun d μ1 => QO (.nx (s0 :: s1 :: s2 :: s3 :: s4 :: s5 :: s6 :: s7 :: s8 :: s9 :: some (.sh d) :: r)) μ1) : Ws (dsSet 10 t) (s0 :: s1 :: s2 :: s3 :: s4 :: s5 :: s6 :: s7 :: s8 :: s9 :: s10 :: r) μ QO := ws_set h
theorem yt11 (h : We t (s0 :: s1 :: s2 :: s3 :: s4 :: s5 :: s6 :: s7 :: s8 :: s9 :: s10 :: s11 :: r) μ fun d μ1 => QO (.nx (s0 :: s1 :: s2 :: s3 :: s4 :: s5 :: s6 :: s7 :: s8 :: s9 :: s10 :: some (.sh d) :: r)) μ1) : Ws (dsSet 11 t) (s0 :: s1 :: s2 :: s3 :: s4 :: s5 :: s6 :: s7 :: s8 :: s9 :: s10 :: s11 :: r) μ QO := ws_set h
theorem ygn1 {P : Rho → Prop} (h : P (s0 :: some (.sh d) :: r)) : ∃ ρ1, gtName 1 d (s0 :: s1 :: r) = some ρ1 ∧ P ρ1 := ⟨_, rfl, h⟩
theorem ygn2 {P : Rho → Prop} (h : P (s0 :: s1 :: some (.sh d) :: r)) : ∃ ρ1, gtName 2 d (s0 :: s1 :: s2 :: r) = some ρ1 ∧ P ρ1 := ⟨_, rfl, h⟩
theorem ygn3 {P : Rho → Prop} (h : P (s0 :: s1 :: s2 :: some (.sh d) :: r)) : ∃ ρ1, gtName 3 d (s0 :: s1 :: s2 :: s3 :: r) = some ρ1 ∧ P ρ1 := ⟨_, rfl, h⟩
theorem ygn4 {P : Rho → Prop} (h : P (s0 :: s1 :: s2 :: s3 :: some (.sh d) :: r)) : ∃ ρ1, gtName 4 d (s0 :: s1 :: s2 :: s3 :: s4 :: r) = some ρ1 ∧ P ρ1 := ⟨_, rfl, h⟩
theorem ygn5 {P : Rho → Prop} (h : P (s0 :: s1 :: s2 :: s3 :: s4 :: some (.sh d) :: r)) : ∃ ρ1, gtName 5 d (s0 :: s1 :: s2 :: s3 :: s4 :: s5 :: r) = some ρ1 ∧ P ρ1 := ⟨_, rfl, h⟩
theorem ygn6 {P : Rho → Prop} (h : P (s0 :: s1 :: s2 :: s3 :: s4 :: s5 :: some (.sh d) :: r)) : ∃ ρ1, gtName 6 d (s0 :: s1 :: s2 :: s3 :: s4 :: s5 :: s6 :: r) = some ρ1 ∧ P ρ1 := ⟨_, rfl, h⟩
theorem ygn7 {P : Rho → Prop} (h : P (s0 :: s1 :: s2 :: s3 :: s4 :: s5 :: s6 :: some (.sh d) :: r)) : ∃ ρ1, gtName 7 d (s0 :: s1 :: s2 :: s3 :: s4 :: s5 :: s6 :: s7 :: r) = some ρ1 ∧ P ρ1 := ⟨_, rfl, h⟩
theorem ygn8 {P : Rho → Prop} (h : P (s0 :: s1 :: s2 :: s3 :: s4 :: s5 :: s6 :: s7 :: some (.sh d) :: r)) : ∃ ρ1, gtName 8 d (s0 :: s1 :: s2 :: s3 :: s4 :: s5 :: s6 :: s7 :: s8 :: r) = some ρ1 ∧ P ρ1 := ⟨_, rfl, h⟩
theorem ygn9 {P : Rho → Prop} (h : P (s0 :: s1 :: s2 :: s3 :: s4 :: s5 :: s6 :: s7 :: s8 :: some (.sh d) :: r)) : ∃ ρ1, gtName 9 d (s0 :: s1 :: s2 :: s3 :: s4 :: s5 :: s6 :: s7 :: s8 :: s9 :: r) = some ρ1 ∧ P ρ1 := ⟨_, rfl, h⟩
theorem ygn11 {P : Rho → Prop} (h : P (s0 :: s1 :: s2 :: s3 :: s4 :: s5 :: s6 :: s7 :: s8 :: s9 :: s10 :: some (.sh d) :: r)) : ∃ ρ1, gtName 11 d (s0 :: s1 :: s2 :: s3 :: s4 :: s5 :: s6 :: s7 :: s8 :: s9 :: s10 :: s11 :: r) = some ρ1 ∧ P ρ1 := ⟨_, rfl, h⟩
theorem ygn12 {P : Rho → Prop} (h : P (s0 :: s1 :: s2 :: s3 :: s4 :: s5 :: s6 :: s7 :: s8 :: s9 :: s10 :: s11 :: some (.sh d) :: r)) : ∃ ρ1, gtName 12 d (s0 :: s1 :: s2 :: s3 :: s4 :: s5 :: s6 :: s7 :: s8 :: s9 :: s10 :: s11 :: s12 :: r) = some ρ1 ∧ P ρ1 := ⟨_, rfl, h⟩
theorem ygn13 {P : Rho → Prop} (h : P (s0 :: s1 :: s2 :: s3 :: s4 :: s5 :: s6 :: s7 :: s8 :: s9 :: s10 :: s11 :: s12 :: some (.sh d) :: r)) : ∃ ρ1, gtName 13 d (s0 :: s1 :: s2 :: s3 :: s4 :: s5 :: s6 :: s7 :: s8 :: s9 :: s10 :: s11 :: s12 :: s13 :: r) = some ρ1 ∧ P ρ1 := ⟨_, rfl, h⟩
theorem yz1 {k : Nat} {ds : List D} (h1 : μ[k]? = some (.lst ds)) (h : QO (.nx (s0 :: some (.sh (.lst ds)) :: r)) (μ.set k .dead)) : Ws (dsFzM 1) (s0 :: some (.sh (.mref k)) :: r) μ QO := ws_fzM rfl h1 h
theorem yz3 {k : Nat} {ds : List D} (h1 : μ[k]? = some (.lst ds)) (h : QO (.nx (s0 :: s1 :: s2 :: some (.sh (.lst ds)) :: r)) (μ.set k .dead)) : Ws (dsFzM 3) (s0 :: s1 :: s2 :: some (.sh (.mref k)) :: r) μ QO := ws_fzM rfl h1 h
theorem yz4 {k : Nat} {ds : List D} (h1 : μ[k]? = some (.lst ds)) (h : QO (.nx (s0 :: s1 :: s2 :: s3 :: some (.sh (.lst ds)) :: r)) (μ.set k .dead)) : Ws (dsFzM 4) (s0 :: s1 :: s2 :: s3 :: some (.sh (.mref k)) :: r) μ QO := ws_fzM rfl h1 h
theorem yz5 {k : Nat} {ds : List D} (h1 : μ[k]? = some (.lst ds)) (h : QO (.nx (s0 :: s1 :: s2 :: s3 :: s4 :: some (.sh (.lst ds)) :: r)) (μ.set k .dead)) : Ws (dsFzM 5) (s0 :: s1 :: s2 :: s3 :: s4 :: some (.sh (.mref k)) :: r) μ QO := ws_fzM rfl h1 h
theorem yo2 (h : We tl (s0 :: s1 :: s2 :: r) μ fun ds μ1 => QO (.nx (s0 :: s1 :: some (.ol ds) :: r)) μ1) : Ws (dsSetO 2 tl) (s0 :: s1 :: s2 :: r) μ QO := ws_setO h
theorem ym2 {ds : List D} (h : QO (.nx (s0 :: s1 :: some (.sh (.mref μ.length)) :: r)) (μ ++ [.lst ds])) : Ws (dsAmb 2) (s0 :: s1 :: some (.ol ds) :: r) μ QO := ws_ambO rfl h
end
section
variable {ρ : Rho} {μ : Mu} {Q : D → Mu → Prop} {QO : Out → Mu → Prop} {QL : List D → Mu → Prop} {QB : Bool → Mu → Prop} {d : D} {t u v w' : TD} {tl : TL} {a b : Int} {x y : Str} {P : D → Prop} {ds : List D}
theorem yn0 {u : TO'} (h : Ws u ρ μ QO) : thn u QO (.nx ρ) μ := h
theorem yn1 {u : TO'} (h : QO (.rt d) μ) : thn u QO (.rt d) μ := h
theorem yn2 {u : TO'} (h : QO (.bk ρ) μ) : thn u QO (.bk ρ) μ := h
theorem yn3 {u : TO'} (h : QO (.ct ρ) μ) : thn u QO (.ct ρ) μ := h
theorem yn4 {I : Rho → Mu → Prop} (h : I ρ μ) : turn I QO (.nx ρ) μ := h
theorem yn5 {I : Rho → Mu → Prop} (h : I ρ μ) : turn I QO (.ct ρ) μ := h
theorem yn6 {I : Rho → Mu → Prop} (h : QO (.rt d) μ) : turn I QO (.rt d) μ := h
theorem yn7 {I : Rho → Mu → Prop} (h : QO (.nx ρ) μ) : turn I QO (.bk ρ) μ := h
theorem yn8 (h : Q d μ) : ends Q (.rt d) μ := h
theorem yn9 (h : Q .non μ) : ends Q (.nx ρ) μ := h
theorem ye0 (h : P (.int (a + b))) : ∃ z, gAdd (.int a) (.int b) = some z ∧ P z := ⟨_, rfl, h⟩
theorem ye1 (h : P (.int (a - b))) : ∃ z, gSub (.int a) (.int b) = some z ∧ P z := ⟨_, rfl, h⟩
theorem ye2 (h : P (.bl (decide (a < b)))) : ∃ z, gLt (.int a) (.int b) = some z ∧ P z := ⟨_, rfl, h⟩
theorem ye3 (h : P (.bl (decide (a ≤ b)))) : ∃ z, gLe (.int a) (.int b) = some z ∧ P z := ⟨_, rfl, h⟩
theorem ye4 (h : P (.bl (decide (b < a)))) : ∃ z, gGt (.int a) (.int b) = some z ∧ P z := ⟨_, rfl, h⟩
theorem ye5 (h : P (.bl (decide (b ≤ a)))) : ∃ z, gGe (.int a) (.int b) = some z ∧ P z := ⟨_, rfl, h⟩
theorem ye6 (h : P (.bl (decide (a = b)))) : ∃ z, gEq (.int a) (.int b) = some z ∧ P z := ⟨_, gEq_int, h⟩
theorem ye7 (h : P (.bl (decide (x = y)))) : ∃ z, gEq (.str x) (.str y) = some z ∧ P z := ⟨_, gEq_str, h⟩
theorem ye8 (h : P (.bl (!decide (a = b)))) : ∃ z, gNe (.int a) (.int b) = some z ∧ P z := ⟨_, gNe_int, h⟩
theorem ye9 (h : P (.bl (!decide (x = y)))) : ∃ z, gNe (.str x) (.str y) = some z ∧ P z := ⟨_, gNe_str, h⟩
theorem ye10 (h : P (.int (Builtin.bitAnd a b))) : ∃ z, gBAnd (.int a) (.int b) = some z ∧ P z := ⟨_, rfl, h⟩
theorem ye11 (hb : 0 < b) (h : P (.int (a % b))) : ∃ z, gMod (.int a) (.int b) = some z ∧ P z := ⟨_, gMod_pos hb, h⟩
theorem ye12 (hb : CMul a b) (h : P (.int (a * b))) : ∃ z, gMul (.int a) (.int b) = some z ∧ P z := ⟨_, gMul_int hb, h⟩
theorem ye13 (hb : CDiv a b) (h : P (.int (a / b))) : ∃ z, gDiv (.int a) (.int b) = some z ∧ P z := ⟨_, gDiv_int hb, h⟩
theorem ye14 (hb : CPow a b) (h : P (.int (a * 2 ^ b.toNat))) : ∃ z, gShl (.int a) (.int b) = some z ∧ P z := ⟨_, gShl_int hb, h⟩
theorem ye15 (hb : 0 ≤ b) (h : P (.int (a / 2 ^ b.toNat))) : ∃ z, gShr (.int a) (.int b) = some z ∧ P z := ⟨_, if_pos hb, h⟩
theorem ye16 (hb : x.length + y.length ≤ sizeLine) (h : P (.str (x ++ y))) : ∃ z, gAdd (.str x) (.str y) = some z ∧ P z := ⟨_, if_pos hb, h⟩
theorem ye17 (h : P (.int (Txt.count x y))) : ∃ z, gCount (.str x) (.str y) = some z ∧ P z := ⟨_, rfl, h⟩
theorem ye18 {c : Nat} (h : P (.bl (decide (c ∈ y.cps.toList)))) : ∃ z, gInS false (.str ⟨#[c]⟩) (.str y) = some z ∧ P z := ⟨_, rfl, h⟩
theorem ye19 {c : Nat} (h : P (.bl (!decide (c ∈ y.cps.toList)))) : ∃ z, gInS true (.str ⟨#[c]⟩) (.str y) = some z ∧ P z := ⟨_, rfl, h⟩
theorem ye20 (hb : CPow a b) (h : P (.int (a ^ b.toNat))) : ∃ z, gPow (.int a) (.int b) = some z ∧ P z := ⟨_, if_pos hb, h⟩
theorem ye21 (hb : -1000 ≤ a ∧ a ≤ 1000 ∧ x.length ≤ 1000 ∧ (repS x a).length ≤ sizeLine) (h : P (.str (repS x a))) : ∃ z, gMulS (.str x) (.int a) = some z ∧ P z := ⟨_, if_pos hb, h⟩
theorem yi0  (h : P (.bl false)) : ∃ z, gIsN (.int a) .non = some z ∧ P z := ⟨_, rfl, h⟩
theorem yj0  (h : P (.bl true)) : ∃ z, gNotN (.int a) .non = some z ∧ P z := ⟨_, rfl, h⟩
theorem yi1  (h : P (.bl false)) : ∃ z, gIsN (.str x) .non = some z ∧ P z := ⟨_, rfl, h⟩
theorem yj1  (h : P (.bl true)) : ∃ z, gNotN (.str x) .non = some z ∧ P z := ⟨_, rfl, h⟩
theorem yi2  (h : P (.bl false)) : ∃ z, gIsN (.lst ds) .non = some z ∧ P z := ⟨_, rfl, h⟩
theorem yj2  (h : P (.bl true)) : ∃ z, gNotN (.lst ds) .non = some z ∧ P z := ⟨_, rfl, h⟩
theorem yi3  (h : P (.bl false)) : ∃ z, gIsN (.tup ds) .non = some z ∧ P z := ⟨_, rfl, h⟩
theorem yj3  (h : P (.bl true)) : ∃ z, gNotN (.tup ds) .non = some z ∧ P z := ⟨_, rfl, h⟩
theorem yi4 {q : Bool} (h : P (.bl false)) : ∃ z, gIsN (.bl q) .non = some z ∧ P z := ⟨_, rfl, h⟩
theorem yj4 {q : Bool} (h : P (.bl true)) : ∃ z, gNotN (.bl q) .non = some z ∧ P z := ⟨_, rfl, h⟩
theorem yi5 (h : P (.bl true)) : ∃ z, gIsN .non .non = some z ∧ P z := ⟨_, rfl, h⟩
theorem yj5 (h : P (.bl false)) : ∃ z, gNotN .non .non = some z ∧ P z := ⟨_, rfl, h⟩
theorem yx0 {P : Bool → Prop} {b : Bool} (h : P b) : ∃ c, D.bl b = .bl c ∧ P c := ⟨b, rfl, h⟩
theorem yx1 {P : Int → Prop} (h : P b) : ∃ c, D.int b = .int c ∧ P c := ⟨b, rfl, h⟩
theorem yx2 {P : Str → Prop} (h : P x) : ∃ c, D.str x = .str c ∧ P c := ⟨x, rfl, h⟩
theorem yx3 {P : Str → Prop} (hl : x.length ≤ sizeLine) (h : P x) : ∃ c, D.str x = .str c ∧ c.length ≤ sizeLine ∧ P c := ⟨x, rfl, hl, h⟩
theorem yx4 {P : Bool → Prop} {b : Bool} (h : P b) : ∃ c, (D.bl b).truth = some c ∧ P c := ⟨b, rfl, h⟩
theorem yx5 {P : Int → Int → Prop} (h : P a b) : ∃ i j, D.int a = .int i ∧ D.int b = .int j ∧ P i j := ⟨a, b, rfl, rfl, h⟩
theorem yq0 {P : List D → Prop} (h : P ds) : ∃ es, qv (.val (.lst ds)) ρ μ = some es ∧ P es := ⟨_, rfl, h⟩
theorem yy0 {P : List D → Prop} (h : P ds) : ∃ es, (D.lst ds).items = some es ∧ P es := ⟨_, rfl, h⟩
theorem yk0 {i : Int} (h : atI ds i = some d) (q : P d) : ∃ j es e, D.int i = .int j ∧ qv (.val (.lst ds)) ρ μ = some es ∧ atI es j = some e ∧ P e := ⟨_, _, _, rfl, rfl, h, q⟩
theorem yq1 {P : List D → Prop} (h : P ds) : ∃ es, qv (.val (.tup ds)) ρ μ = some es ∧ P es := ⟨_, rfl, h⟩
theorem yy1 {P : List D → Prop} (h : P ds) : ∃ es, (D.tup ds).items = some es ∧ P es := ⟨_, rfl, h⟩
theorem yk1 {i : Int} (h : atI ds i = some d) (q : P d) : ∃ j es e, D.int i = .int j ∧ qv (.val (.tup ds)) ρ μ = some es ∧ atI es j = some e ∧ P e := ⟨_, _, _, rfl, rfl, h, q⟩
theorem yq2 {P : List D → Prop} (h : P ds) : ∃ es, qv (.val (.rd ds)) ρ μ = some es ∧ P es := ⟨_, rfl, h⟩
theorem yy2 {P : List D → Prop} (h : P ds) : ∃ es, (D.rd ds).items = some es ∧ P es := ⟨_, rfl, h⟩
theorem yk2 {i : Int} (h : atI ds i = some d) (q : P d) : ∃ j es e, D.int i = .int j ∧ qv (.val (.rd ds)) ρ μ = some es ∧ atI es j = some e ∧ P e := ⟨_, _, _, rfl, rfl, h, q⟩
theorem yq3 {P : List D → Prop} (h : P ds) : ∃ es, qv (.val (.kt ds)) ρ μ = some es ∧ P es := ⟨_, rfl, h⟩
theorem yy3 {P : List D → Prop} (h : P ds) : ∃ es, (D.kt ds).items = some es ∧ P es := ⟨_, rfl, h⟩
theorem yk3 {i : Int} (h : atI ds i = some d) (q : P d) : ∃ j es e, D.int i = .int j ∧ qv (.val (.kt ds)) ρ μ = some es ∧ atI es j = some e ∧ P e := ⟨_, _, _, rfl, rfl, h, q⟩
theorem yq4 {P : List D → Prop} {k : Nat} (hk : μ[k]? = some (.lst ds)) (h : P ds) : ∃ es, qv (.val (.mref k)) ρ μ = some es ∧ P es := ⟨ds, by simp [hk], h⟩
theorem yk4 {k : Nat} {i : Int} (hk : μ[k]? = some (.lst ds)) (h : atI ds i = some d) (q : P d) : ∃ j es e, D.int i = .int j ∧ qv (.val (.mref k)) ρ μ = some es ∧ atI es j = some e ∧ P e := ⟨_, ds, _, rfl, by simp [hk], h, q⟩
theorem yq5 {P : List D → Prop} (h : P ds) : ∃ es, qvl (.val (.lst ds)) ρ μ = some es ∧ P es := ⟨_, rfl, h⟩
theorem yq6 {P : List D → Prop} {k : Nat} (hk : μ[k]? = some (.lst ds)) (h : P ds) : ∃ es, qvl (.val (.mref k)) ρ μ = some es ∧ P es := ⟨ds, by have e : qvl (.val (.mref k)) ρ μ = qv (.val (.mref k)) ρ μ := rfl; rw [e]; simp [hk], h⟩
theorem yq7 {P : List D → Prop} {es : List D} (hl : ds.length + es.length ≤ sizeLine) (h : P (ds ++ es)) : ∃ ds' es', qvl (.val (.lst ds)) ρ μ = some ds' ∧ qvl (.val (.lst es)) ρ μ = some es' ∧ ds'.length + es'.length ≤ sizeLine ∧ P (ds' ++ es') := ⟨_, _, rfl, rfl, hl, h⟩
theorem yc1 {F : List D → M D} (h : We t ρ μ fun x0 μ1 => Wf' F [x0] μ1 Q) : We (dCall F 1 (dCons t (dNil))) ρ μ Q := we_call (we_cons (h.mono fun _ _ h => we_nil ⟨rfl, h⟩))
theorem yc2 {F : List D → M D} (h : We t ρ μ fun x0 μ1 => We u ρ μ1 fun x1 μ2 => Wf' F [x0, x1] μ2 Q) : We (dCall F 2 (dCons t (dCons u (dNil)))) ρ μ Q := we_call (we_cons (h.mono fun _ _ h => we_cons (h.mono fun _ _ h => we_nil ⟨rfl, h⟩)))
theorem yc3 {F : List D → M D} (h : We t ρ μ fun x0 μ1 => We u ρ μ1 fun x1 μ2 => We v ρ μ2 fun x2 μ3 => Wf' F [x0, x1, x2] μ3 Q) : We (dCall F 3 (dCons t (dCons u (dCons v (dNil))))) ρ μ Q := we_call (we_cons (h.mono fun _ _ h => we_cons (h.mono fun _ _ h => we_cons (h.mono fun _ _ h => we_nil ⟨rfl, h⟩))))
theorem yc4 {F : List D → M D} (h : We t ρ μ fun x0 μ1 => We u ρ μ1 fun x1 μ2 => We v ρ μ2 fun x2 μ3 => We w' ρ μ3 fun x3 μ4 => Wf' F [x0, x1, x2, x3] μ4 Q) : We (dCall F 4 (dCons t (dCons u (dCons v (dCons w' (dNil)))))) ρ μ Q := we_call (we_cons (h.mono fun _ _ h => we_cons (h.mono fun _ _ h => we_cons (h.mono fun _ _ h => we_cons (h.mono fun _ _ h => we_nil ⟨rfl, h⟩)))))
theorem yl0 (h : QL [] μ) : We (dLst (dNil)) ρ μ QL := we_lst (we_nil ⟨by simp [sizeLine], h⟩)
theorem yl1 {t0 : TD} (h : We t0 ρ μ fun x0 μ1 => QL [x0] μ1) : We (dLst (dCons t0 (dNil))) ρ μ QL := we_lst (we_cons (h.mono fun _ _ h => we_nil ⟨by simp [sizeLine], h⟩))
theorem yp1 {t0 : TD} (h : We t0 ρ μ fun x0 μ1 => Q (.tup [x0]) μ1) : We (dTup (dCons t0 (dNil))) ρ μ Q := we_tup (we_cons (h.mono fun _ _ h => we_nil ⟨by simp [sizeLine], h⟩))
theorem yl2 {t0 t1 : TD} (h : We t0 ρ μ fun x0 μ1 => We t1 ρ μ1 fun x1 μ2 => QL [x0, x1] μ2) : We (dLst (dCons t0 (dCons t1 (dNil)))) ρ μ QL := we_lst (we_cons (h.mono fun _ _ h => we_cons (h.mono fun _ _ h => we_nil ⟨by simp [sizeLine], h⟩)))
theorem yp2 {t0 t1 : TD} (h : We t0 ρ μ fun x0 μ1 => We t1 ρ μ1 fun x1 μ2 => Q (.tup [x0, x1]) μ2) : We (dTup (dCons t0 (dCons t1 (dNil)))) ρ μ Q := we_tup (we_cons (h.mono fun _ _ h => we_cons (h.mono fun _ _ h => we_nil ⟨by simp [sizeLine], h⟩)))
theorem yl3 {t0 t1 t2 : TD} (h : We t0 ρ μ fun x0 μ1 => We t1 ρ μ1 fun x1 μ2 => We t2 ρ μ2 fun x2 μ3 => QL [x0, x1, x2] μ3) : We (dLst (dCons t0 (dCons t1 (dCons t2 (dNil))))) ρ μ QL := we_lst (we_cons (h.mono fun _ _ h => we_cons (h.mono fun _ _ h => we_cons (h.mono fun _ _ h => we_nil ⟨by simp [sizeLine], h⟩))))
theorem yp3 {t0 t1 t2 : TD} (h : We t0 ρ μ fun x0 μ1 => We t1 ρ μ1 fun x1 μ2 => We t2 ρ μ2 fun x2 μ3 => Q (.tup [x0, x1, x2]) μ3) : We (dTup (dCons t0 (dCons t1 (dCons t2 (dNil))))) ρ μ Q := we_tup (we_cons (h.mono fun _ _ h => we_cons (h.mono fun _ _ h => we_cons (h.mono fun _ _ h => we_nil ⟨by simp [sizeLine], h⟩))))
theorem yl4 {t0 t1 t2 t3 : TD} (h : We t0 ρ μ fun x0 μ1 => We t1 ρ μ1 fun x1 μ2 => We t2 ρ μ2 fun x2 μ3 => We t3 ρ μ3 fun x3 μ4 => QL [x0, x1, x2, x3] μ4) : We (dLst (dCons t0 (dCons t1 (dCons t2 (dCons t3 (dNil)))))) ρ μ QL := we_lst (we_cons (h.mono fun _ _ h => we_cons (h.mono fun _ _ h => we_cons (h.mono fun _ _ h => we_cons (h.mono fun _ _ h => we_nil ⟨by simp [sizeLine], h⟩)))))
theorem yp4 {t0 t1 t2 t3 : TD} (h : We t0 ρ μ fun x0 μ1 => We t1 ρ μ1 fun x1 μ2 => We t2 ρ μ2 fun x2 μ3 => We t3 ρ μ3 fun x3 μ4 => Q (.tup [x0, x1, x2, x3]) μ4) : We (dTup (dCons t0 (dCons t1 (dCons t2 (dCons t3 (dNil)))))) ρ μ Q := we_tup (we_cons (h.mono fun _ _ h => we_cons (h.mono fun _ _ h => we_cons (h.mono fun _ _ h => we_cons (h.mono fun _ _ h => we_nil ⟨by simp [sizeLine], h⟩)))))
theorem yl5 {t0 t1 t2 t3 t4 : TD} (h : We t0 ρ μ fun x0 μ1 => We t1 ρ μ1 fun x1 μ2 => We t2 ρ μ2 fun x2 μ3 => We t3 ρ μ3 fun x3 μ4 => We t4 ρ μ4 fun x4 μ5 => QL [x0, x1, x2, x3, x4] μ5) : We (dLst (dCons t0 (dCons t1 (dCons t2 (dCons t3 (dCons t4 (dNil))))))) ρ μ QL := we_lst (we_cons (h.mono fun _ _ h => we_cons (h.mono fun _ _ h => we_cons (h.mono fun _ _ h => we_cons (h.mono fun _ _ h => we_cons (h.mono fun _ _ h => we_nil ⟨by simp [sizeLine], h⟩))))))
theorem yp5 {t0 t1 t2 t3 t4 : TD} (h : We t0 ρ μ fun x0 μ1 => We t1 ρ μ1 fun x1 μ2 => We t2 ρ μ2 fun x2 μ3 => We t3 ρ μ3 fun x3 μ4 => We t4 ρ μ4 fun x4 μ5 => Q (.tup [x0, x1, x2, x3, x4]) μ5) : We (dTup (dCons t0 (dCons t1 (dCons t2 (dCons t3 (dCons t4 (dNil))))))) ρ μ Q := we_tup (we_cons (h.mono fun _ _ h => we_cons (h.mono fun _ _ h => we_cons (h.mono fun _ _ h => we_cons (h.mono fun _ _ h => we_cons (h.mono fun _ _ h => we_nil ⟨by simp [sizeLine], h⟩))))))
theorem yl6 {t0 t1 t2 t3 t4 t5 : TD} (h : We t0 ρ μ fun x0 μ1 => We t1 ρ μ1 fun x1 μ2 => We t2 ρ μ2 fun x2 μ3 => We t3 ρ μ3 fun x3 μ4 => We t4 ρ μ4 fun x4 μ5 => We t5 ρ μ5 fun x5 μ6 => QL [x0, x1, x2, x3, x4, x5] μ6) : We (dLst (dCons t0 (dCons t1 (dCons t2 (dCons t3 (dCons t4 (dCons t5 (dNil)))))))) ρ μ QL := we_lst (we_cons (h.mono fun _ _ h => we_cons (h.mono fun _ _ h => we_cons (h.mono fun _ _ h => we_cons (h.mono fun _ _ h => we_cons (h.mono fun _ _ h => we_cons (h.mono fun _ _ h => we_nil ⟨by simp [sizeLine], h⟩)))))))
theorem yp6 {t0 t1 t2 t3 t4 t5 : TD} (h : We t0 ρ μ fun x0 μ1 => We t1 ρ μ1 fun x1 μ2 => We t2 ρ μ2 fun x2 μ3 => We t3 ρ μ3 fun x3 μ4 => We t4 ρ μ4 fun x4 μ5 => We t5 ρ μ5 fun x5 μ6 => Q (.tup [x0, x1, x2, x3, x4, x5]) μ6) : We (dTup (dCons t0 (dCons t1 (dCons t2 (dCons t3 (dCons t4 (dCons t5 (dNil)))))))) ρ μ Q := we_tup (we_cons (h.mono fun _ _ h => we_cons (h.mono fun _ _ h => we_cons (h.mono fun _ _ h => we_cons (h.mono fun _ _ h => we_cons (h.mono fun _ _ h => we_cons (h.mono fun _ _ h => we_nil ⟨by simp [sizeLine], h⟩)))))))
def lenP (d : D) (ρ : Rho) (μ : Mu) (Q : D → Mu → Prop) : Prop := (∃ z, d = .str z ∧ z.length ≤ sizeLine ∧ Q (.int z.length) μ) ∨ ∃ ds, qv (.val d) ρ μ = some ds ∧ Q (.int ds.length) μ
theorem yu0 (h : We t ρ μ fun d μ1 => lenP d ρ μ1 Q) : We (dLen (qVal t)) ρ μ Q := by
  obtain ⟨d, μ1, h1, h2⟩ := h
  rcases h2 with h2 | h2
  · exact we_lenS ⟨d, μ1, h1, h2⟩
  · exact we_lenL (we_q ⟨d, μ1, h1, h2⟩)
theorem yu1 (hl : x.length ≤ sizeLine) (h : Q (.int x.length) μ) : lenP (.str x) ρ μ Q := .inl ⟨x, rfl, hl, h⟩
theorem yu2 (h : Q (.int ds.length) μ) : lenP (.lst ds) ρ μ Q := .inr ⟨ds, rfl, h⟩
theorem yu3 (h : Q (.int ds.length) μ) : lenP (.tup ds) ρ μ Q := .inr ⟨ds, rfl, h⟩
theorem yu4 (h : Q (.int ds.length) μ) : lenP (.rd ds) ρ μ Q := .inr ⟨ds, rfl, h⟩
theorem yu5 (h : Q (.int ds.length) μ) : lenP (.kt ds) ρ μ Q := .inr ⟨ds, rfl, h⟩
theorem yu6 {k : Nat} (hk : μ[k]? = some (.lst ds)) (h : Q (.int ds.length) μ) : lenP (.mref k) ρ μ Q := .inr ⟨ds, by simp [hk], h⟩
theorem yh0 {s : List D → Rho → Option Rho} {n : Nat} {P : Rho → Prop} (hn : ds.length = n) (h : ∃ ρ1, s ds ρ = some ρ1 ∧ P ρ1) : ∃ ρ1, gtTup n s (.tup ds) ρ = some ρ1 ∧ P ρ1 := by obtain ⟨ρ1, h1, h2⟩ := h; exact ⟨ρ1, by subst hn; show (if _ then _ else _) = _; rw [if_pos rfl]; exact h1, h2⟩
theorem yh1 {g : D → Rho → Option Rho} {s : List D → Rho → Option Rho} {P : Rho → Prop} (h : ∃ ρ1, g d ρ = some ρ1 ∧ ∃ ρ2, s ds ρ1 = some ρ2 ∧ P ρ2) : ∃ ρ1, gtCons g s (d :: ds) ρ = some ρ1 ∧ P ρ1 := by obtain ⟨ρ1, h1, ρ2, h2, h3⟩ := h; exact ⟨ρ2, by show (match g d ρ with | none => none | some ρ' => s ds ρ') = _; rw [h1]; exact h2, h3⟩
theorem yh2 {P : Rho → Prop} (h : P ρ) : ∃ ρ1, gtNil [] ρ = some ρ1 ∧ P ρ1 := ⟨ρ, rfl, h⟩
theorem yf0 (h : QB true μ) : We dYes ρ μ QB := ⟨true, μ, rfl, h⟩
theorem yw0 {A B : Prop} (h : B) : (false = true → A) ∧ (false = false → B) := ⟨fun e => (by cases e), fun _ => h⟩
theorem yw1 {A B : Prop} (h : A) : (true = true → A) ∧ (true = false → B) := ⟨fun _ => h, fun e => (by cases e)⟩
theorem yw2 {A B : Prop} (h : B) : ((!true) = true → A) ∧ ((!true) = false → B) := ⟨fun e => (by cases e), fun _ => h⟩
theorem yw3 {A B : Prop} (h : A) : ((!false) = true → A) ∧ ((!false) = false → B) := ⟨fun _ => h, fun e => (by cases e)⟩
def app2 (k : Nat) (ρ : Rho) (QO : Out → Mu → Prop) (y : D) (μ : Mu) : Prop := ∃ ds, μ[k]? = some (.lst ds) ∧ ds.length < sizeLine ∧ QO (.nx ρ) (μ.set k (.lst (ds ++ [y])))
def appP (u : TD) (ρ : Rho) (QO : Out → Mu → Prop) (d : D) (μ : Mu) : Prop := ∃ k ds0, d = .mref k ∧ μ[k]? = some (.lst ds0) ∧ We u ρ μ (app2 k ρ QO)
theorem yA0 (h : We t ρ μ (appP u ρ QO)) : Ws (dsAppM t u) ρ μ QO := by
  obtain ⟨d, μ1, h1, k, ds0, rfl, h2, h3⟩ := h
  exact ws_app (k := k) (ds0 := ds0) ⟨_, μ1, h1, rfl, h2, h3⟩
theorem yA1 {k : Nat} (hk : μ[k]? = some (.lst ds)) (h : We u ρ μ (app2 k ρ QO)) : appP u ρ QO (.mref k) μ := ⟨k, ds, rfl, hk, h⟩
theorem yA2 {k : Nat} {y : D} (hk : μ[k]? = some (.lst ds)) (hl : ds.length < sizeLine) (h : QO (.nx ρ) (μ.set k (.lst (ds ++ [y])))) : app2 k ρ QO y μ := ⟨ds, hk, hl, h⟩
def ext2 (k : Nat) (ρ : Rho) (QO : Out → Mu → Prop) (ys : List D) (μ : Mu) : Prop := ∃ ds, μ[k]? = some (.lst ds) ∧ ds.length + ys.length ≤ sizeLine ∧ QO (.nx ρ) (μ.set k (.lst (ds ++ ys)))
def extP (u : TL) (ρ : Rho) (QO : Out → Mu → Prop) (d : D) (μ : Mu) : Prop := ∃ k ds0, d = .mref k ∧ μ[k]? = some (.lst ds0) ∧ We u ρ μ (ext2 k ρ QO)
theorem yB0 {u : TL} (h : We t ρ μ (extP u ρ QO)) : Ws (dsExtM t u) ρ μ QO := by
  obtain ⟨d, μ1, h1, k, ds0, rfl, h2, h3⟩ := h
  exact ws_ext (k := k) (ds0 := ds0) ⟨_, μ1, h1, rfl, h2, h3⟩
theorem yB1 {k : Nat} {u : TL} (hk : μ[k]? = some (.lst ds)) (h : We u ρ μ (ext2 k ρ QO)) : extP u ρ QO (.mref k) μ := ⟨k, ds, rfl, hk, h⟩
theorem yB2 {k : Nat} {ys : List D} (hk : μ[k]? = some (.lst ds)) (hl : ds.length + ys.length ≤ sizeLine) (h : QO (.nx ρ) (μ.set k (.lst (ds ++ ys)))) : ext2 k ρ QO ys μ := ⟨ds, hk, hl, h⟩
theorem yC0 {k : Nat} {z : Int} {j : Nat} {y : D} {Pm : Mu → Prop} (hk : μ[k]? = some (.lst ds)) (hj : ixN ds.length z = some j) (h : Pm (μ.set k (.lst (ds.set j y)))) : ∃ k' z' ds' j', D.mref k = .mref k' ∧ D.int z = .int z' ∧ μ[k']? = some (.lst ds') ∧ ixN ds'.length z' = some j' ∧ Pm (μ.set k' (.lst (ds'.set j' y))) := ⟨k, z, ds, j, rfl, rfl, hk, hj, h⟩
def rngP (d : D) (μ : Mu) (QL : List D → Mu → Prop) : Prop := ∃ m : Nat, d = .int m ∧ m < 1000000 ∧ QL (rangeD 0 m) μ
theorem yr0 (h : We t ρ μ fun d μ1 => rngP d μ1 QL) : We (dRng1 t) ρ μ QL := by
  obtain ⟨d, μ1, h1, m, h2, h3, h4⟩ := h
  exact we_rng1 (m := m) ⟨d, μ1, h1, h2, h3, h4⟩
theorem yr1 {m : Nat} (hm : m < 1000000) (h : QL (rangeD 0 m) μ) : rngP (.int (m : Int)) μ QL := ⟨m, rfl, hm, h⟩
theorem yr2 (h0 : 0 ≤ a) (hm : a < 1000000) (h : QL (rangeD 0 a.toNat) μ) : rngP (.int a) μ QL := ⟨a.toNat, by rw [Int.toNat_of_nonneg h0], by omega, h⟩
end
end DL

local macro_rules
  | `(tactic| exists 1, $ts,*) => `(tactic| with_reducible apply_rules (transparency := .reducible) (maxDepth := 500) [$[$ts:term],*, DL.ws_seq, DL.ws_ret, DL.ws_retN, DL.ws_next, DL.ws_break, DL.ws_cont, DL.ws_if, DL.ws_setIx, DL.we_C, DL.we_bin, DL.we_test, DL.we_q, DL.we_ix, DL.we_int, DL.we_nil, DL.we_poN, DL.yv0, DL.yv1, DL.yv2, DL.yt2, DL.yn0, DL.yn1, DL.yn2, DL.yn3, DL.yn4, DL.yn5, DL.yn6, DL.yn7, DL.yn8, DL.yn9, DL.ye0, DL.ye5, DL.ye11, DL.ye16, DL.yx0, DL.yx1, DL.yx2, DL.yx3, DL.yx4, DL.yx5, DL.yq0, DL.yy0, DL.yk0, DL.yq1, DL.yy1, DL.yk1, DL.yq2, DL.yy2, DL.yk2, DL.yq3, DL.yy3, DL.yk3, DL.yq4, DL.yk4, DL.yq5, DL.yq6, DL.yq7, DL.yu0, DL.yu1, DL.yu2, DL.yu3, DL.yu4, DL.yu5, DL.yu6, DL.yh0, DL.yh1, DL.yh2, DL.yf0, DL.yw0, DL.yw1, DL.yw2, DL.yw3, DL.yA1, DL.yA2, DL.yB1, DL.yB2, DL.yC0, DL.yr1, DL.yr2])
  | `(tactic| exists 2, $ts,*) => `(tactic| with_reducible apply_rules (transparency := .reducible) (maxDepth := 500) [$[$ts:term],*, DL.ws_seq, DL.ws_retN, DL.ws_next, DL.ws_break, DL.ws_cont, DL.ws_if, DL.ws_for, DL.we_C, DL.we_bin, DL.we_test, DL.we_q, DL.we_int, DL.we_nil, DL.we_poN, DL.yv1, DL.yv2, DL.yv3, DL.yv4, DL.yv5, DL.yv6, DL.yt3, DL.yt6, DL.ygn5, DL.yn0, DL.yn1, DL.yn2, DL.yn3, DL.yn4, DL.yn5, DL.yn6, DL.yn7, DL.yn8, DL.yn9, DL.ye0, DL.ye4, DL.ye5, DL.ye11, DL.ye12, DL.ye13, DL.ye16, DL.ye20, DL.yx0, DL.yx1, DL.yx2, DL.yx3, DL.yx4, DL.yx5, DL.yq0, DL.yy0, DL.yk0, DL.yq1, DL.yy1, DL.yk1, DL.yq2, DL.yy2, DL.yk2, DL.yq3, DL.yy3, DL.yk3, DL.yq4, DL.yk4, DL.yq5, DL.yq6, DL.yq7, DL.yu1, DL.yu2, DL.yu3, DL.yu4, DL.yu5, DL.yu6, DL.yh0, DL.yh1, DL.yh2, DL.yf0, DL.yw0, DL.yw1, DL.yw2, DL.yw3, DL.yA0, DL.yA1, DL.yA2, DL.yB1, DL.yB2, DL.yC0, DL.yr0, DL.yr1, DL.yr2])
  | `(tactic| exists 3, $ts,*) => `(tactic| with_reducible apply_rules (transparency := .reducible) (maxDepth := 500) [$[$ts:term],*, DL.ws_seq, DL.ws_ret, DL.ws_retN, DL.ws_next, DL.ws_break, DL.ws_cont, DL.ws_if, DL.ws_for, DL.we_C, DL.we_bin, DL.we_test, DL.we_q, DL.we_ix, DL.we_int, DL.we_neg, DL.we_min2, DL.we_nil, DL.we_cons, DL.we_amb, DL.we_poN, DL.yv0, DL.yv1, DL.yv2, DL.yv3, DL.yv4, DL.yv5, DL.yv6, DL.yt1, DL.yt3, DL.yt4, DL.yt6, DL.ygn2, DL.ygn5, DL.yz1, DL.yn0, DL.yn1, DL.yn2, DL.yn3, DL.yn4, DL.yn5, DL.yn6, DL.yn7, DL.yn8, DL.yn9, DL.ye0, DL.ye2, DL.ye4, DL.ye5, DL.ye11, DL.ye12, DL.ye13, DL.ye16, DL.ye20, DL.yx0, DL.yx1, DL.yx2, DL.yx3, DL.yx4, DL.yx5, DL.yq0, DL.yy0, DL.yk0, DL.yq1, DL.yy1, DL.yk1, DL.yq2, DL.yy2, DL.yk2, DL.yq3, DL.yy3, DL.yk3, DL.yq4, DL.yk4, DL.yq5, DL.yq6, DL.yq7, DL.yl0, DL.yl1, DL.yl2, DL.yl3, DL.yl4, DL.yl5, DL.yl6, DL.yu0, DL.yu1, DL.yu2, DL.yu3, DL.yu4, DL.yu5, DL.yu6, DL.yh0, DL.yh1, DL.yh2, DL.yf0, DL.yw0, DL.yw1, DL.yw2, DL.yw3, DL.yA0, DL.yA1, DL.yA2, DL.yB1, DL.yB2, DL.yC0, DL.yr0, DL.yr1, DL.yr2])
  | `(tactic| exists 4, $ts,*) => `(tactic| with_reducible apply_rules (transparency := .reducible) (maxDepth := 500) [$[$ts:term],*, DL.ws_seq, DL.ws_ret, DL.ws_retN, DL.ws_next, DL.ws_break, DL.ws_cont, DL.we_C, DL.we_bin, DL.we_test, DL.we_q, DL.we_nil, DL.we_cons, DL.we_fz, DL.we_tupOf, DL.we_poN, DL.we_iterS, DL.we_m1, DL.we_join, DL.yv0, DL.yv1, DL.yv2, DL.yt1, DL.ygn2, DL.yn0, DL.yn1, DL.yn2, DL.yn3, DL.yn4, DL.yn5, DL.yn6, DL.yn7, DL.yn8, DL.yn9, DL.ye17, DL.ye18, DL.ye19, DL.yx0, DL.yx1, DL.yx2, DL.yx3, DL.yx4, DL.yx5, DL.yq0, DL.yy0, DL.yk0, DL.yq1, DL.yy1, DL.yk1, DL.yq2, DL.yy2, DL.yk2, DL.yq3, DL.yy3, DL.yk3, DL.yq4, DL.yk4, DL.yq5, DL.yq6, DL.yq7, DL.yp1, DL.yp2, DL.yp3, DL.yp4, DL.yp5, DL.yp6, DL.yu1, DL.yu2, DL.yu3, DL.yu4, DL.yu5, DL.yu6, DL.yh0, DL.yh1, DL.yh2, DL.yf0, DL.yw0, DL.yw1, DL.yw2, DL.yw3, DL.yA1, DL.yA2, DL.yB1, DL.yB2, DL.yC0, DL.yr1, DL.yr2])
  | `(tactic| exists 5, $ts,*) => `(tactic| with_reducible apply_rules (transparency := .reducible) (maxDepth := 500) [$[$ts:term],*, DL.ws_ret, DL.ws_retN, DL.ws_next, DL.ws_break, DL.ws_cont, DL.we_C, DL.we_andV, DL.we_notV, DL.we_q, DL.we_nil, DL.we_poN, DL.we_isi, DL.yv0, DL.yn0, DL.yn1, DL.yn2, DL.yn3, DL.yn4, DL.yn5, DL.yn6, DL.yn7, DL.yn8, DL.yn9, DL.yx0, DL.yx1, DL.yx2, DL.yx3, DL.yx4, DL.yx5, DL.yq0, DL.yy0, DL.yk0, DL.yq1, DL.yy1, DL.yk1, DL.yq2, DL.yy2, DL.yk2, DL.yq3, DL.yy3, DL.yk3, DL.yq4, DL.yk4, DL.yq5, DL.yq6, DL.yq7, DL.yu1, DL.yu2, DL.yu3, DL.yu4, DL.yu5, DL.yu6, DL.yh0, DL.yh1, DL.yh2, DL.yf0, DL.yw0, DL.yw1, DL.yw2, DL.yw3, DL.yA1, DL.yA2, DL.yB1, DL.yB2, DL.yC0, DL.yr1, DL.yr2])
  | `(tactic| exists 6, $ts,*) => `(tactic| with_reducible apply_rules (transparency := .reducible) (maxDepth := 500) [$[$ts:term],*, DL.ws_seq, DL.ws_ret, DL.ws_retN, DL.ws_next, DL.ws_break, DL.ws_cont, DL.ws_if, DL.we_C, DL.we_bin, DL.we_test, DL.we_truth, DL.we_and, DL.we_or, DL.we_not, DL.we_q, DL.we_nil, DL.we_cons, DL.we_poN, DL.yv0, DL.yv1, DL.yv2, DL.yn0, DL.yn1, DL.yn2, DL.yn3, DL.yn4, DL.yn5, DL.yn6, DL.yn7, DL.yn8, DL.yn9, DL.ye2, DL.ye4, DL.yj0, DL.yj1, DL.yj2, DL.yj3, DL.yj4, DL.yj5, DL.yx0, DL.yx1, DL.yx2, DL.yx3, DL.yx4, DL.yx5, DL.yq0, DL.yy0, DL.yk0, DL.yq1, DL.yy1, DL.yk1, DL.yq2, DL.yy2, DL.yk2, DL.yq3, DL.yy3, DL.yk3, DL.yq4, DL.yk4, DL.yq5, DL.yq6, DL.yq7, DL.yc1, DL.yc2, DL.yc3, DL.yc4, DL.yu1, DL.yu2, DL.yu3, DL.yu4, DL.yu5, DL.yu6, DL.yh0, DL.yh1, DL.yh2, DL.yf0, DL.yw0, DL.yw1, DL.yw2, DL.yw3, DL.yA1, DL.yA2, DL.yB1, DL.yB2, DL.yC0, DL.yr1, DL.yr2])
  | `(tactic| exists 7, $ts,*) => `(tactic| with_reducible apply_rules (transparency := .reducible) (maxDepth := 500) [$[$ts:term],*, DL.ws_seq, DL.ws_ret, DL.ws_retN, DL.ws_next, DL.ws_break, DL.ws_cont, DL.ws_expr, DL.we_C, DL.we_bin, DL.we_q, DL.we_nil, DL.we_cons, DL.we_poN, DL.yv0, DL.yn0, DL.yn1, DL.yn2, DL.yn3, DL.yn4, DL.yn5, DL.yn6, DL.yn7, DL.yn8, DL.yn9, DL.ye1, DL.ye14, DL.yx0, DL.yx1, DL.yx2, DL.yx3, DL.yx4, DL.yx5, DL.yq0, DL.yy0, DL.yk0, DL.yq1, DL.yy1, DL.yk1, DL.yq2, DL.yy2, DL.yk2, DL.yq3, DL.yy3, DL.yk3, DL.yq4, DL.yk4, DL.yq5, DL.yq6, DL.yq7, DL.yc1, DL.yc2, DL.yc3, DL.yc4, DL.yu1, DL.yu2, DL.yu3, DL.yu4, DL.yu5, DL.yu6, DL.yh0, DL.yh1, DL.yh2, DL.yf0, DL.yw0, DL.yw1, DL.yw2, DL.yw3, DL.yA1, DL.yA2, DL.yB1, DL.yB2, DL.yC0, DL.yr1, DL.yr2])
  | `(tactic| exists 8, $ts,*) => `(tactic| with_reducible apply_rules (transparency := .reducible) (maxDepth := 500) [$[$ts:term],*, DL.ws_seq, DL.ws_ret, DL.ws_retN, DL.ws_next, DL.ws_break, DL.ws_cont, DL.ws_if, DL.ws_for, DL.we_C, DL.we_bin, DL.we_test, DL.we_truth, DL.we_and, DL.we_or, DL.we_not, DL.we_q, DL.we_nil, DL.we_cons, DL.we_poN, DL.we_iter, DL.we_iterS, DL.we_chain, DL.we_isi, DL.we_isiT, DL.we_all, DL.yv0, DL.yv1, DL.yv2, DL.yv3, DL.yv4, DL.yv5, DL.yv6, DL.ygn3, DL.ygn4, DL.ygn5, DL.ygn6, DL.yn0, DL.yn1, DL.yn2, DL.yn3, DL.yn4, DL.yn5, DL.yn6, DL.yn7, DL.yn8, DL.yn9, DL.ye3, DL.ye4, DL.ye8, DL.ye9, DL.ye14, DL.ye18, DL.ye19, DL.yx0, DL.yx1, DL.yx2, DL.yx3, DL.yx4, DL.yx5, DL.yq0, DL.yy0, DL.yk0, DL.yq1, DL.yy1, DL.yk1, DL.yq2, DL.yy2, DL.yk2, DL.yq3, DL.yy3, DL.yk3, DL.yq4, DL.yk4, DL.yq5, DL.yq6, DL.yq7, DL.yc1, DL.yc2, DL.yc3, DL.yc4, DL.yp1, DL.yp2, DL.yp3, DL.yp4, DL.yp5, DL.yp6, DL.yu0, DL.yu1, DL.yu2, DL.yu3, DL.yu4, DL.yu5, DL.yu6, DL.yh0, DL.yh1, DL.yh2, DL.yf0, DL.yw0, DL.yw1, DL.yw2, DL.yw3, DL.yA1, DL.yA2, DL.yB1, DL.yB2, DL.yC0, DL.yr1, DL.yr2])
  | `(tactic| exists 9, $ts,*) => `(tactic| with_reducible apply_rules (transparency := .reducible) (maxDepth := 500) [$[$ts:term],*, DL.ws_seq, DL.ws_ret, DL.ws_retN, DL.ws_next, DL.ws_break, DL.ws_cont, DL.ws_if, DL.we_C, DL.we_bin, DL.we_test, DL.we_truth, DL.we_or, DL.we_not, DL.we_q, DL.we_nil, DL.we_poN, DL.we_iterS, DL.we_chain, DL.we_isi, DL.we_all, DL.yv0, DL.yv1, DL.ygn1, DL.yn0, DL.yn1, DL.yn2, DL.yn3, DL.yn4, DL.yn5, DL.yn6, DL.yn7, DL.yn8, DL.yn9, DL.ye3, DL.ye18, DL.ye19, DL.yx0, DL.yx1, DL.yx2, DL.yx3, DL.yx4, DL.yx5, DL.yq0, DL.yy0, DL.yk0, DL.yq1, DL.yy1, DL.yk1, DL.yq2, DL.yy2, DL.yk2, DL.yq3, DL.yy3, DL.yk3, DL.yq4, DL.yk4, DL.yq5, DL.yq6, DL.yq7, DL.yu0, DL.yu1, DL.yu2, DL.yu3, DL.yu4, DL.yu5, DL.yu6, DL.yh0, DL.yh1, DL.yh2, DL.yf0, DL.yw0, DL.yw1, DL.yw2, DL.yw3, DL.yA1, DL.yA2, DL.yB1, DL.yB2, DL.yC0, DL.yr1, DL.yr2])
  | `(tactic| exists 10, $ts,*) => `(tactic| with_reducible apply_rules (transparency := .reducible) (maxDepth := 500) [$[$ts:term],*, DL.ws_seq, DL.ws_ret, DL.ws_retN, DL.ws_next, DL.ws_break, DL.ws_cont, DL.ws_if, DL.ws_for, DL.we_C, DL.we_test, DL.we_q, DL.we_ix, DL.we_nil, DL.we_poN, DL.we_enum, DL.we_in, DL.yv0, DL.yv1, DL.yv2, DL.yv3, DL.ygn2, DL.ygn3, DL.yn0, DL.yn1, DL.yn2, DL.yn3, DL.yn4, DL.yn5, DL.yn6, DL.yn7, DL.yn8, DL.yn9, DL.yx0, DL.yx1, DL.yx2, DL.yx3, DL.yx4, DL.yx5, DL.yq0, DL.yy0, DL.yk0, DL.yq1, DL.yy1, DL.yk1, DL.yq2, DL.yy2, DL.yk2, DL.yq3, DL.yy3, DL.yk3, DL.yq4, DL.yk4, DL.yq5, DL.yq6, DL.yq7, DL.yu1, DL.yu2, DL.yu3, DL.yu4, DL.yu5, DL.yu6, DL.yh0, DL.yh1, DL.yh2, DL.yf0, DL.yw0, DL.yw1, DL.yw2, DL.yw3, DL.yA1, DL.yA2, DL.yB1, DL.yB2, DL.yC0, DL.yr1, DL.yr2])
  | `(tactic| exists 11, $ts,*) => `(tactic| with_reducible apply_rules (transparency := .reducible) (maxDepth := 500) [$[$ts:term],*, DL.ws_seq, DL.ws_ret, DL.ws_retN, DL.ws_next, DL.ws_break, DL.ws_cont, DL.ws_if, DL.ws_for, DL.we_C, DL.we_bin, DL.we_test, DL.we_truth, DL.we_or, DL.we_not, DL.we_ifE, DL.we_q, DL.we_ix, DL.we_nil, DL.we_cons, DL.we_amb, DL.we_poN, DL.we_enum, DL.we_in, DL.yv0, DL.yv1, DL.yv2, DL.yv3, DL.yv4, DL.yv5, DL.yv6, DL.yv7, DL.yt3, DL.yt4, DL.yt7, DL.ygn5, DL.ygn6, DL.yn0, DL.yn1, DL.yn2, DL.yn3, DL.yn4, DL.yn5, DL.yn6, DL.yn7, DL.yn8, DL.yn9, DL.ye6, DL.ye7, DL.yx0, DL.yx1, DL.yx2, DL.yx3, DL.yx4, DL.yx5, DL.yq0, DL.yy0, DL.yk0, DL.yq1, DL.yy1, DL.yk1, DL.yq2, DL.yy2, DL.yk2, DL.yq3, DL.yy3, DL.yk3, DL.yq4, DL.yk4, DL.yq5, DL.yq6, DL.yq7, DL.yc1, DL.yc2, DL.yc3, DL.yc4, DL.yl0, DL.yl1, DL.yl2, DL.yl3, DL.yl4, DL.yl5, DL.yl6, DL.yu1, DL.yu2, DL.yu3, DL.yu4, DL.yu5, DL.yu6, DL.yh0, DL.yh1, DL.yh2, DL.yf0, DL.yw0, DL.yw1, DL.yw2, DL.yw3, DL.yA0, DL.yA1, DL.yA2, DL.yB1, DL.yB2, DL.yC0, DL.yr1, DL.yr2])
  | `(tactic| exists 12, $ts,*) => `(tactic| with_reducible apply_rules (transparency := .reducible) (maxDepth := 500) [$[$ts:term],*, DL.ws_seq, DL.ws_retN, DL.ws_next, DL.ws_break, DL.ws_cont, DL.ws_fld, DL.we_C, DL.we_q, DL.we_nil, DL.we_cons, DL.we_poN, DL.yv0, DL.yv1, DL.yv2, DL.yv3, DL.yn0, DL.yn1, DL.yn2, DL.yn3, DL.yn4, DL.yn5, DL.yn6, DL.yn7, DL.yn8, DL.yn9, DL.yx0, DL.yx1, DL.yx2, DL.yx3, DL.yx4, DL.yx5, DL.yq0, DL.yy0, DL.yk0, DL.yq1, DL.yy1, DL.yk1, DL.yq2, DL.yy2, DL.yk2, DL.yq3, DL.yy3, DL.yk3, DL.yq4, DL.yk4, DL.yq5, DL.yq6, DL.yq7, DL.yc1, DL.yc2, DL.yc3, DL.yc4, DL.yp1, DL.yp2, DL.yp3, DL.yp4, DL.yp5, DL.yp6, DL.yu0, DL.yu1, DL.yu2, DL.yu3, DL.yu4, DL.yu5, DL.yu6, DL.yh0, DL.yh1, DL.yh2, DL.yf0, DL.yw0, DL.yw1, DL.yw2, DL.yw3, DL.yA1, DL.yA2, DL.yB1, DL.yB2, DL.yC0, DL.yr1, DL.yr2])
  | `(tactic| exists 13, $ts,*) => `(tactic| with_reducible apply_rules (transparency := .reducible) (maxDepth := 500) [$[$ts:term],*, DL.ws_seq, DL.ws_ret, DL.ws_retN, DL.ws_next, DL.ws_break, DL.ws_cont, DL.ws_if, DL.ws_asg, DL.we_C, DL.we_bin, DL.we_test, DL.we_truth, DL.we_or, DL.we_not, DL.we_q, DL.we_nil, DL.we_cons, DL.we_fz, DL.we_tupOf, DL.we_poN, DL.we_iter, DL.we_isiT, DL.we_vals_nil, DL.we_vals_cons, DL.we_disp, DL.we_in, DL.yv0, DL.yv1, DL.yv2, DL.yv3, DL.yv4, DL.yv5, DL.yv6, DL.yv7, DL.yv8, DL.yv9, DL.yv10, DL.yv11, DL.yv13, DL.yt7, DL.yt8, DL.yt9, DL.yt10, DL.ygn4, DL.ygn5, DL.ygn6, DL.ygn11, DL.ygn12, DL.ygn13, DL.yn0, DL.yn1, DL.yn2, DL.yn3, DL.yn4, DL.yn5, DL.yn6, DL.yn7, DL.yn8, DL.yn9, DL.ye1, DL.ye4, DL.ye18, DL.ye19, DL.yj0, DL.yj1, DL.yj2, DL.yj3, DL.yj4, DL.yj5, DL.yx0, DL.yx1, DL.yx2, DL.yx3, DL.yx4, DL.yx5, DL.yq0, DL.yy0, DL.yk0, DL.yq1, DL.yy1, DL.yk1, DL.yq2, DL.yy2, DL.yk2, DL.yq3, DL.yy3, DL.yk3, DL.yq4, DL.yk4, DL.yq5, DL.yq6, DL.yq7, DL.yc1, DL.yc2, DL.yc3, DL.yc4, DL.yp1, DL.yp2, DL.yp3, DL.yp4, DL.yp5, DL.yp6, DL.yu0, DL.yu1, DL.yu2, DL.yu3, DL.yu4, DL.yu5, DL.yu6, DL.yh0, DL.yh1, DL.yh2, DL.yf0, DL.yw0, DL.yw1, DL.yw2, DL.yw3, DL.yA1, DL.yA2, DL.yB1, DL.yB2, DL.yC0, DL.yr1, DL.yr2])
  | `(tactic| exists 14, $ts,*) => `(tactic| with_reducible apply_rules (transparency := .reducible) (maxDepth := 500) [$[$ts:term],*, DL.ws_seq, DL.ws_ret, DL.ws_retN, DL.ws_next, DL.ws_break, DL.ws_cont, DL.ws_if, DL.we_C, DL.we_test, DL.we_truth, DL.we_or, DL.we_not, DL.we_q, DL.we_nil, DL.we_cons, DL.we_amb, DL.we_tupOf, DL.we_poN, DL.we_fld, DL.we_chain, DL.we_isiT, DL.yv0, DL.yv1, DL.yv2, DL.yv3, DL.yv4, DL.yv5, DL.yv6, DL.yt3, DL.yt4, DL.yt6, DL.ygn5, DL.yz3, DL.yn0, DL.yn1, DL.yn2, DL.yn3, DL.yn4, DL.yn5, DL.yn6, DL.yn7, DL.yn8, DL.yn9, DL.ye3, DL.yx0, DL.yx1, DL.yx2, DL.yx3, DL.yx4, DL.yx5, DL.yq0, DL.yy0, DL.yk0, DL.yq1, DL.yy1, DL.yk1, DL.yq2, DL.yy2, DL.yk2, DL.yq3, DL.yy3, DL.yk3, DL.yq4, DL.yk4, DL.yq5, DL.yq6, DL.yq7, DL.yc1, DL.yc2, DL.yc3, DL.yc4, DL.yl0, DL.yl1, DL.yp1, DL.yl2, DL.yp2, DL.yl3, DL.yp3, DL.yl4, DL.yp4, DL.yl5, DL.yp5, DL.yl6, DL.yp6, DL.yu0, DL.yu1, DL.yu2, DL.yu3, DL.yu4, DL.yu5, DL.yu6, DL.yh0, DL.yh1, DL.yh2, DL.yf0, DL.yw0, DL.yw1, DL.yw2, DL.yw3, DL.yA0, DL.yA1, DL.yA2, DL.yB1, DL.yB2, DL.yC0, DL.yr1, DL.yr2])
  | `(tactic| exists 15, $ts,*) => `(tactic| with_reducible apply_rules (transparency := .reducible) (maxDepth := 500) [$[$ts:term],*, DL.ws_seq, DL.ws_retN, DL.ws_next, DL.ws_break, DL.ws_cont, DL.ws_fld, DL.ws_for, DL.we_C, DL.we_bin, DL.we_q, DL.we_nil, DL.we_cons, DL.we_fz, DL.we_amb, DL.we_lstOf, DL.we_cat, DL.we_poN, DL.we_fld, DL.we_iter, DL.we_join, DL.we_text, DL.we_js_nil, DL.we_js_cons, DL.yv0, DL.yv1, DL.yv2, DL.yv3, DL.yv4, DL.yv5, DL.yv6, DL.yt4, DL.ygn5, DL.ygn6, DL.yz4, DL.yn0, DL.yn1, DL.yn2, DL.yn3, DL.yn4, DL.yn5, DL.yn6, DL.yn7, DL.yn8, DL.yn9, DL.ye0, DL.ye16, DL.yx0, DL.yx1, DL.yx2, DL.yx3, DL.yx4, DL.yx5, DL.yq0, DL.yy0, DL.yk0, DL.yq1, DL.yy1, DL.yk1, DL.yq2, DL.yy2, DL.yk2, DL.yq3, DL.yy3, DL.yk3, DL.yq4, DL.yk4, DL.yq5, DL.yq6, DL.yq7, DL.yc1, DL.yc2, DL.yc3, DL.yc4, DL.yl0, DL.yl1, DL.yl2, DL.yl3, DL.yl4, DL.yl5, DL.yl6, DL.yu1, DL.yu2, DL.yu3, DL.yu4, DL.yu5, DL.yu6, DL.yh0, DL.yh1, DL.yh2, DL.yf0, DL.yw0, DL.yw1, DL.yw2, DL.yw3, DL.yA0, DL.yA1, DL.yA2, DL.yB0, DL.yB1, DL.yB2, DL.yC0, DL.yr1, DL.yr2])
  | `(tactic| exists 16, $ts,*) => `(tactic| with_reducible apply_rules (transparency := .reducible) (maxDepth := 500) [$[$ts:term],*, DL.ws_seq, DL.ws_ret, DL.ws_retN, DL.ws_next, DL.ws_break, DL.ws_cont, DL.ws_if, DL.ws_dput, DL.ws_for, DL.we_C, DL.we_bin, DL.we_test, DL.we_q, DL.we_ix, DL.we_nil, DL.we_cons, DL.we_fz, DL.we_amb, DL.we_poN, DL.we_ixS, DL.we_vals_nil, DL.we_vals_cons, DL.we_dispM, DL.we_dget, DL.we_din, DL.yv0, DL.yv1, DL.yv2, DL.yv3, DL.yv4, DL.yv5, DL.yv6, DL.yv8, DL.yv10, DL.yt4, DL.yt5, DL.yt6, DL.yt8, DL.yt10, DL.ygn7, DL.ygn9, DL.yn0, DL.yn1, DL.yn2, DL.yn3, DL.yn4, DL.yn5, DL.yn6, DL.yn7, DL.yn8, DL.yn9, DL.ye0, DL.ye1, DL.ye6, DL.ye7, DL.ye16, DL.yx0, DL.yx1, DL.yx2, DL.yx3, DL.yx4, DL.yx5, DL.yq0, DL.yy0, DL.yk0, DL.yq1, DL.yy1, DL.yk1, DL.yq2, DL.yy2, DL.yk2, DL.yq3, DL.yy3, DL.yk3, DL.yq4, DL.yk4, DL.yq5, DL.yq6, DL.yq7, DL.yc1, DL.yc2, DL.yc3, DL.yc4, DL.yl0, DL.yl1, DL.yl2, DL.yl3, DL.yl4, DL.yl5, DL.yl6, DL.yu1, DL.yu2, DL.yu3, DL.yu4, DL.yu5, DL.yu6, DL.yh0, DL.yh1, DL.yh2, DL.yf0, DL.yw0, DL.yw1, DL.yw2, DL.yw3, DL.yA0, DL.yA1, DL.yA2, DL.yB1, DL.yB2, DL.yC0, DL.yr0, DL.yr1, DL.yr2])
  | `(tactic| exists 17, $ts,*) => `(tactic| with_reducible apply_rules (transparency := .reducible) (maxDepth := 500) [$[$ts:term],*, DL.ws_seq, DL.ws_ret, DL.ws_retN, DL.ws_next, DL.ws_break, DL.ws_cont, DL.ws_if, DL.ws_setIx, DL.we_C, DL.we_bin, DL.we_test, DL.we_and, DL.we_q, DL.we_ix, DL.we_nil, DL.we_cons, DL.we_amb, DL.we_poN, DL.we_poS, DL.we_slice, DL.we_ixS, DL.we_sliceS, DL.yv0, DL.yv1, DL.yv2, DL.yv3, DL.yv4, DL.yv5, DL.yv6, DL.yv7, DL.yt2, DL.yt3, DL.yt4, DL.yt5, DL.yt6, DL.ygn7, DL.yo2, DL.ym2, DL.yn0, DL.yn1, DL.yn2, DL.yn3, DL.yn4, DL.yn5, DL.yn6, DL.yn7, DL.yn8, DL.yn9, DL.ye0, DL.ye1, DL.ye2, DL.ye4, DL.ye6, DL.ye7, DL.ye16, DL.ye21, DL.yx0, DL.yx1, DL.yx2, DL.yx3, DL.yx4, DL.yx5, DL.yq0, DL.yy0, DL.yk0, DL.yq1, DL.yy1, DL.yk1, DL.yq2, DL.yy2, DL.yk2, DL.yq3, DL.yy3, DL.yk3, DL.yq4, DL.yk4, DL.yq5, DL.yq6, DL.yq7, DL.yc1, DL.yc2, DL.yc3, DL.yc4, DL.yu0, DL.yu1, DL.yu2, DL.yu3, DL.yu4, DL.yu5, DL.yu6, DL.yh0, DL.yh1, DL.yh2, DL.yf0, DL.yw0, DL.yw1, DL.yw2, DL.yw3, DL.yA0, DL.yA1, DL.yA2, DL.yB1, DL.yB2, DL.yC0, DL.yr1, DL.yr2])
  | `(tactic| exists 18, $ts,*) => `(tactic| with_reducible apply_rules (transparency := .reducible) (maxDepth := 500) [$[$ts:term],*, DL.ws_seq, DL.ws_ret, DL.ws_retN, DL.ws_next, DL.ws_break, DL.ws_cont, DL.ws_if, DL.ws_for, DL.we_C, DL.we_bin, DL.we_test, DL.we_and, DL.we_q, DL.we_ix, DL.we_nil, DL.we_cons, DL.we_fz, DL.we_amb, DL.we_poN, DL.yv0, DL.yv1, DL.yv2, DL.yv3, DL.yv4, DL.yv5, DL.yv6, DL.yv7, DL.yt4, DL.yt5, DL.yt7, DL.ygn6, DL.yn0, DL.yn1, DL.yn2, DL.yn3, DL.yn4, DL.yn5, DL.yn6, DL.yn7, DL.yn8, DL.yn9, DL.ye4, DL.ye6, DL.ye7, DL.yx0, DL.yx1, DL.yx2, DL.yx3, DL.yx4, DL.yx5, DL.yq0, DL.yy0, DL.yk0, DL.yq1, DL.yy1, DL.yk1, DL.yq2, DL.yy2, DL.yk2, DL.yq3, DL.yy3, DL.yk3, DL.yq4, DL.yk4, DL.yq5, DL.yq6, DL.yq7, DL.yc1, DL.yc2, DL.yc3, DL.yc4, DL.yl0, DL.yl1, DL.yp1, DL.yl2, DL.yp2, DL.yl3, DL.yp3, DL.yl4, DL.yp4, DL.yl5, DL.yp5, DL.yl6, DL.yp6, DL.yu1, DL.yu2, DL.yu3, DL.yu4, DL.yu5, DL.yu6, DL.yh0, DL.yh1, DL.yh2, DL.yf0, DL.yw0, DL.yw1, DL.yw2, DL.yw3, DL.yA0, DL.yA1, DL.yA2, DL.yB1, DL.yB2, DL.yC0, DL.yr0, DL.yr1, DL.yr2])
  | `(tactic| exists 19, $ts,*) => `(tactic| with_reducible apply_rules (transparency := .reducible) (maxDepth := 500) [$[$ts:term],*, DL.ws_seq, DL.ws_ret, DL.ws_retN, DL.ws_next, DL.ws_break, DL.ws_cont, DL.ws_if, DL.ws_for, DL.we_C, DL.we_bin, DL.we_test, DL.we_and, DL.we_q, DL.we_nil, DL.we_poN, DL.we_ixS, DL.yv0, DL.yv1, DL.yv2, DL.yv3, DL.yv4, DL.yt2, DL.yt4, DL.ygn3, DL.yn0, DL.yn1, DL.yn2, DL.yn3, DL.yn4, DL.yn5, DL.yn6, DL.yn7, DL.yn8, DL.yn9, DL.ye1, DL.ye6, DL.ye7, DL.ye10, DL.ye15, DL.yx0, DL.yx1, DL.yx2, DL.yx3, DL.yx4, DL.yx5, DL.yq0, DL.yy0, DL.yk0, DL.yq1, DL.yy1, DL.yk1, DL.yq2, DL.yy2, DL.yk2, DL.yq3, DL.yy3, DL.yk3, DL.yq4, DL.yk4, DL.yq5, DL.yq6, DL.yq7, DL.yu0, DL.yu1, DL.yu2, DL.yu3, DL.yu4, DL.yu5, DL.yu6, DL.yh0, DL.yh1, DL.yh2, DL.yf0, DL.yw0, DL.yw1, DL.yw2, DL.yw3, DL.yA1, DL.yA2, DL.yB1, DL.yB2, DL.yC0, DL.yr0, DL.yr1, DL.yr2])
  | `(tactic| exists 20, $ts,*) => `(tactic| with_reducible apply_rules (transparency := .reducible) (maxDepth := 500) [$[$ts:term],*, DL.ws_seq, DL.ws_ret, DL.ws_retN, DL.ws_next, DL.ws_break, DL.ws_cont, DL.ws_if, DL.ws_for, DL.we_C, DL.we_bin, DL.we_test, DL.we_ifE, DL.we_q, DL.we_nil, DL.we_cons, DL.we_poN, DL.we_in, DL.yv0, DL.yv1, DL.yv2, DL.yv3, DL.yv4, DL.yv5, DL.yt2, DL.yt5, DL.ygn3, DL.ygn4, DL.yn0, DL.yn1, DL.yn2, DL.yn3, DL.yn4, DL.yn5, DL.yn6, DL.yn7, DL.yn8, DL.yn9, DL.ye0, DL.ye12, DL.ye16, DL.ye18, DL.ye19, DL.yx0, DL.yx1, DL.yx2, DL.yx3, DL.yx4, DL.yx5, DL.yq0, DL.yy0, DL.yk0, DL.yq1, DL.yy1, DL.yk1, DL.yq2, DL.yy2, DL.yk2, DL.yq3, DL.yy3, DL.yk3, DL.yq4, DL.yk4, DL.yq5, DL.yq6, DL.yq7, DL.yp1, DL.yp2, DL.yp3, DL.yp4, DL.yp5, DL.yp6, DL.yu1, DL.yu2, DL.yu3, DL.yu4, DL.yu5, DL.yu6, DL.yh0, DL.yh1, DL.yh2, DL.yf0, DL.yw0, DL.yw1, DL.yw2, DL.yw3, DL.yA1, DL.yA2, DL.yB1, DL.yB2, DL.yC0, DL.yr1, DL.yr2])
  | `(tactic| exists 21, $ts,*) => `(tactic| with_reducible apply_rules (transparency := .reducible) (maxDepth := 500) [$[$ts:term],*, DL.ws_seq, DL.ws_ret, DL.ws_retN, DL.ws_next, DL.ws_break, DL.ws_cont, DL.ws_if, DL.ws_asg, DL.ws_for, DL.we_C, DL.we_bin, DL.we_test, DL.we_ifE, DL.we_q, DL.we_ix, DL.we_nil, DL.we_cons, DL.we_amb, DL.we_tupOf, DL.we_poN, DL.we_fld, DL.we_enum, DL.yv0, DL.yv1, DL.yv2, DL.yv3, DL.yv4, DL.yv5, DL.yv6, DL.yv7, DL.yv8, DL.yt4, DL.yt7, DL.yt8, DL.ygn2, DL.ygn3, DL.ygn5, DL.ygn6, DL.yz4, DL.yn0, DL.yn1, DL.yn2, DL.yn3, DL.yn4, DL.yn5, DL.yn6, DL.yn7, DL.yn8, DL.yn9, DL.ye2, DL.ye4, DL.yi0, DL.yi1, DL.yi2, DL.yi3, DL.yi4, DL.yi5, DL.yx0, DL.yx1, DL.yx2, DL.yx3, DL.yx4, DL.yx5, DL.yq0, DL.yy0, DL.yk0, DL.yq1, DL.yy1, DL.yk1, DL.yq2, DL.yy2, DL.yk2, DL.yq3, DL.yy3, DL.yk3, DL.yq4, DL.yk4, DL.yq5, DL.yq6, DL.yq7, DL.yc1, DL.yc2, DL.yc3, DL.yc4, DL.yl0, DL.yl1, DL.yp1, DL.yl2, DL.yp2, DL.yl3, DL.yp3, DL.yl4, DL.yp4, DL.yl5, DL.yp5, DL.yl6, DL.yp6, DL.yu1, DL.yu2, DL.yu3, DL.yu4, DL.yu5, DL.yu6, DL.yh0, DL.yh1, DL.yh2, DL.yf0, DL.yw0, DL.yw1, DL.yw2, DL.yw3, DL.yA0, DL.yA1, DL.yA2, DL.yB1, DL.yB2, DL.yC0, DL.yr1, DL.yr2])
  | `(tactic| exists 22, $ts,*) => `(tactic| with_reducible apply_rules (transparency := .reducible) (maxDepth := 500) [$[$ts:term],*, DL.ws_seq, DL.ws_ret, DL.ws_retN, DL.ws_next, DL.ws_break, DL.ws_cont, DL.ws_if, DL.ws_for, DL.we_C, DL.we_bin, DL.we_test, DL.we_truth, DL.we_and, DL.we_or, DL.we_q, DL.we_ix, DL.we_nil, DL.we_cons, DL.we_amb, DL.we_poN, DL.yv0, DL.yv1, DL.yv2, DL.yv3, DL.yv4, DL.yv5, DL.yv6, DL.yv7, DL.yv8, DL.yt3, DL.yt4, DL.yt5, DL.yt7, DL.ygn6, DL.ygn8, DL.yz5, DL.yn0, DL.yn1, DL.yn2, DL.yn3, DL.yn4, DL.yn5, DL.yn6, DL.yn7, DL.yn8, DL.yn9, DL.ye4, DL.ye5, DL.ye14, DL.yi0, DL.yi1, DL.yi2, DL.yi3, DL.yi4, DL.yi5, DL.yx0, DL.yx1, DL.yx2, DL.yx3, DL.yx4, DL.yx5, DL.yq0, DL.yy0, DL.yk0, DL.yq1, DL.yy1, DL.yk1, DL.yq2, DL.yy2, DL.yk2, DL.yq3, DL.yy3, DL.yk3, DL.yq4, DL.yk4, DL.yq5, DL.yq6, DL.yq7, DL.yc1, DL.yc2, DL.yc3, DL.yc4, DL.yl0, DL.yl1, DL.yl2, DL.yl3, DL.yl4, DL.yl5, DL.yl6, DL.yu0, DL.yu1, DL.yu2, DL.yu3, DL.yu4, DL.yu5, DL.yu6, DL.yh0, DL.yh1, DL.yh2, DL.yf0, DL.yw0, DL.yw1, DL.yw2, DL.yw3, DL.yA0, DL.yA1, DL.yA2, DL.yB1, DL.yB2, DL.yC0, DL.yr0, DL.yr1, DL.yr2])
  | `(tactic| exists 23, $ts,*) => `(tactic| with_reducible apply_rules (transparency := .reducible) (maxDepth := 500) [$[$ts:term],*, DL.ws_seq, DL.ws_ret, DL.ws_retN, DL.ws_next, DL.ws_break, DL.ws_cont, DL.ws_if, DL.ws_for, DL.we_C, DL.we_bin, DL.we_test, DL.we_q, DL.we_nil, DL.we_cons, DL.we_poN, DL.we_poS, DL.we_fld, DL.we_iter, DL.we_enum, DL.yv0, DL.yv1, DL.yv2, DL.yv3, DL.yv4, DL.yt4, DL.ygn1, DL.ygn2, DL.ygn3, DL.yn0, DL.yn1, DL.yn2, DL.yn3, DL.yn4, DL.yn5, DL.yn6, DL.yn7, DL.yn8, DL.yn9, DL.ye0, DL.ye16, DL.yj0, DL.yj1, DL.yj2, DL.yj3, DL.yj4, DL.yj5, DL.yx0, DL.yx1, DL.yx2, DL.yx3, DL.yx4, DL.yx5, DL.yq0, DL.yy0, DL.yk0, DL.yq1, DL.yy1, DL.yk1, DL.yq2, DL.yy2, DL.yk2, DL.yq3, DL.yy3, DL.yk3, DL.yq4, DL.yk4, DL.yq5, DL.yq6, DL.yq7, DL.yc1, DL.yc2, DL.yc3, DL.yc4, DL.yp1, DL.yp2, DL.yp3, DL.yp4, DL.yp5, DL.yp6, DL.yu1, DL.yu2, DL.yu3, DL.yu4, DL.yu5, DL.yu6, DL.yh0, DL.yh1, DL.yh2, DL.yf0, DL.yw0, DL.yw1, DL.yw2, DL.yw3, DL.yA1, DL.yA2, DL.yB1, DL.yB2, DL.yC0, DL.yr1, DL.yr2])
  | `(tactic| exists 24, $ts,*) => `(tactic| with_reducible apply_rules (transparency := .reducible) (maxDepth := 500) [$[$ts:term],*, DL.ws_seq, DL.ws_ret, DL.ws_retN, DL.ws_next, DL.ws_break, DL.ws_cont, DL.ws_if, DL.ws_for, DL.we_C, DL.we_bin, DL.we_test, DL.we_truth, DL.we_or, DL.we_not, DL.we_q, DL.we_ix, DL.we_nil, DL.we_cons, DL.we_poN, DL.we_isi, DL.yv0, DL.yv1, DL.yv2, DL.ygn2, DL.yn0, DL.yn1, DL.yn2, DL.yn3, DL.yn4, DL.yn5, DL.yn6, DL.yn7, DL.yn8, DL.yn9, DL.ye8, DL.ye9, DL.yx0, DL.yx1, DL.yx2, DL.yx3, DL.yx4, DL.yx5, DL.yq0, DL.yy0, DL.yk0, DL.yq1, DL.yy1, DL.yk1, DL.yq2, DL.yy2, DL.yk2, DL.yq3, DL.yy3, DL.yk3, DL.yq4, DL.yk4, DL.yq5, DL.yq6, DL.yq7, DL.yc1, DL.yc2, DL.yc3, DL.yc4, DL.yu0, DL.yu1, DL.yu2, DL.yu3, DL.yu4, DL.yu5, DL.yu6, DL.yh0, DL.yh1, DL.yh2, DL.yf0, DL.yw0, DL.yw1, DL.yw2, DL.yw3, DL.yA1, DL.yA2, DL.yB1, DL.yB2, DL.yC0, DL.yr0, DL.yr1, DL.yr2])
  | `(tactic| exists 25, $ts,*) => `(tactic| with_reducible apply_rules (transparency := .reducible) (maxDepth := 500) [$[$ts:term],*, DL.ws_seq, DL.ws_ret, DL.ws_retN, DL.ws_next, DL.ws_break, DL.ws_cont, DL.ws_if, DL.we_C, DL.we_bin, DL.we_test, DL.we_truth, DL.we_or, DL.we_not, DL.we_andV, DL.we_q, DL.we_ix, DL.we_nil, DL.we_cons, DL.we_poN, DL.we_isi, DL.yv0, DL.yv1, DL.yn0, DL.yn1, DL.yn2, DL.yn3, DL.yn4, DL.yn5, DL.yn6, DL.yn7, DL.yn8, DL.yn9, DL.ye6, DL.ye7, DL.ye8, DL.ye9, DL.yi0, DL.yi1, DL.yi2, DL.yi3, DL.yi4, DL.yi5, DL.yx0, DL.yx1, DL.yx2, DL.yx3, DL.yx4, DL.yx5, DL.yq0, DL.yy0, DL.yk0, DL.yq1, DL.yy1, DL.yk1, DL.yq2, DL.yy2, DL.yk2, DL.yq3, DL.yy3, DL.yk3, DL.yq4, DL.yk4, DL.yq5, DL.yq6, DL.yq7, DL.yc1, DL.yc2, DL.yc3, DL.yc4, DL.yu0, DL.yu1, DL.yu2, DL.yu3, DL.yu4, DL.yu5, DL.yu6, DL.yh0, DL.yh1, DL.yh2, DL.yf0, DL.yw0, DL.yw1, DL.yw2, DL.yw3, DL.yA1, DL.yA2, DL.yB1, DL.yB2, DL.yC0, DL.yr1, DL.yr2])
  | `(tactic| exists 26, $ts,*) => `(tactic| with_reducible apply_rules (transparency := .reducible) (maxDepth := 500) [$[$ts:term],*, DL.ws_seq, DL.ws_ret, DL.ws_retN, DL.ws_next, DL.ws_break, DL.ws_cont, DL.ws_if, DL.ws_for, DL.we_bin, DL.we_test, DL.we_q, DL.we_nil, DL.we_poN, DL.we_fld, DL.we_iter, DL.yv0, DL.yv1, DL.yv2, DL.ygn2, DL.yn0, DL.yn1, DL.yn2, DL.yn3, DL.yn4, DL.yn5, DL.yn6, DL.yn7, DL.yn8, DL.yn9, DL.ye6, DL.ye7, DL.yx0, DL.yx1, DL.yx2, DL.yx3, DL.yx4, DL.yx5, DL.yq0, DL.yy0, DL.yk0, DL.yq1, DL.yy1, DL.yk1, DL.yq2, DL.yy2, DL.yk2, DL.yq3, DL.yy3, DL.yk3, DL.yq4, DL.yk4, DL.yq5, DL.yq6, DL.yq7, DL.yu1, DL.yu2, DL.yu3, DL.yu4, DL.yu5, DL.yu6, DL.yh0, DL.yh1, DL.yh2, DL.yf0, DL.yw0, DL.yw1, DL.yw2, DL.yw3, DL.yA1, DL.yA2, DL.yB1, DL.yB2, DL.yC0, DL.yr1, DL.yr2])
  | `(tactic| exists 27, $ts,*) => `(tactic| with_reducible apply_rules (transparency := .reducible) (maxDepth := 500) [$[$ts:term],*, DL.ws_seq, DL.ws_ret, DL.ws_retN, DL.ws_next, DL.ws_break, DL.ws_cont, DL.ws_if, DL.we_C, DL.we_bin, DL.we_test, DL.we_q, DL.we_nil, DL.we_cons, DL.we_poN, DL.we_fld, DL.yv0, DL.yv1, DL.yv2, DL.yt2, DL.yn0, DL.yn1, DL.yn2, DL.yn3, DL.yn4, DL.yn5, DL.yn6, DL.yn7, DL.yn8, DL.yn9, DL.yi0, DL.yi1, DL.yi2, DL.yi3, DL.yi4, DL.yi5, DL.yx0, DL.yx1, DL.yx2, DL.yx3, DL.yx4, DL.yx5, DL.yq0, DL.yy0, DL.yk0, DL.yq1, DL.yy1, DL.yk1, DL.yq2, DL.yy2, DL.yk2, DL.yq3, DL.yy3, DL.yk3, DL.yq4, DL.yk4, DL.yq5, DL.yq6, DL.yq7, DL.yu1, DL.yu2, DL.yu3, DL.yu4, DL.yu5, DL.yu6, DL.yh0, DL.yh1, DL.yh2, DL.yf0, DL.yw0, DL.yw1, DL.yw2, DL.yw3, DL.yA1, DL.yA2, DL.yB1, DL.yB2, DL.yC0, DL.yr1, DL.yr2])
  | `(tactic| exists 28, $ts,*) => `(tactic| with_reducible apply_rules (transparency := .reducible) (maxDepth := 500) [$[$ts:term],*, DL.ws_seq, DL.ws_retN, DL.ws_next, DL.ws_break, DL.ws_cont, DL.ws_if, DL.ws_asg, DL.ws_for, DL.we_C, DL.we_bin, DL.we_test, DL.we_q, DL.we_nil, DL.we_cons, DL.we_poN, DL.we_fld, DL.we_iter, DL.yv0, DL.yv1, DL.yv2, DL.yv3, DL.yv4, DL.yv5, DL.yv6, DL.yv7, DL.yv8, DL.yv9, DL.yt1, DL.yt6, DL.ygn2, DL.ygn3, DL.ygn4, DL.ygn5, DL.ygn7, DL.ygn8, DL.ygn9, DL.yn0, DL.yn1, DL.yn2, DL.yn3, DL.yn4, DL.yn5, DL.yn6, DL.yn7, DL.yn8, DL.yn9, DL.yj0, DL.yj1, DL.yj2, DL.yj3, DL.yj4, DL.yj5, DL.yx0, DL.yx1, DL.yx2, DL.yx3, DL.yx4, DL.yx5, DL.yq0, DL.yy0, DL.yk0, DL.yq1, DL.yy1, DL.yk1, DL.yq2, DL.yy2, DL.yk2, DL.yq3, DL.yy3, DL.yk3, DL.yq4, DL.yk4, DL.yq5, DL.yq6, DL.yq7, DL.yc1, DL.yc2, DL.yc3, DL.yc4, DL.yu1, DL.yu2, DL.yu3, DL.yu4, DL.yu5, DL.yu6, DL.yh0, DL.yh1, DL.yh2, DL.yf0, DL.yw0, DL.yw1, DL.yw2, DL.yw3, DL.yA1, DL.yA2, DL.yB1, DL.yB2, DL.yC0, DL.yr1, DL.yr2])
  | `(tactic| exists 29, $ts,*) => `(tactic| with_reducible apply_rules (transparency := .reducible) (maxDepth := 500) [$[$ts:term],*, DL.ws_seq, DL.ws_ret, DL.ws_retN, DL.ws_next, DL.ws_break, DL.ws_cont, DL.ws_expr, DL.we_C, DL.we_q, DL.we_nil, DL.we_cons, DL.we_poN, DL.yv0, DL.yn0, DL.yn1, DL.yn2, DL.yn3, DL.yn4, DL.yn5, DL.yn6, DL.yn7, DL.yn8, DL.yn9, DL.yx0, DL.yx1, DL.yx2, DL.yx3, DL.yx4, DL.yx5, DL.yq0, DL.yy0, DL.yk0, DL.yq1, DL.yy1, DL.yk1, DL.yq2, DL.yy2, DL.yk2, DL.yq3, DL.yy3, DL.yk3, DL.yq4, DL.yk4, DL.yq5, DL.yq6, DL.yq7, DL.yc1, DL.yc2, DL.yc3, DL.yc4, DL.yu1, DL.yu2, DL.yu3, DL.yu4, DL.yu5, DL.yu6, DL.yh0, DL.yh1, DL.yh2, DL.yf0, DL.yw0, DL.yw1, DL.yw2, DL.yw3, DL.yA1, DL.yA2, DL.yB1, DL.yB2, DL.yC0, DL.yr1, DL.yr2])
  | `(tactic| exists 30, $ts,*) => `(tactic| with_reducible apply_rules (transparency := .reducible) (maxDepth := 500) [$[$ts:term],*, DL.ws_seq, DL.ws_ret, DL.ws_retN, DL.ws_next, DL.ws_break, DL.ws_cont, DL.ws_if, DL.we_C, DL.we_bin, DL.we_test, DL.we_truth, DL.we_or, DL.we_not, DL.we_andV, DL.we_notV, DL.we_q, DL.we_nil, DL.we_cons, DL.we_poN, DL.we_isi, DL.yv0, DL.yv1, DL.yv2, DL.yv3, DL.yv4, DL.yv6, DL.yt2, DL.yt3, DL.yt4, DL.yt6, DL.yn0, DL.yn1, DL.yn2, DL.yn3, DL.yn4, DL.yn5, DL.yn6, DL.yn7, DL.yn8, DL.yn9, DL.ye8, DL.ye9, DL.yi0, DL.yi1, DL.yi2, DL.yi3, DL.yi4, DL.yi5, DL.yx0, DL.yx1, DL.yx2, DL.yx3, DL.yx4, DL.yx5, DL.yq0, DL.yy0, DL.yk0, DL.yq1, DL.yy1, DL.yk1, DL.yq2, DL.yy2, DL.yk2, DL.yq3, DL.yy3, DL.yk3, DL.yq4, DL.yk4, DL.yq5, DL.yq6, DL.yq7, DL.yc1, DL.yc2, DL.yc3, DL.yc4, DL.yp1, DL.yp2, DL.yp3, DL.yp4, DL.yp5, DL.yp6, DL.yu1, DL.yu2, DL.yu3, DL.yu4, DL.yu5, DL.yu6, DL.yh0, DL.yh1, DL.yh2, DL.yf0, DL.yw0, DL.yw1, DL.yw2, DL.yw3, DL.yA1, DL.yA2, DL.yB1, DL.yB2, DL.yC0, DL.yr1, DL.yr2])
  | `(tactic| exists 31, $ts,*) => `(tactic| with_reducible apply_rules (transparency := .reducible) (maxDepth := 500) [$[$ts:term],*, DL.ws_seq, DL.ws_ret, DL.ws_retN, DL.ws_next, DL.ws_break, DL.ws_cont, DL.ws_if, DL.ws_for, DL.we_C, DL.we_bin, DL.we_test, DL.we_truth, DL.we_and, DL.we_not, DL.we_q, DL.we_ix, DL.we_nil, DL.we_cons, DL.we_fz, DL.we_poN, DL.we_fld, DL.yv2, DL.yv4, DL.yv5, DL.yv6, DL.yv7, DL.yv8, DL.yv9, DL.yv10, DL.yv11, DL.yt7, DL.yt10, DL.yt11, DL.ygn8, DL.ygn9, DL.yn0, DL.yn1, DL.yn2, DL.yn3, DL.yn4, DL.yn5, DL.yn6, DL.yn7, DL.yn8, DL.yn9, DL.ye2, DL.ye8, DL.ye9, DL.yi0, DL.yj0, DL.yi1, DL.yj1, DL.yi2, DL.yj2, DL.yi3, DL.yj3, DL.yi4, DL.yj4, DL.yi5, DL.yj5, DL.yx0, DL.yx1, DL.yx2, DL.yx3, DL.yx4, DL.yx5, DL.yq0, DL.yy0, DL.yk0, DL.yq1, DL.yy1, DL.yk1, DL.yq2, DL.yy2, DL.yk2, DL.yq3, DL.yy3, DL.yk3, DL.yq4, DL.yk4, DL.yq5, DL.yq6, DL.yq7, DL.yc1, DL.yc2, DL.yc3, DL.yc4, DL.yl0, DL.yl1, DL.yl2, DL.yl3, DL.yl4, DL.yl5, DL.yl6, DL.yu0, DL.yu1, DL.yu2, DL.yu3, DL.yu4, DL.yu5, DL.yu6, DL.yh0, DL.yh1, DL.yh2, DL.yf0, DL.yw0, DL.yw1, DL.yw2, DL.yw3, DL.yA1, DL.yA2, DL.yB1, DL.yB2, DL.yC0, DL.yr0, DL.yr1, DL.yr2])
  | `(tactic| exists 32, $ts,*) => `(tactic| with_reducible apply_rules (transparency := .reducible) (maxDepth := 500) [$[$ts:term],*, DL.ws_seq, DL.ws_ret, DL.ws_retN, DL.ws_next, DL.ws_break, DL.ws_cont, DL.ws_if, DL.ws_setIx, DL.ws_for, DL.we_C, DL.we_bin, DL.we_test, DL.we_truth, DL.we_and, DL.we_or, DL.we_not, DL.we_q, DL.we_ix, DL.we_nil, DL.we_cons, DL.we_fz, DL.we_lstOf, DL.we_poN, DL.we_fld, DL.yv0, DL.yv1, DL.yv2, DL.yv3, DL.yv4, DL.yv5, DL.yv6, DL.yv7, DL.yv8, DL.yv9, DL.yv10, DL.yv11, DL.yv12, DL.yt1, DL.yt2, DL.yt3, DL.yt4, DL.yt5, DL.yt6, DL.yt7, DL.yt10, DL.yt11, DL.ygn8, DL.ygn9, DL.ygn12, DL.yn0, DL.yn1, DL.yn2, DL.yn3, DL.yn4, DL.yn5, DL.yn6, DL.yn7, DL.yn8, DL.yn9, DL.ye0, DL.ye2, DL.ye8, DL.ye9, DL.ye16, DL.ye21, DL.yi0, DL.yj0, DL.yi1, DL.yj1, DL.yi2, DL.yj2, DL.yi3, DL.yj3, DL.yi4, DL.yj4, DL.yi5, DL.yj5, DL.yx0, DL.yx1, DL.yx2, DL.yx3, DL.yx4, DL.yx5, DL.yq0, DL.yy0, DL.yk0, DL.yq1, DL.yy1, DL.yk1, DL.yq2, DL.yy2, DL.yk2, DL.yq3, DL.yy3, DL.yk3, DL.yq4, DL.yk4, DL.yq5, DL.yq6, DL.yq7, DL.yc1, DL.yc2, DL.yc3, DL.yc4, DL.yl0, DL.yl1, DL.yp1, DL.yl2, DL.yp2, DL.yl3, DL.yp3, DL.yl4, DL.yp4, DL.yl5, DL.yp5, DL.yl6, DL.yp6, DL.yu0, DL.yu1, DL.yu2, DL.yu3, DL.yu4, DL.yu5, DL.yu6, DL.yh0, DL.yh1, DL.yh2, DL.yf0, DL.yw0, DL.yw1, DL.yw2, DL.yw3, DL.yA0, DL.yA1, DL.yA2, DL.yB1, DL.yB2, DL.yC0, DL.yr0, DL.yr1, DL.yr2])
set_option Elab.async false
set_option linter.all false
set_option maxRecDepth 100000
set_option maxHeartbeats 4000000
set_option autoImplicit false
namespace DL
open PySem PySem.Spec L2
abbrev dZ (xs : List Int) : List D := xs.map D.int
abbrev drw (xs : List Int) (a : Nat) : MO := .lst [.int (a : Int), .lst (dZ xs)]
structure Bs where
  μ : Mu
  k : Nat
  xs : List Int
structure Bs.Ok (b : Bs) : Prop where
  w : Wf b.μ
  k : b.k < b.μ.length
def Bs.at' (b : Bs) (a : Nat) : Mu := b.μ.set b.k (drw b.xs a)
theorem wf_set {μ : Mu} {k : Nat} {m : MO} (w : Wf μ) (h : m.low μ.length = true) : Wf (μ.set k m) := by
  unfold Wf
  rw [List.length_set, List.all_eq_true]
  intro x hx
  rcases List.mem_or_eq_of_mem_set hx with q | rfl
  · exact List.all_eq_true.mp w x q
  · exact h
theorem low_all {α : Type} {n : Nat} (f : α → D) (h : ∀ a, (f a).low n = true) : ∀ xs : List α, D.lowAll n (xs.map f) = true
  | [] => by unfold D.lowAll; rfl
  | x :: xs => by
    rw [List.map_cons]
    unfold D.lowAll
    rw [h x, low_all f h xs]
    rfl
theorem low_dZ {n : Nat} (xs : List Int) : D.lowAll n (dZ xs) = true := low_all D.int (fun _ => rfl) xs
theorem low_drw {n : Nat} (xs : List Int) (a : Nat) : (drw xs a).low n = true := by
  show (D.low n (.int (a : Int)) && (D.low n (.lst (dZ xs)) && true)) = true
  have : D.low n (.lst (dZ xs)) = true := low_dZ xs
  rw [this]
  rfl
section
variable {b : Bs} {a a' j : Nat} {ν : Mu} {m : MO}
theorem Bs.len : (b.at' a).length = b.μ.length := List.length_set ..
theorem Bs.Ok.wf (h : b.Ok) (a : Nat) : Wf (b.at' a) := wf_set h.w (low_drw _ _)
theorem Bs.Ok.dr (h : b.Ok) : (b.at' a ++ ν)[b.k]? = some (.lst [.int (a : Int), .lst (dZ b.xs)]) := by
  rw [List.getElem?_append_left (by rw [Bs.len]; exact h.k)]
  unfold Bs.at'
  rw [List.getElem?_set_self h.k]
theorem Bs.Ok.set (h : b.Ok) : (b.at' a ++ ν).set b.k (.lst [.int (a' : Int), .lst (dZ b.xs)]) = b.at' a' ++ ν := by
  rw [List.set_append_left _ _ (by rw [Bs.len]; exact h.k)]
  unfold Bs.at'
  rw [List.set_set]
theorem Bs.loc : (b.at' a ++ ν)[b.μ.length + j]? = ν[j]? := by
  rw [List.getElem?_append_right (by rw [Bs.len]; omega), Bs.len, Nat.add_sub_cancel_left]
theorem Bs.locset : (b.at' a ++ ν).set (b.μ.length + j) m = b.at' a ++ ν.set j m := by
  rw [List.set_append_right _ _ (by rw [Bs.len]; omega), Bs.len, Nat.add_sub_cancel_left]
theorem Bs.tot : (b.at' a ++ ν).length = b.μ.length + ν.length := by rw [List.length_append, Bs.len]
end
section
variable {μ : Mu} {Q : D → Mu → Prop} {F : List D → M D} {ds : List D}
theorem wf_keep (w : Wf μ) (h : Wf' F ds μ fun d μ' => (∃ ν, μ' = μ ++ ν) ∧ d.low μ.length = true ∧ Q d μ) : Wf' (scopeF F) ds μ Q := by
  refine wf_scope (h.mono fun d μ' h => ?_)
  obtain ⟨⟨ν, rfl⟩, h2, h3⟩ := h
  have e : (μ ++ ν).take μ.length = μ := by simp
  rw [e]
  exact ⟨h2, w, h3⟩
theorem wf_draw {b : Bs} {a : Nat} {ν : Mu} (hb : ∀ a, Wf (b.at' a ++ ν)) (h : Wf' F ds (b.at' a ++ ν) fun d μ' => ∃ a' ν', μ' = b.at' a' ++ (ν ++ ν') ∧ d.low (b.at' a ++ ν).length = true ∧ Q d (b.at' a' ++ ν)) : Wf' (scopeF F) ds (b.at' a ++ ν) Q := by
  refine wf_scope (h.mono fun d μ' h => ?_)
  obtain ⟨a', ν', rfl, h2, h3⟩ := h
  have e : (b.at' a' ++ (ν ++ ν')).take (b.at' a ++ ν).length = b.at' a' ++ ν := by
    have el : (b.at' a ++ ν).length = (b.at' a' ++ ν).length := by rw [Bs.tot, Bs.tot]
    rw [← List.append_assoc, el, List.take_left]
  rw [e]
  refine ⟨h2, ?_, h3⟩
  have := hb a'
  unfold Wf at this
  rw [List.length_append, Bs.len] at this
  rw [List.length_append, Bs.len]
  exact this
end
theorem rng_len {n : Nat} : (rangeD 0 n).length = n := by unfold rangeD; rw [List.length_map, List.length_range]
theorem rng_at {n i : Nat} {d : D} (h : (rangeD 0 n)[i]? = some d) : i < n ∧ d = .int (i : Nat) := by
  have hi : i < n := by rw [← rng_len (n := n)]; exact (List.getElem?_eq_some_iff.mp h).1
  unfold rangeD at h
  rw [List.getElem?_map, List.getElem?_range hi] at h
  cases h
  exact ⟨hi, by simp⟩
end DL

set_option Elab.async false
set_option linter.all false
set_option maxRecDepth 100000
set_option maxHeartbeats 4000000
set_option autoImplicit false
namespace DL
open PySem PySem.Spec L2
theorem we_lcR {γ : Type} {tl : TL} {ρ : Rho} {μ : Mu} {QL : List D → Mu → Prop} {vs : List Nat} {gt : D → Rho → Option Rho} {tt : TB} {te : TD} {xs : List γ} (enc f : γ → D) (p : γ → Bool)
    (h : We tl ρ μ fun ds μ1 => ds = xs.map enc ∧ okW ρ vs = true ∧ xs.length ≤ sizeLine ∧ (∀ x ∈ xs, ∃ ρ1, gt (enc x) (wipeR ρ vs) = some ρ1 ∧ We tt ρ1 μ1 fun b μ2 => b = p x ∧ μ2 = μ1 ∧ (b = true → We te ρ1 μ1 fun y μ3 => y = f x ∧ μ3 = μ1)) ∧ QL ((xs.filter p).map f) μ1) :
    We (dLc vs tl gt tt te) ρ μ QL := by
  refine we_lc (h.mono fun ds μ1 h => ?_)
  obtain ⟨rfl, hw, hl, hs, q⟩ := h
  refine ⟨hw, fun i acc μ' => acc = ((xs.take i).filter p).map f ∧ μ' = μ1, ⟨rfl, rfl⟩, ?_, ?_⟩
  · rintro i d acc μ' hd ⟨rfl, rfl⟩
    rw [List.getElem?_map] at hd
    obtain ⟨x, hx, rfl⟩ := Option.map_eq_some_iff.mp hd
    obtain ⟨hi, hxe⟩ := List.getElem?_eq_some_iff.mp hx
    obtain ⟨ρ1, g1, hb⟩ := hs x (List.mem_of_getElem? hx)
    have et : xs.take (i + 1) = xs.take i ++ [x] := by rw [List.take_succ_eq_append_getElem hi, hxe]
    refine ⟨?_, ρ1, g1, hb.mono fun b μ2 h => ?_⟩
    · rw [List.length_map]
      have h1 := List.length_filter_le p (xs.take i)
      rw [List.length_take] at h1
      omega
    · obtain ⟨rfl, rfl, h3⟩ := h
      refine ⟨fun e => (h3 e).mono fun y μ3 h => ?_, fun e => ?_⟩
      · obtain ⟨rfl, rfl⟩ := h
        refine ⟨?_, rfl⟩
        rw [et, List.filter_append, List.map_append, List.filter_cons_of_pos e]
        rfl
      · refine ⟨?_, rfl⟩
        rw [et, List.filter_append, List.map_append, List.filter_cons_of_neg (by rw [e]; decide)]
        simp
  · rintro acc μ' ⟨rfl, rfl⟩
    rw [List.length_map, List.take_length]
    exact q
end DL

set_option Elab.async false
set_option linter.all false
set_option maxRecDepth 100000
set_option maxHeartbeats 4000000
set_option autoImplicit false
namespace DL
open PySem PySem.Spec L2
theorem we_make {C : Addr} {F : List D → M D} {n : Nat} {tl : TL} {ρ : Rho} {μ : Mu} {Q : D → Mu → Prop}
    (h : We tl ρ μ fun ds μ1 => ds.length + 1 = n ∧ Wf' F (.mref μ1.length :: ds) (μ1 ++ [.ins C [] []]) fun d μ2 => d = .non ∧ ∃ C' ns es, μ2[μ1.length]? = some (.ins C' ns es) ∧ D.lowAll μ1.length es = true ∧ (μ2.take μ1.length).all (MO.low μ1.length) = true ∧ Q (.obj C' ns es) (μ2.take μ1.length)) :
    We (dMake C F n tl) ρ μ Q :=
  we_bind (h.mono fun ds μ1 h => by
    obtain ⟨h1, d, μ2, h2, rfl, C', ns, es, h3, h4, h5, h6⟩ := h
    refine ⟨.obj C' ns es, _, ?_, h6⟩
    have hm : made C F n ds μ1 = some (.ok (), μ2) := by
      unfold made
      rw [if_pos h1, h2]
    rw [hm]
    show (match μ2[μ1.length]? with
      | some (.ins C' ns es) => if (D.lowAll μ1.length es && (μ2.take μ1.length).all (MO.low μ1.length)) = true then some (Res.ok (D.obj C' ns es), μ2.take μ1.length) else none
      | _ => none) = _
    rw [h3]
    show (if (D.lowAll μ1.length es && (μ2.take μ1.length).all (MO.low μ1.length)) = true then some (Res.ok (D.obj C' ns es), μ2.take μ1.length) else none) = _
    rw [h4, h5]
    rfl)
end DL

set_option Elab.async false
set_option linter.all false
set_option maxRecDepth 100000
set_option maxHeartbeats 4000000
set_option autoImplicit false
namespace DL
open PySem PySem.Spec L2
def Stp (p : Prop) : Prop := p
def forP (gt : D → Rho → Option Rho) (tb : TO') : List D → Rho → Mu → (Out → Mu → Prop) → Prop
  | [], ρ, μ, Q => Q (.nx ρ) μ
  | d :: ds, ρ, μ, Q => ∃ ρ1, gt d ρ = some ρ1 ∧ Ws tb ρ1 μ (turn (fun ρ μ => forP gt tb ds ρ μ Q) Q)
section
variable {gt : D → Rho → Option Rho} {tb : TO'} {ρ : Rho} {μ : Mu} {Q : Out → Mu → Prop} {tl : TL} {d : D} {ds : List D}
end
section
variable {b : Bs} {a j : Nat} {ν L L' : Mu} {m : MO} {ds : List D} {QO : Out → Mu → Prop} {ρ : Rho} {y : D} {t : TD}
theorem lg : (b.at' a ++ (ν ++ L))[b.μ.length + ν.length + j]? = L[j]? := by
  rw [Nat.add_assoc, Bs.loc, List.getElem?_append_right (by omega), Nat.add_sub_cancel_left]
theorem ls : (b.at' a ++ (ν ++ L)).set (b.μ.length + ν.length + j) m = b.at' a ++ (ν ++ L.set j m) := by
  rw [Nat.add_assoc, Bs.locset, List.set_append_right _ _ (by omega), Nat.add_sub_cancel_left]
def newP (Q : D → Mu → Prop) (m : MO) (μ : Mu) : Prop := Q (.mref μ.length) (μ ++ [m])
variable {x x1 x2 x3 : MO}
theorem lget (h : L[j]? = some m) : (b.at' a ++ (ν ++ L))[b.μ.length + ν.length + j]? = some m := by rw [lg]; exact h
variable {s0 s1 s2 s3 s4 s5 s6 s7 s8 s9 s10 s11 s12 s13 s14 s15 s16 s17 s18 s19 : Option Sl} {r : Rho}
theorem lz1 (hj : L[j]? = some (.lst ds)) (hs : L.set j .dead = L') (h : QO (.nx (s0 :: some (.sh (.lst ds)) :: r)) (b.at' a ++ (ν ++ L'))) : Ws (dsFzM 1) (s0 :: some (.sh (.mref (b.μ.length + ν.length + j))) :: r) (b.at' a ++ (ν ++ L)) QO := yz1 (lget hj) (by rw [ls, hs]; exact h)
end
end DL

set_option Elab.async false
set_option linter.all false
set_option maxRecDepth 100000
set_option maxHeartbeats 4000000
set_option autoImplicit false
namespace DL
open PySem PySem.Spec L2
section
variable {ρ : Rho} {μ : Mu} {t u v : TD} {tl : TL} {s : TO'} {Q : D → Mu → Prop} {QL : List D → Mu → Prop} {QO : Out → Mu → Prop}
def zipP (QL : List D → Mu → Prop) (d e : D) (μ : Mu) : Prop := ∃ ds es, d.srcs = some ds ∧ e.srcs = some es ∧ QL (zipD ds es) μ
theorem we_zipS (h : We t ρ μ fun d μ1 => We u ρ μ1 fun e μ2 => zipP QL d e μ2) : We (dZipS t u) ρ μ QL := we_bind (h.mono fun d μ1 h => we_bind (h.mono fun e μ2 h => by
  obtain ⟨ds, es, h1, h2, h3⟩ := h
  refine lift_ok ⟨zipD ds es, ?_, h3⟩
  rw [h1, h2]))
def zipI (QL : List D → Mu → Prop) (d e : D) (μ : Mu) : Prop := ∃ ds es, d.items = some ds ∧ e.items = some es ∧ QL (zipD ds es) μ
def gdP (Q : D → Mu → Prop) (d y z : D) (μ : Mu) : Prop := ∃ o, dgetD d y μ = some o ∧ Q (o.getD z) μ
def Xf (F : List D → M D) (ds : List D) (μ : Mu) (P : Addr → List Str → List D → Mu → Prop) : Prop := ∃ C ns es μ', F ds μ = some (.ex C ns es, μ') ∧ P C ns es μ'
def endsX (P : Addr → List Str → List D → Mu → Prop) : Out → Mu → Prop
  | .ex _ C ns es, μ => P C ns es μ
  | _, _ => False
theorem xf_run {N : Nat} {ds : List D} {P : Addr → List Str → List D → Mu → Prop} (h : Ws s (initR N ds) μ (endsX P)) : Xf (runF N s) ds μ P := by
  obtain ⟨o, μ1, h1, h2⟩ := h
  unfold Xf runF
  rw [h1]
  cases o with
  | ex ρ C ns es => exact ⟨C, ns, es, μ1, rfl, h2⟩
  | _ => exact h2.elim
theorem xf_keep {F : List D → M D} {ds : List D} {P : Addr → List Str → List D → Mu → Prop} (w : Wf μ) (h : Xf F ds μ fun C ns es μ' => (∃ ν, μ' = μ ++ ν) ∧ D.lowAll μ.length es = true ∧ P C ns es μ) : Xf (scopeF F) ds μ P := by
  obtain ⟨C, ns, es, μ', h1, ⟨ν, rfl⟩, h2, h3⟩ := h
  refine ⟨C, ns, es, μ, ?_, h3⟩
  unfold scopeF
  rw [h1]
  have e : (μ ++ ν).take μ.length = μ := List.take_left ..
  show (if (D.lowAll μ.length es && ((μ ++ ν).take μ.length).all (MO.low μ.length)) = true then some (Res.ex C ns es, (μ ++ ν).take μ.length) else none) = _
  rw [e, h2, if_pos (by rw [Bool.true_and]; exact w)]
theorem Xf.mono {F : List D → M D} {ds : List D} {P P' : Addr → List Str → List D → Mu → Prop} (h : Xf F ds μ P) (k : ∀ C ns es μ', P C ns es μ' → P' C ns es μ') : Xf F ds μ P' := by
  obtain ⟨C, ns, es, μ', h1, h2⟩ := h
  exact ⟨C, ns, es, μ', h1, k _ _ _ _ h2⟩
theorem ws_raise {C : Addr} {fl : List Str} (h : We tl ρ μ fun ds μ1 => (ds.length = fl.length ∧ ds.length ≤ 1000) ∧ QO (.ex ρ C fl.reverse ds.reverse) μ1) : Ws (dsRaise C fl tl) ρ μ QO := ws_e (h.mono fun ds μ1 h => ⟨_, _, by rw [if_pos h.1], h.2⟩)
def Xe {α : Type} (t : Rho → M α) (ρ : Rho) (μ : Mu) (P : Addr → List Str → List D → Mu → Prop) : Prop := ∃ C ns es μ', t ρ μ = some (.ex C ns es, μ') ∧ P C ns es μ'
theorem xe_call {F : List D → M D} {n : Nat} {P : Addr → List Str → List D → Mu → Prop} (h : We tl ρ μ fun ds μ1 => ds.length = n ∧ Xf F ds μ1 P) : Xe (dCall F n tl) ρ μ P := by
  obtain ⟨ds, μ1, h1, h2, C, ns, es, μ', h3, h4⟩ := h
  refine ⟨C, ns, es, μ', ?_, h4⟩
  show M.bind (tl ρ) (fun ds => if ds.length = n then F ds else M.stuck) μ = _
  unfold M.bind
  rw [h1]
  show (if ds.length = n then F ds else M.stuck) μ1 = _
  rw [if_pos h2, h3]
theorem ws_eX {α : Type} {m : Rho → M α} {f : α → Rho → Mu → Option (Out × Mu)} (h : Xe m ρ μ fun C ns es μ' => QO (.ex ρ C ns es) μ') : Ws (dsE m f) ρ μ QO := by
  obtain ⟨C, ns, es, μ', h1, h2⟩ := h
  refine ⟨_, μ', ?_, h2⟩
  unfold dsE
  rw [h1]
theorem ws_exprX (h : Xe t ρ μ fun C ns es μ' => QO (.ex ρ C ns es) μ') : Ws (dsExpr t) ρ μ QO := ws_eX h
theorem ws_setX {i : Nat} (h : Xe t ρ μ fun C ns es μ' => QO (.ex ρ C ns es) μ') : Ws (dsSet i t) ρ μ QO := ws_eX h
theorem thn_ex {u : TO'} {C : Addr} {ns : List Str} {es : List D} (h : QO (.ex ρ C ns es) μ) : thn u QO (.ex ρ C ns es) μ := h
theorem endsX_ex {P : Addr → List Str → List D → Mu → Prop} {C : Addr} {ns : List Str} {es : List D} (h : P C ns es μ) : endsX P (.ex ρ C ns es) μ := h
def hndP (kx : KX) (ks : List Cl) (QO : Out → Mu → Prop) : Out → Mu → Prop
  | .ex ρ C ns es, μ => ∃ o μ', dHand kx ks ρ C ns es μ = some (o, μ') ∧ QO o μ'
  | o, μ => QO o μ
theorem ws_tryH {kx : KX} {ks : List Cl} (h : Ws s ρ μ (hndP kx ks QO)) : Ws (dsTryH kx ks s) ρ μ QO := by
  obtain ⟨o, μ1, h1, h2⟩ := h
  unfold Ws dsTryH
  rw [h1]
  cases o with
  | ex ρ C ns es => exact h2
  | _ => exact ⟨_, _, rfl, h2⟩
def finP (nm : Option Nat) (QO : Out → Mu → Prop) : Out → Mu → Prop
  | .nx ρ, μ => QO (.nx (Cl.clr nm ρ)) μ
  | .rt d, μ => QO (.rt d) μ
  | _, _ => False
theorem fin_ok {nm : Option Nat} (h : Ws s ρ μ (finP nm QO)) : ∃ o μ', Cl.fin nm (s ρ μ) = some (o, μ') ∧ QO o μ' := by
  obtain ⟨o, μ1, h1, h2⟩ := h
  rw [h1]
  cases o with
  | nx ρ => exact ⟨_, _, rfl, h2⟩
  | rt d => exact ⟨_, _, rfl, h2⟩
  | _ => exact h2.elim
theorem hnd_as' {kx : KX} {c C : Addr} {i : Nat} {S : List Addr} {ts : Addr → List Str → List D → TO'} {ks : List Cl} {ns : List Str} {es : List D} (hk : kxD kx C c = some true) (hS : C ∈ S) (hi : i < ρ.length) (h : Ws (ts C ns es) (ρ.set i none) μ (finP (some i) QO)) : hndP kx (⟨c, some i, S, ts⟩ :: ks) QO (.ex ρ C ns es) μ := by
  show ∃ o μ', dHand kx (⟨c, some i, S, ts⟩ :: ks) ρ C ns es μ = some (o, μ') ∧ QO o μ'
  unfold dHand
  rw [hk]
  show ∃ o μ', (if C ∈ S ∧ i < ρ.length then Cl.fin (some i) (ts C ns es (ρ.set i none) μ) else none) = some (o, μ') ∧ QO o μ'
  rw [if_pos ⟨hS, hi⟩]
  exact fin_ok h
theorem we_exF {f : Str} {ns : List Str} {es : List D} {d : D} (h : (ns.zip es).lookup f = some d) (q : Q d μ) : We (dExF f ns es) ρ μ Q := ⟨d, μ, by unfold dExF; rw [h], q⟩
theorem we_isX {kI : Kit} {C E : Addr} {b : Bool} (h : kitD kI (.ref C) (.ref E) = some b) (q : Q (.bl b) μ) : We (dIsX kI C E) ρ μ Q := ⟨.bl b, μ, by unfold dIsX; rw [h], q⟩
end
end DL

set_option Elab.async false
set_option linter.all false
set_option maxRecDepth 100000
set_option maxHeartbeats 4000000
set_option autoImplicit false
namespace DL
open PySem PySem.Spec L2
section
variable {ρ : Rho} {μ : Mu} {t u : TD} {tl : TL} {Q : D → Mu → Prop} {QL : List D → Mu → Prop} {QB : Bool → Mu → Prop} {QO : Out → Mu → Prop} {C : Addr} {m f : Str} {F : List D → M D} {n : Nat}
def metP (C : Addr) (m : Str) (d : D) (μ : Mu) (A : Prop) : Prop := ∃ ns ds, insD d μ = some (C, ns, ds) ∧ fldD ns ds m = none ∧ A
theorem we_methX (h : We t ρ μ fun d μ1 => metP C m d μ1 (We tl ρ μ1 fun es μ2 => es.length + 1 = n ∧ Wf' F (d :: es) μ2 Q)) : We (dMethX C m F n t tl) ρ μ Q := we_bind (h.mono fun d μ1 h => by
  obtain ⟨ns, ds, h1, h2, h3⟩ := h
  obtain ⟨es, μ2, h4, h5, h6⟩ := h3
  obtain ⟨r, μ3, h7, h8⟩ := h6
  refine ⟨r, μ3, ?_, h8⟩
  rw [h1]
  show (if C = C ∧ fldD ns ds m = none then M.bind (tl ρ) (fun es => if es.length + 1 = n then F (d :: es) else M.stuck) μ1 else none) = _
  rw [if_pos ⟨rfl, h2⟩]
  unfold M.bind
  rw [h4]
  show (if es.length + 1 = n then F (d :: es) else M.stuck) μ2 = _
  rw [if_pos h5]
  exact h7)
end
end DL

set_option Elab.async false
set_option linter.all false
set_option maxRecDepth 100000
set_option maxHeartbeats 4000000
set_option autoImplicit false
namespace DL
open PySem PySem.Spec L2
section
variable {ρ : Rho} {μ μ' μ'' : Mu} {QO : Out → Mu → Prop} {A B : Nat → Prop}
theorem dsplit {p : Prop} [Decidable p] {X Y : Prop} (h1 : p → X) (h2 : ¬ p → Y) : (decide p = true → X) ∧ (decide p = false → Y) := ⟨fun h => h1 (of_decide_eq_true h), fun h => h2 (of_decide_eq_false h)⟩
theorem dsplitN {p : Prop} [Decidable p] {X Y : Prop} (h1 : ¬ p → X) (h2 : p → Y) : ((!decide p) = true → X) ∧ ((!decide p) = false → Y) := ⟨fun h => h1 (by simpa using h), fun h => h2 (by simpa using h)⟩
theorem dT {b : Bool} {X Y : Prop} (hb : b = true) (h : X) : (b = true → X) ∧ (b = false → Y) := ⟨fun _ => h, fun e => by rw [hb] at e; cases e⟩
theorem dF {b : Bool} {X Y : Prop} (hb : b = false) (h : Y) : (b = true → X) ∧ (b = false → Y) := ⟨fun e => by rw [hb] at e; (cases e), fun _ => h⟩
theorem dsT {p : Prop} [Decidable p] {X Y : Prop} (hp : p) (h : X) : (decide p = true → X) ∧ (decide p = false → Y) := dT (decide_eq_true hp) h
theorem dnF {p : Prop} [Decidable p] {X Y : Prop} (hp : p) (h : Y) : ((!decide p) = true → X) ∧ ((!decide p) = false → Y) := dF (by simp [hp]) h
structure Gr (A : Nat → Prop) (μ μ' : Mu) : Prop where
  len : μ.length ≤ μ'.length
  eq : ∀ i, i < μ.length → ¬ A i → μ'[i]? = μ[i]?
theorem Gr.refl : Gr A μ μ := ⟨Nat.le_refl _, fun _ _ _ => rfl⟩
theorem Gr.trans (h : Gr A μ μ') (h' : Gr A μ' μ'') : Gr A μ μ'' := ⟨Nat.le_trans h.len h'.len, fun i hi ha => by rw [h'.eq i (Nat.lt_of_lt_of_le hi h.len) ha, h.eq i hi ha]⟩
theorem Gr.mono (h : Gr A μ μ') (k : ∀ i, i < μ.length → A i → B i) : Gr B μ μ' := ⟨h.len, fun i hi hb => h.eq i hi fun ha => hb (k i hi ha)⟩
theorem Gr.then (h : Gr A μ μ') (h' : Gr B μ' μ'') (k : ∀ i, i < μ.length → B i → A i) : Gr A μ μ'' := ⟨Nat.le_trans h.len h'.len, fun i hi ha => by rw [h'.eq i (Nat.lt_of_lt_of_le hi h.len) (fun hb => ha (k i hi hb)), h.eq i hi ha]⟩
theorem Gr.at {i : Nat} {m : MO} (h : Gr A μ μ') (e : μ[i]? = some m) (ha : ¬ A i) : μ'[i]? = some m := by rw [h.eq i (List.getElem?_eq_some_iff.mp e).1 ha, e]
theorem gr_app {ν : Mu} : Gr A μ (μ ++ ν) := ⟨by rw [List.length_append]; omega, fun i hi _ => List.getElem?_append_left hi⟩
theorem gr_set {k : Nat} {m : MO} : Gr (fun i => i = k) μ (μ.set k m) := ⟨by rw [List.length_set]; exact Nat.le_refl _, fun i _ h => List.getElem?_set_ne (Ne.symm h)⟩
theorem app_at {x : MO} : (μ ++ [x])[μ.length]? = some x := by simp
theorem set_at {k : Nat} {m : MO} (h : k < μ.length) : (μ.set k m)[k]? = some m := List.getElem?_set_self h
theorem Bs.self {k a : Nat} {xs : List Int} (h : μ[k]? = some (drw xs a)) : (Bs.mk μ k xs).at' a ++ [] = μ := by
  rw [List.append_nil]
  unfold Bs.at'
  obtain ⟨h1, h2⟩ := List.getElem?_eq_some_iff.mp h
  show μ.set k (drw xs a) = μ
  rw [← h2, List.set_getElem_self]
end
end DL

set_option Elab.async false
set_option linter.all false
set_option maxRecDepth 100000
set_option maxHeartbeats 4000000
set_option autoImplicit false
namespace DL
open PySem PySem.Spec L2
section
variable {ρ : Rho} {μ : Mu} {t u : TD} {tl : TL} {Q : D → Mu → Prop} {QL : List D → Mu → Prop} {QO : Out → Mu → Prop} {a : Addr} {tb : KTab}
end
end DL

set_option Elab.async false
set_option linter.all false
set_option maxRecDepth 100000
set_option maxHeartbeats 4000000
set_option autoImplicit false
namespace DL
open PySem PySem.Spec L2
section
variable {ρ : Rho} {μ : Mu} {t : TD} {Q : D → Mu → Prop}
theorem we_sliceT {lo hi : Rho → M (Option Int)} (h : We t ρ μ fun d μ1 => We lo ρ μ1 fun l μ2 => We hi ρ μ2 fun h μ3 => ∃ x, sliceTD l h d = some x ∧ Q x μ3) : We (dSliceT t lo hi) ρ μ Q := by
  obtain ⟨d, μ1, e1, l, μ2, e2, hh, μ3, e3, x, e4, q⟩ := h
  refine ⟨x, μ3, ?_, q⟩
  unfold dSliceT M.bind
  rw [e1]
  dsimp only
  rw [e2]
  dsimp only
  rw [e3]
  dsimp only
  rw [e4]
end
end DL

set_option Elab.async false
set_option linter.all false
set_option maxRecDepth 100000
set_option maxHeartbeats 4000000
set_option autoImplicit false
namespace DL
open PySem PySem.Spec L2
section
variable {ρ : Rho} {μ : Mu} {t : TD} {Q : D → Mu → Prop}
end
end DL

set_option Elab.async false
set_option linter.all false
set_option maxRecDepth 100000
set_option maxHeartbeats 4000000
set_option autoImplicit false
namespace DL
open PySem PySem.Spec L2
section
variable {ρ : Rho} {μ : Mu} {t ta tb : TD} {Q : D → Mu → Prop}
end
theorem eqF_self {d : D} (h : (∃ i, d = .int i) ∨ d = .non ∨ (∃ b, d = .bl b) ∨ ∃ s, d = .str s) : eqF d d = true := by
  rcases h with ⟨i, rfl⟩ | rfl | ⟨b, rfl⟩ | ⟨s, rfl⟩
  · exact decide_eq_true rfl
  · rfl
  · cases b <;> rfl
  · exact decide_eq_true rfl
theorem eqFs_self : ∀ {ds : List D}, (∀ d ∈ ds, eqF d d = true) → eqFs ds ds = true
  | [], _ => rfl
  | d :: ds, h => by
    unfold eqFs
    rw [h d (List.mem_cons_self ..), eqFs_self fun x hx => h x (List.mem_cons_of_mem _ hx)]; rfl
end DL

set_option Elab.async false
set_option linter.all false
set_option maxRecDepth 100000
set_option maxHeartbeats 4000000
set_option autoImplicit false
namespace DL
open PySem PySem.Spec L2
theorem lcI_run {γ : Type} {d : D} {ρ : Rho} {μ : Mu} {vs : List Nat} {gt : D → Rho → Option Rho} {te : TD} {xs : List γ} {enc f : γ → D} (h1 : lstM d μ = some (xs.map enc)) (hz : xs.length ≤ sizeLine)
    (hs : ∀ x ∈ xs, ∃ ρ1, gt (enc x) (wipeR ρ vs) = some ρ1 ∧ We te ρ1 μ fun y μ3 => y = f x ∧ μ3 = μ) : ∀ (n i : Nat) (acc : List D), i + n = xs.length + 1 → i ≤ xs.length → acc = (xs.take i).map f → lcI d vs gt dYes te ρ n i acc μ = some (.ok (xs.map f), μ)
  | 0, i, acc, e, hi, _ => by omega
  | n + 1, i, acc, e, hi, ha => by
    unfold lcI
    simp only [h1]
    by_cases hl : i < xs.length
    · have ex : (xs.map enc)[i]? = some (enc xs[i]) := by rw [List.getElem?_map, List.getElem?_eq_getElem hl]; rfl
      simp only [ex]
      obtain ⟨ρ1, g1, y, μ3, e1, hy, hm⟩ := hs xs[i] (List.getElem_mem hl)
      rw [hy, hm] at e1
      have hacc : acc.length < sizeLine := by rw [ha, List.length_map, List.length_take]; omega
      have ih := lcI_run h1 hz hs n (i + 1) (acc ++ [f xs[i]]) (by omega) (by omega) (by rw [ha, List.take_succ_eq_append_getElem hl, List.map_append]; rfl)
      simp only [g1]
      show M.bind (M.nx (te ρ1)) (fun y => if acc.length < sizeLine then lcI d vs gt dYes te ρ n (i + 1) (acc ++ [y]) else M.stuck) μ = _
      unfold M.bind M.nx
      rw [e1]
      show (if acc.length < sizeLine then lcI d vs gt dYes te ρ n (i + 1) (acc ++ [f xs[i]]) else M.stuck) μ = _
      rw [if_pos hacc]
      exact ih
    · have hx : (xs.map enc)[i]? = none := by rw [List.getElem?_eq_none_iff, List.length_map]; omega
      simp only [hx]
      have : i = xs.length := by omega
      rw [ha, this, List.take_length]
theorem we_lcI {γ : Type} {t : TD} {ρ : Rho} {μ : Mu} {QL : List D → Mu → Prop} {vs : List Nat} {gt : D → Rho → Option Rho} {te : TD} {xs : List γ} (enc f : γ → D)
    (h : We t ρ μ fun d μ1 => lstM d μ1 = some (xs.map enc) ∧ okW ρ vs = true ∧ xs.length ≤ sizeLine ∧ (∀ x ∈ xs, ∃ ρ1, gt (enc x) (wipeR ρ vs) = some ρ1 ∧ We te ρ1 μ1 fun y μ3 => y = f x ∧ μ3 = μ1) ∧ QL (xs.map f) μ1) :
    We (dLcI vs t gt dYes te) ρ μ QL := by
  obtain ⟨d, μ1, e1, h1, h2, h3, h4, h5⟩ := h
  refine ⟨xs.map f, μ1, ?_, h5⟩
  unfold dLcI M.bind
  rw [e1]
  simp only [h1]
  rw [if_pos h2, List.length_map]
  exact lcI_run h1 h3 h4 (xs.length + 1) 0 [] (by omega) (by omega) rfl
theorem we_neT {ta tb : TD} {ρ : Rho} {μ : Mu} {Q : D → Mu → Prop} (h : We ta ρ μ fun x μ1 => We tb ρ μ1 fun y μ2 => eqTopT μ2 x y = true ∧ Q (.bl false) μ2) : We (dNeT ta tb) ρ μ Q := we_bind (h.mono fun x μ1 h => we_bind (h.mono fun y μ2 h => by
  obtain ⟨h1, h2⟩ := h
  exact ⟨_, _, if_pos h1, h2⟩))
end DL

set_option Elab.async false
set_option linter.all false
set_option maxRecDepth 100000
set_option maxHeartbeats 4000000
set_option autoImplicit false
namespace K10
open PySem PySem.Spec L2 DL
variable {K : Fg} {μ : Mu} {Q : D → Mu → Prop} {b : Bs} {a : Nat} {ν : Mu}
theorem w_take {m : Int} (h : b.Ok) (w : ∀ a, Wf (b.at' a ++ ν)) (hm : 0 < m) (q : ∀ v a' : Nat, (v : Int) < m → Q (.int (v : Int)) (b.at' a' ++ ν)) : Wf' (S__law_take K) [.mref b.k, .int m] (b.at' a ++ ν) Q := by
  apply wf_draw w
  apply wf_run
  unfold B__law_take
  show Ws _ [some (.sh (.mref b.k)), some (.sh (.int m)), none] _ _
  have hk := h.dr (a := a) (ν := ν)
  (exists 1, hk, DL.atI_0, DL.atI_1)
  refine ⟨fun h1 => ?_, fun h1 => ?_⟩
  · (exists 1, DL.ws_seq)
    exact ⟨a, [], by simp, rfl, q 0 a hm⟩
  · have ha : a < b.xs.length := by
      have := of_decide_eq_false h1
      rw [List.length_map] at this
      omega
    have hv0 := Int.emod_nonneg b.xs[a] (Int.ne_of_gt hm)
    have hv1 := Int.emod_lt_of_pos b.xs[a] hm
    have e1 : ((a : Int) + 1) = ((a + 1 : Nat) : Int) := by omega
    have e2 : [D.int (a : Int), .lst (dZ b.xs)].set 0 (.int ((a : Int) + 1)) = [.int ((a + 1 : Nat) : Int), .lst (dZ b.xs)] := by rw [e1]; rfl
    have st : ∀ {Pm : Mu → Prop}, Pm (b.at' (a + 1) ++ ν) → ∃ k' z' ds' j', D.mref b.k = .mref k' ∧ D.int 0 = .int z' ∧ (b.at' a ++ ν)[k']? = some (.lst ds') ∧ ixN ds'.length z' = some j' ∧ Pm ((b.at' a ++ ν).set k' (.lst (ds'.set j' (.int ((a : Int) + 1))))) := by
      intro Pm hP
      refine ⟨b.k, 0, _, 0, rfl, rfl, hk, rfl, ?_⟩
      rw [e2, h.set]
      exact hP
    have hk2 := h.dr (a := a + 1) (ν := ν)
    have ax : atI (dZ b.xs) (a : Int) = some (.int b.xs[a]) := by rw [DL.atI_nat, List.getElem?_map, List.getElem?_eq_getElem ha]; rfl
    (exists 1, st, hk2, DL.atI_0, DL.atI_1, ax, hm)
    refine ⟨a + 1, [], by simp, rfl, ?_⟩
    have := q (b.xs[a] % m).toNat (a + 1) (by omega)
    rw [Int.toNat_of_nonneg hv0] at this
    exact this
end K10

set_option Elab.async false
set_option linter.all false
set_option maxRecDepth 100000
set_option maxHeartbeats 4000000
set_option autoImplicit false
namespace K10
open PySem PySem.Spec L2 DL
variable {K : Fg} {μ : Mu} {Q : D → Mu → Prop} {QO : Out → Mu → Prop}
abbrev bigBody : TO' := dsIf (dTest (dBin gGt (dVar 3) (dC (.int 0)))) (dsSeq (dsAppM (dVar 1) (dBin gMod (dInt (dVar 3)) (dC (.int 30)))) (dsSet 3 (dBin gDiv (dVar 3) (dC (.int 30))))) (dsNext)
abbrev mixBody : TO' := dsSeq (dsSet 6 (dBin gMod (dInt (dBin gAdd (dBin gAdd (dBin gMul (dVar 6) (dC (.int 69621))) (dBin gDiv (dVar 6) (dC (.int 1000)))) (dVar 5))) (dC (.int 2147483647)))) (dsAppM (dVar 1) (dBin gDiv (dVar 6) (dC (.int 8))))
abbrev drTail : TO' := dsIf (dTest (dBin gGe (dVar 3) (dBin gPow (dC (.int 10)) (dC (.int 18))))) (dsFor (dRng1 (dC (.int 45))) (gtName 5) bigBody) (dsSeq (dsSet 6 (dBin gMod (dInt (dBin gAdd (dBin gAdd (dBin gAdd (dBin gMul (dVar 3) (dC (.int 16807))) (dBin gMul (dVar 4) (dC (.int 911)))) (dBin gMul (dVar 2) (dC (.int 7919)))) (dC (.int 13)))) (dC (.int 2147483647)))) (dsFor (dRng1 (dC (.int 6))) (gtName 5) mixBody))
theorem cmulR {a b : Int} (h1 : -(2 ^ 64) < b) (h2 : b < 2 ^ 64) : CMul a b := .inr ⟨h1, h2⟩
theorem cdiv {a b : Int} (h1 : 0 < b) (h2 : b < 1073741824) : CDiv a b := ⟨h1, h2⟩
theorem w_tail {n s : D} {k c sg : Int} {s5 s6 : Option Sl} {xs : List Int} (hl : xs.length < 10000)
    (q : ∀ t3 t4 t5 t6 xs', xs'.length ≤ xs.length + 45 → QO (.nx [some (.sh s), some (.sh (.mref 0)), some (.sh (.int k)), t3, t4, t5, t6]) [.lst (dZ xs')]) :
    Ws drTail [some (.sh s), some (.sh (.mref 0)), some (.sh (.int k)), some (.sh (.int c)), some (.sh (.int sg)), s5, s6] [.lst (dZ xs)] QO := by
  have p18 : CPow 10 18 := ⟨by decide, by decide, by decide⟩
  have h45 : (0 : Int) ≤ 45 := by decide
  have h45' : (45 : Int) < 1000000 := by decide
  have h6 : (0 : Int) ≤ 6 := by decide
  have h6' : (6 : Int) < 1000000 := by decide
  have m1 : ∀ a, CMul a 16807 := fun a => cmulR (by decide) (by decide)
  have m2 : ∀ a, CMul a 911 := fun a => cmulR (by decide) (by decide)
  have m3 : ∀ a, CMul a 7919 := fun a => cmulR (by decide) (by decide)
  have m4 : ∀ a, CMul a 69621 := fun a => cmulR (by decide) (by decide)
  have d1 : (0 : Int) < 2147483647 := by decide
  have d2 : ∀ a, CDiv a 1000 := fun a => cdiv (by decide) (by decide)
  have d3 : ∀ a, CDiv a 8 := fun a => cdiv (by decide) (by decide)
  have d4 : ∀ a, CDiv a 30 := fun a => cdiv (by decide) (by decide)
  have d5 : (0 : Int) < 30 := by decide
  (exists 2, p18, h45, h45')
  refine ⟨fun h1 => ?_, fun h1 => ?_⟩
  · (exists 2, h45, h45')
    refine ⟨fun i ρ μ' => ∃ c' t5 xs', xs'.length ≤ xs.length + i ∧ ρ = [some (.sh s), some (.sh (.mref 0)), some (.sh (.int k)), some (.sh (.int c')), some (.sh (.int sg)), t5, s6] ∧ μ' = [.lst (dZ xs')], ⟨c, s5, xs, by omega, rfl, rfl⟩, ?_, ?_⟩
    · rintro i d ρ μ' hd ⟨c', t5, xs', hx, rfl, rfl⟩
      obtain ⟨hi, rfl⟩ := rng_at hd
      have hi : i < 45 := hi
      (exists 2, DL.ws_seq)
      refine ⟨fun h2 => ?_, fun h2 => ?_⟩
      · have e0 : ([MO.lst (dZ xs')] : Mu)[0]? = some (.lst (dZ xs')) := rfl
        have hz : (dZ xs').length < sizeLine := by rw [List.length_map]; simp [sizeLine]; omega
        (exists 2, d4, d5, e0, hz)
        exact ⟨_, _, xs' ++ [c' % 30], by simp; omega, rfl, by simp⟩
      · (exists 2, DL.ws_seq)
        exact ⟨_, _, xs', by omega, rfl, rfl⟩
    · rintro ρ μ' ⟨c', t5, xs', hx, rfl, rfl⟩
      exact q _ _ _ _ xs' (by rw [rng_len] at hx; exact hx)
  · (exists 2, m1, m2, m3, d1, h6, h6')
    refine ⟨fun i ρ μ' => ∃ c' t5 xs', xs'.length ≤ xs.length + i ∧ ρ = [some (.sh s), some (.sh (.mref 0)), some (.sh (.int k)), some (.sh (.int c)), some (.sh (.int sg)), t5, some (.sh (.int c'))] ∧ μ' = [.lst (dZ xs')], ⟨_, s5, xs, by omega, rfl, rfl⟩, ?_, ?_⟩
    · rintro i d ρ μ' hd ⟨c', t5, xs', hx, rfl, rfl⟩
      obtain ⟨hi, rfl⟩ := rng_at hd
      have hi : i < 6 := hi
      have e0 : ([MO.lst (dZ xs')] : Mu)[0]? = some (.lst (dZ xs')) := rfl
      have hz : (dZ xs').length < sizeLine := by rw [List.length_map]; simp [sizeLine]; omega
      (exists 2, m4, d1, d2, d3, e0, hz)
      exact ⟨_, _, xs' ++ [_], by simp; omega, rfl, by simp; rfl⟩
    · rintro ρ μ' ⟨c', t5, xs', hx, rfl, rfl⟩
      exact q _ _ _ _ xs' (by rw [rng_len] at hx; have : Int.toNat 6 = 6 := rfl; omega)
theorem w_draws {ns : List Int} (h : ns.length ≤ 63) (q : ∀ xs : List Int, xs.length ≤ 3000 → Q (.mref 1) [.dead, drw xs 0]) : Wf' (S__law_draws K) [.rd (dZ ns)] [] Q := by
  apply wf_run
  unfold B__law_draws
  show Ws _ [some (.sh (.rd (dZ ns))), none, none, none, none, none, none] _ _
  have hm : (if (63 : Int) < ((dZ ns).length : Int) then (63 : Int) else ((dZ ns).length : Int)) = (ns.length : Int) := by
    rw [List.length_map, if_neg (by omega)]
  have h1 : ns.length < 1000000 := by omega
  (exists 3, DL.ws_seq)
  · rw [hm]; omega
  · rw [hm]; omega
  rw [hm, Int.toNat_natCast]
  refine ⟨fun i ρ μ' => ∃ s2 s3 s4 s5 s6 xs, xs.length ≤ 45 * i ∧ ρ = [some (.sh (.rd (dZ ns))), some (.sh (.mref 0)), s2, s3, s4, s5, s6] ∧ μ' = [.lst (dZ xs)], ⟨_, _, _, _, _, [], by simp, rfl, rfl⟩, ?_, ?_⟩
  · rintro i d ρ μ' hd ⟨s2, s3, s4, s5, s6, xs, hx, rfl, rfl⟩
    obtain ⟨hi, rfl⟩ := rng_at hd
    have ax : atI (dZ ns) (i : Int) = some (.int ns[i]) := by rw [DL.atI_nat, List.getElem?_map, List.getElem?_eq_getElem hi]; rfl
    have hl : xs.length < 10000 := by omega
    (exists 3, ax)
    refine ⟨fun h2 => ?_, fun h2 => ?_⟩
    · (exists 3, w_tail (n := .non) hl)
      intro t3 t4 t5 t6 xs' hx'
      (exists 3, DL.ws_seq)
      exact ⟨_, _, _, _, _, xs', by omega, rfl, rfl⟩
    · (exists 3, w_tail (n := .non) hl)
      intro t3 t4 t5 t6 xs' hx'
      (exists 3, DL.ws_seq)
      exact ⟨_, _, _, _, _, xs', by omega, rfl, rfl⟩
  · rintro ρ μ' ⟨s2, s3, s4, s5, s6, xs, hx, rfl, rfl⟩
    rw [rng_len] at hx
    have e0 : ([MO.lst (dZ xs)] : Mu)[0]? = some (.lst (dZ xs)) := rfl
    (exists 3, e0)
    exact q xs (by omega)
end K10

set_option Elab.async false
set_option linter.all false
set_option maxRecDepth 100000
set_option maxHeartbeats 4000000
set_option autoImplicit false
namespace K10
open PySem PySem.Spec L2 DL
variable {K : Fg} {μ μ' : Mu} {Q : D → Mu → Prop} {k : Nat} {A : Nat → Prop}
def DR (μ : Mu) (k : Nat) : Prop := ∃ xs a, μ[k]? = some (drw xs a)
theorem DR.gr (h : DR μ k) (g : Gr A μ μ') (ha : ¬ A k) : DR μ' k := by
  obtain ⟨xs, a, e⟩ := h
  exact ⟨xs, a, g.at e ha⟩
theorem DR.low {n : Nat} {m : MO} (h : DR μ k) (e : μ[k]? = some m) : m.low n = true := by
  obtain ⟨xs, a, e'⟩ := h
  rw [e'] at e
  cases e
  exact low_drw xs a
theorem DR.lt (h : DR μ k) : k < μ.length := by
  obtain ⟨xs, a, e⟩ := h
  exact (List.getElem?_eq_some_iff.mp e).1
theorem t_take {m : Int} (wf : Wf μ) (h : DR μ k) (hm : 0 < m) (q : ∀ (v : Nat) (μ' : Mu), (v : Int) < m → Wf μ' → Gr (fun i => i = k) μ μ' → DR μ' k → Q (.int (v : Int)) μ') : Wf' (S__law_take K) [.mref k, .int m] μ Q := by
  obtain ⟨xs, a, e⟩ := h
  have hk := (List.getElem?_eq_some_iff.mp e).1
  have ok : (Bs.mk μ k xs).Ok := ⟨wf, hk⟩
  have self := Bs.self e
  have key := w_take (K := K) (b := Bs.mk μ k xs) (a := a) (ν := []) (m := m) (Q := Q) ok (fun a => by rw [List.append_nil]; exact ok.wf a) hm (fun v a' hv => by
    rw [List.append_nil]
    exact q v _ hv (ok.wf a') gr_set ⟨xs, a', set_at hk⟩)
  rw [self] at key
  exact key
theorem shl_nat' (j : Nat) : (1 : Int) * 2 ^ ((j : Nat) : Int).toNat = ((2 ^ j : Nat) : Int) := by rw [Int.one_mul, Int.toNat_natCast]; simp
end K10

set_option Elab.async false
set_option linter.all false
set_option maxRecDepth 100000
set_option maxHeartbeats 4000000
set_option autoImplicit false
namespace K10
open PySem PySem.Spec L2 DL
variable {K : Fg} {μ : Mu} {Q : D → Mu → Prop}
theorem str_at {z : Str} {j : Nat} (h : j < z.length) : atI z.cps.toList (j : Int) = some (z.cps.toList.getD j 0) := by
  have h' : j < z.cps.toList.length := by rw [Array.length_toList]; exact h
  rw [DL.atI_nat, List.getD_eq_getElem?_getD, List.getElem?_eq_getElem h']
  rfl
theorem ex_ixS {z : Str} {j : Nat} {P : Nat → Prop} (hl : z.length ≤ sizeLine) (h : j < z.length) (q : P (z.cps.toList.getD j 0)) : ∃ z' i c, D.str z = .str z' ∧ D.int (j : Int) = .int i ∧ z'.length ≤ sizeLine ∧ atI z'.cps.toList i = some c ∧ P c := ⟨z, _, _, rfl, rfl, hl, str_at h, q⟩
abbrev dS (ps : List Str) : List D := ps.map D.str
theorem dS_at {ps : List Str} {i : Nat} {d : D} (h : (dS ps)[i]? = some d) : ∃ z, ps[i]? = some z ∧ d = .str z := by
  rw [List.getElem?_map] at h
  obtain ⟨c, h1, h2⟩ := Option.map_eq_some_iff.mp h
  exact ⟨c, h1, h2.symm⟩
theorem take_at {α : Type} {xs : List α} {i : Nat} {x : α} (h : xs[i]? = some x) : xs.take (i + 1) = xs.take i ++ [x] := by
  obtain ⟨h1, h2⟩ := List.getElem?_eq_some_iff.mp h
  rw [List.take_succ_eq_append_getElem h1, h2]
theorem at_dS {ps : List Str} {i : Nat} (h : i < ps.length) : atI (dS ps) (i : Int) = some (.str (ps.getD i "")) := by
  rw [DL.atI_nat, List.getElem?_map, List.getD_eq_getElem?_getD, List.getElem?_eq_getElem h]
  rfl
theorem strs_dS : ∀ {ps : List Str}, D.strs (dS ps) = some ps
  | [] => rfl
  | z :: ps => by
    show (D.strs (dS ps)).map (z :: ·) = _
    rw [strs_dS]
    rfl
theorem app_cps (x y : Str) : (x ++ y).cps.toList = x.cps.toList ++ y.cps.toList := by
  show (x.cps ++ y.cps).toList = _
  exact Array.toList_append
theorem join_cps : ∀ ps : List Str, (Str.join ⟨#[]⟩ ps).cps.toList = (ps.map fun z => z.cps.toList).flatten
  | [] => rfl
  | z :: ps => by
    rw [PyProof.Rows.join_nil_cons, app_cps, join_cps ps]
    rfl
theorem cnt_count (c : Nat) : ∀ l : List Nat, PyProof.Rows.cnt c l = (l.count c : Nat)
  | [] => rfl
  | n :: r => by
    rw [PyProof.Rows.cnt_cons, cnt_count c r, List.count_cons]
    by_cases h : n = c
    · subst h; simp; omega
    · simp [h]
theorem count_sign (x : Str) (c : Nat) : Txt.count x ⟨#[c]⟩ = (x.cps.toList.count c : Nat) := by
  rw [PyProof.Rows.count_cnt, cnt_count]
theorem sgn_eq {c k : Nat} : ((⟨#[c]⟩ : Str) = ⟨#[k]⟩) ↔ c = k := by
  constructor
  · intro h
    injection h with h
    injection h with h
    injection h
  · rintro rfl; rfl
theorem count_flat (c : Nat) : ∀ ps : List Str, ((ps.map fun z => z.cps.toList).flatten).count c = (ps.map fun z => z.cps.toList.count c).sum
  | [] => rfl
  | z :: ps => by
    rw [List.map_cons, List.flatten_cons, List.count_append, count_flat c ps]
    rfl
theorem len_sum {n : Nat} : ∀ {ps : List Str}, (∀ z ∈ ps, z.length = n) → (ps.map fun z => z.length).sum = ps.length * n
  | [], _ => by simp
  | z :: ps, h => by
    have ih := len_sum (ps := ps) fun y hy => h y (List.mem_cons_of_mem _ hy)
    simp only [List.map_cons, List.sum_cons, List.length_cons, Nat.succ_mul, ih, h z (List.mem_cons_self ..)]
    omega
theorem HTx_join (a : Str) (ps : List Str) : Txt.join a ps = Str.join a ps := PySem.StrLaws.glued_eq_join a ps
theorem low_dS {n : Nat} (ps : List Str) : D.lowAll n (dS ps) = true := low_all D.str (fun _ => rfl) ps
end K10

set_option Elab.async false
set_option linter.all false
set_option maxRecDepth 100000
set_option maxHeartbeats 4000000
set_option autoImplicit false
namespace K10
open PySem PySem.Spec L2 DL
variable {K : Fg} {μ : Mu} {Q : D → Mu → Prop}
def cntP (c : Nat) (ps : List Str) : Nat := (ps.map fun z => z.cps.toList.count c).sum
def signD (c : Nat) : D := .str ⟨#[c]⟩
def letD (ps : List Str) (c : Nat) : D := .tup [.str ⟨#[c]⟩, .int (cntP c ps : Nat)]
def lettersP (ps : List Str) : List D := ([97, 98, 99, 109, 110].filter fun c => decide (0 < cntP c ps)).map (letD ps)
theorem cnt_join {ps : List Str} {c : Nat} : Txt.count (Txt.join "" ps) (⟨#[c]⟩ : Str) = (cntP c ps : Nat) := by
  have ha : ("" : Str) = ⟨#[]⟩ := rfl
  rw [count_sign, HTx_join, ha, join_cps, count_flat]
  rfl
theorem mem_join {ps : List Str} {c : Nat} : (c ∈ (Txt.join "" ps).cps.toList) ↔ 0 < cntP c ps := by
  have ha : ("" : Str) = ⟨#[]⟩ := rfl
  rw [HTx_join, ha, join_cps, ← List.count_pos_iff, count_flat]
  rfl
theorem w_letters_of {ps : List Str} {n : Nat} {d : D} (hd : ∀ ρ : Rho, qv (.val d) ρ μ = some (dS ps)) (w : Wf μ) (hz : ∀ z ∈ ps, z.length = n) (hn : n < 1000) (hl : ps.length ≤ 3) (q : Q (.tup (lettersP ps)) μ) : Wf' (S_letters_of K) [d] μ Q := by
  apply wf_keep w
  apply wf_run
  unfold B_letters_of
  show Ws _ [some (.sh d), none, none] _ _
  have ha : ("" : Str) = ⟨#[]⟩ := rfl
  have key : ∀ {ρ : Rho} {P : List Str → Prop}, P ps → ∃ ds ys, qv (.val d) ρ μ = some ds ∧ D.strs ds = some ys ∧ (ys.map (·.length)).sum + ys.length * ("" : Str).length ≤ 16777216 ∧ P ys := by
    intro ρ P h
    have hb : (ps.map (·.length)).sum + ps.length * ("" : Str).length ≤ 16777216 := by
      have e : ("" : Str).length = 0 := rfl
      rw [len_sum hz, e, Nat.mul_zero, Nat.add_zero]
      have : ps.length * n ≤ 3 * 1000 := Nat.mul_le_mul hl (by omega)
      omega
    exact ⟨_, ps, hd _, strs_dS, hb, h⟩
  (exists 4, key, we_lcR (xs := [97, 98, 99, 109, 110]) signD (letD ps) (fun c => decide (0 < cntP c ps)))
  refine ⟨rfl, rfl, by decide, fun c hc => ⟨_, rfl, ?_⟩, ?_⟩
  · show We _ [some (.sh d), some (.sh (.str (Txt.join "" ps))), some (.sh (.str ⟨#[c]⟩))] _ _
    (exists 4, DL.ws_seq)
    refine ⟨decide_eq_decide.mpr mem_join, rfl, fun _ => ?_⟩
    show We _ [some (.sh d), some (.sh (.str (Txt.join "" ps))), some (.sh (.str ⟨#[c]⟩))] _ _
    (exists 4, DL.ws_seq)
    rw [cnt_join]
    exact ⟨rfl, rfl⟩
  · have this : ∀ cs : List Nat, D.lowAll μ.length (cs.map (letD ps)) = true := fun cs => low_all (letD ps) (fun _ => rfl) cs
    have low : D.low μ.length (.tup (lettersP ps)) = true := this _
    (exists 4, DL.ws_seq)
    exact ⟨⟨[], by simp⟩, low, q⟩
section
variable {P : Bool → Prop} {S : List Addr} {i : Int} {z : Str} {b : Bool} {ds : List D}
theorem is_int (h : P true) : ∃ ty c b, tyD S (.int i) μ = some ty ∧ clsD (.ty "int") = some c ∧ kitD (kits K) ty c = some b ∧ P b := ⟨_, _, true, rfl, rfl, by simp [kitD, kits], h⟩
theorem is_bool (h : P false) : ∃ ty c b, tyD S (.int i) μ = some ty ∧ clsD (.ty "bool") = some c ∧ kitD (kits K) ty c = some b ∧ P b := ⟨_, _, false, rfl, rfl, by simp [kitD, kits], h⟩
theorem is_str (h : P true) : ∃ ty c b, tyD S (.str z) μ = some ty ∧ clsD (.ty "str") = some c ∧ kitD (kits K) ty c = some b ∧ P b := ⟨_, _, true, rfl, rfl, by simp [kitD, kits], h⟩
theorem is_ltM {k : Nat} (hk : μ[k]? = some (.lst ds)) (h : P true) : ∃ es ty cs b, D.tup [.ty "list", .ty "tuple"] = .tup es ∧ tyD S (.mref k) μ = some ty ∧ clsDs es = some cs ∧ kitAnyD (kits K) ty cs = some b ∧ P b := ⟨_, _, _, true, rfl, by
  show (match μ[k]? with
    | some (.lst _) => some (Value.type "list")
    | some (.dk _ _) => some (Value.type "dict")
    | some (.dt _ _) => some (Value.type "dict")
    | some (.ins C _ _) => _
    | _ => none) = _
  rw [hk], rfl, by simp [kitAnyD, kitD, kits], h⟩
theorem is_lt (h : P true) : ∃ es ty cs b, D.tup [.ty "list", .ty "tuple"] = .tup es ∧ tyD S (.lst ds) μ = some ty ∧ clsDs es = some cs ∧ kitAnyD (kits K) ty cs = some b ∧ P b := ⟨_, _, _, true, rfl, rfl, rfl, by simp [kitAnyD, kitD, kits], h⟩
end
theorem w_is_integer {i : Int} (w : Wf μ) (q : Q (.bl true) μ) : Wf' (S_is_integer K) [.int i] μ Q := by
  apply wf_keep w
  apply wf_run
  unfold B_is_integer
  show Ws _ [some (.sh (.int i))] _ _
  (exists 5, is_int, is_bool)
  exact ⟨⟨[], by simp⟩, rfl, q⟩
theorem w_law_is_int {i : Int} (w : Wf μ) (q : Q (.bl true) μ) : Wf' (S__law_is_int K) [.int i] μ Q := by
  apply wf_keep w
  apply wf_run
  unfold B__law_is_int
  show Ws _ [some (.sh (.int i))] _ _
  (exists 5, is_int, is_bool)
  exact ⟨⟨[], by simp⟩, rfl, q⟩
theorem w_check_int {i lo hi : Int} {name : Str} (w : Wf μ) (h1 : lo ≤ i) (h2 : i ≤ hi) (q : Q (.int i) μ) : Wf' (S_check_int K) [.int i, .int lo, .int hi, .str name] μ Q := by
  apply wf_keep w
  apply wf_run
  unfold B_check_int
  show Ws _ [some (.sh (.int i)), some (.sh (.int lo)), some (.sh (.int hi)), some (.sh (.str name))] _ _
  have e1 : decide (i < lo) = false := decide_eq_false (by omega)
  have e2 : decide (hi < i) = false := decide_eq_false (by omega)
  (exists 6, w_is_integer (K := K) w)
  rw [e1]
  (exists 6, DL.ws_seq)
  rw [e2]
  (exists 6, DL.ws_seq)
  exact ⟨⟨[], by simp⟩, rfl, q⟩
theorem w_ones {n : Nat} (w : Wf μ) (hn : n ≤ 64) (q : Q (.int ((2 : Int) ^ n - 1)) μ) : Wf' (S_ones K) [.int (n : Int)] μ Q := by
  apply wf_keep w
  apply wf_run
  unfold B_ones
  show Ws _ [some (.sh (.int (n : Int)))] _ _
  have h0 : (0 : Int) ≤ (n : Int) := by omega
  have h1 : (n : Int) ≤ 64 := by omega
  have hc : CPow 1 (n : Int) := ⟨by omega, by omega, by decide⟩
  (exists 7, w_check_int (K := K) w h0 h1, hc)
  refine ⟨⟨[], by simp⟩, rfl, ?_⟩
  rw [Int.one_mul, Int.toNat_natCast]
  exact q
end K10

set_option Elab.async false
set_option linter.all false
set_option maxRecDepth 100000
set_option maxHeartbeats 4000000
set_option autoImplicit false
namespace K10
open PySem PySem.Spec L2 DL
variable {K : Fg} {μ : Mu} {Q : D → Mu → Prop}
section
variable {A B : Prop} {b : Bool} {x y : Int}
theorem pF (hb : b = false) (h : B) : (b = true → A) ∧ (b = false → B) := ⟨fun e => (by rw [hb] at e; cases e), fun _ => h⟩
theorem pnT (hb : b = true) (h : B) : ((!b) = true → A) ∧ ((!b) = false → B) := by subst hb; exact ⟨fun e => (by cases e), fun _ => h⟩
theorem chY (hb : x ≤ y) (h : A) : ∃ q, gLe (.int x) (.int y) = some (.bl q) ∧ (q = true → A) ∧ (q = false → B) := ⟨true, by show some (D.bl (decide _)) = _; rw [decide_eq_true hb], fun _ => h, fun e => by cases e⟩
end
structure OkP (n e : Nat) (ps : List Str) : Prop where
  l0 : 1 ≤ ps.length
  l1 : ps.length ≤ 3
  z : ∀ z ∈ ps, z.length = n
  s : ∀ z ∈ ps, ∀ c ∈ z.cps.toList, c ∈ ("01abcmn" : Str).cps.toList
  ab : ∀ c ∈ ("abc" : Str).cps.toList, cntP c ps ≤ e
  mn : ∀ c ∈ ("mn" : Str).cps.toList, cntP c ps ≤ n
theorem bls_const : ∀ l : List Nat, D.bls ((l.filter fun _ => true).map fun _ => D.bl true) = some (l.map fun _ => true)
  | [] => rfl
  | c :: l => by
    have ih := bls_const l
    have e : (c :: l).filter (fun _ => true) = c :: l.filter (fun _ => true) := rfl
    rw [e, List.map_cons]
    show (D.bls _).map (true :: ·) = _
    rw [ih]
    rfl
theorem all_const : ∀ l : List Nat, (l.map fun _ => true).all id = true
  | [] => rfl
  | c :: l => by
    rw [List.map_cons, List.all_cons, all_const l]
    rfl
theorem qvM {k : Nat} {ds : List D} {ρ : Rho} (hk : μ[k]? = some (.lst ds)) : qv (.val (.mref k)) ρ μ = some ds := by simp [hk]
theorem w_good {ps : List Str} {n e p : Nat} {R : Int} (w : Wf μ) (hp : μ[p]? = some (.lst (dS ps))) (h : OkP n e ps) (hn : n < 1000) (he : (2 : Int) ^ e ≤ R) (he' : e ≤ 100) (q : Q (.bl true) μ) : Wf' (S_good_patterns K) [.int (n : Int), .int R, .mref p] μ Q := by
  apply wf_keep w
  apply wf_run
  unfold B_good_patterns
  show Ws _ [some (.sh (.int (n : Int))), some (.sh (.int R)), some (.sh (.mref p)), none, none, none, none] _ _
  have hl : ((dS ps).length : Int) = (ps.length : Int) := by rw [List.length_map]
  have h0 := h.l0
  have h1 := h.l1
  have c1 : (1 : Int) ≤ ((dS ps).length : Int) := by omega
  have c2 : decide (((dS ps).length : Int) ≤ 3) = true := decide_eq_true (by omega)
  (exists 8, is_ltM hp, hp, chY c1, pnT c2, ws_forM (k := p) (ds := dS ps))
  refine ⟨rfl, fun i ρ μ' => (∃ s3, ρ = [some (.sh (.int (n : Int))), some (.sh (.int R)), some (.sh (.mref p)), s3, none, none, none]) ∧ μ' = μ, ⟨⟨_, rfl⟩, rfl⟩, fun i ρ μ' h => by rw [h.2]; exact hp, ?_, ?_⟩
  · rintro i d ρ μ' hd ⟨⟨s3, rfl⟩, rfl⟩
    obtain ⟨z, hz, rfl⟩ := dS_at hd
    have hzm := List.mem_of_getElem? hz
    have lz := h.z z hzm
    have sz : z.length ≤ sizeLine := by rw [lz]; simp [sizeLine]; omega
    have e1 : (!decide ((z.length : Int) = (n : Int))) = false := by rw [lz]; simp
    (exists 8, is_str, sz, pF e1, we_lcR (xs := z.cps.toList) signD (fun _ => D.bl true) (fun _ => true))
    refine ⟨rfl, rfl, by rw [Array.length_toList]; exact sz, fun c hc => ⟨_, rfl, ?_⟩, ?_⟩
    · (exists 8, DL.ws_seq)
      refine ⟨rfl, rfl, fun _ => ?_⟩
      show We _ [some (.sh (.int (n : Int))), some (.sh (.int R)), some (.sh (.mref p)), some (.sh (.str z)), none, none, some (.sh (.str ⟨#[c]⟩))] _ _
      (exists 8, DL.ws_seq)
      exact ⟨by rw [decide_eq_true (h.s z hzm c hc)], rfl⟩
    · refine ⟨_, bls_const _, ?_⟩
      rw [all_const]
      (exists 8, DL.ws_seq)
      exact ⟨⟨_, rfl⟩, rfl⟩
  · rintro ρ μ' ⟨⟨s3, rfl⟩, rfl⟩
    (exists 8, w_letters_of (K := K) (n := n) (fun ρ => qvM hp) w h.z hn h.l1)
    refine ⟨fun i ρ μ2 => (∃ s4 s5, ρ = [some (.sh (.int (n : Int))), some (.sh (.int R)), some (.sh (.mref p)), s3, s4, s5, none]) ∧ μ2 = μ', ⟨⟨_, _, rfl⟩, rfl⟩, ?_, ?_⟩
    · rintro i d ρ μ2 hd ⟨⟨s4, s5, rfl⟩, rfl⟩
      unfold lettersP at hd
      rw [List.getElem?_map] at hd
      obtain ⟨c, hc, rfl⟩ := Option.map_eq_some_iff.mp hd
      have hlen : [D.str (⟨#[c]⟩ : Str), .int (cntP c ps : Nat)].length = 2 := rfl
      have p0 : CPow 1 (cntP c ps : Nat) → True := fun _ => trivial
      unfold letD
      (exists 8, hlen)
      refine ⟨fun h2 => ?_, fun h2 => ?_⟩
      · have hle := h.ab c (of_decide_eq_true h2)
        have hpw : CPow 1 ((cntP c ps : Nat) : Int) := ⟨by omega, by omega, by decide⟩
        have hpow : (2 : Int) ^ cntP c ps ≤ R := Int.le_trans (by exact_mod_cast Nat.pow_le_pow_right (by decide) hle) he
        have e2 : decide (R < 1 * 2 ^ ((cntP c ps : Nat) : Int).toNat) = false := decide_eq_false (by rw [Int.one_mul, Int.toNat_natCast]; omega)
        (exists 8, hpw, pF e2)
        refine ⟨fun h3 => ?_, fun h3 => ?_⟩
        · have hle2 := h.mn c (of_decide_eq_true h3)
          have e3 : decide ((n : Int) < ((cntP c ps : Nat) : Int)) = false := decide_eq_false (by omega)
          (exists 8, pF e3)
          exact ⟨⟨_, _, rfl⟩, rfl⟩
        · (exists 8, DL.ws_seq)
          exact ⟨⟨_, _, rfl⟩, rfl⟩
      · (exists 8, DL.ws_seq)
        refine ⟨fun h3 => ?_, fun h3 => ?_⟩
        · have hle2 := h.mn c (of_decide_eq_true h3)
          have e3 : decide ((n : Int) < ((cntP c ps : Nat) : Int)) = false := decide_eq_false (by omega)
          (exists 8, pF e3)
          exact ⟨⟨_, _, rfl⟩, rfl⟩
        · (exists 8, DL.ws_seq)
          exact ⟨⟨_, _, rfl⟩, rfl⟩
    · rintro ρ μ2 ⟨⟨s4, s5, rfl⟩, rfl⟩
      (exists 8, DL.ws_seq)
      exact ⟨⟨[], by simp⟩, rfl, q⟩
structure OkN (z : Str) : Prop where
  l0 : 1 ≤ z.length
  l1 : z.length ≤ 8
  s : ∀ c ∈ z.cps.toList, c ∈ ("abcdefghijklmnopqrstuvwxyz" : Str).cps.toList
theorem w_small {z : Str} (w : Wf μ) (h : OkN z) (q : Q (.bl true) μ) : Wf' (S_is_small_word K) [.str z] μ Q := by
  apply wf_keep w
  apply wf_run
  unfold B_is_small_word
  show Ws _ [some (.sh (.str z)), none] _ _
  have h0 := h.l0
  have h1 := h.l1
  have sz : z.length ≤ sizeLine := by simp [sizeLine]; omega
  have c1 : (1 : Int) ≤ (z.length : Int) := by omega
  have c2 : decide ((z.length : Int) ≤ 8) = true := decide_eq_true (by omega)
  (exists 9, is_str, sz, chY c1, pnT c2, we_lcR (xs := z.cps.toList) signD (fun _ => D.bl true) (fun _ => true))
  refine ⟨rfl, rfl, by rw [Array.length_toList]; exact sz, fun c hc => ⟨_, rfl, ?_⟩, ?_⟩
  · (exists 9, DL.ws_seq)
    refine ⟨rfl, rfl, fun _ => ?_⟩
    show We _ [some (.sh (.str z)), some (.sh (.str ⟨#[c]⟩))] _ _
    (exists 9, DL.ws_seq)
    exact ⟨by rw [decide_eq_true (h.s c hc)], rfl⟩
  · refine ⟨_, bls_const _, ?_⟩
    rw [all_const]
    (exists 9, DL.ws_seq)
    exact ⟨⟨[], by simp⟩, rfl, q⟩
end K10

set_option Elab.async false
set_option linter.all false
set_option maxRecDepth 100000
set_option maxHeartbeats 4000000
set_option autoImplicit false
namespace K10
open PySem PySem.Spec L2 DL
variable {K : Fg} {μ : Mu} {Q : D → Mu → Prop}
abbrev Row := Str × List Str
def formD (K : Fg) (r : Row) : D := .obj (He.ga K "Form") ["name", "patterns", "lines", "size", "letters", "effect", "goto"] [.str r.1, .tup (dS r.2), .tup [], .int (r.2.length : Nat), .tup (lettersP r.2), .non, .non]
theorem w_line_at {d : D} (w : Wf μ) (q : Q .non μ) : Wf' (S_line_at K) [.tup [], d] μ Q := by
  apply wf_keep w
  apply wf_run
  unfold B_line_at
  show Ws _ [some (.sh (.tup [])), some (.sh d), none, none] _ _
  (exists 10, DL.ws_seq)
  refine ⟨fun i ρ μ' => ρ = [some (.sh (.tup [])), some (.sh d), none, none] ∧ μ' = μ, ⟨rfl, rfl⟩, ?_, ?_⟩
  · rintro i e ρ μ' hd ⟨rfl, rfl⟩
    cases hd
  · rintro ρ μ' ⟨rfl, rfl⟩
    (exists 10, DL.ws_seq)
    exact ⟨⟨[], by simp⟩, rfl, q⟩
theorem w_first_wrong {d e : D} (w : Wf μ) (q : Q .non μ) : Wf' (S_first_wrong K) [.lst [], d, e] μ Q := by
  apply wf_keep w
  apply wf_run
  unfold B_first_wrong
  show Ws _ [some (.sh (.lst [])), some (.sh d), some (.sh e), none, none, none, none, none] _ _
  (exists 11, DL.ws_seq)
  refine ⟨fun i ρ μ' => True ∧ μ' = μ ++ [.lst []] ++ [.lst []], ⟨trivial, rfl⟩, ?_, ?_⟩
  · rintro i e ρ μ' hd ⟨_, rfl⟩
    cases hd
  · rintro ρ μ' ⟨_, rfl⟩
    (exists 11, DL.ws_seq)
    exact ⟨⟨[.lst [], .lst []], by simp⟩, rfl, q⟩
theorem fldY {ν : Mu} {C : Addr} {ns : List Str} {ds : List D} {f : Str} {y : D} {Pm : Mu → Prop} (hn : ns.length < 1000) (h : Pm (ν ++ [.ins C (putN ns f) (putA ns ds f y)])) :
    ∃ k C' ns' ds', D.mref ν.length = .mref k ∧ (ν ++ [MO.ins C ns ds])[k]? = some (.ins C' ns' ds') ∧ C' ∈ [C] ∧ ns'.length < 1000 ∧ Pm ((ν ++ [MO.ins C ns ds]).set k (.ins C' (putN ns' f) (putA ns' ds' f y))) :=
  ⟨ν.length, C, ns, ds, rfl, by simp, List.mem_singleton.mpr rfl, hn, by
    have e : (ν ++ [MO.ins C ns ds]).set ν.length (.ins C (putN ns f) (putA ns ds f y)) = ν ++ [.ins C (putN ns f) (putA ns ds f y)] := by simp
    rw [e]
    exact h⟩
theorem w_form_init {r : Row} {n : Nat} {ν : Mu} (w0 : ∀ m : MO, m.low (ν.length + 1) = true → Wf (ν ++ [m])) (hz : ∀ z ∈ r.2, z.length = n) (hn : n < 1000) (hl : r.2.length ≤ 3)
    (q : Q .non (ν ++ [.ins (He.ga K "Form") ["name", "patterns", "lines", "size", "letters", "effect", "goto"] [.str r.1, .tup (dS r.2), .tup [], .int (r.2.length : Nat), .tup (lettersP r.2), .non, .non]])) :
    Wf' (runF 4 (B_Form_init K)) [.mref ν.length, .str r.1, .tup (dS r.2), .tup []] (ν ++ [.ins (He.ga K "Form") [] []]) Q := by
  apply wf_run
  unfold B_Form_init
  show Ws _ [some (.sh (.mref ν.length)), some (.sh (.str r.1)), some (.sh (.tup (dS r.2))), some (.sh (.tup []))] _ _
  have n0 : ([] : List Str).length < 1000 := by decide
  have n1 : (putN [] "name").length < 1000 := by decide
  have n2 : (putN (putN [] "name") "patterns").length < 1000 := by decide
  have n3 : (putN (putN (putN [] "name") "patterns") "lines").length < 1000 := by decide
  have n4 : (putN (putN (putN (putN [] "name") "patterns") "lines") "size").length < 1000 := by decide
  (exists 12, fldY, n0, n1, n2, n3, n4)
  have hd : D.lowAll (ν.length + 1) (dS r.2) = true := low_dS r.2
  have hlt : D.lowAll (ν.length + 1) (lettersP r.2) = true := low_all (letD r.2) (fun _ => rfl) _
  have w4 : Wf (ν ++ [.ins (He.ga K "Form") ["name", "patterns", "lines", "size"] [.str r.1, .tup (dS r.2), .tup [], .int ((dS r.2).length : Nat)]]) := w0 _ (by
    show (D.low (ν.length + 1) (.str r.1) && (D.lowAll (ν.length + 1) (dS r.2) && (true && (true && true)))) = true
    rw [hd]; rfl)
  show Wf' _ _ (ν ++ [.ins (He.ga K "Form") ["name", "patterns", "lines", "size"] [.str r.1, .tup (dS r.2), .tup [], .int ((dS r.2).length : Nat)]]) _
  refine w_letters_of (K := K) (n := n) (fun ρ => rfl) w4 hz hn hl ?_
  have m5 : (["name", "patterns", "lines", "size"] : List Str).length < 1000 := by decide
  (exists 12, fldY, m5)
  have w5 : Wf (ν ++ [.ins (He.ga K "Form") ["name", "patterns", "lines", "size", "letters"] [.str r.1, .tup (dS r.2), .tup [], .int ((dS r.2).length : Nat), .tup (lettersP r.2)]]) := w0 _ (by
    show (D.low (ν.length + 1) (.str r.1) && (D.lowAll (ν.length + 1) (dS r.2) && (true && (true && (D.lowAll (ν.length + 1) (lettersP r.2) && true))))) = true
    rw [hd, hlt]; rfl)
  show Wf' _ _ (ν ++ [.ins (He.ga K "Form") ["name", "patterns", "lines", "size", "letters"] [.str r.1, .tup (dS r.2), .tup [], .int ((dS r.2).length : Nat), .tup (lettersP r.2)]]) _
  refine w_line_at (K := K) w5 ?_
  have m6 : (["name", "patterns", "lines", "size", "letters"] : List Str).length < 1000 := by decide
  (exists 12, fldY, m6)
  have w6 : Wf (ν ++ [.ins (He.ga K "Form") ["name", "patterns", "lines", "size", "letters", "effect"] [.str r.1, .tup (dS r.2), .tup [], .int ((dS r.2).length : Nat), .tup (lettersP r.2), .non]]) := w0 _ (by
    show (D.low (ν.length + 1) (.str r.1) && (D.lowAll (ν.length + 1) (dS r.2) && (true && (true && (D.lowAll (ν.length + 1) (lettersP r.2) && (true && true)))))) = true
    rw [hd, hlt]; rfl)
  show Wf' _ _ (ν ++ [.ins (He.ga K "Form") ["name", "patterns", "lines", "size", "letters", "effect"] [.str r.1, .tup (dS r.2), .tup [], .int ((dS r.2).length : Nat), .tup (lettersP r.2), .non]]) _
  refine w_line_at (K := K) w6 ?_
  have m7 : (["name", "patterns", "lines", "size", "letters", "effect"] : List Str).length < 1000 := by decide
  (exists 12, fldY, m7)
  rw [← List.length_map (f := D.str) (as := r.2)] at q
  exact q
end K10

set_option Elab.async false
set_option linter.all false
set_option maxRecDepth 100000
set_option maxHeartbeats 4000000
set_option autoImplicit false
namespace K10
open PySem PySem.Spec L2 DL
variable {K : Fg} {μ : Mu} {Q : D → Mu → Prop}
def tupP (ρ : Rho) (Q : D → Mu → Prop) (d : D) (μ : Mu) : Prop := ∃ es, qv (.val d) ρ μ = some es ∧ Q (if QV.isK (.val d) = true then .kt es else .tup es) μ
theorem tO {t : TD} {ρ : Rho} (h : We t ρ μ (tupP ρ Q)) : We (dTupOf (qVal t)) ρ μ Q := we_tupOf (we_q h)
theorem tL {ds : List D} {ρ : Rho} (h : Q (.tup ds) μ) : tupP ρ Q (.lst ds) μ := ⟨ds, rfl, h⟩
theorem tM {ds : List D} {ρ : Rho} {p : Nat} (hp : μ[p]? = some (.lst ds)) (h : Q (.tup ds) μ) : tupP ρ Q (.mref p) μ := ⟨ds, by simp [hp], h⟩
theorem inD_str : ∀ {zs : List Str} {z : Str}, z ∉ zs → inD (.str z) (dS zs) = some false := by
  intro zs z h
  have hf : (zs.map V.str).all flatV = true := by
    rw [List.all_map]
    exact List.all_eq_true.mpr fun _ _ => rfl
  have hi : inV (.str z) (zs.map V.str) = false := by
    unfold inV
    rw [List.any_map, List.any_eq_false]
    intro y hy hc
    have : y = z := by simpa [eqV] using hc
    exact h (this ▸ hy)
  have e : inD (.str z) (dS zs) = (match (D.str z).flat, flats (dS zs) with
    | some v, some vs => if flatV v = true ∧ vs.all flatV = true then some (inV v vs) else none
    | _, _ => none) := rfl
  rw [e, flats_str]
  show (if flatV (V.str z) = true ∧ (zs.map V.str).all flatV = true then some (inV (V.str z) (zs.map V.str)) else none) = _
  rw [if_pos ⟨rfl, hf⟩, hi]
theorem w_made_form {r : Row} {n e k p : Nat} {R : Int} {names : List Str} (w : Wf μ) (hp : μ[p]? = some (.lst (dS r.2))) (hk : μ[k]? = some (.lst (dS names))) (hnm : r.1 ∉ names) (hN : OkN r.1) (h : OkP n e r.2) (hn : n ≤ 64) (he : (2 : Int) ^ e ≤ R) (he' : e ≤ 100) (q : Q (formD K r) μ) : Wf' (S_made_form K) [.int (n : Int), .int R, .tup [.str r.1, .mref p, .lst []], .mref k] μ Q := by
  apply wf_keep w
  apply wf_run
  unfold B_made_form
  show Ws _ [some (.sh (.int (n : Int))), some (.sh (.int R)), some (.sh (.tup [.str r.1, .mref p, .lst []])), some (.sh (.mref k)), none, none, none, none, none, none, none, none, none, none] _ _
  have hlen : [D.str r.1, .mref p, .lst []].length = 3 := rfl
  have hn1 : n < 1000 := by omega
  have inn : ∀ {ρ : Rho} {P : Bool → Prop}, P false → ∃ ds b, qv (.val (.mref k)) ρ μ = some ds ∧ inD (.str r.1) ds = some b ∧ P b := fun hP => ⟨_, false, by simp [hk], inD_str hnm, hP⟩
  have b0 : (if false = true then !false else false) = false := rfl
  have b1 : decide ((12 : Int) < (([] : List D).length : Int)) = false := by decide
  have ll : ([97, 98, 99, 109, 110].filter fun c => decide (0 < cntP c r.2)).length ≤ sizeLine := Nat.le_trans (List.length_filter_le _ _) (by decide)
  have p0 : (0 : Int) ≤ 1 := by decide
  (exists 13, hlen, w_small (K := K) w hN, inn, pF b0, pF b1, w_good (K := K) w hp h hn1 he he', is_lt, w_letters_of (K := K) (n := n) (fun ρ => qvM hp) w h.z hn1 h.l1)
  refine we_lcR (xs := [97, 98, 99, 109, 110].filter fun c => decide (0 < cntP c r.2)) (letD r.2) signD (fun c => decide (c ∈ ("abc" : Str).cps.toList)) ?_
  (exists 13, DL.ws_seq)
  refine ⟨rfl, rfl, ll, fun c hc => ⟨_, rfl, ?_⟩, ?_⟩
  · show We _ [some (.sh (.int (n : Int))), some (.sh (.int R)), some (.sh (.tup [.str r.1, .mref p, .lst []])), some (.sh (.mref k)), some (.sh (.str r.1)), some (.sh (.mref p)), some (.sh (.lst [])), some (.sh (.tup (lettersP r.2))), none, none, none, some (.sh (.str ⟨#[c]⟩)), some (.sh (.int (cntP c r.2 : Nat))), none] _ _
    (exists 13, DL.ws_seq)
    refine ⟨rfl, rfl, fun _ => ?_⟩
    show We _ [some (.sh (.int (n : Int))), some (.sh (.int R)), some (.sh (.tup [.str r.1, .mref p, .lst []])), some (.sh (.mref k)), some (.sh (.str r.1)), some (.sh (.mref p)), some (.sh (.lst [])), some (.sh (.tup (lettersP r.2))), none, none, none, some (.sh (.str ⟨#[c]⟩)), some (.sh (.int (cntP c r.2 : Nat))), none] _ _
    (exists 13, DL.ws_seq)
    exact ⟨rfl, rfl⟩
  · (exists 13, DL.ws_seq)
    refine we_lcR (xs := [97, 98, 99, 109, 110].filter fun c => decide (0 < cntP c r.2)) (letD r.2) signD (fun c => decide (c ∈ ("mn" : Str).cps.toList)) ?_
    (exists 13, DL.ws_seq)
    refine ⟨rfl, rfl, ll, fun c hc => ⟨_, rfl, ?_⟩, ?_⟩
    · show We _ [some (.sh (.int (n : Int))), some (.sh (.int R)), some (.sh (.tup [.str r.1, .mref p, .lst []])), some (.sh (.mref k)), some (.sh (.str r.1)), some (.sh (.mref p)), some (.sh (.lst [])), some (.sh (.tup (lettersP r.2))), none, none, none, some (.sh (.str ⟨#[c]⟩)), some (.sh (.int (cntP c r.2 : Nat))), none] _ _
      (exists 13, DL.ws_seq)
      refine ⟨rfl, rfl, fun _ => ?_⟩
      show We _ [some (.sh (.int (n : Int))), some (.sh (.int R)), some (.sh (.tup [.str r.1, .mref p, .lst []])), some (.sh (.mref k)), some (.sh (.str r.1)), some (.sh (.mref p)), some (.sh (.lst [])), some (.sh (.tup (lettersP r.2))), none, none, none, some (.sh (.str ⟨#[c]⟩)), some (.sh (.int (cntP c r.2 : Nat))), none] _ _
      (exists 13, DL.ws_seq)
      exact ⟨rfl, rfl⟩
    · (exists 13, w_ones (K := K) w hn, w_first_wrong (K := K) w, tO, tM hp, tL)
      refine we_make ?_
      (exists 13, tO, tM hp, tL)
      refine we_lcR (xs := ([] : List Nat)) signD signD (fun _ => true) ?_
      (exists 13, DL.ws_seq)
      refine ⟨rfl, rfl, by simp, fun c hc => (by cases hc), ?_⟩
      (exists 13, tO, tM hp, tL)
      refine ⟨rfl, ?_⟩
      have hd : ∀ m, D.lowAll m (dS r.2) = true := fun m => low_dS r.2
      have hlt : ∀ m, D.lowAll m (lettersP r.2) = true := fun m => low_all (letD r.2) (fun _ => rfl) _
      have hlow : ∀ m, D.lowAll m [.str r.1, .tup (dS r.2), .tup [], .int (r.2.length : Nat), .tup (lettersP r.2), .non, .non] = true := fun m => by
        show (D.low m (.str r.1) && (D.lowAll m (dS r.2) && (true && (true && (D.lowAll m (lettersP r.2) && (true && (true && true))))))) = true
        rw [hd, hlt]; rfl
      have w0 : ∀ m : MO, m.low (μ.length + 1) = true → Wf (μ ++ [m]) := fun m hm => Wf.app w hm
      refine wf_scope ?_
      refine w_form_init (K := K) (n := n) w0 h.z hn1 h.l1 ?_
      have wl := w0 (.ins (He.ga K "Form") ["name", "patterns", "lines", "size", "letters", "effect", "goto"] [.str r.1, .tup (dS r.2), .tup [], .int (r.2.length : Nat), .tup (lettersP r.2), .non, .non]) (hlow _)
      have et : ∀ (a b : MO), (μ ++ [a]).take (μ ++ [b]).length = μ ++ [a] := fun a b => by
        rw [List.length_append]
        exact List.take_of_length_le (by rw [List.length_append]; exact Nat.le_refl _)
      rw [et]
      have hat : ∀ a : MO, (μ ++ [a])[μ.length]? = some a := fun a => by simp
      refine ⟨rfl, ?_, rfl, _, _, _, hat _, hlow _, ?_, ?_⟩
      · unfold Wf at wl
        rw [List.length_append] at wl ⊢
        exact wl
      · have : (μ ++ [MO.ins (He.ga K "Form") ["name", "patterns", "lines", "size", "letters", "effect", "goto"] [.str r.1, .tup (dS r.2), .tup [], .int (r.2.length : Nat), .tup (lettersP r.2), .non, .non]]).take μ.length = μ := by simp
        rw [this]
        exact w
      · have : (μ ++ [MO.ins (He.ga K "Form") ["name", "patterns", "lines", "size", "letters", "effect", "goto"] [.str r.1, .tup (dS r.2), .tup [], .int (r.2.length : Nat), .tup (lettersP r.2), .non, .non]]).take μ.length = μ := by simp
        rw [this]
        exact ⟨⟨[], by simp⟩, hlow _, q⟩
end K10

set_option Elab.async false
set_option linter.all false
set_option maxRecDepth 100000
set_option maxHeartbeats 4000000
set_option autoImplicit false
namespace K10
open PySem PySem.Spec L2 DL
variable {K : Fg} {μ : Mu} {Q : D → Mu → Prop}
theorem atA {ν : Mu} {k : Nat} {m : MO} (h : μ[k]? = some m) : (μ ++ ν)[k]? = some m := by rw [List.getElem?_append_left (List.getElem?_eq_some_iff.mp h).1]; exact h
abbrev formsD (K : Fg) (rs : List Row) : List D := rs.map (formD K)
theorem low_form {n : Nat} (r : Row) : (formD K r).low n = true := by
  have hd : D.lowAll n (dS r.2) = true := low_dS r.2
  have hlt : D.lowAll n (lettersP r.2) = true := low_all (letD r.2) (fun _ => rfl) _
  show (D.low n (.str r.1) && (D.lowAll n (dS r.2) && (true && (true && (D.lowAll n (lettersP r.2) && (true && (true && true))))))) = true
  rw [hd, hlt]; rfl
theorem low_forms {n : Nat} (rs : List Row) : D.lowAll n (formsD K rs) = true := low_all (formD K) low_form rs
structure OkRs (n e : Nat) (rs : List Row) : Prop where
  l0 : 1 ≤ rs.length
  l1 : rs.length ≤ 32
  nm : ∀ r ∈ rs, OkN r.1
  p : ∀ r ∈ rs, OkP n e r.2
  nd : (rs.map (·.1)).Nodup
theorem fldName {C : Addr} {r : Row} {P : D → Prop} (h : P (.str r.1)) : ∃ C' ns ds y, insD (formD K r) μ = some (C', ns, ds) ∧ C' ∈ [He.ga K "Form"] ∧ fldD ns ds "name" = some y ∧ P y := ⟨_, _, _, _, rfl, List.mem_singleton.mpr rfl, rfl, h⟩
abbrev RowP := Row × Nat
def rowM (x : RowP) : D := .tup [.str x.1.1, .mref x.2, .lst []]
abbrev rowsM (xs : List RowP) : List D := xs.map rowM
abbrev rowsR (xs : List RowP) : List Row := xs.map (·.1)
structure RW (μ : Mu) (k : Nat) (xs : List RowP) : Prop where
  at0 : μ[k]? = some (.lst (rowsM xs))
  ps : ∀ x ∈ xs, μ[x.2]? = some (.lst (dS x.1.2))
theorem rowM_at {xs : List RowP} {i : Nat} {d : D} (h : (rowsM xs)[i]? = some d) : ∃ x, xs[i]? = some x ∧ d = rowM x := by
  rw [List.getElem?_map] at h
  obtain ⟨c, h1, h2⟩ := Option.map_eq_some_iff.mp h
  exact ⟨c, h1, h2.symm⟩
theorem w_made_forms {xs : List RowP} {n e kk : Nat} {R : Int} (w : Wf μ) (hW : RW μ kk xs) (h : OkRs n e (rowsR xs)) (hn : n ≤ 64) (he : (2 : Int) ^ e ≤ R) (he' : e ≤ 100) (q : Q (.tup (formsD K (rowsR xs))) μ) : Wf' (S_made_forms K) [.int (n : Int), .int R, .mref kk] μ Q := by
  apply wf_keep w
  apply wf_run
  unfold B_made_forms
  show Ws _ [some (.sh (.int (n : Int))), some (.sh (.int R)), some (.sh (.mref kk)), none, none, none, none] _ _
  obtain ⟨hk0, hps⟩ := hW
  have h0 := h.l0
  have hx32 : xs.length ≤ 32 := by have := h.l1; simpa using this
  have h1 := h.l1
  have hl : ((rowsM xs).length : Int) = ((rowsR xs).length : Int) := by rw [List.length_map, List.length_map]
  have c1 : (1 : Int) ≤ ((rowsM xs).length : Int) := by omega
  have c2 : decide (((rowsM xs).length : Int) ≤ 32) = true := decide_eq_true (by omega)
  (exists 14, is_ltM hk0, hk0, chY c1, pnT c2, ws_forM (k := kk) (ds := rowsM xs))
  refine ⟨rfl, fun i ρ μ' => (∃ s5 s6, ρ = [some (.sh (.int (n : Int))), some (.sh (.int R)), some (.sh (.mref kk)), some (.sh (.mref μ.length)), some (.sh (.mref (μ ++ [MO.lst []]).length)), s5, s6]) ∧ μ' = μ ++ [.lst (formsD K ((rowsR xs).take i)), .lst (dS (((rowsR xs).take i).map (·.1)))], ⟨⟨_, _, rfl⟩, by simp⟩, fun i ρ μ' h => by rw [h.2]; exact atA hk0, ?_, ?_⟩
  · rintro i d ρ μ' hd ⟨⟨s5, s6, rfl⟩, rfl⟩
    obtain ⟨x, hix, rfl⟩ := rowM_at hd
    have hxm : x ∈ xs := List.mem_of_getElem? hix
    have hi : (rowsR xs)[i]? = some x.1 := by rw [List.getElem?_map, hix]; rfl
    have hpx : (μ ++ [MO.lst (formsD K ((rowsR xs).take i)), .lst (dS (((rowsR xs).take i).map (·.1)))])[x.2]? = some (.lst (dS x.1.2)) := atA (hps x hxm)
    obtain ⟨r, p⟩ := x
    unfold rowM
    have hrm : r ∈ rowsR xs := List.mem_of_getElem? hi
    have et : (rowsR xs).take (i + 1) = (rowsR xs).take i ++ [r] := take_at hi
    have hnot : r.1 ∉ ((rowsR xs).take i).map (·.1) := by
      have hnd := h.nd
      rw [← List.take_append_drop (i + 1) (rowsR xs), et] at hnd
      rw [List.map_append, List.map_append] at hnd
      have := (List.nodup_append.mp (List.nodup_append.mp hnd).1).2.2
      intro hm
      exact this _ hm _ (by simp) rfl
    have wl : Wf (μ ++ [.lst (formsD K ((rowsR xs).take i)), .lst (dS (((rowsR xs).take i).map (·.1)))]) := by
      have w1 := Wf.app (m := .lst (formsD K ((rowsR xs).take i))) w (low_forms _)
      have w2 := Wf.app (m := .lst (dS (((rowsR xs).take i).map (·.1)))) w1 (low_dS _)
      rw [List.append_assoc] at w2
      exact w2
    have hlen1 : (μ ++ [MO.lst []]).length = μ.length + 1 := by simp
    rw [hlen1]
    have k0 : (μ ++ [MO.lst (formsD K ((rowsR xs).take i)), .lst (dS (((rowsR xs).take i).map (·.1)))])[μ.length]? = some (.lst (formsD K ((rowsR xs).take i))) := by simp
    have k1 : (μ ++ [MO.lst (formsD K ((rowsR xs).take i)), .lst (dS (((rowsR xs).take i).map (·.1)))])[μ.length + 1]? = some (.lst (dS (((rowsR xs).take i).map (·.1)))) := by
      rw [List.getElem?_append_right (by omega)]; simp
    have hz : (formsD K ((rowsR xs).take i)).length < sizeLine := by rw [List.length_map, List.length_take]; simp [sizeLine]; omega
    have s0 : ∀ (a b c : MO), (μ ++ [a, b]).set μ.length c = μ ++ [c, b] := fun a b c => by
      rw [List.set_append_right _ _ (Nat.le_refl _), Nat.sub_self]; rfl
    have s1 : ∀ (a b c : MO), (μ ++ [a, b]).set (μ.length + 1) c = μ ++ [a, c] := fun a b c => by
      rw [List.set_append_right _ _ (by omega), Nat.add_sub_cancel_left]; rfl
    have k2 : ((μ ++ [MO.lst (formsD K ((rowsR xs).take i)), .lst (dS (((rowsR xs).take i).map (·.1)))]).set μ.length (.lst (formsD K ((rowsR xs).take i) ++ [formD K r])))[μ.length + 1]? = some (.lst (dS (((rowsR xs).take i).map (·.1)))) := by
      rw [s0, List.getElem?_append_right (by omega)]; simp
    have hz2 : (dS (((rowsR xs).take i).map (·.1))).length < sizeLine := by rw [List.length_map, List.length_map, List.length_take]; simp [sizeLine]; omega
    (exists 14, w_made_form (K := K) wl hpx k1 hnot (h.nm r hrm) (h.p r hrm) hn he he', k0, hz, fldName (C := 0), k2, hz2)
    refine ⟨⟨_, _, rfl⟩, ?_⟩
    have e1 : formsD K ((rowsR xs).take i ++ [r]) = formsD K ((rowsR xs).take i) ++ [formD K r] := List.map_append
    have e2 : dS (((rowsR xs).take i ++ [r]).map (·.1)) = dS (((rowsR xs).take i).map (·.1)) ++ [D.str r.1] := by
      show (((rowsR xs).take i ++ [r]).map (·.1)).map D.str = _
      rw [List.map_append, List.map_append]
      rfl
    rw [s0, s1, et, e1, e2]
  · rintro ρ μ' ⟨⟨s5, s6, rfl⟩, rfl⟩
    have el : (rowsM xs).length = (rowsR xs).length := by rw [List.length_map, List.length_map]
    rw [el, List.take_length]
    generalize rowsR xs = rs at *
    have k0 : (μ ++ [MO.lst (formsD K rs), .lst (dS (rs.map (·.1)))])[μ.length]? = some (.lst (formsD K rs)) := by simp
    (exists 14, k0, tO, tL)
    refine ⟨⟨[.dead, .lst (dS (rs.map (·.1)))], ?_⟩, low_forms rs, q⟩
    rw [List.set_append_right _ _ (Nat.le_refl _), Nat.sub_self]
    rfl
end K10

set_option Elab.async false
set_option linter.all false
set_option maxRecDepth 100000
set_option maxHeartbeats 4000000
set_option autoImplicit false
namespace K10
open PySem PySem.Spec L2 DL
variable {K : Fg} {μ : Mu} {Q : D → Mu → Prop}
def bookD (K : Fg) (n : Nat) (R : Int) (rs : List Row) (t : Str) : D := .obj (He.ga K "Book") ["word", "registers", "forms", "_text"] [.int (n : Int), .int R, .tup (formsD K rs), .str t]
theorem fldF {n : Nat} {R : Int} {rs : List Row} {t : Str} {P : D → Prop} (h : P (.tup (formsD K rs))) : ∃ C' ns ds y, insD (bookD K n R rs t) μ = some (C', ns, ds) ∧ C' ∈ [He.ga K "Book"] ∧ fldD ns ds "forms" = some y ∧ P y := ⟨_, _, _, _, rfl, List.mem_singleton.mpr rfl, rfl, h⟩
theorem fldP {r : Row} {P : D → Prop} (h : P (.tup (dS r.2))) : ∃ C' ns ds y, insD (formD K r) μ = some (C', ns, ds) ∧ C' ∈ [He.ga K "Form"] ∧ fldD ns ds "patterns" = some y ∧ P y := ⟨_, _, _, _, rfl, List.mem_singleton.mpr rfl, rfl, h⟩
theorem len_app (x y : Str) : (x ++ y).length = x.length + y.length := by
  show (x.cps ++ y.cps).size = _
  rw [Array.size_append]
  rfl
theorem txt_small {i : Int} (h0 : 0 ≤ i) (h1 : i ≤ 8) : (toString i : Str).length ≤ 10 ∧ i.natAbs.log2 < 1920 := by
  have : i = 0 ∨ i = 1 ∨ i = 2 ∨ i = 3 ∨ i = 4 ∨ i = 5 ∨ i = 6 ∨ i = 7 ∨ i = 8 := by omega
  rcases this with rfl | rfl | rfl | rfl | rfl | rfl | rfl | rfl | rfl <;> exact ⟨by decide +kernel, by decide +kernel⟩
theorem ex_text {i : Int} {P : Str → Prop} (hl : i.natAbs.log2 < 1920) (h : P (toString i : Str)) : ∃ z, (D.int i).text = some z ∧ P z := ⟨_, if_pos hl, h⟩
theorem js_ok {acc y : Str} {A : Prop} {m k : Nat} (h1 : acc.length ≤ m) (h2 : y.length ≤ k) (hm : m + k ≤ 10000) (h : A) : (acc ++ y).length ≤ sizeLine ∧ A := by
  refine ⟨?_, h⟩
  have e : (acc ++ y).length = acc.length + y.length := by
    show (acc.cps ++ y.cps).size = _
    rw [Array.size_append]
    rfl
  rw [e]
  have : sizeLine = 16777216 := by decide
  omega
theorem insD_at {ν ν' : Mu} {C : Addr} {ns : List Str} {ds : List D} : insD (.mref ν.length) (ν ++ .ins C ns ds :: ν') = some (C, ns, ds) := by
  have h : (ν ++ MO.ins C ns ds :: ν')[ν.length]? = some (.ins C ns ds) := by simp
  show (match (ν ++ MO.ins C ns ds :: ν')[ν.length]? with
    | some (.ins C ns ds) => some (C, ns, ds)
    | _ => none) = _
  rw [h]
theorem join_len {a : Str} {m : Nat} : ∀ {ys : List Str}, (∀ t ∈ ys, t.length ≤ m) → (Str.join a ys).length ≤ ys.length * (m + a.length)
  | [], _ => Nat.zero_le _
  | [x], h => by
    have := h x (by simp)
    show x.length ≤ _
    simp
    omega
  | x :: y :: r, h => by
    have ih := join_len (a := a) (ys := y :: r) fun t ht => h t (List.mem_cons_of_mem _ ht)
    have hx := h x (by simp)
    show (x ++ a ++ Str.join a (y :: r)).length ≤ _
    rw [len_app, len_app, List.length_cons, Nat.succ_mul]
    omega
theorem sum_len {m : Nat} : ∀ {ys : List Str}, (∀ t ∈ ys, t.length ≤ m) → (ys.map (·.length)).sum ≤ ys.length * m
  | [], _ => by simp
  | x :: r, h => by
    have ih := sum_len (ys := r) fun t ht => h t (List.mem_cons_of_mem _ ht)
    have hx := h x (by simp)
    rw [List.map_cons, List.sum_cons, List.length_cons, Nat.succ_mul]
    omega
theorem ex_joinN {ys : List Str} {ρ : Rho} {P : List Str → Prop} {a : Str} {d : D} {m k : Nat} (hd : qv (.val d) ρ μ = some (dS ys)) (hy : ∀ t ∈ ys, t.length ≤ m) (hl : ys.length ≤ k) (hb : k * (m + a.length) ≤ 16777216) (h : P ys) :
    ∃ ds zs, qv (.val d) ρ μ = some ds ∧ D.strs ds = some zs ∧ (zs.map (·.length)).sum + zs.length * a.length ≤ 16777216 ∧ P zs := by
  refine ⟨_, ys, hd, strs_dS, ?_, h⟩
  have h1 := sum_len hy
  have h2 : ys.length * m + ys.length * a.length = ys.length * (m + a.length) := (Nat.mul_add ..).symm
  have h3 : ys.length * (m + a.length) ≤ k * (m + a.length) := Nat.mul_le_mul_right _ hl
  omega
theorem catP {ds es : List D} {ρ : Rho} {P : List D → List D → Prop} (hl : ds.length + es.length ≤ sizeLine) (h : P ds es) : ∃ ds' es', qvl (.val (.lst ds)) ρ μ = some ds' ∧ qvl (.val (.lst es)) ρ μ = some es' ∧ ds'.length + es'.length ≤ sizeLine ∧ P ds' es' := ⟨_, _, rfl, rfl, hl, h⟩
theorem fldL {r : Row} {P : D → Prop} (h : P (.tup [])) : ∃ C' ns ds y, insD (formD K r) μ = some (C', ns, ds) ∧ C' ∈ [He.ga K "Form"] ∧ fldD ns ds "lines" = some y ∧ P y := ⟨_, _, _, _, rfl, List.mem_singleton.mpr rfl, rfl, h⟩
theorem w_book_init {xs : List RowP} {n e kk : Nat} {R : Int} {ν : Mu} (w0 : ∀ m : MO, m.low (ν.length + 1) = true → Wf (ν ++ [m])) (hW : RW ν kk xs) (h : OkRs n e (rowsR xs)) (hn0 : 4 ≤ n) (hn : n ≤ 8) (hR0 : 1 ≤ R) (hR : R ≤ 4) (he : (2 : Int) ^ e ≤ R) (he' : e ≤ 100)
    (q : ∀ t : Str, Q .non (ν ++ [.ins (He.ga K "Book") ["word", "registers", "forms", "_text"] [.int (n : Int), .int R, .tup (formsD K (rowsR xs)), .str t], .dead])) :
    Wf' (runF 7 (B_Book_init K)) [.mref ν.length, .int (n : Int), .int R, .mref kk] (ν ++ [.ins (He.ga K "Book") [] []]) Q := by
  have hW3 : RW (ν ++ [.ins (He.ga K "Book") ["word", "registers"] [.int (n : Int), .int R]]) kk xs := ⟨atA hW.at0, fun x hx => atA (hW.ps x hx)⟩
  clear hW
  generalize hrs : rowsR xs = rs at *
  apply wf_run
  unfold B_Book_init
  show Ws _ [some (.sh (.mref ν.length)), some (.sh (.int (n : Int))), some (.sh (.int R)), some (.sh (.mref kk)), none, none, none] _ _
  have n0 : ([] : List Str).length < 1000 := by decide
  have w1 : Wf (ν ++ [.ins (He.ga K "Book") [] []]) := w0 _ rfl
  have a1 : (4 : Int) ≤ (n : Int) := by omega
  have a2 : (n : Int) ≤ 8 := by omega
  (exists 15, w_check_int (K := K) w1 a1 a2, fldY, n0)
  show Wf' _ _ (ν ++ [.ins (He.ga K "Book") ["word"] [.int (n : Int)]]) _
  have w2 : Wf (ν ++ [.ins (He.ga K "Book") ["word"] [.int (n : Int)]]) := w0 _ rfl
  have n1 : (["word"] : List Str).length < 1000 := by decide
  (exists 15, w_check_int (K := K) w2 hR0 hR, fldY, n1)
  show Wf' _ _ (ν ++ [.ins (He.ga K "Book") ["word", "registers"] [.int (n : Int), .int R]]) _
  have w3 : Wf (ν ++ [.ins (He.ga K "Book") ["word", "registers"] [.int (n : Int), .int R]]) := w0 _ rfl
  have n2 : (["word", "registers"] : List Str).length < 1000 := by decide
  have hn64 : n ≤ 64 := by omega
  have w_mf : ∀ {Q : D → Mu → Prop}, Q (.tup (formsD K rs)) (ν ++ [.ins (He.ga K "Book") ["word", "registers"] [.int (n : Int), .int R]]) → Wf' (S_made_forms K) [.int (n : Int), .int R, .mref kk] (ν ++ [.ins (He.ga K "Book") ["word", "registers"] [.int (n : Int), .int R]]) Q := fun {Q} q => w_made_forms (K := K) (n := n) (e := e) w3 hW3 (by rw [hrs]; exact h) hn64 he he' (by rw [hrs]; exact q)
  (exists 15, w_mf, fldY, n2)
  have t1 := txt_small (i := (n : Int)) (by omega) (by omega)
  have t2 := txt_small (i := R) (by omega) (by omega)
  refine ⟨by decide, ?_⟩
  (exists 15, ex_text t1.2)
  refine js_ok (m := 100) (by decide) t1.1 (by decide) ?_
  (exists 15, DL.ws_seq)
  refine ⟨by decide, ?_⟩
  (exists 15, ex_text t2.2)
  refine js_ok (m := 100) (by decide) t2.1 (by decide) ?_
  have fF : ∀ {ν' : Mu} {P : D → Prop}, P (.tup (formsD K rs)) → ∃ C' ns ds y, insD (.mref ν.length) (ν ++ .ins (He.ga K "Book") ["word", "registers", "forms"] [.int (n : Int), .int R, .tup (formsD K rs)] :: ν') = some (C', ns, ds) ∧ C' ∈ [He.ga K "Book"] ∧ fldD ns ds "forms" = some y ∧ P y := fun {ν' P} hP => ⟨He.ga K "Book", ["word", "registers", "forms"], [.int (n : Int), .int R, .tup (formsD K rs)], .tup (formsD K rs), insD_at, List.mem_singleton.mpr rfl, rfl, hP⟩
  (exists 15, DL.ws_seq)
  refine ⟨He.ga K "Book", ["word", "registers", "forms"], [.int (n : Int), .int R, .tup (formsD K rs)], .tup (formsD K rs), ?_, List.mem_singleton.mpr rfl, rfl, formsD K rs, rfl, ?_⟩
  · rw [List.append_assoc]
    exact insD_at
  have hlen : (ν ++ [MO.ins (He.ga K "Book") (putN ["word", "registers"] "forms") (putA ["word", "registers"] [.int (n : Int), .int R] "forms" (.tup (formsD K rs)))]).length = ν.length + 1 := by simp
  rw [hlen]
  refine ⟨fun i ρ μ' => ∃ s5 ts, ts.length = 2 + i ∧ (∀ t ∈ ts, t.length ≤ 10000) ∧ ρ = [some (.sh (.mref ν.length)), some (.sh (.int (n : Int))), some (.sh (.int R)), some (.sh (.mref kk)), some (.sh (.mref (ν.length + 1))), s5, none] ∧ μ' = ν ++ [.ins (He.ga K "Book") ["word", "registers", "forms"] [.int (n : Int), .int R, .tup (formsD K rs)], .lst (dS ts)], ?_, ?_, ?_⟩
  · refine ⟨none, [Str.empty ++ "word " ++ (toString (n : Int) : Str), Str.empty ++ "registers " ++ (toString R : Str)], rfl, ?_, rfl, ?_⟩
    · intro t ht
      have u1 : (Str.empty ++ ("word " : Str)).length ≤ 100 := by decide
      have u2 : (Str.empty ++ ("registers " : Str)).length ≤ 100 := by decide
      have v1 := t1.1
      have v2 := t2.1
      simp only [List.mem_cons, List.not_mem_nil, or_false] at ht
      rcases ht with rfl | rfl
      · rw [len_app]; omega
      · rw [len_app]; omega
    · rw [List.append_assoc]
      rfl
  · rintro i d ρ μ' hd ⟨s5, ts, hl, ht, rfl, rfl⟩
    have hd' : (rs.map (formD K))[i]? = some d := hd
    rw [List.getElem?_map] at hd'
    obtain ⟨r, hi, rfl⟩ := Option.map_eq_some_iff.mp hd'
    have hrm : r ∈ rs := List.mem_of_getElem? hi
    have hii : i < rs.length := (List.getElem?_eq_some_iff.mp hi).1
    have hp := h.p r hrm
    have hnm := h.nm r hrm
    have hl1 := h.l1
    have k0 : ∀ (a : MO) (ds : List D), (ν ++ [a, MO.lst ds])[ν.length + 1]? = some (.lst ds) := fun a ds => by
      rw [List.getElem?_append_right (by omega)]; simp
    have ks : ∀ (a b c : MO), (ν ++ [a, b]).set (ν.length + 1) c = ν ++ [a, c] := fun a b c => by
      rw [List.set_append_right _ _ (by omega), Nat.add_sub_cancel_left]; rfl
    have hpl := hp.l1
    have cat : ([D.str "form", D.str r.1] : List D).length + (dS r.2).length ≤ sizeLine := by
      rw [List.length_map]; simp [sizeLine]; omega
    have jn : ∀ {ρ : Rho} {ν' : Mu} {P : List Str → Prop}, P ("form" :: r.1 :: r.2) → ∃ ds zs, qv (.val (.lst ([D.str "form", D.str r.1] ++ dS r.2))) ρ ν' = some ds ∧ D.strs ds = some zs ∧ (zs.map (·.length)).sum + zs.length * (" " : Str).length ≤ 16777216 ∧ P zs := fun {ρ ν' P} hP => ex_joinN (ys := "form" :: r.1 :: r.2) (m := 10) (k := 5) (μ := ν') rfl (by
      intro t ht
      have h8 := hnm.l1
      simp only [List.mem_cons] at ht
      rcases ht with rfl | rfl | ht
      · decide
      · omega
      · have := hp.z t ht; omega) (by simp; omega) (by decide) hP
    have hz1 : (dS ts).length < sizeLine := by rw [List.length_map, hl]; simp [sizeLine]; omega
    have hz2 : (dS ts ++ [D.str (Txt.join " " ("form" :: r.1 :: r.2))]).length + ([] : List D).length ≤ sizeLine := by
      rw [List.length_append, List.length_map, hl]; simp [sizeLine]; omega
    have kx := k0 (.ins (He.ga K "Book") ["word", "registers", "forms"] [.int (n : Int), .int R, .tup (formsD K rs)]) (dS ts)
    have ky : ((ν ++ [MO.ins (He.ga K "Book") ["word", "registers", "forms"] [.int (n : Int), .int R, .tup (formsD K rs)], .lst (dS ts)]).set (ν.length + 1) (.lst (dS ts ++ [D.str (Txt.join " " ("form" :: r.1 :: r.2))])))[ν.length + 1]? = some (.lst (dS ts ++ [D.str (Txt.join " " ("form" :: r.1 :: r.2))])) := by
      rw [ks]; exact k0 _ _
    (exists 15, kx, fldName, catP cat, fldP, jn, hz1, ky)
    refine we_lcR (xs := ([] : List Nat)) signD signD (fun _ => true) ?_
    (exists 15, fldL)
    refine ⟨rfl, rfl, by simp, fun c hc => (by cases hc), ?_⟩
    show ext2 _ _ _ [] _
    (exists 15, ky, hz2)
    refine ⟨_, ts ++ [Txt.join " " (("form" : Str) :: r.1 :: r.2)], by rw [List.length_append, hl]; simp; omega, ?_, rfl, ?_⟩
    · intro t hm
      rcases List.mem_append.mp hm with hm | hm
      · exact ht t hm
      · rw [List.mem_singleton.mp hm, HTx_join]
        have h8 := hnm.l1
        have hj := join_len (a := " ") (m := 10) (ys := ("form" : Str) :: r.1 :: r.2) (by
          intro t ht
          simp only [List.mem_cons] at ht
          rcases ht with rfl | rfl | ht
          · decide
          · omega
          · have := hp.z t ht; omega)
        have e1 : (" " : Str).length = 1 := rfl
        have e2 : (("form" : Str) :: r.1 :: r.2).length = r.2.length + 2 := rfl
        rw [e1, e2] at hj
        omega
    · rw [ks, ks]
      have : (dS (ts ++ [Txt.join " " (("form" : Str) :: r.1 :: r.2)])) = dS ts ++ [D.str (Txt.join " " (("form" : Str) :: r.1 :: r.2))] := List.map_append
      rw [this, List.append_nil]
  · rintro ρ μ' ⟨s5, ts, hl, ht, rfl, rfl⟩
    have hl1 := h.l1
    have hlf : (formsD K rs).length = rs.length := List.length_map ..
    rw [hlf] at hl
    have k0 : ∀ (a : MO) (ds : List D), (ν ++ [a, MO.lst ds])[ν.length + 1]? = some (.lst ds) := fun a ds => by
      rw [List.getElem?_append_right (by omega)]; simp
    have ks : ∀ (a b c : MO), (ν ++ [a, b]).set (ν.length + 1) c = ν ++ [a, c] := fun a b c => by
      rw [List.set_append_right _ _ (by omega), Nat.add_sub_cancel_left]; rfl
    have kx := k0 (.ins (He.ga K "Book") ["word", "registers", "forms"] [.int (n : Int), .int R, .tup (formsD K rs)]) (dS ts)
    have jn : ∀ {ρ : Rho} {ν' : Mu} {P : List Str → Prop}, P ts → ∃ ds zs, qv (.val (.lst (dS ts))) ρ ν' = some ds ∧ D.strs ds = some zs ∧ (zs.map (·.length)).sum + zs.length * ("\n" : Str).length ≤ 16777216 ∧ P zs := fun {ρ ν' P} hP => ex_joinN (ys := ts) (m := 10000) (k := 34) (μ := ν') rfl ht (by omega) (by decide) hP
    have hn : (Txt.join "\n" ts).length + ("\n" : Str).length ≤ sizeLine := by
      rw [HTx_join]
      have hj := join_len (a := "\n") (m := 10000) (ys := ts) ht
      have h1 : ts.length * (10000 + ("\n" : Str).length) ≤ 34 * (10000 + ("\n" : Str).length) := Nat.mul_le_mul_right _ (by omega)
      have e1 : ("\n" : Str).length = 1 := rfl
      rw [e1] at h1 hj ⊢
      simp [sizeLine]
      omega
    (exists 15, kx, jn, hn)
    rw [ks]
    refine ⟨ν.length, He.ga K "Book", ["word", "registers", "forms"], [.int (n : Int), .int R, .tup (formsD K rs)], rfl, by simp, List.mem_singleton.mpr rfl, by decide, ?_⟩
    have e : ∀ (a b c : MO), (ν ++ [a, b]).set ν.length c = ν ++ [c, b] := fun a b c => by
      rw [List.set_append_right _ _ (Nat.le_refl _), Nat.sub_self]; rfl
    rw [e]
    exact q _
end K10

set_option Elab.async false
set_option linter.all false
set_option maxRecDepth 100000
set_option maxHeartbeats 4000000
set_option autoImplicit false
namespace K10
open PySem PySem.Spec L2 DL
variable {K : Fg} {μ μ' : Mu} {Q : D → Mu → Prop} {k : Nat} {A : Nat → Prop}
theorem dS_len {ps : List Str} : (dS ps).length = ps.length := List.length_map ..
abbrev fiveL : List Nat := [97, 98, 99, 109, 110]
abbrev sevens : List Nat := [48, 49, 97, 98, 99, 109, 110]
def leftM (L : Nat → Nat) : MO := .dk (keysS ["a", "b", "c", "m", "n"]) [.int (L 97 : Nat), .int (L 98 : Nat), .int (L 99 : Nat), .int (L 109 : Nat), .int (L 110 : Nat)]
def lessL (L : Nat → Nat) (c : Nat) : Nat → Nat := fun x => if x = c then L x - 1 else L x
theorem low_left {n : Nat} (L : Nat → Nat) : (leftM L).low n = true := rfl
theorem sev {c : Nat} (h : c ∈ sevens) : c = 48 ∨ c = 49 ∨ c = 97 ∨ c = 98 ∨ c = 99 ∨ c = 109 ∨ c = 110 := by simpa using h
theorem dget_left {k c : Nat} {L : Nat → Nat} (hk : μ[k]? = some (leftM L)) (hc : c ∈ sevens) : dgetD (.mref k) (.str ⟨#[c]⟩) μ = some (if c ∈ fiveL then some (.int (L c : Nat)) else none) := by
  unfold leftM at hk
  simp only [dgetD, hk]
  rcases sev hc with rfl | rfl | rfl | rfl | rfl | rfl | rfl <;> rfl
theorem dput_left {k c : Nat} {L : Nat → Nat} (hk : μ[k]? = some (leftM L)) (hc : c ∈ fiveL) (h0 : L c ≠ 0) : dputD (.mref k) (.str ⟨#[c]⟩) (.int ((L c : Nat) - 1)) μ = some (μ.set k (leftM (lessL L c))) := by
  have e : ∀ x : Nat, x ≠ 0 → ((x : Int) - 1) = ((x - 1 : Nat) : Int) := fun x hx => by omega
  rw [e _ h0]
  unfold leftM at hk
  simp only [dputD, hk]
  have hs : (5 : Nat) < sizeLine := by decide
  have hc' : c = 97 ∨ c = 98 ∨ c = 99 ∨ c = 109 ∨ c = 110 := by simpa using hc
  rcases hc' with rfl | rfl | rfl | rfl | rfl <;> rfl
def dinP (d y : D) (μ : Mu) (P : Bool → Prop) : Prop := ∃ o, dgetD d y μ = some o ∧ P o.isSome
theorem dinF {ρ : Rho} {t u : TD} (h : We u ρ μ fun y μ1 => We t ρ μ1 fun d μ2 => dinP d y μ2 fun b => Q (.bl b) μ2) : We (dDIn false u t) ρ μ Q := we_din h
theorem din_left {k c : Nat} {L : Nat → Nat} {P : Bool → Prop} (hk : μ[k]? = some (leftM L)) (hc : c ∈ sevens) (h : P (decide (c ∈ fiveL))) : dinP (.mref k) (.str ⟨#[c]⟩) μ P := by
  refine ⟨_, dget_left hk hc, ?_⟩
  by_cases e : c ∈ fiveL
  · rw [if_pos e]
    rw [decide_eq_true e] at h
    exact h
  · rw [if_neg e]
    rw [decide_eq_false e] at h
    exact h
theorem dg_left {k c : Nat} {L : Nat → Nat} {P : D → Prop} (hk : μ[k]? = some (leftM L)) (hc : c ∈ fiveL) (h : P (.int (L c : Nat))) : ∃ z, dgetD (.mref k) (.str ⟨#[c]⟩) μ = some (some z) ∧ P z := by
  have hs : c ∈ sevens := by
    have hc' : c = 97 ∨ c = 98 ∨ c = 99 ∨ c = 109 ∨ c = 110 := by simpa using hc
    rcases hc' with rfl | rfl | rfl | rfl | rfl <;> decide
  refine ⟨_, ?_, h⟩
  rw [dget_left hk hs, if_pos hc]
theorem dp_left {k c : Nat} {L : Nat → Nat} {P : Mu → Prop} (hk : μ[k]? = some (leftM L)) (hc : c ∈ fiveL) (h0 : L c ≠ 0) (h : P (μ.set k (leftM (lessL L c)))) : ∃ μ', dputD (.mref k) (.str ⟨#[c]⟩) (.int ((L c : Nat) - 1)) μ = some μ' ∧ P μ' := ⟨_, dput_left hk hc h0, h⟩
theorem drawn_sign {v : Nat} (h : (v : Int) < 12) : (("0101mnab01nc" : Str).cps.toList.getD v 0) ∈ sevens := by
  have key : ∀ v < 12, ("0101mnab01nc" : Str).cps.toList.getD v 0 ∈ sevens := by decide
  exact key v (by omega)
def Left (e n : Nat) (ps : List Str) (s : Str) (L : Nat → Nat) : Prop := (∀ x ∈ [97, 98, 99], cntP x ps + s.cps.toList.count x + L x = e) ∧ (∀ x ∈ [109, 110], cntP x ps + s.cps.toList.count x + L x = n)
theorem cnt_snoc {x c : Nat} {s : Str} : (s ++ (⟨#[c]⟩ : Str)).cps.toList.count x = s.cps.toList.count x + if c = x then 1 else 0 := by
  rw [app_cps, List.count_append]
  congr 1
  show [c].count x = _
  rw [List.count_cons, List.count_nil]
  simp
theorem Left.zero {e n : Nat} {ps : List Str} {s : Str} {L : Nat → Nat} {c : Nat} (h : Left e n ps s L) (hc : c = 48 ∨ c = 49) : Left e n ps (s ++ (⟨#[c]⟩ : Str)) L := by
  refine ⟨fun x hx => ?_, fun x hx => ?_⟩
  · have := h.1 x hx
    rw [cnt_snoc, if_neg (by rintro rfl; rcases hc with rfl | rfl <;> revert hx <;> decide)]
    omega
  · have := h.2 x hx
    rw [cnt_snoc, if_neg (by rintro rfl; rcases hc with rfl | rfl <;> revert hx <;> decide)]
    omega
theorem Left.less {e n : Nat} {ps : List Str} {s : Str} {L : Nat → Nat} {c : Nat} (h : Left e n ps s L) (h0 : L c ≠ 0) : Left e n ps (s ++ (⟨#[c]⟩ : Str)) (lessL L c) := by
  refine ⟨fun x hx => ?_, fun x hx => ?_⟩
  · have := h.1 x hx
    rw [cnt_snoc]
    unfold lessL
    by_cases e : x = c
    · subst e; rw [if_pos rfl, if_pos rfl]; omega
    · rw [if_neg e, if_neg (fun h => e h.symm)]; omega
  · have := h.2 x hx
    rw [cnt_snoc]
    unfold lessL
    by_cases e : x = c
    · subst e; rw [if_pos rfl, if_pos rfl]; omega
    · rw [if_neg e, if_neg (fun h => e h.symm)]; omega
theorem cntP_snoc {x : Nat} {ps : List Str} {s : Str} : cntP x (ps ++ [s]) = cntP x ps + s.cps.toList.count x := by
  unfold cntP
  rw [List.map_append, List.sum_append]
  simp
theorem Left.row {e n : Nat} {ps : List Str} {s : Str} {L : Nat → Nat} (h : Left e n ps s L) : Left e n (ps ++ [s]) "" L := by
  have h0 : ∀ x, ("" : Str).cps.toList.count x = 0 := fun x => rfl
  exact ⟨fun x hx => by rw [cntP_snoc, h0]; exact h.1 x hx, fun x hx => by rw [cntP_snoc, h0]; exact h.2 x hx⟩
theorem Left.ok {e n m : Nat} {ps : List Str} {s : Str} {L : Nat → Nat} (h : Left e n ps s L) (hl : ps.length = m) (h1 : 1 ≤ m) (h3 : m ≤ 3) (hz : ∀ z ∈ ps, z.length = n ∧ ∀ c ∈ z.cps.toList, c ∈ sevens) : OkP n e ps := by
  refine ⟨by omega, by omega, fun z hm => (hz z hm).1, fun z hm c hc => ?_, fun c hc => ?_, fun c hc => ?_⟩
  · rcases sev ((hz z hm).2 c hc) with rfl | rfl | rfl | rfl | rfl | rfl | rfl <;> decide
  · have := h.1 c hc
    omega
  · have := h.2 c hc
    omega
def nwP (Q : D → Mu → Prop) (m : MO) (μ : Mu) : Prop := Q (.mref μ.length) (μ ++ [m])
theorem nwD {ρ : Rho} {zs : List Str} {ts : List TD} {Q : D → Mu → Prop} (h : We (dVals ts) ρ μ fun ds μ1 => nwP Q (.dk (keysS zs) ds) μ1) : We (dDispM zs ts) ρ μ Q := we_dispM h
theorem nwA {ρ : Rho} {tl : TL} {Q : D → Mu → Prop} (h : We tl ρ μ fun ds μ1 => nwP Q (.lst ds) μ1) : We (dAmb tl) ρ μ Q := we_amb h
theorem nwX {Q : D → Mu → Prop} {m : MO} (h : Q (.mref μ.length) (μ ++ [m])) : nwP Q m μ := h
theorem set_ne {i j : Nat} {m x : MO} (h : μ[j]? = some x) (e : i ≠ j) : (μ.set i m)[j]? = some x := by rw [List.getElem?_set_ne e]; exact h
theorem dS_snoc {ps : List Str} {z : Str} : dS (ps ++ [z]) = dS ps ++ [D.str z] := List.map_append
theorem t_patterns {n e m : Nat} {R : Int} (wf : Wf μ) (h : DR μ k) (hR : atI [D.int 0, D.int 0, D.int 1, D.int 1, D.int 2] R = some (.int (e : Int))) (hn0 : 1 ≤ n) (hn : n ≤ 100) (h1 : 1 ≤ m) (h3 : m ≤ 3)
    (q : ∀ (ps : List Str) (p : Nat) (μ' : Mu), OkP n e ps → ps.length = m → Wf μ' → Gr (fun i => i = k) μ μ' → DR μ' k → μ.length ≤ p → μ'[p]? = some (.lst (dS ps)) → Q (.mref p) μ') : Wf' (S__law_patterns K) [.mref k, .int (n : Int), .int R, .int (m : Int)] μ Q := by
  apply wf_run
  unfold B__law_patterns
  show Ws _ [some (.sh (.mref k)), some (.sh (.int (n : Int))), some (.sh (.int R)), some (.sh (.int (m : Int))), none, none, none, none, none, none, none] _ _
  have hm : m < 1000000 := by omega
  have hn6 : n < 1000000 := by omega
  have hkl := h.lt
  (exists 16, hR, nwD, nwA, nwX, hm)
  have e1 : ∀ x : MO, (μ ++ [x]).length = μ.length + 1 := fun x => by simp
  rw [e1]
  have hL0 : Left e n [] "" (fun x => if x ∈ [97, 98, 99] then e else n) := ⟨fun x hx => by
    show 0 + 0 + (if x ∈ [97, 98, 99] then e else n) = e
    rw [if_pos hx]; omega, fun x hx => by
    show 0 + 0 + (if x ∈ [97, 98, 99] then e else n) = n
    have hne : x ∉ [97, 98, 99] := by
      have : x = 109 ∨ x = 110 := by simpa using hx
      rcases this with rfl | rfl <;> decide
    rw [if_neg hne]; omega⟩
  have start : ∃ μa, μ ++ [.dk (keysS ["a", "b", "c", "m", "n"]) [.int (e : Int), .int (e : Int), .int (e : Int), .int (n : Int), .int (n : Int)]] ++ [.lst []] = μa ∧ Wf μa ∧ Gr (fun i => i = k) μ μa ∧ DR μa k ∧ μa[μ.length]? = some (leftM (fun x => if x ∈ [97, 98, 99] then e else n)) ∧ μa[μ.length + 1]? = some (.lst (dS [])) := by
    have w1 : Wf (μ ++ [leftM (fun x => if x ∈ [97, 98, 99] then e else n)]) := Wf.app wf (low_left _)
    have w2 : Wf (μ ++ [leftM (fun x => if x ∈ [97, 98, 99] then e else n)] ++ [.lst []]) := Wf.app w1 rfl
    have g2 : Gr (fun i => i = k) μ (μ ++ [leftM (fun x => if x ∈ [97, 98, 99] then e else n)] ++ [.lst []]) := by rw [List.append_assoc]; exact gr_app
    refine ⟨μ ++ [leftM (fun x => if x ∈ [97, 98, 99] then e else n)] ++ [.lst []], rfl, w2, g2, ?_, ?_, ?_⟩
    · have g3 : Gr (fun _ => False) μ (μ ++ [leftM (fun x => if x ∈ [97, 98, 99] then e else n)] ++ [.lst []]) := by rw [List.append_assoc]; exact gr_app
      exact h.gr g3 (fun h => h)
    · rw [List.append_assoc, List.getElem?_append_right (Nat.le_refl _), Nat.sub_self]; rfl
    · rw [List.append_assoc, List.getElem?_append_right (by omega), Nat.add_sub_cancel_left]; rfl
  obtain ⟨μa, ea, wa, ga, da, la0, la1⟩ := start
  rw [ea]
  refine ⟨fun i ρ μ' => ∃ s7 s8 s9 s10 ps L, ps.length = i ∧ (∀ z ∈ ps, z.length = n ∧ ∀ c ∈ z.cps.toList, c ∈ sevens) ∧ Left e n ps "" L ∧ ρ = [some (.sh (.mref k)), some (.sh (.int (n : Int))), some (.sh (.int R)), some (.sh (.int (m : Int))), some (.sh (.int (e : Int))), some (.sh (.mref μ.length)), some (.sh (.mref (μ.length + 1))), s7, s8, s9, s10] ∧ Wf μ' ∧ Gr (fun i => i = k) μ μ' ∧ DR μ' k ∧ μ'[μ.length]? = some (leftM L) ∧ μ'[μ.length + 1]? = some (.lst (dS ps)), ?_, ?_, ?_⟩
  · exact ⟨_, _, _, _, [], _, rfl, fun z hz => (by cases hz), hL0, rfl, wa, ga, da, la0, la1⟩
  · rintro i d ρ μ1 hd ⟨s7, s8, s9, s10, ps, L, hl, hz, hL, rfl, w1, g1, d1, l10, l11⟩
    obtain ⟨hi, rfl⟩ := rng_at hd
    (exists 16, hn6)
    refine ⟨fun j ρ μ2 => ∃ s9 s10 s L, s.length = j ∧ (∀ c ∈ s.cps.toList, c ∈ sevens) ∧ Left e n ps s L ∧ ρ = [some (.sh (.mref k)), some (.sh (.int (n : Int))), some (.sh (.int R)), some (.sh (.int (m : Int))), some (.sh (.int (e : Int))), some (.sh (.mref μ.length)), some (.sh (.mref (μ.length + 1))), some (.sh (.int (i : Nat))), some (.sh (.str s)), s9, s10] ∧ Wf μ2 ∧ Gr (fun i => i = k) μ μ2 ∧ DR μ2 k ∧ μ2[μ.length]? = some (leftM L) ∧ μ2[μ.length + 1]? = some (.lst (dS ps)), ⟨_, _, "", L, rfl, fun c hc => (by cases hc), hL, rfl, w1, g1, d1, l10, l11⟩, ?_, ?_⟩
    · rintro j d ρ μ2 hd ⟨s9, s10, s, L2, hs, hsc, hL2, rfl, w2, g2, d2, l20, l21⟩
      obtain ⟨hj, rfl⟩ := rng_at hd
      have h12 : (0 : Int) < 12 := by decide
      have hlz : ("0101mnab01nc" : Str).length ≤ sizeLine := by decide
      have hs1 : ∀ c : Nat, s.length + (⟨#[c]⟩ : Str).length ≤ sizeLine := fun c => by
        show s.length + 1 ≤ _
        have : sizeLine = 16777216 := rfl
        omega
      (exists 16, DL.ws_seq)
      refine t_take w2 d2 h12 fun v μ3 hv w3 g3 d3 => ?_
      have l30 := g3.at l20 (by omega)
      have l31 := g3.at l21 (by omega)
      have hvl : v < ("0101mnab01nc" : Str).length := by show v < 12; omega
      have hsv := drawn_sign hv
      have g4 := g2.trans g3
      (exists 16, ex_ixS hlz hvl, dinF, din_left l30 hsv)
      generalize ("0101mnab01nc" : Str).cps.toList.getD v 0 = c at hsv
      have hnew : ∀ c' ∈ (s ++ (⟨#[c]⟩ : Str)).cps.toList, c' ∈ sevens := fun c' hc' => by
        rw [app_cps] at hc'
        rcases List.mem_append.mp hc' with hc' | hc'
        · exact hsc c' hc'
        · rw [List.mem_singleton.mp hc']; exact hsv
      have hnew0 : ∀ c' ∈ (s ++ ("0" : Str)).cps.toList, c' ∈ sevens := fun c' hc' => by
        rw [app_cps] at hc'
        rcases List.mem_append.mp hc' with hc' | hc'
        · exact hsc c' hc'
        · rw [List.mem_singleton.mp hc']; decide
      have e0 : ("0" : Str) = ⟨#[48]⟩ := rfl
      have ln : ∀ c : Nat, (s ++ (⟨#[c]⟩ : Str)).length = j + 1 := fun c => by rw [len_app, hs]; rfl
      refine ⟨fun h2 => ?_, fun h2 => ?_⟩
      · have hcl := of_decide_eq_true h2
        (exists 16, dg_left l30 hcl)
        refine ⟨fun h4 => ?_, fun h4 => ?_⟩
        · have hs0 : s.length + ("0" : Str).length ≤ sizeLine := hs1 48
          (exists 16, hs0)
          exact ⟨_, _, s ++ ("0" : Str), L2, ln 48, hnew0, hL2.zero (.inl rfl), rfl, w3, g4, d3, l30, l31⟩
        · have h5 : L2 c ≠ 0 := by
            have := of_decide_eq_false h4
            omega
          (exists 16, dg_left l30 hcl, dp_left l30 hcl h5, hs1 c)
          exact ⟨_, _, s ++ (⟨#[c]⟩ : Str), lessL L2 c, ln c, hnew, hL2.less h5, rfl, wf_set w3 (low_left _), g4.then gr_set (fun i hi h => by omega), d3.gr gr_set (by omega), set_at (List.getElem?_eq_some_iff.mp l30).1, set_ne l31 (by omega)⟩
      · have hcl := of_decide_eq_false h2
        have hc01 : c = 48 ∨ c = 49 := by
          rcases sev hsv with rfl | rfl | rfl | rfl | rfl | rfl | rfl
          · exact .inl rfl
          · exact .inr rfl
          all_goals exact absurd (by decide) hcl
        (exists 16, hs1 c)
        exact ⟨_, _, s ++ (⟨#[c]⟩ : Str), L2, ln c, hnew, hL2.zero hc01, rfl, w3, g4, d3, l30, l31⟩
    · rintro ρ μ2 ⟨s9, s10, s, L2, hs, hsc, hL2, rfl, w2, g2, d2, l20, l21⟩
      rw [rng_len] at hs
      have hl4 : (dS ps).length < sizeLine := by rw [dS_len]; simp [sizeLine]; omega
      (exists 16, l21, hl4)
      refine ⟨_, _, _, _, ps ++ [s], L2, by rw [List.length_append, hl]; rfl, ?_, hL2.row, rfl, wf_set w2 (by rw [← dS_snoc]; exact low_dS _), g2.then gr_set (fun i hi h => by omega), d2.gr gr_set (by omega), set_ne l20 (by omega), ?_⟩
      · intro z hm
        rcases List.mem_append.mp hm with hm | hm
        · exact hz z hm
        · rw [List.mem_singleton.mp hm]; exact ⟨hs, hsc⟩
      · rw [dS_snoc]
        exact set_at (List.getElem?_eq_some_iff.mp l21).1
  · rintro ρ μ1 ⟨s7, s8, s9, s10, ps, L, hl, hz, hL, rfl, w1, g1, d1, l10, l11⟩
    rw [rng_len] at hl
    replace q := And.intro trivial q
    (exists 16, DL.ws_seq)
    exact q.2 ps _ _ (hL.ok hl h1 h3 hz) hl w1 g1 d1 (by omega) l11
end K10

set_option Elab.async false
set_option linter.all false
set_option maxRecDepth 100000
set_option maxHeartbeats 4000000
set_option autoImplicit false
namespace K10
open PySem PySem.Spec L2 DL
variable {K : Fg} {μ μ' : Mu} {Q : D → Mu → Prop} {k : Nat} {A : Nat → Prop}
def signAt (z : Str) (j : Nat) : Nat := z.cps.toList.getD j 0
def setZ (z : Str) (j c : Nat) : Str := ⟨(z.cps.toList.set j c).toArray⟩
theorem str_ext {x y : Str} (h : x.cps.toList = y.cps.toList) : x = y := by
  cases x; cases y
  simp only [Str.mk.injEq]
  exact Array.toList_inj.mp h
section
variable {z : Str} {j c x : Nat} {ps : List Str} {i n e : Nat}
theorem setZ_cps : (setZ z j c).cps.toList = z.cps.toList.set j c := rfl
theorem setZ_len : (setZ z j c).length = z.length := by
  show (z.cps.toList.set j c).toArray.size = _
  rw [List.size_toArray, List.length_set, Array.length_toList]
  rfl
theorem cps_len : z.cps.toList.length = z.length := Array.length_toList
theorem cut_set (hj : j < z.length) : cutS z none (some (j : Int)) ++ (⟨#[c]⟩ : Str) ++ cutS z (some ((j : Int) + 1)) none = setZ z j c := by
  apply str_ext
  have e1 : ((j : Int) + 1) = ((j + 1 : Nat) : Int) := by omega
  have hl := cps_len (z := z)
  rw [app_cps, app_cps, setZ_cps, e1]
  unfold cutS
  rw [HT.sIx_none, HT.sIx_nat, HT.sIx_nat, HT.sIx_none]
  simp only [List.drop_zero, Nat.sub_zero]
  rw [show min j z.length = j by omega, show min (j + 1) z.length = j + 1 by omega]
  have e2 : (z.cps.toList.drop (j + 1)).take (z.length - (j + 1)) = z.cps.toList.drop (j + 1) := List.take_of_length_le (by rw [List.length_drop, hl]; omega)
  show z.cps.toList.take j ++ [c] ++ (z.cps.toList.drop (j + 1)).take (z.length - (j + 1)) = _
  rw [e2, List.set_eq_take_append_cons_drop, if_pos (by omega)]
  simp
def setP (ps : List Str) (i j c : Nat) : List Str := ps.set i (setZ (ps.getD i "") j c)
theorem setP_len : (setP ps i j c).length = ps.length := List.length_set ..
theorem getD_mem (hi : i < ps.length) : ps.getD i "" ∈ ps := by
  rw [List.getD_eq_getElem?_getD, List.getElem?_eq_getElem hi]
  exact List.getElem_mem hi
theorem sum_set {f : Str → Nat} {q : Str} : ∀ {ps : List Str} {i : Nat}, i < ps.length → ((ps.set i q).map f).sum + f (ps.getD i "") = (ps.map f).sum + f q
  | p :: ps, 0, _ => by
    show ((q :: ps).map f).sum + f p = _
    simp only [List.map_cons, List.sum_cons]
    omega
  | p :: ps, i + 1, h => by
    have ih := sum_set (f := f) (q := q) (ps := ps) (i := i) (by simpa using h)
    show ((p :: ps.set i q).map f).sum + f (ps.getD i "") = _
    simp only [List.map_cons, List.sum_cons]
    omega
theorem count_set' {x c : Nat} : ∀ {l : List Nat} {j : Nat}, j < l.length → (l.set j c).count x + (if l.getD j 0 = x then 1 else 0) = l.count x + (if c = x then 1 else 0)
  | d :: l, 0, _ => by
    show (c :: l).count x + (if d = x then 1 else 0) = _
    rw [List.count_cons, List.count_cons]
    simp only [beq_iff_eq]
    omega
  | d :: l, j + 1, h => by
    have ih := count_set' (x := x) (c := c) (l := l) (j := j) (by simpa using h)
    show (d :: l.set j c).count x + (if l.getD j 0 = x then 1 else 0) = _
    rw [List.count_cons, List.count_cons]
    omega
theorem cnt_set (hi : i < ps.length) (hj : j < (ps.getD i "").length) (hx : c ≠ x) : cntP x (setP ps i j c) ≤ cntP x ps := by
  have hs := sum_set (f := fun z : Str => z.cps.toList.count x) (q := setZ (ps.getD i "") j c) hi
  have hl : j < (ps.getD i "").cps.toList.length := by rw [cps_len]; exact hj
  have a := count_set' (x := x) (c := c) hl
  rw [if_neg hx] at a
  unfold cntP setP
  simp only [setZ_cps] at hs
  omega
theorem mem_setP {z : Str} (hi : i < ps.length) (h : z ∈ setP ps i j c) : z ∈ ps ∨ z = setZ (ps.getD i "") j c := List.mem_or_eq_of_mem_set h
theorem setP_lens (hz : ∀ z ∈ ps, z.length = n) (hi : i < ps.length) : ∀ z ∈ setP ps i j c, z.length = n := fun z h => by
  rcases mem_setP hi h with h | rfl
  · exact hz z h
  · rw [setZ_len]; exact hz _ (getD_mem hi)
theorem OkP.set (h : OkP n e ps) (hi : i < ps.length) (hj : j < n) (hc : c = 48 ∨ c = 49) : OkP n e (setP ps i j c) := by
  have hj' : j < (ps.getD i "").length := by rw [h.z _ (getD_mem hi)]; exact hj
  refine ⟨by rw [setP_len]; exact h.l0, by rw [setP_len]; exact h.l1, setP_lens h.z hi, ?_, ?_, ?_⟩
  · intro z hz d hd
    rcases mem_setP hi hz with hz | rfl
    · exact h.s z hz d hd
    · rw [setZ_cps] at hd
      rcases List.mem_or_eq_of_mem_set hd with hd | rfl
      · exact h.s _ (getD_mem hi) d hd
      · rcases hc with rfl | rfl <;> decide
  · intro d hd
    refine Nat.le_trans (cnt_set hi hj' ?_) (h.ab d hd)
    rintro rfl
    rcases hc with rfl | rfl <;> revert hd <;> decide
  · intro d hd
    refine Nat.le_trans (cnt_set hi hj' ?_) (h.mn d hd)
    rintro rfl
    rcases hc with rfl | rfl <;> revert hd <;> decide
end
theorem dS_set {ps : List Str} {i : Nat} {z : Str} : (dS ps).set i (.str z) = dS (ps.set i z) := (List.map_set ..).symm
theorem one_zero {v : Nat} (h : (v : Int) < 2) : (("10" : Str).cps.toList.getD v 0) = 48 ∨ (("10" : Str).cps.toList.getD v 0) = 49 := by
  match v, (show v < 2 by omega) with
  | 0, _ => exact .inr rfl
  | 1, _ => exact .inl rfl
theorem zeros_ok {n e : Nat} {ps : List Str} (h : OkP n e ps) (hl : ps.length < 3) {zz : Str} (hz : zz.length = n) (hs : ∀ c ∈ zz.cps.toList, c = 48) : OkP n e (ps ++ [zz]) := by
  have hc : ∀ x, x ≠ 48 → cntP x (ps ++ [zz]) = cntP x ps := fun x hx => by
    unfold cntP
    rw [List.map_append, List.sum_append]
    have : zz.cps.toList.count x = 0 := List.count_eq_zero.mpr fun hm => hx (hs x hm)
    show (ps.map _).sum + ([zz.cps.toList.count x].sum) = _
    rw [this]
    rfl
  refine ⟨by simp, by simp; omega, ?_, ?_, ?_, ?_⟩
  · intro z hm
    rcases List.mem_append.mp hm with hm | hm
    · exact h.z z hm
    · rw [List.mem_singleton.mp hm]; exact hz
  · intro z hm c hcm
    rcases List.mem_append.mp hm with hm | hm
    · exact h.s z hm c hcm
    · rw [List.mem_singleton.mp hm] at hcm
      rw [hs c hcm]
      decide
  · intro c hcm
    rw [hc c (by rintro rfl; revert hcm; decide)]
    exact h.ab c hcm
  · intro c hcm
    rw [hc c (by rintro rfl; revert hcm; decide)]
    exact h.mn c hcm
theorem take_ok {n e k : Nat} {ps : List Str} (h : OkP n e ps) (hk : 1 ≤ k) : OkP n e (ps.take k) := by
  have hc : ∀ x, cntP x (ps.take k) ≤ cntP x ps := fun x => by
    have e : ps = ps.take k ++ ps.drop k := (List.take_append_drop k ps).symm
    have : cntP x ps = cntP x (ps.take k) + cntP x (ps.drop k) := by
      unfold cntP
      rw [← List.sum_append, ← List.map_append, List.take_append_drop]
    omega
  have h0 := h.l0
  have h1 := h.l1
  refine ⟨by rw [List.length_take]; omega, by rw [List.length_take]; omega, fun z hm => h.z z (List.mem_of_mem_take hm), fun z hm => h.s z (List.mem_of_mem_take hm), fun c hcm => Nat.le_trans (hc c) (h.ab c hcm), fun c hcm => Nat.le_trans (hc c) (h.mn c hcm)⟩
theorem cut_len {z : Str} {j : Nat} : (cutS z none (some (j : Int))).length ≤ z.length := by
  unfold cutS
  show ((z.cps.toList.drop _).take _).toArray.size ≤ _
  rw [List.size_toArray, List.length_take, List.length_drop, cps_len]
  omega
theorem ex_cutS {z : Str} {j c : Nat} {P : D → Prop} (hj : j < z.length) (hl : z.length ≤ 1000) (h : P (.str (setZ z j c))) : ∃ d, gAdd (.str (cutS z none (some (j : Int)) ++ (⟨#[c]⟩ : Str))) (.str (cutS z (some ((j : Int) + 1)) none)) = some d ∧ P d := by
  refine ⟨_, if_pos ?_, by rw [cut_set hj]; exact h⟩
  have h1 := len_app (cutS z none (some (j : Int)) ++ (⟨#[c]⟩ : Str)) (cutS z (some ((j : Int) + 1)) none)
  rw [cut_set hj, setZ_len] at h1
  simp [sizeLine]
  omega
theorem rep_cps (c n : Nat) : (repS (⟨#[c]⟩ : Str) (n : Int)).cps.toList = List.replicate n c := by
  unfold repS
  by_cases h : (n : Int) < 1
  · rw [if_pos h]
    have : n = 0 := by omega
    subst this
    rfl
  · rw [if_neg h]
    by_cases h1 : n = 1
    · subst h1
      rfl
    · have e : (((n : Int) == 1) || ((⟨#[c]⟩ : Str).length == 0)) = false := by
        rw [Bool.or_eq_false_iff]
        refine ⟨?_, rfl⟩
        rw [beq_eq_false_iff_ne]
        omega
      rw [e, if_neg (by decide), Int.toNat_natCast]
      have key : ∀ (m : Nat) (acc : Array Nat), ((List.replicate m (⟨#[c]⟩ : Str).cps).foldl (· ++ ·) acc).toList = acc.toList ++ List.replicate m c := by
        intro m
        induction m with
        | zero => intro acc; simp
        | succ m ih =>
          intro acc
          rw [List.replicate_succ, List.foldl_cons, ih, Array.toList_append, List.append_assoc]
          rfl
      show ((List.replicate n (⟨#[c]⟩ : Str).cps).foldl (· ++ ·) #[]).toList = _
      rw [key]
      rfl
theorem zeros {n : Nat} (hn : n ≤ 100) : (repS "0" (n : Int)).length = n ∧ ∀ c ∈ (repS "0" (n : Int)).cps.toList, c = 48 := by
  have h := rep_cps 48 n
  have e : ("0" : Str) = ⟨#[48]⟩ := rfl
  rw [e]
  refine ⟨by rw [← cps_len, h, List.length_replicate], fun c hc => ?_⟩
  rw [h] at hc
  exact (List.mem_replicate.mp hc).2
theorem t_bent {ps : List Str} {n e p : Nat} (wf : Wf μ) (h : DR μ k) (hpp : μ[p]? = some (.lst (dS ps))) (hpk : p ≠ k) (hp : OkP n e ps) (hn0 : 1 ≤ n) (hn : n ≤ 100)
    (q : ∀ (ps' : List Str) (p' : Nat) (μ' : Mu), OkP n e ps' → Wf μ' → Gr (fun i => i = k) μ μ' → DR μ' k → μ.length ≤ p' → μ'[p']? = some (.lst (dS ps')) → Q (.mref p') μ') : Wf' (S__law_bent K) [.mref k, .mref p] μ Q := by
  apply wf_run
  unfold B__law_bent
  show Ws _ [some (.sh (.mref k)), some (.sh (.mref p)), none, none, none, none, none, none] _ _
  have l0 := hp.l0
  have l1 := hp.l1
  have hkl := h.lt
  refine ws_seq (yo2 (we_lcI (xs := ps) D.str D.str ?_))
  (exists 17, DL.ws_seq)
  refine ⟨by show (match μ[p]? with | some (.lst ds) => some ds | _ => none) = _; rw [hpp], rfl, by simp [sizeLine]; omega, fun z hz => ⟨_, rfl, ?_⟩, ?_⟩
  · show We _ [some (.sh (.mref k)), some (.sh (.mref p)), none, none, none, none, none, some (.sh (.str z))] _ _
    (exists 17, DL.ws_seq)
    exact ⟨rfl, rfl⟩
  refine yn0 (ws_seq (ym2 ?_))
  have wa : Wf (μ ++ [.lst (dS ps)]) := Wf.app wf (low_dS ps)
  have ga : Gr (fun i => i = k) μ (μ ++ [.lst (dS ps)]) := gr_app
  have da : DR (μ ++ [.lst (dS ps)]) k := h.gr (gr_app (A := fun _ => False)) (fun h => h)
  have la : (μ ++ [MO.lst (dS ps)])[μ.length]? = some (.lst (dS ps)) := app_at
  show Ws _ [some (.sh (.mref k)), some (.sh (.mref p)), some (.sh (.mref μ.length)), none, none, none, none, none] _ _
  generalize μ ++ [MO.lst (dS ps)] = μa at *
  have hm1 : (0 : Int) < ((dS ps).length : Int) := by rw [dS_len]; omega
  (exists 17, la)
  refine t_take wa da hm1 fun v1 μ1 hv1 w1 g1 d1 => ?_
  have l1a := g1.at la (by omega)
  rw [dS_len] at hv1
  have hi : v1 < ps.length := by omega
  have ex := at_dS hi
  have lz := hp.z _ (getD_mem hi)
  have sz : (ps.getD v1 "").length ≤ sizeLine := by rw [lz]; simp [sizeLine]; omega
  have hm2 : (0 : Int) < ((ps.getD v1 "").length : Int) := by rw [lz]; omega
  (exists 17, l1a, ex, sz)
  refine t_take w1 d1 hm2 fun v2 μ2 hv2 w2 g2 d2 => ?_
  have l2a := g2.at l1a (by omega)
  have hj : v2 < (ps.getD v1 "").length := by omega
  have hm3 : (0 : Int) < 2 := by decide
  (exists 17, DL.ws_seq)
  refine t_take w2 d2 hm3 fun v3 μ3 hv3 w3 g3 d3 => ?_
  have l3a := g3.at l2a (by omega)
  have h10 : ("10" : Str).length ≤ sizeLine := by decide
  have hv3' : v3 < ("10" : Str).length := by show v3 < 2; omega
  have hc := one_zero hv3
  have hk2 : ((v2 : Int) + 1) = ((v2 + 1 : Nat) : Int) := by omega
  have sA : ∀ c, (cutS (ps.getD v1 "") none (some (v2 : Int))).length + (⟨#[c]⟩ : Str).length ≤ sizeLine := fun c => by
    have := cut_len (z := ps.getD v1 "") (j := v2)
    have hs : sizeLine = 16777216 := rfl
    show _ + 1 ≤ _
    omega
  have l1000 : (ps.getD v1 "").length ≤ 1000 := by omega
  have sz' : ∀ {P : Prop}, P → (ps.getD v1 "").length ≤ sizeLine ∧ P := fun h => ⟨sz, h⟩
  have hix : ixN (dS ps).length (v1 : Int) = some v1 := by rw [dS_len]; unfold ixN; simp; omega
  have hm4 : (0 : Int) < 4 := by decide
  generalize hps1 : setP ps v1 v2 (("10" : Str).cps.toList.getD v3 0) = ps1
  have st : ∀ {Pm : Mu → Prop}, Pm (μ3.set μ.length (.lst (dS ps1))) → ∃ k' z' ds' j', D.mref μ.length = .mref k' ∧ D.int (v1 : Int) = .int z' ∧ μ3[k']? = some (MO.lst ds') ∧ ixN ds'.length z' = some j' ∧ Pm (μ3.set k' (MO.lst (ds'.set j' (D.str (setZ (ps.getD v1 "") v2 (("10" : Str).cps.toList.getD v3 0)))))) := fun {Pm} hP => ⟨_, _, _, _, rfl, rfl, l3a, hix, by rw [dS_set]; rw [← hps1] at hP; exact hP⟩
  have hp1 : OkP n e ps1 := by rw [← hps1]; exact hp.set hi (by omega) hc
  (exists 17, ex_ixS h10 hv3', l3a, ex, sz', sA, ex_cutS hj l1000, st)
  have w4 : Wf (μ3.set μ.length (.lst (dS ps1))) := wf_set w3 (low_dS _)
  have g4 : Gr (fun i => i = k) μ (μ3.set μ.length (.lst (dS ps1))) := (((ga.trans g1).trans g2).trans g3).then gr_set (fun i hi h => by omega)
  have d4 := d3.gr (gr_set (k := μ.length) (m := .lst (dS ps1))) (by omega)
  have l4 : (μ3.set μ.length (.lst (dS ps1)))[μ.length]? = some (.lst (dS ps1)) := set_at (List.getElem?_eq_some_iff.mp l3a).1
  generalize μ3.set μ.length (.lst (dS ps1)) = μ4 at *
  refine t_take w4 d4 hm4 fun v4 μ5 hv4 w5 g5 d5 => ?_
  have l5 := g5.at l4 (by omega)
  have g6 := g4.trans g5
  have l10 := hp1.l0
  have l11 := hp1.l1
  have he1 : (0 : Nat) < ps1.length := by omega
  have ex1 : atI (dS ps1) 0 = some (.str (ps1.getD 0 "")) := at_dS he1
  have lz1 := hp1.z _ (getD_mem he1)
  have sz1 : (ps1.getD 0 "").length ≤ sizeLine := by rw [lz1]; simp [sizeLine]; omega
  generalize ("10" : Str).cps.toList.getD v3 0 = sg
  have el : ∀ ps : List Str, ((dS ps).length : Int) = (ps.length : Int) := fun ps => by rw [dS_len]
  refine yn0 (ws_seq (Ws.mono (Q := fun o μ' => ∃ ps2, OkP n e ps2 ∧ o = .nx [some (.sh (.mref k)), some (.sh (.mref p)), some (.sh (.mref μ.length)), some (.sh (.int (v1 : Int))), some (.sh (.int (v2 : Int))), some (.sh (.str ⟨#[sg]⟩)), some (.sh (.int (v4 : Int))), none] ∧ Wf μ' ∧ Gr (fun i => i = k) μ μ' ∧ DR μ' k ∧ μ'[μ.length]? = some (.lst (dS ps2))) ?_ ?_))
  · (exists 17, DL.ws_seq)
    refine ⟨fun h1 => ?_, fun h1 => ?_⟩
    · (exists 17, l5)
      refine ⟨fun h2 => ?_, fun h2 => ?_⟩
      · have hz0 := zeros (n := n) hn
        have hz9 : -1000 ≤ ((ps1.getD 0 "").length : Int) ∧ ((ps1.getD 0 "").length : Int) ≤ 1000 ∧ ("0" : Str).length ≤ 1000 ∧ (repS "0" ((ps1.getD 0 "").length : Int)).length ≤ sizeLine := by
          rw [lz1]
          exact ⟨by omega, by omega, by decide, by rw [hz0.1]; simp [sizeLine]; omega⟩
        have hl4 : (dS ps1).length < sizeLine := by rw [dS_len]; simp [sizeLine]; omega
        have h3 := of_decide_eq_true h2
        rw [el] at h3
        (exists 17, l5, ex1, sz1, hz9, hl4)
        refine ⟨ps1 ++ [repS "0" (n : Int)], zeros_ok hp1 (by omega) hz0.1 hz0.2, rfl, ?_⟩
        rw [lz1, ← dS_snoc]
        exact ⟨wf_set w5 (low_dS _), g6.then gr_set (fun i hi h => by omega), d5.gr gr_set (by omega), set_at (List.getElem?_eq_some_iff.mp l5).1⟩
      · (exists 17, DL.ws_seq)
        exact ⟨ps1, hp1, rfl, w5, g6, d5, l5⟩
    · (exists 17, DL.ws_seq)
      exact ⟨ps1, hp1, rfl, w5, g6, d5, l5⟩
  · rintro o μ' ⟨ps2, hp2, rfl, w7, g7, d7, l7⟩
    have l20 := hp2.l0
    have hl7 : μ.length < μ'.length := (List.getElem?_eq_some_iff.mp l7).1
    replace q := And.intro trivial q
    (exists 17, DL.ws_seq)
    refine ⟨fun h1 => ?_, fun h1 => ?_⟩
    · (exists 17, l7)
      refine ⟨fun h2 => ?_, fun h2 => ?_⟩
      · have h3 := of_decide_eq_true h2
        rw [el] at h3
        (exists 17, l7, nwA, nwX)
        have ec : cutD (dS ps2) none (some (((dS ps2).length : Int) - 1)) = dS (ps2.take (ps2.length - 1)) := by
          have e1 : (((dS ps2).length : Int) - 1) = ((ps2.length - 1 : Nat) : Int) := by rw [el]; omega
          unfold cutD
          rw [e1, HT.sIx_none, HT.sIx_nat, dS_len, List.drop_zero, Nat.sub_zero, show min (ps2.length - 1) ps2.length = ps2.length - 1 by omega]
          exact (List.map_take ..).symm
        rw [ec]
        exact q.2 _ _ _ (take_ok hp2 (by omega)) (Wf.app w7 (low_dS _)) (g7.trans gr_app) (d7.gr (gr_app (A := fun _ => False)) (fun h => h)) (by omega) app_at
      · (exists 17, DL.ws_seq)
        exact q.2 _ _ _ hp2 w7 g7 d7 (Nat.le_refl _) l7
    · (exists 17, DL.ws_seq)
      exact q.2 _ _ _ hp2 w7 g7 d7 (Nat.le_refl _) l7
end K10

set_option Elab.async false
set_option linter.all false
set_option maxRecDepth 100000
set_option maxHeartbeats 4000000
set_option autoImplicit false
namespace K10
open PySem PySem.Spec L2 DL
variable {K : Fg} {μ μ' : Mu} {Q : D → Mu → Prop} {k : Nat} {A : Nat → Prop}
def nmsP : List Str := ["mid", "a", "zebra", "halt", "ab", "stop"]
def manyP : List Nat := [1, 2, 1, 3, 2]
theorem nms_at {i : Nat} (h : i < 6) : atI [D.str "mid", .str "a", .str "zebra", .str "halt", .str "ab", .str "stop"] (i : Int) = some (.str (nmsP.getD i "")) := by
  match i, h with
  | 0, _ => rfl
  | 1, _ => rfl
  | 2, _ => rfl
  | 3, _ => rfl
  | 4, _ => rfl
  | 5, _ => rfl
theorem many_at {v : Nat} (h : v < 5) : atI [D.int 1, .int 2, .int 1, .int 3, .int 2] (v : Int) = some (.int (manyP.getD v 0 : Nat)) ∧ 1 ≤ manyP.getD v 0 ∧ manyP.getD v 0 ≤ 3 := by
  match v, h with
  | 0, _ => exact ⟨rfl, by decide, by decide⟩
  | 1, _ => exact ⟨rfl, by decide, by decide⟩
  | 2, _ => exact ⟨rfl, by decide, by decide⟩
  | 3, _ => exact ⟨rfl, by decide, by decide⟩
  | 4, _ => exact ⟨rfl, by decide, by decide⟩
theorem RW.gr {r : Nat} {xs : List RowP} (h : RW μ r xs) (g : Gr A μ μ') (h0 : ¬ A r) (h1 : ∀ x ∈ xs, ¬ A x.2) : RW μ' r xs := ⟨g.at h.at0 h0, fun x hx => g.at (h.ps x hx) (h1 x hx)⟩
theorem rowsM_ix {xs : List RowP} {i : Nat} {x : RowP} (h : xs[i]? = some x) : atI (rowsM xs) (i : Int) = some (.tup [.str x.1.1, .mref x.2, .lst []]) := by
  rw [DL.atI_nat, List.getElem?_map, h]; rfl
theorem rowM1 {z : Str} {p : Nat} : atI [D.str z, .mref p, .lst []] 1 = some (.mref p) := DL.atI_1
theorem rowsM_snoc {xs : List RowP} {x : RowP} : rowsM (xs ++ [x]) = rowsM xs ++ [rowM x] := List.map_append
theorem low_rowsM {n : Nat} {xs : List RowP} (h : ∀ x ∈ xs, x.2 < n) : D.lowAll n (rowsM xs) = true := by
  induction xs with
  | nil => rfl
  | cons x xs ih =>
    have h1 : (rowM x).low n = true := by
      show (true && (D.low n (.mref x.2) && (true && true))) = true
      have : D.low n (.mref x.2) = decide (x.2 < n) := rfl
      rw [this, decide_eq_true (h x (List.mem_cons_self ..))]
      rfl
    show ((rowM x).low n && D.lowAll n (rowsM xs)) = true
    rw [h1, ih fun y hy => h y (List.mem_cons_of_mem _ hy)]
    rfl
theorem t_form_rows {n e m : Nat} {R : Int} (wf : Wf μ) (h : DR μ k) (hR : atI [D.int 0, D.int 0, D.int 1, D.int 1, D.int 2] R = some (.int (e : Int))) (hn0 : 1 ≤ n) (hn : n ≤ 100) (hm : m ≤ 5)
    (q : ∀ (xs : List RowP) (r : Nat) (μ' : Mu), xs.length = m → (rowsR xs).map (·.1) = nmsP.take m → (∀ x ∈ xs, OkP n e x.1.2) → Wf μ' → DR μ' k → RW μ' r xs → r ≠ k → (∀ x ∈ xs, x.2 ≠ k ∧ x.2 ≠ r ∧ x.2 < μ'.length) → Q (.mref r) μ') : Wf' (S__law_form_rows K) [.mref k, .int (n : Int), .int R, .int (m : Int)] μ Q := by
  apply wf_run
  unfold B__law_form_rows
  show Ws _ [some (.sh (.mref k)), some (.sh (.int (n : Int))), some (.sh (.int R)), some (.sh (.int (m : Int))), none, none, none, none] _ _
  have hm6 : m < 1000000 := by omega
  have hkl := h.lt
  (exists 18, nwA, nwX, hm6)
  have wa : Wf (μ ++ [.lst []]) := Wf.app wf rfl
  have ga : Gr (fun i => i = k) μ (μ ++ [.lst []]) := gr_app
  have da : DR (μ ++ [.lst []]) k := h.gr (gr_app (A := fun _ => False)) (fun h => h)
  have la : (μ ++ [MO.lst []])[μ.length]? = some (.lst (rowsM [])) := app_at
  generalize μ ++ [MO.lst []] = μa at *
  refine ⟨fun i ρ μ' => ∃ s6 s7 xs, xs.length = i ∧ (rowsR xs).map (·.1) = nmsP.take i ∧ (∀ x ∈ xs, OkP n e x.1.2) ∧ ρ = [some (.sh (.mref k)), some (.sh (.int (n : Int))), some (.sh (.int R)), some (.sh (.int (m : Int))), some (.sh (.lst [.str "mid", .str "a", .str "zebra", .str "halt", .str "ab", .str "stop"])), some (.sh (.mref μ.length)), s6, s7] ∧ Wf μ' ∧ Gr (fun i => i = k) μ μ' ∧ DR μ' k ∧ RW μ' μ.length xs ∧ ∀ x ∈ xs, μ.length < x.2 ∧ x.2 < μ'.length, ⟨_, _, [], rfl, rfl, fun x hx => (by cases hx), rfl, wa, ga, da, ⟨la, fun x hx => (by cases hx)⟩, fun x hx => (by cases hx)⟩, ?_, ?_⟩
  · rintro i d ρ μ1 hd ⟨s6, s7, xs, hl, hnm, hok, rfl, w1, g1, d1, r1, b1⟩
    obtain ⟨hi, rfl⟩ := rng_at hd
    have h2 : (0 : Int) < 2 := by decide
    have h5 : (0 : Int) < 5 := by decide
    have hlr : (rowsM xs).length < sizeLine := by rw [List.length_map, hl]; simp [sizeLine]; omega
    have hna := nms_at (i := i) (by omega)
    have hlm : μ.length < μ1.length := (List.getElem?_eq_some_iff.mp r1.at0).1
    refine ygn6 (ws_seq (Ws.mono (Q := fun o μ' => ∃ ps p, OkP n e ps ∧ o = .nx [some (.sh (.mref k)), some (.sh (.int (n : Int))), some (.sh (.int R)), some (.sh (.int (m : Int))), some (.sh (.lst [.str "mid", .str "a", .str "zebra", .str "halt", .str "ab", .str "stop"])), some (.sh (.mref μ.length)), some (.sh (.int (i : Nat))), some (.sh (.mref p))] ∧ Wf μ' ∧ Gr (fun i => i = k) μ1 μ' ∧ DR μ' k ∧ μ1.length ≤ p ∧ μ'[p]? = some (.lst (dS ps))) ?_ ?_))
    · have draw : ∀ (μ2 : Mu), Wf μ2 → Gr (fun i => i = k) μ1 μ2 → DR μ2 k → Ws (dsSet 7 (dCall (S__law_patterns K) 4 (dCons (dVar 0) (dCons (dVar 1) (dCons (dVar 2) (dCons (dIx (qVal (dFz (dLst (dCons (dC (.int 1)) (dCons (dC (.int 2)) (dCons (dC (.int 1)) (dCons (dC (.int 3)) (dCons (dC (.int 2)) (dNil))))))))) (dCall (S__law_take K) 2 (dCons (dVar 0) (dCons (dC (.int 5)) (dNil))))) (dNil))))))) [some (.sh (.mref k)), some (.sh (.int (n : Int))), some (.sh (.int R)), some (.sh (.int (m : Int))), some (.sh (.lst [.str "mid", .str "a", .str "zebra", .str "halt", .str "ab", .str "stop"])), some (.sh (.mref μ.length)), some (.sh (.int (i : Nat))), s7] μ2 (fun o μ' => ∃ ps p, OkP n e ps ∧ o = .nx [some (.sh (.mref k)), some (.sh (.int (n : Int))), some (.sh (.int R)), some (.sh (.int (m : Int))), some (.sh (.lst [.str "mid", .str "a", .str "zebra", .str "halt", .str "ab", .str "stop"])), some (.sh (.mref μ.length)), some (.sh (.int (i : Nat))), some (.sh (.mref p))] ∧ Wf μ' ∧ Gr (fun i => i = k) μ1 μ' ∧ DR μ' k ∧ μ1.length ≤ p ∧ μ'[p]? = some (.lst (dS ps))) := fun μ2 w2 g2 d2 => by
        (exists 18, DL.ws_seq)
        refine t_take w2 d2 h5 fun v2 μ3 hv2 w3 g3 d3 => ?_
        obtain ⟨m1, m2, m3⟩ := many_at (v := v2) (by omega)
        (exists 18, m1)
        refine t_patterns w3 d3 hR hn0 hn m2 m3 fun ps p μ4 hp hpl w4 g4 d4 hpp hpa => ?_
        have := g2.len
        have := g3.len
        exact ⟨ps, p, hp, rfl, w4, (g2.trans g3).trans g4, d4, by omega, hpa⟩
      (exists 18, DL.ws_seq)
      refine ⟨fun h1 => ?_, fun h1 => ?_⟩
      · have hi0 : (0 : Int) < (i : Int) := of_decide_eq_true h1
        (exists 18, DL.ws_seq)
        refine t_take w1 d1 h2 fun v μ2 hv w2 g2 d2 => ?_
        (exists 18, DL.ws_seq)
        refine ⟨fun h3 => ?_, fun h3 => ?_⟩
        · (exists 18, DL.ws_seq)
          refine t_take w2 d2 hi0 fun v2 μ3 hv2 w3 g3 d3 => ?_
          have hg : xs[v2]? = some xs[v2] := List.getElem?_eq_getElem (by omega)
          have hxm := List.mem_of_getElem? hg
          have ex := rowsM_ix hg
          have hok2 := hok _ hxm
          have gg := g2.trans g3
          have b2 := b1 _ hxm
          have r3 := r1.gr gg (by omega) (fun x hx e => by have := (b1 x hx).1; omega)
          have kg := r3.at0
          have kp := r3.ps _ hxm
          (exists 18, kg, ex, rowM1)
          refine t_bent w3 d3 kp (by omega) hok2 hn0 hn fun ps p μ4 hp w4 g4 d4 hpp hpa => ?_
          have := gg.len
          exact ⟨ps, p, hp, rfl, w4, gg.trans g4, d4, by omega, hpa⟩
        · exact draw μ2 w2 g2 d2
      · exact ⟨fun h => (by cases h), fun _ => draw μ1 w1 Gr.refl d1⟩
    · rintro o μ4 ⟨ps, p, hps, rfl, w4, g4, d4, hpp, hpa⟩
      have r4 := r1.gr g4 (by omega) (fun x hx e => by have := (b1 x hx).1; omega)
      have kg := r4.at0
      have hpl := (List.getElem?_eq_some_iff.mp hpa).1
      have hlen := g4.len
      (exists 18, kg, hna, hlr)
      have hb : ∀ x ∈ xs ++ [(((nmsP.getD i "", ps) : Row), p)], μ.length < x.2 ∧ x.2 < μ4.length := fun x hx => by
        rcases List.mem_append.mp hx with hx | hx
        · have := b1 x hx; omega
        · rw [List.mem_singleton.mp hx]; exact ⟨by show _ < p; omega, hpl⟩
      have e1 : rowsM xs ++ [.tup [.str (nmsP.getD i ""), .mref p, .lst []]] = rowsM (xs ++ [(((nmsP.getD i "", ps) : Row), p)]) := by rw [rowsM_snoc]; rfl
      rw [e1]
      refine ⟨_, _, xs ++ [((nmsP.getD i "", ps), p)], by rw [List.length_append, hl]; rfl, ?_, ?_, rfl, wf_set w4 (low_rowsM fun x hx => (hb x hx).2), (g1.trans g4).then gr_set (fun i hi h => by omega), d4.gr gr_set (by omega), ⟨set_at (by omega), fun x hx => ?_⟩, fun x hx => by rw [List.length_set]; exact hb x hx⟩
      · show ((xs ++ [(((nmsP.getD i "", ps) : Row), p)]).map (·.1)).map (·.1) = _
        rw [List.map_append, List.map_append]
        have hnm' : (xs.map (·.1)).map (·.1) = nmsP.take i := hnm
        rw [hnm']
        have hi6 : i < nmsP.length := by show i < 6; omega
        rw [List.take_succ_eq_append_getElem hi6, List.getD_eq_getElem?_getD, List.getElem?_eq_getElem hi6]
        rfl
      · intro x hx
        rcases List.mem_append.mp hx with hx | hx
        · exact hok x hx
        · rw [List.mem_singleton.mp hx]; exact hps
      · have hxb := (hb x hx).1
        rcases List.mem_append.mp hx with hx' | hx'
        · exact set_ne (r4.ps x hx') (by omega)
        · rw [List.mem_singleton.mp hx'] at hxb ⊢
          exact set_ne hpa (by show μ.length ≠ p; have : μ.length < p := hxb; omega)
  · rintro ρ μ1 ⟨s6, s7, xs, hl, hnm, hok, rfl, w1, g1, d1, r1, b1⟩
    rw [rng_len] at hl hnm
    replace q := And.intro trivial q
    (exists 18, DL.ws_seq)
    exact q.2 xs _ _ hl hnm hok w1 d1 r1 (by omega) (fun x hx => by have := b1 x hx; omega)
end K10

set_option Elab.async false
set_option linter.all false
set_option maxRecDepth 100000
set_option maxHeartbeats 4000000
set_option autoImplicit false
namespace K10
open PySem PySem.Spec L2 DL
variable {K : Fg} {μ μ' : Mu} {Q : D → Mu → Prop} {k : Nat} {A : Nat → Prop}
def okAt (z : Str) (i : Int) (j : Nat) : Bool :=
  !((decide ((⟨#[z.cps.toList.getD j 0]⟩ : Str) = ("0" : Str))) && decide (Builtin.bitAnd (i / 2 ^ ((z.length : Int) - 1 - j).toNat) 1 = 1)) &&
  !((decide ((⟨#[z.cps.toList.getD j 0]⟩ : Str) = ("1" : Str))) && decide (Builtin.bitAnd (i / 2 ^ ((z.length : Int) - 1 - j).toNat) 1 = 0))
def fitsP (z : Str) (i : Int) : Bool := (List.range z.length).all (okAt z i)
theorem w_fits {z : Str} {i : Int} (w : Wf μ) (hz : z.length < 1000000) (q : Q (.bl (fitsP z i)) μ) : Wf' (S__law_fits K) [.str z, .int i] μ Q := by
  have hs : z.length ≤ sizeLine := by simp [sizeLine]; omega
  apply wf_keep w
  apply wf_run
  unfold B__law_fits
  show Ws _ [some (.sh (.str z)), some (.sh (.int i)), none, none, none] _ _
  (exists 19, hz, hs)
  refine ⟨fun k ρ μ' => (∃ s3 s4, ρ = [some (.sh (.str z)), some (.sh (.int i)), some (.sh (.int ((z.length : Int) - 1))), s3, s4]) ∧ μ' = μ ∧ ∀ j < k, okAt z i j = true, ⟨⟨_, _, rfl⟩, rfl, fun j hj => absurd hj (Nat.not_lt_zero _)⟩, ?_, ?_⟩
  · rintro k d ρ μ' hd ⟨⟨s3, s4, rfl⟩, rfl, hk⟩
    obtain ⟨hj, rfl⟩ := rng_at hd
    have h0 : (0 : Int) ≤ (z.length : Int) - 1 - (k : Int) := by omega
    (exists 19, hs, h0, hj, ex_ixS)
    have bad : okAt z i k = false → fitsP z i = false := fun h => by
      rw [← Bool.not_eq_true]
      intro e
      have := List.all_eq_true.mp e k (List.mem_range.mpr hj)
      rw [h] at this
      cases this
    have good : okAt z i k = true → ∀ j < k + 1, okAt z i j = true := fun h j hj => by
      rcases Nat.lt_succ_iff_lt_or_eq.mp hj with q | rfl
      · exact hk j q
      · exact h
    refine ⟨fun h1 => ?_, fun h1 => ?_⟩
    · (exists 19, DL.ws_seq)
      refine ⟨fun h2 => ?_, fun h2 => ?_⟩
      · (exists 19, DL.ws_seq)
        rw [bad (by unfold okAt; rw [h1, h2]; rfl)] at q
        exact ⟨⟨[], by simp⟩, rfl, q⟩
      · (exists 19, hs, hj, ex_ixS)
        refine ⟨fun h3 => ?_, fun h3 => ?_⟩
        · (exists 19, DL.ws_seq)
          refine ⟨fun h4 => ?_, fun h4 => ?_⟩
          · (exists 19, DL.ws_seq)
            rw [bad (by unfold okAt; rw [h1, h2, h3, h4]; rfl)] at q
            exact ⟨⟨[], by simp⟩, rfl, q⟩
          · (exists 19, DL.ws_seq)
            exact ⟨⟨_, _, rfl⟩, rfl, good (by unfold okAt; rw [h1, h2, h3, h4]; rfl)⟩
        · (exists 19, DL.ws_seq)
          exact ⟨⟨_, _, rfl⟩, rfl, good (by unfold okAt; rw [h1, h2, h3]; rfl)⟩
    · (exists 19, hs, hj, ex_ixS)
      refine ⟨fun h3 => ?_, fun h3 => ?_⟩
      · (exists 19, DL.ws_seq)
        refine ⟨fun h4 => ?_, fun h4 => ?_⟩
        · (exists 19, DL.ws_seq)
          rw [bad (by unfold okAt; rw [h1, h3, h4]; rfl)] at q
          exact ⟨⟨[], by simp⟩, rfl, q⟩
        · (exists 19, DL.ws_seq)
          exact ⟨⟨_, _, rfl⟩, rfl, good (by unfold okAt; rw [h1, h3, h4]; rfl)⟩
      · (exists 19, DL.ws_seq)
        exact ⟨⟨_, _, rfl⟩, rfl, good (by unfold okAt; rw [h1, h3]; rfl)⟩
  · rintro ρ μ' ⟨⟨s3, s4, rfl⟩, rfl, hk⟩
    have e : fitsP z i = true := List.all_eq_true.mpr fun j hj => hk j (by rw [rng_len]; exact List.mem_range.mp hj)
    rw [e] at q
    (exists 19, DL.ws_seq)
    exact ⟨⟨[], by simp⟩, rfl, q⟩
def kl (c : Nat) : Fin 3 := if c = 48 then 0 else if c = 49 then 1 else 2
def okB (k : Fin 3) (b : Nat) : Bool := !(k == 0 && b == 1) && !(k == 1 && b == 0)
theorem band1 (x : Int) : Builtin.bitAnd x 1 = x % 2 := by
  have h := Bits.bit_at (x := x) 0
  rw [show ((2 : Int) ^ 0) = 1 from rfl, Int.fdiv_one, Int.ediv_one] at h
  exact h
theorem okAt_kl {z : Str} {x j : Nat} (hj : j < z.length) : okAt z (x : Int) j = okB (kl (z.cps.toList.getD j 0)) (x / 2 ^ (z.length - 1 - j) % 2) := by
  have e0 : ("0" : Str) = ⟨#[48]⟩ := rfl
  have e1 : ("1" : Str) = ⟨#[49]⟩ := rfl
  have et : ((z.length : Int) - 1 - (j : Int)).toNat = z.length - 1 - j := by omega
  have eb : Builtin.bitAnd ((x : Int) / 2 ^ (z.length - 1 - j)) 1 = ((x / 2 ^ (z.length - 1 - j) % 2 : Nat) : Int) := by
    rw [band1]
    have : ((2 : Int) ^ (z.length - 1 - j)) = ((2 ^ (z.length - 1 - j) : Nat) : Int) := by simp
    rw [this]
    omega
  unfold okAt
  have i0 : ∀ c k : Nat, decide ((⟨#[c]⟩ : Str) = ⟨#[k]⟩) = decide (c = k) := fun c k => decide_eq_decide.mpr sgn_eq
  rw [et, eb, e0, e1, i0, i0]
  generalize z.cps.toList.getD j 0 = c
  generalize x / 2 ^ (z.length - 1 - j) % 2 = b
  have d0 : decide ((b : Int) = 0) = (b == 0) := by rw [Bool.eq_iff_iff]; simp
  have d1 : decide ((b : Int) = 1) = (b == 1) := by
    rw [Bool.eq_iff_iff, decide_eq_true_iff, beq_iff_eq]
    omega
  rw [d0, d1]
  unfold okB kl
  by_cases h0 : c = 48
  · subst h0; simp
  · by_cases h1 : c = 49
    · subst h1; simp
    · simp [h0, h1]

def clash (x y : Nat) : Bool := (decide (x = 48) && decide (y = 49)) || (decide (x = 49) && decide (y = 48))
def jb (x y : Nat) : Nat := if x = 49 ∨ y = 49 then 1 else 0
def joinL : List (Nat × Nat) → Nat → Option Nat
  | [], a => some a
  | p :: r, a => if clash p.1 p.2 = true then none else joinL r (2 * a + jb p.1 p.2)
theorem joinL_app {s : List (Nat × Nat)} : ∀ {r : List (Nat × Nat)} {a : Nat}, joinL (r ++ s) a = (joinL r a).bind (joinL s)
  | [], a => rfl
  | p :: r, a => by
    show (if clash p.1 p.2 = true then none else joinL (r ++ s) (2 * a + jb p.1 p.2)) = ((if clash p.1 p.2 = true then none else joinL r (2 * a + jb p.1 p.2)).bind (joinL s))
    by_cases h : clash p.1 p.2 = true
    · rw [if_pos h, if_pos h]; rfl
    · rw [if_neg h, if_neg h, joinL_app]
def pairZ (z y : Str) : List (Nat × Nat) := z.cps.toList.zip y.cps.toList
def joinW (z y : Str) : Option Nat := joinL (pairZ z y) 0
def fits2 : List (Nat × Nat) → Nat → Prop
  | [], _ => True
  | p :: r, v => okB (kl p.1) (v / 2 ^ r.length % 2) = true ∧ okB (kl p.2) (v / 2 ^ r.length % 2) = true ∧ fits2 r v
theorem bit_low {c u j m : Nat} (h : j < m) : (c * 2 ^ m + u) / 2 ^ j % 2 = u / 2 ^ j % 2 := by
  have e : c * 2 ^ m = (c * 2 ^ (m - j - 1) * 2) * 2 ^ j := by
    have : m = (m - j - 1) + 1 + j := by omega
    rw [Nat.mul_assoc, Nat.mul_assoc]
    congr 1
    rw [← Nat.pow_succ', ← Nat.pow_add]
    congr 1
    omega
  rw [e, Nat.add_comm, Nat.add_mul_div_right _ _ (Nat.two_pow_pos j), Nat.add_comm, Nat.add_comm, Nat.add_mul_mod_self_right]
theorem fits2_low : ∀ {r : List (Nat × Nat)} {c u m : Nat}, r.length ≤ m → (fits2 r (c * 2 ^ m + u) ↔ fits2 r u)
  | [], _, _, _, _ => Iff.rfl
  | p :: r, c, u, m, h => by
    have h' : r.length + 1 ≤ m := h
    unfold fits2
    rw [bit_low (show r.length < m by omega), fits2_low (r := r) (by omega)]
theorem okB_clash {x y b : Nat} (h1 : okB (kl x) b = true) (h2 : okB (kl y) b = true) (hb : b = 0 ∨ b = 1) : clash x y = false := by
  unfold clash
  unfold okB kl at h1 h2
  by_cases x0 : x = 48
  · subst x0
    by_cases y1 : y = 49
    · subst y1
      rcases hb with rfl | rfl
      · simp at h2
      · simp at h1
    · simp [y1]
  · by_cases x1 : x = 49
    · subst x1
      by_cases y0 : y = 48
      · subst y0
        rcases hb with rfl | rfl
        · simp at h1
        · simp at h2
      · simp [y0]
    · simp [x0, x1]
theorem okB_jb {x y : Nat} (h : clash x y = false) : okB (kl x) (jb x y) = true ∧ okB (kl y) (jb x y) = true := by
  unfold clash at h
  unfold okB kl jb
  by_cases x0 : x = 48
  · subst x0
    by_cases y1 : y = 49
    · subst y1; simp at h
    · by_cases y0 : y = 48
      · subst y0; simp
      · simp [y1, y0]
  · by_cases x1 : x = 49
    · subst x1
      by_cases y0 : y = 48
      · subst y0; simp at h
      · by_cases y1 : y = 49
        · subst y1; simp
        · simp [y0, y1]
    · by_cases y0 : y = 48
      · subst y0; simp [x0, x1]
      · by_cases y1 : y = 49
        · subst y1; simp [x0, x1]
        · simp [x0, x1, y0, y1]
theorem jb_le {x y b : Nat} (h1 : okB (kl x) b = true) (h2 : okB (kl y) b = true) (hb : b = 0 ∨ b = 1) : jb x y ≤ b := by
  rcases hb with rfl | rfl
  · unfold okB kl at h1 h2
    unfold jb
    by_cases x1 : x = 49
    · subst x1; simp at h1
    · by_cases y1 : y = 49
      · subst y1; simp at h2
      · simp [x1, y1]
  · unfold jb
    split <;> omega
theorem mod2 (v : Nat) : v % 2 = 0 ∨ v % 2 = 1 := by omega
theorem join_none : ∀ {r : List (Nat × Nat)} {a : Nat}, joinL r a = none → ∀ v, ¬ fits2 r v
  | [], a, h, v => by cases h
  | p :: r, a, h, v => by
    rintro ⟨h1, h2, h3⟩
    have h' : (if clash p.1 p.2 = true then none else joinL r (2 * a + jb p.1 p.2)) = none := h
    rw [okB_clash h1 h2 (mod2 _), if_neg (by decide)] at h'
    exact join_none h' v h3
theorem join_some : ∀ {r : List (Nat × Nat)} {a w : Nat}, joinL r a = some w → ∃ u, u < 2 ^ r.length ∧ w = a * 2 ^ r.length + u ∧ fits2 r u ∧ ∀ v, fits2 r v → u ≤ v
  | [], a, w, h => by
    cases h
    exact ⟨0, by decide, by simp, trivial, fun v _ => Nat.zero_le v⟩
  | p :: r, a, w, h => by
    have h' : (if clash p.1 p.2 = true then none else joinL r (2 * a + jb p.1 p.2)) = some w := h
    by_cases hc : clash p.1 p.2 = true
    · rw [if_pos hc] at h'; cases h'
    rw [if_neg hc] at h'
    obtain ⟨u, h1, h2, h3, h4⟩ := join_some h'
    have hb : jb p.1 p.2 ≤ 1 := by unfold jb; split <;> omega
    obtain ⟨o1, o2⟩ := okB_jb (x := p.1) (y := p.2) (by simpa using hc)
    have hp := Nat.two_pow_pos r.length
    have hbit : (jb p.1 p.2 * 2 ^ r.length + u) / 2 ^ r.length % 2 = jb p.1 p.2 := by
      rw [Nat.add_comm, Nat.add_mul_div_right _ _ hp, Nat.div_eq_of_lt h1]
      omega
    refine ⟨jb p.1 p.2 * 2 ^ r.length + u, ?_, ?_, ⟨by rw [hbit]; exact o1, by rw [hbit]; exact o2, (fits2_low (Nat.le_refl _)).mpr h3⟩, fun v hv => ?_⟩
    · have : jb p.1 p.2 * 2 ^ r.length ≤ 1 * 2 ^ r.length := Nat.mul_le_mul_right _ hb
      rw [List.length_cons, Nat.pow_succ]
      omega
    · rw [h2, List.length_cons, Nat.pow_succ, Nat.add_mul]
      have : 2 * a * 2 ^ r.length = a * (2 ^ r.length * 2) := by rw [Nat.mul_comm 2 a, Nat.mul_assoc, Nat.mul_comm 2]
      omega
    · obtain ⟨v1, v2, v3⟩ := hv
      have hv' : v = v / 2 ^ r.length * 2 ^ r.length + v % 2 ^ r.length := by
        have := Nat.div_add_mod v (2 ^ r.length)
        rw [Nat.mul_comm] at this
        omega
      have h5 : fits2 r (v % 2 ^ r.length) := by
        rw [hv'] at v3
        exact (fits2_low (Nat.le_refl _)).mp v3
      have h6 := h4 _ h5
      have h7 : jb p.1 p.2 ≤ v / 2 ^ r.length := Nat.le_trans (jb_le v1 v2 (mod2 _)) (Nat.mod_le _ _)
      have h8 : jb p.1 p.2 * 2 ^ r.length ≤ v / 2 ^ r.length * 2 ^ r.length := Nat.mul_le_mul_right _ h7
      omega
theorem fits2_ix : ∀ {r : List (Nat × Nat)} {v : Nat}, fits2 r v ↔ ∀ j (h : j < r.length), okB (kl r[j].1) (v / 2 ^ (r.length - 1 - j) % 2) = true ∧ okB (kl r[j].2) (v / 2 ^ (r.length - 1 - j) % 2) = true
  | [], v => ⟨fun _ j h => absurd h (Nat.not_lt_zero j), fun _ => trivial⟩
  | p :: r, v => by
    constructor
    · rintro ⟨h1, h2, h3⟩ j hj
      cases j with
      | zero => exact ⟨h1, h2⟩
      | succ j =>
        have := fits2_ix.mp h3 j (by simpa using hj)
        have e : (p :: r).length - 1 - (j + 1) = r.length - 1 - j := by rw [List.length_cons]; omega
        rw [e]
        exact this
    · intro h
      have h0 := h 0 (Nat.succ_pos _)
      refine ⟨h0.1, h0.2, fits2_ix.mpr fun j hj => ?_⟩
      have := h (j + 1) (by simpa using hj)
      have e : (p :: r).length - 1 - (j + 1) = r.length - 1 - j := by rw [List.length_cons]; omega
      rw [e] at this
      exact this
theorem fits_iff {z y : Str} {n v : Nat} (hz : z.length = n) (hy : y.length = n) : (fitsP z (v : Int) = true ∧ fitsP y (v : Int) = true) ↔ fits2 (pairZ z y) v := by
  have lz : z.cps.toList.length = n := by rw [Array.length_toList]; exact hz
  have ly : y.cps.toList.length = n := by rw [Array.length_toList]; exact hy
  have lp : (pairZ z y).length = n := by unfold pairZ; rw [List.length_zip, lz, ly]; omega
  have key : ∀ {x : Str}, x.length = n → (fitsP x (v : Int) = true ↔ ∀ j < n, okB (kl (x.cps.toList.getD j 0)) (v / 2 ^ (n - 1 - j) % 2) = true) := fun {x} hx => by
    unfold fitsP
    rw [List.all_eq_true, hx]
    constructor
    · intro h j hj
      have := h j (List.mem_range.mpr hj)
      rw [okAt_kl (by omega), hx] at this
      exact this
    · intro h j hj
      rw [okAt_kl (by rw [hx]; exact List.mem_range.mp hj), hx]
      exact h j (List.mem_range.mp hj)
  rw [key hz, key hy, fits2_ix]
  have gz : ∀ j (h : j < (pairZ z y).length), (pairZ z y)[j].1 = z.cps.toList.getD j 0 ∧ (pairZ z y)[j].2 = y.cps.toList.getD j 0 := fun j h => by
    have h' : j < n := by omega
    have e : (pairZ z y)[j] = (z.cps.toList[j]'(by omega), y.cps.toList[j]'(by omega)) := List.getElem_zip
    rw [e, List.getD_eq_getElem?_getD, List.getD_eq_getElem?_getD, List.getElem?_eq_getElem (by omega), List.getElem?_eq_getElem (by omega)]
    exact ⟨rfl, rfl⟩
  constructor
  · rintro ⟨h1, h2⟩ j hj
    rw [(gz j (by omega)).1, (gz j (by omega)).2, lp]
    have hj : j < n := by omega
    exact ⟨h1 j hj, h2 j hj⟩
  · intro h
    refine ⟨fun j hj => ?_, fun j hj => ?_⟩
    · have := (h j (by omega)).1
      rw [(gz j (by omega)).1, lp] at this
      exact this
    · have := (h j (by omega)).2
      rw [(gz j (by omega)).2, lp] at this
      exact this
theorem least_none {z y : Str} {n : Nat} (hz : z.length = n) (hy : y.length = n) (h : joinW z y = none) : ∀ v : Nat, ¬ (fitsP z (v : Int) = true ∧ fitsP y (v : Int) = true) := fun v hv => join_none h v ((fits_iff hz hy).mp hv)
theorem least_some {z y : Str} {n w : Nat} (hz : z.length = n) (hy : y.length = n) (h : joinW z y = some w) : w < 2 ^ n ∧ (fitsP z (w : Int) = true ∧ fitsP y (w : Int) = true) ∧ ∀ v : Nat, (fitsP z (v : Int) = true ∧ fitsP y (v : Int) = true) → w ≤ v := by
  obtain ⟨u, h1, h2, h3, h4⟩ := join_some h
  have lz : z.cps.toList.length = n := by rw [Array.length_toList]; exact hz
  have ly : y.cps.toList.length = n := by rw [Array.length_toList]; exact hy
  have lp : (pairZ z y).length = n := by unfold pairZ; rw [List.length_zip, lz, ly]; omega
  rw [Nat.zero_mul, Nat.zero_add] at h2
  subst h2
  rw [lp] at h1
  exact ⟨h1, (fits_iff hz hy).mpr h3, fun v hv => h4 v ((fits_iff hz hy).mp hv)⟩
end K10

set_option Elab.async false
set_option linter.all false
set_option maxRecDepth 100000
set_option maxHeartbeats 4000000
set_option autoImplicit false
namespace K10
open PySem PySem.Spec L2 DL
variable {K : Fg} {μ μ' : Mu} {Q : D → Mu → Prop} {k : Nat} {A : Nat → Prop}
abbrev natsD (cs : List Nat) : List D := cs.map fun c => .int (c : Nat)
def oI : Option Nat → D
  | none => .non
  | some w => .int (w : Nat)
def oT : Option (List Nat) → D
  | none => .non
  | some cs => .tup (natsD cs)
def oL : Option (List Nat) → D
  | none => .non
  | some cs => .lst (natsD cs)
theorem low_nats {n : Nat} (cs : List Nat) : D.lowAll n (natsD cs) = true := low_all (fun c : Nat => D.int (c : Nat)) (fun _ => rfl) cs
theorem inD_mem {zs : List Str} {z : Str} : inD (.str z) (dS zs) = some (decide (z ∈ zs)) := by
  by_cases h : z ∈ zs
  · have hf : (zs.map V.str).all flatV = true := by
      rw [List.all_map]
      exact List.all_eq_true.mpr fun _ _ => rfl
    have hi : inV (.str z) (zs.map V.str) = true := by
      unfold inV
      rw [List.any_map, List.any_eq_true]
      exact ⟨z, h, by simp [eqV]⟩
    have e : inD (.str z) (dS zs) = (match (D.str z).flat, flats (dS zs) with
      | some v, some vs => if flatV v = true ∧ vs.all flatV = true then some (inV v vs) else none
      | _, _ => none) := rfl
    rw [e, flats_str]
    show (if flatV (V.str z) = true ∧ (zs.map V.str).all flatV = true then some (inV (V.str z) (zs.map V.str)) else none) = _
    rw [if_pos ⟨rfl, hf⟩, hi, decide_eq_true h]
  · rw [inD_str h, decide_eq_false h]
theorem pair_eq {a b c d : Nat} : ((⟨#[a]⟩ : Str) ++ (⟨#[b]⟩ : Str) = (⟨#[c, d]⟩ : Str)) ↔ a = c ∧ b = d := by
  have e : (⟨#[a]⟩ : Str) ++ (⟨#[b]⟩ : Str) = (⟨#[a, b]⟩ : Str) := rfl
  rw [e]
  constructor
  · intro h
    injection h with h
    injection h with h
    injection h with h1 h2
    injection h2 with h2 _
    exact ⟨h1, h2⟩
  · rintro ⟨rfl, rfl⟩; rfl
theorem in_pair {a b : Nat} : inD (.str ((⟨#[a]⟩ : Str) ++ (⟨#[b]⟩ : Str))) [.str "01", .str "10"] = some (clash a b) := by
  have h := inD_mem (z := (⟨#[a]⟩ : Str) ++ (⟨#[b]⟩ : Str)) (zs := ["01", "10"])
  have e : (decide ((⟨#[a]⟩ : Str) ++ (⟨#[b]⟩ : Str) ∈ (["01", "10"] : List Str))) = clash a b := by
    have e0 : ("01" : Str) = ⟨#[48, 49]⟩ := rfl
    have e1 : ("10" : Str) = ⟨#[49, 48]⟩ := rfl
    rw [Bool.eq_iff_iff, decide_eq_true_iff, List.mem_cons, List.mem_cons, e0, e1, pair_eq, pair_eq]
    unfold clash
    simp
  rw [e] at h
  exact h
theorem one_in {a b : Nat} {P : D → Prop} (h : P (.bl (decide (a = 49 ∨ b = 49)))) : ∃ z, gInS false (.str "1") (.str ((⟨#[a]⟩ : Str) ++ (⟨#[b]⟩ : Str))) = some z ∧ P z := by
  refine ye18 (c := 49) ?_
  have e : (decide (49 ∈ ((⟨#[a]⟩ : Str) ++ (⟨#[b]⟩ : Str)).cps.toList)) = decide (a = 49 ∨ b = 49) := by
    have el : ((⟨#[a]⟩ : Str) ++ (⟨#[b]⟩ : Str)).cps.toList = [a, b] := rfl
    rw [el, Bool.eq_iff_iff, decide_eq_true_iff, decide_eq_true_iff]
    simp [eq_comm]
  rw [e]
  exact h
theorem zs_zz {QL : List D → Mu → Prop} {z y : Str} (q : QL (zipD (signsD z) (signsD y)) μ) : zipP QL (.str z) (.str y) μ := ⟨_, _, rfl, rfl, q⟩
theorem zip_signs {z y : Str} : zipD (signsD z) (signsD y) = (pairZ z y).map fun p => D.tup [.str ⟨#[p.1]⟩, .str ⟨#[p.2]⟩] := by
  unfold zipD signsD pairZ List.zip
  rw [List.zipWith_map, List.map_zipWith]
theorem mulL {a : Int} : CMul 2 a := .inl ⟨by decide, by decide⟩
theorem w_joined {z y : Str} (w : Wf μ) (hz : z.length < 1000) (q : Q (oI (joinW z y)) μ) : Wf' (S_joined_word K) [.str z, .str y] μ Q := by
  apply wf_keep w
  apply wf_run
  unfold B_joined_word
  show Ws _ [some (.sh (.str z)), some (.sh (.str y)), none, none, none, none] _ _
  (exists 20, we_zipS, zs_zz)
  rw [zip_signs]
  refine ⟨fun i ρ μ' => (∃ w s3 s4 s5, joinL ((pairZ z y).take i) 0 = some w ∧ ρ = [some (.sh (.str z)), some (.sh (.str y)), some (.sh (.int (w : Nat))), s3, s4, s5]) ∧ μ' = μ, ⟨⟨0, _, _, _, rfl, rfl⟩, rfl⟩, ?_, ?_⟩
  · rintro i d ρ μ' hd ⟨⟨w0, s3, s4, s5, hw0, rfl⟩, rfl⟩
    rw [List.getElem?_map] at hd
    obtain ⟨⟨a, b⟩, hp, hd'⟩ := Option.map_eq_some_iff.mp hd
    replace hd' : D.tup [.str ⟨#[a]⟩, .str ⟨#[b]⟩] = d := hd'
    subst hd'
    have et : (pairZ z y).take (i + 1) = (pairZ z y).take i ++ [(a, b)] := take_at hp
    have hs : (⟨#[a]⟩ : Str).length + (⟨#[b]⟩ : Str).length ≤ sizeLine := by
      show 1 + 1 ≤ sizeLine
      simp [sizeLine]
    have inn : ∀ {ρ : Rho} {P : Bool → Prop}, P (clash a b) → ∃ ds bb, qv (.val (.tup [.str "01", .str "10"])) ρ μ' = some ds ∧ inD (.str ((⟨#[a]⟩ : Str) ++ (⟨#[b]⟩ : Str))) ds = some bb ∧ P bb := fun hP => ⟨_, _, rfl, in_pair, hP⟩
    have h2l : [D.str (⟨#[a]⟩ : Str), .str ⟨#[b]⟩].length = 2 := rfl
    have sn : joinL ((pairZ z y).take (i + 1)) 0 = if clash a b = true then none else some (2 * w0 + jb a b) := by
      rw [et, joinL_app, hw0]; rfl
    replace q := And.intro trivial q
    (exists 20, h2l, hs, inn)
    refine ⟨fun h => ?_, fun h => ?_⟩
    · replace h : clash a b = true := h
      rw [if_pos h] at sn
      have e : joinW z y = none := by
        unfold joinW
        rw [← List.take_append_drop (i + 1) (pairZ z y), joinL_app, sn]
        rfl
      rw [e] at q
      (exists 20, DL.ws_seq)
      exact ⟨⟨[], by simp⟩, rfl, q.2⟩
    · replace h : clash a b = false := h
      rw [if_neg (by rw [h]; decide)] at sn
      (exists 20, mulL, one_in)
      refine ⟨fun h1 => ?_, fun h1 => ?_⟩
      · have h1' := of_decide_eq_true h1
        (exists 20, mulL)
        refine ⟨⟨2 * w0 + jb a b, some (.sh (.str ⟨#[a]⟩)), some (.sh (.str ⟨#[b]⟩)), some (.sh (.str ((⟨#[a]⟩ : Str) ++ (⟨#[b]⟩ : Str)))), sn, ?_⟩, rfl⟩
        unfold jb
        rw [if_pos h1']
        rfl
      · have h1' := of_decide_eq_false h1
        (exists 20, mulL)
        refine ⟨⟨2 * w0 + jb a b, some (.sh (.str ⟨#[a]⟩)), some (.sh (.str ⟨#[b]⟩)), some (.sh (.str ((⟨#[a]⟩ : Str) ++ (⟨#[b]⟩ : Str)))), sn, ?_⟩, rfl⟩
        unfold jb
        rw [if_neg h1']
        rfl
  · rintro ρ μ' ⟨⟨w0, s3, s4, s5, hw0, rfl⟩, rfl⟩
    rw [List.length_map, List.take_length] at hw0
    have e : joinW z y = some w0 := hw0
    rw [e] at q
    (exists 20, DL.ws_seq)
    exact ⟨⟨[], by simp⟩, rfl, q⟩
end K10

set_option Elab.async false
set_option linter.all false
set_option maxRecDepth 100000
set_option maxHeartbeats 4000000
set_option autoImplicit false
namespace K10
open PySem PySem.Spec L2 DL
variable {K : Fg} {μ μ' : Mu} {Q : D → Mu → Prop} {k : Nat} {A : Nat → Prop}
def besideAt (s : List Str) (j : Nat) (z : Str) : Str := if j < s.length then s.getD j "" else z
def cellW (l s : List Str) (j : Nat) : Option Nat := joinW (l.getD j "") (besideAt s j (l.getD j ""))
abbrev cellsW (l s : List Str) (i : Nat) : List Nat := (List.range i).map fun j => (cellW l s j).getD 0
def sharedLS (l s : List Str) : Option (List Nat) := if (List.range l.length).all (fun j => (cellW l s j).isSome) = true then some (cellsW l s l.length) else none
def sharedP (a b : List Str) : Option (List Nat) := if a.length < b.length then sharedLS b a else sharedLS a b
theorem shared_none {l s : List Str} {i : Nat} (hi : i < l.length) (h : cellW l s i = none) : sharedLS l s = none := by
  unfold sharedLS
  rw [if_neg]
  intro e
  have := List.all_eq_true.mp e i (List.mem_range.mpr hi)
  rw [h] at this
  cases this
theorem shared_some {l s : List Str} (h : ∀ j < l.length, (cellW l s j).isSome = true) : sharedLS l s = some (cellsW l s l.length) := by
  unfold sharedLS
  rw [if_pos]
  exact List.all_eq_true.mpr fun j hj => h j (List.mem_range.mp hj)
theorem cells_snoc {l s : List Str} {i w : Nat} (h : cellW l s i = some w) : cellsW l s (i + 1) = cellsW l s i ++ [w] := by
  unfold cellsW
  rw [List.range_succ, List.map_append]
  simp [h]
theorem enum_at {ps : List Str} {i : Nat} {d : D} (h : (enumD (dS ps))[i]? = some d) : i < ps.length ∧ d = .tup [.int (i : Nat), .str (ps.getD i "")] := by
  unfold enumD at h
  rw [List.getElem?_mapIdx] at h
  obtain ⟨c, h1, rfl⟩ := Option.map_eq_some_iff.mp h
  rw [List.getElem?_map] at h1
  obtain ⟨l, h2, rfl⟩ := Option.map_eq_some_iff.mp h1
  refine ⟨(List.getElem?_eq_some_iff.mp h2).1, ?_⟩
  rw [List.getD_eq_getElem?_getD, h2]
  rfl
theorem enum_len {ps : List Str} : (enumD (dS ps)).length = ps.length := by unfold enumD; rw [List.length_mapIdx, List.length_map]
theorem fldSz {r : Row} {P : D → Prop} (h : P (.int (r.2.length : Nat))) : ∃ C' ns ds y, insD (formD K r) μ = some (C', ns, ds) ∧ C' ∈ [He.ga K "Form"] ∧ fldD ns ds "size" = some y ∧ P y := ⟨_, _, _, _, rfl, List.mem_singleton.mpr rfl, rfl, h⟩
theorem beside_len {s : List Str} {j n : Nat} {z : Str} (hs : ∀ z ∈ s, z.length = n) (hz : z.length = n) : (besideAt s j z).length = n := by
  unfold besideAt
  split
  · rename_i h
    exact hs _ (getD_mem h)
  · exact hz
theorem nats_snoc {cs : List Nat} {w : Nat} : natsD (cs ++ [w]) = natsD cs ++ [D.int (w : Nat)] := List.map_append
theorem nats_len {cs : List Nat} : (natsD cs).length = cs.length := List.length_map ..
theorem w_shared_code {r1 r2 : Row} {n : Nat} (w : Wf μ) (h1 : ∀ z ∈ r1.2, z.length = n) (h2 : ∀ z ∈ r2.2, z.length = n) (l1 : r1.2.length ≤ 3) (l2 : r2.2.length ≤ 3) (hn : n < 1000) (q : Q (oT (sharedP r1.2 r2.2)) μ) : Wf' (S_shared_code K) [formD K r1, formD K r2] μ Q := by
  apply wf_keep w
  apply wf_run
  unfold B_shared_code
  show Ws _ [some (.sh (formD K r1)), some (.sh (formD K r2)), none, none, none, none, none, none, none] _ _
  refine ws_seq (Ws.mono (Q := fun o μ' => ∃ L S : Row, o = .nx [some (.sh (formD K r1)), some (.sh (formD K r2)), some (.sh (formD K L)), some (.sh (formD K S)), none, none, none, none, none] ∧ μ' = μ ∧ (∀ z ∈ L.2, z.length = n) ∧ (∀ z ∈ S.2, z.length = n) ∧ L.2.length ≤ 3 ∧ S.2.length ≤ 3 ∧ sharedP r1.2 r2.2 = sharedLS L.2 S.2) ?_ ?_)
  · have e2 : ∀ x y : D, [x, y].length = 2 := fun x y => rfl
    (exists 21, fldSz, e2)
    refine ⟨fun h => ?_, fun h => ?_⟩
    · (exists 21, e2)
      have h' : r1.2.length < r2.2.length := by have := of_decide_eq_true h; omega
      exact ⟨r2, r1, rfl, rfl, h2, h1, l2, l1, by unfold sharedP; rw [if_pos h']⟩
    · (exists 21, e2)
      have h' : ¬ r1.2.length < r2.2.length := by have := of_decide_eq_false h; omega
      exact ⟨r1, r2, rfl, rfl, h1, h2, l1, l2, by unfold sharedP; rw [if_neg h']⟩
  · rintro o μ' ⟨L, S, rfl, rfl, hL, hS, lL, lS, hsh⟩
    rw [hsh] at q
    replace q := And.intro trivial q
    show thn _ _ _ μ'
    (exists 21, fldP)
    refine ⟨fun i ρ μ2 => (∃ s5 s6 s7 s8, ρ = [some (.sh (formD K r1)), some (.sh (formD K r2)), some (.sh (formD K L)), some (.sh (formD K S)), some (.sh (.mref μ'.length)), s5, s6, s7, s8]) ∧ μ2 = μ' ++ [.lst (natsD (cellsW L.2 S.2 i))] ∧ ∀ j < i, (cellW L.2 S.2 j).isSome = true, ⟨⟨_, _, _, _, rfl⟩, rfl, fun j hj => absurd hj (Nat.not_lt_zero _)⟩, ?_, ?_⟩
    · rintro i d ρ μ2 hd ⟨⟨s5, s6, s7, s8, rfl⟩, rfl, hk⟩
      obtain ⟨hi, rfl⟩ := enum_at hd
      have w1 : Wf (μ' ++ [.lst (natsD (cellsW L.2 S.2 i))]) := Wf.app w (low_nats _)
      have e2 : [D.int (i : Nat), .str (L.2.getD i "")].length = 2 := rfl
      have hlz := hL _ (getD_mem hi)
      have hg : (μ' ++ [MO.lst (natsD (cellsW L.2 S.2 i))])[μ'.length]? = some (.lst (natsD (cellsW L.2 S.2 i))) := app_at
      have hz : (natsD (cellsW L.2 S.2 i)).length < sizeLine := by rw [nats_len, List.length_map, List.length_range]; simp [sizeLine]; omega
      have hs : ∀ m : MO, (μ' ++ [MO.lst (natsD (cellsW L.2 S.2 i))]).set μ'.length m = μ' ++ [m] := fun m => by simp
      have hcell : cellW L.2 S.2 i = joinW (L.2.getD i "") (besideAt S.2 i (L.2.getD i "")) := rfl
      refine ⟨_, rfl, ?_⟩
      show Ws _ [some (.sh (formD K r1)), some (.sh (formD K r2)), some (.sh (formD K L)), some (.sh (formD K S)), some (.sh (.mref μ'.length)), some (.sh (.int (i : Nat))), some (.sh (.str (L.2.getD i ""))), s7, s8] _ _
      refine ws_seq (Ws.mono (Q := fun o μ3 => o = .nx [some (.sh (formD K r1)), some (.sh (formD K r2)), some (.sh (formD K L)), some (.sh (formD K S)), some (.sh (.mref μ'.length)), some (.sh (.int (i : Nat))), some (.sh (.str (L.2.getD i ""))), some (.sh (.str (besideAt S.2 i (L.2.getD i "")))), s8] ∧ μ3 = μ' ++ [MO.lst (natsD (cellsW L.2 S.2 i))]) ?_ ?_)
      · (exists 21, fldSz)
        refine ⟨fun h => ?_, fun h => ?_⟩
        · have h' : i < S.2.length := by have := of_decide_eq_true h; omega
          have ey := at_dS h'
          (exists 21, fldP, ey)
          refine ⟨?_, rfl⟩
          unfold besideAt
          rw [if_pos h']
        · have h' : ¬ i < S.2.length := by have := of_decide_eq_false h; omega
          (exists 21, DL.ws_seq)
          refine ⟨?_, rfl⟩
          unfold besideAt
          rw [if_neg h']
      · rintro o μ3 ⟨rfl, rfl⟩
        show thn _ _ _ (μ' ++ [MO.lst (natsD (cellsW L.2 S.2 i))])
        (exists 21, DL.ws_seq)
        refine w_joined w1 (by rw [hlz]; exact hn) ?_
        rw [← hcell]
        cases hc : cellW L.2 S.2 i with
        | none =>
          show thn _ _ _ (μ' ++ [MO.lst (natsD (cellsW L.2 S.2 i))])
          unfold oI
          (exists 21, DL.ws_seq)
          refine ⟨⟨[.lst _], rfl⟩, rfl, ?_⟩
          have := q.2
          rw [shared_none hi hc] at this
          exact this
        | some c =>
          show thn _ _ _ (μ' ++ [MO.lst (natsD (cellsW L.2 S.2 i))])
          unfold oI
          (exists 21, hg, hz)
          refine ⟨⟨_, _, _, _, rfl⟩, ?_, fun j hj => ?_⟩
          · rw [hs, cells_snoc hc, nats_snoc]
          · rcases Nat.lt_succ_iff_lt_or_eq.mp hj with hj | rfl
            · exact hk j hj
            · rw [hc]; rfl
    · rintro ρ μ2 ⟨⟨s5, s6, s7, s8, rfl⟩, rfl, hk⟩
      rw [enum_len] at hk
      rw [enum_len]
      have k0 : (μ' ++ [MO.lst (natsD (cellsW L.2 S.2 L.2.length))])[μ'.length]? = some (.lst (natsD (cellsW L.2 S.2 L.2.length))) := app_at
      (exists 21, k0, tO, tL)
      refine ⟨⟨[.dead], by simp⟩, low_nats _, ?_⟩
      have := q.2
      rw [shared_some hk] at this
      exact this
end K10

set_option Elab.async false
set_option linter.all false
set_option maxRecDepth 100000
set_option maxHeartbeats 4000000
set_option autoImplicit false
namespace K10
open PySem PySem.Spec L2 DL
variable {K : Fg} {μ μ' : Mu} {Q : D → Mu → Prop} {k : Nat} {A : Nat → Prop}
theorem thn_nx' {u : TO'} {QO : Out → Mu → Prop} {ρ : Rho} (h : Ws u ρ μ QO) : thn u QO (.nx ρ) μ := h
theorem shl_two {n : Nat} : ((1 : Int) * 2 ^ ((n : Nat) : Int).toNat).toNat = 2 ^ n := by rw [shl_nat', Int.toNat_natCast]
theorem w_law_shared {a b : List Str} {n : Nat} (w : Wf μ) (h1 : ∀ z ∈ a, z.length = n) (h2 : ∀ z ∈ b, z.length = n) (l1 : a.length ≤ 3) (l2 : b.length ≤ 3) (hn : n ≤ 8) (q : Q (oL (sharedP a b)) μ) : Wf' (S__law_shared K) [.lst (dS a), .lst (dS b), .int (n : Nat)] μ Q := by
  apply wf_keep w
  apply wf_run
  unfold B__law_shared
  show Ws _ [some (.sh (.lst (dS a))), some (.sh (.lst (dS b))), some (.sh (.int (n : Nat))), none, none, none, none, none, none] _ _
  refine ws_seq (Ws.mono (Q := fun o μ' => o = .nx [some (.sh (.lst (dS a))), some (.sh (.lst (dS b))), some (.sh (.int (n : Nat))), some (.sh (.lst (dS a))), none, none, none, none, none] ∧ μ' = μ) ?_ ?_)
  · (exists 22, DL.ws_seq)
    exact ⟨rfl, rfl⟩
  rintro o μ' ⟨rfl, rfl⟩
  show thn _ _ _ μ'
  refine thn_nx' (ws_seq (Ws.mono (Q := fun o μ2 => o = .nx [some (.sh (.lst (dS a))), some (.sh (.lst (dS b))), some (.sh (.int (n : Nat))), some (.sh (.lst (dS a))), some (.sh (.lst (dS b))), none, none, none, none] ∧ μ2 = μ') ?_ ?_))
  · (exists 22, DL.ws_seq)
    exact ⟨rfl, rfl⟩
  rintro o μ2 ⟨rfl, rfl⟩
  refine thn_nx' (ws_seq (Ws.mono (Q := fun o μ' => ∃ L S : List Str, o = .nx [some (.sh (.lst (dS a))), some (.sh (.lst (dS b))), some (.sh (.int (n : Nat))), some (.sh (.lst (dS L))), some (.sh (.lst (dS S))), none, none, none, none] ∧ μ' = μ2 ∧ (∀ z ∈ L, z.length = n) ∧ (∀ z ∈ S, z.length = n) ∧ L.length ≤ 3 ∧ S.length ≤ 3 ∧ sharedP a b = sharedLS L S) ?_ ?_))
  · (exists 22, DL.ws_seq)
    refine ⟨fun h => ?_, fun h => ?_⟩
    · (exists 22, DL.ws_seq)
      have h' : a.length < b.length := by have := of_decide_eq_true h; rw [List.length_map, List.length_map] at this; omega
      exact ⟨b, a, rfl, rfl, h2, h1, l2, l1, by unfold sharedP; rw [if_pos h']⟩
    · (exists 22, DL.ws_seq)
      have h' : ¬ a.length < b.length := by have := of_decide_eq_false h; rw [dS_len, dS_len] at this; omega
      exact ⟨a, b, rfl, rfl, h1, h2, l1, l2, by unfold sharedP; rw [if_neg h']⟩
  · rintro o μ' ⟨L, S, rfl, rfl, hL, hS, lL, lS, hsh⟩
    rw [hsh] at q
    replace q := And.intro trivial q
    have lL6 : (dS L).length < 1000000 := by rw [dS_len]; omega
    show thn _ _ _ μ'
    (exists 22, lL6)
    refine ⟨fun i ρ μ2 => (∃ s6 s7 s8, ρ = [some (.sh (.lst (dS a))), some (.sh (.lst (dS b))), some (.sh (.int (n : Nat))), some (.sh (.lst (dS L))), some (.sh (.lst (dS S))), some (.sh (.mref μ'.length)), s6, s7, s8]) ∧ μ2 = μ' ++ [MO.lst (natsD (cellsW L S i))] ∧ ∀ j < i, (cellW L S j).isSome = true, ⟨⟨_, _, _, rfl⟩, rfl, fun j hj => absurd hj (Nat.not_lt_zero _)⟩, ?_, ?_⟩
    · rintro i d ρ μ2 hd ⟨⟨s6, s7, s8, rfl⟩, rfl, hk⟩
      obtain ⟨hi, rfl⟩ := rng_at hd
      rw [dS_len] at hi
      have w1 : Wf (μ' ++ [MO.lst (natsD (cellsW L S i))]) := Wf.app w (low_nats _)
      have hlz := hL _ (getD_mem hi)
      have hg : (μ' ++ [MO.lst (natsD (cellsW L S i))])[μ'.length]? = some (.lst (natsD (cellsW L S i))) := app_at
      have hz : (natsD (cellsW L S i)).length < sizeLine := by rw [nats_len, List.length_map, List.length_range]; simp [sizeLine]; omega
      have hs : ∀ m : MO, (μ' ++ [MO.lst (natsD (cellsW L S i))]).set μ'.length m = μ' ++ [m] := fun m => by simp
      have hcell : cellW L S i = joinW (L.getD i "") (besideAt S i (L.getD i "")) := rfl
      have hlb := beside_len (j := i) hS hlz
      have ex := at_dS hi
      have bL : (L.getD i "").length < 1000000 := by omega
      have hcp : CPow 1 ((n : Nat) : Int) := ⟨by omega, by omega, by decide⟩
      have p256 : (2 : Nat) ^ n ≤ 256 := by
        have := Nat.pow_le_pow_right (n := 2) (by decide) hn
        omega
      have r0 : (0 : Int) ≤ 1 * 2 ^ ((n : Nat) : Int).toNat := by rw [shl_nat']; exact Int.natCast_nonneg _
      have r1 : (1 : Int) * 2 ^ ((n : Nat) : Int).toNat < 1000000 := by rw [shl_nat']; exact Int.ofNat_lt.mpr (by omega : 2 ^ n < 1000000)
      refine ⟨_, rfl, ?_⟩
      show Ws _ [some (.sh (.lst (dS a))), some (.sh (.lst (dS b))), some (.sh (.int (n : Nat))), some (.sh (.lst (dS L))), some (.sh (.lst (dS S))), some (.sh (.mref μ'.length)), some (.sh (.int (i : Nat))), s7, s8] _ _
      refine ws_seq (Ws.mono (Q := fun o μ3 => o = .nx [some (.sh (.lst (dS a))), some (.sh (.lst (dS b))), some (.sh (.int (n : Nat))), some (.sh (.lst (dS L))), some (.sh (.lst (dS S))), some (.sh (.mref μ'.length)), some (.sh (.int (i : Nat))), some (.sh .non), s8] ∧ μ3 = μ' ++ [MO.lst (natsD (cellsW L S i))]) ?_ ?_)
      · (exists 22, DL.ws_seq)
        exact ⟨rfl, rfl⟩
      rintro o μ3 ⟨rfl, rfl⟩
      refine thn_nx' (ws_seq (Ws.mono (Q := fun o μ3 => (∃ s8, o = .nx [some (.sh (.lst (dS a))), some (.sh (.lst (dS b))), some (.sh (.int (n : Nat))), some (.sh (.lst (dS L))), some (.sh (.lst (dS S))), some (.sh (.mref μ'.length)), some (.sh (.int (i : Nat))), some (.sh (oI (cellW L S i))), s8]) ∧ μ3 = μ' ++ [MO.lst (natsD (cellsW L S i))]) ?_ ?_))
      · (exists 22, hcp, r0, r1)
        refine ⟨fun t ρ μ3 => (∃ s8, ρ = [some (.sh (.lst (dS a))), some (.sh (.lst (dS b))), some (.sh (.int (n : Nat))), some (.sh (.lst (dS L))), some (.sh (.lst (dS S))), some (.sh (.mref μ'.length)), some (.sh (.int (i : Nat))), some (.sh .non), s8]) ∧ μ3 = μ' ++ [MO.lst (natsD (cellsW L S i))] ∧ ∀ v < t, ¬ (fitsP (L.getD i "") ((v : Nat) : Int) = true ∧ fitsP (besideAt S i (L.getD i "")) ((v : Nat) : Int) = true), ⟨⟨_, rfl⟩, rfl, fun v hv => absurd hv (Nat.not_lt_zero _)⟩, ?_, ?_⟩
        · rintro t d ρ μ3 hd ⟨⟨s8, rfl⟩, rfl, hv⟩
          obtain ⟨ht, rfl⟩ := rng_at hd
          rw [shl_two] at ht
          have found : fitsP (L.getD i "") ((t : Nat) : Int) = true → fitsP (besideAt S i (L.getD i "")) ((t : Nat) : Int) = true → cellW L S i = some t := fun f1 f2 => by
            rw [hcell]
            cases hj : joinW (L.getD i "") (besideAt S i (L.getD i "")) with
            | none => exact absurd ⟨f1, f2⟩ (least_none hlz hlb hj t)
            | some w =>
              obtain ⟨_, f3, f4⟩ := least_some hlz hlb hj
              have q1 := f4 t ⟨f1, f2⟩
              by_cases e : w = t
              · rw [e]
              · exact absurd f3 (hv w (by omega))
          have next : ¬ (fitsP (L.getD i "") ((t : Nat) : Int) = true ∧ fitsP (besideAt S i (L.getD i "")) ((t : Nat) : Int) = true) → ∀ v < t + 1, ¬ (fitsP (L.getD i "") ((v : Nat) : Int) = true ∧ fitsP (besideAt S i (L.getD i "")) ((v : Nat) : Int) = true) := fun hn v hv' => by
            rcases Nat.lt_succ_iff_lt_or_eq.mp hv' with h | rfl
            · exact hv v h
            · exact hn
          replace found := And.intro trivial found
          replace next := And.intro trivial next
          replace hv := And.intro trivial hv
          (exists 22, ex, w_fits (K := K) w1 bL)
          refine ⟨fun f1 => ?_, fun f1 => ?_⟩
          · (exists 22, DL.ws_seq)
            refine ⟨fun h => ?_, fun h => ?_⟩
            · have h' : ¬ i < S.length := by have := of_decide_eq_true h; rw [dS_len] at this; omega
              have eb : besideAt S i (L.getD i "") = L.getD i "" := by unfold besideAt; rw [if_neg h']
              rw [found.2 f1 (by rw [eb]; exact f1)]
              unfold oI
              (exists 22, DL.ws_seq)
              exact ⟨⟨_, rfl⟩, rfl⟩
            · have h' : i < S.length := by have := of_decide_eq_false h; rw [dS_len] at this; omega
              have eb : besideAt S i (L.getD i "") = S.getD i "" := by unfold besideAt; rw [if_pos h']
              have ey := at_dS h'
              have bS : (S.getD i "").length < 1000000 := by rw [← eb, hlb]; omega
              (exists 22, ey, w_fits (K := K) w1 bS)
              refine ⟨fun f2 => ?_, fun f2 => ?_⟩
              · rw [found.2 f1 (by rw [eb]; exact f2)]
                unfold oI
                (exists 22, DL.ws_seq)
                exact ⟨⟨_, rfl⟩, rfl⟩
              · (exists 22, DL.ws_seq)
                exact ⟨⟨_, rfl⟩, rfl, next.2 fun hh => by rw [eb, f2] at hh; exact absurd hh.2 (by decide)⟩
          · (exists 22, DL.ws_seq)
            exact ⟨⟨_, rfl⟩, rfl, next.2 fun hh => by rw [f1] at hh; exact absurd hh.1 (by decide)⟩
        · rintro ρ μ3 ⟨⟨s8, rfl⟩, rfl, hv⟩
          rw [rng_len, shl_two] at hv
          have e : cellW L S i = none := by
            rw [hcell]
            cases hj : joinW (L.getD i "") (besideAt S i (L.getD i "")) with
            | none => rfl
            | some w =>
              obtain ⟨f1, f3, f4⟩ := least_some hlz hlb hj
              exact absurd f3 (hv w f1)
          rw [e]
          exact ⟨⟨_, rfl⟩, rfl⟩
      · rintro o μ3 ⟨⟨s8, rfl⟩, rfl⟩
        show thn _ _ _ (μ' ++ [MO.lst (natsD (cellsW L S i))])
        cases hc : cellW L S i with
        | none =>
          unfold oI
          (exists 22, DL.ws_seq)
          refine ⟨⟨[.lst _], rfl⟩, rfl, ?_⟩
          have := q.2
          rw [shared_none hi hc] at this
          exact this
        | some c =>
          unfold oI
          (exists 22, hg, hz)
          refine ⟨⟨_, _, _, rfl⟩, ?_, fun j hj => ?_⟩
          · rw [hs, cells_snoc hc, nats_snoc]
          · rcases Nat.lt_succ_iff_lt_or_eq.mp hj with hj | rfl
            · exact hk j hj
            · rw [hc]; rfl
    · rintro ρ μ2 ⟨⟨s6, s7, s8, rfl⟩, rfl, hk⟩
      rw [rng_len, dS_len] at hk
      rw [rng_len, dS_len]
      have k0 : (μ' ++ [MO.lst (natsD (cellsW L S L.length))])[μ'.length]? = some (.lst (natsD (cellsW L S L.length))) := app_at
      (exists 22, k0)
      refine ⟨⟨[.dead], by simp⟩, low_nats _, ?_⟩
      have := q.2
      rw [shared_some hk] at this
      exact this
end K10

set_option Elab.async false
set_option linter.all false
set_option maxRecDepth 100000
set_option maxHeartbeats 4000000
set_option autoImplicit false
namespace K10
open PySem PySem.Spec L2 DL
variable {K : Fg} {μ μ' : Mu} {Q : D → Mu → Prop} {k : Nat} {A : Nat → Prop} {P : Addr → List Str → List D → Mu → Prop}
abbrev FX := Str × Str × List Nat
abbrev rw0 : Row := ("", [])
def fP (rs : List Row) (i j : Nat) : Option FX := if i < j then (sharedP (rs.getD i rw0).2 (rs.getD j rw0).2).map fun c => ((rs.getD i rw0).1, (rs.getD j rw0).1, c) else none
def fI (rs : List Row) (i m : Nat) : Option FX := (List.range m).findSome? (fP rs i)
def firstP (rs : List Row) : Option FX := (List.range rs.length).findSome? fun i => fI rs i rs.length
def oFT : Option FX → D
  | none => .non
  | some x => .tup [.str x.1, .str x.2.1, .tup (natsD x.2.2)]
def oFL : Option FX → D
  | none => .non
  | some x => .lst [.str x.1, .str x.2.1, .lst (natsD x.2.2)]
theorem low_oFT {n : Nat} (o : Option FX) : D.low n (oFT o) = true := by
  cases o with
  | none => rfl
  | some x =>
    show (true && (true && (D.lowAll n (natsD x.2.2) && true))) = true
    rw [low_nats]; rfl
theorem fs_snoc {α : Type} {f : Nat → Option α} {m : Nat} : (List.range (m + 1)).findSome? f = ((List.range m).findSome? f).or (f m) := by
  rw [List.range_succ, List.findSome?_append]
  simp
theorem fs_none {α : Type} {f : Nat → Option α} {m : Nat} (h : ∀ i < m, f i = none) : (List.range m).findSome? f = none := by
  rw [List.findSome?_eq_none_iff]
  exact fun i hi => h i (List.mem_range.mp hi)
theorem fs_some {α : Type} {f : Nat → Option α} {m i : Nat} {x : α} (hi : i < m) (h0 : ∀ j < i, f j = none) (hx : f i = some x) : (List.range m).findSome? f = some x := by
  induction m with
  | zero => omega
  | succ m ih =>
    rw [fs_snoc]
    by_cases e : i = m
    · subst e
      rw [fs_none h0, hx]; rfl
    · rw [ih (by omega)]; rfl
theorem fP_ge {rs : List Row} {i j : Nat} (h : ¬ i < j) : fP rs i j = none := by unfold fP; rw [if_neg h]
structure Fine (n : Nat) (rs : List Row) : Prop where
  z : ∀ r ∈ rs, ∀ z ∈ r.2, z.length = n
  l : ∀ r ∈ rs, r.2.length ≤ 3
  m : rs.length ≤ 32
  n8 : n ≤ 8
theorem rw_at {rs : List Row} {i : Nat} {r : Row} (h : rs[i]? = some r) : rs.getD i rw0 = r := by rw [List.getD_eq_getElem?_getD, h]; rfl
theorem rw_mem {rs : List Row} {i : Nat} (h : i < rs.length) : rs.getD i rw0 ∈ rs := by
  rw [List.getD_eq_getElem?_getD, List.getElem?_eq_getElem h]
  exact List.getElem_mem h
section
variable {rs : List Row} {n : Nat} {R : Int} {t : Str}
theorem enumF_at {i : Nat} {d : D} (h : (enumD (formsD K rs))[i]? = some d) : i < rs.length ∧ d = .tup [.int (i : Nat), formD K (rs.getD i rw0)] := by
  unfold enumD at h
  rw [List.getElem?_mapIdx] at h
  obtain ⟨c, h1, rfl⟩ := Option.map_eq_some_iff.mp h
  rw [List.getElem?_map] at h1
  obtain ⟨l, h2, rfl⟩ := Option.map_eq_some_iff.mp h1
  exact ⟨(List.getElem?_eq_some_iff.mp h2).1, by rw [rw_at h2]⟩
theorem enumF_len : (enumD (formsD K rs)).length = rs.length := by unfold enumD; rw [List.length_mapIdx, List.length_map]
theorem slF {i : Nat} (h : i < rs.length) : sliceTD (some ((i : Int) + 1)) none (.tup (formsD K rs)) = some (.tup ((formsD K rs).drop (i + 1))) := by
  have e1 : ((i : Int) + 1) = ((i + 1 : Nat) : Int) := by omega
  have hl : (formsD K rs).length = rs.length := List.length_map ..
  have e2 : HT.sIx (formsD K rs).length 0 (some ((i : Int) + 1)) = i + 1 := by rw [e1, HT.sIx_nat, hl]; omega
  show (if HT.sIx (formsD K rs).length 0 (some ((i : Int) + 1)) = 0 ∧ HT.sIx (formsD K rs).length (formsD K rs).length none = (formsD K rs).length then none else some (D.tup (cutD (formsD K rs) (some ((i : Int) + 1)) none))) = _
  rw [e2, if_neg (by omega)]
  unfold cutD
  rw [e2, HT.sIx_none]
  have : ((formsD K rs).drop (i + 1)).length = (formsD K rs).length - (i + 1) := List.length_drop ..
  rw [← this, List.take_length]
theorem dropF_at {i j : Nat} {d : D} (h : ((formsD K rs).drop (i + 1))[j]? = some d) : i + 1 + j < rs.length ∧ d = formD K (rs.getD (i + 1 + j) rw0) := by
  rw [List.getElem?_drop, List.getElem?_map] at h
  obtain ⟨c, h1, h2⟩ := Option.map_eq_some_iff.mp h
  exact ⟨(List.getElem?_eq_some_iff.mp h1).1, by rw [rw_at h1, h2]⟩
theorem w_first_shared (w : Wf μ) (hf : Fine n rs) (q : Q (oFT (firstP rs)) μ) : Wf' (S_first_shared K) [bookD K n R rs t] μ Q := by
  apply wf_keep w
  apply wf_run
  unfold B_first_shared
  show Ws _ [some (.sh (bookD K n R rs t)), none, none, none, none] _ _
  have hn := hf.n8
  replace q := And.intro trivial q
  (exists 23, fldF)
  refine ⟨fun i ρ μ' => (∃ s1 s2 s3 s4, ρ = [some (.sh (bookD K n R rs t)), s1, s2, s3, s4]) ∧ μ' = μ ∧ ∀ a < i, fI rs a rs.length = none, ⟨⟨_, _, _, _, rfl⟩, rfl, fun j hj => absurd hj (Nat.not_lt_zero _)⟩, ?_, ?_⟩
  · rintro i d ρ μ' hd ⟨⟨s1, s2, s3, s4, rfl⟩, rfl, hk⟩
    obtain ⟨hi, rfl⟩ := enumF_at hd
    have e2 : [D.int (i : Nat), formD K (rs.getD i rw0)].length = 2 := rfl
    have hii := rw_mem hi
    (exists 23, e2, fldF, we_sliceT)
    refine ⟨_, slF hi, ?_⟩
    (exists 23, DL.ws_seq)
    refine ⟨fun j ρ μ2 => (∃ s3 s4, ρ = [some (.sh (bookD K n R rs t)), some (.sh (.int (i : Nat))), some (.sh (formD K (rs.getD i rw0))), s3, s4]) ∧ μ2 = μ' ∧ ∀ b < i + 1 + j, fP rs i b = none, ⟨⟨_, _, rfl⟩, rfl, fun b hb => fP_ge (by omega)⟩, ?_, ?_⟩
    · rintro j d ρ μ2 hd ⟨⟨s3, s4, rfl⟩, rfl, hk2⟩
      obtain ⟨hj, rfl⟩ := dropF_at hd
      have hjj := rw_mem hj
      refine ⟨_, rfl, ?_⟩
      show Ws _ [some (.sh (bookD K n R rs t)), some (.sh (.int (i : Nat))), some (.sh (formD K (rs.getD i rw0))), some (.sh (formD K (rs.getD (i + 1 + j) rw0))), s4] _ _
      (exists 23, DL.ws_seq)
      refine w_shared_code w (hf.z _ hii) (hf.z _ hjj) (hf.l _ hii) (hf.l _ hjj) (by omega) ?_
      cases hc : sharedP (rs.getD i rw0).2 (rs.getD (i + 1 + j) rw0).2 with
      | none =>
        show thn _ _ _ μ2
        unfold oT
        (exists 23, DL.ws_seq)
        refine ⟨⟨_, _, rfl⟩, rfl, fun b hb => ?_⟩
        rcases Nat.lt_succ_iff_lt_or_eq.mp (show b < i + 1 + j + 1 by omega) with hb | rfl
        · exact hk2 b hb
        · unfold fP; rw [if_pos (by omega), hc]; rfl
      | some c =>
        show thn _ _ _ μ2
        unfold oT
        have e : firstP rs = some ((rs.getD i rw0).1, (rs.getD (i + 1 + j) rw0).1, c) := by
          unfold firstP
          refine fs_some hi hk ?_
          unfold fI
          refine fs_some hj hk2 ?_
          unfold fP
          rw [if_pos (by omega), hc]; rfl
        rw [e] at q
        (exists 23, fldName (C := 0))
        exact ⟨⟨[], by simp⟩, low_oFT (some ((rs.getD i rw0).1, (rs.getD (i + 1 + j) rw0).1, c)), q.2⟩
    · rintro ρ μ2 ⟨⟨s3, s4, rfl⟩, rfl, hk2⟩
      refine ⟨⟨_, _, _, _, rfl⟩, rfl, fun a ha => ?_⟩
      rcases Nat.lt_succ_iff_lt_or_eq.mp ha with ha | rfl
      · exact hk a ha
      · unfold fI
        refine fs_none fun b hb => hk2 b ?_
        rw [List.length_drop, List.length_map]
        omega
  · rintro ρ μ' ⟨⟨s1, s2, s3, s4, rfl⟩, rfl, hk⟩
    rw [enumF_len] at hk
    have e : firstP rs = none := fs_none hk
    rw [e] at q
    (exists 23, DL.ws_seq)
    exact ⟨⟨[], by simp⟩, rfl, q.2⟩
end
end K10

set_option Elab.async false
set_option linter.all false
set_option maxRecDepth 100000
set_option maxHeartbeats 4000000
set_option autoImplicit false
namespace K10
open PySem PySem.Spec L2 DL
variable {K : Fg} {μ μ' : Mu} {Q : D → Mu → Prop} {k : Nat} {A : Nat → Prop} {P : Addr → List Str → List D → Mu → Prop}
theorem w_is_code {cs : List Nat} (w : Wf μ) (hl : cs.length < 1000) (q : Q (.bl true) μ) : Wf' (S__law_is_code K) [.tup (natsD cs), .lst (natsD cs)] μ Q := by
  apply wf_keep w
  apply wf_run
  unfold B__law_is_code
  show Ws _ [some (.sh (.tup (natsD cs))), some (.sh (.lst (natsD cs))), none] _ _
  have it : ∀ {P : Bool → Prop} {S : List Addr}, P true → ∃ ty c b, tyD S (.tup (natsD cs)) μ = some ty ∧ clsD (.ty "tuple") = some c ∧ kitD (kits K) ty c = some b ∧ P b := fun h => ⟨_, _, true, rfl, rfl, by simp [kitD, kits], h⟩
  have hm : (natsD cs).length < 1000000 := by rw [nats_len]; omega
  replace q := And.intro trivial q
  (exists 24, it)
  refine dnF rfl ?_
  (exists 24, hm)
  refine ⟨fun i ρ μ' => (∃ s2, ρ = [some (.sh (.tup (natsD cs))), some (.sh (.lst (natsD cs))), s2]) ∧ μ' = μ, ⟨⟨_, rfl⟩, rfl⟩, ?_, ?_⟩
  · rintro i d ρ μ' hd ⟨⟨s2, rfl⟩, rfl⟩
    obtain ⟨hi, rfl⟩ := rng_at hd
    rw [nats_len] at hi
    have a1 : atI (natsD cs) (i : Int) = some (.int ((cs.getD i 0 : Nat) : Int)) := by rw [DL.atI_nat, List.getElem?_map, List.getElem?_eq_getElem hi, List.getD_eq_getElem?_getD, List.getElem?_eq_getElem hi]; rfl
    (exists 24, a1, w_law_is_int (K := K) w)
    refine dnF rfl ?_
    (exists 24, DL.ws_seq)
    exact ⟨⟨_, rfl⟩, rfl⟩
  · rintro ρ μ' ⟨⟨s2, rfl⟩, rfl⟩
    (exists 24, DL.ws_seq)
    exact ⟨⟨[], by simp⟩, rfl, q.2⟩
theorem w_first_is {o : Option FX} (w : Wf μ) (hl : ∀ x, o = some x → x.2.2.length < 1000) (q : Q (.bl true) μ) : Wf' (S__law_first_is K) [oFT o, oFL o] μ Q := by
  apply wf_keep w
  apply wf_run
  unfold B__law_first_is
  replace q := And.intro trivial q
  cases o with
  | none =>
    show Ws _ [some (.sh .non), some (.sh .non)] _ _
    (exists 25, DL.ws_seq)
    exact ⟨⟨[], by simp⟩, rfl, q.2⟩
  | some x =>
    obtain ⟨a, b, c⟩ := x
    have hc := hl _ rfl
    show Ws _ [some (.sh (.tup [.str a, .str b, .tup (natsD c)])), some (.sh (.lst [.str a, .str b, .lst (natsD c)]))] _ _
    have it : ∀ {P : Bool → Prop} {S : List Addr}, P true → ∃ ty cc bb, tyD S (.tup [.str a, .str b, .tup (natsD c)]) μ = some ty ∧ clsD (.ty "tuple") = some cc ∧ kitD (kits K) ty cc = some bb ∧ P bb := fun h => ⟨_, _, true, rfl, rfl, by simp [kitD, kits], h⟩
    have i1 : atI [D.str a, .str b, .tup (natsD c)] 2 = some (.tup (natsD c)) := rfl
    have i2 : atI [D.str a, .str b, .lst (natsD c)] 2 = some (.lst (natsD c)) := rfl
    (exists 25, it)
    refine dnF rfl ?_
    (exists 25, DL.atI_0, DL.atI_1, i1, i2)
    refine dsT rfl ?_
    (exists 25, DL.atI_0, DL.atI_1, i1, i2)
    refine dsT rfl ?_
    (exists 25, DL.atI_0, DL.atI_1, i1, i2, w_is_code (K := K) w hc)
    exact ⟨⟨[], by simp⟩, rfl, q.2⟩
end K10

set_option Elab.async false
set_option linter.all false
set_option maxRecDepth 100000
set_option maxHeartbeats 4000000
set_option autoImplicit false
namespace K10
open PySem PySem.Spec L2 DL
variable {K : Fg} {μ μ' : Mu} {Q : D → Mu → Prop} {k : Nat} {A : Nat → Prop} {P : Addr → List Str → List D → Mu → Prop}
section
variable {rs : List Row} {n : Nat} {R : Int} {t : Str}
theorem forms_at {i : Nat} {d : D} (h : (formsD K rs)[i]? = some d) : ∃ r, rs[i]? = some r ∧ d = formD K r := by
  rw [List.getElem?_map] at h
  obtain ⟨c, h1, h2⟩ := Option.map_eq_some_iff.mp h
  exact ⟨c, h1, h2.symm⟩
theorem nd_eq (h : (rs.map (·.1)).Nodup) {i j : Nat} {r s : Row} (hi : rs[i]? = some r) (hj : rs[j]? = some s) (e : s.1 = r.1) : s = r := by
  obtain ⟨a1, a2⟩ := List.getElem?_eq_some_iff.mp hi
  obtain ⟨b1, b2⟩ := List.getElem?_eq_some_iff.mp hj
  have l1 : i < (rs.map (·.1)).length := by rw [List.length_map]; exact a1
  have l2 : j < (rs.map (·.1)).length := by rw [List.length_map]; exact b1
  have := (List.getElem_inj (h₀ := l2) (h₁ := l1) h).mp (by rw [List.getElem_map, List.getElem_map, a2, b2]; exact e)
  subst this
  rw [hi] at hj
  cases hj
  rfl
theorem met_named {A : Prop} (h : A) : metP (He.ga K "Book") "form_named" (bookD K n R rs t) μ A := ⟨_, _, rfl, rfl, h⟩
theorem fldEff {r : Row} {Pd : D → Prop} (h : Pd .non) : ∃ C' ns ds y, insD (formD K r) μ = some (C', ns, ds) ∧ C' ∈ [He.ga K "Form"] ∧ fldD ns ds "effect" = some y ∧ Pd y := ⟨_, _, _, _, rfl, List.mem_singleton.mpr rfl, rfl, h⟩
theorem w_form_named {r : Row} {i : Nat} (w : Wf μ) (hnd : (rs.map (·.1)).Nodup) (hi : rs[i]? = some r) (q : Q (formD K r) μ) : Wf' (S_Book_form_named K) [bookD K n R rs t, .str r.1] μ Q := by
  apply wf_keep w
  apply wf_run
  unfold B_Book_form_named
  show Ws _ [some (.sh (bookD K n R rs t)), some (.sh (.str r.1)), none] _ _
  replace q := And.intro trivial q
  (exists 26, fldF)
  refine ⟨fun j ρ μ' => (∃ s2, ρ = [some (.sh (bookD K n R rs t)), some (.sh (.str r.1)), s2]) ∧ μ' = μ ∧ ∀ x ∈ rs.take j, x.1 ≠ r.1, ⟨⟨_, rfl⟩, rfl, by simp⟩, ?_, ?_⟩
  · rintro j d ρ μ' hd ⟨⟨s2, rfl⟩, rfl, h0⟩
    obtain ⟨s, hj, rfl⟩ := forms_at hd
    refine ⟨_, rfl, ?_⟩
    show Ws _ [some (.sh (bookD K n R rs t)), some (.sh (.str r.1)), some (.sh (formD K s))] _ _
    (exists 26, fldName (C := 0))
    refine dsplit (fun h1 => ?_) (fun h1 => ?_)
    · (exists 26, DL.ws_seq)
      rw [nd_eq hnd hi hj h1]
      exact ⟨⟨[], by simp⟩, low_form r, q.2⟩
    · (exists 26, DL.ws_seq)
      refine ⟨⟨_, rfl⟩, rfl, fun x hx => ?_⟩
      rw [take_at hj] at hx
      rcases List.mem_append.mp hx with hx | hx
      · exact h0 x hx
      · rw [List.mem_singleton.mp hx]; exact h1
  · rintro ρ μ' ⟨⟨s2, rfl⟩, rfl, h0⟩
    rw [List.length_map, List.take_length] at h0
    exact absurd rfl (h0 r (List.mem_of_getElem? hi))
theorem w_half_run {r : Row} {i : Nat} (w : Wf μ) (hnd : (rs.map (·.1)).Nodup) (hi : rs[i]? = some r) (q : Q .non μ) : Wf' (S_half_run K) [bookD K n R rs t, .str r.1] μ Q := by
  apply wf_keep w
  apply wf_run
  unfold B_half_run
  show Ws _ [some (.sh (bookD K n R rs t)), some (.sh (.str r.1)), none, none, none] _ _
  have m1 := fun {A : Prop} (h : A) => met_named (K := K) (μ := μ) (rs := rs) (n := n) (R := R) (t := t) h
  replace q := And.intro trivial q
  (exists 27, we_methX, m1)
  refine ⟨rfl, w_form_named w hnd hi ?_⟩
  (exists 27, fldEff)
  exact ⟨⟨[], by simp⟩, rfl, q.2⟩
theorem w_check_book (w : Wf μ) (hf : Fine n rs) (hnd : (rs.map (·.1)).Nodup) (h0 : firstP rs = none) (q : Q .non μ) : Wf' (S_check_book K) [bookD K n R rs t] μ Q := by
  apply wf_keep w
  apply wf_run
  unfold B_check_book
  show Ws _ [some (.sh (bookD K n R rs t)), none, none, none, none, none, none, none, none, none] _ _
  replace q := And.intro trivial q
  (exists 28, DL.ws_seq)
  refine w_first_shared w hf ?_
  rw [h0]
  show thn _ _ _ μ
  unfold oFT
  (exists 28, fldF)
  refine ⟨fun i ρ μ' => (∃ s5 s6, ρ = [some (.sh (bookD K n R rs t)), some (.sh .non), none, none, none, s5, s6, none, none, none]) ∧ μ' = μ, ⟨⟨_, _, rfl⟩, rfl⟩, ?_, ?_⟩
  · rintro i d ρ μ' hd ⟨⟨s5, s6, rfl⟩, rfl⟩
    obtain ⟨r, hi, rfl⟩ := forms_at hd
    refine ⟨_, rfl, ?_⟩
    show Ws _ [some (.sh (bookD K n R rs t)), some (.sh .non), none, none, none, some (.sh (formD K r)), s6, none, none, none] _ _
    (exists 28, fldName (C := 0), w_half_run (K := K) (n := n) (R := R) (t := t) w hnd hi)
    exact ⟨⟨_, _, rfl⟩, rfl⟩
  · rintro ρ μ' ⟨⟨s5, s6, rfl⟩, rfl⟩
    exact ⟨⟨[], by simp⟩, rfl, q.2⟩
theorem x_check_book {x : FX} (w : Wf μ) (hf : Fine n rs) (h0 : firstP rs = some x) (hq : P (He.ga K "OneCode") ["code", "second", "first"] [.tup (natsD x.2.2), .str x.2.1, .str x.1] μ) : Xf (S_check_book K) [bookD K n R rs t] μ P := by
  obtain ⟨a, b, c⟩ := x
  apply xf_keep w
  apply xf_run
  unfold B_check_book
  show Ws _ [some (.sh (bookD K n R rs t)), none, none, none, none, none, none, none, none, none] _ _
  replace hq := And.intro trivial hq
  refine ws_seq (ws_set (we_call ?_))
  (exists 28, DL.ws_seq)
  refine ⟨rfl, w_first_shared w hf ?_⟩
  rw [h0]
  show thn _ _ _ μ
  show thn _ _ (.nx [some (.sh (bookD K n R rs t)), some (.sh (.tup [.str a, .str b, .tup (natsD c)])), none, none, none, none, none, none, none, none]) μ
  have e3 : [D.str a, .str b, .tup (natsD c)].length = 3 := rfl
  (exists 28, e3)
  refine ws_raise ?_
  (exists 28, DL.ws_seq)
  refine ⟨⟨rfl, by simp⟩, thn_ex (endsX_ex ⟨⟨[], by simp⟩, ?_, hq.2⟩)⟩
  show (D.lowAll μ.length (natsD c) && (true && (true && true))) = true
  rw [low_nats]; rfl
end
end K10

set_option Elab.async false
set_option linter.all false
set_option maxRecDepth 100000
set_option maxHeartbeats 4000000
set_option autoImplicit false
namespace K10
open PySem PySem.Spec L2 DL
variable {K : Fg} {μ μ' : Mu} {Q : D → Mu → Prop} {k : Nat} {A : Nat → Prop} {P : Addr → List Str → List D → Mu → Prop}
structure NeK (K : Fg) : Prop where
  a : He.ga K "Refusal" ≠ He.ga K "HalfDone"
theorem nek_of (h : KitOk K (kits K)) : NeK K := by
  have h1 := h (.ref (He.ga K "OneCode"), .ref (He.ga K "Refusal"), true) (by simp [kits])
  have h2 := h (.ref (He.ga K "OneCode"), .ref (He.ga K "HalfDone"), false) (by simp [kits])
  refine ⟨fun e => ?_⟩
  rw [← e] at h2
  have h3 := h1.symm.trans h2
  cases h3
theorem kitR : kitD (kits K) (.ref (He.ga K "OneCode")) (.ref (He.ga K "Refusal")) = some true := by simp [kitD, kits]
theorem kitH (h : NeK K) : kitD (kits K) (.ref (He.ga K "OneCode")) (.ref (He.ga K "HalfDone")) = some false := by simp [kitD, kits, h.a]
theorem kxOO : kxD (kxs K) (He.ga K "OneCode") (He.ga K "OneCode") = some true := by simp [kxD, kxs]
theorem kxOH : ∃ b, kxD (kxs K) (He.ga K "OneCode") (He.ga K "HalfDone") = some b := by
  by_cases h : He.ga K "OneCode" = He.ga K "HalfDone"
  · exact ⟨true, by simp [kxD, kxs, h]⟩
  · exact ⟨false, by simp [kxD, kxs, h]⟩
def noX (QO : Out → Mu → Prop) : Out → Mu → Prop
  | .ex _ _ _ _, _ => False
  | o, μ => QO o μ
def trP (kx : KX) (x y : Addr) (ts : TO') (QO : Out → Mu → Prop) : Out → Mu → Prop
  | .ex ρ C _ _, μ => kxD kx C x = some true ∧ (∃ b2, kxD kx C y = some b2) ∧ Ws ts ρ μ (noX QO)
  | o, μ => QO o μ
theorem ws_tryT {kx : KX} {x y : Addr} {tb ts : TO'} {ρ : Rho} {QO : Out → Mu → Prop} (h : Ws tb ρ μ (trP kx x y ts QO)) : Ws (dsTryT kx x y tb ts) ρ μ QO := by
  obtain ⟨o, μ1, h1, h2⟩ := h
  unfold Ws dsTryT
  rw [h1]
  cases o with
  | ex ρ' C ns ds =>
    obtain ⟨q1, ⟨b2, q2⟩, o2, μ2, q3, q4⟩ := h2
    simp only [q1, q2]
    show ∃ o μ', (if (true || (b2 || false)) = true then noEx (ts ρ' μ1) else some (.ex ρ' C ns ds, μ1)) = some (o, μ') ∧ QO o μ'
    rw [if_pos (by simp), q3]
    cases o2 with
    | ex _ _ _ _ => exact q4.elim
    | nx _ => exact ⟨_, _, rfl, q4⟩
    | bk _ => exact ⟨_, _, rfl, q4⟩
    | ct _ => exact ⟨_, _, rfl, q4⟩
    | rt _ => exact ⟨_, _, rfl, q4⟩
  | nx _ => exact ⟨_, _, rfl, h2⟩
  | bk _ => exact ⟨_, _, rfl, h2⟩
  | ct _ => exact ⟨_, _, rfl, h2⟩
  | rt _ => exact ⟨_, _, rfl, h2⟩
section
variable {rs : List Row} {n : Nat} {R : Int} {t : Str}
theorem w_let_yes (w : Wf μ) (hf : Fine n rs) (hnd : (rs.map (·.1)).Nodup) (h0 : firstP rs = none) (q : Q (.bl true) μ) : Wf' (S_is_let_by K) [bookD K n R rs t] μ Q := by
  apply wf_keep w
  apply wf_run
  unfold B_is_let_by
  show Ws _ [some (.sh (bookD K n R rs t))] _ _
  replace q := And.intro trivial q
  refine ws_seq (ws_tryT (ws_expr (we_call ?_)))
  (exists 29, DL.ws_seq)
  refine ⟨rfl, w_check_book w hf hnd h0 ?_⟩
  show thn _ _ (.nx [some (.sh (bookD K n R rs t))]) _
  (exists 29, DL.ws_seq)
  exact ⟨⟨[], by simp⟩, rfl, q.2⟩
theorem w_let_no {x : FX} (w : Wf μ) (hf : Fine n rs) (h0 : firstP rs = some x) (q : Q (.bl false) μ) : Wf' (S_is_let_by K) [bookD K n R rs t] μ Q := by
  apply wf_keep w
  apply wf_run
  unfold B_is_let_by
  show Ws _ [some (.sh (bookD K n R rs t))] _ _
  replace q := And.intro trivial q
  refine ws_seq (ws_tryT (ws_exprX (xe_call ?_)))
  (exists 29, DL.ws_seq)
  refine ⟨rfl, x_check_book w hf h0 ?_⟩
  refine ⟨kxOO, kxOH, ?_⟩
  refine ws_ret (we_C ?_)
  exact ⟨⟨[], by simp⟩, rfl, q.2⟩
theorem w_checked_is (hne : NeK K) (w : Wf μ) (hf : Fine n rs) (hnd : (rs.map (·.1)).Nodup) (hl : ∀ x, firstP rs = some x → x.2.2.length < 1000) (q : Q (.bl true) μ) : Wf' (S__law_checked_is K) [bookD K n R rs t, oFL (firstP rs)] μ Q := by
  apply wf_keep w
  apply wf_run
  unfold B__law_checked_is
  replace q := And.intro trivial q
  replace hl := And.intro trivial hl
  have is_b : ∀ {P : Bool → Prop} {S : List Addr} {b : Bool}, P true → ∃ ty c b', tyD S (.bl b) μ = some ty ∧ clsD (.ty "bool") = some c ∧ kitD (kits K) ty c = some b' ∧ P b' := fun h => ⟨_, _, true, rfl, rfl, by simp [kitD, kits], h⟩
  have ne1 : ∀ {b : Bool} {P : D → Prop}, P (.bl false) → ∃ z, gNe (.bl b) (.bl b) = some z ∧ P z := fun {b P} h => ⟨_, by cases b <;> rfl, h⟩
  cases h0 : firstP rs with
  | none =>
    show Ws _ [some (.sh (bookD K n R rs t)), some (.sh .non), none, none, none, none, none] _ _
    (exists 30, DL.ws_seq)
    refine ws_tryH ?_
    refine ws_set (we_call ?_)
    (exists 30, DL.ws_seq)
    refine ⟨rfl, w_check_book w hf hnd h0 ?_⟩
    show thn _ _ (.nx [some (.sh (bookD K n R rs t)), some (.sh .non), some (.sh .non), some (.sh .non), some (.sh .non), none, none]) _
    (exists 30, DL.ws_seq)
    refine w_let_yes w hf hnd h0 ?_
    show thn _ _ (.nx [some (.sh (bookD K n R rs t)), some (.sh .non), some (.sh .non), some (.sh .non), some (.sh .non), none, some (.sh (.bl true))]) _
    (exists 30, is_b, ne1)
    exact ⟨⟨[], by simp⟩, rfl, q.2⟩
  | some x =>
    obtain ⟨a, b, c⟩ := x
    have hc := hl.2 _ h0
    show Ws _ [some (.sh (bookD K n R rs t)), some (.sh (.lst [.str a, .str b, .lst (natsD c)])), none, none, none, none, none] _ _
    (exists 30, DL.ws_seq)
    refine ws_tryH ?_
    refine ws_setX (xe_call ?_)
    (exists 30, DL.ws_seq)
    refine ⟨rfl, x_check_book w hf h0 ?_⟩
    refine hnd_as' kxOO (List.mem_singleton.mpr rfl) (by simp) ?_
    show Ws _ [some (.sh (bookD K n R rs t)), some (.sh (.lst [.str a, .str b, .lst (natsD c)])), some (.sh .non), some (.sh .non), some (.sh (.str "none")), none, none] _ _
    have k1 : List.lookup ("first" : Str) (List.zip (["code", "second", "first"] : List Str) [D.tup (natsD c), .str b, .str a]) = some (D.str a) := rfl
    have k2 : List.lookup ("second" : Str) (List.zip (["code", "second", "first"] : List Str) [D.tup (natsD c), .str b, .str a]) = some (D.str b) := rfl
    have k3 : List.lookup ("code" : Str) (List.zip (["code", "second", "first"] : List Str) [D.tup (natsD c), .str b, .str a]) = some (D.tup (natsD c)) := rfl
    have hh := kitH hne
    (exists 30, we_exF k1, we_exF k2, we_exF k3, we_isX kitR, we_isX hh)
    show thn _ _ (.nx [some (.sh (bookD K n R rs t)), some (.sh (.lst [.str a, .str b, .lst (natsD c)])), some (.sh (.tup [.str a, .str b, .tup (natsD c)])), some (.sh (.bl true)), some (.sh (.str "none")), none, none]) _
    (exists 30, DL.ws_seq)
    refine w_let_no w hf h0 ?_
    show thn _ _ (.nx [some (.sh (bookD K n R rs t)), some (.sh (.lst [.str a, .str b, .lst (natsD c)])), some (.sh (.tup [.str a, .str b, .tup (natsD c)])), some (.sh (.bl true)), some (.sh (.str "none")), none, some (.sh (.bl false))]) _
    (exists 30, is_b, ne1)
    refine ⟨.bl true, rfl, true, rfl, fun _ => ?_, fun h => (by cases h)⟩
    (exists 30, DL.ws_seq)
    refine w_first_is (o := some (a, b, c)) w (fun x e => by cases e; exact hc) ?_
    exact ⟨⟨[], by simp⟩, rfl, q.2⟩
end
end K10

set_option Elab.async false
set_option linter.all false
set_option maxRecDepth 100000
set_option maxHeartbeats 4000000
set_option autoImplicit false
namespace K10
open PySem PySem.Spec L2 DL
variable {K : Fg} {μ μ' : Mu} {Q : D → Mu → Prop} {k r : Nat} {A : Nat → Prop}
def rowD (r : Row) : D := .tup [.str r.1, .lst (dS r.2), .lst []]
abbrev rowsD (rs : List Row) : List D := rs.map rowD
noncomputable abbrev loop9 (K : Fg) : TO' := dsFor (dRng1 (dLen (qVal (dVar 4)))) (gtName 8) (dsFor (dRng1 (dLen (qVal (dVar 4)))) (gtName 9) (dsIf (dTest (dBin gNe (dVar 8) (dVar 9))) (dsSeq (dsSet 10 (dCall (S__law_shared K) 3 (dCons (dIx (qVal (dIx (qVal (dVar 5)) (dVar 8))) (dC (.int 1))) (dCons (dIx (qVal (dIx (qVal (dVar 5)) (dVar 9))) (dC (.int 1))) (dCons (dVar 2) (dNil)))))) (dsSeq (dsSet 11 (dCall (S_shared_code K) 2 (dCons (dIx (qVal (dFld [He.ga K "Book"] "forms" (dVar 6))) (dVar 8)) (dCons (dIx (qVal (dFld [He.ga K "Book"] "forms" (dVar 6))) (dVar 9)) (dNil))))) (dsSeq (dsIf (dAnd (dTest (dBin gIsN (dVar 10) (dC .non))) (dTest (dBin gNotN (dVar 11) (dC .non)))) (dsRet (dC (.bl false))) (dsNext)) (dsSeq (dsIf (dAnd (dTest (dBin gNotN (dVar 10) (dC .non))) (dNot (dTruth (dCall (S__law_is_code K) 2 (dCons (dVar 11) (dCons (dVar 10) (dNil))))))) (dsRet (dC (.bl false))) (dsNext)) (dsIf (dAnd (dTest (dBin gNotN (dVar 10) (dC .non))) (dAnd (dTest (dBin gIsN (dVar 7) (dC .non))) (dTest (dBin gLt (dVar 8) (dVar 9))))) (dsSet 7 (dFz (dLst (dCons (dIx (qVal (dIx (qVal (dVar 4)) (dVar 8))) (dC (.int 0))) (dCons (dIx (qVal (dIx (qVal (dVar 4)) (dVar 9))) (dC (.int 0))) (dCons (dVar 10) (dNil))))))) (dsNext)))))) (dsNext)))
abbrev Fk (rs : List Row) (i : Nat) : Option FX := (List.range i).findSome? fun a => fI rs a rs.length
theorem rowsD_ix {rs : List Row} {i : Nat} (h : i < rs.length) : atI (rowsD rs) (i : Int) = some (.tup [.str (rs.getD i rw0).1, .lst (dS (rs.getD i rw0).2), .lst []]) := by
  rw [DL.atI_nat, List.getElem?_map, List.getElem?_eq_getElem h, List.getD_eq_getElem?_getD, List.getElem?_eq_getElem h]; rfl
theorem forms_ix' {rs : List Row} {i : Nat} (h : i < rs.length) : atI (formsD K rs) (i : Int) = some (formD K (rs.getD i rw0)) := by
  rw [DL.atI_nat, List.getElem?_map, List.getElem?_eq_getElem h, List.getD_eq_getElem?_getD, List.getElem?_eq_getElem h]; rfl
theorem rowsM_ix' {xs : List RowP} {i : Nat} (h : i < xs.length) : ∃ p, atI (rowsM xs) (i : Int) = some (.tup [.str ((rowsR xs).getD i rw0).1, .mref p, .lst []]) := by
  refine ⟨xs[i].2, ?_⟩
  rw [DL.atI_nat, List.getElem?_map, List.getElem?_eq_getElem h, List.getD_eq_getElem?_getD, List.getElem?_map, List.getElem?_eq_getElem h]; rfl
theorem sharedLS_len {l s : List Str} {c : List Nat} (h : sharedLS l s = some c) : c.length = l.length := by
  unfold sharedLS at h
  split at h
  · cases h
    rw [List.length_map, List.length_range]
  · cases h
theorem shared_len {a b : List Str} {c : List Nat} (ha : a.length ≤ 3) (hb : b.length ≤ 3) (h : sharedP a b = some c) : c.length ≤ 3 := by
  unfold sharedP at h
  split at h <;> rw [sharedLS_len h] <;> omega
theorem first_len {rs : List Row} {n : Nat} (hf : Fine n rs) : ∀ x, firstP rs = some x → x.2.2.length < 1000 := fun x h => by
  obtain ⟨i, hi, h1⟩ := List.exists_of_findSome?_eq_some h
  obtain ⟨j, hj, h2⟩ := List.exists_of_findSome?_eq_some h1
  unfold fP at h2
  split at h2
  · obtain ⟨c, h3, rfl⟩ := Option.map_eq_some_iff.mp h2
    have := shared_len (hf.l _ (rw_mem (List.mem_range.mp hi))) (hf.l _ (rw_mem (List.mem_range.mp hj))) h3
    show c.length < 1000
    omega
  · cases h2
theorem ws_loop9 {x0 : D} {n : Nat} {R : Int} {t : Str} {xs : List RowP} (w : Wf μ) (hW : RW μ r xs) (hf : Fine n (rowsR xs)) : Ws (loop9 K) [some (.sh x0), some (.sh (.mref 1)), some (.sh (.int (n : Nat))), some (.sh (.int R)), some (.sh (.mref r)), some (.sh (.lst (rowsD (rowsR xs)))), some (.sh (bookD K n R (rowsR xs) t)), some (.sh .non), none, none, none, none, none] μ (fun o μ' => (∃ s8 s9 s10 s11, o = .nx [some (.sh x0), some (.sh (.mref 1)), some (.sh (.int (n : Nat))), some (.sh (.int R)), some (.sh (.mref r)), some (.sh (.lst (rowsD (rowsR xs)))), some (.sh (bookD K n R (rowsR xs) t)), some (.sh (oFL (firstP (rowsR xs)))), s8, s9, s10, s11, none]) ∧ μ' = μ) := by
  have h0 := hW.at0
  have hxl : (rowsR xs).length = xs.length := List.length_map ..
  have hml : (rowsM xs).length = xs.length := List.length_map ..
  have hm32 := hf.m
  have hm6 : (rowsM xs).length < 1000000 := by omega
  have hn8 := hf.n8
  unfold loop9
  (exists 31, h0, hm6)
  refine ⟨fun i ρ μ' => (∃ s8 s9 s10 s11, ρ = [some (.sh x0), some (.sh (.mref 1)), some (.sh (.int (n : Nat))), some (.sh (.int R)), some (.sh (.mref r)), some (.sh (.lst (rowsD (rowsR xs)))), some (.sh (bookD K n R (rowsR xs) t)), some (.sh (oFL (Fk (rowsR xs) i))), s8, s9, s10, s11, none]) ∧ μ' = μ, ⟨⟨_, _, _, _, rfl⟩, rfl⟩, ?_, ?_⟩
  · rintro i d ρ μ' hd ⟨⟨s8, s9, s10, s11, rfl⟩, rfl⟩
    obtain ⟨hi, rfl⟩ := rng_at hd
    rw [hml, ← hxl] at hi
    have hri := rw_mem hi
    (exists 31, h0, hm6)
    refine ⟨fun j ρ μ2 => (∃ s9 s10 s11, ρ = [some (.sh x0), some (.sh (.mref 1)), some (.sh (.int (n : Nat))), some (.sh (.int R)), some (.sh (.mref r)), some (.sh (.lst (rowsD (rowsR xs)))), some (.sh (bookD K n R (rowsR xs) t)), some (.sh (oFL ((Fk (rowsR xs) i).or (fI (rowsR xs) i j)))), some (.sh (.int (i : Nat))), s9, s10, s11, none]) ∧ μ2 = μ', ⟨⟨_, _, _, by rw [show fI (rowsR xs) i 0 = none from rfl, Option.or_none]⟩, rfl⟩, ?_, ?_⟩
    · rintro j d ρ μ2 hd ⟨⟨s9, s10, s11, rfl⟩, rfl⟩
      obtain ⟨hj, rfl⟩ := rng_at hd
      rw [hml, ← hxl] at hj
      have hrj := rw_mem hj
      have sn : (Fk (rowsR xs) i).or (fI (rowsR xs) i (j + 1)) = ((Fk (rowsR xs) i).or (fI (rowsR xs) i j)).or (fP (rowsR xs) i j) := by
        unfold fI
        rw [fs_snoc, Option.or_assoc]
      generalize (Fk (rowsR xs) i).or (fI (rowsR xs) i j) = X at sn
      have ex := rowsD_ix hi
      have ey := rowsD_ix hj
      have fx := forms_ix' (K := K) hi
      have fy := forms_ix' (K := K) hj
      obtain ⟨p1, mx⟩ := rowsM_ix' (xs := xs) (i := i) (by omega)
      obtain ⟨p2, my⟩ := rowsM_ix' (xs := xs) (i := j) (by omega)
      replace sn := And.intro trivial sn
      (exists 31, DL.ws_seq)
      refine dsplitN (fun hij => ?_) (fun hij => ?_)
      · (exists 31, ex, ey, DL.atI_1)
        refine w_law_shared w (hf.z _ hri) (hf.z _ hrj) (hf.l _ hri) (hf.l _ hrj) hn8 ?_
        show thn _ _ (.nx [some (.sh x0), some (.sh (.mref 1)), some (.sh (.int (n : Nat))), some (.sh (.int R)), some (.sh (.mref r)), some (.sh (.lst (rowsD (rowsR xs)))), some (.sh (bookD K n R (rowsR xs) t)), some (.sh (oFL X)), some (.sh (.int (i : Nat))), some (.sh (.int (j : Nat))), some (.sh (oL (sharedP ((rowsR xs).getD i rw0).2 ((rowsR xs).getD j rw0).2))), s11, none]) _
        (exists 31, fldF, fx, fy)
        refine w_shared_code w (hf.z _ hri) (hf.z _ hrj) (hf.l _ hri) (hf.l _ hrj) (by omega) ?_
        cases hc : sharedP ((rowsR xs).getD i rw0).2 ((rowsR xs).getD j rw0).2 with
        | none =>
          have e : fP (rowsR xs) i j = none := by
            unfold fP
            split
            · rw [hc]; rfl
            · rfl
          show thn _ _ (.nx [some (.sh x0), some (.sh (.mref 1)), some (.sh (.int (n : Nat))), some (.sh (.int R)), some (.sh (.mref r)), some (.sh (.lst (rowsD (rowsR xs)))), some (.sh (bookD K n R (rowsR xs) t)), some (.sh (oFL X)), some (.sh (.int (i : Nat))), some (.sh (.int (j : Nat))), some (.sh .non), some (.sh .non), none]) _
          (exists 31, DL.ws_seq)
          exact ⟨⟨_, _, _, by rw [sn.2, e, Option.or_none]⟩, rfl⟩
        | some c =>
          have hcl := shared_len (hf.l _ hri) (hf.l _ hrj) hc
          have hc1000 : c.length < 1000 := by omega
          show thn _ _ (.nx [some (.sh x0), some (.sh (.mref 1)), some (.sh (.int (n : Nat))), some (.sh (.int R)), some (.sh (.mref r)), some (.sh (.lst (rowsD (rowsR xs)))), some (.sh (bookD K n R (rowsR xs) t)), some (.sh (oFL X)), some (.sh (.int (i : Nat))), some (.sh (.int (j : Nat))), some (.sh (.lst (natsD c))), some (.sh (.tup (natsD c))), none]) _
          (exists 31, w_is_code (K := K) w hc1000)
          cases X with
          | some x =>
            refine ⟨.bl false, rfl, false, rfl, fun h => (by cases h), fun _ => ?_⟩
            (exists 31, DL.ws_seq)
            exact ⟨⟨_, _, _, by rw [sn.2]; rfl⟩, rfl⟩
          | none =>
            refine ⟨.bl true, rfl, true, rfl, fun _ => ?_, fun h => (by cases h)⟩
            (exists 31, DL.ws_seq)
            refine ⟨fun hlt => ?_, fun hlt => ?_⟩
            · have hlt' : i < j := by have := of_decide_eq_true hlt; omega
              have e : fP (rowsR xs) i j = some (((rowsR xs).getD i rw0).1, ((rowsR xs).getD j rw0).1, c) := by
                unfold fP
                rw [if_pos hlt', hc]; rfl
              (exists 31, h0, mx, my, DL.atI_0)
              exact ⟨⟨_, _, _, by rw [sn.2, e]; rfl⟩, rfl⟩
            · have hlt' : ¬ i < j := by have := of_decide_eq_false hlt; omega
              (exists 31, DL.ws_seq)
              exact ⟨⟨_, _, _, by rw [sn.2, fP_ge hlt']; rfl⟩, rfl⟩
      · have e : fP (rowsR xs) i j = none := fP_ge (by omega)
        (exists 31, DL.ws_seq)
        exact ⟨⟨_, _, _, by rw [sn.2, e, Option.or_none]⟩, rfl⟩
    · rintro ρ μ2 ⟨⟨s9, s10, s11, rfl⟩, rfl⟩
      rw [rng_len, hml, ← hxl]
      exact ⟨⟨_, _, _, _, by rw [show Fk (rowsR xs) (i + 1) = (Fk (rowsR xs) i).or (fI (rowsR xs) i (rowsR xs).length) from fs_snoc]⟩, rfl⟩
  · rintro ρ μ' ⟨⟨s8, s9, s10, s11, rfl⟩, rfl⟩
    rw [rng_len, hml, ← hxl]
    exact ⟨⟨_, _, _, _, rfl⟩, rfl⟩
end K10

set_option Elab.async false
set_option linter.all false
set_option maxRecDepth 100000
set_option maxHeartbeats 4000000
set_option autoImplicit false
namespace K10
open PySem PySem.Spec L2 DL
variable {K : Fg} {μ μ' : Mu} {Q : D → Mu → Prop} {k r : Nat} {A : Nat → Prop}
def bookP (K : Fg) (Q : D → Mu → Prop) (x1 x2 x3 : D) (μ : Mu) : Prop := ∃ (n e : Nat) (R : Int) (xs : List RowP) (kk : Nat), x1 = .int (n : Int) ∧ x2 = .int R ∧ x3 = .mref kk ∧ Wf μ ∧ RW μ kk xs ∧ OkRs n e (rowsR xs) ∧ 4 ≤ n ∧ n ≤ 8 ∧ 1 ≤ R ∧ R ≤ 4 ∧ (2 : Int) ^ e ≤ R ∧ e ≤ 100 ∧ ∀ t : Str, Q (bookD K n R (rowsR xs) t) μ
theorem low_fs {m : Nat} {n : Nat} {R : Int} {rs : List Row} {t : Str} : D.lowAll m [.int (n : Int), .int R, .tup (formsD K rs), .str t] = true := by
  show (true && (true && (D.lowAll m (formsD K rs) && (true && true)))) = true
  rw [low_forms]
  rfl
theorem w_book {ρ : Rho} {t1 t2 t3 : TD} (h : We t1 ρ μ fun x1 μ1 => We t2 ρ μ1 fun x2 μ2 => We t3 ρ μ2 fun x3 μ3 => bookP K Q x1 x2 x3 μ3) : We (dMake (He.ga K "Book") (S_Book_init K) 4 (dCons t1 (dCons t2 (dCons t3 dNil)))) ρ μ Q := by
  refine we_make (we_cons (h.mono fun x1 μ1 h => we_cons (h.mono fun x2 μ2 h => we_cons (h.mono fun x3 μ3 h => we_nil ?_))))
  obtain ⟨n, e, R, xs, kk, rfl, rfl, rfl, w, hW, hok, hn0, hn, hR0, hR, he, he', q⟩ := h
  refine ⟨rfl, ?_⟩
  refine wf_scope ?_
  have w0 : ∀ m : MO, m.low (μ3.length + 1) = true → Wf (μ3 ++ [m]) := fun m hm => Wf.app w hm
  refine w_book_init (K := K) w0 hW hok hn0 hn hR0 hR he he' fun t => ?_
  have e1 : ∀ (x y : MO), (μ3 ++ [x, y]).take (μ3 ++ [MO.ins (He.ga K "Book") [] []]).length = μ3 ++ [x] := fun x y => by
    have : μ3 ++ [x, y] = (μ3 ++ [x]) ++ [y] := by simp
    rw [this]
    have hl : (μ3 ++ [MO.ins (He.ga K "Book") [] []]).length = (μ3 ++ [x]).length := by simp
    rw [hl]
    exact List.take_left ..
  have e2 : ∀ x : MO, (μ3 ++ [x]).take μ3.length = μ3 := fun x => List.take_left ..
  rw [e1]
  have hat : ∀ x : MO, (μ3 ++ [x])[μ3.length]? = some x := fun x => by simp
  refine ⟨rfl, ?_, rfl, _, _, _, hat _, low_fs (t := t), ?_, ?_⟩
  · have wl := w0 (.ins (He.ga K "Book") ["word", "registers", "forms", "_text"] [.int (n : Int), .int R, .tup (formsD K (rowsR xs)), .str t]) low_fs
    unfold Wf at wl
    rw [List.length_append] at wl ⊢
    exact wl
  · rw [e2]; exact w
  · rw [e2]; exact q t
theorem t_draws {ns : List Int} (h : ns.length ≤ 63) (q : ∀ μ, Wf μ → DR μ 1 → Q (.mref 1) μ) : Wf' (S__law_draws K) [.rd (dZ ns)] [] Q := w_draws h fun xs hx => by
  refine q _ ?_ ⟨xs, 0, rfl⟩
  show [MO.dead, drw xs 0].all (MO.low 2) = true
  simp only [List.all_cons, List.all_nil, Bool.and_true, low_drw]
  rfl
theorem wr_at {v : Nat} (hv : (v : Int) < 5) : ∃ n : Nat, 4 ≤ n ∧ n ≤ 8 ∧ atI [D.int 4, .int 5, .int 4, .int 6, .int 8] (v : Int) = some (.int (n : Int)) := by
  have hv' : v < 5 := by omega
  match v, hv' with
  | 0, _ => exact ⟨4, by decide, by decide, rfl⟩
  | 1, _ => exact ⟨5, by decide, by decide, rfl⟩
  | 2, _ => exact ⟨4, by decide, by decide, rfl⟩
  | 3, _ => exact ⟨6, by decide, by decide, rfl⟩
  | 4, _ => exact ⟨8, by decide, by decide, rfl⟩
theorem rr_at {v : Nat} (hv : (v : Int) < 4) : ∃ (R : Int) (e : Nat), 1 ≤ R ∧ R ≤ 4 ∧ e ≤ 2 ∧ (2 : Int) ^ e ≤ R ∧ atI [D.int 0, D.int 0, D.int 1, D.int 1, D.int 2] R = some (.int (e : Int)) ∧ atI [D.int 2, .int 1, .int 4, .int 3] (v : Int) = some (.int R) := by
  have hv' : v < 4 := by omega
  match v, hv' with
  | 0, _ => exact ⟨2, 1, by decide, by decide, by decide, by decide, rfl, rfl⟩
  | 1, _ => exact ⟨1, 0, by decide, by decide, by decide, by decide, rfl, rfl⟩
  | 2, _ => exact ⟨4, 2, by decide, by decide, by decide, by decide, rfl, rfl⟩
  | 3, _ => exact ⟨3, 1, by decide, by decide, by decide, by decide, rfl, rfl⟩
theorem okN_nms : ∀ z ∈ nmsP, OkN z := by
  intro z hz
  have hz' : z = "mid" ∨ z = "a" ∨ z = "zebra" ∨ z = "halt" ∨ z = "ab" ∨ z = "stop" := by simpa [nmsP] using hz
  rcases hz' with rfl | rfl | rfl | rfl | rfl | rfl <;> exact ⟨by decide, by decide, by decide⟩
theorem nd_nms {m : Nat} : (nmsP.take m).Nodup := List.Nodup.sublist (List.take_sublist _ _) (by decide)
theorem eqFs_dS : ∀ ps : List Str, eqFs (dS ps) (dS ps) = true := fun ps => eqFs_self fun d hd => by
  obtain ⟨z, _, rfl⟩ := List.mem_map.mp hd
  exact eqF_self (.inr (.inr (.inr ⟨z, rfl⟩)))
theorem eq_row {x : RowP} (h : μ[x.2]? = some (.lst (dS x.1.2))) : eqT μ (rowM x) (rowD x.1) = true := by
  have e1 : eqI μ (.str x.1.1) (.str x.1.1) = true := by
    unfold eqI
    rw [show eqF (.str x.1.1) (.str x.1.1) = true from eqF_self (.inr (.inr (.inr ⟨_, rfl⟩)))]
    rfl
  have e2 : eqI μ (.mref x.2) (.lst (dS x.1.2)) = true := by
    have l1 : lsAt μ (.mref x.2) = some (dS x.1.2) := by
      show (match μ[x.2]? with
        | some (.lst ds) => some ds
        | _ => none) = _
      rw [h]
    have : eqLs μ (.mref x.2) (.lst (dS x.1.2)) = true := by
      unfold eqLs
      rw [l1]
      exact eqFs_dS _
    unfold eqI
    rw [this]
    simp
  show (eqI μ (rowM x) (rowD x.1) || (eqI μ (.str x.1.1) (.str x.1.1) && (eqI μ (.mref x.2) (.lst (dS x.1.2)) && (eqI μ (.lst []) (.lst []) && true)))) = true
  rw [e1, e2]
  simp [eqI, eqLs, lsAt, eqFs]
theorem eq_rows : ∀ {xs : List RowP}, (∀ x ∈ xs, μ[x.2]? = some (.lst (dS x.1.2))) → eqTs μ (rowsM xs) (rowsD (rowsR xs)) = true
  | [], _ => rfl
  | x :: xs, h => by
    show (eqT μ (rowM x) (rowD x.1) && eqTs μ (rowsM xs) (rowsD (rowsR xs))) = true
    rw [eq_row (h x (List.mem_cons_self ..)), eq_rows fun y hy => h y (List.mem_cons_of_mem _ hy)]
    rfl
theorem eq_top {xs : List RowP} (h : RW μ r xs) : eqTopT μ (.mref r) (.lst (rowsD (rowsR xs))) = true := by
  have l1 : lsAt μ (.mref r) = some (rowsM xs) := by
    show (match μ[r]? with
      | some (.lst ds) => some ds
      | _ => none) = _
    rw [h.at0]
  unfold eqTopT
  rw [l1]
  exact eq_rows h.ps
theorem w_law (hne : NeK K) {ns : List Int} (h : ns.length ≤ 63) : Wf' (S_law K) [.rd (dZ ns)] [] fun d _ => d = .bl true := by
  apply wf_run
  unfold B_law
  show Ws _ [some (.sh (.rd (dZ ns))), none, none, none, none, none, none, none, none, none, none, none, none] _ _
  (exists 32, DL.ws_seq)
  refine t_draws h fun μ0 w0 d0 => ?_
  generalize D.rd (dZ ns) = x0
  show thn _ _ (.nx [some (.sh x0), some (.sh (.mref 1)), none, none, none, none, none, none, none, none, none, none, none]) _
  (exists 32, DL.ws_seq)
  refine t_take w0 d0 (by decide) fun v2 μ1 hv2 w1 g1 d1 => ?_
  obtain ⟨n, hn4, hn8, hat⟩ := wr_at hv2
  (exists 32, hat)
  refine t_take w1 d1 (by decide) fun v3 μ2 hv3 w2 g2 d2 => ?_
  obtain ⟨R, e, hR1, hR4, he2, heR, hre, hat3⟩ := rr_at hv3
  (exists 32, hat3)
  refine t_take w2 d2 (by decide) fun v4 μ3 hv4 w3 g3 d3 => ?_
  have ev : (2 : Int) + (v4 : Int) = ((2 + v4 : Nat) : Int) := by omega
  (exists 32, DL.ws_seq)
  rw [ev]
  refine t_form_rows w3 d3 hre (by omega) (by omega) (by omega) fun xs r μ4 hxl hnm hok w4 d4 hW hrk hxb => ?_
  have hxr : (rowsR xs).length = xs.length := List.length_map ..
  have hoks : OkRs n e (rowsR xs) := by
    refine ⟨by omega, by omega, fun y hy => ?_, fun y hy => ?_, ?_⟩
    · refine okN_nms _ (List.mem_of_mem_take (i := 2 + v4) ?_)
      rw [← hnm]
      exact List.mem_map_of_mem hy
    · obtain ⟨x, hx, rfl⟩ := List.mem_map.mp hy
      exact hok x hx
    · rw [hnm]; exact nd_nms
  have hf : Fine n (rowsR xs) := ⟨fun y hy => (hoks.p y hy).z, fun y hy => (hoks.p y hy).l1, by omega, hn8⟩
  have hnd := hoks.nd
  have h0 := hW.at0
  have hml : (rowsM xs).length = xs.length := List.length_map ..
  have hfl := first_len hf
  replace hfl := And.intro trivial hfl
  show thn _ _ (.nx [some (.sh x0), some (.sh (.mref 1)), some (.sh (.int (n : Nat))), some (.sh (.int R)), some (.sh (.mref r)), none, none, none, none, none, none, none, none]) _
  refine thn_nx' (ws_seq (ws_set (we_fz (we_lcI (xs := xs) rowM (fun x => rowD x.1) ?_))))
  (exists 32, DL.ws_seq)
  refine ⟨?_, rfl, by simp only [sizeLine]; omega, fun x hx => ⟨_, rfl, ?_⟩, ?_⟩
  · show (match μ4[r]? with | some (.lst ds) => some ds | _ => none) = _
    rw [h0]
  · have hpx := hW.ps x hx
    have i2 : atI [D.str x.1.1, .mref x.2, .lst []] 2 = some (.lst []) := rfl
    show We _ [some (.sh x0), some (.sh (.mref 1)), some (.sh (.int (n : Nat))), some (.sh (.int R)), some (.sh (.mref r)), none, none, none, none, none, none, none, some (.sh (.tup [.str x.1.1, .mref x.2, .lst []]))] _ _
    (exists 32, DL.atI_0, DL.atI_1, i2, hpx)
    exact ⟨rfl, rfl⟩
  have ecp : (xs.map fun x => rowD x.1) = rowsD (rowsR xs) := by
    show _ = (xs.map (·.1)).map rowD
    rw [List.map_map]; rfl
  rw [ecp]
  show thn _ _ (.nx [some (.sh x0), some (.sh (.mref 1)), some (.sh (.int (n : Nat))), some (.sh (.int R)), some (.sh (.mref r)), some (.sh (.lst (rowsD (rowsR xs)))), none, none, none, none, none, none, none]) _
  (exists 32, DL.ws_seq)
  refine w_book ?_
  (exists 32, DL.ws_seq)
  refine ⟨n, e, R, xs, r, rfl, rfl, rfl, w4, hW, hoks, hn4, hn8, hR1, hR4, heR, by omega, fun t => ?_⟩
  show thn _ _ (.nx [some (.sh x0), some (.sh (.mref 1)), some (.sh (.int (n : Nat))), some (.sh (.int R)), some (.sh (.mref r)), some (.sh (.lst (rowsD (rowsR xs)))), some (.sh (bookD K n R (rowsR xs) t)), none, none, none, none, none, none]) _
  have hfm : (formsD K (rowsR xs)).length = xs.length := by rw [List.length_map, hxr]
  refine thn_nx' (ws_seq (Ws.mono (Q := fun o μ' => o = .nx [some (.sh x0), some (.sh (.mref 1)), some (.sh (.int (n : Nat))), some (.sh (.int R)), some (.sh (.mref r)), some (.sh (.lst (rowsD (rowsR xs)))), some (.sh (bookD K n R (rowsR xs) t)), none, none, none, none, none, none] ∧ μ' = μ4) ?_ ?_))
  · (exists 32, we_neT)
    refine ⟨eq_top hW, ?_⟩
    (exists 32, fldF, h0)
    refine dnF (by rw [hfm, hml]) ?_
    (exists 32, DL.ws_seq)
    exact ⟨rfl, rfl⟩
  rintro o μ' ⟨rfl, rfl⟩
  refine thn_nx' (ws_seq (Ws.mono (Q := fun o μ4 => o = .nx [some (.sh x0), some (.sh (.mref 1)), some (.sh (.int (n : Nat))), some (.sh (.int R)), some (.sh (.mref r)), some (.sh (.lst (rowsD (rowsR xs)))), some (.sh (bookD K n R (rowsR xs) t)), some (.sh .non), none, none, none, none, none] ∧ μ4 = μ') ?_ ?_))
  · (exists 32, DL.ws_seq)
    exact ⟨rfl, rfl⟩
  rintro o μ' ⟨rfl, rfl⟩
  refine thn_nx' ?_
  refine ws_seq (Ws.mono (ws_loop9 (K := K) w4 hW hf) ?_)
  rintro o μ5 ⟨⟨s8, s9, s10, s11, rfl⟩, rfl⟩
  refine thn_nx' ?_
  show Ws _ [some (.sh x0), some (.sh (.mref 1)), some (.sh (.int (n : Nat))), some (.sh (.int R)), some (.sh (.mref r)), some (.sh (.lst (rowsD (rowsR xs)))), some (.sh (bookD K n R (rowsR xs) t)), some (.sh (oFL (firstP (rowsR xs)))), s8, s9, s10, s11, none] _ _
  refine ws_seq (Ws.mono (Q := fun o μ' => o = .nx [some (.sh x0), some (.sh (.mref 1)), some (.sh (.int (n : Nat))), some (.sh (.int R)), some (.sh (.mref r)), some (.sh (.lst (rowsD (rowsR xs)))), some (.sh (bookD K n R (rowsR xs) t)), some (.sh (oFL (firstP (rowsR xs)))), s8, s9, s10, s11, none] ∧ μ' = μ5) ?_ ?_)
  · (exists 32, DL.ws_seq)
    refine w_first_shared w4 hf ?_
    (exists 32, DL.ws_seq)
    refine w_first_is w4 hfl.2 ?_
    refine ⟨true, rfl, dF rfl ?_⟩
    (exists 32, DL.ws_seq)
    refine w_checked_is hne w4 hf hnd hfl.2 ?_
    refine ⟨true, rfl, dF rfl ?_⟩
    (exists 32, DL.ws_seq)
    exact ⟨rfl, rfl⟩
  rintro o μ' ⟨rfl, rfl⟩
  refine thn_nx' ?_
  have hx0 : 0 < xs.length := by omega
  have hx1 : 1 < xs.length := by omega
  have m0 : xs[0] ∈ xs := List.getElem_mem hx0
  have m1 : xs[1] ∈ xs := List.getElem_mem hx1
  have a0 : atI (rowsM xs) 0 = some (.tup [.str xs[0].1.1, .mref xs[0].2, .lst []]) := rowsM_ix (i := 0) (List.getElem?_eq_getElem hx0)
  have a1 : atI (rowsM xs) 1 = some (.tup [.str xs[1].1.1, .mref xs[1].2, .lst []]) := rowsM_ix (i := 1) (List.getElem?_eq_getElem hx1)
  have p0 := hW.ps _ m0
  have p1 := hW.ps _ m1
  have hp0 := hok _ m0
  have hp1 := hok _ m1
  have b0 := hxb _ m0
  have b1 := hxb _ m1
  have l0 := hp0.l0
  have q1 := hp1.l1
  have hz9 : -1000 ≤ (n : Int) ∧ (n : Int) ≤ 1000 ∧ ("1" : Str).length ≤ 1000 ∧ (repS "1" (n : Int)).length ≤ sizeLine := ⟨by omega, by omega, by decide, by
    have hr := rep_cps 49 n
    rw [← cps_len, show ("1" : Str) = ⟨#[49]⟩ from rfl, hr, List.length_replicate]
    simp only [sizeLine]; omega⟩
  have hz0 : -1000 ≤ (n : Int) ∧ (n : Int) ≤ 1000 ∧ ("0" : Str).length ≤ 1000 ∧ (repS "0" (n : Int)).length ≤ sizeLine := ⟨by omega, by omega, by decide, by
    have hr := rep_cps 48 n
    rw [← cps_len, show ("0" : Str) = ⟨#[48]⟩ from rfl, hr, List.length_replicate]
    simp only [sizeLine]; omega⟩
  have hixG : ∀ L : Nat, 1 ≤ L → ixN L 0 = some 0 := fun L hL => by unfold ixN; simp; omega
  refine ws_seq (Ws.mono (Q := fun o μ6 => o = .nx [some (.sh x0), some (.sh (.mref 1)), some (.sh (.int (n : Nat))), some (.sh (.int R)), some (.sh (.mref r)), some (.sh (.lst (rowsD (rowsR xs)))), some (.sh (bookD K n R (rowsR xs) t)), some (.sh (oFL (firstP (rowsR xs)))), s8, s9, s10, s11, none] ∧ μ6 = μ'.set xs[0].2 (.lst (dS (xs[0].1.2.set 0 (repS "1" (n : Int)))))) ?_ ?_)
  · (exists 32, h0, a0, DL.atI_1, hz9)
    exact ⟨_, 0, _, 0, rfl, rfl, p0, by rw [dS_len]; exact hixG _ l0, rfl, by rw [dS_set]⟩
  rintro o μ6 ⟨rfl, rfl⟩
  have w6 : Wf (μ'.set xs[0].2 (.lst (dS (xs[0].1.2.set 0 (repS "1" (n : Int)))))) := wf_set w4 (low_dS _)
  have h6 : (μ'.set xs[0].2 (.lst (dS (xs[0].1.2.set 0 (repS "1" (n : Int))))))[r]? = some (.lst (rowsM xs)) := set_ne h0 (by omega)
  have p6 : ∃ ps : List Str, ps.length ≤ 3 ∧ (μ'.set xs[0].2 (.lst (dS (xs[0].1.2.set 0 (repS "1" (n : Int))))))[xs[1].2]? = some (.lst (dS ps)) := by
    by_cases e : xs[0].2 = xs[1].2
    · refine ⟨xs[0].1.2.set 0 (repS "1" (n : Int)), by rw [List.length_set]; exact hp0.l1, ?_⟩
      rw [← e]
      exact set_at b0.2.2
    · exact ⟨xs[1].1.2, q1, set_ne p1 e⟩
  have l6 : (μ'.set xs[0].2 (.lst (dS (xs[0].1.2.set 0 (repS "1" (n : Int)))))).length = μ'.length := List.length_set ..
  generalize μ'.set xs[0].2 (.lst (dS (xs[0].1.2.set 0 (repS "1" (n : Int))))) = μ6 at *
  obtain ⟨ps1, hps1, p6⟩ := p6
  have hl6 : (dS ps1).length < sizeLine := by rw [dS_len]; simp only [sizeLine]; omega
  refine thn_nx' (ws_seq (Ws.mono (Q := fun o μ7 => o = .nx [some (.sh x0), some (.sh (.mref 1)), some (.sh (.int (n : Nat))), some (.sh (.int R)), some (.sh (.mref r)), some (.sh (.lst (rowsD (rowsR xs)))), some (.sh (bookD K n R (rowsR xs) t)), some (.sh (oFL (firstP (rowsR xs)))), s8, s9, s10, s11, none] ∧ μ7 = μ6.set xs[1].2 (.lst (dS ps1 ++ [D.str (repS "0" (n : Int))]))) ?_ ?_))
  · refine ws_app (k := xs[1].2) (ds0 := dS ps1) ?_
    (exists 32, h6, a1, DL.atI_1)
    refine ⟨rfl, p6, ?_⟩
    (exists 32, hz0)
    exact ⟨_, p6, hl6, rfl, rfl⟩
  rintro o μ7 ⟨rfl, rfl⟩
  have w7 : Wf (μ6.set xs[1].2 (.lst (dS ps1 ++ [D.str (repS "0" (n : Int))]))) := wf_set w6 (by rw [← dS_snoc]; exact low_dS _)
  have h7 : (μ6.set xs[1].2 (.lst (dS ps1 ++ [D.str (repS "0" (n : Int))])))[r]? = some (.lst (rowsM xs)) := set_ne h6 (by omega)
  have l7 : (μ6.set xs[1].2 (.lst (dS ps1 ++ [D.str (repS "0" (n : Int))]))).length = μ6.length := List.length_set ..
  generalize μ6.set xs[1].2 (.lst (dS ps1 ++ [D.str (repS "0" (n : Int))])) = μ7 at *
  have hl7 : (rowsM xs).length < sizeLine := by rw [hml]; simp only [sizeLine]; omega
  refine thn_nx' (ws_seq (Ws.mono (Q := fun o μ8 => o = .nx [some (.sh x0), some (.sh (.mref 1)), some (.sh (.int (n : Nat))), some (.sh (.int R)), some (.sh (.mref r)), some (.sh (.lst (rowsD (rowsR xs)))), some (.sh (bookD K n R (rowsR xs) t)), some (.sh (oFL (firstP (rowsR xs)))), s8, s9, s10, s11, none] ∧ μ8 = μ7.set r (.lst (rowsM xs ++ [rowM xs[0]]))) ?_ ?_))
  · refine ws_app (k := r) (ds0 := rowsM xs) ?_
    (exists 32, DL.ws_seq)
    refine ⟨rfl, h7, ?_⟩
    (exists 32, h7, a0)
    exact ⟨_, h7, hl7, rfl, rfl⟩
  rintro o μ8 ⟨rfl, rfl⟩
  have w8 : Wf (μ7.set r (.lst (rowsM xs ++ [rowM xs[0]]))) := wf_set w7 (by
    rw [← rowsM_snoc]
    refine low_rowsM fun x hx => ?_
    rcases List.mem_append.mp hx with hx | hx
    · have := hxb x hx; omega
    · rw [List.mem_singleton.mp hx]; omega)
  generalize μ7.set r (.lst (rowsM xs ++ [rowM xs[0]])) = μ8 at *
  refine thn_nx' ?_
  (exists 32, DL.ws_seq)
  refine w_first_shared w8 hf ?_
  (exists 32, DL.ws_seq)
  refine w_first_is w8 hfl.2 ?_
  rfl
theorem plain (K : Fg) (hne : NeK K) : ∀ ns : List Int, ns.length ≤ 63 → ∃ μ', S_law K [.rd (ns.map D.int)] [] = some (.ok (.bl true), μ') := fun ns h => by
  obtain ⟨d, μ', h1, rfl⟩ := w_law hne h
  exact ⟨μ', h1⟩
end K10

set_option Elab.async false
set_option linter.all false
set_option maxRecDepth 100000
set_option maxHeartbeats 4000000
theorem PySem.Challenge.cw_selfwritten_k10_codes_two_forms_share_holds : PySem.Challenge.rw_selfwritten_k10_codes_two_forms_share.Holds :=
  K10.front fun K hk => K10.plain K (K10.nek_of hk)

