import PyProof.Rows.All
import Wide.All
import OpenK.AllK
import Wide.FinOn
import KE.KStateDown
import Lean
import HandS.ForMost
import HandS.ForExc
import HandS.IsInst
import HandS.TupAny
import HandS.TupMul
import HandS.Deep
import HandS.Style
import HandS.Flow
import HandS.Defaults
import HandS.TryMany
import HandS.Head0
import HandS.Head1
import HandS.Head2
import HandS.HeadEnd
import HandS.HeadHook1
import HandS.HeadHook2
import HandS.HeadHook3
import HandS.HeadHook4
import KE.SortData
import KE.KDictKeyed
import KE.GoesEnum
import KE.GoesNew
import HandS.Conv
import HandS.RaiseMore
import PySem.Challenge.RW_renewedagain_k01_rules_recognized
set_option Elab.async false
set_option linter.all false
set_option maxRecDepth 100000
set_option maxHeartbeats 4000000
namespace RL
open PySem PySem.Spec PyProof.Rows L2

/-! ### results, slots -/
inductive R (α : Type) where
  | ok (a : α) | exc (n : Str) | stuck | ask (n : Nat) (k : Nat → R α)
def R.bd {α β : Type} : R α → (α → R β) → R β
  | .ok a, f => f a
  | .exc n, _ => .exc n
  | .stuck, _ => .stuck
  | .ask n k, f => .ask n fun i => (k i).bd f
def R.of {α : Type} : Option α → R α
  | some a => .ok a
  | none => .stuck
@[simp] theorem R.bd_ok {α β : Type} (a : α) (f : α → R β) : (R.ok a).bd f = f a := rfl
@[simp] theorem R.bd_exc {α β : Type} (n : Str) (f : α → R β) : (R.exc n : R α).bd f = .exc n := rfl
@[simp] theorem R.bd_stuck {α β : Type} (f : α → R β) : (R.stuck : R α).bd f = .stuck := rfl
@[simp] theorem R.bd_ask {α β : Type} (n : Nat) (k : Nat → R α) (f : α → R β) : (R.ask n k).bd f = .ask n fun i => (k i).bd f := rfl
@[simp] theorem R.of_some {α : Type} (a : α) : R.of (some a) = .ok a := rfl
@[simp] theorem R.of_none {α : Type} : (R.of none : R α) = .stuck := rfl
theorem R.bd_ite {α β : Type} {c : Prop} [Decidable c] (a b : R α) (f : α → R β) : (if c then a else b).bd f = if c then a.bd f else b.bd f := by
  split <;> rfl
theorem R.bd_bd {α β γ : Type} (m : R α) (f : α → R β) (g : β → R γ) : (m.bd f).bd g = m.bd fun a => (f a).bd g := by
  induction m with
  | ok a => rfl
  | exc n => rfl
  | stuck => rfl
  | ask n k ih => exact congrArg (R.ask n) (funext ih)
inductive Sl where
  | u | d (x : PyData) | r (v : V) | s
abbrev Rho := List Sl
/-- what draws are taken from: a list of two ints, both not negative, the second below a bound -/
def SrcL (h : Heap) (a : Addr) : Prop := ∃ (c n : Int) (t u : Tok) (k : Nat), 0 ≤ c ∧ 0 ≤ n ∧ n < 2147483549 ∧ h.get? a = some { cls := .type "list", data := .seq #[.int c t, .int n u] k }
def srcHO (a : Addr) : HO := .ext fun h => SrcL h a
def SlotR (K : PySem.W.Frag) (H : Hp) : Sl → Option V → Prop
  | .u, _ => True
  | .d x, o => ∃ v, o = some v ∧ Dp K H v x
  | .r v, o => o = some v
  | .s, o => ∃ a, o = some (.ref a) ∧ H a = some (srcHO a)
abbrev EnvR (K : PySem.W.Frag) (H : Hp) (σ : L2.St) (ρ : Rho) : Prop := Paired (SlotR K H) ρ σ

/-! ### data stays -/
theorem same_upd {H : Hp} {p : Addr} {o : HO} (hp : H p = none) : Same H (upd H p o) := fun b u e => by
  rw [upd_ne (ne_of_none e hp)]; exact e
theorem SqL.same {K : PySem.W.Frag} {H H' : Hp} {a : Addr} {xs : List V} (e : Same H H') (h : SqL K H a xs) : SqL K H' a xs := by
  rcases h with (h | ⟨o, h⟩) | h
  · exact .inl (.inl (e _ _ h))
  · exact .inl (.inr ⟨o, e _ _ h⟩)
  · exact .inr h
theorem SqT.same {K : PySem.W.Frag} {H H' : Hp} {a : Addr} {xs : List V} (e : Same H H') (h : SqT K H a xs) : SqT K H' a xs := by
  rcases h with (h | ⟨o, h⟩) | h
  · exact .inl (.inl (e _ _ h))
  · exact .inl (.inr ⟨o, e _ _ h⟩)
  · exact .inr h
mutual
theorem dp_same {K : PySem.W.Frag} {H H' : Hp} (e : Same H H') : ∀ {d : PyData} {v : V}, Dp K H v d → Dp K H' v d
  | .none, _, h => by cases h; exact .non
  | .bool _, _, h => by cases h; exact .bl _
  | .int _, _, h => by cases h; exact .int _
  | .str _, _, h => by cases h; exact .str _
  | .list ds, _, h => by
    cases h with
    | lst hs ha => exact .lst (SqL.same e hs) (dpAll_same e ha)
  | .tuple ds, _, h => by
    cases h with
    | tup hs ha => exact .tup (SqT.same e hs) (dpAll_same e ha)
  | .dict _, _, h => by cases h
theorem dpAll_same {K : PySem.W.Frag} {H H' : Hp} (e : Same H H') : ∀ {ds : List PyData} {vs : List V}, DpAll K H vs ds → DpAll K H' vs ds
  | [], _, h => by cases h; exact .nil
  | d :: ds, _, h => by
    cases h with
    | cons h1 h2 => exact .cons (dp_same e h1) (dpAll_same e h2)
end
section
variable {K : PySem.W.Frag} {H H' : Hp}
theorem dpAll_append : ∀ {xs ys : List V} {ds es : List PyData}, DpAll K H xs ds → DpAll K H ys es → DpAll K H (xs ++ ys) (ds ++ es)
  | _, _, _, _, .nil, h => h
  | _, _, _, _, .cons a r, h => .cons a (dpAll_append r h)
theorem dpAll_length : ∀ {xs : List V} {ds : List PyData}, DpAll K H xs ds → xs.length = ds.length
  | _, _, .nil => rfl
  | _, _, .cons _ r => by rw [List.length_cons, List.length_cons, dpAll_length r]
theorem dpAll_get : ∀ {xs : List V} {ds : List PyData} {i : Nat} {d : PyData}, DpAll K H xs ds → ds[i]? = some d → ∃ v, xs[i]? = some v ∧ Dp K H v d
  | _, _, _, _, .nil, e => by simp at e
  | _, _, 0, d, .cons a r, e => by
    have e' : _ = d := Option.some.inj e
    subst e'
    exact ⟨_, rfl, a⟩
  | _, _, i + 1, d, .cons a r, e => by
    obtain ⟨v, h1, h2⟩ := dpAll_get (i := i) (d := d) r (by simpa using e)
    exact ⟨v, by simpa using h1, h2⟩
theorem dpAll_getV : ∀ {xs : List V} {ds : List PyData} {i : Nat} {v : V}, DpAll K H xs ds → xs[i]? = some v → ∃ d, ds[i]? = some d ∧ Dp K H v d
  | _, _, _, _, .nil, e => by simp at e
  | _, _, 0, d, .cons a r, e => by
    have e' : _ = d := Option.some.inj e
    subst e'
    exact ⟨_, rfl, a⟩
  | _, _, i + 1, d, .cons a r, e => by
    obtain ⟨v, h1, h2⟩ := dpAll_getV (i := i) (v := d) r (by simpa using e)
    exact ⟨v, by simpa using h1, h2⟩
theorem dpAll_take : ∀ {xs : List V} {ds : List PyData} (n : Nat), DpAll K H xs ds → DpAll K H (xs.take n) (ds.take n)
  | _, _, 0, _ => .nil
  | _, _, _ + 1, .nil => .nil
  | _, _, n + 1, .cons a r => .cons a (dpAll_take n r)
theorem dpAll_drop : ∀ {xs : List V} {ds : List PyData} (n : Nat), DpAll K H xs ds → DpAll K H (xs.drop n) (ds.drop n)
  | _, _, 0, h => h
  | _, _, _ + 1, .nil => .nil
  | _, _, n + 1, .cons a r => dpAll_drop n r
theorem dpAll_rep {xs : List V} {ds : List PyData} (h : DpAll K H xs ds) : ∀ n : Nat, DpAll K H (List.replicate n xs).flatten (List.replicate n ds).flatten
  | 0 => .nil
  | n + 1 => by
    rw [List.replicate_succ, List.replicate_succ, List.flatten_cons, List.flatten_cons]
    exact dpAll_append h (dpAll_rep h n)
theorem SlotR.same (e : Same H H') {x : Sl} {o : Option V} (h : SlotR K H x o) : SlotR K H' x o := by
  cases x with
  | u => trivial
  | d x => obtain ⟨v, e1, h1⟩ := h; exact ⟨v, e1, dp_same e h1⟩
  | r v => exact h
  | s => obtain ⟨a, e1, h1⟩ := h; exact ⟨a, e1, e _ _ h1⟩
theorem EnvR.same (e : Same H H') : ∀ {ρ : Rho} {σ : L2.St}, EnvR K H σ ρ → EnvR K H' σ ρ
  | _, _, .nil => .nil
  | _, _, .cons a r => .cons (SlotR.same e a) (EnvR.same e r)
theorem EnvR.get : ∀ {ρ : Rho} {σ : L2.St} {i : Nat} {x : PyData}, EnvR K H σ ρ → ρ[i]? = some (.d x) → ∃ v, σ[i]? = some (some v) ∧ Dp K H v x
  | _, _, _, _, .nil, e => by simp at e
  | _, _, 0, x, .cons a r, e => by
    have e' := Option.some.inj e
    subst e'
    obtain ⟨v, e1, h1⟩ := a
    exact ⟨v, by rw [e1]; rfl, h1⟩
  | _, _, i + 1, x, .cons a r, e => by
    obtain ⟨v, h1, h2⟩ := EnvR.get (i := i) (x := x) r (by simpa using e)
    exact ⟨v, by simpa using h1, h2⟩
theorem EnvR.getR : ∀ {ρ : Rho} {σ : L2.St} {i : Nat} {v : V}, EnvR K H σ ρ → ρ[i]? = some (.r v) → σ[i]? = some (some v)
  | _, _, _, _, .nil, e => by simp at e
  | _, _, 0, x, .cons a r, e => by
    have e' := Option.some.inj e
    subst e'
    have a' : _ = some x := a
    rw [a']; rfl
  | _, _, i + 1, x, .cons a r, e => by
    have h1 := EnvR.getR (i := i) (v := x) r (by simpa using e)
    simpa using h1
theorem EnvR.getS : ∀ {ρ : Rho} {σ : L2.St} {i : Nat}, EnvR K H σ ρ → ρ[i]? = some .s → ∃ a, σ[i]? = some (some (.ref a)) ∧ H a = some (srcHO a)
  | _, _, _, .nil, e => by simp at e
  | _, _, 0, .cons a r, e => by
    have e' := Option.some.inj e
    subst e'
    obtain ⟨b, e1, h1⟩ := a
    exact ⟨b, by rw [e1]; rfl, h1⟩
  | _, _, i + 1, .cons a r, e => by
    have h1 := EnvR.getS (i := i) r (by simpa using e)
    simpa using h1
theorem EnvR.set {x : Sl} {o : Option V} (h : SlotR K H x o) : ∀ {ρ : Rho} {σ : L2.St} (i : Nat), EnvR K H σ ρ → EnvR K H (σ.set i o) (ρ.set i x)
  | _, _, _, .nil => .nil
  | _, _, 0, .cons a r => .cons h r
  | _, _, i + 1, .cons a r => .cons a (EnvR.set h i r)
theorem EnvR.setD {x : PyData} {v : V} {ρ : Rho} {σ : L2.St} (e : EnvR K H σ ρ) (i : Nat) (h : Dp K H v x) : EnvR K H (σ.set i (some v)) (ρ.set i (.d x)) := EnvR.set (x := .d x) (o := some v) ⟨v, rfl, h⟩ i e
theorem EnvR.setR {v : V} {ρ : Rho} {σ : L2.St} (e : EnvR K H σ ρ) (i : Nat) : EnvR K H (σ.set i (some v)) (ρ.set i (.r v)) := EnvR.set (x := .r v) (o := some v) rfl i e
def wipeE (ρ : Rho) : List Nat → Rho
  | [] => ρ
  | i :: r => (wipeE ρ r).set i .u
theorem EnvR.wipe {ρ : Rho} {σ : L2.St} (e : EnvR K H σ ρ) : ∀ vs : List Nat, EnvR K H (L2.wipe σ vs) (wipeE ρ vs)
  | [] => e
  | i :: r => EnvR.set (x := .u) trivial i (EnvR.wipe e r)
end

/-! ### the judgements, weakened -/
theorem pe_imp {X : Cx} {e : Expr} {t t' : TE} (h : PE X e t) (i : ∀ σ H Q, t' σ H Q → t σ H Q) : PE X e t' := ⟨fun pins s σ H Q I w => h.run pins s σ H Q I (i _ _ _ w)⟩
theorem pt_imp {X : Cx} {e : Expr} {t t' : TT} (h : PT X e t) (i : ∀ σ H Q, t' σ H Q → t σ H Q) : PT X e t' := ⟨fun pins s σ H Q I w => h.run pins s σ H Q I (i _ _ _ w)⟩
theorem pa_imp {X : Cx} {es : List Expr} {t t' : TA} (h : PA X es t) (i : ∀ σ H Q, t' σ H Q → t σ H Q) : PA X es t' := ⟨fun pos pins s σ H Q I w => h.run pos pins s σ H Q I (i _ _ _ w)⟩
theorem ps_imp {X : Cx} {e : Stmt} {t t' : TS} (h : PS X e t) (i : ∀ D σ H, t' D σ H → t D σ H) : PS X e t' := ⟨fun pins s σ H Q I w => h.run pins s σ H Q I (i _ _ _ w)⟩
theorem pss_imp {X : Cx} {e : List Stmt} {t t' : TS} (h : PSs X e t) (i : ∀ D σ H, t' D σ H → t D σ H) : PSs X e t' := ⟨fun pins s σ H Q I w => h.run pins s σ H Q I (i _ _ _ w)⟩
theorem pi_imp {X : Cx} {tg iter : Expr} {t t' : TI} (h : PI X tg iter t) (i : ∀ σ H R, t' σ H R → t σ H R) : PI X tg iter t' := ⟨fun pins s σ H R I w => h.run pins s σ H R I (i _ _ _ w)⟩

/-! ### what a pure piece gives -/
section
variable {α β γ δ : Type}
def PostG (mg : Str → Option Value) (W : WX) (σ : L2.St) (H : Hp) (rel : Hp → β → α → Prop) (Q : β → Hp → Prop) : R α → Prop
  | .ok a => ∀ v H', Same H H' → rel H' v a → Q v H'
  | .exc n => ∀ C H', mg n = some (.ref C) → Same H H' → W (.ref C) none σ H'
  | .stuck => False
  | .ask n k => ∀ i, i < n → PostG mg W σ H rel Q (k i)
variable {mg : Str → Option Value} {W : WX} {σ : L2.St} {H H1 : Hp} {rel : Hp → β → α → Prop} {rel2 : Hp → δ → γ → Prop} {Q Q' : β → Hp → Prop} {Q2 : δ → Hp → Prop}
theorem PostG.mono {m : R α} (s : Same H H1) (h : PostG mg W σ H rel Q m) : PostG mg W σ H1 rel Q m := by
  induction m with
  | ok a => exact fun v H' s' r => h v H' (s.trans s') r
  | exc n => exact fun C H' e s' => h C H' e (s.trans s')
  | stuck => exact h
  | ask n k ih => exact fun i hi => ih i (h i hi)
theorem PostG.seq0 {m : R α} {k : α → R γ} (post : PostG mg W σ H rel2 Q2 (m.bd k)) (h : ∀ a v H1, Same H H1 → rel H1 v a → PostG mg W σ H rel2 Q2 (k a) → Q v H1) : PostG mg W σ H rel Q m := by
  induction m with
  | ok a => exact fun v H' s r => h a v H' s r post
  | exc n => exact post
  | stuck => exact post
  | ask n k ih => exact fun i hi => ih i (post i hi)
theorem PostG.seq {m : R α} {k : α → R γ} (post : PostG mg W σ H rel2 Q2 (m.bd k)) (h : ∀ a v H1, True → Same H H1 → rel H1 v a → PostG mg W σ H1 rel2 Q2 (k a) → Q v H1) : PostG mg W σ H rel Q m :=
  post.seq0 fun a v H1 s r q => h a v H1 trivial s r (q.mono s)
theorem PostG.imp {m : R α} (post : PostG mg W σ H rel Q m) (h : ∀ a v H1, True → Same H H1 → rel H1 v a → Q v H1 → Q' v H1) : PostG mg W σ H rel Q' m := by
  induction m with
  | ok a => exact fun v H' s r => h a v H' trivial s r (post v H' s r)
  | exc n => exact post
  | stuck => exact post
  | ask n k ih => exact fun i hi => ih i (post i hi)
theorem PostG.seq2 {H2 : Hp} {m : R α} {k : α → R γ} (s : Same H H2) (post : PostG mg W σ H rel2 Q2 (m.bd k)) (h : ∀ a v H1, Same H2 H1 → rel H1 v a → PostG mg W σ H rel2 Q2 (k a) → Q v H1) : PostG mg W σ H2 rel Q m := by
  induction m with
  | ok a => exact fun v H' s' r => h a v H' s' r post
  | exc n => exact PostG.mono s (show PostG mg W σ H rel Q (.exc n) from post)
  | stuck => exact post.elim
  | ask n k ih => exact fun i hi => ih i (post i hi)
/-- no exception comes -/
def R.calm {α : Type} : R α → R α
  | .ok a => .ok a
  | .exc _ => .stuck
  | .stuck => .stuck
  | .ask n k => .ask n fun i => (k i).calm
theorem PostG.calm {W' : WX} {σ' : L2.St} {H2 : Hp} {m : R α} {k : α → R γ} (s : Same H H2) (post : PostG mg W σ H rel2 Q2 (m.calm.bd k)) (h : ∀ a v H1, Same H2 H1 → rel H1 v a → PostG mg W σ H rel2 Q2 (k a) → Q v H1) : PostG mg W' σ' H2 rel Q m := by
  induction m with
  | ok a => exact fun v H' s' r => h a v H' s' r post
  | exc n => exact post.elim
  | stuck => exact post.elim
  | ask n k ih => exact fun i hi => ih i (post i hi)
theorem PostG.use {o : Option α} (post : PostG mg W σ H rel Q (R.of o)) : ∃ a, o = some a ∧ ∀ v H', Same H H' → rel H' v a → Q v H' := by
  cases o with
  | none => exact post.elim
  | some a => exact ⟨a, rfl, post⟩
end
abbrev rDp (K : PySem.W.Frag) : Hp → V → PyData → Prop := fun H v d => Dp K H v d
abbrev rDs (K : PySem.W.Frag) : Hp → List V → List PyData → Prop := fun H v d => DpAll K H v d
abbrev rBo : Hp → Bool → Bool → Prop := fun _ a b => a = b
/-- readings of pure pieces -/
def tP (K : PySem.W.Frag) (mg : Str → Option Value) (W : WX) (g : Rho → R PyData) : TE := fun σ H Q => ∃ ρ, EnvR K H σ ρ ∧ PostG mg W σ H (rDp K) Q (g ρ)
def tPT (K : PySem.W.Frag) (mg : Str → Option Value) (W : WX) (g : Rho → R Bool) : TT := fun σ H Q => ∃ ρ, EnvR K H σ ρ ∧ PostG mg W σ H rBo Q (g ρ)
def tPA (K : PySem.W.Frag) (mg : Str → Option Value) (W : WX) (g : Rho → R (List PyData)) : TA := fun σ H Q => ∃ ρ, EnvR K H σ ρ ∧ PostG mg W σ H (rDs K) Q (g ρ)
def SemE (X : Cx) (e : Expr) (g : Rho → R PyData) : Prop := ∀ W, Takes X W → PE X e (tP X.K X.mg W g)
def SemT (X : Cx) (e : Expr) (g : Rho → R Bool) : Prop := ∀ W, Takes X W → PT X e (tPT X.K X.mg W g)
def SemA (X : Cx) (es : List Expr) (g : Rho → R (List PyData)) : Prop := ∀ W, Takes X W → PA X es (tPA X.K X.mg W g)

/-! ### names, constants -/
def gK (d : PyData) : Rho → R PyData := fun _ => .ok d
def gNil : Rho → R (List PyData) := fun _ => .ok []
def gCons (g : Rho → R PyData) (gs : Rho → R (List PyData)) : Rho → R (List PyData) := fun ρ => (g ρ).bd fun x => (gs ρ).bd fun xs => .ok (x :: xs)
def lineOk {α : Type} (xs : List α) (k : R PyData) : R PyData := if xs.length ≤ sizeLine then k else .stuck
def gTup (gs : Rho → R (List PyData)) : Rho → R PyData := fun ρ => (gs ρ).bd fun xs => lineOk xs (.ok (.tuple xs))
def gLst (gs : Rho → R (List PyData)) : Rho → R PyData := fun ρ => (gs ρ).bd fun xs => lineOk xs (.ok (.list xs))
def getV (i : Nat) (ρ : Rho) : R PyData := match ρ[i]? with
  | some (.d x) => .ok x
  | _ => .stuck
section
variable {X : Cx} {a b c : Expr} {ga gb gc : Rho → R PyData} {pos : Pos}
theorem sem_var {i : Nat} {x : Str} (hN : X.N[i]? = some x := by rfl) (hv : Vis X.env.scope x := by first | exact Or.inl rfl | exact Or.inr (Or.inl rfl) | exact Or.inr (Or.inr rfl))
    (hd : (x == ("__debug__" : Str)) = false := by decide) (hcd : (x == ("__classdict__" : Str)) = false := by decide) : SemE X (.Name x pos) (getV i) := fun W tk =>
  pe_imp (pe_var hN hv hd hcd) fun σ H Q ⟨ρ, env, post⟩ => by
    unfold getV at post
    split at post
    · rename_i d e
      obtain ⟨v, e1, h1⟩ := env.get e
      exact ⟨v, e1, post v H (Same.refl H) h1⟩
    · exact post.elim
theorem sem_int {i : Int} {j : Nat} : SemE X (.Constant (.int i) j pos) (gK (.int i)) := fun W tk => pe_imp pe_int fun σ H Q ⟨ρ, env, post⟩ => post _ H (Same.refl H) (.int i)
theorem sem_bl {i : Bool} {j : Nat} : SemE X (.Constant (.bool i) j pos) (gK (.bool i)) := fun W tk => pe_imp pe_bl fun σ H Q ⟨ρ, env, post⟩ => post _ H (Same.refl H) (.bl i)
theorem sem_non {j : Nat} : SemE X (.Constant .none j pos) (gK .none) := fun W tk => pe_imp pe_non fun σ H Q ⟨ρ, env, post⟩ => post _ H (Same.refl H) .non
theorem sem_str {i : Str} {j : Nat} : SemE X (.Constant (.str i) j pos) (gK (.str i)) := fun W tk => pe_imp pe_str fun σ H Q ⟨ρ, env, post⟩ => post _ H (Same.refl H) (.str i)
/-- a constant of the module -/
theorem sem_glob {x : Str} {d : PyData} {v : V} {u : Value} (hg : Gl X x) (hm : X.mg x = some u) (r : RelV v u) (h : ∀ H, Dp X.K H v d) (hd : (x == ("__debug__" : Str)) = false := by decide) : SemE X (.Name x pos) (gK d) := fun W tk =>
  pe_imp (pe_glob hg hm r hd) fun σ H Q ⟨ρ, env, post⟩ => post _ H (Same.refl H) (h H)

/-! ### lists of expressions, displays -/
variable {e : Expr} {es : List Expr} {g : Rho → R PyData} {gs : Rho → R (List PyData)}
theorem sem_nil : SemA X [] gNil := fun W tk => pa_imp pa_nil fun σ H Q ⟨ρ, env, post⟩ => post _ H (Same.refl H) .nil
theorem sem_cons (ha : SemE X e g) (hr : SemA X es gs) (hs : starEach (e :: es) X.env = (false, eval e X.env) :: starEach es X.env := by rfl) : SemA X (e :: es) (gCons g gs) := fun W tk =>
  pa_imp (pa_cons (ha W tk) (hr W tk) hs) fun σ H Q ⟨ρ, env, post⟩ => ⟨ρ, env, post.seq fun x v H1 _ s1 r1 post1 => ⟨ρ, env.same s1, post1.seq fun xs vs H2 _ s2 r2 post2 => post2 _ H2 (Same.refl H2) (.cons (dp_same s2 r1) r2)⟩⟩
theorem sem_tup {x1 : Nat} (h : SemA X es gs) : SemE X (.Tuple es x1 pos) (gTup gs) := fun W tk =>
  pe_imp (pe_tup (h W tk)) fun σ H Q ⟨ρ, env, post⟩ => ⟨ρ, env, post.seq fun xs vs H1 _ s1 r1 post1 => by
    unfold lineOk at post1
    split at post1
    · rename_i hl
      refine ⟨by rw [dpAll_length r1]; exact hl, fun p hp => post1 _ _ (same_upd hp) (.tup (SqT.of upd_same) (dpAll_same (same_upd hp) r1))⟩
    · exact post1.elim⟩
theorem sem_lst (h : SemA X es gs) : SemE X (.List es pos) (gLst gs) := fun W tk =>
  pe_imp (pe_lst (h W tk)) fun σ H Q ⟨ρ, env, post⟩ => ⟨ρ, env, post.seq fun xs vs H1 _ s1 r1 post1 => by
    unfold lineOk at post1
    split at post1
    · rename_i hl
      refine ⟨by rw [dpAll_length r1]; exact hl, fun p hp => post1 _ _ (same_upd hp) (.lst (SqL.of upd_same) (dpAll_same (same_upd hp) r1))⟩
    · exact post1.elim⟩
end
end RL

namespace RL
open PySem PySem.Spec PyProof.Rows L2

/-- an operator by data -/
def rD (K : PySem.W.Frag) (f : PyData → PyData → Option PyData) : R2 := fun x y H Q => ∃ d e r, Dp K H x d ∧ Dp K H y e ∧ f d e = some r ∧ ∀ v H', Same H H' → Dp K H' v r → Q v H'
section
variable {X : Cx}
def rCatL (K : PySem.W.Frag) : R2 := fun x y H Q => ∃ l b xs zs, x = .ref l ∧ y = .ref b ∧ SqL K H l xs ∧ SqL K H b zs ∧ xs.length + zs.length ≤ sizeLine ∧ ∀ p, H p = none → Q (.ref p) (upd H p (.lst (xs ++ zs)))
theorem op_catL : OpR X (binaryOp .Add) (rCatL X.K) := by
  intro pins s σ H x y v u Q I rx ry h
  obtain ⟨l, b, xs, zs, rfl, rfl, hH, hB, hz, q⟩ := h
  cases rx
  cases ry
  obtain ⟨its, r, ⟨⟨cls, dd, data, sl⟩, n, ho, hc, _, hd⟩, hl⟩ := I.list hH
  obtain ⟨its2, r2, ⟨⟨cls2, dd2, data2, sl2⟩, n2, ho2, hc2, _, hd2⟩, hl2⟩ := I.list hB
  simp only at hc hd hc2 hd2
  subst hc hd hc2 hd2
  have e1 := r.length
  have e2 := r2.length
  have e : its.toArray ++ its2.toArray = (its ++ its2).toArray := by simp
  refine concat_meets ⟨_, ho, rfl⟩ ⟨_, ho2, rfl⟩ PySem.noFill_list_add PySem.seq_list_add PySem.F.slot_list_add PySem.F.entry_list_add (PySem.F.args_list_add_2 _ _) (list_addW l b its.toArray its2.toArray n n2 dd dd2 sl sl2 (by simpa [← e1, ← e2] using hz)) ⟨ho, ho2, ?_⟩
  rw [e]
  exact ⟨.ref _, _, I.lnew (t' := s.toks) (r.append r2) (by rw [List.length_append]; omega), rfl, q _ I.fresh⟩

def addD : PyData → PyData → Option PyData
  | .int i, .int j => some (.int (i + j))
  | .str x, .str y => if x.length + y.length ≤ sizeLine then some (.str (x ++ y)) else none
  | .tuple xs, .tuple ys => if xs.length + ys.length ≤ sizeLine then some (.tuple (xs ++ ys)) else none
  | .list xs, .list ys => if xs.length + ys.length ≤ sizeLine then some (.list (xs ++ ys)) else none
  | _, _ => none
theorem ite_some {α : Type} {c : Prop} [Decidable c] {a r : α} (h : (if c then some a else none) = some r) : c ∧ a = r := by
  split at h
  · rename_i hc; exact ⟨hc, Option.some.inj h⟩
  · cases h
theorem op_addD : OpR X (binaryOp .Add) (rD X.K addD) := by
  intro pins s σ H x y v u Q I rx ry ⟨d, e, r, hd, he, hf, q⟩
  cases hd with
  | non => cases he <;> cases hf
  | bl b => cases he <;> cases hf
  | int i =>
    cases he with
    | int j =>
      cases hf
      exact op_add pins s σ H _ _ v u Q I rx ry ⟨i, j, rfl, rfl, q _ _ (Same.refl H) (.int _)⟩
    | _ => cases hf
  | str x =>
    cases he with
    | str y =>
      obtain ⟨hl, rfl⟩ := ite_some hf
      exact op_add_str pins s σ H _ _ v u Q I rx ry ⟨x, y, rfl, rfl, hl, q _ _ (Same.refl H) (.str _)⟩
    | _ => cases hf
  | lst hs ha =>
    cases he with
    | lst hs2 ha2 =>
      obtain ⟨hl, rfl⟩ := ite_some hf
      refine op_catL pins s σ H _ _ v u Q I rx ry ⟨_, _, _, _, rfl, rfl, hs, hs2, by rw [dpAll_length ha, dpAll_length ha2]; exact hl, fun p hp => q _ _ (same_upd hp) ?_⟩
      exact .lst (SqL.of upd_same) (dpAll_append (dpAll_same (same_upd hp) ha) (dpAll_same (same_upd hp) ha2))
    | _ => cases hf
  | tup hs ha =>
    cases he with
    | tup hs2 ha2 =>
      obtain ⟨hl, rfl⟩ := ite_some hf
      refine op_catA pins s σ H _ _ v u Q I rx ry ⟨_, _, _, _, rfl, rfl, hs, hs2, by rw [dpAll_length ha, dpAll_length ha2]; exact hl, fun e => ?_, fun e e2 => ?_, fun e e2 p hp => ?_⟩
      · subst e
        cases ha
        exact q _ _ (Same.refl H) (.tup hs2 ha2)
      · subst e2
        cases ha2
        rw [List.append_nil] at q
        exact q _ _ (Same.refl H) (.tup hs ha)
      · exact q _ _ (same_upd hp) (.tup (SqT.of upd_same) (dpAll_append (dpAll_same (same_upd hp) ha) (dpAll_same (same_upd hp) ha2)))
    | _ => cases hf
/-- ints alone -/
def ii (f : Int → Int → Option Int) : PyData → PyData → Option PyData
  | .int i, .int j => (f i j).map .int
  | _, _ => none
theorem ii_int {f : Int → Int → Option Int} {g : Value → Value → Sem Value} {C : Int → Int → Prop} {h : Int → Int → Int} (ho : OpR X g (rI C fun i j => .int (h i j))) (hf : ∀ i j k, f i j = some k → C i j ∧ k = h i j) : OpR X g (rD X.K (ii f)) := by
  intro pins s σ H x y v u Q I rx ry ⟨d, e, r, hd, he, hr, q⟩
  cases hd with
  | int i =>
    cases he with
    | int j =>
      cases z : f i j with
      | none => simp [ii, z] at hr
      | some k =>
        simp [ii, z] at hr
        subst hr
        obtain ⟨c, rfl⟩ := hf i j k z
        exact ho pins s σ H _ _ v u Q I rx ry ⟨i, j, rfl, rfl, c, q _ _ (Same.refl H) (.int _)⟩
    | _ => cases hr
  | _ => cases he <;> cases hr
def subD := ii fun i j => some (i - j)
theorem op_subD : OpR X (binaryOp .Sub) (rD X.K subD) := by
  intro pins s σ H x y v u Q I rx ry ⟨d, e, r, hd, he, hr, q⟩
  cases hd with
  | int i =>
    cases he with
    | int j =>
      cases hr
      exact op_sub pins s σ H _ _ v u Q I rx ry ⟨i, j, rfl, rfl, q _ _ (Same.refl H) (.int _)⟩
    | _ => cases hr
  | _ => cases he <;> cases hr
def fdivD := ii fun i j => if 0 < j ∧ j < 1073741824 then some (i / j) else none
theorem op_fdivD : OpR X (binaryOp .FloorDiv) (rD X.K fdivD) := ii_int op_fdiv fun i j k h => by
  obtain ⟨c, e⟩ := ite_some h
  exact ⟨c, e.symm⟩
def modD := ii fun i j => if 0 < j then some (i % j) else none
theorem op_modD : OpR X (binaryOp .Mod) (rD X.K modD) := ii_int op_mod fun i j k h => by
  obtain ⟨c, e⟩ := ite_some h
  exact ⟨c, e.symm⟩
def powD := ii fun i j => if 0 ≤ j ∧ j ≤ 1000000 ∧ i.natAbs < 2 ^ 64 then some (i ^ j.toNat) else none
theorem op_powD : OpR X (binaryOp .Pow) (rD X.K powD) := ii_int op_pow fun i j k h => by
  obtain ⟨c, e⟩ := ite_some h
  exact ⟨c, e.symm⟩
def mulD : PyData → PyData → Option PyData
  | .int i, .int j => if (-(2 ^ 64) < i ∧ i < 2 ^ 64) ∨ (-(2 ^ 64) < j ∧ j < 2 ^ 64) then some (.int (i * j)) else none
  | .tuple xs, .int k => if xs ≠ [] ∧ 2 ≤ k ∧ k ≤ 1000 ∧ xs.length ≤ 1000 then some (.tuple (List.replicate k.toNat xs).flatten) else none
  | _, _ => none
theorem op_mulD : OpR X (binaryOp .Mult) (rD X.K mulD) := by
  intro pins s σ H x y v u Q I rx ry ⟨d, e, r, hd, he, hf, q⟩
  cases hd with
  | non => cases he <;> cases hf
  | bl b => cases he <;> cases hf
  | str x => cases he <;> cases hf
  | lst hs ha => cases he <;> cases hf
  | int i =>
    cases he with
    | int j =>
      obtain ⟨hl, rfl⟩ := ite_some hf
      exact op_mul pins s σ H _ _ v u Q I rx ry ⟨i, j, rfl, rfl, hl, q _ _ (Same.refl H) (.int _)⟩
    | _ => cases hf
  | tup hs ha =>
    cases he with
    | int k =>
      obtain ⟨⟨h1, h2, h3, h4⟩, rfl⟩ := ite_some hf
      refine op_repT pins s σ H _ _ v u Q I rx ry ⟨_, k, _, rfl, rfl, hs, fun e => ?_, h2, h3, by rw [dpAll_length ha]; exact h4, fun p hp => q _ _ (same_upd hp) (.tup (SqT.of upd_same) (dpAll_rep (dpAll_same (same_upd hp) ha) _))⟩
      subst e
      cases ha
      exact h1 rfl
    | _ => cases hf
def binD : Operator → PyData → PyData → Option PyData
  | .Add => addD
  | .Sub => subD
  | .Mult => mulD
  | .FloorDiv => fdivD
  | .Mod => modD
  | .Pow => powD
  | _ => fun _ _ => none
theorem rD_none {f : PyData → PyData → Option PyData} {g : Value → Value → Sem Value} (h : f = fun _ _ => none) : OpR X g (rD X.K f) := by
  subst h
  intro pins s σ H x y v u Q I rx ry ⟨d, e, r, hd, he, hf, q⟩
  cases hf
theorem op_binD : ∀ op : Operator, OpR X (binaryOp op) (rD X.K (binD op))
  | .Add => op_addD
  | .Sub => op_subD
  | .Mult => op_mulD
  | .FloorDiv => op_fdivD
  | .Mod => op_modD
  | .Pow => op_powD
  | .MatMult | .Div | .LShift | .RShift | .BitOr | .BitXor | .BitAnd => rD_none rfl

/-! ### comparisons -/
def isS (d : PyData) : Bool := SeqAt.shaped d
def eqD (d e : PyData) : Option Bool := if isS d && isS e then some (PyData.eqv d e) else none
def neD (d e : PyData) : Option Bool := if isS d && isS e then some (!PyData.eqv d e) else none
def rDB (K : PySem.W.Frag) (f : PyData → PyData → Option Bool) : R2 := fun x y H Q => ∃ d e r, Dp K H x d ∧ Dp K H y e ∧ f d e = some r ∧ Q (.bl r) H
theorem op_eqDB (hu : X.A.units + 65 < cLine) : OpR X (compareOp .Eq) (rDB X.K eqD) := by
  intro pins s σ H x y v u Q I rx ry ⟨d, e, r, hd, he, hf, q⟩
  obtain ⟨hl, rfl⟩ := ite_some hf
  obtain ⟨h1, h2⟩ := Bool.and_eq_true_iff.mp hl
  exact op_eqD (by omega) pins s σ H _ _ v u Q I rx ry ⟨d, e, hd, he, h1, h2, q⟩
theorem op_neDB (hu : X.A.units + 65 < cLine) : OpR X (compareOp .NotEq) (rDB X.K neD) := by
  intro pins s σ H x y v u Q I rx ry ⟨d, e, r, hd, he, hf, q⟩
  obtain ⟨hl, rfl⟩ := ite_some hf
  obtain ⟨h1, h2⟩ := Bool.and_eq_true_iff.mp hl
  exact op_neD (by omega) pins s σ H _ _ v u Q I rx ry ⟨d, e, hd, he, h1, h2, q⟩
def iB (f : Int → Int → Bool) : PyData → PyData → Option Bool
  | .int i, .int j => some (f i j)
  | _, _ => none
theorem op_iB {f : Int → Int → Bool} {g : Value → Value → Sem Value} (ho : OpR X g (rI0 fun i j => .bl (f i j))) : OpR X g (rDB X.K (iB f)) := by
  intro pins s σ H x y v u Q I rx ry ⟨d, e, r, hd, he, hr, q⟩
  cases hd with
  | int i =>
    cases he with
    | int j =>
      cases hr
      exact ho pins s σ H _ _ v u Q I rx ry ⟨i, j, rfl, rfl, q⟩
    | _ => cases hr
  | _ => cases he <;> cases hr
def inD (d : PyData) : PyData → Option Bool
  | .list ds => if isS d && isS (.list ds) then some (ds.any fun z => PyData.eqv z d) else none
  | .tuple ds => if isS d && isS (.tuple ds) then some (ds.any fun z => PyData.eqv z d) else none
  | _ => none
def notInD (d e : PyData) : Option Bool := (inD d e).map (!·)
theorem op_inDB (hu : X.A.units + 65 < cLine) : OpR X (compareOp .In) (rDB X.K inD) := by
  intro pins s σ H x y v u Q I rx ry ⟨d, e, r, hd, he, hf, q⟩
  obtain ⟨as, r1⟩ := Dp.reads I d x v hd rx
  obtain ⟨bs, r2⟩ := Dp.reads I e y u he ry
  cases e with
  | list ds =>
    obtain ⟨hl, rfl⟩ := ite_some hf
    obtain ⟨sd, se⟩ := Bool.and_eq_true_iff.mp hl
    exact SeqAt.in_list_reads r2 r1 (SeqAt.canLay_of_shaped se) (SeqAt.canLay_of_shaped sd) (room_in_shaped sd hu) ⟨.bl _, H, I, rfl, q⟩
  | tuple ds =>
    obtain ⟨hl, rfl⟩ := ite_some hf
    obtain ⟨sd, se⟩ := Bool.and_eq_true_iff.mp hl
    exact SeqAt.in_tuple_reads r2 r1 (SeqAt.canLay_of_shaped se) (SeqAt.canLay_of_shaped sd) (room_in_shaped sd hu) ⟨.bl _, H, I, rfl, q⟩
  | _ => cases hf
theorem op_notInDB (hu : X.A.units + 65 < cLine) : OpR X (compareOp .NotIn) (rDB X.K notInD) := by
  intro pins s σ H x y v u Q I rx ry ⟨d, e, r, hd, he, hf, q⟩
  obtain ⟨as, r1⟩ := Dp.reads I d x v hd rx
  obtain ⟨bs, r2⟩ := Dp.reads I e y u he ry
  obtain ⟨k, hk, rfl⟩ := Option.map_eq_some_iff.mp hf
  cases e with
  | list ds =>
    obtain ⟨hl, rfl⟩ := ite_some hk
    obtain ⟨sd, se⟩ := Bool.and_eq_true_iff.mp hl
    exact SeqAt.notIn_list_reads r2 r1 (SeqAt.canLay_of_shaped se) (SeqAt.canLay_of_shaped sd) (room_in_shaped sd hu) ⟨.bl _, H, I, rfl, q⟩
  | tuple ds =>
    obtain ⟨hl, rfl⟩ := ite_some hk
    obtain ⟨sd, se⟩ := Bool.and_eq_true_iff.mp hl
    exact SeqAt.notIn_tuple_reads r2 r1 (SeqAt.canLay_of_shaped se) (SeqAt.canLay_of_shaped sd) (room_in_shaped sd hu) ⟨.bl _, H, I, rfl, q⟩
  | _ => cases hk
def cmpD : CmpOp → PyData → PyData → Option Bool
  | .Eq => eqD
  | .NotEq => neD
  | .Lt => iB fun i j => decide (i < j)
  | .LtE => iB fun i j => decide (i ≤ j)
  | .Gt => iB fun i j => decide (j < i)
  | .GtE => iB fun i j => decide (j ≤ i)
  | .In => inD
  | .NotIn => notInD
  | _ => fun _ _ => none
theorem op_cmpD (hu : X.A.units + 65 < cLine) : ∀ op : CmpOp, OpR X (compareOp op) (rDB X.K (cmpD op))
  | .Eq => op_eqDB hu
  | .NotEq => op_neDB hu
  | .Lt => op_iB op_lt
  | .LtE => op_iB op_le
  | .Gt => op_iB op_gt
  | .GtE => op_iB op_ge
  | .In => op_inDB hu
  | .NotIn => op_notInDB hu
  | .Is => fun pins s σ H x y v u Q I rx ry ⟨d, e, r, hd, he, hf, q⟩ => by cases hf
  | .IsNot => fun pins s σ H x y v u Q I rx ry ⟨d, e, r, hd, he, hf, q⟩ => by cases hf
end
end RL

namespace RL
open PySem PySem.Spec PyProof.Rows L2
section
variable {X : Cx} {a b c : Expr} {ga gb gc : Rho → R PyData} {pos : Pos}
theorem hu65 {A : Around} {k : Nat} (hr : Room k A) : A.units + 65 < cLine := by have := hr.un; omega
theorem post_of {α β γ : Type} {mg : Str → Option Value} {W : WX} {σ : L2.St} {H : Hp} {rel : Hp → β → γ → Prop} {Q : β → Hp → Prop} {o : Option α} {k : α → R γ} (h : PostG mg W σ H rel Q ((R.of o).bd k)) : ∃ a, o = some a ∧ PostG mg W σ H rel Q (k a) := by
  cases o with
  | none => exact h.elim
  | some a => exact ⟨a, rfl, h⟩

/-! ### operators -/
def gBin (op : Operator) (ga gb : Rho → R PyData) : Rho → R PyData := fun ρ => (ga ρ).bd fun x => (gb ρ).bd fun y => R.of (binD op x y)
def negD : PyData → R PyData
  | .int i => .ok (.int (-i))
  | _ => .stuck
def gNeg (ga : Rho → R PyData) : Rho → R PyData := fun ρ => (ga ρ).bd negD
theorem sem_bin {op : Operator} (ha : SemE X a ga) (hb : SemE X b gb) : SemE X (.BinOp a op b pos) (gBin op ga gb) := fun W tk =>
  pe_imp (pe_op (op_binD op) (ha W tk) (hb W tk)) fun σ H Q ⟨ρ, env, post⟩ => ⟨ρ, env, post.seq fun x v H1 _ s1 r1 post1 => ⟨ρ, env.same s1, post1.seq fun y u H2 _ s2 r2 post2 => by
    obtain ⟨r, e, q⟩ := post2.use
    exact ⟨x, y, r, dp_same s2 r1, r2, e, q⟩⟩⟩
theorem sem_neg (ha : SemE X a ga) : SemE X (.UnaryOp .USub a pos) (gNeg ga) := fun W tk =>
  pe_imp (pe_un un_neg (ha W tk)) fun σ H Q ⟨ρ, env, post⟩ => ⟨ρ, env, post.seq fun x v H1 _ s1 r1 post1 => by
    cases r1 with
    | int i => exact ⟨i, rfl, post1 _ _ (Same.refl H1) (.int _)⟩
    | _ => exact post1.elim⟩
/-- a comparison -/
def gCmp (op : CmpOp) (ga gb : Rho → R PyData) : Rho → R Bool := fun ρ => (ga ρ).bd fun x => (gb ρ).bd fun y => R.of (cmpD op x y)
def asV (g : Rho → R Bool) : Rho → R PyData := fun ρ => (g ρ).bd fun b => .ok (.bool b)
theorem sem_cmp {op : CmpOp} {k : Nat} (hr : Room k X.A) (ha : SemE X a ga) (hb : SemE X b gb) (hm : behindInMarks op b = false := by rfl) : SemE X (.Compare a [op] [b] pos) (asV (gCmp op ga gb)) := fun W tk =>
  pe_imp (pe_cmpR (op_cmpD (hu65 hr) op) (ha W tk) (hb W tk) hm) fun σ H Q ⟨ρ, env, post⟩ => by
    have post' : PostG X.mg W σ H (rDp X.K) Q ((ga ρ).bd fun x => (gb ρ).bd fun y => (R.of (cmpD op x y)).bd fun b => .ok (.bool b)) := by
      have e : asV (gCmp op ga gb) ρ = ((ga ρ).bd fun x => (gb ρ).bd fun y => (R.of (cmpD op x y)).bd fun b => .ok (.bool b)) := by
        unfold asV gCmp
        simp only [R.bd_bd]
      rw [← e]; exact post
    exact ⟨ρ, env, post'.seq fun x v H1 _ s1 r1 post1 => ⟨ρ, env.same s1, post1.seq fun y u H2 _ s2 r2 post2 => by
      obtain ⟨r, e, q⟩ := post_of post2
      exact ⟨x, y, r, dp_same s2 r1, r2, e, q _ _ (Same.refl H2) (.bl _)⟩⟩⟩
theorem sem_cmpT {op : CmpOp} {k : Nat} (hr : Room k X.A) (ha : SemE X a ga) (hb : SemE X b gb) (hm : behindInMarks op b = false := by rfl) : SemT X (.Compare a [op] [b] pos) (gCmp op ga gb) := fun W tk =>
  pt_imp (pt_cmpR (op_cmpD (hu65 hr) op) (ha W tk) (hb W tk) hm) fun σ H Q ⟨ρ, env, post⟩ =>
    ⟨ρ, env, post.seq fun x v H1 _ s1 r1 post1 => ⟨ρ, env.same s1, post1.seq fun y u H2 _ s2 r2 post2 => by
      obtain ⟨r, e, q⟩ := post2.use
      exact ⟨x, y, r, dp_same s2 r1, r2, e, r, rfl, q _ _ (Same.refl H2) rfl⟩⟩⟩
/-- x < y < z -/
def gChain (op op' : CmpOp) (ga gb gc : Rho → R PyData) : Rho → R Bool := fun ρ => (ga ρ).bd fun x => (gb ρ).bd fun y => (R.of (cmpD op x y)).bd fun k => if k = true then (gc ρ).bd fun z => R.of (cmpD op' y z) else .ok false
theorem chain_rd {op op' : CmpOp} {W : WX} (σ : L2.St) (H : Hp) (ρ : Rho) (Q : VK) (env : EnvR X.K H σ ρ) (post : PostG X.mg W σ H rBo (fun b H' => Q (.bl b) H') (gChain op op' ga gb gc ρ)) :
    tChain (rDB X.K (cmpD op)) (rDB X.K (cmpD op')) (tP X.K X.mg W ga) (tP X.K X.mg W gb) (tP X.K X.mg W gc) σ H Q :=
  ⟨ρ, env, post.seq fun x v H1 _ s1 r1 post1 => ⟨ρ, env.same s1, post1.seq fun y u H2 _ s2 r2 post2 => by
    obtain ⟨r, e, q⟩ := post_of post2
    refine ⟨x, y, r, dp_same s2 r1, r2, e, r, rfl, ?_⟩
    cases r with
    | true =>
      rw [if_pos rfl] at q ⊢
      exact ⟨ρ, (env.same s1).same s2, q.seq fun z t H3 _ s3 r3 post3 => by
        obtain ⟨r', e', q'⟩ := post3.use
        exact ⟨y, z, r', dp_same s3 r2, r3, e', q' _ _ (Same.refl H3) rfl⟩⟩
    | false =>
      rw [if_neg Bool.false_ne_true] at q ⊢
      exact q _ _ (Same.refl H2) rfl⟩⟩
theorem post_asV {W : WX} {σ : L2.St} {H : Hp} {Q : VK} {m : R Bool} (post : PostG X.mg W σ H (rDp X.K) Q (m.bd fun b => .ok (.bool b))) : PostG X.mg W σ H rBo (fun b H' => Q (.bl b) H') m :=
  post.seq fun b b' H1 _ s1 r1 post1 => by
    subst r1
    exact post1 _ _ (Same.refl H1) (.bl _)
theorem sem_chain {op op' : CmpOp} {k : Nat} (hr : Room k X.A) (ha : SemE X a ga) (hb : SemE X b gb) (hc : SemE X c gc) (hm : lastMarks [op, op'] [b, c] = false := by with_unfolding_all rfl) : SemE X (.Compare a [op, op'] [b, c] pos) (asV (gChain op op' ga gb gc)) := fun W tk =>
  pe_imp (pe_chain (op_cmpD (hu65 hr) op) (op_cmpD (hu65 hr) op') (ha W tk) (hb W tk) (hc W tk) hm) fun σ H Q ⟨ρ, env, post⟩ => chain_rd σ H ρ Q env (post_asV post)
theorem sem_chainT {op op' : CmpOp} {k : Nat} (hr : Room k X.A) (ha : SemE X a ga) (hb : SemE X b gb) (hc : SemE X c gc) (hm : lastMarks [op, op'] [b, c] = false := by with_unfolding_all rfl) : SemT X (.Compare a [op, op'] [b, c] pos) (gChain op op' ga gb gc) := fun W tk =>
  pt_imp (pt_chain (op_cmpD (hu65 hr) op) (op_cmpD (hu65 hr) op') (ha W tk) (hb W tk) (hc W tk) hm) fun σ H Q ⟨ρ, env, post⟩ => chain_rd σ H ρ _ env (post.imp fun b b' H1 _ _ r q => ⟨b', rfl, q⟩)
/-- is None, is not None -/
def isNone : PyData → Bool
  | .none => true
  | _ => false
theorem isNone_rel {K : PySem.W.Frag} {H : Hp} {v : V} {d : PyData} (h : Dp K H v d) : decide (v = .non) = isNone d := by
  cases h <;> rfl
def gIsN (ga : Rho → R PyData) : Rho → R PyData := fun ρ => (ga ρ).bd fun x => .ok (.bool (isNone x))
def gNotN (ga : Rho → R PyData) : Rho → R PyData := fun ρ => (ga ρ).bd fun x => .ok (.bool (!isNone x))
theorem sem_isN {j : Nat} {pos' : Pos} (ha : SemE X a ga) : SemE X (.Compare a [.Is] [.Constant .none j pos'] pos) (gIsN ga) := fun W tk =>
  pe_imp (pe_cmp (pc_isN (ha W tk)) rfl) fun σ H Q ⟨ρ, env, post⟩ => ⟨ρ, env, post.seq fun x v H1 _ s1 r1 post1 => by
    rw [isNone_rel r1]
    exact post1 _ _ (Same.refl H1) (.bl _)⟩
theorem sem_notN {j : Nat} {pos' : Pos} (ha : SemE X a ga) : SemE X (.Compare a [.IsNot] [.Constant .none j pos'] pos) (gNotN ga) := fun W tk =>
  pe_imp (pe_cmp (pc_notN (ha W tk)) rfl) fun σ H Q ⟨ρ, env, post⟩ => ⟨ρ, env, post.seq fun x v H1 _ s1 r1 post1 => by
    rw [isNone_rel r1]
    exact post1 _ _ (Same.refl H1) (.bl _)⟩
/-- is True, is not False .. of bools -/
def bbD (f : Bool → Bool → Bool) : PyData → PyData → Option Bool
  | .bool i, .bool j => some (f i j)
  | _, _ => none
def gBB (f : Bool → Bool → Bool) (ga gb : Rho → R PyData) : Rho → R PyData := fun ρ => (ga ρ).bd fun x => (gb ρ).bd fun y => R.of ((bbD f x y).map .bool)
theorem sem_isB (ha : SemE X a ga) (hb : SemE X b gb) (hm : behindInMarks .Is b = false := by rfl) : SemE X (.Compare a [.Is] [b] pos) (gBB (fun i j => decide (i = j)) ga gb) := fun W tk =>
  pe_imp (pe_cmpR op_isBl (ha W tk) (hb W tk) hm) fun σ H Q ⟨ρ, env, post⟩ => ⟨ρ, env, post.seq fun x v H1 _ s1 r1 post1 => ⟨ρ, env.same s1, post1.seq fun y u H2 _ s2 r2 post2 => by
    obtain ⟨r, e, q⟩ := post2.use
    obtain ⟨k, hk, rfl⟩ := Option.map_eq_some_iff.mp e
    cases r1 with
    | bl i => cases r2 with
      | bl j => cases hk; exact ⟨_, _, rfl, rfl, q _ _ (Same.refl H2) (.bl _)⟩
      | _ => cases hk
    | _ => cases r2 <;> cases hk⟩⟩
theorem sem_isnotB (ha : SemE X a ga) (hb : SemE X b gb) (hm : behindInMarks .IsNot b = false := by rfl) : SemE X (.Compare a [.IsNot] [b] pos) (gBB (fun i j => !decide (i = j)) ga gb) := fun W tk =>
  pe_imp (pe_cmpR op_notBl (ha W tk) (hb W tk) hm) fun σ H Q ⟨ρ, env, post⟩ => ⟨ρ, env, post.seq fun x v H1 _ s1 r1 post1 => ⟨ρ, env.same s1, post1.seq fun y u H2 _ s2 r2 post2 => by
    obtain ⟨r, e, q⟩ := post2.use
    obtain ⟨k, hk, rfl⟩ := Option.map_eq_some_iff.mp e
    cases r1 with
    | bl i => cases r2 with
      | bl j => cases hk; exact ⟨_, _, rfl, rfl, q _ _ (Same.refl H2) (.bl _)⟩
      | _ => cases hk
    | _ => cases r2 <;> cases hk⟩⟩

/-! ### truth -/
def asB : PyData → Option Bool
  | .bool b => some b
  | _ => none
def gTest (g : Rho → R PyData) : Rho → R Bool := fun ρ => (g ρ).bd fun x => R.of (asB x)
theorem sem_valT (ha : SemE X a ga) (he : ∀ whole, isTrue a X.env whole = (do let v ← whole; standAt a.pos; holding [v] (truthy v)) := by intro _; rfl) : SemT X a (gTest ga) := fun W tk =>
  pt_imp (pt_val (ha W tk) he) fun σ H Q ⟨ρ, env, post⟩ => ⟨ρ, env, post.seq fun x v H1 _ s1 r1 post1 => by
    obtain ⟨r, e, q⟩ := post1.use
    cases r1 with
    | bl i => cases e; exact ⟨_, rfl, q _ _ (Same.refl H1) rfl⟩
    | _ => cases e⟩
variable {ta tb : Rho → R Bool} {rest : List Expr}
def gNotT (ta : Rho → R Bool) : Rho → R Bool := fun ρ => (ta ρ).bd fun x => .ok (!x)
def gNot (ga : Rho → R PyData) : Rho → R PyData := fun ρ => (ga ρ).bd fun x => R.of ((asB x).map fun b => .bool (!b))
def gIf (ta : Rho → R Bool) (ga gb : Rho → R PyData) : Rho → R PyData := fun ρ => (ta ρ).bd fun c => if c = true then ga ρ else gb ρ
theorem sem_notT (ha : SemT X a ta) : SemT X (.UnaryOp .Not a pos) (gNotT ta) := fun W tk =>
  pt_imp (pt_not (ha W tk)) fun σ H Q ⟨ρ, env, post⟩ => ⟨ρ, env, post.seq fun x v H1 _ s1 r1 post1 => by
    subst r1
    exact post1 _ _ (Same.refl H1) rfl⟩
theorem sem_not (ha : SemE X a ga) : SemE X (.UnaryOp .Not a pos) (gNot ga) := fun W tk =>
  pe_imp (pe_not (ha W tk)) fun σ H Q ⟨ρ, env, post⟩ => ⟨ρ, env, post.seq fun x v H1 _ s1 r1 post1 => by
    obtain ⟨r, e, q⟩ := post1.use
    cases r1 with
    | bl i => cases e; exact ⟨_, rfl, q _ _ (Same.refl H1) (.bl _)⟩
    | _ => cases e⟩
def SemW (X : Cx) (e : Expr) (g : Rho → R Bool) : Prop := ∀ W, Takes X W → PW X e (tPT X.K X.mg W g)
theorem pw_imp {X : Cx} {e : Expr} {t t' : TT} (h : PW X e t) (i : ∀ σ H Q, t' σ H Q → t σ H Q) : PW X e t' := ⟨fun wh pins s σ H Q I w => h.run wh pins s σ H Q I (i _ _ _ w)⟩
theorem sem_w (h : SemW X a ta) : SemT X a ta := fun W tk => (h W tk).pt
theorem sem_and1 (h : SemT X a ta) : SemW X (.BoolOp .And [a] pos) ta := fun W tk => pw_and1 (h W tk)
theorem sem_or1 (h : SemT X a ta) : SemW X (.BoolOp .Or [a] pos) ta := fun W tk => pw_or1 (h W tk)
def gAnd (ta tb : Rho → R Bool) : Rho → R Bool := fun ρ => (ta ρ).bd fun c => if c = true then tb ρ else .ok false
def gOr (ta tb : Rho → R Bool) : Rho → R Bool := fun ρ => (ta ρ).bd fun c => if c = true then .ok true else tb ρ
theorem sem_andW (ha : SemT X a ta) (hb : SemW X (.BoolOp .And (b :: rest) pos) tb) : SemW X (.BoolOp .And (a :: b :: rest) pos) (gAnd ta tb) := fun W tk =>
  pw_imp (pw_and (ha W tk) (hb W tk)) fun σ H Q ⟨ρ, env, post⟩ => ⟨ρ, env, post.seq fun x v H1 _ s1 r1 post1 => by
    subst r1
    cases v with
    | true => rw [if_pos rfl] at post1 ⊢; exact ⟨ρ, env.same s1, post1⟩
    | false => rw [if_neg Bool.false_ne_true] at post1 ⊢; exact post1 _ _ (Same.refl H1) rfl⟩
theorem sem_orW (ha : SemT X a ta) (hb : SemW X (.BoolOp .Or (b :: rest) pos) tb) : SemW X (.BoolOp .Or (a :: b :: rest) pos) (gOr ta tb) := fun W tk =>
  pw_imp (pw_or (ha W tk) (hb W tk)) fun σ H Q ⟨ρ, env, post⟩ => ⟨ρ, env, post.seq fun x v H1 _ s1 r1 post1 => by
    subst r1
    cases v with
    | true => rw [if_pos rfl] at post1 ⊢; exact post1 _ _ (Same.refl H1) rfl
    | false => rw [if_neg Bool.false_ne_true] at post1 ⊢; exact ⟨ρ, env.same s1, post1⟩⟩
/-- .. as values -/
theorem sem_one {op : BoolOp} (h : SemE X a ga) : SemE X (.BoolOp op [a] pos) ga := fun W tk => pe_one (h W tk)
def gAndV (ga gb : Rho → R PyData) : Rho → R PyData := fun ρ => (ga ρ).bd fun x => (R.of (asB x)).bd fun c => if c = true then gb ρ else .ok (.bool false)
def gOrV (ga gb : Rho → R PyData) : Rho → R PyData := fun ρ => (ga ρ).bd fun x => (R.of (asB x)).bd fun c => if c = true then .ok (.bool true) else gb ρ
theorem sem_and (ha : SemE X a ga) (hb : SemE X (.BoolOp .And (b :: rest) pos) gb) : SemE X (.BoolOp .And (a :: b :: rest) pos) (gAndV ga gb) := fun W tk =>
  pe_imp (pe_and (ha W tk) (hb W tk)) fun σ H Q ⟨ρ, env, post⟩ => ⟨ρ, env, post.seq fun x v H1 _ s1 r1 post1 => by
    obtain ⟨r, e, q⟩ := post_of post1
    cases r1 with
    | bl i =>
      cases e
      refine ⟨r, rfl, ?_⟩
      cases r with
      | true => rw [if_pos rfl] at q ⊢; exact ⟨ρ, env.same s1, q⟩
      | false => rw [if_neg Bool.false_ne_true] at q ⊢; exact q _ _ (Same.refl H1) (.bl _)
    | _ => cases e⟩
theorem sem_or (ha : SemE X a ga) (hb : SemE X (.BoolOp .Or (b :: rest) pos) gb) : SemE X (.BoolOp .Or (a :: b :: rest) pos) (gOrV ga gb) := fun W tk =>
  pe_imp (pe_or (ha W tk) (hb W tk)) fun σ H Q ⟨ρ, env, post⟩ => ⟨ρ, env, post.seq fun x v H1 _ s1 r1 post1 => by
    obtain ⟨r, e, q⟩ := post_of post1
    cases r1 with
    | bl i =>
      cases e
      refine ⟨r, rfl, ?_⟩
      cases r with
      | true => rw [if_pos rfl] at q ⊢; exact q _ _ (Same.refl H1) (.bl _)
      | false => rw [if_neg Bool.false_ne_true] at q ⊢; exact ⟨ρ, env.same s1, q⟩
    | _ => cases e⟩
theorem sem_if {t : Expr} (ht : SemT X t ta) (ha : SemE X a ga) (hb : SemE X b gb) : SemE X (.IfExp t a b pos) (gIf ta ga gb) := fun W tk =>
  pe_imp (pe_ifExp (ht W tk) (ha W tk) (hb W tk)) fun σ H Q ⟨ρ, env, post⟩ => ⟨ρ, env, post.seq fun x v H1 _ s1 r1 post1 => by
    subst r1
    cases v with
    | true => rw [if_pos rfl] at post1 ⊢; exact ⟨ρ, env.same s1, post1⟩
    | false => rw [if_neg Bool.false_ne_true] at post1 ⊢; exact ⟨ρ, env.same s1, post1⟩⟩

/-! ### items, slices -/
def idxD : PyData → PyData → Option PyData
  | .list ds, .int i => atI ds i
  | .tuple ds, .int i => atI ds i
  | _, _ => none
theorem atI_dp {K : PySem.W.Frag} {H : Hp} {vs : List V} {ds : List PyData} {i : Int} {d : PyData} (h : DpAll K H vs ds) (e : atI ds i = some d) : ∃ v, atI vs i = some v ∧ Dp K H v d := by
  unfold atI at e ⊢
  rw [dpAll_length h]
  cases z : ixN ds.length i with
  | none => rw [z] at e; cases e
  | some j =>
    rw [z] at e
    obtain ⟨v, h1, h2⟩ := dpAll_get h (show ds[j]? = some d from e)
    exact ⟨v, h1, h2⟩
theorem ix_D : IxR X (rD X.K idxD) := by
  intro value slice pins s σ H x y v u Q I rx ry ⟨d, e, r, hd, he, hr, q⟩ hs
  cases hd with
  | lst hl ha =>
    cases he with
    | int i =>
      obtain ⟨v', e1, h1⟩ := atI_dp ha (show atI _ i = some r from hr)
      exact ix_list value slice pins s σ H _ _ v u Q I rx ry ⟨_, _, i, v', rfl, rfl, hl, e1, q _ _ (Same.refl H) h1⟩ hs
    | _ => cases hr
  | tup hl ha =>
    cases he with
    | int i =>
      obtain ⟨v', e1, h1⟩ := atI_dp ha (show atI _ i = some r from hr)
      exact ix_tup value slice pins s σ H _ _ v u Q I rx ry ⟨_, _, i, v', rfl, rfl, hl, e1, q _ _ (Same.refl H) h1⟩ hs
    | _ => cases hr
  | _ => cases he <;> cases hr
def gIx (ga gb : Rho → R PyData) : Rho → R PyData := fun ρ => (ga ρ).bd fun x => (gb ρ).bd fun y => R.of (idxD x y)
theorem sem_ix (ha : SemE X a ga) (hb : SemE X b gb) (hs : PlainIx b := by exact fun _ _ => rfl) : SemE X (.Subscript a b pos) (gIx ga gb) := fun W tk =>
  pe_imp (pe_ix ix_D (ha W tk) (hb W tk) hs) fun σ H Q ⟨ρ, env, post⟩ => ⟨ρ, env, post.seq fun x v H1 _ s1 r1 post1 => ⟨ρ, env.same s1, post1.seq fun y u H2 _ s2 r2 post2 => by
    obtain ⟨r, e, q⟩ := post2.use
    exact ⟨x, y, r, dp_same s2 r1, r2, e, q⟩⟩⟩
def SemO (X : Cx) (e : Option Expr) (g : Rho → R (Option Int)) : Prop := ∀ W, Takes X W → PO X e fun σ H Q => ∃ ρ, EnvR X.K H σ ρ ∧ PostG X.mg W σ H (fun _ (a b : Option Int) => a = b) Q (g ρ)
def gON : Rho → R (Option Int) := fun _ => .ok none
theorem sem_none : SemO X none gON := fun W tk => ⟨fun pins s σ H Q I ⟨ρ, env, post⟩ => po_none.run pins s σ H Q I (post none H (Same.refl H) rfl)⟩
def asI : PyData → Option Int
  | .int i => some i
  | _ => none
def gOS (ga : Rho → R PyData) : Rho → R (Option Int) := fun ρ => (ga ρ).bd fun x => (R.of (asI x)).bd fun i => .ok (some i)
theorem sem_some (ha : SemE X a ga) : SemO X (some a) (gOS ga) := fun W tk => ⟨fun pins s σ H Q I ⟨ρ, env, post⟩ => (po_some (ha W tk)).run pins s σ H Q I
  ⟨ρ, env, post.seq fun x v H1 _ s1 r1 post1 => by
    obtain ⟨r, e, q⟩ := post_of post1
    cases r1 with
    | int i => cases e; exact ⟨_, rfl, q _ _ (Same.refl H1) rfl⟩
    | _ => cases e⟩⟩
def cutL {α : Type} (xs : List α) (lo hi : Option Int) : List α := (xs.drop (HT.sIx xs.length 0 lo)).take (HT.sIx xs.length xs.length hi - HT.sIx xs.length 0 lo)
def sliceD (lo hi : Option Int) : PyData → Option PyData
  | .list ds => some (.list (cutL ds lo hi))
  | .tuple ds => some (.tuple (cutL ds lo hi))
  | .str z => if z.length ≤ sizeLine then some (.str (cutS z lo hi)) else none
  | _ => none
theorem cut_dp {K : PySem.W.Frag} {H : Hp} {vs : List V} {ds : List PyData} (h : DpAll K H vs ds) (lo hi : Option Int) : DpAll K H (cutV vs lo hi) (cutL ds lo hi) := by
  unfold cutV cutL
  rw [dpAll_length h]
  exact dpAll_take _ (dpAll_drop _ h)
def rSlD (K : PySem.W.Frag) : V → Option Int → Option Int → Hp → VK → Prop := fun x lo hi H Q => ∃ d r, Dp K H x d ∧ sliceD lo hi d = some r ∧ ∀ v H', Same H H' → Dp K H' v r → Q v H'
theorem sl_D : SlR X (rSlD X.K) := by
  intro pins s σ H x v vl vu lo hi sl Q I rx hs pl pu ⟨d, r, hd, hr, q⟩
  cases hd with
  | lst hl ha =>
    cases hr
    exact sl_list pins s σ H _ v vl vu lo hi sl Q I rx hs pl pu ⟨_, _, rfl, hl, fun p hp => q _ _ (same_upd hp) (.lst (SqL.of upd_same) (cut_dp (dpAll_same (same_upd hp) ha) lo hi))⟩
  | @tup a' xs' ds' hl ha =>
    cases hr
    refine sl_tupA pins s σ H _ v vl vu lo hi sl Q I rx hs pl pu ⟨_, _, rfl, hl, fun e => ?_, fun e p hp => q _ _ (same_upd hp) (.tup (SqT.of upd_same) (cut_dp (dpAll_same (same_upd hp) ha) lo hi))⟩
    refine q _ _ (Same.refl H) (.tup hl ?_)
    have e2 : cutL ds' lo hi = ds' := by
      unfold cutL
      rw [← dpAll_length ha, e.1, e.2, List.drop_zero, Nat.sub_zero, dpAll_length ha, List.take_length]
    rw [e2]
    exact ha
  | str z =>
    obtain ⟨hl, rfl⟩ := ite_some hr
    exact sl_str pins s σ H _ v vl vu lo hi sl Q I rx hs pl pu ⟨z, rfl, hl, q _ _ (Same.refl H) (.str _)⟩
  | _ => cases hr
def gSl (ga : Rho → R PyData) (gl gh : Rho → R (Option Int)) : Rho → R PyData := fun ρ => (ga ρ).bd fun x => (gl ρ).bd fun l => (gh ρ).bd fun h => R.of (sliceD l h x)
theorem sem_slice {lo hi : Option Expr} {gl gh : Rho → R (Option Int)} {p2 : Pos} (ha : SemE X a ga) (hl : SemO X lo gl) (hh : SemO X hi gh) :
    SemE X (.Subscript a (.Slice lo hi none p2) pos) (gSl ga gl gh) := fun W tk =>
  pe_imp (pe_slice sl_D (ha W tk) (hl W tk) (hh W tk)) fun σ H Q ⟨ρ, env, post⟩ => ⟨ρ, env, post.seq fun x v H1 _ s1 r1 post1 => ⟨ρ, env.same s1, post1.seq fun l l' H2 _ s2 r2 post2 => ⟨ρ, (env.same s1).same s2, post2.seq fun h h' H3 _ s3 r3 post3 => by
    subst r2 r3
    obtain ⟨r, e, q⟩ := post3.use
    exact ⟨x, r, dp_same (s2.trans s3) r1, e, q⟩⟩⟩⟩

/-! ### calls of built-ins -/
def rDC (K : PySem.W.Frag) (F : List PyData → Option PyData) : List V → Hp → VK → Prop := fun xs H Q => ∃ ds r, DpAll K H xs ds ∧ F ds = some r ∧ ∀ v H', Same H H' → Dp K H' v r → Q v H'
variable {e : Expr} {es : List Expr} {gs : Rho → R (List PyData)} {F : List PyData → Option PyData}
def gBlt (F : List PyData → Option PyData) (gs : Rho → R (List PyData)) : Rho → R PyData := fun ρ => (gs ρ).bd fun xs => R.of (F xs)
theorem sem_blt {id : String} {x : Str} {p : Pos} (hc : CallR X (.builtin id) (rDC X.K F)) (hg : Gl X x) (hm : X.mg x = none) (hv : bootBuiltins x = some (.builtin id)) (ha : SemA X (e :: es) gs) (hn : x ≠ "__name__" := by decide) (hdb : (x == ("__debug__" : Str)) = false := by decide)
    (he : starEach (e :: es) X.env = (false, eval e X.env) :: starEach es X.env := by rfl) (hpl : (backTo pos (starEach es X.env)).any (·.1) = false := by rfl) : SemE X (.Call (.Name x p) (e :: es) [] pos) (gBlt F gs) := fun W tk =>
  pe_imp (pe_callB hc hg hm hv (ha W tk) hn hdb he hpl) fun σ H Q ⟨ρ, env, post⟩ => ⟨ρ, env, post.seq fun xs vs H1 _ s1 r1 post1 => by
    obtain ⟨r, e, q⟩ := post1.use
    exact ⟨xs, r, r1, e, q⟩⟩
theorem sem_ty {T : String} {x : Str} {p : Pos} (hc : CallR X (.type T) (rDC X.K F)) (hg : Gl X x) (hm : X.mg x = none) (hv : bootBuiltins x = some (.type T)) (ha : SemA X (e :: es) gs) (hn : x ≠ "__name__" := by decide) (hdb : (x == ("__debug__" : Str)) = false := by decide)
    (he : starEach (e :: es) X.env = (false, eval e X.env) :: starEach es X.env := by rfl) (hpl : (backTo pos (starEach es X.env)).any (·.1) = false := by rfl) : SemE X (.Call (.Name x p) (e :: es) [] pos) (gBlt F gs) := fun W tk =>
  pe_imp (pe_callTy hc hg hm hv (ha W tk) hn hdb he hpl) fun σ H Q ⟨ρ, env, post⟩ => ⟨ρ, env, post.seq fun xs vs H1 _ s1 r1 post1 => by
    obtain ⟨r, e, q⟩ := post1.use
    exact ⟨xs, r, r1, e, q⟩⟩
theorem dpAll1 {K : PySem.W.Frag} {H : Hp} {vs : List V} {d : PyData} (h : DpAll K H vs [d]) : ∃ v, vs = [v] ∧ Dp K H v d := by
  cases h with
  | cons a r => cases r; exact ⟨_, rfl, a⟩
theorem dpAll2 {K : PySem.W.Frag} {H : Hp} {vs : List V} {d e : PyData} (h : DpAll K H vs [d, e]) : ∃ v u, vs = [v, u] ∧ Dp K H v d ∧ Dp K H u e := by
  cases h with
  | cons a r => obtain ⟨u, rfl, b⟩ := dpAll1 r; exact ⟨_, _, rfl, a, b⟩
def lenD : List PyData → Option PyData
  | [.str x] => if x.length ≤ sizeLine then some (.int x.length) else none
  | [.list xs] => some (.int xs.length)
  | [.tuple xs] => some (.int xs.length)
  | _ => none
theorem call_lenD : CallR X (.builtin "len") (rDC X.K lenD) := by
  intro pins s σ H xs us Q I r ⟨ds, d, hd, hF, q⟩
  match ds, hF with
  | [.str x], hF =>
    obtain ⟨v, rfl, h1⟩ := dpAll1 hd
    cases h1
    obtain ⟨hl, rfl⟩ := ite_some hF
    exact call_len pins s σ H _ us Q I r ⟨_, x.length, rfl, ⟨hl, rfl⟩, q _ _ (Same.refl H) (.int _)⟩
  | [.list ys], hF =>
    obtain ⟨v, rfl, h1⟩ := dpAll1 hd
    cases hF
    cases h1 with
    | lst hs ha => exact call_len pins s σ H _ us Q I r ⟨_, ys.length, rfl, .inl ⟨_, hs, (dpAll_length ha).symm⟩, q _ _ (Same.refl H) (.int _)⟩
  | [.tuple ys], hF =>
    obtain ⟨v, rfl, h1⟩ := dpAll1 hd
    cases hF
    cases h1 with
    | tup hs ha => exact call_len pins s σ H _ us Q I r ⟨_, ys.length, rfl, .inr ⟨_, hs, (dpAll_length ha).symm⟩, q _ _ (Same.refl H) (.int _)⟩
def ints2 (f : Int → Int → Int) : List PyData → Option PyData
  | [.int i, .int j] => some (.int (f i j))
  | _ => none
def minI (i j : Int) : Int := if j < i then j else i
def maxI (i j : Int) : Int := if j > i then j else i
theorem call_minD (hc : X.calm = true) : CallR X (.builtin "min") (rDC X.K (ints2 minI)) := by
  intro pins s σ H xs us Q I r ⟨ds, d, hd, hF, q⟩
  match ds, hF with
  | [.int i, .int j], hF =>
    obtain ⟨v, u, rfl, h1, h2⟩ := dpAll2 hd
    cases h1
    cases h2
    cases hF
    exact call_min2 hc pins s σ H _ us Q I r ⟨i, j, rfl, q _ _ (Same.refl H) (.int _)⟩
theorem call_maxD (hc : X.calm = true) : CallR X (.builtin "max") (rDC X.K (ints2 maxI)) := by
  intro pins s σ H xs us Q I r ⟨ds, d, hd, hF, q⟩
  match ds, hF with
  | [.int i, .int j], hF =>
    obtain ⟨v, u, rfl, h1, h2⟩ := dpAll2 hd
    cases h1
    cases h2
    cases hF
    exact call_max2 hc pins s σ H _ us Q I r ⟨i, j, rfl, q _ _ (Same.refl H) (.int _)⟩
def absD : List PyData → Option PyData
  | [.int i] => some (.int (if i < 0 then -i else i))
  | _ => none
theorem call_absD : CallR X (.builtin "abs") (rDC X.K absD) := by
  intro pins s σ H xs us Q I r ⟨ds, d, hd, hF, q⟩
  match ds, hF with
  | [.int i], hF =>
    obtain ⟨v, rfl, h1⟩ := dpAll1 hd
    cases h1
    cases hF
    exact call_abs pins s σ H _ us Q I r ⟨i, rfl, q _ _ (Same.refl H) (.int _)⟩
def intD : List PyData → Option PyData
  | [.int i] => some (.int i)
  | [.bool b] => some (.int (if b then 1 else 0))
  | _ => none
theorem call_intD : CallR X (.type "int") (rDC X.K intD) := by
  intro pins s σ H xs us Q I r ⟨ds, d, hd, hF, q⟩
  match ds, hF with
  | [.int i], hF =>
    obtain ⟨v, rfl, h1⟩ := dpAll1 hd
    cases h1
    cases hF
    exact call_int1 pins s σ H _ us Q I r (.inl ⟨i, rfl, q _ _ (Same.refl H) (.int _)⟩)
  | [.bool b], hF =>
    obtain ⟨v, rfl, h1⟩ := dpAll1 hd
    cases h1
    cases hF
    exact call_int1 pins s σ H _ us Q I r (.inr ⟨b, rfl, q _ _ (Same.refl H) (.int _)⟩)
def boolD : List PyData → Option PyData
  | [.int i] => some (.bool (i != 0))
  | [.bool b] => some (.bool b)
  | _ => none
theorem call_boolD : CallR X (.type "bool") (rDC X.K boolD) := by
  intro pins s σ H xs us Q I r ⟨ds, d, hd, hF, q⟩
  match ds, hF with
  | [.int i], hF =>
    obtain ⟨v, rfl, h1⟩ := dpAll1 hd
    cases h1
    cases hF
    exact call_bool1 pins s σ H _ us Q I r (.inl ⟨i, rfl, q _ _ (Same.refl H) (.bl _)⟩)
  | [.bool b], hF =>
    obtain ⟨v, rfl, h1⟩ := dpAll1 hd
    cases h1
    cases hF
    exact call_bool1 pins s σ H _ us Q I r (.inr ⟨b, rfl, q _ _ (Same.refl H) (.bl _)⟩)
def tupleD : List PyData → Option PyData
  | [.list xs] => some (.tuple xs)
  | [.tuple xs] => some (.tuple xs)
  | _ => none
theorem call_tupleD : CallR X (.type "tuple") (rDC X.K tupleD) := by
  intro pins s σ H xs us Q I r ⟨ds, d, hd, hF, q⟩
  match ds, hF with
  | [.list ys], hF =>
    obtain ⟨v, rfl, h1⟩ := dpAll1 hd
    cases hF
    cases h1 with
    | lst hs ha => exact call_tuple_of pins s σ H _ us Q I r ⟨_, _, rfl, .inl ⟨hs, fun l hl => q _ _ (same_upd hl) (.tup (SqT.of upd_same) (dpAll_same (same_upd hl) ha))⟩⟩
  | [.tuple ys], hF =>
    obtain ⟨v, rfl, h1⟩ := dpAll1 hd
    cases hF
    cases h1 with
    | tup hs ha => exact call_tuple_of pins s σ H _ us Q I r ⟨_, _, rfl, .inr ⟨hs, q _ _ (Same.refl H) (.tup hs ha)⟩⟩
def listD : List PyData → Option PyData
  | [.list xs] => some (.list xs)
  | [.tuple xs] => some (.list xs)
  | _ => none
theorem call_listD : CallR X (.type "list") (rDC X.K listD) := by
  intro pins s σ H xs us Q I r ⟨ds, d, hd, hF, q⟩
  match ds, hF with
  | [.list ys], hF =>
    obtain ⟨v, rfl, h1⟩ := dpAll1 hd
    cases hF
    cases h1 with
    | lst hs ha => exact call_list_of pins s σ H _ us Q I r ⟨_, _, rfl, .inl hs, fun l hl => q _ _ (same_upd hl) (.lst (SqL.of upd_same) (dpAll_same (same_upd hl) ha))⟩
  | [.tuple ys], hF =>
    obtain ⟨v, rfl, h1⟩ := dpAll1 hd
    cases hF
    cases h1 with
    | tup hs ha => exact call_list_of pins s σ H _ us Q I r ⟨_, _, rfl, .inr hs, fun l hl => q _ _ (same_upd hl) (.lst (SqL.of upd_same) (dpAll_same (same_upd hl) ha))⟩
/-- all of a list of bools -/
def allB : List PyData → Option (List Bool)
  | [] => some []
  | .bool b :: r => (allB r).map (b :: ·)
  | _ :: _ => none
theorem allB_vs {K : PySem.W.Frag} {H : Hp} : ∀ {ds : List PyData} {vs : List V} {bs : List Bool}, DpAll K H vs ds → allB ds = some bs → vs = bs.map V.bl
  | [], _, _, h, e => by cases h; cases e; rfl
  | d :: ds, _, bs, h, e => by
    cases h with
    | cons a r =>
      cases a with
      | bl b =>
        obtain ⟨cs, hc, rfl⟩ := Option.map_eq_some_iff.mp (show (allB ds).map (b :: ·) = some bs from e)
        rw [List.map_cons, allB_vs r hc]
      | _ => cases e
def allD : List PyData → Option PyData
  | [.list xs] => (allB xs).map fun bs => .bool (bs.all id)
  | _ => none
theorem call_allD (hc : X.calm = true) : CallR X (.builtin "all") (rDC X.K allD) := by
  intro pins s σ H xs us Q I r ⟨ds, d, hd, hF, q⟩
  match ds, hF with
  | [.list ys], hF =>
    obtain ⟨v, rfl, h1⟩ := dpAll1 hd
    obtain ⟨bs, hb, rfl⟩ := Option.map_eq_some_iff.mp hF
    cases h1 with
    | lst hs ha =>
      rw [allB_vs ha hb] at hs
      exact cr_all hc pins s σ H _ us Q I r ⟨_, bs, rfl, hs, q _ _ (Same.refl H) (.bl _)⟩
end
end RL

namespace RL
open PySem PySem.Spec PyProof.Rows L2

/-! ### data without lists: it stays while the tuples stay -/
mutual
def noL : PyData → Bool
  | .none | .bool _ | .int _ | .str _ => true
  | .tuple xs => noLs xs
  | .list _ | .dict _ => false
def noLs : List PyData → Bool
  | [] => true
  | x :: xs => noL x && noLs xs
end
/-- tuples stay -/
def Tups (K : PySem.W.Frag) (H H' : Hp) : Prop := ∀ a xs, SqT K H a xs → SqT K H' a xs
theorem Tups.trans {K : PySem.W.Frag} {H H1 H2 : Hp} (a : Tups K H H1) (b : Tups K H1 H2) : Tups K H H2 := fun p xs h => b p xs (a p xs h)
theorem Same.tups {K : PySem.W.Frag} {H H' : Hp} (e : Same H H') : Tups K H H' := fun _ _ h => SqT.same e h
theorem Tups.lst {K : PySem.W.Frag} {H : Hp} {p : Addr} {o o' : HO} (h : H p = some o) (h1 : ∀ xs, o ≠ .tup xs) (h2 : ∀ ob u, o ≠ .frz ob u) : Tups K H (upd H p o') := fun a xs q => by
  rcases q with (q | ⟨ob, q⟩) | q
  · refine .inl (.inl ?_)
    rw [upd_ne]
    · exact q
    · rintro rfl
      rw [h] at q
      exact h1 _ (Option.some.inj q)
  · refine .inl (.inr ⟨ob, ?_⟩)
    rw [upd_ne]
    · exact q
    · rintro rfl
      rw [h] at q
      exact h2 _ _ (Option.some.inj q)
  · exact .inr q
theorem Tups.list {K : PySem.W.Frag} {H : Hp} {p : Addr} {xs : List V} {o' : HO} (h : H p = some (.lst xs)) : Tups K H (upd H p o') := Tups.lst h (fun _ e => nomatch e) fun _ _ e => nomatch e
mutual
theorem dp_imm {K : PySem.W.Frag} {H H' : Hp} (t : Tups K H H') : ∀ {d : PyData} {v : V}, noL d = true → Dp K H v d → Dp K H' v d
  | .none, _, _, h => by cases h; exact .non
  | .bool _, _, _, h => by cases h; exact .bl _
  | .int _, _, _, h => by cases h; exact .int _
  | .str _, _, _, h => by cases h; exact .str _
  | .list ds, _, n, h => by simp [noL] at n
  | .tuple ds, _, n, h => by
    cases h with
    | tup hs ha => exact .tup (t _ _ hs) (dpAll_imm t (by simpa [noL] using n) ha)
  | .dict _, _, n, h => by simp [noL] at n
theorem dpAll_imm {K : PySem.W.Frag} {H H' : Hp} (t : Tups K H H') : ∀ {ds : List PyData} {vs : List V}, noLs ds = true → DpAll K H vs ds → DpAll K H' vs ds
  | [], _, _, h => by cases h; exact .nil
  | d :: ds, _, n, h => by
    obtain ⟨n1, n2⟩ := Bool.and_eq_true_iff.mp (show (noL d && noLs ds) = true by simpa [noLs] using n)
    cases h with
    | cons h1 h2 => exact .cons (dp_imm t n1 h1) (dpAll_imm t n2 h2)
end
theorem noLs_append : ∀ {xs ys : List PyData}, noLs (xs ++ ys) = (noLs xs && noLs ys)
  | [], ys => by simp [noLs]
  | x :: xs, ys => by simp [noLs, noLs_append (xs := xs), Bool.and_assoc]

/-! ### isinstance -/
inductive Ty where
  | tuple | bool | int | str | list
  deriving DecidableEq
def Ty.name : Ty → String
  | .tuple => "tuple"
  | .bool => "bool"
  | .int => "int"
  | .str => "str"
  | .list => "list"
def tyName : PyData → String
  | .none => "NoneType"
  | .bool _ => "bool"
  | .int _ => "int"
  | .str _ => "str"
  | .list _ => "list"
  | .tuple _ => "tuple"
  | .dict _ => "dict"
def isTy : Ty → PyData → Bool
  | .tuple, .tuple _ => true
  | .bool, .bool _ => true
  | .int, .int _ => true
  | .int, .bool _ => true
  | .str, .str _ => true
  | .list, .list _ => true
  | _, _ => false
theorem dp_ty {K : PySem.W.Frag} {H : Hp} {v : V} {d : PyData} (h : Dp K H v d) : TyX K H v (.type (tyName d)) := by
  cases h with
  | non => exact .base .non
  | bl b => exact .base (.bl b)
  | int i => exact .base (.int i)
  | str x => exact .base (.str x)
  | lst hs ha =>
    rcases hs with (h | ⟨o, h⟩) | ⟨o, its, n, h, c, _⟩
    · exact .base (.lst h)
    · exact .base (.frz h)
    · exact .kList h c
  | tup hs ha =>
    rcases hs with (h | ⟨o, h⟩) | ⟨o, its, n, h, c, _⟩
    · exact .base (.tup h)
    · exact .fTuple h
    · exact .kTuple h c
theorem kit_isTy {K : PySem.W.Frag} {H : Hp} {v : V} (T : Ty) {d : PyData} (h : Dp K H v d) : PySem.W.kitOne K (.type (tyName d)) (.type T.name) = some (isTy T d) := by
  cases h <;> cases T <;> refine kit_ty ?_ <;> dsimp only [tyName, Ty.name, isTy] <;> decide +kernel
section
variable {X : Cx} {a b c : Expr} {ga gb gc : Rho → R PyData} {pos : Pos}
/-- a list of built-in classes by their names -/
def TyL (X : Cx) (es : List Expr) (ts : List Ty) : Prop := PA X es fun σ H Q => Q (ts.map fun t => V.ty t.name) H
theorem tyl_nil : TyL X [] [] := pa_imp pa_nil fun σ H Q h => h
theorem tyl_cons {x : Str} {es : List Expr} {ts : List Ty} {p : Pos} (T : Ty) (hg : Gl X x) (hm : X.mg x = none) (hv : bootBuiltins x = some (.type T.name)) (r : TyL X es ts) (hn : x ≠ "__name__" := by decide) (hd : (x == ("__debug__" : Str)) = false := by decide)
    (hs : starEach (.Name x p :: es) X.env = (false, eval (.Name x p) X.env) :: starEach es X.env := by rfl) : TyL X (.Name x p :: es) (T :: ts) :=
  pa_imp (pa_cons (pe_bltn (v := .ty T.name) hg hm hv rfl hn hd) r hs) fun σ H Q h => h
def gIsi (T : Ty) (ga : Rho → R PyData) : Rho → R PyData := fun ρ => (ga ρ).bd fun x => .ok (.bool (isTy T x))
def gIsiT (ts : List Ty) (ga : Rho → R PyData) : Rho → R PyData := fun ρ => (ga ρ).bd fun x => .ok (.bool (ts.any fun t => isTy t x))
theorem sem_isi {x : Str} {p1 p2 : Pos} (T : Ty) (hi : X.mg "isinstance" = none) (hm : X.mg x = none) (hv : bootBuiltins x = some (.type T.name)) (ha : SemE X a ga) (hgi : Gl X "isinstance" := by rfl) (hg : Gl X x := by rfl) (hn : x ≠ "__name__" := by decide) (hd : (x == ("__debug__" : Str)) = false := by decide)
    (he : starEach (a :: [.Name x p2]) X.env = (false, eval a X.env) :: starEach [.Name x p2] X.env := by rfl) (hpl : (backTo pos (starEach [.Name x p2] X.env)).any (·.1) = false := by rfl) :
    SemE X (.Call (.Name "isinstance" p1) [a, .Name x p2] [] pos) (gIsi T ga) := fun W tk =>
  pe_imp (pe_callB call_isi hgi hi PyProof.Rows.boot_isinstance (pa_cons (ha W tk) (tyl_cons T hg hm hv tyl_nil hn hd) he) (by decide) (by decide) he hpl) fun σ H Q ⟨ρ, env, post⟩ => ⟨ρ, env, post.seq fun d v H1 _ s1 r1 post1 => by
    exact ⟨v, .ty T.name, _, _, _, rfl, .ty _, dp_ty r1, kit_isTy T r1, post1 _ _ (Same.refl H1) (.bl _)⟩⟩
theorem kitAny_isTy {K : PySem.W.Frag} {H : Hp} {v : V} {d : PyData} (h : Dp K H v d) : ∀ ts : List Ty, PySem.W.kitAny K (.type (tyName d)) (ts.map fun t => .type t.name) = some (ts.any fun t => isTy t d)
  | [] => kitAny_nil
  | T :: ts => by
    refine kitAny_cons (kit_isTy T h) (fun e => ?_) fun e => ?_
    · rw [kitAny_isTy h ts, List.any_cons, e, Bool.false_or]
    · rw [List.any_cons, e, Bool.true_or]
theorem clsV_tys : ∀ ts : List Ty, Paired ClsV (ts.map fun t => V.ty t.name) (ts.map fun t => Value.type t.name)
  | [] => .nil
  | t :: ts => .cons (.ty _) (clsV_tys ts)
theorem sem_isiT {es : List Expr} {ts : List Ty} {p1 p2 : Pos} {k : Nat} (hts : ts.length ≤ 10) (hi : X.mg "isinstance" = none) (ht : TyL X es ts) (ha : SemE X a ga) (hgi : Gl X "isinstance" := by rfl)
    (he : starEach (a :: [.Tuple es k p2]) X.env = (false, eval a X.env) :: starEach [.Tuple es k p2] X.env := by rfl) (hs : starEach [.Tuple es k p2] X.env = (false, eval (.Tuple es k p2) X.env) :: starEach [] X.env := by rfl) (hpl : (backTo pos (starEach [.Tuple es k p2] X.env)).any (·.1) = false := by rfl) :
    SemE X (.Call (.Name "isinstance" p1) [a, .Tuple es k p2] [] pos) (gIsiT ts ga) := fun W tk =>
  pe_imp (pe_callB call_isiT hgi hi PyProof.Rows.boot_isinstance (pa_cons (ha W tk) (pa_cons (pe_tup ht) pa_nil hs) he) (by decide) (by decide) he hpl) fun σ H Q ⟨ρ, env, post⟩ => ⟨ρ, env, post.seq fun d v H1 _ s1 r1 post1 => by
    refine ⟨by rw [List.length_map, sizeLine_eq]; omega, fun p hp => ?_⟩
    show rIsiT X.K [v, V.ref p] _ Q
    exact ⟨v, p, _, _, _, _, rfl, upd_same, clsV_tys ts, dp_ty (dp_same (same_upd hp) r1), kitAny_isTy r1 ts, post1 _ _ (same_upd hp) (.bl _)⟩⟩

/-! ### calls of pure defs -/
def PostF (K : PySem.W.Frag) (mg : Str → Option Value) (H : Hp) (Q : VK) (E : XK) : R PyData → Prop
  | .ok d => ∀ v H', Same H H' → Dp K H' v d → Q v H'
  | .exc n => ∀ C H', mg n = some (.ref C) → Same H H' → E (.ref C) none H'
  | .stuck => False
  | .ask n k => ∀ i, i < n → PostF K mg H Q E (k i)
theorem postF_of {K : PySem.W.Frag} {mg : Str → Option Value} {W : WX} {σ : L2.St} {H : Hp} {Q : VK} {m : R PyData} (h : PostG mg W σ H (rDp K) Q m) : PostF K mg H Q (fun c d H' => W c d σ H') m := by
  induction m with
  | ok a => exact h
  | exc n => exact h
  | stuck => exact h
  | ask n k ih => exact fun i hi => ih i (h i hi)
/-- the promise: it computes m of the data -/
def spP (K : PySem.W.Frag) (mg : Str → Option Value) (n : Nat) (m : List PyData → R PyData) : Sp := fun vs H Q E => vs.length = n ∧ ∃ ds, DpAll K H vs ds ∧ PostF K mg H Q E (m ds)
/-- a def, told by what it computes -/
structure FnF (P : Program) (w : World) (K : PySem.W.Frag) (mg : Str → Option Value) (base : Heap) (k : Nat) (x : Str) (n : Nat) (sp : Sp) : Prop where
  ex : ∃ f fd ps, FnOk P w K mg base (L2.CX P w) k f fd ps sp ∧ mg x = some (.ref f) ∧ PySem.W.keepIn K (.ref f) = true ∧ Binds K fd ps [] ∧ ps.length = n
def gCall (n : Nat) (gs : Rho → R (List PyData)) (m : List PyData → R PyData) : Rho → R PyData := fun ρ => (gs ρ).bd fun ds => if ds.length = n then m ds else .stuck
theorem sem_call {x : Str} {n k : Nat} {m : List PyData → R PyData} {e : Expr} {es : List Expr} {gs : Rho → R (List PyData)} {p : Pos} (F : FnF X.prog X.w X.K X.mg X.base k x n (spP X.K X.mg n m)) (hr : Room k X.A) (ha : SemA X (e :: es) gs) (hg : Gl X x := by rfl)
    (hdb : (x == ("__debug__" : Str)) = false := by decide) (he : starEach (e :: es) X.env = (false, eval e X.env) :: starEach es X.env := by rfl) (hpl : (backTo pos (starEach es X.env)).any (·.1) = false := by rfl) : SemE X (.Call (.Name x p) (e :: es) [] pos) (gCall n gs m) := fun W tk => by
  obtain ⟨f, fd, ps, ok, hm, hk, hb, hl⟩ := F.ex
  refine pe_imp (pe_callS ok hr hg hm hk hb (fun σ => passAt tk σ) (ha W tk) hdb he hpl) fun σ H Q ⟨ρ, env, post⟩ => ⟨ρ, env, post.seq fun ds vs H1 _ s1 r1 post1 => ?_⟩
  split at post1
  · rename_i hn
    exact ⟨by rw [dpAll_length r1, hn], ds, r1, postF_of post1⟩
  · exact post1.elim
def gCall0 (m : List PyData → R PyData) : Rho → R PyData := fun _ => m []
theorem sem_call0 {x : Str} {k : Nat} {m : List PyData → R PyData} {p : Pos} (F : FnF X.prog X.w X.K X.mg X.base k x 0 (spP X.K X.mg 0 m)) (hr : Room k X.A) (hg : Gl X x := by rfl)
    (hdb : (x == ("__debug__" : Str)) = false := by decide) : SemE X (.Call (.Name x p) [] [] pos) (gCall0 m) := fun W tk => by
  obtain ⟨f, fd, ps, ok, hm, hk, hb, hl⟩ := F.ex
  refine ⟨fun pins s σ H Q I ⟨ρ, env, post⟩ => ?_⟩
  refine wpAny_Call_Name_kw (ld_glob I hg hm ?_ hdb)
  refine PySem.W.callWith_K0 I.kIn hk (run_fnS (us := []) (E := WE W) ok hr hb (passAt tk σ) I .nil ⟨rfl, [], .nil, ?_⟩)
  have post : PostG X.mg W σ H (rDp X.K) Q (m []) := post
  exact postF_of post
end

/-! ### targets -/
inductive Tg where
  | one (i : Nat)
  | many (is : List Nat)
def Tg.ix : Tg → List Nat
  | .one i => [i]
  | .many is => is
def Tg.vals : Tg → PyData → Option (List PyData)
  | .one _, d => some [d]
  | .many is, .tuple ds => if ds.length = is.length then some ds else none
  | .many _, _ => none
def setE : Rho → List Nat → List PyData → Rho
  | ρ, i :: is, d :: ds => setE (ρ.set i (.d d)) is ds
  | ρ, _, _ => ρ
def setS : L2.St → List Nat → List V → L2.St
  | σ, i :: is, v :: vs => setS (σ.set i (some v)) is vs
  | σ, _, _ => σ
theorem EnvR.sets {K : PySem.W.Frag} {H : Hp} : ∀ {is : List Nat} {vs : List V} {ds : List PyData} {ρ : Rho} {σ : L2.St}, EnvR K H σ ρ → DpAll K H vs ds → EnvR K H (setS σ is vs) (setE ρ is ds)
  | [], _, _, _, _, e, _ => by simp only [setS, setE]; exact e
  | i :: is, _, _, _, _, e, .nil => by simp only [setS, setE]; exact e
  | i :: is, _, _, _, _, e, .cons a r => by
    simp only [setS, setE]
    exact EnvR.sets (EnvR.setD e i a) r
section
variable {X : Cx} {pos : Pos}
def gTg (K : PySem.W.Frag) (T : Tg) : TG := fun v σ H Q => ∃ d ds, Dp K H v d ∧ T.vals d = some ds ∧ ∀ vs, vs.length = T.ix.length → DpAll K H vs ds → Q (setS σ T.ix vs) H
theorem tg_one {i : Nat} {x : Str} (hN : X.N.Nodup) (hi : X.N[i]? = some x := by rfl) (hx : Loc X.env.scope x := by first | exact Or.inl rfl | exact Or.inr rfl) (hf : X.fn x = true ∨ X.env.scope.names.lookup x = some .local := by first | exact .inl rfl | exact .inr rfl | assumption) : PG X (.Name x pos) (gTg X.K (.one i)) := by
  refine ⟨fun pins s σ H v u Q I r ⟨d, ds, hd, hv, q⟩ => (pg_name hN hi hx hf).run pins s σ H v u Q I r ?_⟩
  cases hv
  exact q [v] rfl (.cons hd .nil)
inductive TgL (X : Cx) : List Expr → List Nat → Prop where
  | nil : TgL X [] []
  | cons {i : Nat} {x : Str} {p : Pos} {es : List Expr} {is : List Nat} (hN : X.N.Nodup) (hi : X.N[i]? = some x) (hx : Loc X.env.scope x) (hf : X.fn x = true ∨ X.env.scope.names.lookup x = some .local)
      (hs : (assignEach (.Name x p :: es) X.env).map (·.2) = assign (.Name x p) X.env :: (assignEach es X.env).map (·.2)) (r : TgL X es is) : TgL X (.Name x p :: es) (i :: is)
def gAll : List Nat → TGs := fun is vs σ H Q => vs.length = is.length ∧ Q (setS σ is vs) H
theorem TgL.pgs : ∀ {es : List Expr} {is : List Nat}, TgL X es is → PGs X es (gAll is)
  | _, _, .nil => ⟨fun pins s σ H vs us Q I r ⟨hl, q⟩ => by
      have e : vs = [] := List.length_eq_zero_iff.mp hl
      subst e
      exact pgs_nil.run pins s σ H [] us Q I r ⟨rfl, q⟩⟩
  | _, _, .cons (i := i) (is := is) hN hi hx hf hs r => ⟨fun pins s σ H vs us Q I rv ⟨hl, q⟩ => by
      cases vs with
      | nil => simp at hl
      | cons v vs => exact (pgs_cons (pg_name hN hi hx hf) r.pgs hs).run pins s σ H (v :: vs) us Q I rv ⟨v, vs, rfl, by simpa using hl, q⟩⟩
theorem tg_many {es : List Expr} {is : List Nat} {k : Nat} (hc : X.calm = true) (h : TgL X es is) (hn : (assignEach es X.env).length = is.length := by rfl) (hst : (assignEach es X.env).findIdx? (·.1) = none := by rfl) : PG X (.Tuple es k pos) (gTg X.K (.many is)) := by
  refine ⟨fun pins s σ H v u Q I r ⟨d, ds, hd, hv, q⟩ => (pg_tup hc h.pgs hn hst).run pins s σ H v u Q I r ?_⟩
  cases hd with
  | tup hs ha =>
    obtain ⟨hl, rfl⟩ := ite_some hv
    exact ⟨_, _, rfl, hs, by rw [dpAll_length ha, hl], by rw [dpAll_length ha, hl], q _ (by rw [dpAll_length ha, hl]; rfl) ha⟩
  | _ => cases hv

/-! ### statements -/
inductive O where
  | nx (ρ : Rho) | rt (d : PyData) | exc (n : Str) | stuck | ask (n : Nat) (k : Nat → O)
def PostS (K : PySem.W.Frag) (mg : Str → Option Value) (W : WX) (D : Ends) (H : Hp) : O → Prop
  | .nx ρ => ∀ σ' H', Same H H' → EnvR K H' σ' ρ → D.nx σ' H'
  | .rt d => ∀ v H', Same H H' → Dp K H' v d → D.rt v H'
  | .exc n => ∀ C σ' H', mg n = some (.ref C) → Same H H' → W (.ref C) none σ' H'
  | .stuck => False
  | .ask n k => ∀ i, i < n → PostS K mg W D H (k i)
theorem PostS.mono {K : PySem.W.Frag} {mg : Str → Option Value} {W : WX} {D : Ends} {H H1 : Hp} {o : O} (s : Same H H1) (h : PostS K mg W D H o) : PostS K mg W D H1 o := by
  induction o with
  | nx ρ => exact fun σ' H' s' r => h σ' H' (s.trans s') r
  | rt d => exact fun v H' s' r => h v H' (s.trans s') r
  | exc n => exact fun C σ' H' e s' => h C σ' H' e (s.trans s')
  | stuck => exact h
  | ask n k ih => exact fun i hi => ih i (h i hi)
def tPS (K : PySem.W.Frag) (mg : Str → Option Value) (W : WX) (g : Rho → O) : TS := fun D σ H => ∃ ρ, EnvR K H σ ρ ∧ PostS K mg W D H (g ρ)
structure Tk (X : Cx) (W : WX) : Prop where
  tk : Takes X W
  po : PassesOwn (model X.prog X.w) X.A X.env X.xe
def SemS (X : Cx) (st : Stmt) (g : Rho → O) : Prop := ∀ W, Tk X W → PS X st (tPS X.K X.mg W g)
def SemSs (X : Cx) (sts : List Stmt) (g : Rho → O) : Prop := ∀ W, Tk X W → PSs X sts (tPS X.K X.mg W g)
def O.th : O → (Rho → O) → O
  | .nx ρ, f => f ρ
  | .rt d, _ => .rt d
  | .exc n, _ => .exc n
  | .stuck, _ => .stuck
  | .ask n k, f => .ask n fun i => (k i).th f
def R.to {α : Type} : R α → (α → O) → O
  | .ok a, f => f a
  | .exc n, _ => .exc n
  | .stuck, _ => .stuck
  | .ask n k, f => .ask n fun i => (k i).to f
@[simp] theorem O.th_ask (n : Nat) (k : Nat → O) (f : Rho → O) : (O.ask n k).th f = .ask n fun i => (k i).th f := rfl
@[simp] theorem R.to_ask {α : Type} (n : Nat) (k : Nat → R α) (f : α → O) : (R.ask n k).to f = .ask n fun i => (k i).to f := rfl
@[simp] theorem O.th_nx (ρ : Rho) (f : Rho → O) : (O.nx ρ).th f = f ρ := rfl
@[simp] theorem O.th_rt (d : PyData) (f : Rho → O) : (O.rt d).th f = .rt d := rfl
@[simp] theorem O.th_exc (n : Str) (f : Rho → O) : (O.exc n).th f = .exc n := rfl
@[simp] theorem O.th_stuck (f : Rho → O) : (O.stuck).th f = .stuck := rfl
@[simp] theorem R.to_ok {α : Type} (a : α) (f : α → O) : (R.ok a).to f = f a := rfl
@[simp] theorem R.to_exc {α : Type} (n : Str) (f : α → O) : (R.exc n : R α).to f = .exc n := rfl
@[simp] theorem R.to_stuck {α : Type} (f : α → O) : (R.stuck : R α).to f = .stuck := rfl
/-- from an expression's end to a statement's -/
theorem post_to {α β : Type} {K : PySem.W.Frag} {mg : Str → Option Value} {W : WX} {D : Ends} {σ : L2.St} {H : Hp} {rel : Hp → β → α → Prop} {m : R α} {f : α → O} {Q : β → Hp → Prop} (post : PostS K mg W D H (m.to f)) (h : ∀ a v H1, True → Same H H1 → rel H1 v a → PostS K mg W D H1 (f a) → Q v H1) : PostG mg W σ H rel Q m := by
  induction m with
  | ok a => exact fun v H' s r => h a v H' trivial s r (PostS.mono s post)
  | exc n => exact fun C H' e s => post C σ H' e s
  | stuck => exact post
  | ask n k ih => exact fun i hi => ih i (post i hi)
/-- from a block's end to its first statement's -/
theorem post_th {K : PySem.W.Frag} {mg : Str → Option Value} {W : WX} {D D' : Ends} {H : Hp} {o : O} {f : Rho → O} (post : PostS K mg W D H (o.th f)) (hr : ∀ v H', D.rt v H' → D'.rt v H') (h : ∀ ρ σ' H', Same H H' → EnvR K H' σ' ρ → PostS K mg W D H (f ρ) → D'.nx σ' H') : PostS K mg W D' H o := by
  induction o with
  | nx ρ => exact fun σ' H' s e => h ρ σ' H' s e post
  | rt d => exact fun v H' s r => hr _ _ (post v H' s r)
  | exc n => exact post
  | stuck => exact post
  | ask n k ih => exact fun i hi => ih i (post i hi)
variable {st : Stmt} {rest : List Stmt} {g g' : Rho → O} {e t : Expr} {ge : Rho → R PyData} {gt : Rho → R Bool}
def sNil : Rho → O := fun ρ => .nx ρ
def sSeq (g g' : Rho → O) : Rho → O := fun ρ => (g ρ).th g'
def sRet (ge : Rho → R PyData) : Rho → O := fun ρ => (ge ρ).to .rt
def sExpr (ge : Rho → R PyData) : Rho → O := fun ρ => (ge ρ).to fun _ => .nx ρ
def sSet (i : Nat) (ge : Rho → R PyData) : Rho → O := fun ρ => (ge ρ).to fun d => .nx (ρ.set i (.d d))
def tgO (T : Tg) (ρ : Rho) (d : PyData) : O := match T.vals d with
  | some ds => .nx (setE ρ T.ix ds)
  | none => .stuck
def sAsg (T : Tg) (ge : Rho → R PyData) : Rho → O := fun ρ => (ge ρ).to (tgO T ρ)
def sIf (gt : Rho → R Bool) (g g' : Rho → O) : Rho → O := fun ρ => (gt ρ).to fun b => if b = true then g ρ else g' ρ
def sExc (n : Str) : Rho → O := fun _ => .exc n
theorem sem_snil : SemSs X [] sNil := fun W tk => pss_imp pss_nil fun D σ H ⟨ρ, env, post⟩ => post σ H (Same.refl H) env
theorem sem_scons (h1 : SemS X st g) (h2 : SemSs X rest g') : SemSs X (st :: rest) (sSeq g g') := fun W tk => pss_imp (pss_cons (h1 W tk) (h2 W tk)) fun D σ H ⟨ρ, env, post⟩ => ⟨ρ, env, by
    have post : PostS X.K X.mg W D H ((g ρ).th g') := post
    exact post_th post (fun _ _ h => h) fun ρ' σ' H' s env' q => ⟨ρ', env', PostS.mono s q⟩⟩
theorem sem_sone (h1 : SemS X st g) : SemSs X [st] g := fun W tk => pss_imp (pss_one (h1 W tk)) fun D σ H h => h
theorem sem_ret (he : SemE X e ge) : SemS X (.Return (some e) pos) (sRet ge) := fun W tk => ps_imp (ps_ret (he W tk.tk)) fun D σ H ⟨ρ, env, post⟩ => ⟨ρ, env, post_to post fun a v H1 _ s r q => q v H1 (Same.refl H1) r⟩
theorem sem_expr (he : SemE X e ge) (hs : swapsWith e none pos.line X.env = pure false := by rfl) : SemS X (.Expr e pos) (sExpr ge) := fun W tk => ps_imp (ps_expr (he W tk.tk) hs) fun D σ H ⟨ρ, env, post⟩ => ⟨ρ, env, post_to post fun a v H1 _ s r q => q σ H1 (Same.refl H1) (env.same s)⟩
theorem sem_set {i : Nat} {x : Str} {pos' : Pos} (hN : X.N.Nodup) (he : SemE X e ge) (hi : X.N[i]? = some x := by rfl) (hx : Loc X.env.scope x := by first | exact Or.inl rfl | exact Or.inr rfl) (hs : swapsWith e (some (.Name x pos')) pos.line X.env = pure false := by rfl) (hf : X.fn x = true ∨ X.env.scope.names.lookup x = some .local := by first | exact .inl rfl | exact .inr rfl | assumption) :
    SemS X (.Assign [.Name x pos'] e pos) (sSet i ge) := fun W tk => ps_imp (ps_set hN hi hx (he W tk.tk) hs hf) fun D σ H ⟨ρ, env, post⟩ => ⟨ρ, env, post_to post fun a v H1 _ s r q => q _ H1 (Same.refl H1) ((env.same s).setD i r)⟩
theorem sem_asg {tg : Expr} {T : Tg} (hg : PG X tg (gTg X.K T)) (he : SemE X e ge) (hs : swapsWithSole [tg] e pos.line X.env = pure false := by rfl) (hw : swappedStores [tg] e X.env = pure none := by rfl) (h1 : (assignEach [tg] X.env).map (·.2) = [assign tg X.env] := by rfl) :
    SemS X (.Assign [tg] e pos) (sAsg T ge) := fun W tk => ps_imp (ps_asg (he W tk.tk) hg hs hw h1) fun D σ H ⟨ρ, env, post⟩ => ⟨ρ, env, post_to post fun a v H1 _ s r q => by
    unfold tgO at q
    split at q
    · rename_i ds hv
      exact ⟨a, ds, r, hv, fun vs hl hd => q _ H1 (Same.refl H1) ((env.same s).sets hd)⟩
    · exact q.elim⟩
theorem sem_sif {xs ys : List Stmt} {c : Expr} (hc : SemT X c gt) (ha : SemSs X xs g) (hb : SemSs X ys g') : SemS X (.If c xs ys pos) (sIf gt g g') := fun W tk => ps_imp (ps_if (hc W tk.tk) (ha W tk) (hb W tk)) fun D σ H ⟨ρ, env, post⟩ => ⟨ρ, env, post_to post fun a v H1 _ s r q => by
    subst r
    cases v with
    | true => rw [if_pos rfl] at q ⊢; exact ⟨ρ, env.same s, q⟩
    | false => rw [if_neg Bool.false_ne_true] at q ⊢; exact ⟨ρ, env.same s, q⟩⟩
theorem sem_pass : SemS X (.Pass pos) sNil := fun W tk => ps_imp ps_pass fun D σ H ⟨ρ, env, post⟩ => post σ H (Same.refl H) env

/-! ### raise -/
structure ExF (K : PySem.W.Frag) (mg : Str → Option Value) (n : Str) : Prop where
  ex : ∃ C, mg n = some (.ref C) ∧ PySem.W.excIn K C He.veBase "ValueError.__new__" = true ∧ PySem.W.keepIn K (.ref C) = true ∧ PySem.W.subIn K (.ref C) (.type "BaseException") = some true ∧ PySem.W.typeIn K (.ref C) = some (.type "type")
theorem sem_raise {n m : Str} {j : Nat} {p p2 p3 : Pos} (E : ExF X.K X.mg n) (hc : X.calm = true := by rfl) (hg : Gl X n := by rfl) (hdb : (n == ("__debug__" : Str)) = false := by decide) : SemS X (.Raise (some (.Call (.Name n p) [.Constant (.str m) j p2] [] p3)) none pos) (sExc n) := fun W tk => by
  obtain ⟨C, hm, q, kC, sb, ty⟩ := E.ex
  exact ps_imp (ps_raise hc tk.tk (pmk_own PySem.F.excBase_ValueError q hm kC (raises_own sb ty) hg hdb)) fun D σ H ⟨ρ, env, post⟩ => post C σ H hm (Same.refl H)
end
end RL

namespace RL
open PySem PySem.Spec PyProof.Rows L2

/-! ### what is walked -/
structure Yields (K : PySem.W.Frag) (H0 : Hp) (J : It) (ds : List PyData) : Prop where
  go : ∀ i H d, Same H0 H → ds[i]? = some d → J.go i H ∧ ∀ x H', J.yld i H x H' → Same H H' ∧ Dp K H' x d
  stop : ∀ H, Same H0 H → J.stop ds.length H
theorem Yields.same {K : PySem.W.Frag} {H0 H1 : Hp} {J : It} {ds : List PyData} (s : Same H0 H1) (y : Yields K H0 J ds) : Yields K H1 J ds :=
  ⟨fun i H d e => y.go i H d (s.trans e), fun H e => y.stop H (s.trans e)⟩
def tPI (K : PySem.W.Frag) (mg : Str → Option Value) (W : WX) (g : Rho → R (List PyData)) : TI := fun σ H R => ∃ ρ, EnvR K H σ ρ ∧ PostG mg W σ H (fun H' (J : It) ds => Yields K H' J ds) R (g ρ)
def SemI (X : Cx) (tg iter : Expr) (g : Rho → R (List PyData)) : Prop := ∀ W, Takes X W → PI X tg iter (tPI X.K X.mg W g)
theorem yields_list {K : PySem.W.Frag} {H : Hp} {a : Addr} {xs : List V} {ds : List PyData} (hs : SqL K H a xs) (ha : DpAll K H xs ds) : Yields K H (Itl K a) ds :=
  ⟨fun i H' d s e => by
    obtain ⟨v, h1, h2⟩ := dpAll_get ha e
    refine ⟨⟨xs, v, SqL.same s hs, h1⟩, fun x H2 ⟨e2, q⟩ => ?_⟩
    subst e2
    have h3 := q xs (SqL.same s hs)
    rw [h1] at h3
    cases h3
    exact ⟨Same.refl _, dp_same s h2⟩, fun H' s => ⟨xs, SqL.same s hs, by rw [dpAll_length ha]; exact Nat.le_refl _⟩⟩
theorem yields_tup {K : PySem.W.Frag} {H : Hp} {a : Addr} {xs : List V} {ds : List PyData} (hs : SqT K H a xs) (ha : DpAll K H xs ds) : Yields K H (Itt K a) ds :=
  ⟨fun i H' d s e => by
    obtain ⟨v, h1, h2⟩ := dpAll_get ha e
    refine ⟨⟨xs, v, SqT.same s hs, h1⟩, fun x H2 ⟨e2, q⟩ => ?_⟩
    subst e2
    have h3 := q xs (SqT.same s hs)
    rw [h1] at h3
    cases h3
    exact ⟨Same.refl _, dp_same s h2⟩, fun H' s => ⟨xs, SqT.same s hs, by rw [dpAll_length ha]; exact Nat.le_refl _⟩⟩
def rangeL (lo : Int) (n : Nat) : List PyData := (List.range n).map fun (i : Nat) => .int (lo + (i : Int))
theorem rangeL_length (lo : Int) (n : Nat) : (rangeL lo n).length = n := by unfold rangeL; rw [List.length_map, List.length_range]
theorem rangeL_get {lo : Int} {n i : Nat} {d : PyData} (h : (rangeL lo n)[i]? = some d) : i < n ∧ d = .int (lo + (i : Int)) := by
  unfold rangeL at h
  rw [List.getElem?_map] at h
  by_cases hi : i < n
  · rw [List.getElem?_range hi] at h
    exact ⟨hi, (Option.some.inj h).symm⟩
  · rw [List.getElem?_eq_none (by rw [List.length_range]; omega)] at h
    cases h
theorem yields_range {K : PySem.W.Frag} {H : Hp} (lo : Int) (n : Nat) : Yields K H (Itr lo n) (rangeL lo n) :=
  ⟨fun i H' d s e => by
    obtain ⟨hi, rfl⟩ := rangeL_get e
    exact ⟨hi, fun x H2 ⟨e2, q⟩ => by subst e2 q; exact ⟨Same.refl _, .int _⟩⟩, fun H' s => by rw [rangeL_length]; exact Nat.le_refl _⟩
def asSeq : PyData → Option (List PyData)
  | .list ds => some ds
  | .tuple ds => some ds
  | _ => none
section
variable {X : Cx} {tg e a b : Expr} {g ga gb : Rho → R PyData} {pos : Pos}
def iSeq (g : Rho → R PyData) : Rho → R (List PyData) := fun ρ => (g ρ).bd fun x => R.of (asSeq x)
/-- a list or a tuple, walked -/
theorem pi_seq {tl : TE} (hl : PE X e tl) : PI X tg e (fun σ H R => tl σ H fun x H1 => ∃ a, x = .ref a ∧ (((∃ xs, SqL X.K H1 a xs) ∧ R (Itl X.K a) H1) ∨ ((∃ xs, SqT X.K H1 a xs) ∧ R (Itt X.K a) H1))) := by
  refine ⟨fun pins s σ H R I h => ?_⟩
  refine thn (hl.run pins s σ H _ I h) fun v s1 ⟨x, H1, I1, r1, q1⟩ => ?_
  obtain ⟨a, e, ⟨⟨xs, hq⟩, q⟩ | ⟨⟨xs, hq⟩, q⟩⟩ := q1
  · subst e
    cases r1
    obtain ⟨its, rv, p, hz⟩ := I1.list hq
    refine wpAny_pyIter_list p.isList ?_
    refine ⟨s1.heap.objs.size, [s1.heap.objs.size], _, _, H1, rfl, I1.kept (t' := s1.toks) fun b o e => Heap.get?_push_of_some _ e, turn_list a _, ⟨_, Heap.get?_push_size _ rfl, rfl, rfl⟩, fun b hb => ?_, q⟩
    have e : b = s1.heap.objs.size := by simpa using hb
    subst e
    exact I1.fpOk (Nat.le_refl _) (I1.hok.fresh (Nat.le_refl _))
  · subst e
    cases r1
    obtain ⟨its, rv, p, hz⟩ := I1.tuple hq
    refine wpAny_pyIter_tuple (show s1.heap.IsTuple a its.toArray from p) ?_
    refine ⟨s1.heap.objs.size, [s1.heap.objs.size], _, _, H1, rfl, I1.kept (t' := s1.toks) fun b o e => Heap.get?_push_of_some _ e, turn_tuple a _, ⟨_, Heap.get?_push_size _ rfl, rfl, rfl⟩, fun b hb => ?_, q⟩
    have e : b = s1.heap.objs.size := by simpa using hb
    subst e
    exact I1.fpOk (Nat.le_refl _) (I1.hok.fresh (Nat.le_refl _))
theorem sem_iter (he : SemE X e g) : SemI X tg e (iSeq g) := fun W tk => pi_imp (pi_seq (he W tk)) fun σ H R ⟨ρ, env, post⟩ => ⟨ρ, env, post.seq fun x v H1 z s1 r1 post1 => by
    cases r1 with
    | lst hs ha => exact ⟨_, rfl, .inl ⟨⟨_, hs⟩, post1 _ _ (Same.refl H1) (yields_list hs ha)⟩⟩
    | tup hs ha => exact ⟨_, rfl, .inr ⟨⟨_, hs⟩, post1 _ _ (Same.refl H1) (yields_tup hs ha)⟩⟩
    | _ => exact post1.elim⟩
def inR (j : Int) : Prop := -(2 ^ 62) ≤ j ∧ j < 2 ^ 62
instance (j : Int) : Decidable (inR j) := by unfold inR; infer_instance
def range1D (x : PyData) : Option (List PyData) := (asI x).bind fun j => if inR j then some (rangeL 0 j.toNat) else none
def range2D (x y : PyData) : Option (List PyData) := (asI x).bind fun i => (asI y).bind fun j => if inR i ∧ inR j then some (rangeL i (j - i).toNat) else none
def iR1 (ga : Rho → R PyData) : Rho → R (List PyData) := fun ρ => (ga ρ).bd fun x => R.of (range1D x)
def iR2 (ga gb : Rho → R PyData) : Rho → R (List PyData) := fun ρ => (ga ρ).bd fun x => (gb ρ).bd fun y => R.of (range2D x y)
theorem sem_range1 {p : Pos} (hm : X.mg "range" = none) (ha : SemE X a ga) (hg : Gl X "range" := by rfl) (hs : starEach [a] X.env = [(false, eval a X.env)] := by rfl) : SemI X tg (.Call (.Name "range" p) [a] [] pos) (iR1 ga) := fun W tk =>
  pi_imp (pi_range1 hg hm (pa_cons (ha W tk) pa_nil hs) hs) fun σ H R ⟨ρ, env, post⟩ => ⟨ρ, env, post.seq fun x v H1 _ s1 r1 post1 => by
    obtain ⟨ds, e, q⟩ := post1.use
    cases r1 with
    | int j =>
      obtain ⟨c, rfl⟩ := ite_some (show (if inR j then some (rangeL 0 j.toNat) else none) = some ds from e)
      exact ⟨j, rfl, c.1, c.2, q _ _ (Same.refl H1) (yields_range 0 j.toNat)⟩
    | _ => cases e⟩
theorem sem_range2 {p : Pos} (hm : X.mg "range" = none) (ha : SemE X a ga) (hb : SemE X b gb) (hg : Gl X "range" := by rfl) (hs : starEach [a, b] X.env = [(false, eval a X.env), (false, eval b X.env)] := by rfl) (hs2 : starEach [b] X.env = [(false, eval b X.env)] := by rfl) : SemI X tg (.Call (.Name "range" p) [a, b] [] pos) (iR2 ga gb) := fun W tk =>
  pi_imp (pi_range2 hg hm (pa_cons (ha W tk) (pa_cons (hb W tk) pa_nil hs2) (by rw [hs, hs2])) hs hs2) fun σ H R ⟨ρ, env, post⟩ => ⟨ρ, env, post.seq fun x v H1 _ s1 r1 post1 => ⟨ρ, env.same s1, post1.seq fun y u H2 _ s2 r2 post2 => by
    obtain ⟨ds, e, q⟩ := post2.use
    cases r1 with
    | int i =>
      cases r2 with
      | int j =>
        obtain ⟨c, rfl⟩ := ite_some (show (if inR i ∧ inR j then some (rangeL i (j - i).toNat) else none) = some ds from e)
        exact ⟨i, j, rfl, ⟨c.1.1, c.1.2, c.2.1, c.2.2⟩, q _ _ (Same.refl H2) (yields_range i (j - i).toNat)⟩
      | _ => cases e
    | _ => cases r2 <;> cases e⟩⟩

/-! ### for -/
def forD (T : Tg) (body : Rho → O) : List PyData → Rho → O
  | [], ρ => .nx ρ
  | d :: r, ρ => match T.vals d with
    | none => .stuck
    | some xs => (body (setE ρ T.ix xs)).th (forD T body r)
def sFor (T : Tg) (gi : Rho → R (List PyData)) (gb : Rho → O) : Rho → O := fun ρ => (gi ρ).to fun ds => forD T gb ds ρ
theorem sem_for {iter : Expr} {body : List Stmt} {T : Tg} {gi : Rho → R (List PyData)} {gb : Rho → O} (hi : SemI X tg iter gi) (hg : PG X tg (gTg X.K T)) (hb : SemSs X body gb) (hc : X.calm = true := by rfl) (hs : ∀ x, foldedSetIterable iter X.env x = pure x := by intro _; rfl) :
    SemS X (.For tg iter body [] pos) (sFor T gi gb) := fun W tk => ps_imp (ps_for tk.po hc (hi W tk.tk) hg (hb W tk) hs) fun D σ H ⟨ρ, env, post⟩ => ⟨ρ, env, post_to post fun ds J H1 _ s1 y q => by
  refine ⟨fun i m σ' H' => m = ds.length - i ∧ i ≤ ds.length ∧ Same H1 H' ∧ ∃ ρ', EnvR X.K H' σ' ρ' ∧ PostS X.K X.mg W D H' (forD T gb (ds.drop i) ρ'), ⟨_, rfl, Nat.zero_le _, Same.refl H1, ρ, env.same s1, q⟩, fun i m σ' H' ⟨em, hle, s', ρ', env', q'⟩ => ?_⟩
  by_cases hi : ds.length ≤ i
  · refine .inl ⟨by rw [Nat.le_antisymm hle hi]; exact y.stop H' s', ?_⟩
    rw [List.drop_of_length_le hi] at q'
    exact q' σ' H' (Same.refl H') env'
  · refine .inr ?_
    have hlt : i < ds.length := by omega
    have e : ds[i]? = some ds[i] := List.getElem?_eq_getElem hlt
    obtain ⟨h1, h2⟩ := y.go i H' _ s' e
    refine ⟨h1, fun σ2 H2 => Same H1 H2 ∧ ∃ ρ2, EnvR X.K H2 σ2 ρ2 ∧ PostS X.K X.mg W D H2 (forD T gb (ds.drop (i + 1)) ρ2), fun σ2 H2 ⟨sN, rN⟩ => ⟨_, by omega, rfl, hlt, sN, rN⟩, fun x H2 hx => ?_⟩
    obtain ⟨s2, r2⟩ := h2 x H2 hx
    rw [List.drop_eq_getElem_cons hlt] at q'
    unfold forD at q'
    cases z : T.vals ds[i] with
    | none => rw [z] at q'; exact q'.elim
    | some xs =>
      rw [z] at q'
      refine ⟨_, xs, r2, z, fun vs hl hd => ⟨_, (env'.same s2).sets hd, ?_⟩⟩
      have q2 : PostS X.K X.mg W D H2 ((gb (setE ρ' T.ix xs)).th (forD T gb (ds.drop (i + 1)))) := PostS.mono s2 q'
      exact post_th q2 (fun _ _ h => h) fun ρ3 σ3 H3 s3 env3 q3 => ⟨(s'.trans s2).trans s3, ρ3, env3, PostS.mono s3 q3⟩⟩

/-! ### comprehensions -/
def lcD (T : Tg) (tt : Rho → R Bool) (te : Rho → R PyData) (ρ : Rho) : List PyData → R (List PyData)
  | [] => .ok []
  | d :: r => match T.vals d with
    | none => .stuck
    | some xs => (tt (setE ρ T.ix xs)).calm.bd fun b => if b = true then (te (setE ρ T.ix xs)).calm.bd fun y => if noL y = true then (lcD T tt te ρ r).bd fun ys => .ok (y :: ys) else .stuck else lcD T tt te ρ r
theorem wipe_set {σ : L2.St} {i : Nat} {x : Option V} : ∀ {vs : List Nat}, i ∈ vs → L2.wipe (σ.set i x) vs = L2.wipe σ vs
  | [], h => by simp at h
  | j :: r, h => by
    unfold L2.wipe
    by_cases hm : i ∈ r
    · rw [wipe_set hm]
    · have hj : i = j := by
        rcases List.mem_cons.mp h with e | e
        · exact e
        · exact (hm e).elim
      subst hj
      have key : ∀ (r : List Nat) (σ : L2.St), (L2.wipe (σ.set i x) r).set i none = (L2.wipe σ r).set i none := by
        intro r
        induction r with
        | nil => intro σ; simp [L2.wipe, List.set_set]
        | cons k r ih =>
          intro σ
          unfold L2.wipe
          by_cases hk : k = i
          · subst hk; rw [List.set_set, List.set_set]; exact ih σ
          · rw [List.set_comm _ _ hk, ih σ, List.set_comm _ _ (Ne.symm hk)]
      exact key r σ
theorem wipe_sets {vs : List Nat} : ∀ {is : List Nat} {xs : List V} {σ : L2.St}, (∀ i ∈ is, i ∈ vs) → L2.wipe (setS σ is xs) vs = L2.wipe σ vs
  | [], _, _, _ => by unfold setS; rfl
  | _ :: _, [], _, _ => by unfold setS; rfl
  | i :: is, x :: xs, σ, h => by
    unfold setS
    rw [wipe_sets (fun j hj => h j (List.mem_cons_of_mem _ hj)), wipe_set (h i List.mem_cons_self)]
theorem wipe_idem {σ : L2.St} (vs : List Nat) : L2.wipe (L2.wipe σ vs) vs = L2.wipe σ vs := by
  have key : ∀ (ws : List Nat), (∀ i ∈ ws, i ∈ vs) → ∀ σ : L2.St, L2.wipe (L2.wipe σ ws) vs = L2.wipe σ vs := by
    intro ws
    induction ws with
    | nil => intro _ σ; rfl
    | cons j r ih =>
      intro h σ
      show L2.wipe ((L2.wipe σ r).set j none) vs = L2.wipe σ vs
      rw [wipe_set (h j List.mem_cons_self), ih (fun i hi => h i (List.mem_cons_of_mem _ hi))]
  exact key vs (fun _ h => h) σ
def gYes : Rho → R Bool := fun _ => .ok true
def SemTs (X : Cx) (ifs : List Expr) (g : Rho → R Bool) : Prop := ∀ W, Takes X W → PTs X ifs (tPT X.K X.mg W g)
theorem sem_ts0 : SemTs X [] gYes := fun W tk => ⟨fun pins s σ H Q I ⟨ρ, env, post⟩ => pts_nil.run pins s σ H Q I (post true H (Same.refl H) rfl)⟩
theorem sem_ts1 {c : Expr} {gt : Rho → R Bool} (h : SemT X c gt) : SemTs X [c] gt := fun W tk => pts_one (h W tk)
def gLc (T : Tg) (own : List Nat) (gi : Rho → R (List PyData)) (tt : Rho → R Bool) (te : Rho → R PyData) : Rho → R PyData := fun ρ => (gi ρ).bd fun ds => if ds.length ≤ sizeLine then (lcD T tt te (wipeE ρ own) ds).bd fun ys => .ok (.list ys) else .stuck
abbrev W0 : WX := fun _ _ _ _ => False
theorem lc_rd {T : Tg} {own : List Nat} {gi : Rho → R (List PyData)} {tt : Rho → R Bool} {te : Rho → R PyData} {W : WX} (hT : ∀ i ∈ T.ix, i ∈ own) {Q : Addr → Hp → Prop} {σ : L2.St} {H : Hp} {ρ : Rho} (env : EnvR X.K H σ ρ)
    (post : PostG X.mg W σ H (rDp X.K) (fun v H' => ∀ D, v = .ref D → Q D H') (gLc T own gi tt te ρ)) :
    tPI X.K X.mg W gi σ H fun J H1 => ∀ D, H1 D = none → ∃ WW : Nat → Nat → Hp → Prop, (∃ m, WW 0 m (upd H1 D (.lst []))) ∧ ∀ i m H, WW i m H →
      (J.stop i H ∧ Q D H) ∨ (J.go i H ∧ ∃ Nx : Hp → Prop, (∀ H', Nx H' → ∃ m', m' < m ∧ WW (i + 1) m' H') ∧ ∀ x H', J.yld i H x H' → gTg X.K T x (L2.wipe σ own) H' fun σ2 H2 => L2.wipe σ2 own = L2.wipe σ own ∧ tPT X.K X.mg W0 tt σ2 H2 fun b H3 =>
        if b = true then tP X.K X.mg W0 te σ2 H3 fun y H4 => ∃ acc, H4 D = some (.lst acc) ∧ acc.length < sizeLine ∧ Nx (upd H4 D (.lst (acc ++ [y]))) else Nx H3) := by
  refine ⟨ρ, env, post.seq fun ds J H1 _ s1 y post1 => fun D hD => ?_⟩
  split at post1
  case isFalse => exact post1.elim
  rename_i hlen
  refine ⟨fun i m H' => m = ds.length - i ∧ i ≤ ds.length ∧ Same H1 H' ∧ ∃ acc done, H' D = some (.lst acc) ∧ DpAll X.K H' acc done ∧ noLs done = true ∧ done.length ≤ i ∧ PostG X.mg W σ H1 (rDp X.K) (fun v H' => ∀ D, v = .ref D → Q D H') ((lcD T tt te (wipeE ρ own) (ds.drop i)).bd fun ys => .ok (.list (done ++ ys))),
    ⟨_, rfl, Nat.zero_le _, same_upd hD, [], [], upd_same, .nil, by simp [noLs], Nat.zero_le _, post1⟩, fun i m H' ⟨em, hle, s', acc, done, hacc, hd, hn, hdl, er⟩ => ?_⟩
  by_cases hi : ds.length ≤ i
  · refine .inl ⟨by rw [Nat.le_antisymm hle hi]; exact y.stop H' s', ?_⟩
    rw [List.drop_of_length_le hi] at er
    exact er (.ref D) H' s' (by rw [List.append_nil]; exact .lst (SqL.of hacc) hd) D rfl
  · refine .inr ?_
    have hlt : i < ds.length := by omega
    have e : ds[i]? = some ds[i] := List.getElem?_eq_getElem hlt
    obtain ⟨h1, h2⟩ := y.go i H' _ s' e
    refine ⟨h1, fun H2 => Same H1 H2 ∧ ∃ acc done, H2 D = some (.lst acc) ∧ DpAll X.K H2 acc done ∧ noLs done = true ∧ done.length ≤ i + 1 ∧ PostG X.mg W σ H1 (rDp X.K) (fun v H' => ∀ D, v = .ref D → Q D H') ((lcD T tt te (wipeE ρ own) (ds.drop (i + 1))).bd fun ys => .ok (.list (done ++ ys))),
      fun H2 ⟨sN, rN⟩ => ⟨_, by omega, rfl, hlt, sN, rN⟩, fun x H2 hx => ?_⟩
    obtain ⟨s2, r2⟩ := h2 x H2 hx
    rw [List.drop_eq_getElem_cons hlt] at er
    unfold lcD at er
    cases z : T.vals ds[i] with
    | none => rw [z] at er; exact er.elim
    | some xs =>
      rw [z] at er
      have envW : EnvR X.K H2 (L2.wipe σ own) (wipeE ρ own) := EnvR.wipe (env.same (s1.trans (s'.trans s2))) own
      refine ⟨_, xs, r2, z, fun vs hl hdv => ⟨by rw [wipe_sets hT, wipe_idem], _, envW.sets hdv, ?_⟩⟩
      dsimp only at er
      rw [R.bd_bd] at er
      refine PostG.calm (s'.trans s2) er fun b b' H3 s3 eb er => ?_
      subst eb
      cases b' with
      | false =>
        rw [if_neg Bool.false_ne_true] at er ⊢
        exact ⟨s'.trans (s2.trans s3), acc, done, s3 _ _ (s2 _ _ hacc), dpAll_same (s2.trans s3) hd, hn, Nat.le_succ_of_le hdl, er⟩
      | true =>
        rw [if_pos rfl] at er ⊢
        rw [R.bd_bd] at er
        refine ⟨_, (envW.sets hdv).same s3, PostG.calm ((s'.trans s2).trans s3) er fun d v H4 s4 rv er => ?_⟩
        by_cases hnd : noL d = true
        case neg => rw [if_neg hnd] at er; exact er.elim
        rw [if_pos hnd, R.bd_bd] at er
        have hacc4 : H4 D = some (.lst acc) := s4 _ _ (s3 _ _ (s2 _ _ hacc))
        have hd4 : DpAll X.K H4 acc done := dpAll_same (s2.trans (s3.trans s4)) hd
        have hl1 : acc.length = done.length := dpAll_length hd
        have sD : Same H1 (upd H4 D (.lst (acc ++ [v]))) := fun b u q => by
          rw [upd_ne (ne_of_none q hD)]
          exact s4 _ _ (s3 _ _ (s2 _ _ (s' _ _ q)))
        refine ⟨acc, hacc4, by omega, sD, acc ++ [v], done ++ [d], upd_same, dpAll_append (dpAll_imm (Tups.list hacc4) hn hd4) (.cons (dp_imm (Tups.list hacc4) hnd rv) .nil), ?_, ?_, ?_⟩
        · rw [noLs_append, hn]
          simp [noLs, hnd]
        · rw [List.length_append]
          simp only [List.length_cons, List.length_nil]
          omega
        · have e : ∀ ys : List PyData, done ++ [d] ++ ys = done ++ d :: ys := fun ys => by simp
          simp only [e]
          exact er
theorem sem_lc {elt iter : Expr} {ifs : List Expr} {scope : Scope} {own : List (Str × Nat)} {T : Tg} {gi : Rho → R (List PyData)} {tt : Rho → R Bool} {te : Rho → R PyData} (hN : X.N.Nodup) (hi : SemI X tg iter gi) (ok : BlkOk X.N X.env.scope scope own) (hT : ∀ i ∈ T.ix, i ∈ own.map (·.2))
    (hg : ∀ (s : Shared) (H : Hp) (C : Addr) (cl : List (Str × Addr)) (fp : List Addr), PG (X.blk s H scope (compEnvC scope cl C X.env) fp) tg (gTg X.K T)) (ht : ∀ (s : Shared) (H : Hp) (C : Addr) (cl : List (Str × Addr)) (fp : List Addr), SemTs (X.blk s H scope (compEnvC scope cl C X.env) fp) ifs tt)
    (he : ∀ (s : Shared) (H : Hp) (C : Addr) (cl : List (Str × Addr)) (fp : List Addr), SemE (X.blk s H scope (compEnvC scope cl C X.env) fp) elt te) (hc : X.calm = true := by rfl) (hs : ∀ x, foldedSetIterable iter X.env x = pure x := by intro _; rfl) :
    SemE X (.ListComp elt [⟨tg, iter, ifs, 0⟩] scope pos) (gLc T (own.map (·.2)) gi tt te) := fun W tk => by
  refine pe_imp (pe_lc hc hN (hi W tk) ok hg (tt := tPT X.K X.mg W0 tt) (te := tP X.K X.mg W0 te) (fun s H C cl fp => ht s H C cl fp W0 takes0) (fun s H C cl fp => he s H C cl fp W0 takes0) hs) fun σ H Q ⟨ρ, env, post⟩ => ?_
  exact lc_rd (Q := fun D H' => Q (.ref D) H') hT env (post.imp fun a v H1 _ _ r q D e => by subst e; exact q)
theorem sem_setLc {i : Nat} {y : Str} {py : Pos} {elt iter : Expr} {ifs : List Expr} {scope : Scope} {own : List (Str × Nat)} {spos : Pos} {T : Tg} {gi : Rho → R (List PyData)} {tt : Rho → R Bool} {te : Rho → R PyData} (hN : X.N.Nodup)
    (hsw : swapsWith (.ListComp elt [⟨tg, iter, ifs, 0⟩] scope pos) (some (.Name y py)) spos.line X.env = pure true) (hi : SemI X tg iter gi) (ok : BlkOk X.N X.env.scope scope own) (hT : ∀ i ∈ T.ix, i ∈ own.map (·.2))
    (hg : ∀ (s : Shared) (H : Hp) (C : Addr) (cl : List (Str × Addr)) (fp : List Addr), PG (X.blk s H scope (compEnvC scope cl C X.env) fp) tg (gTg X.K T)) (ht : ∀ (s : Shared) (H : Hp) (C : Addr) (cl : List (Str × Addr)) (fp : List Addr), SemTs (X.blk s H scope (compEnvC scope cl C X.env) fp) ifs tt)
    (he : ∀ (s : Shared) (H : Hp) (C : Addr) (cl : List (Str × Addr)) (fp : List Addr), SemE (X.blk s H scope (compEnvC scope cl C X.env) fp) elt te) (hy : X.N[i]? = some y := by rfl) (hyl : X.env.scope.names.lookup y = some .local := by rfl) (hc : X.calm = true := by rfl) (hs : ∀ x, foldedSetIterable iter X.env x = pure x := by intro _; rfl) :
    SemS X (.Assign [.Name y py] (.ListComp elt [⟨tg, iter, ifs, 0⟩] scope pos) spos) (sSet i (gLc T (own.map (·.2)) gi tt te)) := fun W tk => by
  refine ps_imp (ps_setLc hc hN hy hyl hsw (hi W tk.tk) ok hg (tt := tPT X.K X.mg W0 tt) (te := tP X.K X.mg W0 te) (fun s H C cl fp => ht s H C cl fp W0 takes0) (fun s H C cl fp => he s H C cl fp W0 takes0) hs) fun D σ H ⟨ρ, env, post⟩ => ?_
  refine lc_rd (Q := fun a H' => D.nx (σ.set i (some (.ref a))) H') hT env (post_to post fun d v H1 _ s r q a e => ?_)
  subst e
  exact q _ H1 (Same.refl H1) ((env.same s).setD i r)
end

/-! ### a pure def keeps its promise -/
def startE (N : List Str) (ds : List PyData) : Rho := ds.map .d ++ List.replicate (N.length - ds.length) .u
theorem envR_start {K : PySem.W.Frag} {H : Hp} {N : List Str} {vs : List V} {ds : List PyData} (h : DpAll K H vs ds) : EnvR K H (L2.start N vs) (startE N ds) := by
  unfold L2.start startE
  rw [dpAll_length h]
  have rep : ∀ n : Nat, EnvR K H (List.replicate n none) (List.replicate n .u) := by
    intro n
    induction n with
    | zero => exact .nil
    | succ n ih => exact .cons trivial ih
  have app : ∀ {vs : List V} {ds : List PyData}, DpAll K H vs ds → ∀ {ρ σ}, EnvR K H σ ρ → EnvR K H (vs.map some ++ σ) (ds.map .d ++ ρ) := by
    intro vs
    induction vs with
    | nil => intro ds h ρ σ e; cases h; exact e
    | cons v vs ih =>
      intro ds h ρ σ e
      cases h with
      | cons a r => exact .cons ⟨v, rfl, a⟩ (ih r e)
  exact app h (rep _)
/-- what a body computes -/
def O.done : O → R PyData
  | .rt d => .ok d
  | .nx _ => .ok .none
  | .exc n => .exc n
  | .stuck => .stuck
  | .ask n k => .ask n fun i => (k i).done
def runD (N : List Str) (g : Rho → O) (ds : List PyData) : R PyData := (g (startE N ds)).done
theorem post_done {K : PySem.W.Frag} {mg : Str → Option Value} {H : Hp} {Q : VK} {E : XK} {o : O} (post : PostF K mg H Q E o.done) : PostS K mg (fun cls d _ H => E cls d H) { nx := fun _ H' => Q .non H', rt := Q } H o := by
  induction o with
  | nx ρ => exact fun σ' H' s' _ => post .non H' s' .non
  | rt d => exact post
  | exc nm => exact fun C σ' H' e s' => post C H' e s'
  | stuck => exact post.elim
  | ask n k ih => exact fun i hi => ih i (post i hi)
theorem ok_pure {P : Program} {w : World} {K : PySem.W.Frag} {mg : Str → Option Value} {base : Heap} {k n : Nat} {x qual : Str} {params : Arguments} {body : List Stmt} {scope : Scope} {dvs : List V} {kws : List (Str × V)} {f : Addr} {fd : FuncData} {N ps : List Str} {g : Rho → O}
    (F : FunD K x qual params body scope dvs kws f fd) (S : FnScope N ps scope) (hn : ps.length = n)
    (hbody : ∀ (cdv : Value) (A : Around) (outer : List Env) (s : Shared) (H : Hp) (E : XK), Room k (A.deeper (envOfC qual scope s.heap.objs.size f cdv)) → SemSs (cxOf (L2.CX P w) P w K mg base N qual scope f cdv A outer s H E) body g) :
    FnOk P w K mg base (L2.CX P w) (k + 1) f fd ps (spP K mg n (runD N g)) := by
  refine F.ok S (fun vs H Q E h => by rw [hn]; exact h.1) fun cdv A outer s H vs Q E hr ⟨hl, ds, hd, post⟩ => ?_
  exact ⟨_, hbody cdv A outer s H E hr _ ⟨takes_of rfl rfl rfl rfl, passes_of rfl⟩, startE N ds, envR_start hd, post_done post⟩
end RL

namespace PySem
open Sem (wp)
/-! ### enumerate(v) of anything that begins -/
theorem meets_enumerate_new1 {v : Value} {o : Obj} {H : Heap → Prop} (B : Begins v o H) :
    Meets (Builtin.«enumerate.__new__» ⟨[.type "enumerate", v], []⟩) (fun _ R s => H s.heap ∧
      R (.ok (.ret (.ref (s.heap.push o).objs.size))) { s with heap := (s.heap.push o).push { cls := .type "enumerate", data := .fields #[.none, .bool false, .ref s.heap.objs.size, rawInt 0, .none, .none] } }) :=
  .of_wp fun prog w A R s h => by
    obtain ⟨hp, g, d, tk, os⟩ := s; obtain ⟨h1, h⟩ := h
    have hsub := sub_enumerate
    have q1 : ∀ {A' : Around} {E : Value → Shared → Prop} {Q : Value → Shared → Prop}, Q (.ref hp.objs.size) ⟨hp.push o, g, d, tk, os⟩ → wpAny (model prog w) A' (pyIter v) Q E ⟨hp, g, d, tk, os⟩ :=
      fun q => B.iter prog w _ _ ⟨hp, g, d, tk, os⟩ _ h1 q
    wp_walk using q1
    refine wpAny_stack_any fun st => wpAny_pure ?_
    split
    · rename_i c _ _ _ _ _
      cases (c == Value.type "enumerate")
      · wp_walk using q1
        exact ⟨_, rfl, h⟩
      · wp_walk using q1
        exact ⟨_, rfl, h⟩
    · wp_walk using q1
      exact ⟨_, rfl, h⟩
section
variable {prog : Program} {w : World} {A : Around} {E : Value → Shared → Prop} {s : Shared}
theorem enum_begins1 {v : Value} {o : Obj} {H : Heap → Prop} {Q : Value → Shared → Prop} (B : Begins v o H) (h1 : H s.heap)
    (h : ∀ h', IsEnum h' (s.heap.objs.size + 1) s.heap.objs.size 0 .none → h'.get? s.heap.objs.size = some o → h'.objs.size = s.heap.objs.size + 2 →
      (∀ b o, s.heap.get? b = some o → h'.get? b = some o) → Q (.ref (s.heap.objs.size + 1)) { s with heap := h' }) :
    wpAny (model prog w) A (call (.type "enumerate") [v]) Q E s := by
  refine callType_new F.called_enumerate (by decide) (F.typeCall_enumerate_1 _) (F.newCall_enumerate_1 _) (fun obj => F.args_object_init_2 obj _) F.entry_enumerate_new
    (meets_enumerate_new1 B) ⟨h1, ?_⟩
  have hz : (s.heap.push o).objs.size = s.heap.objs.size + 1 := Heap.size_push ..
  show _ ∧ _
  rw [hz]
  have he : IsEnum ((s.heap.push o).push { cls := .type "enumerate", data := .fields #[.none, .bool false, .ref s.heap.objs.size, rawInt 0, .none, .none] }) (s.heap.objs.size + 1) s.heap.objs.size 0 .none := by
    have := Heap.get?_push_size (s.heap.push o) (o := { cls := .type "enumerate", data := .fields #[.none, .bool false, .ref s.heap.objs.size, rawInt 0, .none, .none] }) rfl
    rw [hz] at this; exact this
  refine ⟨⟨_, he, rfl⟩, h _ he (Heap.get?_push_of_some _ (Heap.get?_push_size _ B.free)) (by rw [Heap.size_push, hz]) fun b o x => Heap.get?_push_of_some _ (Heap.get?_push_of_some _ x)⟩
end
end PySem
namespace RL
open PySem PySem.Spec PyProof.Rows L2

/-! ### a list, a tuple as a source -/
/-- what v draws is vs; St: its iterator's own state, at it -/
structure Src (P : Program) (w : World) (K : PySem.W.Frag) (Gd : Hp → Prop) (v : V) (vs : List V) (it : Addr) (St : Nat → Heap → Prop) : Prop where
  obj : ∀ i h, St i h → ∃ o, h.get? it = some o ∧ ∀ c, o.data ≠ .cell c
  keep : ∀ i h h', St i h → (∀ o, h.get? it = some o → h'.get? it = some o) → St i h'
  dr : ∀ (X : Cx) (pins : List (Addr × Obj)) (σ : L2.St) (H : Hp) (s : Shared), X.prog = P → X.w = w → X.K = K → Inv X pins σ H s → Gd H → FpOk X pins H it → ∃ (its : List Value) (a : Addr) (GH : Heap → Prop), Vals vs its ∧ GH s.heap ∧ (∀ b, FpOk X pins H b → b ≠ a) ∧
    ∀ A : Around, A.handled = none → Draws P w A it [it, a] its.length (fun i u => its[i]? = some u) (fun i h => St i h ∧ GH h)
theorem fp_ne {X : Cx} {pins : List (Addr × Obj)} {σ : L2.St} {H : Hp} {s : Shared} (I : Inv X pins σ H s) {a : Addr} (h : (∃ u, H a = some u) ∨ ∃ o, X.K.lookup a = some o) {b : Addr} (f : FpOk X pins H b) : b ≠ a := by
  rintro rfl
  rcases h with ⟨u, h⟩ | ⟨o, h⟩
  · rw [f.1] at h; cases h
  · have hb := I.ok.mod.kin _ _ h
    rcases f.2.2.2.1 with hx | hx
    · exact I.ok.noex _ _ hb hx
    · exact absurd (Nat.lt_of_lt_of_le (Heap.lt_size (I.ok.bs _ _ hb).1) hx) (Nat.lt_irrefl _)
theorem SqL.there {K : PySem.W.Frag} {H : Hp} {a : Addr} {xs : List V} (h : SqL K H a xs) : (∃ u, H a = some u) ∨ ∃ o, K.lookup a = some o := by
  rcases h with (h | ⟨o, h⟩) | ⟨o, its, n, h, _⟩
  · exact .inl ⟨_, h⟩
  · exact .inl ⟨_, h⟩
  · exact .inr ⟨_, h⟩
theorem SqT.there {K : PySem.W.Frag} {H : Hp} {a : Addr} {xs : List V} (h : SqT K H a xs) : (∃ u, H a = some u) ∨ ∃ o, K.lookup a = some o := by
  rcases h with (h | ⟨o, h⟩) | ⟨o, its, n, h, _⟩
  · exact .inl ⟨_, h⟩
  · exact .inl ⟨_, h⟩
  · exact .inr ⟨_, h⟩
theorem src_list {P : Program} {w : World} {K : PySem.W.Frag} {a it : Addr} {vs : List V} : Src P w K (fun H => SqL K H a vs) (.ref a) vs it (fun i h => h.IsListIter it a i) where
  obj := fun i h ⟨o, ho, hc, hd⟩ => ⟨o, ho, fun c e => by rw [hd] at e; cases e⟩
  keep := fun i h h' st k => st.at k
  dr := fun X pins σ H s hP hw hK I hq hf => by
    subst hP hw hK
    obtain ⟨its, rv, p, _⟩ := I.list hq
    refine ⟨its, a, fun h => h.IsList a its.toArray, rv, p.isList, fun b f => fp_ne I (SqL.there hq) f, fun A hh => ?_⟩
    have D := Draws.list (prog := X.prog) (w := X.w) hh it a (Ne.symm (fp_ne I (SqL.there hq) hf)) its.toArray
    simpa using D
theorem src_tup {P : Program} {w : World} {K : PySem.W.Frag} {a it : Addr} {vs : List V} : Src P w K (fun H => SqT K H a vs) (.ref a) vs it (fun i h => h.IsTupleIter it a i) where
  obj := fun i h ⟨o, ho, hc, hd⟩ => ⟨o, ho, fun c e => by rw [hd] at e; cases e⟩
  keep := fun i h h' st k => st.at k
  dr := fun X pins σ H s hP hw hK I hq hf => by
    subst hP hw hK
    obtain ⟨its, rv, p, _⟩ := I.tuple hq
    refine ⟨its, a, fun h => h.IsTuple a its.toArray, rv, p, fun b f => fp_ne I (SqT.there hq) f, fun A hh => ?_⟩
    have D := Draws.tuple (prog := X.prog) (w := X.w) hh it a (Ne.symm (fp_ne I (SqT.there hq) hf)) its.toArray
    simpa using D
/-! ### enumerate -/
def ItE (Gd : Hp → Prop) (vs : List V) : It :=
  ⟨fun i H => Gd H ∧ i < vs.length, fun i H v H' => ∃ T x, v = .ref T ∧ H T = none ∧ H' = upd H T (.tup [.int (i : Nat), x]) ∧ vs[i]? = some x, fun i H => Gd H ∧ i = vs.length⟩
theorem turn_enumS {P : Program} {w : World} {K : PySem.W.Frag} {elts : List Expr} {kk : Nat} {tpos : Pos} {Gd : Hp → Prop} {v : V} {vs : List V} {e it : Addr} {St : Nat → Heap → Prop} (S : Src P w K Gd v vs it St) :
    Turn P w K (.Tuple elts kk tpos) (ItE Gd vs) [e, it] e (fun i h => (∃ old, IsEnum h e it ((i : Nat) : Int) old) ∧ St i h ∧ e ≠ it) where
  mem := by simp
  obj := fun i h st b hb => by
    obtain ⟨⟨old, he⟩, hst, _⟩ := st
    have e' : b = e ∨ b = it := by simpa using hb
    rcases e' with z | z
    · rw [z]; exact ⟨_, he, fun v q => nomatch q⟩
    · rw [z]; exact S.obj i h hst
  keep := fun i h h' st k => let ⟨⟨old, he⟩, hi, hne⟩ := st; ⟨⟨old, k e (by simp) _ he⟩, S.keep i h h' hi (fun o q => k it (by simp) o q), hne⟩
  item := by
    intro X hP hw hK hc i pins s σ H E I hf st hg
    obtain ⟨⟨old, he⟩, hit, hne⟩ := st
    obtain ⟨hG, hlt⟩ := hg
    obtain ⟨its, a, GH, rv, hgh, hfa, D⟩ := S.dr X pins σ H s hP hw hK I hG (hf it (by simp))
    subst hP hw hK
    have hel : e < s.heap.objs.size := Heap.lt_size he
    have hil : it < s.heap.objs.size := by obtain ⟨o, q, _⟩ := S.obj i _ hit; exact Heap.lt_size q
    have hl := rv.length
    have hea : e ≠ a := hfa e (hf e (by simp))
    refine wpAny_pyNext_enum_itemD (D X.A.in1 (I.ok.hd hc)) he ⟨hit, hgh⟩ (by omega) hne (by simp [hne, hea]) fun u h' tk hu ho hst' hT hsz hk => ?_
    obtain ⟨x, hx, ru⟩ : ∃ x, vs[i]? = some x ∧ RelV x u := by
      obtain ⟨u', hu', ru'⟩ := rv.get (List.getElem?_eq_getElem hlt)
      rw [hu] at hu'
      cases hu'
      exact ⟨_, List.getElem?_eq_getElem hlt, ru'⟩
    refine ⟨_, rfl, wpAny_letOwnedTupleGo_enum (s := { s with heap := h', toks := tk + 1 }) ho fun h'' he' sb => ?_⟩
    have hT2 : h''.get? s.heap.objs.size = some { cls := .type "tuple", data := .seq #[.int i tk, u] } := (sb.2 _ (Nat.ne_of_gt hel)).trans hT
    have new : ObjOk X.prog X.w (upd H s.heap.objs.size (.tup [.int (i : Nat), x])) h'' s.heap.objs.size (.tup [.int (i : Nat), x]) :=
      ⟨by show 2 ≤ sizeLine; decide, [.int i tk, u], .cons ⟨_, rfl⟩ (.cons ru .nil), ⟨_, hT2, rfl, _, rfl⟩⟩
    have I1 : Inv X pins σ (upd H s.heap.objs.size (.tup [.int (i : Nat), x])) { s with heap := h'', toks := tk + 1 } :=
      I.turnedNew (ch := [e, it]) (fun b ob hb q => (sb.2 b (fun z => hb (by simp [z]))).trans (hk b ob (fun z => hb (by simp [z])) (fun z => hb (by simp [z])) q)) hf (Nat.le_refl _) new
    refine ⟨.ref s.heap.objs.size, _, I1, rfl, ⟨_, x, rfl, I.hok.fresh (Nat.le_refl _), rfl, hx⟩, ⟨⟨u, ?_⟩, S.keep _ h' h'' hst'.1 (fun o q => (sb.2 it (Ne.symm hne)).trans q), hne⟩, fun b hb => ?_⟩
    · have e1 : ((i + 1 : Nat) : Int) = (i : Int) + 1 := by omega
      rw [e1]; exact he'
    · have hb' : b < s.heap.objs.size := by
        have e' : b = e ∨ b = it := by simpa using hb
        rcases e' with z | z
        · rw [z]; exact hel
        · rw [z]; exact hil
      rw [upd_ne (Nat.ne_of_lt hb')]
      exact (hf b hb).1
  done := by
    intro X hP hw hK hc i pins s σ H E I hf st hg
    obtain ⟨⟨old, he⟩, hit, hne⟩ := st
    obtain ⟨hG, hlt⟩ := hg
    obtain ⟨its, a, GH, rv, hgh, hfa, D⟩ := S.dr X pins σ H s hP hw hK I hG (hf it (by simp))
    subst hP hw hK
    obtain ⟨f0, f1, f2, f3, f4, f5⟩ := hf it (by simp)
    have hl := rv.length
    have ei : i = its.length := by omega
    subst ei
    exact wpAny_pyNext_enum_endD (D X.A.in1 (I.ok.hd hc)) he ⟨hit, hgh⟩ fun h' eb => ⟨rfl, I.turned (t' := s.toks) (fun b o hb q => eb b o hb q) f0 f1 f3 f4 f5⟩
  self := fun A i s Q E st h => let ⟨⟨_, he⟩, _⟩ := st; wpAny_pyIter_enum he h
/-- what begins: v's iterator -/
structure SrcB (P : Program) (w : World) (K : PySem.W.Frag) (Gd : Hp → Prop) (v : V) (vs : List V) : Prop where
  begins : ∀ (X : Cx) (pins : List (Addr × Obj)) (σ : L2.St) (H : Hp) (s : Shared) (u : Value), X.prog = P → X.w = w → X.K = K → Inv X pins σ H s → Gd H → RelV v u → ∃ (o : Obj) (BH : Heap → Prop), Begins u o BH ∧ BH s.heap ∧
    ∀ it : Addr, ∃ St : Nat → Heap → Prop, Src P w K Gd v vs it St ∧ ∀ h, h.get? it = some o → St 0 h
theorem srcB_list {P : Program} {w : World} {K : PySem.W.Frag} {a : Addr} {vs : List V} : SrcB P w K (fun H => SqL K H a vs) (.ref a) vs where
  begins := fun X pins σ H s u hP hw hK I hq r => by
    subst hP hw hK
    obtain ⟨its, rv, p, _⟩ := I.list hq
    cases r
    exact ⟨_, _, begins_list a its.toArray, p.isList, fun it => ⟨_, src_list, fun h e => ⟨_, e, rfl, rfl⟩⟩⟩
theorem srcB_tup {P : Program} {w : World} {K : PySem.W.Frag} {a : Addr} {vs : List V} : SrcB P w K (fun H => SqT K H a vs) (.ref a) vs where
  begins := fun X pins σ H s u hP hw hK I hq r => by
    subst hP hw hK
    obtain ⟨its, rv, p, _⟩ := I.tuple hq
    cases r
    exact ⟨_, _, begins_tuple a its.toArray, p, fun it => ⟨_, src_tup, fun h e => ⟨_, e, rfl, rfl⟩⟩⟩
def iEnumS (P : Program) (w : World) (K : PySem.W.Frag) (ta : TA) : TI := fun σ H R => ta σ H fun xs H1 => ∃ v vs Gd, xs = [v] ∧ SrcB P w K Gd v vs ∧ Gd H1 ∧ R (ItE Gd vs) H1
theorem pi_enumS {X : Cx} {e : Expr} {ta : TA} {p pos tpos : Pos} {elts : List Expr} {kk : Nat} (hg : Gl X "enumerate") (hm : X.mg "enumerate" = none) (ha : PA X [e] ta) (hs : starEach [e] X.env = [(false, eval e X.env)] := by rfl) :
    PI X (.Tuple elts kk tpos) (.Call (.Name "enumerate" p) [e] [] pos) (iEnumS X.prog X.w X.K ta) := by
  refine ⟨fun pins s σ H R I h => ?_⟩
  refine Call_ (ld_blt I hg hm boot_enumerate (PyProof.Rows.callWith_type1 (thn (ha.run pos pins s σ H _ I h) fun us s1 ⟨xs, H1, I1, r1, q1⟩ => ?_) hs rfl))
  obtain ⟨v, vs, Gd, ex, B, hG, q⟩ := q1
  subst ex
  cases r1 with
  | cons r rr =>
    cases rr
    obtain ⟨o, BH, Bg, hB, hS⟩ := B.begins X pins σ H1 s1 _ rfl rfl rfl I1 hG r
    obtain ⟨St, S, hst0⟩ := hS s1.heap.objs.size
    refine enum_begins1 Bg hB fun h' he hit hsz hk => wpAny_pyIter_enum he ?_
    have I2 : Inv X pins σ H1 { s1 with heap := h' } := I1.kept (t' := s1.toks) hk
    refine ⟨s1.heap.objs.size + 1, [s1.heap.objs.size + 1, s1.heap.objs.size], _, _, H1, rfl, I2, turn_enumS S, ⟨⟨.none, he⟩, hst0 _ hit, Nat.succ_ne_self _⟩, fun b hb => ?_, q⟩
    have e' : b = s1.heap.objs.size + 1 ∨ b = s1.heap.objs.size := by simpa using hb
    have hle : s1.heap.objs.size ≤ b := by
      rcases e' with z | z
      · rw [z]; exact Nat.le_add_right _ _
      · rw [z]; exact Nat.le_refl _
    exact I1.fpOk hle (I1.hok.fresh hle)
def enumL : Nat → List PyData → List PyData
  | _, [] => []
  | i, d :: ds => .tuple [.int (i : Int), d] :: enumL (i + 1) ds
theorem enumL_get : ∀ {ds : List PyData} {j i : Nat}, (enumL j ds)[i]? = (ds[i]?).map fun d => .tuple [.int ((j + i : Nat) : Int), d]
  | [], j, i => by simp [enumL]
  | d :: ds, j, 0 => by simp [enumL]
  | d :: ds, j, i + 1 => by
    rw [enumL, List.getElem?_cons_succ, List.getElem?_cons_succ, enumL_get, show j + 1 + i = j + (i + 1) by omega]
theorem enumL_length : ∀ {ds : List PyData} {j : Nat}, (enumL j ds).length = ds.length
  | [], _ => rfl
  | d :: ds, j => by rw [enumL, List.length_cons, List.length_cons, enumL_length]
theorem yields_enum {K : PySem.W.Frag} {H0 : Hp} {Gd : Hp → Prop} {vs : List V} {ds : List PyData} (hg : ∀ H, Same H0 H → Gd H) (hd : DpAll K H0 vs ds) : Yields K H0 (ItE Gd vs) (enumL 0 ds) :=
  ⟨fun i H d s e => by
    rw [enumL_get] at e
    obtain ⟨d', e1, rfl⟩ := Option.map_eq_some_iff.mp e
    obtain ⟨v, h1, h2⟩ := dpAll_get hd e1
    refine ⟨⟨hg H s, (List.getElem?_eq_some_iff.mp h1).1⟩, fun x H' ⟨T, y, ex, hT, eH, hy⟩ => ?_⟩
    subst ex eH
    rw [h1] at hy
    cases hy
    refine ⟨same_upd hT, .tup (SqT.of upd_same) (.cons ?_ (.cons (dp_same (s.trans (same_upd hT)) h2) .nil))⟩
    rw [Nat.zero_add]
    exact .int _, fun H s => ⟨hg H s, by rw [enumL_length, dpAll_length hd]⟩⟩
section
variable {X : Cx} {e a b : Expr} {g ga gb : Rho → R PyData} {pos : Pos}
theorem srcB_dp {P : Program} {w : World} {K : PySem.W.Frag} {H : Hp} {v : V} {d : PyData} {ds : List PyData} (h : Dp K H v d) (e : asSeq d = some ds) : ∃ vs Gd, SrcB P w K Gd v vs ∧ (∀ H', Same H H' → Gd H') ∧ DpAll K H vs ds := by
  cases h with
  | lst hs ha => cases e; exact ⟨_, _, srcB_list, fun H' s => SqL.same s hs, ha⟩
  | tup hs ha => cases e; exact ⟨_, _, srcB_tup, fun H' s => SqT.same s hs, ha⟩
  | _ => cases e
def iEn (ga : Rho → R PyData) : Rho → R (List PyData) := fun ρ => (ga ρ).bd fun x => R.of ((asSeq x).map (enumL 0))
theorem sem_enum {p tpos : Pos} {elts : List Expr} {kk : Nat} (hm : X.mg "enumerate" = none) (ha : SemE X a ga) (hg : Gl X "enumerate" := by rfl) (hs : starEach [a] X.env = [(false, eval a X.env)] := by rfl) : SemI X (.Tuple elts kk tpos) (.Call (.Name "enumerate" p) [a] [] pos) (iEn ga) := fun W tk =>
  pi_imp (pi_enumS hg hm (pa_cons (ha W tk) pa_nil hs) hs) fun σ H R ⟨ρ, env, post⟩ => ⟨ρ, env, post.seq fun x v H1 _ s1 r1 post1 => by
    obtain ⟨ds, e, q⟩ := post1.use
    obtain ⟨xs, e1, rfl⟩ := Option.map_eq_some_iff.mp e
    obtain ⟨vs, Gd, B, hG, hd⟩ := srcB_dp (P := X.prog) (w := X.w) r1 e1
    exact ⟨v, vs, Gd, rfl, B, hG H1 (Same.refl H1), q _ _ (Same.refl H1) (yields_enum hG hd)⟩⟩

/-! ### zip -/
def ItZ (G1 G2 : Hp → Prop) (vs ws : List V) : It :=
  ⟨fun i H => G1 H ∧ G2 H ∧ i < vs.length ∧ i < ws.length, fun i H v H' => ∃ T x y, v = .ref T ∧ H T = none ∧ H' = upd H T (.tup [x, y]) ∧ vs[i]? = some x ∧ ws[i]? = some y, fun i H => G1 H ∧ G2 H ∧ i = min vs.length ws.length⟩
structure Sep (z TI TO i1 i2 : Addr) : Prop where
  a1 : TI ≠ z
  a2 : TO ≠ z
  a3 : TI ≠ TO
  a4 : TI ≠ i1
  a5 : TI ≠ i2
  a6 : z ≠ i1
  a7 : z ≠ i2
  a8 : TO ≠ i1
  a9 : TO ≠ i2
  a10 : i1 ≠ i2
theorem turn_zipS {P : Program} {w : World} {K : PySem.W.Frag} {elts : List Expr} {kk : Nat} {tpos : Pos} {G1 G2 : Hp → Prop} {v1 v2 : V} {vs ws : List V} {z TI TO i1 i2 : Addr} {St1 St2 : Nat → Heap → Prop} (S1 : Src P w K G1 v1 vs i1 St1) (S2 : Src P w K G2 v2 ws i2 St2) (D : Sep z TI TO i1 i2) :
    Turn P w K (.Tuple elts kk tpos) (ItZ G1 G2 vs ws) [z, TI, TO, i1, i2] z (fun i h => IsZip h z TI TO .none ∧ IsTupOf2 h TI (.ref i1) (.ref i2) ∧ (∃ x y, IsTupOf2 h TO x y) ∧ St1 i h ∧ St2 i h) where
  mem := by simp
  obj := fun i h st c hc => by
    obtain ⟨hz, hTI, ⟨x, y, hTO⟩, s1, s2⟩ := st
    have e' : c = z ∨ c = TI ∨ c = TO ∨ c = i1 ∨ c = i2 := by simpa using hc
    rcases e' with q | q | q | q | q
    · rw [q]; exact ⟨_, hz, fun v q => nomatch q⟩
    · rw [q]; exact ⟨_, hTI, fun v q => nomatch q⟩
    · rw [q]; exact ⟨_, hTO, fun v q => nomatch q⟩
    · rw [q]; exact S1.obj i h s1
    · rw [q]; exact S2.obj i h s2
  keep := fun i h h' st k => by
    obtain ⟨hz, hTI, ⟨x, y, hTO⟩, h1, h2⟩ := st
    exact ⟨k z (by simp) _ hz, k TI (by simp) _ hTI, ⟨x, y, k TO (by simp) _ hTO⟩, S1.keep i h h' h1 fun o q => k i1 (by simp) o q, S2.keep i h h' h2 fun o q => k i2 (by simp) o q⟩
  item := by
    intro X hP hw hK hc i pins s σ H E I hf st hg
    obtain ⟨hz, hTI, ⟨x0, y0, hTO⟩, h1, h2⟩ := st
    obtain ⟨hG1, hG2, hl1, hl2⟩ := hg
    obtain ⟨its, a, GH, rv, hgh, hfa, D1⟩ := S1.dr X pins σ H s hP hw hK I hG1 (hf i1 (by simp))
    obtain ⟨its2, b, GH2, rv2, hgh2, hfb, D2⟩ := S2.dr X pins σ H s hP hw hK I hG2 (hf i2 (by simp))
    subst hP hw hK
    have hlen := rv.length
    have hlen2 := rv2.length
    have hzl : z < s.heap.objs.size := Heap.lt_size hz
    have sep : ZipSep2 z TI TO i1 i2 [i1, a] [i2, b] := ⟨D.a1, D.a2, D.a3, D.a4, by simp, by simp [D.a6, hfa z (hf z (by simp))], by simp [D.a8, hfa TO (hf TO (by simp))], D.a5, by simp, by simp [D.a7, hfb z (hf z (by simp))], by simp [D.a9, hfb TO (hf TO (by simp))], by simp [D.a10, hfb i1 (hf i1 (by simp))], by simp [Ne.symm D.a10, hfa i2 (hf i2 (by simp))]⟩
    refine wpAny_pyNext_zipD2_item sep (D1 X.A.in1 (I.ok.hd hc)) (D2 X.A.in1 (I.ok.hd hc)) hz hTI hTO ⟨h1, hgh⟩ ⟨h2, hgh2⟩ (by omega) (by omega) fun u u2 h' tk hu hu2 z' TO' h1' h2' hT hsz hk => ?_
    obtain ⟨x, hx, ru⟩ : ∃ x, vs[i]? = some x ∧ RelV x u := by
      obtain ⟨u', hu', ru'⟩ := rv.get (List.getElem?_eq_getElem hl1)
      rw [hu] at hu'
      cases hu'
      exact ⟨_, List.getElem?_eq_getElem hl1, ru'⟩
    obtain ⟨y, hy, ru2⟩ : ∃ x, ws[i]? = some x ∧ RelV x u2 := by
      obtain ⟨u', hu', ru'⟩ := rv2.get (List.getElem?_eq_getElem hl2)
      rw [hu2] at hu'
      cases hu'
      exact ⟨_, List.getElem?_eq_getElem hl2, ru'⟩
    refine ⟨_, rfl, wpAny_letOwnedTupleGo_zip (s := { s with heap := h', toks := tk }) z' fun h'' z'' sb => ?_⟩
    have hT2 : h''.get? s.heap.objs.size = some { cls := .type "tuple", data := .seq #[u, u2] } := (sb.2 _ (Nat.ne_of_gt hzl)).trans hT
    have new : ObjOk X.prog X.w (upd H s.heap.objs.size (.tup [x, y])) h'' s.heap.objs.size (.tup [x, y]) :=
      ⟨by show 2 ≤ sizeLine; decide, [u, u2], .cons ru (.cons ru2 .nil), ⟨_, hT2, rfl, _, rfl⟩⟩
    have I1 : Inv X pins σ (upd H s.heap.objs.size (.tup [x, y])) { s with heap := h'', toks := tk } :=
      I.turnedNew (ch := [z, TI, TO, i1, i2]) (fun c o hb q => (sb.2 c (fun q' => hb (by simp [q']))).trans (hk c o (fun q' => hb (by simp [q'])) (fun q' => hb (by simp [q'])) (fun q' => hb (by simp [q'])) (fun q' => hb (by simp [q'])) q)) hf (Nat.le_refl _) new
    refine ⟨.ref s.heap.objs.size, _, I1, rfl, ⟨_, x, y, rfl, I.hok.fresh (Nat.le_refl _), rfl, hx, hy⟩, ⟨z'', ?_, ⟨u, u2, ?_⟩, S1.keep _ h' h'' h1'.1 (fun o q => (sb.2 _ (Ne.symm D.a6)).trans q), S2.keep _ h' h'' h2'.1 (fun o q => (sb.2 _ (Ne.symm D.a7)).trans q)⟩, fun c hcm => ?_⟩
    · exact (sb.2 _ D.a1).trans (hk _ _ D.a1 D.a3 D.a4 D.a5 hTI)
    · exact (sb.2 _ D.a2).trans TO'
    · have hlt : c < s.heap.objs.size := by
        have e' : c = z ∨ c = TI ∨ c = TO ∨ c = i1 ∨ c = i2 := by simpa using hcm
        rcases e' with q | q | q | q | q
        · rw [q]; exact hzl
        · rw [q]; exact Heap.lt_size hTI
        · rw [q]; exact Heap.lt_size hTO
        · rw [q]; obtain ⟨_, e1, _⟩ := S1.obj i _ h1; exact Heap.lt_size e1
        · rw [q]; obtain ⟨_, e2, _⟩ := S2.obj i _ h2; exact Heap.lt_size e2
      rw [upd_ne (Nat.ne_of_lt hlt)]
      exact (hf c hcm).1
  done := by
    intro X hP hw hK hc i pins s σ H E I hf st hg
    obtain ⟨hz, hTI, ⟨x0, y0, hTO⟩, h1, h2⟩ := st
    obtain ⟨hG1, hG2, hl⟩ := hg
    obtain ⟨its, a, GH, rv, hgh, hfa, D1⟩ := S1.dr X pins σ H s hP hw hK I hG1 (hf i1 (by simp))
    obtain ⟨its2, b, GH2, rv2, hgh2, hfb, D2⟩ := S2.dr X pins σ H s hP hw hK I hG2 (hf i2 (by simp))
    subst hP hw hK
    have hlen := rv.length
    have hlen2 := rv2.length
    have sep : ZipSep2 z TI TO i1 i2 [i1, a] [i2, b] := ⟨D.a1, D.a2, D.a3, D.a4, by simp, by simp [D.a6, hfa z (hf z (by simp))], by simp [D.a8, hfa TO (hf TO (by simp))], D.a5, by simp, by simp [D.a7, hfb z (hf z (by simp))], by simp [D.a9, hfb TO (hf TO (by simp))], by simp [D.a10, hfb i1 (hf i1 (by simp))], by simp [Ne.symm D.a10, hfa i2 (hf i2 (by simp))]⟩
    refine wpAny_pyNext_zipD2_end sep (D1 X.A.in1 (I.ok.hd hc)) (D2 X.A.in1 (I.ok.hd hc)) hz hTI hTO ⟨h1, hgh⟩ ⟨h2, hgh2⟩ (by omega) (by omega) (by omega) fun h' tk hk => ⟨rfl, ?_⟩
    exact I.turnedL (t' := tk) (ch := [z, TI, TO, i1, i2]) (fun c o hb q => hk c o (fun q' => hb (by simp [q'])) (fun q' => hb (by simp [q'])) (fun q' => hb (by simp [q'])) (fun q' => hb (by simp [q'])) q) hf
  self := fun A i s Q E st h => wpAny_pyIter_zip st.1 h
theorem nk (n : Nat) {a b : Nat} (h : a ≠ b) : n + a ≠ n + b := fun e => h (Nat.add_left_cancel e)
theorem nk0 (n : Nat) {a : Nat} (h : a ≠ 0) : n + a ≠ n := fun e => h (Nat.add_left_cancel (show n + a = n + 0 from e))
theorem sep_new (n : Nat) : Sep (n + 4) (n + 2) (n + 3) n (n + 1) :=
  ⟨nk n (by decide), nk n (by decide), nk n (by decide), nk0 n (by decide), nk n (by decide), nk0 n (by decide), nk n (by decide), nk0 n (by decide), nk n (by decide), Ne.symm (nk0 n (by decide))⟩
def iZipS (P : Program) (w : World) (K : PySem.W.Frag) (ta : TA) : TI := fun σ H R => ta σ H fun xs H1 => ∃ v vs G1 v2 ws G2, xs = [v, v2] ∧ SrcB P w K G1 v vs ∧ SrcB P w K G2 v2 ws ∧ G1 H1 ∧ G2 H1 ∧ R (ItZ G1 G2 vs ws) H1
theorem pi_zipS {X : Cx} {e e2 : Expr} {ta : TA} {p pos tpos : Pos} {elts : List Expr} {kk : Nat} (hg : Gl X "zip") (hm : X.mg "zip" = none) (ha : PA X [e, e2] ta) (hs : starEach [e, e2] X.env = (false, eval e X.env) :: starEach [e2] X.env := by rfl) (hpl : (backTo pos (starEach [e2] X.env)).any (·.1) = false := by rfl) :
    PI X (.Tuple elts kk tpos) (.Call (.Name "zip" p) [e, e2] [] pos) (iZipS X.prog X.w X.K ta) := by
  refine ⟨fun pins s σ H R I h => ?_⟩
  refine wpAny_Call_Name_kw (ld_blt I hg hm boot_zip (PyProof.Rows.callWith_type1 (thn (ha.run pos pins s σ H _ I h) fun us s1 ⟨xs, H1, I1, r1, q1⟩ => ?_) hs hpl))
  obtain ⟨v, vs, G1, v2, ws, G2, ex, B1, B2, hG1, hG2, q⟩ := q1
  subst ex
  obtain ⟨u, u2, rfl, r, r2⟩ := Vals.two r1
  obtain ⟨o, BH, Bg, hB, hS⟩ := B1.begins X pins σ H1 s1 _ rfl rfl rfl I1 hG1 r
  obtain ⟨o2, BH2, Bg2, hB2, hS2⟩ := B2.begins X pins σ H1 s1 _ rfl rfl rfl I1 hG2 r2
  obtain ⟨St, S, hst0⟩ := hS s1.heap.objs.size
  obtain ⟨St2, S2, hst02⟩ := hS2 (s1.heap.objs.size + 1)
  refine zip_begins2 Bg Bg2 hB hB2 fun h' hz hTI hTO hi1 hi2 hsz hk => wpAny_pyIter_zip hz ?_
  have I2 : Inv X pins σ H1 { s1 with heap := h' } := I1.kept (t' := s1.toks) hk
  have sep : ∀ n : Nat, Sep (n + 4) (n + 2) (n + 3) n (n + 1) := sep_new
  refine ⟨s1.heap.objs.size + 4, [s1.heap.objs.size + 4, s1.heap.objs.size + 2, s1.heap.objs.size + 3, s1.heap.objs.size, s1.heap.objs.size + 1], _, _, H1, rfl, I2, turn_zipS S S2 (sep _), ⟨hz, hTI, ⟨_, _, hTO⟩, hst0 _ hi1, hst02 _ hi2⟩, fun b hb => ?_, q⟩
  have hle : s1.heap.objs.size ≤ b := by
    have le : ∀ n k : Nat, n ≤ n + k := fun n k => Nat.le_add_right n k
    have e' : b = s1.heap.objs.size + 4 ∨ b = s1.heap.objs.size + 2 ∨ b = s1.heap.objs.size + 3 ∨ b = s1.heap.objs.size ∨ b = s1.heap.objs.size + 1 := by simpa using hb
    rcases e' with q | q | q | q | q <;> rw [q]
    · exact le _ _
    · exact le _ _
    · exact le _ _
    · exact Nat.le_refl _
    · exact le _ _
  exact I1.fpOk hle (I1.hok.fresh hle)
def zipL : List PyData → List PyData → List PyData
  | d :: ds, e :: es => .tuple [d, e] :: zipL ds es
  | _, _ => []
theorem zipL_get : ∀ {ds es : List PyData} {i : Nat} {x : PyData}, (zipL ds es)[i]? = some x → ∃ d e, ds[i]? = some d ∧ es[i]? = some e ∧ x = .tuple [d, e]
  | [], es, i, x, h => by simp [zipL] at h
  | d :: ds, [], i, x, h => by simp [zipL] at h
  | d :: ds, e :: es, 0, x, h => by
    have h' : PyData.tuple [d, e] = x := Option.some.inj h
    exact ⟨d, e, rfl, rfl, h'.symm⟩
  | d :: ds, e :: es, i + 1, x, h => by
    obtain ⟨d', e', h1, h2, h3⟩ := zipL_get (ds := ds) (es := es) (i := i) (x := x) (by simpa [zipL] using h)
    exact ⟨d', e', by simpa using h1, by simpa using h2, h3⟩
theorem zipL_length : ∀ {ds es : List PyData}, (zipL ds es).length = min ds.length es.length
  | [], es => by simp [zipL]
  | d :: ds, [] => by simp [zipL]
  | d :: ds, e :: es => by rw [zipL, List.length_cons, List.length_cons, List.length_cons, zipL_length]; omega
theorem yields_zip {K : PySem.W.Frag} {H0 : Hp} {G1 G2 : Hp → Prop} {vs ws : List V} {ds es : List PyData} (hg : ∀ H, Same H0 H → G1 H) (hg2 : ∀ H, Same H0 H → G2 H) (hd : DpAll K H0 vs ds) (he : DpAll K H0 ws es) : Yields K H0 (ItZ G1 G2 vs ws) (zipL ds es) :=
  ⟨fun i H d s e => by
    obtain ⟨d1, d2, e1, e2, rfl⟩ := zipL_get e
    obtain ⟨v, h1, h2⟩ := dpAll_get hd e1
    obtain ⟨u, h3, h4⟩ := dpAll_get he e2
    refine ⟨⟨hg H s, hg2 H s, (List.getElem?_eq_some_iff.mp h1).1, (List.getElem?_eq_some_iff.mp h3).1⟩, fun x H' ⟨T, y, y2, ex, hT, eH, hy, hy2⟩ => ?_⟩
    subst ex eH
    rw [h1] at hy
    cases hy
    rw [h3] at hy2
    cases hy2
    exact ⟨same_upd hT, .tup (SqT.of upd_same) (.cons (dp_same (s.trans (same_upd hT)) h2) (.cons (dp_same (s.trans (same_upd hT)) h4) .nil))⟩, fun H s => ⟨hg H s, hg2 H s, by rw [zipL_length, dpAll_length hd, dpAll_length he]⟩⟩
def zipD (x y : PyData) : Option (List PyData) := (asSeq x).bind fun xs => (asSeq y).map fun ys => zipL xs ys
def iZi (ga gb : Rho → R PyData) : Rho → R (List PyData) := fun ρ => (ga ρ).bd fun x => (gb ρ).bd fun y => R.of (zipD x y)
theorem sem_zip {p tpos : Pos} {elts : List Expr} {kk : Nat} (hm : X.mg "zip" = none) (ha : SemE X a ga) (hb : SemE X b gb) (hg : Gl X "zip" := by rfl) (hs : starEach [a, b] X.env = (false, eval a X.env) :: starEach [b] X.env := by rfl) (hs2 : starEach [b] X.env = [(false, eval b X.env)] := by rfl) (hpl : (backTo pos (starEach [b] X.env)).any (·.1) = false := by rfl) : SemI X (.Tuple elts kk tpos) (.Call (.Name "zip" p) [a, b] [] pos) (iZi ga gb) := fun W tk =>
  pi_imp (pi_zipS hg hm (pa_cons (ha W tk) (pa_cons (hb W tk) pa_nil hs2) hs) hs hpl) fun σ H R ⟨ρ, env, post⟩ => ⟨ρ, env, post.seq fun x v H1 _ s1 r1 post1 => ⟨ρ, env.same s1, post1.seq fun y u H2 _ s2 r2 post2 => by
    obtain ⟨ds, e, q⟩ := post2.use
    obtain ⟨xs, e1, e⟩ := Option.bind_eq_some_iff.mp e
    obtain ⟨ys, e2, rfl⟩ := Option.map_eq_some_iff.mp e
    obtain ⟨vs, Gd, B, hG, hd⟩ := srcB_dp (P := X.prog) (w := X.w) (dp_same s2 r1) e1
    obtain ⟨ws, Gd2, B2, hG2, hd2⟩ := srcB_dp (P := X.prog) (w := X.w) r2 e2
    exact ⟨v, vs, Gd, u, ws, Gd2, rfl, B, B2, hG H2 (Same.refl H2), hG2 H2 (Same.refl H2), q _ _ (Same.refl H2) (yields_zip hG hG2 hd hd2)⟩⟩⟩
end
end RL

namespace PySem.W
open PySem PySem.Calls PyProof.Rows
section
variable {prog : Program} {w : World} {A : Around} {E : Value → Shared → Prop} {s : Shared} {β : Type} {vs : List Value} {bs : List β} {enc : β → PyData} {R : Value → β → Prop}
/-- sorted(v), v anything that is collected -/
theorem sorted_any {v : Value} {Q : Value → Shared → Prop}
    (hcol : ∀ Q' : List Value → Shared → Prop, (∀ h' tk, (∀ b o, s.heap.get? b = some o → h'.get? b = some o) → Q' vs { s with heap := h', toks := tk }) → wpAny (model prog w) A.in1 (collect v) Q' (fun _ _ => False) s)
    (hargs : argsOk "sorted" ⟨[v], []⟩) (e : EachIs R vs bs) (er : EachIs (fun v b => ∃ as, Reads s.heap v (enc b) as) vs bs) (hal : AllAlike (bs.map enc)) (hk : Sortable (bs.map enc)) (hL : bs.length ≤ sizeLine)
    (hu : ∀ b, b ∈ bs → A.units + 2 + (enc b).depth < cLine)
    (h : ∀ (out : List Value) (h1 h' : Heap) (tk : Nat) (D : Addr) (en : Nat), out.length = bs.length → EachIs R out (bs.mergeSort (dataLe false enc)) → (∀ b o, s.heap.get? b = some o → h1.get? b = some o) → (∀ b o, h1.get? b = some o → h'.get? b = some o) → h1.objs.size ≤ D → h'.get? D = some (seqObj "list" (List.toArray out) en) → Q (.ref D) { s with heap := h', toks := tk }) :
    wpAny (model prog w) A (call (.builtin "sorted") [v]) Q E s := by
  have hlen : vs.length ≤ sizeLine := by rw [e.length]; exact hL
  refine call_function_entry_kw kind_sorted plain_sorted entry_sorted hargs ?_
  unfold Builtin.«sorted»
  refine wpAny_bind (m := checkCount "sorted" 1 1 _) (wpAny_pure ?_)
  refine wpAny_bind (wpAny_mono (hcol _ fun h1 tk1 k1 => ?_) (fun _ _ x => x) fun _ _ x => x.elim)
  refine wpAny_bind (wpAny_newList ?_ hlen)
  show wpAny _ _ _ _ _ { s with heap := h1.push (seqObj "list" vs.toArray 0), toks := tk1 }
  have hat : (h1.push (seqObj "list" vs.toArray 0)).get? h1.objs.size = some (seqObj "list" vs.toArray 0) := Heap.get?_push_size _ rfl
  have old : ∀ b o, s.heap.get? b = some o → (sortingHeap (h1.push (seqObj "list" vs.toArray 0)) h1.objs.size vs).get? b = some o := fun b o q =>
    sortingHeap_old (Nat.ne_of_lt (Heap.lt_size (k1 b o q))) (Heap.get?_push_of_some _ (k1 b o q))
  have er' : EachIs (fun v b => ∃ as, Reads (sortingHeap (h1.push (seqObj "list" vs.toArray 0)) h1.objs.size vs) v (enc b) as) vs bs := er.mono fun _ _ ⟨as, r⟩ => ⟨as, PyProof.Rows.Reads.keeps old r⟩
  refine wpAny_bind (wpAny_holding (wpAny_call_entry_kw slot_list_sort ⟨_, hat, rfl⟩ entry_list_sort ?body (args_list_sort _)))
  case body =>
    show wpAny (model prog w) A.in1.in1 (Builtin.«list.sort» ⟨[.ref h1.objs.size], []⟩) _ _ _
    refine list_sort_vals (s := { s with heap := h1.push (seqObj "list" vs.toArray 0), toks := tk1 }) hat
      (SortsAt.data (s := { s with heap := sortingHeap (h1.push (seqObj "list" vs.toArray 0)) h1.objs.size vs, toks := tk1 }) (each_map (R := fun v d => ∃ as, Reads (sortingHeap (h1.push (seqObj "list" vs.toArray 0)) h1.objs.size vs) v d as) enc er') hal hk (bound_map hu)) hlen ?_
    obtain ⟨en, hen⟩ := sortedHeap_at (out := (sortVals (dataKind (sortingHeap (h1.push (seqObj "list" vs.toArray 0)) h1.objs.size vs) (bs.map enc)) false vs vs).toArray) hat
    refine ⟨_, rfl, wpAny_pure ⟨_, rfl, ?_⟩⟩
    refine h _ h1 _ _ _ en (by rw [sortVals_length false rfl]; exact e.length) (sortVals_data false e er' hal) k1 (fun b o q1 => ?_) (Nat.le_refl _) hen
    exact (sortedHeap_old (Nat.ne_of_lt (Heap.lt_size q1)) (Nat.lt_of_lt_of_le (Heap.lt_size q1) (by rw [Heap.size_push]; exact Nat.le_succ _))).trans (Heap.get?_push_of_some _ q1)
end
end PySem.W

namespace RL
open PySem PySem.Spec PyProof.Rows L2
section
variable {X : Cx} {a b c : Expr} {ga gb gc : Rho → R PyData} {pos : Pos}

/-! ### sorted -/
def isTupC : PyData → Bool
  | .tuple (_ :: _) => true
  | _ => false
def isPlain : PyData → Bool
  | .none => false
  | .tuple _ => false
  | _ => true
def sortOk (ds : List PyData) : Bool := (ds.all fun d => ds.all fun e => PySem.W.alike d e) && ((ds.all isTupC) || (ds.all isPlain)) && (ds.all isS) && decide (ds.length ≤ sizeLine)
def sortL (ds : List PyData) : List PyData := ds.mergeSort (PySem.W.dataLe false id)
def sortedD : List PyData → Option PyData
  | [.list ds] => if sortOk ds then some (.list (sortL ds)) else none
  | [.tuple ds] => if sortOk ds then some (.list (sortL ds)) else none
  | _ => none
theorem sortOk_spec {ds : List PyData} (h : sortOk ds = true) : PySem.W.AllAlike (ds.map id) ∧ PySem.W.Sortable (ds.map id) ∧ (∀ d, d ∈ ds → d.depth ≤ 64) ∧ ds.length ≤ sizeLine := by
  unfold sortOk at h
  obtain ⟨h, h4⟩ := Bool.and_eq_true_iff.mp h
  obtain ⟨h, h3⟩ := Bool.and_eq_true_iff.mp h
  obtain ⟨h1, h2⟩ := Bool.and_eq_true_iff.mp h
  rw [List.map_id]
  refine ⟨fun d hd e he => List.all_eq_true.mp (List.all_eq_true.mp h1 d hd) e he, ?_, fun d hd => SeqAt.depth_of_shaped (List.all_eq_true.mp h3 d hd), of_decide_eq_true h4⟩
  rcases Bool.or_eq_true_iff.mp h2 with h2 | h2
  · refine .inl fun d hd => ?_
    have q := List.all_eq_true.mp h2 d hd
    unfold isTupC at q
    split at q
    · exact ⟨_, _, rfl⟩
    · cases q
  · refine .inr fun d hd => ?_
    have q := List.all_eq_true.mp h2 d hd
    unfold isPlain at q
    split at q
    · cases q
    · cases q
    · rename_i n1 n2
      exact ⟨n1, n2⟩
theorem eachIs_dp {K : PySem.W.Frag} {H : Hp} : ∀ {vs : List V} {ds : List PyData} {us : List Value}, DpAll K H vs ds → Vals vs us → PySem.W.EachIs (fun u d => ∃ x, RelV x u ∧ Dp K H x d) us ds
  | _, _, _, .nil, .nil => .nil
  | _, _, _, .cons a r, .cons q t => .cons ⟨_, q, a⟩ (eachIs_dp r t)
theorem dp_eachIs {K : PySem.W.Frag} {H : Hp} : ∀ {us : List Value} {ds : List PyData}, PySem.W.EachIs (fun u d => ∃ x, RelV x u ∧ Dp K H x d) us ds → ∃ vs, Vals vs us ∧ DpAll K H vs ds
  | _, _, .nil => ⟨[], .nil, .nil⟩
  | _, _, .cons ⟨x, q, a⟩ r => by
    obtain ⟨vs, h1, h2⟩ := dp_eachIs r
    exact ⟨x :: vs, .cons q h1, .cons a h2⟩
theorem eachIs_reads {pins : List (Addr × Obj)} {σ : L2.St} {H : Hp} {s : Shared} (I : Inv X pins σ H s) : ∀ {us : List Value} {ds : List PyData}, PySem.W.EachIs (fun u d => ∃ x, RelV x u ∧ Dp X.K H x d) us ds → PySem.W.EachIs (fun u d => ∃ as, Reads s.heap u (id d) as) us ds
  | _, _, .nil => .nil
  | _, _, .cons ⟨x, q, a⟩ r => .cons (Dp.reads I _ x _ a q) (eachIs_reads I r)
theorem call_sortedD {k : Nat} (hr : Room k X.A) : CallR X (.builtin "sorted") (rDC X.K sortedD) := by
  intro pins s σ H xs us Q I r ⟨ds, d, hd, hF, q⟩
  have key : ∀ (v : V) (vs : List V) (es : List PyData) (its : List Value) (o : Obj) (n : Nat) (l : Addr) (T : String), (T = "list" ∨ T = "tuple") → s.heap.get? l = some o → o.cls = .type T → o.data = .seq its.toArray n → Vals vs its → DpAll X.K H vs es → sortOk es = true →
      (∀ v' H', Same H H' → Dp X.K H' v' (.list (sortL es)) → Q v' H') → wpAny (model X.prog X.w) X.A (call (.builtin "sorted") [.ref l]) (EP X pins σ Q) X.xe s := by
    intro v vs es its o n l T hT ho hc hdat rv hda hok q
    obtain ⟨h1, h2, h3, h4⟩ := sortOk_spec hok
    have hlen : its.length = es.length := rv.length.symm.trans (dpAll_length hda)
    have ea := eachIs_dp hda rv
    refine PySem.W.sorted_any (vs := its) (bs := es) (enc := id) (R := fun u d => ∃ x, RelV x u ∧ Dp X.K H x d) (fun Q' hq => wpAny_collect_seq l hT ho hc hdat (fun h' hk => hq h' s.toks hk) (by rw [List.size_toArray]; omega)) (PyProof.Rows.args_sorted1 _) ea (eachIs_reads I ea) h1 h2 h4 (fun d hd => ?_) fun out g1 g2 tk D en ho' hout hk1 hk2 hD hat => ?_
    · have := h3 d hd
      have := hr.un
      show X.A.units + 2 + d.depth < cLine
      omega
    · obtain ⟨ws, r1, r2⟩ := dp_eachIs hout
      have I1 : Inv X pins σ H { s with heap := g1 } := I.kept (t' := s.toks) hk1
      have hn : H D = none := I1.hok.fresh hD
      have hl2 : ws.length ≤ sizeLine := by rw [r1.length, ho']; exact h4
      have new : ObjOk X.prog X.w (upd H D (.lst ws)) g2 D (.lst ws) := ⟨hl2, out, en, r1, hat⟩
      exact ⟨.ref D, _, Inv.laid (s := { s with heap := g1 }) (h' := g2) (t' := tk) I1 hk2 hD new, rfl, q _ _ (same_upd hn) (.lst (SqL.of upd_same) (dpAll_same (same_upd hn) r2))⟩
  match ds, hF with
  | [.list ys], hF =>
    obtain ⟨v, rfl, h1⟩ := dpAll1 hd
    obtain ⟨hok, rfl⟩ := ite_some hF
    cases h1 with
    | lst hs ha =>
      cases r with
      | cons r0 rr =>
        cases rr
        cases r0
        obtain ⟨its, rv, ⟨o, n, ho, hc, _, hdat⟩, _⟩ := I.list hs
        exact key .non _ ys its o n _ "list" (.inl rfl) ho hc hdat rv ha hok q
  | [.tuple ys], hF =>
    obtain ⟨v, rfl, h1⟩ := dpAll1 hd
    obtain ⟨hok, rfl⟩ := ite_some hF
    cases h1 with
    | tup hs ha =>
      cases r with
      | cons r0 rr =>
        cases rr
        cases r0
        obtain ⟨its, rv, ⟨o, ho, hc, n, hdat⟩, _⟩ := I.tuple hs
        exact key .non _ ys its o n _ "tuple" (.inr rfl) ho hc hdat rv ha hok q
theorem sem_sorted {e : Expr} {gs : Rho → R (List PyData)} {p : Pos} {k : Nat} (hr : Room k X.A) (hm : X.mg "sorted" = none) (ha : SemA X [e] gs) (hg : Gl X "sorted" := by rfl)
    (he : starEach (e :: []) X.env = (false, eval e X.env) :: starEach [] X.env := by rfl) (hpl : (backTo pos (starEach [] X.env)).any (·.1) = false := by rfl) : SemE X (.Call (.Name "sorted" p) [e] [] pos) (gBlt sortedD gs) :=
  sem_blt (call_sortedD hr) hg hm boot_sorted ha (by decide) (by decide) he hpl

/-! ### is, as tests -/
theorem sem_isNT {j : Nat} {pos' : Pos} (ha : SemE X a ga) : SemT X (.Compare a [.Is] [.Constant .none j pos'] pos) (gTest (gIsN ga)) := fun W tk =>
  pt_imp (pt_cmp (pc_isN (ha W tk)) rfl) fun σ H Q ⟨ρ, env, post⟩ => by
    unfold gTest gIsN at post
    rw [R.bd_bd] at post
    exact ⟨ρ, env, post.seq0 fun x v H1 s1 r1 post => ⟨_, rfl, post _ _ s1 (isNone_rel r1)⟩⟩
theorem sem_notNT {j : Nat} {pos' : Pos} (ha : SemE X a ga) : SemT X (.Compare a [.IsNot] [.Constant .none j pos'] pos) (gTest (gNotN ga)) := fun W tk =>
  pt_imp (pt_cmp (pc_notN (ha W tk)) rfl) fun σ H Q ⟨ρ, env, post⟩ => by
    unfold gTest gNotN at post
    rw [R.bd_bd] at post
    exact ⟨ρ, env, post.seq0 fun x v H1 s1 r1 post => ⟨_, rfl, post _ _ s1 (by rw [isNone_rel r1])⟩⟩
theorem isB_rd {f : Bool → Bool → Bool} {W : WX} {σ : L2.St} {H : Hp} {Q : Bool → Hp → Prop} {ρ : Rho} (env : EnvR X.K H σ ρ) (post : PostG X.mg W σ H rBo Q (gTest (gBB f ga gb) ρ)) :
    tP X.K X.mg W ga σ H fun x H1 => tP X.K X.mg W gb σ H1 fun y H2 => ∃ i j, x = .bl i ∧ y = .bl j ∧ Q (f i j) H2 := by
  have post' : PostG X.mg W σ H rBo Q ((ga ρ).bd fun x => (gb ρ).bd fun y => (R.of ((bbD f x y).map PyData.bool)).bd fun b => R.of (asB b)) := by
    have e : gTest (gBB f ga gb) ρ = ((ga ρ).bd fun x => (gb ρ).bd fun y => (R.of ((bbD f x y).map PyData.bool)).bd fun b => R.of (asB b)) := by
      unfold gTest gBB
      simp only [R.bd_bd]
    rw [← e]; exact post
  exact ⟨ρ, env, post'.seq fun x v H1 _ s1 r1 post1 => ⟨ρ, env.same s1, post1.seq fun y u H2 _ s2 r2 post2 => by
    obtain ⟨r, e, q⟩ := post_of post2
    obtain ⟨k, hk, rfl⟩ := Option.map_eq_some_iff.mp e
    cases r1 with
    | bl i => cases r2 with
      | bl j => cases hk; exact ⟨_, _, rfl, rfl, q _ _ (Same.refl H2) rfl⟩
      | _ => cases hk
    | _ => cases r2 <;> cases hk⟩⟩
theorem sem_isBT (ha : SemE X a ga) (hb : SemE X b gb) (hm : behindInMarks .Is b = false := by rfl) : SemT X (.Compare a [.Is] [b] pos) (gTest (gBB (fun i j => decide (i = j)) ga gb)) := fun W tk =>
  pt_imp (pt_cmpR op_isBl (ha W tk) (hb W tk) hm) fun σ H Q ⟨ρ, env, post⟩ => by
    obtain ⟨ρ1, e1, p1⟩ := isB_rd env post
    exact ⟨ρ1, e1, p1.imp fun _ _ _ _ _ _ ⟨ρ2, e2, p2⟩ => ⟨ρ2, e2, p2.imp fun _ _ _ _ _ _ ⟨i, j, h1, h2, q⟩ => ⟨i, j, h1, h2, _, rfl, q⟩⟩⟩
theorem sem_isnotBT (ha : SemE X a ga) (hb : SemE X b gb) (hm : behindInMarks .IsNot b = false := by rfl) : SemT X (.Compare a [.IsNot] [b] pos) (gTest (gBB (fun i j => !decide (i = j)) ga gb)) := fun W tk =>
  pt_imp (pt_cmpR op_notBl (ha W tk) (hb W tk) hm) fun σ H Q ⟨ρ, env, post⟩ => by
    obtain ⟨ρ1, e1, p1⟩ := isB_rd env post
    exact ⟨ρ1, e1, p1.imp fun _ _ _ _ _ _ ⟨ρ2, e2, p2⟩ => ⟨ρ2, e2, p2.imp fun _ _ _ _ _ _ ⟨i, j, h1, h2, q⟩ => ⟨i, j, h1, h2, _, rfl, q⟩⟩⟩

/-! ### parallel assignment -/
def sPar (is : List Nat) (gs : Rho → R (List PyData)) : Rho → O := fun ρ => (gs ρ).to fun ds => if ds.length = is.length then .nx (setE ρ is ds) else .stuck
theorem sem_par {i j : Nat} {x y : Str} {gs : Rho → R (List PyData)} {px py pt pt2 : Pos} {kt k2 : Nat} (hN : X.N.Nodup) (ha : SemA X [a, b] gs) (hi : X.N[i]? = some x := by rfl) (hj : X.N[j]? = some y := by rfl) (hij : i ≠ j := by decide)
    (hx : X.env.scope.names.lookup x = some .local := by rfl) (hy : X.env.scope.names.lookup y = some .local := by rfl) (hc : X.calm = true := by rfl)
    (hw : swappedStores [.Tuple [.Name x px, .Name y py] kt pt] (.Tuple [a, b] k2 pt2) X.env = pure (some [x, y]) := by rfl)
    (hs : swapsWithSole [.Tuple [.Name x px, .Name y py] kt pt] (.Tuple [a, b] k2 pt2) pos.line X.env = pure false := by rfl) :
    SemS X (.Assign [.Tuple [.Name x px, .Name y py] kt pt] (.Tuple [a, b] k2 pt2) pos) (sPar [i, j] gs) := fun W tk =>
  ps_imp (ps_par hc hN hi hj hij hx hy (ha W tk.tk) hw hs) fun D σ H ⟨ρ, env, post⟩ => ⟨ρ, env, post_to post fun ds vs H1 _ s r q => by
    split at q
    · rename_i hl
      match ds, hl, q with
      | [d1, d2], _, q =>
        obtain ⟨v, u, rfl, h1, h2⟩ := dpAll2 r
        exact ⟨v, u, rfl, q _ H1 (Same.refl H1) ((env.same s).sets (is := [i, j]) r)⟩
    · exact q.elim⟩
/-! ### constants of the module, pure defs -/
structure ValF (K : PySem.W.Frag) (mg : Str → Option Value) (x : Str) (d : PyData) : Prop where
  ex : ∃ v u, mg x = some u ∧ RelV v u ∧ ∀ H, Dp K H v d
theorem sem_val {x : Str} {d : PyData} (h : ValF X.K X.mg x d) (hg : Gl X x := by rfl) (hd : (x == ("__debug__" : Str)) = false := by decide) : SemE X (.Name x pos) (gK d) := by
  obtain ⟨v, u, hm, r, hd'⟩ := h.ex
  exact sem_glob hg hm r hd' hd
theorem fnF_pure {P : Program} {w : World} {K : PySem.W.Frag} {mg : Str → Option Value} {base : Heap} {k n : Nat} {x qual : Str} {params : Arguments} {body : List Stmt} {scope : Scope} {f : Addr} {N ps : List Str} {g : Rho → O}
    (F : ∃ fd, FunD K x qual params body scope [] [] f fd) (S : FnScope N ps scope) (hm : mg x = some (.ref f)) (hn : ps.length = n)
    (hb : ∀ (kV doc pm : Value) (an : Option Addr) (cdv ct : Value) (us : List Value), us.length = ps.length → bindArgs (PySem.W.fnOf x qual params body scope .none kV doc pm an cdv ct) ⟨us, []⟩ = pure (ps.zip us))
    (hbody : ∀ (cdv : Value) (A : Around) (outer : List Env) (s : Shared) (H : Hp) (E : XK), Room k (A.deeper (envOfC qual scope s.heap.objs.size f cdv)) → SemSs (cxOf (L2.CX P w) P w K mg base N qual scope f cdv A outer s H E) body g) :
    FnF P w K mg base (k + 1) x n (spP K mg n (runD N g)) := by
  obtain ⟨fd, F⟩ := F
  exact ⟨f, fd, ps, ok_pure F S hn fun cdv A outer s H E hr => hbody cdv A outer s H E hr, hm, F.kp, F.bindsN hb, hn⟩
end
end RL

namespace RL
open PySem PySem.Spec PyProof.Rows L2
section
variable {X : Cx} {a b c : Expr} {ga gb gc : Rho → R PyData} {pos : Pos}

/-! ### list(range(n)) -/
def listR (x : PyData) : Option PyData := (asI x).bind fun j => if 0 ≤ j ∧ j ≤ 16777216 then some (.list (rangeL 0 j.toNat)) else none
def gListR (ga : Rho → R PyData) : Rho → R PyData := fun ρ => (ga ρ).bd fun x => R.of (listR x)
theorem rgV_dp {K : PySem.W.Frag} {H : Hp} (lo : Int) : ∀ n : Nat, DpAll K H ((List.range n).map fun (i : Nat) => V.int (lo + (i : Nat))) (rangeL lo n) := by
  intro n
  unfold rangeL
  have key : ∀ l : List Nat, DpAll K H (l.map fun (i : Nat) => V.int (lo + (i : Nat))) (l.map fun (i : Nat) => PyData.int (lo + (i : Int))) := by
    intro l
    induction l with
    | nil => exact .nil
    | cons a r ih => exact .cons (.int _) ih
  exact key _
theorem sem_listrange {p p2 pos2 : Pos} (hl : X.mg "list" = none) (hm : X.mg "range" = none) (ha : SemE X a ga) (hc : X.calm = true := by rfl) (hg : Gl X "list" := by rfl) (hg2 : Gl X "range" := by rfl) (na2 : starEach [a] X.env = (false, eval a X.env) :: starEach [] X.env := by rfl)
    (na : starEach [.Call (.Name "range" p2) [a] [] pos2] X.env = (false, eval (.Call (.Name "range" p2) [a] [] pos2) X.env) :: starEach [] X.env := by rfl) : SemE X (.Call (.Name "list" p) [.Call (.Name "range" p2) [a] [] pos2] [] pos) (gListR ga) := fun W tk =>
  pe_imp (pe_listRg hc hg hl (prg_1 hg2 hm (ha W tk) na2) na) fun σ H Q ⟨ρ, env, post⟩ => ⟨ρ, env, post.seq fun x v H1 _ s1 r1 post1 => by
    obtain ⟨r, e, q⟩ := post1.use
    cases r1 with
    | int j =>
      obtain ⟨c, rfl⟩ := ite_some (show (if 0 ≤ j ∧ j ≤ 16777216 then some (PyData.list (rangeL 0 j.toNat)) else none) = some r from e)
      refine ⟨j, rfl, RgOk.of_le (by omega) (by omega) (by omega) (by omega), fun p hp => q _ _ (same_upd hp) (.lst (SqL.of upd_same) ?_)⟩
      unfold rgV
      rw [Int.sub_zero]
      exact rgV_dp 0 j.toNat
    | _ => cases e⟩

/-! ### str(x) -/
def strD : List PyData → Option PyData
  | [.int i] => if i.natAbs.log2 < 1920 then some (.str (toString i)) else none
  | [.str x] => some (.str x)
  | _ => none
theorem call_strD : CallR X (.type "str") (rDC X.K strD) := by
  intro pins s σ H xs us Q I r ⟨ds, d, hd, hF, q⟩
  match ds, hF with
  | [.int i], hF =>
    obtain ⟨v, rfl, h1⟩ := dpAll1 hd
    cases h1
    obtain ⟨hl, rfl⟩ := ite_some hF
    exact call_str_int pins s σ H _ us Q I r ⟨i, rfl, hl, q _ _ (Same.refl H) (.str _)⟩
  | [.str x], hF =>
    obtain ⟨v, rfl, h1⟩ := dpAll1 hd
    cases h1
    cases hF
    exact SkE.call_str_str pins s σ H _ us Q I r ⟨x, rfl, q _ _ (Same.refl H) (.str _)⟩
/-! ### s.split(sep), sep.join(xs) -/
def asStr : PyData → Option Str
  | .str x => some x
  | _ => none
theorem strs_dp {K : PySem.W.Frag} {H : Hp} : ∀ ys : List Str, DpAll K H (ys.map V.str) (ys.map PyData.str)
  | [] => .nil
  | y :: ys => .cons (.str y) (strs_dp ys)
def splitD (x : Str) (y : PyData) : Option PyData := (asStr y).bind fun y => if (y.length == 0) = false ∧ x.length + 2 ≤ sizeLine then some (.list ((Txt.split x y).map .str)) else none
def gSplit (ga gb : Rho → R PyData) : Rho → R PyData := fun ρ => (ga ρ).bd fun x => (R.of (asStr x)).bd fun x => (gb ρ).bd fun y => R.of (splitD x y)
theorem sem_split {apos : Pos} (ha : SemE X a ga) (hb : SemE X b gb) (hs : starEach [b] X.env = [(false, eval b X.env)] := by rfl) (hbase : attributeBase a "split" X.env (eval a X.env) = eval a X.env := by rfl) (hline : (apos.endLine == pos.line) = true := by rfl) :
    SemE X (.Call (.Attribute a "split" apos) [b] [] pos) (gSplit ga gb) := fun W tk =>
  pe_imp (pe_split (ha W tk) (hb W tk) hs hbase hline) fun σ H Q ⟨ρ, env, post⟩ => ⟨ρ, env, post.seq fun x v H1 _ s1 r1 post1 => by
    obtain ⟨z, e, post2⟩ := post_of post1
    cases r1 with
    | str y =>
      cases e
      refine ⟨⟨_, rfl⟩, ρ, env.same s1, post2.seq fun y u H2 _ s2 r2 post3 => ?_⟩
      obtain ⟨r, e, q⟩ := post3.use
      cases r2 with
      | str y =>
        obtain ⟨⟨c1, c2⟩, rfl⟩ := ite_some (show (if (y.length == 0) = false ∧ z.length + 2 ≤ sizeLine then some (PyData.list ((Txt.split z y).map .str)) else none) = some r from e)
        exact ⟨z, y, rfl, rfl, c1, c2, fun p hp => q _ _ (same_upd hp) (.lst (SqL.of upd_same) (strs_dp _))⟩
      | _ => cases e
    | _ => cases e⟩
def strsOf : List PyData → Option (List Str)
  | [] => some []
  | .str x :: r => (strsOf r).map (x :: ·)
  | _ :: _ => none
theorem strsOf_vs {K : PySem.W.Frag} {H : Hp} : ∀ {ds : List PyData} {vs : List V} {ys : List Str}, DpAll K H vs ds → strsOf ds = some ys → vs = ys.map V.str
  | [], _, _, h, e => by cases h; cases e; rfl
  | d :: ds, _, ys, h, e => by
    cases h with
    | cons a r =>
      cases a with
      | str b =>
        obtain ⟨cs, hc, rfl⟩ := Option.map_eq_some_iff.mp (show (strsOf ds).map (b :: ·) = some ys from e)
        rw [List.map_cons, strsOf_vs r hc]
      | _ => cases e
def joinD (x : Str) (y : PyData) : Option PyData := (asSeq y).bind fun ds => (strsOf ds).bind fun ys => if (ys.map (·.length)).sum + ys.length * x.length ≤ 16777216 then some (.str (Txt.join x ys)) else none
def gJoin (ga gb : Rho → R PyData) : Rho → R PyData := fun ρ => (ga ρ).bd fun x => (R.of (asStr x)).bd fun x => (gb ρ).bd fun y => R.of (joinD x y)
theorem sem_join {apos : Pos} (ha : SemE X a ga) (hb : SemE X b gb) (hs : starEach [b] X.env = [(false, eval b X.env)] := by rfl) (hbase : attributeBase a "join" X.env (eval a X.env) = eval a X.env := by rfl) (hline : (apos.endLine == pos.line) = true := by rfl) :
    SemE X (.Call (.Attribute a "join" apos) [b] [] pos) (gJoin ga gb) := fun W tk =>
  pe_imp (pe_join (ha W tk) (hb W tk) hs hbase hline) fun σ H Q ⟨ρ, env, post⟩ => ⟨ρ, env, post.seq fun x v H1 _ s1 r1 post1 => by
    obtain ⟨z, e, post2⟩ := post_of post1
    cases r1 with
    | str y =>
      cases e
      refine ⟨⟨_, rfl⟩, ρ, env.same s1, post2.seq fun y u H2 _ s2 r2 post3 => ?_⟩
      obtain ⟨r, e, q⟩ := post3.use
      obtain ⟨ds, e1, e⟩ := Option.bind_eq_some_iff.mp e
      obtain ⟨ys, e2, e⟩ := Option.bind_eq_some_iff.mp e
      obtain ⟨c, rfl⟩ := ite_some e
      cases r2 with
      | lst hs ha =>
        cases e1
        rw [strsOf_vs ha e2] at hs
        exact ⟨z, _, ys, rfl, rfl, .inl hs, c, q _ _ (Same.refl H2) (.str _)⟩
      | tup hs ha =>
        cases e1
        rw [strsOf_vs ha e2] at hs
        exact ⟨z, _, ys, rfl, rfl, .inr hs, c, q _ _ (Same.refl H2) (.str _)⟩
      | _ => cases e1
    | _ => cases e⟩

/-! ### {"a": x, "b": y}[k] -/
structure SemP (X : Cx) (pos : Pos) (keys : List (Option Expr)) (values : List Expr) (ks : List Str) (gs : Rho → R (List PyData)) : Prop where
  run : ∀ W, Takes X W → ∃ trs, PPs X pos keys values trs ∧ ∀ (Q : List (V × V) → Hp → Prop) σ H, (∃ ρ, EnvR X.K H σ ρ ∧ PostG X.mg W σ H (rDs X.K) (fun vs H' => Q (ks.map V.str |>.zip vs) H') (gs ρ)) → tPairs trs σ H Q
theorem sem_p0 : SemP X pos [] [] [] gNil := ⟨fun W tk => ⟨[], pps_nil, fun Q σ H ⟨ρ, env, post⟩ => post [] H (Same.refl H) .nil⟩⟩
theorem sem_p1 {k : Str} {j : Nat} {p : Pos} {v : Expr} {g : Rho → R PyData} {keys : List (Option Expr)} {values : List Expr} {ks : List Str} {gs : Rho → R (List PyData)} (hv : SemE X v g) (hr : SemP X pos keys values ks gs) :
    SemP X pos (some (.Constant (.str k) j p) :: keys) (v :: values) (k :: ks) (gCons g gs) := ⟨fun W tk => by
  obtain ⟨trs, h1, h2⟩ := hr.run W tk
  refine ⟨_, pps_cons pe_str (hv W tk) h1, fun Q σ H ⟨ρ, env, post⟩ => ?_⟩
  refine ⟨ρ, env, post.seq fun x v H1 _ s1 r1 post1 => h2 _ σ H1 ⟨ρ, env.same s1, post1.seq fun xs vs H2 _ s2 r2 post2 => ?_⟩⟩
  exact post2 (v :: vs) H2 (Same.refl H2) (.cons (dp_same s2 r1) r2)⟩
def dselD (ks : List Str) (ds : List PyData) (x : PyData) : Option PyData := (asStr x).bind fun k => (ks.zip ds).lookup k
def dokD (ks : List Str) (ds : List PyData) : Option Unit := if ks.Nodup ∧ ks.length = ds.length ∧ ks.length ≤ 15 then some () else none
def gDsel (ks : List Str) (gs : Rho → R (List PyData)) (gb : Rho → R PyData) : Rho → R PyData := fun ρ => (gs ρ).bd fun ds => (R.of (dokD ks ds)).bd fun _ => (gb ρ).bd fun x => R.of (dselD ks ds x)
/-- sequences stay -/
structure Seqs (K : PySem.W.Frag) (H H' : Hp) : Prop where
  l : ∀ a xs, SqL K H a xs → SqL K H' a xs
  t : Tups K H H'
  s : ∀ a φ, H a = some (.ext φ) → H' a = some (.ext φ)
mutual
theorem dp_seqs {K : PySem.W.Frag} {H H' : Hp} (e : Seqs K H H') : ∀ {d : PyData} {v : V}, Dp K H v d → Dp K H' v d
  | .none, _, h => by cases h; exact .non
  | .bool _, _, h => by cases h; exact .bl _
  | .int _, _, h => by cases h; exact .int _
  | .str _, _, h => by cases h; exact .str _
  | .list ds, _, h => by
    cases h with
    | lst hs ha => exact .lst (e.l _ _ hs) (dpAll_seqs e ha)
  | .tuple ds, _, h => by
    cases h with
    | tup hs ha => exact .tup (e.t _ _ hs) (dpAll_seqs e ha)
  | .dict _, _, h => by cases h
theorem dpAll_seqs {K : PySem.W.Frag} {H H' : Hp} (e : Seqs K H H') : ∀ {ds : List PyData} {vs : List V}, DpAll K H vs ds → DpAll K H' vs ds
  | [], _, h => by cases h; exact .nil
  | d :: ds, _, h => by
    cases h with
    | cons h1 h2 => exact .cons (dp_seqs e h1) (dpAll_seqs e h2)
end
theorem EnvR.seqs {K : PySem.W.Frag} {H H' : Hp} (e : Seqs K H H') : ∀ {ρ : Rho} {σ : L2.St}, EnvR K H σ ρ → EnvR K H' σ ρ
  | _, _, .nil => .nil
  | .u :: _, _, .cons a r => .cons trivial (EnvR.seqs e r)
  | .d x :: _, _, .cons ⟨v, h1, h2⟩ r => .cons ⟨v, h1, dp_seqs e h2⟩ (EnvR.seqs e r)
  | .r v :: _, _, .cons a r => .cons a (EnvR.seqs e r)
  | .s :: _, _, .cons ⟨a, h1, h2⟩ r => .cons ⟨a, h1, e.s _ _ h2⟩ (EnvR.seqs e r)
/-- an object that is no sequence is changed -/
theorem Seqs.upd {K : PySem.W.Frag} {H : Hp} {p : Addr} {o o' : HO} (h : H p = some o) (h0 : ∀ xs, o ≠ .lst xs) (h1 : ∀ xs, o ≠ .tup xs) (h2 : ∀ ob u, o ≠ .frz ob u) (h3 : ∀ φ, o ≠ .ext φ) : Seqs K H (upd H p o') where
  l := fun a xs q => by
    rcases q with (q | ⟨ob, q⟩) | q
    · refine .inl (.inl ?_)
      rw [upd_ne]
      · exact q
      · rintro rfl
        rw [h] at q
        exact h0 _ (Option.some.inj q)
    · refine .inl (.inr ⟨ob, ?_⟩)
      rw [upd_ne]
      · exact q
      · rintro rfl
        rw [h] at q
        exact h2 _ _ (Option.some.inj q)
    · exact .inr q
  t := Tups.lst h h1 h2
  s := fun a φ q => by
    rw [upd_ne]
    · exact q
    · rintro rfl
      rw [h] at q
      exact h3 _ (Option.some.inj q)
theorem Seqs.dK {K : PySem.W.Frag} {H : Hp} {p : Addr} {kvs : List (Key × V)} {o' : HO} (h : H p = some (.dK kvs)) : Seqs K H (L2.upd H p o') := Seqs.upd h (fun _ e => nomatch e) (fun _ e => nomatch e) (fun _ _ e => nomatch e) fun _ e => nomatch e
theorem valV_merge : ∀ (more kvs : List (Key × V)) (j : Key), (more.map (·.1)).Nodup → valV (mergeK kvs more) j = ((valV more j).or (valV kvs j))
  | [], kvs, j, _ => rfl
  | p :: r, kvs, j, h => by
    rw [List.map_cons, List.nodup_cons] at h
    show valV (mergeK (putK kvs p.1 p.2) r) j = _
    rw [valV_merge r _ j h.2, valV_put]
    by_cases e : p.1 = j
    · have hn : valV r j = none := by
        cases q : valV r j with
        | none => rfl
        | some x =>
          exfalso
          unfold valV at q
          obtain ⟨z, hz, _⟩ := Option.map_eq_some_iff.mp q
          have h1 := List.mem_of_find?_eq_some hz
          have h2 := List.find?_some hz
          have h3 : z.1 = j := by simpa using h2
          exact h.1 (List.mem_map.mpr ⟨z, h1, by rw [h3, e]⟩)
      rw [hn, valV_pos e, if_pos e.symm]
      rfl
    · rw [valV_neg e, if_neg (fun z => e z.symm)]
abbrev kS (k : Str) : Key := .inr k
theorem kS_inj {a b : Str} (e : kS a = kS b) : a = b := Sum.inr.inj e
theorem valV_zip {K : PySem.W.Frag} {H : Hp} {k : Str} {d : PyData} : ∀ {ks : List Str} {ds : List PyData} {vs : List V}, DpAll K H vs ds → (ks.zip ds).lookup k = some d → ∃ v, valV ((ks.map kS).zip vs) (kS k) = some v ∧ Dp K H v d
  | [], _, _, _, e => by cases e
  | _ :: _, [], _, _, e => by cases e
  | k1 :: ks, d1 :: ds, _, h, e => by
    cases h with
    | @cons v1 _ vs _ h1 h2 =>
      by_cases c : k1 = k
      · subst c
        rw [List.zip_cons_cons, List.lookup_cons_self] at e
        cases e
        exact ⟨v1, valV_pos rfl, h1⟩
      · rw [List.zip_cons_cons, List.lookup_cons, show (k == k1) = false by simpa using fun z => c z.symm] at e
        obtain ⟨v, q1, q2⟩ := valV_zip h2 e
        exact ⟨v, by rw [List.map_cons, List.zip_cons_cons, valV_neg (fun z => c (kS_inj z))]; exact q1, q2⟩
theorem sem_dsel {keys : List (Option Expr)} {values : List Expr} {ks : List Str} {gs : Rho → R (List PyData)} {p1 : Pos} {k : Nat} (hr : Room k X.A) (hP : SemP X p1 keys values ks gs) (hb : SemE X b gb) (hall : keys.all (·.isSome) = true := by rfl) (hl : keys.length = values.length := by rfl) (h0 : keys ≠ [] := by intro z; cases z)
    (h15 : keys.length ≤ 15 := by decide) (hs : NoSl b := by intro _ _; rfl) : SemE X (.Subscript (.Dict keys values p1) b pos) (gDsel ks gs gb) := fun W tk => by
  obtain ⟨trs, h1, h2⟩ := hP.run W tk
  refine pe_imp (pe_dget (hu_of hr) (pe_disp h1 hall hl h0 h15) (hb W tk) hs) fun σ H Q ⟨ρ, env, post⟩ => ?_
  intro p hp
  refine h2 _ σ _ ⟨ρ, env.same (same_upd hp), ?_⟩
  unfold gDsel at post
  refine PostG.seq2 (same_upd hp) post fun ds vs H2 s2 r2 post => ?_
  · 
    have hd2 : H2 p = some (.dK []) := s2 _ _ upd_same
    have sH : Same H H2 := (same_upd hp).trans s2
    have hlen := dpAll_length r2
    obtain ⟨_, e0, post⟩ := post_of (show PostG X.mg W σ H (rDp X.K) Q ((R.of (dokD ks ds)).bd fun _ => (gb ρ).bd fun x => R.of (dselD ks ds x)) from post)
    obtain ⟨⟨hnd, hle, h16⟩, _⟩ := ite_some (show (if ks.Nodup ∧ ks.length = ds.length ∧ ks.length ≤ 15 then some () else none) = some _ from e0)
    have sq := Seqs.dK (K := X.K) (o' := .dK (mergeK [] ((ks.map kS).zip vs))) hd2
    have pz : ∀ (ks : List Str) (vs : List V), (ks.map V.str).zip vs = ((ks.map kS).zip vs).map fun kv => (kV kv.1, kv.2) := by
      intro ks
      induction ks with
      | nil => intro vs; rfl
      | cons a r ih =>
        intro vs
        cases vs with
        | nil => rfl
        | cons v vs => exact congrArg (((V.str a), v) :: ·) (ih vs)
    have hz : (((ks.map kS).zip vs).map (·.1)) = ks.map kS := by
      rw [List.map_fst_zip]
      rw [List.length_map, hlen, hle]
      exact Nat.le_refl _
    have hnd2 : (((ks.map kS).zip vs).map (·.1)).Nodup := by
      rw [hz]
      exact List.Pairwise.map kS (fun a b h e => h (kS_inj e)) hnd
    refine ⟨hd2, _, pz ks vs, ?_, ρ, (env.same sH).seqs sq, ?_⟩
    · rw [List.length_zip, List.length_map, hlen, hle, Nat.min_self, ← hle]; exact h16
    have sH3 : Same H (L2.upd H2 p (.dK (mergeK [] ((ks.map kS).zip vs)))) := fun a o h => by
      rw [upd_ne]
      · exact sH a o h
      · rintro rfl
        rw [hp] at h
        cases h
    refine (post.mono sH3).seq fun x v H4 _ s4 r4 post4 => ?_
    obtain ⟨r, e, q⟩ := post4.use
    cases r4 with
    | str y =>
      obtain ⟨w, q1, q2⟩ := valV_zip r2 (show (ks.zip ds).lookup y = some r from e)
      have e4 : H4 p = some (.dK (mergeK [] ((ks.map kS).zip vs))) := s4 _ _ upd_same
      have g := DGet.k (k := kS y) e4
      rw [valV_merge _ _ _ hnd2, q1] at g
      exact ⟨p, w, rfl, g, q _ _ (Same.refl H4) (dp_same s4 (dp_seqs sq q2))⟩
    | _ => cases e
end
end RL

namespace RL
open PySem PySem.Spec PyProof.Rows L2

/-! ### the source of draws: between its list and what is told of it -/
section
variable {P : Program} {w : World} {K : PySem.W.Frag} {mg : Str → Option Value} {base : Heap}
theorem srcL_stay (a : Addr) : ∀ h1 h2 : Heap, SrcL h1 a → (∀ o, h1.get? a = some o → h2.get? a = some o) → SrcL h2 a :=
  fun h1 h2 ⟨c, n, t, u, k, h0, h3, h4, e⟩ s => ⟨c, n, t, u, k, h0, h3, h4, s _ e⟩
theorem stay_to {H H' : Hp} {h : Heap} {b : Addr} {o : HO} (x : ObjOk P w H h b o) (ho : ∀ c, H c = some (.own b) → H' c = some (.own b)) (ht : ∀ c xs, H c = some (.tup xs) → H' c = some (.tup xs)) : ObjOk P w H' h b o :=
  x.stay (fun _ _ _ e => e) ho ht
/-- the list for the source -/
theorem hok_list {H : Hp} {h : Heap} {a : Addr} {c n : Int} {t u : Tok} {k : Nat} (ok : HOk P w H h) (ha : H a = some (srcHO a)) (e : h.get? a = some { cls := .type "list", data := .seq #[.int c t, .int n u] k }) : HOk P w (upd H a (.lst [.int c, .int n])) h := fun b o hb => by
  by_cases q : b = a
  · subst q
    rw [upd_same] at hb
    cases hb
    refine ⟨by rw [sizeLine_eq]; show 2 ≤ 16777216; decide, [.int c t, .int n u], k, .cons ⟨t, rfl⟩ (.cons ⟨u, rfl⟩ .nil), e⟩
  · rw [upd_ne q] at hb
    refine stay_to (ok b o hb) (fun c hc => ?_) fun c xs hc => ?_
    · rw [upd_ne]
      · exact hc
      · rintro rfl; rw [ha] at hc; cases hc
    · rw [upd_ne]
      · exact hc
      · rintro rfl; rw [ha] at hc; cases hc
/-- the source for the list -/
theorem hok_src {H : Hp} {h : Heap} {a : Addr} {c n : Int} (ok : HOk P w (upd H a (.lst [.int c, .int n])) h) (h0 : 0 ≤ c) (h1 : 0 ≤ n) (h2 : n < 2147483549) : HOk P w (upd H a (srcHO a)) h := fun b o hb => by
  by_cases q : b = a
  · subst q
    rw [upd_same] at hb
    cases hb
    obtain ⟨_, its, k, r, e⟩ := ok b (.lst [.int c, .int n]) upd_same
    cases r with
    | cons r1 r2 =>
      cases r2 with
      | cons r2 r3 =>
        cases r3
        obtain ⟨t, rfl⟩ := r1
        obtain ⟨u, rfl⟩ := r2
        exact ⟨⟨c, n, t, u, k, h0, h1, h2, e⟩, ⟨_, e⟩, srcL_stay b⟩
  · rw [upd_ne q] at hb
    refine stay_to (ok b o (by rw [upd_ne q]; exact hb)) (fun d hc => ?_) fun d xs hc => ?_
    · by_cases z : d = a
      · subst z; rw [upd_same] at hc; cases hc
      · rw [upd_ne z] at hc ⊢; exact hc
    · by_cases z : d = a
      · subst z; rw [upd_same] at hc; cases hc
      · rw [upd_ne z] at hc ⊢; exact hc
theorem un_src {fs ex : List Addr} {H H1 H2 : Hp} {h h' : Heap} {a : Addr} {o1 : HO} {xs : List V} (u : Un fs ex H1 (upd H2 a (.lst xs)) h h') (hH : H1 = H ∨ (∃ φ, H a = some (.ext φ)) ∧ H1 = upd H a o1) : Un fs ex H (upd H2 a (srcHO a)) h h' := by
  have n1 : ∀ b, H b = none → H1 b = none := fun b q => by
    rcases hH with e | ⟨⟨φ, e⟩, e1⟩
    · rw [e]; exact q
    · rw [e1, upd_ne]
      · exact q
      · rintro rfl; rw [e] at q; cases q
  have n2 : ∀ b o, H b = some o → (∀ φ, o ≠ .ext φ) → H1 b = some o := fun b o q ne => by
    rcases hH with e | ⟨⟨φ, e⟩, e1⟩
    · rw [e]; exact q
    · rw [e1, upd_ne]
      · exact q
      · rintro rfl; rw [e] at q; exact (ne _ (Option.some.inj q).symm).elim
  have n3 : ∀ b o, upd H2 a (.lst xs) b = some o → (o ≠ .lst xs) → upd H2 a (srcHO a) b = some o := fun b o q ne => by
    by_cases z : b = a
    · subst z; rw [upd_same] at q; exact (ne (Option.some.inj q).symm).elim
    · rw [upd_ne z] at q ⊢; exact q
  refine ⟨fun b o q r => u.keep b o q (n1 b r), fun b o q r => u.slot b o q (n1 b r), fun b o q r z => ?_, u.there, fun b ys q => n3 _ _ (u.tups b ys (n2 _ _ q fun _ e => nomatch e)) (fun e => nomatch e), fun b ob v q => n3 _ _ (u.frzs b ob v (n2 _ _ q fun _ e => nomatch e)) (fun e => nomatch e), fun b ps q => ?_⟩
  · have q1 := u.free b o q (n1 b r) z
    by_cases y : b = a
    · subst y; rw [upd_same] at q1; cases q1
    · rw [upd_ne y] at q1 ⊢; exact q1
  · obtain ⟨more, q1⟩ := u.tbls b ps (n2 _ _ q fun _ e => nomatch e)
    exact ⟨more, n3 _ _ q1 (fun e => nomatch e)⟩

/-! ### promises of what draws -/
/-- it computes m of the data behind the source -/
def spS (K : PySem.W.Frag) (mg : Str → Option Value) (n : Nat) (m : List PyData → R PyData) : Sp := fun vs H Q E => vs.length = n + 1 ∧ ∃ a us ds, vs = .ref a :: us ∧ H a = some (srcHO a) ∧ DpAll K H us ds ∧ PostF K mg H Q E (m ds)
def gCallS (i n : Nat) (gs : Rho → R (List PyData)) (m : List PyData → R PyData) : Rho → R PyData := fun ρ => match ρ[i]? with
  | some .s => (gs ρ).bd fun ds => if ds.length = n then m ds else .stuck
  | _ => .stuck
theorem sem_callS {X : Cx} {x y : Str} {i n k : Nat} {m : List PyData → R PyData} {es : List Expr} {gs : Rho → R (List PyData)} {p q pos : Pos} (F : FnF X.prog X.w X.K X.mg X.base k x (n + 1) (spS X.K X.mg n m)) (hr : Room k X.A) (ha : SemA X es gs) (hN : X.N[i]? = some y := by rfl) (hv : Vis X.env.scope y := by first | exact Or.inl rfl | exact Or.inr (Or.inl rfl) | exact Or.inr (Or.inr rfl)) (hg : Gl X x := by rfl)
    (hd : (y == ("__debug__" : Str)) = false := by decide) (hcd : (y == ("__classdict__" : Str)) = false := by decide) (hdb : (x == ("__debug__" : Str)) = false := by decide) (he : starEach (.Name y q :: es) X.env = (false, eval (.Name y q) X.env) :: starEach es X.env := by rfl) (hpl : (backTo pos (starEach es X.env)).any (·.1) = false := by rfl) :
    SemE X (.Call (.Name x p) (.Name y q :: es) [] pos) (gCallS i n gs m) := fun W tk => by
  obtain ⟨f, fd, ps, ok, hm, hk, hb, hl⟩ := F.ex
  refine pe_imp (pe_callS ok hr hg hm hk hb (fun σ => passAt tk σ) (pa_cons (pe_var hN hv hd hcd) (ha W tk) he) hdb he hpl) fun σ H Q ⟨ρ, env, post⟩ => ?_
  unfold gCallS at post
  cases z : ρ[i]? with
  | none => rw [z] at post; exact post.elim
  | some sl =>
    rw [z] at post
    cases sl with
    | s =>
      obtain ⟨a, h1, h2⟩ := env.getS z
      refine ⟨_, h1, ρ, env, PostG.seq post fun ds vs H1 _ s1 r1 post1 => ?_⟩
      split at post1
      · rename_i hn
        exact ⟨by rw [List.length_cons, dpAll_length r1, hn], a, vs, ds, rfl, s1 _ _ h2, r1, postF_of post1⟩
      · exact post1.elim
    | _ => exact post.elim
def runS (N : List Str) (g : Rho → O) (ds : List PyData) : R PyData := (g (.s :: startE N.tail ds)).done
theorem fnF_src {P : Program} {w : World} {K : PySem.W.Frag} {mg : Str → Option Value} {base : Heap} {k n : Nat} {x qual : Str} {params : Arguments} {body : List Stmt} {scope : Scope} {f : Addr} {N ps : List Str} {g : Rho → O}
    (F : ∃ fd, FunD K x qual params body scope [] [] f fd) (S : FnScope N ps scope) (hm : mg x = some (.ref f)) (hn : ps.length = n + 1)
    (hb : ∀ (kV doc pm : Value) (an : Option Addr) (cdv ct : Value) (us : List Value), us.length = ps.length → bindArgs (PySem.W.fnOf x qual params body scope .none kV doc pm an cdv ct) ⟨us, []⟩ = pure (ps.zip us))
    (hbody : ∀ (cdv : Value) (A : Around) (outer : List Env) (s : Shared) (H : Hp) (E : XK), Room k (A.deeper (envOfC qual scope s.heap.objs.size f cdv)) → SemSs (cxOf (L2.CX P w) P w K mg base N qual scope f cdv A outer s H E) body g) :
    FnF P w K mg base (k + 1) x (n + 1) (spS K mg n (runS N g)) := by
  obtain ⟨fd, F⟩ := F
  refine ⟨f, fd, ps, F.ok S (fun vs H Q E h => by rw [hn]; exact h.1) fun cdv A outer s H vs Q E hr ⟨hl, a, us, ds, e, ha, hd, post⟩ => ?_, hm, F.kp, F.bindsN hb, hn⟩
  subst e
  refine ⟨_, hbody cdv A outer s H E hr _ ⟨takes_of rfl rfl rfl rfl, passes_of rfl⟩, .s :: startE N.tail ds, ?_, post_done post⟩
  have e0 := envR_start (N := N.tail) hd
  have hN : ∃ y N', N = y :: N' := by
    cases N with
    | nil =>
      have h5 := S.pre
      rw [List.take_nil] at h5
      rw [← h5] at hn
      cases hn
    | cons y N' => exact ⟨y, N', rfl⟩
  obtain ⟨y, N', rfl⟩ := hN
  have e1 : L2.start (y :: N') (.ref a :: us) = some (.ref a) :: L2.start N' us := by
    unfold L2.start
    simp
  rw [e1]
  exact .cons ⟨a, rfl, ha⟩ e0

theorem ofE {X : Cx} {W : WX} {e : Expr} {g : Rho → R PyData} (tk : Tk X W) (h : SemE X e g) : PE X e (tP X.K X.mg W g) := h W tk.tk
theorem ofT {X : Cx} {W : WX} {e : Expr} {g : Rho → R Bool} (tk : Tk X W) (h : SemT X e g) : PT X e (tPT X.K X.mg W g) := h W tk.tk
theorem ofA {X : Cx} {W : WX} {es : List Expr} {g : Rho → R (List PyData)} (tk : Tk X W) (h : SemA X es g) : PA X es (tPA X.K X.mg W g) := h W tk.tk
theorem ofS {X : Cx} {W : WX} {e : Stmt} {g : Rho → O} (tk : Tk X W) (h : SemS X e g) : PS X e (tPS X.K X.mg W g) := h W tk
theorem ofB {X : Cx} {W : WX} {e : List Stmt} {g : Rho → O} (tk : Tk X W) (h : SemSs X e g) : PSs X e (tPS X.K X.mg W g) := h W tk
/-! ### _law_draw -/
def gC (n : Int) : Rho → R PyData := gK (.int n)
def gAt (i : Nat) : Rho → R PyData := gIx (getV 0) (gC i)
def gInt (g : Rho → R PyData) : Rho → R PyData := gBlt intD (gCons g gNil)
/-- source[i] = e -/
def tPut (K : PySem.W.Frag) (mg : Str → Option Value) (W : WX) (i : Int) (g : Rho → R PyData) : TS := tAsg (tP K mg W g) (gSub (tVar 0) (tP K mg W (gC i)) rSetL)
def t_draw (K : PySem.W.Frag) (mg : Str → Option Value) (W : WX) : TS :=
  tSeq (tIfS (tPT K mg W (gCmp .Gt (gAt 0) (gC 0)))
      (tSeq (tAsg (tP K mg W (gBin .Mod (gInt (gAt 0)) (getV 1))) (gName 2)) (tSeq (tPut K mg W 0 (gBin .FloorDiv (gAt 0) (getV 1))) (tPS K mg W (sRet (getV 2)))))
      tNext)
    (tSeq (tPut K mg W 1 (gBin .Mod (gInt (gBin .Add (gBin .Mult (gAt 1) (gC 48271)) (gC 31))) (gC 2147483549)))
      (tPS K mg W (sSeq (sSet 3 (gBin .Mod (gInt (gBin .Mult (gAt 1) (gBin .Add (gBin .FloorDiv (gAt 1) (gC 9)) (gC 5)))) (gC 2147483399))) (sRet (gBin .Mod (gInt (gBin .FloorDiv (getV 3) (gC 32))) (getV 1))))))
def m_draw : List PyData → R PyData
  | [.int n] => if 0 < n ∧ n < 1073741824 then .ask n.toNat fun i => .ok (.int i) else .stuck
  | _ => .stuck
/-- the promise over the list -/
def spD : Sp := fun vs H Q _ => ∃ a c n many, vs = [.ref a, .int many] ∧ H a = some (.lst [.int c, .int n]) ∧ 0 ≤ c ∧ 0 ≤ n ∧ n < 2147483549 ∧ 0 < many ∧ many < 1073741824 ∧
  ∀ r c' n' H', 0 ≤ r → r < many → 0 ≤ c' → 0 ≤ n' → n' < 2147483549 → (∀ b, b ≠ a → ∀ o, H b = some o → H' b = some o) → H' a = some (.lst [.int c', .int n']) → Q (.int r) H'
theorem env_put {K : PySem.W.Frag} {H H' : Hp} {a : Addr} {c n c' n' : Int} {σ : L2.St} {rest : Rho} (env : EnvR K H σ (.d (.list [.int c, .int n]) :: rest)) (hσ : σ[0]? = some (some (.ref a))) (hr : ∀ x ∈ rest, ∃ d, (x = .d d ∧ noL d = true) ∨ x = .u) (ht : Tups K H H') (e : H' a = some (.lst [.int c', .int n'])) : EnvR K H' σ (.d (.list [.int c', .int n']) :: rest) := by
  cases env with
  | cons h1 h2 =>
    simp only [List.getElem?_cons_zero, Option.some.injEq] at hσ
    refine .cons ⟨.ref a, hσ, .lst (SqL.of e) (.cons (.int _) (.cons (.int _) .nil))⟩ ?_
    have key : ∀ {rest : Rho} {τ : L2.St}, EnvR K H τ rest → (∀ x ∈ rest, ∃ d, (x = .d d ∧ noL d = true) ∨ x = .u) → EnvR K H' τ rest := by
      intro rest
      induction rest with
      | nil => intro τ e _; cases e; exact .nil
      | cons x r ih =>
        intro τ e hx
        cases e with
        | cons p q =>
          refine .cons ?_ (ih q fun y hy => hx y (List.mem_cons_of_mem _ hy))
          obtain ⟨d, ⟨rfl, hn⟩ | rfl⟩ := hx x List.mem_cons_self
          · obtain ⟨v, e1, e2⟩ := p
            exact ⟨v, e1, dp_imm ht hn e2⟩
          · trivial
    exact key h2 hr
theorem put_rd {K : PySem.W.Frag} {mg : Str → Option Value} {W : WX} {D : Ends} {σ : L2.St} {H : Hp} {a : Addr} {i : Int} {c n v c' n' : Int} {rest : Rho} {g : Rho → R PyData} (env : EnvR K H σ (.d (.list [.int c, .int n]) :: rest)) (hσ : σ[0]? = some (some (.ref a))) (ha : H a = some (.lst [.int c, .int n])) (hr : ∀ x ∈ rest, ∃ d, (x = .d d ∧ noL d = true) ∨ x = .u)
    (hg : g (.d (.list [.int c, .int n]) :: rest) = .ok (.int v)) (hi : (i = 0 ∧ c' = v ∧ n' = n) ∨ (i = 1 ∧ c' = c ∧ n' = v))
    (k : ∀ H', (∀ b, b ≠ a → ∀ o, H b = some o → H' b = some o) → H' a = some (.lst [.int c', .int n']) → EnvR K H' σ (.d (.list [.int c', .int n']) :: rest) → D.nx σ H') : tPut K mg W i g D σ H := by
  refine ⟨_, env, ?_⟩
  rw [hg]
  intro x H1 s1 r1
  cases r1
  have env1 := env.same s1
  refine ⟨.ref a, hσ, _, env1, fun y H2 s2 r2 => ?_⟩
  cases r2
  have ha2 : H2 a = some (.lst [.int c, .int n]) := s2 _ _ (s1 _ _ ha)
  have env2 := env1.same s2
  rcases hi with ⟨rfl, rfl, rfl⟩ | ⟨rfl, rfl, rfl⟩
  · refine ⟨a, [.int c, .int n'], 0, 0, rfl, rfl, ha2, rfl, k _ (fun b hb o q => by rw [upd_ne hb]; exact s2 _ _ (s1 _ _ q)) upd_same ?_⟩
    exact env_put env2 hσ hr (Tups.list ha2) upd_same
  · refine ⟨a, [.int c', .int n], 1, 1, rfl, rfl, ha2, rfl, k _ (fun b hb o q => by rw [upd_ne hb]; exact s2 _ _ (s1 _ _ q)) upd_same ?_⟩
    exact env_put env2 hσ hr (Tups.list ha2) upd_same
theorem draw_rd {K : PySem.W.Frag} {mg : Str → Option Value} {W : WX} {Q : VK} {H : Hp} {a : Addr} {c n many : Int} (ha : H a = some (.lst [.int c, .int n])) (h0 : 0 ≤ c) (h1 : 0 ≤ n) (h2 : n < 2147483549) (hm : 0 < many) (hm2 : many < 1073741824)
    (k : ∀ r c' n' H', 0 ≤ r → r < many → 0 ≤ c' → 0 ≤ n' → n' < 2147483549 → (∀ b, b ≠ a → ∀ o, H b = some o → H' b = some o) → H' a = some (.lst [.int c', .int n']) → Q (.int r) H') :
    t_draw K mg W { nx := fun _ H' => Q .non H', rt := Q } (L2.start ["source", "many", "rest", "wide"] [.ref a, .int many]) H := by
  have env : EnvR K H (L2.start ["source", "many", "rest", "wide"] [.ref a, .int many]) [.d (.list [.int c, .int n]), .d (.int many), .u, .u] :=
    .cons ⟨_, rfl, .lst (SqL.of ha) (.cons (.int _) (.cons (.int _) .nil))⟩ (.cons ⟨_, rfl, .int _⟩ (.cons trivial (.cons trivial .nil)))
  have e1 : gCmp .Gt (gAt 0) (gC 0) [.d (.list [.int c, .int n]), .d (.int many), .u, .u] = .ok (decide (0 < c)) := rfl
  have r0 : ∀ x ∈ ([.d (.int many), .u, .u] : Rho), ∃ d, (x = .d d ∧ noL d = true) ∨ x = .u := fun x hx => by
    rcases List.mem_cons.mp hx with rfl | hx
    · exact ⟨_, .inl ⟨rfl, rfl⟩⟩
    · rcases List.mem_cons.mp hx with rfl | hx
      · exact ⟨.none, .inr rfl⟩
      · rcases List.mem_cons.mp hx with rfl | hx
        · exact ⟨.none, .inr rfl⟩
        · cases hx
  have hmod : ∀ x : Int, modD (.int x) (.int many) = some (.int (x % many)) := fun x => by
    show (if 0 < many then some (x % many) else none).map PyData.int = _
    rw [if_pos hm]; rfl
  have hdiv : ∀ x : Int, fdivD (.int x) (.int many) = some (.int (x / many)) := fun x => by
    show (if 0 < many ∧ many < 1073741824 then some (x / many) else none).map PyData.int = _
    rw [if_pos ⟨hm, hm2⟩]; rfl
  unfold t_draw
  refine ⟨_, env, ?_⟩
  rw [e1]
  intro b H1 s1 eb
  subst eb
  have ha1 : H1 a = some (.lst [.int c, .int n]) := s1 _ _ ha
  have env1 := env.same s1
  by_cases hc : 0 < c
  · rw [if_pos (decide_eq_true hc)]
    have e2 : gBin .Mod (gInt (gAt 0)) (getV 1) [.d (.list [.int c, .int n]), .d (.int many), .u, .u] = .ok (.int (c % many)) := by
      show R.of (modD (.int c) (.int many)) = _
      rw [hmod]; rfl
    refine ⟨_, env1, ?_⟩
    rw [e2]
    intro v H2 s2 rv
    cases rv
    have env2 : EnvR K H2 ((L2.start ["source", "many", "rest", "wide"] [.ref a, .int many]).set 2 (some (.int (c % many)))) [.d (.list [.int c, .int n]), .d (.int many), .d (.int (c % many)), .u] := (env1.same s2).setD 2 (.int _)
    refine put_rd (c := c) (n := n) (v := c / many) (c' := c / many) (n' := n) env2 rfl (s2 _ _ ha1) ?_ ?_ (.inl ⟨rfl, rfl, rfl⟩) fun H3 keep3 ha3 env3 => ?_
    · intro x hx
      rcases List.mem_cons.mp hx with rfl | hx
      · exact ⟨_, .inl ⟨rfl, rfl⟩⟩
      · rcases List.mem_cons.mp hx with rfl | hx
        · exact ⟨_, .inl ⟨rfl, rfl⟩⟩
        · rcases List.mem_cons.mp hx with rfl | hx
          · exact ⟨.none, .inr rfl⟩
          · cases hx
    · show R.of (fdivD (.int c) (.int many)) = _
      rw [hdiv]; rfl
    · refine ⟨_, env3, fun v H4 s4 rv => ?_⟩
      cases rv
      exact k _ (c / many) n H4 (Int.emod_nonneg _ (by omega)) (Int.emod_lt_of_pos _ hm) (Int.ediv_nonneg h0 (by omega)) h1 h2 (fun b hb o q => s4 _ _ (keep3 b hb o (s2 _ _ (s1 _ _ q)))) (s4 _ _ ha3)
  · rw [if_neg (fun z => hc (of_decide_eq_true z))]
    have hmul : ∀ x : Int, mulD (.int x) (.int 48271) = some (.int (x * 48271)) := fun x => by
      show (if (-(2 ^ 64) < x ∧ x < 2 ^ 64) ∨ (-(2 ^ 64) < (48271 : Int) ∧ (48271 : Int) < 2 ^ 64) then some (PyData.int (x * 48271)) else none) = _
      rw [if_pos (.inr (by omega))]
    refine put_rd (c := c) (n := n) (v := (n * 48271 + 31) % 2147483549) (c' := c) (n' := (n * 48271 + 31) % 2147483549) env1 rfl ha1 r0 ?_ (.inr ⟨rfl, rfl, rfl⟩) fun H3 keep3 ha3 env3 => ?_
    · show ((((R.of (mulD (.int n) (.int 48271))).bd fun x => (R.ok (.int 31)).bd fun y => R.of (addD x y)).bd fun x => R.ok [x]).bd fun xs => R.of (intD xs)).bd (fun x => (R.ok (.int 2147483549)).bd fun y => R.of (modD x y)) = _
      rw [hmul]
      rfl
    · have b1 : 0 ≤ (n * 48271 + 31) % 2147483549 := Int.emod_nonneg _ (by omega)
      have b2 : (n * 48271 + 31) % 2147483549 < 2147483549 := Int.emod_lt_of_pos _ (by omega)
      refine ⟨_, env3, ?_⟩
      generalize (n * 48271 + 31) % 2147483549 = m at *
      have hmul2 : mulD (.int m) (.int (m / 9 + 5)) = some (.int (m * (m / 9 + 5))) := by
        show (if (-(2 ^ 64) < m ∧ m < 2 ^ 64) ∨ (-(2 ^ 64) < m / 9 + 5 ∧ m / 9 + 5 < 2 ^ 64) then some (PyData.int (m * (m / 9 + 5))) else none) = _
        rw [if_pos (.inl (by omega))]
      have e3 : (sSeq (sSet 3 (gBin .Mod (gInt (gBin .Mult (gAt 1) (gBin .Add (gBin .FloorDiv (gAt 1) (gC 9)) (gC 5)))) (gC 2147483399))) (sRet (gBin .Mod (gInt (gBin .FloorDiv (getV 3) (gC 32))) (getV 1)))) [.d (.list [.int c, .int m]), .d (.int many), .u, .u] = .rt (.int (m * (m / 9 + 5) % 2147483399 / 32 % many)) := by
        show (((((R.of (mulD (.int m) (.int (m / 9 + 5)))).bd fun x => R.ok [x]).bd fun xs => R.of (intD xs)).bd (fun x => (R.ok (.int 2147483399)).bd fun y => R.of (modD x y))).to fun d => .nx [.d (.list [.int c, .int m]), .d (.int many), .u, .d d]).th _ = _
        rw [hmul2]
        show (R.of (modD (.int (m * (m / 9 + 5) % 2147483399 / 32)) (.int many))).to _ = _
        rw [hmod]
        rfl
      rw [e3]
      intro v H4 s4 rv
      cases rv
      exact k _ c m H4 (Int.emod_nonneg _ (by omega)) (Int.emod_lt_of_pos _ hm) h0 b1 b2 (fun b hb o q => s4 _ _ (keep3 b hb o (s1 _ _ q))) (s4 _ _ ha3)

/-- a call's end, the list for the source -/
theorem ce_src {H H1 : Hp} {outer : List Env} {s s' : Shared} {Q Q1 : VK} {u : Value} {P : Program} {w : World} (hc : CE outer P w H1 s Q1 u s') (hq : ∀ v H', Q1 v H' → ∃ a c n H2, H' = upd H2 a (.lst [.int c, .int n]) ∧ 0 ≤ c ∧ 0 ≤ n ∧ n < 2147483549 ∧ (H1 = H ∨ (∃ φ, H a = some (.ext φ)) ∧ ∃ o, H1 = upd H a o) ∧ Q v (upd H2 a (srcHO a))) : CE outer P w H s Q u s' := by
  obtain ⟨v, H', e1, e2, un, hok, r, q⟩ := hc
  obtain ⟨a, c, n, H2, rfl, h0, h1, h2, hh, q2⟩ := hq v H' q
  refine ⟨v, _, e1, e2, ?_, hok_src hok h0 h1 h2, r, q2⟩
  rcases hh with e | ⟨z, o, e⟩
  · exact un_src (o1 := .lst []) un (.inl e)
  · exact un_src un (.inr ⟨z, e⟩)
theorem upd_self {H : Hp} {a : Addr} {o : HO} (h : H a = some o) : upd H a o = H := funext fun b => by
  by_cases e : b = a
  · subst e; rw [upd_same, h]
  · rw [upd_ne e]
theorem ok_draw {P : Program} {w : World} {K : PySem.W.Frag} {mg : Str → Option Value} {base : Heap} {k : Nat} {f : Addr} {fd : FuncData} (F : FnOk P w K mg base (L2.CX P w) k f fd ["source", "many"] spD) : FnOk P w K mg base (L2.CX P w) k f fd ["source", "many"] (spS K mg 1 m_draw) := by
  refine ⟨fun vs H Q E h => h.1, fun A outer s H args us vs Q E hr he hb hv ⟨hl, a, vs', ds, e, ha, hd, post⟩ => ?_⟩
  subst e
  match ds, hd, post with
  | [.int many], hd, post =>
    cases hd with
    | cons h1 h2 =>
      cases h2
      cases h1
      have post : PostF K mg H Q E (if 0 < many ∧ many < 1073741824 then .ask many.toNat fun i => .ok (.int i) else .stuck) := post
      by_cases hm : 0 < many ∧ many < 1073741824
      case neg => rw [if_neg hm] at post; exact post.elim
      rw [if_pos hm] at post
      obtain ⟨⟨c, n, t, u, kk, h0, h1, h2, eo⟩, _, _⟩ := (show ObjOk P w H s.heap a (srcHO a) from he.hok a _ ha)
      have hne : ∀ b, H b = none → upd H a (.lst [.int c, .int n]) b = none := fun b z => by
        rw [upd_ne]
        · exact z
        · rintro rfl
          rw [ha] at z
          cases z
      have he1 : Env0 P w K mg base A outer s (upd H a (.lst [.int c, .int n])) := ⟨he.frames, he.mod, fun b o q => ⟨(he.bs b o q).1, hne b (he.bs b o q).2⟩, he.bsz, he.funs, fun b hb' => hne b (he.frf b hb'), hok_list he.hok ha eo, he.bare⟩
      refine codeAny_mono (F.run A outer s (upd H a (.lst [.int c, .int n])) args us _ (fun v H' => ∃ c' n' H2, H' = upd H2 a (.lst [.int c', .int n']) ∧ 0 ≤ c' ∧ 0 ≤ n' ∧ n' < 2147483549 ∧ Q v (upd H2 a (srcHO a))) (fun _ _ _ => False) hr he1 hb hv
        ⟨a, c, n, many, rfl, upd_same, h0, h1, h2, hm.1, hm.2, fun r c' n' H' hr0 hrm hc' hn' hn2 keep hlst => ⟨c', n', H', (upd_self hlst).symm, hc', hn', hn2, ?_⟩⟩) fun r s' hq => ?_
      · have sm : Same H (upd H' a (srcHO a)) := fun b o q => by
          by_cases z : b = a
          · subst z; rw [upd_same, ← ha]; exact q
          · rw [upd_ne z]; exact keep b z o (by rw [upd_ne z]; exact q)
        have e : ((r.toNat : Nat) : Int) = r := Int.toNat_of_nonneg hr0
        have z := post r.toNat (by omega) (.int r) _ sm (by rw [e]; exact .int r)
        exact z
      · cases r with
        | error e =>
          obtain ⟨_, _, _, _, _, _, _, _, _, _, _, _, hf⟩ := (show L2.CX P w outer (upd H a (.lst [.int c, .int n])) s (fun _ _ _ => False) e s' from hq)
          exact hf.elim
        | ok fl =>
          cases fl with
          | ret u => exact ce_src hq fun v H' ⟨c', n', H2, e, q0, q1, q2, q3⟩ => ⟨a, c', n', H2, e, q0, q1, q2, .inr ⟨⟨_, ha⟩, _, rfl⟩, q3⟩
          | _ => exact False.elim hq
theorem fnF_draw {P : Program} {w : World} {K : PySem.W.Frag} {mg : Str → Option Value} {base : Heap} {k : Nat} {qual : Str} {params : Arguments} {body : List Stmt} {scope : Scope} {f : Addr}
    (F : ∃ fd, FunD K "_law_draw" qual params body scope [] [] f fd) (S : FnScope ["source", "many", "rest", "wide"] ["source", "many"] scope) (hm : mg "_law_draw" = some (.ref f))
    (hb : ∀ (kV doc pm : Value) (an : Option Addr) (cdv ct : Value) (us : List Value), us.length = ["source", "many"].length → bindArgs (PySem.W.fnOf "_law_draw" qual params body scope .none kV doc pm an cdv ct) ⟨us, []⟩ = pure ((["source", "many"] : List Str).zip us))
    (hbody : ∀ (cdv : Value) (A : Around) (outer : List Env) (s : Shared) (H : Hp) (E : XK), Room k (A.deeper (envOfC qual scope s.heap.objs.size f cdv)) → ∀ W, Tk (cxOf (L2.CX P w) P w K mg base ["source", "many", "rest", "wide"] qual scope f cdv A outer s H E) W → PSs (cxOf (L2.CX P w) P w K mg base ["source", "many", "rest", "wide"] qual scope f cdv A outer s H E) body (t_draw K mg W)) :
    FnF P w K mg base (k + 1) "_law_draw" 2 (spS K mg 1 m_draw) := by
  obtain ⟨fd, F⟩ := F
  refine ⟨f, fd, ["source", "many"], ok_draw (F.ok S (fun vs H Q E h => ?_) fun cdv A outer s H vs Q E hr ⟨a, c, n, many, e, ha, h0, h1, h2, h3, h4, k⟩ => ⟨_, hbody cdv A outer s H E hr _ ⟨takes_of rfl rfl rfl rfl, passes_of rfl⟩, ?_⟩), hm, F.kp, F.bindsN hb, rfl⟩
  · obtain ⟨a, c, n, many, e, _⟩ := h
    rw [e]; rfl
  · rw [e]
    exact draw_rd ha h0 h1 h2 h3 h4 k

/-! ### _law_source -/
def sCell : Rho → O := sSet 2 (gIf (gCmp .Lt (getV 1) (gBlt lenD (gCons (getV 0) gNil))) (gBlt absD (gCons (gInt (gIx (getV 0) (getV 1))) gNil)) (gBin .Add (gBin .Mult (gC 43) (getV 1)) (gC 5)))
def gsSB : Rho → R (List PyData) := (gCons (gBin .Mod (gInt (gBin .Add (gBin .Add (gBin .Mult (getV 2) (gC 16807)) (gBin .Mult (gC 7013) (getV 1))) (gC 11))) (gC 2147483549)) gNil)
def gsSrc : Rho → R (List PyData) := gCons (gIf (gCmp .Gt (getV 2) (gBin .Pow (gC 10) (gC 17))) (getV 2) (gC 0)) gsSB
def t_source (K : PySem.W.Frag) (mg : Str → Option Value) (W : WX) : TS := tSeq (tPS K mg W sCell) (tRet (tLst (tPA K mg W gsSrc)))
def isI : PyData → Bool
  | .int _ => true
  | _ => false
def srcOk : List PyData → Bool
  | [.list xs, .int k] => xs.all isI && decide (0 ≤ k)
  | _ => false
def spL (K : PySem.W.Frag) : Sp := fun vs H Q _ => vs.length = 2 ∧ ∃ ds, DpAll K H vs ds ∧ srcOk ds = true ∧ ∀ p c n H1, Same H H1 → H1 p = none → 0 ≤ c → 0 ≤ n → n < 2147483549 → Q (.ref p) (upd H1 p (.lst [.int c, .int n]))
def spN (K : PySem.W.Frag) : Sp := fun vs H Q _ => vs.length = 2 ∧ ∃ ds, DpAll K H vs ds ∧ srcOk ds = true ∧ ∀ p H', Same H H' → H' p = some (srcHO p) → Q (.ref p) H'
theorem source_rd {K : PySem.W.Frag} {mg : Str → Option Value} {W : WX} {Q : VK} {E : XK} {H : Hp} {vs : List V} (h : spL K vs H Q E) : t_source K mg W { nx := fun _ H' => Q .non H', rt := Q } (L2.start ["script", "k", "cell"] vs) H := by
  obtain ⟨hl, ds, hd, ho, k⟩ := h
  match ds, hd, ho with
  | [.list xs, .int kk], hd, ho =>
    obtain ⟨hx, hk⟩ := Bool.and_eq_true_iff.mp ho
    have hk := of_decide_eq_true hk
    have env := envR_start (N := ["script", "k", "cell"]) hd
    have env : EnvR K H (L2.start ["script", "k", "cell"] vs) [.d (.list xs), .d (.int kk), .u] := env
    have hmul : ∀ x y : Int, 0 ≤ y → y < 1000000 → mulD (.int x) (.int y) = some (.int (x * y)) := fun x y h1 h2 => by
      show (if (-(2 ^ 64) < x ∧ x < 2 ^ 64) ∨ (-(2 ^ 64) < y ∧ y < 2 ^ 64) then some (PyData.int (x * y)) else none) = _
      rw [if_pos (.inr (by omega))]
    have hmul2 : ∀ x y : Int, 0 ≤ x → x < 1000000 → mulD (.int x) (.int y) = some (.int (x * y)) := fun x y h1 h2 => by
      show (if (-(2 ^ 64) < x ∧ x < 2 ^ 64) ∨ (-(2 ^ 64) < y ∧ y < 2 ^ 64) then some (PyData.int (x * y)) else none) = _
      rw [if_pos (.inl (by omega))]
    have key : ∃ c : Int, 0 ≤ c ∧ sCell [.d (.list xs), .d (.int kk), .u] = .nx [.d (.list xs), .d (.int kk), .d (.int c)] := by
      by_cases hlt : kk < (xs.length : Int)
      · obtain ⟨x, ex⟩ : ∃ x, xs[kk.toNat]? = some (.int x) := by
          have hl2 : kk.toNat < xs.length := by omega
          have hi := List.all_eq_true.mp hx _ (List.getElem_mem hl2)
          cases e : xs[kk.toNat] with
          | int x => exact ⟨x, by rw [List.getElem?_eq_getElem hl2, e]⟩
          | _ => rw [e] at hi; cases hi
        refine ⟨if x < 0 then -x else x, by split <;> omega, ?_⟩
        have e1 : idxD (.list xs) (.int kk) = some (.int x) := by
          show (ixN xs.length kk).bind (fun j => xs[j]?) = _
          unfold ixN
          rw [if_pos hk, if_pos hlt]
          exact ex
        show (((R.of (some (decide (kk < (xs.length : Int))))).bd fun b => if b = true then ((((R.of (idxD (.list xs) (.int kk))).bd fun x => R.ok [x]).bd fun xs => R.of (intD xs)).bd fun x => R.ok [x]).bd fun xs => R.of (absD xs) else (((R.of (mulD (.int 43) (.int kk))).bd fun x => (R.ok (.int 5)).bd fun y => R.of (addD x y)))).to fun d => .nx [.d (.list xs), .d (.int kk), .d d]) = _
        rw [decide_eq_true hlt, e1]
        rfl
      · refine ⟨43 * kk + 5, by omega, ?_⟩
        show (((R.of (some (decide (kk < (xs.length : Int))))).bd fun b => if b = true then ((((R.of (idxD (.list xs) (.int kk))).bd fun x => R.ok [x]).bd fun xs => R.of (intD xs)).bd fun x => R.ok [x]).bd fun xs => R.of (absD xs) else (((R.of (mulD (.int 43) (.int kk))).bd fun x => (R.ok (.int 5)).bd fun y => R.of (addD x y)))).to fun d => .nx [.d (.list xs), .d (.int kk), .d d]) = _
        rw [decide_eq_false hlt, hmul2 43 kk (by omega) (by omega)]
        rfl
    obtain ⟨c, hc, e1⟩ := key
    refine ⟨_, env, ?_⟩
    rw [e1]
    intro σ1 H1 s1 env1
    have e2 : ∃ c' : Int, 0 ≤ c' ∧ gsSrc [.d (.list xs), .d (.int kk), .d (.int c)] = .ok [.int c', .int ((c * 16807 + 7013 * kk + 11) % 2147483549)] := by
      have eb : gsSB [.d (.list xs), .d (.int kk), .d (.int c)] = .ok [.int ((c * 16807 + 7013 * kk + 11) % 2147483549)] := by
        show ((((((R.of (mulD (.int c) (.int 16807))).bd fun x => (R.of (mulD (.int 7013) (.int kk))).bd fun y => R.of (addD x y)).bd fun x => (R.ok (.int 11)).bd fun y => R.of (addD x y)).bd fun x => R.ok [x]).bd fun xs => R.of (intD xs)).bd (fun x => (R.ok (.int 2147483549)).bd fun y => R.of (modD x y))).bd (fun x => R.ok [x]) = _
        rw [hmul _ _ (by omega) (by omega), hmul2 _ _ (by omega) (by omega)]
        rfl
      by_cases hb : (10 : Int) ^ 17 < c
      · refine ⟨c, hc, ?_⟩
        show ((R.of (some (decide ((10 : Int) ^ 17 < c)))).bd fun b => if b = true then R.ok (.int c) else R.ok (.int 0)).bd (fun x => (gsSB [.d (.list xs), .d (.int kk), .d (.int c)]).bd fun xs => R.ok (x :: xs)) = _
        rw [decide_eq_true hb, eb]
        rfl
      · refine ⟨0, Int.le_refl _, ?_⟩
        show ((R.of (some (decide ((10 : Int) ^ 17 < c)))).bd fun b => if b = true then R.ok (.int c) else R.ok (.int 0)).bd (fun x => (gsSB [.d (.list xs), .d (.int kk), .d (.int c)]).bd fun xs => R.ok (x :: xs)) = _
        rw [decide_eq_false hb, eb]
        rfl
    obtain ⟨c', hc', e2⟩ := e2
    refine ⟨_, env1, ?_⟩
    rw [e2]
    intro vs2 H2 s2 r2
    cases r2 with
    | cons r2 r3 =>
      cases r2
      cases r3 with
      | cons r3 r4 =>
        cases r3
        cases r4
        exact ⟨by rw [sizeLine_eq]; show 2 ≤ 16777216; decide, fun p hp => k p _ _ H2 (s1.trans s2) hp hc' (Int.emod_nonneg _ (by omega)) (Int.emod_lt_of_pos _ (by omega))⟩

theorem ok_source {P : Program} {w : World} {K : PySem.W.Frag} {mg : Str → Option Value} {base : Heap} {k : Nat} {f : Addr} {fd : FuncData} (F : FnOk P w K mg base (L2.CX P w) k f fd ["script", "k"] (spL K)) : FnOk P w K mg base (L2.CX P w) k f fd ["script", "k"] (spN K) := by
  refine ⟨fun vs H Q E h => h.1, fun A outer s H args us vs Q E hr he hb hv ⟨hl, ds, hd, ho, k⟩ => ?_⟩
  refine codeAny_mono (F.run A outer s H args us vs (fun v H' => ∃ a c n H2, H' = upd H2 a (.lst [.int c, .int n]) ∧ 0 ≤ c ∧ 0 ≤ n ∧ n < 2147483549 ∧ Q v (upd H2 a (srcHO a))) (fun _ _ _ => False) hr he hb hv
    ⟨hl, ds, hd, ho, fun p c n H1 s1 hp h0 h1 h2 => ⟨p, c, n, H1, rfl, h0, h1, h2, k p _ (s1.trans (same_upd hp)) upd_same⟩⟩) fun r s' hq => ?_
  cases r with
  | error e =>
    obtain ⟨_, _, _, _, _, _, _, _, _, _, _, _, hf⟩ := (show L2.CX P w outer H s (fun _ _ _ => False) e s' from hq)
    exact hf.elim
  | ok fl =>
    cases fl with
    | ret u => exact ce_src hq fun v H' ⟨a, c', n', H2, e, q0, q1, q2, q3⟩ => ⟨a, c', n', H2, e, q0, q1, q2, .inl rfl, q3⟩
    | _ => exact False.elim hq
theorem fnF_source {P : Program} {w : World} {K : PySem.W.Frag} {mg : Str → Option Value} {base : Heap} {k : Nat} {qual : Str} {params : Arguments} {body : List Stmt} {scope : Scope} {f : Addr}
    (F : ∃ fd, FunD K "_law_source" qual params body scope [] [] f fd) (S : FnScope ["script", "k", "cell"] ["script", "k"] scope) (hm : mg "_law_source" = some (.ref f))
    (hb : ∀ (kV doc pm : Value) (an : Option Addr) (cdv ct : Value) (us : List Value), us.length = ["script", "k"].length → bindArgs (PySem.W.fnOf "_law_source" qual params body scope .none kV doc pm an cdv ct) ⟨us, []⟩ = pure ((["script", "k"] : List Str).zip us))
    (hbody : ∀ (cdv : Value) (A : Around) (outer : List Env) (s : Shared) (H : Hp) (E : XK), Room k (A.deeper (envOfC qual scope s.heap.objs.size f cdv)) → ∀ W, Tk (cxOf (L2.CX P w) P w K mg base ["script", "k", "cell"] qual scope f cdv A outer s H E) W → PSs (cxOf (L2.CX P w) P w K mg base ["script", "k", "cell"] qual scope f cdv A outer s H E) body (t_source K mg W)) :
    FnF P w K mg base (k + 1) "_law_source" 2 (spN K) := by
  obtain ⟨fd, F⟩ := F
  refine ⟨f, fd, ["script", "k"], ok_source (F.ok S (fun vs H Q E h => h.1) fun cdv A outer s H vs Q E hr h => ⟨_, hbody cdv A outer s H E hr _ ⟨takes_of rfl rfl rfl rfl, passes_of rfl⟩, source_rd h⟩), hm, F.kp, F.bindsN hb, rfl⟩
/-- source = _law_source(script, k) -/
def sSrc (i : Nat) (gs : Rho → R (List PyData)) : Rho → O := fun ρ => (gs ρ).to fun ds => if srcOk ds = true then .nx (ρ.set i .s) else .stuck
theorem sem_setSrc {X : Cx} {x y : Str} {i k : Nat} {e : Expr} {es : List Expr} {gs : Rho → R (List PyData)} {p py pos pos2 : Pos} (hN : X.N.Nodup) (F : FnF X.prog X.w X.K X.mg X.base k x 2 (spN X.K)) (hr : Room k X.A) (ha : SemA X (e :: es) gs) (hlen : es.length = 1 := by rfl) (hg : Gl X x := by rfl)
    (hdb : (x == ("__debug__" : Str)) = false := by decide) (he : starEach (e :: es) X.env = (false, eval e X.env) :: starEach es X.env := by rfl) (hpl : (backTo pos (starEach es X.env)).any (·.1) = false := by rfl)
    (hi : X.N[i]? = some y := by rfl) (hx : Loc X.env.scope y := by first | exact Or.inl rfl | exact Or.inr rfl) (hs : swapsWith (.Call (.Name x p) (e :: es) [] pos) (some (.Name y py)) pos2.line X.env = pure false := by rfl) (hf : X.fn y = true ∨ X.env.scope.names.lookup y = some .local := by first | exact .inl rfl | exact .inr rfl | assumption) :
    SemS X (.Assign [.Name y py] (.Call (.Name x p) (e :: es) [] pos) pos2) (sSrc i gs) := fun W tk => by
  obtain ⟨f, fd, ps, ok, hm, hk, hb, hl⟩ := F.ex
  refine ps_imp (ps_set hN hi hx (pe_callS ok hr hg hm hk hb (fun σ => passAt tk.tk σ) (ha W tk.tk) hdb he hpl) hs hf) fun D σ H ⟨ρ, env, post⟩ => ⟨ρ, env, post_to post fun ds vs H1 _ s1 r1 post1 => ?_⟩
  split at post1
  · rename_i ho
    refine ⟨?_, ds, r1, ho, fun p H' s2 hp => ?_⟩
    · rw [dpAll_length r1]
      match ds, ho with
      | [.list _, .int _], _ => rfl
    · exact post1 _ H' s2 (EnvR.set (x := .s) (o := some (.ref p)) ⟨p, rfl, hp⟩ i (env.same (s1.trans s2)))
  · exact post1.elim
end
end RL

namespace RL
open PySem PySem.Spec PyProof.Rows L2
section
variable {P : Program} {w : World} {K : PySem.W.Frag} {mg : Str → Option Value} {base : Heap} {k n : Nat} {x qual : Str} {params : Arguments} {body : List Stmt} {scope : Scope} {f : Addr} {N ps : List Str}
/-- nothing promised -/
theorem fnF_noneP (F : ∃ fd, FunD K x qual params body scope [] [] f fd) (S : FnScope N ps scope) (hm : mg x = some (.ref f)) (hn : ps.length = n)
    (hb : ∀ (kV doc pm : Value) (an : Option Addr) (cdv ct : Value) (us : List Value), us.length = ps.length → bindArgs (PySem.W.fnOf x qual params body scope .none kV doc pm an cdv ct) ⟨us, []⟩ = pure (ps.zip us)) :
    FnF P w K mg base k x n (spP K mg n fun _ => .stuck) := by
  obtain ⟨fd, F⟩ := F
  exact ⟨f, fd, ps, ⟨fun vs H Q E h => by rw [hn]; exact h.1, fun A outer s H args us vs Q E hr he hb hv ⟨hl, ds, hd, post⟩ => post.elim⟩, hm, F.kp, F.bindsN hb, hn⟩
theorem fnF_noneS (F : ∃ fd, FunD K x qual params body scope [] [] f fd) (S : FnScope N ps scope) (hm : mg x = some (.ref f)) (hn : ps.length = n + 1)
    (hb : ∀ (kV doc pm : Value) (an : Option Addr) (cdv ct : Value) (us : List Value), us.length = ps.length → bindArgs (PySem.W.fnOf x qual params body scope .none kV doc pm an cdv ct) ⟨us, []⟩ = pure (ps.zip us)) :
    FnF P w K mg base k x (n + 1) (spS K mg n fun _ => .stuck) := by
  obtain ⟨fd, F⟩ := F
  exact ⟨f, fd, ps, ⟨fun vs H Q E h => by rw [hn]; exact h.1, fun A outer s H args us vs Q E hr he hb hv ⟨hl, a, us', ds, e, ha, hd, post⟩ => post.elim⟩, hm, F.kp, F.bindsN hb, hn⟩
end

/-! ### every answer -/
inductive Sat {α : Type} : R α → (α → Prop) → Prop where
  | ok {a : α} {Q : α → Prop} (h : Q a) : Sat (.ok a) Q
  | ask {n : Nat} {k : Nat → R α} {Q : α → Prop} (h : ∀ i, i < n → Sat (k i) Q) : Sat (.ask n k) Q
theorem Sat.of_ok {α : Type} {a : α} {Q : α → Prop} (h : Sat (.ok a) Q) : Q a := by cases h; assumption
theorem Sat.of_ask {α : Type} {n : Nat} {k : Nat → R α} {Q : α → Prop} (h : Sat (.ask n k) Q) : ∀ i, i < n → Sat (k i) Q := by cases h; assumption
theorem Sat.eq {α : Type} {m : R α} {a : α} {Q : α → Prop} (h : m = .ok a) (h2 : Q a) : Sat m Q := by rw [h]; exact .ok h2
theorem Sat.bd {α β : Type} {m : R α} {f : α → R β} {Q : β → Prop} (h : Sat m fun a => Sat (f a) Q) : Sat (m.bd f) Q := by
  induction m with
  | ok a => exact h.of_ok
  | exc n => cases h
  | stuck => cases h
  | ask n k ih => exact .ask fun i hi => ih i (h.of_ask i hi)
theorem Sat.imp {α : Type} {m : R α} {Q Q' : α → Prop} (h : Sat m Q) (i : ∀ a, Q a → Q' a) : Sat m Q' := by
  induction m with
  | ok a => exact .ok (i _ h.of_ok)
  | exc n => cases h
  | stuck => cases h
  | ask n k ih => exact .ask fun j hj => ih j (h.of_ask j hj)
theorem Sat.calm {α : Type} {m : R α} {Q : α → Prop} (h : Sat m Q) : Sat m.calm Q := by
  induction m with
  | ok a => exact .ok h.of_ok
  | exc n => cases h
  | stuck => cases h
  | ask n k ih => exact .ask fun j hj => ih j (h.of_ask j hj)
inductive SatO : O → (Rho → Prop) → (PyData → Prop) → Prop where
  | nx0 {ρ : Rho} {N : Rho → Prop} {Q : PyData → Prop} (h : N ρ) : SatO (.nx ρ) N Q
  | rt0 {d : PyData} {N : Rho → Prop} {Q : PyData → Prop} (h : Q d) : SatO (.rt d) N Q
  | ask0 {n : Nat} {k : Nat → O} {N : Rho → Prop} {Q : PyData → Prop} (h : ∀ i, i < n → SatO (k i) N Q) : SatO (.ask n k) N Q
theorem SatO.of_nx {ρ : Rho} {N : Rho → Prop} {Q : PyData → Prop} (h : SatO (.nx ρ) N Q) : N ρ := by cases h; assumption
theorem SatO.of_rt {d : PyData} {N : Rho → Prop} {Q : PyData → Prop} (h : SatO (.rt d) N Q) : Q d := by cases h; assumption
theorem SatO.of_ask {n : Nat} {k : Nat → O} {N : Rho → Prop} {Q : PyData → Prop} (h : SatO (.ask n k) N Q) : ∀ i, i < n → SatO (k i) N Q := by cases h; assumption
theorem SatO.th {o : O} {f : Rho → O} {N : Rho → Prop} {Q : PyData → Prop} (h : SatO o (fun ρ => SatO (f ρ) N Q) Q) : SatO (o.th f) N Q := by
  induction o with
  | nx ρ => exact h.of_nx
  | rt d => exact .rt0 h.of_rt
  | exc n => cases h
  | stuck => cases h
  | ask n k ih => exact .ask0 fun i hi => ih i (h.of_ask i hi)
theorem Sat.to {α : Type} {m : R α} {f : α → O} {N : Rho → Prop} {Q : PyData → Prop} (h : Sat m fun a => SatO (f a) N Q) : SatO (m.to f) N Q := by
  induction m with
  | ok a => exact h.of_ok
  | exc n => cases h
  | stuck => cases h
  | ask n k ih => exact .ask0 fun i hi => ih i (h.of_ask i hi)
theorem SatO.imp {o : O} {N N' : Rho → Prop} {Q Q' : PyData → Prop} (h : SatO o N Q) (i : ∀ ρ, N ρ → N' ρ) (j : ∀ d, Q d → Q' d) : SatO o N' Q' := by
  induction o with
  | nx ρ => exact .nx0 (i _ h.of_nx)
  | rt d => exact .rt0 (j _ h.of_rt)
  | exc n => cases h
  | stuck => cases h
  | ask n k ih => exact .ask0 fun l hl => ih l (h.of_ask l hl)
theorem SatO.done {o : O} {Q : PyData → Prop} (h : SatO o (fun _ => Q .none) Q) : Sat o.done Q := by
  induction o with
  | nx ρ => exact .ok h.of_nx
  | rt d => exact .ok h.of_rt
  | exc n => cases h
  | stuck => cases h
  | ask n k ih => exact .ask fun i hi => ih i (h.of_ask i hi)
theorem postF_sat {K : PySem.W.Frag} {mg : Str → Option Value} {H : Hp} {E : XK} {m : R PyData} (h : Sat m (· = .bool true)) : PostF K mg H (fun v _ => v = .bl true) E m := by
  induction m with
  | ok a => rw [show a = .bool true from h.of_ok]; intro v H' s r; cases r; rfl
  | exc n => cases h
  | stuck => cases h
  | ask n k ih => exact fun i hi => ih i (h.of_ask i hi)
theorem SatO.seq_nx {g g' : Rho → O} {ρ ρ' : Rho} {N : Rho → Prop} {Q : PyData → Prop} (h : g ρ = .nx ρ') (h2 : SatO (g' ρ') N Q) : SatO (sSeq g g' ρ) N Q := by
  unfold sSeq
  rw [h]
  exact h2
theorem SatO.seq_rt {g g' : Rho → O} {ρ : Rho} {d : PyData} {N : Rho → Prop} {Q : PyData → Prop} (h : g ρ = .rt d) (h2 : Q d) : SatO (sSeq g g' ρ) N Q := by
  unfold sSeq
  rw [h]
  exact .rt0 h2
theorem SatO.seq_ask {g g' : Rho → O} {ρ : Rho} {n : Nat} {k : Nat → Rho} {N : Rho → Prop} {Q : PyData → Prop} (h : g ρ = .ask n fun i => .nx (k i)) (h2 : ∀ i, i < n → SatO (g' (k i)) N Q) : SatO (sSeq g g' ρ) N Q := by
  unfold sSeq
  rw [h]
  exact .ask0 h2
theorem SatO.seq {g g' : Rho → O} {ρ : Rho} {N : Rho → Prop} {Q : PyData → Prop} (h : SatO (g ρ) (fun ρ' => SatO (g' ρ') N Q) Q) : SatO (sSeq g g' ρ) N Q := SatO.th h
theorem SatO.rt {o : O} {d : PyData} {N : Rho → Prop} {Q : PyData → Prop} (h : o = .rt d) (h2 : Q d) : SatO o N Q := by rw [h]; exact .rt0 h2
theorem SatO.nx {o : O} {ρ : Rho} {N : Rho → Prop} {Q : PyData → Prop} (h : o = .nx ρ) (h2 : N ρ) : SatO o N Q := by rw [h]; exact .nx0 h2
theorem SatO.set {g : Rho → R PyData} {i : Nat} {ρ : Rho} {N : Rho → Prop} {Q : PyData → Prop} (h : Sat (g ρ) fun d => N (ρ.set i (.d d))) : SatO (sSet i g ρ) N Q := Sat.to (h.imp fun _ h => .nx0 h)
theorem SatO.ret {g : Rho → R PyData} {ρ : Rho} {N : Rho → Prop} {Q : PyData → Prop} (h : Sat (g ρ) Q) : SatO (sRet g ρ) N Q := Sat.to (h.imp fun _ h => .rt0 h)
theorem SatO.for {T : Tg} {gi : Rho → R (List PyData)} {gb : Rho → O} {ρ : Rho} {ds : List PyData} {N : Rho → Prop} {Q : PyData → Prop} (h : gi ρ = .ok ds) (h2 : SatO (forD T gb ds ρ) N Q) : SatO (sFor T gi gb ρ) N Q := by
  unfold sFor
  rw [h]
  exact h2
theorem SatO.if {gt : Rho → R Bool} {g g' : Rho → O} {ρ : Rho} {b : Bool} {N : Rho → Prop} {Q : PyData → Prop} (h : gt ρ = .ok b) (h1 : b = true → SatO (g ρ) N Q) (h2 : b = false → SatO (g' ρ) N Q) : SatO (sIf gt g g' ρ) N Q := by
  unfold sIf
  rw [h]
  cases b with
  | true => exact h1 rfl
  | false => exact h2 rfl
/-- a loop keeps a law -/
theorem sat_for {T : Tg} {body : Rho → O} {Q : PyData → Prop} (I : Nat → Rho → Prop) {ds : List PyData} (hb : ∀ i d ρ, ds[i]? = some d → I i ρ → ∃ xs, T.vals d = some xs ∧ SatO (body (setE ρ T.ix xs)) (I (i + 1)) Q) {ρ : Rho} (h0 : I 0 ρ) : SatO (forD T body ds ρ) (I ds.length) Q := by
  have key : ∀ n i ρ, n + i = ds.length → I i ρ → SatO (forD T body (ds.drop i) ρ) (I ds.length) Q := by
    intro n
    induction n with
    | zero =>
      intro i ρ e h
      rw [List.drop_of_length_le (by omega)]
      have e : i = ds.length := by omega
      subst e
      exact .nx0 h
    | succ n ih =>
      intro i ρ e h
      have hlt : i < ds.length := by omega
      rw [List.drop_eq_getElem_cons hlt]
      unfold forD
      obtain ⟨xs, h1, h2⟩ := hb i ds[i] ρ (List.getElem?_eq_getElem hlt) h
      rw [h1]
      exact SatO.th (h2.imp (fun ρ' h' => ih (i + 1) ρ' (by omega) h') fun _ h => h)
  exact key ds.length 0 ρ (by omega) h0
/-- a comprehension -/
theorem sat_lc {T : Tg} {tt : Rho → R Bool} {te : Rho → R PyData} {ρ : Rho} {P : PyData → Prop} {ds : List PyData} (h : ∀ d, d ∈ ds → ∃ xs, T.vals d = some xs ∧ Sat (tt (setE ρ T.ix xs)) fun b => b = true → Sat (te (setE ρ T.ix xs)) fun y => noL y = true ∧ P y) : Sat (lcD T tt te ρ ds) fun ys => ∀ y ∈ ys, P y := by
  induction ds with
  | nil => exact .ok fun y hy => nomatch hy
  | cons d r ih =>
    unfold lcD
    obtain ⟨xs, h1, h2⟩ := h d List.mem_cons_self
    have ih := ih fun e he => h e (List.mem_cons_of_mem _ he)
    rw [h1]
    refine Sat.bd (Sat.calm (h2.imp fun b hb => ?_))
    split
    · rename_i hbt
      refine Sat.bd (Sat.calm ((hb hbt).imp fun y ⟨hn, hy⟩ => ?_))
      rw [if_pos hn]
      refine Sat.bd (ih.imp fun ys hys => .ok ?_)
      intro z hz
      rcases List.mem_cons.mp hz with rfl | hz
      · exact hy
      · exact hys z hz
    · exact ih
/-- one behind another, one for one -/
theorem sat_lc1 {T : Tg} {te : Rho → R PyData} {ρ : Rho} {P : PyData → PyData → Prop} {ds : List PyData} (h : ∀ d, d ∈ ds → ∃ xs, T.vals d = some xs ∧ Sat (te (setE ρ T.ix xs)) fun y => noL y = true ∧ P d y) : Sat (lcD T gYes te ρ ds) fun ys => Paired P ds ys := by
  induction ds with
  | nil => exact .ok .nil
  | cons d r ih =>
    unfold lcD
    obtain ⟨xs, h1, h2⟩ := h d List.mem_cons_self
    have ih := ih fun e he => h e (List.mem_cons_of_mem _ he)
    rw [h1]
    show Sat ((te (setE ρ T.ix xs)).calm.bd _) _
    refine Sat.bd (Sat.calm (h2.imp fun y ⟨hn, hy⟩ => ?_))
    rw [if_pos hn]
    exact Sat.bd (ih.imp fun ys hys => .ok (.cons hy hys))
end RL
namespace RL
open PySem PySem.Spec PyProof.Rows L2
/-! ### constants of the module, as the head sees them -/
mutual
def okV (K : PySem.W.Frag) : PyData → Value → Bool
  | .none, .none => true
  | .bool b, .bool c => b == c
  | .int i, .int j _ => decide (i = j)
  | .str x, .str y _ => decide (x = y)
  | .tuple ds, .ref a => (match K.lookup a with
    | some ⟨.type c, _, .seq its _, _⟩ => decide (c = "tuple") && (decide (its.size ≤ sizeLine) && okVs K ds its.toList)
    | _ => false)
  | _, _ => false
def okVs (K : PySem.W.Frag) : List PyData → List Value → Bool
  | [], [] => true
  | d :: ds, v :: vs => okV K d v && okVs K ds vs
  | _, _ => false
end
mutual
theorem okV_ok {K : PySem.W.Frag} : ∀ {d : PyData} {u : Value}, okV K d u = true → ∃ v, RelV v u ∧ ∀ H, Dp K H v d
  | .none, u, h => by
    cases u with
    | none => exact ⟨.non, rfl, fun H => .non⟩
    | _ => simp [okV] at h
  | .bool b, u, h => by
    cases u with
    | bool c => simp [okV] at h; subst h; exact ⟨.bl b, rfl, fun H => .bl b⟩
    | _ => simp [okV] at h
  | .int i, u, h => by
    cases u with
    | int j t => simp [okV] at h; subst h; exact ⟨.int i, ⟨t, rfl⟩, fun H => .int i⟩
    | _ => simp [okV] at h
  | .str x, u, h => by
    cases u with
    | str y t => simp [okV] at h; subst h; exact ⟨.str x, ⟨t, rfl⟩, fun H => .str x⟩
    | _ => simp [okV] at h
  | .tuple ds, u, h => by
    cases u with
    | ref a =>
      unfold okV at h
      cases e : K.lookup a with
      | none => rw [e] at h; cases h
      | some o =>
        obtain ⟨oc, od, dt, osl⟩ := o
        rw [e] at h
        cases oc with
        | type c =>
          cases dt with
          | seq its n =>
            obtain ⟨h1, h2⟩ := Bool.and_eq_true_iff.mp h
            obtain ⟨h2, h3⟩ := Bool.and_eq_true_iff.mp h2
            obtain ⟨vs, r, hd⟩ := okVs_ok h3
            refine ⟨.ref a, rfl, fun H => .tup (.inr ⟨_, its, n, e, ?_, rfl, of_decide_eq_true h2, r⟩) (hd H)⟩
            rw [of_decide_eq_true h1]
          | _ => cases h
        | _ => cases h
    | _ => simp [okV] at h
  | .list ds, u, h => by cases u <;> simp [okV] at h
  | .dict ds, u, h => by cases u <;> simp [okV] at h
theorem okVs_ok {K : PySem.W.Frag} : ∀ {ds : List PyData} {us : List Value}, okVs K ds us = true → ∃ vs, Vals vs us ∧ ∀ H, DpAll K H vs ds
  | [], [], h => ⟨[], .nil, fun H => .nil⟩
  | [], _ :: _, h => by simp [okVs] at h
  | _ :: _, [], h => by simp [okVs] at h
  | d :: ds, u :: us, h => by
    unfold okVs at h
    obtain ⟨h1, h2⟩ := Bool.and_eq_true_iff.mp h
    obtain ⟨v, r, hv⟩ := okV_ok h1
    obtain ⟨vs, rs, hvs⟩ := okVs_ok h2
    exact ⟨v :: vs, .cons r rs, fun H => .cons (hv H) (hvs H)⟩
end
def valB (K : PySem.W.Frag) (x : Str) (d : PyData) : Bool := match PySem.W.nsIn K mainGlobals x with
  | some (some u) => okV K d u
  | _ => false
theorem valB_ok {K : PySem.W.Frag} {h : Heap} {mg : Str → Option Value} (X : K.In h) (G : h.Ns mainGlobals mg) {x : Str} {d : PyData} (c : valB K x d = true) : ValF K mg x d := by
  unfold valB at c
  cases e : PySem.W.nsIn K mainGlobals x with
  | none => rw [e] at c; cases c
  | some o =>
    rw [e] at c
    cases o with
    | none => cases c
    | some u =>
      obtain ⟨v, r, hd⟩ := okV_ok c
      exact ⟨v, u, PySem.W.mg_of X G e, r, hd⟩
theorem exF_ok {K : PySem.W.Frag} {h : Heap} {mg : Str → Option Value} (X : K.In h) (G : h.Ns mainGlobals mg) {x : Str} (c1 : (He.Fa.glo x).ok K = true) (c2 : (He.Fa.exc x).ok K = true) : ExF K mg x := by
  obtain ⟨h1, h2, h3, h4⟩ := He.exc_ok c2
  exact ⟨_, He.glo_ok X G c1, h1, h2, h3, h4⟩
/-- the script as data -/
theorem dp_script {K : PySem.W.Frag} {H : Hp} {a : Addr} {ns : List Int} (h : SqL K H a (ns.map V.int)) : DpAll K H [.ref a] [.list (ns.map .int)] := by
  refine .cons (.lst h ?_) .nil
  clear h
  induction ns with
  | nil => exact .nil
  | cons n r ih => exact .cons (.int n) ih
/-- the law's own def: it lets nothing out -/
def spW (K : PySem.W.Frag) (mg : Str → Option Value) (n : Nat) (m : List PyData → R PyData) : Sp := fun vs H Q _ => vs.length = n ∧ ∃ ds, DpAll K H vs ds ∧ PostF K mg H Q (fun _ _ _ => False) (m ds)
theorem ok_law0 {P : Program} {w : World} {K : PySem.W.Frag} {mg : Str → Option Value} {base : Heap} {k : Nat} {x qual : Str} {params : Arguments} {body : List Stmt} {scope : Scope} {f : Addr} {N : List Str} {g : Rho → O}
    {fd : FuncData} (F : FunD K x qual params body scope [] [] f fd) (S : FnScope N ["script"] scope)
    (hb : ∀ (kV doc pm : Value) (an : Option Addr) (cdv ct : Value) (us : List Value), us.length = (["script"] : List Str).length → bindArgs (PySem.W.fnOf x qual params body scope .none kV doc pm an cdv ct) ⟨us, []⟩ = pure ((["script"] : List Str).zip us))
    (hbody : ∀ (cdv : Value) (A : Around) (outer : List Env) (s : Shared) (H : Hp) (E : XK), Room k (A.deeper (envOfC qual scope s.heap.objs.size f cdv)) → SemSs (cxOf CX0 P w K mg base N qual scope f cdv A outer s H E) body g) :
    (∀ (s : Shared) (v : Value), BindsTo s fd ⟨[v], []⟩ [("script", v)]) ∧ FnOk P w K mg base CX0 (k + 1) f fd ["script"] (spW K mg 1 (runD N g)) := by
  have b := FunD.bindsA (ps := ["script"]) F hb
  refine ⟨fun s v => b s [v] rfl, F.ok S (fun vs H Q E h => h.1) fun cdv A outer s H vs Q E hr ⟨hl, ds, hd, post⟩ => ?_⟩
  exact ⟨_, hbody cdv A outer s H E hr W0 ⟨takes0, passes_of rfl⟩, startE N ds, envR_start hd, post_done post⟩
/-- a law's promise from its plain form -/
theorem law_sp {K : PySem.W.Frag} {mg : Str → Option Value} {m : List PyData → R PyData} (hm : ∀ ns : List Int, ns.length ≤ 63 → Sat (m [.list (ns.map .int)]) (· = .bool true)) (H : Hp) (a : Addr) (ns : List Int) (hl : ns.length ≤ 63) (h : SqL K H a (ns.map V.int)) : spW K mg 1 m [.ref a] H (fun v _ => v = .bl true) fun _ _ _ => False :=
  ⟨rfl, _, dp_script h, postF_sat (hm ns hl)⟩
end RL

namespace RL
open PySem PySem.Spec PyProof.Rows L2
section
variable {ga gb gc g : Rho → R PyData} {gs : Rho → R (List PyData)} {ta tb : Rho → R Bool} {ρ : Rho} {op op' : Operator} {cp cp' : CmpOp} {gi : Rho → R (List PyData)} {s s' : Rho → O} {i n : Nat} {m : List PyData → R PyData} {gl gh : Rho → R (Option Int)}
@[simp] theorem e_gK {d : PyData} : gK d ρ = .ok d := rfl
@[simp] theorem e_gNil : gNil ρ = .ok [] := rfl
@[simp] theorem e_gCons : gCons g gs ρ = (g ρ).bd fun x => (gs ρ).bd fun xs => .ok (x :: xs) := rfl
@[simp] theorem e_gTup : gTup gs ρ = (gs ρ).bd fun xs => lineOk xs (.ok (.tuple xs)) := rfl
@[simp] theorem e_gLst : gLst gs ρ = (gs ρ).bd fun xs => lineOk xs (.ok (.list xs)) := rfl
@[simp] theorem e_gBin : gBin op ga gb ρ = (ga ρ).bd fun x => (gb ρ).bd fun y => R.of (binD op x y) := rfl
@[simp] theorem e_gNeg : gNeg ga ρ = (ga ρ).bd negD := rfl
@[simp] theorem e_gCmp : gCmp cp ga gb ρ = (ga ρ).bd fun x => (gb ρ).bd fun y => R.of (cmpD cp x y) := rfl
@[simp] theorem e_asV : asV ta ρ = (ta ρ).bd fun b => .ok (.bool b) := rfl
@[simp] theorem e_gChain : gChain cp cp' ga gb gc ρ = (ga ρ).bd fun x => (gb ρ).bd fun y => (R.of (cmpD cp x y)).bd fun k => if k = true then (gc ρ).bd fun z => R.of (cmpD cp' y z) else .ok false := rfl
@[simp] theorem e_gIsN : gIsN ga ρ = (ga ρ).bd fun x => .ok (.bool (isNone x)) := rfl
@[simp] theorem e_gNotN : gNotN ga ρ = (ga ρ).bd fun x => .ok (.bool (!isNone x)) := rfl
@[simp] theorem e_gBB {f : Bool → Bool → Bool} : gBB f ga gb ρ = (ga ρ).bd fun x => (gb ρ).bd fun y => R.of ((bbD f x y).map .bool) := rfl
@[simp] theorem e_gTest : gTest g ρ = (g ρ).bd fun x => R.of (asB x) := rfl
@[simp] theorem e_gNotT : gNotT ta ρ = (ta ρ).bd fun x => .ok (!x) := rfl
@[simp] theorem e_gNot : gNot ga ρ = (ga ρ).bd fun x => R.of ((asB x).map fun b => .bool (!b)) := rfl
@[simp] theorem e_gIf : gIf ta ga gb ρ = (ta ρ).bd fun c => if c = true then ga ρ else gb ρ := rfl
@[simp] theorem e_gAnd : gAnd ta tb ρ = (ta ρ).bd fun c => if c = true then tb ρ else .ok false := rfl
@[simp] theorem e_gOr : gOr ta tb ρ = (ta ρ).bd fun c => if c = true then .ok true else tb ρ := rfl
@[simp] theorem e_gAndV : gAndV ga gb ρ = (ga ρ).bd fun x => (R.of (asB x)).bd fun c => if c = true then gb ρ else .ok (.bool false) := rfl
@[simp] theorem e_gOrV : gOrV ga gb ρ = (ga ρ).bd fun x => (R.of (asB x)).bd fun c => if c = true then .ok (.bool true) else gb ρ := rfl
@[simp] theorem e_gIx : gIx ga gb ρ = (ga ρ).bd fun x => (gb ρ).bd fun y => R.of (idxD x y) := rfl
@[simp] theorem e_gON : gON ρ = .ok none := rfl
@[simp] theorem e_gOS : gOS ga ρ = (ga ρ).bd fun x => (R.of (asI x)).bd fun i => .ok (some i) := rfl
@[simp] theorem e_gSl : gSl ga gl gh ρ = (ga ρ).bd fun x => (gl ρ).bd fun l => (gh ρ).bd fun h => R.of (sliceD l h x) := rfl
@[simp] theorem e_gBlt {F : List PyData → Option PyData} : gBlt F gs ρ = (gs ρ).bd fun xs => R.of (F xs) := rfl
@[simp] theorem e_gIsi {T : Ty} : gIsi T ga ρ = (ga ρ).bd fun x => .ok (.bool (isTy T x)) := rfl
@[simp] theorem e_gIsiT {ts : List Ty} : gIsiT ts ga ρ = (ga ρ).bd fun x => .ok (.bool (ts.any fun t => isTy t x)) := rfl
@[simp] theorem e_gCall : gCall n gs m ρ = (gs ρ).bd fun ds => if ds.length = n then m ds else .stuck := rfl
@[simp] theorem e_gCall0 : gCall0 m ρ = m [] := rfl
@[simp] theorem e_sNil : sNil ρ = .nx ρ := rfl
@[simp] theorem e_sSeq : sSeq s s' ρ = (s ρ).th s' := rfl
@[simp] theorem e_sRet : sRet g ρ = (g ρ).to .rt := rfl
@[simp] theorem e_sExpr : sExpr g ρ = (g ρ).to fun _ => .nx ρ := rfl
@[simp] theorem e_sSet : sSet i g ρ = (g ρ).to fun d => .nx (ρ.set i (.d d)) := rfl
@[simp] theorem e_sAsg {T : Tg} : sAsg T g ρ = (g ρ).to (tgO T ρ) := rfl
@[simp] theorem e_sIf : sIf ta s s' ρ = (ta ρ).to fun b => if b = true then s ρ else s' ρ := rfl
@[simp] theorem e_sExc {x : Str} : sExc x ρ = .exc x := rfl
@[simp] theorem e_iSeq : iSeq g ρ = (g ρ).bd fun x => R.of (asSeq x) := rfl
@[simp] theorem e_iR1 : iR1 g ρ = (g ρ).bd fun x => R.of (range1D x) := rfl
@[simp] theorem e_iR2 : iR2 ga gb ρ = (ga ρ).bd fun x => (gb ρ).bd fun y => R.of (range2D x y) := rfl
@[simp] theorem e_iEn : iEn ga ρ = (ga ρ).bd fun x => R.of ((asSeq x).map (enumL 0)) := rfl
@[simp] theorem e_iZi : iZi ga gb ρ = (ga ρ).bd fun x => (gb ρ).bd fun y => R.of (zipD x y) := rfl
@[simp] theorem e_sFor {T : Tg} : sFor T gi s ρ = (gi ρ).to fun ds => forD T s ds ρ := rfl
@[simp] theorem e_gYes : gYes ρ = .ok true := rfl
@[simp] theorem e_gLc {T : Tg} {own : List Nat} : gLc T own gi ta g ρ = (gi ρ).bd fun ds => if ds.length ≤ sizeLine then (lcD T ta g (wipeE ρ own) ds).bd fun ys => .ok (.list ys) else .stuck := rfl
@[simp] theorem e_sPar {is : List Nat} : sPar is gs ρ = (gs ρ).to fun ds => if ds.length = is.length then .nx (setE ρ is ds) else .stuck := rfl
@[simp] theorem e_gListR : gListR ga ρ = (ga ρ).bd fun x => R.of (listR x) := rfl
@[simp] theorem e_gSplit : gSplit ga gb ρ = (ga ρ).bd fun x => (R.of (asStr x)).bd fun x => (gb ρ).bd fun y => R.of (splitD x y) := rfl
@[simp] theorem e_gJoin : gJoin ga gb ρ = (ga ρ).bd fun x => (R.of (asStr x)).bd fun x => (gb ρ).bd fun y => R.of (joinD x y) := rfl
@[simp] theorem e_gDsel {ks : List Str} : gDsel ks gs gb ρ = (gs ρ).bd fun ds => (R.of (dokD ks ds)).bd fun _ => (gb ρ).bd fun x => R.of (dselD ks ds x) := rfl
@[simp] theorem e_gCallS {x : Sl} (h : ρ[i]? = some .s) : gCallS i n gs m ρ = (gs ρ).bd fun ds => if ds.length = n then m ds else .stuck := by unfold gCallS; rw [h]
@[simp] theorem e_sSrc : sSrc i gs ρ = (gs ρ).to fun ds => if srcOk ds = true then .nx (ρ.set i .s) else .stuck := rfl
theorem e_get {x : PyData} (h : ρ[i]? = some (.d x)) : getV i ρ = .ok x := by unfold getV; rw [h]
@[simp] theorem e_get0 {x : PyData} {r : Rho} : getV 0 (.d x :: r) = .ok x := rfl
@[simp] theorem e_getS {x : Sl} {r : Rho} : getV (i + 1) (x :: r) = getV i r := rfl
@[simp] theorem e_lineNil {α : Type} {k : R PyData} : lineOk ([] : List α) k = k := by unfold lineOk; exact if_pos (Nat.zero_le _)
theorem e_line {α : Type} {xs : List α} {k : R PyData} (h : xs.length ≤ 1000) : lineOk xs k = k := by unfold lineOk; rw [if_pos (by rw [sizeLine_eq]; omega)]
@[simp] theorem e_setE0 : setE ρ [] [] = ρ := rfl
@[simp] theorem e_setE1 {j : Nat} {is : List Nat} {d : PyData} {ds : List PyData} : setE ρ (j :: is) (d :: ds) = setE (ρ.set j (.d d)) is ds := rfl
@[simp] theorem e_ix1 {j : Nat} : (Tg.one j).ix = [j] := rfl
@[simp] theorem e_ixm {is : List Nat} : (Tg.many is).ix = is := rfl
@[simp] theorem e_v1 {j : Nat} {d : PyData} : (Tg.one j).vals d = some [d] := rfl
@[simp] theorem e_vm {is : List Nat} {ds : List PyData} : (Tg.many is).vals (.tuple ds) = if ds.length = is.length then some ds else none := rfl
@[simp] theorem e_forN {T : Tg} : forD T s [] ρ = .nx ρ := rfl
@[simp] theorem e_lcN {T : Tg} : lcD T ta g ρ [] = .ok [] := rfl
@[simp] theorem e_done1 {d : PyData} : (O.rt d).done = .ok d := rfl
@[simp] theorem e_done2 : (O.nx ρ).done = .ok .none := rfl
@[simp] theorem e_done3 {x : Str} : (O.exc x).done = .exc x := rfl
@[simp] theorem e_done4 {k : Nat → O} : (O.ask n k).done = .ask n fun i => (k i).done := rfl
@[simp] theorem e_calm1 {α : Type} {a : α} : (R.ok a).calm = .ok a := rfl
@[simp] theorem e_calm4 {α : Type} {k : Nat → R α} : (R.ask n k).calm = .ask n fun i => (k i).calm := rfl
theorem O.done_ite {c : Prop} [Decidable c] {a b : O} : (if c then a else b).done = if c then a.done else b.done := by split <;> rfl
theorem O.th_ite {c : Prop} [Decidable c] {a b : O} {f : Rho → O} : (if c then a else b).th f = if c then a.th f else b.th f := by split <;> rfl
theorem R.to_ite {α : Type} {c : Prop} [Decidable c] {a b : R α} {f : α → O} : (if c then a else b).to f = if c then a.to f else b.to f := by split <;> rfl
theorem R.calm_ite {α : Type} {c : Prop} [Decidable c] {a b : R α} : (if c then a else b).calm = if c then a.calm else b.calm := by split <;> rfl
end
/-! ### data functions -/
@[simp] theorem d_add : binD .Add = addD := rfl
@[simp] theorem d_sub : binD .Sub = subD := rfl
@[simp] theorem d_mul : binD .Mult = mulD := rfl
@[simp] theorem d_fdiv : binD .FloorDiv = fdivD := rfl
@[simp] theorem d_mod : binD .Mod = modD := rfl
@[simp] theorem d_addI {i j : Int} : addD (.int i) (.int j) = some (.int (i + j)) := rfl
@[simp] theorem d_subI {i j : Int} : subD (.int i) (.int j) = some (.int (i - j)) := rfl
theorem d_addT {xs ys : List PyData} (h : xs.length + ys.length ≤ 1000) : addD (.tuple xs) (.tuple ys) = some (.tuple (xs ++ ys)) := by show (if _ then _ else _) = _; rw [if_pos (by rw [sizeLine_eq]; omega)]
theorem d_addL {xs ys : List PyData} (h : xs.length + ys.length ≤ 1000) : addD (.list xs) (.list ys) = some (.list (xs ++ ys)) := by show (if _ then _ else _) = _; rw [if_pos (by rw [sizeLine_eq]; omega)]
@[simp] theorem d_eq : cmpD .Eq = eqD := rfl
@[simp] theorem d_ne : cmpD .NotEq = neD := rfl
@[simp] theorem d_lt {i j : Int} : cmpD .Lt (.int i) (.int j) = some (decide (i < j)) := rfl
@[simp] theorem d_le {i j : Int} : cmpD .LtE (.int i) (.int j) = some (decide (i ≤ j)) := rfl
@[simp] theorem d_gt {i j : Int} : cmpD .Gt (.int i) (.int j) = some (decide (j < i)) := rfl
@[simp] theorem d_ge {i j : Int} : cmpD .GtE (.int i) (.int j) = some (decide (j ≤ i)) := rfl
@[simp] theorem d_in : cmpD .In = inD := rfl
@[simp] theorem d_notin : cmpD .NotIn = notInD := rfl
@[simp] theorem d_asB {b : Bool} : asB (.bool b) = some b := rfl
@[simp] theorem d_asI {i : Int} : asI (.int i) = some i := rfl
@[simp] theorem d_asSL {ds : List PyData} : asSeq (.list ds) = some ds := rfl
@[simp] theorem d_asST {ds : List PyData} : asSeq (.tuple ds) = some ds := rfl
@[simp] theorem d_lenL {ds : List PyData} : lenD [.list ds] = some (.int ds.length) := rfl
@[simp] theorem d_lenT {ds : List PyData} : lenD [.tuple ds] = some (.int ds.length) := rfl
@[simp] theorem d_tupL {ds : List PyData} : tupleD [.list ds] = some (.tuple ds) := by first | rfl | simp [tupleD]
/-- of a small depth, its texts sound -/
def flat : PyData → Bool
  | .none => true
  | .bool _ => true
  | .int _ => true
  | .str x => PyData.strOk x
  | _ => false
def shN : Nat → PyData → Bool
  | 0, d => flat d
  | n + 1, .tuple ds => ds.all (shN n)
  | n + 1, .list ds => ds.all (shN n)
  | _ + 1, d => flat d
theorem flat_lay {d : PyData} (h : flat d = true) : d.canLay0 = true ∧ d.depth ≤ 0 := by
  cases d <;> simp_all [flat, PyData.canLay0, PyData.depth]
theorem sh_of : ∀ {n : Nat} {d : PyData}, shN n d = true → d.canLay0 = true ∧ d.depth ≤ n
  | 0, d, h => flat_lay h
  | n + 1, d, h => by
    have key : ∀ ds : List PyData, ds.all (shN n) = true → PyData.canLayAll0 ds = true ∧ PyData.depthAll ds ≤ n := by
      intro ds
      induction ds with
      | nil => intro _; simp [PyData.canLayAll0, PyData.depthAll]
      | cons x r ih =>
        intro h
        obtain ⟨h1, h2⟩ := Bool.and_eq_true_iff.mp h
        obtain ⟨a1, a2⟩ := sh_of h1
        obtain ⟨b1, b2⟩ := ih h2
        simp only [PyData.canLayAll0, PyData.depthAll, a1, b1, Bool.and_self, true_and]
        omega
    cases d with
    | tuple ds =>
      obtain ⟨a, b⟩ := key ds h
      simp only [PyData.canLay0, PyData.depth, a, true_and]; omega
    | list ds =>
      obtain ⟨a, b⟩ := key ds h
      simp only [PyData.canLay0, PyData.depth, a, true_and]; omega
    | _ =>
      obtain ⟨a, b⟩ := flat_lay (show flat _ = true from h)
      exact ⟨a, by omega⟩
theorem isS_of {n : Nat} {d : PyData} (h : shN n d = true) (hn : n ≤ 64 := by decide) : isS d = true := by
  obtain ⟨a, b⟩ := sh_of h
  exact Bool.and_eq_true_iff.mpr ⟨a, decide_eq_true (by omega)⟩
@[simp] theorem isS_int {i : Int} : isS (.int i) = true := isS_of (n := 0) rfl
@[simp] theorem isS_bool {i : Bool} : isS (.bool i) = true := isS_of (n := 0) rfl
@[simp] theorem isS_none : isS .none = true := isS_of (n := 0) rfl
@[simp] theorem isS_nilT : isS (.tuple []) = true := isS_of (n := 1) rfl
@[simp] theorem isS_nilL : isS (.list []) = true := isS_of (n := 1) rfl
theorem eq_of {d e : PyData} (h : isS d = true) (h2 : isS e = true) : eqD d e = some (PyData.eqv d e) := by unfold eqD; rw [h, h2]; rfl
theorem ne_of' {d e : PyData} (h : isS d = true) (h2 : isS e = true) : neD d e = some (!PyData.eqv d e) := by unfold neD; rw [h, h2]; rfl
@[simp] theorem eq_ii {i j : Int} : eqD (.int i) (.int j) = some (decide (i = j)) := by rw [eq_of (by simp) (by simp)]; rfl
@[simp] theorem ne_ii {i j : Int} : neD (.int i) (.int j) = some (!decide (i = j)) := by rw [ne_of' (by simp) (by simp)]; rfl
@[simp] theorem eq_bb {i j : Bool} : eqD (.bool i) (.bool j) = some (i == j) := by rw [eq_of (by simp) (by simp)]; rfl
@[simp] theorem ne_bb {i j : Bool} : neD (.bool i) (.bool j) = some (!(i == j)) := by rw [ne_of' (by simp) (by simp)]; rfl
theorem shN_mono : ∀ {n m : Nat} {d : PyData}, n ≤ m → shN n d = true → shN m d = true
  | 0, 0, d, _, h => h
  | 0, m + 1, d, _, h => by
    cases d with
    | tuple ds => cases h
    | list ds => cases h
    | _ => exact h
  | n + 1, m + 1, d, hl, h => by
    have key : ∀ ds : List PyData, ds.all (shN n) = true → ds.all (shN m) = true := fun ds h => List.all_eq_true.mpr fun x hx => shN_mono (by omega) (List.all_eq_true.mp h x hx)
    cases d with
    | tuple ds => exact key ds h
    | list ds => exact key ds h
    | _ => exact h
theorem cut_take {α : Type} {xs : List α} {j : Nat} : cutL xs none (some (j : Int)) = xs.take j := by
  unfold cutL
  rw [HT.sIx_none, HT.sIx_nat, List.drop_zero, Nat.sub_zero, Nat.min_def]
  split
  · rfl
  · rw [List.take_length, List.take_of_length_le (by omega)]
theorem cut_drop {α : Type} {xs : List α} {j : Nat} : cutL xs (some (j : Int)) none = xs.drop j := by
  unfold cutL
  rw [HT.sIx_none, HT.sIx_nat, Nat.min_def]
  split
  · rw [List.take_of_length_le (by rw [List.length_drop]; omega)]
  · rw [List.drop_length, List.take_nil, List.drop_of_length_le (by omega)]
theorem d_takeT {xs : List PyData} {j : Nat} : sliceD none (some (j : Int)) (.tuple xs) = some (.tuple (xs.take j)) := by show some (PyData.tuple (cutL xs none (some (j : Int)))) = _; rw [cut_take]
theorem d_dropT {xs : List PyData} {j : Nat} : sliceD (some (j : Int)) none (.tuple xs) = some (.tuple (xs.drop j)) := by show some (PyData.tuple (cutL xs (some (j : Int)) none)) = _; rw [cut_drop]
theorem d_dropT1 {xs : List PyData} {j : Nat} : sliceD (some ((j : Int) + 1)) none (.tuple xs) = some (.tuple (xs.drop (j + 1))) := by
  rw [show ((j : Int) + 1) = ((j + 1 : Nat) : Int) by omega, d_dropT]
theorem d_takeT1 {xs : List PyData} {j : Nat} : sliceD none (some ((j : Int) + 1)) (.tuple xs) = some (.tuple (xs.take (j + 1))) := by
  rw [show ((j : Int) + 1) = ((j + 1 : Nat) : Int) by omega, d_takeT]
theorem d_ixT {xs : List PyData} {j : Nat} (h : j < xs.length) : idxD (.tuple xs) (.int j) = some xs[j] := by
  show (ixN xs.length j).bind (fun j => xs[j]?) = _
  unfold ixN
  rw [if_pos (by omega), if_pos (by omega)]
  show xs[(j : Int).toNat]? = _
  rw [Int.toNat_natCast, List.getElem?_eq_getElem h]
theorem d_ixL {xs : List PyData} {j : Nat} (h : j < xs.length) : idxD (.list xs) (.int j) = some xs[j] := d_ixT h
theorem iR1_ev {g : Rho → R PyData} {ρ : Rho} {n : Nat} (h : g ρ = .ok (.int n)) (hn : n ≤ 100000) : iR1 g ρ = .ok (rangeL 0 n) := by
  unfold iR1
  rw [h, R.bd_ok]
  unfold range1D
  rw [d_asI, Option.bind_some, if_pos (by unfold inR; omega), Int.toNat_natCast, R.of_some]
end RL

namespace RL
open PySem PySem.Spec PyProof.Rows L2
def v_VALUES : PyData := (.tuple [(.tuple [(.int 1), (.int 2), (.int 3)]), (.tuple [(.int 0), (.int 1), (.int 2), (.int 3)]), (.tuple [(.str "due"), (.str "today")]), (.tuple [(.bool false), (.bool true)]), (.tuple [(.int 0), (.int 1), (.int 2)]), (.tuple [(.str "asked"), (.str "open")]), (.tuple [(.int 1), (.int 2)]), (.tuple [(.str "end"), (.str "out")]), (.tuple [(.bool false), (.bool true)])])
end RL
namespace RL
open PySem PySem.Spec PyProof.Rows L2
abbrev N_is_tuple : List Str := ["value", "low", "high"]
def g_is_tuple : Rho → O := (sRet (gAndV (gIsi .tuple (getV 0)) (asV (gChain .LtE .LtE (getV 1) (gBlt lenD (gCons (getV 0) gNil)) (getV 2)))))
def m_is_tuple : List PyData → R PyData := runD N_is_tuple g_is_tuple
abbrev N_is_part : List Str := ["place", "value", "one"]
def g_is_part : Rho → O := (sSeq (sFor (.one 2) (iSeq (gIx (gK v_VALUES) (getV 0))) (sIf (gAnd (gCmp .Eq (gIsi .bool (getV 2)) (gIsi .bool (getV 1))) (gCmp .Eq (gIsi .str (getV 2)) (gIsi .str (getV 1)))) (sIf (gAnd (gTest (gIsiT [.bool, .int, .str] (getV 1))) (gCmp .Eq (getV 2) (getV 1))) (sRet (gK (.bool true))) sNil) sNil)) (sRet (gK (.bool false))))
def m_is_part : List PyData → R PyData := runD N_is_part g_is_part
abbrev N_is_rule : List Str := ["value", "place", "part"]
def g_is_rule : Rho → O := (sRet (gAndV (gCall 3 (gCons (getV 0) (gCons (gK (.int 9)) (gCons (gK (.int 9)) gNil))) m_is_tuple) (gBlt allD (gCons (gLc (.many [1, 2]) [1, 2] (iEn (getV 0)) gYes (gCall 2 (gCons (getV 1) (gCons (getV 2) gNil)) m_is_part)) gNil))))
def m_is_rule : List PyData → R PyData := runD N_is_rule g_is_rule
abbrev N_count_rules : List Str := ["found", "some"]
def g_count_rules : Rho → O := (sSeq (sSet 0 (gK (.int 1))) (sSeq (sFor (.one 1) (iSeq (gK v_VALUES)) (sSet 0 (gBin .Mult (getV 0) (gBlt lenD (gCons (getV 1) gNil))))) (sRet (getV 0))))
def m_count_rules : List PyData → R PyData := runD N_count_rules g_count_rules
abbrev N_law_source : List Str := ["script", "k", "cell"]
abbrev N_law_draw : List Str := ["source", "many", "rest", "wide"]
abbrev m_law_draw := m_draw
abbrev N_law_choice : List Str := ["source", "some"]
def g_law_choice : Rho → O := (sRet (gIx (getV 1) (gCallS 0 1 (gCons (gBlt lenD (gCons (getV 1) gNil)) gNil) m_law_draw)))
def m_law_choice : List PyData → R PyData := runS N_law_choice g_law_choice
abbrev N_law_values : List Str := ["first"]
def g_law_values : Rho → O := (sSeq (sSet 0 (gLst (gCons (gLst (gCons (gK (.int 1)) (gCons (gK (.int 2)) (gCons (gK (.int 3)) gNil)))) (gCons (gLst (gCons (gK (.int 0)) (gCons (gK (.int 1)) (gCons (gK (.int 2)) (gCons (gK (.int 3)) gNil))))) (gCons (gLst (gCons (gK (.str "due")) (gCons (gK (.str "today")) gNil))) (gCons (gLst (gCons (gK (.bool false)) (gCons (gK (.bool true)) gNil))) (gCons (gLst (gCons (gK (.int 0)) (gCons (gK (.int 1)) (gCons (gK (.int 2)) gNil)))) gNil))))))) (sRet (gBin .Add (getV 0) (gLst (gCons (gLst (gCons (gK (.str "asked")) (gCons (gK (.str "open")) gNil))) (gCons (gLst (gCons (gK (.int 1)) (gCons (gK (.int 2)) gNil))) (gCons (gLst (gCons (gK (.str "end")) (gCons (gK (.str "out")) gNil))) (gCons (gLst (gCons (gK (.bool false)) (gCons (gK (.bool true)) gNil))) gNil))))))))
def m_law_values : List PyData → R PyData := runD N_law_values g_law_values
abbrev N_law_rule : List Str := ["source", "some"]
def g_law_rule : Rho → O := (sRet (gBlt tupleD (gCons (gLc (.one 1) [1] (iSeq (gCall0 m_law_values)) gYes (gCallS 0 1 (gCons (getV 1) gNil) m_law_choice)) gNil)))
def m_law_rule : List PyData → R PyData := runS N_law_rule g_law_rule
abbrev N_law_is_rule : List Str := ["value", "part", "some", "one"]
def g_law_is_rule : Rho → O := (sSeq (sIf (gOr (gNotT (gTest (gIsi .tuple (getV 0)))) (gCmp .NotEq (gBlt lenD (gCons (getV 0) gNil)) (gK (.int 9)))) (sRet (gK (.bool false))) sNil) (sSeq (sFor (.many [1, 2]) (iZi (getV 0) (gCall0 m_law_values)) (sSeq (sIf (gNotT (gTest (gIsiT [.bool, .int, .str] (getV 1)))) (sRet (gK (.bool false))) sNil) (sIf (gCmp .Eq (gLc (.one 3) [3] (iSeq (getV 2)) (gAnd (gCmp .Eq (getV 3) (getV 1)) (gCmp .Eq (gIsi .bool (getV 3)) (gIsi .bool (getV 1)))) (getV 3)) (gLst gNil)) (sRet (gK (.bool false))) sNil))) (sRet (gK (.bool true)))))
def m_law_is_rule : List PyData → R PyData := runD N_law_is_rule g_law_is_rule
abbrev N_law_bent : List Str := ["source", "value", "way", "at", "some"]
def g_law_bent (self : List PyData → R PyData) : Rho → O := (sSeq (sSet 2 (gCallS 0 1 (gCons (gK (.int 8)) gNil) m_law_draw)) (sSeq (sIf (gAnd (gTest (gIsi .tuple (getV 1))) (gAnd (gCmp .NotEq (getV 1) (gTup gNil)) (gCmp .Gt (getV 2) (gK (.int 0))))) (sSeq (sSet 3 (gCallS 0 1 (gCons (gBlt lenD (gCons (getV 1) gNil)) gNil) m_law_draw)) (sSeq (sIf (gCmp .Eq (getV 2) (gK (.int 1))) (sRet (gBin .Add (gSl (getV 1) gON (gOS (getV 3))) (gSl (getV 1) (gOS (gBin .Add (getV 3) (gK (.int 1)))) gON))) sNil) (sSeq (sIf (gCmp .Eq (getV 2) (gK (.int 2))) (sRet (gBin .Add (gSl (getV 1) gON (gOS (gBin .Add (getV 3) (gK (.int 1))))) (gSl (getV 1) (gOS (getV 3)) gON))) sNil) (sRet (gBin .Add (gBin .Add (gSl (getV 1) gON (gOS (getV 3))) (gTup (gCons (gCallS 0 1 (gCons (gIx (getV 1) (getV 3)) gNil) self) gNil))) (gSl (getV 1) (gOS (gBin .Add (getV 3) (gK (.int 1)))) gON)))))) sNil) (sSeq (sSet 4 (gLst (gCons (gK .none) (gCons (gK (.bool true)) (gCons (gK (.bool false)) (gCons (gK (.int 0)) (gCons (gK (.int 1)) (gCons (gK (.int 2)) (gCons (gK (.int 3)) (gCons (gK (.int 4)) (gCons (gNeg (gK (.int 1))) (gCons (gK (.str "due")) (gCons (gK (.str "today")) (gCons (gK (.str "asked")) (gCons (gK (.str "open")) (gCons (gK (.str "end")) (gCons (gK (.str "out")) (gCons (gK (.str "")) (gCons (gTup gNil) (gCons (gLst gNil) gNil)))))))))))))))))))) (sRet (gCallS 0 1 (gCons (gBin .Add (getV 4) (gLst (gCons (gTup (gCons (gK (.int 1)) gNil)) (gCons (gK (.str "Due")) (gCons (gBin .Pow (gK (.int 10)) (gK (.int 30))) (gCons (gTup (gCons (gK (.str "due")) gNil)) (gCons (gK (.bool true)) (gCons (gK (.bool false)) (gCons (gK (.int 1)) (gCons (gK (.int 0)) gNil)))))))))) gNil) m_law_choice)))))
def m_law_bent : Nat → List PyData → R PyData
  | 0 => fun _ => .stuck
  | n + 1 => runS N_law_bent (g_law_bent (m_law_bent n))
abbrev N_law : List Str := ["script", "k", "source", "rule", "one", "turn", "told", "at", "value", "other"]
def g_law : Rho → O := (sSeq (sFor (.one 1) (iR1 (gBin .Add (gK (.int 1)) (gBlt (ints2 minI) (gCons (gBlt lenD (gCons (getV 0) gNil)) (gCons (gK (.int 10)) gNil))))) (sSeq (sSrc 2 (gCons (getV 0) (gCons (getV 1) gNil))) (sSeq (sSet 3 (gCallS 2 0 gNil m_law_rule)) (sSeq (sSet 4 (getV 3)) (sSeq (sFor (.one 5) (iR1 (gK (.int 15))) (sSeq (sSet 6 (gCall 1 (gCons (getV 4) gNil) m_is_rule)) (sSeq (sIf (gOr (gNotT (gTest (gIsi .bool (getV 6)))) (gCmp .NotEq (getV 6) (gCall 1 (gCons (getV 4) gNil) m_law_is_rule))) (sRet (gK (.bool false))) sNil) (sSet 4 (gCallS 2 1 (gCons (gIf (gCmp .Eq (gBin .Mod (getV 5) (gK (.int 3))) (gK (.int 0))) (getV 3) (getV 4)) gNil) (m_law_bent 20)))))) (sSeq (sIf (gOr (gTest (gBB (fun i j => !decide (i = j)) (gCall 1 (gCons (gBlt listD (gCons (getV 3) gNil)) gNil) m_is_rule) (gK (.bool false)))) (gTest (gBB (fun i j => !decide (i = j)) (gCall 1 (gCons (gBin .Add (gBin .Add (gSl (getV 3) gON (gOS (gK (.int 3)))) (gTup (gCons (gBlt intD (gCons (gIx (getV 3) (gK (.int 3))) gNil)) gNil))) (gSl (getV 3) (gOS (gK (.int 4))) gON)) gNil) m_is_rule) (gK (.bool false))))) (sRet (gK (.bool false))) sNil) (sFor (.one 7) (iR1 (gK (.int 9))) (sFor (.one 8) (iSeq (gBin .Add (gIx (gCall0 m_law_values) (getV 7)) (gLst (gCons (gK (.bool true)) (gCons (gK (.bool false)) (gCons (gK (.int 0)) (gCons (gK (.int 1)) (gCons (gK (.int 2)) (gCons (gK (.int 3)) (gCons (gK (.int 4)) (gCons (gK (.str "due")) (gCons (gK .none) gNil)))))))))))) (sSeq (sSet 9 (gBin .Add (gBin .Add (gSl (getV 3) gON (gOS (getV 7))) (gTup (gCons (getV 8) gNil))) (gSl (getV 3) (gOS (gBin .Add (getV 7) (gK (.int 1)))) gON))) (sIf (gCmp .NotEq (gCall 1 (gCons (getV 9) gNil) m_is_rule) (gCall 1 (gCons (getV 9) gNil) m_law_is_rule)) (sRet (gK (.bool false))) sNil)))))))))) (sRet (asV (gCmp .Eq (gCall0 m_count_rules) (gK (.int 2304))))))
def m_law : List PyData → R PyData := runD N_law g_law
end RL

namespace RL
open PySem PySem.Spec PyProof.Rows L2
def topS (i : Nat) : Stmt := PySem.Challenge.pw_renewedagain_k01_rules_recognized.main.body.getD i (.Pass ⟨0, 0, 0, 0⟩)
abbrev s_is_tuple : Stmt := topS 2
theorem sc_is_tuple : FnScope N_is_tuple ["value", "low", "high"] (defScope s_is_tuple) := ⟨rfl, rfl, rfl, by decide +kernel, rfl, by decide +kernel, by decide +kernel⟩
abbrev s_is_part : Stmt := topS 3
theorem sc_is_part : FnScope N_is_part ["place", "value"] (defScope s_is_part) := ⟨rfl, rfl, rfl, by decide +kernel, rfl, by decide +kernel, by decide +kernel⟩
abbrev s_is_rule : Stmt := topS 4
theorem sc_is_rule : FnScope N_is_rule ["value"] (defScope s_is_rule) := ⟨rfl, rfl, rfl, by decide +kernel, rfl, by decide +kernel, by decide +kernel⟩
abbrev s_count_rules : Stmt := topS 5
theorem sc_count_rules : FnScope N_count_rules [] (defScope s_count_rules) := ⟨rfl, rfl, rfl, by decide +kernel, rfl, by decide +kernel, by decide +kernel⟩
abbrev s_law_source : Stmt := topS 7
theorem sc_law_source : FnScope N_law_source ["script", "k"] (defScope s_law_source) := ⟨rfl, rfl, rfl, by decide +kernel, rfl, by decide +kernel, by decide +kernel⟩
abbrev s_law_draw : Stmt := topS 8
theorem sc_law_draw : FnScope N_law_draw ["source", "many"] (defScope s_law_draw) := ⟨rfl, rfl, rfl, by decide +kernel, rfl, by decide +kernel, by decide +kernel⟩
abbrev s_law_choice : Stmt := topS 9
theorem sc_law_choice : FnScope N_law_choice ["source", "some"] (defScope s_law_choice) := ⟨rfl, rfl, rfl, by decide +kernel, rfl, by decide +kernel, by decide +kernel⟩
abbrev s_law_values : Stmt := topS 10
theorem sc_law_values : FnScope N_law_values [] (defScope s_law_values) := ⟨rfl, rfl, rfl, by decide +kernel, rfl, by decide +kernel, by decide +kernel⟩
abbrev s_law_rule : Stmt := topS 11
theorem sc_law_rule : FnScope N_law_rule ["source"] (defScope s_law_rule) := ⟨rfl, rfl, rfl, by decide +kernel, rfl, by decide +kernel, by decide +kernel⟩
abbrev s_law_is_rule : Stmt := topS 12
theorem sc_law_is_rule : FnScope N_law_is_rule ["value"] (defScope s_law_is_rule) := ⟨rfl, rfl, rfl, by decide +kernel, rfl, by decide +kernel, by decide +kernel⟩
abbrev s_law_bent : Stmt := topS 13
theorem sc_law_bent : FnScope N_law_bent ["source", "value"] (defScope s_law_bent) := ⟨rfl, rfl, rfl, by decide +kernel, rfl, by decide +kernel, by decide +kernel⟩
abbrev s_law : Stmt := topS 14
theorem sc_law : FnScope N_law ["script"] (defScope s_law) := ⟨rfl, rfl, rfl, by decide +kernel, rfl, by decide +kernel, by decide +kernel⟩
structure Fct (K : PySem.W.Frag) (mg : Str → Option Value) : Prop where
  glo_is_tuple : mg "is_tuple" = some (.ref (He.ga K "is_tuple"))
  fun_is_tuple : ∃ fd, FunD K "is_tuple" "is_tuple" (defArgs s_is_tuple) (defBody s_is_tuple) (defScope s_is_tuple) [] [] (He.ga K "is_tuple") fd
  free_isinstance : mg "isinstance" = none
  free_tuple : mg "tuple" = none
  free_len : mg "len" = none
  glo_is_part : mg "is_part" = some (.ref (He.ga K "is_part"))
  fun_is_part : ∃ fd, FunD K "is_part" "is_part" (defArgs s_is_part) (defBody s_is_part) (defScope s_is_part) [] [] (He.ga K "is_part") fd
  val_VALUES : ValF K mg "VALUES" v_VALUES
  free_bool : mg "bool" = none
  free_str : mg "str" = none
  free_int : mg "int" = none
  glo_is_rule : mg "is_rule" = some (.ref (He.ga K "is_rule"))
  fun_is_rule : ∃ fd, FunD K "is_rule" "is_rule" (defArgs s_is_rule) (defBody s_is_rule) (defScope s_is_rule) [] [] (He.ga K "is_rule") fd
  free_enumerate : mg "enumerate" = none
  free_all : mg "all" = none
  glo_count_rules : mg "count_rules" = some (.ref (He.ga K "count_rules"))
  fun_count_rules : ∃ fd, FunD K "count_rules" "count_rules" (defArgs s_count_rules) (defBody s_count_rules) (defScope s_count_rules) [] [] (He.ga K "count_rules") fd
  glo_law_source : mg "_law_source" = some (.ref (He.ga K "_law_source"))
  fun_law_source : ∃ fd, FunD K "_law_source" "_law_source" (defArgs s_law_source) (defBody s_law_source) (defScope s_law_source) [] [] (He.ga K "_law_source") fd
  free_abs : mg "abs" = none
  glo_law_draw : mg "_law_draw" = some (.ref (He.ga K "_law_draw"))
  fun_law_draw : ∃ fd, FunD K "_law_draw" "_law_draw" (defArgs s_law_draw) (defBody s_law_draw) (defScope s_law_draw) [] [] (He.ga K "_law_draw") fd
  glo_law_choice : mg "_law_choice" = some (.ref (He.ga K "_law_choice"))
  fun_law_choice : ∃ fd, FunD K "_law_choice" "_law_choice" (defArgs s_law_choice) (defBody s_law_choice) (defScope s_law_choice) [] [] (He.ga K "_law_choice") fd
  glo_law_values : mg "_law_values" = some (.ref (He.ga K "_law_values"))
  fun_law_values : ∃ fd, FunD K "_law_values" "_law_values" (defArgs s_law_values) (defBody s_law_values) (defScope s_law_values) [] [] (He.ga K "_law_values") fd
  glo_law_rule : mg "_law_rule" = some (.ref (He.ga K "_law_rule"))
  fun_law_rule : ∃ fd, FunD K "_law_rule" "_law_rule" (defArgs s_law_rule) (defBody s_law_rule) (defScope s_law_rule) [] [] (He.ga K "_law_rule") fd
  glo_law_is_rule : mg "_law_is_rule" = some (.ref (He.ga K "_law_is_rule"))
  fun_law_is_rule : ∃ fd, FunD K "_law_is_rule" "_law_is_rule" (defArgs s_law_is_rule) (defBody s_law_is_rule) (defScope s_law_is_rule) [] [] (He.ga K "_law_is_rule") fd
  free_zip : mg "zip" = none
  glo_law_bent : mg "_law_bent" = some (.ref (He.ga K "_law_bent"))
  fun_law_bent : ∃ fd, FunD K "_law_bent" "_law_bent" (defArgs s_law_bent) (defBody s_law_bent) (defScope s_law_bent) [] [] (He.ga K "_law_bent") fd
  glo_law : mg "law" = some (.ref (He.ga K "law"))
  fun_law : ∃ fd, FunD K "law" "law" (defArgs s_law) (defBody s_law) (defScope s_law) [] [] (He.ga K "law") fd
  free_min : mg "min" = none
  free_range : mg "range" = none
  free_list : mg "list" = none
section
variable {P : Program} {w : World} {K : PySem.W.Frag} {mg : Str → Option Value} {base : Heap}
theorem fn_is_tuple (C : Fct K mg) : FnF P w K mg base 1 "is_tuple" 3 (spP K mg 3 m_is_tuple) :=
  fnF_pure C.fun_is_tuple sc_is_tuple C.glo_is_tuple rfl (fun _ _ _ _ _ _ us hl => match us, hl with | [_, _, _], _ => rfl) fun cdv A outer s H E hr =>
  (sem_sone (sem_ret (sem_and (sem_isi .tuple C.free_isinstance C.free_tuple boot_tuple (sem_var (i := 0))) (sem_one (sem_chain hr (sem_var (i := 1)) (sem_blt call_lenD rfl C.free_len boot_len (sem_cons (sem_var (i := 0)) sem_nil)) (sem_var (i := 2)))))))
theorem fn_is_part (C : Fct K mg) : FnF P w K mg base 1 "is_part" 2 (spP K mg 2 m_is_part) :=
  fnF_pure C.fun_is_part sc_is_part C.glo_is_part rfl (fun _ _ _ _ _ _ us hl => match us, hl with | [_, _], _ => rfl) fun cdv A outer s H E hr =>
  (sem_scons (sem_for (T := (.one 2)) (sem_iter (sem_ix (sem_val C.val_VALUES) (sem_var (i := 0)))) (tg_one sc_is_part.nd) (sem_sone (sem_sif (sem_w (sem_andW (sem_cmpT hr (sem_isi .bool C.free_isinstance C.free_bool boot_bool (sem_var (i := 2))) (sem_isi .bool C.free_isinstance C.free_bool boot_bool (sem_var (i := 1)))) (sem_and1 (sem_cmpT hr (sem_isi .str C.free_isinstance C.free_str boot_str (sem_var (i := 2))) (sem_isi .str C.free_isinstance C.free_str boot_str (sem_var (i := 1))))))) (sem_sone (sem_sif (sem_w (sem_andW (sem_valT (sem_isiT (by decide) C.free_isinstance (tyl_cons .bool rfl C.free_bool boot_bool (tyl_cons .int rfl C.free_int boot_int (tyl_cons .str rfl C.free_str boot_str tyl_nil))) (sem_var (i := 1)))) (sem_and1 (sem_cmpT hr (sem_var (i := 2)) (sem_var (i := 1)))))) (sem_sone (sem_ret sem_bl)) sem_snil)) sem_snil))) (sem_sone (sem_ret sem_bl)))
theorem fn_is_rule (C : Fct K mg) : FnF P w K mg base 2 "is_rule" 1 (spP K mg 1 m_is_rule) :=
  fnF_pure C.fun_is_rule sc_is_rule C.glo_is_rule rfl (fun _ _ _ _ _ _ us hl => match us, hl with | [_], _ => rfl) fun cdv A outer s H E hr =>
  (sem_sone (sem_ret (sem_and (sem_call (fn_is_tuple C) (hr.mono (by first | decide | omega)) (sem_cons (sem_var (i := 0)) (sem_cons sem_int (sem_cons sem_int sem_nil)))) (sem_one (sem_blt (call_allD rfl) rfl C.free_all boot_all (sem_cons (sem_lc (T := (.many [1, 2])) (own := [("place", 1), ("part", 2)]) sc_is_rule.nd (sem_enum C.free_enumerate (sem_var (i := 0))) (blkOk_by (own := [("place", 1), ("part", 2)]) (N := N_is_rule) (sc := defScope s_is_rule) (by decide +kernel)) (by decide) (fun _ _ _ _ _ => (tg_many rfl (.cons (i := 1) sc_is_rule.nd rfl (by first | exact Or.inl rfl | exact Or.inr rfl) (by first | exact Or.inl rfl | exact Or.inr rfl) rfl (.cons (i := 2) sc_is_rule.nd rfl (by first | exact Or.inl rfl | exact Or.inr rfl) (by first | exact Or.inl rfl | exact Or.inr rfl) rfl .nil)))) (fun _ _ _ _ _ => sem_ts0) (fun _ _ _ _ _ => (sem_call (fn_is_part C) (hr.mono (by first | decide | omega)) (sem_cons (sem_var (i := 1)) (sem_cons (sem_var (i := 2)) sem_nil))))) sem_nil))))))
theorem fn_count_rules (C : Fct K mg) : FnF P w K mg base 1 "count_rules" 0 (spP K mg 0 m_count_rules) :=
  fnF_pure C.fun_count_rules sc_count_rules C.glo_count_rules rfl (fun _ _ _ _ _ _ us hl => match us, hl with | [], _ => rfl) fun cdv A outer s H E hr =>
  (sem_scons (sem_set (i := 0) sc_count_rules.nd sem_int) (sem_scons (sem_for (T := (.one 1)) (sem_iter (sem_val C.val_VALUES)) (tg_one sc_count_rules.nd) (sem_sone (sem_set (i := 0) sc_count_rules.nd (sem_bin (sem_var (i := 0)) (sem_blt call_lenD rfl C.free_len boot_len (sem_cons (sem_var (i := 1)) sem_nil)))))) (sem_sone (sem_ret (sem_var (i := 0))))))
theorem fn_law_source (C : Fct K mg) : FnF P w K mg base 1 "_law_source" 2 (spN K) :=
  fnF_source C.fun_law_source sc_law_source C.glo_law_source (fun _ _ _ _ _ _ us hl => match us, hl with | [_, _], _ => rfl) fun cdv A outer s H E hr W tk =>
  (pss_cons (ofS tk (sem_set (i := 2) sc_law_source.nd (sem_if (sem_cmpT hr (sem_var (i := 1)) (sem_blt call_lenD rfl C.free_len boot_len (sem_cons (sem_var (i := 0)) sem_nil))) (sem_blt call_absD rfl C.free_abs boot_abs (sem_cons (sem_ty call_intD rfl C.free_int boot_int (sem_cons (sem_ix (sem_var (i := 0)) (sem_var (i := 1))) sem_nil)) sem_nil)) (sem_bin (sem_bin sem_int (sem_var (i := 1))) sem_int)))) (pss_one (ps_ret (pe_lst (ofA tk (sem_cons (sem_if (sem_cmpT hr (sem_var (i := 2)) (sem_bin sem_int sem_int)) (sem_var (i := 2)) sem_int) (sem_cons (sem_bin (sem_ty call_intD rfl C.free_int boot_int (sem_cons (sem_bin (sem_bin (sem_bin (sem_var (i := 2)) sem_int) (sem_bin sem_int (sem_var (i := 1)))) sem_int) sem_nil)) sem_int) sem_nil)))))))
theorem fn_law_draw (C : Fct K mg) : FnF P w K mg base 1 "_law_draw" 2 (spS K mg 1 m_draw) :=
  fnF_draw C.fun_law_draw sc_law_draw C.glo_law_draw (fun _ _ _ _ _ _ us hl => match us, hl with | [_, _], _ => rfl) fun cdv A outer s H E hr W tk =>
  (pss_cons (ps_if (ofT tk (sem_cmpT hr (sem_ix (sem_var (i := 0)) sem_int) sem_int)) (pss_cons (ps_set (i := 2) sc_law_draw.nd rfl (Or.inl rfl) (ofE tk (sem_bin (sem_ty call_intD rfl C.free_int boot_int (sem_cons (sem_ix (sem_var (i := 0)) sem_int) sem_nil)) (sem_var (i := 1))))) (pss_cons (ps_asg (ofE tk (sem_bin (sem_ix (sem_var (i := 0)) sem_int) (sem_var (i := 1)))) (pg_sub (pv 0) (ofE tk sem_int) set_list)) (pss_one (ofS tk (sem_ret (sem_var (i := 2))))))) pss_nil) (pss_cons (ps_asg (ofE tk (sem_bin (sem_ty call_intD rfl C.free_int boot_int (sem_cons (sem_bin (sem_bin (sem_ix (sem_var (i := 0)) sem_int) sem_int) sem_int) sem_nil)) sem_int)) (pg_sub (pv 0) (ofE tk sem_int) set_list)) (ofB tk (sem_scons (sem_set (i := 3) sc_law_draw.nd (sem_bin (sem_ty call_intD rfl C.free_int boot_int (sem_cons (sem_bin (sem_ix (sem_var (i := 0)) sem_int) (sem_bin (sem_bin (sem_ix (sem_var (i := 0)) sem_int) sem_int) sem_int)) sem_nil)) sem_int)) (sem_sone (sem_ret (sem_bin (sem_ty call_intD rfl C.free_int boot_int (sem_cons (sem_bin (sem_var (i := 3)) sem_int) sem_nil)) (sem_var (i := 1)))))))))
theorem fn_law_choice (C : Fct K mg) : FnF P w K mg base 2 "_law_choice" 2 (spS K mg 1 m_law_choice) :=
  fnF_src C.fun_law_choice sc_law_choice C.glo_law_choice rfl (fun _ _ _ _ _ _ us hl => match us, hl with | [_, _], _ => rfl) fun cdv A outer s H E hr =>
  (sem_sone (sem_ret (sem_ix (sem_var (i := 1)) (sem_callS (i := 0) (fn_law_draw C) (hr.mono (by first | decide | omega)) (sem_cons (sem_blt call_lenD rfl C.free_len boot_len (sem_cons (sem_var (i := 1)) sem_nil)) sem_nil)))))
theorem fn_law_values (C : Fct K mg) : FnF P w K mg base 1 "_law_values" 0 (spP K mg 0 m_law_values) :=
  fnF_pure C.fun_law_values sc_law_values C.glo_law_values rfl (fun _ _ _ _ _ _ us hl => match us, hl with | [], _ => rfl) fun cdv A outer s H E hr =>
  (sem_scons (sem_set (i := 0) sc_law_values.nd (sem_lst (sem_cons (sem_lst (sem_cons sem_int (sem_cons sem_int (sem_cons sem_int sem_nil)))) (sem_cons (sem_lst (sem_cons sem_int (sem_cons sem_int (sem_cons sem_int (sem_cons sem_int sem_nil))))) (sem_cons (sem_lst (sem_cons sem_str (sem_cons sem_str sem_nil))) (sem_cons (sem_lst (sem_cons sem_bl (sem_cons sem_bl sem_nil))) (sem_cons (sem_lst (sem_cons sem_int (sem_cons sem_int (sem_cons sem_int sem_nil)))) sem_nil))))))) (sem_sone (sem_ret (sem_bin (sem_var (i := 0)) (sem_lst (sem_cons (sem_lst (sem_cons sem_str (sem_cons sem_str sem_nil))) (sem_cons (sem_lst (sem_cons sem_int (sem_cons sem_int sem_nil))) (sem_cons (sem_lst (sem_cons sem_str (sem_cons sem_str sem_nil))) (sem_cons (sem_lst (sem_cons sem_bl (sem_cons sem_bl sem_nil))) sem_nil)))))))))
theorem fn_law_rule (C : Fct K mg) : FnF P w K mg base 3 "_law_rule" 1 (spS K mg 0 m_law_rule) :=
  fnF_src C.fun_law_rule sc_law_rule C.glo_law_rule rfl (fun _ _ _ _ _ _ us hl => match us, hl with | [_], _ => rfl) fun cdv A outer s H E hr =>
  (sem_sone (sem_ret (sem_ty call_tupleD rfl C.free_tuple boot_tuple (sem_cons (sem_lc (T := (.one 1)) (own := [("some", 1)]) sc_law_rule.nd (sem_iter (sem_call0 (fn_law_values C) (hr.mono (by first | decide | omega)))) (blkOk_by (own := [("some", 1)]) (N := N_law_rule) (sc := defScope s_law_rule) (by decide +kernel)) (by decide) (fun _ _ _ _ _ => (tg_one sc_law_rule.nd)) (fun _ _ _ _ _ => sem_ts0) (fun _ _ _ _ _ => (sem_callS (i := 0) (fn_law_choice C) (hr.mono (by first | decide | omega)) (sem_cons (sem_var (i := 1)) sem_nil)))) sem_nil))))
theorem fn_law_is_rule (C : Fct K mg) : FnF P w K mg base 2 "_law_is_rule" 1 (spP K mg 1 m_law_is_rule) :=
  fnF_pure C.fun_law_is_rule sc_law_is_rule C.glo_law_is_rule rfl (fun _ _ _ _ _ _ us hl => match us, hl with | [_], _ => rfl) fun cdv A outer s H E hr =>
  (sem_scons (sem_sif (sem_w (sem_orW (sem_notT (sem_valT (sem_isi .tuple C.free_isinstance C.free_tuple boot_tuple (sem_var (i := 0))))) (sem_or1 (sem_cmpT hr (sem_blt call_lenD rfl C.free_len boot_len (sem_cons (sem_var (i := 0)) sem_nil)) sem_int)))) (sem_sone (sem_ret sem_bl)) sem_snil) (sem_scons (sem_for (T := (.many [1, 2])) (sem_zip C.free_zip (sem_var (i := 0)) (sem_call0 (fn_law_values C) (hr.mono (by first | decide | omega)))) (tg_many rfl (.cons (i := 1) sc_law_is_rule.nd rfl (by first | exact Or.inl rfl | exact Or.inr rfl) (by first | exact Or.inl rfl | exact Or.inr rfl) rfl (.cons (i := 2) sc_law_is_rule.nd rfl (by first | exact Or.inl rfl | exact Or.inr rfl) (by first | exact Or.inl rfl | exact Or.inr rfl) rfl .nil))) (sem_scons (sem_sif (sem_notT (sem_valT (sem_isiT (by decide) C.free_isinstance (tyl_cons .bool rfl C.free_bool boot_bool (tyl_cons .int rfl C.free_int boot_int (tyl_cons .str rfl C.free_str boot_str tyl_nil))) (sem_var (i := 1))))) (sem_sone (sem_ret sem_bl)) sem_snil) (sem_sone (sem_sif (sem_cmpT hr (sem_lc (T := (.one 3)) (own := [("one", 3)]) sc_law_is_rule.nd (sem_iter (sem_var (i := 2))) (blkOk_by (own := [("one", 3)]) (N := N_law_is_rule) (sc := defScope s_law_is_rule) (by decide +kernel)) (by decide) (fun _ _ _ _ _ => (tg_one sc_law_is_rule.nd)) (fun _ _ _ _ _ => (sem_ts1 (sem_w (sem_andW (sem_cmpT hr (sem_var (i := 3)) (sem_var (i := 1))) (sem_and1 (sem_cmpT hr (sem_isi .bool C.free_isinstance C.free_bool boot_bool (sem_var (i := 3))) (sem_isi .bool C.free_isinstance C.free_bool boot_bool (sem_var (i := 1))))))))) (fun _ _ _ _ _ => (sem_var (i := 3)))) (sem_lst sem_nil)) (sem_sone (sem_ret sem_bl)) sem_snil)))) (sem_sone (sem_ret sem_bl))))
theorem fn_law_bent (C : Fct K mg) : ∀ n, FnF P w K mg base (3 + n) "_law_bent" 2 (spS K mg 1 (m_law_bent n))
  | 0 => fnF_noneS C.fun_law_bent sc_law_bent C.glo_law_bent rfl (fun _ _ _ _ _ _ us hl => match us, hl with | [_, _], _ => rfl)
  | n + 1 => by
    have ih := fn_law_bent C n
    exact fnF_src (k := 3 + n) C.fun_law_bent sc_law_bent C.glo_law_bent rfl (fun _ _ _ _ _ _ us hl => match us, hl with | [_, _], _ => rfl) fun cdv A outer s H E hr =>
  (sem_scons (sem_set (i := 2) sc_law_bent.nd (sem_callS (i := 0) (fn_law_draw C) (hr.mono (by first | decide | omega)) (sem_cons sem_int sem_nil))) (sem_scons (sem_sif (sem_w (sem_andW (sem_valT (sem_isi .tuple C.free_isinstance C.free_tuple boot_tuple (sem_var (i := 1)))) (sem_andW (sem_cmpT hr (sem_var (i := 1)) (sem_tup sem_nil)) (sem_and1 (sem_cmpT hr (sem_var (i := 2)) sem_int))))) (sem_scons (sem_set (i := 3) sc_law_bent.nd (sem_callS (i := 0) (fn_law_draw C) (hr.mono (by first | decide | omega)) (sem_cons (sem_blt call_lenD rfl C.free_len boot_len (sem_cons (sem_var (i := 1)) sem_nil)) sem_nil))) (sem_scons (sem_sif (sem_cmpT hr (sem_var (i := 2)) sem_int) (sem_sone (sem_ret (sem_bin (sem_slice (sem_var (i := 1)) sem_none (sem_some (sem_var (i := 3)))) (sem_slice (sem_var (i := 1)) (sem_some (sem_bin (sem_var (i := 3)) sem_int)) sem_none)))) sem_snil) (sem_scons (sem_sif (sem_cmpT hr (sem_var (i := 2)) sem_int) (sem_sone (sem_ret (sem_bin (sem_slice (sem_var (i := 1)) sem_none (sem_some (sem_bin (sem_var (i := 3)) sem_int))) (sem_slice (sem_var (i := 1)) (sem_some (sem_var (i := 3))) sem_none)))) sem_snil) (sem_sone (sem_ret (sem_bin (sem_bin (sem_slice (sem_var (i := 1)) sem_none (sem_some (sem_var (i := 3)))) (sem_tup (sem_cons (sem_callS (i := 0) ih (hr.mono (by omega)) (sem_cons (sem_ix (sem_var (i := 1)) (sem_var (i := 3))) sem_nil)) sem_nil))) (sem_slice (sem_var (i := 1)) (sem_some (sem_bin (sem_var (i := 3)) sem_int)) sem_none))))))) sem_snil) (sem_scons (sem_set (i := 4) sc_law_bent.nd (sem_lst (sem_cons sem_non (sem_cons sem_bl (sem_cons sem_bl (sem_cons sem_int (sem_cons sem_int (sem_cons sem_int (sem_cons sem_int (sem_cons sem_int (sem_cons (sem_neg sem_int) (sem_cons sem_str (sem_cons sem_str (sem_cons sem_str (sem_cons sem_str (sem_cons sem_str (sem_cons sem_str (sem_cons sem_str (sem_cons (sem_tup sem_nil) (sem_cons (sem_lst sem_nil) sem_nil)))))))))))))))))))) (sem_sone (sem_ret (sem_callS (i := 0) (fn_law_choice C) (hr.mono (by first | decide | omega)) (sem_cons (sem_bin (sem_var (i := 4)) (sem_lst (sem_cons (sem_tup (sem_cons sem_int sem_nil)) (sem_cons sem_str (sem_cons (sem_bin sem_int sem_int) (sem_cons (sem_tup (sem_cons sem_str sem_nil)) (sem_cons sem_bl (sem_cons sem_bl (sem_cons sem_int (sem_cons sem_int sem_nil)))))))))) sem_nil)))))))
theorem ok_law (C : Fct K mg) {fd : FuncData} (F : FunD K "law" "law" (defArgs s_law) (defBody s_law) (defScope s_law) [] [] (He.ga K "law") fd) : (∀ (s : Shared) (v : Value), BindsTo s fd ⟨[v], []⟩ [("script", v)]) ∧ FnOk P w K mg base CX0 24 (He.ga K "law") fd ["script"] (spW K mg 1 m_law) :=
  ok_law0 F sc_law (fun _ _ _ _ _ _ us hl => match us, hl with | [_], _ => rfl) fun cdv A outer s H E hr =>
  (sem_scons (sem_for (T := (.one 1)) (sem_range1 C.free_range (sem_bin sem_int (sem_blt (call_minD rfl) rfl C.free_min boot_min (sem_cons (sem_blt call_lenD rfl C.free_len boot_len (sem_cons (sem_var (i := 0)) sem_nil)) (sem_cons sem_int sem_nil))))) (tg_one sc_law.nd) (sem_scons (sem_setSrc (i := 2) sc_law.nd (fn_law_source C) (hr.mono (by first | decide | omega)) (sem_cons (sem_var (i := 0)) (sem_cons (sem_var (i := 1)) sem_nil))) (sem_scons (sem_set (i := 3) sc_law.nd (sem_callS (i := 2) (fn_law_rule C) (hr.mono (by first | decide | omega)) sem_nil)) (sem_scons (sem_set (i := 4) sc_law.nd (sem_var (i := 3))) (sem_scons (sem_for (T := (.one 5)) (sem_range1 C.free_range sem_int) (tg_one sc_law.nd) (sem_scons (sem_set (i := 6) sc_law.nd (sem_call (fn_is_rule C) (hr.mono (by first | decide | omega)) (sem_cons (sem_var (i := 4)) sem_nil))) (sem_scons (sem_sif (sem_w (sem_orW (sem_notT (sem_valT (sem_isi .bool C.free_isinstance C.free_bool boot_bool (sem_var (i := 6))))) (sem_or1 (sem_cmpT hr (sem_var (i := 6)) (sem_call (fn_law_is_rule C) (hr.mono (by first | decide | omega)) (sem_cons (sem_var (i := 4)) sem_nil)))))) (sem_sone (sem_ret sem_bl)) sem_snil) (sem_sone (sem_set (i := 4) sc_law.nd (sem_callS (i := 2) (fn_law_bent C 20) (hr.mono (by first | decide | omega)) (sem_cons (sem_if (sem_cmpT hr (sem_bin (sem_var (i := 5)) sem_int) sem_int) (sem_var (i := 3)) (sem_var (i := 4))) sem_nil))))))) (sem_scons (sem_sif (sem_w (sem_orW (sem_isnotBT (sem_call (fn_is_rule C) (hr.mono (by first | decide | omega)) (sem_cons (sem_ty call_listD rfl C.free_list boot_list (sem_cons (sem_var (i := 3)) sem_nil)) sem_nil)) sem_bl) (sem_or1 (sem_isnotBT (sem_call (fn_is_rule C) (hr.mono (by first | decide | omega)) (sem_cons (sem_bin (sem_bin (sem_slice (sem_var (i := 3)) sem_none (sem_some sem_int)) (sem_tup (sem_cons (sem_ty call_intD rfl C.free_int boot_int (sem_cons (sem_ix (sem_var (i := 3)) sem_int) sem_nil)) sem_nil))) (sem_slice (sem_var (i := 3)) (sem_some sem_int) sem_none)) sem_nil)) sem_bl)))) (sem_sone (sem_ret sem_bl)) sem_snil) (sem_sone (sem_for (T := (.one 7)) (sem_range1 C.free_range sem_int) (tg_one sc_law.nd) (sem_sone (sem_for (T := (.one 8)) (sem_iter (sem_bin (sem_ix (sem_call0 (fn_law_values C) (hr.mono (by first | decide | omega))) (sem_var (i := 7))) (sem_lst (sem_cons sem_bl (sem_cons sem_bl (sem_cons sem_int (sem_cons sem_int (sem_cons sem_int (sem_cons sem_int (sem_cons sem_int (sem_cons sem_str (sem_cons sem_non sem_nil)))))))))))) (tg_one sc_law.nd) (sem_scons (sem_set (i := 9) sc_law.nd (sem_bin (sem_bin (sem_slice (sem_var (i := 3)) sem_none (sem_some (sem_var (i := 7)))) (sem_tup (sem_cons (sem_var (i := 8)) sem_nil))) (sem_slice (sem_var (i := 3)) (sem_some (sem_bin (sem_var (i := 7)) sem_int)) sem_none))) (sem_sone (sem_sif (sem_cmpT hr (sem_call (fn_is_rule C) (hr.mono (by first | decide | omega)) (sem_cons (sem_var (i := 9)) sem_nil)) (sem_call (fn_law_is_rule C) (hr.mono (by first | decide | omega)) (sem_cons (sem_var (i := 9)) sem_nil))) (sem_sone (sem_ret sem_bl)) sem_snil))))))))))))) (sem_sone (sem_ret (sem_cmp hr (sem_call0 (fn_count_rules C) (hr.mono (by first | decide | omega))) sem_int))))
end
end RL

namespace RL
open PySem PySem.Spec PyProof.Rows L2
def hfa : List He.Fa := [.glo "is_tuple", .free "isinstance", .free "tuple", .free "len", .glo "is_part", .free "bool", .free "str", .free "int", .glo "is_rule", .free "enumerate", .free "all", .glo "count_rules", .glo "_law_source", .free "abs", .glo "_law_draw", .glo "_law_choice", .glo "_law_values", .glo "_law_rule", .glo "_law_is_rule", .free "zip", .glo "_law_bent", .glo "law", .free "min", .free "range", .free "list"]
def hd_0 : He.DefD := ⟨("is_tuple", none), "is_tuple", "is_tuple", defArgs s_is_tuple, defBody s_is_tuple, defScope s_is_tuple, [], []⟩
def hd_1 : He.DefD := ⟨("is_part", none), "is_part", "is_part", defArgs s_is_part, defBody s_is_part, defScope s_is_part, [], []⟩
def hd_2 : He.DefD := ⟨("is_rule", none), "is_rule", "is_rule", defArgs s_is_rule, defBody s_is_rule, defScope s_is_rule, [], []⟩
def hd_3 : He.DefD := ⟨("count_rules", none), "count_rules", "count_rules", defArgs s_count_rules, defBody s_count_rules, defScope s_count_rules, [], []⟩
def hd_4 : He.DefD := ⟨("_law_source", none), "_law_source", "_law_source", defArgs s_law_source, defBody s_law_source, defScope s_law_source, [], []⟩
def hd_5 : He.DefD := ⟨("_law_draw", none), "_law_draw", "_law_draw", defArgs s_law_draw, defBody s_law_draw, defScope s_law_draw, [], []⟩
def hd_6 : He.DefD := ⟨("_law_choice", none), "_law_choice", "_law_choice", defArgs s_law_choice, defBody s_law_choice, defScope s_law_choice, [], []⟩
def hd_7 : He.DefD := ⟨("_law_values", none), "_law_values", "_law_values", defArgs s_law_values, defBody s_law_values, defScope s_law_values, [], []⟩
def hd_8 : He.DefD := ⟨("_law_rule", none), "_law_rule", "_law_rule", defArgs s_law_rule, defBody s_law_rule, defScope s_law_rule, [], []⟩
def hd_9 : He.DefD := ⟨("_law_is_rule", none), "_law_is_rule", "_law_is_rule", defArgs s_law_is_rule, defBody s_law_is_rule, defScope s_law_is_rule, [], []⟩
def hd_10 : He.DefD := ⟨("_law_bent", none), "_law_bent", "_law_bent", defArgs s_law_bent, defBody s_law_bent, defScope s_law_bent, [], []⟩
def hd_11 : He.DefD := ⟨("law", none), "law", "law", defArgs s_law, defBody s_law, defScope s_law, [], []⟩
def hfn : List He.DefD := [hd_0, hd_1, hd_2, hd_3, hd_4, hd_5, hd_6, hd_7, hd_8, hd_9, hd_10, hd_11]
def hex (K : PySem.W.Frag) : Bool := valB K "VALUES" v_VALUES && true
def loose_0 : List PySem.Str := ["VALUES", "is_tuple", "is_part", "is_rule", "count_rules", "_law_source", "_law_draw", "_law_choice", "_law_values", "_law_rule", "_law_is_rule", "_law_bent"]
def loose : List PySem.Str := loose_0
abbrev hR : PySem.W.OpenRow := PySem.W.OpenLaw.row PySem.Challenge.rw_renewedagain_k01_rules_recognized
abbrev hk : PySem.W.Hook := He.hookX 4 hfa hfn [] [] hex
def hob (s : PySem.W.SharedT) : He.AlX := He.obsX 4 hfa hfn [] [] hex (HandSHeadRun.getT s)
theorem hob_eq (s : PySem.W.SharedT) : hob s = hk.obs s.abs := He.obsX_eq (HandSHeadRun.getT_eq s)
theorem hrun (w : World) : HandSHeadRun.RunEq hR (PySem.W.view hR.prog [14]) hk hob 4000 loose w := by
  intro os
  kernel_rfl
theorem hfct {K : PySem.W.Frag} {h : Heap} {mg : Str → Option Value} {w : World} (X : K.In h) (G : h.Ns mainGlobals mg) (c : He.SaysX hfa hfn [] [] hex w h K) : Fct K mg := by
  have ex := c.more
  obtain ⟨e0, ex⟩ := Bool.and_eq_true_iff.mp ex
  exact { glo_is_tuple := He.glo_ok X G (c.t.d.fact 0 rfl), fun_is_tuple := c.t.d.def_ 0 rfl, free_isinstance := He.free_ok X G (c.t.d.fact 1 rfl), free_tuple := He.free_ok X G (c.t.d.fact 2 rfl), free_len := He.free_ok X G (c.t.d.fact 3 rfl), glo_is_part := He.glo_ok X G (c.t.d.fact 4 rfl), fun_is_part := c.t.d.def_ 1 rfl, val_VALUES := valB_ok X G e0, free_bool := He.free_ok X G (c.t.d.fact 5 rfl), free_str := He.free_ok X G (c.t.d.fact 6 rfl), free_int := He.free_ok X G (c.t.d.fact 7 rfl), glo_is_rule := He.glo_ok X G (c.t.d.fact 8 rfl), fun_is_rule := c.t.d.def_ 2 rfl, free_enumerate := He.free_ok X G (c.t.d.fact 9 rfl), free_all := He.free_ok X G (c.t.d.fact 10 rfl), glo_count_rules := He.glo_ok X G (c.t.d.fact 11 rfl), fun_count_rules := c.t.d.def_ 3 rfl, glo_law_source := He.glo_ok X G (c.t.d.fact 12 rfl), fun_law_source := c.t.d.def_ 4 rfl, free_abs := He.free_ok X G (c.t.d.fact 13 rfl), glo_law_draw := He.glo_ok X G (c.t.d.fact 14 rfl), fun_law_draw := c.t.d.def_ 5 rfl, glo_law_choice := He.glo_ok X G (c.t.d.fact 15 rfl), fun_law_choice := c.t.d.def_ 6 rfl, glo_law_values := He.glo_ok X G (c.t.d.fact 16 rfl), fun_law_values := c.t.d.def_ 7 rfl, glo_law_rule := He.glo_ok X G (c.t.d.fact 17 rfl), fun_law_rule := c.t.d.def_ 8 rfl, glo_law_is_rule := He.glo_ok X G (c.t.d.fact 18 rfl), fun_law_is_rule := c.t.d.def_ 9 rfl, free_zip := He.free_ok X G (c.t.d.fact 19 rfl), glo_law_bent := He.glo_ok X G (c.t.d.fact 20 rfl), fun_law_bent := c.t.d.def_ 10 rfl, glo_law := He.glo_ok X G (c.t.d.fact 21 rfl), fun_law := c.t.d.def_ 11 rfl, free_min := He.free_ok X G (c.t.d.fact 22 rfl), free_range := He.free_ok X G (c.t.d.fact 23 rfl), free_list := He.free_ok X G (c.t.d.fact 24 rfl) }
end RL
open PySem PySem.W PySem.Calls PyProof.Rows
theorem law_holds (plain : ∀ ns : List Int, ns.length ≤ 63 → RL.Sat (RL.m_law [.list (ns.map .int)]) (· = .bool true)) : PySem.Challenge.rw_renewedagain_k01_rules_recognized.Holds := by
  w_on; o_law
  refine HandSHeadRun.head_any (r := OpenLaw.row PySem.Challenge.rw_renewedagain_k01_rules_recognized) (q := view (OpenLaw.row PySem.Challenge.rw_renewedagain_k01_rules_recognized).prog [14]) (H := RL.hk) (ob := RL.hob) (M := 4000) (loose := RL.loose) (d := HandSHeadRun.topDef (OpenLaw.row PySem.Challenge.rw_renewedagain_k01_rules_recognized).prog 14) (kwd := []) RL.hob_eq
    (by kernel_rfl) (fun s => by kernel_rfl) RL.hrun (by kernel_rfl) (by kernel_rfl) (by kernel_rfl) (by rfl) (by first | assumption | decide +kernel) (by decide +kernel) ⟨rfl, rfl, rfl, rfl, rfl, by decide +kernel⟩ ?hw ?hc
  case hw => w_witness2
  case hc =>
    refine L2.walk_ofE (l := PySem.Challenge.rw_renewedagain_k01_rules_recognized) (n := 63) (k := 24) (x := "script") (CX := L2.CX0) rfl (by decide) (by kernel_rfl) ⟨rfl, by decide, by decide⟩ ?F (fun _ _ _ _ z => z)
    intro w mg fa h Y G hmg0
    obtain ⟨K, KX, c⟩ := Y
    have hmg : mg ("law" : PySem.Str) = some (.ref fa) := by
      have e : (HandSHeadRun.topDef (OpenLaw.row PySem.Challenge.rw_renewedagain_k01_rules_recognized).prog 14).name = ("law" : PySem.Str) := by kernel_rfl
      rw [← e]
      exact hmg0
    have C := RL.hfct KX G c
    have e := hmg.symm.trans C.glo_law
    cases e
    obtain ⟨fd, F⟩ := C.fun_law
    exact ⟨K, fd, RL.spW K mg 1 RL.m_law, KX, (RL.ok_law (P := (PySem.Challenge.rw_renewedagain_k01_rules_recognized).prog) (w := w) (base := h) C F).1, fun H a ns hl _ hS => RL.law_sp plain H a ns hl hS, fun base _ _ => (RL.ok_law C F).2⟩

namespace RL
open PySem PySem.Spec PyProof.Rows L2
def vals : List (List PyData) := [[.int 1, .int 2, .int 3], [.int 0, .int 1, .int 2, .int 3], [.str "due", .str "today"], [.bool false, .bool true], [.int 0, .int 1, .int 2], [.str "asked", .str "open"], [.int 1, .int 2], [.str "end", .str "out"], [.bool false, .bool true]]
theorem ev_values : m_law_values [] = .ok (.list (vals.map .list)) := by kernel_rfl
theorem ev_count : m_count_rules [] = .ok (.int 2304) := by kernel_rfl
theorem ev_tuple {d : PyData} : m_is_tuple [d, .int 9, .int 9] = .ok (.bool (match d with | .tuple ps => decide (ps.length = 9) | _ => false)) := by
  cases d with
  | tuple ps =>
    simp [m_is_tuple, runD, g_is_tuple, startE, isTy, R.bd_ite, R.to_ite]
    by_cases h : (9 : Int) ≤ ps.length
    · by_cases h2 : (ps.length : Int) ≤ 9
      · have e : ps.length = 9 := by omega
        simp [h, h2, e, R.bd_ite, R.to_ite]
      · have e : ¬ ps.length = 9 := by omega
        simp [h, h2, e]
    · have e : ¬ ps.length = 9 := by omega
      simp [h, e]
  | _ => rfl
def scT (v : PyData) : Bool := [Ty.bool, .int, .str].any fun t => isTy t v
def cP (v one : PyData) : Bool := (isTy .bool one == isTy .bool v) && ((isTy .str one == isTy .str v) && (scT v && PyData.eqv one v))
theorem loop_any {T : Tg} {body : Rho → O} {c : PyData → Bool} {I : Rho → Prop} {r : PyData} {ds : List PyData} (hb : ∀ ρ d, d ∈ ds → I ρ → ∃ xs, T.vals d = some xs ∧ ((c d = true ∧ body (setE ρ T.ix xs) = .rt r) ∨ (c d = false ∧ ∃ ρ', body (setE ρ T.ix xs) = .nx ρ' ∧ I ρ'))) {ρ : Rho} (h0 : I ρ) :
    (ds.any c = true ∧ forD T body ds ρ = .rt r) ∨ (ds.any c = false ∧ ∃ ρ', forD T body ds ρ = .nx ρ' ∧ I ρ') := by
  induction ds generalizing ρ with
  | nil => exact .inr ⟨rfl, ρ, rfl, h0⟩
  | cons d r' ih =>
    unfold forD
    obtain ⟨xs, h1, h2⟩ := hb ρ d List.mem_cons_self h0
    rw [h1, List.any_cons]
    rcases h2 with ⟨h2, h3⟩ | ⟨h2, ρ', h3, h4⟩
    · left
      simp [h2, h3]
    · rw [h2, Bool.false_or]
      show _ ∨ _ ∧ ∃ ρ'', (body (setE ρ T.ix xs)).th _ = _ ∧ _
      simp only [h3, O.th_nx]
      exact ih (fun ρ d hd => hb ρ d (List.mem_cons_of_mem _ hd)) h4
theorem aux_part (b1 b2 b3 b4 : Bool) {x y : O} : ((if b1 = true then R.ok b2 else R.ok false).to fun b => if b = true then (if b3 = true then R.ok b4 else R.ok false).to fun b => if b = true then x else y else y) = if (b1 && (b2 && (b3 && b4))) = true then x else y := by
  cases b1 <;> cases b2 <;> cases b3 <;> cases b4 <;> rfl
theorem ev_part {p : Int} {ones : List PyData} {v : PyData} (hp : idxD v_VALUES (.int p) = some (.tuple ones)) (ho : ∀ o ∈ ones, isS o = true) (hv : isS v = true) : m_is_part [.int p, v] = .ok (.bool (ones.any (cP v))) := by
  have key := loop_any (T := .one 2) (body := sIf (gAnd (gCmp .Eq (gIsi .bool (getV 2)) (gIsi .bool (getV 1))) (gCmp .Eq (gIsi .str (getV 2)) (gIsi .str (getV 1)))) (sIf (gAnd (gTest (gIsiT [.bool, .int, .str] (getV 1))) (gCmp .Eq (getV 2) (getV 1))) (sRet (gK (.bool true))) sNil) sNil)
    (c := cP v) (I := fun ρ => ∃ x, ρ = [.d (.int p), .d v, x]) (r := .bool true) (ds := ones) (fun ρ d hd ⟨x, hx⟩ => ?_) (ρ := [.d (.int p), .d v, .u]) ⟨_, rfl⟩
  · have e : g_is_part (startE N_is_part [.int p, v]) = (forD (.one 2) (sIf (gAnd (gCmp .Eq (gIsi .bool (getV 2)) (gIsi .bool (getV 1))) (gCmp .Eq (gIsi .str (getV 2)) (gIsi .str (getV 1)))) (sIf (gAnd (gTest (gIsiT [.bool, .int, .str] (getV 1))) (gCmp .Eq (getV 2) (getV 1))) (sRet (gK (.bool true))) sNil) sNil) ones [.d (.int p), .d v, .u]).th (sRet (gK (.bool false))) := by
      simp [g_is_part, startE, hp]
    unfold m_is_part runD
    rw [e]
    rcases key with ⟨k1, k2⟩ | ⟨k1, ρ', k2, _⟩
    · rw [k1, k2]; rfl
    · rw [k1, k2]; rfl
  · subst hx
    refine ⟨[d], rfl, ?_⟩
    have hd := ho d hd
    have e : sIf (gAnd (gCmp .Eq (gIsi .bool (getV 2)) (gIsi .bool (getV 1))) (gCmp .Eq (gIsi .str (getV 2)) (gIsi .str (getV 1)))) (sIf (gAnd (gTest (gIsiT [.bool, .int, .str] (getV 1))) (gCmp .Eq (getV 2) (getV 1))) (sRet (gK (.bool true))) sNil) sNil (setE [.d (.int p), .d v, x] (Tg.one 2).ix [d]) = if cP v d = true then .rt (.bool true) else .nx [.d (.int p), .d v, .d d] := by
      simp only [cP, scT, e_sIf, e_gAnd, e_gCmp, e_gIsi, e_gIsiT, e_gTest, e_ix1, e_setE1, e_setE0, List.set_cons_succ, List.set_cons_zero, e_getS, e_get0, R.bd_ok, d_eq, eq_bb, eq_of hd hv, R.of_some, d_asB, R.to_ok, e_sRet, e_gK, e_sNil]
      exact aux_part _ _ _ _
    rw [e]
    cases h1 : cP v d with
    | true => exact .inl ⟨rfl, if_pos rfl⟩
    | false => exact .inr ⟨rfl, _, if_neg Bool.false_ne_true, _, rfl⟩
theorem ev_pn {n : Nat} {ones : List PyData} {v : PyData} (hn : vals[n]? = some ones) (hv : isS v = true) : m_is_part [.int n, v] = .ok (.bool (ones.any (cP v))) := by
  refine ev_part ?_ ?_ hv
  · match n, hn with
    | 0, hn => cases hn; kernel_rfl
    | 1, hn => cases hn; kernel_rfl
    | 2, hn => cases hn; kernel_rfl
    | 3, hn => cases hn; kernel_rfl
    | 4, hn => cases hn; kernel_rfl
    | 5, hn => cases hn; kernel_rfl
    | 6, hn => cases hn; kernel_rfl
    | 7, hn => cases hn; kernel_rfl
    | 8, hn => cases hn; kernel_rfl
    | n + 9, hn => cases hn
  · have key : vals.all (fun l => l.all isS) = true := by decide +kernel
    exact fun o ho => List.all_eq_true.mp (List.all_eq_true.mp key ones (List.mem_of_getElem? hn)) o ho
def ruleL : List (List PyData) → List PyData → Bool
  | [], [] => true
  | o :: os, p :: ps => o.any (cP p) && ruleL os ps
  | _, _ => false
def ruleB : PyData → Bool
  | .tuple ps => ruleL vals ps
  | _ => false
theorem ruleL_len : ∀ {os : List (List PyData)} {ps : List PyData}, ruleL os ps = true → ps.length = os.length
  | [], [], _ => rfl
  | _ :: _, _ :: _, h => by rw [List.length_cons, List.length_cons, ruleL_len (Bool.and_eq_true_iff.mp h).2]
  | [], _ :: _, h => nomatch h
  | _ :: _, [], h => nomatch h
theorem enum_lc {T : Tg} {te : Rho → R PyData} {ρ : Rho} {f : Nat → PyData → PyData} : ∀ {ps : List PyData} {k : Nat}, (∀ i p, ps[i]? = some p → ∃ xs, T.vals (.tuple [.int ((k + i : Nat) : Int), p]) = some xs ∧ te (setE ρ T.ix xs) = .ok (f (k + i) p) ∧ noL (f (k + i) p) = true) → lcD T gYes te ρ (enumL k ps) = .ok (ps.mapIdx fun i p => f (k + i) p)
  | [], _, _ => rfl
  | p :: ps, k, h => by
    obtain ⟨xs, h1, h2, h3⟩ := h 0 p rfl
    have ih := enum_lc (T := T) (te := te) (ρ := ρ) (f := f) (ps := ps) (k := k + 1) fun i q hq => by
      have := h (i + 1) q hq
      rw [show k + 1 + i = k + (i + 1) by omega]
      exact this
    show (match T.vals (.tuple [.int ((k : Nat) : Int), p]) with | none => _ | some xs => _) = _
    rw [show (k : Nat) = k + 0 from rfl, h1]
    simp only [e_gYes, e_calm1, R.bd_ok, if_pos, h2, h3]
    rw [show k + 0 + 1 = k + 1 by omega, ih]
    simp only [R.bd_ok, List.mapIdx_cons]
    congr 4
    funext i q
    congr 1
    omega
theorem nine {α : Type} : ∀ {ps : List α}, ps.length = 9 → ∃ a b c d e f g h i, ps = [a, b, c, d, e, f, g, h, i]
  | [a, b, c, d, e, f, g, h, i], _ => ⟨a, b, c, d, e, f, g, h, i, rfl⟩
theorem okIf {c : Prop} [Decidable c] {α : Type} {a b : α} : (if c then R.ok a else R.ok b) = R.ok (if c then a else b) := by split <;> rfl
theorem ev_rule {d : PyData} (h : ∀ ps, d = .tuple ps → ∀ p ∈ ps, isS p = true) : m_is_rule [d] = .ok (.bool (ruleB d)) := by
  have hF : ∀ b : Bool, m_is_tuple [d, .int 9, .int 9] = .ok (.bool false) → m_is_rule [d] = .ok (.bool false) := fun _ e => by
    simp [m_is_rule, runD, g_is_rule, startE, e]
  by_cases hl : ∃ ps, d = .tuple ps ∧ ps.length = 9
  · obtain ⟨ps, rfl, hl⟩ := hl
    have et : m_is_tuple [.tuple ps, .int 9, .int 9] = .ok (.bool true) := by rw [ev_tuple]; simp [hl]
    have hp := h ps rfl
    have el := enum_lc (T := .many [1, 2]) (te := gCall 2 (gCons (getV 1) (gCons (getV 2) gNil)) m_is_part) (ρ := [.d (.tuple ps), .u, .u]) (f := fun i p => .bool ((vals[i]?.getD []).any (cP p))) (ps := ps) (k := 0) fun i p hip => by
      have hi : i < 9 := by rw [← hl]; exact (List.getElem?_eq_some_iff.mp hip).1
      obtain ⟨ones, hn⟩ : ∃ ones, vals[i]? = some ones := ⟨vals[i]'hi, List.getElem?_eq_getElem hi⟩
      refine ⟨_, by simp; rfl, ?_, rfl⟩
      simp only [Nat.zero_add]
      simp [ev_pn hn (hp p (List.mem_of_getElem? hip)), hn]
    have hsz : (enumL 0 ps).length ≤ sizeLine := by
      rw [enumL_length, hl, sizeLine_eq]; omega
    obtain ⟨a, b, c, dd, e, f, g, hh, i, rfl⟩ := nine hl
    simp only [m_is_rule, runD, g_is_rule, startE, e_sRet, e_gAndV, e_gCall, e_gCons, e_gNil, e_gK, List.map, List.length, List.replicate, e_get0, R.bd_ok, List.cons_append, List.nil_append, et, if_pos, R.of_some, d_asB, e_gBlt, e_gLc, e_iEn, d_asST, Option.map_some, hsz, wipeE, List.set_cons_succ, List.set_cons_zero]
    rw [el]
    rfl
  · have e : ruleB d = false := by
      cases d with
      | tuple ps =>
        cases z : ruleB (.tuple ps) with
        | false => rfl
        | true => exact (hl ⟨ps, rfl, ruleL_len z⟩).elim
      | _ => rfl
    rw [e]
    refine hF true ?_
    rw [ev_tuple]
    cases d with
    | tuple ps =>
      have : ¬ ps.length = 9 := fun z => hl ⟨ps, rfl, z⟩
      simp [this]
    | _ => rfl
/-! the law's own check -/
theorem zip_for {T : Tg} {body : Rho → O} {I : Rho → Prop} {r : PyData} {c : PyData → PyData → Bool} {J : PyData → Prop} (hb : ∀ ρ x y, I ρ → isS x = true → J y → ∃ xs, T.vals (.tuple [x, y]) = some xs ∧ ((c x y = true ∧ ∃ ρ', body (setE ρ T.ix xs) = .nx ρ' ∧ I ρ') ∨ (c x y = false ∧ body (setE ρ T.ix xs) = .rt r))) : ∀ {xs ys : List PyData} {ρ : Rho}, I ρ → (∀ x ∈ xs, isS x = true) → (∀ y ∈ ys, J y) → xs.length = ys.length →
    (((xs.zip ys).all (fun p => c p.1 p.2) = true ∧ ∃ ρ', forD T body (zipL xs ys) ρ = .nx ρ' ∧ I ρ') ∨ ((xs.zip ys).all (fun p => c p.1 p.2) = false ∧ forD T body (zipL xs ys) ρ = .rt r))
  | [], [], ρ, h0, _, _, _ => .inl ⟨rfl, ρ, rfl, h0⟩
  | x :: xs, y :: ys, ρ, h0, hx, hy, hl => by
    obtain ⟨zs, h1, h2⟩ := hb ρ x y h0 (hx x List.mem_cons_self) (hy y List.mem_cons_self)
    show ((((c x y && (xs.zip ys).all (fun p => c p.1 p.2)) = true ∧ ∃ ρ', (match T.vals (.tuple [x, y]) with | none => O.stuck | some zs => (body (setE ρ T.ix zs)).th (forD T body (zipL xs ys))) = .nx ρ' ∧ I ρ') ∨ ((c x y && (xs.zip ys).all (fun p => c p.1 p.2)) = false ∧ (match T.vals (.tuple [x, y]) with | none => O.stuck | some zs => (body (setE ρ T.ix zs)).th (forD T body (zipL xs ys))) = .rt r)))
    rw [h1]
    rcases h2 with ⟨h2, ρ', h3, h4⟩ | ⟨h2, h3⟩
    · rw [h2, Bool.true_and]
      simp only [h3, O.th_nx]
      exact zip_for hb h4 (fun z hz => hx z (List.mem_cons_of_mem _ hz)) (fun z hz => hy z (List.mem_cons_of_mem _ hz)) (by simpa using hl)
    · rw [h2]
      simp [h3, O.th_rt]
/-- what stays of a list -/
theorem filt_lc {T : Tg} {tt : Rho → R Bool} {te : Rho → R PyData} {ρ : Rho} {c : PyData → Bool} : ∀ {ds : List PyData}, (∀ d ∈ ds, ∃ xs, T.vals d = some xs ∧ tt (setE ρ T.ix xs) = .ok (c d) ∧ te (setE ρ T.ix xs) = .ok d ∧ noL d = true) → lcD T tt te ρ ds = .ok (ds.filter c)
  | [], _ => rfl
  | d :: ds, h => by
    obtain ⟨xs, h1, h2, h3, h4⟩ := h d List.mem_cons_self
    have ih := filt_lc (T := T) (tt := tt) (te := te) (ρ := ρ) (c := c) fun e he => h e (List.mem_cons_of_mem _ he)
    unfold lcD
    simp only [h1, h2, h3, h4, e_calm1, R.bd_ok, ih, if_pos, List.filter_cons]
    cases c d <;> rfl
def cQ (v one : PyData) : Bool := PyData.eqv one v && (isTy .bool one == isTy .bool v)
def cL (x y : PyData) : Bool := match y with
  | .list ones => scT x && !(ones.filter (cQ x)).isEmpty
  | _ => false
theorem aux_or (b : Bool) {x : O} : ((R.ok (!b)).to fun b => if b = true then x else .nx []) = if b = true then .nx [] else x := by cases b <;> rfl
theorem ev_lrule {d : PyData} (h : ∀ ps, d = .tuple ps → ∀ p ∈ ps, isS p = true) : m_law_is_rule [d] = .ok (.bool (match d with | .tuple ps => decide (ps.length = 9) && (ps.zip (vals.map .list)).all fun p => cL p.1 p.2 | _ => false)) := by
  by_cases hl : ∃ ps, d = .tuple ps ∧ ps.length = 9
  · obtain ⟨ps, rfl, hl⟩ := hl
    have hp := h ps rfl
    have key := zip_for (T := .many [1, 2]) (body := (sSeq (sIf (gNotT (gTest (gIsiT [.bool, .int, .str] (getV 1)))) (sRet (gK (.bool false))) sNil) (sIf (gCmp .Eq (gLc (.one 3) [3] (iSeq (getV 2)) (gAnd (gCmp .Eq (getV 3) (getV 1)) (gCmp .Eq (gIsi .bool (getV 3)) (gIsi .bool (getV 1)))) (getV 3)) (gLst gNil)) (sRet (gK (.bool false))) sNil)))
      (I := fun ρ => ∃ a b c, ρ = [.d (.tuple ps), a, b, c]) (r := .bool false) (c := cL) (J := fun y => ∃ ones, y = .list ones ∧ ones.length ≤ 9 ∧ ∀ o ∈ ones, isS o = true ∧ noL o = true ∧ flat o = true) (fun ρ x y ⟨a, b, c, hI⟩ hx ⟨ones, hy, hlen, ho⟩ => ?_) (xs := ps) (ys := vals.map .list) (ρ := startE N_law_is_rule [.tuple ps]) ⟨_, _, _, rfl⟩ hp ?_ (by rw [hl]; rfl)
    · have e : g_law_is_rule (startE N_law_is_rule [.tuple ps]) = (forD (.many [1, 2]) (sSeq (sIf (gNotT (gTest (gIsiT [.bool, .int, .str] (getV 1)))) (sRet (gK (.bool false))) sNil) (sIf (gCmp .Eq (gLc (.one 3) [3] (iSeq (getV 2)) (gAnd (gCmp .Eq (getV 3) (getV 1)) (gCmp .Eq (gIsi .bool (getV 3)) (gIsi .bool (getV 1)))) (getV 3)) (gLst gNil)) (sRet (gK (.bool false))) sNil)) (zipL ps (vals.map .list)) (startE N_law_is_rule [.tuple ps])).th (sRet (gK (.bool true))) := by
        simp [g_law_is_rule, startE, hl, isTy, ev_values, zipD]
      unfold m_law_is_rule runD
      rw [e]
      rcases key with ⟨k1, ρ', k2, _⟩ | ⟨k1, k2⟩
      · rw [k2]; simp [hl, k1]
      · rw [k2]; simp [hl, k1]
    · subst hI hy
      refine ⟨_, rfl, ?_⟩
      have hsz : ones.length ≤ sizeLine := by rw [sizeLine_eq]; omega
      have ef := filt_lc (T := .one 3) (tt := gAnd (gCmp .Eq (getV 3) (getV 1)) (gCmp .Eq (gIsi .bool (getV 3)) (gIsi .bool (getV 1)))) (te := getV 3) (ρ := [.d (.tuple ps), .d x, .d (.list ones), .u]) (c := cQ x) (ds := ones) fun d hd => by
        obtain ⟨h1, h2, h3⟩ := ho d hd
        refine ⟨_, rfl, ?_, by simp, h2⟩
        simp [eq_of h1 hx, cQ]
        cases PyData.eqv d x <;> rfl
      have hsf : isS (.list (ones.filter (cQ x))) = true := isS_of (n := 1) (List.all_eq_true.mpr fun o hoo => (ho o (List.mem_filter.mp hoo).1).2.2)
      have e : (sSeq (sIf (gNotT (gTest (gIsiT [.bool, .int, .str] (getV 1)))) (sRet (gK (.bool false))) sNil) (sIf (gCmp .Eq (gLc (.one 3) [3] (iSeq (getV 2)) (gAnd (gCmp .Eq (getV 3) (getV 1)) (gCmp .Eq (gIsi .bool (getV 3)) (gIsi .bool (getV 1)))) (getV 3)) (gLst gNil)) (sRet (gK (.bool false))) sNil)) [.d (.tuple ps), .d x, .d (.list ones), c] = if scT x && !(ones.filter (cQ x)).isEmpty then .nx [.d (.tuple ps), .d x, .d (.list ones), c] else .rt (.bool false) := by
        have e2 : (gLc (.one 3) [3] (iSeq (getV 2)) (gAnd (gCmp .Eq (getV 3) (getV 1)) (gCmp .Eq (gIsi .bool (getV 3)) (gIsi .bool (getV 1)))) (getV 3)) [.d (.tuple ps), .d x, .d (.list ones), c] = .ok (.list (ones.filter (cQ x))) := by
          simp only [e_gLc, e_iSeq, e_getS, e_get0, R.bd_ok, d_asSL, R.of_some, hsz, if_pos, wipeE, List.set_cons_succ, List.set_cons_zero, ef]
        have e3 : PyData.eqv (.list (ones.filter (cQ x))) (.list []) = (ones.filter (cQ x)).isEmpty := by
          cases ones.filter (cQ x) <;> rfl
        have e5 : (sIf (gCmp .Eq (gLc (.one 3) [3] (iSeq (getV 2)) (gAnd (gCmp .Eq (getV 3) (getV 1)) (gCmp .Eq (gIsi .bool (getV 3)) (gIsi .bool (getV 1)))) (getV 3)) (gLst gNil)) (sRet (gK (.bool false))) sNil) [.d (.tuple ps), .d x, .d (.list ones), c] = if (ones.filter (cQ x)).isEmpty = true then .rt (.bool false) else .nx [.d (.tuple ps), .d x, .d (.list ones), c] := by
          simp only [e_sIf, R.bd_ok, R.of_some, R.to_ok, e_gCmp, e2, e_gLst, e_gNil, e_lineNil, d_eq, eq_of hsf isS_nilL, e3, e_sRet, e_gK, e_sNil]
        have e6 : (sIf (gNotT (gTest (gIsiT [.bool, .int, .str] (getV 1)))) (sRet (gK (.bool false))) sNil) [.d (.tuple ps), .d x, .d (.list ones), c] = if scT x = true then .nx [.d (.tuple ps), .d x, .d (.list ones), c] else .rt (.bool false) := by
          show (if (!scT x) = true then O.rt (.bool false) else O.nx [.d (.tuple ps), .d x, .d (.list ones), c]) = _
          cases scT x <;> rfl
        rw [e_sSeq, e6]
        cases scT x with
        | false => rfl
        | true =>
          rw [if_pos rfl, O.th_nx, e5]
          cases (ones.filter (cQ x)).isEmpty <;> rfl
      show (cL x (.list ones) = true ∧ _) ∨ (cL x (.list ones) = false ∧ _)
      have e4 : setE [.d (.tuple ps), a, b, c] (Tg.many [1, 2]).ix [x, .list ones] = [.d (.tuple ps), .d x, .d (.list ones), c] := rfl
      rw [e4, e]
      show ((scT x && !(ones.filter (cQ x)).isEmpty) = true ∧ _) ∨ ((scT x && !(ones.filter (cQ x)).isEmpty) = false ∧ _)
      cases (scT x && !(ones.filter (cQ x)).isEmpty) with
      | true => exact .inl ⟨rfl, _, if_pos rfl, _, _, _, rfl⟩
      | false => exact .inr ⟨rfl, if_neg Bool.false_ne_true⟩
    · intro y hy
      obtain ⟨l, h1, h2⟩ := List.mem_map.mp hy
      subst h2
      have key : vals.all (fun l => decide (l.length ≤ 9) && l.all fun o => isS o && (noL o && flat o)) = true := by decide +kernel
      have k := List.all_eq_true.mp key l h1
      obtain ⟨k1, k2⟩ := Bool.and_eq_true_iff.mp k
      refine ⟨l, rfl, of_decide_eq_true k1, fun o ho => ?_⟩
      have k3 := List.all_eq_true.mp k2 o ho
      simpa [Bool.and_eq_true] using k3
  · cases d with
    | tuple ps =>
      have : ¬ ps.length = 9 := fun z => hl ⟨ps, rfl, z⟩
      have e9 : ¬ (ps.length : Int) = 9 := by omega
      simp [m_law_is_rule, runD, g_law_is_rule, startE, isTy, this, e9]
    | _ => rfl
theorem cP_cQ (v one : PyData) : cP v one = (scT v && cQ v one) := by
  cases one <;> cases v <;> simp [cP, cQ, scT, isTy, PyData.eqv] <;> (try (rename_i a b; cases a <;> cases b <;> rfl))
theorem any_cP (v : PyData) (ones : List PyData) : ones.any (cP v) = (scT v && !(ones.filter (cQ v)).isEmpty) := by
  induction ones with
  | nil => simp
  | cons o r ih =>
    rw [List.any_cons, ih, cP_cQ, List.filter_cons]
    cases scT v <;> cases cQ v o <;> simp
theorem rule_same : ∀ (os : List (List PyData)) (ps : List PyData), ruleL os ps = (decide (ps.length = os.length) && (ps.zip (os.map .list)).all fun p => cL p.1 p.2)
  | [], [] => rfl
  | [], _ :: _ => by simp [ruleL]
  | _ :: _, [] => by simp [ruleL]
  | o :: os, p :: ps => by
    show (o.any (cP p) && ruleL os ps) = _
    rw [rule_same os ps, any_cP, List.map_cons, List.zip_cons_cons, List.all_cons, List.length_cons, List.length_cons]
    show _ = (_ && (((scT p && !(o.filter (cQ p)).isEmpty)) && _))
    have : decide (ps.length + 1 = os.length + 1) = decide (ps.length = os.length) := by simp
    rw [this]
    cases decide (ps.length = os.length) <;> simp
theorem ev_lrule2 {d : PyData} (h : ∀ ps, d = .tuple ps → ∀ p ∈ ps, isS p = true) : m_law_is_rule [d] = .ok (.bool (ruleB d)) := by
  rw [ev_lrule h]
  cases d with
  | tuple ps => show _ = R.ok (PyData.bool (ruleL vals ps)); rw [rule_same]; rfl
  | _ => rfl

/-! draws -/
theorem sat_choice {xs : List PyData} {Q : PyData → Prop} (h0 : xs ≠ []) (hl : xs.length < 1000000) (h : ∀ x ∈ xs, Q x) : Sat (m_law_choice [.list xs]) Q := by
  have hp : 0 < xs.length := List.length_pos_iff.mpr h0
  have e : m_law_choice [.list xs] = .ask xs.length fun i => (R.of (idxD (.list xs) (.int i))) := by
    show (((((R.of (lenD [.list xs])).bd fun x => R.ok [x]).bd fun ds => if ds.length = 1 then m_draw ds else .stuck).bd fun y => R.of (idxD (.list xs) y)).to .rt).done = _
    have e2 : m_draw [.int xs.length] = .ask xs.length fun i => .ok (.int i) := by
      show (if 0 < (xs.length : Int) ∧ (xs.length : Int) < 1073741824 then _ else _) = _
      rw [if_pos ⟨by omega, by omega⟩, Int.toNat_natCast]
    rw [d_lenL]
    simp only [R.of_some, R.bd_ok, List.length_cons, List.length_nil, if_pos, e2, R.bd_ask, R.to_ask, e_done4]
    congr 1
    funext i
    cases idxD (.list xs) (.int i) <;> rfl
  rw [e]
  refine .ask fun i hi => ?_
  have e3 : idxD (.list xs) (.int i) = some xs[i] := by
    show (ixN xs.length i).bind (fun j => xs[j]?) = _
    unfold ixN
    rw [if_pos (by omega), if_pos (by omega)]
    show xs[(i : Int).toNat]? = _
    rw [Int.toNat_natCast, List.getElem?_eq_getElem hi]
  show Sat (R.of (idxD (.list xs) (.int i))) Q
  rw [e3]
  exact .ok (h _ (List.getElem_mem hi))
/-- a rule's parts, drawn -/
def RuleD (d : PyData) : Prop := ∃ ps, d = .tuple ps ∧ Paired (fun l p => p ∈ l) vals ps
theorem sat_rule : Sat (m_law_rule []) RuleD := by
  have h := sat_lc1 (T := .one 1) (te := gCallS 0 1 (gCons (getV 1) gNil) m_law_choice) (ρ := [.s, .u]) (P := fun l p => ∃ xs, l = .list xs ∧ p ∈ xs) (ds := vals.map .list) fun d hd => by
    obtain ⟨l, h1, rfl⟩ := List.mem_map.mp hd
    refine ⟨_, rfl, ?_⟩
    have key : vals.all (fun l => decide (l ≠ [] ∧ l.length < 1000000) && l.all noL) = true := by decide +kernel
    have k := List.all_eq_true.mp key l h1
    obtain ⟨k1, k2⟩ := Bool.and_eq_true_iff.mp k
    have k1 := of_decide_eq_true k1
    show Sat (m_law_choice [.list l]) _
    exact sat_choice k1.1 k1.2 fun x hx => ⟨List.all_eq_true.mp k2 x hx, l, rfl, hx⟩
  have e : m_law_rule [] = ((lcD (.one 1) gYes (gCallS 0 1 (gCons (getV 1) gNil) m_law_choice) [.s, .u] (vals.map .list)).bd fun ys => .ok (.tuple ys)) := by
    have hz : (vals.map PyData.list).length ≤ sizeLine := by rw [sizeLine_eq]; decide
    show ((((((m_law_values []).bd fun x => R.of (asSeq x)).bd fun ds => if ds.length ≤ sizeLine then (lcD (.one 1) gYes (gCallS 0 1 (gCons (getV 1) gNil) m_law_choice) [.s, .u] ds).bd fun ys => .ok (.list ys) else .stuck).bd fun x => R.ok [x]).bd fun xs => R.of (tupleD xs)).to .rt).done = _
    rw [ev_values]
    simp only [R.bd_ok, d_asSL, R.of_some, if_pos hz, R.bd_bd, d_tupL]
    generalize lcD _ _ _ _ _ = m
    induction m with
    | ok a => rfl
    | exc n => rfl
    | stuck => rfl
    | ask n k ih => exact congrArg (R.ask n) (funext ih)
  rw [e]
  refine Sat.bd (h.imp fun ys hy => .ok ⟨ys, rfl, ?_⟩)
  have key : ∀ {os : List (List PyData)} {ys : List PyData}, Paired (fun l p => ∃ xs, l = PyData.list xs ∧ p ∈ xs) (os.map PyData.list) ys → Paired (fun l p => p ∈ l) os ys := by
    intro os
    induction os with
    | nil => intro ys h; cases h; exact .nil
    | cons o r ih =>
      intro ys h
      cases h with
      | cons a b =>
        obtain ⟨xs, e, hx⟩ := a
        cases e
        exact .cons hx (ih b)
  exact key hy

/-! data of a small depth -/
def Bd (m : Nat) : Nat → PyData → Prop
  | 0, d => flat d = true ∨ d = .list []
  | n + 1, d => flat d = true ∨ d = .list [] ∨ ∃ ps, d = .tuple ps ∧ ps.length ≤ m ∧ ∀ p ∈ ps, Bd m n p
theorem Bd.flat {m n : Nat} {d : PyData} (h : flat d = true) : Bd m n d := by
  cases n with
  | zero => exact .inl h
  | succ n => exact .inl h
theorem Bd.mono : ∀ {n n' m m' : Nat} {d : PyData}, n ≤ n' → m ≤ m' → Bd m n d → Bd m' n' d
  | 0, 0, _, _, _, _, _, h => h
  | 0, n' + 1, _, _, _, _, _, h => by
    rcases h with h | h
    · exact .inl h
    · exact .inr (.inl h)
  | n + 1, n' + 1, m, m', d, hn, hm, h => by
    rcases h with h | h | ⟨ps, h1, h2, h3⟩
    · exact .inl h
    · exact .inr (.inl h)
    · exact .inr (.inr ⟨ps, h1, by omega, fun p hp => Bd.mono (by omega) hm (h3 p hp)⟩)
theorem Bd.sh : ∀ {n m : Nat} {d : PyData}, Bd m n d → shN (n + 1) d = true
  | 0, m, d, h => by
    rcases h with h | h
    · exact shN_mono (n := 0) (Nat.zero_le _) h
    · subst h; rfl
  | n + 1, m, d, h => by
    rcases h with h | h | ⟨ps, h1, h2, h3⟩
    · exact shN_mono (n := 0) (Nat.zero_le _) h
    · subst h; rfl
    · subst h1
      exact List.all_eq_true.mpr fun p hp => Bd.sh (h3 p hp)
def someL : List PyData := [.none, .bool true, .bool false, .int 0, .int 1, .int 2, .int 3, .int 4, .int (-1), .str "due", .str "today", .str "asked", .str "open", .str "end", .str "out", .str "", .tuple [], .list [], .tuple [.int 1], .str "Due", .int (10 ^ 30), .tuple [.str "due"], .bool true, .bool false, .int 1, .int 0]
theorem bd_some {m n : Nat} (hm : 1 ≤ m) : ∀ x ∈ someL, Bd m (n + 1) x := by
  have key : someL.all (fun x => flat x || (match x with | .list [] => true | .tuple ps => decide (ps.length ≤ 1) && ps.all flat | _ => false)) = true := by decide +kernel
  intro x hx
  have k := List.all_eq_true.mp key x hx
  rcases Bool.or_eq_true_iff.mp k with k | k
  · exact .inl k
  · cases x with
    | list l => cases l with
      | nil => exact .inr (.inl rfl)
      | cons a r => cases k
    | tuple ps =>
      obtain ⟨k1, k2⟩ := Bool.and_eq_true_iff.mp k
      exact .inr (.inr ⟨ps, rfl, by have := of_decide_eq_true k1; omega, fun p hp => Bd.flat (List.all_eq_true.mp k2 p hp)⟩)
    | _ => cases k
def bentTail : Rho → O := (sSeq (sSet 4 (gLst (gCons (gK .none) (gCons (gK (.bool true)) (gCons (gK (.bool false)) (gCons (gK (.int 0)) (gCons (gK (.int 1)) (gCons (gK (.int 2)) (gCons (gK (.int 3)) (gCons (gK (.int 4)) (gCons (gNeg (gK (.int 1))) (gCons (gK (.str "due")) (gCons (gK (.str "today")) (gCons (gK (.str "asked")) (gCons (gK (.str "open")) (gCons (gK (.str "end")) (gCons (gK (.str "out")) (gCons (gK (.str "")) (gCons (gTup gNil) (gCons (gLst gNil) gNil)))))))))))))))))))) (sRet (gCallS 0 1 (gCons (gBin .Add (getV 4) (gLst (gCons (gTup (gCons (gK (.int 1)) gNil)) (gCons (gK (.str "Due")) (gCons (gBin .Pow (gK (.int 10)) (gK (.int 30))) (gCons (gTup (gCons (gK (.str "due")) gNil)) (gCons (gK (.bool true)) (gCons (gK (.bool false)) (gCons (gK (.int 1)) (gCons (gK (.int 0)) gNil)))))))))) gNil) m_law_choice)))
theorem sat_tail {v w x y : Sl} {m n : Nat} (hm : 1 ≤ m) {N : Rho → Prop} : SatO (bentTail [.s, v, w, x, y]) N (Bd m (n + 1)) := by
  have e : bentTail [.s, v, w, x, y] = (m_law_choice [.list someL]).to .rt := by kernel_rfl
  rw [e]
  exact Sat.to ((sat_choice (by intro h; cases h) (by decide) fun x hx => bd_some (n := n) hm x hx).imp fun _ h => .rt0 h)
theorem sat_bent (f : Nat) : ∀ {m n : Nat} {d : PyData}, n < f → n ≤ 40 → m ≤ 400 → Bd m n d → Sat (m_law_bent f [d]) (Bd (m + 1) (n + 1)) := by
  induction f with
  | zero => intro m n d h; omega
  | succ f ih =>
    intro m n d hf hn hm hd
    show Sat ((g_law_bent (m_law_bent f) [.s, .d d, .u, .u, .u]).done) _
    refine SatO.done ?_
    unfold g_law_bent
    refine SatO.seq_ask (n := 8) (k := fun i => [.s, .d d, .d (.int i), .u, .u]) rfl fun i hi => ?_
    have hS : isS d = true := isS_of (Bd.sh hd) (by omega)
    by_cases hps : ∃ p ps, d = .tuple (p :: ps) ∧ 0 < i
    · obtain ⟨p, ps, rfl, h0⟩ := hps
      have hpos : (0 : Int) < i := by omega
      generalize hq : p :: ps = qs at *
      have hqs : 0 < qs.length := by rw [← hq]; simp
      have hne : PyData.eqv (.tuple qs) (.tuple []) = false := by rw [← hq]; rfl
      have hb : qs.length ≤ m ∧ ∀ p ∈ qs, Bd m (n - 1) p ∧ 0 < n := by
        cases n with
        | zero => rcases hd with h | h <;> cases h
        | succ n =>
          rcases hd with h | h | ⟨ps', h1, h2, h3⟩
          · cases h
          · cases h
          · cases h1
            exact ⟨h2, fun p hp => ⟨h3 p hp, Nat.succ_pos _⟩⟩
      obtain ⟨hlen, hel⟩ := hb
      have hn0 : 0 < n := (hel _ (List.getElem_mem hqs)).2
      have hup : ∀ l : List PyData, (∀ p ∈ l, p ∈ qs) → ∀ p ∈ l, Bd (m + 1) n p := fun l hl p hp => Bd.mono (by omega) (by omega) (hel p (hl p hp)).1
      have mk : ∀ l : List PyData, l.length ≤ m + 1 → (∀ p ∈ l, Bd (m + 1) n p) → Bd (m + 1) (n + 1) (.tuple l) := fun l h1 h2 => .inr (.inr ⟨l, rfl, h1, h2⟩)
      have ec : ∀ g : Rho → O, (sIf (gAnd (gTest (gIsi .tuple (getV 1))) (gAnd (gCmp .NotEq (getV 1) (gTup gNil)) (gCmp .Gt (getV 2) (gK (.int 0))))) g sNil) [.s, .d (.tuple qs), .d (.int i), .u, .u] = g [.s, .d (.tuple qs), .d (.int i), .u, .u] := fun g => by
        simp [isTy, ne_of' hS isS_nilT, hne, h0]
      refine SatO.seq ?_
      rw [ec]
      have ed : (sSet 3 (gCallS 0 1 (gCons (gBlt lenD (gCons (getV 1) gNil)) gNil) m_law_draw)) [.s, .d (.tuple qs), .d (.int i), .u, .u] = .ask qs.length fun j => .nx [.s, .d (.tuple qs), .d (.int i), .d (.int j), .u] := by
        show (m_draw [.int qs.length]).to _ = _
        have e2 : m_draw [.int qs.length] = .ask qs.length fun i => .ok (.int i) := by
          show (if 0 < (qs.length : Int) ∧ (qs.length : Int) < 1073741824 then _ else _) = _
          rw [if_pos ⟨by omega, by omega⟩, Int.toNat_natCast]
        rw [e2]
        rfl
      refine SatO.seq_ask (k := fun j => [.s, .d (.tuple qs), .d (.int i), .d (.int j), .u]) ed fun j hj => ?_
      have l1 : (qs.take j ++ qs.drop (j + 1)).length ≤ m + 1 := by simp only [List.length_append, List.length_take, List.length_drop]; omega
      have l2 : (qs.take (j + 1) ++ qs.drop j).length ≤ m + 1 := by simp only [List.length_append, List.length_take, List.length_drop]; omega
      have a1 : ∀ k k', (qs.take k).length + (qs.drop k').length ≤ 1000 := fun k k' => by simp only [List.length_take, List.length_drop]; omega
      by_cases h1 : i = 1
      · subst h1
        have e : sSeq (sIf (gCmp .Eq (getV 2) (gK (.int 1))) (sRet (gBin .Add (gSl (getV 1) gON (gOS (getV 3))) (gSl (getV 1) (gOS (gBin .Add (getV 3) (gK (.int 1)))) gON))) sNil) (sSeq (sIf (gCmp .Eq (getV 2) (gK (.int 2))) (sRet (gBin .Add (gSl (getV 1) gON (gOS (gBin .Add (getV 3) (gK (.int 1))))) (gSl (getV 1) (gOS (getV 3)) gON))) sNil) (sRet (gBin .Add (gBin .Add (gSl (getV 1) gON (gOS (getV 3))) (gTup (gCons (gCallS 0 1 (gCons (gIx (getV 1) (getV 3)) gNil) (m_law_bent f)) gNil))) (gSl (getV 1) (gOS (gBin .Add (getV 3) (gK (.int 1)))) gON)))) [.s, .d (.tuple qs), .d (.int (1 : Nat)), .d (.int j), .u] = .rt (.tuple (qs.take j ++ qs.drop (j + 1))) := by
          simp [d_takeT, d_dropT1, d_addT (a1 _ _)]
        rw [e]
        refine .rt0 (mk _ l1 (hup _ fun p hp => ?_))
        rcases List.mem_append.mp hp with h | h
        · exact List.mem_of_mem_take h
        · exact List.mem_of_mem_drop h
      · by_cases h2 : i = 2
        · subst h2
          have e : sSeq (sIf (gCmp .Eq (getV 2) (gK (.int 1))) (sRet (gBin .Add (gSl (getV 1) gON (gOS (getV 3))) (gSl (getV 1) (gOS (gBin .Add (getV 3) (gK (.int 1)))) gON))) sNil) (sSeq (sIf (gCmp .Eq (getV 2) (gK (.int 2))) (sRet (gBin .Add (gSl (getV 1) gON (gOS (gBin .Add (getV 3) (gK (.int 1))))) (gSl (getV 1) (gOS (getV 3)) gON))) sNil) (sRet (gBin .Add (gBin .Add (gSl (getV 1) gON (gOS (getV 3))) (gTup (gCons (gCallS 0 1 (gCons (gIx (getV 1) (getV 3)) gNil) (m_law_bent f)) gNil))) (gSl (getV 1) (gOS (gBin .Add (getV 3) (gK (.int 1)))) gON)))) [.s, .d (.tuple qs), .d (.int (2 : Nat)), .d (.int j), .u] = .rt (.tuple (qs.take (j + 1) ++ qs.drop j)) := by
            simp [d_takeT1, d_dropT, d_addT (a1 _ _)]
          rw [e]
          refine .rt0 (mk _ l2 (hup _ fun p hp => ?_))
          rcases List.mem_append.mp hp with h | h
          · exact List.mem_of_mem_take h
          · exact List.mem_of_mem_drop h
        · have e : sSeq (sIf (gCmp .Eq (getV 2) (gK (.int 1))) (sRet (gBin .Add (gSl (getV 1) gON (gOS (getV 3))) (gSl (getV 1) (gOS (gBin .Add (getV 3) (gK (.int 1)))) gON))) sNil) (sSeq (sIf (gCmp .Eq (getV 2) (gK (.int 2))) (sRet (gBin .Add (gSl (getV 1) gON (gOS (gBin .Add (getV 3) (gK (.int 1))))) (gSl (getV 1) (gOS (getV 3)) gON))) sNil) (sRet (gBin .Add (gBin .Add (gSl (getV 1) gON (gOS (getV 3))) (gTup (gCons (gCallS 0 1 (gCons (gIx (getV 1) (getV 3)) gNil) (m_law_bent f)) gNil))) (gSl (getV 1) (gOS (gBin .Add (getV 3) (gK (.int 1)))) gON)))) [.s, .d (.tuple qs), .d (.int i), .d (.int j), .u] = ((m_law_bent f [qs[j]]).bd fun y => .ok (.tuple (qs.take j ++ [y] ++ qs.drop (j + 1)))).to .rt := by
            have i1 : ¬ (i : Int) = 1 := by omega
            have i2 : ¬ (i : Int) = 2 := by omega
            have z : gCallS 0 1 (gCons (gIx (getV 1) (getV 3)) gNil) (m_law_bent f) [.s, .d (.tuple qs), .d (.int i), .d (.int j), .u] = m_law_bent f [qs[j]] := by
              show ((R.of (idxD (.tuple qs) (.int j))).bd fun x => R.ok [x]).bd (fun ds => if ds.length = 1 then m_law_bent f ds else .stuck) = _
              rw [d_ixT hj]
              rfl
            have a2 : ∀ y : PyData, addD (.tuple (qs.take j)) (.tuple [y]) = some (.tuple (qs.take j ++ [y])) := fun y => d_addT (by simp only [List.length_take, List.length_cons, List.length_nil]; omega)
            have a3 : ∀ y : PyData, addD (.tuple (qs.take j ++ [y])) (.tuple (qs.drop (j + 1))) = some (.tuple (qs.take j ++ [y] ++ qs.drop (j + 1))) := fun y => d_addT (by simp only [List.length_append, List.length_take, List.length_drop, List.length_cons, List.length_nil]; omega)
            have a4 : ∀ y : PyData, lineOk [y] (R.ok (PyData.tuple [y])) = .ok (.tuple [y]) := fun y => e_line (by simp)
            simp only [e_sSeq, e_sIf, e_gCmp, e_getS, e_get0, e_gK, R.bd_ok, d_eq, eq_ii, R.of_some, R.to_ok, i1, i2, decide_false, Bool.false_eq_true, if_false, e_sNil, O.th_nx, e_sRet, e_gBin, e_gSl, e_gON, e_gOS, d_asI, d_takeT, e_gTup, e_gCons, e_gNil, z, R.bd_bd, d_add, d_addI, d_dropT1, a2, a3, a4]
          rw [e]
          refine Sat.to (Sat.bd ((ih (m := m) (n := n - 1) (by omega) (by omega) hm (hel _ (List.getElem_mem hj)).1).imp fun y hy => .ok (SatO.rt0 ?_)))
          refine mk _ (by simp only [List.length_append, List.length_take, List.length_drop, List.length_cons, List.length_nil]; omega) fun p hp => ?_
          rcases List.mem_append.mp hp with h | h
          · rcases List.mem_append.mp h with h | h
            · exact hup _ (fun p hp => List.mem_of_mem_take hp) p h
            · rcases List.mem_cons.mp h with rfl | h
              · exact Bd.mono (by omega) (Nat.le_refl _) hy
              · cases h
          · exact hup _ (fun p hp => List.mem_of_mem_drop hp) p h
    · have ec : ∀ g : Rho → O, (sIf (gAnd (gTest (gIsi .tuple (getV 1))) (gAnd (gCmp .NotEq (getV 1) (gTup gNil)) (gCmp .Gt (getV 2) (gK (.int 0))))) g sNil) [.s, .d d, .d (.int i), .u, .u] = .nx [.s, .d d, .d (.int i), .u, .u] := fun g => by
        cases d with
        | tuple qs =>
          cases qs with
          | nil =>
            have hne : PyData.eqv (.tuple []) (.tuple []) = true := rfl
            simp [isTy, ne_of' hS isS_nilT, hne]
          | cons p ps =>
            have h0 : ¬ 0 < i := fun h => hps ⟨p, ps, rfl, h⟩
            have hne : PyData.eqv (.tuple (p :: ps)) (.tuple []) = false := rfl
            have h3 : ¬ (0 : Int) < i := by omega
            simp [isTy, ne_of' hS isS_nilT, hne, h3, h0]
        | _ => rfl
      exact SatO.seq_nx (ec _) (sat_tail (v := .d d) (w := .d (.int i)) (x := .u) (y := .u) (m := m + 1) (n := n) (Nat.le_add_left 1 m))
end RL

namespace RL
open PySem PySem.Spec PyProof.Rows L2
/-! the law -/
theorem RuleD.parts {d : PyData} (h : RuleD d) : ∃ a b c b3 e f g hh i, d = .tuple [a, b, c, .bool b3, e, f, g, hh, i] ∧ ∀ p ∈ [a, b, c, PyData.bool b3, e, f, g, hh, i], flat p = true := by
  obtain ⟨ps, rfl, h⟩ := h
  have key : vals.all (fun l => l.all flat) = true := by decide +kernel
  have fl : ∀ l ∈ vals, ∀ p ∈ l, flat p = true := fun l hl p hp => List.all_eq_true.mp (List.all_eq_true.mp key l hl) p hp
  cases h with | cons h0 h => cases h with | cons h1 h => cases h with | cons h2 h => cases h with | cons h3 h => cases h with | cons h4 h => cases h with | cons h5 h => cases h with | cons h6 h => cases h with | cons h7 h => cases h with | cons h8 h =>
    cases h
    rename_i a b c dd e f g hh i
    obtain ⟨b3, rfl⟩ : ∃ b3, dd = .bool b3 := by
      rcases List.mem_cons.mp h3 with h | h
      · exact ⟨_, h⟩
      · rcases List.mem_cons.mp h with h | h
        · exact ⟨_, h⟩
        · cases h
    refine ⟨a, b, c, b3, e, f, g, hh, i, rfl, ?_⟩
    intro p hp
    simp only [List.mem_cons, List.not_mem_nil, or_false] at hp
    rcases hp with rfl | rfl | rfl | rfl | rfl | rfl | rfl | rfl | rfl
    · exact fl _ (by simp [vals]) _ h0
    · exact fl _ (List.mem_of_getElem? (i := 1) rfl) _ h1
    · exact fl _ (List.mem_of_getElem? (i := 2) rfl) _ h2
    · rfl
    · exact fl _ (List.mem_of_getElem? (i := 4) rfl) _ h4
    · exact fl _ (List.mem_of_getElem? (i := 5) rfl) _ h5
    · exact fl _ (List.mem_of_getElem? (i := 6) rfl) _ h6
    · exact fl _ (List.mem_of_getElem? (i := 7) rfl) _ h7
    · exact fl _ (List.mem_of_getElem? (i := 8) rfl) _ h8
theorem isS_flat {d : PyData} (h : flat d = true) : isS d = true := isS_of (n := 0) h
theorem Bd.ok {m n : Nat} {d : PyData} (h : Bd m n d) (hn : n ≤ 60) : ∀ ps, d = .tuple ps → ∀ p ∈ ps, isS p = true := fun ps e p hp => by
  subst e
  have h2 := h.sh
  exact isS_of (n := n) (List.all_eq_true.mp (show ps.all (shN n) = true from h2) p hp) (by omega)
def bodyTurn : Rho → O := (sSeq (sSet 6 (gCall 1 (gCons (getV 4) gNil) m_is_rule)) (sSeq (sIf (gOr (gNotT (gTest (gIsi .bool (getV 6)))) (gCmp .NotEq (getV 6) (gCall 1 (gCons (getV 4) gNil) m_law_is_rule))) (sRet (gK (.bool false))) sNil) (sSet 4 (gCallS 2 1 (gCons (gIf (gCmp .Eq (gBin .Mod (getV 5) (gK (.int 3))) (gK (.int 0))) (getV 3) (getV 4)) gNil) (m_law_bent 20)))))
theorem sat_turn {S : PyData} {x1 x6 x7 x8 x9 : Sl} {rule one : PyData} {i : Nat} {Q : PyData → Prop} (hi : i < 15) (hr : Bd 9 1 rule) (ho : Bd (9 + i) (1 + i) one) :
    SatO (bodyTurn [.d S, x1, .s, .d rule, .d one, .d (.int i), x6, x7, x8, x9]) (fun ρ => ∃ x6 one', Bd (9 + (i + 1)) (1 + (i + 1)) one' ∧ ρ = [.d S, x1, .s, .d rule, .d one', .d (.int i), x6, x7, x8, x9]) Q := by
  have hok := ho.ok (by omega)
  refine SatO.seq_nx (ρ' := [.d S, x1, .s, .d rule, .d one, .d (.int i), .d (.bool (ruleB one)), x7, x8, x9]) ?_ ?_
  · show (m_is_rule [one]).to _ = _
    rw [ev_rule hok]
    rfl
  refine SatO.seq_nx (ρ' := [.d S, x1, .s, .d rule, .d one, .d (.int i), .d (.bool (ruleB one)), x7, x8, x9]) ?_ ?_
  · simp [isTy, ev_lrule2 hok]
  have e : gCallS 2 1 (gCons (gIf (gCmp .Eq (gBin .Mod (getV 5) (gK (.int 3))) (gK (.int 0))) (getV 3) (getV 4)) gNil) (m_law_bent 20) [.d S, x1, .s, .d rule, .d one, .d (.int i), .d (.bool (ruleB one)), x7, x8, x9] = m_law_bent 20 [if (i : Int) % 3 = 0 then rule else one] := by
    have em : modD (.int i) (.int 3) = some (.int (i % 3)) := rfl
    show (gCons (gIf (gCmp .Eq (gBin .Mod (getV 5) (gK (.int 3))) (gK (.int 0))) (getV 3) (getV 4)) gNil _).bd (fun ds => if ds.length = 1 then m_law_bent 20 ds else .stuck) = _
    by_cases hz : (i : Int) % 3 = 0
    · simp [em, hz]
    · simp [em, hz]
  refine SatO.set ?_
  rw [e]
  refine (sat_bent 20 (m := 9 + i) (n := 1 + i) (by omega) (by omega) (by omega) ?_).imp fun d hd => ?_
  · split
    · exact Bd.mono (by omega) (by omega) hr
    · exact ho
  · exact ⟨_, d, Bd.mono (by omega) (by omega) hd, rfl⟩

def condB : Rho → R Bool := (gOr (gTest (gBB (fun i j => !decide (i = j)) (gCall 1 (gCons (gBlt listD (gCons (getV 3) gNil)) gNil) m_is_rule) (gK (.bool false)))) (gTest (gBB (fun i j => !decide (i = j)) (gCall 1 (gCons (gBin .Add (gBin .Add (gSl (getV 3) gON (gOS (gK (.int 3)))) (gTup (gCons (gBlt intD (gCons (gIx (getV 3) (gK (.int 3))) gNil)) gNil))) (gSl (getV 3) (gOS (gK (.int 4))) gON)) gNil) m_is_rule) (gK (.bool false)))))
theorem ev_condB {rule : PyData} {ρ : Rho} (hr : RuleD rule) (hρ : ρ[3]? = some (.d rule)) : condB ρ = .ok false := by
  obtain ⟨a, b, c, b3, e, f, g, hh, i, rfl, hfl⟩ := hr.parts
  have g3 : getV 3 ρ = .ok (.tuple [a, b, c, .bool b3, e, f, g, hh, i]) := e_get hρ
  have e1 : m_is_rule [.list [a, b, c, .bool b3, e, f, g, hh, i]] = .ok (.bool false) := by
    rw [ev_rule (fun ps h => by cases h)]
    rfl
  have e2 : ∀ k : Int, m_is_rule [.tuple [a, b, c, .int k, e, f, g, hh, i]] = .ok (.bool false) := fun k => by
    rw [ev_rule (fun ps h p hp => by
      cases h
      have hp' : p ∈ [a, b, c, PyData.bool b3, e, f, g, hh, i] ∨ p = .int k := by
        simp only [List.mem_cons, List.not_mem_nil, or_false] at hp ⊢
        rcases hp with rfl | rfl | rfl | rfl | rfl | rfl | rfl | rfl | rfl <;> simp
      rcases hp' with h | rfl
      · exact isS_flat (hfl p h)
      · simp)]
    have : ([PyData.bool false, .bool true] : List PyData).any (cP (.int k)) = false := by simp [cP, isTy]
    show R.ok (PyData.bool (_ && (_ && (_ && (([PyData.bool false, .bool true] : List PyData).any (cP (.int k)) && _))))) = _
    rw [this]
    simp
  have e3 : intD [.bool b3] = some (.int (if b3 then 1 else 0)) := rfl
  have e4 : sliceD none (some 3) (.tuple [a, b, c, .bool b3, e, f, g, hh, i]) = some (.tuple [a, b, c]) := d_takeT (j := 3)
  have e5 : sliceD (some 4) none (.tuple [a, b, c, .bool b3, e, f, g, hh, i]) = some (.tuple [e, f, g, hh, i]) := d_dropT (j := 4)
  have e6 : idxD (.tuple [a, b, c, .bool b3, e, f, g, hh, i]) (.int 3) = some (.bool b3) := rfl
  have e7 : listD [.tuple [a, b, c, .bool b3, e, f, g, hh, i]] = some (.list [a, b, c, .bool b3, e, f, g, hh, i]) := rfl
  have a1 : ∀ k : Int, addD (.tuple [a, b, c]) (.tuple [.int k]) = some (.tuple [a, b, c, .int k]) := fun k => d_addT (by simp)
  have a2 : ∀ k : Int, addD (.tuple [a, b, c, .int k]) (.tuple [e, f, g, hh, i]) = some (.tuple [a, b, c, .int k, e, f, g, hh, i]) := fun k => d_addT (by simp)
  have a4 : ∀ y : PyData, lineOk [y] (R.ok (PyData.tuple [y])) = .ok (.tuple [y]) := fun y => e_line (by simp)
  simp [condB, g3, e1, e2, e3, e4, e5, e6, e7, a1, a2, a4, bbD]
def bodyVal : Rho → O := (sSeq (sSet 9 (gBin .Add (gBin .Add (gSl (getV 3) gON (gOS (getV 7))) (gTup (gCons (getV 8) gNil))) (gSl (getV 3) (gOS (gBin .Add (getV 7) (gK (.int 1)))) gON))) (sIf (gCmp .NotEq (gCall 1 (gCons (getV 9) gNil) m_is_rule) (gCall 1 (gCons (getV 9) gNil) m_law_is_rule)) (sRet (gK (.bool false))) sNil))
theorem ev_bodyVal {x0 x1 x2 x4 x5 x6 x9 : Sl} {rule v : PyData} {j : Nat} (hr : RuleD rule) (hv : isS v = true) : ∃ x9', bodyVal [x0, x1, x2, .d rule, x4, x5, x6, .d (.int j), .d v, x9] = .nx [x0, x1, x2, .d rule, x4, x5, x6, .d (.int j), .d v, x9'] := by
  obtain ⟨a, b, c, b3, e, f, g, hh, i, rfl, hfl⟩ := hr.parts
  generalize hps : [a, b, c, PyData.bool b3, e, f, g, hh, i] = ps at hfl
  have hl : ps.length = 9 := by rw [← hps]; rfl
  have hok : ∀ qs, PyData.tuple (ps.take j ++ [v] ++ ps.drop (j + 1)) = .tuple qs → ∀ p ∈ qs, isS p = true := fun qs h p hp => by
    cases h
    rcases List.mem_append.mp hp with h | h
    · rcases List.mem_append.mp h with h | h
      · exact isS_flat (hfl p (List.mem_of_mem_take h))
      · rcases List.mem_cons.mp h with rfl | h
        · exact hv
        · cases h
    · exact isS_flat (hfl p (List.mem_of_mem_drop h))
  have a2 : addD (.tuple (ps.take j)) (.tuple [v]) = some (.tuple (ps.take j ++ [v])) := d_addT (by simp only [List.length_take, List.length_cons, List.length_nil]; omega)
  have a3 : addD (.tuple (ps.take j ++ [v])) (.tuple (ps.drop (j + 1))) = some (.tuple (ps.take j ++ [v] ++ ps.drop (j + 1))) := d_addT (by simp only [List.length_append, List.length_take, List.length_drop, List.length_cons, List.length_nil]; omega)
  have a4 : lineOk [v] (R.ok (PyData.tuple [v])) = .ok (.tuple [v]) := e_line (by simp)
  refine ⟨.d (.tuple (ps.take j ++ [v] ++ ps.drop (j + 1))), ?_⟩
  have e1 : (sSet 9 (gBin .Add (gBin .Add (gSl (getV 3) gON (gOS (getV 7))) (gTup (gCons (getV 8) gNil))) (gSl (getV 3) (gOS (gBin .Add (getV 7) (gK (.int 1)))) gON))) [x0, x1, x2, .d (.tuple ps), x4, x5, x6, .d (.int j), .d v, x9] = .nx [x0, x1, x2, .d (.tuple ps), x4, x5, x6, .d (.int j), .d v, .d (.tuple (ps.take j ++ [v] ++ ps.drop (j + 1)))] := by
    simp only [e_sSet, e_gBin, e_gSl, e_gON, e_gOS, e_getS, e_get0, R.bd_ok, d_asI, R.of_some, d_takeT, e_gTup, e_gCons, e_gNil, a4, d_add, a2, e_gK, d_addI, d_dropT1, a3, R.to_ok, List.set_cons_succ, List.set_cons_zero]
  unfold bodyVal
  rw [e_sSeq, e1, O.th_nx]
  simp only [e_sIf, e_gCmp, e_gCall, e_gCons, e_gNil, e_getS, e_get0, R.bd_ok, List.length_cons, List.length_nil, if_pos, ev_rule hok, ev_lrule2 hok, d_ne, ne_bb, R.of_some, R.to_ok, BEq.rfl, Bool.not_true, Bool.false_eq_true, if_false, e_sNil]
def moreV : List PyData := [.bool true, .bool false, .int 0, .int 1, .int 2, .int 3, .int 4, .str "due", .none]
def bodyCell : Rho → O := (sSeq (sSrc 2 (gCons (getV 0) (gCons (getV 1) gNil))) (sSeq (sSet 3 (gCallS 2 0 gNil m_law_rule)) (sSeq (sSet 4 (getV 3)) (sSeq (sFor (.one 5) (iR1 (gK (.int 15))) bodyTurn) (sSeq (sIf condB (sRet (gK (.bool false))) sNil) (sFor (.one 7) (iR1 (gK (.int 9))) (sFor (.one 8) (iSeq (gBin .Add (gIx (gCall0 m_law_values) (getV 7)) (gLst (gCons (gK (.bool true)) (gCons (gK (.bool false)) (gCons (gK (.int 0)) (gCons (gK (.int 1)) (gCons (gK (.int 2)) (gCons (gK (.int 3)) (gCons (gK (.int 4)) (gCons (gK (.str "due")) (gCons (gK .none) gNil)))))))))))) bodyVal)))))))
theorem g_law_eq : g_law = (sSeq (sFor (.one 1) (iR1 (gBin .Add (gK (.int 1)) (gBlt (ints2 minI) (gCons (gBlt lenD (gCons (getV 0) gNil)) (gCons (gK (.int 10)) gNil))))) bodyCell) (sRet (asV (gCmp .Eq (gCall0 m_count_rules) (gK (.int 2304)))))) := rfl
theorem RuleD.bd {d : PyData} (h : RuleD d) : Bd 9 1 d := by
  obtain ⟨a, b, c, b3, e, f, g, hh, i, rfl, hfl⟩ := h.parts
  exact .inr (.inr ⟨_, rfl, Nat.le_refl _, fun p hp => Bd.flat (n := 0) (hfl p hp)⟩)
theorem range_ev {n : Nat} (h : n ≤ 1000) : range1D (.int n) = some (rangeL 0 n) := by
  unfold range1D
  rw [d_asI, Option.bind_some, if_pos (by unfold inR; omega), Int.toNat_natCast]
def Ten (S : PyData) (ρ : Rho) : Prop := ∃ a b c d e f g h i, ρ = [.d S, a, b, c, d, e, f, g, h, i]
theorem sat_cell {ns : List Int} {k : Nat} {Q : PyData → Prop} {b c d e f g h i : Sl} : SatO (bodyCell [.d (.list (ns.map .int)), .d (.int k), b, c, d, e, f, g, h, i]) (Ten (.list (ns.map .int))) Q := by
  refine SatO.seq_nx (ρ' := [.d (.list (ns.map .int)), .d (.int k), .s, c, d, e, f, g, h, i]) ?_ ?_
  · have : srcOk [.list (ns.map PyData.int), .int k] = true := by
      show ((ns.map PyData.int).all isI && decide (0 ≤ (k : Int))) = true
      rw [Bool.and_eq_true]
      refine ⟨List.all_eq_true.mpr fun x hx => ?_, decide_eq_true (by omega)⟩
      obtain ⟨n, _, rfl⟩ := List.mem_map.mp hx
      rfl
    simp [this]
  refine SatO.seq (SatO.set (sat_rule.imp fun rule hr => ?_))
  refine SatO.seq_nx (ρ' := [.d (.list (ns.map .int)), .d (.int k), .s, .d rule, .d rule, e, f, g, h, i]) rfl ?_
  refine SatO.seq (SatO.for (ds := rangeL 0 15) ?_ ((sat_for (fun j ρ => ∃ one x5 x6, Bd (9 + j) (1 + j) one ∧ ρ = [.d (.list (ns.map .int)), .d (.int k), .s, .d rule, .d one, x5, x6, g, h, i]) (fun j dd ρ hj ⟨one, x5, x6, hb, hρ⟩ => ?_) ⟨rule, e, f, hr.bd, rfl⟩).imp (fun ρ ⟨one, x5, x6, hb, hρ⟩ => ?_) fun _ h => h))
  · show R.of (range1D (.int (15 : Nat))) = _
    rw [range_ev (by omega)]; rfl
  · subst hρ
    obtain ⟨h1, rfl⟩ := rangeL_get hj
    refine ⟨_, rfl, ?_⟩
    rw [Int.zero_add]
    exact (sat_turn h1 hr.bd hb).imp (fun ρ ⟨x6, one', hb', e⟩ => ⟨one', _, _, hb', e⟩) fun _ h => h
  subst hρ
  refine SatO.seq_nx (ρ' := [.d (.list (ns.map .int)), .d (.int k), .s, .d rule, .d one, x5, x6, g, h, i]) ?_ ?_
  · rw [e_sIf, ev_condB hr rfl]; rfl
  refine SatO.for (ds := rangeL 0 9) ?_ ((sat_for (fun _ ρ => ∃ x7 x8 x9, ρ = [.d (.list (ns.map .int)), .d (.int k), .s, .d rule, .d one, x5, x6, x7, x8, x9]) (fun j dd ρ hj ⟨x7, x8, x9, hρ⟩ => ?_) ⟨_, _, _, rfl⟩).imp (fun ρ ⟨x7, x8, x9, hρ⟩ => ?_) fun _ h => h)
  · show R.of (range1D (.int (9 : Nat))) = _
    rw [range_ev (by omega)]; rfl
  · subst hρ
    obtain ⟨h1, rfl⟩ := rangeL_get hj
    refine ⟨_, rfl, ?_⟩
    rw [Int.zero_add]
    obtain ⟨ones, hn⟩ : ∃ ones, vals[j]? = some ones := ⟨vals[j]'h1, List.getElem?_eq_getElem h1⟩
    have key : vals.all (fun l => decide (l.length ≤ 9) && l.all isS) = true := by decide +kernel
    obtain ⟨k1, k2⟩ := Bool.and_eq_true_iff.mp (List.all_eq_true.mp key ones (List.mem_of_getElem? hn))
    have k1 := of_decide_eq_true k1
    refine SatO.for (ds := ones ++ moreV) ?_ ((sat_for (fun _ ρ => ∃ x8 x9, ρ = [.d (.list (ns.map .int)), .d (.int k), .s, .d rule, .d one, x5, x6, .d (.int j), x8, x9]) (fun m v ρ hm ⟨x8, x9, hρ⟩ => ?_) ⟨_, _, rfl⟩).imp (fun ρ ⟨x8, x9, hρ⟩ => ⟨_, _, _, hρ⟩) fun _ h => h)
    · have e1 : idxD (.list (vals.map .list)) (.int j) = some (.list ones) := by
        have h2 : j < (vals.map PyData.list).length := h1
        rw [d_ixL h2, List.getElem_map]
        rw [List.getElem?_eq_getElem h1] at hn
        exact congrArg (fun z => some (PyData.list z)) (Option.some.inj hn)
      have e2 : addD (.list ones) (.list moreV) = some (.list (ones ++ moreV)) := d_addL (by show ones.length + 9 ≤ 1000; omega)
      show ((((m_law_values []).bd fun x => (R.ok (.int j)).bd fun y => R.of (idxD x y)).bd fun x => (R.ok (.list moreV)).bd fun y => R.of (addD x y)).bd fun x => R.of (asSeq x)) = _
      rw [ev_values]
      simp only [R.bd_ok, e1, R.of_some, e2, d_asSL]
    · subst hρ
      refine ⟨_, rfl, ?_⟩
      have hv : isS v = true := by
        have k3 : moreV.all isS = true := by decide +kernel
        rcases List.mem_append.mp (List.mem_of_getElem? hm) with h | h
        · exact List.all_eq_true.mp k2 v h
        · exact List.all_eq_true.mp k3 v h
      obtain ⟨x9', e⟩ := ev_bodyVal (x0 := .d (.list (ns.map .int))) (x1 := .d (.int k)) (x2 := .s) (x4 := .d one) (x5 := x5) (x6 := x6) (x9 := x9) (j := j) hr hv
      exact SatO.nx e ⟨_, _, rfl⟩
  · exact ⟨_, _, _, _, _, _, _, _, _, hρ⟩
theorem minI_ev (a : Nat) : (ints2 minI) [.int (a : Int), .int 10] = some (.int ((min a 10 : Nat) : Int)) := by
  simp only [ints2, minI]
  congr 2
  split <;> omega
theorem rg_ev (a : Nat) (h : a ≤ 900) : R.of (range1D (PyData.int (1 + (a : Int)))) = R.ok (rangeL 0 (1 + a)) := by
  rw [show (1 : Int) + (a : Int) = ((1 + a : Nat) : Int) by omega, range_ev (by omega), R.of_some]
theorem plain (ns : List Int) (hn : ns.length ≤ 63) : Sat (m_law [.list (ns.map .int)]) (· = .bool true) := by
  have e0 : startE N_law [.list (ns.map .int)] = [.d (.list (ns.map .int)), .u, .u, .u, .u, .u, .u, .u, .u, .u] := rfl
  unfold m_law runD
  rw [g_law_eq, e0]
  refine SatO.done (SatO.seq (SatO.for (ds := rangeL 0 (1 + min ns.length 10)) ?_ ((sat_for (fun _ ρ => Ten (.list (ns.map .int)) ρ) (fun j dd ρ hj ⟨a, b, c, d, e, f, g, h, i, hρ⟩ => ?_) ⟨_, _, _, _, _, _, _, _, _, rfl⟩).imp (fun ρ _ => ?_) fun _ h => h)))
  · refine iR1_ev ?_ (by omega)
    simp only [e_gBin, e_gK, e_gBlt, e_gCons, e_gNil, e_get0, R.bd_ok, d_lenL, List.length_map, R.of_some, minI_ev, d_add, d_addI]
    rw [show (1 : Int) + ((min ns.length 10 : Nat) : Int) = ((1 + min ns.length 10 : Nat) : Int) by omega]
  · subst hρ
    obtain ⟨h1, rfl⟩ := rangeL_get hj
    refine ⟨_, rfl, ?_⟩
    rw [Int.zero_add]
    exact sat_cell
  · refine SatO.rt (d := .bool true) ?_ rfl
    simp [ev_count]
end RL

open PySem PySem.W PySem.Calls PyProof.Rows
theorem PySem.Challenge.cw_renewedagain_k01_rules_recognized_holds : PySem.Challenge.rw_renewedagain_k01_rules_recognized.Holds :=
  law_holds RL.plain
